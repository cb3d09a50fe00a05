import PyProof.Rows.All
import Wide.All
import OpenK.AllK
import Wide.FinOn
import HandS.ForMost
import HandS.Exc
import HandS.WordsExc
import KE.KDictKeyed
import HandS.HeadHook1
import HandS.TupAny
import HandS.TupMul
import HandS.Deep
import HandS.Flow
import HandS.Star
import HandS.IsInst
import HandS.Zip
import HandS.Property
import HandS.Text
import KE.GoesMore
import KE.GoesZip
import HandS.Strs
import HandS.SetIn
import HandS.HeadHook3
import HandS.OwnEq
import HandS.More
import HandS.Defaults
import HandS.HeadHook4
import HandS.Ends
import HandS.HeadEnd
import HandS.HeadWalk
import HandS.Nested
import HandS.ExcInit
import HandS.ExcSuper
import KE.KExcSuper
import HandS.TryOnly
import HandS.ExcField
import HandS.TryMany
import HandS.ExcOwn
import HandS.RaiseMore
import HandS.Style
import HandS.Dict
import KE.KStateDown
import HandS.Head0
import HandS.Head1
import HandS.Head2
import Wide.Once
import PySem.Challenge.RW_opensigns_k09_sides_kept_and_refused
section
set_option Elab.async false
set_option linter.all false
set_option maxRecDepth 100000
/-! FLA: data without a heap, worlds, what a value stands for. -/
namespace FL
open PySem PySem.Spec PyProof.Rows L2

/-! ### data -/
abbrev S := List Nat
def toS (s : S) : Str := ⟨s.toArray⟩
/-- plain signs, of a length that every operation takes -/
def okS (s : S) : Bool := s.all (fun c => decide (c < 128)) && decide (s.length ≤ sizeLine)
inductive D where
  | non | bl (b : Bool) | int (i : Int) | str (s : S) | tup (xs : List D) | lst (xs : List D)
  | dic (kvs : List (D × D)) | nd (kvs : List (D × D)) | obj (c : S) (fs : List (S × D)) | ref (n : Nat) | scr (ns : List Int)
  deriving Inhabited
inductive Cell where
  | lst (xs : List D) | dic (kvs : List (D × D)) | nd (kvs : List (D × D)) | ins (c : S) (fs : List (S × D)) | dead
  deriving Inhabited
abbrev Store := List Cell
abbrev En := List (Option D)
abbrev Exn := S × List (S × D)
def Cell.live : Cell → Bool
  | .dead => false
  | _ => true
/-- an expression's outcome -/
inductive Res (α : Type) where
  | ok (a : α) (st : Store) | exc (x : Exn) (st : Store) | no
/-- a statement's outcome -/
inductive Fl where
  | nx (e : En) (st : Store) | rt (d : D) (st : Store) | bk (e : En) (st : Store) | ct (e : En) (st : Store) | exc (x : Exn) (e : En) (st : Store) | no
abbrev Me := En → Store → Res D
abbrev Mt := En → Store → Res Bool
abbrev Ma := En → Store → Res (List D)
abbrev Ms := En → Store → Fl
def Res.bind {α β : Type} (r : Res α) (k : α → Store → Res β) : Res β := match r with
  | .ok a st => k a st
  | .exc x st => .exc x st
  | .no => .no
def Res.bindN {α β : Type} (r : Res α) (k : α → Store → Res β) : Res β := match r with
  | .ok a st => k a st
  | _ => .no
def Res.fl (r : Res D) (e : En) (k : D → Store → Fl) : Fl := match r with
  | .ok a st => k a st
  | .exc x st => .exc x e st
  | .no => .no
def Res.flB {α : Type} (r : Res α) (e : En) (k : α → Store → Fl) : Fl := match r with
  | .ok a st => k a st
  | .exc x st => .exc x e st
  | .no => .no
def Fl.bind (r : Fl) (k : En → Store → Fl) : Fl := match r with
  | .nx e st => k e st
  | r => r

/-! ### worlds -/
structure Gc where
  P : Program
  w : World
  K : PySem.W.Frag
structure Wd where
  H : Hp
  cs : List Addr
  st : Store
  rs : List Addr
/-- a is the place of a cell that may change, or kept for another's use -/
def Mu (W : Wd) (a : Addr) : Prop := a ∈ W.rs ∨ ∃ (n : Nat) (c : Cell), W.cs[n]? = some a ∧ W.st[n]? = some c ∧ c.live = true
/-- a key -/
def kD : Key → D
  | .inl i => .int i
  | .inr x => .str x.cps.toList
mutual
/-- data as a dict's nested key -/
def nk : D → Option NestedKey
  | .non => some .none
  | .int i => some (.num i)
  | .str s => some (.text (toS s))
  | .tup xs => (nkL xs).map .tup
  | _ => none
def nkL : List D → Option (List NestedKey)
  | [] => some []
  | x :: xs => match nk x, nkL xs with
    | some k, some ks => some (k :: ks)
    | _, _ => none
end
/-- a dict with nested keys stands at a -/
def RawN (g : Gc) (H : Hp) (a : Addr) (xs : List (NestedKey × Addr × V)) : Prop := (a == sysModules) = false ∧ xs.length ≤ sizeLine ∧
  ∃ (o : Obj) (es : Array DictEntry) (ep : Nat) (ws : List (NestedKey × Addr × Value)), Paired (fun p q => p.1 = q.1 ∧ p.2.1 = q.2.1 ∧ RelV p.2.2 q.2.2) xs ws ∧
    H a = some (.ext fun h => h.get? a = some o) ∧ o.ExactDict ∧ o.data = .dict es ep ∧ es.toList = ws.map (entryOfKey (nestedKind g.P g.w)) ∧ (ws.map (·.1)).Nodup ∧ ∀ x ∈ ws, x.1.depth ≤ 8
/-- written in the top's part -/
def TupK (K : PySem.W.Frag) (a : Addr) (xs : List V) : Prop := ∃ (o : Obj) (its : Array Value) (n : Nat), K.lookup a = some o ∧ o.cls = .type "tuple" ∧ o.data = .seq its n ∧ its.size ≤ sizeLine ∧ Vals xs its.toList
def LstK (K : PySem.W.Frag) (a : Addr) (xs : List V) : Prop := ∃ (o : Obj) (its : Array Value) (n : Nat), K.lookup a = some o ∧ o.cls = .type "list" ∧ o.dict = none ∧ o.data = .seq its n ∧ its.size ≤ sizeLine ∧ Vals xs its.toList
mutual
/-- the value v stands for the data d -/
inductive Den (g : Gc) (W : Wd) : V → D → Prop
  | non : Den g W .non .non
  | bl (b : Bool) : Den g W (.bl b) (.bl b)
  | int (i : Int) : Den g W (.int i) (.int i)
  | str (s : S) : okS s = true → Den g W (.str (toS s)) (.str s)
  | tupH {a : Addr} {vs : List V} {ds : List D} : W.H a = some (.tup vs) → ¬ Mu W a → DenL g W vs ds → Den g W (.ref a) (.tup ds)
  | tupK {a : Addr} {vs : List V} {ds : List D} : TupK g.K a vs → DenL g W vs ds → Den g W (.ref a) (.tup ds)
  | lstH {a : Addr} {vs : List V} {ds : List D} : W.H a = some (.lst vs) → ¬ Mu W a → DenL g W vs ds → Den g W (.ref a) (.lst ds)
  | scr {a : Addr} {o : Obj} {ns : List Int} : W.H a = some (.frz o (.lst (ns.map V.int))) → ¬ Mu W a → Den g W (.ref a) (.scr ns)
  | scrK {a : Addr} {ns : List Int} : LstK g.K a (ns.map V.int) → Den g W (.ref a) (.scr ns)
  | dic {a : Addr} {kv : List (Key × V)} {kvs : List (D × D)} : W.H a = some (.dK kv) → ¬ Mu W a → kvs.map (·.1) = kv.map (fun p => kD p.1) → DenL g W (kv.map (·.2)) (kvs.map (·.2)) → Den g W (.ref a) (.dic kvs)
  | ndic {a : Addr} {xs : List (NestedKey × Addr × V)} {kvs : List (D × D)} : RawN g W.H a xs → ¬ Mu W a → kvs.map (fun p => nk p.1) = xs.map (fun x => some x.1) → DenL g W (xs.map fun x => V.ref x.2.1) (kvs.map (·.1)) → DenL g W (xs.map (·.2.2)) (kvs.map (·.2)) → Den g W (.ref a) (.nd kvs)
  | obj {a dx : Addr} {c : S} {fs : List (Str × V)} {ds : List (S × D)} : W.H a = some (.ins (He.ga g.K (toS c)) dx fs) → ¬ Mu W a → fs.map (·.1) = ds.map (fun p => toS p.1) → DenL g W (fs.map (·.2)) (ds.map (·.2)) → Den g W (.ref a) (.obj c ds)
  | ref {a : Addr} {n : Nat} : W.cs[n]? = some a → Den g W (.ref a) (.ref n)
inductive DenL (g : Gc) (W : Wd) : List V → List D → Prop
  | nil : DenL g W [] []
  | cons {v : V} {d : D} {vs : List V} {ds : List D} : Den g W v d → DenL g W vs ds → DenL g W (v :: vs) (d :: ds)
end
end FL
end
section
set_option Elab.async false
set_option linter.all false
set_option maxRecDepth 100000
/-! FLB: how worlds grow. -/
namespace FL
open PySem PySem.Spec PyProof.Rows L2

/-- frozen things stay, cells keep their places -/
structure ExtW (W W' : Wd) : Prop where
  fz : ∀ a o, W.H a = some o → ¬ Mu W a → W'.H a = some o ∧ ¬ Mu W' a
  cs : ∀ (n : Nat) (a : Addr), W.cs[n]? = some a → W'.cs[n]? = some a
/-- .. and what is kept for others stays as it is -/
structure Ext (W W' : Wd) : Prop extends ExtW W W' where
  rs : W'.rs = W.rs
  rk : ∀ a ∈ W.rs, W'.H a = W.H a
theorem ExtW.refl (W : Wd) : ExtW W W := ⟨fun _ _ h n => ⟨h, n⟩, fun _ _ h => h⟩
theorem ExtW.trans {W W1 W2 : Wd} (a : ExtW W W1) (b : ExtW W1 W2) : ExtW W W2 :=
  ⟨fun c o h n => let ⟨h1, n1⟩ := a.fz c o h n; b.fz c o h1 n1, fun n c h => b.cs n c (a.cs n c h)⟩
theorem Ext.refl (W : Wd) : Ext W W := ⟨.refl W, rfl, fun _ _ => rfl⟩
theorem Ext.trans {W W1 W2 : Wd} (a : Ext W W1) (b : Ext W1 W2) : Ext W W2 :=
  ⟨a.toExtW.trans b.toExtW, b.rs.trans a.rs, fun c h => (b.rk c (by rw [a.rs]; exact h)).trans (a.rk c h)⟩
theorem RawN.mono {g : Gc} {W W' : Wd} (e : ExtW W W') {a : Addr} {xs : List (NestedKey × Addr × V)} (h : RawN g W.H a xs) (n : ¬ Mu W a) : RawN g W'.H a xs ∧ ¬ Mu W' a := by
  obtain ⟨h1, h2, o, es, ep, ws, h3, h4, h5⟩ := h
  obtain ⟨q1, q2⟩ := e.fz _ _ h4 n
  exact ⟨⟨h1, h2, o, es, ep, ws, h3, q1, h5⟩, q2⟩
mutual
theorem Den.monoW {g : Gc} {W W' : Wd} (e : ExtW W W') : ∀ {v : V} {d : D}, Den g W v d → Den g W' v d
  | _, _, .non => .non
  | _, _, .bl b => .bl b
  | _, _, .int i => .int i
  | _, _, .str s h => .str s h
  | _, _, .tupH h n l => .tupH (e.fz _ _ h n).1 (e.fz _ _ h n).2 (l.monoW e)
  | _, _, .tupK h l => .tupK h (l.monoW e)
  | _, _, .lstH h n l => .lstH (e.fz _ _ h n).1 (e.fz _ _ h n).2 (l.monoW e)
  | _, _, .scr h n => .scr (e.fz _ _ h n).1 (e.fz _ _ h n).2
  | _, _, .scrK h => .scrK h
  | _, _, .dic h n k l => .dic (e.fz _ _ h n).1 (e.fz _ _ h n).2 k (l.monoW e)
  | _, _, .ndic h n k l1 l2 => .ndic (RawN.mono e h n).1 (RawN.mono e h n).2 k (l1.monoW e) (l2.monoW e)
  | _, _, .obj h n k l => .obj (e.fz _ _ h n).1 (e.fz _ _ h n).2 k (l.monoW e)
  | _, _, .ref h => .ref (e.cs _ _ h)
theorem DenL.monoW {g : Gc} {W W' : Wd} (e : ExtW W W') : ∀ {vs : List V} {ds : List D}, DenL g W vs ds → DenL g W' vs ds
  | _, _, .nil => .nil
  | _, _, .cons h t => .cons (h.monoW e) (t.monoW e)
end
theorem Den.mono {g : Gc} {W W' : Wd} (e : Ext W W') {v : V} {d : D} (h : Den g W v d) : Den g W' v d := h.monoW e.toExtW
theorem DenL.mono {g : Gc} {W W' : Wd} (e : Ext W W') {vs : List V} {ds : List D} (h : DenL g W vs ds) : DenL g W' vs ds := h.monoW e.toExtW
section
variable {g : Gc} {W : Wd}
theorem DenL.length : ∀ {vs : List V} {ds : List D}, DenL g W vs ds → vs.length = ds.length
  | _, _, .nil => rfl
  | _, _, .cons _ t => congrArg (· + 1) t.length
theorem DenL.append : ∀ {vs ws : List V} {ds es : List D}, DenL g W vs ds → DenL g W ws es → DenL g W (vs ++ ws) (ds ++ es)
  | _, _, _, _, .nil, h => h
  | _, _, _, _, .cons h t, h' => .cons h (t.append h')
theorem DenL.get : ∀ {vs : List V} {ds : List D} {i : Nat} {v : V}, DenL g W vs ds → vs[i]? = some v → ∃ d, ds[i]? = some d ∧ Den g W v d
  | _, _, _, _, .nil, e => by simp at e
  | _, _, 0, _, .cons h _, e => by simp at e; subst e; exact ⟨_, rfl, h⟩
  | _, _, i + 1, _, .cons _ t, e => by
    obtain ⟨d, h1, h2⟩ := DenL.get (i := i) t (by simpa using e)
    exact ⟨d, by simpa using h1, h2⟩
theorem DenL.getD' : ∀ {vs : List V} {ds : List D} {i : Nat} {d : D}, DenL g W vs ds → ds[i]? = some d → ∃ v, vs[i]? = some v ∧ Den g W v d
  | _, _, _, _, .nil, e => by simp at e
  | _, _, 0, _, .cons h _, e => by simp at e; subst e; exact ⟨_, rfl, h⟩
  | _, _, i + 1, _, .cons _ t, e => by
    obtain ⟨d, h1, h2⟩ := DenL.getD' (i := i) t (by simpa using e)
    exact ⟨d, by simpa using h1, h2⟩
theorem DenL.take (n : Nat) : ∀ {vs : List V} {ds : List D}, DenL g W vs ds → DenL g W (vs.take n) (ds.take n) := by
  induction n with
  | zero => intro vs ds _; exact .nil
  | succ n ih => intro vs ds h; cases h with
    | nil => exact .nil
    | cons h t => exact .cons h (ih t)
theorem DenL.drop (n : Nat) : ∀ {vs : List V} {ds : List D}, DenL g W vs ds → DenL g W (vs.drop n) (ds.drop n) := by
  induction n with
  | zero => intro vs ds h; exact h
  | succ n ih => intro vs ds h; cases h with
    | nil => exact .nil
    | cons h t => exact ih t
theorem DenL.set {v : V} {d : D} (h : Den g W v d) : ∀ {vs : List V} {ds : List D} (i : Nat), DenL g W vs ds → DenL g W (vs.set i v) (ds.set i d)
  | _, _, _, .nil => .nil
  | _, _, 0, .cons _ t => .cons h t
  | _, _, i + 1, .cons h' t => .cons h' (t.set h i)
end

theorem nodup_inj {α : Type} {l : List α} (hl : l.Nodup) {i j : Nat} {x : α} (a : l[i]? = some x) (b : l[j]? = some x) : i = j := by
  obtain ⟨hi, e1⟩ := List.getElem?_eq_some_iff.mp a
  obtain ⟨hj, e2⟩ := List.getElem?_eq_some_iff.mp b
  have h := List.pairwise_iff_getElem.mp hl
  rcases Nat.lt_trichotomy i j with q | q | q
  · exact absurd (e1.trans e2.symm) (h i j hi hj q)
  · exact q
  · exact absurd (e2.trans e1.symm) (h j i hj hi q)
/-! ### cells -/
def CellOk (g : Gc) (W : Wd) (a : Addr) : Cell → Prop
  | .lst ds => ∃ vs, W.H a = some (.lst vs) ∧ DenL g W vs ds
  | .dic kvs => ∃ kv : List (Key × V), W.H a = some (.dK kv) ∧ kvs.map (·.1) = kv.map (fun p => kD p.1) ∧ DenL g W (kv.map (·.2)) (kvs.map (·.2))
  | .nd kvs => ∃ xs : List (NestedKey × Addr × V), RawN g W.H a xs ∧ kvs.map (fun p => nk p.1) = xs.map (fun x => some x.1) ∧ DenL g W (xs.map fun x => V.ref x.2.1) (kvs.map (·.1)) ∧ DenL g W (xs.map (·.2.2)) (kvs.map (·.2))
  | .ins c ds => ∃ (dx : Addr) (fs : List (Str × V)), W.H a = some (.ins (He.ga g.K (toS c)) dx fs) ∧ fs.map (·.1) = ds.map (fun p => toS p.1) ∧ DenL g W (fs.map (·.2)) (ds.map (·.2))
  | .dead => True
structure SR (g : Gc) (W : Wd) : Prop where
  len : W.cs.length = W.st.length
  nd : W.cs.Nodup
  ex : ∀ a ∈ W.cs, ∃ o, W.H a = some o
  rx : ∀ a ∈ W.rs, (∃ o, W.H a = some o ∧ ∀ xs, o ≠ .tup xs) ∧ a ∉ W.cs
  cell : ∀ (n : Nat) (a : Addr) (c : Cell), W.cs[n]? = some a → W.st[n]? = some c → CellOk g W a c
theorem CellOk.mono {g : Gc} {W W' : Wd} (e : ExtW W W') {a : Addr} {c : Cell} (h : CellOk g W a c) (hH : c.live = true → W'.H a = W.H a) : CellOk g W' a c := by
  cases c with
  | lst ds => obtain ⟨vs, h1, h2⟩ := h; exact ⟨vs, (hH rfl).trans h1, h2.monoW e⟩
  | dic kvs => obtain ⟨kv, h1, h2, h3⟩ := h; exact ⟨kv, (hH rfl).trans h1, h2, h3.monoW e⟩
  | nd kvs => obtain ⟨xs, ⟨q1, q2, o, es, ep, ws, q3, q4, q5⟩, h2, h3, h4⟩ := h; exact ⟨xs, ⟨q1, q2, o, es, ep, ws, q3, (hH rfl).trans q4, q5⟩, h2, h3.monoW e, h4.monoW e⟩
  | ins c ds => obtain ⟨dx, fs, h1, h2, h3⟩ := h; exact ⟨dx, fs, (hH rfl).trans h1, h2, h3.monoW e⟩
  | dead => trivial
theorem CellOk.there {g : Gc} {W : Wd} {a : Addr} {c : Cell} (h : CellOk g W a c) (l : c.live = true) : ∃ o, W.H a = some o := by
  cases c with
  | lst ds => obtain ⟨vs, h1, _⟩ := h; exact ⟨_, h1⟩
  | dic kvs => obtain ⟨kv, h1, _⟩ := h; exact ⟨_, h1⟩
  | nd kvs => obtain ⟨xs, ⟨q1, q2, o, es, ep, ws, q3, q4, q5⟩, _⟩ := h; exact ⟨_, q4⟩
  | ins c ds => obtain ⟨dx, fs, h1, _⟩ := h; exact ⟨_, h1⟩
  | dead => cases l
theorem SR.there {g : Gc} {W : Wd} (s : SR g W) {a : Addr} (m : Mu W a) : ∃ o, W.H a = some o := by
  rcases m with m | ⟨n, c, h1, h2, h3⟩
  · exact (s.rx a m).1.imp fun _ h => h.1
  · exact (s.cell n a c h1 h2).there h3
/-- a new frozen object is laid at a free place -/
theorem SR.lay {g : Gc} {W : Wd} (s : SR g W) {p : Addr} {o : HO} (hp : W.H p = none) : Ext W { W with H := upd W.H p o } ∧ SR g { W with H := upd W.H p o } ∧ ¬ Mu { W with H := upd W.H p o } p := by
  have hn : ∀ {a : Addr}, (∃ o, W.H a = some o) → a ≠ p := fun ⟨o, h⟩ e => by rw [e, hp] at h; cases h
  have st : ∀ {a : Addr} {u : HO}, W.H a = some u → upd W.H p o a = some u := fun h => by rw [upd_ne (hn ⟨_, h⟩)]; exact h
  have e : Ext W { W with H := upd W.H p o } := ⟨⟨fun a u h n => ⟨st h, n⟩, fun _ _ h => h⟩, rfl, fun a ha => upd_ne (hn ((s.rx a ha).1.imp fun _ h => h.1))⟩
  refine ⟨e, ⟨s.len, s.nd, fun a ha => (s.ex a ha).imp fun o' h => st h, fun a ha => ⟨(s.rx a ha).1.imp fun o' h => ⟨st h.1, h.2⟩, (s.rx a ha).2⟩, fun n a c h1 h2 => (s.cell n a c h1 h2).mono e.toExtW fun hl => upd_ne (hn ((s.cell n a c h1 h2).there hl))⟩, ?_⟩
  rintro (m | ⟨n, c, h1, h2, h3⟩)
  · exact hn ((s.rx p m).1.imp fun _ h => h.1) rfl
  · exact hn ((s.cell n p c h1 h2).there h3) rfl
/-- a new cell is laid at a free place -/
theorem SR.cellNew {g : Gc} {W : Wd} (s : SR g W) {p : Addr} {o : HO} {c : Cell} (hp : W.H p = none) (hc : ∀ W' : Wd, Ext W W' → W'.H p = some o → CellOk g W' p c) :
    Ext W { W with H := upd W.H p o, cs := W.cs ++ [p], st := W.st ++ [c] } ∧ SR g { W with H := upd W.H p o, cs := W.cs ++ [p], st := W.st ++ [c] } := by
  have hn : ∀ {a : Addr}, (∃ o, W.H a = some o) → a ≠ p := fun ⟨o, h⟩ e => by rw [e, hp] at h; cases h
  have st : ∀ {a : Addr} {u : HO}, W.H a = some u → upd W.H p o a = some u := fun h => by rw [upd_ne (hn ⟨_, h⟩)]; exact h
  have e : Ext W { W with H := upd W.H p o, cs := W.cs ++ [p], st := W.st ++ [c] } := by
    refine ⟨⟨fun a u h n => ⟨st h, ?_⟩, fun n a h => ?_⟩, rfl, fun a ha => upd_ne (hn ((s.rx a ha).1.imp fun _ h => h.1))⟩
    · rintro (m | ⟨m, c', h1, h2, h3⟩)
      · exact n (.inl m)
      by_cases hm : m < W.cs.length
      · refine n (.inr ⟨m, c', ?_, ?_, h3⟩)
        · have h1' : (W.cs ++ [p])[m]? = some a := h1
          rw [List.getElem?_append_left hm] at h1'; exact h1'
        · have h2' : (W.st ++ [c])[m]? = some c' := h2
          rw [List.getElem?_append_left (by rw [← s.len]; exact hm)] at h2'; exact h2'
      · have h1' : (W.cs ++ [p])[m]? = some a := h1
        rw [List.getElem?_append_right (by omega)] at h1'
        have : a = p := by
          cases hq : m - W.cs.length with
          | zero => rw [hq] at h1'; simpa using h1'.symm
          | succ k => rw [hq] at h1'; simp at h1'
        exact hn ⟨_, h⟩ this
    · have hm : n < W.cs.length := (List.getElem?_eq_some_iff.mp h).1
      show (W.cs ++ [p])[n]? = some a
      rw [List.getElem?_append_left hm]; exact h
  have hcs : p ∉ W.cs := fun h => hn (s.ex p h) rfl
  refine ⟨e, ⟨by show (W.cs ++ [p]).length = (W.st ++ [c]).length; simp [s.len], ?_, fun a ha => ?_, fun a ha => ?_, fun n a c' h1 h2 => ?_⟩⟩
  · exact List.nodup_append.mpr ⟨s.nd, by simp, fun x hx y hy q => by simp at hy; subst hy; exact hcs (q ▸ hx)⟩
  · show ∃ u, upd W.H p o a = some u
    rcases List.mem_append.mp ha with h | h
    · obtain ⟨u, hu⟩ := s.ex a h
      exact ⟨u, st hu⟩
    · simp at h; subst h; exact ⟨o, upd_same⟩
  · refine ⟨(s.rx a ha).1.imp fun _ h => ⟨st h.1, h.2⟩, fun h => ?_⟩
    rcases List.mem_append.mp h with h | h
    · exact (s.rx a ha).2 h
    · simp at h; exact hn ((s.rx a ha).1.imp fun _ h => h.1) h
  · have h1' : (W.cs ++ [p])[n]? = some a := h1
    have h2' : (W.st ++ [c])[n]? = some c' := h2
    by_cases hm : n < W.cs.length
    · rw [List.getElem?_append_left hm] at h1'
      rw [List.getElem?_append_left (by rw [← s.len]; exact hm)] at h2'
      exact (s.cell n a c' h1' h2').mono e.toExtW fun hl => upd_ne (hn ((s.cell n a c' h1' h2').there hl))
    · have hge : W.cs.length ≤ n := by omega
      rw [List.getElem?_append_right hge] at h1'
      rw [List.getElem?_append_right (by rw [← s.len]; exact hge)] at h2'
      cases hq : n - W.cs.length with
      | zero =>
        rw [hq] at h1'
        rw [← s.len, hq] at h2'
        simp at h1' h2'
        subst h1' h2'
        exact hc _ e upd_same
      | succ k => rw [hq] at h1'; simp at h1'
/-- a cell is written -/
theorem SR.cellSet {g : Gc} {W : Wd} (s : SR g W) {n : Nat} {a : Addr} {o : HO} {c0 c : Cell} (ha : W.cs[n]? = some a) (h0 : W.st[n]? = some c0) (hl0 : c0.live = true) (hl : c.live = true) (hc : ∀ W' : Wd, Ext W W' → W'.H a = some o → CellOk g W' a c) :
    Ext W { W with H := upd W.H a o, st := W.st.set n c } ∧ SR g { W with H := upd W.H a o, st := W.st.set n c } := by
  have hna : n < W.st.length := (List.getElem?_eq_some_iff.mp h0).1
  have ma : Mu W a := .inr ⟨n, c0, ha, h0, hl0⟩
  have har : a ∉ W.rs := fun h => (s.rx a h).2 (List.mem_of_getElem? ha)
  have inj : ∀ m, W.cs[m]? = some a → m = n := fun m h => nodup_inj s.nd h ha
  have e : Ext W { W with H := upd W.H a o, st := W.st.set n c } := by
    refine ⟨⟨fun b u h nm => ?_, fun _ _ h => h⟩, rfl, fun b hb => upd_ne fun q => har (q ▸ hb)⟩
    have hb : b ≠ a := fun e => nm (e ▸ ma)
    refine ⟨by show upd W.H a o b = _; rw [upd_ne hb]; exact h, ?_⟩
    rintro (m | ⟨m, c', h1, h2, h3⟩)
    · exact nm (.inl m)
    have hmn : n ≠ m := fun e => hb (by
      have h1' : W.cs[m]? = some b := h1
      rw [← e, ha] at h1'; exact (Option.some.inj h1').symm)
    have h2' : (W.st.set n c)[m]? = some c' := h2
    rw [List.getElem?_set_ne hmn] at h2'
    exact nm (.inr ⟨m, c', h1, h2', h3⟩)
  refine ⟨e, ⟨by show W.cs.length = (W.st.set n c).length; rw [List.length_set]; exact s.len, s.nd, fun b hb => ?_, fun b hb => ⟨?_, (s.rx b hb).2⟩, fun m b c' h1 h2 => ?_⟩⟩
  · show ∃ u, upd W.H a o b = some u
    by_cases hba : b = a
    · subst hba; exact ⟨o, upd_same⟩
    · rw [upd_ne hba]; exact s.ex b hb
  · show ∃ u, upd W.H a o b = some u ∧ _
    have hba : b ≠ a := fun q => har (by rw [← q]; exact hb)
    rw [upd_ne hba]; exact (s.rx b hb).1
  have h1' : W.cs[m]? = some b := h1
  have h2' : (W.st.set n c)[m]? = some c' := h2
  by_cases hmn : n = m
  · subst hmn
    rw [ha] at h1'
    cases h1'
    rw [List.getElem?_set_self hna] at h2'
    cases h2'
    exact hc _ e upd_same
  · rw [List.getElem?_set_ne hmn] at h2'
    refine (s.cell m b c' h1' h2').mono e.toExtW fun _ => upd_ne fun q => hmn ?_
    rw [q] at h1'
    exact (inj m h1').symm

/-! ### names -/
structure EnvR (g : Gc) (W : Wd) (σ : L2.St) (env : En) : Prop where
  len : σ.length = env.length
  at_ : ∀ (i : Nat) (d : D), env[i]? = some (some d) → ∃ v, σ[i]? = some (some v) ∧ Den g W v d
theorem EnvR.mono {g : Gc} {W W' : Wd} {σ : L2.St} {env : En} (r : EnvR g W σ env) (e : Ext W W') : EnvR g W' σ env := ⟨r.len, fun i d h => let ⟨v, h1, h2⟩ := r.at_ i d h; ⟨v, h1, h2.mono e⟩⟩
theorem EnvR.monoW {g : Gc} {W W' : Wd} {σ : L2.St} {env : En} (r : EnvR g W σ env) (e : ExtW W W') : EnvR g W' σ env := ⟨r.len, fun i d h => let ⟨v, h1, h2⟩ := r.at_ i d h; ⟨v, h1, h2.monoW e⟩⟩
theorem EnvR.set {g : Gc} {W : Wd} {σ : L2.St} {env : En} (r : EnvR g W σ env) (i : Nat) {v : V} {d : D} (h : Den g W v d) : EnvR g W (σ.set i (some v)) (env.set i (some d)) := by
  refine ⟨by simp [r.len], fun j d' hj => ?_⟩
  by_cases e : i = j
  · subst e
    by_cases hl : i < env.length
    · rw [List.getElem?_set_self hl] at hj
      cases hj
      exact ⟨v, List.getElem?_set_self (by rw [r.len]; exact hl), h⟩
    · rw [List.getElem?_eq_none (by simpa using hl)] at hj; cases hj
  · rw [List.getElem?_set_ne e] at hj
    rw [List.getElem?_set_ne e]
    exact r.at_ j d' hj
/-- some names forgotten -/
theorem EnvR.weak {g : Gc} {W : Wd} {σ : L2.St} {env env' : En} (r : EnvR g W σ env) (hl : env'.length = env.length) (h : ∀ (i : Nat) d, env'[i]? = some (some d) → env[i]? = some (some d)) : EnvR g W σ env' :=
  ⟨r.len.trans hl.symm, fun i d hi => r.at_ i d (h i d hi)⟩
end FL
end
section
set_option Elab.async false
set_option linter.all false
set_option maxRecDepth 100000
/-! FLC: cells frozen, cells dropped; the functional readings. -/
namespace FL
open PySem PySem.Spec PyProof.Rows L2

/-! ### no cell from L on -/
mutual
def D.low (L : Nat) : D → Bool
  | .tup xs => lowL L xs
  | .lst xs => lowL L xs
  | .dic kvs => lowP L kvs
  | .nd kvs => lowP L kvs
  | .obj _ fs => lowF L fs
  | .ref n => decide (n < L)
  | _ => true
def lowL (L : Nat) : List D → Bool
  | [] => true
  | x :: xs => x.low L && lowL L xs
def lowP (L : Nat) : List (D × D) → Bool
  | [] => true
  | (k, v) :: r => k.low L && (v.low L && lowP L r)
def lowF (L : Nat) : List (S × D) → Bool
  | [] => true
  | (_, v) :: r => v.low L && lowF L r
end
def Cell.low (L : Nat) : Cell → Bool
  | .lst xs => lowL L xs
  | .dic kvs => lowP L kvs
  | .nd kvs => lowP L kvs
  | .ins _ fs => lowF L fs
  | .dead => true
theorem ba2 {a b : Bool} (h : (a && b) = true) : a = true ∧ b = true := Bool.and_eq_true_iff.mp h
theorem lowP_k {L : Nat} : ∀ {kvs : List (D × D)}, lowP L kvs = true → lowL L (kvs.map (·.1)) = true
  | [], _ => rfl
  | (k, v) :: r, h => by
    unfold lowP at h
    obtain ⟨h1, h2⟩ := ba2 h
    obtain ⟨_, h3⟩ := ba2 h2
    show (k.low L && lowL L (r.map (·.1))) = true
    rw [h1, lowP_k h3]; rfl
theorem lowP_v {L : Nat} : ∀ {kvs : List (D × D)}, lowP L kvs = true → lowL L (kvs.map (·.2)) = true
  | [], _ => rfl
  | (k, v) :: r, h => by
    unfold lowP at h
    obtain ⟨_, h2⟩ := ba2 h
    obtain ⟨h1, h3⟩ := ba2 h2
    show (v.low L && lowL L (r.map (·.2))) = true
    rw [h1, lowP_v h3]; rfl
theorem lowF_v {L : Nat} : ∀ {fs : List (S × D)}, lowF L fs = true → lowL L (fs.map (·.2)) = true
  | [], _ => rfl
  | (k, v) :: r, h => by
    unfold lowF at h
    obtain ⟨h1, h3⟩ := ba2 h
    show (v.low L && lowL L (r.map (·.2))) = true
    rw [h1, lowF_v h3]; rfl
/-- the world less the cells from L on -/
def Wd.cut (W : Wd) (L : Nat) : Wd := { W with cs := W.cs.take L, st := W.st.take L }
theorem take_get {α : Type} {l : List α} {L n : Nat} {x : α} (h : (l.take L)[n]? = some x) : l[n]? = some x ∧ n < L := by
  rw [List.getElem?_take] at h
  by_cases hn : n < L
  · rw [if_pos hn] at h; exact ⟨h, hn⟩
  · rw [if_neg hn] at h; cases h
theorem get_take {α : Type} {l : List α} {L n : Nat} {x : α} (h : l[n]? = some x) (hn : n < L) : (l.take L)[n]? = some x := by
  rw [List.getElem?_take, if_pos hn]; exact h
theorem Mu.cut {W : Wd} {L : Nat} {a : Addr} (m : Mu (W.cut L) a) : Mu W a := by
  rcases m with m | ⟨n, c, h1, h2, h3⟩
  · exact .inl m
  · exact .inr ⟨n, c, (take_get h1).1, (take_get h2).1, h3⟩
mutual
theorem Den.cut {g : Gc} {W : Wd} {L : Nat} : ∀ {v : V} {d : D}, Den g W v d → d.low L = true → Den g (W.cut L) v d
  | _, _, .non, _ => .non
  | _, _, .bl b, _ => .bl b
  | _, _, .int i, _ => .int i
  | _, _, .str s h, _ => .str s h
  | _, _, .tupH h n l, w => .tupH h (fun m => n m.cut) (l.cut (by unfold D.low at w; exact w))
  | _, _, .tupK h l, w => .tupK h (l.cut (by unfold D.low at w; exact w))
  | _, _, .lstH h n l, w => .lstH h (fun m => n m.cut) (l.cut (by unfold D.low at w; exact w))
  | _, _, .scr h n, _ => .scr h (fun m => n m.cut)
  | _, _, .scrK h, _ => .scrK h
  | _, _, .dic h n k l, w => .dic h (fun m => n m.cut) k (l.cut (lowP_v (by unfold D.low at w; exact w)))
  | _, _, .ndic h n k l1 l2, w => .ndic h (fun m => n m.cut) k (l1.cut (lowP_k (by unfold D.low at w; exact w))) (l2.cut (lowP_v (by unfold D.low at w; exact w)))
  | _, _, .obj h n k l, w => .obj h (fun m => n m.cut) k (l.cut (lowF_v (by unfold D.low at w; exact w)))
  | _, _, .ref h, w => .ref (get_take h (of_decide_eq_true (by unfold D.low at w; exact w)))
theorem DenL.cut {g : Gc} {W : Wd} {L : Nat} : ∀ {vs : List V} {ds : List D}, DenL g W vs ds → lowL L ds = true → DenL g (W.cut L) vs ds
  | _, _, .nil, _ => .nil
  | _, _, .cons h t, w => .cons (h.cut (by unfold lowL at w; exact (ba2 w).1)) (t.cut (by unfold lowL at w; exact (ba2 w).2))
end
theorem CellOk.cut {g : Gc} {W : Wd} {L : Nat} {a : Addr} {c : Cell} (h : CellOk g W a c) (w : c.low L = true) : CellOk g (W.cut L) a c := by
  cases c with
  | lst ds => obtain ⟨vs, h1, h2⟩ := h; exact ⟨vs, h1, h2.cut w⟩
  | dic kvs => obtain ⟨kv, h1, h2, h3⟩ := h; exact ⟨kv, h1, h2, h3.cut (lowP_v w)⟩
  | nd kvs => obtain ⟨xs, h1, h2, h3, h4⟩ := h; exact ⟨xs, h1, h2, h3.cut (lowP_k w), h4.cut (lowP_v w)⟩
  | ins c ds => obtain ⟨dx, fs, h1, h2, h3⟩ := h; exact ⟨dx, fs, h1, h2, h3.cut (lowF_v w)⟩
  | dead => trivial
theorem SR.cut {g : Gc} {W : Wd} (s : SR g W) {L : Nat} (h : ∀ c ∈ W.st.take L, c.low L = true) : SR g (W.cut L) :=
  ⟨by show (W.cs.take L).length = (W.st.take L).length; rw [List.length_take, List.length_take, s.len], s.nd.sublist (List.take_sublist _ _), fun a ha => s.ex a ((List.take_sublist _ _).subset ha), fun a ha => ⟨(s.rx a ha).1, fun h => (s.rx a ha).2 ((List.take_sublist _ _).subset h)⟩,
    fun n a c h1 h2 => (s.cell n a c (take_get h1).1 (take_get h2).1).cut (h c (List.mem_of_getElem? h2))⟩
theorem Ext.cut {W W' : Wd} (e : Ext W W') {L : Nat} (hL : W.cs.length ≤ L) : Ext W (W'.cut L) :=
  ⟨⟨fun a o h n => let ⟨h1, n1⟩ := e.fz a o h n; ⟨h1, fun m => n1 m.cut⟩, fun n a h => get_take (e.cs n a h) (Nat.lt_of_lt_of_le (List.getElem?_eq_some_iff.mp h).1 hL)⟩, e.rs, e.rk⟩

/-! ### a cell is frozen -/
def Wd.kill (W : Wd) (n : Nat) : Wd := { W with st := W.st.set n .dead }
theorem Mu.of_kill {W : Wd} {n : Nat} {a : Addr} (m : Mu (W.kill n) a) : Mu W a := by
  rcases m with m | ⟨k, c, h1, h2, h3⟩
  · exact .inl m
  have h2' : (W.st.set n .dead)[k]? = some c := h2
  by_cases e : n = k
  · subst e
    by_cases hl : n < W.st.length
    · rw [List.getElem?_set_self hl] at h2'; cases h2'; cases h3
    · rw [List.getElem?_eq_none (by simpa using hl)] at h2'; cases h2'
  · rw [List.getElem?_set_ne e] at h2'
    exact .inr ⟨k, c, h1, h2', h3⟩
theorem not_mu_kill {g : Gc} {W : Wd} (s : SR g W) {n : Nat} {a : Addr} (ha : W.cs[n]? = some a) : ¬ Mu (W.kill n) a := by
  rintro (m | ⟨k, c, h1, h2, h3⟩)
  · exact (s.rx a m).2 (List.mem_of_getElem? ha)
  have h2' : (W.st.set n .dead)[k]? = some c := h2
  have e := nodup_inj s.nd ha h1
  subst e
  by_cases hl : n < W.st.length
  · rw [List.getElem?_set_self hl] at h2'; cases h2'; cases h3
  · rw [List.getElem?_eq_none (by simpa using hl)] at h2'; cases h2'
theorem Ext.kill (W : Wd) (n : Nat) : Ext W (W.kill n) := ⟨⟨fun a o h m => ⟨h, fun q => m q.of_kill⟩, fun _ _ h => h⟩, rfl, fun _ _ => rfl⟩
theorem SR.kill {g : Gc} {W : Wd} (s : SR g W) (n : Nat) : SR g (W.kill n) := by
  refine ⟨by show W.cs.length = (W.st.set n .dead).length; rw [List.length_set]; exact s.len, s.nd, s.ex, s.rx, fun k a c h1 h2 => ?_⟩
  have h2' : (W.st.set n .dead)[k]? = some c := h2
  by_cases e : n = k
  · subst e
    by_cases hl : n < W.st.length
    · rw [List.getElem?_set_self hl] at h2'; cases h2'; trivial
    · rw [List.getElem?_eq_none (by simpa using hl)] at h2'; cases h2'
  · rw [List.getElem?_set_ne e] at h2'
    exact (s.cell k a c h1 h2').mono (Ext.kill W n).toExtW fun _ => rfl
/-- freeze what a ref names -/
def fz : D → Store → Res D
  | .ref n, st => match st[n]? with
    | some (.lst xs) => .ok (.lst xs) (st.set n .dead)
    | some (.dic kvs) => .ok (.dic kvs) (st.set n .dead)
    | some (.nd kvs) => .ok (.nd kvs) (st.set n .dead)
    | some (.ins c fs) => .ok (.obj c fs) (st.set n .dead)
    | _ => .no
  | d, st => .ok d st
theorem fz_ok {g : Gc} {W : Wd} (s : SR g W) {v : V} {d d' : D} {st' : Store} (h : Den g W v d) (e : fz d W.st = .ok d' st') : ∃ W', Ext W W' ∧ SR g W' ∧ W'.st = st' ∧ W'.H = W.H ∧ Den g W' v d' := by
  cases d with
  | ref n =>
    cases h with
    | @ref a _ ha =>
    dsimp only [fz] at e
    cases q : W.st[n]? with
    | none => rw [q] at e; cases e
    | some c =>
      rw [q] at e
      have ok := s.cell n a c ha q
      cases c with
      | lst xs =>
        cases e
        obtain ⟨vs, h1, h2⟩ := ok
        exact ⟨W.kill n, Ext.kill W n, s.kill n, rfl, rfl, .lstH h1 (not_mu_kill s ha) (h2.mono (Ext.kill W n))⟩
      | dic kvs =>
        cases e
        obtain ⟨kv, h1, h2, h3⟩ := ok
        exact ⟨W.kill n, Ext.kill W n, s.kill n, rfl, rfl, .dic h1 (not_mu_kill s ha) h2 (h3.mono (Ext.kill W n))⟩
      | nd kvs =>
        cases e
        obtain ⟨xs, h1, h2, h3, h4⟩ := ok
        exact ⟨W.kill n, Ext.kill W n, s.kill n, rfl, rfl, .ndic h1 (not_mu_kill s ha) h2 (h3.mono (Ext.kill W n)) (h4.mono (Ext.kill W n))⟩
      | ins c fs =>
        cases e
        obtain ⟨dx, fs', h1, h2, h3⟩ := ok
        exact ⟨W.kill n, Ext.kill W n, s.kill n, rfl, rfl, .obj h1 (not_mu_kill s ha) h2 (h3.mono (Ext.kill W n))⟩
      | dead => cases e
  | _ => cases e; exact ⟨W, Ext.refl W, s, rfl, rfl, h⟩

/-! ### readings -/
/-- an exception as data -/
def ExD (g : Gc) (W : Wd) (cls : Value) (dd : Option Addr) (x : Exn) : Prop := cls = .ref (He.ga g.K (toS x.1)) ∧
  match x.2 with
  | [] => dd = none
  | fs => ∃ (a : Addr) (vs : List (Str × V)), dd = some a ∧ W.H a = some (.xd vs) ∧ ¬ Mu W a ∧ vs.map (·.1) = fs.map (fun p => toS p.1) ∧ DenL g W (vs.map (·.2)) (fs.map (·.2))
/-- behind a piece of code -/
def Post {α : Type} (g : Gc) (W0 : Wd) (Wx : Exn → Wd → Prop) (r : Res α) (R : α → Wd → Prop) : Prop := match r with
  | .ok a st' => ∀ W', Ext W0 W' → SR g W' → W'.st = st' → R a W'
  | .exc x st' => ∀ W', Ext W0 W' → SR g W' → W'.st = st' → Wx x W'
  | .no => False
def wx (g : Gc) (Wx : WX) (σ : L2.St) (x : Exn) (W' : Wd) : Prop := ∀ cls dd, ExD g W' cls dd x → Wx cls dd σ W'.H
theorem Post.ext {α : Type} {g : Gc} {W0 W1 : Wd} {Wx : Exn → Wd → Prop} {r : Res α} {R : α → Wd → Prop} (p : Post g W0 Wx r R) (e : Ext W0 W1) : Post g W1 Wx r R := by
  cases r with
  | ok a st' => exact fun W' e' => p W' (e.trans e')
  | exc x st' => exact fun W' e' => p W' (e.trans e')
  | no => exact p
/-- a reading by a function of the names and the store; R: how a result stands for the data -/
def fG {α β : Type} (g : Gc) (Wx : WX) (R : Wd → β → α → Prop) (m : En → Store → Res α) : L2.St → Hp → (β → Hp → Prop) → Prop := fun σ H Q =>
  ∃ (W : Wd) (env : En), W.H = H ∧ SR g W ∧ EnvR g W σ env ∧ Post g W (wx g Wx σ) (m env W.st) fun d W' => ∀ b, R W' b d → Q b W'.H
abbrev fE (g : Gc) (Wx : WX) (m : Me) : TE := fG g Wx (fun W v d => Den g W v d) m
abbrev fT (g : Gc) (Wx : WX) (m : Mt) : TT := fG g Wx (fun _ (b b' : Bool) => b = b') m
abbrev fA (g : Gc) (Wx : WX) (m : Ma) : TA := fG g Wx (fun W vs ds => DenL g W vs ds) m
theorem Post.mono {α : Type} {g : Gc} {W0 : Wd} {Wx : Exn → Wd → Prop} {r : Res α} {R R' : α → Wd → Prop} (p : Post g W0 Wx r R) (h : ∀ a W, R a W → R' a W) : Post g W0 Wx r R' := by
  cases r with
  | ok a st' => exact fun W' e' s hs => h _ _ (p W' e' s hs)
  | exc x st' => exact p
  | no => exact p
theorem fG_mono {α β : Type} {g : Gc} {Wx : WX} {R : Wd → β → α → Prop} {m : En → Store → Res α} {σ : L2.St} {H : Hp} {Q Q' : β → Hp → Prop} (h : fG g Wx R m σ H Q) (i : ∀ b H', Q b H' → Q' b H') : fG g Wx R m σ H Q' := by
  obtain ⟨W, env, e, s, r, p⟩ := h
  exact ⟨W, env, e, s, r, p.mono fun a W' q b hb => i _ _ (q b hb)⟩
/-- with values at hand -/
def fV {α β : Type} (g : Gc) (Wx : WX) (R : Wd → β → α → Prop) (vs : List V) (k : List D → En → Store → Res α) : L2.St → Hp → (β → Hp → Prop) → Prop := fun σ H Q =>
  ∃ (W : Wd) (env : En) (ds : List D), W.H = H ∧ SR g W ∧ EnvR g W σ env ∧ DenL g W vs ds ∧ Post g W (wx g Wx σ) (k ds env W.st) fun d W' => ∀ b, R W' b d → Q b W'.H
section
variable {α β : Type} {g : Gc} {Wx : WX} {R : Wd → β → α → Prop} {σ : L2.St} {H : Hp} {Q : β → Hp → Prop}
theorem fG.toV {m : En → Store → Res α} (h : fG g Wx R m σ H Q) : fV g Wx R [] (fun _ => m) σ H Q := by
  obtain ⟨W, env, e, s, r, p⟩ := h
  exact ⟨W, env, [], e, s, r, .nil, p⟩
/-- one more expression -/
theorem fV.step {vs : List V} {m : Me} {k : List D → En → Store → Res α} (h : fV g Wx R vs (fun ds e st => (m e st).bind fun d st1 => k (ds ++ [d]) e st1) σ H Q) :
    fE g Wx m σ H fun v H1 => fV g Wx R (vs ++ [v]) k σ H1 Q := by
  obtain ⟨W, env, ds, rfl, s, r, l, p⟩ := h
  refine ⟨W, env, rfl, s, r, ?_⟩
  dsimp only at p
  cases q : m env W.st with
  | ok d st1 =>
    rw [q] at p
    exact fun W1 e1 s1 hs v hv => ⟨W1, env, ds ++ [d], rfl, s1, r.mono e1, (l.mono e1).append (.cons hv .nil), by rw [hs]; exact Post.ext p e1⟩
  | exc x st1 => rw [q] at p; exact p
  | no => rw [q] at p; exact p
/-- one more test -/
theorem fV.stepT {vs : List V} {m : Mt} {k : Bool → List D → En → Store → Res α} (h : fV g Wx R vs (fun ds e st => (m e st).bind fun b st1 => k b ds e st1) σ H Q) :
    fT g Wx m σ H fun b H1 => fV g Wx R vs (k b) σ H1 Q := by
  obtain ⟨W, env, ds, rfl, s, r, l, p⟩ := h
  refine ⟨W, env, rfl, s, r, ?_⟩
  dsimp only at p
  cases q : m env W.st with
  | ok d st1 =>
    rw [q] at p
    exact fun W1 e1 s1 hs b hb => ⟨W1, env, ds, rfl, s1, r.mono e1, l.mono e1, by rw [hs]; subst hb; exact Post.ext p e1⟩
  | exc x st1 => rw [q] at p; exact p
  | no => rw [q] at p; exact p
/-- an argument list -/
theorem fV.stepA {vs : List V} {m : Ma} {k : List D → En → Store → Res α} (h : fV g Wx R vs (fun ds e st => (m e st).bind fun d st1 => k (ds ++ d) e st1) σ H Q) :
    fA g Wx m σ H fun ws H1 => fV g Wx R (vs ++ ws) k σ H1 Q := by
  obtain ⟨W, env, ds, rfl, s, r, l, p⟩ := h
  refine ⟨W, env, rfl, s, r, ?_⟩
  dsimp only at p
  cases q : m env W.st with
  | ok d st1 =>
    rw [q] at p
    exact fun W1 e1 s1 hs v hv => ⟨W1, env, ds ++ d, rfl, s1, r.mono e1, (l.mono e1).append hv, by rw [hs]; exact Post.ext p e1⟩
  | exc x st1 => rw [q] at p; exact p
  | no => rw [q] at p; exact p
end
theorem PE.imp {X : Cx} {e : Expr} {t t' : TE} (h : PE X e t) (i : ∀ σ H Q, t' σ H Q → t σ H Q) : PE X e t' := ⟨fun pins s σ H Q I q => h.run pins s σ H Q I (i _ _ _ q)⟩
theorem PT.imp {X : Cx} {e : Expr} {t t' : TT} (h : PT X e t) (i : ∀ σ H Q, t' σ H Q → t σ H Q) : PT X e t' := ⟨fun pins s σ H Q I q => h.run pins s σ H Q I (i _ _ _ q)⟩
theorem PW.imp {X : Cx} {e : Expr} {t t' : TT} (h : PW X e t) (i : ∀ σ H Q, t' σ H Q → t σ H Q) : PW X e t' := ⟨fun w pins s σ H Q I q => h.run w pins s σ H Q I (i _ _ _ q)⟩
theorem PA.imp {X : Cx} {e : List Expr} {t t' : TA} (h : PA X e t) (i : ∀ σ H Q, t' σ H Q → t σ H Q) : PA X e t' := ⟨fun w pins s σ H Q I q => h.run w pins s σ H Q I (i _ _ _ q)⟩
theorem PS.imp {X : Cx} {e : Stmt} {t t' : TS} (h : PS X e t) (i : ∀ D σ H, t' D σ H → t D σ H) : PS X e t' := ⟨fun pins s σ H D I q => h.run pins s σ H D I (i _ _ _ q)⟩
theorem PSs.imp {X : Cx} {e : List Stmt} {t t' : TS} (h : PSs X e t) (i : ∀ D σ H, t' D σ H → t D σ H) : PSs X e t' := ⟨fun pins s σ H D I q => h.run pins s σ H D I (i _ _ _ q)⟩
abbrev gc (X : Cx) : Gc := ⟨X.prog, X.w, X.K⟩
end FL
end
section
set_option Elab.async false
set_option linter.all false
set_option maxRecDepth 100000
/-! FLD: names, constants, operators, comparisons. -/
namespace FL
open PySem PySem.Spec PyProof.Rows L2

section
variable {X : Cx} {Wx : WX} {pos : Pos}
/-! ### names, constants -/
def aVar (i : Nat) : Me := fun e st => match e[i]? with
  | some (some d) => .ok d st
  | _ => .no
def aC (d : D) : Me := fun _ st => .ok d st
theorem e_var (i : Nat) {x : Str} (hN : X.N[i]? = some x := by rfl) (hv : Vis X.env.scope x := by first | exact Or.inl rfl | exact Or.inr (Or.inl rfl) | exact Or.inr (Or.inr rfl)) (hd : (x == ("__debug__" : Str)) = false := by decide)
    (hcd : (x == ("__classdict__" : Str)) = false := by decide) : PE X (.Name x pos) (fE (gc X) Wx (aVar i)) := by
  refine PE.imp (pe_var hN hv hd hcd) fun σ H Q h => ?_
  obtain ⟨W, env, rfl, s, r, p⟩ := h
  dsimp only [aVar] at p
  cases q : env[i]? with
  | none => rw [q] at p; exact p.elim
  | some o =>
    rw [q] at p
    cases o with
    | none => exact p.elim
    | some d =>
      obtain ⟨v, hv', hd'⟩ := r.at_ i d q
      exact ⟨v, hv', p W (Ext.refl W) s rfl v hd'⟩
theorem of_const {v : V} {d : D} {σ : L2.St} {H : Hp} {Q : VK} (hd : ∀ W, Den (gc X) W v d) (h : fE (gc X) Wx (aC d) σ H Q) : tC v σ H Q := by
  obtain ⟨W, env, rfl, s, r, p⟩ := h
  exact p W (Ext.refl W) s rfl v (hd W)
theorem e_int {i : Int} {j} : PE X (.Constant (.int i) j pos) (fE (gc X) Wx (aC (.int i))) := PE.imp pe_int fun _ _ _ h => of_const (fun _ => .int i) h
theorem e_bl {b : Bool} {j} : PE X (.Constant (.bool b) j pos) (fE (gc X) Wx (aC (.bl b))) := PE.imp pe_bl fun _ _ _ h => of_const (fun _ => .bl b) h
theorem e_non {j} : PE X (.Constant .none j pos) (fE (gc X) Wx (aC .non)) := PE.imp pe_non fun _ _ _ h => of_const (fun _ => .non) h
/-- the written text x is s -/
def isS (x : Str) (s : S) : Bool := decide (x = toS s) && okS s
theorem e_str {x : Str} {s : S} {j} (h : isS x s = true := by decide +kernel) : PE X (.Constant (.str x) j pos) (fE (gc X) Wx (aC (.str s))) := by
  obtain ⟨h1, h2⟩ := ba2 h
  rw [of_decide_eq_true h1]
  exact PE.imp pe_str fun _ _ _ h => of_const (fun _ => .str s h2) h
theorem e_glob {x : Str} {d : D} {a : Addr} (hg : Gl X x) (hm : X.mg x = some (.ref a)) (hd : ∀ W, Den (gc X) W (.ref a) d) (hdb : (x == ("__debug__" : Str)) = false := by decide) : PE X (.Name x pos) (fE (gc X) Wx (aC d)) :=
  PE.imp (pe_glob (v := .ref a) hg hm rfl hdb) fun _ _ _ h => of_const hd h
theorem e_globI {x : Str} {i : Int} {t : Tok} (hg : Gl X x) (hm : X.mg x = some (.int i t)) (hdb : (x == ("__debug__" : Str)) = false := by decide) : PE X (.Name x pos) (fE (gc X) Wx (aC (.int i))) :=
  PE.imp (pe_glob (v := .int i) hg hm ⟨t, rfl⟩ hdb) fun _ _ _ h => of_const (fun _ => .int i) h
theorem e_globS {x z : Str} {s : S} {t : Tok} (hg : Gl X x) (hm : X.mg x = some (.str z t)) (hs : isS z s = true) (hdb : (x == ("__debug__" : Str)) = false := by decide) : PE X (.Name x pos) (fE (gc X) Wx (aC (.str s))) := by
  obtain ⟨h1, h2⟩ := ba2 hs
  rw [of_decide_eq_true h1] at hm
  exact PE.imp (pe_glob (v := .str (toS s)) hg hm ⟨t, rfl⟩ hdb) fun _ _ _ h => of_const (fun _ => .str s h2) h
end

/-! ### values at hand -/
section
variable {g : Gc} {Wx : WX} {σ : L2.St} {H : Hp} {α β : Type} {R : Wd → β → α → Prop} {Q : β → Hp → Prop}
/-- one value -/
def f1 (g : Gc) (Wx : WX) (R : Wd → β → α → Prop) (k : D → Store → Res α) (x : V) : L2.St → Hp → (β → Hp → Prop) → Prop := fun σ H Q =>
  ∃ (W : Wd) (d : D), W.H = H ∧ SR g W ∧ Den g W x d ∧ Post g W (wx g Wx σ) (k d W.st) fun d W' => ∀ b, R W' b d → Q b W'.H
def f2 (g : Gc) (Wx : WX) (R : Wd → β → α → Prop) (k : D → D → Store → Res α) (x y : V) : L2.St → Hp → (β → Hp → Prop) → Prop := fun σ H Q =>
  ∃ (W : Wd) (d e : D), W.H = H ∧ SR g W ∧ Den g W x d ∧ Den g W y e ∧ Post g W (wx g Wx σ) (k d e W.st) fun d W' => ∀ b, R W' b d → Q b W'.H
def a1 (k : D → Store → Res α) (m : Me) : En → Store → Res α := fun e st => (m e st).bind k
def a2 (k : D → D → Store → Res α) (m n : Me) : En → Store → Res α := fun e st => (m e st).bind fun x st1 => (n e st1).bind fun y st2 => k x y st2
theorem lift1 {k : D → Store → Res α} {m : Me} (h : fG g Wx R (a1 k m) σ H Q) : fE g Wx m σ H fun x H1 => f1 g Wx R k x σ H1 Q := by
  obtain ⟨W, env, rfl, s, r, p⟩ := h
  refine ⟨W, env, rfl, s, r, ?_⟩
  dsimp only [a1] at p
  cases q : m env W.st with
  | ok d st1 =>
    rw [q] at p
    exact fun W1 e1 s1 hs v hv => ⟨W1, d, rfl, s1, hv, by rw [hs]; exact Post.ext p e1⟩
  | exc x st1 => rw [q] at p; exact p
  | no => rw [q] at p; exact p
theorem lift2 {k : D → D → Store → Res α} {m n : Me} (h : fG g Wx R (a2 k m n) σ H Q) : fE g Wx m σ H fun x H1 => fE g Wx n σ H1 fun y H2 => f2 g Wx R k x y σ H2 Q := by
  obtain ⟨W, env, rfl, s, r, p⟩ := h
  refine ⟨W, env, rfl, s, r, ?_⟩
  dsimp only [a2] at p
  cases q : m env W.st with
  | ok d st1 =>
    rw [q] at p
    refine fun W1 e1 s1 hs v hv => ⟨W1, env, rfl, s1, r.mono e1, ?_⟩
    have p1 := Post.ext p e1
    dsimp only [Res.bind] at p1
    rw [hs]
    cases q2 : n env st1 with
    | ok d2 st2 =>
      rw [q2] at p1
      exact fun W2 e2 s2 hs2 v2 hv2 => ⟨W2, d, d2, rfl, s2, hv.mono e2, hv2, by rw [hs2]; exact Post.ext p1 e2⟩
    | exc x st2 => rw [q2] at p1; exact p1
    | no => rw [q2] at p1; exact p1
  | exc x st1 => rw [q] at p; exact p
  | no => rw [q] at p; exact p
end

/-! ### what is known of a value by its data -/
section
variable {g : Gc} {W : Wd} {v : V}
theorem Den.int_inv {i : Int} (h : Den g W v (.int i)) : v = .int i := by cases h; rfl
theorem Den.bl_inv {b : Bool} (h : Den g W v (.bl b)) : v = .bl b := by cases h; rfl
theorem Den.non_inv (h : Den g W v .non) : v = .non := by cases h; rfl
theorem Den.str_inv {s : S} (h : Den g W v (.str s)) : v = .str (toS s) ∧ okS s = true := by cases h; exact ⟨rfl, by assumption⟩
theorem Den.tup_inv {ds : List D} (h : Den g W v (.tup ds)) : ∃ a vs, v = .ref a ∧ SqT g.K W.H a vs ∧ DenL g W vs ds := by
  cases h with
  | tupH h n l => exact ⟨_, _, rfl, .inl (.inl h), l⟩
  | tupK h l => exact ⟨_, _, rfl, .inr h, l⟩
theorem Den.lst_inv {ds : List D} (h : Den g W v (.lst ds)) : ∃ a vs, v = .ref a ∧ W.H a = some (.lst vs) ∧ ¬ Mu W a ∧ DenL g W vs ds := by
  cases h with
  | lstH h n l => exact ⟨_, _, rfl, h, n, l⟩
/-- a list, frozen or a cell -/
def lsOf : D → Store → Option (List D)
  | .lst xs, _ => some xs
  | .ref n, st => match st[n]? with
    | some (.lst xs) => some xs
    | _ => none
  | _, _ => none
theorem lsOf_inv {d : D} {ds : List D} (s : SR g W) (h : Den g W v d) (e : lsOf d W.st = some ds) : ∃ a vs, v = .ref a ∧ W.H a = some (.lst vs) ∧ DenL g W vs ds := by
  cases d with
  | lst xs =>
    cases e
    obtain ⟨a, vs, h1, h2, _, h3⟩ := h.lst_inv
    exact ⟨a, vs, h1, h2, h3⟩
  | ref n =>
    cases h with
    | @ref a _ ha =>
    dsimp only [lsOf] at e
    cases q : W.st[n]? with
    | none => rw [q] at e; cases e
    | some c =>
      rw [q] at e
      have ok := s.cell n a c ha q
      cases c with
      | lst xs =>
        cases e
        obtain ⟨vs, h1, h2⟩ := ok
        exact ⟨a, vs, rfl, h1, h2⟩
      | _ => cases e
  | _ => cases e
/-- a list or tuple -/
def sqOf : D → Store → Option (List D)
  | .tup xs, _ => some xs
  | d, st => lsOf d st
theorem sqOf_inv {d : D} {ds : List D} (s : SR g W) (h : Den g W v d) (e : sqOf d W.st = some ds) : ∃ a vs, v = .ref a ∧ (SqL g.K W.H a vs ∨ SqT g.K W.H a vs) ∧ DenL g W vs ds := by
  have go : lsOf d W.st = some ds → ∃ a vs, v = .ref a ∧ (SqL g.K W.H a vs ∨ SqT g.K W.H a vs) ∧ DenL g W vs ds := fun e => by
    obtain ⟨a, vs, h1, h2, h3⟩ := lsOf_inv s h e
    exact ⟨a, vs, h1, .inl (SqL.of h2), h3⟩
  cases d with
  | tup xs =>
    cases e
    obtain ⟨a, vs, h1, h2, h3⟩ := h.tup_inv
    exact ⟨a, vs, h1, .inr h2, h3⟩
  | _ => exact go e
end

/-! ### == -/
mutual
def py : D → PyData
  | .non => .none
  | .bl b => .bool b
  | .int i => .int i
  | .str s => .str (toS s)
  | .tup xs => .tuple (pyL xs)
  | .lst xs => .list (pyL xs)
  | _ => .none
def pyL : List D → List PyData
  | [] => []
  | x :: xs => py x :: pyL xs
end
mutual
/-- plain data, nested n deep at most -/
def D.sh : D → Nat → Bool
  | .non, _ | .bl _, _ | .int _, _ | .str _, _ => true
  | .tup xs, n => match n with
    | 0 => false
    | n + 1 => shL xs n
  | .lst xs, n => match n with
    | 0 => false
    | n + 1 => shL xs n
  | _, _ => false
def shL : List D → Nat → Bool
  | [], _ => true
  | x :: xs, n => x.sh n && shL xs n
end
mutual
/-- Python's == -/
def D.eqv : D → D → Bool
  | .non, .non => true
  | .bl a, .bl b => a == b
  | .bl a, .int j => (if a then 1 else 0) == j
  | .int i, .bl b => i == (if b then 1 else 0)
  | .int i, .int j => i == j
  | .str x, .str y => decide (x = y)
  | .tup xs, .tup ys => eqvL xs ys
  | .lst xs, .lst ys => eqvL xs ys
  | _, _ => false
def eqvL : List D → List D → Bool
  | [], [] => true
  | x :: xs, y :: ys => x.eqv y && eqvL xs ys
  | _, _ => false
end
theorem toS_inj {x y : S} (h : toS x = toS y) : x = y := by
  have e := congrArg (fun z : Str => z.cps.toList) h
  simpa [toS] using e
theorem toS_beq (x y : S) : (toS x == toS y) = decide (x = y) := by
  by_cases e : x = y
  · subst e; simp
  · rw [decide_eq_false e]
    exact beq_eq_false_iff_ne.mpr fun h => e (toS_inj h)
end FL
end
section
set_option Elab.async false
set_option linter.all false
set_option maxRecDepth 100000
/-! FLE: equality, sums, comparisons. -/
namespace FL
open PySem PySem.Spec PyProof.Rows L2

theorem strOk_toS {s : S} (h : okS s = true) : PyData.strOk (toS s) = true := by
  obtain ⟨h1, _⟩ := ba2 h
  unfold PyData.strOk toS
  simp only [Array.all_eq_true', List.mem_toArray]
  intro c hc
  have := List.all_eq_true.mp h1 c hc
  have := of_decide_eq_true this
  simp; omega
mutual
theorem Den.py {g : Gc} {W : Wd} : ∀ {v : V} {d : D} {n : Nat}, Den g W v d → d.sh n = true → Dp g.K W.H v (py d) ∧ (py d).canLay0 = true ∧ (py d).depth ≤ n
  | _, _, _, .non, _ => ⟨.non, by simp [FL.py, PyData.canLay0], by simp [FL.py, PyData.depth]⟩
  | _, _, _, .bl b, _ => ⟨.bl b, by simp [FL.py, PyData.canLay0], by simp [FL.py, PyData.depth]⟩
  | _, _, _, .int i, _ => ⟨.int i, by simp [FL.py, PyData.canLay0], by simp [FL.py, PyData.depth]⟩
  | _, _, _, .str s h, _ => ⟨.str _, by simp [FL.py, PyData.canLay0, strOk_toS h], by simp [FL.py, PyData.depth]⟩
  | _, _, n, .tupH h _ l, hs => by
    unfold D.sh at hs
    cases n with
    | zero => cases hs
    | succ n =>
      obtain ⟨q1, q2, q3⟩ := l.py hs
      exact ⟨by unfold FL.py; exact .tup (.inl (.inl h)) q1, by simp [FL.py, PyData.canLay0, q2], by simp [FL.py, PyData.depth]; omega⟩
  | _, _, n, .tupK h l, hs => by
    unfold D.sh at hs
    cases n with
    | zero => cases hs
    | succ n =>
      obtain ⟨q1, q2, q3⟩ := l.py hs
      exact ⟨by unfold FL.py; exact .tup (.inr h) q1, by simp [FL.py, PyData.canLay0, q2], by simp [FL.py, PyData.depth]; omega⟩
  | _, _, n, .lstH h _ l, hs => by
    unfold D.sh at hs
    cases n with
    | zero => cases hs
    | succ n =>
      obtain ⟨q1, q2, q3⟩ := l.py hs
      exact ⟨by unfold FL.py; exact .lst (.inl (.inl h)) q1, by simp [FL.py, PyData.canLay0, q2], by simp [FL.py, PyData.depth]; omega⟩
  | _, _, _, .scr _ _, hs => by unfold D.sh at hs; cases hs
  | _, _, _, .scrK _, hs => by unfold D.sh at hs; cases hs
  | _, _, _, .dic _ _ _ _, hs => by unfold D.sh at hs; cases hs
  | _, _, _, .ndic _ _ _ _ _, hs => by unfold D.sh at hs; cases hs
  | _, _, _, .obj _ _ _ _, hs => by unfold D.sh at hs; cases hs
  | _, _, _, .ref _, hs => by unfold D.sh at hs; cases hs
theorem DenL.py {g : Gc} {W : Wd} : ∀ {vs : List V} {ds : List D} {n : Nat}, DenL g W vs ds → shL ds n = true → DpAll g.K W.H vs (pyL ds) ∧ PyData.canLayAll0 (pyL ds) = true ∧ PyData.depthAll (pyL ds) ≤ n
  | _, _, _, .nil, _ => ⟨.nil, by simp [pyL, PyData.canLayAll0], by simp [pyL, PyData.depthAll]⟩
  | _, _, n, .cons h t, hs => by
    unfold shL at hs
    obtain ⟨s1, s2⟩ := ba2 hs
    obtain ⟨p1, p2, p3⟩ := h.py s1
    obtain ⟨q1, q2, q3⟩ := t.py s2
    exact ⟨by unfold pyL; exact .cons p1 q1, by simp [pyL, PyData.canLayAll0, p2, q2], by simp [pyL, PyData.depthAll]; omega⟩
end
mutual
theorem eqv_py : ∀ (x y : D) (n m : Nat), x.sh n = true → y.sh m = true → PyData.eqv (py x) (py y) = x.eqv y
  | .tup xs, y, n, m, hx, hy => by
    unfold D.sh at hx
    cases n with
    | zero => cases hx
    | succ n =>
      cases y with
      | tup ys =>
        unfold D.sh at hy
        cases m with
        | zero => cases hy
        | succ m => simp only [py, PyData.eqv, D.eqv]; exact eqvL_py xs ys n m hx hy
      | _ => first | (unfold D.sh at hy; cases hy; done) | simp [py, PyData.eqv, D.eqv]
  | .lst xs, y, n, m, hx, hy => by
    unfold D.sh at hx
    cases n with
    | zero => cases hx
    | succ n =>
      cases y with
      | lst ys =>
        unfold D.sh at hy
        cases m with
        | zero => cases hy
        | succ m => simp only [py, PyData.eqv, D.eqv]; exact eqvL_py xs ys n m hx hy
      | _ => first | (unfold D.sh at hy; cases hy; done) | simp [py, PyData.eqv, D.eqv]
  | .non, y, n, m, _, hy => by cases y <;> first | (unfold D.sh at hy; cases hy; done) | simp [py, PyData.eqv, D.eqv]
  | .bl b, y, n, m, _, hy => by cases y <;> first | (unfold D.sh at hy; cases hy; done) | simp [py, PyData.eqv, D.eqv]
  | .int i, y, n, m, _, hy => by cases y <;> first | (unfold D.sh at hy; cases hy; done) | simp [py, PyData.eqv, D.eqv]
  | .str s, y, n, m, _, hy => by cases y <;> first | (unfold D.sh at hy; cases hy; done) | simp [py, PyData.eqv, D.eqv, toS_beq]
  | .dic _, _, _, _, hx, _ => by unfold D.sh at hx; cases hx
  | .obj _ _, _, _, _, hx, _ => by unfold D.sh at hx; cases hx
  | .nd _, _, _, _, hx, _ => by unfold D.sh at hx; cases hx
  | .ref _, _, _, _, hx, _ => by unfold D.sh at hx; cases hx
  | .scr _, _, _, _, hx, _ => by unfold D.sh at hx; cases hx
theorem eqvL_py : ∀ (xs ys : List D) (n m : Nat), shL xs n = true → shL ys m = true → PyData.eqvAll (pyL xs) (pyL ys) = eqvL xs ys
  | [], [], _, _, _, _ => by simp [pyL, PyData.eqvAll, eqvL]
  | [], _ :: _, _, _, _, _ => by simp [pyL, PyData.eqvAll, eqvL]
  | _ :: _, [], _, _, _, _ => by simp [pyL, PyData.eqvAll, eqvL]
  | x :: xs, y :: ys, n, m, hx, hy => by
    unfold shL at hx hy
    obtain ⟨x1, x2⟩ := ba2 hx
    obtain ⟨y1, y2⟩ := ba2 hy
    simp only [pyL, PyData.eqvAll, eqvL]
    rw [eqv_py x y n m x1 y1, eqvL_py xs ys n m x2 y2]
end
/-- a cell list read as a list -/
def rdl (d : D) (st : Store) : D := match d with
  | .ref n => match st[n]? with
    | some (.lst xs) => .lst xs
    | _ => d
  | _ => d
theorem rdl_dp {g : Gc} {W : Wd} {v : V} {d : D} {n : Nat} (s : SR g W) (h : Den g W v d) (hs : (rdl d W.st).sh n = true) : Dp g.K W.H v (py (rdl d W.st)) ∧ (py (rdl d W.st)).canLay0 = true ∧ (py (rdl d W.st)).depth ≤ n := by
  cases d with
  | ref k =>
    cases h with
    | @ref a _ ha =>
    dsimp only [rdl] at hs ⊢
    cases q : W.st[k]? with
    | none => rw [q] at hs; unfold D.sh at hs; cases hs
    | some c =>
      (try rw [q] at hs); (try rw [q])
      have ok := s.cell k a c ha q
      cases c with
      | lst xs =>
        obtain ⟨vs, h1, h2⟩ := ok
        unfold D.sh at hs
        cases n with
        | zero => cases hs
        | succ n =>
          obtain ⟨q1, q2, q3⟩ := h2.py hs
          exact ⟨by unfold py; exact .lst (SqL.of h1) q1, by simp [py, PyData.canLay0, q2], by simp [py, PyData.depth]; omega⟩
      | _ => unfold D.sh at hs; cases hs
  | _ => exact h.py hs
theorem shaped_of {d : PyData} (h : d.canLay0 = true) (h2 : d.depth ≤ 40) : SeqAt.shaped d = true := by
  unfold SeqAt.shaped
  rw [h, Bool.true_and]
  exact decide_eq_true (by omega)
def oEq (x y : D) (st : Store) : Res D := if ((rdl x st).sh 40 && (rdl y st).sh 40) = true then .ok (.bl ((rdl x st).eqv (rdl y st))) st else .no
def oNe (x y : D) (st : Store) : Res D := if ((rdl x st).sh 40 && (rdl y st).sh 40) = true then .ok (.bl (!(rdl x st).eqv (rdl y st))) st else .no
section
variable {X : Cx} {Wx : WX} {σ : L2.St} {H : Hp} {Q : VK} {x y : V}
theorem im_eq (h : f2 (gc X) Wx (fun W v d => Den (gc X) W v d) oEq x y σ H Q) : rEqD X.K x y H Q := by
  obtain ⟨W, d, e, rfl, s, h1, h2, p⟩ := h
  dsimp only [oEq] at p
  split at p
  · rename_i hs
    obtain ⟨s1, s2⟩ := ba2 hs
    obtain ⟨a1, a2, a3⟩ := rdl_dp s h1 s1
    obtain ⟨b1, b2, b3⟩ := rdl_dp s h2 s2
    refine ⟨_, _, a1, b1, shaped_of a2 a3, shaped_of b2 b3, ?_⟩
    rw [eqv_py _ _ _ _ s1 s2]
    exact p W (Ext.refl W) s rfl _ (.bl _)
  · exact p.elim
theorem im_ne (h : f2 (gc X) Wx (fun W v d => Den (gc X) W v d) oNe x y σ H Q) : rNeD X.K x y H Q := by
  obtain ⟨W, d, e, rfl, s, h1, h2, p⟩ := h
  dsimp only [oNe] at p
  split at p
  · rename_i hs
    obtain ⟨s1, s2⟩ := ba2 hs
    obtain ⟨a1, a2, a3⟩ := rdl_dp s h1 s1
    obtain ⟨b1, b2, b3⟩ := rdl_dp s h2 s2
    refine ⟨_, _, a1, b1, shaped_of a2 a3, shaped_of b2 b3, ?_⟩
    rw [eqv_py _ _ _ _ s1 s2]
    exact p W (Ext.refl W) s rfl _ (.bl _)
  · exact p.elim
end
end FL
end
section
set_option Elab.async false
set_option linter.all false
set_option maxRecDepth 100000
/-! FLF: operators, tests, displays, items. -/
namespace FL
open PySem PySem.Spec PyProof.Rows L2
abbrev BIG : Nat := 16777216
theorem big_eq : sizeLine = BIG := sizeLine_eq

abbrev rD (g : Gc) : Wd → V → D → Prop := fun W v d => Den g W v d
/-- a new frozen list, tuple -/
theorem SR.newL {g : Gc} {W : Wd} (s : SR g W) {p : Addr} (hp : W.H p = none) {vs : List V} {ds : List D} (l : DenL g W vs ds) :
    ∃ W', Ext W W' ∧ SR g W' ∧ W'.st = W.st ∧ W'.H = upd W.H p (.lst vs) ∧ Den g W' (.ref p) (.lst ds) := by
  obtain ⟨e, s', n⟩ := s.lay (o := .lst vs) hp
  exact ⟨_, e, s', rfl, rfl, .lstH upd_same n (l.mono e)⟩
theorem SR.newT {g : Gc} {W : Wd} (s : SR g W) {p : Addr} (hp : W.H p = none) {vs : List V} {ds : List D} (l : DenL g W vs ds) :
    ∃ W', Ext W W' ∧ SR g W' ∧ W'.st = W.st ∧ W'.H = upd W.H p (.tup vs) ∧ Den g W' (.ref p) (.tup ds) := by
  obtain ⟨e, s', n⟩ := s.lay (o := .tup vs) hp
  exact ⟨_, e, s', rfl, rfl, .tupH upd_same n (l.mono e)⟩
section
variable {g : Gc} {Wx : WX} {σ : L2.St} {Q : VK} {W : Wd} {vs : List V} {ds : List D}
/-- .. as an outcome -/
theorem Post.newL (s : SR g W) (l : DenL g W vs ds) (p : Post g W (wx g Wx σ) (.ok (.lst ds) W.st) fun d W' => ∀ b, Den g W' b d → Q b W'.H) : ∀ q, W.H q = none → Q (.ref q) (upd W.H q (.lst vs)) := fun q hq => by
  obtain ⟨W', e, s', h1, h2, h3⟩ := s.newL hq l
  rw [← h2]
  exact p W' e s' h1 _ h3
theorem Post.newT (s : SR g W) (l : DenL g W vs ds) (p : Post g W (wx g Wx σ) (.ok (.tup ds) W.st) fun d W' => ∀ b, Den g W' b d → Q b W'.H) : ∀ q, W.H q = none → Q (.ref q) (upd W.H q (.tup vs)) := fun q hq => by
  obtain ⟨W', e, s', h1, h2, h3⟩ := s.newT hq l
  rw [← h2]
  exact p W' e s' h1 _ h3
end

/-! ### sums -/
def oAdd (x y : D) (st : Store) : Res D := match x, y with
  | .int i, .int j => .ok (.int (i + j)) st
  | .str a, .str b => if a.length + b.length ≤ BIG then .ok (.str (a ++ b)) st else .no
  | .tup a, .tup b => if a.length + b.length ≤ BIG then .ok (.tup (a ++ b)) st else .no
  | x, y => match lsOf x st, lsOf y st with
    | some a, some b => if a.length + b.length ≤ BIG then .ok (.lst (a ++ b)) st else .no
    | _, _ => .no
def rAddA (K : PySem.W.Frag) : R2 := fun x y H Q => (rI0 (fun i j => .int (i + j)) x y H Q) ∨ (∃ i j, x = .str i ∧ y = .str j ∧ i.length + j.length ≤ sizeLine ∧ Q (.str (i ++ j)) H) ∨ rCatA K x y H Q ∨ rCat x y H Q
theorem op_addA {X : Cx} : OpR X (binaryOp .Add) (rAddA X.K) := op_add.or (op_add_str.or (op_catA.or op_cat))
theorem len_toS (s : S) : (toS s).length = s.length := by unfold toS Str.length; simp
theorem toS_app (a b : S) : toS a ++ toS b = toS (a ++ b) := by
  show (⟨a.toArray ++ b.toArray⟩ : Str) = ⟨(a ++ b).toArray⟩
  simp
theorem okS_app {a b : S} (ha : okS a = true) (hb : okS b = true) (h : a.length + b.length ≤ BIG) : okS (a ++ b) = true := by
  obtain ⟨a1, _⟩ := ba2 ha
  obtain ⟨b1, _⟩ := ba2 hb
  unfold okS
  rw [List.all_append, a1, b1]
  simp only [Bool.and_self, Bool.true_and, List.length_append]
  rw [big_eq]
  exact decide_eq_true h
section
variable {X : Cx} {Wx : WX} {σ : L2.St} {H : Hp} {Q : VK} {x y : V}
theorem im_add (h : f2 (gc X) Wx (rD (gc X)) oAdd x y σ H Q) : rAddA X.K x y H Q := by
  obtain ⟨W, d, e, rfl, s, h1, h2, p⟩ := h
  have lists : ∀ {a b : List D}, lsOf d W.st = some a → lsOf e W.st = some b → a.length + b.length ≤ BIG → Post (gc X) W (wx (gc X) Wx σ) (.ok (.lst (a ++ b)) W.st) (fun d W' => ∀ b, rD (gc X) W' b d → Q b W'.H) → rAddA X.K x y W.H Q := by
    intro a b ha hb hl p
    obtain ⟨a1, v1, rfl, b1, l1⟩ := lsOf_inv s h1 ha
    obtain ⟨a2, v2, rfl, b2, l2⟩ := lsOf_inv s h2 hb
    refine .inr (.inr (.inr ⟨_, _, _, _, rfl, rfl, b1, b2, by rw [l1.length, l2.length, big_eq]; exact hl, Post.newL s (l1.append l2) p⟩))
  have other : (match lsOf d W.st, lsOf e W.st with | some a, some b => if a.length + b.length ≤ BIG then Res.ok (D.lst (a ++ b)) W.st else Res.no | _, _ => Res.no) = oAdd d e W.st → rAddA X.K x y W.H Q := by
    intro eq
    rw [← eq] at p
    cases q1 : lsOf d W.st with
    | none => rw [q1] at p; exact p.elim
    | some a =>
      cases q2 : lsOf e W.st with
      | none => rw [q1, q2] at p; exact p.elim
      | some b =>
        rw [q1, q2] at p
        dsimp only at p
        split at p
        · rename_i hl
          exact lists q1 q2 hl p
        · exact p.elim
  cases d with
  | int i =>
    cases e with
    | int j =>
      cases h1.int_inv
      cases h2.int_inv
      exact .inl ⟨i, j, rfl, rfl, p W (Ext.refl W) s rfl _ (.int _)⟩
    | _ => exact other rfl
  | str a =>
    cases e with
    | str b =>
      obtain ⟨rfl, oa⟩ := h1.str_inv
      obtain ⟨rfl, ob⟩ := h2.str_inv
      dsimp only [oAdd] at p
      split at p
      · rename_i hl
        refine .inr (.inl ⟨_, _, rfl, rfl, by rw [len_toS, len_toS, big_eq]; exact hl, ?_⟩)
        rw [toS_app]
        exact p W (Ext.refl W) s rfl _ (.str _ (okS_app oa ob hl))
      · exact p.elim
    | _ => exact other rfl
  | tup a =>
    cases e with
    | tup b =>
      obtain ⟨a1, v1, rfl, b1, l1⟩ := h1.tup_inv
      obtain ⟨a2, v2, rfl, b2, l2⟩ := h2.tup_inv
      dsimp only [oAdd] at p
      split at p
      · rename_i hl
        refine .inr (.inr (.inl ⟨_, _, _, _, rfl, rfl, b1, b2, by rw [l1.length, l2.length, big_eq]; exact hl, fun e0 => ?_, fun n1 e0 => ?_, fun _ _ => Post.newT s (l1.append l2) p⟩))
        · subst e0
          cases l1
          exact p W (Ext.refl W) s rfl _ h2
        · subst e0
          cases l2
          rw [List.append_nil] at p
          exact p W (Ext.refl W) s rfl _ h1
      · exact p.elim
    | _ => exact other rfl
  | _ => exact other rfl

/-! ### numbers -/
def oI (f : Int → Int → Option D) (x y : D) (st : Store) : Res D := match x, y with
  | .int i, .int j => match f i j with
    | some d => .ok d st
    | none => .no
  | _, _ => .no
theorem oI_inv {f : Int → Int → Option D} (h : f2 (gc X) Wx (rD (gc X)) (oI f) x y σ H Q) : ∃ i j d, x = .int i ∧ y = .int j ∧ f i j = some d ∧ ∃ W : Wd, W.H = H ∧ ∀ v, (∀ W : Wd, Den (gc X) W v d) → Q v H := by
  obtain ⟨W, d, e, rfl, s, h1, h2, p⟩ := h
  cases d with
  | int i =>
    cases e with
    | int j =>
      cases h1.int_inv
      cases h2.int_inv
      dsimp only [oI] at p
      cases q : f i j with
      | none => rw [q] at p; exact p.elim
      | some d => rw [q] at p; exact ⟨i, j, d, rfl, rfl, q, W, rfl, fun v hv => p W (Ext.refl W) s rfl v (hv W)⟩
    | _ => exact p.elim
  | _ => exact p.elim
def oSub := oI fun i j => some (.int (i - j))
theorem im_sub (h : f2 (gc X) Wx (rD (gc X)) oSub x y σ H Q) : rI0 (fun i j => V.int (i - j)) x y H Q := by
  obtain ⟨i, j, d, rfl, rfl, e, W, rfl, q⟩ := oI_inv h
  cases e
  exact ⟨i, j, rfl, rfl, q _ fun _ => .int _⟩
def oMod := oI fun i j => if 0 < j then some (.int (i % j)) else none
theorem im_mod (h : f2 (gc X) Wx (rD (gc X)) oMod x y σ H Q) : rI (fun _ j => 0 < j) (fun i j => V.int (i % j)) x y H Q := by
  obtain ⟨i, j, d, rfl, rfl, e, W, rfl, q⟩ := oI_inv h
  split at e
  · cases e; exact ⟨i, j, rfl, rfl, by assumption, q _ fun _ => .int _⟩
  · cases e
def oDiv := oI fun i j => if 0 < j ∧ j < 1073741824 then some (.int (i / j)) else none
theorem im_div (h : f2 (gc X) Wx (rD (gc X)) oDiv x y σ H Q) : rI CDiv (fun i j => V.int (i / j)) x y H Q := by
  obtain ⟨i, j, d, rfl, rfl, e, W, rfl, q⟩ := oI_inv h
  split at e
  · cases e; exact ⟨i, j, rfl, rfl, by assumption, q _ fun _ => .int _⟩
  · cases e
def oPow := oI fun i j => if 0 ≤ j ∧ j ≤ 1000000 ∧ i.natAbs < 2 ^ 64 then some (.int (i ^ j.toNat)) else none
theorem im_pow (h : f2 (gc X) Wx (rD (gc X)) oPow x y σ H Q) : rI CPow (fun i j => V.int (i ^ j.toNat)) x y H Q := by
  obtain ⟨i, j, d, rfl, rfl, e, W, rfl, q⟩ := oI_inv h
  split at e
  · cases e; exact ⟨i, j, rfl, rfl, by assumption, q _ fun _ => .int _⟩
  · cases e
def oLt := oI fun i j => some (.bl (decide (i < j)))
theorem im_lt (h : f2 (gc X) Wx (rD (gc X)) oLt x y σ H Q) : rI0 (fun i j => V.bl (decide (i < j))) x y H Q := by
  obtain ⟨i, j, d, rfl, rfl, e, W, rfl, q⟩ := oI_inv h
  cases e
  exact ⟨i, j, rfl, rfl, q _ fun _ => .bl _⟩
def oLe := oI fun i j => some (.bl (decide (i ≤ j)))
theorem im_le (h : f2 (gc X) Wx (rD (gc X)) oLe x y σ H Q) : rI0 (fun i j => V.bl (decide (i ≤ j))) x y H Q := by
  obtain ⟨i, j, d, rfl, rfl, e, W, rfl, q⟩ := oI_inv h
  cases e
  exact ⟨i, j, rfl, rfl, q _ fun _ => .bl _⟩
def oGt := oI fun i j => some (.bl (decide (j < i)))
theorem im_gt (h : f2 (gc X) Wx (rD (gc X)) oGt x y σ H Q) : rI0 (fun i j => V.bl (decide (j < i))) x y H Q := by
  obtain ⟨i, j, d, rfl, rfl, e, W, rfl, q⟩ := oI_inv h
  cases e
  exact ⟨i, j, rfl, rfl, q _ fun _ => .bl _⟩
def oGe := oI fun i j => some (.bl (decide (j ≤ i)))
theorem im_ge (h : f2 (gc X) Wx (rD (gc X)) oGe x y σ H Q) : rI0 (fun i j => V.bl (decide (j ≤ i))) x y H Q := by
  obtain ⟨i, j, d, rfl, rfl, e, W, rfl, q⟩ := oI_inv h
  cases e
  exact ⟨i, j, rfl, rfl, q _ fun _ => .bl _⟩
/-- products: of ints, a list or tuple by an int -/
def oMul (x y : D) (st : Store) : Res D := match x, y with
  | .int i, .int j => if (-(2 ^ 64) < i ∧ i < 2 ^ 64) ∨ (-(2 ^ 64) < j ∧ j < 2 ^ 64) then .ok (.int (i * j)) st else .no
  | .tup xs, .int k => if 0 ≤ k ∧ k < 2 ^ 63 ∧ xs.length * k.toNat ≤ BIG then .ok (.tup (List.replicate k.toNat xs).flatten) st else .no
  | x, .int k => match lsOf x st with
    | some xs => if 0 ≤ k ∧ k < 2 ^ 63 ∧ xs.length * k.toNat ≤ BIG then .ok (.lst (List.replicate k.toNat xs).flatten) st else .no
    | none => .no
  | _, _ => .no
end

/-! ### is None -/
def oIsN (neg : Bool) (x : D) (st : Store) : Res D := match x with
  | .non => .ok (.bl (!neg)) st
  | _ => .ok (.bl neg) st
theorem Den.ne_non {g : Gc} {W : Wd} {v : V} {d : D} (h : Den g W v d) : (d = .non ↔ v = .non) := by
  cases h <;> simp
/-! ### operators as terms -/
section
variable {X : Cx} {Wx : WX} {pos : Pos} {a b c : Expr} {ma mb mc : Me}
theorem e_op {op : Operator} {r : R2} {k : D → D → Store → Res D} (ho : OpR X (binaryOp op) r) (im : ∀ {σ : L2.St} {H : Hp} {Q : VK} {x y : V}, f2 (gc X) Wx (rD (gc X)) k x y σ H Q → r x y H Q)
    (ha : PE X a (fE (gc X) Wx ma)) (hb : PE X b (fE (gc X) Wx mb)) : PE X (.BinOp a op b pos) (fE (gc X) Wx (a2 k ma mb)) :=
  PE.imp (pe_op ho ha hb) fun σ H Q h => by
    show fE (gc X) Wx ma σ H fun x H1 => fE (gc X) Wx mb σ H1 fun y H2 => r x y H2 Q
    exact fG_mono (lift2 h) fun v H' hq => fG_mono hq fun v2 H2 hq2 => im hq2
end
end FL
end
section
set_option Elab.async false
set_option linter.all false
set_option maxRecDepth 100000
/-! FLG: tests, and, or, displays, items, slices. -/
namespace FL
open PySem PySem.Spec PyProof.Rows L2

/-! ### branching -/
section
variable {g : Gc} {Wx : WX} {α β : Type} {R : Wd → β → α → Prop} {σ : L2.St} {H : Hp} {Q : β → Hp → Prop}
theorem liftT {t : Mt} {k : Bool → En → Store → Res α} (h : fG g Wx R (fun e st => (t e st).bind fun b st1 => k b e st1) σ H Q) : fT g Wx t σ H fun b H1 => fG g Wx R (k b) σ H1 Q := by
  obtain ⟨W, env, rfl, s, r, p⟩ := h
  refine ⟨W, env, rfl, s, r, ?_⟩
  dsimp only at p
  cases q : t env W.st with
  | ok d st1 =>
    rw [q] at p
    exact fun W1 e1 s1 hs b hb => ⟨W1, env, rfl, s1, r.mono e1, by rw [hs]; subst hb; exact Post.ext p e1⟩
  | exc x st1 => rw [q] at p; exact p
  | no => rw [q] at p; exact p
/-- by the first value's kind -/
theorem lift2_or {c : D → Bool} {k : D → D → Store → Res α} {m n : Me} (h : fG g Wx R (a2 k m n) σ H Q) :
    fG g Wx R (a2 (fun d e st => if c d = true then k d e st else .no) m n) σ H Q ∨ fG g Wx R (a2 (fun d e st => if c d = true then .no else k d e st) m n) σ H Q := by
  obtain ⟨W, env, rfl, s, r, p⟩ := h
  dsimp only [a2] at p
  cases q : m env W.st with
  | ok d st1 =>
    rw [q] at p
    by_cases hc : c d = true
    · refine .inl ⟨W, env, rfl, s, r, ?_⟩
      dsimp only [a2]
      rw [q]
      simp only [Res.bind, if_pos hc] at p ⊢
      exact p
    · refine .inr ⟨W, env, rfl, s, r, ?_⟩
      dsimp only [a2]
      rw [q]
      simp only [Res.bind, if_neg hc] at p ⊢
      exact p
  | exc x st1 =>
    refine .inl ⟨W, env, rfl, s, r, ?_⟩
    dsimp only [a2]
    rw [q] at p ⊢
    exact p
  | no => rw [q] at p; exact p.elim
theorem fG_ok {m : En → Store → Res α} {b : β} (h : fG g Wx R m σ H Q) (hb : ∀ W a st, W.H = H → SR g W → (∃ env, EnvR g W σ env ∧ m env W.st = .ok a st) → st = W.st ∧ R W b a) (hn : ∀ env st, ∃ a st', m env st = .ok a st') : Q b H := by
  obtain ⟨W, env, rfl, s, r, p⟩ := h
  obtain ⟨a, st', e⟩ := hn env W.st
  obtain ⟨h1, h2⟩ := hb W a st' rfl s ⟨env, r, e⟩
  rw [e] at p
  exact p W (Ext.refl W) s h1.symm b h2
end
theorem PE.or {X : Cx} {e : Expr} {t t' : TE} (h : PE X e t) (h' : PE X e t') : PE X e fun σ H Q => t σ H Q ∨ t' σ H Q := ⟨fun pins s σ H Q I q => q.elim (h.run pins s σ H Q I) (h'.run pins s σ H Q I)⟩
theorem PS.or {X : Cx} {e : Stmt} {t t' : TS} (h : PS X e t) (h' : PS X e t') : PS X e fun D σ H => t D σ H ∨ t' D σ H := ⟨fun pins s σ H D I q => q.elim (h.run pins s σ H D I) (h'.run pins s σ H D I)⟩
theorem PS.ex {X : Cx} {ι : Type} {e : Stmt} {t : ι → TS} (h : ∀ i, PS X e (t i)) : PS X e fun D σ H => ∃ i, t i D σ H := ⟨fun pins s σ H D I q => q.elim fun i hi => (h i).run pins s σ H D I hi⟩

/-! ### tests -/
def toB (d : D) (st : Store) : Res Bool := match d with
  | .bl b => .ok b st
  | _ => .no
def tB (m : Me) : Mt := a1 toB m
def toTr (d : D) (st : Store) : Res Bool := match d with
  | .non => .ok false st
  | .bl b => .ok b st
  | .int i => .ok (i != 0) st
  | .str s => .ok (!s.isEmpty) st
  | d => match sqOf d st with
    | some xs => .ok (!xs.isEmpty) st
    | none => .no
abbrev rB : Wd → Bool → Bool → Prop := fun _ b b' => b = b'
section
variable {X : Cx} {Wx : WX} {pos : Pos} {a b c : Expr} {ma mb mc : Me} {ta tb : Mt} {rest : List Expr}
theorem im_toB {σ : L2.St} {H : Hp} {Q : Bool → Hp → Prop} {x : V} (h : f1 (gc X) Wx rB toB x σ H Q) : ∃ k, x = .bl k ∧ Q k H := by
  obtain ⟨W, d, rfl, s, h1, p⟩ := h
  cases d with
  | bl k =>
    cases h1.bl_inv
    exact ⟨k, rfl, p W (Ext.refl W) s rfl k rfl⟩
  | _ => exact p.elim
theorem isE {vs : List V} {ds : List D} {g : Gc} {W : Wd} (l : DenL g W vs ds) : vs.isEmpty = ds.isEmpty := by cases l <;> rfl
theorem im_toTr {σ : L2.St} {H : Hp} {Q : Bool → Hp → Prop} {x : V} (h : f1 (gc X) Wx rB toTr x σ H Q) : ∃ k, TruV X.K x H k ∧ Q k H := by
  obtain ⟨W, d, rfl, s, h1, p⟩ := h
  have seqs : (match sqOf d W.st with | some xs => Res.ok (!xs.isEmpty) W.st | none => Res.no) = toTr d W.st → ∃ k, TruV X.K x W.H k ∧ Q k W.H := fun e => by
    rw [← e] at p
    cases q : sqOf d W.st with
    | none => rw [q] at p; exact p.elim
    | some xs =>
      rw [q] at p
      obtain ⟨a, vs, rfl, hq, l⟩ := sqOf_inv s h1 q
      refine ⟨!xs.isEmpty, ?_, p W (Ext.refl W) s rfl _ rfl⟩
      rw [← isE l]
      rcases hq with hq | hq
      · exact .inl ⟨vs, hq, rfl⟩
      · exact .inr (.inl ⟨vs, hq, rfl⟩)
  cases d with
  | non => cases h1.non_inv; exact ⟨false, rfl, p W (Ext.refl W) s rfl _ rfl⟩
  | bl k => cases h1.bl_inv; exact ⟨k, rfl, p W (Ext.refl W) s rfl _ rfl⟩
  | int k => cases h1.int_inv; exact ⟨_, rfl, p W (Ext.refl W) s rfl _ rfl⟩
  | str z =>
    obtain ⟨rfl, oz⟩ := h1.str_inv
    refine ⟨!z.isEmpty, ⟨by rw [len_toS]; exact of_decide_eq_true (ba2 oz).2, ?_⟩, p W (Ext.refl W) s rfl _ rfl⟩
    rw [len_toS]
    cases z <;> simp
    omega
  | _ => exact seqs rfl
theorem t_val {e : Expr} {m : Me} (h : PE X e (fE (gc X) Wx m)) (he : ∀ whole, isTrue e X.env whole = (do let v ← whole; standAt e.pos; holding [v] (truthy v)) := by intro _; rfl) : PT X e (fT (gc X) Wx (tB m)) :=
  PT.imp (pt_val h he) fun σ H Q h => fG_mono (lift1 h) fun v H' q => im_toB q
theorem t_tru {e : Expr} {m : Me} (h : PE X e (fE (gc X) Wx m)) (he : ∀ whole, isTrue e X.env whole = (do let v ← whole; standAt e.pos; holding [v] (truthy v)) := by intro _; rfl) : PT X e (fT (gc X) Wx (a1 toTr m)) :=
  PT.imp (pt_truth h he) fun σ H Q h => fG_mono (lift1 h) fun v H' q => im_toTr q
/-! comparisons -/
theorem e_cmp {op : CmpOp} {r : R2} {k : D → D → Store → Res D} (ho : OpR X (compareOp op) r) (im : ∀ {σ : L2.St} {H : Hp} {Q : VK} {x y : V}, f2 (gc X) Wx (rD (gc X)) k x y σ H Q → r x y H Q)
    (ha : PE X a (fE (gc X) Wx ma)) (hb : PE X b (fE (gc X) Wx mb)) (hm : behindInMarks op b = false := by first | exact nomark _ | rfl) : PE X (.Compare a [op] [b] pos) (fE (gc X) Wx (a2 k ma mb)) :=
  PE.imp (pe_cmpR ho ha hb hm) fun σ H Q h => by
    show fE (gc X) Wx ma σ H fun x H1 => fE (gc X) Wx mb σ H1 fun y H2 => r x y H2 Q
    exact fG_mono (lift2 h) fun v H' hq => fG_mono hq fun v2 H2 hq2 => im hq2
/-- the answer of a two-place function, as a test -/
theorem lift2B {σ : L2.St} {H : Hp} {Q : Bool → Hp → Prop} {k : D → D → Store → Res D} (h : fT (gc X) Wx (tB (a2 k ma mb)) σ H Q) :
    fE (gc X) Wx ma σ H fun x H1 => fE (gc X) Wx mb σ H1 fun y H2 => f2 (gc X) Wx (rD (gc X)) k x y σ H2 fun z H3 => ∃ k, z = .bl k ∧ Q k H3 := by
  have h1 : fE (gc X) Wx (a2 k ma mb) σ H fun z H3 => ∃ k, z = .bl k ∧ Q k H3 := fG_mono (lift1 h) fun v H' q => im_toB q
  exact lift2 h1
theorem t_cmp {op : CmpOp} {r : R2} {k : D → D → Store → Res D} (ho : OpR X (compareOp op) r) (im : ∀ {σ : L2.St} {H : Hp} {Q : VK} {x y : V}, f2 (gc X) Wx (rD (gc X)) k x y σ H Q → r x y H Q)
    (ha : PE X a (fE (gc X) Wx ma)) (hb : PE X b (fE (gc X) Wx mb)) (hm : behindInMarks op b = false := by first | exact nomark _ | rfl) : PT X (.Compare a [op] [b] pos) (fT (gc X) Wx (tB (a2 k ma mb))) :=
  PT.imp (pt_cmpR ho ha hb hm) fun σ H Q h => by
    show fE (gc X) Wx ma σ H fun x H1 => fE (gc X) Wx mb σ H1 fun y H2 => r x y H2 fun z H3 => ∃ k, z = .bl k ∧ Q k H3
    exact fG_mono (lift2B h) fun v H' hq => fG_mono hq fun v2 H2 hq2 => im hq2
/-! is None -/
theorem im_isN {σ : L2.St} {H : Hp} {Q : VK} {x : V} (h : f1 (gc X) Wx (rD (gc X)) (oIsN false) x σ H Q) : Q (.bl (decide (x = .non))) H := by
  obtain ⟨W, d, rfl, s, h1, p⟩ := h
  have e := h1.ne_non
  cases d with
  | non => rw [decide_eq_true (e.mp rfl)]; exact p W (Ext.refl W) s rfl _ (.bl _)
  | _ => rw [decide_eq_false fun q => by have := e.mpr q; cases this]; exact p W (Ext.refl W) s rfl _ (.bl _)
theorem im_notN {σ : L2.St} {H : Hp} {Q : VK} {x : V} (h : f1 (gc X) Wx (rD (gc X)) (oIsN true) x σ H Q) : Q (.bl (!decide (x = .non))) H := by
  obtain ⟨W, d, rfl, s, h1, p⟩ := h
  have e := h1.ne_non
  cases d with
  | non => rw [decide_eq_true (e.mp rfl)]; exact p W (Ext.refl W) s rfl _ (.bl _)
  | _ => rw [decide_eq_false fun q => by have := e.mpr q; cases this]; exact p W (Ext.refl W) s rfl _ (.bl _)
theorem e_isN {j p2} (ha : PE X a (fE (gc X) Wx ma)) : PE X (.Compare a [.Is] [.Constant .none j p2] pos) (fE (gc X) Wx (a1 (oIsN false) ma)) :=
  PE.imp (pe_cmpR op_isN ha pe_non (nomark _)) fun σ H Q h => by
    show fE (gc X) Wx ma σ H fun x H1 => _ ∧ _
    exact fG_mono (lift1 h) fun v H' q => ⟨rfl, im_isN q⟩
theorem e_notN {j p2} (ha : PE X a (fE (gc X) Wx ma)) : PE X (.Compare a [.IsNot] [.Constant .none j p2] pos) (fE (gc X) Wx (a1 (oIsN true) ma)) :=
  PE.imp (pe_cmpR op_notN ha pe_non (nomark _)) fun σ H Q h => by
    show fE (gc X) Wx ma σ H fun x H1 => _ ∧ _
    exact fG_mono (lift1 h) fun v H' q => ⟨rfl, im_notN q⟩
theorem lift1B {σ : L2.St} {H : Hp} {Q : Bool → Hp → Prop} {k : D → Store → Res D} (h : fT (gc X) Wx (tB (a1 k ma)) σ H Q) :
    fE (gc X) Wx ma σ H fun x H1 => f1 (gc X) Wx (rD (gc X)) k x σ H1 fun z H3 => ∃ k, z = .bl k ∧ Q k H3 := by
  have h1 : fE (gc X) Wx (a1 k ma) σ H fun z H3 => ∃ k, z = .bl k ∧ Q k H3 := fG_mono (lift1 h) fun v H' q => im_toB q
  exact lift1 h1
theorem t_isN {j p2} (ha : PE X a (fE (gc X) Wx ma)) : PT X (.Compare a [.Is] [.Constant .none j p2] pos) (fT (gc X) Wx (tB (a1 (oIsN false) ma))) :=
  PT.imp (pt_cmpR op_isN ha pe_non (nomark _)) fun σ H Q h => by
    dsimp only [tTest, tOp, tC]
    exact fG_mono (lift1B h) fun v H' q => ⟨rfl, im_isN q⟩
theorem t_notN {j p2} (ha : PE X a (fE (gc X) Wx ma)) : PT X (.Compare a [.IsNot] [.Constant .none j p2] pos) (fT (gc X) Wx (tB (a1 (oIsN true) ma))) :=
  PT.imp (pt_cmpR op_notN ha pe_non (nomark _)) fun σ H Q h => by
    dsimp only [tTest, tOp, tC]
    exact fG_mono (lift1B h) fun v H' q => ⟨rfl, im_notN q⟩
/-! and, or, not -/
def tAn (t u : Mt) : Mt := fun e st => (t e st).bind fun b st1 => if b = true then u e st1 else .ok false st1
def tO (t u : Mt) : Mt := fun e st => (t e st).bind fun b st1 => if b = true then .ok true st1 else u e st1
def tN (t : Mt) : Mt := fun e st => (t e st).bind fun b st1 => .ok (!b) st1
theorem fT_ok {σ : L2.St} {H : Hp} {Q : Bool → Hp → Prop} {k : Bool} (h : fT (gc X) Wx (fun _ st => .ok k st) σ H Q) : Q k H := by
  obtain ⟨W, env, rfl, s, r, p⟩ := h
  exact p W (Ext.refl W) s rfl k rfl
theorem fE_ok {σ : L2.St} {H : Hp} {Q : VK} {v : V} {d : D} (h : fE (gc X) Wx (fun _ st => .ok d st) σ H Q) (hv : ∀ W, Den (gc X) W v d) : Q v H := by
  obtain ⟨W, env, rfl, s, r, p⟩ := h
  exact p W (Ext.refl W) s rfl v (hv W)
theorem w_and1 (h : PT X a (fT (gc X) Wx ta)) : PW X (.BoolOp .And [a] pos) (fT (gc X) Wx ta) := pw_and1 h
theorem w_or1 (h : PT X a (fT (gc X) Wx ta)) : PW X (.BoolOp .Or [a] pos) (fT (gc X) Wx ta) := pw_or1 h
theorem w_and (ha : PT X a (fT (gc X) Wx ta)) (hb : PW X (.BoolOp .And (b :: rest) pos) (fT (gc X) Wx tb)) : PW X (.BoolOp .And (a :: b :: rest) pos) (fT (gc X) Wx (tAn ta tb)) :=
  PW.imp (pw_and ha hb) fun σ H Q h => by
    show fT (gc X) Wx ta σ H fun c H1 => if c = true then fT (gc X) Wx tb σ H1 Q else Q false H1
    refine fG_mono (liftT h) fun c H' q => ?_
    cases c with
    | true => rw [if_pos rfl]; simpa using q
    | false => rw [if_neg Bool.false_ne_true]; exact fT_ok (by simpa using q)
theorem w_or (ha : PT X a (fT (gc X) Wx ta)) (hb : PW X (.BoolOp .Or (b :: rest) pos) (fT (gc X) Wx tb)) : PW X (.BoolOp .Or (a :: b :: rest) pos) (fT (gc X) Wx (tO ta tb)) :=
  PW.imp (pw_or ha hb) fun σ H Q h => by
    show fT (gc X) Wx ta σ H fun c H1 => if c = true then Q true H1 else fT (gc X) Wx tb σ H1 Q
    refine fG_mono (liftT h) fun c H' q => ?_
    cases c with
    | true => rw [if_pos rfl]; exact fT_ok (by simpa using q)
    | false => rw [if_neg Bool.false_ne_true]; simpa using q
theorem t_not (ha : PT X a (fT (gc X) Wx ta)) : PT X (.UnaryOp .Not a pos) (fT (gc X) Wx (tN ta)) :=
  PT.imp (pt_not ha) fun σ H Q h => by
    show fT (gc X) Wx ta σ H fun c H1 => Q (!c) H1
    exact fG_mono (liftT h) fun c H' q => fT_ok q
/-- as values: all but the last are bools -/
def mAn (m n : Me) : Me := fun e st => (tB m e st).bind fun b st1 => if b = true then n e st1 else .ok (.bl false) st1
def mO (m n : Me) : Me := fun e st => (tB m e st).bind fun b st1 => if b = true then .ok (.bl true) st1 else n e st1
def mN (m : Me) : Me := fun e st => (tB m e st).bind fun b st1 => .ok (.bl (!b)) st1
def mOT (m n : Me) : Me := fun e st => (m e st).bind fun d st1 => (toTr d st1).bind fun b st2 => if b = true then .ok d st2 else n e st2
theorem e_one {op} {m : Me} (h : PE X a (fE (gc X) Wx m)) : PE X (.BoolOp op [a] pos) (fE (gc X) Wx m) := pe_one h
theorem liftB {σ : L2.St} {H : Hp} {α β : Type} {R : Wd → β → α → Prop} {Q : β → Hp → Prop} {k : Bool → En → Store → Res α} (h : fG (gc X) Wx R (fun e st => (tB ma e st).bind fun b st1 => k b e st1) σ H Q) :
    fE (gc X) Wx ma σ H fun x H1 => ∃ c, x = .bl c ∧ fG (gc X) Wx R (k c) σ H1 Q := fG_mono (lift1 (liftT h)) fun v H' q => im_toB q
theorem e_and (ha : PE X a (fE (gc X) Wx ma)) (hb : PE X (.BoolOp .And (b :: rest) pos) (fE (gc X) Wx mb)) : PE X (.BoolOp .And (a :: b :: rest) pos) (fE (gc X) Wx (mAn ma mb)) :=
  PE.imp (pe_and ha hb) fun σ H Q h => by
    dsimp only [tAndV]
    refine fG_mono (liftB h) fun x H' ⟨c, e, q⟩ => ⟨c, e, ?_⟩
    cases c with
    | true => rw [if_pos rfl]; simpa using q
    | false => rw [if_neg Bool.false_ne_true]; exact fE_ok (by simpa using q) fun _ => .bl false
theorem e_or (ha : PE X a (fE (gc X) Wx ma)) (hb : PE X (.BoolOp .Or (b :: rest) pos) (fE (gc X) Wx mb)) : PE X (.BoolOp .Or (a :: b :: rest) pos) (fE (gc X) Wx (mO ma mb)) :=
  PE.imp (pe_or ha hb) fun σ H Q h => by
    dsimp only [tOrV]
    refine fG_mono (liftB h) fun x H' ⟨c, e, q⟩ => ⟨c, e, ?_⟩
    cases c with
    | true => rw [if_pos rfl]; exact fE_ok (by simpa using q) fun _ => .bl true
    | false => rw [if_neg Bool.false_ne_true]; simpa using q
theorem e_not (ha : PE X a (fE (gc X) Wx ma)) : PE X (.UnaryOp .Not a pos) (fE (gc X) Wx (mN ma)) :=
  PE.imp (pe_not ha) fun σ H Q h => by
    dsimp only [tNotV]
    exact fG_mono (liftB h) fun x H' ⟨c, e, q⟩ => ⟨c, e, fE_ok q fun _ => .bl _⟩
def mIf (t : Mt) (m n : Me) : Me := fun e st => (t e st).bind fun b st1 => if b = true then m e st1 else n e st1
theorem e_if {tc : Mt} (hc : PT X c (fT (gc X) Wx tc)) (ha : PE X a (fE (gc X) Wx ma)) (hb : PE X b (fE (gc X) Wx mb)) : PE X (.IfExp c a b pos) (fE (gc X) Wx (mIf tc ma mb)) :=
  PE.imp (pe_ifExp hc ha hb) fun σ H Q h => by
    show fT (gc X) Wx tc σ H fun c H1 => if c = true then fE (gc X) Wx ma σ H1 Q else fE (gc X) Wx mb σ H1 Q
    refine fG_mono (liftT h) fun c H' q => ?_
    cases c with
    | true => rw [if_pos rfl]; simpa using q
    | false => rw [if_neg Bool.false_ne_true]; simpa using q
end
end FL
end
section
set_option Elab.async false
set_option linter.all false
set_option maxRecDepth 100000
/-! FLH: displays, items, slices, in; built-ins by name. -/
namespace FL
open PySem PySem.Spec PyProof.Rows L2

/-! ### argument lists -/
def mNil : Ma := fun _ st => .ok [] st
def mCons (m : Me) (r : Ma) : Ma := fun e st => (m e st).bind fun d st1 => (r e st1).bind fun ds st2 => .ok (d :: ds) st2
def mStar (m : Me) (r : Ma) : Ma := fun e st => (m e st).bind fun d st1 => match sqOf d st1 with
  | some xs => (r e st1).bind fun ds st2 => .ok (xs ++ ds) st2
  | none => .no
abbrev rL (g : Gc) : Wd → List V → List D → Prop := fun W vs ds => DenL g W vs ds
section
variable {X : Cx} {Wx : WX} {pos : Pos} {e : Expr} {es : List Expr} {m : Me} {r : Ma}
theorem a_nil : PA X [] (fA (gc X) Wx mNil) := PA.imp pa_nil fun σ H Q h => by
  obtain ⟨W, env, rfl, s, r, p⟩ := h
  exact p W (Ext.refl W) s rfl [] .nil
theorem a_cons (ha : PE X e (fE (gc X) Wx m)) (hr : PA X es (fA (gc X) Wx r)) (hs : starEach (e :: es) X.env = (false, eval e X.env) :: starEach es X.env := by rfl) : PA X (e :: es) (fA (gc X) Wx (mCons m r)) :=
  PA.imp (pa_cons ha hr hs) fun σ H Q h => by
    show fE (gc X) Wx m σ H fun x H1 => fA (gc X) Wx r σ H1 fun xs H2 => Q (x :: xs) H2
    have h2 : fV (gc X) Wx (fun W vs ds => DenL (gc X) W vs ds) [] (fun ds e st => (m e st).bind fun d st1 => (fun ds e st => (r e st).bind fun ys st2 => Res.ok (ds ++ ys) st2) (ds ++ [d]) e st1) σ H Q := by
      obtain ⟨W, env, rfl, s, rr, p⟩ := h
      exact ⟨W, env, [], rfl, s, rr, .nil, p⟩
    refine fG_mono (fV.step (k := fun ds e st => (r e st).bind fun ys st2 => Res.ok (ds ++ ys) st2) h2) fun x H' q => ?_
    obtain ⟨W, env, ds, rfl, s, rr, l, p⟩ := q
    refine ⟨W, env, rfl, s, rr, ?_⟩
    dsimp only at p
    cases q : r env W.st with
    | ok ys st1 =>
      rw [q] at p
      refine fun W1 e1 s1 hs1 ws hw => ?_
      have l1 : DenL (gc X) W1 ([x] ++ ws) (ds ++ ys) := (l.mono e1).append hw
      exact Post.ext p e1 W1 (Ext.refl W1) s1 hs1 _ l1
    | exc x st1 => rw [q] at p; exact p
    | no => rw [q] at p; exact p
theorem a_star {p2 : Pos} (ha : PE X e (fE (gc X) Wx m)) (hr : PA X es (fA (gc X) Wx r)) (hs : starEach (.Starred e p2 :: es) X.env = (true, eval e X.env) :: starEach es X.env := by rfl) : PA X (.Starred e p2 :: es) (fA (gc X) Wx (mStar m r)) :=
  PA.imp (StX.pa_star ha hr hs) fun σ H Q h => by
    obtain ⟨W, env, rfl, s, rr, p⟩ := h
    refine ⟨W, env, rfl, s, rr, ?_⟩
    dsimp only [mStar] at p
    cases q : m env W.st with
    | ok d st1 =>
      rw [q] at p
      refine fun W1 e1 s1 hs1 v hv => ?_
      dsimp only [Res.bind] at p
      cases q2 : sqOf d st1 with
      | none => rw [q2] at p; exact p.elim
      | some xs =>
        rw [q2] at p
        rw [← hs1] at q2
        obtain ⟨a, vs, rfl, hq, l⟩ := sqOf_inv s1 hv q2
        refine ⟨a, vs, rfl, hq.symm, W1, env, rfl, s1, rr.mono e1, ?_⟩
        rw [hs1]
        cases q3 : r env st1 with
        | ok ys st2 =>
          rw [q3] at p
          exact fun W2 e2 s2 hs2 ws hw => Post.ext p (e1.trans e2) W2 (Ext.refl W2) s2 hs2 _ ((l.mono e2).append hw)
        | exc x st2 => rw [q3] at p; exact Post.ext p e1
        | no => rw [q3] at p; exact p
    | exc x st1 => rw [q] at p; exact p
    | no => rw [q] at p; exact p
end
/-- values of an argument list at hand -/
def fL {α β : Type} (g : Gc) (Wx : WX) (R : Wd → β → α → Prop) (k : List D → Store → Res α) (vs : List V) : L2.St → Hp → (β → Hp → Prop) → Prop := fun σ H Q =>
  ∃ (W : Wd) (ds : List D), W.H = H ∧ SR g W ∧ DenL g W vs ds ∧ Post g W (wx g Wx σ) (k ds W.st) fun d W' => ∀ b, R W' b d → Q b W'.H
def aL {α : Type} (k : List D → Store → Res α) (m : Ma) : En → Store → Res α := fun e st => (m e st).bind k
theorem liftL {α β : Type} {g : Gc} {Wx : WX} {R : Wd → β → α → Prop} {σ : L2.St} {H : Hp} {Q : β → Hp → Prop} {k : List D → Store → Res α} {m : Ma} (h : fG g Wx R (aL k m) σ H Q) : fA g Wx m σ H fun xs H1 => fL g Wx R k xs σ H1 Q := by
  obtain ⟨W, env, rfl, s, r, p⟩ := h
  refine ⟨W, env, rfl, s, r, ?_⟩
  dsimp only [aL] at p
  cases q : m env W.st with
  | ok d st1 =>
    rw [q] at p
    exact fun W1 e1 s1 hs v hv => ⟨W1, d, rfl, s1, hv, by rw [hs]; exact Post.ext p e1⟩
  | exc x st1 => rw [q] at p; exact p
  | no => rw [q] at p; exact p
/-! ### displays -/
def oTup (ds : List D) (st : Store) : Res D := if ds.length ≤ BIG then .ok (.tup ds) st else .no
def oLst (ds : List D) (st : Store) : Res D := if ds.length ≤ BIG then .ok (.lst ds) st else .no
/-- a list that will change -/
def oLstC (ds : List D) (st : Store) : Res D := if ds.length ≤ BIG then .ok (.ref st.length) (st ++ [.lst ds]) else .no
theorem SR.newC {g : Gc} {W : Wd} (s : SR g W) {p : Addr} (hp : W.H p = none) {vs : List V} {ds : List D} (l : DenL g W vs ds) :
    ∃ W', Ext W W' ∧ SR g W' ∧ W'.st = W.st ++ [.lst ds] ∧ W'.H = upd W.H p (.lst vs) ∧ Den g W' (.ref p) (.ref W.st.length) := by
  obtain ⟨e, s'⟩ := s.cellNew (o := .lst vs) (c := .lst ds) hp fun W' e' h => ⟨vs, h, l.mono e'⟩
  refine ⟨_, e, s', rfl, rfl, .ref ?_⟩
  show (W.cs ++ [p])[W.st.length]? = some p
  rw [← s.len]; simp
section
variable {X : Cx} {Wx : WX} {pos : Pos} {a b c : Expr} {es : List Expr} {ma mb mc : Me} {m : Ma}
theorem e_tup {x1} (h : PA X es (fA (gc X) Wx m)) : PE X (.Tuple es x1 pos) (fE (gc X) Wx (aL oTup m)) :=
  PE.imp (pe_tup h) fun σ H Q h => by
    dsimp only [tTup]
    refine fG_mono (liftL h) fun vs H' ⟨W, ds, e, s, l, p⟩ => ?_
    subst e
    dsimp only [oTup] at p
    split at p
    · exact ⟨by rw [l.length, big_eq]; assumption, Post.newT s l p⟩
    · exact p.elim
theorem e_lst (h : PA X es (fA (gc X) Wx m)) : PE X (.List es pos) (fE (gc X) Wx (aL oLst m)) :=
  PE.imp (pe_lst h) fun σ H Q h => by
    dsimp only [tLst]
    refine fG_mono (liftL h) fun vs H' ⟨W, ds, e, s, l, p⟩ => ?_
    subst e
    dsimp only [oLst] at p
    split at p
    · exact ⟨by rw [l.length, big_eq]; assumption, Post.newL s l p⟩
    · exact p.elim
theorem e_lstC (h : PA X es (fA (gc X) Wx m)) : PE X (.List es pos) (fE (gc X) Wx (aL oLstC m)) :=
  PE.imp (pe_lst h) fun σ H Q h => by
    dsimp only [tLst]
    refine fG_mono (liftL h) fun vs H' ⟨W, ds, e, s, l, p⟩ => ?_
    subst e
    dsimp only [oLstC] at p
    split at p
    · refine ⟨by rw [l.length, big_eq]; assumption, fun q hq => ?_⟩
      obtain ⟨W', e, s', h1, h2, h3⟩ := s.newC hq l
      rw [← h2]
      exact p W' e s' h1 _ h3
    · exact p.elim
/-! ### items -/
def atD (xs : List D) (i : Int) : Option D := atI xs i
def oAt (xs : List D) (i : Int) (st : Store) : Res D := match atI xs i with
  | some d => .ok d st
  | none => .no
def oAtS (s : S) (i : Int) (st : Store) : Res D := match atI s i with
  | some c => .ok (.str [c]) st
  | none => .no
def onSq (d : D) (st : Store) (k : List D → Res D) : Res D := match sqOf d st with
  | some xs => k xs
  | none => .no
def onLs (d : D) (st : Store) (k : List D → Res D) : Res D := match lsOf d st with
  | some xs => k xs
  | none => .no
def oIx (x y : D) (st : Store) : Res D := match x, y with
  | .str s, .int i => oAtS s i st
  | x, .int i => onSq x st fun xs => oAt xs i st
  | _, _ => .no
theorem atI_den {g : Gc} {W : Wd} {vs : List V} {ds : List D} {i : Int} {d : D} (l : DenL g W vs ds) (h : atI ds i = some d) : ∃ v, atI vs i = some v ∧ Den g W v d := by
  unfold atI at h ⊢
  rw [l.length]
  cases q : ixN ds.length i with
  | none => rw [q] at h; cases h
  | some j => rw [q] at h; exact l.getD' h
theorem okS_of {s t : S} (h : okS s = true) (h1 : ∀ c ∈ t, c ∈ s) (h2 : t.length ≤ s.length) : okS t = true := by
  obtain ⟨a, b⟩ := ba2 h
  unfold okS
  rw [Bool.and_eq_true]
  refine ⟨List.all_eq_true.mpr fun c hc => List.all_eq_true.mp a c (h1 c hc), decide_eq_true ?_⟩
  have := of_decide_eq_true b
  omega
theorem im_ix {σ : L2.St} {H : Hp} {Q : VK} {x y : V} (h : f2 (gc X) Wx (rD (gc X)) oIx x y σ H Q) : rIx X.K x y H Q := by
  obtain ⟨W, d, e, rfl, s, h1, h2, p⟩ := h
  cases e with
  | int i =>
    cases h2.int_inv
    have seqs : (onSq d W.st fun xs => oAt xs i W.st) = oIx d (.int i) W.st → rIx X.K x (.int i) W.H Q := fun e => by
      rw [← e] at p
      unfold onSq at p
      cases q : sqOf d W.st with
      | none => rw [q] at p; exact p.elim
      | some xs =>
        rw [q] at p
        obtain ⟨a, vs, rfl, hq, l⟩ := sqOf_inv s h1 q
        dsimp only [oAt] at p
        cases q2 : atI xs i with
        | none => rw [q2] at p; exact p.elim
        | some d' =>
          rw [q2] at p
          obtain ⟨v, hv, hd⟩ := atI_den l q2
          have fin := p W (Ext.refl W) s rfl v hd
          rcases hq with hq | hq
          · exact .inl ⟨a, vs, i, v, rfl, rfl, hq, hv, fin⟩
          · exact .inr (.inl ⟨a, vs, i, v, rfl, rfl, hq, hv, fin⟩)
    cases d with
    | str z =>
      obtain ⟨rfl, oz⟩ := h1.str_inv
      dsimp only [oIx, oAtS] at p
      cases q2 : atI z i with
      | none => rw [q2] at p; exact p.elim
      | some c =>
        rw [q2] at p
        obtain ⟨j, _, hj, hl, _⟩ := atI_get q2
        refine .inr (.inr ⟨toS z, i, c, rfl, rfl, by rw [len_toS]; exact of_decide_eq_true (ba2 oz).2, by simpa [toS] using q2, ?_⟩)
        exact p W (Ext.refl W) s rfl _ (.str [c] (okS_of oz (fun k hk => by simp at hk; subst hk; exact List.mem_of_getElem? hj) (by simp; omega)))
    | _ => exact seqs rfl
  | _ => cases d <;> exact p.elim
theorem e_ix (ha : PE X a (fE (gc X) Wx ma)) (hb : PE X b (fE (gc X) Wx mb)) (hs : PlainIx b := by exact fun _ _ => rfl) : PE X (.Subscript a b pos) (fE (gc X) Wx (a2 oIx ma mb)) :=
  PE.imp (pe_ix ix_seq ha hb hs) fun σ H Q h => by
    show fE (gc X) Wx ma σ H fun x H1 => fE (gc X) Wx mb σ H1 fun y H2 => rIx X.K x y H2 Q
    exact fG_mono (lift2 h) fun v H' hq => fG_mono hq fun v2 H2 hq2 => im_ix hq2
/-! ### slices -/
abbrev Mo := En → Store → Res (Option Int)
def oNone : Mo := fun _ st => .ok none st
def toI (d : D) (st : Store) : Res (Option Int) := match d with
  | .int i => .ok (some i) st
  | _ => .no
abbrev fO (g : Gc) (Wx : WX) (m : Mo) : TO := fG g Wx (fun _ (b b' : Option Int) => b = b') m
theorem PO.imp {e : Option Expr} {t t' : TO} (h : PO X e t) (i : ∀ σ H Q, t' σ H Q → t σ H Q) : PO X e t' := ⟨fun pins s σ H Q I q => h.run pins s σ H Q I (i _ _ _ q)⟩
theorem o_none : PO X none (fO (gc X) Wx oNone) := PO.imp po_none fun σ H Q h => by
  obtain ⟨W, env, rfl, s, r, p⟩ := h
  exact p W (Ext.refl W) s rfl none rfl
theorem o_some (ha : PE X a (fE (gc X) Wx ma)) : PO X (some a) (fO (gc X) Wx (a1 toI ma)) := PO.imp (po_some ha) fun σ H Q h => by
  show fE (gc X) Wx ma σ H fun x H1 => ∃ i, x = .int i ∧ Q (some i) H1
  refine fG_mono (lift1 h) fun v H' ⟨W, d, e, s, h1, p⟩ => ?_
  subst e
  cases d with
  | int i => cases h1.int_inv; exact ⟨i, rfl, p W (Ext.refl W) s rfl _ rfl⟩
  | _ => exact p.elim
def cutD {α : Type} (xs : List α) (lo hi : Option Int) : List α := (xs.drop (HT.sIx xs.length 0 lo)).take (HT.sIx xs.length xs.length hi - HT.sIx xs.length 0 lo)
def oSl (x : D) (lo hi : Option Int) (st : Store) : Res D := match x with
  | .str s => .ok (.str (cutD s lo hi)) st
  | .tup xs => .ok (.tup (cutD xs lo hi)) st
  | x => onLs x st fun xs => .ok (.lst (cutD xs lo hi)) st
def mSl (m : Me) (l h : Mo) : Me := fun e st => (m e st).bind fun d st1 => (l e st1).bind fun lo st2 => (h e st2).bind fun hi st3 => oSl d lo hi st3
theorem DenL.cutD {g : Gc} {W : Wd} {vs : List V} {ds : List D} (l : DenL g W vs ds) (lo hi : Option Int) : DenL g W (cutV vs lo hi) (cutD ds lo hi) := by
  unfold cutV FL.cutD
  rw [l.length]
  exact (l.drop _).take _
def fSl (g : Gc) (Wx : WX) (x : V) (lo hi : Option Int) : L2.St → Hp → VK → Prop := fun σ H Q =>
  ∃ (W : Wd) (d : D), W.H = H ∧ SR g W ∧ Den g W x d ∧ Post g W (wx g Wx σ) (oSl d lo hi W.st) fun d W' => ∀ b, Den g W' b d → Q b W'.H
def rSlX (K : PySem.W.Frag) : V → Option Int → Option Int → Hp → VK → Prop := fun x lo hi H Q => rSlS x lo hi H Q ∨ rSlA K x lo hi H Q ∨ rSlL K x lo hi H Q
theorem cut_whole {xs : List V} {lo hi : Option Int} (h : HT.sIx xs.length 0 lo = 0 ∧ HT.sIx xs.length xs.length hi = xs.length) : cutV xs lo hi = xs := by
  unfold cutV
  rw [h.1, h.2]
  simp
theorem cutD_whole {α : Type} {xs : List α} {lo hi : Option Int} (h : HT.sIx xs.length 0 lo = 0 ∧ HT.sIx xs.length xs.length hi = xs.length) : cutD xs lo hi = xs := by
  unfold cutD
  rw [h.1, h.2]
  simp
theorem im_sl {σ : L2.St} {H : Hp} {Q : VK} {x : V} {lo hi : Option Int} (h : fSl (gc X) Wx x lo hi σ H Q) : rSlX X.K x lo hi H Q := by
  obtain ⟨W, d, rfl, s, h1, p⟩ := h
  have lists : (onLs d W.st fun xs => .ok (.lst (cutD xs lo hi)) W.st) = oSl d lo hi W.st → rSlX X.K x lo hi W.H Q := fun e => by
    rw [← e] at p
    unfold onLs at p
    cases q : lsOf d W.st with
    | none => rw [q] at p; exact p.elim
    | some xs =>
      rw [q] at p
      obtain ⟨a, vs, rfl, hq, l⟩ := lsOf_inv s h1 q
      exact .inr (.inr ⟨a, vs, rfl, SqL.of hq, Post.newL s (l.cutD lo hi) p⟩)
  cases d with
  | str z =>
    obtain ⟨rfl, oz⟩ := h1.str_inv
    refine .inl ⟨toS z, rfl, by rw [len_toS]; exact of_decide_eq_true (ba2 oz).2, ?_⟩
    have e : cutS (toS z) lo hi = toS (cutD z lo hi) := by
      unfold cutS cutD
      rw [len_toS]
      simp [toS]
    rw [e]
    refine p W (Ext.refl W) s rfl _ (.str _ (okS_of oz (fun c hc => ?_) ?_))
    · unfold cutD at hc
      exact List.mem_of_mem_drop (List.mem_of_mem_take hc)
    · unfold cutD
      rw [List.length_take, List.length_drop]
      omega
  | tup xs =>
    obtain ⟨a, vs, rfl, hq, l⟩ := h1.tup_inv
    refine .inr (.inl ⟨a, vs, rfl, hq, fun hw => ?_, fun _ => Post.newT s (l.cutD lo hi) p⟩)
    have e : cutD xs lo hi = xs := cutD_whole (by rw [← l.length]; exact hw)
    dsimp only [oSl] at p
    rw [e] at p
    exact p W (Ext.refl W) s rfl _ h1
  | _ => exact lists rfl
theorem e_sl {lo hi : Option Expr} {ml mh : Mo} {p2 : Pos} (ha : PE X a (fE (gc X) Wx ma)) (hl : PO X lo (fO (gc X) Wx ml)) (hh : PO X hi (fO (gc X) Wx mh)) : PE X (.Subscript a (.Slice lo hi none p2) pos) (fE (gc X) Wx (mSl ma ml mh)) :=
  PE.imp (pe_slice (sl_str.or (sl_tupA.or sl_list)) ha hl hh) fun σ H Q h => by
    show fE (gc X) Wx ma σ H fun x H1 => fO (gc X) Wx ml σ H1 fun l H2 => fO (gc X) Wx mh σ H2 fun u H3 => rSlX X.K x l u H3 Q
    obtain ⟨W, env, rfl, s, r, p⟩ := h
    refine ⟨W, env, rfl, s, r, ?_⟩
    dsimp only [mSl] at p
    cases q : ma env W.st with
    | exc x st1 => rw [q] at p; exact p
    | no => rw [q] at p; exact p
    | ok d st1 =>
      rw [q] at p
      refine fun W1 e1 s1 hs1 v hv => ⟨W1, env, rfl, s1, r.mono e1, ?_⟩
      dsimp only [Res.bind] at p
      rw [hs1]
      cases q2 : ml env st1 with
      | exc x st1 => rw [q2] at p; exact Post.ext p e1
      | no => rw [q2] at p; exact p
      | ok lo' st2 =>
        rw [q2] at p
        refine fun W2 e2 s2 hs2 l hl => ⟨W2, env, rfl, s2, (r.mono e1).mono e2, ?_⟩
        subst hl
        dsimp only [Res.bind] at p
        rw [hs2]
        cases q3 : mh env st2 with
        | exc x st1 => rw [q3] at p; exact Post.ext (Post.ext p e1) e2
        | no => rw [q3] at p; exact p
        | ok hi' st3 =>
          rw [q3] at p
          refine fun W3 e3 s3 hs3 u hu => im_sl (Wx := Wx) (σ := σ) ?_
          subst hu
          exact ⟨W3, d, rfl, s3, (hv.mono e2).mono e3, by rw [hs3]; exact Post.ext (Post.ext (Post.ext p e1) e2) e3⟩
end
end FL
end
section
set_option Elab.async false
set_option linter.all false
set_option maxRecDepth 100000
/-! FLI: in; built-ins by name. -/
namespace FL
open PySem PySem.Spec PyProof.Rows L2

/-! ### calls of built-ins -/
section
variable {X : Cx} {Wx : WX} {pos p : Pos} {a b c e : Expr} {es : List Expr} {ma mb mc : Me} {m : Ma} {id T : String} {x : Str} {r : List V → Hp → VK → Prop} {k : List D → Store → Res D}
theorem e_callB (hc : CallR X (.builtin id) r) (im : ∀ {σ : L2.St} {H : Hp} {Q : VK} {vs : List V}, fL (gc X) Wx (rD (gc X)) k vs σ H Q → r vs H Q) (hg : Gl X x) (hm : X.mg x = none) (hv : bootBuiltins x = some (.builtin id))
    (ha : PA X (e :: es) (fA (gc X) Wx m)) (hn : x ≠ "__name__" := by decide) (hdb : (x == ("__debug__" : Str)) = false := by decide)
    (he : starEach (e :: es) X.env = (false, eval e X.env) :: starEach es X.env := by rfl) (hpl : (backTo pos (starEach es X.env)).any (·.1) = false := by rfl) : PE X (.Call (.Name x p) (e :: es) [] pos) (fE (gc X) Wx (aL k m)) :=
  PE.imp (pe_callB hc hg hm hv ha hn hdb he hpl) fun σ H Q h => by
    dsimp only [tCB]
    exact fG_mono (liftL h) fun vs H' q => im q
theorem e_callTy (hc : CallR X (.type T) r) (im : ∀ {σ : L2.St} {H : Hp} {Q : VK} {vs : List V}, fL (gc X) Wx (rD (gc X)) k vs σ H Q → r vs H Q) (hg : Gl X x) (hm : X.mg x = none) (hv : bootBuiltins x = some (.type T))
    (ha : PA X (e :: es) (fA (gc X) Wx m)) (hn : x ≠ "__name__" := by decide) (hdb : (x == ("__debug__" : Str)) = false := by decide)
    (he : starEach (e :: es) X.env = (false, eval e X.env) :: starEach es X.env := by rfl) (hpl : (backTo pos (starEach es X.env)).any (·.1) = false := by rfl) : PE X (.Call (.Name x p) (e :: es) [] pos) (fE (gc X) Wx (aL k m)) :=
  PE.imp (pe_callTy hc hg hm hv ha hn hdb he hpl) fun σ H Q h => by
    dsimp only [tCB]
    exact fG_mono (liftL h) fun vs H' q => im q
end
/-- one argument -/
def on1 (k : D → Store → Res D) (ds : List D) (st : Store) : Res D := match ds with
  | [d] => k d st
  | _ => .no
def on2 (k : D → D → Store → Res D) (ds : List D) (st : Store) : Res D := match ds with
  | [d, e] => k d e st
  | _ => .no
section
variable {X : Cx} {Wx : WX} {σ : L2.St} {H : Hp} {Q : VK} {vs : List V}
theorem fL1 {k : D → Store → Res D} (h : fL (gc X) Wx (rD (gc X)) (on1 k) vs σ H Q) : ∃ x, vs = [x] ∧ f1 (gc X) Wx (rD (gc X)) k x σ H Q := by
  obtain ⟨W, ds, rfl, s, l, p⟩ := h
  cases l with
  | nil => exact p.elim
  | cons h1 t =>
    cases t with
    | nil => exact ⟨_, rfl, W, _, rfl, s, h1, p⟩
    | cons _ _ => exact p.elim
theorem fL2 {k : D → D → Store → Res D} (h : fL (gc X) Wx (rD (gc X)) (on2 k) vs σ H Q) : ∃ x y, vs = [x, y] ∧ f2 (gc X) Wx (rD (gc X)) k x y σ H Q := by
  obtain ⟨W, ds, rfl, s, l, p⟩ := h
  cases l with
  | nil => exact p.elim
  | cons h1 t =>
    cases t with
    | nil => exact p.elim
    | cons h2 t =>
      cases t with
      | nil => exact ⟨_, _, rfl, W, _, _, rfl, s, h1, h2, p⟩
      | cons _ _ => exact p.elim
/-! len -/
def oLen (d : D) (st : Store) : Res D := match d with
  | .str s => .ok (.int s.length) st
  | d => onSq d st fun xs => .ok (.int xs.length) st
theorem im_len (h : fL (gc X) Wx (rD (gc X)) (on1 oLen) vs σ H Q) : ∃ x n, vs = [x] ∧ LenV X.K x H n ∧ Q (.int n) H := by
  obtain ⟨x, rfl, W, d, rfl, s, h1, p⟩ := fL1 h
  have seqs : (onSq d W.st fun xs => .ok (.int xs.length) W.st) = oLen d W.st → ∃ y n, [x] = [y] ∧ LenV X.K y W.H n ∧ Q (.int n) W.H := fun e => by
    rw [← e] at p
    unfold onSq at p
    cases q : sqOf d W.st with
    | none => rw [q] at p; exact p.elim
    | some xs =>
      rw [q] at p
      obtain ⟨a, vs, rfl, hq, l⟩ := sqOf_inv s h1 q
      refine ⟨_, xs.length, rfl, ?_, p W (Ext.refl W) s rfl _ (.int _)⟩
      rcases hq with hq | hq
      · exact .inl ⟨vs, hq, l.length.symm⟩
      · exact .inr ⟨vs, hq, l.length.symm⟩
  cases d with
  | str z =>
    obtain ⟨rfl, oz⟩ := h1.str_inv
    exact ⟨_, z.length, rfl, ⟨by rw [len_toS]; exact of_decide_eq_true (ba2 oz).2, len_toS z⟩, p W (Ext.refl W) s rfl _ (.int _)⟩
  | _ => exact seqs rfl
/-! list, tuple -/
def oListOf (d : D) (st : Store) : Res D := onSq d st fun xs => .ok (.lst xs) st
def oListC (d : D) (st : Store) : Res D := onSq d st fun xs => .ok (.ref st.length) (st ++ [.lst xs])
theorem im_listOf (h : fL (gc X) Wx (rD (gc X)) (on1 oListOf) vs σ H Q) : ∃ p ys, vs = [.ref p] ∧ (SqL X.K H p ys ∨ SqT X.K H p ys) ∧ ∀ l, H l = none → Q (.ref l) (upd H l (.lst ys)) := by
  obtain ⟨x, rfl, W, d, rfl, s, h1, p⟩ := fL1 h
  dsimp only [oListOf, onSq] at p
  cases q : sqOf d W.st with
  | none => rw [q] at p; exact p.elim
  | some xs =>
    rw [q] at p
    obtain ⟨a, vs, rfl, hq, l⟩ := sqOf_inv s h1 q
    exact ⟨a, vs, rfl, hq, Post.newL s l p⟩
theorem im_listC (h : fL (gc X) Wx (rD (gc X)) (on1 oListC) vs σ H Q) : ∃ p ys, vs = [.ref p] ∧ (SqL X.K H p ys ∨ SqT X.K H p ys) ∧ ∀ l, H l = none → Q (.ref l) (upd H l (.lst ys)) := by
  obtain ⟨x, rfl, W, d, rfl, s, h1, p⟩ := fL1 h
  dsimp only [oListC, onSq] at p
  cases q : sqOf d W.st with
  | none => rw [q] at p; exact p.elim
  | some xs =>
    rw [q] at p
    obtain ⟨a, vs, rfl, hq, l⟩ := sqOf_inv s h1 q
    refine ⟨a, vs, rfl, hq, fun q' hq' => ?_⟩
    obtain ⟨W', e, s', h1, h2, h3⟩ := s.newC hq' l
    rw [← h2]
    exact p W' e s' h1 _ h3
def oTupOf (d : D) (st : Store) : Res D := onSq d st fun xs => .ok (.tup xs) st
theorem im_tupOf (h : fL (gc X) Wx (rD (gc X)) (on1 oTupOf) vs σ H Q) : ∃ p ys, vs = [.ref p] ∧ ((SqL X.K H p ys ∧ ∀ l, H l = none → Q (.ref l) (upd H l (.tup ys))) ∨ (SqT X.K H p ys ∧ Q (.ref p) H)) := by
  obtain ⟨x, rfl, W, d, rfl, s, h1, p⟩ := fL1 h
  dsimp only [oTupOf, onSq] at p
  have go : ∀ {xs : List D}, lsOf d W.st = some xs → Post (gc X) W (wx (gc X) Wx σ) (.ok (.tup xs) W.st) (fun d W' => ∀ b, rD (gc X) W' b d → Q b W'.H) → ∃ p ys, [x] = [V.ref p] ∧ ((SqL X.K W.H p ys ∧ ∀ l, W.H l = none → Q (.ref l) (upd W.H l (.tup ys))) ∨ (SqT X.K W.H p ys ∧ Q (.ref p) W.H)) := fun q p => by
    obtain ⟨a, vs, rfl, hq, l⟩ := lsOf_inv s h1 q
    exact ⟨a, vs, rfl, .inl ⟨SqL.of hq, Post.newT s l p⟩⟩
  cases q : sqOf d W.st with
  | none => rw [q] at p; exact p.elim
  | some xs =>
    rw [q] at p
    cases d with
    | tup ys =>
      cases q
      obtain ⟨a, vs, rfl, hq, l⟩ := h1.tup_inv
      exact ⟨a, vs, rfl, .inr ⟨hq, p W (Ext.refl W) s rfl _ h1⟩⟩
    | _ => exact go q p
/-! int, abs -/
def oInt (d : D) (st : Store) : Res D := match d with
  | .int i => .ok (.int i) st
  | .bl k => .ok (.int (if k then 1 else 0)) st
  | _ => .no
theorem im_int (h : fL (gc X) Wx (rD (gc X)) (on1 oInt) vs σ H Q) : (∃ i, vs = [.int i] ∧ Q (.int i) H) ∨ ∃ k, vs = [.bl k] ∧ Q (.int (if k then 1 else 0)) H := by
  obtain ⟨x, rfl, W, d, rfl, s, h1, p⟩ := fL1 h
  cases d with
  | int i => cases h1.int_inv; exact .inl ⟨i, rfl, p W (Ext.refl W) s rfl _ (.int _)⟩
  | bl i => cases h1.bl_inv; exact .inr ⟨i, rfl, p W (Ext.refl W) s rfl _ (.int _)⟩
  | _ => exact p.elim
def oAbs (d : D) (st : Store) : Res D := match d with
  | .int i => .ok (.int (if i < 0 then -i else i)) st
  | _ => .no
theorem im_abs (h : fL (gc X) Wx (rD (gc X)) (on1 oAbs) vs σ H Q) : ∃ i, vs = [.int i] ∧ Q (.int (if i < 0 then -i else i)) H := by
  obtain ⟨x, rfl, W, d, rfl, s, h1, p⟩ := fL1 h
  cases d with
  | int i => cases h1.int_inv; exact ⟨i, rfl, p W (Ext.refl W) s rfl _ (.int _)⟩
  | _ => exact p.elim
/-! all, any -/
def blsOf : List D → Option (List Bool)
  | [] => some []
  | .bl b :: r => (blsOf r).map (b :: ·)
  | _ => none
theorem blsOf_inv {g : Gc} {W : Wd} : ∀ {vs : List V} {ds : List D} {bs : List Bool}, DenL g W vs ds → blsOf ds = some bs → vs = bs.map V.bl
  | _, _, _, .nil, e => by cases e; rfl
  | _, .bl b :: r, _, .cons h t, e => by
    dsimp only [blsOf] at e
    obtain ⟨bs', e1, rfl⟩ := Option.map_eq_some_iff.mp e
    cases h.bl_inv
    rw [blsOf_inv t e1]; rfl
  | _, .non :: _, _, .cons _ _, e => by cases e
  | _, .int _ :: _, _, .cons _ _, e => by cases e
  | _, .str _ :: _, _, .cons _ _, e => by cases e
  | _, .tup _ :: _, _, .cons _ _, e => by cases e
  | _, .lst _ :: _, _, .cons _ _, e => by cases e
  | _, .dic _ :: _, _, .cons _ _, e => by cases e
  | _, .nd _ :: _, _, .cons _ _, e => by cases e
  | _, .obj _ _ :: _, _, .cons _ _, e => by cases e
  | _, .ref _ :: _, _, .cons _ _, e => by cases e
  | _, .scr _ :: _, _, .cons _ _, e => by cases e
def onBls (d : D) (st : Store) (k : List Bool → Res D) : Res D := onLs d st fun xs => match blsOf xs with
  | some bs => k bs
  | none => .no
def oAll (d : D) (st : Store) : Res D := onBls d st fun bs => .ok (.bl (bs.all id)) st
def oAny (d : D) (st : Store) : Res D := onBls d st fun bs => .ok (.bl (bs.any id)) st
theorem bls_at {d : D} {W : Wd} {x : V} {k : List Bool → Res D} (s : SR (gc X) W) (h1 : Den (gc X) W x d) (p : Post (gc X) W (wx (gc X) Wx σ) (onBls d W.st k) fun d W' => ∀ b, rD (gc X) W' b d → Q b W'.H) :
    ∃ (a : Addr) (bs : List Bool), x = V.ref a ∧ SqL X.K W.H a (bs.map V.bl) ∧ Post (gc X) W (wx (gc X) Wx σ) (k bs) fun d W' => ∀ b, rD (gc X) W' b d → Q b W'.H := by
  dsimp only [onBls, onLs] at p
  cases q : lsOf d W.st with
  | none => rw [q] at p; exact p.elim
  | some xs =>
    rw [q] at p
    dsimp only at p
    obtain ⟨a, vs, rfl, hq, l⟩ := lsOf_inv s h1 q
    cases q2 : blsOf xs with
    | none => rw [q2] at p; exact p.elim
    | some bs =>
      rw [q2] at p
      rw [blsOf_inv l q2] at hq
      exact ⟨a, bs, rfl, SqL.of hq, p⟩
theorem im_all (h : fL (gc X) Wx (rD (gc X)) (on1 oAll) vs σ H Q) : rAll X.K vs H Q := by
  obtain ⟨x, rfl, W, d, rfl, s, h1, p⟩ := fL1 h
  obtain ⟨a, bs, rfl, hq, p⟩ := bls_at s h1 p
  exact ⟨a, bs, rfl, hq, p W (Ext.refl W) s rfl _ (.bl _)⟩
theorem im_any (h : fL (gc X) Wx (rD (gc X)) (on1 oAny) vs σ H Q) : rAny X.K vs H Q := by
  obtain ⟨x, rfl, W, d, rfl, s, h1, p⟩ := fL1 h
  obtain ⟨a, bs, rfl, hq, p⟩ := bls_at s h1 p
  exact ⟨a, bs, rfl, hq, p W (Ext.refl W) s rfl _ (.bl _)⟩
end

/-! ### in -/
def D.flat : D → Bool
  | .non | .bl _ | .int _ | .str _ => true
  | _ => false
/-- sign in text; x in a list (data), x in a tuple (flat items) -/
def oIn (neg : Bool) (x y : D) (st : Store) : Res D := match x, y with
  | .str [c], .str t => .ok (.bl (neg != t.contains c)) st
  | x, .tup ys => if (x.flat && ys.all D.flat) = true then .ok (.bl (neg != ys.any fun z => z.eqv x)) st else .no
  | x, y => onLs y st fun ys => if (x.sh 39 && shL ys 39) = true then .ok (.bl (neg != ys.any fun z => z.eqv x)) st else .no
theorem flat_inv {g : Gc} {W : Wd} {v : V} {d : D} (h : Den g W v d) (f : d.flat = true) : flatV v = true := by
  cases h <;> first | rfl | (cases f; done)
theorem eqV_eqv {g : Gc} {W : Wd} {v u : V} {d e : D} (h : Den g W v d) (h' : Den g W u e) (f : d.flat = true) (f' : e.flat = true) : eqV v u = d.eqv e := by
  cases h <;> cases h' <;> first | (cases f; done) | (cases f'; done) | simp [eqV, D.eqv, toS_beq]
theorem inV_any {g : Gc} {W : Wd} {v : V} {d : D} (h : Den g W v d) (f : d.flat = true) : ∀ {vs : List V} {ds : List D}, DenL g W vs ds → ds.all D.flat = true → vs.all flatV = true ∧ inV v vs = ds.any fun z => z.eqv d
  | _, _, .nil, _ => ⟨rfl, rfl⟩
  | _, _, .cons h1 t, fs => by
    rw [List.all_cons, Bool.and_eq_true] at fs
    obtain ⟨i1, i2⟩ := inV_any h f t fs.2
    refine ⟨by rw [List.all_cons, flat_inv h1 fs.1, i1]; rfl, ?_⟩
    unfold inV at i2 ⊢
    rw [List.any_cons, List.any_cons, i2, eqV_eqv h1 h fs.1 f]
def rInA (K : PySem.W.Frag) (neg : Bool) : R2 := fun x y H Q => (∃ (c : Nat) (z : Str), x = .str ⟨#[c]⟩ ∧ y = .str z ∧ Q (.bl (neg != decide (c ∈ z.cps.toList))) H) ∨ rIn K neg x y H Q ∨ (if neg = true then rNotInD K x y H Q else rInD K x y H Q)
theorem op_inA {X : Cx} (hu : X.A.units + 65 < cLine) : OpR X (compareOp .In) (rInA X.K false) := by
  have h1 : OpR X (compareOp .In) (fun x y H Q => ∃ (c : Nat) (z : Str), x = .str ⟨#[c]⟩ ∧ y = .str z ∧ Q (.bl (false != decide (c ∈ z.cps.toList))) H) := by
    intro pins s σ H x y v u Q I rx ry ⟨c, z, e1, e2, q⟩
    exact op_in_sign pins s σ H x y v u Q I rx ry ⟨c, z, e1, e2, by simpa using q⟩
  exact h1.or (op_in_seq.or (by simpa using op_inD hu))
theorem op_notInA {X : Cx} (hu : X.A.units + 65 < cLine) : OpR X (compareOp .NotIn) (rInA X.K true) := by
  have h1 : OpR X (compareOp .NotIn) (fun x y H Q => ∃ (c : Nat) (z : Str), x = .str ⟨#[c]⟩ ∧ y = .str z ∧ Q (.bl (true != decide (c ∈ z.cps.toList))) H) := by
    intro pins s σ H x y v u Q I rx ry ⟨c, z, e1, e2, q⟩
    exact op_notIn_sign pins s σ H x y v u Q I rx ry ⟨c, z, e1, e2, by simpa using q⟩
  exact h1.or (op_notIn_seq.or (by simpa using op_notInD hu))
theorem any_py {x : D} {n m : Nat} (hx : x.sh n = true) : ∀ {ys : List D}, shL ys m = true → ((pyL ys).any fun z => PyData.eqv z (py x)) = ys.any fun z => z.eqv x
  | [], _ => by simp [pyL]
  | y :: ys, h => by
    unfold shL at h
    obtain ⟨h1, h2⟩ := ba2 h
    simp only [pyL, List.any_cons]
    rw [eqv_py y x _ _ h1 hx, any_py hx h2]
theorem neg_xor (n b : Bool) : (if n = true then !b else b) = (n != b) := by cases n <;> cases b <;> rfl
section
variable {X : Cx} {Wx : WX} {σ : L2.St} {H : Hp} {Q : VK} {x y : V} {neg : Bool}
theorem im_in (h : f2 (gc X) Wx (rD (gc X)) (oIn neg) x y σ H Q) : rInA X.K neg x y H Q := by
  obtain ⟨W, d, e, rfl, s, h1, h2, p⟩ := h
  have lists : (onLs e W.st fun ys => if (d.sh 39 && shL ys 39) = true then .ok (.bl (neg != ys.any fun z => z.eqv d)) W.st else .no) = oIn neg d e W.st → rInA X.K neg x y W.H Q := fun ee => by
    rw [← ee] at p
    unfold onLs at p
    cases q : lsOf e W.st with
    | none => rw [q] at p; exact p.elim
    | some ys =>
      rw [q] at p
      dsimp only at p
      split at p
      · rename_i hs
        obtain ⟨s1, s2⟩ := ba2 hs
        obtain ⟨a, vs, rfl, hq, l⟩ := lsOf_inv s h2 q
        obtain ⟨a1, a2, a3⟩ := h1.py s1
        obtain ⟨b1, b2, b3⟩ := l.py s2
        have dl : Dp X.K W.H (.ref a) (.list (pyL ys)) := .lst (SqL.of hq) b1
        have sl : SeqAt.shaped (.list (pyL ys)) = true := shaped_of (by simp [PyData.canLay0, b2]) (by simp [PyData.depth]; omega)
        refine .inr (.inr ?_)
        have fin := p W (Ext.refl W) s rfl _ (.bl _)
        cases neg with
        | false => exact ⟨py d, pyL ys, a1, dl, shaped_of a2 (by omega), sl, by rw [any_py s1 s2]; simpa using fin⟩
        | true => exact ⟨py d, pyL ys, a1, dl, shaped_of a2 (by omega), sl, by rw [any_py s1 s2]; simpa using fin⟩
      · exact p.elim
  have tups : ∀ ys, e = .tup ys → (if (d.flat && ys.all D.flat) = true then .ok (.bl (neg != ys.any fun z => z.eqv d)) W.st else .no) = oIn neg d e W.st → rInA X.K neg x y W.H Q := fun ys e0 ee => by
    subst e0
    rw [← ee] at p
    split at p
    · rename_i hs
      obtain ⟨s1, s2⟩ := ba2 hs
      obtain ⟨a, vs, rfl, hq, l⟩ := h2.tup_inv
      obtain ⟨i1, i2⟩ := inV_any h1 s1 l s2
      exact .inr (.inl ⟨a, vs, rfl, .inr hq, flat_inv h1 s1, i1, by rw [i2, neg_xor]; exact p W (Ext.refl W) s rfl _ (.bl _)⟩)
    · exact p.elim
  have sgn : ∀ c t, d = .str [c] → e = .str t → rInA X.K neg x y W.H Q := fun c t e1 e2 => by
    subst e1 e2
    obtain ⟨rfl, _⟩ := h1.str_inv
    obtain ⟨rfl, _⟩ := h2.str_inv
    refine .inl ⟨c, toS t, rfl, rfl, ?_⟩
    have fin := p W (Ext.refl W) s rfl _ (.bl _)
    have e : decide (c ∈ (toS t).cps.toList) = t.contains c := by
      rw [List.contains_eq_mem]; exact decide_eq_decide.mpr (by simp [toS])
    rw [e]
    exact fin
  cases e with
  | tup ys => cases d with
    | str z => cases z with
      | nil => exact tups ys rfl rfl
      | cons c z => cases z <;> exact tups ys rfl rfl
    | _ => exact tups ys rfl rfl
  | str t => cases d with
    | str z => cases z with
      | nil => exact lists rfl
      | cons c z => cases z with
        | nil => exact sgn c t rfl rfl
        | cons _ _ => exact lists rfl
    | _ => exact lists rfl
  | _ => cases d with
    | str z => cases z with
      | nil => exact lists rfl
      | cons c z => cases z <;> exact lists rfl
    | _ => exact lists rfl
end
end FL
end
section
set_option Elab.async false
set_option linter.all false
set_option maxRecDepth 100000
/-! FLJ: statements. -/
namespace FL
open PySem PySem.Spec PyProof.Rows L2

def PostS (g : Gc) (W0 : Wd) (Wx : WX) (r : Fl) (D : Ends) : Prop := match r with
  | .nx e st' => ∀ W' σ', Ext W0 W' → SR g W' → W'.st = st' → EnvR g W' σ' e → D.nx σ' W'.H
  | .bk e st' => ∀ W' σ', Ext W0 W' → SR g W' → W'.st = st' → EnvR g W' σ' e → D.bk σ' W'.H
  | .ct e st' => ∀ W' σ', Ext W0 W' → SR g W' → W'.st = st' → EnvR g W' σ' e → D.ct σ' W'.H
  | .rt d st' => ∀ W' v, Ext W0 W' → SR g W' → W'.st = st' → Den g W' v d → D.rt v W'.H
  | .exc x e st' => ∀ W' σ', Ext W0 W' → SR g W' → W'.st = st' → EnvR g W' σ' e → wx g Wx σ' x W'
  | .no => False
theorem PostS.ext {g : Gc} {W0 W1 : Wd} {Wx : WX} {r : Fl} {D : Ends} (p : PostS g W0 Wx r D) (e : Ext W0 W1) : PostS g W1 Wx r D := by
  cases r with
  | no => exact p
  | _ => exact fun W' s e' => p W' s (e.trans e')
theorem PostS.mono {g : Gc} {W0 : Wd} {Wx : WX} {r : Fl} {D D' : Ends} (p : PostS g W0 Wx r D) (h1 : ∀ σ H, D.nx σ H → D'.nx σ H) (h2 : ∀ v H, D.rt v H → D'.rt v H) (h3 : ∀ σ H, D.bk σ H → D'.bk σ H) (h4 : ∀ σ H, D.ct σ H → D'.ct σ H) : PostS g W0 Wx r D' := by
  cases r with
  | no => exact p
  | nx e st => exact fun W' s e' s' hs r => h1 _ _ (p W' s e' s' hs r)
  | bk e st => exact fun W' s e' s' hs r => h3 _ _ (p W' s e' s' hs r)
  | ct e st => exact fun W' s e' s' hs r => h4 _ _ (p W' s e' s' hs r)
  | rt e st => exact fun W' s e' s' hs r => h2 _ _ (p W' s e' s' hs r)
  | exc x e st => exact p
/-- a statement's reading by a function -/
def fS (g : Gc) (Wx : WX) (ms : Ms) : TS := fun D σ H => ∃ (W : Wd) (env : En), W.H = H ∧ SR g W ∧ EnvR g W σ env ∧ PostS g W Wx (ms env W.st) D
/-- a value at hand, a statement's rest -/
def sV (g : Gc) (Wx : WX) (k : D → En → Store → Fl) (v : V) : TS := fun Z σ H => ∃ (W : Wd) (env : En) (d : D), W.H = H ∧ SR g W ∧ EnvR g W σ env ∧ Den g W v d ∧ PostS g W Wx (k d env W.st) Z
section
variable {g : Gc} {Wx : WX} {Z : Ends} {σ : L2.St} {H : Hp}
theorem liftS {m : Me} {k : D → En → Store → Fl} (h : fS g Wx (fun e st => (m e st).fl e fun d st1 => k d e st1) Z σ H) : fE g Wx m σ H fun v H1 => sV g Wx k v Z σ H1 := by
  obtain ⟨W, env, rfl, s, r, p⟩ := h
  refine ⟨W, env, rfl, s, r, ?_⟩
  dsimp only at p
  cases q : m env W.st with
  | ok d st1 =>
    rw [q] at p
    exact fun W1 e1 s1 hs v hv => ⟨W1, env, d, rfl, s1, r.mono e1, hv, by rw [hs]; exact PostS.ext p e1⟩
  | exc x st1 => rw [q] at p; exact fun W1 e1 s1 hs => p W1 σ e1 s1 hs (r.mono e1)
  | no => rw [q] at p; exact p
theorem liftSB {m : Mt} {k : Bool → Ms} (h : fS g Wx (fun e st => (m e st).flB e fun d st1 => k d e st1) Z σ H) : fT g Wx m σ H fun b H1 => fS g Wx (k b) Z σ H1 := by
  obtain ⟨W, env, rfl, s, r, p⟩ := h
  refine ⟨W, env, rfl, s, r, ?_⟩
  dsimp only at p
  cases q : m env W.st with
  | ok d st1 =>
    rw [q] at p
    exact fun W1 e1 s1 hs v hv => ⟨W1, env, rfl, s1, r.mono e1, by rw [hs]; subst hv; exact PostS.ext p e1⟩
  | exc x st1 => rw [q] at p; exact fun W1 e1 s1 hs => p W1 σ e1 s1 hs (r.mono e1)
  | no => rw [q] at p; exact p
end

/-! ### blocks -/
def mPass : Ms := fun e st => .nx e st
def mSeq (a b : Ms) : Ms := fun e st => (a e st).bind b
def mSet (i : Nat) (m : Me) : Ms := fun e st => (m e st).fl e fun d st1 => .nx (e.set i (some d)) st1
def mExpr (m : Me) : Ms := fun e st => (m e st).fl e fun _ st1 => .nx e st1
def mRet (m : Me) : Ms := fun e st => (m e st).fl e fun d st1 => .rt d st1
def mRetN : Ms := fun _ st => .rt .non st
def mIfS (t : Mt) (a b : Ms) : Ms := fun e st => (t e st).flB e fun c st1 => if c = true then a e st1 else b e st1
def mBrk : Ms := fun e st => .bk e st
def mCont : Ms := fun e st => .ct e st
def mNever : Ms := fun _ _ => .no
section
variable {X : Cx} {Wx : WX} {pos pos' : Pos} {st : Stmt} {sts : List Stmt} {a b c e : Expr} {m : Me} {t : Mt} {ms mr : Ms}
theorem s_nil : PSs X [] (fS (gc X) Wx mPass) := PSs.imp pss_nil fun D σ H h => by
  obtain ⟨W, env, rfl, s, r, p⟩ := h
  exact p W σ (Ext.refl W) s rfl r
theorem s_pass : PS X (.Pass pos) (fS (gc X) Wx mPass) := PS.imp ps_pass fun D σ H h => by
  obtain ⟨W, env, rfl, s, r, p⟩ := h
  exact p W σ (Ext.refl W) s rfl r
theorem s_break : PS X (.Break pos) (fS (gc X) Wx mBrk) := PS.imp ps_break fun D σ H h => by
  obtain ⟨W, env, rfl, s, r, p⟩ := h
  exact p W σ (Ext.refl W) s rfl r
theorem s_continue : PS X (.Continue pos) (fS (gc X) Wx mCont) := PS.imp ps_continue fun D σ H h => by
  obtain ⟨W, env, rfl, s, r, p⟩ := h
  exact p W σ (Ext.refl W) s rfl r
theorem s_never : PS X st (fS (gc X) Wx mNever) := PS.imp ps_never fun D σ H h => by
  obtain ⟨W, env, rfl, s, r, p⟩ := h
  exact p
theorem ss_never : PSs X sts (fS (gc X) Wx mNever) := PSs.imp pss_never fun D σ H h => by
  obtain ⟨W, env, rfl, s, r, p⟩ := h
  exact p
theorem fS_seq {D : Ends} {σ : L2.St} {H : Hp} (h : fS (gc X) Wx (mSeq ms mr) D σ H) : fS (gc X) Wx ms { D with nx := fS (gc X) Wx mr D } σ H := by
  obtain ⟨W, env, rfl, s, r, p⟩ := h
  refine ⟨W, env, rfl, s, r, ?_⟩
  dsimp only [mSeq] at p
  cases q : ms env W.st with
  | nx e1 st1 =>
    rw [q] at p
    exact fun W1 σ1 e1 s1 hs r1 => ⟨W1, _, rfl, s1, r1, by rw [hs]; exact PostS.ext p e1⟩
  | _ => rw [q] at p; exact p
theorem s_cons (h1 : PS X st (fS (gc X) Wx ms)) (h2 : PSs X sts (fS (gc X) Wx mr)) : PSs X (st :: sts) (fS (gc X) Wx (mSeq ms mr)) := PSs.imp (pss_cons h1 h2) fun D σ H h => fS_seq h
theorem s_one (h1 : PS X st (fS (gc X) Wx ms)) : PSs X [st] (fS (gc X) Wx ms) := pss_one h1
/-! ### simple statements -/
theorem s_set (i : Nat) {x : Str} (hN : X.N.Nodup) (hi : X.N[i]? = some x) (hx : Loc X.env.scope x) (he : PE X e (fE (gc X) Wx m)) (hs : swapsWith e (some (.Name x pos')) pos.line X.env = pure false := by rfl)
    (hf : X.fn x = true ∨ X.env.scope.names.lookup x = some .local := by first | exact .inl rfl | exact .inr rfl | assumption) : PS X (.Assign [.Name x pos'] e pos) (fS (gc X) Wx (mSet i m)) :=
  PS.imp (ps_set hN hi hx he hs hf) fun D σ H h => by
    show fE (gc X) Wx m σ H fun v H1 => D.nx (σ.set i (some v)) H1
    refine fG_mono (liftS h) fun v H' ⟨W, env, d, e0, s, r, hv, p⟩ => ?_
    subst e0
    exact p W _ (Ext.refl W) s rfl (r.set i hv)
theorem s_expr (he : PE X e (fE (gc X) Wx m)) (hs : swapsWith e none pos.line X.env = pure false := by rfl) : PS X (.Expr e pos) (fS (gc X) Wx (mExpr m)) :=
  PS.imp (ps_expr he hs) fun D σ H h => by
    show fE (gc X) Wx m σ H fun v H1 => D.nx σ H1
    refine fG_mono (liftS h) fun v H' ⟨W, env, d, e0, s, r, hv, p⟩ => ?_
    subst e0
    exact p W _ (Ext.refl W) s rfl r
theorem s_doc {x : Str} {j} : PS X (.Expr (.Constant (.str x) j pos) pos') (fS (gc X) Wx mPass) := PS.imp ps_doc fun D σ H h => by
  obtain ⟨W, env, rfl, s, r, p⟩ := h
  exact p W σ (Ext.refl W) s rfl r
theorem s_ret (he : PE X e (fE (gc X) Wx m)) : PS X (.Return (some e) pos) (fS (gc X) Wx (mRet m)) :=
  PS.imp (ps_ret he) fun D σ H h => by
    show fE (gc X) Wx m σ H D.rt
    refine fG_mono (liftS h) fun v H' ⟨W, env, d, e0, s, r, hv, p⟩ => ?_
    subst e0
    exact p W _ (Ext.refl W) s rfl hv
theorem s_retN : PS X (.Return none pos) (fS (gc X) Wx mRetN) := PS.imp ps_retN fun D σ H h => by
  obtain ⟨W, env, rfl, s, r, p⟩ := h
  exact p W _ (Ext.refl W) s rfl .non
theorem s_if {as bs : List Stmt} {ma mb : Ms} (hc : PT X c (fT (gc X) Wx t)) (ha : PSs X as (fS (gc X) Wx ma)) (hb : PSs X bs (fS (gc X) Wx mb)) : PS X (.If c as bs pos) (fS (gc X) Wx (mIfS t ma mb)) :=
  PS.imp (ps_if hc ha hb) fun D σ H h => by
    show fT (gc X) Wx t σ H fun b H1 => if b = true then fS (gc X) Wx ma D σ H1 else fS (gc X) Wx mb D σ H1
    refine fG_mono (liftSB h) fun b H' q => ?_
    cases b with
    | true => rw [if_pos rfl]; simpa using q
    | false => rw [if_neg Bool.false_ne_true]; simpa using q
/-! ### targets -/
abbrev Mg := D → En → Store → Fl
/-- a target's reading by a function -/
def fTg (g : Gc) (Wx : WX) (vs : List Nat) (k : Mg) : TG := fun v σ H N => ∃ (W : Wd) (env : En) (d : D), W.H = H ∧ SR g W ∧ EnvR g W σ env ∧ Den g W v d ∧ PostS g W Wx (k d env W.st) { nx := fun σ' H' => wipe σ' vs = wipe σ vs → N σ' H', rt := fun _ _ => False }
theorem wipe_set_out {σ : L2.St} {i : Nat} {x : Option V} : ∀ {vs : List Nat}, i ∉ vs → wipe (σ.set i x) vs = (wipe σ vs).set i x
  | [], _ => rfl
  | v :: vs, h => by
    have h1 : v ≠ i := fun e => h (by rw [e]; exact List.mem_cons_self)
    unfold wipe
    rw [wipe_set_out fun m => h (List.mem_cons_of_mem _ m), List.set_comm _ _ (Ne.symm h1)]
theorem wipe_set {σ : L2.St} {i : Nat} {x : Option V} : ∀ {vs : List Nat}, i ∈ vs → wipe (σ.set i x) vs = wipe σ vs
  | [], h => by cases h
  | v :: vs, h => by
    unfold wipe
    by_cases hi : i ∈ vs
    · rw [wipe_set hi]
    · rcases List.mem_cons.mp h with e | h
      · subst e
        rw [wipe_set_out hi, List.set_set]
      · exact absurd h hi
def gN (i : Nat) : Mg := fun d e st => .nx (e.set i (some d)) st
theorem PG.imp {tg : Expr} {t t' : TG} (h : PG X tg t) (i : ∀ v σ H Q, t' v σ H Q → t v σ H Q) : PG X tg t' := ⟨fun pins s σ H v u Q I r q => h.run pins s σ H v u Q I r (i _ _ _ _ q)⟩
theorem g_name {vs : List Nat} (i : Nat) {x : Str} (hv : i ∈ vs) (hN : X.N.Nodup) (hi : X.N[i]? = some x) (hx : Loc X.env.scope x) (hf : X.fn x = true ∨ X.env.scope.names.lookup x = some .local := by first | exact .inl rfl | exact .inr rfl | assumption) :
    PG X (.Name x pos) (fTg (gc X) Wx vs (gN i)) := PG.imp (pg_name hN hi hx hf) fun v σ H Q h => by
  obtain ⟨W, env, d, rfl, s, r, hv', p⟩ := h
  exact p W _ (Ext.refl W) s rfl (r.set i hv') (wipe_set hv)
abbrev Mgs := List D → En → Store → Fl
def fTgs (g : Gc) (Wx : WX) (ns : List Nat) (k : Mgs) : TGs := fun vs σ H N => ∃ (W : Wd) (env : En) (ds : List D), W.H = H ∧ SR g W ∧ EnvR g W σ env ∧ DenL g W vs ds ∧ PostS g W Wx (k ds env W.st) { nx := fun σ' H' => wipe σ' ns = wipe σ ns → N σ' H', rt := fun _ _ => False }
def gNl : Mgs := fun ds e st => match ds with
  | [] => .nx e st
  | _ => .no
def gCo (k : Mg) (r : Mgs) : Mgs := fun ds e st => match ds with
  | d :: ds => (k d e st).bind fun e1 st1 => r ds e1 st1
  | [] => .no
theorem PGs.imp {tg : List Expr} {t t' : TGs} (h : PGs X tg t) (i : ∀ v σ H Q, t' v σ H Q → t v σ H Q) : PGs X tg t' := ⟨fun pins s σ H v u Q I r q => h.run pins s σ H v u Q I r (i _ _ _ _ q)⟩
theorem gs_nil {ns : List Nat} : PGs X [] (fTgs (gc X) Wx ns gNl) := PGs.imp pgs_nil fun vs σ H Q h => by
  obtain ⟨W, env, ds, rfl, s, r, l, p⟩ := h
  cases l with
  | nil => exact ⟨rfl, p W _ (Ext.refl W) s rfl r rfl⟩
  | cons _ _ => exact p.elim
theorem gs_cons {ns : List Nat} {e : Expr} {es : List Expr} {k : Mg} {kr : Mgs} (h1 : PG X e (fTg (gc X) Wx ns k)) (h2 : PGs X es (fTgs (gc X) Wx ns kr))
    (hs : (assignEach (e :: es) X.env).map (·.2) = assign e X.env :: (assignEach es X.env).map (·.2) := by rfl) : PGs X (e :: es) (fTgs (gc X) Wx ns (gCo k kr)) := PGs.imp (pgs_cons h1 h2 hs) fun vs σ H Q h => by
  obtain ⟨W, env, ds, rfl, s, r, l, p⟩ := h
  cases l with
  | nil => exact p.elim
  | @cons v d vs ds hv l =>
    refine ⟨v, vs, rfl, W, env, d, rfl, s, r, hv, ?_⟩
    dsimp only [gCo] at p
    cases q : k d env W.st with
    | nx e1 st1 =>
      rw [q] at p
      exact fun W1 σ1 e1 s1 hs r1 hw => ⟨W1, _, ds, rfl, s1, r1, l.mono e1, by
        rw [hs]
        exact (PostS.ext p e1).mono (fun σ' H' q hw' => q (hw'.trans hw)) (fun _ _ q => q) (fun _ _ q => q) fun _ _ q => q⟩
    | _ => rw [q] at p; exact p
def gTp (n : Nat) (r : Mgs) : Mg := fun d e st => match d with
  | .tup ds => if ds.length = n then r ds e st else .no
  | _ => .no
theorem g_tup {ns : List Nat} {es : List Expr} {k n : Nat} {kr : Mgs} (hc : X.calm = true) (h : PGs X es (fTgs (gc X) Wx ns kr)) (hn : (assignEach es X.env).length = n := by rfl) (hst : (assignEach es X.env).findIdx? (·.1) = none := by rfl) :
    PG X (.Tuple es k pos) (fTg (gc X) Wx ns (gTp n kr)) := PG.imp (pg_tup hc h hn hst) fun v σ H Q h => by
  obtain ⟨W, env, d, rfl, s, r, hv, p⟩ := h
  cases d with
  | tup ds =>
    obtain ⟨a, vs, rfl, hq, l⟩ := hv.tup_inv
    dsimp only [gTp] at p
    split at p
    · exact ⟨a, vs, rfl, hq, by rw [l.length]; assumption, W, env, ds, rfl, s, r, l, p⟩
    · exact p.elim
  | _ => exact p.elim
def mAsg (m : Me) (k : Mg) : Ms := fun e st => (m e st).fl e fun d st1 => k d e st1
/-- a target's outcome as a statement's -/
theorem PostS.ofN {g : Gc} {W : Wd} {Wx : WX} {r : Fl} {D : Ends} (p : PostS g W Wx r D) (h : ∀ e st, r ≠ .bk e st ∧ r ≠ .ct e st) (h2 : ∀ d st, r ≠ .rt d st) : PostS g W Wx r { nx := D.nx, rt := fun _ _ => False } := by
  cases r with
  | rt d st => exact absurd rfl (h2 d st)
  | bk e st => exact absurd rfl (h e st).1
  | ct e st => exact absurd rfl (h e st).2
  | _ => exact p
/-- only: goes on, raises, or nothing is said -/
def Fl.only : Fl → Fl
  | .rt _ _ | .bk _ _ | .ct _ _ => .no
  | r => r
def mAsgO (m : Me) (k : Mg) : Ms := fun e st => (m e st).fl e fun d st1 => (k d e st1).only
theorem s_asg {ns : List Nat} {tg : Expr} {k : Mg} (he : PE X e (fE (gc X) Wx m)) (hg : PG X tg (fTg (gc X) Wx ns k)) (hs : swapsWithSole [tg] e pos.line X.env = pure false := by rfl) (hw : swappedStores [tg] e X.env = pure none := by rfl)
    (h1 : (assignEach [tg] X.env).map (·.2) = [assign tg X.env] := by rfl) : PS X (.Assign [tg] e pos) (fS (gc X) Wx (mAsgO m k)) :=
  PS.imp (ps_asg he hg hs hw h1) fun D σ H h => by
    show fE (gc X) Wx m σ H fun v H1 => fTg (gc X) Wx ns k v σ H1 D.nx
    refine fG_mono (liftS h) fun v H' ⟨W, env, d, e0, s, r, hv, p⟩ => ⟨W, env, d, e0, s, r, hv, ?_⟩
    dsimp only at p
    cases q : k d env W.st with
    | nx _ _ => rw [q] at p; exact fun W1 σ1 e1 s1 hs r1 _ => p W1 σ1 e1 s1 hs r1
    | exc _ _ _ => rw [q] at p; exact p
    | _ => rw [q] at p; exact p.elim
end
end FL
end
section
set_option Elab.async false
set_option linter.all false
set_option maxRecDepth 100000
/-! FLK: what a loop walks; loops. -/
namespace FL
open PySem PySem.Spec PyProof.Rows L2

/-! ### the walked -/
/-- the walked cell, if it is one, stands as it stood -/
def gdOk (gd : Option Nat) (all : List D) (st : Store) : Bool := match gd with
  | none => true
  | some n => match st[n]? with
    | some (.lst xs) => shL xs 40 && shL all 40 && eqvL xs all
    | _ => false
structure ItOk (g : Gc) (J : It) (W : Wd) (ds : List D) : Prop where
  go : ∀ (W' : Wd) (i : Nat) (d : D), ExtW W W' → SR g W' → ds[i]? = some d → J.go i W'.H ∧ ∀ x H', J.yld i W'.H x H' → ∃ W'', W''.H = H' ∧ Ext W' W'' ∧ SR g W'' ∧ W''.st = W'.st ∧ Den g W'' x d
  stop : ∀ (W' : Wd) (i : Nat), ExtW W W' → SR g W' → ds.length = i → J.stop i W'.H
theorem ItOk.ext {g : Gc} {J : It} {W W1 : Wd} {ds : List D} (h : ItOk g J W ds) (e : ExtW W W1) : ItOk g J W1 ds := ⟨fun W' i d e' => h.go W' i d (e.trans e'), fun W' i e' => h.stop W' i (e.trans e')⟩
abbrev Mi := En → Store → Res (List D)
def fI (g : Gc) (Wx : WX) (m : Mi) : TI := fun σ H R => ∃ (W : Wd) (env : En), W.H = H ∧ SR g W ∧ EnvR g W σ env ∧ Post g W (wx g Wx σ) (m env W.st) fun ds W' => ∀ J, ItOk g J W' ds → R J W'.H
theorem PI.imp {X : Cx} {tg e : Expr} {t t' : TI} (h : PI X tg e t) (i : ∀ σ H Q, t' σ H Q → t σ H Q) : PI X tg e t' := ⟨fun pins s σ H Q I q => h.run pins s σ H Q I (i _ _ _ q)⟩
theorem PI.or {X : Cx} {tg e : Expr} {t t' : TI} (h : PI X tg e t) (h' : PI X tg e t') : PI X tg e fun σ H Q => t σ H Q ∨ t' σ H Q := ⟨fun pins s σ H Q I q => q.elim (h.run pins s σ H Q I) (h'.run pins s σ H Q I)⟩
section
variable {g : Gc} {W : Wd} {a : Addr} {vs : List V} {ds : List D}
theorem it_list (h : W.H a = some (.lst vs)) (n : ¬ Mu W a) (l : DenL g W vs ds) : ItOk g (Itl g.K a) W ds := by
  refine ⟨fun W' i d e s hd => ?_, fun W' i e s hi => ?_⟩
  · obtain ⟨v, hv, hd'⟩ := (l.monoW e).getD' hd
    have h1 : SqL g.K W'.H a vs := SqL.of (e.fz _ _ h n).1
    refine ⟨⟨vs, v, h1, hv⟩, fun x H' ⟨e1, hx⟩ => ⟨W', e1.symm, Ext.refl _, s, rfl, ?_⟩⟩
    have := hx vs h1
    rw [hv] at this
    cases this
    exact hd'
  · exact ⟨vs, SqL.of (e.fz _ _ h n).1, by rw [l.length]; exact Nat.le_of_eq hi⟩
theorem it_tup (h : SqT g.K W.H a vs) (n : W.H a = some (.tup vs) → ¬ Mu W a) (l : DenL g W vs ds) (hk : W.H a = some (.tup vs) ∨ TupK g.K a vs) : ItOk g (Itt g.K a) W ds := by
  have keep : ∀ W', ExtW W W' → SqT g.K W'.H a vs := fun W' e => by
    rcases hk with hk | hk
    · exact .inl (.inl (e.fz _ _ hk (n hk)).1)
    · exact .inr hk
  refine ⟨fun W' i d e s hd => ?_, fun W' i e s hi => ?_⟩
  · obtain ⟨v, hv, hd'⟩ := (l.monoW e).getD' hd
    refine ⟨⟨vs, v, keep W' e, hv⟩, fun x H' ⟨e1, hx⟩ => ⟨W', e1.symm, Ext.refl _, s, rfl, ?_⟩⟩
    have := hx vs (keep W' e)
    rw [hv] at this
    cases this
    exact hd'
  · exact ⟨vs, keep W' e, by rw [l.length]; exact Nat.le_of_eq hi⟩
def rgD (lo : Int) (n : Nat) : List D := (List.range n).map fun i => .int (lo + (i : Nat))
theorem it_rng (lo : Int) (n : Nat) : ItOk g (Itr lo n) W (rgD lo n) := by
  refine ⟨fun W' i d e s hd => ?_, fun W' i e s hi => ?_⟩
  · unfold rgD at hd
    rw [List.getElem?_map] at hd
    obtain ⟨j, hj, rfl⟩ := Option.map_eq_some_iff.mp hd
    obtain ⟨hl, hr⟩ := List.getElem?_eq_some_iff.mp hj
    rw [List.length_range] at hl
    rw [List.getElem_range] at hr
    subst hr
    exact ⟨hl, fun x H' ⟨e1, e2⟩ => ⟨W', e1.symm, Ext.refl _, s, rfl, by rw [e2]; exact .int _⟩⟩
  · unfold rgD at hi
    rw [List.length_map, List.length_range] at hi
    exact Nat.le_of_eq hi
end
section
variable {X : Cx} {Wx : WX} {pos p2 : Pos} {tg e e2 : Expr} {m m2 : Me} {ma : Ma}
/-- a frozen list -/
def iL (m : Me) : Mi := fun e st => (m e st).bind fun d st1 => match d with
  | .lst xs => .ok xs st1
  | _ => .no
theorem i_list (h : PE X e (fE (gc X) Wx m)) : PI X tg e (fI (gc X) Wx (iL m)) := PI.imp (pi_list h) fun σ H R h => by
  obtain ⟨W, env, rfl, s, r, p⟩ := h
  refine ⟨W, env, rfl, s, r, ?_⟩
  dsimp only [iL] at p
  cases q : m env W.st with
  | exc x st1 => rw [q] at p; exact p
  | no => rw [q] at p; exact p
  | ok d st1 =>
    rw [q] at p
    refine fun W1 e1 s1 hs v hv => ?_
    cases d with
    | lst xs =>
      obtain ⟨a, vs, rfl, h1, n1, l⟩ := hv.lst_inv
      exact ⟨a, rfl, ⟨vs, SqL.of h1⟩, p W1 e1 s1 hs _ (it_list h1 n1 l)⟩
    | _ => exact p.elim
def iScr (m : Me) : Mi := fun e st => (m e st).bind fun d st1 => match d with
  | .scr ns => .ok (ns.map .int) st1
  | _ => .no
theorem den_ints {g : Gc} {W : Wd} : ∀ ns : List Int, DenL g W (ns.map V.int) (ns.map D.int)
  | [] => .nil
  | n :: ns => .cons (.int n) (den_ints ns)
theorem i_scr (h : PE X e (fE (gc X) Wx m)) : PI X tg e (fI (gc X) Wx (iScr m)) := PI.imp (pi_list h) fun σ H R h => by
  obtain ⟨W, env, rfl, s, r, p⟩ := h
  refine ⟨W, env, rfl, s, r, ?_⟩
  dsimp only [iScr] at p
  cases q : m env W.st with
  | exc x st1 => rw [q] at p; exact p
  | no => rw [q] at p; exact p
  | ok d st1 =>
    rw [q] at p
    refine fun W1 e1 s1 hs v hv => ?_
    cases d with
    | scr ns =>
      have fin : ∀ {a : Addr}, (∀ W', ExtW W1 W' → SqL X.K W'.H a (ns.map V.int)) → ∃ b, V.ref a = .ref b ∧ (∃ xs, SqL X.K W1.H b xs) ∧ R (Itl X.K b) W1.H := fun {a} sq => by
        refine ⟨a, rfl, ⟨_, sq W1 (ExtW.refl _)⟩, p W1 e1 s1 hs _ ⟨fun W' i d e s hd => ?_, fun W' i e s hi => ?_⟩⟩
        · obtain ⟨v, hv, hd'⟩ := (den_ints (g := gc X) (W := W') ns).getD' hd
          refine ⟨⟨_, v, sq W' e, hv⟩, fun x H' ⟨e1, hx⟩ => ⟨W', e1.symm, Ext.refl _, s, rfl, ?_⟩⟩
          have := hx _ (sq W' e)
          rw [hv] at this
          cases this
          exact hd'
        · exact ⟨_, sq W' e, by have := Nat.le_of_eq hi; simpa using this⟩
      cases hv with
      | @scr a o _ h1 n1 => exact fin fun W' e => .inl (.inr ⟨o, (e.fz _ _ h1 n1).1⟩)
      | scrK h1 => exact fin fun W' e => .inr h1
    | _ => exact p.elim
def iT (m : Me) : Mi := fun e st => (m e st).bind fun d st1 => match d with
  | .tup xs => .ok xs st1
  | _ => .no
theorem i_tup (h : PE X e (fE (gc X) Wx m)) : PI X tg e (fI (gc X) Wx (iT m)) := PI.imp (pi_tup h) fun σ H R h => by
  obtain ⟨W, env, rfl, s, r, p⟩ := h
  refine ⟨W, env, rfl, s, r, ?_⟩
  dsimp only [iT] at p
  cases q : m env W.st with
  | exc x st1 => rw [q] at p; exact p
  | no => rw [q] at p; exact p
  | ok d st1 =>
    rw [q] at p
    refine fun W1 e1 s1 hs v hv => ?_
    cases d with
    | tup xs =>
      cases hv with
      | tupH h1 n1 l => exact ⟨_, rfl, ⟨_, SqT.of h1⟩, p W1 e1 s1 hs _ (it_tup (SqT.of h1) (fun _ => n1) l (.inl h1))⟩
      | tupK h1 l =>
        refine ⟨_, rfl, ⟨_, .inr h1⟩, p W1 e1 s1 hs _ (it_tup (.inr h1) (fun h2 => fun mu => ?_) l (.inr h1))⟩
        rcases mu with mu | ⟨n, c, q1, q2, q3⟩
        · obtain ⟨⟨o, h3, h4⟩, _⟩ := s1.rx _ mu
          exact h4 _ (Option.some.inj (h3.symm.trans h2))
        have ok := s1.cell n _ c q1 q2
        cases c with
        | lst ds => obtain ⟨vs, h3, _⟩ := ok; rw [h2] at h3; cases h3
        | dic ds => obtain ⟨vs, h3, _⟩ := ok; rw [h2] at h3; cases h3
        | nd ds => obtain ⟨xs, ⟨_, _, o, es, ep, ws, _, h3, _⟩, _⟩ := ok; rw [h2] at h3; cases h3
        | ins ds => obtain ⟨vs, _, h3, _⟩ := ok; rw [h2] at h3; cases h3
        | dead => cases q3
    | _ => exact p.elim
/-- list or tuple, whichever -/
def iSq (m : Me) : Mi := fun e st => (m e st).bind fun d st1 => match d with
  | .tup xs => .ok xs st1
  | .lst xs => .ok xs st1
  | _ => .no
theorem i_seq (h : PE X e (fE (gc X) Wx m)) : PI X tg e (fI (gc X) Wx (iSq m)) := PI.imp (FL.PI.or (i_tup h) (i_list h)) fun σ H R h => by
  obtain ⟨W, env, rfl, s, r, p⟩ := h
  dsimp only [iSq] at p
  cases q : m env W.st with
  | exc x st1 => rw [q] at p; exact .inl ⟨W, env, rfl, s, r, by dsimp only [iT]; rw [q]; exact p⟩
  | no => rw [q] at p; exact p.elim
  | ok d st1 =>
    rw [q] at p
    cases d with
    | tup xs => exact .inl ⟨W, env, rfl, s, r, by dsimp only [iT]; rw [q]; exact p⟩
    | lst xs => exact .inr ⟨W, env, rfl, s, r, by dsimp only [iL]; rw [q]; exact p⟩
    | _ => exact p.elim
/-- range(n), range(a, b) -/
def iR1 (ma : Ma) : Mi := fun e st => (ma e st).bind fun ds st1 => match ds with
  | [.int j] => if -(2 ^ 62) ≤ j ∧ j < 2 ^ 62 then .ok (rgD 0 j.toNat) st1 else .no
  | _ => .no
theorem i_rng1 (hg : Gl X "range") (hm : X.mg "range" = none) (ha : PA X [e] (fA (gc X) Wx ma)) (hs : starEach [e] X.env = [(false, eval e X.env)] := by rfl) : PI X tg (.Call (.Name "range" p2) [e] [] pos) (fI (gc X) Wx (iR1 ma)) :=
  PI.imp (pi_range1 hg hm ha hs) fun σ H R h => by
    obtain ⟨W, env, rfl, s, r, p⟩ := h
    refine ⟨W, env, rfl, s, r, ?_⟩
    dsimp only [iR1] at p
    cases q : ma env W.st with
    | exc x st1 => rw [q] at p; exact p
    | no => rw [q] at p; exact p
    | ok ds st1 =>
      rw [q] at p
      refine fun W1 e1 s1 hs v hv => ?_
      cases hv with
      | nil => exact p.elim
      | @cons v d vs ds h1 t =>
        cases t with
        | cons _ _ => cases d <;> exact p.elim
        | nil =>
          cases d with
          | int j =>
            cases h1.int_inv
            dsimp only [Res.bind] at p
            split at p
            · rename_i hj
              exact ⟨j, rfl, hj.1, hj.2, p W1 e1 s1 hs _ (it_rng 0 j.toNat)⟩
            · exact p.elim
          | _ => exact p.elim
def iR2 (ma : Ma) : Mi := fun e st => (ma e st).bind fun ds st1 => match ds with
  | [.int i, .int j] => if -(2 ^ 62) ≤ i ∧ i < 2 ^ 62 ∧ -(2 ^ 62) ≤ j ∧ j < 2 ^ 62 then .ok (rgD i (j - i).toNat) st1 else .no
  | _ => .no
theorem i_rng2 (hg : Gl X "range") (hm : X.mg "range" = none) (ha : PA X [e, e2] (fA (gc X) Wx ma)) (hs : starEach [e, e2] X.env = [(false, eval e X.env), (false, eval e2 X.env)] := by rfl) (hs2 : starEach [e2] X.env = [(false, eval e2 X.env)] := by rfl) : PI X tg (.Call (.Name "range" p2) [e, e2] [] pos) (fI (gc X) Wx (iR2 ma)) :=
  PI.imp (pi_range2 hg hm ha hs hs2) fun σ H R h => by
    obtain ⟨W, env, rfl, s, r, p⟩ := h
    refine ⟨W, env, rfl, s, r, ?_⟩
    dsimp only [iR2] at p
    cases q : ma env W.st with
    | exc x st1 => rw [q] at p; exact p
    | no => rw [q] at p; exact p
    | ok ds st1 =>
      rw [q] at p
      refine fun W1 e1 s1 hs v hv => ?_
      cases hv with
      | nil => exact p.elim
      | @cons v d vs ds h1 t =>
        cases t with
        | nil => cases d <;> exact p.elim
        | @cons v2 d2 vs ds h2 t =>
          cases t with
          | cons _ _ => cases d <;> cases d2 <;> exact p.elim
          | nil =>
            cases d with
            | int i =>
              cases d2 with
              | int j =>
                cases h1.int_inv
                cases h2.int_inv
                dsimp only [Res.bind] at p
                split at p
                · rename_i hj
                  exact ⟨i, j, rfl, hj, p W1 e1 s1 hs _ (it_rng i (j - i).toNat)⟩
                · exact p.elim
              | _ => exact p.elim
            | _ => cases d2 <;> exact p.elim
end
end FL
end
section
set_option Elab.async false
set_option linter.all false
set_option maxRecDepth 100000
/-! FLL: loops, blocks that drop their cells, comprehensions. -/
namespace FL
open PySem PySem.Spec PyProof.Rows L2

/-! ### cells dropped behind a block -/
def lowO (L : Nat) : Option D → Option D
  | some d => if d.low L = true then some d else none
  | none => none
def scp (L : Nat) : Fl → Fl
  | .nx e st => if st.length = L then .nx e st else if (st.take L).all (Cell.low L) = true then .nx (e.map (lowO L)) (st.take L) else .no
  | .ct e st => if st.length = L then .ct e st else if (st.take L).all (Cell.low L) = true then .ct (e.map (lowO L)) (st.take L) else .no
  | .bk e st => if st.length = L then .bk e st else if (st.take L).all (Cell.low L) = true then .bk (e.map (lowO L)) (st.take L) else .no
  | r => r
def mScope (ms : Ms) : Ms := fun e st => scp st.length (ms e st)
theorem EnvR.cut {g : Gc} {W : Wd} {σ : L2.St} {env : En} (r : EnvR g W σ env) (L : Nat) : EnvR g (W.cut L) σ (env.map (lowO L)) := by
  refine ⟨by rw [List.length_map]; exact r.len, fun i d h => ?_⟩
  rw [List.getElem?_map] at h
  obtain ⟨o, ho, e⟩ := Option.map_eq_some_iff.mp h
  cases o with
  | none => cases e
  | some d' =>
    dsimp only [lowO] at e
    by_cases hd : d'.low L = true
    · rw [if_pos hd] at e
      cases e
      obtain ⟨v, h1, h2⟩ := r.at_ i d ho
      exact ⟨v, h1, h2.cut hd⟩
    · rw [if_neg hd] at e; cases e
theorem scp_ok {g : Gc} {W : Wd} {Wx : WX} {r : Fl} {Z : Ends} (s : SR g W) (p : PostS g W Wx (scp W.st.length r) Z) : PostS g W Wx r Z := by
  have cutS : ∀ {W' : Wd}, Ext W W' → SR g W' → (W'.st.take W.st.length).all (Cell.low W.st.length) = true → Ext W (W'.cut W.st.length) ∧ SR g (W'.cut W.st.length) := fun e s' h => ⟨e.cut (by rw [s.len]; exact Nat.le_refl _), s'.cut (List.all_eq_true.mp h)⟩
  cases r with
  | nx e st =>
    dsimp only [scp] at p
    split at p
    · exact p
    · split at p
      · rename_i h
        intro W' σ' e' s' hs r
        rw [← hs] at h p
        obtain ⟨c1, c2⟩ := cutS e' s' h
        exact p (W'.cut W.st.length) σ' c1 c2 rfl (r.cut _)
      · exact p.elim
  | ct e st =>
    dsimp only [scp] at p
    split at p
    · exact p
    · split at p
      · rename_i h
        intro W' σ' e' s' hs r
        rw [← hs] at h p
        obtain ⟨c1, c2⟩ := cutS e' s' h
        exact p (W'.cut W.st.length) σ' c1 c2 rfl (r.cut _)
      · exact p.elim
  | bk e st =>
    dsimp only [scp] at p
    split at p
    · exact p
    · split at p
      · rename_i h
        intro W' σ' e' s' hs r
        rw [← hs] at h p
        obtain ⟨c1, c2⟩ := cutS e' s' h
        exact p (W'.cut W.st.length) σ' c1 c2 rfl (r.cut _)
      · exact p.elim
  | _ => exact p
theorem fS_scope {g : Gc} {Wx : WX} {ms : Ms} {Z : Ends} {σ : L2.St} {H : Hp} (h : fS g Wx (mScope ms) Z σ H) : fS g Wx ms Z σ H := by
  obtain ⟨W, env, e, s, r, p⟩ := h
  exact ⟨W, env, e, s, r, scp_ok s p⟩
theorem ss_scope {X : Cx} {Wx : WX} {sts : List Stmt} {ms : Ms} (h : PSs X sts (fS (gc X) Wx ms)) : PSs X sts (fS (gc X) Wx (mScope ms)) := PSs.imp h fun D σ H q => fS_scope q

/-! ### while -/
def whL (t : Mt) (b : Ms) : Nat → Ms
  | 0, _, _ => .no
  | n + 1, e, st => (t e st).flB e fun c st1 => if c = true then (match b e st1 with
    | .nx e2 st2 => whL t b n e2 st2
    | .ct e2 st2 => whL t b n e2 st2
    | .bk e2 st2 => .nx e2 st2
    | r => r) else .nx e st1
theorem s_while {X : Cx} {Wx : WX} {pos : Pos} {c : Expr} {body : List Stmt} {t : Mt} {b : Ms} (n : Nat) (hp : PassesOwn (model X.prog X.w) X.A X.env X.xe) (hc : PT X c (fT (gc X) Wx t)) (hb : PSs X body (fS (gc X) Wx b)) : PS X (.While c body [] pos) (fS (gc X) Wx (whL t b n)) :=
  PS.imp (ps_while hp hc hb) fun Z σ H h => by
    refine ⟨fun m σ H => fS (gc X) Wx (whL t b m) Z σ H, ⟨n, h⟩, fun m σ H h => ?_⟩
    cases m with
    | zero => obtain ⟨W, env, rfl, s, r, p⟩ := h; exact p.elim
    | succ m =>
      refine fG_mono (liftSB (k := fun c e st1 => if c = true then (match b e st1 with
        | .nx e2 st2 => whL t b m e2 st2
        | .ct e2 st2 => whL t b m e2 st2
        | .bk e2 st2 => .nx e2 st2
        | r => r) else .nx e st1) h) fun c H' q => ?_
      cases c with
      | false =>
        rw [if_neg Bool.false_ne_true]
        obtain ⟨W, env, rfl, s, r, p⟩ := q
        simp only [Bool.false_eq_true, if_false] at p
        exact p W σ (Ext.refl W) s rfl r
      | true =>
        rw [if_pos rfl]
        refine ⟨fun σ H => fS (gc X) Wx (whL t b m) Z σ H, fun σ' H' h => ⟨m, Nat.lt_succ_self m, h⟩, ?_⟩
        obtain ⟨W, env, rfl, s, r, p⟩ := q
        refine ⟨W, env, rfl, s, r, ?_⟩
        simp only [if_true] at p
        cases q : b env W.st with
        | nx e2 st2 => rw [q] at p; exact fun W1 σ1 e1 s1 hs r1 => ⟨W1, e2, rfl, s1, r1, by rw [hs]; exact PostS.ext p e1⟩
        | ct e2 st2 => rw [q] at p; exact fun W1 σ1 e1 s1 hs r1 => ⟨W1, e2, rfl, s1, r1, by rw [hs]; exact PostS.ext p e1⟩
        | bk e2 st2 => rw [q] at p; exact p
        | rt e2 st2 => rw [q] at p; exact p
        | exc x e2 st2 => rw [q] at p; exact p
        | no => rw [q] at p; exact p

/-! ### for -/
def foL (k : Mg) (b : Ms) : List D → Ms
  | [], e, st => .nx e st
  | x :: xs, e, st => match (k x e st).only with
    | .nx e1 st1 => (match b e1 st1 with
      | .nx e2 st2 => foL k b xs e2 st2
      | .ct e2 st2 => foL k b xs e2 st2
      | .bk e2 st2 => .nx e2 st2
      | r => r)
    | r => r
def mFor (mi : Mi) (k : Mg) (b : Ms) : Ms := fun e st => (mi e st).flB e fun xs st1 => foL k b xs e st1
theorem s_for {X : Cx} {Wx : WX} {pos : Pos} {tg iter : Expr} {body : List Stmt} {mi : Mi} {k : Mg} {b : Ms} {ns : List Nat} (hp : PassesOwn (model X.prog X.w) X.A X.env X.xe) (hc : X.calm = true) (hi : PI X tg iter (fI (gc X) Wx mi)) (hg : PG X tg (fTg (gc X) Wx ns k))
    (hb : PSs X body (fS (gc X) Wx b)) (hs : ∀ x, foldedSetIterable iter X.env x = pure x := by intro _; rfl) : PS X (.For tg iter body [] pos) (fS (gc X) Wx (mFor mi k b)) :=
  PS.imp (ps_for hp hc hi hg hb hs) fun Z σ H h => by
    obtain ⟨W, env, rfl, s, r, p⟩ := h
    refine ⟨W, env, rfl, s, r, ?_⟩
    dsimp only [mFor] at p
    cases q : mi env W.st with
    | exc x st1 => rw [q] at p; exact fun W1 e1 s1 hs => p W1 σ e1 s1 hs (r.mono e1)
    | no => rw [q] at p; exact p
    | ok xs st1 =>
      rw [q] at p
      refine fun W1 e1 s1 hs J ok => ?_
      refine ⟨fun i m σ H => m = xs.length - i ∧ i ≤ xs.length ∧ ∃ (W2 : Wd) (env : En), W2.H = H ∧ Ext W1 W2 ∧ SR (gc X) W2 ∧ EnvR (gc X) W2 σ env ∧ PostS (gc X) W2 Wx (foL k b (xs.drop i) env W2.st) Z,
        ⟨xs.length, by simp, Nat.zero_le _, W1, env, rfl, Ext.refl _, s1, r.mono e1, by rw [hs]; exact PostS.ext p e1⟩, ?_⟩
      rintro i m σ H ⟨rfl, hi, W2, env2, rfl, e2, s2, r2, p2⟩
      by_cases hlt : i < xs.length
      · obtain ⟨d, hd⟩ : ∃ d, xs[i]? = some d := ⟨xs[i], by simp [hlt]⟩
        obtain ⟨go, yld⟩ := ok.go W2 i d e2.toExtW s2 hd
        have hdrop : xs.drop i = d :: xs.drop (i + 1) := by
          rw [List.drop_eq_getElem_cons hlt]
          congr 1
          rw [List.getElem?_eq_getElem hlt] at hd
          exact Option.some.inj hd
        rw [hdrop] at p2
        refine .inr ⟨go, fun σ' H' => i + 1 ≤ xs.length ∧ ∃ (W2 : Wd) (env : En), W2.H = H' ∧ Ext W1 W2 ∧ SR (gc X) W2 ∧ EnvR (gc X) W2 σ' env ∧ PostS (gc X) W2 Wx (foL k b (xs.drop (i + 1)) env W2.st) Z, fun σ' H' ⟨h1, h2⟩ => ⟨xs.length - (i + 1), by omega, rfl, h1, h2⟩, fun x H' y => ?_⟩
        obtain ⟨W3, rfl, e3, s3, hs3, hv⟩ := yld x H' y
        refine ⟨W3, env2, d, rfl, s3, r2.mono e3, hv, ?_⟩
        rw [hs3]
        have p3 := PostS.ext p2 e3
        dsimp only [foL] at p3
        cases q3 : k d env2 W2.st with
        | exc x e st => rw [q3] at p3; exact p3
        | nx e4 st4 =>
          rw [q3] at p3
          refine fun W4 σ4 e4' s4 hs4 r4 _ => ⟨W4, e4, rfl, s4, r4, ?_⟩
          dsimp only [Fl.only] at p3
          have p4 := PostS.ext p3 e4'
          rw [hs4]
          cases q5 : b e4 st4 with
          | nx e5 st5 => rw [q5] at p4; exact fun W5 σ5 e5' s5 hs5 r5 => ⟨hlt, W5, e5, rfl, (((e2.trans e3).trans e4').trans e5'), s5, r5, by rw [hs5]; exact PostS.ext p4 e5'⟩
          | ct e5 st5 => rw [q5] at p4; exact fun W5 σ5 e5' s5 hs5 r5 => ⟨hlt, W5, e5, rfl, (((e2.trans e3).trans e4').trans e5'), s5, r5, by rw [hs5]; exact PostS.ext p4 e5'⟩
          | bk e5 st5 => rw [q5] at p4; exact p4
          | rt e5 st5 => rw [q5] at p4; exact p4
          | exc x e5 st5 => rw [q5] at p4; exact p4
          | no => rw [q5] at p4; exact p4
        | _ => rw [q3] at p3; exact p3.elim
      · have ei : i = xs.length := by omega
        subst ei
        refine .inl ⟨ok.stop W2 _ e2.toExtW s2 rfl, ?_⟩
        rw [List.drop_length] at p2
        exact p2 W2 σ (Ext.refl _) s2 rfl r2

/-! ### comprehensions -/
def wipeE (e : En) : List Nat → En
  | [] => e
  | v :: vs => (wipeE e vs).set v none
theorem EnvR.wipe {g : Gc} {W : Wd} {σ : L2.St} {env : En} (r : EnvR g W σ env) : ∀ vs : List Nat, EnvR g W (L2.wipe σ vs) (wipeE env vs)
  | [] => r
  | v :: vs => by
    have ih := r.wipe vs
    refine ⟨by show ((L2.wipe σ vs).set v none).length = ((wipeE env vs).set v none).length; rw [List.length_set, List.length_set]; exact ih.len, fun i d h => ?_⟩
    have h' : ((wipeE env vs).set v none)[i]? = some (some d) := h
    show ∃ u, ((L2.wipe σ vs).set v none)[i]? = some (some u) ∧ _
    by_cases e : v = i
    · subst e
      by_cases hl : v < (wipeE env vs).length
      · rw [List.getElem?_set_self hl] at h'; cases h'
      · rw [List.getElem?_eq_none (by simpa using hl)] at h'; cases h'
    · rw [List.getElem?_set_ne e] at h'
      rw [List.getElem?_set_ne e]
      exact ih.at_ i d h'
def tYe : Mt := fun _ st => .ok true st
def lcL (k : Mg) (t : Mt) (m : Me) (e : En) : List D → Store → List D → Res (List D)
  | [], st, acc => .ok acc st
  | x :: xs, st, acc => match k x e st with
    | .nx e1 st1 => (t e1 st1).bindN fun b st2 => if b = true then (m e1 st2).bindN fun d st3 => (if acc.length < BIG then lcL k t m e xs st3 (acc ++ [d]) else .no) else lcL k t m e xs st2 acc
    | _ => .no
def mLc (vs : List Nat) (mi : Mi) (k : Mg) (t : Mt) (m : Me) : Me := fun e st => (mi e st).bind fun xs st1 => (lcL k t m (wipeE e vs) xs st1 []).bind fun ys st2 => .ok (.lst ys) st2
/-- .. made as a cell -/
def mLcC (vs : List Nat) (mi : Mi) (k : Mg) (t : Mt) (m : Me) : Me := fun e st => (mi e st).bind fun xs st1 => (lcL k t m (wipeE e vs) xs st1 []).bind fun ys st2 => .ok (.ref st2.length) (st2 ++ [.lst ys])
abbrev noX : WX := fun _ _ _ _ => False
theorem t_yes {X : Cx} : PTs X [] (fT (gc X) noX tYe) := ⟨fun pins s σ H Q I h => pts_nil.run pins s σ H Q I (fT_ok h)⟩
theorem t_one {X : Cx} {c : Expr} {t : Mt} (h : PT X c (fT (gc X) noX t)) : PTs X [c] (fT (gc X) noX t) := pts_one h
end FL
end
section
set_option Elab.async false
set_option linter.all false
set_option maxRecDepth 100000
/-! FLM: list comprehensions. -/
namespace FL
open PySem PySem.Spec PyProof.Rows L2

/-- the new list at p is kept for the comprehension -/
def Wd.push (W : Wd) (p : Addr) (vs : List V) : Wd := { W with H := upd W.H p (.lst vs), rs := p :: W.rs }
/-- as Ext, but for what stands at p -/
structure ExtP (p : Addr) (W W' : Wd) : Prop extends ExtW W W' where
  rs : W'.rs = W.rs
  rk : ∀ a ∈ W.rs, a ≠ p → W'.H a = W.H a
theorem ExtP.refl {p : Addr} (W : Wd) : ExtP p W W := ⟨.refl W, rfl, fun _ _ _ => rfl⟩
theorem ExtP.trans {p : Addr} {W W1 W2 : Wd} (a : ExtP p W W1) (b : ExtP p W1 W2) : ExtP p W W2 :=
  ⟨a.toExtW.trans b.toExtW, b.rs.trans a.rs, fun c h n => (b.rk c (by rw [a.rs]; exact h) n).trans (a.rk c h n)⟩
theorem Ext.toP {p : Addr} {W W' : Wd} (e : Ext W W') : ExtP p W W' := ⟨e.toExtW, e.rs, fun a h _ => e.rk a h⟩
section
variable {g : Gc} {W : Wd} {p : Addr}
theorem push_mono {vs : List V} (hp : W.H p = none) : ExtW W (W.push p vs) := by
  refine ⟨fun a o h n => ?_, fun _ _ h => h⟩
  have ha : a ≠ p := fun e => by rw [e, hp] at h; cases h
  refine ⟨by show upd W.H p _ a = _; rw [upd_ne ha]; exact h, ?_⟩
  rintro (m | m)
  · rcases List.mem_cons.mp m with m | m
    · exact ha m
    · exact n (.inl m)
  · exact n (.inr m)
theorem SR.push {vs : List V} (s : SR g W) (hp : W.H p = none) : SR g (W.push p vs) := by
  have hn : ∀ {a : Addr}, (∃ o, W.H a = some o) → a ≠ p := fun ⟨o, h⟩ e => by rw [e, hp] at h; cases h
  have st : ∀ {a : Addr} {u : HO}, W.H a = some u → upd W.H p (.lst vs) a = some u := fun h => by rw [upd_ne (hn ⟨_, h⟩)]; exact h
  refine ⟨s.len, s.nd, fun a ha => (s.ex a ha).imp fun _ h => st h, fun a ha => ?_, fun n a c h1 h2 => (s.cell n a c h1 h2).mono (push_mono hp) fun hl => upd_ne (hn ((s.cell n a c h1 h2).there hl))⟩
  rcases List.mem_cons.mp ha with e | ha
  · subst e
    exact ⟨⟨_, upd_same, fun xs e => nomatch e⟩, fun h => hn (s.ex _ h) rfl⟩
  · exact ⟨(s.rx a ha).1.imp fun _ h => ⟨st h.1, h.2⟩, (s.rx a ha).2⟩
/-- .. is written -/
def Wd.wr (W : Wd) (p : Addr) (vs : List V) : Wd := { W with H := upd W.H p (.lst vs) }
theorem wr_ext {vs : List V} (hp : p ∈ W.rs) : ExtP p W (W.wr p vs) := by
  refine ⟨⟨fun a o h n => ?_, fun _ _ h => h⟩, rfl, fun a _ n => upd_ne n⟩
  have ha : a ≠ p := fun e => n (.inl (e ▸ hp))
  exact ⟨by show upd W.H p _ a = _; rw [upd_ne ha]; exact h, n⟩
theorem SR.wr {vs : List V} (s : SR g W) (hp : p ∈ W.rs) : SR g (W.wr p vs) := by
  have hcs : p ∉ W.cs := (s.rx p hp).2
  have hne : ∀ {a}, a ∈ W.cs → a ≠ p := fun h e => hcs (e ▸ h)
  refine ⟨s.len, s.nd, fun a ha => ?_, fun a ha => ⟨?_, (s.rx a ha).2⟩, fun n a c h1 h2 => (s.cell n a c h1 h2).mono (wr_ext hp).toExtW fun hl => upd_ne (hne (List.mem_of_getElem? h1))⟩
  · show ∃ u, upd W.H p _ a = some u
    rw [upd_ne (hne ha)]; exact s.ex a ha
  · show ∃ u, upd W.H p _ a = some u ∧ _
    by_cases h : a = p
    · subst h; exact ⟨_, upd_same, fun xs e => nomatch e⟩
    · rw [upd_ne h]; exact (s.rx a ha).1
/-- .. is given free: a new frozen list -/
def Wd.pop (W : Wd) : Wd := { W with rs := W.rs.tail }
theorem pop_mono : ExtW W W.pop := ⟨fun a o h n => ⟨h, fun m => n (m.elim (fun m => .inl (List.mem_of_mem_tail m)) .inr)⟩, fun _ _ h => h⟩
theorem SR.pop (s : SR g W) : SR g W.pop := ⟨s.len, s.nd, s.ex, fun a ha => s.rx a (List.mem_of_mem_tail ha), fun n a c h1 h2 => (s.cell n a c h1 h2).mono pop_mono fun _ => rfl⟩
end
theorem wipe_wipe (σ : L2.St) : ∀ vs : List Nat, L2.wipe (L2.wipe σ vs) vs = L2.wipe σ vs
  | [] => rfl
  | v :: vs => by
    show (L2.wipe ((L2.wipe σ vs).set v none) vs).set v none = (L2.wipe σ vs).set v none
    by_cases h : v ∈ vs
    · rw [wipe_set h, wipe_wipe σ vs]
    · rw [wipe_set_out h, wipe_wipe σ vs, List.set_set]
/-- what is wanted behind the comprehension's turns -/
def PostC (g : Gc) (W0 : Wd) (p : Addr) (r : Res (List D)) (R : Wd → List D → Prop) : Prop := match r with
  | .ok ys st' => ∀ W' vs, ExtP p W0 W' → SR g W' → W'.st = st' → W'.H p = some (.lst vs) → DenL g W' vs ys → R W' ys
  | _ => False
theorem PostC.ext {g : Gc} {W0 W1 : Wd} {p : Addr} {r : Res (List D)} {R : Wd → List D → Prop} (h : PostC g W0 p r R) (e : ExtP p W0 W1) : PostC g W1 p r R := by
  cases r with
  | ok ys st => exact fun W' vs e' => h W' vs (e.trans e')
  | _ => exact h
section
variable {X : Cx} {Wx : WX} {elt tg iter : Expr} {ifs : List Expr} {scope : Scope} {own : List (Str × Nat)} {pos : Pos} {mi : Mi} {k : Mg} {t : Mt} {m : Me}
theorem lcL_no_exc {e : En} : ∀ (xs : List D) (st : Store) (acc : List D) (x : Exn) (st' : Store), lcL k t m e xs st acc ≠ .exc x st'
  | [], st, acc, x, st', h => by cases h
  | y :: xs, st, acc, x, st', h => by
    unfold lcL at h
    cases q : k y e st with
    | nx e1 st1 =>
      rw [q] at h
      dsimp only at h
      cases q2 : t e1 st1 with
      | ok b st2 =>
        rw [q2] at h
        dsimp only [Res.bindN] at h
        split at h
        · cases q3 : m e1 st2 with
          | ok d st3 =>
            rw [q3] at h
            dsimp only at h
            split at h
            · exact lcL_no_exc xs _ _ _ _ h
            · cases h
          | exc _ _ => rw [q3] at h; cases h
          | no => rw [q3] at h; cases h
        · exact lcL_no_exc xs _ _ _ _ h
      | exc _ _ => rw [q2] at h; cases h
      | no => rw [q2] at h; cases h
    | _ => rw [q] at h; cases h
theorem lc_im {σ : L2.St} {H : Hp} {Q : VK} {vs : List Nat} {fin : List D → Store → Res D} (h : fE (gc X) Wx (fun e st => (mi e st).bind fun xs st1 => (lcL k t m (wipeE e vs) xs st1 []).bind fin) σ H Q)
    (hfin : ∀ (W : Wd) (W2 : Wd) (p : Addr) (us : List V) (ys : List D), Ext W W2.pop → W.H p = none → p ∉ W2.rs.tail → SR (gc X) W2 → p ∈ W2.rs → W2.H p = some (.lst us) → DenL (gc X) W2 us ys → Post (gc X) W (wx (gc X) Wx σ) (fin ys W2.st) (fun d W' => ∀ b, rD (gc X) W' b d → Q b W'.H) → Q (.ref p) W2.H) :
    tLc (fI (gc X) Wx mi) (fTg (gc X) noX vs k) (fT (gc X) noX t) (fE (gc X) noX m) vs σ H Q := by
  obtain ⟨W, env, rfl, s, r, p⟩ := h
  refine ⟨W, env, rfl, s, r, ?_⟩
  dsimp only at p
  cases q : mi env W.st with
  | exc x st1 => rw [q] at p; exact p
  | no => rw [q] at p; exact p
  | ok xs st1 =>
    rw [q] at p
    refine fun W1 e1 s1 hs J ok a ha => ?_
    have p1 := Post.ext p e1
    dsimp only [Res.bind] at p1
    rw [← hs] at p1
    have sp : SR (gc X) (W1.push a []) := s1.push ha
    have anr : a ∉ W1.rs := fun h => by obtain ⟨⟨o, h1, _⟩, _⟩ := s1.rx a h; rw [ha] at h1; cases h1
    have unpush : ∀ {W' : Wd}, ExtP a (W1.push a []) W' → Ext W1 W'.pop := fun {W'} e' => by
      have er : W'.rs = a :: W1.rs := e'.rs
      refine ⟨(push_mono ha).trans (e'.toExtW.trans pop_mono), by show W'.rs.tail = W1.rs; rw [er]; rfl, fun b hb => ?_⟩
      have hba : b ≠ a := fun e => anr (e ▸ hb)
      have h1 : W'.H b = (W1.push a []).H b := e'.rk b (List.mem_cons_of_mem _ hb) hba
      show W'.H b = W1.H b
      rw [h1]
      exact upd_ne hba
    have start : PostC (gc X) (W1.push a []) a (lcL k t m (wipeE env vs) xs W1.st []) fun W' ys => Q (.ref a) W'.H := by
      cases q2 : lcL k t m (wipeE env vs) xs W1.st [] with
      | exc x st2 => exact absurd q2 (lcL_no_exc _ _ _ _ _)
      | no => rw [q2] at p1; exact p1
      | ok ys st2 =>
        rw [q2] at p1
        intro W' us e' s' hs' hH hl
        have er : W'.rs = a :: W1.rs := e'.rs
        exact hfin W1 W' a us ys (unpush e') ha (by rw [er]; exact anr) s' (by rw [er]; exact List.mem_cons_self) hH hl (by rw [hs']; exact p1)
    refine ⟨fun i n H => n = xs.length - i ∧ i ≤ xs.length ∧ ∃ (W2 : Wd) (us : List V) (acc : List D), W2.H = H ∧ ExtP a (W1.push a []) W2 ∧ SR (gc X) W2 ∧ W2.H a = some (.lst us) ∧ DenL (gc X) W2 us acc ∧ PostC (gc X) W2 a (lcL k t m (wipeE env vs) (xs.drop i) W2.st acc) fun W' ys => Q (.ref a) W'.H,
      ⟨xs.length, by simp, Nat.zero_le _, W1.push a [], [], [], rfl, ExtP.refl _, sp, upd_same, .nil, start⟩, ?_⟩
    rintro i n H ⟨rfl, hi, W2, us, acc, rfl, e2, s2, h2, l2, p2⟩
    have er2 : W2.rs = a :: W1.rs := e2.rs
    have ha2 : a ∈ W2.rs := by rw [er2]; exact List.mem_cons_self
    have e12 : ExtW W1 W2 := (push_mono ha).trans e2.toExtW
    by_cases hlt : i < xs.length
    · obtain ⟨d, hd⟩ : ∃ d, xs[i]? = some d := ⟨xs[i], by simp [hlt]⟩
      obtain ⟨go, yld⟩ := ok.go W2 i d e12 s2 hd
      have hdrop : xs.drop i = d :: xs.drop (i + 1) := by
        rw [List.drop_eq_getElem_cons hlt]
        congr 1
        rw [List.getElem?_eq_getElem hlt] at hd
        exact Option.some.inj hd
      rw [hdrop] at p2
      refine .inr ⟨go, fun H' => i + 1 ≤ xs.length ∧ ∃ (W2 : Wd) (us : List V) (acc : List D), W2.H = H' ∧ ExtP a (W1.push a []) W2 ∧ SR (gc X) W2 ∧ W2.H a = some (.lst us) ∧ DenL (gc X) W2 us acc ∧ PostC (gc X) W2 a (lcL k t m (wipeE env vs) (xs.drop (i + 1)) W2.st acc) fun W' ys => Q (.ref a) W'.H,
        fun H' ⟨h1, h2⟩ => ⟨xs.length - (i + 1), by omega, rfl, h1, h2⟩, fun x H' y => ?_⟩
      obtain ⟨W3, rfl, e3, s3, hs3, hv⟩ := yld x H' y
      have er : EnvR (gc X) W3 (L2.wipe σ vs) (wipeE env vs) := (((r.mono e1).wipe vs).monoW e12).mono e3
      refine ⟨W3, wipeE env vs, d, rfl, s3, er, hv, ?_⟩
      rw [hs3]
      unfold lcL at p2
      cases q3 : k d (wipeE env vs) W2.st with
      | nx e4 st4 =>
        rw [q3] at p2
        dsimp only at p2
        refine fun W4 σ4 e4' s4 hs4 r4 hw => ⟨hw.trans (wipe_wipe σ vs), W4, e4, rfl, s4, r4, ?_⟩
        rw [hs4]
        cases q4 : t e4 st4 with
        | exc _ _ => rw [q4] at p2; exact p2.elim
        | no => rw [q4] at p2; exact p2.elim
        | ok b st5 =>
          rw [q4] at p2
          dsimp only [Res.bindN] at p2
          refine fun W5 e5 s5 hs5 b' hb => ?_
          subst hb
          have eA : ExtP a W2 W5 := ((e3.trans e4').trans e5).toP
          have hA : W5.H a = some (.lst us) := by
            rw [((e3.trans e4').trans e5).rk a ha2]; exact h2
          cases b' with
          | false =>
            simp only [Bool.false_eq_true, if_false] at p2 ⊢
            exact ⟨hlt, W5, us, acc, rfl, e2.trans eA, s5, hA, l2.monoW eA.toExtW, by rw [hs5]; exact p2.ext eA⟩
          | true =>
            simp only [if_true] at p2 ⊢
            refine ⟨W5, e4, rfl, s5, r4.mono e5, ?_⟩
            rw [hs5]
            cases q6 : m e4 st5 with
            | exc _ _ => rw [q6] at p2; exact p2.elim
            | no => rw [q6] at p2; exact p2.elim
            | ok y st6 =>
              rw [q6] at p2
              dsimp only at p2
              refine fun W6 e6 s6 hs6 u hu => ?_
              have eB : ExtP a W2 W6 := eA.trans e6.toP
              have ha6 : a ∈ W6.rs := by rw [eB.rs]; exact ha2
              have hB : W6.H a = some (.lst us) := by rw [e6.rk a (by rw [eA.rs]; exact ha2)]; exact hA
              split at p2
              · rename_i hz
                have l6 := l2.monoW eB.toExtW
                refine ⟨us, hB, by rw [l6.length, big_eq]; exact hz, hlt, W6.wr a (us ++ [u]), us ++ [u], acc ++ [y], rfl, (e2.trans eB).trans (wr_ext ha6), s6.wr ha6, upd_same, (l6.append (.cons hu .nil)).monoW (wr_ext ha6).toExtW, ?_⟩
                show PostC (gc X) (W6.wr a (us ++ [u])) a (lcL k t m (wipeE env vs) (xs.drop (i + 1)) W6.st (acc ++ [y])) _
                rw [hs6]
                exact p2.ext (eB.trans (wr_ext ha6))
              · exact p2.elim
      | _ => rw [q3] at p2; exact p2.elim
    · have ei : i = xs.length := by omega
      subst ei
      refine .inl ⟨ok.stop W2 _ e12 s2 rfl, ?_⟩
      rw [List.drop_length] at p2
      exact p2 W2 us (ExtP.refl _) s2 rfl h2 l2
/-- the comprehension's list is frozen; a cell -/
theorem lc_frozen {σ : L2.St} {Q : VK} {W W2 : Wd} {p : Addr} {us : List V} {ys : List D} (e : Ext W W2.pop) (hn : W.H p = none) (hr : p ∉ W2.rs.tail) (s2 : SR (gc X) W2) (hp : p ∈ W2.rs) (hH : W2.H p = some (.lst us)) (l : DenL (gc X) W2 us ys)
    (q : Post (gc X) W (wx (gc X) Wx σ) (.ok (.lst ys) W2.st) (fun d W' => ∀ b, rD (gc X) W' b d → Q b W'.H)) : Q (.ref p) W2.H := by
  refine q W2.pop e s2.pop rfl _ (.lstH hH ?_ (l.monoW pop_mono))
  rintro (m | ⟨n, c, h1, _, _⟩)
  · exact hr m
  · exact (s2.rx p hp).2 (List.mem_of_getElem? h1)
theorem lc_cell {σ : L2.St} {Q : VK} {W W2 : Wd} {p : Addr} {us : List V} {ys : List D} (e : Ext W W2.pop) (hn : W.H p = none) (hr : p ∉ W2.rs.tail) (s2 : SR (gc X) W2) (hp : p ∈ W2.rs) (hH : W2.H p = some (.lst us)) (l : DenL (gc X) W2 us ys)
    (q : Post (gc X) W (wx (gc X) Wx σ) (.ok (.ref W2.st.length) (W2.st ++ [.lst ys])) (fun d W' => ∀ b, rD (gc X) W' b d → Q b W'.H)) : Q (.ref p) W2.H := by
  have hcs : p ∉ W2.cs := (s2.rx p hp).2
  have l' := l.monoW pop_mono
  -- the world with p as a cell
  have mu : ∀ {a}, Mu { W2.pop with cs := W2.cs ++ [p], st := W2.st ++ [.lst ys] } a → a = p ∨ Mu W2.pop a := by
    rintro a (m | ⟨n, c, h1, h2, h3⟩)
    · exact .inr (.inl m)
    have h1' : (W2.cs ++ [p])[n]? = some a := h1
    have h2' : (W2.st ++ [.lst ys])[n]? = some c := h2
    by_cases hm : n < W2.cs.length
    · rw [List.getElem?_append_left hm] at h1'
      rw [List.getElem?_append_left (by rw [← s2.len]; exact hm)] at h2'
      exact .inr (.inr ⟨n, c, h1', h2', h3⟩)
    · rw [List.getElem?_append_right (by omega)] at h1'
      cases hq : n - W2.cs.length with
      | zero => rw [hq] at h1'; simp at h1'; exact .inl h1'.symm
      | succ j => rw [hq] at h1'; simp at h1'
  have x2 : ExtW W2 { W2.pop with cs := W2.cs ++ [p], st := W2.st ++ [.lst ys] } := by
    refine ⟨fun a o h n => ⟨h, fun m => ?_⟩, fun n a h => ?_⟩
    · rcases mu m with m | m
      · subst m; exact n (.inl hp)
      · exact (pop_mono.fz a o h n).2 m
    · have hm : n < W2.cs.length := (List.getElem?_eq_some_iff.mp h).1
      show (W2.cs ++ [p])[n]? = some a
      rw [List.getElem?_append_left hm]; exact h
  have x1 : Ext W { W2.pop with cs := W2.cs ++ [p], st := W2.st ++ [.lst ys] } := by
    refine ⟨⟨fun a o h n => ?_, fun n a h => ?_⟩, e.rs, e.rk⟩
    · obtain ⟨h1, n1⟩ := e.fz a o h n
      refine ⟨h1, fun m => ?_⟩
      rcases mu m with m | m
      · subst m; rw [hn] at h; cases h
      · exact n1 m
    · have h1 : W2.cs[n]? = some a := e.cs n a h
      have hm : n < W2.cs.length := (List.getElem?_eq_some_iff.mp h1).1
      show (W2.cs ++ [p])[n]? = some a
      rw [List.getElem?_append_left hm]; exact h1
  refine q _ x1 ⟨?_, ?_, fun a ha => ?_, fun a ha => ?_, fun n a c h1 h2 => ?_⟩ rfl _ (.ref ?_)
  · show (W2.cs ++ [p]).length = (W2.st ++ [Cell.lst ys]).length; simp [s2.len]
  · exact List.nodup_append.mpr ⟨s2.nd, by simp, fun x hx y hy q => by simp at hy; subst hy; exact hcs (q ▸ hx)⟩
  · rcases List.mem_append.mp ha with h | h
    · exact s2.ex a h
    · simp at h; subst h; exact ⟨_, hH⟩
  · have ha' : a ∈ W2.rs.tail := ha
    refine ⟨(s2.rx a (List.mem_of_mem_tail ha')).1, fun h => ?_⟩
    rcases List.mem_append.mp h with h | h
    · exact (s2.rx a (List.mem_of_mem_tail ha')).2 h
    · simp at h; subst h; exact hr ha'
  · have h1' : (W2.cs ++ [p])[n]? = some a := h1
    have h2' : (W2.st ++ [.lst ys])[n]? = some c := h2
    by_cases hm : n < W2.cs.length
    · rw [List.getElem?_append_left hm] at h1'
      rw [List.getElem?_append_left (by rw [← s2.len]; exact hm)] at h2'
      exact (s2.cell n a c h1' h2').mono x2 fun _ => rfl
    · rw [List.getElem?_append_right (by omega)] at h1'
      rw [List.getElem?_append_right (by rw [← s2.len]; omega)] at h2'
      cases hq : n - W2.cs.length with
      | zero =>
        rw [hq] at h1'
        rw [← s2.len, hq] at h2'
        simp at h1' h2'
        subst h1' h2'
        exact ⟨us, hH, l.monoW x2⟩
      | succ j => rw [hq] at h1'; simp at h1'
  · show (W2.cs ++ [p])[W2.st.length]? = some p
    rw [← s2.len]; simp
theorem e_lc (hc : X.calm = true) (hN : X.N.Nodup) (hi : PI X tg iter (fI (gc X) Wx mi)) (ok : BlkOk X.N X.env.scope scope own)
    (hg : ∀ (s : Shared) (H : Hp) (C : Addr) (cl : List (Str × Addr)) (fp : List Addr), PG (X.blk s H scope (compEnvC scope cl C X.env) fp) tg (fTg (gc X) noX (own.map (·.2)) k))
    (ht : ∀ (s : Shared) (H : Hp) (C : Addr) (cl : List (Str × Addr)) (fp : List Addr), PTs (X.blk s H scope (compEnvC scope cl C X.env) fp) ifs (fT (gc X) noX t))
    (he : ∀ (s : Shared) (H : Hp) (C : Addr) (cl : List (Str × Addr)) (fp : List Addr), PE (X.blk s H scope (compEnvC scope cl C X.env) fp) elt (fE (gc X) noX m)) (hs : ∀ x, foldedSetIterable iter X.env x = pure x := by intro _; rfl) :
    PE X (.ListComp elt [⟨tg, iter, ifs, 0⟩] scope pos) (fE (gc X) Wx (mLc (own.map (·.2)) mi k t m)) :=
  PE.imp (pe_lc hc hN hi ok hg ht he hs) fun σ H Q h => lc_im h fun W W2 p us ys a1 a2 a3 a4 a5 a6 a7 a8 => lc_frozen a1 a2 a3 a4 a5 a6 a7 a8
theorem e_lcC (hc : X.calm = true) (hN : X.N.Nodup) (hi : PI X tg iter (fI (gc X) Wx mi)) (ok : BlkOk X.N X.env.scope scope own)
    (hg : ∀ (s : Shared) (H : Hp) (C : Addr) (cl : List (Str × Addr)) (fp : List Addr), PG (X.blk s H scope (compEnvC scope cl C X.env) fp) tg (fTg (gc X) noX (own.map (·.2)) k))
    (ht : ∀ (s : Shared) (H : Hp) (C : Addr) (cl : List (Str × Addr)) (fp : List Addr), PTs (X.blk s H scope (compEnvC scope cl C X.env) fp) ifs (fT (gc X) noX t))
    (he : ∀ (s : Shared) (H : Hp) (C : Addr) (cl : List (Str × Addr)) (fp : List Addr), PE (X.blk s H scope (compEnvC scope cl C X.env) fp) elt (fE (gc X) noX m)) (hs : ∀ x, foldedSetIterable iter X.env x = pure x := by intro _; rfl) :
    PE X (.ListComp elt [⟨tg, iter, ifs, 0⟩] scope pos) (fE (gc X) Wx (mLcC (own.map (·.2)) mi k t m)) :=
  PE.imp (pe_lc hc hN hi ok hg ht he hs) fun σ H Q h => lc_im h fun W W2 p us ys a1 a2 a3 a4 a5 a6 a7 a8 => lc_cell a1 a2 a3 a4 a5 a6 a7 a8
end
end FL
end
section
set_option Elab.async false
set_option linter.all false
set_option maxRecDepth 100000
/-! FLN: a def's contract, calls. -/
namespace FL
open PySem PySem.Spec PyProof.Rows L2

/-! ### a def as a function of data -/
def popR (L : Nat) (d : D) (st : Store) : Res D := if st.length = L then .ok d st else if (d.low L && (st.take L).all (Cell.low L)) = true then .ok d (st.take L) else .no
def popX (L : Nat) (x : Exn) (st : Store) : Res D := if st.length = L then .exc x st else if (lowF L x.2 && (st.take L).all (Cell.low L)) = true then .exc x (st.take L) else .no
def finF (keep : Bool) (L : Nat) (r : Fl) : Res D := match r with
  | .nx _ st => if keep = true then .ok .non st else popR L .non st
  | .rt d st => if keep = true then .ok d st else popR L d st
  | .exc x _ st => if keep = true then .exc x st else popX L x st
  | _ => .no
def mkF (keep : Bool) (n N : Nat) (b : Ms) (ds : List D) (st : Store) : Res D := if ds.length = n then finF keep st.length (b (ds.map some ++ List.replicate (N - n) none) st) else .no
/-- the promise -/
def spF (g : Gc) (F : List D → Store → Res D) : Sp := fun vs H Q E => ∃ (W : Wd) (ds : List D), W.H = H ∧ SR g W ∧ DenL g W vs ds ∧
  Post g W (fun x W' => ∀ cls dd, ExD g W' cls dd x → E cls dd W'.H) (F ds W.st) fun d W' => ∀ v, Den g W' v d → Q v W'.H
theorem ExD.cut {g : Gc} {W : Wd} {cls : Value} {dd : Option Addr} {x : Exn} {L : Nat} (h : ExD g W cls dd x) (hl : lowF L x.2 = true) : ExD g (W.cut L) cls dd x := by
  obtain ⟨x1, x2⟩ := x
  obtain ⟨h1, h2⟩ := h
  refine ⟨h1, ?_⟩
  cases x2 with
  | nil => exact h2
  | cons p r =>
    obtain ⟨a, vs, q1, q2, q3, q4, q5⟩ := h2
    exact ⟨a, vs, q1, q2, fun m => q3 m.cut, q4, q5.cut (lowF_v hl)⟩
theorem start_env {g : Gc} {W : Wd} {vs : List V} {ds : List D} {N : List Str} (l : DenL g W vs ds) (n : Nat) (hn : ds.length = n) : EnvR g W (L2.start N vs) (ds.map some ++ List.replicate (N.length - n) none) := by
  refine ⟨by unfold L2.start; simp [l.length, hn], fun i d h => ?_⟩
  unfold L2.start
  by_cases hi : i < ds.length
  · rw [List.getElem?_append_left (by simpa using hi), List.getElem?_map] at h
    obtain ⟨d', hd, e⟩ := Option.map_eq_some_iff.mp h
    cases e
    obtain ⟨v, hv, hd'⟩ := l.getD' hd
    refine ⟨v, ?_, hd'⟩
    rw [List.getElem?_append_left (by rw [List.length_map, l.length]; exact hi), List.getElem?_map, hv]; rfl
  · rw [List.getElem?_append_right (by simpa using hi)] at h
    rw [List.getElem?_replicate] at h
    split at h <;> cases h
section
variable {P : Program} {w : World} {K : PySem.W.Frag} {mg : Str → Option Value} {base : Heap}
theorem mk_body {N ps : List Str} {b : Ms} {keep : Bool} {W : Wd} {ds : List D} {vs : List V} {Q : VK} {E : XK} (_hpre : N.take ps.length = ps) (l : DenL ⟨P, w, K⟩ W vs ds) (hn : ds.length = ps.length) (s : SR ⟨P, w, K⟩ W)
    (p : Post ⟨P, w, K⟩ W (fun x W' => ∀ cls dd, ExD ⟨P, w, K⟩ W' cls dd x → E cls dd W'.H) (finF keep W.st.length (b (ds.map some ++ List.replicate (N.length - ps.length) none) W.st)) fun d W' => ∀ v, Den ⟨P, w, K⟩ W' v d → Q v W'.H) :
    fS ⟨P, w, K⟩ (fun cls dd _ H => E cls dd H) b { nx := fun _ H' => Q .non H', rt := Q } (L2.start N vs) W.H := by
  refine ⟨W, ds.map some ++ List.replicate (N.length - ps.length) none, rfl, s, start_env l _ hn, ?_⟩
  have cutS : ∀ {W' : Wd}, Ext W W' → SR ⟨P, w, K⟩ W' → (W'.st.take W.st.length).all (Cell.low W.st.length) = true → Ext W (W'.cut W.st.length) ∧ SR ⟨P, w, K⟩ (W'.cut W.st.length) := fun e s' h => ⟨e.cut (by rw [s.len]; exact Nat.le_refl _), s'.cut (List.all_eq_true.mp h)⟩
  have popOk : ∀ (d : D) (st' : Store), Post ⟨P, w, K⟩ W (fun x W' => ∀ cls dd, ExD ⟨P, w, K⟩ W' cls dd x → E cls dd W'.H) (if keep = true then .ok d st' else popR W.st.length d st') (fun d W' => ∀ v, Den ⟨P, w, K⟩ W' v d → Q v W'.H) →
      ∀ W' v, Ext W W' → SR ⟨P, w, K⟩ W' → W'.st = st' → Den ⟨P, w, K⟩ W' v d → Q v W'.H := by
    intro d st' p W' v e s' hs hv
    split at p
    · exact p W' e s' hs v hv
    · dsimp only [popR] at p
      split at p
      · exact p W' e s' hs v hv
      · split at p
        · rename_i h
          obtain ⟨l1, l2⟩ := ba2 h
          rw [← hs] at l2 p
          obtain ⟨c1, c2⟩ := cutS e s' l2
          exact p (W'.cut W.st.length) c1 c2 rfl v (hv.cut l1)
        · exact p.elim
  cases q : b (ds.map some ++ List.replicate (N.length - ps.length) none) W.st with
  | nx e st' =>
    rw [q] at p
    exact fun W' σ' e' s' hs r => popOk .non st' p W' .non e' s' hs .non
  | rt d st' =>
    rw [q] at p
    exact fun W' v e' s' hs hv => popOk d st' p W' v e' s' hs hv
  | exc x e st' =>
    rw [q] at p
    intro W' σ' e' s' hs r cls dd hx
    dsimp only [finF] at p
    split at p
    · exact p W' e' s' hs cls dd hx
    · dsimp only [popX] at p
      split at p
      · exact p W' e' s' hs cls dd hx
      · split at p
        · rename_i h
          obtain ⟨l1, l2⟩ := ba2 h
          rw [← hs] at l2 p
          obtain ⟨c1, c2⟩ := cutS e' s' l2
          exact p (W'.cut W.st.length) c1 c2 rfl cls dd (hx.cut l1)
        · exact p.elim
  | bk e st' => rw [q] at p; exact p.elim
  | ct e st' => rw [q] at p; exact p.elim
  | no => rw [q] at p; exact p.elim
/-- a def keeps its contract -/
theorem fn_ok {x qual : Str} {st : Stmt} {f : Addr} {fd : FuncData} {N ps : List Str} {k : Nat} {b : Ms} {keep : Bool} (F : Fun K x qual st f fd) (S : FnScope N ps (defScope st))
    (hb : ∀ (cdv : Value) (A : Around) (outer : List Env) (s : Shared) (H : Hp) (E : XK), Room k (A.deeper (envOfC qual (defScope st) s.heap.objs.size f cdv)) →
      PSs (cxOf (L2.CX P w) P w K mg base N qual (defScope st) f cdv A outer s H E) (defBody st) (fS ⟨P, w, K⟩ (fun cls dd _ H => E cls dd H) b)) :
    FnOk P w K mg base (L2.CX P w) (k + 1) f fd ps (spF ⟨P, w, K⟩ (mkF keep ps.length N.length b)) := by
  refine F.okX S (fun vs H Q E h => ?_) (fun cdv A outer s H vs Q E hr h => ⟨_, hb cdv A outer s H E hr, ?_⟩)
  · obtain ⟨W, ds, rfl, s, l, p⟩ := h
    dsimp only [mkF] at p
    split at p
    · rw [l.length]; assumption
    · exact p.elim
  · obtain ⟨W, ds, rfl, s, l, p⟩ := h
    dsimp only [mkF] at p
    split at p
    · rename_i hn
      exact mk_body S.pre l hn s p
    · exact p.elim
end

/-! ### calls -/
section
variable {X : Cx} {Wx : WX} {k : Nat} {f : Addr} {fd : FuncData} {ps : List Str} {F : List D → Store → Res D} {x : Str} {p pos : Pos} {e : Expr} {es : List Expr} {m : Ma}
theorem e_call (G : FnOk X.prog X.w X.K X.mg X.base (L2.CX X.prog X.w) k f fd ps (spF (gc X) F)) (hr : Room k X.A) (tk : Takes X Wx) (hg : Gl X x) (hm : X.mg x = some (.ref f)) (hk : PySem.W.keepIn X.K (.ref f) = true) (hb : Binds X.K fd ps [])
    (ha : PA X (e :: es) (fA (gc X) Wx m)) (hdb : (x == ("__debug__" : Str)) = false := by decide) (he : starEach (e :: es) X.env = (false, eval e X.env) :: starEach es X.env := by rfl) (hpl : (backTo pos (starEach es X.env)).any (·.1) = false := by rfl) :
    PE X (.Call (.Name x p) (e :: es) [] pos) (fE (gc X) Wx (aL F m)) :=
  PE.imp (pe_callS G hr hg hm hk hb (passAt tk) ha hdb he hpl) fun σ H Q h => by
    dsimp only [tCallS]
    exact fG_mono (liftL h) fun vs H' ⟨W, ds, e0, s, l, p⟩ => ⟨W, ds, e0, s, l, p⟩
theorem e_call0 (G : FnOk X.prog X.w X.K X.mg X.base (L2.CX X.prog X.w) k f fd ps (spF (gc X) F)) (hr : Room k X.A) (tk : Takes X Wx) (hg : Gl X x) (hm : X.mg x = some (.ref f)) (hk : PySem.W.keepIn X.K (.ref f) = true) (hb : Binds X.K fd ps [])
    (hdb : (x == ("__debug__" : Str)) = false := by decide) :
    PE X (.Call (.Name x p) [] [] pos) (fE (gc X) Wx fun _ st => F [] st) := by
  refine ⟨fun pins s σ H Q I h => ?_⟩
  refine wpAny_Call_Name_kw (ld_glob I hg hm ?_ hdb)
  obtain ⟨W, env, rfl, sr, r, p⟩ := h
  exact PySem.W.callWith_K0 I.kIn hk (run_fnS (us := []) G hr hb (passAt tk σ) I .nil ⟨W, [], rfl, sr, .nil, p⟩)
end
end FL
end
section
set_option Elab.async false
set_option linter.all false
set_option maxRecDepth 100000
/-! FLO: instances: fields, methods, properties, new ones. -/
namespace FL
open PySem PySem.Spec PyProof.Rows L2

abbrev cA (X : Cx) (c : S) : Addr := He.ga X.K (toS c)
/-- the fields of an instance of class c -/
def flds (c : S) : D → Store → Option (List (S × D))
  | .obj c' fs, _ => if c' = c then some fs else none
  | .ref n, st => match st[n]? with
    | some (.ins c' fs) => if c' = c then some fs else none
    | _ => none
  | _, _ => none
theorem flds_inv {g : Gc} {W : Wd} {v : V} {c : S} {d : D} {fs : List (S × D)} (s : SR g W) (h : Den g W v d) (e : flds c d W.st = some fs) :
    ∃ a dx vs, v = .ref a ∧ W.H a = some (.ins (He.ga g.K (toS c)) dx vs) ∧ vs.map (·.1) = fs.map (fun p => toS p.1) ∧ DenL g W (vs.map (·.2)) (fs.map (·.2)) := by
  cases d with
  | obj c' fs' =>
    dsimp only [flds] at e
    split at e
    · rename_i hc
      subst hc
      cases e
      cases h with
      | obj h1 h2 h3 h4 => exact ⟨_, _, _, rfl, h1, h3, h4⟩
    · cases e
  | ref n =>
    cases h with
    | @ref a _ ha =>
    dsimp only [flds] at e
    cases q : W.st[n]? with
    | none => rw [q] at e; cases e
    | some cl =>
      rw [q] at e
      have ok := s.cell n a cl ha q
      cases cl with
      | ins c' fs' =>
        dsimp only at e
        split at e
        · rename_i hc
          subst hc
          cases e
          obtain ⟨dx, vs, h1, h2, h3⟩ := ok
          exact ⟨a, dx, vs, rfl, h1, h2, h3⟩
        · cases e
      | _ => cases e
  | _ => cases e
theorem lookup_den {g : Gc} {W : Wd} {f : S} {d : D} : ∀ {vs : List (Str × V)} {fs : List (S × D)}, vs.map (·.1) = fs.map (fun p => toS p.1) → DenL g W (vs.map (·.2)) (fs.map (·.2)) → fs.lookup f = some d → ∃ v, vs.lookup (toS f) = some v ∧ Den g W v d
  | [], [], _, _, e => by cases e
  | [], _ :: _, h, _, _ => by cases h
  | _ :: _, [], h, _, _ => by cases h
  | (x, v) :: vs, (f', d') :: fs, h, l, e => by
    have h1 : x = toS f' := (List.cons.inj h).1
    have h2 := (List.cons.inj h).2
    cases l with
    | cons hv l =>
      rw [List.lookup_cons] at e ⊢
      subst h1
      by_cases hf : f = f'
      · subst hf
        simp only [beq_self_eq_true] at e ⊢
        cases e
        exact ⟨v, rfl, hv⟩
      · have b1 : (f == f') = false := beq_eq_false_iff_ne.mpr hf
        have b2 : (toS f == toS f') = false := beq_eq_false_iff_ne.mpr fun q => hf (toS_inj q)
        rw [b1] at e
        rw [b2]
        exact lookup_den h2 l e
theorem lookup_none {f : S} : ∀ {vs : List (Str × V)} {fs : List (S × D)}, vs.map (·.1) = fs.map (fun p => toS p.1) → fs.lookup f = none → vs.lookup (toS f) = none
  | [], [], _, _ => rfl
  | [], _ :: _, h, _ => by cases h
  | _ :: _, [], h, _ => by cases h
  | (x, v) :: vs, (f', d') :: fs, h, e => by
    have h1 : x = toS f' := (List.cons.inj h).1
    have h2 := (List.cons.inj h).2
    rw [List.lookup_cons] at e ⊢
    subst h1
    by_cases hf : f = f'
    · subst hf; simp at e
    · have b1 : (f == f') = false := beq_eq_false_iff_ne.mpr hf
      have b2 : (toS f == toS f') = false := beq_eq_false_iff_ne.mpr fun q => hf (toS_inj q)
      rw [b1] at e
      rw [b2]
      exact lookup_none h2 e
def oFld (c f : S) (x : D) (st : Store) : Res D := match flds c x st with
  | some fs => match fs.lookup f with
    | some d => .ok d st
    | none => .no
  | none => .no
section
variable {X : Cx} {Wx : WX} {pos : Pos} {e : Expr} {m : Me} {c f : S} {F : Str}
theorem e_fld (hF : F = toS f) (hc : Cls X.K (cA X c)) (hn : NoAttr X.K (cA X c) F) (he : PE X e (fE (gc X) Wx m)) (hb : attributeBase e F X.env (eval e X.env) = eval e X.env := by rfl) : PE X (.Attribute e F pos) (fE (gc X) Wx (a1 (oFld c f) m)) :=
  PE.imp (pe_fld he hb) fun σ H Q h => by
    dsimp only [tFld]
    refine fG_mono (lift1 h) fun v H' ⟨W, d, e0, s, h1, p⟩ => ?_
    subst e0
    dsimp only [oFld] at p
    cases q : flds c d W.st with
    | none => rw [q] at p; exact p.elim
    | some fs =>
      rw [q] at p
      dsimp only at p
      obtain ⟨a, dx, vs, rfl, hh, k1, k2⟩ := flds_inv s h1 q
      cases q2 : fs.lookup f with
      | none => rw [q2] at p; exact p.elim
      | some d' =>
        rw [q2] at p
        obtain ⟨v', hv', hd'⟩ := lookup_den k1 k2 q2
        refine ⟨a, _, dx, vs, v', rfl, hh, hc, hn, by rw [hF]; exact hv', p W (Ext.refl W) s rfl v' hd'⟩
/-! methods -/
variable {k : Nat} {g : Addr} {fd : FuncData} {ps : List Str} {FF : List D → Store → Res D} {apos : Pos} {o : Expr} {es : List Expr} {ma : Ma} {M : Str}
/-- o.m(..): the receiver of class c without a field of that name -/
def mMeth (c f : S) (F : List D → Store → Res D) (m : Me) (ma : Ma) : Me := fun e st => (m e st).bind fun d st1 => match flds c d st1 with
  | some fs => if fs.lookup f = none then (ma e st1).bind fun ds st2 => F (d :: ds) st2 else .no
  | none => .no
theorem e_meth {pl : Sem Bool} (hM : M = toS f) (he : PE X o (fE (gc X) Wx m)) (c' : Cls X.K (cA X c)) (hm : Meth X.K (cA X c) M g) (G : FnOk X.prog X.w X.K X.mg X.base (L2.CX X.prog X.w) k g fd ps (spF (gc X) FF)) (hr : Room k X.A) (tk : Takes X Wx) (hb : Binds X.K fd ps [])
    (ha : PA X (e :: es) (fA (gc X) Wx ma)) (hst : starEach (e :: es) X.env = (false, eval e X.env) :: starEach es X.env := by rfl) (hpl : (backTo pos (starEach es X.env)).any (·.1) = false := by rfl)
    (ht : eval (.Call (.Attribute o M apos) (e :: es) [] pos) X.env = (do
      let ov ← eval o X.env
      standAt apos.atName
      let (f, first) ← holding [ov] (getMethod ov M pl)
      callWith pos f first (backTo pos (starEach (e :: es) X.env)) (backToKw pos (keywordEach [] X.env))) := by rfl) :
    PE X (.Call (.Attribute o M apos) (e :: es) [] pos) (fE (gc X) Wx (mMeth c f FF m ma)) := by
  refine ⟨fun pins s σ H Q I h => ?_⟩
  have h' : fE (gc X) Wx m σ H fun x H1 => ∃ (a : Addr) (dx : Addr) (fs : List (Str × V)), x = .ref a ∧ H1 a = some (.ins (cA X c) dx fs) ∧ fs.lookup M = none ∧ fA (gc X) Wx ma σ H1 fun vs H2 => spF (gc X) FF (x :: vs) H2 Q (WE Wx σ) := by
    obtain ⟨W, env, rfl, s, r, p⟩ := h
    refine ⟨W, env, rfl, s, r, ?_⟩
    dsimp only [mMeth] at p
    cases q : m env W.st with
    | exc x st1 => rw [q] at p; exact p
    | no => rw [q] at p; exact p
    | ok d st1 =>
      rw [q] at p
      refine fun W1 e1 s1 hs v hv => ?_
      dsimp only [Res.bind] at p
      rw [← hs] at p
      cases q2 : flds c d W1.st with
      | none => rw [q2] at p; exact p.elim
      | some fs =>
        rw [q2] at p
        dsimp only at p
        obtain ⟨a, dx, vs, rfl, hh, k1, k2⟩ := flds_inv s1 hv q2
        split at p
        · rename_i hl
          refine ⟨a, dx, vs, rfl, hh, by rw [hM]; exact lookup_none k1 hl, W1, env, rfl, s1, r.mono e1, ?_⟩
          cases q3 : ma env W1.st with
          | exc x st1 => rw [q3] at p; exact Post.ext p e1
          | no => rw [q3] at p; exact p
          | ok ds st2 =>
            rw [q3] at p
            exact fun W2 e2 s2 hs2 ws hw => ⟨W2, d :: ds, rfl, s2, .cons (hv.mono e2) hw, by rw [hs2]; exact Post.ext (Post.ext p e1) e2⟩
        · exact p.elim
  refine PySem.W.methodCall_KW (pl := pl) (thn (he.run pins s σ H _ I h') fun u s1 ⟨x, H1, I1, rx, a, dx, fs, ex, ea, l, q⟩ => ?_) ht
  subst ex
  obtain rfl : u = Value.ref a := rx
  refine getmeth_ok I1 ea c' hm l ?_
  refine PySem.W.callWith_K (first := [.ref a]) (h₀ := X.base) I.ok.mod.kin hm.kp (thn (ha.run pos pins s1 σ H1 _ I1 q) fun us s2 ⟨vs, H2, I2, r, q2⟩ => ⟨I2.kIn, ?_⟩) hst hpl
  exact run_fnS (us := .ref a :: us) (vs := .ref a :: vs) G hr hb (passAt tk σ) I2 (.cons rfl r) q2
theorem e_meth0 {pl : Sem Bool} (hM : M = toS f) (he : PE X o (fE (gc X) Wx m)) (c' : Cls X.K (cA X c)) (hm : Meth X.K (cA X c) M g) (G : FnOk X.prog X.w X.K X.mg X.base (L2.CX X.prog X.w) k g fd ps (spF (gc X) FF)) (hr : Room k X.A) (tk : Takes X Wx) (hb : Binds X.K fd ps [])
    (ht : eval (.Call (.Attribute o M apos) [] [] pos) X.env = (do
      let ov ← eval o X.env
      standAt apos.atName
      let (f, first) ← holding [ov] (getMethod ov M pl)
      callWith pos f first (backTo pos (starEach [] X.env)) (backToKw pos (keywordEach [] X.env))) := by rfl) :
    PE X (.Call (.Attribute o M apos) [] [] pos) (fE (gc X) Wx (mMeth c f FF m mNil)) := by
  refine ⟨fun pins s σ H Q I h => ?_⟩
  have h' : fE (gc X) Wx m σ H fun x H1 => ∃ (a : Addr) (dx : Addr) (fs : List (Str × V)), x = .ref a ∧ H1 a = some (.ins (cA X c) dx fs) ∧ fs.lookup M = none ∧ spF (gc X) FF [x] H1 Q (WE Wx σ) := by
    obtain ⟨W, env, rfl, s, r, p⟩ := h
    refine ⟨W, env, rfl, s, r, ?_⟩
    dsimp only [mMeth] at p
    cases q : m env W.st with
    | exc x st1 => rw [q] at p; exact p
    | no => rw [q] at p; exact p
    | ok d st1 =>
      rw [q] at p
      refine fun W1 e1 s1 hs v hv => ?_
      dsimp only [Res.bind] at p
      rw [← hs] at p
      cases q2 : flds c d W1.st with
      | none => rw [q2] at p; exact p.elim
      | some fs =>
        rw [q2] at p
        dsimp only at p
        obtain ⟨a, dx, vs, rfl, hh, k1, k2⟩ := flds_inv s1 hv q2
        split at p
        · rename_i hl
          exact ⟨a, dx, vs, rfl, hh, by rw [hM]; exact lookup_none k1 hl, W1, [d], rfl, s1, .cons hv .nil, Post.ext p e1⟩
        · exact p.elim
  refine PySem.W.methodCall_KW (pl := pl) (thn (he.run pins s σ H _ I h') fun u s1 ⟨x, H1, I1, rx, a, dx, fs, ex, ea, l, q⟩ => ?_) ht
  subst ex
  obtain rfl : u = Value.ref a := rx
  refine getmeth_ok I1 ea c' hm l ?_
  exact PySem.W.callWith_K0 (first := [.ref a]) I1.kIn hm.kp (run_fnS (us := [.ref a]) (vs := [.ref a]) G hr hb (passAt tk σ) I1 (.cons rfl .nil) q)
/-! properties -/
variable {P : Addr}
theorem e_prop (he : PE X e (fE (gc X) Wx m)) (c' : Cls X.K (cA X c)) (hp : PropOf X.K (cA X c) M P g) (G : FnOk X.prog X.w X.K X.mg X.base (L2.CX X.prog X.w) k g fd ps (spF (gc X) FF)) (hr : Room (k + 1) X.A) (hb : Binds X.K fd ps [])
    (hab : attributeBase e M X.env (eval e X.env) = eval e X.env := by rfl) : PE X (.Attribute e M pos) (fE (gc X) Wx (a1 (fun d st => match flds c d st with
      | some _ => (FF [d] st).bindN fun d st => .ok d st
      | none => .no) m)) :=
  PE.imp (pe_prop he c' hp G hr hb .nil (passL (X := X.nox)) hab) fun σ H Q h => by
    dsimp only [tProp]
    refine fG_mono (lift1 h) fun v H' ⟨W, d, e0, s, h1, p⟩ => ?_
    subst e0
    dsimp only at p
    cases q : flds c d W.st with
    | none => rw [q] at p; exact p.elim
    | some fs =>
      rw [q] at p
      dsimp only at p
      obtain ⟨a, dx, vs, rfl, hh, k1, k2⟩ := flds_inv s h1 q
      refine ⟨a, dx, vs, rfl, hh, W, [d], rfl, s, .cons h1 .nil, ?_⟩
      cases q2 : FF [d] W.st with
      | ok d' st' => rw [q2] at p; exact p
      | exc x st' => rw [q2] at p; exact p.elim
      | no => rw [q2] at p; exact p
/-! new instances -/
/-- a new instance of class c, __init__ run; then frozen, or left a cell -/
def mMake (fr : Bool) (c : S) (F : List D → Store → Res D) (ma : Ma) : Me := fun e st => (ma e st).bind fun ds st1 => (F (.ref st1.length :: ds) (st1 ++ [.ins c []])).bind fun r st2 => match r with
  | .non => if fr = true then fz (.ref st1.length) st2 else .ok (.ref st1.length) st2
  | _ => .no
theorem run_makeAt {CX : CXT} {C f : Addr} {sp : Sp} {E : XK} {pins : List (Addr × Obj)} {σ : L2.St} {H : Hp} {s : Shared} {Q : VK} {us : List Value} {vs : List V} (M : Mk X.K C f) (F : FnOk X.prog X.w X.K X.mg X.base CX k f fd ps sp) (hr : Room (k + 1) X.A) (hb : Binds X.K fd ps [])
    (hx : PassesAt CX X σ E) (I : Inv X pins σ H s) (r : Vals vs us)
    (h : ∀ x dx, H x = none → H dx = none → dx ≠ x → sp (.ref x :: vs) (upd (upd H dx (.own x)) x (.ins C dx [])) (fun v H2 => v = .non ∧ Q (.ref x) H2) E) :
    wpAny (model X.prog X.w) X.A (call (.ref C) us) (EP X pins σ Q) X.xe s := by
  have hq := h (s.heap.objs.size + 1) s.heap.objs.size (I.hok.fresh (Nat.le_succ _)) (I.hok.fresh (Nat.le_refl _)) (Nat.ne_of_lt (Nat.lt_succ_self _))
  have I2 := Inv.made (C := C) I
  have r2 : Vals (V.ref (s.heap.objs.size + 1) :: vs) (Value.ref (s.heap.objs.size + 1) :: us) := .cons rfl r
  have hl : (Value.ref (s.heap.objs.size + 1) :: us ++ []).length = ps.length := by
    have e := r2.length
    rw [F.len _ _ _ _ hq] at e
    rw [List.append_nil]
    exact e.symm
  have hbb := hb _ (Value.ref (s.heap.objs.size + 1) :: us) I2.kIn hl
  rw [List.append_nil] at hbb
  refine wpAny_call (make_map (f := f) I.kIn M.makes M.init (beq_iff_eq.mp M.fn) (codeAny_mono (F.run _ X.stack _ _ ⟨Value.ref (s.heap.objs.size + 1) :: us, []⟩ (Value.ref (s.heap.objs.size + 1) :: us) _ _ E (hr.make C us [])
    (I2.env0.make C us []) hbb r2 hq) fun r s' hq' => ?_))
  cases r with
  | error e => exact hx pins _ _ e s' I2 hq'
  | ok fl =>
    cases fl with
    | ret u =>
      obtain ⟨v, H', I3, rv, ev, q3⟩ := I2.after hq'
      subst ev
      exact ⟨rv, ⟨V.ref (s.heap.objs.size + 1), H', I3, rfl, q3⟩⟩
    | next => exact False.elim hq'
    | brk => exact False.elim hq'
    | cont => exact False.elim hq'
theorem make_sp {σ : L2.St} {Q : VK} {fr : Bool} {W : Wd} {ds : List D} {vs : List V} (s : SR (gc X) W) (l : DenL (gc X) W vs ds)
    (p : Post (gc X) W (wx (gc X) Wx σ) ((FF (.ref W.st.length :: ds) (W.st ++ [.ins c []])).bind fun r st2 => match r with
      | .non => if fr = true then fz (.ref W.st.length) st2 else .ok (.ref W.st.length) st2
      | _ => .no) fun d W' => ∀ b, Den (gc X) W' b d → Q b W'.H) (x dx : Addr) (hx : W.H x = none) (hdx : W.H dx = none) (ne : dx ≠ x) :
    spF (gc X) FF (.ref x :: vs) (upd (upd W.H dx (.own x)) x (.ins (cA X c) dx [])) (fun v H2 => v = .non ∧ Q (.ref x) H2) (WE Wx σ) := by
  obtain ⟨e1, s1, n1⟩ := s.lay (o := .own x) hdx
  have hx1 : (upd W.H dx (.own x)) x = none := by rw [upd_ne (Ne.symm ne)]; exact hx
  obtain ⟨e2, s2⟩ := s1.cellNew (o := .ins (cA X c) dx []) (c := .ins c []) hx1 fun W' e' h => ⟨dx, [], h, rfl, .nil⟩
  have e12 := e1.trans e2
  have hcs : (W.cs ++ [x])[W.st.length]? = some x := by rw [← s.len]; simp
  refine ⟨_, .ref W.st.length :: ds, rfl, s2, .cons (.ref hcs) (l.mono e12), ?_⟩
  show Post _ _ _ (FF (.ref W.st.length :: ds) (W.st ++ [.ins c []])) _
  cases q : FF (.ref W.st.length :: ds) (W.st ++ [.ins c []]) with
  | exc x st => rw [q] at p; exact fun W' e' s' hs => p W' (e12.trans e') s' hs
  | no => rw [q] at p; exact p
  | ok r st2 =>
    rw [q] at p
    refine fun W' e' s' hs v hv => ?_
    dsimp only [Res.bind] at p
    cases r with
    | non =>
      refine ⟨hv.non_inv, ?_⟩
      have hr : Den (gc X) W' (.ref x) (.ref W.st.length) := .ref (e'.cs _ _ hcs)
      dsimp only at p
      cases fr with
      | false =>
        simp only [Bool.false_eq_true, if_false] at p
        exact p W' (e12.trans e') s' hs _ hr
      | true =>
        simp only [if_true] at p
        rw [← hs] at p
        cases q2 : fz (.ref W.st.length) W'.st with
        | ok d st3 =>
          rw [q2] at p
          obtain ⟨W3, e3, s3, hs3, hH, hd⟩ := fz_ok s' hr q2
          rw [← hH]
          exact p W3 ((e12.trans e').trans e3) s3 hs3 _ hd
        | exc x st => rw [q2] at p; dsimp only [fz] at q2; split at q2 <;> cases q2
        | no => rw [q2] at p; exact p.elim
    | _ => exact p.elim
theorem e_make {x : Str} {p : Pos} {fr : Bool} (M : Mk X.K (cA X c) g) (G : FnOk X.prog X.w X.K X.mg X.base (L2.CX X.prog X.w) k g fd ps (spF (gc X) FF)) (hr : Room (k + 1) X.A) (tk : Takes X Wx) (hg : Gl X x) (hm : X.mg x = some (.ref (cA X c))) (hb : Binds X.K fd ps [])
    (ha : PA X (e :: es) (fA (gc X) Wx ma)) (hdb : (x == ("__debug__" : Str)) = false := by decide) (he : starEach (e :: es) X.env = (false, eval e X.env) :: starEach es X.env := by rfl) (hpl : (backTo pos (starEach es X.env)).any (·.1) = false := by rfl) :
    PE X (.Call (.Name x p) (e :: es) [] pos) (fE (gc X) Wx (mMake fr c FF ma)) := by
  refine ⟨fun pins s σ H Q I h => ?_⟩
  refine wpAny_Call_Name_kw (ld_glob I hg hm ?_ hdb)
  have h' : fA (gc X) Wx ma σ H fun vs H1 => ∀ x dx, H1 x = none → H1 dx = none → dx ≠ x → spF (gc X) FF (.ref x :: vs) (upd (upd H1 dx (.own x)) x (.ins (cA X c) dx [])) (fun v H2 => v = .non ∧ Q (.ref x) H2) (WE Wx σ) := by
    obtain ⟨W, env, rfl, s, r, p⟩ := h
    refine ⟨W, env, rfl, s, r, ?_⟩
    dsimp only [mMake] at p
    cases q : ma env W.st with
    | exc x st1 => rw [q] at p; exact p
    | no => rw [q] at p; exact p
    | ok ds st1 =>
      rw [q] at p
      refine fun W1 e1 s1 hs vs l x dx hx hdx ne => ?_
      dsimp only [Res.bind] at p
      rw [← hs] at p
      exact make_sp s1 l (Post.ext p e1) x dx hx hdx ne
  refine PySem.W.callWith_K (h₀ := X.base) I.ok.mod.kin M.kp (thn (ha.run pos pins s σ H _ I h') fun us s1 ⟨vs, H1, I1, r, q⟩ => ⟨I1.kIn, ?_⟩) he hpl
  exact run_makeAt M G hr hb (passAt tk σ) I1 r q
end
end FL
end
section
set_option Elab.async false
set_option linter.all false
set_option maxRecDepth 100000
/-! FLP: products, stores into lists, methods of lists and texts. -/
namespace FL
open PySem PySem.Spec PyProof.Rows L2

/-! ### a new list: frozen, or a cell -/
def mkL (c : Bool) (ds : List D) (st : Store) : Res D := if c = true then .ok (.ref st.length) (st ++ [.lst ds]) else .ok (.lst ds) st
theorem Post.mkL {g : Gc} {Wx : WX} {σ : L2.St} {Q : VK} {W : Wd} {vs : List V} {ds : List D} {c : Bool} (s : SR g W) (l : DenL g W vs ds) (p : Post g W (wx g Wx σ) (mkL c ds W.st) fun d W' => ∀ b, Den g W' b d → Q b W'.H) :
    ∀ q, W.H q = none → Q (.ref q) (upd W.H q (.lst vs)) := by
  cases c with
  | false => exact Post.newL s l p
  | true =>
    intro q hq
    obtain ⟨W', e, s', h1, h2, h3⟩ := s.newC hq l
    rw [← h2]
    exact p W' e s' h1 _ h3
/-- list + list -/
def oCat (c : Bool) (x y : D) (st : Store) : Res D := match lsOf x st, lsOf y st with
  | some a, some b => if a.length + b.length ≤ BIG then mkL c (a ++ b) st else .no
  | _, _ => .no
section
variable {X : Cx} {Wx : WX} {σ : L2.St} {H : Hp} {Q : VK} {x y : V} {c : Bool}
theorem im_cat (h : f2 (gc X) Wx (rD (gc X)) (oCat c) x y σ H Q) : rCat x y H Q := by
  obtain ⟨W, d, e, rfl, s, h1, h2, p⟩ := h
  dsimp only [oCat] at p
  cases q1 : lsOf d W.st with
  | none => rw [q1] at p; exact p.elim
  | some a =>
    cases q2 : lsOf e W.st with
    | none => rw [q1, q2] at p; exact p.elim
    | some b =>
      rw [q1, q2] at p
      dsimp only at p
      split at p
      · rename_i hl
        obtain ⟨a1, v1, rfl, b1, l1⟩ := lsOf_inv s h1 q1
        obtain ⟨a2, v2, rfl, b2, l2⟩ := lsOf_inv s h2 q2
        exact ⟨_, _, _, _, rfl, rfl, b1, b2, by rw [l1.length, l2.length, big_eq]; exact hl, Post.mkL s (l1.append l2) p⟩
      · exact p.elim
/-! ### products -/
def oMu (c : Bool) (x y : D) (st : Store) : Res D := match x, y with
  | .int i, .int j => if (-(2 ^ 64) < i ∧ i < 2 ^ 64) ∨ (-(2 ^ 64) < j ∧ j < 2 ^ 64) then .ok (.int (i * j)) st else .no
  | .tup xs, .int k => if xs ≠ [] ∧ 2 ≤ k ∧ k ≤ 1000 ∧ xs.length ≤ 1000 then .ok (.tup (List.replicate k.toNat xs).flatten) st else .no
  | x, .int k => match lsOf x st with
    | some xs => if -(2 ^ 63) ≤ k ∧ k < 2 ^ 63 ∧ xs.length * k.toNat ≤ BIG then mkL c (List.replicate k.toNat xs).flatten st else .no
    | none => .no
  | _, _ => .no
theorem DenL.rep {g : Gc} {W : Wd} {vs : List V} {ds : List D} (l : DenL g W vs ds) : ∀ k : Nat, DenL g W (List.replicate k vs).flatten (List.replicate k ds).flatten
  | 0 => .nil
  | k + 1 => by
    rw [List.replicate_succ, List.replicate_succ, List.flatten_cons, List.flatten_cons]
    exact l.append (l.rep k)
def rMu (K : PySem.W.Frag) : R2 := fun x y H Q => rI CMul (fun i j => V.int (i * j)) x y H Q ∨ rRep x y H Q ∨ rRepT K x y H Q
theorem op_mu : OpR X (binaryOp .Mult) (rMu X.K) := op_mul.or (op_rep.or op_repT)
theorem im_mu (h : f2 (gc X) Wx (rD (gc X)) (oMu c) x y σ H Q) : rMu X.K x y H Q := by
  obtain ⟨W, d, e, rfl, s, h1, h2, p⟩ := h
  cases e with
  | int k =>
    cases h2.int_inv
    have lists : (match lsOf d W.st with | some xs => if -(2 ^ 63) ≤ k ∧ k < 2 ^ 63 ∧ xs.length * k.toNat ≤ BIG then FL.mkL c (List.replicate k.toNat xs).flatten W.st else .no | none => .no) = oMu c d (.int k) W.st → rMu X.K x (.int k) W.H Q := fun e => by
      rw [← e] at p
      cases q1 : lsOf d W.st with
      | none => rw [q1] at p; exact p.elim
      | some a =>
        rw [q1] at p
        dsimp only at p
        split at p
        · rename_i hl
          obtain ⟨a1, v1, rfl, b1, l1⟩ := lsOf_inv s h1 q1
          exact .inr (.inl ⟨a1, k, v1, rfl, rfl, b1, hl.1, hl.2.1, by rw [l1.length, big_eq]; exact hl.2.2, Post.mkL s (l1.rep _) p⟩)
        · exact p.elim
    cases d with
    | int i =>
      cases h1.int_inv
      dsimp only [oMu] at p
      split at p
      · exact .inl ⟨i, k, rfl, rfl, by assumption, p W (Ext.refl W) s rfl _ (.int _)⟩
      · exact p.elim
    | tup xs =>
      obtain ⟨a, vs, rfl, hq, l⟩ := h1.tup_inv
      dsimp only [oMu] at p
      split at p
      · rename_i hl
        refine .inr (.inr ⟨a, k, vs, rfl, rfl, hq, fun e0 => hl.1 ?_, hl.2.1, hl.2.2.1, by rw [l.length]; exact hl.2.2.2, Post.newT s (l.rep _) p⟩)
        subst e0
        cases l; rfl
      · exact p.elim
    | _ => exact lists rfl
  | _ => cases d <;> exact p.elim
end

/-! ### x[i] = v, x a list -/
def stL (o i v : D) (e : En) (st : Store) : Fl := match o, i with
  | .ref n, .int k => match st[n]? with
    | some (.lst xs) => match ixN xs.length k with
      | some j => .nx e (st.set n (.lst (xs.set j v)))
      | none => .no
    | _ => .no
  | _, _ => .no
def gIx (mo mi : Me) : Mg := fun d e st => (mo e st).fl e fun o st1 => (mi e st1).fl e fun i st2 => stL o i d e st2
section
variable {X : Cx} {Wx : WX} {pos : Pos} {o i : Expr} {mo mi : Me} {ns : List Nat}
theorem g_ix (ho : PE X o (fE (gc X) Wx mo)) (hi : PE X i (fE (gc X) Wx mi))
    (ha : ∀ v, assign (.Subscript o i pos) X.env v = (do
      let ov ← holding [v] (eval o X.env)
      let iv ← holding [v, ov] (eval i X.env)
      standAt pos
      holding [v, ov, iv] (setItem ov iv v)
      release [v, ov, iv] []) := by intro _; rfl) : PG X (.Subscript o i pos) (fTg (gc X) Wx ns (gIx mo mi)) := PG.imp (pg_sub ho hi set_list ha) fun v σ H Q h => by
  show fE (gc X) Wx mo σ H fun o H1 => fE (gc X) Wx mi σ H1 fun i H2 => rSetL o i v H2 fun H3 => Q σ H3
  obtain ⟨W, env, d, rfl, s, r, hv, p⟩ := h
  refine ⟨W, env, rfl, s, r, ?_⟩
  dsimp only [gIx] at p
  cases q1 : mo env W.st with
  | no => rw [q1] at p; exact p
  | exc x st1 => rw [q1] at p; exact fun W1 e1 s1 hs => p W1 σ e1 s1 hs (r.mono e1)
  | ok od st1 =>
    rw [q1] at p
    dsimp only [Res.fl] at p
    refine fun W1 e1 s1 hs1 ov hov => ⟨W1, env, rfl, s1, r.mono e1, ?_⟩
    rw [hs1]
    cases q2 : mi env st1 with
    | no => rw [q2] at p; exact p
    | exc x st2 => rw [q2] at p; exact fun W2 e2 s2 hs => p W2 σ (e1.trans e2) s2 hs ((r.mono e1).mono e2)
    | ok di st2 =>
      rw [q2] at p
      dsimp only at p
      refine fun W2 e2 s2 hs2 iv hiv => ?_
      cases od with
      | ref n =>
        cases di with
        | int k =>
          cases hiv.int_inv
          dsimp only [stL] at p
          cases q3 : st2[n]? with
          | none => rw [q3] at p; exact p.elim
          | some c =>
            rw [q3] at p
            cases c with
            | lst xs =>
              dsimp only at p
              cases q4 : ixN xs.length k with
              | none => rw [q4] at p; exact p.elim
              | some j =>
                rw [q4] at p
                cases hov.mono e2 with
                | @ref a _ ha =>
                rw [← hs2] at q3
                obtain ⟨vs, h1, l⟩ := s2.cell n a _ ha q3
                obtain ⟨e3, s3⟩ := s2.cellSet (o := .lst (vs.set j v)) (c := .lst (xs.set j d)) ha q3 rfl rfl fun W' e' h => ⟨_, h, (l.mono e').set (((hv.mono e1).mono e2).mono e') j⟩
                refine ⟨a, vs, k, j, rfl, rfl, h1, by rw [l.length]; exact q4, ?_⟩
                exact p _ σ ((e1.trans e2).trans e3) s3 (by show W2.st.set n _ = _; rw [hs2]) (((r.mono e1).mono e2).mono e3) rfl
            | _ => exact p.elim
        | _ => exact p.elim
      | _ => cases di <;> exact p.elim
end

/-! ### methods -/
def mBm (ty : D → Store → Bool) (k : D → List D → Store → Res D) (m : Me) (r : Ma) : Me := fun e st => (m e st).bind fun d st1 => if ty d st1 = true then (r e st1).bind fun ds st2 => k d ds st2 else .no
def fM (g : Gc) (Wx : WX) (k : D → List D → Store → Res D) (x : V) (vs : List V) : L2.St → Hp → VK → Prop := fun σ H Q =>
  ∃ (W : Wd) (d : D) (ds : List D), W.H = H ∧ SR g W ∧ Den g W x d ∧ DenL g W vs ds ∧ Post g W (wx g Wx σ) (k d ds W.st) fun d W' => ∀ b, Den g W' b d → Q b W'.H
section
variable {X : Cx} {Wx : WX} {o e : Expr} {es : List Expr} {name : Str} {apos cpos : Pos} {T id : String} {r : V → List V → Hp → VK → Prop} {ty : D → Store → Bool} {k : D → List D → Store → Res D} {m : Me} {ma : Ma}
theorem e_bm (ht : ∀ {W : Wd} {v : V} {d : D}, SR (gc X) W → Den (gc X) W v d → ty d W.st = true → tyV X.K T v W.H) (hm : MtR X id r)
    (im : ∀ {σ : L2.St} {H : Hp} {Q : VK} {x : V} {vs : List V}, fM (gc X) Wx k x vs σ H Q → r x vs H Q)
    (pa : PlainAttrs T) (slot : Slot T name id) (hty : typeOf (.builtin id) = pure (.type "method_descriptor")) (ho : PE X o (fE (gc X) Wx m)) (ha : PA X (e :: es) (fA (gc X) Wx ma))
    (hbase : attributeBase o name X.env (eval o X.env) = eval o X.env := by rfl)
    (hfew : ((backTo cpos (starEach (e :: es) X.env)).all (fun x => !x.1) && (backToKw cpos (keywordEach [] X.env)).all (fun x => x.1.isSome)
      && decide ((e :: es).length + ([] : List Keyword).length + (if ([] : List Keyword).isEmpty then 0 else 1) < 30)) = true := by rfl)
    (hline : (apos.endLine == cpos.line) = true := by rfl) (hs : starEach (e :: es) X.env = (false, eval e X.env) :: starEach es X.env := by rfl) (hplain : (backTo cpos (starEach es X.env)).any (·.1) = false := by rfl) :
    PE X (.Call (.Attribute o name apos) (e :: es) [] cpos) (fE (gc X) Wx (mBm ty k m ma)) :=
  PE.imp (pe_bm pa slot hty hm ho ha hbase hfew hline hs hplain) fun σ H Q h => by
    show fE (gc X) Wx m σ H fun x H1 => tyV X.K T x H1 ∧ fA (gc X) Wx ma σ H1 fun xs H2 => r x xs H2 Q
    obtain ⟨W, env, rfl, s, rr, p⟩ := h
    refine ⟨W, env, rfl, s, rr, ?_⟩
    dsimp only [mBm] at p
    cases q1 : m env W.st with
    | no => rw [q1] at p; exact p
    | exc x st1 => rw [q1] at p; exact p
    | ok d st1 =>
      rw [q1] at p
      dsimp only [Res.bind] at p
      split at p
      · rename_i ht'
        refine fun W1 e1 s1 hs1 v hv => ⟨ht s1 hv (by rw [hs1]; exact ht'), W1, env, rfl, s1, rr.mono e1, ?_⟩
        rw [hs1]
        cases q2 : ma env st1 with
        | no => rw [q2] at p; exact p
        | exc x st2 => rw [q2] at p; exact Post.ext p e1
        | ok ds st2 =>
          rw [q2] at p
          exact fun W2 e2 s2 hs2 vs hvs => im ⟨W2, d, ds, rfl, s2, hv.mono e2, hvs, by rw [hs2]; exact Post.ext p (e1.trans e2)⟩
      · exact p.elim
theorem e_bm0 (ht : ∀ {W : Wd} {v : V} {d : D}, SR (gc X) W → Den (gc X) W v d → ty d W.st = true → tyV X.K T v W.H) (hm : MtR X id r)
    (im : ∀ {σ : L2.St} {H : Hp} {Q : VK} {x : V} {vs : List V}, fM (gc X) Wx k x vs σ H Q → r x vs H Q)
    (pa : PlainAttrs T) (slot : Slot T name id) (hty : typeOf (.builtin id) = pure (.type "method_descriptor")) (ho : PE X o (fE (gc X) Wx m))
    (hbase : attributeBase o name X.env (eval o X.env) = eval o X.env := by rfl) (hline : (apos.endLine == cpos.line) = true := by rfl) :
    PE X (.Call (.Attribute o name apos) [] [] cpos) (fE (gc X) Wx (mBm ty k m mNil)) :=
  PE.imp (pe_bm0 pa slot hty hm ho hbase hline) fun σ H Q h => by
    show fE (gc X) Wx m σ H fun x H1 => tyV X.K T x H1 ∧ r x [] H1 Q
    obtain ⟨W, env, rfl, s, rr, p⟩ := h
    refine ⟨W, env, rfl, s, rr, ?_⟩
    dsimp only [mBm] at p
    cases q1 : m env W.st with
    | no => rw [q1] at p; exact p
    | exc x st1 => rw [q1] at p; exact p
    | ok d st1 =>
      rw [q1] at p
      dsimp only [Res.bind] at p
      split at p
      · rename_i ht'
        exact fun W1 e1 s1 hs1 v hv => ⟨ht s1 hv (by rw [hs1]; exact ht'), im ⟨W1, d, [], rfl, s1, hv, .nil, by rw [hs1]; exact Post.ext p e1⟩⟩
      · exact p.elim
end
/-! of lists -/
def tyL (d : D) (st : Store) : Bool := (lsOf d st).isSome
theorem tyL_ok {g : Gc} {W : Wd} {v : V} {d : D} (s : SR g W) (h : Den g W v d) (t : tyL d W.st = true) : tyV g.K "list" v W.H := by
  unfold tyL at t
  obtain ⟨ds, e⟩ := Option.isSome_iff_exists.mp t
  obtain ⟨a, vs, rfl, h1, _⟩ := lsOf_inv s h e
  exact .inl ⟨rfl, vs, SqL.of h1⟩
def onC (d : D) (st : Store) (k : Nat → List D → Res D) : Res D := match d with
  | .ref n => match st[n]? with
    | some (.lst xs) => k n xs
    | _ => .no
  | _ => .no
def lApp (d : D) (ds : List D) (st : Store) : Res D := onC d st fun n xs => match ds with
  | [v] => if xs.length < BIG then .ok .non (st.set n (.lst (xs ++ [v]))) else .no
  | _ => .no
def lExt (d : D) (ds : List D) (st : Store) : Res D := onC d st fun n xs => match ds with
  | [b] => match lsOf b st with
    | some zs => if xs.length + zs.length ≤ BIG then .ok .non (st.set n (.lst (xs ++ zs))) else .no
    | none => .no
  | _ => .no
def lPop (d : D) (ds : List D) (st : Store) : Res D := onC d st fun n xs => match ds with
  | [] => match xs[xs.length - 1]? with
    | some y => .ok y (st.set n (.lst xs.dropLast))
    | none => .no
  | _ => .no
def lPopAt (d : D) (ds : List D) (st : Store) : Res D := onC d st fun n xs => match ds with
  | [.int i] => match ixN xs.length i with
    | some j => match xs[j]? with
      | some y => if xs.length ≤ BIG then .ok y (st.set n (.lst (xs.eraseIdx j))) else .no
      | none => .no
    | none => .no
  | _ => .no
theorem onC_at {X : Cx} {W : Wd} {x : V} {d : D} {k : Nat → List D → Res D} {Wx : Exn → Wd → Prop} {R : D → Wd → Prop} (s : SR (gc X) W) (h : Den (gc X) W x d) (p : Post (gc X) W Wx (onC d W.st k) R) :
    ∃ n a xs vs, d = .ref n ∧ x = V.ref a ∧ W.cs[n]? = some a ∧ W.st[n]? = some (.lst xs) ∧ W.H a = some (.lst vs) ∧ DenL (gc X) W vs xs ∧ Post (gc X) W Wx (k n xs) R := by
  unfold onC at p
  cases d with
  | ref n =>
    dsimp only at p
    cases q : W.st[n]? with
    | none => rw [q] at p; exact p.elim
    | some c =>
      rw [q] at p
      cases c with
      | lst xs =>
        cases h with
        | @ref a _ ha =>
        obtain ⟨vs, h1, l⟩ := s.cell n a _ ha q
        exact ⟨n, a, xs, vs, rfl, rfl, ha, q, h1, l, p⟩
      | _ => exact p.elim
  | _ => exact p.elim
section
variable {X : Cx} {Wx : WX} {σ : L2.St} {H : Hp} {Q : VK} {x : V} {vs : List V}
theorem im_app (h : fM (gc X) Wx lApp x vs σ H Q) : rAppend x vs H Q := by
  obtain ⟨W, d, ds, rfl, s, h1, l, p⟩ := h
  obtain ⟨n, a, xs, vs', rfl, rfl, ha, hst, hH, l2, p⟩ := onC_at s h1 p
  cases l with
  | nil => exact p.elim
  | @cons v d vs ds hv t =>
    cases t with
    | cons _ _ => exact p.elim
    | nil =>
      dsimp only at p
      split at p
      · rename_i hl
        obtain ⟨e3, s3⟩ := s.cellSet (o := .lst (vs' ++ [v])) (c := .lst (xs ++ [d])) ha hst rfl rfl fun W' e' h => ⟨_, h, (l2.mono e').append (.cons (hv.mono e') .nil)⟩
        exact ⟨a, vs', v, rfl, rfl, hH, by rw [l2.length, big_eq]; exact hl, p _ e3 s3 rfl _ .non⟩
      · exact p.elim
theorem im_ext (h : fM (gc X) Wx lExt x vs σ H Q) : rExtend x vs H Q := by
  obtain ⟨W, d, ds, rfl, s, h1, l, p⟩ := h
  obtain ⟨n, a, xs, vs', rfl, rfl, ha, hst, hH, l2, p⟩ := onC_at s h1 p
  cases l with
  | nil => exact p.elim
  | @cons v d vs ds hv t =>
    cases t with
    | cons _ _ => exact p.elim
    | nil =>
      dsimp only at p
      cases q : lsOf d W.st with
      | none => rw [q] at p; exact p.elim
      | some zs =>
        rw [q] at p
        dsimp only at p
        obtain ⟨a2, v2, rfl, b2, l3⟩ := lsOf_inv s hv q
        split at p
        · rename_i hl
          obtain ⟨e3, s3⟩ := s.cellSet (o := .lst (vs' ++ v2)) (c := .lst (xs ++ zs)) ha hst rfl rfl fun W' e' h => ⟨_, h, (l2.mono e').append (l3.mono e')⟩
          exact ⟨a, a2, vs', v2, rfl, rfl, hH, b2, by rw [l2.length, l3.length, big_eq]; exact hl, p _ e3 s3 rfl _ .non⟩
        · exact p.elim
theorem DenL.dropLast {g : Gc} {W : Wd} {vs : List V} {ds : List D} (l : DenL g W vs ds) : DenL g W vs.dropLast ds.dropLast := by
  rw [List.dropLast_eq_take, List.dropLast_eq_take, l.length]
  exact l.take _
theorem DenL.erase {g : Gc} {W : Wd} : ∀ {vs : List V} {ds : List D} (i : Nat), DenL g W vs ds → DenL g W (vs.eraseIdx i) (ds.eraseIdx i)
  | _, _, _, .nil => .nil
  | _, _, 0, .cons _ t => t
  | _, _, i + 1, .cons h t => .cons h (t.erase i)
theorem im_pop (h : fM (gc X) Wx lPop x vs σ H Q) : rPop x vs H Q := by
  obtain ⟨W, d, ds, rfl, s, h1, l, p⟩ := h
  obtain ⟨n, a, xs, vs', rfl, rfl, ha, hst, hH, l2, p⟩ := onC_at s h1 p
  cases l with
  | cons _ _ => exact p.elim
  | nil =>
    dsimp only at p
    cases q : xs[xs.length - 1]? with
    | none => rw [q] at p; exact p.elim
    | some y =>
      rw [q] at p
      obtain ⟨v, hv, hd⟩ := l2.getD' q
      obtain ⟨e3, s3⟩ := s.cellSet (o := .lst vs'.dropLast) (c := .lst xs.dropLast) ha hst rfl rfl fun W' e' h => ⟨_, h, (l2.mono e').dropLast⟩
      exact ⟨a, vs', v, rfl, rfl, hH, by rw [l2.length]; exact hv, p _ e3 s3 rfl _ (hd.mono e3)⟩
theorem im_popAt (h : fM (gc X) Wx lPopAt x vs σ H Q) : rPopAt x vs H Q := by
  obtain ⟨W, d, ds, rfl, s, h1, l, p⟩ := h
  obtain ⟨n, a, xs, vs', rfl, rfl, ha, hst, hH, l2, p⟩ := onC_at s h1 p
  cases l with
  | nil => exact p.elim
  | @cons v d vs ds hv t =>
    cases t with
    | cons _ _ => cases d <;> exact p.elim
    | nil =>
      cases d with
      | int i =>
        cases hv.int_inv
        dsimp only at p
        cases q : ixN xs.length i with
        | none => rw [q] at p; exact p.elim
        | some j =>
          rw [q] at p
          dsimp only at p
          cases q2 : xs[j]? with
          | none => rw [q2] at p; exact p.elim
          | some y =>
            rw [q2] at p
            dsimp only at p
            split at p
            case isFalse => exact p.elim
            rename_i hz
            obtain ⟨v, hv, hd⟩ := l2.getD' q2
            obtain ⟨e3, s3⟩ := s.cellSet (o := .lst (vs'.eraseIdx j)) (c := .lst (xs.eraseIdx j)) ha hst rfl rfl fun W' e' h => ⟨_, h, (l2.mono e').erase j⟩
            obtain ⟨i1, i2, i3, i4⟩ := ixN_seq q
            have hz2 : BIG = 16777216 := rfl
            exact ⟨a, vs', i, j, v, rfl, rfl, hH, by omega, by omega, by rw [l2.length]; exact i1, hv, p _ e3 s3 rfl _ (hd.mono e3)⟩
      | _ => exact p.elim
end
end FL
end
section
set_option Elab.async false
set_option linter.all false
set_option maxRecDepth 100000
/-! FLQ: methods of texts. -/
namespace FL
open PySem PySem.Spec PyProof.Rows L2 TL

def tyS (d : D) (_ : Store) : Bool := match d with
  | .str _ => true
  | _ => false
theorem tyS_ok {g : Gc} {W : Wd} {v : V} {d : D} (s : SR g W) (h : Den g W v d) (t : tyS d W.st = true) : tyV g.K "str" v W.H := by
  cases d with
  | str z => obtain ⟨rfl, _⟩ := h.str_inv; rfl
  | _ => cases t
/-- texts -/
def ssOf : List D → Option (List S)
  | [] => some []
  | .str s :: r => (ssOf r).map (s :: ·)
  | _ => none
theorem ssOf_inv {g : Gc} {W : Wd} : ∀ {vs : List V} {ds : List D} {ss : List S}, DenL g W vs ds → ssOf ds = some ss → vs = (ss.map toS).map V.str ∧ ∀ s ∈ ss, okS s = true
  | _, _, _, .nil, e => by cases e; exact ⟨rfl, fun _ h => by cases h⟩
  | _, .str z :: r, _, .cons h t, e => by
    dsimp only [ssOf] at e
    obtain ⟨bs', e1, rfl⟩ := Option.map_eq_some_iff.mp e
    obtain ⟨rfl, oz⟩ := h.str_inv
    obtain ⟨rfl, o2⟩ := ssOf_inv t e1
    exact ⟨rfl, fun s hs => by rcases List.mem_cons.mp hs with h | h; exact h ▸ oz; exact o2 s h⟩
  | _, .bl _ :: _, _, .cons _ _, e => by cases e
  | _, .non :: _, _, .cons _ _, e => by cases e
  | _, .int _ :: _, _, .cons _ _, e => by cases e
  | _, .tup _ :: _, _, .cons _ _, e => by cases e
  | _, .lst _ :: _, _, .cons _ _, e => by cases e
  | _, .dic _ :: _, _, .cons _ _, e => by cases e
  | _, .nd _ :: _, _, .cons _ _, e => by cases e
  | _, .obj _ _ :: _, _, .cons _ _, e => by cases e
  | _, .ref _ :: _, _, .cons _ _, e => by cases e
  | _, .scr _ :: _, _, .cons _ _, e => by cases e
/-! join -/
def lenSum (ss : List S) : Nat := (ss.map (·.length)).sum
def sJoin (d : D) (ds : List D) (st : Store) : Res D := match d, ds with
  | .str a, [y] => onSq y st fun xs => match ssOf xs with
    | some ss => if lenSum ss + ss.length * a.length ≤ BIG then .ok (.str (joinL a ss)) st else .no
    | none => .no
  | _, _ => .no
theorem joinL_ok {a : S} : ∀ {ss : List S}, (∀ c ∈ joinL a ss, c ∈ a ∨ ∃ s ∈ ss, c ∈ s) ∧ (joinL a ss).length ≤ lenSum ss + ss.length * a.length
  | [] => ⟨fun _ h => (by cases h), by simp [joinL]⟩
  | [p] => ⟨fun c h => .inr ⟨p, by simp, h⟩, by simp [joinL, lenSum]⟩
  | p :: q :: r => by
    obtain ⟨h1, h2⟩ := joinL_ok (a := a) (ss := q :: r)
    refine ⟨fun c h => ?_, ?_⟩
    · unfold joinL at h
      rcases List.mem_append.mp h with h | h
      · exact .inr ⟨p, by simp, h⟩
      rcases List.mem_append.mp h with h | h
      · exact .inl h
      · rcases h1 c h with h | ⟨s, hs, hc⟩
        · exact .inl h
        · exact .inr ⟨s, List.mem_cons_of_mem _ hs, hc⟩
    · unfold joinL
      simp only [List.length_append, lenSum, List.map_cons, List.sum_cons, List.length_cons] at h2 ⊢
      have : (r.length + 1 + 1) * a.length = (r.length + 1) * a.length + a.length := by rw [Nat.add_mul]; omega
      omega
theorem okS_iff {s : S} : okS s = true ↔ (∀ c ∈ s, c < 128) ∧ s.length ≤ BIG := by
  unfold okS
  rw [Bool.and_eq_true, List.all_eq_true, decide_eq_true_iff, big_eq]
  exact and_congr (forall_congr' fun c => forall_congr' fun _ => decide_eq_true_iff) Iff.rfl
theorem toS_join (a : S) (ss : List S) : Txt.join (toS a) (ss.map toS) = toS (joinL a ss) := by
  rw [join_eq]
  refine ext_tl ?_
  rw [tl_join]
  have e : (ss.map toS).map tl = ss := by
    rw [List.map_map]
    conv => rhs; rw [← List.map_id ss]
    exact List.map_congr_left fun x _ => by simp [toS, tl]
  rw [e]
  simp [toS, tl]
section
variable {X : Cx} {Wx : WX} {σ : L2.St} {H : Hp} {Q : VK} {x : V} {vs : List V}
theorem im_join (h : fM (gc X) Wx sJoin x vs σ H Q) : ∃ a p, ∃ ys : List Str, x = .str a ∧ vs = [.ref p] ∧ (SqL X.K H p (ys.map V.str) ∨ SqT X.K H p (ys.map V.str)) ∧
    (ys.map (·.length)).sum + ys.length * a.length ≤ 16777216 ∧ Q (.str (Txt.join a ys)) H := by
  obtain ⟨W, d, ds, rfl, s, h1, l, p⟩ := h
  cases d with
  | str a =>
    obtain ⟨rfl, oa⟩ := h1.str_inv
    cases l with
    | nil => exact p.elim
    | @cons v d vs ds hv t =>
      cases t with
      | cons _ _ => exact p.elim
      | nil =>
        dsimp only [sJoin, onSq] at p
        cases q : sqOf d W.st with
        | none => rw [q] at p; exact p.elim
        | some xs =>
          rw [q] at p
          dsimp only at p
          obtain ⟨b, vs, rfl, hq, l⟩ := sqOf_inv s hv q
          cases q2 : ssOf xs with
          | none => rw [q2] at p; exact p.elim
          | some ss =>
            rw [q2] at p
            dsimp only at p
            obtain ⟨rfl, os⟩ := ssOf_inv l q2
            split at p
            · rename_i hl
              refine ⟨toS a, b, ss.map toS, rfl, rfl, hq, ?_, ?_⟩
              · have e : ((ss.map toS).map (·.length)).sum = lenSum ss := by
                  unfold lenSum
                  rw [List.map_map]
                  exact congrArg List.sum (List.map_congr_left fun x _ => len_toS x)
                rw [e, List.length_map, len_toS]
                exact hl
              · rw [toS_join]
                obtain ⟨j1, j2⟩ := joinL_ok (a := a) (ss := ss)
                refine p W (Ext.refl W) s rfl _ (.str _ (okS_iff.mpr ⟨fun c hc => ?_, by omega⟩))
                rcases j1 c hc with h | ⟨z, hz, hc⟩
                · exact (okS_iff.mp oa).1 c h
                · exact (okS_iff.mp (os z hz)).1 c hc
            · exact p.elim
  | _ => cases ds <;> exact p.elim
/-! split -/
def sSplit (d : D) (ds : List D) (st : Store) : Res D := match d, ds with
  | .str z, [.str [c]] => if z.length + 2 ≤ BIG then .ok (.lst ((spl [c] 0 [] z).map D.str)) st else .no
  | _, _ => .no
theorem spl_mem {c : Nat} : ∀ (z acc p : S), p ∈ spl [c] 0 acc z → (∀ a ∈ p, a ∈ acc ∨ a ∈ z) ∧ p.length ≤ acc.length + z.length
  | [], acc, p, h => by
    rw [spl_nil] at h
    rw [List.mem_singleton] at h
    subst h
    exact ⟨fun a ha => .inl ha, by simp⟩
  | x :: z, acc, p, h => by
    cases q : pre [c] (x :: z) with
    | true =>
      rw [spl_hit q] at h
      rcases List.mem_cons.mp h with h | h
      · subst h; exact ⟨fun a ha => .inl ha, by simp⟩
      · obtain ⟨h1, h2⟩ := spl_mem z [] p h
        exact ⟨fun a ha => .inr (List.mem_cons_of_mem _ ((h1 a ha).resolve_left (by simp))), by simp at h2 ⊢; omega⟩
    | false =>
      rw [spl_miss q] at h
      obtain ⟨h1, h2⟩ := spl_mem z (acc ++ [x]) p h
      refine ⟨fun a ha => ?_, by simp at h2 ⊢; omega⟩
      rcases h1 a ha with h | h
      · rcases List.mem_append.mp h with h | h
        · exact .inl h
        · exact .inr (by simp at h; simp [h])
      · exact .inr (List.mem_cons_of_mem _ h)
theorem map_tl_toS : ∀ {l : List Str} {m : List S}, l.map tl = m → l = m.map toS
  | [], _, e => by subst e; rfl
  | a :: l, m, e => by
    subst e
    rw [List.map_cons, List.map_cons]
    exact congr (congrArg List.cons (ext_tl (by simp [toS, tl]))) (map_tl_toS rfl)
theorem den_strs {g : Gc} {W : Wd} : ∀ {ss : List S}, (∀ s ∈ ss, okS s = true) → DenL g W ((ss.map toS).map V.str) (ss.map D.str)
  | [], _ => .nil
  | s :: ss, h => .cons (.str s (h s (by simp))) (den_strs fun z hz => h z (List.mem_cons_of_mem _ hz))
theorem im_split (h : fM (gc X) Wx sSplit x vs σ H Q) : ∃ a b, x = .str a ∧ vs = [.str b] ∧ (b.length == 0) = false ∧ a.length + 2 ≤ sizeLine ∧ rNewStrs (Txt.split a b) H Q := by
  obtain ⟨W, d, ds, rfl, s, h1, l, p⟩ := h
  cases d with
  | str z =>
    obtain ⟨rfl, oz⟩ := h1.str_inv
    cases l with
    | nil => exact p.elim
    | @cons v d vs ds hv t =>
      cases d with
      | str y =>
        cases y with
        | nil => exact p.elim
        | cons c y =>
          cases y with
          | cons _ _ => exact p.elim
          | nil =>
            cases t with
            | cons _ _ => exact p.elim
            | nil =>
              obtain ⟨rfl, oc⟩ := hv.str_inv
              dsimp only [sSplit] at p
              split at p
              · rename_i hl
                have hk : (toS [c]).cps.all (· < 256) = true := by
                  have := (okS_iff.mp oc).1 c (by simp)
                  simp [toS]; omega
                have e : Txt.split (toS z) (toS [c]) = (spl [c] 0 [] z).map toS := map_tl_toS (by
                  rw [split_spl _ _ (by simp [toS, tl]) (kind_ok hk)]
                  simp [toS, tl])
                refine ⟨toS z, toS [c], rfl, rfl, by simp [toS, Str.length], by rw [len_toS, big_eq]; exact hl, ?_⟩
                unfold rNewStrs
                rw [e]
                refine Post.newL s (den_strs fun p hp => ?_) p
                obtain ⟨m1, m2⟩ := spl_mem z [] p hp
                exact okS_iff.mpr ⟨fun a ha => (okS_iff.mp oz).1 a ((m1 a ha).resolve_left (by simp)), by simp at m2; omega⟩
              · exact p.elim
      | _ => exact p.elim
  | _ => cases ds <;> exact p.elim
/-! upper, lower -/
def upA (c : Nat) : Nat := if 97 ≤ c ∧ c ≤ 122 then c - 32 else c
def loA (c : Nat) : Nat := if 65 ≤ c ∧ c ≤ 90 then c + 32 else c
theorem up_all : ((List.range 128).all fun c => Unicode.upperOf c == [upA c]) = true := by decide +kernel
theorem lo_all : ((List.range 128).all fun c => Unicode.lowerOf c == [loA c]) = true := by decide +kernel
def sUp (f : Nat → Nat) (d : D) (ds : List D) (st : Store) : Res D := match d, ds with
  | .str z, [] => if z.length ≤ 5592405 then .ok (.str (z.map f)) st else .no
  | _, _ => .no
theorem placed_map {f : Nat → Nat → List Nat} {g : Nat → Nat} {z : S} (h : ∀ i c, z[i]? = some c → f i c = [g c]) : (⟨PySem.placed (toS z) f⟩ : Str) = toS (z.map g) := by
  refine ext_tl ?_
  have : ∀ (z : S) (k : Nat), (∀ i c, z[i]? = some c → f (k + i) c = [g c]) → ((z.mapIdx fun i c => f (k + i) c).flatten) = z.map g := by
    intro z
    induction z with
    | nil => intro k h; rfl
    | cons c z ih =>
      intro k h
      rw [List.mapIdx_cons, List.flatten_cons, List.map_cons]
      have := h 0 c rfl
      rw [this]
      have h2 := ih (k + 1) fun i c' hc => by
        have := h (i + 1) c' (by simpa using hc)
        rw [← this]; congr 1; omega
      have e : (fun i c => f (k + (i + 1)) c) = (fun i c => f (k + 1 + i) c) := by
        funext i c; congr 1; omega
      rw [e, h2]; rfl
  have h0 := this z 0 fun i c hc => by rw [Nat.zero_add]; exact h i c hc
  unfold PySem.placed toS tl
  simp only [Nat.zero_add] at h0
  simp only
  rw [← h0]
  have e2 : (Array.mapIdx (fun i c => (f i c).toArray) z.toArray) = ((z.mapIdx fun i c => f i c).map List.toArray).toArray := by
    rw [List.mapIdx_toArray]
    refine congrArg List.toArray (List.ext_getElem? fun i => ?_)
    rw [List.getElem?_map, List.getElem?_mapIdx, List.getElem?_mapIdx]
    cases z[i]? <;> rfl
  rw [e2]
  simp
theorem okS_map {g : Nat → Nat} {z : S} (h : okS z = true) (hg : ∀ c, c < 128 → g c < 128) : okS (z.map g) = true := by
  obtain ⟨h1, h2⟩ := okS_iff.mp h
  refine okS_iff.mpr ⟨fun c hc => ?_, by simpa using h2⟩
  obtain ⟨a, ha, rfl⟩ := List.mem_map.mp hc
  exact hg a (h1 a ha)
theorem im_upper (h : fM (gc X) Wx (sUp upA) x vs σ H Q) : ∃ a, x = .str a ∧ vs = [] ∧ a.length ≤ 5592405 ∧ Q (.str (Txt.upper a)) H := by
  obtain ⟨W, d, ds, rfl, s, h1, l, p⟩ := h
  cases d with
  | str z =>
    obtain ⟨rfl, oz⟩ := h1.str_inv
    cases l with
    | cons _ _ => exact p.elim
    | nil =>
      dsimp only [sUp] at p
      split at p
      · rename_i hl
        refine ⟨toS z, rfl, rfl, by rw [len_toS]; exact hl, ?_⟩
        have e : Txt.upper (toS z) = toS (z.map upA) := placed_map fun i c hc => by
          have := List.all_eq_true.mp up_all c (List.mem_range.mpr ((okS_iff.mp oz).1 c (List.mem_of_getElem? hc)))
          exact beq_iff_eq.mp this
        rw [e]
        exact p W (Ext.refl W) s rfl _ (.str _ (okS_map oz fun c hc => by unfold upA; split <;> omega))
      · exact p.elim
  | _ => cases ds <;> exact p.elim
theorem im_lower (h : fM (gc X) Wx (sUp loA) x vs σ H Q) : ∃ a, x = .str a ∧ vs = [] ∧ a.length ≤ 5592405 ∧ Q (.str (Txt.lower a)) H := by
  obtain ⟨W, d, ds, rfl, s, h1, l, p⟩ := h
  cases d with
  | str z =>
    obtain ⟨rfl, oz⟩ := h1.str_inv
    cases l with
    | cons _ _ => exact p.elim
    | nil =>
      dsimp only [sUp] at p
      split at p
      · rename_i hl
        refine ⟨toS z, rfl, rfl, by rw [len_toS]; exact hl, ?_⟩
        have e : Txt.lower (toS z) = toS (z.map loA) := placed_map fun i c hc => by
          have hc2 := (okS_iff.mp oz).1 c (List.mem_of_getElem? hc)
          have := beq_iff_eq.mp (List.all_eq_true.mp lo_all c (List.mem_range.mpr hc2))
          have e : (toS z).cps[i]? = some c := by simp [toS, hc]
          unfold Unicode.lowerAt
          rw [e]
          have : (c == 0x3A3) = false := beq_eq_false_iff_ne.mpr (by omega)
          simp only [this, Bool.false_and]
          assumption
        rw [e]
        exact p W (Ext.refl W) s rfl _ (.str _ (okS_map oz fun c hc => by unfold loA; split <;> omega))
      · exact p.elim
  | _ => cases ds <;> exact p.elim
end
end FL
end
section
set_option Elab.async false
set_option linter.all false
set_option maxRecDepth 100000
/-! FLR: enumerate and zip, of lists and tuples. -/
namespace FL
open PySem PySem.Spec PyProof.Rows L2

/-- a list (false) or a tuple (true) -/
def SqB (K : PySem.W.Frag) (b : Bool) (H : Hp) (a : Addr) (xs : List V) : Prop := if b = true then SqT K H a xs else SqL K H a xs
def ItB (b : Bool) (h : Heap) (it a : Addr) (i : Nat) : Prop := if b = true then h.IsTupleIter it a i else h.IsListIter it a i
def SeB (b : Bool) (h : Heap) (a : Addr) (xs : Array Value) : Prop := if b = true then h.IsTuple a xs else h.IsList a xs
theorem ItB.at_ {b : Bool} {h h' : Heap} {it a : Addr} {i : Nat} (x : ItB b h it a i) (e : ∀ o, h.get? it = some o → h'.get? it = some o) : ItB b h' it a i := by
  cases b
  · exact Heap.IsListIter.at (show h.IsListIter it a i from x) e
  · exact Heap.IsTupleIter.at (show h.IsTupleIter it a i from x) e
theorem ItB.obj {b : Bool} {h : Heap} {it a : Addr} {i : Nat} (x : ItB b h it a i) : ∃ o, h.get? it = some o ∧ ∀ v, o.data ≠ .cell v := by
  cases b
  · obtain ⟨o, ho, _, hd⟩ := (show h.IsListIter it a i from x); exact ⟨o, ho, fun v q => by rw [hd] at q; cases q⟩
  · obtain ⟨o, ho, _, hd⟩ := (show h.IsTupleIter it a i from x); exact ⟨o, ho, fun v q => by rw [hd] at q; cases q⟩
theorem SqB.obj {X : Cx} {pins : List (Addr × Obj)} {σ : L2.St} {H : Hp} {s : Shared} {b : Bool} {a : Addr} {xs : List V} (I : Inv X pins σ H s) (q : SqB X.K b H a xs) : ∃ its : List Value, Vals xs its ∧ SeB b s.heap a its.toArray ∧ a < s.heap.objs.size := by
  cases b
  · obtain ⟨its, rv, p, hz⟩ := I.list (show SqL X.K H a xs from q)
    exact ⟨its, rv, p.isList, p.lt⟩
  · obtain ⟨its, rv, p, hz⟩ := I.tuple (show SqT X.K H a xs from q)
    obtain ⟨o1, ho1, _⟩ := id p
    exact ⟨its, rv, p, Heap.lt_size ho1⟩
theorem SqB.inj {X : Cx} {pins : List (Addr × Obj)} {σ : L2.St} {H : Hp} {s : Shared} {b : Bool} {a : Addr} {xs ys : List V} (I : Inv X pins σ H s) (q : SqB X.K b H a xs) (q' : SqB X.K b H a ys) : xs = ys := by
  cases b
  · exact I.list_inj q q'
  · exact I.tuple_inj q q'
theorem drawsB {P : Program} {w : World} {A : Around} (hh : A.handled = none) (b : Bool) (it a : Addr) (hne : a ≠ it) (items : Array Value) :
    Draws P w A it [it, a] items.size (fun i v => items[i]? = some v) (fun i h => ItB b h it a i ∧ SeB b h a items) := by
  cases b
  · exact Draws.list hh it a hne items
  · exact Draws.tuple hh it a hne items

/-! ### enumerate -/
def IteB (K : PySem.W.Frag) (b : Bool) (a : Addr) : It :=
  ⟨fun i H => ∃ (xs : List V) (x : V), SqB K b H a xs ∧ xs[i]? = some x, fun i H v H' => ∃ T x, v = .ref T ∧ H T = none ∧ H' = upd H T (.tup [.int (i : Nat), x]) ∧ ∀ xs, SqB K b H a xs → xs[i]? = some x, fun i H => ∃ xs : List V, SqB K b H a xs ∧ xs.length = i⟩
theorem turn_enumB {P : Program} {w : World} {K : PySem.W.Frag} {elts : List Expr} {kk : Nat} {tpos : Pos} (b : Bool) (a e it : Addr) :
    Turn P w K (.Tuple elts kk tpos) (IteB K b a) [e, it] e (fun i h => (∃ old, IsEnum h e it ((i : Nat) : Int) old) ∧ ItB b h it a i ∧ e ≠ it ∧ e ≠ a ∧ a ≠ it) where
  mem := by simp
  obj := fun i h st c hc => by
    obtain ⟨⟨old, he⟩, hi, _⟩ := st
    have e' : c = e ∨ c = it := by simpa using hc
    rcases e' with z | z
    · rw [z]; exact ⟨_, he, fun v q => nomatch q⟩
    · rw [z]; exact hi.obj
  keep := fun i h h' st k => let ⟨⟨old, he⟩, hi, hne⟩ := st; ⟨⟨old, k e (by simp) _ he⟩, hi.at_ fun o q => k it (by simp) o q, hne⟩
  item := by
    intro X hP hw hK hc i pins s σ H E I hf st hg
    subst hP hw hK
    obtain ⟨⟨old, he⟩, hit, hne, hea, hai⟩ := st
    obtain ⟨xs, x, hq, hx⟩ := hg
    obtain ⟨its, rv, p, hal⟩ := hq.obj I
    obtain ⟨u, hu, ru⟩ := rv.get hx
    have hel : e < s.heap.objs.size := Heap.lt_size he
    have hil : it < s.heap.objs.size := by obtain ⟨_, q, _⟩ := hit.obj; exact Heap.lt_size q
    have hu' : its.toArray[i]? = some u := by simpa using hu
    have hlt : i < its.toArray.size := by
      rcases Nat.lt_or_ge i its.toArray.size with q | q
      · exact q
      · rw [Array.getElem?_eq_none q] at hu'; cases hu'
    refine wpAny_pyNext_enum_itemD (drawsB (A := X.A.in1) (show X.A.in1.handled = none from I.ok.hd hc) b it a hai its.toArray) he ⟨hit, p⟩ hlt hne (by simp [hne, hea]) fun u2 h' tk hP2 ho hst hT hsz hk => ?_
    have hu2 : u2 = u := by rw [hu'] at hP2; exact (Option.some.inj hP2).symm
    subst hu2
    obtain ⟨hit', _⟩ := hst
    refine ⟨_, rfl, wpAny_letOwnedTupleGo_enum (s := { s with heap := h', toks := tk + 1 }) ho fun h'' he' sb => ?_⟩
    have hT2 : h''.get? s.heap.objs.size = some { cls := .type "tuple", data := .seq #[.int i tk, u2] } := (sb.2 _ (Nat.ne_of_gt hel)).trans hT
    have new : ObjOk X.prog X.w (upd H s.heap.objs.size (.tup [.int (i : Nat), x])) h'' s.heap.objs.size (.tup [.int (i : Nat), x]) :=
      ⟨by show 2 ≤ sizeLine; decide, [.int i tk, u2], .cons ⟨_, rfl⟩ (.cons ru .nil), ⟨_, hT2, rfl, _, rfl⟩⟩
    have I1 : Inv X pins σ (upd H s.heap.objs.size (.tup [.int (i : Nat), x])) { s with heap := h'', toks := tk + 1 } :=
      I.turnedNew (ch := [e, it]) (fun c ob hb q => (sb.2 c (fun z => hb (by simp [z]))).trans (hk c ob (fun z => hb (by simp [z])) (fun z => hb (by simp [z])) q)) hf (Nat.le_refl _) new
    refine ⟨.ref s.heap.objs.size, _, I1, rfl, ⟨_, x, rfl, I.hok.fresh (Nat.le_refl _), rfl, fun ys hy => by rw [hy.inj I hq]; exact hx⟩, ⟨⟨u2, ?_⟩, hit'.at_ fun o q => (sb.2 it (Ne.symm hne)).trans q, hne, hea, hai⟩, fun c hb => ?_⟩
    · have e1 : ((i + 1 : Nat) : Int) = (i : Int) + 1 := by omega
      rw [e1]; exact he'
    · have hb' : c < s.heap.objs.size := by
        have e' : c = e ∨ c = it := by simpa using hb
        rcases e' with z | z
        · rw [z]; exact hel
        · rw [z]; exact hil
      rw [upd_ne (Nat.ne_of_lt hb')]
      exact (hf c hb).1
  done := by
    intro X hP hw hK hc i pins s σ H E I hf st hg
    subst hP hw hK
    obtain ⟨⟨old, he⟩, hit, hne, hea, hai⟩ := st
    obtain ⟨xs, hq, hx⟩ := hg
    obtain ⟨its, rv, p, hal⟩ := hq.obj I
    obtain ⟨f0, f1, f2, f3, f4, f5⟩ := hf it (by simp)
    have hl := rv.length
    have hi : i = its.toArray.size := by simp; omega
    subst hi
    exact wpAny_pyNext_enum_endD (drawsB (A := X.A.in1) (show X.A.in1.handled = none from I.ok.hd hc) b it a hai its.toArray) he ⟨hit, p⟩ fun h' eb => ⟨rfl, I.turned (t' := s.toks) (fun b o hb q => eb b o hb q) f0 f1 f3 f4 f5⟩
  self := fun A i s Q E st h => let ⟨⟨_, he⟩, _⟩ := st; wpAny_pyIter_enum he h
open AutoSeq1 (wpAny_loadPart')
theorem meets_enumerate_newT (l : Addr) (items : Array Value) (n : Nat) (dct : Option Addr) (sl : Array (Option Value)) :
    Meets (Builtin.«enumerate.__new__» ⟨[.type "enumerate", .ref l], []⟩) (fun _ R s => s.heap.get? l = some { cls := .type "tuple", dict := dct, data := .seq items n, slots := sl } ∧
      R (.ok (.ret (.ref (s.heap.push { cls := .type "tuple_iterator", data := .fields #[.ref l, .int 0 0] }).objs.size)))
        { s with heap := (s.heap.push { cls := .type "tuple_iterator", data := .fields #[.ref l, .int 0 0] }).push { cls := .type "enumerate", data := .fields #[.none, .bool false, .ref s.heap.objs.size, rawInt 0, .none, .none] } }) :=
  .of_wp fun prog w A R s h => by
    obtain ⟨hp, g, d, tk, os⟩ := s; obtain ⟨hl, h⟩ := h
    have hsub := sub_enumerate
    have hL : Heap.IsTuple (Shared.heap ⟨hp, g, d, tk, os⟩) l items := ⟨_, hl, rfl, n, rfl⟩
    wp_walk using wpAny_loadPart' hl
    refine wpAny_stack_any fun st => wpAny_pure ?_
    split
    · rename_i c _ _ _ _ _
      cases (c == Value.type "enumerate")
      · wp_walk using wpAny_loadPart' hl, wpAny_pyIter_tuple hL
        exact ⟨_, rfl, h⟩
      · wp_walk using wpAny_loadPart' hl, wpAny_pyIter_tuple hL
        exact ⟨_, rfl, h⟩
    · wp_walk using wpAny_loadPart' hl, wpAny_pyIter_tuple hL
      exact ⟨_, rfl, h⟩
theorem call_enumerate_tuple {prog : Program} {w : World} {A : Around} {E : Value → Shared → Prop} {s : Shared} {l : Addr} {items : Array Value} {Q : Value → Shared → Prop} (hL : s.heap.IsTuple l items)
    (h : ∀ h', IsEnum h' (s.heap.objs.size + 1) s.heap.objs.size 0 .none → h'.IsTupleIter s.heap.objs.size l 0 → h'.objs.size = s.heap.objs.size + 2 →
      (∀ b o, s.heap.get? b = some o → h'.get? b = some o) → Q (.ref (s.heap.objs.size + 1)) { s with heap := h' }) :
    wpAny (model prog w) A (call (.type "enumerate") [.ref l]) Q E s := by
  obtain ⟨⟨c, dct, dt, sl⟩, hl, hc, n, hd⟩ := hL
  replace hc : c = .type "tuple" := hc
  replace hd : dt = .seq items n := hd
  subst hc hd
  refine callType_new F.called_enumerate (by decide) (F.typeCall_enumerate_1 _) (F.newCall_enumerate_1 _) (fun obj => F.args_object_init_2 obj _) F.entry_enumerate_new
    (meets_enumerate_newT l items n dct sl) ⟨hl, ?_⟩
  have hz : (s.heap.push { cls := .type "tuple_iterator", data := .fields #[.ref l, .int 0 0] }).objs.size = s.heap.objs.size + 1 := Heap.size_push ..
  show _ ∧ _
  rw [hz]
  have he : IsEnum ((s.heap.push { cls := .type "tuple_iterator", data := .fields #[.ref l, .int 0 0] }).push
      { cls := .type "enumerate", data := .fields #[.none, .bool false, .ref s.heap.objs.size, rawInt 0, .none, .none] }) (s.heap.objs.size + 1) s.heap.objs.size 0 .none := by
    have := Heap.get?_push_size (s.heap.push { cls := .type "tuple_iterator", data := .fields #[.ref l, .int 0 0] })
      (o := { cls := .type "enumerate", data := .fields #[.none, .bool false, .ref s.heap.objs.size, rawInt 0, .none, .none] }) rfl
    rw [hz] at this; exact this
  refine ⟨⟨_, he, rfl⟩, h _ he ⟨_, Heap.get?_push_of_some _ (Heap.get?_push_size _ rfl), rfl, rfl⟩ (by rw [Heap.size_push, hz]) fun b o x => Heap.get?_push_of_some _ (Heap.get?_push_of_some _ x)⟩
theorem call_enumerate_B {prog : Program} {w : World} {A : Around} {E : Value → Shared → Prop} {s : Shared} {l : Addr} {items : Array Value} {Q : Value → Shared → Prop} (b : Bool) (hL : SeB b s.heap l items)
    (h : ∀ h', IsEnum h' (s.heap.objs.size + 1) s.heap.objs.size 0 .none → ItB b h' s.heap.objs.size l 0 → h'.objs.size = s.heap.objs.size + 2 →
      (∀ b o, s.heap.get? b = some o → h'.get? b = some o) → Q (.ref (s.heap.objs.size + 1)) { s with heap := h' }) :
    wpAny (model prog w) A (call (.type "enumerate") [.ref l]) Q E s := by
  cases b
  · exact call_enumerate_list hL h
  · exact call_enumerate_tuple hL h
def iEnumB (K : PySem.W.Frag) (ta : TA) : TI := fun σ H R => ta σ H fun vs H1 => ∃ b a xs, vs = [.ref a] ∧ SqB K b H1 a xs ∧ R (IteB K b a) H1
theorem pi_enumB {X : Cx} {e : Expr} {ta : TA} {p pos tpos : Pos} {elts : List Expr} {kk : Nat} (hg : Gl X "enumerate") (hm : X.mg "enumerate" = none) (ha : PA X [e] ta) (hs : starEach [e] X.env = [(false, eval e X.env)] := by rfl) :
    PI X (.Tuple elts kk tpos) (.Call (.Name "enumerate" p) [e] [] pos) (iEnumB X.K ta) := by
  refine ⟨fun pins s σ H R I h => ?_⟩
  refine Call_ (ld_blt I hg hm boot_enumerate (PyProof.Rows.callWith_type1 (thn (ha.run pos pins s σ H _ I h) fun us s1 ⟨vs, H1, I1, r1, q1⟩ => ?_) hs rfl))
  obtain ⟨b, a, xs, ex, hq, q⟩ := q1
  subst ex
  cases r1 with
  | cons r rr =>
    cases rr
    cases r
    obtain ⟨its, rv, p', hal⟩ := hq.obj I1
    refine call_enumerate_B b p' fun h' he hit hsz hk => wpAny_pyIter_enum he ?_
    have I2 : Inv X pins σ H1 { s1 with heap := h' } := I1.kept (t' := s1.toks) hk
    refine ⟨s1.heap.objs.size + 1, [s1.heap.objs.size + 1, s1.heap.objs.size], _, _, H1, rfl, I2, turn_enumB b a (s1.heap.objs.size + 1) s1.heap.objs.size, ⟨⟨.none, he⟩, hit, Nat.succ_ne_self _, Nat.ne_of_gt (Nat.lt_succ_of_lt hal), Nat.ne_of_lt hal⟩, fun b hb => ?_, q⟩
    have e' : b = s1.heap.objs.size + 1 ∨ b = s1.heap.objs.size := by simpa using hb
    have hle : s1.heap.objs.size ≤ b := by
      rcases e' with z | z
      · rw [z]; exact Nat.le_add_right _ _
      · rw [z]; exact Nat.le_refl _
    exact I1.fpOk hle (I1.hok.fresh hle)

abbrev zipLTH1 (h : Heap) (l1 : Addr) : Heap := h.push { cls := .type "list_iterator", data := .fields #[.ref l1, .int 0 0] }
abbrev zipLTH2 (h : Heap) (l1 l2 : Addr) : Heap := (zipLTH1 h l1).push { cls := .type "tuple_iterator", data := .fields #[.ref l2, .int 0 0] }
abbrev zipLTH3 (h : Heap) (l1 l2 : Addr) : Heap := (zipLTH2 h l1 l2).push { cls := .type "tuple", data := .seq #[.ref h.objs.size, .ref (zipLTH1 h l1).objs.size] }
abbrev zipLTH4 (h : Heap) (l1 l2 : Addr) : Heap := (zipLTH3 h l1 l2).push { cls := .type "tuple", data := .seq #[.none, .none] }
abbrev zipLTH5 (h : Heap) (l1 l2 : Addr) : Heap := (zipLTH4 h l1 l2).push { cls := .type "zip", data := .fields #[.none, .bool false, .bool false, .ref (zipLTH2 h l1 l2).objs.size, .ref (zipLTH3 h l1 l2).objs.size] }
theorem meets_zipLT_new (l1 l2 : Addr) (xs ys : Array Value) :
    Meets (Builtin.«zip.__new__» ⟨[.type "zip", .ref l1, .ref l2], []⟩) (fun _ R s => s.heap.IsList l1 xs ∧ s.heap.IsTuple l2 ys ∧
      R (.ok (.ret (.ref (zipLTH4 s.heap l1 l2).objs.size))) { s with heap := zipLTH5 s.heap l1 l2 }) :=
  .of_wp fun prog w A R s h => by
    obtain ⟨hp, g, d, tk, os⟩ := s; obtain ⟨hl1, hl2, h⟩ := h
    have hsub := sub_zip
    have hL1 : Heap.IsList (Shared.heap ⟨hp, g, d, tk, os⟩) l1 xs := hl1
    have hL2 : Heap.IsTuple (Shared.heap ⟨hp.push { cls := .type "list_iterator", data := .fields #[.ref l1, .int 0 0] }, g, d, tk, os⟩) l2 ys := Heap.IsTuple.push hl2 _
    wp_walk using wpAny_pyIter_list hL1, wpAny_pyIter_tuple hL2
    exact ⟨_, rfl, h⟩
theorem call_zipLT {prog : Program} {w : World} {A : Around} {E : Value → Shared → Prop} {s : Shared} {l1 l2 : Addr} {xs ys : Array Value} {Q : Value → Shared → Prop} (hl1 : s.heap.IsList l1 xs) (hl2 : s.heap.IsTuple l2 ys)
    (h : ∀ h', IsZip h' (s.heap.objs.size + 4) (s.heap.objs.size + 2) (s.heap.objs.size + 3) .none → IsPair h' (s.heap.objs.size + 2) (.ref s.heap.objs.size) (.ref (s.heap.objs.size + 1)) →
      IsPair h' (s.heap.objs.size + 3) .none .none → h'.IsListIter s.heap.objs.size l1 0 → h'.IsTupleIter (s.heap.objs.size + 1) l2 0 → h'.objs.size = s.heap.objs.size + 5 →
      (∀ c o, s.heap.get? c = some o → h'.get? c = some o) → Q (.ref (s.heap.objs.size + 4)) { s with heap := h' }) :
    wpAny (model prog w) A (call (.type "zip") [.ref l1, .ref l2]) Q E s := by
  refine callType_new F.called_zip (by decide) (F.typeCall_zip_2 _ _) (F.newCall_zip_2 _ _) (fun obj => F.args_object_init_3 obj _ _) F.entry_zip_new
    (meets_zipLT_new l1 l2 xs ys) ⟨hl1, hl2, ?_⟩
  have z1 : (zipLTH1 s.heap l1).objs.size = s.heap.objs.size + 1 := Heap.size_push ..
  have z2 : (zipLTH2 s.heap l1 l2).objs.size = s.heap.objs.size + 2 := by rw [Heap.size_push, z1]
  have z3 : (zipLTH3 s.heap l1 l2).objs.size = s.heap.objs.size + 3 := by rw [Heap.size_push, z2]
  have z4 : (zipLTH4 s.heap l1 l2).objs.size = s.heap.objs.size + 4 := by rw [Heap.size_push, z3]
  have z5 : (zipLTH5 s.heap l1 l2).objs.size = s.heap.objs.size + 5 := by rw [Heap.size_push, z4]
  have g5 : (zipLTH5 s.heap l1 l2).get? (zipLTH4 s.heap l1 l2).objs.size = some _ := Heap.get?_push_size _ rfl
  have g4 : (zipLTH5 s.heap l1 l2).get? (zipLTH3 s.heap l1 l2).objs.size = some _ := Heap.get?_push_of_some _ (Heap.get?_push_size _ rfl)
  have g3 : (zipLTH5 s.heap l1 l2).get? (zipLTH2 s.heap l1 l2).objs.size = some _ := Heap.get?_push_of_some _ (Heap.get?_push_of_some _ (Heap.get?_push_size _ rfl))
  have g2 : (zipLTH5 s.heap l1 l2).get? (zipLTH1 s.heap l1).objs.size = some _ := Heap.get?_push_of_some _ (Heap.get?_push_of_some _ (Heap.get?_push_of_some _ (Heap.get?_push_size _ rfl)))
  have g1 : (zipLTH5 s.heap l1 l2).get? s.heap.objs.size = some _ := Heap.get?_push_of_some _ (Heap.get?_push_of_some _ (Heap.get?_push_of_some _ (Heap.get?_push_of_some _ (Heap.get?_push_size _ rfl))))
  show _ ∧ _
  rw [z2, z3, z4] at g5
  rw [z1, z2] at g3
  rw [z3] at g4
  rw [z1] at g2
  rw [z4]
  exact ⟨⟨_, g5, rfl⟩, h _ g5 g3 g4 ⟨_, g1, rfl, rfl⟩ ⟨_, g2, rfl, rfl⟩ z5 fun c o x =>
    Heap.get?_push_of_some _ (Heap.get?_push_of_some _ (Heap.get?_push_of_some _ (Heap.get?_push_of_some _ (Heap.get?_push_of_some _ x))))⟩

abbrev zipTLH1 (h : Heap) (l1 : Addr) : Heap := h.push { cls := .type "tuple_iterator", data := .fields #[.ref l1, .int 0 0] }
abbrev zipTLH2 (h : Heap) (l1 l2 : Addr) : Heap := (zipTLH1 h l1).push { cls := .type "list_iterator", data := .fields #[.ref l2, .int 0 0] }
abbrev zipTLH3 (h : Heap) (l1 l2 : Addr) : Heap := (zipTLH2 h l1 l2).push { cls := .type "tuple", data := .seq #[.ref h.objs.size, .ref (zipTLH1 h l1).objs.size] }
abbrev zipTLH4 (h : Heap) (l1 l2 : Addr) : Heap := (zipTLH3 h l1 l2).push { cls := .type "tuple", data := .seq #[.none, .none] }
abbrev zipTLH5 (h : Heap) (l1 l2 : Addr) : Heap := (zipTLH4 h l1 l2).push { cls := .type "zip", data := .fields #[.none, .bool false, .bool false, .ref (zipTLH2 h l1 l2).objs.size, .ref (zipTLH3 h l1 l2).objs.size] }
theorem meets_zipTL_new (l1 l2 : Addr) (xs ys : Array Value) :
    Meets (Builtin.«zip.__new__» ⟨[.type "zip", .ref l1, .ref l2], []⟩) (fun _ R s => s.heap.IsTuple l1 xs ∧ s.heap.IsList l2 ys ∧
      R (.ok (.ret (.ref (zipTLH4 s.heap l1 l2).objs.size))) { s with heap := zipTLH5 s.heap l1 l2 }) :=
  .of_wp fun prog w A R s h => by
    obtain ⟨hp, g, d, tk, os⟩ := s; obtain ⟨hl1, hl2, h⟩ := h
    have hsub := sub_zip
    have hL1 : Heap.IsTuple (Shared.heap ⟨hp, g, d, tk, os⟩) l1 xs := hl1
    have hL2 : Heap.IsList (Shared.heap ⟨hp.push { cls := .type "tuple_iterator", data := .fields #[.ref l1, .int 0 0] }, g, d, tk, os⟩) l2 ys := Heap.IsList.push hl2 _
    wp_walk using wpAny_pyIter_tuple hL1, wpAny_pyIter_list hL2
    exact ⟨_, rfl, h⟩
theorem call_zipTL {prog : Program} {w : World} {A : Around} {E : Value → Shared → Prop} {s : Shared} {l1 l2 : Addr} {xs ys : Array Value} {Q : Value → Shared → Prop} (hl1 : s.heap.IsTuple l1 xs) (hl2 : s.heap.IsList l2 ys)
    (h : ∀ h', IsZip h' (s.heap.objs.size + 4) (s.heap.objs.size + 2) (s.heap.objs.size + 3) .none → IsPair h' (s.heap.objs.size + 2) (.ref s.heap.objs.size) (.ref (s.heap.objs.size + 1)) →
      IsPair h' (s.heap.objs.size + 3) .none .none → h'.IsTupleIter s.heap.objs.size l1 0 → h'.IsListIter (s.heap.objs.size + 1) l2 0 → h'.objs.size = s.heap.objs.size + 5 →
      (∀ c o, s.heap.get? c = some o → h'.get? c = some o) → Q (.ref (s.heap.objs.size + 4)) { s with heap := h' }) :
    wpAny (model prog w) A (call (.type "zip") [.ref l1, .ref l2]) Q E s := by
  refine callType_new F.called_zip (by decide) (F.typeCall_zip_2 _ _) (F.newCall_zip_2 _ _) (fun obj => F.args_object_init_3 obj _ _) F.entry_zip_new
    (meets_zipTL_new l1 l2 xs ys) ⟨hl1, hl2, ?_⟩
  have z1 : (zipTLH1 s.heap l1).objs.size = s.heap.objs.size + 1 := Heap.size_push ..
  have z2 : (zipTLH2 s.heap l1 l2).objs.size = s.heap.objs.size + 2 := by rw [Heap.size_push, z1]
  have z3 : (zipTLH3 s.heap l1 l2).objs.size = s.heap.objs.size + 3 := by rw [Heap.size_push, z2]
  have z4 : (zipTLH4 s.heap l1 l2).objs.size = s.heap.objs.size + 4 := by rw [Heap.size_push, z3]
  have z5 : (zipTLH5 s.heap l1 l2).objs.size = s.heap.objs.size + 5 := by rw [Heap.size_push, z4]
  have g5 : (zipTLH5 s.heap l1 l2).get? (zipTLH4 s.heap l1 l2).objs.size = some _ := Heap.get?_push_size _ rfl
  have g4 : (zipTLH5 s.heap l1 l2).get? (zipTLH3 s.heap l1 l2).objs.size = some _ := Heap.get?_push_of_some _ (Heap.get?_push_size _ rfl)
  have g3 : (zipTLH5 s.heap l1 l2).get? (zipTLH2 s.heap l1 l2).objs.size = some _ := Heap.get?_push_of_some _ (Heap.get?_push_of_some _ (Heap.get?_push_size _ rfl))
  have g2 : (zipTLH5 s.heap l1 l2).get? (zipTLH1 s.heap l1).objs.size = some _ := Heap.get?_push_of_some _ (Heap.get?_push_of_some _ (Heap.get?_push_of_some _ (Heap.get?_push_size _ rfl)))
  have g1 : (zipTLH5 s.heap l1 l2).get? s.heap.objs.size = some _ := Heap.get?_push_of_some _ (Heap.get?_push_of_some _ (Heap.get?_push_of_some _ (Heap.get?_push_of_some _ (Heap.get?_push_size _ rfl))))
  show _ ∧ _
  rw [z2, z3, z4] at g5
  rw [z1, z2] at g3
  rw [z3] at g4
  rw [z1] at g2
  rw [z4]
  exact ⟨⟨_, g5, rfl⟩, h _ g5 g3 g4 ⟨_, g1, rfl, rfl⟩ ⟨_, g2, rfl, rfl⟩ z5 fun c o x =>
    Heap.get?_push_of_some _ (Heap.get?_push_of_some _ (Heap.get?_push_of_some _ (Heap.get?_push_of_some _ (Heap.get?_push_of_some _ x))))⟩

theorem call_zipB {prog : Program} {w : World} {A : Around} {E : Value → Shared → Prop} {s : Shared} {l1 l2 : Addr} {xs ys : Array Value} {Q : Value → Shared → Prop} (b1 b2 : Bool) (hl1 : SeB b1 s.heap l1 xs) (hl2 : SeB b2 s.heap l2 ys)
    (h : ∀ h', IsZip h' (s.heap.objs.size + 4) (s.heap.objs.size + 2) (s.heap.objs.size + 3) .none → IsPair h' (s.heap.objs.size + 2) (.ref s.heap.objs.size) (.ref (s.heap.objs.size + 1)) →
      IsPair h' (s.heap.objs.size + 3) .none .none → ItB b1 h' s.heap.objs.size l1 0 → ItB b2 h' (s.heap.objs.size + 1) l2 0 → h'.objs.size = s.heap.objs.size + 5 →
      (∀ c o, s.heap.get? c = some o → h'.get? c = some o) → Q (.ref (s.heap.objs.size + 4)) { s with heap := h' }) :
    wpAny (model prog w) A (call (.type "zip") [.ref l1, .ref l2]) Q E s := by
  cases b1 <;> cases b2
  · exact call_zip_2 hl1 hl2 h
  · exact call_zipLT hl1 hl2 h
  · exact call_zipTL hl1 hl2 h
  · exact RZ.call_zipT hl1 hl2 h
def ItzB (K : PySem.W.Frag) (b1 b2 : Bool) (a b : Addr) : It :=
  ⟨fun i H => ∃ (xs ys : List V) (x y : V), SqB K b1 H a xs ∧ SqB K b2 H b ys ∧ xs[i]? = some x ∧ ys[i]? = some y,
    fun i H v H' => ∃ T x y, v = .ref T ∧ H T = none ∧ H' = upd H T (.tup [x, y]) ∧ (∀ xs, SqB K b1 H a xs → xs[i]? = some x) ∧ ∀ ys, SqB K b2 H b ys → ys[i]? = some y,
    fun i H => ∃ xs ys : List V, SqB K b1 H a xs ∧ SqB K b2 H b ys ∧ i ≤ xs.length ∧ i ≤ ys.length ∧ (i = xs.length ∨ i = ys.length)⟩
theorem turn_zipB {P : Program} {w : World} {K : PySem.W.Frag} {elts : List Expr} {kk : Nat} {tpos : Pos} {a b z TI TO i1 i2 : Addr} (b1 b2 : Bool) (S : ZipSep2 z TI TO i1 i2 [i1, a] [i2, b]) (ha : a ≠ i1) (hb : b ≠ i2) :
    Turn P w K (.Tuple elts kk tpos) (ItzB K b1 b2 a b) [z, TI, TO, i1, i2] z (fun i h => IsZip h z TI TO .none ∧ IsPair h TI (.ref i1) (.ref i2) ∧ (∃ x y, IsPair h TO x y) ∧ ItB b1 h i1 a i ∧ ItB b2 h i2 b i) where
  mem := by simp
  obj := fun i h st c hc => by
    obtain ⟨hz, hTI, ⟨x, y, hTO⟩, h1, h2⟩ := st
    have e' : c = z ∨ c = TI ∨ c = TO ∨ c = i1 ∨ c = i2 := by simpa using hc
    rcases e' with q | q | q | q | q
    · rw [q]; exact ⟨_, hz, fun v q => nomatch q⟩
    · rw [q]; exact ⟨_, hTI, fun v q => nomatch q⟩
    · rw [q]; exact ⟨_, hTO, fun v q => nomatch q⟩
    · rw [q]; exact h1.obj
    · rw [q]; exact h2.obj
  keep := fun i h h' st k => by
    obtain ⟨hz, hTI, ⟨x, y, hTO⟩, h1, h2⟩ := st
    exact ⟨k z (by simp) _ hz, k TI (by simp) _ hTI, ⟨x, y, k TO (by simp) _ hTO⟩, h1.at_ fun o q => k i1 (by simp) o q, h2.at_ fun o q => k i2 (by simp) o q⟩
  item := by
    intro X hP hw hK hc i pins s σ H E I hf st hg
    subst hP hw hK
    obtain ⟨hz, hTI, ⟨x0, y0, hTO⟩, h1, h2⟩ := st
    obtain ⟨xs, ys, x, y, hqx, hqy, hx, hy⟩ := hg
    obtain ⟨its, rv, p, _⟩ := hqx.obj I
    obtain ⟨its2, rv2, p2, _⟩ := hqy.obj I
    obtain ⟨u, hu, ru⟩ := rv.get hx
    obtain ⟨u2, hu2, ru2⟩ := rv2.get hy
    have hzl : z < s.heap.objs.size := Heap.lt_size hz
    have hu' : its.toArray[i]? = some u := by simpa using hu
    have hu2' : its2.toArray[i]? = some u2 := by simpa using hu2
    have lt : ∀ {it : Array Value} {v : Value}, it[i]? = some v → i < it.size := fun {it v} e => by
      rcases Nat.lt_or_ge i it.size with q | q
      · exact q
      · rw [Array.getElem?_eq_none q] at e; cases e
    refine wpAny_pyNext_zipD2_item S (drawsB (A := X.A.in1) (show X.A.in1.handled = none from I.ok.hd hc) b1 i1 a ha its.toArray) (drawsB (A := X.A.in1) (show X.A.in1.handled = none from I.ok.hd hc) b2 i2 b hb its2.toArray) hz hTI hTO ⟨h1, p⟩ ⟨h2, p2⟩ (lt hu') (lt hu2') fun v1 v2 h' tk e1 e2 z' TO' hs1 hs2 hT hsz hk => ?_
    obtain rfl : v1 = u := by rw [hu'] at e1; exact (Option.some.inj e1).symm
    obtain rfl : v2 = u2 := by rw [hu2'] at e2; exact (Option.some.inj e2).symm
    obtain ⟨h1', _⟩ := hs1
    obtain ⟨h2', _⟩ := hs2
    refine ⟨_, rfl, wpAny_letOwnedTupleGo_zip (s := { s with heap := h', toks := tk }) z' fun h'' z'' sb => ?_⟩
    have hT2 : h''.get? s.heap.objs.size = some { cls := .type "tuple", data := .seq #[v1, v2] } := (sb.2 _ (Nat.ne_of_gt hzl)).trans hT
    have new : ObjOk X.prog X.w (upd H s.heap.objs.size (.tup [x, y])) h'' s.heap.objs.size (.tup [x, y]) :=
      ⟨by show 2 ≤ sizeLine; decide, [v1, v2], .cons ru (.cons ru2 .nil), ⟨_, hT2, rfl, _, rfl⟩⟩
    have I1 : Inv X pins σ (upd H s.heap.objs.size (.tup [x, y])) { s with heap := h'', toks := tk } :=
      I.turnedNew (ch := [z, TI, TO, i1, i2]) (fun c o hb q => (sb.2 c (fun q' => hb (by simp [q']))).trans (hk c o (fun q' => hb (by simp [q'])) (fun q' => hb (by simp [q'])) (fun q' => hb (by simp [q'])) (fun q' => hb (by simp [q'])) q)) hf (Nat.le_refl _) new
    refine ⟨.ref s.heap.objs.size, _, I1, rfl, ⟨_, x, y, rfl, I.hok.fresh (Nat.le_refl _), rfl, fun l hl => by rw [hl.inj I hqx]; exact hx, fun l hl => by rw [hl.inj I hqy]; exact hy⟩, ⟨z'', ?_, ⟨v1, v2, ?_⟩, ?_, ?_⟩, fun c hcm => ?_⟩
    · exact (sb.2 _ S.TIz).trans (hk _ _ S.TIz S.TITO S.TIi1 S.TIi2 hTI)
    · exact (sb.2 _ S.TOz).trans TO'
    · exact h1'.at_ fun o q => (sb.2 _ S.zi1.symm).trans q
    · exact h2'.at_ fun o q => (sb.2 _ S.zi2.symm).trans q
    · have hlt : c < s.heap.objs.size := by
        have e' : c = z ∨ c = TI ∨ c = TO ∨ c = i1 ∨ c = i2 := by simpa using hcm
        rcases e' with q | q | q | q | q
        · rw [q]; exact hzl
        · rw [q]; exact Heap.lt_size hTI
        · rw [q]; exact Heap.lt_size hTO
        · rw [q]; obtain ⟨_, e1, _⟩ := h1.obj; exact Heap.lt_size e1
        · rw [q]; obtain ⟨_, e1, _⟩ := h2.obj; exact Heap.lt_size e1
      rw [upd_ne (Nat.ne_of_lt hlt)]
      exact (hf c hcm).1
  done := by
    intro X hP hw hK hc i pins s σ H E I hf st hg
    subst hP hw hK
    obtain ⟨hz, hTI, ⟨x0, y0, hTO⟩, h1, h2⟩ := st
    obtain ⟨xs, ys, hqx, hqy, hl1, hl2, hend⟩ := hg
    obtain ⟨its, rv, p, _⟩ := hqx.obj I
    obtain ⟨its2, rv2, p2, _⟩ := hqy.obj I
    have l1 := rv.length
    have l2 := rv2.length
    exact wpAny_pyNext_zipD2_end S (drawsB (A := X.A.in1) (show X.A.in1.handled = none from I.ok.hd hc) b1 i1 a ha its.toArray) (drawsB (A := X.A.in1) (show X.A.in1.handled = none from I.ok.hd hc) b2 i2 b hb its2.toArray) hz hTI hTO ⟨h1, p⟩ ⟨h2, p2⟩ (by simp; omega) (by simp; omega) (by simp; omega) fun h' tk hk => ⟨rfl, I.turnedL (ch := [z, TI, TO, i1, i2]) (fun c o hb q =>
      hk c o (fun q' => hb (by simp [q'])) (fun q' => hb (by simp [q'])) (fun q' => hb (by simp [q'])) (fun q' => hb (by simp [q'])) q) hf⟩
  self := fun A i s Q E st h => wpAny_pyIter_zip st.1 h
def iZipB (K : PySem.W.Frag) (ta : TA) : TI := fun σ H R => ta σ H fun vs H1 => ∃ b1 b2 a b xs ys, vs = [.ref a, .ref b] ∧ SqB K b1 H1 a xs ∧ SqB K b2 H1 b ys ∧ R (ItzB K b1 b2 a b) H1
theorem pi_zipB {X : Cx} {e e2 : Expr} {ta : TA} {p pos tpos : Pos} {elts : List Expr} {kk : Nat} (hg : Gl X "zip") (hm : X.mg "zip" = none) (ha : PA X [e, e2] ta)
    (hs : starEach [e, e2] X.env = (false, eval e X.env) :: starEach [e2] X.env := by rfl) (hpl : (backTo pos (starEach [e2] X.env)).any (·.1) = false := by rfl) :
    PI X (.Tuple elts kk tpos) (.Call (.Name "zip" p) [e, e2] [] pos) (iZipB X.K ta) := by
  refine ⟨fun pins s σ H R I h => ?_⟩
  refine Call_ (ld_blt I hg hm PyProof.Rows.boot_zip (PyProof.Rows.callWith_type1 (thn (ha.run pos pins s σ H _ I h) fun us s1 ⟨vs, H1, I1, r1, q1⟩ => ?_) hs hpl))
  obtain ⟨b1, b2, a, b, xs, ys, ex, hqx, hqy, q⟩ := q1
  subst ex
  cases r1 with
  | cons r rr =>
    cases rr with
    | cons r' rr =>
      cases rr
      cases r
      cases r'
      have fresh5 : ∀ c, c ∈ [s1.heap.objs.size + 4, s1.heap.objs.size + 2, s1.heap.objs.size + 3, s1.heap.objs.size, s1.heap.objs.size + 1] → FpOk X pins H1 c := fun c hcm => by
        have e' : c = s1.heap.objs.size + 4 ∨ c = s1.heap.objs.size + 2 ∨ c = s1.heap.objs.size + 3 ∨ c = s1.heap.objs.size ∨ c = s1.heap.objs.size + 1 := by simpa using hcm
        have hle : s1.heap.objs.size ≤ c := by
          rcases e' with z | z | z | z | z
          · rw [z]; exact Nat.le_add_right _ _
          · rw [z]; exact Nat.le_add_right _ _
          · rw [z]; exact Nat.le_add_right _ _
          · rw [z]; exact Nat.le_refl _
          · rw [z]; exact Nat.le_add_right _ _
        exact I1.fpOk hle (I1.hok.fresh hle)
      obtain ⟨its, rv, p1, la⟩ := hqx.obj I1
      obtain ⟨its2, rv2, p2, lb⟩ := hqy.obj I1
      refine call_zipB b1 b2 p1 p2 fun h' hz hTI hTO h1 h2 hsz hk => wpAny_pyIter_zip hz ?_
      have I2 : Inv X pins σ H1 { s1 with heap := h' } := I1.kept (t' := s1.toks) hk
      have S : ZipSep2 (s1.heap.objs.size + 4) (s1.heap.objs.size + 2) (s1.heap.objs.size + 3) s1.heap.objs.size (s1.heap.objs.size + 1) [s1.heap.objs.size, a] [s1.heap.objs.size + 1, b] := by
        have la' : @LT.lt Nat _ a s1.heap.objs.size := la
        have lb' : @LT.lt Nat _ b s1.heap.objs.size := lb
        have ne : ∀ {x y : Nat}, x < y → (x : Addr) ≠ y := fun h => Nat.ne_of_lt h
        have ng : ∀ {x y : Nat}, y < x → (x : Addr) ≠ y := fun h => Nat.ne_of_gt h
        have nm : ∀ {x y z : Addr}, x ≠ y → x ≠ z → x ∉ [y, z] := fun h1 h2 h => by
          rcases List.mem_cons.mp h with h | h
          · exact h1 h
          · rw [List.mem_singleton] at h; exact h2 h
        refine ⟨ne ?_, ne ?_, ne ?_, ng ?_, List.mem_cons_self .., nm (ng ?_) (ng ?_), nm (ng ?_) (ng ?_), ng ?_, List.mem_cons_self .., nm (ng ?_) (ng ?_), nm (ng ?_) (ng ?_), nm (ne ?_) (ng ?_), nm (ng ?_) (ng ?_)⟩ <;> omega
      exact ⟨s1.heap.objs.size + 4, [s1.heap.objs.size + 4, s1.heap.objs.size + 2, s1.heap.objs.size + 3, s1.heap.objs.size, s1.heap.objs.size + 1], _, _, H1, rfl, I2, turn_zipB b1 b2 S (Nat.ne_of_lt la) (Nat.ne_of_lt (Nat.lt_succ_of_lt lb)), ⟨hz, hTI, ⟨_, _, hTO⟩, h1, h2⟩, fresh5, q⟩
end FL
end
section
set_option Elab.async false
set_option linter.all false
set_option maxRecDepth 100000
/-! FLS: enumerate and zip as readings; isinstance. -/
namespace FL
open PySem PySem.Spec PyProof.Rows L2

def fzOf : D → Option (List D)
  | .lst xs => some xs
  | .tup xs => some xs
  | _ => none
theorem fzOf_at {g : Gc} {W : Wd} {v : V} {d : D} {xs : List D} (s : SR g W) (h : Den g W v d) (e : fzOf d = some xs) :
    ∃ b a vs, v = .ref a ∧ DenL g W vs xs ∧ ∀ W', ExtW W W' → SqB g.K b W'.H a vs := by
  cases d with
  | lst ys =>
    cases e
    obtain ⟨a, vs, rfl, h1, n1, l⟩ := h.lst_inv
    exact ⟨false, a, vs, rfl, l, fun W' e => show SqL _ _ _ _ from SqL.of (e.fz _ _ h1 n1).1⟩
  | tup ys =>
    cases e
    cases h with
    | tupH h1 n1 l => exact ⟨true, _, _, rfl, l, fun W' e => show SqT _ _ _ _ from SqT.of (e.fz _ _ h1 n1).1⟩
    | tupK h1 l => exact ⟨true, _, _, rfl, l, fun W' e => show SqT _ _ _ _ from .inr h1⟩
  | _ => cases e
def enD : Nat → List D → List D
  | _, [] => []
  | k, x :: xs => .tup [.int k, x] :: enD (k + 1) xs
theorem enD_get : ∀ (xs : List D) (k i : Nat), (enD k xs)[i]? = xs[i]?.map fun x => .tup [.int (k + i : Nat), x]
  | [], _, _ => by simp [enD]
  | x :: xs, k, 0 => by simp [enD]
  | x :: xs, k, i + 1 => by
    show (enD (k + 1) xs)[i]? = xs[i]?.map _
    rw [enD_get xs (k + 1) i]
    have e : k + 1 + i = k + (i + 1) := by omega
    rw [e]
theorem enD_len : ∀ (xs : List D) (k : Nat), (enD k xs).length = xs.length
  | [], _ => rfl
  | _ :: xs, k => congrArg (· + 1) (enD_len xs (k + 1))
def zpD (xs ys : List D) : List D := (xs.zip ys).map fun p => .tup [p.1, p.2]
def iEn (ma : Ma) : Mi := fun e st => (ma e st).bind fun ds st1 => match ds with
  | [d] => match fzOf d with
    | some xs => .ok (enD 0 xs) st1
    | none => .no
  | _ => .no
def iZp (ma : Ma) : Mi := fun e st => (ma e st).bind fun ds st1 => match ds with
  | [d, d2] => match fzOf d, fzOf d2 with
    | some xs, some ys => .ok (zpD xs ys) st1
    | _, _ => .no
  | _ => .no
section
variable {X : Cx} {Wx : WX} {pos p2 tpos : Pos} {e e2 : Expr} {ma : Ma} {elts : List Expr} {kk : Nat}
theorem i_enum (hg : Gl X "enumerate") (hm : X.mg "enumerate" = none) (ha : PA X [e] (fA (gc X) Wx ma)) (hs : starEach [e] X.env = [(false, eval e X.env)] := by rfl) :
    PI X (.Tuple elts kk tpos) (.Call (.Name "enumerate" p2) [e] [] pos) (fI (gc X) Wx (iEn ma)) := PI.imp (pi_enumB hg hm ha hs) fun σ H R h => by
  obtain ⟨W, env, rfl, s, r, p⟩ := h
  refine ⟨W, env, rfl, s, r, ?_⟩
  dsimp only [iEn] at p
  cases q : ma env W.st with
  | exc x st1 => rw [q] at p; exact p
  | no => rw [q] at p; exact p
  | ok ds st1 =>
    rw [q] at p
    refine fun W1 e1 s1 hs1 v hv => ?_
    cases hv with
    | nil => exact p.elim
    | @cons v d vs ds h1 t =>
      cases t with
      | cons _ _ => exact p.elim
      | nil =>
        dsimp only [Res.bind] at p
        cases q2 : fzOf d with
        | none => rw [q2] at p; exact p.elim
        | some xs =>
          rw [q2] at p
          obtain ⟨b, a, vs, rfl, l, keep⟩ := fzOf_at s1 h1 q2
          refine ⟨b, a, vs, rfl, keep W1 (ExtW.refl _), p W1 e1 s1 hs1 _ ⟨fun W' i d e' s' hd => ?_, fun W' i e' s' hi => ?_⟩⟩
          · rw [enD_get, Nat.zero_add] at hd
            obtain ⟨x, hx, rfl⟩ := Option.map_eq_some_iff.mp hd
            obtain ⟨v, hv, hd'⟩ := (l.monoW e').getD' hx
            refine ⟨⟨vs, v, keep W' e', hv⟩, ?_⟩
            rintro u H' ⟨T, y, rfl, hT, rfl, hy⟩
            have := hy vs (keep W' e')
            rw [hv] at this
            cases this
            obtain ⟨W2, x1, x2, x3, x4, x5⟩ := s'.newT hT (.cons (.int (i : Nat)) (.cons hd' .nil))
            exact ⟨W2, x4, x1, x2, x3, x5⟩
          · refine ⟨vs, keep W' e', ?_⟩
            rw [enD_len] at hi
            rw [l.length]
            exact hi
theorem i_zip (hg : Gl X "zip") (hm : X.mg "zip" = none) (ha : PA X [e, e2] (fA (gc X) Wx ma)) (hs : starEach [e, e2] X.env = (false, eval e X.env) :: starEach [e2] X.env := by rfl) (hpl : (backTo pos (starEach [e2] X.env)).any (·.1) = false := by rfl) :
    PI X (.Tuple elts kk tpos) (.Call (.Name "zip" p2) [e, e2] [] pos) (fI (gc X) Wx (iZp ma)) := PI.imp (pi_zipB hg hm ha hs hpl) fun σ H R h => by
  obtain ⟨W, env, rfl, s, r, p⟩ := h
  refine ⟨W, env, rfl, s, r, ?_⟩
  dsimp only [iZp] at p
  cases q : ma env W.st with
  | exc x st1 => rw [q] at p; exact p
  | no => rw [q] at p; exact p
  | ok ds st1 =>
    rw [q] at p
    refine fun W1 e1 s1 hs1 v hv => ?_
    cases hv with
    | nil => exact p.elim
    | @cons v d vs ds h1 t =>
      cases t with
      | nil => exact p.elim
      | @cons v2 d2 vs ds h2 t =>
        cases t with
        | cons _ _ => exact p.elim
        | nil =>
          dsimp only [Res.bind] at p
          cases q2 : fzOf d with
          | none => rw [q2] at p; exact p.elim
          | some xs =>
            cases q3 : fzOf d2 with
            | none => rw [q2, q3] at p; exact p.elim
            | some ys =>
              rw [q2, q3] at p
              obtain ⟨b1, a, vs, rfl, l, keep⟩ := fzOf_at s1 h1 q2
              obtain ⟨b2, b, ws, rfl, l2, keep2⟩ := fzOf_at s1 h2 q3
              refine ⟨b1, b2, a, b, vs, ws, rfl, keep W1 (ExtW.refl _), keep2 W1 (ExtW.refl _), p W1 e1 s1 hs1 _ ⟨fun W' i d e' s' hd => ?_, fun W' i e' s' hi => ?_⟩⟩
              · unfold zpD at hd
                rw [List.getElem?_map] at hd
                obtain ⟨⟨x, y⟩, hx, rfl⟩ := Option.map_eq_some_iff.mp hd
                obtain ⟨hx1, hx2⟩ := List.getElem?_zip_eq_some.mp hx
                obtain ⟨v, hv, hd'⟩ := (l.monoW e').getD' hx1
                obtain ⟨v2, hv2, hd2'⟩ := (l2.monoW e').getD' hx2
                refine ⟨⟨vs, ws, v, v2, keep W' e', keep2 W' e', hv, hv2⟩, ?_⟩
                rintro u H' ⟨T, y, z, rfl, hT, rfl, hy, hz⟩
                have a1 := hy vs (keep W' e')
                have a2 := hz ws (keep2 W' e')
                rw [hv] at a1
                rw [hv2] at a2
                cases a1
                cases a2
                obtain ⟨W2, x1, x2, x3, x4, x5⟩ := s'.newT hT (.cons hd' (.cons hd2' .nil))
                exact ⟨W2, x4, x1, x2, x3, x5⟩
              · refine ⟨vs, ws, keep W' e', keep2 W' e', ?_⟩
                unfold zpD at hi
                rw [List.length_map, List.length_zip] at hi
                rw [l.length, l2.length]
                omega
end
end FL
end
section
set_option Elab.async false
set_option linter.all false
set_option maxRecDepth 100000
/-! FLT: isinstance. -/
namespace FL
open PySem PySem.Spec PyProof.Rows L2

inductive Ty where
  | non | bl | int | str | tup | lst | dic
  deriving DecidableEq
def Ty.nm : Ty → String
  | .non => "NoneType"
  | .bl => "bool"
  | .int => "int"
  | .str => "str"
  | .tup => "tuple"
  | .lst => "list"
  | .dic => "dict"
def isT (a b : Ty) : Bool := decide (a = b) || (decide (a = .bl) && decide (b = .int))
theorem isT_ok : ∀ a b : Ty, kitB a.nm b.nm = some (isT a b) := by intro a b; cases a <;> cases b <;> decide +kernel
/-- a value's type: built-in or own -/
def tyN : D → Store → Option (Ty ⊕ S)
  | .non, _ => some (.inl .non)
  | .bl _, _ => some (.inl .bl)
  | .int _, _ => some (.inl .int)
  | .str _, _ => some (.inl .str)
  | .tup _, _ => some (.inl .tup)
  | .lst _, _ => some (.inl .lst)
  | .scr _, _ => some (.inl .lst)
  | .dic _, _ => some (.inl .dic)
  | .obj c _, _ => some (.inr c)
  | .nd _, _ => none
  | .ref n, st => match st[n]? with
    | some (.lst _) => some (.inl .lst)
    | some (.dic _) => some (.inl .dic)
    | some (.ins c _) => some (.inr c)
    | _ => none
/-- what isinstance asks of an own class -/
def insB (K : PySem.W.Frag) (c : S) : Bool := He.Fa.ok K (.cls (toS c)) && (He.eqO (PySem.W.findIn K (.ref (He.ga K (toS c))) "__class__") (some (some (.builtin "object.__class__"))) &&
  (He.eqO (PySem.W.specialIn K (.builtin "object.__class__") "__get__") (some (some (.builtin "getset_descriptor.__get__"))) &&
  (decide (PySem.W.takesIn K (.builtin "object.__class__") = some true) && decide (PySem.W.mroIn K (He.ga K (toS c)) (.type "object") = some true))))
def isiTB (K : PySem.W.Frag) (c : S) (T : Ty) : Bool := insB K c && decide (PySem.W.kitOne K (.ref (He.ga K (toS c))) (.type T.nm) = some false)
def isiCB (K : PySem.W.Frag) (C : S) (p : S × Bool) : Bool := insB K p.1 && decide (PySem.W.kitOne K (.ref (He.ga K (toS p.1))) (.ref (He.ga K (toS C))) = some p.2)
def isiKB (K : PySem.W.Frag) (C : S) : Bool := [Ty.non, .bl, .int, .str, .tup, .lst, .dic].all fun a => decide (PySem.W.kitOne K (.type a.nm) (.ref (He.ga K (toS C))) = some false)
def oIsiT (T : Ty) (cs : List S) (d : D) (st : Store) : Res D := match tyN d st with
  | some (.inl a) => .ok (.bl (isT a T)) st
  | some (.inr c) => if cs.contains c = true then .ok (.bl false) st else .no
  | none => .no
def oIsiC (cs : List (S × Bool)) (d : D) (st : Store) : Res D := match tyN d st with
  | some (.inl _) => .ok (.bl false) st
  | some (.inr c) => match cs.lookup c with
    | some b => .ok (.bl b) st
    | none => .no
  | none => .no
theorem tyN_inl {g : Gc} {W : Wd} {v : V} {d : D} {a : Ty} (s : SR g W) (h : Den g W v d) (e : tyN d W.st = some (.inl a)) : TyX g.K W.H v (.type a.nm) := by
  cases h with
  | non => cases e; exact .base .non
  | bl b => cases e; exact .base (.bl b)
  | int b => cases e; exact .base (.int b)
  | str b _ => cases e; exact .base (.str _)
  | tupH h _ _ => cases e; exact .base (.tup h)
  | tupK h _ => cases e; obtain ⟨o, its, n, h1, h2, _⟩ := h; exact .kTuple h1 h2
  | lstH h _ _ => cases e; exact .base (.lst h)
  | scr h _ => cases e; exact .base (.frz h)
  | scrK h => cases e; obtain ⟨o, its, n, h1, h2, _⟩ := h; exact .kList h1 h2
  | dic h _ _ _ => cases e; exact .base (.dK h)
  | ndic _ _ _ _ _ => cases e
  | obj _ _ _ _ => cases e
  | @ref b n hb =>
    dsimp only [tyN] at e
    cases q : W.st[n]? with
    | none => rw [q] at e; cases e
    | some c =>
      rw [q] at e
      have ok := s.cell n b c hb q
      cases c with
      | lst _ => cases e; obtain ⟨vs, h1, _⟩ := ok; exact .base (.lst h1)
      | dic _ => cases e; obtain ⟨vs, h1, _⟩ := ok; exact .base (.dK h1)
      | _ => cases e
theorem tyN_inr {g : Gc} {W : Wd} {v : V} {d : D} {c : S} (s : SR g W) (h : Den g W v d) (e : tyN d W.st = some (.inr c)) (hc : insB g.K c = true) : TyX g.K W.H v (.ref (He.ga g.K (toS c))) := by
  obtain ⟨k1, hc⟩ := ba2 hc
  obtain ⟨k2, hc⟩ := ba2 hc
  obtain ⟨k3, hc⟩ := ba2 hc
  obtain ⟨k4, k5⟩ := ba2 hc
  have mk : ∀ {a dx : Addr} {fs : List (Str × V)}, W.H a = some (.ins (He.ga g.K (toS c)) dx fs) → TyX g.K W.H (.ref a) (.ref (He.ga g.K (toS c))) := fun h =>
    .base (.ins h (He.cls_ok k1) (He.eqO_ok k2) (He.eqO_ok k3) (of_decide_eq_true k4) (of_decide_eq_true k5))
  cases h with
  | obj h _ _ _ => cases e; exact mk h
  | @ref b n hb =>
    dsimp only [tyN] at e
    cases q : W.st[n]? with
    | none => rw [q] at e; cases e
    | some c =>
      rw [q] at e
      have ok := s.cell n b c hb q
      cases c with
      | ins _ _ => cases e; obtain ⟨dx, vs, h1, _⟩ := ok; exact mk h1
      | _ => cases e
  | _ => cases e
theorem lookup_mem {α β : Type} [BEq α] [LawfulBEq α] {c : α} {b : β} : ∀ {cs : List (α × β)}, cs.lookup c = some b → (c, b) ∈ cs
  | [], h => by cases h
  | (y1, y2) :: ys, h => by
    rw [List.lookup_cons] at h
    by_cases e : c = y1
    · subst e; simp only [beq_self_eq_true] at h; cases h; exact List.mem_cons_self ..
    · rw [beq_eq_false_iff_ne.mpr e] at h; exact List.mem_cons_of_mem _ (lookup_mem h)
section
variable {X : Cx} {Wx : WX} {pos p q : Pos} {e : Expr} {m : Me}
theorem e_isiT (T : Ty) (cs : List S) (hg : Gl X "isinstance") (hm : X.mg "isinstance" = none) {x : Str} (hgx : Gl X x) (hmx : X.mg x = none) (hv : bootBuiltins x = some (.type T.nm)) (hc : ∀ c ∈ cs, isiTB X.K c T = true) (he : PE X e (fE (gc X) Wx m))
    (hn : x ≠ "__name__" := by decide) (hd : (x == ("__debug__" : Str)) = false := by decide)
    (h1 : starEach [e, .Name x q] X.env = (false, eval e X.env) :: starEach [.Name x q] X.env := by rfl) (hpl : (backTo pos (starEach [.Name x q] X.env)).any (·.1) = false := by rfl) :
    PE X (.Call (.Name "isinstance" p) [e, .Name x q] [] pos) (fE (gc X) Wx (a1 (oIsiT T cs) m)) :=
  PE.imp (pe_callB call_isi hg hm boot_isinstance (pa_cons he (pa_cons (pe_bltn hgx hmx hv (v := .ty T.nm) rfl hn hd) pa_nil) h1) (he := h1) (hpl := hpl)) fun σ H Q h => by
    show fE (gc X) Wx m σ H fun x H1 => rIsi X.K [x, .ty T.nm] H1 Q
    refine fG_mono (lift1 h) fun v H' ⟨W, d, e0, s, hd, p⟩ => ?_
    subst e0
    dsimp only [oIsiT] at p
    cases q2 : tyN d W.st with
    | none => rw [q2] at p; exact p.elim
    | some k =>
      rw [q2] at p
      cases k with
      | inl a => exact ⟨v, .ty T.nm, _, _, _, rfl, .ty _, tyN_inl s hd q2, kit_ty (isT_ok a T), p W (Ext.refl W) s rfl _ (.bl _)⟩
      | inr c =>
        dsimp only at p
        split at p
        · rename_i hcs
          obtain ⟨z1, z2⟩ := ba2 (hc c (List.contains_iff_mem.mp hcs))
          exact ⟨v, .ty T.nm, _, _, _, rfl, .ty _, tyN_inr s hd q2 z1, of_decide_eq_true z2, p W (Ext.refl W) s rfl _ (.bl _)⟩
        · exact p.elim
theorem e_isiC {C : S} (cs : List (S × Bool)) (hg : Gl X "isinstance") (hm : X.mg "isinstance" = none) {x : Str} (hgx : Gl X x) (hmx : X.mg x = some (.ref (He.ga X.K (toS C)))) (hk : isiKB X.K C = true) (hc : ∀ c ∈ cs, isiCB X.K C c = true) (he : PE X e (fE (gc X) Wx m))
    (hd : (x == ("__debug__" : Str)) = false := by decide)
    (h1 : starEach [e, .Name x q] X.env = (false, eval e X.env) :: starEach [.Name x q] X.env := by rfl) (hpl : (backTo pos (starEach [.Name x q] X.env)).any (·.1) = false := by rfl) :
    PE X (.Call (.Name "isinstance" p) [e, .Name x q] [] pos) (fE (gc X) Wx (a1 (oIsiC cs) m)) :=
  PE.imp (pe_callB call_isi hg hm boot_isinstance (pa_cons he (pa_cons (pe_glob hgx hmx (v := .ref (He.ga X.K (toS C))) rfl hd) pa_nil) h1) (he := h1) (hpl := hpl)) fun σ H Q h => by
    show fE (gc X) Wx m σ H fun x H1 => rIsi X.K [x, .ref (He.ga X.K (toS C))] H1 Q
    refine fG_mono (lift1 h) fun v H' ⟨W, d, e0, s, hd, p⟩ => ?_
    subst e0
    dsimp only [oIsiC] at p
    cases q2 : tyN d W.st with
    | none => rw [q2] at p; exact p.elim
    | some k =>
      rw [q2] at p
      cases k with
      | inl a =>
        refine ⟨v, _, _, _, false, rfl, .own _, tyN_inl s hd q2, of_decide_eq_true (List.all_eq_true.mp hk a ?_), p W (Ext.refl W) s rfl _ (.bl _)⟩
        cases a <;> simp
      | inr c =>
        dsimp only at p
        cases q3 : cs.lookup c with
        | none => rw [q3] at p; exact p.elim
        | some b =>
          rw [q3] at p
          have hmem := lookup_mem q3
          obtain ⟨z1, z2⟩ := ba2 (hc _ hmem)
          exact ⟨v, _, _, _, b, rfl, .own _, tyN_inr s hd q2 z1, of_decide_eq_true z2, p W (Ext.refl W) s rfl _ (.bl _)⟩
end
end FL
end
section
set_option Elab.async false
set_option linter.all false
set_option maxRecDepth 100000
set_option maxHeartbeats 4000000
/-! FLU: sorted(set(texts)). -/
namespace FL
open PySem PySem.Spec PyProof.Rows L2

def keyS (e : Int × Value) : Str := match e.2 with
  | .str x _ => x
  | _ => Str.empty
def GoodS (P : Program) (w : World) (e : Int × Value) : Prop := ∃ x tk, e.2 = Value.str x tk ∧ e.1 = (strKind P w).hash x
/-- a set of texts that can be walked -/
def SetS (P : Program) (w : World) (h : Heap) (a : Addr) (S : Str → Bool) (n : Nat) : Prop :=
  ∃ o es ep t, h.get? a = some o ∧ o.ExactSet ∧ o.data = .set es ep t ∧ (∀ e ∈ es.toList, GoodS P w e) ∧ (es.toList.map keyS).Nodup ∧ (∀ k, S k = true ↔ k ∈ es.toList.map keyS) ∧
    es.size < scanBound ∧ t.fits es.size = true ∧ es.size = n ∧ Ris t.place.toList ∧ (w.params.followText "set-order" = true ∨ t.led = true)
section
variable {P : Program} {w : World} {h h' : Heap} {a : Addr} {S : Str → Bool} {n : Nat}
theorem SetS.at_ (R : SetS P w h a S n) (k : ∀ o, h.get? a = some o → h'.get? a = some o) : SetS P w h' a S n := by
  obtain ⟨o, es, ep, t, ho, r⟩ := R
  exact ⟨o, es, ep, t, k o ho, r⟩
theorem SetS.congr {S' : Str → Bool} (R : SetS P w h a S n) (e : ∀ k, S' k = S k) : SetS P w h a S' n := by
  have q : S' = S := funext e
  rw [q]; exact R
theorem goodS_elems {l : List (Int × Value)} (g : ∀ e ∈ l, GoodS P w e) : ElemsOf (strKind P w) l := fun e he => by
  obtain ⟨k, tk, h1, h2⟩ := g e he
  exact ⟨⟨k, by rw [h1]; exact strKind_is P w k tk, h2⟩, by rw [h1] <;> rfl⟩
theorem goodS_is {e : Int × Value} (g : GoodS P w e) (k : Str) : (strKind P w).is k e.2 = true ↔ keyS e = k := by
  obtain ⟨k0, tk, h1, _⟩ := g
  unfold keyS
  rw [h1]
  show ((k0 == k) = true) ↔ k0 = k
  exact beq_iff_eq
theorem goodS_mem {l : List (Int × Value)} (g : ∀ e ∈ l, GoodS P w e) (k : Str) : k ∈ l.map keyS ↔ ∃ e ∈ l, (strKind P w).is k e.2 = true := by
  rw [List.mem_map]
  constructor
  · rintro ⟨e, he, q⟩
    exact ⟨e, he, (goodS_is (g e he) k).2 q⟩
  · rintro ⟨e, he, q⟩
    exact ⟨e, he, (goodS_is (g e he) k).1 q⟩
end
section
variable {P : Program} {w : World} {A : Around} {E : Value → Shared → Prop} {s : Shared} {a : Addr} {S : Str → Bool} {n : Nat}
theorem setS_add_tail {g : Bool → Sem Unit} (hg : ∀ (b : Bool) (s₁ : Shared) (Q' : Unit → Shared → Prop), Q' () s₁ → wpAny (model P w) A (g b) Q' E s₁)
    {o : Obj} {es : Array (Int × Value)} {ep : Nat} {t : SetTable} (ho : s.heap.get? a = some o) (hex : o.ExactSet) (hd : o.data = .set es ep t)
    {es1 : Array (Int × Value)} {t2 : SetTable} {S' : Str → Bool} (g1 : ∀ e ∈ es1.toList, GoodS P w e) (nd1 : (es1.toList.map keyS).Nodup) (m1 : ∀ k, S' k = true ↔ k ∈ es1.toList.map keyS)
    (hb1 : es1.size < scanBound) (hf2 : t2.fits es1.size = true) (hr : Ris t2.place.toList) (hl : w.params.followText "set-order" = true ∨ t2.led = true) {wasDummy : Bool} {R : Option Bool → Shared → Prop}
    (hR : ∀ h', Heap.SameBut a s.heap h' → SetS P w h' a S' es1.size → R (some true) { s with heap := h' }) :
    wpAny (model P w) A (do
        storeSet a es1 t2
        if (!wasDummy && t2.tooFull) = true then do
            g (relayAll t2 es1 (SetTable.grown es1.size)).2.2
            storeSet a (relayAll t2 es1 (SetTable.grown es1.size)).1 (relayAll t2 es1 (SetTable.grown es1.size)).2.1
            pure (some true)
          else pure (some true)) R E s := by
  refine wpAny_bind (wpAny_storeSet_of ho hd ?_ (fits_of_scanBound hb1))
  have ho1 := store_at (es' := es1) (t' := t2) ho hd
  have sb1 := Heap.SameBut.update s.heap a (Obj.putSet es1 t2)
  split
  · have pm := relayAll_perm t2 es1 (SetTable.grown es1.size)
    have hf3 := relayAll_fits t2 es1 (SetTable.grown es1.size)
    have hr3 := relayAll_ris t2 es1 (SetTable.grown es1.size)
    have hl3 := relayAll_led t2 es1 (SetTable.grown es1.size)
    generalize relayAll t2 es1 (SetTable.grown es1.size) = Z at pm hf3 hr3 hl3 ⊢
    obtain ⟨es2, t3, gave⟩ := Z
    dsimp only at pm hf3 hr3 hl3 ⊢
    have hsz : es2.size = es1.size := by rw [← Array.length_toList, pm.length_eq, Array.length_toList]
    have hb2 : es2.size < scanBound := by rw [hsz]; exact hb1
    refine wpAny_bind (hg _ _ _ ?_)
    refine wpAny_bind (wpAny_storeSet_of ho1 rfl ?_ (fits_of_scanBound hb2))
    have ho2 := store_at (es' := es2) (t' := t3) ho1 rfl
    refine wpAny_pure (hR _ (sb1.trans (Heap.SameBut.update _ a _)) ?_)
    exact ⟨_, es2, _, t3, ho2, hex, rfl, fun e he => g1 e (pm.mem_iff.mp he), (pm.map keyS).nodup_iff.mpr nd1, fun k => (m1 k).trans (pm.map keyS).mem_iff.symm, hb2, hf3, hsz, hr3,
      hl.imp id fun z => by rw [hl3]; exact z⟩
  · exact wpAny_pure (hR _ sb1 ⟨_, es1, _, t2, ho1, hex, rfl, g1, nd1, m1, hb1, hf2, rfl, hr, hl⟩)

theorem setS_add_hashed {k : Str} {tk : Tok} {Q : Bool → Shared → Prop} (R : SetS P w s.heap a S n) (room : n + 1 < scanBound)
    (hQ : ∀ h', Heap.SameBut a s.heap h' → SetS P w h' a (fun j => S j || decide (j = k)) (if S k = true then n else n + 1) → Q (!S k) { s with heap := h' }) :
    wpAny (model P w) A (setAddHashed a (.str k tk) ((strKind P w).hash k)) Q E s := by
  obtain ⟨o, es, ep, t, ho, hex, hd, g, nd, hm, hb, hf, hn, hr, hl⟩ := R
  have hkey : (strKind P w).is k (.str k tk) = true := strKind_is P w k tk
  have hsc : (Value.str k tk).scannable = true := rfl
  have hel : ElemsOf (strKind P w) es.toList := goodS_elems g
  unfold setAddHashed setAddHashedIn
  refine wpAny_holding (wpAny_bind (wpAny_setState_of ho hd hf ?_))
  dsimp only
  rw [byScan_of hsc hb hel]
  simp only [↓reduceIte]
  unfold setAddByScan
  refine wpAny_bind ?_
  refine wpAny_bind (wpAny_rule ?_)
  refine wpAny_bind (wpAny_setScan_of hkey ho hd hf hel ?_)
  cases hfi : List.findIdx? (fun e => (strKind P w).is k e.2) es.toList with
  | some j =>
    dsimp only
    obtain ⟨hj, pj, _⟩ := List.findIdx?_eq_some_iff_getElem.mp hfi
    have hSk : S k = true := (hm k).2 ((goodS_mem g k).2 ⟨es.toList[j], List.getElem_mem hj, pj⟩)
    refine wpAny_pure (wpAny_pure ?_)
    have q := hQ s.heap (Heap.SameBut.refl a s.heap) ⟨o, es, ep, t, ho, hex, hd, g, nd, fun i => by
      rw [Bool.or_eq_true, decide_eq_true_eq, ← hm i]
      exact ⟨fun z => z.elim id (fun e => e ▸ hSk), .inl⟩, hb, hf, by rw [if_pos hSk]; exact hn, hr, hl⟩
    rw [hSk] at q
    exact q
  | none =>
    dsimp only
    have hnk : k ∉ es.toList.map keyS := fun z => by
      obtain ⟨e, he, q⟩ := (goodS_mem g k).1 z
      have c := List.findIdx?_eq_none_iff.mp hfi e he
      rw [q] at c
      cases c
    have hSk : S k = false := by
      cases q : S k with
      | false => rfl
      | true => exact absurd ((hm k).1 q) hnk
    have hgw : ∀ (b : Bool) {s₁ : Shared} {Q' : Unit → Shared → Prop}, Q' () s₁ → wpAny (model P w) A (match b with | true => rule "set.scan.the-table-gave-way" | false => pure ()) Q' E s₁ :=
      fun b s₁ Q' q => by cases b <;> first | exact wpAny_pure q | exact wpAny_rule q
    have pm := layNew_perm t es ((strKind P w).hash k) (.str k tk)
    have hf1 := layNew_fits t es ((strKind P w).hash k) (.str k tk)
    have hr1 := layNew_ris t es ((strKind P w).hash k) (.str k tk) hr
    have hl1 := layNew_led t es ((strKind P w).hash k) (.str k tk)
    generalize layNew t es ((strKind P w).hash k) (.str k tk) = Z at pm hf1 hr1 hl1 ⊢
    obtain ⟨es1, t1, wasDummy, gave⟩ := Z
    dsimp only at pm hf1 hr1 hl1 ⊢
    rw [Array.toList_push] at pm
    have pc : es1.toList.Perm (((strKind P w).hash k, Value.str k tk) :: es.toList) := pm.trans (List.perm_append_singleton _ _)
    have pk : (es1.toList.map keyS).Perm (k :: es.toList.map keyS) := pc.map keyS
    have g1 : ∀ e ∈ es1.toList, GoodS P w e := fun e he => by
      rcases List.mem_cons.mp (pc.mem_iff.mp he) with z | z
      · rw [z]; exact ⟨k, tk, rfl, rfl⟩
      · exact g e z
    have nd1 : (es1.toList.map keyS).Nodup := pk.nodup_iff.mpr (List.nodup_cons.mpr ⟨hnk, nd⟩)
    have m1 : ∀ i, (S i || decide (i = k)) = true ↔ i ∈ es1.toList.map keyS := fun i => by
      rw [Bool.or_eq_true, decide_eq_true_eq, hm i, pk.mem_iff, List.mem_cons]
      exact Or.comm
    have hsz : es1.size = n + 1 := by rw [← Array.length_toList, pc.length_eq, List.length_cons, Array.length_toList, hn]
    have hb1 : es1.size < scanBound := by rw [hsz]; exact room
    have hled : w.params.followText "set-order" = true ∨ t1.led = true := hl.imp id fun z => by rw [hl1]; exact z
    have fin : ∀ h', Heap.SameBut a s.heap h' → SetS P w h' a (fun j => S j || decide (j = k)) es1.size → Q true { s with heap := h' } := fun h' sb r => by
      have q := hQ h' sb
      rw [hSk] at q
      rw [hsz] at r
      exact q r
    refine wpAny_bind (hgw _ ?_)
    split
    · refine wpAny_bind ?_
      rw [hashByValue_scannable 8 hsc]
      refine wpAny_pure ?_
      refine setS_add_tail ?_ ho hex hd g1 nd1 m1 hb1 ?_ ?_ ?_ ?_
      · intro b s₁ Q' q; cases b <;> first | exact wpAny_pure q | exact wpAny_rule q
      · first | (split <;> first | exact hf1 | exact SetTable.fits_plain_off hf1) | exact hf1
      · first | (split <;> exact hr1) | exact hr1
      · first | (split <;> exact hled) | exact hled
      · intro h' sb r; dsimp only; exact wpAny_pure (fin h' sb r)
    · refine wpAny_bind (wpAny_pure ?_)
      simp only [↓reduceIte]
      refine setS_add_tail ?_ ho hex hd g1 nd1 m1 hb1 hf1 hr1 hled ?_
      · intro b s₁ Q' q; cases b <;> first | exact wpAny_pure q | exact wpAny_rule q
      · intro h' sb r; dsimp only; exact wpAny_pure (fin h' sb r)

theorem setS_fresh {h : Heap} {a : Addr} (P : Program) (w : World) (e : h.get? a = some { cls := .type "set", dict := none, data := .set #[] 0 (.fresh 0 0 (!w.params.followText "set-order")) }) : SetS P w h a (fun _ => false) 0 :=
  ⟨_, #[], 0, _, e, ⟨rfl, rfl, rfl⟩, rfl, (fun e he => by simp at he), (by simp), (fun k => by simp), (by decide), (by rfl), rfl, List.Pairwise.nil, by
    show _ ∨ (!w.params.followText "set-order") = true
    cases w.params.followText "set-order"
    · exact .inr rfl
    · exact .inl rfl⟩
theorem code_set_led1 (x : Value) {Q₁ : Value → Shared → Prop}
    (h : Q₁ (.ref s.heap.objs.size) { s with heap := s.heap.push { cls := .type "set", dict := none, data := .set #[] 0 (.fresh 0 0 (!w.params.followText "set-order")) } }) :
    codeAny (model P w) A (.call (.builtin "set.__new__") ⟨[.type "set", x], []⟩) (wants Q₁ E) s := by
  refine codeAny_of_tree ?_
  show wpAny _ A.in1 (do checkBuiltinCall "set.__new__" ⟨[.type "set", x], []⟩; again (.builtin "set.__new__" ⟨[.type "set", x], []⟩)) _ _ s
  refine wpAny_bind (wpAny_of_eq (PySem.F.newCall_set_1 x) (wpAny_pure ⟨plainId_quiet PySem.F.plain_set_new _, codeAny_builtin PySem.F.entry_set_new ?_⟩))
  rw [Around.under_plainId PySem.F.plain_set_new _]
  unfold Builtin.«set.__new__» Builtin.Frozenset.newClass
  have hsub := sub_set_self
  obtain ⟨hp, g, d, tk, os⟩ := s
  dsimp only
  wp_walk
  refine wpAny_askSetting (wpAny_pure ?_)
  dsimp only
  simp only [newObj]
  refine wpAny_bind (wpAny_alloc (wpAny_pure ?_))
  exact wpAny_pure h
end
section
variable {prog : Program} {w : World} {A : Around} {R : Result → Shared → Prop} {I : Addr} {fp wr : List Addr} {G : Array GenState → Array GenState → Prop} {n : Nat} {P : Nat → Value → Prop} {St : Nat → Shared → Prop}
theorem loopSet (W : WalksS prog w A.in1 I fp wr G n P St) (S : Addr) (hSf : S ∉ fp) (xs : List Str) (hsz : xs.length = n) (hn1 : n ≤ 60)
    (hval : ∀ i v, P i v → ∃ t, v = .str (xs.getD i Str.empty) t) :
    ∀ (k i : Nat) (s : Shared) (m : Nat), n - i = k → i ≤ n → St i s → m ≤ i →
      SetS prog w s.heap S (fun k' => decide (k' ∈ xs.take i)) m →
      (∀ s' m, m ≤ n → Moved (S :: wr) G s s' → SetS prog w s'.heap S (fun k' => decide (k' ∈ xs)) m → R (.ok (.ret .none)) s') →
      codeAny (model prog w) A (.builtin "set.update.loop" ⟨[.ref S, .ref I], []⟩) R s := by
  have hSw : S ∉ wr := fun h => hSf (W.sub _ h)
  have hsub : ∀ b ∈ wr, b ∈ S :: wr := fun b hb => List.mem_cons_of_mem _ hb
  intro k
  induction k with
  | zero =>
    intro i s m hk hi hst hm0 hS hR
    have hin : i = n := by omega
    subst hin
    refine codeAny_builtin PyProof.Rows.F.entry_set_update_loop ?_
    rw [Around.under_plainId PyProof.Rows.F.plain_set_update_loop _]
    show wpAny _ A.in1 (pyNext (.ref I) >>= _) _ _ s
    refine wpAny_bind (W.done s _ _ hst fun s' hm => ?_)
    show wpAny _ A.in1 (ret Value.none) _ _ s'
    refine wpAny_pure (hR s' m hm0 (hm.mono hsub) ?_)
    rw [← hsz, List.take_length] at hS
    exact hS.at_ fun o e => hm.heap S o hSw e
  | succ k ih =>
    intro i s m hk hi hst hm0 hS hR
    have hlt : i < n := by omega
    refine codeAny_builtin PyProof.Rows.F.entry_set_update_loop ?_
    rw [Around.under_plainId PyProof.Rows.F.plain_set_update_loop _]
    show wpAny _ A.in1 (pyNext (.ref I) >>= _) _ _ s
    refine wpAny_bind (W.item i s _ _ hlt hst fun v s' hP hst' hm => ?_)
    obtain ⟨t, rfl⟩ := hval i v hP
    have hS' : SetS prog w s'.heap S (fun k' => decide (k' ∈ xs.take i)) m := hS.at_ fun o e => hm.heap S o hSw e
    show wpAny _ A.in1 (holding [Value.str (xs.getD i Str.empty) t] (setAdd S (.str (xs.getD i Str.empty) t)) >>= _) _ _ s'
    refine wpAny_bind (wpAny_holding ?_)
    unfold setAdd
    refine wpAny_holding ?_
    refine wpAny_bind ((PySem.strKind prog w).pyHash (k := xs.getD i Str.empty) (strKind_is _ _ _ _) ?_)
    refine setS_add_hashed (P := prog) (s := { s' with toks := s'.toks + 1 }) hS' (by unfold scanBound; omega) fun h' hsb hS2 => ?_
    have hx : xs.take (i + 1) = xs.take i ++ [xs.getD i Str.empty] := by
      have : i < xs.length := by omega
      rw [List.take_add_one, List.getElem?_eq_getElem this, List.getD_eq_getElem?_getD, List.getElem?_eq_getElem this]; rfl
    have hSi : SetS prog w h' S (fun k' => decide (k' ∈ xs.take (i + 1))) (if decide (xs.getD i Str.empty ∈ xs.take i) = true then m else m + 1) := hS2.congr fun k' => by
      rw [hx]; simp [List.mem_append]
    refine wpAny_pure ⟨plainId_quiet PyProof.Rows.F.plain_set_update_loop _, ih (i + 1) _ _ (by omega) hlt (W.frame _ s' _ _ hst' (Nat.le_succ _) fun b hb o e => ?_) (by split <;> omega) hSi fun s'' m'' hm2 hm'' hS'' => ?_⟩
    · rw [hsb.2 b (fun h : b = S => hSf (by rw [← h]; exact hb))]; exact e
    · refine hR s'' m'' hm2 (Moved.trans W.gtrans ((hm.mono hsub).then_heap (Nat.le_succ _) fun b o hb e => ?_) hm'') hS''
      rw [hsb.2 b (fun h : b = S => hb (by rw [h]; exact List.mem_cons_self))]; exact e
end
section
variable {prog : Program} {w : World} {A : Around} {E : Value → Shared → Prop} {s : Shared}
set_option maxHeartbeats 3200000 in
theorem call_set_tupS {l : Addr} {items : Array Value} {xs : List Str} {Q : Value → Shared → Prop}
    (hh : A.handled = none) (hl : s.heap.IsTuple l items) (hi : PyProof.Rows.StrsAre items.toList xs) (hn1 : xs.length ≤ 60)
    (h : ∀ (h' : Heap) (tk m : Nat), m ≤ xs.length → SetS prog w h' s.heap.objs.size (fun k' => decide (k' ∈ xs)) m →
      (∀ b o, b < s.heap.objs.size → s.heap.get? b = some o → h'.get? b = some o) → Q (.ref s.heap.objs.size) { s with heap := h', toks := tk }) :
    wpAny (model prog w) A (call (.type "set") [.ref l]) Q E s := by
  obtain ⟨c, tl, hmro⟩ := PySem.F.called_set.mro
  have hmade := PySem.F.called_set.made
  have hsub := PySem.F.called_set.sub
  refine wpAny_call (codeAny_of_tree ?_)
  show wpAny _ _ (callAny (.type "set") _) _ _ _
  refine wpAny_pure ⟨Code.quiet_builtin _ (by decide +kernel), codeAny_builtin PySem.F.entry_type_call ?_⟩
  rw [Around.under_plain (weight_type_call_type "set" [.ref l] []) rfl]
  have h1 := PySem.F.called_set.notType
  have h2 := PySem.F.called_set.canCreate
  have hct := PySem.F.typeCall_set_1 (.ref l)
  repeat (any_goals (first | assumption | wp_step))

  refine codeAny_mono (code_set_led1 (.ref l) (E := E) (Q₁ := fun obj s₁ => ∃ led : Bool, led = (!w.params.followText "set-order") ∧ obj = .ref s.heap.objs.size ∧ s₁ = { s with heap := s.heap.push { cls := .type "set", dict := none, data := .set #[] 0 (.fresh 0 0 led) } }) ⟨_, rfl, rfl, rfl⟩) fun r s₁ hr => ?_
  cases r with
  | error e => exact hr
  | ok fl =>
    cases fl with
    | ret obj =>
      obtain ⟨led, hled, rfl, rfl⟩ := hr
      have hS : (s.heap.push { cls := .type "set", dict := none, data := .set #[] 0 (.fresh 0 0 led) }).get? s.heap.objs.size = some { cls := .type "set", dict := none, data := .set #[] 0 (.fresh 0 0 led) } := Heap.get?_push_size _ rfl
      have hT : Shared.TypeIs { s with heap := s.heap.push { cls := .type "set", dict := none, data := .set #[] 0 (.fresh 0 0 led) } } (.ref s.heap.objs.size) "set" := ⟨_, hS, rfl⟩
      have hli := PySem.F.called_set.init.lookup
      have hbi := PySem.F.called_set.init.bind (.ref s.heap.objs.size)
      repeat (any_goals (first | assumption | wp_step))

      refine codeAny_mono (codeAny_call_builtin (R := wants (fun r s₂ => r = .none ∧ ∃ h' tk m, s₂ = { s with heap := h', toks := tk } ∧ m ≤ xs.length ∧
          SetS prog w h' s.heap.objs.size (fun k' => decide (k' ∈ xs)) m ∧
          (∀ b o, b < s.heap.objs.size → s.heap.get? b = some o → h'.get? b = some o)) E) PySem.F.called_set.init.plain PySem.F.entry_set_init (check_set_init_1 hT ?_)) fun r₂ s₂ hr₂ => ?_
      · obtain ⟨ol, hol, hcl, nl, hdl⟩ := hl
        obtain ⟨ocls, odict, odata, oslots⟩ := ol
        simp only at hcl hdl
        subst hcl; subst hdl
        have hol' : (s.heap.push { cls := .type "set", dict := none, data := .set #[] 0 (.fresh 0 0 led) }).get? l = some { cls := .type "tuple", dict := odict, data := .seq items nl, slots := oslots } := Heap.get?_push_of_some _ hol
        have hsls := PySem.F.sub_tuple_set
        have hslf := PySem.F.sub_tuple_frozenset
        have hne : (Value.type "tuple" == Value.type "dict") = false := by decide
        have hl1 : (s.heap.push { cls := .type "set", dict := none, data := .set #[] 0 (.fresh 0 0 led) }).IsTuple l items := ⟨_, hol', rfl, nl, rfl⟩
        unfold Builtin.«set.__init__» noKeywords Builtin.Frozenset.updateFrom
        generalize hPI : pyIter = PI
        wp_walk
        subst hPI

        refine wpAny_pyIter_tuple hl1 ?_
        refine wpAny_bind (wpAny_runValue ?_)
        have hlS : l < s.heap.objs.size := Heap.lt_size hol
        have hh3 : A.in1.in1.in1.handled = none := by simp [hh]
        have hneI : l ≠ (s.heap.push { cls := .type "set", dict := none, data := .set #[] 0 (.fresh 0 0 led) }).objs.size := by
          rw [Heap.size_push]; exact Nat.ne_of_lt (Nat.lt_succ_of_lt hlS)
        have hSf : s.heap.objs.size ∉ [(s.heap.push { cls := .type "set", dict := none, data := .set #[] 0 (.fresh 0 0 led) }).objs.size, l] := by
          rw [Heap.size_push]; simp only [List.mem_cons, List.mem_singleton, List.not_mem_nil, or_false, not_or]
          exact ⟨Nat.ne_of_lt (Nat.lt_succ_self _), Nat.ne_of_gt hlS⟩
        have hsz : xs.length = items.size := by rw [← StrsAre.len_eq hi, Array.length_toList]
        have hval : ∀ (i : Nat) (v : Value), items[i]? = some v → ∃ t, v = .str (xs.getD i Str.empty) t := fun i v hv => SS.strs_at hi i v (by rw [Array.getElem?_toList]; exact hv)
        refine loopSet ((Walks.tuple hh3 _ l hneI items).toS) s.heap.objs.size
          hSf xs hsz (by rw [← hsz]; exact hn1) hval (items.size - 0) 0 _ 0 (by omega) (Nat.zero_le _)
          ⟨⟨_, Heap.get?_push_size _ rfl, rfl, rfl⟩, (hl1.push _)⟩ (Nat.le_refl _) ?hS0 ?hR
        case hS0 =>
          have hget : ((s.heap.push { cls := .type "set", dict := none, data := .set #[] 0 (.fresh 0 0 led) }).push { cls := .type "tuple_iterator", data := .fields #[.ref l, .int 0 0] }).get? s.heap.objs.size
              = some { cls := .type "set", dict := none, data := .set #[] 0 (.fresh 0 0 led) } := Heap.get?_push_of_some _ hS
          exact (setS_fresh prog w (by rw [hget, hled])).congr fun _ => by simp
        case hR =>
          intro s' m0 hm0 hm hS'
          obtain ⟨h', g', d', tk', os'⟩ := s'
          have eg : g' = s.gens := hm.gens
          have ed : d' = s.drawn := hm.drawn
          have eo : os' = s.os := hm.os
          subst eg; subst ed; subst eo
          show wpAny _ _ _ _ _ _
          refine wpAny_pure ?_
          show wpAny _ _ (ret Value.none) _ _ _
          refine wpAny_pure ⟨rfl, h', tk', m0, rfl, by rw [hsz]; exact hm0, hS', fun b o hb e => ?_⟩
          have hb1 : b ≠ s.heap.objs.size := Nat.ne_of_lt hb
          have hb2 : b ≠ (s.heap.push { cls := .type "set", dict := none, data := .set #[] 0 (.fresh 0 0 led) }).objs.size := by
            rw [Heap.size_push]; exact Nat.ne_of_lt (Nat.lt_succ_of_lt hb)
          exact hm.heap b o (by simp only [List.mem_cons, List.mem_singleton, List.not_mem_nil, or_false, not_or]; exact ⟨hb1, hb2⟩) (Heap.get?_push_of_some _ (Heap.get?_push_of_some _ e))

      · cases r₂ with
        | error e => exact hr₂
        | ok fl₂ =>
          cases fl₂ with
          | ret r =>
            obtain ⟨rfl, h', tk, m0, rfl, hm0, hS', hk'⟩ := hr₂
            repeat (any_goals (first | assumption | wp_step))
            exact h _ _ _ hm0 hS' hk'
          | _ => exact hr₂.elim
    | _ => exact hr.elim

theorem strs_of_vals : ∀ (l : List Value), (∀ v ∈ l, ∃ k tk, v = Value.str k tk) → StrsAre l (l.map fun v => match v with | .str x _ => x | _ => Str.empty)
  | [], _ => .nil
  | v :: l, h => by
    obtain ⟨k, tk, rfl⟩ := h v List.mem_cons_self
    exact .cons k tk (strs_of_vals l fun u hu => h u (List.mem_cons_of_mem _ hu))
theorem sorted_setS {P : Program} {a : Addr} {S : Str → Bool} {n : Nat} {Q : Value → Shared → Prop} (R : SetS P w s.heap a S n) (hh : A.handled = none) (h64 : n < 64)
    (hQ : ∀ s' p (out : Array Value) (c : Nat) (ns : List Str), (∀ b o, s.heap.get? b = some o → s'.heap.get? b = some o) → s'.gens = s.gens → s'.os = s.os → s.heap.objs.size ≤ p →
      s'.heap.get? p = some (seqObj "list" out c) → StrsAre out.toList ns → sortedS ns = true → ns.Nodup → (∀ k, k ∈ ns ↔ S k = true) → ns.length = n → Q (.ref p) s') :
    wpAny (model P w) A (call (.builtin "sorted") [.ref a]) Q E s := by
  obtain ⟨o, es, ep, t, ho, hex, hd, g, nd, hm, hb, hf, hn, hr, hl⟩ := R
  refine Calls.call_function_entry kind_sorted plain_sorted entry_sorted (args_sorted1 _) ?_
  unfold Builtin.«sorted»
  refine wpAny_bind (m := checkCount "sorted" 1 1 _) (wpAny_pure ?_)
  refine wpAny_bind (collect_set (A := A.in1) hh ⟨o, ho, hex.1, hd⟩ hf hb hr hl fun s1 vs k1 hz g1 o1 pm => ?_)
  have hvl : vs.length = n := by rw [pm.length_eq, List.length_map, Array.length_toList]; exact hn
  have hI : StrsAre vs (vs.map fun v => match v with | .str x _ => x | _ => Str.empty) := strs_of_vals vs fun v hv => by
    obtain ⟨e, he, q⟩ := List.mem_map.mp (pm.mem_iff.mp hv)
    obtain ⟨k, tk, h1, _⟩ := g e he
    exact ⟨k, tk, by rw [← q]; exact h1⟩
  have pk : (vs.map fun v => match v with | .str x _ => x | _ => Str.empty).Perm (es.toList.map keyS) := by
    have q := pm.map fun v => match v with | .str x _ => x | _ => Str.empty
    rw [List.map_map] at q
    exact q
  refine wpAny_bind (wpAny_newList ?_ (by rw [hvl, sizeLine_eq]; omega))
  have hoL : (s1.heap.push (seqObj "list" vs.toArray 0)).get? s1.heap.objs.size = some (seqObj "list" vs.toArray 0) := Heap.get?_push_size _ rfl
  refine wpAny_bind (wpAny_holding (wpAny_call_entry slot_list_sort ⟨_, hoL, rfl⟩ entry_list_sort (list_sort_treeK strKind_oneLt hoL hI.keysOf (fun v₁ v₂ rest e => keyKind_strs (by rw [← e]; exact hI)) (by rw [hvl]; exact h64) fun st' hp hs => ⟨_, rfl, ?_⟩) (args_list_sort _)))
  obtain ⟨ns', a1, a2, a3⟩ := sorted_out_str hI hp hs
  obtain ⟨c, hc⟩ := sortedHeap_at (vs := vs) (out := (arrOf st').map (·.2)) hoL
  have pn : ns'.Perm (es.toList.map keyS) := a2.trans pk
  refine wpAny_pure ⟨_, rfl, hQ _ s1.heap.objs.size _ c ns' (fun b u e => ?_) g1 o1 hz hc a1 a3 (pn.nodup_iff.mpr nd) (fun k => by rw [pn.mem_iff, ← hm k]) ?_⟩
  · have q := k1 b u e
    have hlt := Heap.lt_size q
    show (sortedHeap (s1.heap.push (seqObj "list" vs.toArray 0)) s1.heap.objs.size vs _).get? b = some u
    rw [sortedHeap_old (Nat.ne_of_lt hlt) (by rw [size_push']; exact Nat.lt_succ_of_lt hlt)]
    exact Heap.get?_push_of_some _ q
  · rw [pn.length_eq, List.length_map, Array.length_toList]; exact hn
end
end FL
end
section
set_option Elab.async false
set_option linter.all false
set_option maxRecDepth 100000
/-! FLV: sorted(set(texts)) as a reading; x.f = e; tuple.index; a table of the module. -/
namespace FL
open PySem PySem.Spec PyProof.Rows L2

/-! ### sorted(set(x)) -/
def SetSO (P : Program) (w : World) (a : Addr) (S : Str → Bool) (n : Nat) : HO := .ext fun h => SetS P w h a S n
section
variable {X : Cx}
theorem setSO_new {w : World} {P : Program} {H : Hp} {h : Heap} {a : Addr} {S : Str → Bool} {n : Nat} (R : SetS P w h a S n) : ObjOk P w H h a (SetSO P w a S n) := by
  have ⟨o, _, _, _, ho, _⟩ := R
  exact ⟨R, ⟨o, ho⟩, fun h1 h2 p k => SetS.at_ p k⟩
theorem setSO_get {pins : List (Addr × Obj)} {σ : L2.St} {H : Hp} {s : Shared} {a : Addr} {S : Str → Bool} {n : Nat} (I : Inv X pins σ H s) (ha : H a = some (SetSO X.prog X.w a S n)) : SetS X.prog X.w s.heap a S n := (I.hok a _ ha).1
def rSetS (X : Cx) : List V → Hp → VK → Prop := fun xs H Q => ∃ (a : Addr) (ss : List Str), xs = [V.ref a] ∧ SqT X.K H a (ss.map V.str) ∧ ss.length ≤ 60 ∧
  ∀ p m, H p = none → m ≤ ss.length → Q (.ref p) (upd H p (SetSO X.prog X.w p (fun k => decide (k ∈ ss)) m))
theorem cr_setS (hc : X.calm = true) : CallR X (.type "set") (rSetS X) := by
  intro pins s σ H xs us Q I r h
  obtain ⟨a, ss, rfl, hq, hl, q⟩ := h
  rw [Vals.ref1 r]
  obtain ⟨its, rv, pl, hz⟩ := I.tuple hq
  refine call_set_tupS (I.ok.hd hc) pl (by simpa using strsAre_of rv) hl fun h' tk m hm hS hk => ?_
  exact ⟨.ref _, upd H s.heap.objs.size (SetSO X.prog X.w s.heap.objs.size (fun k => decide (k ∈ ss)) m), I.laid (fun b u e => hk b u (Heap.lt_size e) e) (Nat.le_refl _) (setSO_new hS), rfl, q _ _ (I.hok.fresh (Nat.le_refl _)) hm⟩
def rSortSS (X : Cx) : List V → Hp → VK → Prop := fun vs H Q => ∃ (a : Addr) (S : Str → Bool) (n : Nat), vs = [V.ref a] ∧ H a = some (SetSO X.prog X.w a S n) ∧ n < 64 ∧
  ∀ (ns : List Str) (p : Addr), sortedS ns = true → ns.Nodup → (∀ k, k ∈ ns ↔ S k = true) → H p = none → Q (.ref p) (upd H p (.lst (ns.map V.str)))
theorem cr_sortSS (hc : X.calm = true) : CallR X (.builtin "sorted") (rSortSS X) := by
  intro pins s σ H vs us Q I r h
  obtain ⟨a, S, n, rfl, ha, h64, q⟩ := h
  have R := setSO_get I ha
  rw [Vals.ref1 r]
  refine sorted_setS R (I.ok.hd hc) h64 fun s' p out c ns k g o hp hg hi hs nd hm hl => ?_
  have hlen : (ns.map V.str).length ≤ sizeLine := by rw [List.length_map, hl, sizeLine_eq]; omega
  have hn : H p = none := I.hok.fresh hp
  have J : Inv X pins σ (upd H p (.lst (ns.map V.str))) { s with heap := s'.heap, gens := s'.gens, drawn := s'.drawn, toks := s'.toks } :=
    I.call (ch := []) (Un.laid k hp hn) (I.hok.laid k hp ⟨hlen, out.toList, c, vals_of_strs hi, hg⟩) (by rw [g]; exact I.bare) (fun _ z => nomatch z)
  have e : s' = { s with heap := s'.heap, gens := s'.gens, drawn := s'.drawn, toks := s'.toks } := by
    cases s'
    cases s
    cases o
    rfl
  rw [e]
  exact ⟨.ref p, _, J, rfl, q ns p hs nd hm hn⟩
end
/-- by signs -/
def ltS : S → S → Bool
  | [], [] => false
  | [], _ :: _ => true
  | _ :: _, [] => false
  | a :: x, b :: y => if a < b then true else if b < a then false else ltS x y
def insU (x : S) : List S → List S
  | [] => [x]
  | y :: r => if x = y then y :: r else if ltS x y = true then x :: y :: r else y :: insU x r
def sortU (ss : List S) : List S := ss.foldr insU []
theorem ltS_irr : ∀ x : S, ltS x x = false
  | [] => rfl
  | a :: x => by unfold ltS; simp [ltS_irr x]
theorem ltS_tri : ∀ x y : S, ltS x y = false → ltS y x = false → x = y
  | [], [], _, _ => rfl
  | [], _ :: _, h, _ => by simp [ltS] at h
  | _ :: _, [], _, h => by simp [ltS] at h
  | a :: x, b :: y, h1, h2 => by
    unfold ltS at h1 h2
    by_cases c1 : a < b
    · simp [c1] at h1
    · by_cases c2 : b < a
      · simp [c2] at h2
      · simp only [c1, c2, if_false] at h1 h2
        have : a = b := by omega
        rw [this, ltS_tri x y h1 h2]
theorem ltS_trans : ∀ x y z : S, ltS x y = true → ltS y z = true → ltS x z = true
  | [], [], _, h, _ => by simp [ltS] at h
  | [], _ :: _, [], _, h => by simp [ltS] at h
  | [], _ :: _, _ :: _, _, _ => by simp [ltS]
  | _ :: _, [], _, h, _ => by simp [ltS] at h
  | _ :: _, _ :: _, [], _, h => by simp [ltS] at h
  | a :: x, b :: y, c :: z, h1, h2 => by
    unfold ltS at h1 h2 ⊢
    by_cases c1 : a < b
    · by_cases c2 : b < c
      · have : a < c := by omega
        simp [this]
      · by_cases c3 : c < b
        · simp [c2, c3] at h2
        · have : a < c := by omega
          simp [this]
    · by_cases c1' : b < a
      · simp [c1, c1'] at h1
      · simp only [c1, c1', if_false] at h1
        have e : a = b := by omega
        subst e
        by_cases c2 : a < c
        · simp [c2]
        · by_cases c3 : c < a
          · simp [c2, c3] at h2
          · simp only [c2, c3, if_false] at h2 ⊢
            exact ltS_trans x y z h1 h2
theorem insU_mem {x k : S} : ∀ {l : List S}, k ∈ insU x l ↔ k = x ∨ k ∈ l
  | [] => by simp [insU]
  | y :: r => by
    unfold insU
    split
    · rename_i e; subst e; simp
    · split
      · simp
      · rw [List.mem_cons, insU_mem, List.mem_cons]
        constructor
        · rintro (h | h | h) <;> simp [h]
        · rintro (h | h | h) <;> simp [h]
theorem insU_pw {x : S} : ∀ {l : List S}, l.Pairwise (fun a b => ltS a b = true) → (insU x l).Pairwise (fun a b => ltS a b = true)
  | [], _ => by simp [insU]
  | y :: r, h => by
    unfold insU
    obtain ⟨h1, h2⟩ := List.pairwise_cons.mp h
    split
    · exact h
    · rename_i ne
      split
      · rename_i lt
        exact List.pairwise_cons.mpr ⟨fun z hz => by
          rcases List.mem_cons.mp hz with e | hz
          · exact e ▸ lt
          · exact ltS_trans _ _ _ lt (h1 z hz), h⟩
      · rename_i nl
        refine List.pairwise_cons.mpr ⟨fun z hz => ?_, insU_pw h2⟩
        rcases insU_mem.mp hz with e | hz
        · subst e
          cases q : ltS y z with
          | true => rfl
          | false => exact absurd (ltS_tri z y (by simpa using nl) q) ne
        · exact h1 z hz
theorem sortU_ok : ∀ ss : List S, (sortU ss).Pairwise (fun a b => ltS a b = true) ∧ ∀ k, k ∈ sortU ss ↔ k ∈ ss
  | [] => ⟨.nil, fun k => by simp [sortU]⟩
  | x :: ss => by
    obtain ⟨h1, h2⟩ := sortU_ok ss
    exact ⟨insU_pw h1, fun k => by show k ∈ insU x (sortU ss) ↔ _; rw [insU_mem, h2, List.mem_cons]⟩
theorem pw_uniq : ∀ {l m : List S}, l.Pairwise (fun a b => ltS a b = true) → m.Pairwise (fun a b => ltS a b = true) → (∀ k, k ∈ l ↔ k ∈ m) → l = m
  | [], [], _, _, _ => rfl
  | [], y :: m, _, _, h => by have := (h y).mpr (by simp); simp at this
  | x :: l, [], _, _, h => by have := (h x).mp (by simp); simp at this
  | x :: l, y :: m, hl, hm, h => by
    obtain ⟨l1, l2⟩ := List.pairwise_cons.mp hl
    obtain ⟨m1, m2⟩ := List.pairwise_cons.mp hm
    have e : x = y := by
      rcases List.mem_cons.mp ((h x).mp (by simp)) with e | hx
      · exact e
      · rcases List.mem_cons.mp ((h y).mpr (by simp)) with e | hy
        · exact e.symm
        · have a := m1 x hx
          have b := l1 y hy
          have := ltS_trans _ _ _ a b
          rw [ltS_irr] at this; cases this
    subst e
    refine congrArg (x :: ·) (pw_uniq l2 m2 fun k => ?_)
    constructor
    · intro hk
      rcases List.mem_cons.mp ((h k).mp (List.mem_cons_of_mem _ hk)) with e | hk'
      · subst e; have := l1 k hk; rw [ltS_irr] at this; cases this
      · exact hk'
    · intro hk
      rcases List.mem_cons.mp ((h k).mpr (List.mem_cons_of_mem _ hk)) with e | hk'
      · subst e; have := m1 k hk; rw [ltS_irr] at this; cases this
      · exact hk'
theorem ltCps_eq : ∀ x y : S, ltCps x y = ltS x y
  | [], [] => rfl
  | [], _ :: _ => rfl
  | _ :: _, [] => rfl
  | a :: x, b :: y => by
    unfold ltCps ltS
    rw [ltCps_eq x y]
    by_cases h : a < b
    · simp [h]
    · by_cases h2 : b < a
      · have : ¬ a = b := by omega
        simp [h, h2, this]
      · have : a = b := by omega
        simp [h, h2, this]
theorem rising_pw : ∀ (r : List Str) (p : Str), risingS p r = true → (p :: r).Nodup → (∀ z ∈ r, ltS p.cps.toList z.cps.toList = true) ∧ (r.map fun z => z.cps.toList).Pairwise (fun a b => ltS a b = true)
  | [], _, _, _ => ⟨fun z h => (by cases h), .nil⟩
  | x :: r, p, h, nd => by
    unfold risingS at h
    obtain ⟨h1, h2⟩ := ba2 h
    obtain ⟨n1, n2⟩ := List.nodup_cons.mp nd
    obtain ⟨i1, i2⟩ := rising_pw r x h2 n2
    have px : ltS p.cps.toList x.cps.toList = true := by
      cases q : ltS p.cps.toList x.cps.toList with
      | true => rfl
      | false =>
        rw [ltCps_eq] at h1
        have e := ltS_tri _ _ q (by simpa using h1)
        have : p = x := Str.ext' (Array.toList_inj.mp e)
        exact absurd (by rw [this]; simp) n1
    refine ⟨fun z hz => ?_, List.pairwise_cons.mpr ⟨fun z hz => ?_, i2⟩⟩
    · rcases List.mem_cons.mp hz with e | hz
      · exact e ▸ px
      · exact ltS_trans _ _ _ px (i1 z hz)
    · obtain ⟨y, hy, rfl⟩ := List.mem_map.mp hz
      exact i1 y hy
theorem sortedS_pw {ns : List Str} (h : sortedS ns = true) (nd : ns.Nodup) : (ns.map fun z => z.cps.toList).Pairwise (fun a b => ltS a b = true) := by
  cases ns with
  | nil => exact .nil
  | cons p r =>
    obtain ⟨h1, h2⟩ := rising_pw r p h nd
    exact List.pairwise_cons.mpr ⟨fun z hz => by obtain ⟨y, hy, rfl⟩ := List.mem_map.mp hz; exact h1 y hy, h2⟩
def oSortSet (d : D) (st : Store) : Res D := match d with
  | .tup xs => match ssOf xs with
    | some ss => if ss.length ≤ 60 then .ok (.lst ((sortU ss).map .str)) st else .no
    | none => .no
  | _ => .no
section
variable {X : Cx} {Wx : WX} {pos p p2 q : Pos} {e : Expr} {m : Me}
theorem toS_of (x : Str) : toS x.cps.toList = x := by unfold toS; rfl
theorem e_sortSet (hc : X.calm = true) (hg : Gl X "sorted") (hm : X.mg "sorted" = none) (hg2 : Gl X "set") (hm2 : X.mg "set" = none) (he : PE X e (fE (gc X) Wx m))
    (na : starEach [e] X.env = (false, eval e X.env) :: starEach [] X.env := by rfl) (na2 : starEach [.Call (.Name "set" p2) [e] [] q] X.env = (false, eval (.Call (.Name "set" p2) [e] [] q) X.env) :: starEach [] X.env := by rfl) :
    PE X (.Call (.Name "sorted" p) [.Call (.Name "set" p2) [e] [] q] [] pos) (fE (gc X) Wx (a1 oSortSet m)) :=
  PE.imp (pe_callB (cr_sortSS hc) hg hm boot_sorted (pa_cons (pe_callTy (cr_setS hc) hg2 hm2 boot_set (pa_cons he pa_nil na) (he := na)) pa_nil na2) (he := na2)) fun σ H Q h => by
    show fE (gc X) Wx m σ H fun x H1 => rSetS X [x] H1 fun y H2 => rSortSS X [y] H2 Q
    refine fG_mono (lift1 h) fun v H' ⟨W, d, e0, s, hd, p⟩ => ?_
    subst e0
    cases d with
    | tup xs =>
      obtain ⟨a, vs, rfl, hq, l⟩ := hd.tup_inv
      dsimp only [oSortSet] at p
      cases q2 : ssOf xs with
      | none => rw [q2] at p; exact p.elim
      | some ss =>
        rw [q2] at p
        dsimp only at p
        split at p
        · rename_i hl
          obtain ⟨rfl, os⟩ := ssOf_inv l q2
          refine ⟨a, ss.map toS, rfl, hq, by simpa using hl, fun b m hb hm => ⟨b, _, m, rfl, upd_same, by simp at hm; omega, fun ns b2 hs nd mem hb2 => ?_⟩⟩
          obtain ⟨e1, s1, n1⟩ := s.lay (o := SetSO X.prog X.w b (fun k => decide (k ∈ ss.map toS)) m) hb
          obtain ⟨u1, u2⟩ := sortU_ok ss
          have en : ns.map (fun z => z.cps.toList) = sortU ss := pw_uniq (sortedS_pw hs nd) u1 fun k => by
            rw [u2 k, List.mem_map]
            constructor
            · rintro ⟨z, hz, rfl⟩
              have := of_decide_eq_true ((mem z).mp hz)
              obtain ⟨y, hy, rfl⟩ := List.mem_map.mp this
              simpa [toS] using hy
            · intro hk
              exact ⟨toS k, (mem _).mpr (decide_eq_true (List.mem_map.mpr ⟨k, hk, rfl⟩)), by simp [toS]⟩
          have en2 : ns = (sortU ss).map toS := by
            rw [← en, List.map_map]
            conv => lhs; rw [← List.map_id ns]
            exact List.map_congr_left fun x _ => (toS_of x).symm
          rw [en2]
          have pp := Post.ext p e1
          exact Post.newL (g := gc X) (Wx := Wx) (σ := σ) s1 (den_strs fun z hz => os z ((u2 z).mp hz)) pp b2 hb2
        · exact p.elim
    | _ => exact p.elim
end
end FL
end
section
set_option Elab.async false
set_option linter.all false
set_option maxRecDepth 100000
/-! FLW: x.f = e; tuple.index; a table of the module; own ==. -/
namespace FL
open PySem PySem.Spec PyProof.Rows L2

/-! ### x.f = e -/
def putD (f : S) (v : D) : List (S × D) → List (S × D)
  | [] => [(f, v)]
  | (g, x) :: r => if g = f then (g, v) :: r else (g, x) :: putD f v r
theorem putD_rel {g : Gc} {W : Wd} {f : S} {v : V} {d : D} (hv : Den g W v d) : ∀ {fs : List (Str × V)} {ds : List (S × D)}, fs.map (·.1) = ds.map (fun p => toS p.1) → DenL g W (fs.map (·.2)) (ds.map (·.2)) →
    (putF (toS f) v fs).map (·.1) = (putD f d ds).map (fun p => toS p.1) ∧ DenL g W ((putF (toS f) v fs).map (·.2)) ((putD f d ds).map (·.2))
  | [], [], _, _ => ⟨rfl, .cons hv .nil⟩
  | [], _ :: _, h, _ => by cases h
  | _ :: _, [], h, _ => by cases h
  | (x, u) :: fs, (y, e) :: ds, h, l => by
    have h1 : x = toS y := (List.cons.inj h).1
    have h2 := (List.cons.inj h).2
    cases l with
    | cons hu l =>
      unfold putF putD
      subst h1
      by_cases q : y = f
      · subst q
        rw [if_pos rfl, if_pos rfl]
        exact ⟨by rw [List.map_cons, List.map_cons]; exact congrArg _ h2, .cons hv l⟩
      · rw [if_neg q, if_neg fun z => q (toS_inj z)]
        obtain ⟨i1, i2⟩ := putD_rel hv h2 l
        exact ⟨by rw [List.map_cons, List.map_cons]; exact congrArg _ i1, .cons hu i2⟩
def stF (c f : S) (o v : D) (e : En) (st : Store) : Fl := match o with
  | .ref n => match st[n]? with
    | some (.ins c' fs) => if c' = c ∧ fs.length < 1000 then .nx e (st.set n (.ins c (putD f v fs))) else .no
    | _ => .no
  | _ => .no
/-- the value first, then the object -/
def mFld (c f : S) (mo m : Me) : Ms := fun e st => (m e st).fl e fun v st1 => (mo e st1).fl e fun o st2 => stF c f o v e st2
theorem s_fld {X : Cx} {Wx : WX} {o value : Expr} {F : Str} {c f : S} {mo m : Me} {pos pos' : Pos} (hF : F = toS f) (hc : Cls X.K (cA X c)) (hn : NoAttr X.K (cA X c) F) (ho : PE X o (fE (gc X) Wx mo)) (hv : PE X value (fE (gc X) Wx m))
    (hs : swapsWith value (some (.Attribute o F pos')) pos.line X.env = pure false := by rfl) : PS X (.Assign [.Attribute o F pos'] value pos) (fS (gc X) Wx (mFld c f mo m)) :=
  PS.imp (ps_fld ho hv hs) fun Z σ H h => by
    show fE (gc X) Wx m σ H fun y H1 => fE (gc X) Wx mo σ H1 fun x H2 => ∃ a C dx fs, x = .ref a ∧ H2 a = some (.ins C dx fs) ∧ Cls X.K C ∧ NoAttr X.K C F ∧ fs.length < 1000 ∧ Z.nx σ (upd H2 a (.ins C dx (putF F y fs)))
    subst hF
    refine fG_mono (liftS h) fun v H' ⟨W, env, d, e0, s, r, hd, p⟩ => ?_
    subst e0
    have h2 : fS (gc X) Wx (fun e st => (mo e st).fl e fun o st2 => stF c f o d e st2) Z σ W.H := ⟨W, env, rfl, s, r, p⟩
    obtain ⟨W1, env1, e1, s1, r1, p1⟩ := id h2
    refine ⟨W, env, rfl, s, r, ?_⟩
    dsimp only at p
    cases q1 : mo env W.st with
    | no => rw [q1] at p; exact p
    | exc x st1 => rw [q1] at p; exact fun W1 e1 s1 hs => p W1 σ e1 s1 hs (r.mono e1)
    | ok od st1 =>
      rw [q1] at p
      dsimp only [Res.fl] at p
      refine fun W1 e1 s1 hs1 ov hov => ?_
      unfold stF at p
      cases od with
      | ref n =>
        dsimp only at p
        cases q3 : st1[n]? with
        | none => rw [q3] at p; exact p.elim
        | some cc =>
          rw [q3] at p
          cases cc with
          | ins c' ds =>
            dsimp only at p
            split at p
            · rename_i hh
              obtain ⟨rfl, hl⟩ := hh
              cases hov with
              | @ref a _ ha =>
              rw [← hs1] at q3
              obtain ⟨dx, fs, h1, k1, k2⟩ := s1.cell n a _ ha q3
              have hl2 : fs.length = ds.length := by have := congrArg List.length k1; simpa using this
              obtain ⟨e3, s3⟩ := s1.cellSet (o := .ins (cA X c') dx (putF (toS f) v fs)) (c := .ins c' (putD f d ds)) ha q3 rfl rfl fun W' e' h =>
                let ⟨i1, i2⟩ := putD_rel (f := f) ((hd.mono e1).mono e') k1 (k2.mono e')
                ⟨dx, _, h, i1, i2⟩
              exact ⟨a, _, dx, fs, rfl, h1, hc, hn, by omega, p _ σ (e1.trans e3) s3 (by show W1.st.set n _ = _; rw [hs1]) ((r.mono e1).mono e3)⟩
            · exact p.elim
          | _ => exact p.elim
      | _ => exact p.elim

/-! ### t.index(x), texts, a tuple of the module -/
def ixS (x : S) : List S → Option Nat
  | [] => none
  | y :: r => if y = x then some 0 else (ixS x r).map (· + 1)
theorem ixS_ok {x : S} : ∀ {l : List S} {j : Nat}, ixS x l = some j → l[j]? = some x ∧ ∀ m, m < j → l[m]? ≠ some x
  | [], j, h => by cases h
  | y :: r, j, h => by
    unfold ixS at h
    split at h
    · rename_i e; cases h; subst e; exact ⟨rfl, fun m hm => by omega⟩
    · rename_i e
      obtain ⟨i, hi, rfl⟩ := Option.map_eq_some_iff.mp h
      obtain ⟨h1, h2⟩ := ixS_ok hi
      refine ⟨by simpa using h1, fun m hm => ?_⟩
      cases m with
      | zero => simp; exact e
      | succ m => have := h2 m (by omega); simpa using this
def tIdx (d : D) (ds : List D) (st : Store) : Res D := match d, ds with
  | .tup xs, [.str x] => match ssOf xs with
    | some ss => match ixS x ss with
      | some j => .ok (.int j) st
      | none => .no
    | none => .no
  | _, _ => .no
/-- a written tuple stands at the value -/
def isKT (K : PySem.W.Frag) (a : Addr) : Bool := match K.lookup a with
  | some o => decide (o.cls = .type "tuple") && decide (o.dict = none)
  | none => false
theorem isKT_ok {K : PySem.W.Frag} {a : Addr} (h : isKT K a = true) (H : Hp) : tyV K "tuple" (.ref a) H := by
  unfold isKT at h
  cases q : K.lookup a with
  | none => rw [q] at h; cases h
  | some o =>
    rw [q] at h
    obtain ⟨h1, h2⟩ := ba2 h
    exact .inr (.inl ⟨rfl, o, q, of_decide_eq_true h1, of_decide_eq_true h2⟩)
section
variable {X : Cx} {Wx : WX} {σ : L2.St} {H : Hp} {Q : VK} {x : V} {vs : List V}
theorem im_tIdx (h : fM (gc X) Wx tIdx x vs σ H Q) : ∃ p, ∃ ys : List Str, ∃ z j, x = .ref p ∧ vs = [.str z] ∧ SqT X.K H p (ys.map V.str) ∧ ys[j]? = some z ∧ (∀ m, m < j → ys[m]? ≠ some z) ∧ Q (.int (j : Nat)) H := by
  obtain ⟨W, d, ds, rfl, s, h1, l, p⟩ := h
  cases d with
  | tup xs =>
    cases l with
    | nil => exact p.elim
    | @cons v d vs ds hv t =>
      cases d with
      | str z =>
        cases t with
        | cons _ _ => exact p.elim
        | nil =>
          obtain ⟨rfl, oz⟩ := hv.str_inv
          obtain ⟨a, vs, rfl, hq, l⟩ := h1.tup_inv
          dsimp only [tIdx] at p
          cases q2 : ssOf xs with
          | none => rw [q2] at p; exact p.elim
          | some ss =>
            rw [q2] at p
            dsimp only at p
            cases q3 : ixS z ss with
            | none => rw [q3] at p; exact p.elim
            | some j =>
              rw [q3] at p
              obtain ⟨rfl, os⟩ := ssOf_inv l q2
              obtain ⟨j1, j2⟩ := ixS_ok q3
              refine ⟨a, ss.map toS, toS z, j, rfl, rfl, hq, by rw [List.getElem?_map, j1]; rfl, fun m hm e => ?_, p W (Ext.refl W) s rfl _ (.int _)⟩
              rw [List.getElem?_map] at e
              obtain ⟨y, hy, ey⟩ := Option.map_eq_some_iff.mp e
              rw [toS_inj ey] at hy
              exact j2 m hm hy
      | _ => exact p.elim
  | _ => cases ds <;> exact p.elim
end
section
variable {X : Cx} {Wx : WX} {pos p apos : Pos} {e : Expr} {m : Me} {ma : Ma}
/-- G.index(e) -/
theorem e_tIdx {G : Str} {a : Addr} {ds : List D} (hk : isKT X.K a = true) (hg : Gl X G) (hm : X.mg G = some (.ref a)) (hd : ∀ W, Den (gc X) W (.ref a) (.tup ds)) (ha : PA X [e] (fA (gc X) Wx ma)) (hdb : (G == ("__debug__" : Str)) = false := by decide)
    (hbase : attributeBase (.Name G p) "index" X.env (eval (.Name G p) X.env) = eval (.Name G p) X.env := by rfl)
    (hfew : ((backTo pos (starEach [e] X.env)).all (fun x => !x.1) && (backToKw pos (keywordEach [] X.env)).all (fun x => x.1.isSome)
      && decide (([e]).length + ([] : List Keyword).length + (if ([] : List Keyword).isEmpty then 0 else 1) < 30)) = true := by rfl)
    (hline : (apos.endLine == pos.line) = true := by rfl) (hs : starEach [e] X.env = (false, eval e X.env) :: starEach [] X.env := by rfl) (hplain : (backTo pos (starEach [] X.env)).any (·.1) = false := by rfl) :
    PE X (.Call (.Attribute (.Name G p) "index" apos) [e] [] pos) (fE (gc X) Wx (aL (fun vs st => tIdx (.tup ds) vs st) ma)) :=
  PE.imp (pe_bm PySem.F.plainAttrs_tuple PySem.F.slot_tuple_index PySem.F.type_tuple_index mt_tup_index (pe_glob (v := .ref a) hg hm rfl hdb) ha hbase hfew hline hs hplain) fun σ H Q h => by
    show tyV X.K "tuple" (.ref a) H ∧ fA (gc X) Wx ma σ H fun xs H2 => _
    refine ⟨isKT_ok hk H, fG_mono (liftL h) fun vs H' ⟨W, ds', e0, s, l, p⟩ => ?_⟩
    subst e0
    exact im_tIdx (Wx := Wx) (σ := σ) ⟨W, _, _, rfl, s, hd W, l, p⟩
/-! ### T[e], T a table of the module -/
def oKGet (kvs : List (S × D)) (d : D) (st : Store) : Res D := match d with
  | .str s => match kvs.lookup s with
    | some v => .ok v st
    | none => .no
  | _ => .no
theorem e_kget {G : Str} {a : Addr} {kvs : List (S × D)} (hg : Gl X G) (hm : X.mg G = some (.ref a)) (hk : ∀ s d, (s, d) ∈ kvs → ∃ v, KDct X.K X.w a (toS s) v ∧ ∀ W, Den (gc X) W v d) (he : PE X e (fE (gc X) Wx m))
    (hdb : (G == ("__debug__" : Str)) = false := by decide) (hs : PlainIx e := by exact fun _ _ => rfl) : PE X (.Subscript (.Name G p) e pos) (fE (gc X) Wx (a1 (oKGet kvs) m)) :=
  PE.imp (pe_ix ix_kdict (pe_glob (v := .ref a) hg hm rfl hdb) he hs) fun σ H Q h => by
    show fE (gc X) Wx m σ H fun y H2 => rIxD X.K X.w (.ref a) y H2 Q
    refine fG_mono (lift1 h) fun v H' ⟨W, d, e0, s, hd, p⟩ => ?_
    subst e0
    cases d with
    | str z =>
      obtain ⟨rfl, oz⟩ := hd.str_inv
      dsimp only [oKGet] at p
      cases q : kvs.lookup z with
      | none => rw [q] at p; exact p.elim
      | some d =>
        rw [q] at p
        obtain ⟨u, h1, h2⟩ := hk z d (lookup_mem q)
        exact ⟨a, toS z, u, rfl, rfl, h1, p W (Ext.refl W) s rfl u (h2 W)⟩
    | _ => exact p.elim
end
end FL
end
section
set_option Elab.async false
set_option linter.all false
set_option maxRecDepth 100000
/-! FLX: == by an own __eq__. -/
namespace FL
open PySem PySem.Spec PyProof.Rows L2

def rOwn (X : Cx) (c : S) (F : List D → Store → Res D) : R2 := fun x y H Q => ∃ (a dx : Addr) (fs : List (Str × V)) (t : Value), x = .ref a ∧ H a = some (.ins (cA X c) dx fs) ∧ TyX X.K H y t ∧ PySem.W.notFirst X.K (cA X c) t = true ∧ spF (gc X) F [x, y] H Q E0
theorem op_own {X : Cx} {k : Nat} {c : S} {f : Addr} {fd : FuncData} {ps : List Str} {F : List D → Store → Res D} (hs : PySem.W.findIn X.K (.ref (cA X c)) "__eq__" = some (some (.ref f))) (hf : PySem.W.isFn X.K (.ref f) = true)
    (G : FnOk X.prog X.w X.K X.mg X.base (L2.CX X.prog X.w) k f fd ps (spF (gc X) F)) (hr : Room k X.A) (hb : Binds X.K fd ps []) : OpR X (compareOp .Eq) (rOwn X c F) := by
  intro pins s σ H x y v u Q I rx ry h
  obtain ⟨a, dx, fs, t, rfl, ha, ty, nf, hsp⟩ := h
  show wpAny (model X.prog X.w) X.A (richCompare .Eq v u) (EP X pins σ Q) X.xe s
  cases rx
  obtain ⟨mA, J, _⟩ := ins_get I.hok ha
  obtain ⟨od, J, _⟩ := J.look
  obtain ⟨P, Z, hP, _⟩ := kit_of I ry ty
  obtain ⟨m, hF⟩ := I.fr
  refine PySem.W.cmp_K (op := .Eq) (tb := t) hr.units0 hF I.ok.mod.kin J (Z.ty _ _ I.kIn hP) nf hs hf ?_
  have hl := G.len _ _ _ _ hsp
  have r2 : Vals [V.ref a, y] [Value.ref a, u] := .cons rfl (.cons ry .nil)
  refine wpAny_call (codeAny_mono (G.run X.A X.stack s H ⟨[.ref a, u], []⟩ [.ref a, u] [.ref a, y] _ E0 hr I.env0 (by
    have := hb s [.ref a, u] I.kIn (by simpa using hl)
    simpa using this) r2 hsp) fun r s' hq => ?_)
  cases r with
  | error e => exact passL pins σ H s e s' I hq
  | ok fl =>
    cases fl with
    | ret w =>
      obtain ⟨z, H', I', rz, q⟩ := I.after hq
      show PySem.W.CmpBack _ _ _
      cases z with
      | non => cases (show w = Value.none from rz); exact ⟨_, H', I', rz, q⟩
      | bl b => cases (show w = Value.bool b from rz); exact ⟨_, H', I', rz, q⟩
      | int b => obtain ⟨t, rfl⟩ := (show ∃ t, w = Value.int b t from rz); exact ⟨_, H', I', rz, q⟩
      | str b => obtain ⟨t, rfl⟩ := (show ∃ t, w = Value.str b t from rz); exact ⟨_, H', I', rz, q⟩
      | byt b => obtain ⟨t, rfl⟩ := (show ∃ t, w = Value.bytes b t from rz); exact ⟨_, H', I', rz, q⟩
      | flt b => obtain ⟨t, rfl⟩ := (show ∃ t, w = Value.float b t from rz); exact ⟨_, H', I', rz, q⟩
      | ref b => cases (show w = Value.ref b from rz); exact ⟨_, H', I', rz, q⟩
      | ty b => cases (show w = Value.type b from rz); exact ⟨_, H', I', rz, q⟩
    | next => exact False.elim hq
    | brk => exact False.elim hq
    | cont => exact False.elim hq
/-- the other's type does not come first -/
def inTs (t : Ty ⊕ S) : List (Ty ⊕ S) → Bool
  | [] => false
  | u :: r => (match t, u with
    | .inl a, .inl b => decide (a = b)
    | .inr a, .inr b => decide (a = b)
    | _, _ => false) || inTs t r
theorem inTs_mem {t : Ty ⊕ S} : ∀ {l : List (Ty ⊕ S)}, inTs t l = true → t ∈ l
  | [], h => by cases h
  | u :: r, h => by
    unfold inTs at h
    rcases Bool.or_eq_true_iff.mp h with h | h
    · cases t <;> cases u <;> first | (cases h; done) | (have := of_decide_eq_true h; subst this; exact List.mem_cons_self ..)
    · exact List.mem_cons_of_mem _ (inTs_mem h)
def nfB (K : PySem.W.Frag) (c : S) : Ty ⊕ S → Bool
  | .inl a => PySem.W.notFirst K (He.ga K (toS c)) (.type a.nm)
  | .inr c' => insB K c' && PySem.W.notFirst K (He.ga K (toS c)) (.ref (He.ga K (toS c')))
def oOwn (c : S) (ts : List (Ty ⊕ S)) (F : List D → Store → Res D) (x y : D) (st : Store) : Res D := match flds c x st, tyN y st with
  | some _, some t => if inTs t ts = true then (F [x, y] st).bindN fun d st => .ok d st else .no
  | _, _ => .no
theorem im_own {X : Cx} {Wx : WX} {σ : L2.St} {H : Hp} {Q : VK} {x y : V} {c : S} {ts : List (Ty ⊕ S)} {F : List D → Store → Res D} (hts : ∀ t ∈ ts, nfB X.K c t = true) (h : f2 (gc X) Wx (rD (gc X)) (oOwn c ts F) x y σ H Q) : rOwn X c F x y H Q := by
  obtain ⟨W, d, e, rfl, s, h1, h2, p⟩ := h
  dsimp only [oOwn] at p
  cases q1 : flds c d W.st with
  | none => rw [q1] at p; exact p.elim
  | some fs =>
    cases q2 : tyN e W.st with
    | none => rw [q1, q2] at p; exact p.elim
    | some t =>
      rw [q1, q2] at p
      dsimp only at p
      split at p
      · rename_i hm
        obtain ⟨a, dx, vs, rfl, hh, k1, k2⟩ := flds_inv s h1 q1
        have sp : spF (gc X) F [.ref a, y] W.H Q E0 := ⟨W, [d, e], rfl, s, .cons h1 (.cons h2 .nil), by
          cases q3 : F [d, e] W.st with
          | ok d' st' => rw [q3] at p; exact p
          | exc x st' => rw [q3] at p; exact p.elim
          | no => rw [q3] at p; exact p⟩
        have nb := hts t (inTs_mem hm)
        cases t with
        | inl b => exact ⟨a, dx, vs, _, rfl, hh, tyN_inl s h2 q2, nb, sp⟩
        | inr c' =>
          obtain ⟨n1, n2⟩ := ba2 nb
          exact ⟨a, dx, vs, _, rfl, hh, tyN_inr s h2 q2 n1, n2, sp⟩
      · exact p.elim
end FL
end
section
set_option Elab.async false
set_option linter.all false
set_option maxRecDepth 100000
/-! FLY: contracts, facts of the module. -/
namespace FL
open PySem PySem.Spec PyProof.Rows L2

/-! ### contracts -/
def FdAt (K : PySem.W.Frag) (f : Addr) (fd : FuncData) : Prop := ∃ (oc : Value) (od : Option Addr) (osl : Array (Option Value)), K.lookup f = some ⟨oc, od, .func fd, osl⟩
theorem FdAt.eq {K : PySem.W.Frag} {f : Addr} {fd fd' : FuncData} (a : FdAt K f fd) (b : FdAt K f fd') : fd = fd' := by
  obtain ⟨oc, od, osl, h⟩ := a
  obtain ⟨oc', od', osl', h'⟩ := b
  rw [h] at h'
  cases h'
  rfl
theorem fd_at {K : PySem.W.Frag} {x qual : Str} {params : Arguments} {body : List Stmt} {scope : Scope} {dvs : List V} {kws : List (Str × V)} {f : Addr} {fd : FuncData} (F : FunD K x qual params body scope dvs kws f fd) : FdAt K f fd := by
  obtain ⟨oc, od, _, _, _, _, _, _, _, osl, _, h, _⟩ := F.ex
  exact ⟨oc, od, osl, h⟩
def FOk (P : Program) (w : World) (K : PySem.W.Frag) (mg : Str → Option Value) (base : Heap) (at_ : Str × Option Str) (k : Nat) (ps : List Str) (F : List D → Store → Res D) : Prop :=
  ∃ fd, FnOk P w K mg base (L2.CX P w) k (He.fAd K at_) fd ps (spF ⟨P, w, K⟩ F) ∧ Binds K fd ps [] ∧ PySem.W.keepIn K (.ref (He.fAd K at_)) = true ∧ FdAt K (He.fAd K at_) fd
section
variable {P : Program} {w : World} {K : PySem.W.Frag} {mg : Str → Option Value} {base : Heap}
theorem fn_okD {x qual : Str} {params : Arguments} {body : List Stmt} {scope : Scope} {dvs : List V} {kws : List (Str × V)} {f : Addr} {fd : FuncData} {N ps : List Str} {k : Nat} {b : Ms} {keep : Bool} (F : FunD K x qual params body scope dvs kws f fd) (S : FnScope N ps scope)
    (hb : ∀ (cdv : Value) (A : Around) (outer : List Env) (s : Shared) (H : Hp) (E : XK), Room k (A.deeper (envOfC qual scope s.heap.objs.size f cdv)) →
      PSs (cxOf (L2.CX P w) P w K mg base N qual scope f cdv A outer s H E) body (fS ⟨P, w, K⟩ (fun cls dd _ H => E cls dd H) b)) :
    FnOk P w K mg base (L2.CX P w) (k + 1) f fd ps (spF ⟨P, w, K⟩ (mkF keep ps.length N.length b)) := by
  refine F.ok S (fun vs H Q E h => ?_) (fun cdv A outer s H vs Q E hr h => ⟨_, hb cdv A outer s H E hr, ?_⟩)
  · obtain ⟨W, ds, rfl, s, l, p⟩ := h
    dsimp only [mkF] at p
    split at p
    · rw [l.length]; assumption
    · exact p.elim
  · obtain ⟨W, ds, rfl, s, l, p⟩ := h
    dsimp only [mkF] at p
    split at p
    · rename_i hn
      exact mk_body S.pre l hn s p
    · exact p.elim
theorem fok_of {d : He.DefD} {N ps : List Str} {k : Nat} {b : Ms} {keep : Bool} (hF : ∃ fd, FunD K d.name d.qual d.params d.body d.scope (d.dvs K) (d.kws K) (He.fAd K d.at_) fd) (h0 : d.dfl = []) (S : FnScope N ps d.scope)
    (hbind : ∀ (kV doc pm : Value) (an : Option Addr) (cdv ct : Value) (us : List Value), us.length = ps.length → bindArgs (PySem.W.fnOf d.name d.qual d.params d.body d.scope .none kV doc pm an cdv ct) ⟨us, []⟩ = pure (ps.zip us))
    (hb : ∀ (cdv : Value) (A : Around) (outer : List Env) (s : Shared) (H : Hp) (E : XK), Room k (A.deeper (envOfC d.qual d.scope s.heap.objs.size (He.fAd K d.at_) cdv)) →
      PSs (cxOf (L2.CX P w) P w K mg base N d.qual d.scope (He.fAd K d.at_) cdv A outer s H E) d.body (fS ⟨P, w, K⟩ (fun cls dd _ H => E cls dd H) b)) :
    FOk P w K mg base d.at_ (k + 1) ps (mkF keep ps.length N.length b) := by
  obtain ⟨fd, F⟩ := hF
  have F' : FunD K d.name d.qual d.params d.body d.scope [] (d.kws K) (He.fAd K d.at_) fd := by
    have e : d.dvs K = [] := by unfold He.DefD.dvs; rw [h0]; rfl
    rw [← e]; exact F
  exact ⟨fd, fn_okD F S hb, F'.bindsN hbind, F.kp, fd_at F⟩
/-- nothing is promised -/
theorem fok_no {d : He.DefD} {ps : List Str} {k : Nat} (hF : ∃ fd, FunD K d.name d.qual d.params d.body d.scope (d.dvs K) (d.kws K) (He.fAd K d.at_) fd) (h0 : d.dfl = [])
    (hbind : ∀ (kV doc pm : Value) (an : Option Addr) (cdv ct : Value) (us : List Value), us.length = ps.length → bindArgs (PySem.W.fnOf d.name d.qual d.params d.body d.scope .none kV doc pm an cdv ct) ⟨us, []⟩ = pure (ps.zip us)) :
    FOk P w K mg base d.at_ k ps (fun _ _ => .no) := by
  obtain ⟨fd, F⟩ := hF
  have F' : FunD K d.name d.qual d.params d.body d.scope [] (d.kws K) (He.fAd K d.at_) fd := by
    have e : d.dvs K = [] := by unfold He.DefD.dvs; rw [h0]; rfl
    rw [← e]; exact F
  exact ⟨fd, ⟨fun vs H Q E h => by obtain ⟨W, ds, _, _, _, p⟩ := h; exact p.elim, fun A outer s H args us vs Q E _ _ _ _ h => by obtain ⟨W, ds, _, _, _, p⟩ := h; exact p.elim⟩, F'.bindsN hbind, F.kp, fd_at F⟩
theorem FOk.mono {at_ : Str × Option Str} {j k : Nat} {ps : List Str} {F : List D → Store → Res D} (h : FOk P w K mg base at_ j ps F) (hk : j ≤ k) : FOk P w K mg base at_ k ps F := by
  obtain ⟨fd, h1, h2, h3⟩ := h
  exact ⟨fd, h1.mono hk, h2, h3⟩
end
/-! ### calls by contract -/
section
variable {X : Cx} {Wx : WX} {j k : Nat} {ps : List Str} {F : List D → Store → Res D} {x M : Str} {p pos apos : Pos} {e o a b : Expr} {es : List Expr} {m ma mb : Me} {ml : Ma} {c f : S}
theorem c_call (G : FOk X.prog X.w X.K X.mg X.base (x, none) k ps F) (hr : Room j X.A) (hj : k ≤ j) (tk : Takes X Wx) (hg : Gl X x) (hm : X.mg x = some (.ref (He.ga X.K x)))
    (ha : PA X (e :: es) (fA (gc X) Wx ml)) (hdb : (x == ("__debug__" : Str)) = false := by decide) (he : starEach (e :: es) X.env = (false, eval e X.env) :: starEach es X.env := by rfl) (hpl : (backTo pos (starEach es X.env)).any (·.1) = false := by rfl) :
    PE X (.Call (.Name x p) (e :: es) [] pos) (fE (gc X) Wx (aL F ml)) := by
  obtain ⟨fd, G, hb, hk, _⟩ := G
  exact e_call G (hr.mono hj) tk hg hm hk hb ha hdb he hpl
theorem c_call0 (G : FOk X.prog X.w X.K X.mg X.base (x, none) k ps F) (hr : Room j X.A) (hj : k ≤ j) (tk : Takes X Wx) (hg : Gl X x) (hm : X.mg x = some (.ref (He.ga X.K x))) (hdb : (x == ("__debug__" : Str)) = false := by decide) :
    PE X (.Call (.Name x p) [] [] pos) (fE (gc X) Wx fun _ st => F [] st) := by
  obtain ⟨fd, G, hb, hk, _⟩ := G
  exact e_call0 G (hr.mono hj) tk hg hm hk hb hdb
theorem c_make {fr : Bool} (G : FOk X.prog X.w X.K X.mg X.base (toS c, some "__init__") k ps F) (hr : Room j X.A) (hj : k + 1 ≤ j) (M : He.Fa.ok X.K (.mkr (toS c)) = true) (tk : Takes X Wx) (hg : Gl X x) (hm : X.mg x = some (.ref (cA X c)))
    (ha : PA X (e :: es) (fA (gc X) Wx ml)) (hdb : (x == ("__debug__" : Str)) = false := by decide) (he : starEach (e :: es) X.env = (false, eval e X.env) :: starEach es X.env := by rfl) (hpl : (backTo pos (starEach es X.env)).any (·.1) = false := by rfl) :
    PE X (.Call (.Name x p) (e :: es) [] pos) (fE (gc X) Wx (mMake fr c F ml)) := by
  obtain ⟨fd, G, hb, hk, _⟩ := G
  exact e_make (He.mkr_ok M) G (hr.mono hj) tk hg hm hb ha hdb he hpl
/-- == of an own class -/
theorem c_ownEq {ts : List (Ty ⊕ S)} (G : FOk X.prog X.w X.K X.mg X.base (toS c, some "__eq__") k ps F) (hr : Room j X.A) (hj : k ≤ j) (M : He.Fa.ok X.K (.meth (toS c) "__eq__") = true) (hts : ∀ t ∈ ts, nfB X.K c t = true) (ha : PE X a (fE (gc X) Wx ma)) (hb : PE X b (fE (gc X) Wx mb))
    (hm : behindInMarks .Eq b = false := by first | exact nomark _ | rfl) : PE X (.Compare a [.Eq] [b] pos) (fE (gc X) Wx (a2 (oOwn c ts F) ma mb)) := by
  obtain ⟨fd, G, hb', hk, _⟩ := G
  have m := He.meth_ok M
  obtain ⟨m1, m2, m3⟩ := id m
  exact e_cmp (op_own m1 m2 G (hr.mono hj) hb') (fun h => im_own hts h) ha hb hm
theorem ct_ownEq {ts : List (Ty ⊕ S)} (G : FOk X.prog X.w X.K X.mg X.base (toS c, some "__eq__") k ps F) (hr : Room j X.A) (hj : k ≤ j) (M : He.Fa.ok X.K (.meth (toS c) "__eq__") = true) (hts : ∀ t ∈ ts, nfB X.K c t = true) (ha : PE X a (fE (gc X) Wx ma)) (hb : PE X b (fE (gc X) Wx mb))
    (hm : behindInMarks .Eq b = false := by first | exact nomark _ | rfl) : PT X (.Compare a [.Eq] [b] pos) (fT (gc X) Wx (tB (a2 (oOwn c ts F) ma mb))) := by
  obtain ⟨fd, G, hb', hk, _⟩ := G
  have m := He.meth_ok M
  obtain ⟨m1, m2, m3⟩ := id m
  exact t_cmp (op_own m1 m2 G (hr.mono hj) hb') (fun h => im_own hts h) ha hb hm
end

/-! ### constants of the module -/
def listB {α β : Type} (f : α → β → Bool) : List α → List β → Bool
  | [], [] => true
  | u :: us, d :: ds => f u d && listB f us ds
  | _, _ => false
def atomB : Value → D → Bool
  | .none, .non => true
  | .bool b, .bl c => b == c
  | .int i _, .int j => decide (i = j)
  | .str x _, .str s => isS x s
  | _, _ => false
def denB (K : PySem.W.Frag) : Nat → Value → D → Bool
  | 0, u, d => atomB u d
  | n + 1, u, d => match u, d with
    | .ref a, .tup ds => match K.lookup a with
      | some ⟨.type c, _, .seq its _, _⟩ => decide (c = "tuple") && (decide (its.size ≤ sizeLine) && listB (denB K n) its.toList ds)
      | _ => false
    | u, d => atomB u d
def DenS (K : PySem.W.Frag) (u : Value) (d : D) : Prop := ∃ v, RelV v u ∧ ∀ (P : Program) (w : World) (W : Wd), Den ⟨P, w, K⟩ W v d
theorem atomB_ok {K : PySem.W.Frag} {u : Value} {d : D} (e : atomB u d = true) : DenS K u d := by
  unfold atomB at e
  split at e
  · exact ⟨.non, rfl, fun _ _ _ => .non⟩
  · rename_i b c
    have : b = c := eq_of_beq e
    subst this
    exact ⟨.bl b, rfl, fun _ _ _ => .bl b⟩
  · rename_i i t j
    have : i = j := of_decide_eq_true e
    subst this
    exact ⟨.int i, ⟨t, rfl⟩, fun _ _ _ => .int i⟩
  · rename_i x t s
    obtain ⟨h1, h2⟩ := ba2 e
    have := of_decide_eq_true h1
    subst this
    exact ⟨.str (toS s), ⟨t, rfl⟩, fun _ _ _ => .str s h2⟩
  · cases e
theorem listB_ok {K : PySem.W.Frag} {f : Value → D → Bool} (h : ∀ u d, f u d = true → DenS K u d) : ∀ {us : List Value} {ds : List D}, listB f us ds = true → ∃ vs, Vals vs us ∧ ∀ (P : Program) (w : World) (W : Wd), DenL ⟨P, w, K⟩ W vs ds
  | [], [], _ => ⟨[], .nil, fun _ _ _ => .nil⟩
  | [], _ :: _, e => by cases e
  | _ :: _, [], e => by cases e
  | u :: us, d :: ds, e => by
    obtain ⟨e1, e2⟩ := ba2 (show (f u d && listB f us ds) = true from e)
    obtain ⟨v, r, hv⟩ := h u d e1
    obtain ⟨vs, rs, hvs⟩ := listB_ok h e2
    exact ⟨v :: vs, .cons r rs, fun P w W => .cons (hv P w W) (hvs P w W)⟩
theorem denB_ok {K : PySem.W.Frag} : ∀ (n : Nat) (u : Value) (d : D), denB K n u d = true → DenS K u d
  | 0, u, d, e => atomB_ok e
  | n + 1, u, d, e => by
    unfold denB at e
    split at e
    · rename_i a ds
      split at e
      · rename_i c od its m sl q
        obtain ⟨e1, e2⟩ := ba2 e
        obtain ⟨e3, e4⟩ := ba2 e2
        obtain ⟨vs, rs, hvs⟩ := listB_ok (denB_ok n) e4
        exact ⟨.ref a, rfl, fun P w W => .tupK ⟨_, its, m, q, congrArg Value.type (of_decide_eq_true e1), rfl, of_decide_eq_true e3, rs⟩ (hvs P w W)⟩
      · cases e
    · exact atomB_ok e
/-- the module's name x is d -/
def conD (K : PySem.W.Frag) (x : Str) (d : D) : Bool := match PySem.W.nsIn K mainGlobals x with
  | some (some u) => denB K 8 u d
  | _ => false
theorem conD_ok {K : PySem.W.Frag} {h : Heap} {mg : Str → Option Value} {x : Str} {d : D} (X : K.In h) (G : h.Ns mainGlobals mg) (c : conD K x d = true) : ∃ u v, mg x = some u ∧ RelV v u ∧ ∀ (P : Program) (w : World) (W : Wd), Den ⟨P, w, K⟩ W v d := by
  unfold conD at c
  cases e : PySem.W.nsIn K mainGlobals x with
  | none => rw [e] at c; cases c
  | some r =>
    rw [e] at c
    cases r with
    | none => cases c
    | some u =>
      obtain ⟨v, r, hv⟩ := denB_ok 8 _ _ c
      exact ⟨u, v, PySem.W.mg_of X G e, r, hv⟩
theorem c_con {X : Cx} {Wx : WX} {x : Str} {d : D} {pos : Pos} (hg : Gl X x) (h : ∃ u v, X.mg x = some u ∧ RelV v u ∧ ∀ (P : Program) (w : World) (W : Wd), Den ⟨P, w, X.K⟩ W v d) (hdb : (x == ("__debug__" : Str)) = false := by decide) : PE X (.Name x pos) (fE (gc X) Wx (aC d)) := by
  obtain ⟨u, v, hm, r, hd⟩ := h
  exact PE.imp (pe_glob hg hm r hdb) fun _ _ _ h => of_const (fun W => hd _ _ W) h
/-- G.index(e), G a tuple of the module -/
theorem c_tIdx {X : Cx} {Wx : WX} {G : Str} {ds : List D} {p apos pos : Pos} {e : Expr} {ma : Ma} (hk : isKT X.K (He.ga X.K G) = true) (hg : Gl X G) (hm : X.mg G = some (.ref (He.ga X.K G))) (h : ∃ u v, X.mg G = some u ∧ RelV v u ∧ ∀ (P : Program) (w : World) (W : Wd), Den ⟨P, w, X.K⟩ W v (.tup ds)) (ha : PA X [e] (fA (gc X) Wx ma)) (hdb : (G == ("__debug__" : Str)) = false := by decide)
    (hbase : attributeBase (.Name G p) "index" X.env (eval (.Name G p) X.env) = eval (.Name G p) X.env := by rfl)
    (hfew : ((backTo pos (starEach [e] X.env)).all (fun x => !x.1) && (backToKw pos (keywordEach [] X.env)).all (fun x => x.1.isSome)
      && decide (([e]).length + ([] : List Keyword).length + (if ([] : List Keyword).isEmpty then 0 else 1) < 30)) = true := by rfl)
    (hline : (apos.endLine == pos.line) = true := by rfl) (hs : starEach [e] X.env = (false, eval e X.env) :: starEach [] X.env := by rfl) (hplain : (backTo pos (starEach [] X.env)).any (·.1) = false := by rfl) :
    PE X (.Call (.Attribute (.Name G p) "index" apos) [e] [] pos) (fE (gc X) Wx (aL (fun vs st => tIdx (.tup ds) vs st) ma)) := by
  obtain ⟨u, v, hm2, r, hd⟩ := h
  rw [hm] at hm2
  cases hm2
  have ev : v = .ref (He.ga X.K G) := RelV.inj r (show RelV (.ref (He.ga X.K G)) (.ref (He.ga X.K G)) from rfl)
  subst ev
  exact e_tIdx hk hg hm (fun W => hd _ _ W) ha hdb hbase hfew hline hs hplain
def valsD (K : PySem.W.Frag) (a : Addr) (kvs : List (S × D)) : Bool := kvs.all fun q => match PySem.W.nsIn K a (toS q.1) with
  | some (some u) => denB K 8 u q.2
  | _ => false
theorem c_kget {X : Cx} {Wx : WX} {G : Str} {kvs : List (S × D)} {p pos : Pos} {e : Expr} {m : Me} (hg : Gl X G) (hm : X.mg G = some (.ref (He.ga X.K G))) (ht : ∃ es n, KDict X.K X.w (He.ga X.K G) es n) (hk : valsD X.K (He.ga X.K G) kvs = true) (he : PE X e (fE (gc X) Wx m))
    (hdb : (G == ("__debug__" : Str)) = false := by decide) (hs : PlainIx e := by exact fun _ _ => rfl) : PE X (.Subscript (.Name G p) e pos) (fE (gc X) Wx (a1 (oKGet kvs) m)) := by
  obtain ⟨es, n, D⟩ := ht
  refine e_kget hg hm (fun s d hsd => ?_) he hdb hs
  have h := List.all_eq_true.mp hk (s, d) hsd
  dsimp only at h
  cases q : PySem.W.nsIn X.K (He.ga X.K G) (toS s) with
  | none => rw [q] at h; cases h
  | some r =>
    rw [q] at h
    cases r with
    | none => cases h
    | some u =>
      obtain ⟨v, r, hv⟩ := denB_ok 8 _ _ h
      exact ⟨v, ⟨es, n, u, D.at_, D.lit, q, r⟩, fun W => hv _ _ W⟩
end FL
end
section
set_option Elab.async false
set_option linter.all false
set_option maxRecDepth 100000
/-! FLZ: small things for the printed texts. -/
namespace FL
open PySem PySem.Spec PyProof.Rows L2

/-! ### -x -/
def oNeg (d : D) (st : Store) : Res D := match d with
  | .int i => .ok (.int (-i)) st
  | _ => .no
section
variable {X : Cx} {Wx : WX} {pos : Pos} {e : Expr} {m : Me}
theorem e_neg (he : PE X e (fE (gc X) Wx m)) : PE X (.UnaryOp .USub e pos) (fE (gc X) Wx (a1 oNeg m)) := PE.imp (pe_un un_neg he) fun σ H Q h => by
  show fE (gc X) Wx m σ H fun x H1 => rU (fun i => .int (-i)) x H1 Q
  refine fG_mono (lift1 h) fun v H' ⟨W, d, e0, s, hd, p⟩ => ?_
  subst e0
  cases d with
  | int i => cases hd.int_inv; exact ⟨i, rfl, p W (Ext.refl W) s rfl _ (.int _)⟩
  | _ => exact p.elim
/-- frozen on its way -/
theorem e_fz (he : PE X e (fE (gc X) Wx m)) : PE X e (fE (gc X) Wx (a1 fz m)) := PE.imp he fun σ H Q h => by
  refine fG_mono (lift1 h) fun v H' ⟨W, d, e0, s, hd, p⟩ => ?_
  subst e0
  cases q : fz d W.st with
  | ok d' st' =>
    rw [q] at p
    obtain ⟨W', x1, x2, x3, x4, x5⟩ := fz_ok s hd q
    rw [← x4]
    exact p W' x1 x2 x3 v x5
  | exc x st => exfalso; unfold fz at q; split at q <;> (try split at q) <;> cases q
  | no => rw [q] at p; exact p.elim
end
/-! ### checks -/
def blkB (N : List Str) (sc scope : Scope) (own : List (Str × Nat)) : Bool := decide (scope.kind = .function) && (scope.names.all (fun y => decide (scope.names.lookup y.1 = some y.2)) && (own.all (fun p => decide (N[p.2]? = some p.1)) &&
  (scope.names.all (fun y => !decide (y.2 = .free) || (decide (sc.names.lookup y.1 = some .cell) || decide (sc.names.lookup y.1 = some .free))) &&
  scope.names.all (fun y => !(decide (y.2 = .local) || decide (y.2 = .cell)) || (decide (y.1 ∈ own.map (·.1)) || decide (y.1 ∉ N))))))
theorem blk_of {N : List Str} {sc scope : Scope} {own : List (Str × Nat)} (h : blkB N sc scope own = true) : BlkOk N sc scope own := by
  obtain ⟨h1, h⟩ := ba2 h
  obtain ⟨h2, h⟩ := ba2 h
  obtain ⟨h3, h⟩ := ba2 h
  obtain ⟨h4, h5⟩ := ba2 h
  refine ⟨of_decide_eq_true h1, fun y hy => of_decide_eq_true (List.all_eq_true.mp h2 y hy), fun p hp => of_decide_eq_true (List.all_eq_true.mp h3 p hp), fun y hy e => ?_, fun y hy e => ?_⟩
  · have := List.all_eq_true.mp h4 y hy
    rw [decide_eq_true e, Bool.not_true, Bool.false_or] at this
    rcases Bool.or_eq_true_iff.mp this with q | q
    · exact .inl (of_decide_eq_true q)
    · exact .inr (of_decide_eq_true q)
  · have := List.all_eq_true.mp h5 y hy
    have e' : (decide (y.2 = .local) || decide (y.2 = .cell)) = true := by rcases e with e | e <;> simp [e]
    rw [e', Bool.not_true, Bool.false_or] at this
    rcases Bool.or_eq_true_iff.mp this with q | q
    · exact .inl (of_decide_eq_true q)
    · exact .inr (of_decide_eq_true q)
def scB (N ps : List Str) (sc : Scope) : Bool := decide (sc.kind = .function) && (!sc.isCoroutine && (!sc.isGenerator && (decide N.Nodup && (decide (N.take ps.length = ps) &&
  (ps.all (fun x => decide (sc.names.lookup x = some .local) || decide (sc.names.lookup x = some .cell)) && sc.names.all (fun y => !decide (y.2 = .free)))))))
theorem sc_of {N ps : List Str} {sc : Scope} (h : scB N ps sc = true) : FnScope N ps sc := by
  obtain ⟨h1, h⟩ := ba2 h
  obtain ⟨h2, h⟩ := ba2 h
  obtain ⟨h3, h⟩ := ba2 h
  obtain ⟨h4, h⟩ := ba2 h
  obtain ⟨h5, h⟩ := ba2 h
  obtain ⟨h6, h7⟩ := ba2 h
  exact ⟨of_decide_eq_true h1, by simpa using h2, by simpa using h3, of_decide_eq_true h4, of_decide_eq_true h5, fun x hx => by
    rcases Bool.or_eq_true_iff.mp (List.all_eq_true.mp h6 x hx) with q | q
    · exact .inl (of_decide_eq_true q)
    · exact .inr (of_decide_eq_true q), fun y hy e => by
    have := List.all_eq_true.mp h7 y hy
    rw [decide_eq_true e] at this
    cases this⟩
theorem Room.u65 {k : Nat} {A : Around} (r : Room k A) : A.units + 65 < cLine := by have := r.un; omega
theorem Room.u1 {k : Nat} {A : Around} (r : Room k A) : A.units + 1 < cLine := by have := r.un; omega
end FL
end
section
set_option Elab.async false
set_option linter.all false
set_option maxRecDepth 100000
/-! FMA: properties; the hook. -/
namespace FL
open PySem PySem.Spec PyProof.Rows L2

def propAt (K : PySem.W.Frag) (c f : Str) : Addr := match PySem.W.recIn K (He.ma K (He.ga K c) f) "property" with
  | some (.ref g :: _) => g
  | _ => 0
def propB (K : PySem.W.Frag) (c f : Str) : Bool := He.eqO (PySem.W.findIn K (.ref (He.ga K c)) f) (some (some (.ref (He.ma K (He.ga K c) f)))) && (He.eqO (PySem.W.specialIn K (.ref (He.ma K (He.ga K c) f)) "__get__") (some (some (.builtin "property.__get__"))) &&
  (decide (PySem.W.takesIn K (.ref (He.ma K (He.ga K c) f)) = some true) && (match PySem.W.recIn K (He.ma K (He.ga K c) f) "property" with
    | some (.ref _ :: _) => true
    | _ => false)))
theorem prop_ok {K : PySem.W.Frag} {c f : Str} (h : propB K c f = true) : PropOf K (He.ga K c) f (He.ma K (He.ga K c) f) (propAt K c f) := by
  obtain ⟨h1, h⟩ := ba2 h
  obtain ⟨h2, h⟩ := ba2 h
  obtain ⟨h3, h4⟩ := ba2 h
  refine ⟨He.eqO_ok h1, He.eqO_ok h2, of_decide_eq_true h3, ?_⟩
  unfold propAt
  split at h4
  · rename_i g r q
    rw [q]
    exact ⟨r, rfl⟩
  · cases h4
/-! ### a def anywhere -/
structure DefQ where
  at_ : PySem.W.Frag → Addr
  name : Str
  qual : Str
  params : Arguments
  body : List Stmt
  scope : Scope
def fnWa (K : PySem.W.Frag) (a : Addr) : He.FnW := match K.lookup a with
  | some ⟨_, _, .func fd, _⟩ => some (fd.name, fd.qualname, fd.params, fd.body, fd.scope, fd.globals, fd.closure, fd.builtins)
  | _ => none
def DefQ.val (d : DefQ) : He.FnW := some (d.name, d.qual, d.params, .stmts d.body, d.scope, mainGlobals, [], builtinsNs)
def DefQ.ok (K : PySem.W.Frag) (d : DefQ) : Bool := PySem.W.keepIn K (.ref (d.at_ K)) && (match K.lookup (d.at_ K) with
  | some ⟨_, _, .func fd, _⟩ => PySem.W.codeIn K fd.code d.qual && (He.dflB K fd.defaults [] && He.kwdB K fd.kwdefaults [])
  | _ => false)
theorem DefQ.funD {K : PySem.W.Frag} {d : DefQ} (e : fnWa K (d.at_ K) = d.val) (c : d.ok K = true) : ∃ fd, FunD K d.name d.qual d.params d.body d.scope [] [] (d.at_ K) fd := by
  obtain ⟨kp, c2⟩ := ba2 c
  unfold fnWa at e
  cases q : K.lookup (d.at_ K) with
  | none => rw [q] at c2; cases c2
  | some o =>
    obtain ⟨oc, od, dt, osl⟩ := o
    rw [q] at c2 e
    cases dt with
    | func fd =>
      obtain ⟨n1, n2, n3, n4, n5, n6, n7, n8, n9, n10, n11, n12, n13, n14, n15⟩ := fd
      have e2 : (some (n1, n2, n3, n4, n5, n6, n7, n15) : He.FnW) = some (d.name, d.qual, d.params, .stmts d.body, d.scope, mainGlobals, [], builtinsNs) := e
      simp only [Option.some.injEq, Prod.mk.injEq] at e2
      obtain ⟨h1, h2, h3, h4, h5, h6, h7, h8⟩ := e2
      subst h1 h2 h3 h4 h5 h6 h7 h8
      obtain ⟨k1, k2⟩ := ba2 (show (PySem.W.codeIn K n13 d.qual && (He.dflB K n8 [] && He.kwdB K n9 [])) = true from c2)
      obtain ⟨k3, k4⟩ := ba2 k2
      exact ⟨_, ⟨oc, od, n8, n9, n10, n11, n12, n13, n14, osl, rfl, q, k1, He.dflB_ok k3, He.kwdB_ok k4⟩, kp⟩
    | _ => cases c2
/-! ### the hook -/
abbrev AlP : Type := He.AlT × Bool × List He.FnW
def obsP (fa : List He.Fa) (fn : List He.DefD) (ts : List He.Tab) (ex : PySem.W.Frag → Bool) (qs : List DefQ) (K : PySem.W.Frag) : AlP := (He.obsT fa fn ts K, ex K && qs.all (fun d => d.ok K), qs.map fun d => fnWa K (d.at_ K))
def valP (fn : List He.DefD) (ts : List He.Tab) (qs : List DefQ) (w : World) : AlP := (He.valT fn ts w, true, qs.map DefQ.val)
def obsPG (n : Nat) (fa : List He.Fa) (fn : List He.DefD) (ts : List He.Tab) (ex : PySem.W.Frag → Bool) (qs : List DefQ) (g : Addr → Option Obj) : AlP := obsP fa fn ts ex qs (He.frG g (He.asD g n))
def SaysP (fa : List He.Fa) (fn : List He.DefD) (ts : List He.Tab) (ex : PySem.W.Frag → Bool) (qs : List DefQ) (w : World) (K : PySem.W.Frag) : Prop := obsP fa fn ts ex qs K = valP fn ts qs w
def hookP (n : Nat) (fa : List He.Fa) (fn : List He.DefD) (ts : List He.Tab) (ex : PySem.W.Frag → Bool) (qs : List DefQ) : PySem.W.Hook where
  α := AlP
  obs := fun s => obsPG n fa fn ts ex qs s.heap.get?
  val := fun w => valP fn ts qs w
  says := fun w h => ∃ K : PySem.W.Frag, K.In h ∧ SaysP fa fn ts ex qs w K
  of := fun _ _ e => ⟨_, He.frG_in, e⟩
  keeps := fun _ _ _ ⟨K, hK, c⟩ k => ⟨K, PySem.W.Frag.In.keeps hK k, c⟩
theorem obsPG_eq {n : Nat} {fa : List He.Fa} {fn : List He.DefD} {ts : List He.Tab} {ex : PySem.W.Frag → Bool} {qs : List DefQ} {g : Addr → Option Obj} {s : Shared} (h : ∀ a, g a = s.heap.get? a) : obsPG n fa fn ts ex qs g = (hookP n fa fn ts ex qs).obs s := by
  have e : g = s.heap.get? := funext h
  rw [e] <;> rfl
section
variable {fa : List He.Fa} {fn : List He.DefD} {ts : List He.Tab} {ex : PySem.W.Frag → Bool} {qs : List DefQ} {w : World} {K : PySem.W.Frag}
theorem SaysP.t (c : SaysP fa fn ts ex qs w K) : He.SaysT fa fn ts w K := congrArg (fun z : AlP => z.1) c
theorem SaysP.more (c : SaysP fa fn ts ex qs w K) : ex K = true := (ba2 (show (ex K && qs.all (fun d => d.ok K)) = true from congrArg (fun z : AlP => z.2.1) c)).1
theorem SaysP.q (c : SaysP fa fn ts ex qs w K) (i : Nat) {d : DefQ} (h : qs[i]? = some d := by rfl) : ∃ fd, FunD K d.name d.qual d.params d.body d.scope [] [] (d.at_ K) fd := by
  have c2 := (ba2 (show (ex K && qs.all (fun d => d.ok K)) = true from congrArg (fun z : AlP => z.2.1) c)).2
  have e : qs.map (fun d => fnWa K (d.at_ K)) = qs.map DefQ.val := congrArg (fun z : AlP => z.2.2) c
  have e2 : (qs.map fun d => fnWa K (d.at_ K))[i]? = (qs.map DefQ.val)[i]? := by rw [e]
  rw [List.getElem?_map, List.getElem?_map, h] at e2
  exact DefQ.funD (Option.some.inj e2) (List.all_eq_true.mp c2 d (List.mem_of_getElem? h))
end
theorem xs_at {l : List Bool} (h : l.all id = true) (i : Nat) {b : Bool} (e : l[i]? = some b := by rfl) : b = true := List.all_eq_true.mp h b (List.mem_of_getElem? e)
theorem mnil {α : Type} {p : α → Prop} : ∀ x ∈ ([] : List α), p x := fun _ h => nomatch h
theorem mcons {α : Type} {p : α → Prop} {a : α} {l : List α} (h : p a) (t : ∀ x ∈ l, p x) : ∀ x ∈ a :: l, p x := List.forall_mem_cons.mpr ⟨h, t⟩
/-! ### contracts by place -/
def FOkA (P : Program) (w : World) (K : PySem.W.Frag) (mg : Str → Option Value) (base : Heap) (f : Addr) (k : Nat) (ps : List Str) (F : List D → Store → Res D) : Prop :=
  ∃ fd, FnOk P w K mg base (L2.CX P w) k f fd ps (spF ⟨P, w, K⟩ F) ∧ Binds K fd ps [] ∧ PySem.W.keepIn K (.ref f) = true
theorem fokA_of {P : Program} {w : World} {K : PySem.W.Frag} {mg : Str → Option Value} {base : Heap} {d : DefQ} {N ps : List Str} {k : Nat} {b : Ms} {keep : Bool} (hF : ∃ fd, FunD K d.name d.qual d.params d.body d.scope [] [] (d.at_ K) fd) (S : FnScope N ps d.scope)
    (hbind : ∀ (kV doc pm : Value) (an : Option Addr) (cdv ct : Value) (us : List Value), us.length = ps.length → bindArgs (PySem.W.fnOf d.name d.qual d.params d.body d.scope .none kV doc pm an cdv ct) ⟨us, []⟩ = pure (ps.zip us))
    (hb : ∀ (cdv : Value) (A : Around) (outer : List Env) (s : Shared) (H : Hp) (E : XK), Room k (A.deeper (envOfC d.qual d.scope s.heap.objs.size (d.at_ K) cdv)) →
      PSs (cxOf (L2.CX P w) P w K mg base N d.qual d.scope (d.at_ K) cdv A outer s H E) d.body (fS ⟨P, w, K⟩ (fun cls dd _ H => E cls dd H) b)) :
    FOkA P w K mg base (d.at_ K) (k + 1) ps (mkF keep ps.length N.length b) := by
  obtain ⟨fd, F⟩ := hF
  exact ⟨fd, fn_okD F S hb, F.bindsN hbind, F.kp⟩
def oProp (c : S) (F : List D → Store → Res D) (d : D) (st : Store) : Res D := match flds c d st with
  | some _ => (F [d] st).bindN fun d st => .ok d st
  | none => .no
theorem c_prop {X : Cx} {Wx : WX} {j k : Nat} {ps : List Str} {F : List D → Store → Res D} {M : Str} {pos : Pos} {e : Expr} {m : Me} {c : S} (G : FOkA X.prog X.w X.K X.mg X.base (propAt X.K (toS c) M) k ps F) (hr : Room j X.A) (hj : k + 1 ≤ j) (hc : He.Fa.ok X.K (.cls (toS c)) = true) (hp : propB X.K (toS c) M = true) (he : PE X e (fE (gc X) Wx m))
    (hab : attributeBase e M X.env (eval e X.env) = eval e X.env := by rfl) : PE X (.Attribute e M pos) (fE (gc X) Wx (a1 (oProp c F) m)) := by
  obtain ⟨fd, G, hb, hk⟩ := G
  exact e_prop he (He.cls_ok hc) (prop_ok hp) G (hr.mono hj) hb hab
/-! ### name = [..] on one line -/
section
variable {X : Cx} {Wx : WX} {elt tg iter : Expr} {ifs : List Expr} {scope : Scope} {own : List (Str × Nat)} {pos spos py : Pos} {mi : Mi} {k : Mg} {t : Mt} {m : Me} {y : Str}
theorem s_setLc (i : Nat) (hc : X.calm = true) (hN : X.N.Nodup) (hy : X.N[i]? = some y) (hyl : X.env.scope.names.lookup y = some .local) (hi : PI X tg iter (fI (gc X) Wx mi)) (ok : BlkOk X.N X.env.scope scope own)
    (hg : ∀ (s : Shared) (H : Hp) (C : Addr) (cl : List (Str × Addr)) (fp : List Addr), PG (X.blk s H scope (compEnvC scope cl C X.env) fp) tg (fTg (gc X) noX (own.map (·.2)) k))
    (ht : ∀ (s : Shared) (H : Hp) (C : Addr) (cl : List (Str × Addr)) (fp : List Addr), PTs (X.blk s H scope (compEnvC scope cl C X.env) fp) ifs (fT (gc X) noX t))
    (he : ∀ (s : Shared) (H : Hp) (C : Addr) (cl : List (Str × Addr)) (fp : List Addr), PE (X.blk s H scope (compEnvC scope cl C X.env) fp) elt (fE (gc X) noX m))
    (hsw : swapsWith (.ListComp elt [⟨tg, iter, ifs, 0⟩] scope pos) (some (.Name y py)) spos.line X.env = pure true) (hs : ∀ x, foldedSetIterable iter X.env x = pure x := by intro _; rfl) :
    PS X (.Assign [.Name y py] (.ListComp elt [⟨tg, iter, ifs, 0⟩] scope pos) spos) (fS (gc X) Wx (mSet i (mLc (own.map (·.2)) mi k t m))) :=
  PS.imp (ps_setLc hc hN hy hyl hsw hi ok hg ht he hs) fun D σ H h => by
    show tLc (fI (gc X) Wx mi) (fTg (gc X) noX (own.map (·.2)) k) (fT (gc X) noX t) (fE (gc X) noX m) (own.map (·.2)) σ H fun v H1 => D.nx (σ.set i (some v)) H1
    have h2 : fE (gc X) Wx (mLc (own.map (·.2)) mi k t m) σ H fun v H1 => D.nx (σ.set i (some v)) H1 := fG_mono (liftS h) fun v H' ⟨W, env, d, e0, s, r, hv, p⟩ => by
      subst e0
      exact p W _ (Ext.refl W) s rfl (r.set i hv)
    exact lc_im h2 fun W W2 p us ys a1 a2 a3 a4 a5 a6 a7 a8 => lc_frozen a1 a2 a3 a4 a5 a6 a7 a8
theorem s_setLcC (i : Nat) (hc : X.calm = true) (hN : X.N.Nodup) (hy : X.N[i]? = some y) (hyl : X.env.scope.names.lookup y = some .local) (hi : PI X tg iter (fI (gc X) Wx mi)) (ok : BlkOk X.N X.env.scope scope own)
    (hg : ∀ (s : Shared) (H : Hp) (C : Addr) (cl : List (Str × Addr)) (fp : List Addr), PG (X.blk s H scope (compEnvC scope cl C X.env) fp) tg (fTg (gc X) noX (own.map (·.2)) k))
    (ht : ∀ (s : Shared) (H : Hp) (C : Addr) (cl : List (Str × Addr)) (fp : List Addr), PTs (X.blk s H scope (compEnvC scope cl C X.env) fp) ifs (fT (gc X) noX t))
    (he : ∀ (s : Shared) (H : Hp) (C : Addr) (cl : List (Str × Addr)) (fp : List Addr), PE (X.blk s H scope (compEnvC scope cl C X.env) fp) elt (fE (gc X) noX m))
    (hsw : swapsWith (.ListComp elt [⟨tg, iter, ifs, 0⟩] scope pos) (some (.Name y py)) spos.line X.env = pure true) (hs : ∀ x, foldedSetIterable iter X.env x = pure x := by intro _; rfl) :
    PS X (.Assign [.Name y py] (.ListComp elt [⟨tg, iter, ifs, 0⟩] scope pos) spos) (fS (gc X) Wx (mSet i (mLcC (own.map (·.2)) mi k t m))) :=
  PS.imp (ps_setLc hc hN hy hyl hsw hi ok hg ht he hs) fun D σ H h => by
    show tLc (fI (gc X) Wx mi) (fTg (gc X) noX (own.map (·.2)) k) (fT (gc X) noX t) (fE (gc X) noX m) (own.map (·.2)) σ H fun v H1 => D.nx (σ.set i (some v)) H1
    have h2 : fE (gc X) Wx (mLcC (own.map (·.2)) mi k t m) σ H fun v H1 => D.nx (σ.set i (some v)) H1 := fG_mono (liftS h) fun v H' ⟨W, env, d, e0, s, r, hv, p⟩ => by
      subst e0
      exact p W _ (Ext.refl W) s rfl (r.set i hv)
    exact lc_im h2 fun W W2 p us ys a1 a2 a3 a4 a5 a6 a7 a8 => lc_cell a1 a2 a3 a4 a5 a6 a7 a8
end
end FL
end
section
set_option Elab.async false
set_option linter.all false
set_option maxRecDepth 100000
/-! FMB: the end, over contracts that may let something out. -/
namespace FL
open PySem PySem.Spec PyProof.Rows L2
theorem walk_ofW {l : PySem.W.OpenLaw} {n k : Nat} {q : Program} {loose : List Str} {XP : (Str → Option Value) → Heap → Prop} {YP : World → Heap → Prop} {d : DefRec} {CX : World → CXT} {x : Str}
    (hn : l.most = some n) (hn2 : n ≤ sizeLine) (hdf : d.params.defaults = []) (hr : Room k callerA)
    (F : ∀ (w : World) (mg : Str → Option Value) (fa : Addr) (h : Heap), YP w h → h.Ns mainGlobals mg → mg d.name = some (.ref fa) →
      ∃ (K : PySem.W.Frag) (fd : FuncData) (sp : Sp), K.In h ∧ (∀ (s : Shared) (u : Value), BindsTo s fd ⟨[u], []⟩ [(x, u)]) ∧
        (∀ (H : Hp) (a : Addr) (ns : List Int), ns.length ≤ n → Only H → SqL K H a (ns.map V.int) → sp [.ref a] H (fun v _ => v = .bl true) fun _ _ _ => False) ∧
        ∀ base : Heap, K.In base → base.Ns mainGlobals mg → FnOk l.prog w K mg base (CX w) k fa fd [x] sp)
    (hCX : ∀ (w : World) (H : Hp) (s : Shared) (e : Value) (s' : Shared), CX w [] H s (fun _ _ _ => False) e s' → False) :
    PySem.W.WalkO q loose XP YP l.row.toRowW d [] (fun f vs => PySem.call f vs) := by
  refine Att.attach_call hn hdf fun w s₀ s₁ mg mb fa o pm cd doc a vs ns G Y ho hd hcd hmg hobj hints hlen hg => ?_
  obtain ⟨K, fd, sp, KX, hb, hsp, hF⟩ := F w mg fa _ Y G.T.g hmg
  exact law_call KX G.T.g G.T.b G.T.builtins G.T.nolimit hg hobj hints (Nat.le_trans hlen hn2) hr hF hb (fun H hO hS => hsp H a ns hlen hO hS) fun H e s' => hCX w H s₁ e s'
theorem cx_end (P : Program) (w : World) (H : Hp) (s : Shared) (e : Value) (s' : Shared) (h : L2.CX P w [] H s (fun _ _ _ => False) e s') : False := by
  obtain ⟨_, _, _, _, _, _, _, _, _, _, _, _, z⟩ := h
  exact z
theorem sc_den {K : PySem.W.Frag} {P : Program} {w : World} {H : Hp} {a : Addr} {ns : List Int} (hO : Only H) (hS : SqL K H a (ns.map V.int)) : Den ⟨P, w, K⟩ ⟨H, [], [], []⟩ (.ref a) (.scr ns) := by
  have nm : ¬ Mu ⟨H, [], [], []⟩ a := by
    rintro (m | ⟨n, c, h, _⟩)
    · exact nomatch m
    · simp at h
  rcases hS with (h | ⟨o, h⟩) | h
  · rcases hO a with e | ⟨o, xs, e⟩
    · rw [h] at e; cases e
    · rw [h] at e; cases e
  · exact .scr h nm
  · exact .scrK h
theorem law_sp {K : PySem.W.Frag} {P : Program} {w : World} {F : List D → Store → Res D} {H : Hp} {a : Addr} {ns : List Int} (hO : Only H) (hS : SqL K H a (ns.map V.int)) (h : ∃ st, F [.scr ns] [] = .ok (.bl true) st) :
    spF ⟨P, w, K⟩ F [.ref a] H (fun v _ => v = .bl true) fun _ _ _ => False := by
  obtain ⟨st, e⟩ := h
  refine ⟨⟨H, [], [], []⟩, [.scr ns], rfl, ⟨rfl, List.nodup_nil, (fun _ h => nomatch h), (fun _ h => nomatch h), (fun n a c h => by simp at h)⟩, .cons (sc_den hO hS) .nil, ?_⟩
  rw [e]
  exact fun W' _ _ _ v hv => hv.bl_inv
/-- the law from its contract -/
theorem law_at {P : Program} {w : World} {K : PySem.W.Frag} {mg : Str → Option Value} {h : Heap} {fa : Addr} {k n : Nat} {x : Str} {F : List D → Store → Res D} {d : He.DefD} (KX : K.In h) (hmg : mg ("law" : Str) = some (.ref fa)) (hg : mg ("law" : Str) = some (.ref (He.ga K "law")))
    (hat : d.at_ = (("law" : Str), none)) (h0 : d.dfl = []) (hF : ∃ fd, FunD K d.name d.qual d.params d.body d.scope (d.dvs K) (d.kws K) (He.fAd K d.at_) fd)
    (hbind : ∀ (kV doc pm : Value) (an : Option Addr) (cdv ct : Value) (us : List Value), us.length = [x].length → bindArgs (PySem.W.fnOf d.name d.qual d.params d.body d.scope .none kV doc pm an cdv ct) ⟨us, []⟩ = pure ([x].zip us))
    (ok : ∀ base : Heap, FOk P w K mg base ("law", none) k [x] F) (hL : ∀ ns : List Int, ns.length ≤ n → ∃ st, F [.scr ns] [] = .ok (.bl true) st) :
    ∃ (K : PySem.W.Frag) (fd : FuncData) (sp : Sp), K.In h ∧ (∀ (s : Shared) (u : Value), BindsTo s fd ⟨[u], []⟩ [(x, u)]) ∧
      (∀ (H : Hp) (a : Addr) (ns : List Int), ns.length ≤ n → Only H → SqL K H a (ns.map V.int) → sp [.ref a] H (fun v _ => v = .bl true) fun _ _ _ => False) ∧
      ∀ base : Heap, K.In base → base.Ns mainGlobals mg → FnOk P w K mg base (L2.CX P w) k fa fd [x] sp := by
  have e : fa = He.ga K "law" := by
    rw [hmg] at hg
    injection hg with h3
    injection h3
  subst e
  obtain ⟨fd, F0⟩ := hF
  rw [hat] at F0
  have F' : FunD K d.name d.qual d.params d.body d.scope [] (d.kws K) (He.fAd K (("law" : Str), none)) fd := by
    have e : d.dvs K = [] := by unfold He.DefD.dvs; rw [h0]; rfl
    rw [← e]; exact F0
  refine ⟨K, fd, spF ⟨P, w, K⟩ F, KX, fun s u => F'.bindsA hbind s [u] rfl, fun H a ns hl hO hS => law_sp hO hS (hL ns hl), fun base _ _ => ?_⟩
  obtain ⟨fd', G, _, _, h4⟩ := ok base
  have e := h4.eq (fd_at F0)
  subst e
  exact G
end FL
end
section
set_option Elab.async false
set_option linter.all false
set_option maxRecDepth 100000
/-! FMC: the combinators, as rules for simp. -/
namespace FL
open PySem PySem.Spec PyProof.Rows L2
section
variable {α β : Type} {a : α} {st st1 : Store} {e : En} {x y : D} {m n : Me} {t u : Mt} {ms mr : Ms} {ma : Ma} {i : Nat} {d : D} {ds : List D} {x' : Exn}
@[simp] theorem bind_ok {k : α → Store → Res β} : (Res.ok a st).bind k = k a st := (rfl)
@[simp] theorem bindN_ok {k : α → Store → Res β} : (Res.ok a st).bindN k = k a st := (rfl)
@[simp] theorem fl_ok {k : D → Store → Fl} : (Res.ok d st).fl e k = k d st := (rfl)
@[simp] theorem flB_ok {k : α → Store → Fl} : (Res.ok a st).flB e k = k a st := (rfl)
@[simp] theorem nx_bind {k : En → Store → Fl} : (Fl.nx e st).bind k = k e st := (rfl)
@[simp] theorem rt_bind {k : En → Store → Fl} : (Fl.rt d st).bind k = Fl.rt d st := (rfl)
@[simp] theorem only_nx : (Fl.nx e st).only = .nx e st := (rfl)
@[simp] theorem mPass_e : mPass e st = .nx e st := (rfl)
@[simp] theorem mSeq_e : mSeq ms mr e st = (ms e st).bind mr := (rfl)
@[simp] theorem mSet_e : mSet i m e st = (m e st).fl e fun d st1 => .nx (e.set i (some d)) st1 := (rfl)
@[simp] theorem mExpr_e : mExpr m e st = (m e st).fl e fun _ st1 => .nx e st1 := (rfl)
@[simp] theorem mRet_e : mRet m e st = (m e st).fl e fun d st1 => .rt d st1 := (rfl)
@[simp] theorem mRetN_e : mRetN e st = .rt .non st := (rfl)
@[simp] theorem mIfS_e : mIfS t ms mr e st = (t e st).flB e fun c st1 => if c = true then ms e st1 else mr e st1 := (rfl)
@[simp] theorem mAsgO_e {k : Mg} : mAsgO m k e st = (m e st).fl e fun d st1 => (k d e st1).only := (rfl)
@[simp] theorem gN_e : gN i d e st = .nx (e.set i (some d)) st := (rfl)
@[simp] theorem gNl_e : gNl [] e st = .nx e st := (rfl)
@[simp] theorem gCo_e {k : Mg} {r : Mgs} : gCo k r (d :: ds) e st = (k d e st).bind fun e1 st1 => r ds e1 st1 := (rfl)
@[simp] theorem gTp_e {r : Mgs} {k : Nat} : gTp k r (.tup ds) e st = if ds.length = k then r ds e st else .no := (rfl)
@[simp] theorem gIx_e : gIx m n d e st = (m e st).fl e fun o st1 => (n e st1).fl e fun i st2 => stL o i d e st2 := (rfl)
@[simp] theorem mFor_e {mi : Mi} {k : Mg} : mFor mi k ms e st = (mi e st).flB e fun xs st1 => foL k ms xs e st1 := (rfl)
@[simp] theorem aC_e : aC d e st = .ok d st := (rfl)
@[simp] theorem a1_e {k : D → Store → Res α} : a1 k m e st = (m e st).bind k := (rfl)
@[simp] theorem a2_e {k : D → D → Store → Res α} : a2 k m n e st = (m e st).bind fun x st1 => (n e st1).bind fun y st2 => k x y st2 := (rfl)
@[simp] theorem aL_e {k : List D → Store → Res α} : aL k ma e st = (ma e st).bind k := (rfl)
@[simp] theorem on1_e {k : D → Store → Res D} : on1 k [d] st = k d st := (rfl)
@[simp] theorem mNil_e : mNil e st = .ok [] st := (rfl)
@[simp] theorem mCons_e : mCons m ma e st = (m e st).bind fun d st1 => (ma e st1).bind fun ds st2 => .ok (d :: ds) st2 := (rfl)
@[simp] theorem mStar_e : mStar m ma e st = (m e st).bind fun d st1 => match sqOf d st1 with
  | some xs => (ma e st1).bind fun ds st2 => .ok (xs ++ ds) st2
  | none => .no := (rfl)
@[simp] theorem toB_e {b : Bool} : toB (.bl b) st = .ok b st := (rfl)
@[simp] theorem tB_e : tB m e st = (m e st).bind toB := (rfl)
@[simp] theorem tAn_e : tAn t u e st = (t e st).bind fun b st1 => if b = true then u e st1 else .ok false st1 := (rfl)
@[simp] theorem tO_e : tO t u e st = (t e st).bind fun b st1 => if b = true then .ok true st1 else u e st1 := (rfl)
@[simp] theorem tN_e : tN t e st = (t e st).bind fun b st1 => .ok (!b) st1 := (rfl)
@[simp] theorem mAn_e : mAn m n e st = (tB m e st).bind fun b st1 => if b = true then n e st1 else .ok (.bl false) st1 := (rfl)
@[simp] theorem mO_e : mO m n e st = (tB m e st).bind fun b st1 => if b = true then .ok (.bl true) st1 else n e st1 := (rfl)
@[simp] theorem mN_e : mN m e st = (tB m e st).bind fun b st1 => .ok (.bl (!b)) st1 := (rfl)
@[simp] theorem mIf_e : mIf t m n e st = (t e st).bind fun b st1 => if b = true then m e st1 else n e st1 := (rfl)
@[simp] theorem mSl_e {l h : Mo} : mSl m l h e st = (m e st).bind fun d st1 => (l e st1).bind fun lo st2 => (h e st2).bind fun hi st3 => oSl d lo hi st3 := (rfl)
@[simp] theorem oNone_e : oNone e st = .ok none st := (rfl)
@[simp] theorem toI_e {k : Int} : toI (.int k) st = .ok (some k) st := (rfl)
@[simp] theorem mBm_e {ty : D → Store → Bool} {k : D → List D → Store → Res D} : mBm ty k m ma e st = (m e st).bind fun d st1 => if ty d st1 = true then (ma e st1).bind fun ds st2 => k d ds st2 else .no := (rfl)
@[simp] theorem mMake_e {fr : Bool} {c : S} {F : List D → Store → Res D} : mMake fr c F ma e st = (ma e st).bind fun ds st1 => (F (.ref st1.length :: ds) (st1 ++ [.ins c []])).bind fun r st2 => match r with
  | .non => if fr = true then fz (.ref st1.length) st2 else .ok (.ref st1.length) st2
  | _ => .no := (rfl)
@[simp] theorem mFld_e {c f : S} : mFld c f n m e st = (m e st).fl e fun v st1 => (n e st1).fl e fun o st2 => stF c f o v e st2 := (rfl)
theorem aVar_e {i : Nat} {d : D} (h : e[i]? = some (some d)) : aVar i e st = .ok d st := by unfold aVar; rw [h]
@[simp] theorem aVar_0 {r : En} : aVar 0 (some d :: r) st = .ok d st := (rfl)
@[simp] theorem aVar_s {o : Option D} {r : En} : aVar (i + 1) (o :: r) st = aVar i r st := by simp [aVar]
@[simp] theorem iR1_e : iR1 ma e st = (ma e st).bind fun ds st1 => match ds with
  | [.int j] => if -(2 ^ 62) ≤ j ∧ j < 2 ^ 62 then .ok (rgD 0 j.toNat) st1 else .no
  | _ => .no := (rfl)
@[simp] theorem iR2_e : iR2 ma e st = (ma e st).bind fun ds st1 => match ds with
  | [.int i, .int j] => if -(2 ^ 62) ≤ i ∧ i < 2 ^ 62 ∧ -(2 ^ 62) ≤ j ∧ j < 2 ^ 62 then .ok (rgD i (j - i).toNat) st1 else .no
  | _ => .no := (rfl)
@[simp] theorem iSq_e : iSq m e st = (m e st).bind fun d st1 => match d with
  | .tup xs => .ok xs st1
  | .lst xs => .ok xs st1
  | _ => .no := (rfl)
@[simp] theorem iScr_e : iScr m e st = (m e st).bind fun d st1 => match d with
  | .scr ns => .ok (ns.map .int) st1
  | _ => .no := (rfl)
theorem iZp_e : iZp ma e st = (ma e st).bind fun ds st1 => match ds with
  | [d, d2] => match fzOf d, fzOf d2 with
    | some xs, some ys => .ok (zpD xs ys) st1
    | _, _ => .no
  | _ => .no := (rfl)
theorem iEn_e : iEn ma e st = (ma e st).bind fun ds st1 => match ds with
  | [d] => match fzOf d with
    | some xs => .ok (enD 0 xs) st1
    | none => .no
  | _ => .no := (rfl)
@[simp] theorem mLc_e {vs : List Nat} {mi : Mi} {k : Mg} : mLc vs mi k t m e st = (mi e st).bind fun xs st1 => (lcL k t m (wipeE e vs) xs st1 []).bind fun ys st2 => .ok (.lst ys) st2 := (rfl)
@[simp] theorem tYe_e : tYe e st = .ok true st := (rfl)
@[simp] theorem foL_nil {k : Mg} : foL k ms [] e st = .nx e st := (rfl)
theorem foL_cons {k : Mg} {xs : List D} : foL k ms (x :: xs) e st = match (k x e st).only with
    | .nx e1 st1 => (match ms e1 st1 with
      | .nx e2 st2 => foL k ms xs e2 st2
      | .ct e2 st2 => foL k ms xs e2 st2
      | .bk e2 st2 => .nx e2 st2
      | r => r)
    | r => r := (rfl)
@[simp] theorem lcL_nil {k : Mg} {acc : List D} : lcL k t m e [] st acc = .ok acc st := (rfl)
/-! operators -/
@[simp] theorem oAdd_int {i j : Int} : oAdd (.int i) (.int j) st = .ok (.int (i + j)) st := (rfl)
@[simp] theorem oAdd_str {a b : S} : oAdd (.str a) (.str b) st = if a.length + b.length ≤ BIG then .ok (.str (a ++ b)) st else .no := (rfl)
@[simp] theorem oAdd_tup {a b : List D} : oAdd (.tup a) (.tup b) st = if a.length + b.length ≤ BIG then .ok (.tup (a ++ b)) st else .no := (rfl)
@[simp] theorem oAdd_lst {a b : List D} : oAdd (.lst a) (.lst b) st = if a.length + b.length ≤ BIG then .ok (.lst (a ++ b)) st else .no := (rfl)
@[simp] theorem oSub_int {i j : Int} : oSub (.int i) (.int j) st = .ok (.int (i - j)) st := (rfl)
@[simp] theorem oMod_int {i j : Int} (h : 0 < j) : oMod (.int i) (.int j) st = .ok (.int (i % j)) st := by simp [oMod, oI, h]
@[simp] theorem oDiv_int {i j : Int} (h : 0 < j) (h2 : j < 1073741824) : oDiv (.int i) (.int j) st = .ok (.int (i / j)) st := by simp [oDiv, oI, h, h2]
@[simp] theorem oLt_int {i j : Int} : oLt (.int i) (.int j) st = .ok (.bl (decide (i < j))) st := (rfl)
@[simp] theorem oLe_int {i j : Int} : oLe (.int i) (.int j) st = .ok (.bl (decide (i ≤ j))) st := (rfl)
@[simp] theorem oGt_int {i j : Int} : oGt (.int i) (.int j) st = .ok (.bl (decide (j < i))) st := (rfl)
@[simp] theorem oGe_int {i j : Int} : oGe (.int i) (.int j) st = .ok (.bl (decide (j ≤ i))) st := (rfl)
@[simp] theorem oInt_int {i : Int} : oInt (.int i) st = .ok (.int i) st := (rfl)
@[simp] theorem oAbs_int {i : Int} : oAbs (.int i) st = .ok (.int (if i < 0 then -i else i)) st := (rfl)
theorem oMu_int {c : Bool} {i j : Int} (h : -(2 ^ 64) < j ∧ j < 2 ^ 64) : oMu c (.int i) (.int j) st = .ok (.int (i * j)) st := by simp only [oMu]; rw [if_pos (.inr h)]
@[simp] theorem oEq_int {i j : Int} : oEq (.int i) (.int j) st = .ok (.bl (i == j)) st := by simp [oEq, rdl, D.sh, D.eqv]
@[simp] theorem oEq_str {i j : S} : oEq (.str i) (.str j) st = .ok (.bl (decide (i = j))) st := by simp [oEq, rdl, D.sh, D.eqv]
@[simp] theorem oNe_str {i j : S} : oNe (.str i) (.str j) st = .ok (.bl (!decide (i = j))) st := by simp [oNe, rdl, D.sh, D.eqv]
@[simp] theorem oNe_int {i j : Int} : oNe (.int i) (.int j) st = .ok (.bl (!(i == j))) st := by simp [oNe, rdl, D.sh, D.eqv]
end
/-! ### what a def gives back -/
theorem mkF_rt {keep : Bool} {n N : Nat} {b : Ms} {ds : List D} {st st' : Store} {d : D} (hn : ds.length = n) (h : b (ds.map some ++ List.replicate (N - n) none) st = .rt d st') (hl : st'.length = st.length) : mkF keep n N b ds st = .ok d st' := by
  unfold mkF
  rw [if_pos hn, h]
  unfold finF popR
  cases keep <;> simp [hl]
theorem mkF_nx {keep : Bool} {n N : Nat} {b : Ms} {ds : List D} {st st' : Store} {e' : En} (hn : ds.length = n) (h : b (ds.map some ++ List.replicate (N - n) none) st = .nx e' st') (hl : st'.length = st.length) : mkF keep n N b ds st = .ok .non st' := by
  unfold mkF
  rw [if_pos hn, h]
  unfold finF popR
  cases keep <;> simp [hl]
theorem mkF_keep {n N : Nat} {b : Ms} {ds : List D} {st st' : Store} {d : D} (hn : ds.length = n) (h : b (ds.map some ++ List.replicate (N - n) none) st = .rt d st') : mkF true n N b ds st = .ok d st' := by
  unfold mkF
  rw [if_pos hn, h]
  rfl
/-- .. with cells of its own dropped -/
theorem mkF_pop {n N : Nat} {b : Ms} {ds : List D} {st st' : Store} {d : D} (hn : ds.length = n) (h : b (ds.map some ++ List.replicate (N - n) none) st = .rt d st') (hd : d.low st.length = true) (hs : (st'.take st.length).all (Cell.low st.length) = true) :
    mkF false n N b ds st = .ok d (if st'.length = st.length then st' else st'.take st.length) := by
  unfold mkF
  rw [if_pos hn, h]
  unfold finF popR
  by_cases e : st'.length = st.length
  · simp [e]
  · simp [e, hd]
    exact fun a b => List.all_eq_true.mp hs a b
/-! ### items -/
section
variable {α : Type} {st rest : Store} {xs ys : List D} {x0 x1 x2 x3 x4 x5 x6 x7 v : D} {e : En} {k : Int} {n : Nat}
theorem ixN_nat {n k : Nat} (h : k < n) : ixN n (k : Int) = some k := by unfold ixN; rw [if_pos (by omega), if_pos (by omega)]; simp
theorem oAt_nat {k : Nat} {d : D} (h : xs[k]? = some d) : oAt xs (k : Int) st = .ok d st := by
  have hk : k < xs.length := (List.getElem?_eq_some_iff.mp h).1
  unfold oAt atI
  rw [ixN_nat hk]
  simp only [Option.bind_some, h]
@[simp] theorem oAt_0 : oAt (x0 :: xs) 0 st = .ok x0 st := oAt_nat (k := 0) rfl
@[simp] theorem oAt_1 : oAt (x0 :: x1 :: xs) 1 st = .ok x1 st := oAt_nat (k := 1) rfl
@[simp] theorem oAt_2 : oAt (x0 :: x1 :: x2 :: xs) 2 st = .ok x2 st := oAt_nat (k := 2) rfl
@[simp] theorem oAt_3 : oAt (x0 :: x1 :: x2 :: x3 :: xs) 3 st = .ok x3 st := oAt_nat (k := 3) rfl
@[simp] theorem oAt_4 : oAt (x0 :: x1 :: x2 :: x3 :: x4 :: xs) 4 st = .ok x4 st := oAt_nat (k := 4) rfl
@[simp] theorem oAt_5 : oAt (x0 :: x1 :: x2 :: x3 :: x4 :: x5 :: xs) 5 st = .ok x5 st := oAt_nat (k := 5) rfl
@[simp] theorem oAt_6 : oAt (x0 :: x1 :: x2 :: x3 :: x4 :: x5 :: x6 :: xs) 6 st = .ok x6 st := oAt_nat (k := 6) rfl
@[simp] theorem oAt_7 : oAt (x0 :: x1 :: x2 :: x3 :: x4 :: x5 :: x6 :: x7 :: xs) 7 st = .ok x7 st := oAt_nat (k := 7) rfl
@[simp] theorem oIx_tup : oIx (.tup xs) (.int k) st = oAt xs k st := (rfl)
@[simp] theorem oIx_lst : oIx (.lst xs) (.int k) st = oAt xs k st := (rfl)
@[simp] theorem oIx_h0 : oIx (.ref 0) (.int k) (.lst xs :: rest) = oAt xs k (.lst xs :: rest) := (rfl)
theorem oIx_ref (h : st[n]? = some (.lst xs)) : oIx (.ref n) (.int k) st = oAt xs k st := by simp [oIx, onSq, sqOf, lsOf, h]
@[simp] theorem oLen_tup : oLen (.tup xs) st = .ok (.int xs.length) st := (rfl)
@[simp] theorem oLen_lst : oLen (.lst xs) st = .ok (.int xs.length) st := (rfl)
@[simp] theorem oLen_str {s : S} : oLen (.str s) st = .ok (.int s.length) st := (rfl)
@[simp] theorem oLen_h0 : oLen (.ref 0) (.lst xs :: rest) = .ok (.int xs.length) (.lst xs :: rest) := (rfl)
@[simp] theorem tyL_h0 : tyL (.ref 0) (.lst xs :: rest) = true := (rfl)
@[simp] theorem tyS_s {s : S} : tyS (.str s) st = true := (rfl)
@[simp] theorem stL_0 : stL (.ref 0) (.int 0) v e (.lst (x0 :: xs) :: rest) = .nx e (.lst (v :: xs) :: rest) := by
  simp [stL, ixN]
@[simp] theorem stL_1 : stL (.ref 0) (.int 1) v e (.lst (x0 :: x1 :: xs) :: rest) = .nx e (.lst (x0 :: v :: xs) :: rest) := by
  have : ixN (x0 :: x1 :: xs).length 1 = some 1 := ixN_nat (k := 1) (by simp)
  simp only [stL, List.getElem?_cons_zero, this]
  rfl
theorem lPopAt_2 (h : xs.length ≤ 1000) : lPopAt (.ref 0) [.int 2] (.lst (x0 :: x1 :: x2 :: xs) :: rest) = .ok x2 (.lst (x0 :: x1 :: xs) :: rest) := by
  have e : ixN (x0 :: x1 :: x2 :: xs).length 2 = some 2 := ixN_nat (k := 2) (by simp)
  simp only [lPopAt, onC, List.getElem?_cons_zero, e]
  show (if (x0 :: x1 :: x2 :: xs).length ≤ BIG then _ else _) = _
  rw [if_pos (by have : BIG = 16777216 := rfl; simp; omega)]
  rfl
end
/-! ### comprehensions that touch nothing -/
theorem lcL_pure {k : Mg} {t : Mt} {m : Me} {e : En} {st : Store} (p : D → Bool) (f : D → D) : ∀ (xs acc : List D), (∀ x ∈ xs, ∃ e1, k x e st = .nx e1 st ∧ t e1 st = .ok (p x) st ∧ (p x = true → m e1 st = .ok (f x) st)) → acc.length + xs.length ≤ BIG →
    lcL k t m e xs st acc = .ok (acc ++ (xs.filter p).map f) st
  | [], acc, _, _ => by simp
  | x :: xs, acc, h, hl => by
    obtain ⟨e1, h1, h2, h3⟩ := h x (by simp)
    have ih := fun acc h' => lcL_pure p f xs acc (fun y hy => h y (List.mem_cons_of_mem _ hy)) h'
    simp only [List.length_cons] at hl
    unfold lcL
    rw [h1]
    simp only [h2, bindN_ok]
    cases q : p x with
    | true =>
      rw [if_pos rfl, h3 q, bindN_ok, if_pos (by omega), ih _ (by simp; omega)]
      simp [q]
    | false =>
      rw [if_neg Bool.false_ne_true, ih _ (by omega)]
      simp [q]
theorem lcL_map {k : Mg} {m : Me} {e : En} {st : Store} (f : D → D) (xs : List D) (h : ∀ x ∈ xs, ∃ e1, k x e st = .nx e1 st ∧ m e1 st = .ok (f x) st) (hl : xs.length ≤ BIG) : lcL k tYe m e xs st [] = .ok (xs.map f) st := by
  have := lcL_pure (k := k) (t := tYe) (m := m) (e := e) (st := st) (fun _ => true) f xs [] (fun x hx => by
    obtain ⟨e1, h1, h2⟩ := h x hx
    exact ⟨e1, h1, rfl, fun _ => h2⟩) (by simpa using hl)
  rw [this, List.filter_eq_self.mpr (fun _ _ => rfl)]; rfl
@[simp] theorem le_big {n : Nat} : (n ≤ BIG) = (n ≤ 16777216) := (rfl)
@[simp] theorem oLst_e {ds : List D} {st : Store} (h : ds.length ≤ 16777216) : oLst ds st = .ok (.lst ds) st := if_pos h
@[simp] theorem oTup_e {ds : List D} {st : Store} (h : ds.length ≤ 16777216) : oTup ds st = .ok (.tup ds) st := if_pos h
theorem oCat_t {a b : List D} {st : Store} (h : a.length + b.length ≤ 16777216) : oCat true (.lst a) (.lst b) st = .ok (.ref st.length) (st ++ [.lst (a ++ b)]) := by
  show (if a.length + b.length ≤ BIG then _ else _) = _
  rw [if_pos h]; rfl
theorem iZp_ok {ma : Ma} {e : En} {st st' : Store} {d d2 : D} {xs ys : List D} (h : ma e st = .ok [d, d2] st') (h1 : fzOf d = some xs) (h2 : fzOf d2 = some ys) : iZp ma e st = .ok (zpD xs ys) st' := by
  unfold iZp
  rw [h]
  simp only [bind_ok, h1, h2]
theorem iEn_ok {ma : Ma} {e : En} {st st' : Store} {d : D} {xs : List D} (h : ma e st = .ok [d] st') (h1 : fzOf d = some xs) : iEn ma e st = .ok (enD 0 xs) st' := by
  unfold iEn
  rw [h]
  simp only [bind_ok, h1]
end FL
end
section
set_option Elab.async false
set_option linter.all false
set_option maxRecDepth 100000
/-! FMD: the __init__ of an own exception, with super(). -/
namespace FL
open PySem PySem.Spec PyProof.Rows L2 NdefX
/-- a def of the top's part that captured cells of the top's part -/
theorem fn_ofC {CX : CXT} {P : Program} {w : World} {K : PySem.W.Frag} {mg : Str → Option Value} {base : Heap} {k : Nat} {f c0 : Addr} {F : NF} {dV kV doc pm ct oc : Value} {an od : Option Addr}
    {osl : Array (Option Value)} {N ps fr : List Str} {sp : Sp} {ws : List (Option V)} (lk : K.lookup f = some ⟨oc, od, .func (PySem.W.fnX F.name F.qual F.params F.body F.scope F.cl dV kV doc pm an (.ref F.c) ct), osl⟩)
    (hcd : PySem.W.codeIn K (.ref F.c) F.qual = true) (S : NScope N ps fr F.scope)
    (hC : ∀ (h : Heap) (H : Hp), (∀ b o, base.get? b = some o → h.get? b = some o ∧ H b = none) → CellsAt F.cl fr ws h H)
    (len : ∀ vs H Q E, sp vs H Q E → vs.length = ps.length)
    (hbody : ∀ (A : Around) (outer : List Env) (s : Shared) (H : Hp) (vs : List V) (Q : VK) (E : XK), Room k (A.deeper (envF F f s.heap.objs.size)) → sp vs H Q E →
      ∃ t, PSs (ncx CX P w K mg base N F f A outer s H E) F.body t ∧ t { nx := fun _ H' => Q .non H', rt := Q } (startF N vs ws) H) :
    FnOk P w K mg base CX (k + 1) f (PySem.W.fnX F.name F.qual F.params F.body F.scope F.cl dV kV doc pm an (.ref F.c) ct) ps sp := by
  refine ⟨len, fun A outer s H args us vs Q E hr e0 hb r hsp => ?_⟩
  have hl := len _ _ _ _ hsp
  have KX : K.In s.heap := e0.mod.kin.keeps fun b o e => (e0.bs b o e).1
  have lim : s.heap.NoLimit := e0.mod.nolimit.keeps fun b o e => (e0.bs b o e).1
  have C := hC s.heap H e0.bs
  refine codeAny_call_function hr.depth (KX _ _ lk) rfl S.co S.gen rfl (PySem.W.codeRec_of KX hcd) (hb _ _ _ _ ?_)
  refine wpAny_newFunctionEnv S.nocell (fun ⟨n, _⟩ hy => S.par n (List.of_mem_zip hy).1) (fun h₁ hns hsb => ⟨lim.fresh _ hsb, ?_⟩) S.kind
  show codeAny _ _ (.func F.body (envF F f s.heap.objs.size)) _ _
  refine codeAny_func ?_
  have kp : ∀ b o, s.heap.get? b = some o → h₁.get? b = some o := fun b o e => hsb.extBut b o (Nat.ne_of_lt (Heap.lt_size e)) (Heap.get?_push_of_some _ e)
  obtain ⟨t, ht, hq⟩ := hbody A outer s H vs Q E (hr.deeper _) hsp
  have I : Inv (ncx CX P w K mg base N F f A outer s H E) [] (startF N vs ws) H { s with heap := h₁, toks := s.toks + (ps.zip us).length } := inv_startN S hr.hd e0 hl r C hns kp
  refine wpAny_mono (ht.run [] _ (startF N vs ws) H _ I hq) (fun fl s' hs => ?_) fun e s' hs => hs
  have fin : ∀ {σ' : L2.St} {H' : Hp} {v : V} {u : Value}, Inv (ncx CX P w K mg base N F f A outer s H E) [] σ' H' s' → L2.RelV v u → Q v H' → CE outer P w H s Q u s' :=
    fun {σ' H' v u} J rv q => ⟨v, H', J.os, J.bare, J.base, J.hok, rv, q⟩
  cases fl with
  | ret u =>
    obtain ⟨v, σ', H', J, rv, q⟩ := hs
    exact fin J rv q
  | next =>
    obtain ⟨σ', H', J, q⟩ := hs
    exact fin (v := V.non) (u := Value.none) J rfl q
  | brk =>
    obtain ⟨_, _, _, q⟩ := hs
    exact False.elim q
  | cont =>
    obtain ⟨_, _, _, q⟩ := hs
    exact False.elim q
/-- the one captured cell, written in the top's part, holds the class at C -/
theorem cells_cls {K : PySem.W.Frag} {base : Heap} {cl : List (Str × Addr)} {c0 C : Addr} {oc : Obj} (hk : K.In base) (hcl : cl = [(("__class__" : Str), c0)]) (lc : K.lookup c0 = some oc) (hd : oc.data = .cell (some (.ref C)))
    (h : Heap) (H : Hp) (bs : ∀ b o, base.get? b = some o → h.get? b = some o ∧ H b = none) : CellsAt cl [("__class__" : Str)] [some (.ref C)] h H := by
  subst hcl
  have hb := bs _ _ (hk _ _ lc)
  have lk1 : ∀ {y : Str} {c : Addr}, List.lookup y [(("__class__" : Str), c0)] = some c → y = "__class__" ∧ c = c0 := fun {y c} e => by
    rw [List.lookup_cons] at e
    by_cases hy : (y == ("__class__" : Str)) = true
    · rw [hy] at e
      exact ⟨by simpa using hy, (Option.some.inj e).symm⟩
    · rw [Bool.eq_false_iff.mpr hy] at e
      cases e
  refine ⟨rfl, fun y c e => ?_, fun x y c e1 e2 => ?_, fun i y e => ?_⟩
  · obtain ⟨_, rfl⟩ := lk1 e
    exact ⟨hb.2, _, oc, hb.1, hd⟩
  · rw [(lk1 e1).1, (lk1 e2).1]
  · match i, e with
    | 0, e =>
      have e' : (("__class__" : Str)) = y := Option.some.inj e
      subst e'
      refine ⟨c0, by simp [List.lookup], fun v hv => ?_⟩
      have e2 : (some (V.ref C)) = some v := Option.some.inj hv
      have e3 := Option.some.inj e2
      subst e3
      exact ⟨.ref C, rfl, oc, hb.1, hd⟩
    | n + 1, e => cases e

/-- the built-in __init__, bound to an exception that is being made, called -/
theorem call_mw {X : Cx} {pins : List (Addr × Obj)} {σ : L2.St} {H : Hp} {s : Shared} {u e C : Addr} {rest : List Value} {Q : Value → Shared → Prop} {E : Value → Shared → Prop} {A : Around} (T : OexC X.K C) (I : Inv X pins σ H s)
    (he : H e = some (exo e C none)) (hu : s.heap.get? u = some (PySem.W.kxs_mw "ValueError.__init__" e)) (hz : rest.length ≤ sizeLine) (h : ∀ s', Inv X pins σ H s' → Q .none s') :
    wpAny (model X.prog X.w) A (call (.ref u) rest) Q E s := by
  obtain ⟨nm, q, N, bs, bm, sn, sub, ab, col, dd, k0, k1, k2, k3, k5, hC, hbm⟩ := T.cls
  obtain ⟨t1, ho⟩ := exo_at I.hok he
  have hCC := I.kIn _ _ hC
  have fin : ∀ (h' : Heap) (t2 : Addr), (∀ b o, b ≠ e → s.heap.get? b = some o → h'.get? b = some o) → h'.get? e = some ({ cls := .ref C, dict := none, data := .fields #[.ref t2, .none, .none, .none, .bool false, .none] } : Obj) → Q .none { s with heap := h' } := fun h' t2 k hx => by
    have J := I.write (t' := s.toks) (x := e) (e := e) (o := exo e C none) (by rw [he]; exact True.intro) (.inl rfl) k ⟨_, hx⟩ (exo_ok hx)
    have eu : upd H e (exo e C none) = H := by
      funext b
      by_cases hb : b = e
      · rw [hb, upd_same, he]
      · rw [upd_ne hb]
    rw [eu] at J
    exact h _ J
  obtain ⟨hh, g, d, tk, os⟩ := s
  refine wpAny_call (codeAny_of_tree ?_)
  show wpAny _ A.in1 (callAny (.ref u) ⟨rest, []⟩) _ _ _
  simp only [callAny]
  refine wpAny_bind (wpAny_load hu ?_)
  simp only [PySem.W.kxs_mw, show (Value.type "method-wrapper" == Value.type "method" || Value.type "method-wrapper" == Value.type "builtin_function_or_method" || Value.type "method-wrapper" == Value.type "method-wrapper") = true by decide, if_true]
  refine PySem.W.KFB.if_so (by decide) ?_
  refine wpAny_bind (PySem.W.check_bound_init F.excBase_ValueError.toExcCallFacts hCC ho rfl ?_)
  refine wpAny_bind (wpAny_pure (wpAny_pure ?_))
  refine ⟨PySem.plainId_quiet F.excBase_ValueError.init.plain _, codeAny_builtin F.excBase_ValueError.initEntry ?_⟩
  exact PySem.W.exc_init_tree (cls := .ref C) (t0 := t1) (dv := none) (c2 := .none) (c3 := .none) (b4 := .bool false) ho hz fun h' k e' _ => fin h' _ k e'
/-- super().__init__(text), the first statement of an own exception's __init__ -/
theorem sup_stmt {X : Cx} {pins : List (Addr × Obj)} {σ : L2.St} {H : Hp} {s : Shared} {E : Value → Shared → Prop} {body : List Stmt} {p0 p1 p2 p4 p5 p6 : Pos} {m : Str} {j : Nat} {f cda cc a C D : Addr} {fd : FuncData} {ar : Arg} {vs : Array Value} {file : Str} {tf : Tok} {oc ccl cl : Value} {od cdd cld : Option Addr} {osl ccs csl : Array (Option Value)} {cdD : ClassData}
    (I : Inv X pins σ H s) (T : OexC X.K C) (he : H a = some (exo a C none)) (hN : X.N[0]? = some ar.arg) (hσ : σ[0]? = some (some (.ref a)))
    (hfu : X.env.func = some f) (hf : X.K.lookup f = some ⟨oc, od, .func fd, osl⟩) (hp : (fd.params.posonlyargs ++ fd.params.args).head? = some ar)
    (hco : X.env.code = .ref cda) (hcode : X.K.lookup cda = some ⟨ccl, cdd, .fields vs, ccs⟩) (hvs : vs[2]? = some (.str file tf)) (hfile : ((X.prog.main.file : Str) == file) = true)
    (hcl : X.env.cells.lookup ("__class__" : Str) = some cc) (hcell : X.K.lookup cc = some ⟨cl, cld, .cell (some (.ref D)), csl⟩) (hD : PySem.W.clsIn X.K D = some cdD) (hsub : PySem.W.mroIn X.K C (.ref D) = some true)
    (hsuper : X.mg "super" = none) (hks : X.env.kindOf "super" = some .globalImplicit) (hkc : X.env.kindOf "__class__" = some .free) (hka : X.env.kindOf ar.arg = some .local) (hkv : X.env.scope.names.lookup ar.arg = some .local)
    (htop : (X.prog.main.scope.names.lookup ("super" : Str)).isSome = false) (hop : PySem.W.nsIn X.K cStatics "thirdparty.any" = some none)
    (hm : PySem.W.ks_superIn X.K C D "__init__" = some (some (.builtin "ValueError.__init__"))) (hB : PySem.W.subIn X.K (.ref C) (.type "ValueError") = some true)
    (hpn : X.base.get? a = none)
    (hi : interactive X.env = false := by rfl) (hsw : swapsWith (.Call (.Attribute (.Call (.Name "super" p0) [] [] p1) "__init__" p2) [.Constant (.str m) j p4] [] p5) none p6.line X.env = pure false := by rfl)
    {pl : Sem Bool} (heq : eval (.Call (.Attribute (.Call (.Name "super" p0) [] [] p1) "__init__" p2) [.Constant (.str m) j p4] [] p5) X.env = (do
      let ov ← attributeBase (.Call (.Name "super" p0) [] [] p1) "__init__" X.env (eval (.Call (.Name "super" p0) [] [] p1) X.env)
      standAt p2.atName
      let (f, first) ← holding [ov] (getMethod ov "__init__" pl)
      callWith p5 f first (backTo p5 (starEach [.Constant (.str m) j p4] X.env)) []) := by rfl)
    (hst : starEach [.Constant (.str m) j p4] X.env = [(false, eval (.Constant (.str m) j p4) X.env)] := by rfl) :
    _root_.PySem.wpAt (model X.prog X.w) X.A (.func body X.env) (exec (.Expr (.Call (.Attribute (.Call (.Name "super" p0) [] [] p1) "__init__" p2) [.Constant (.str m) j p4] [] p5) p6) X.env) (fun fl s' => fl = .next ∧ Inv X pins σ H s') E s := by
  have KX : X.K.In s.heap := I.kIn
  obtain ⟨t1, ho⟩ := exo_at I.hok he
  obtain ⟨mm, hns, hloc⟩ := I.loc
  obtain ⟨us, rus, lus⟩ := hloc 0 ar.arg (.ref a) hN hσ (.inl hkv)
  obtain rfl : us = Value.ref a := rus
  have hself : mm ar.arg = some (.ref a) := by
    rcases lus with ⟨_, e⟩ | ⟨e | e, _⟩
    · exact e
    · rw [hka] at e; cases e
    · rw [hka] at e; cases e
  obtain ⟨mb, hb1, hb2⟩ := I.mod.blt
  obtain ⟨oD, hD1, hD2⟩ : ∃ oD, s.heap.get? D = some oD ∧ oD.data = .cls cdD := by
    unfold PySem.W.clsIn at hD
    split at hD
    · rename_i c d cd' sl hoo
      cases hD
      exact ⟨_, KX _ _ hoo, rfl⟩
    · cases hD
  refine PySem.ks_wpAt_Expr_any ?_ hi hsw
  refine PySem.ks_wpAt_MethodCall ?_ heq
  refine PySem.ks_wpAt_super_base hks hkc (by decide) hfu (KX _ _ hf) rfl hp hco (KX _ _ hcode) rfl hvs hfile htop ?_
  refine PySem.W.ks_loadName_global I.ok.kind hks (Calls.loadGlobal_builtin (by rw [I.ok.glob]; exact I.mod.glob.keeps I.bk) hsuper (by rw [I.ok.blt]; exact hb1.keeps I.bk) ((hb2 _ (by decide)).trans PyProof.Rows.Boot.«super») ⟨rfl, ?_⟩)
  refine wpAny_loadName_free I.ok.kind hkc hcl ⟨_, KX _ _ hcell, rfl⟩ ?_
  refine wpAny_loadName_local I.ok.kind hka hns hself ?_
  refine PySem.ks_wpAny_isType_cls hD1 hD2 ⟨rfl, ?_⟩
  refine PySem.ks_wpAny_call_super hD1 hD2 ho rfl (fun c z => by cases z) (PySem.W.looks_mroIn KX hsub) (fun h1 e1 k1 => ?_)
  have I1 : Inv X pins σ H { s with heap := h1, toks := s.toks } := I.kept k1
  cases hc : PySem.W.clsIn X.K C with
  | none => unfold PySem.W.ks_superIn at hm; rw [hc] at hm; cases hm
  | some cd =>
    unfold PySem.W.ks_superIn at hm
    rw [hc] at hm
    have KX1 : X.K.In h1 := I1.kIn
    have hx1 := k1 _ _ ho
    have hne : a ≠ C := fun z => by
      obtain ⟨nm, q, N, bs, bm, sn, sub, ab, col, dd, k0, k1', k2, k3, k5, hC, hbm⟩ := T.cls
      have y := KX1 _ _ hC
      rw [← z, hx1] at y
      cases y
    have hI : PySem.W.Looks (model X.prog X.w) h1 (isInstance (.ref a) (.type "ValueError")) true :=
      (PySem.W.InstAt.type (C := C) (od := none) ⟨hx1, rfl, rfl, trivial⟩).andThen (PySem.W.looks_subIn KX1 hB)
    refine PySem.W.kxs_getMethod PySem.W.kxs_ValueError e1 (PySem.W.looks_opaque KX1 hop) (l₀ := cd.mro) (fun A Q E s k q => wpAny_bind ((PySem.W.looks_clsIn KX1 hc) A _ E s k (wpAny_pure q))) rfl KX1 hm hI hne (by decide) ?_
    have k2 : ∀ b o, h1.get? b = some o → (h1.push (PySem.W.kxs_mw "ValueError.__init__" a)).get? b = some o := fun b o e => Heap.get?_push_of_some _ e
    have I2 := I1.kept (t' := s.toks + 1) k2
    have hu : (h1.push (PySem.W.kxs_mw "ValueError.__init__" a)).get? h1.objs.size = some (PySem.W.kxs_mw "ValueError.__init__" a) := Heap.get?_push_at rfl rfl
    show wpAny _ _ (callWith p5 (.ref h1.objs.size) [] (backTo p5 (starEach [.Constant (.str m) j p4] X.env)) []) _ _ _
    have hsp : wpAny (model X.prog X.w) X.A (spliced (backTo p5 (starEach [.Constant (.str m) j p4] X.env))) (fun ws s' => (∃ h2 tk2, s' = { s with heap := h2, toks := tk2 } ∧ h2 = h1.push (PySem.W.kxs_mw "ValueError.__init__" a)) ∧ ∃ tk3, ws = [.str m tk3]) E { s with heap := h1.push (PySem.W.kxs_mw "ValueError.__init__" a), toks := s.toks + 1 } := by
      refine PyProof.Rows.spliced_more ?_
      refine Calls.Constant_str ?_
      refine PyProof.Rows.spliced_none ?_
      exact ⟨⟨_, _, rfl, rfl⟩, _, rfl⟩
    rw [hst] at hsp ⊢
    refine PySem.W.kxs_callWith (i := "ValueError.__init__") (x := a) (by rfl) (Calls.evalArgs_plain (wpAny_mono hsp (fun ws s' hs => ?_) fun _ _ z => z))
    obtain ⟨⟨h2, tk2, rfl, rfl⟩, tk3, rfl⟩ := hs
    refine ⟨hu, ?_⟩
    exact call_mw T (I1.kept (t' := tk2) k2) he hu (show 1 ≤ sizeLine by rw [sizeLine_eq]; omega) fun s' J => ⟨rfl, J⟩

/-- the __init__ of an own exception: super().__init__(text), then the rest -/
theorem fn_sup {CX : CXT} {P : Program} {w : World} {K : PySem.W.Frag} {mg : Str → Option Value} {base : Heap} {k : Nat} {f c0 D : Addr} {F : NF} {rest : List Stmt} {dV kV doc pm ct oc ccl cl : Value} {an od cdd cld : Option Addr}
    {osl ccs csl : Array (Option Value)} {N ps : List Str} {sp : Sp} {p0 p1 p2 p4 p5 p6 : Pos} {m : Str} {j : Nat} {ar : Arg} {vs : Array Value} {file : Str} {tf : Tok} {cdD : ClassData}
    (lk : K.lookup f = some ⟨oc, od, .func (PySem.W.fnX F.name F.qual F.params F.body F.scope F.cl dV kV doc pm an (.ref F.c) ct), osl⟩)
    (hcd : PySem.W.codeIn K (.ref F.c) F.qual = true) (S : NScope N ps [("__class__" : Str)] F.scope)
    (hb : F.body = .Expr (.Call (.Attribute (.Call (.Name "super" p0) [] [] p1) "__init__" p2) [.Constant (.str m) j p4] [] p5) p6 :: rest)
    (hcl : F.cl = [(("__class__" : Str), c0)]) (hcell : K.lookup c0 = some ⟨cl, cld, .cell (some (.ref D)), csl⟩) (hD : PySem.W.clsIn K D = some cdD)
    (hp : (F.params.posonlyargs ++ F.params.args).head? = some ar) (hN : N[0]? = some ar.arg) (hka : F.scope.names.lookup ar.arg = some .local) (hks : F.scope.names.lookup ("super" : Str) = some .globalImplicit)
    (hcode : K.lookup F.c = some ⟨ccl, cdd, .fields vs, ccs⟩) (hvs : vs[2]? = some (.str file tf)) (hfile : ((P.main.file : Str) == file) = true)
    (hsuper : mg "super" = none) (htop : (P.main.scope.names.lookup ("super" : Str)).isSome = false) (hop : PySem.W.nsIn K cStatics "thirdparty.any" = some none)
    (len : ∀ vs H Q E, sp vs H Q E → vs.length = ps.length)
    (hbody : ∀ (A : Around) (outer : List Env) (s : Shared) (H : Hp) (vs : List V) (Q : VK) (E : XK), Room k (A.deeper (envF F f s.heap.objs.size)) → sp vs H Q E →
      ∃ (a C : Addr) (ws : List V), vs = .ref a :: ws ∧ OexC K C ∧ H a = some (exo a C none) ∧ PySem.W.mroIn K C (.ref D) = some true ∧ PySem.W.ks_superIn K C D "__init__" = some (some (.builtin "ValueError.__init__")) ∧ PySem.W.subIn K (.ref C) (.type "ValueError") = some true ∧
      ∃ t, PSs (ncx CX P w K mg base N F f A outer s H E) rest t ∧ t { nx := fun _ H' => Q .non H', rt := Q } (startF N vs [some (.ref D)]) H)
    (heq : ∀ L : Addr, ∃ pl : Sem Bool, eval (.Call (.Attribute (.Call (.Name "super" p0) [] [] p1) "__init__" p2) [.Constant (.str m) j p4] [] p5) (envF F f L) = (do
      let ov ← attributeBase (.Call (.Name "super" p0) [] [] p1) "__init__" (envF F f L) (eval (.Call (.Name "super" p0) [] [] p1) (envF F f L))
      standAt p2.atName
      let (fv, first) ← holding [ov] (getMethod ov "__init__" pl)
      callWith p5 fv first (backTo p5 (starEach [.Constant (.str m) j p4] (envF F f L))) [])) :
    FnOk P w K mg base CX (k + 1) f (PySem.W.fnX F.name F.qual F.params F.body F.scope F.cl dV kV doc pm an (.ref F.c) ct) ps sp := by
  have hin : ∀ L, interactive (envF F f L) = false := fun L => by
    have hk := S.kind
    unfold interactive
    simp [envF, hk]
  refine ⟨len, fun A outer s H args us vs Q E hr e0 hbd r hsp => ?_⟩
  have hl := len _ _ _ _ hsp
  have KX : K.In s.heap := e0.mod.kin.keeps fun b o e => (e0.bs b o e).1
  have lim : s.heap.NoLimit := e0.mod.nolimit.keeps fun b o e => (e0.bs b o e).1
  have C := cells_cls (cl := F.cl) e0.mod.kin hcl hcell rfl s.heap H e0.bs
  refine PySem.ks_codeAny_call_defAt (fd := PySem.W.fnX F.name F.qual F.params F.body F.scope F.cl dV kV doc pm an (.ref F.c) ct) (body := F.body) (binds := ps.zip us) hr.depth (KX _ _ lk) rfl lim (PySem.W.codeRec_of KX hcd) rfl hbd S.nocell (fun ⟨n, _⟩ hy => S.par n (List.of_mem_zip hy).1) (fun h₁ hns kp => ?_) S.co S.gen S.kind
  obtain ⟨a, C0, ws, ev, T, ha, h1, h2, h3, t, ht, hq⟩ := hbody A outer s H vs Q E (hr.deeper _) hsp
  have I : Inv (ncx CX P w K mg base N F f A outer s H E) [] (startF N vs [some (.ref D)]) H { s with heap := h₁, toks := s.toks + (ps.zip us).length } := inv_startN S hr.hd e0 hl r C hns kp
  have hpn : base.get? a = none := by
    cases e : base.get? a with
    | none => rfl
    | some o =>
      have y := (e0.bs a o e).2
      rw [ha] at y
      cases y
  obtain ⟨pl, heq⟩ := heq s.heap.objs.size
  rw [hb]
  refine PySem.ks_wpAt_execs_cons ?_
  show _root_.PySem.wpAt (model P w) (ncx CX P w K mg base N F f A outer s H E).A (.func _ (ncx CX P w K mg base N F f A outer s H E).env) (exec _ (ncx CX P w K mg base N F f A outer s H E).env) _ _ _
  refine PySem.ks_wpAt_mono (sup_stmt (X := ncx CX P w K mg base N F f A outer s H E) (cc := c0) (D := D) (f := f) (cda := F.c) (a := a) (C := C0) I T ha hN (by rw [ev]; rfl) rfl lk hp rfl hcode hvs hfile
    (by show F.cl.lookup _ = _; rw [hcl]; rfl) hcell hD h1 hsuper hks (S.frk _ (by simp)) hka hka htop hop h2 h3 hpn (hin _) (heq := heq)) (fun fl s' hs => ?_) fun e s' he => he
  obtain ⟨rfl, J⟩ := hs
  refine wpAt_of_wpAny (wpAny_mono (ht.run [] _ (startF N vs [some (.ref D)]) H _ J hq) (fun fl s' hs => ?_) fun e s' hs => hs)
  have fin : ∀ {σ' : L2.St} {H' : Hp} {v : V} {u : Value}, Inv (ncx CX P w K mg base N F f A outer s H E) [] σ' H' s' → L2.RelV v u → Q v H' → CE outer P w H s Q u s' :=
    fun {σ' H' v u} J rv q => ⟨v, H', J.os, J.bare, J.base, J.hok, rv, q⟩
  cases fl with
  | ret u =>
    obtain ⟨v, σ', H', J, rv, q⟩ := hs
    exact fin J rv q
  | next =>
    obtain ⟨σ', H', J, q⟩ := hs
    exact fin (v := V.non) (u := Value.none) J rfl q
  | brk =>
    obtain ⟨_, _, _, q⟩ := hs
    exact False.elim q
  | cont =>
    obtain ⟨_, _, _, q⟩ := hs
    exact False.elim q
end FL
end
section
set_option Elab.async false
set_option linter.all false
set_option maxRecDepth 100000
/-! FME: making and raising own exceptions. -/
namespace FL
open PySem PySem.Spec PyProof.Rows L2 NdefX
/-- what an own exception's __init__ with the fields fl promises -/
def spI (C : Addr) (fl : List Str) : Sp := fun vs H Q E => ∃ (a : Addr) (us : List V), vs = .ref a :: us ∧ us.length = fl.length ∧ H a = some (exo a C none) ∧
  ∀ (d : Addr) (H2 : Hp), H d = none → d ≠ a → H2 a = some (exo a C (some d)) → H2 d = some (exd d (fl.zip us).reverse) → (∀ b, b ≠ a → b ≠ d → H2 b = H b) → Q .non H2
theorem spI_len {C : Addr} {fl ps : List Str} (h : ps.length = fl.length + 1) : ∀ vs H Q E, spI C fl vs H Q E → vs.length = ps.length := by
  rintro vs H Q E ⟨a, us, rfl, hl, _⟩
  rw [List.length_cons, hl, h]
section
variable {X : Cx} {C : Addr} {f1 f2 : Str} {σ : L2.St} {a : Addr} {y1 y2 : V} {H : Hp} {Q : VK} {E : XK}
theorem ini_read1 (T : OexC X.K C) (n1 : PySem.W.findIn X.K (.ref C) f1 = some none) (hp : spI C [f1] [.ref a, y1] H Q E) (h0 : σ[0]? = some (some (.ref a))) (h1 : σ[1]? = some (some y1)) :
    tOst X.K f1 (tVar 0) (tVar 1) { nx := fun _ H' => Q .non H', rt := Q } σ H := by
  obtain ⟨a', us, e, hl, ha, q⟩ := hp
  cases e
  refine ⟨y1, h1, .ref a, h0, a, C, rfl, T, n1, .inl ⟨ha, fun dx hd hda => ?_⟩⟩
  refine q dx _ hd hda (by rw [upd_same]) (by rw [upd_ne hda, upd_same]; rfl) fun b b1 b2 => by rw [upd_ne b1, upd_ne b2]
theorem ini_read2 (T : OexC X.K C) (n1 : PySem.W.findIn X.K (.ref C) f1 = some none) (n2 : PySem.W.findIn X.K (.ref C) f2 = some none) (hp : spI C [f1, f2] [.ref a, y1, y2] H Q E) (h0 : σ[0]? = some (some (.ref a))) (h1 : σ[1]? = some (some y1)) (h2 : σ[2]? = some (some y2)) :
    tSeq (tOst X.K f1 (tVar 0) (tVar 1)) (tOst X.K f2 (tVar 0) (tVar 2)) { nx := fun _ H' => Q .non H', rt := Q } σ H := by
  obtain ⟨a', us, e, hl, ha, q⟩ := hp
  cases e
  refine ⟨y1, h1, .ref a, h0, a, C, rfl, T, n1, .inl ⟨ha, fun dx hd hda => ?_⟩⟩
  refine ⟨y2, h2, .ref a, h0, a, C, rfl, T, n2, .inr ⟨dx, [(f1, y1)], by rw [upd_same], by rw [upd_ne hda, upd_same], (show 1 ≤ 900 by decide), ?_⟩⟩
  refine q dx _ hd hda (by rw [upd_ne (Ne.symm hda), upd_same]) (by rw [upd_same]; rfl) fun b b1 b2 => by rw [upd_ne b2, upd_ne b1, upd_ne b2]
end

/-! ### raise C(..) -/
def mRaise (c : S) (fl : List S) (ma : Ma) : Ms := fun e st => (ma e st).flB e fun ds st1 => if ds.length = fl.length then .exc (c, (fl.zip ds).reverse) e st1 else .no
theorem zip_fst {α β : Type} : ∀ {l : List α} {m : List β}, m.length = l.length → (l.zip m).map (·.1) = l
  | [], [], _ => rfl
  | a :: l, b :: m, h => by
    rw [List.zip_cons_cons, List.map_cons, zip_fst (by simpa using h)]
theorem zip_snd {α β : Type} : ∀ {l : List α} {m : List β}, m.length = l.length → (l.zip m).map (·.2) = m
  | [], [], _ => rfl
  | a :: l, b :: m, h => by
    rw [List.zip_cons_cons, List.map_cons, zip_snd (by simpa using h)]
theorem DenL.rev {g : Gc} {W : Wd} : ∀ {vs : List V} {ds : List D}, DenL g W vs ds → DenL g W vs.reverse ds.reverse
  | [], [], _ => .nil
  | v :: vs, d :: ds, .cons h r => by
    rw [List.reverse_cons, List.reverse_cons]
    exact (DenL.rev r).append (.cons h .nil)
theorem exd_of {g : Gc} {W : Wd} {c : S} {d : Addr} {fl : List S} {vs : List V} {ds : List D} (hd : W.H d = some (.xd ((fl.map toS).zip vs).reverse)) (hm : ¬ Mu W d) (l : DenL g W vs ds) (h1 : ds.length = fl.length) (h2 : fl ≠ []) :
    ExD g W (.ref (He.ga g.K (toS c))) (some d) (c, (fl.zip ds).reverse) := by
  have hv : vs.length = fl.length := by rw [l.length, h1]
  have e1 : (((fl.map toS).zip vs).reverse).map (·.1) = ((fl.zip ds).reverse).map (fun p => toS p.1) := by
    rw [List.map_reverse, zip_fst (by rw [List.length_map, hv]), List.map_reverse]
    have q : (fl.zip ds).map (fun p => toS p.1) = ((fl.zip ds).map (·.1)).map toS := by rw [List.map_map]; rfl
    rw [q, zip_fst h1]
  have e2 : DenL g W ((((fl.map toS).zip vs).reverse).map (·.2)) (((fl.zip ds).reverse).map (·.2)) := by
    rw [List.map_reverse, zip_snd (by rw [List.length_map, hv]), List.map_reverse, zip_snd h1]
    exact l.rev
  refine ⟨rfl, ?_⟩
  dsimp only
  cases hx : (fl.zip ds).reverse with
  | nil =>
    have q := congrArg List.length hx
    rw [List.length_reverse, List.length_zip, h1, Nat.min_self] at q
    exact absurd (List.length_eq_zero_iff.mp q) h2
  | cons p r =>
    rw [hx] at e1 e2
    exact ⟨d, _, rfl, hd, hm, e1, e2⟩
section
variable {X : Cx} {Wx : WX} {ma : Ma} {c : S} {fl : List S} {e : Expr} {pos : Pos}
theorem s_raise (hc : X.calm = true) (tk : Takes X Wx) (h0 : fl ≠ []) (h9 : fl.length ≤ 1000) (he : PMk X e (tMkO (He.ga X.K (toS c)) (spI (He.ga X.K (toS c)) (fl.map toS)) [] (fA (gc X) Wx ma))) : PS X (.Raise (some e) none pos) (fS (gc X) Wx (mRaise c fl ma)) := by
  refine PS.imp (ps_raise hc tk he) fun D σ H h => ?_
  obtain ⟨W, env, rfl, s, r, p⟩ := h
  dsimp only [mRaise] at p
  refine ⟨W, env, rfl, s, r, ?_⟩
  cases q : ma env W.st with
  | no => rw [q] at p; exact p
  | exc x st1 => rw [q] at p; exact fun W1 e1 s1 hs => p W1 σ e1 s1 hs (r.mono e1)
  | ok ds st1 =>
    rw [q] at p
    intro W1 e1 s1 hs vs hv
    dsimp only [Res.flB] at p
    split at p
    · rename_i hn
      have hvl : vs.length = fl.length := by rw [DenL.length hv, hn]
      refine ⟨by rw [hvl]; exact h9, fun a ha => ⟨a, vs ++ [], rfl, by rw [List.append_nil, List.length_map, hvl], upd_same, fun d H2 hd hda q1 q2 q3 => ?_⟩⟩
      rw [List.append_nil] at q2
      have hd1 : W1.H d = none := by rw [upd_ne hda] at hd; exact hd
      refine ⟨rfl, d, _, q1, q2, hd1, ?_⟩
      have eH : upd (del H2 a) d (.xd ((fl.map toS).zip vs).reverse) = upd W1.H d (.xd ((fl.map toS).zip vs).reverse) := by
        funext b
        by_cases hb : b = d
        · rw [hb, upd_same, upd_same]
        · rw [upd_ne hb, upd_ne hb]
          by_cases hba : b = a
          · rw [hba, del_same, ha]
          · rw [del_ne hba, q3 b hba hb, upd_ne hba]
      rw [eH]
      obtain ⟨e2, s2, n2⟩ := s1.lay (o := .xd ((fl.map toS).zip vs).reverse) hd1
      exact p _ σ (e1.trans e2) s2 hs ((r.mono e1).mono e2) _ _ (exd_of upd_same n2 (hv.mono e2) hn h0)
    · exact p.elim
end
end FL
end
section
set_option Elab.async false
set_option linter.all false
set_option maxRecDepth 100000
/-! FMF: contracts of own exceptions. -/
namespace FL
open PySem PySem.Spec PyProof.Rows L2 NdefX
/-- an own exception's class and its __init__ -/
def IOk (P : Program) (w : World) (K : PySem.W.Frag) (mg : Str → Option Value) (base : Heap) (c : S) (k : Nat) (fl : List S) : Prop :=
  ∃ (fI : Addr) (fd : FuncData) (ps : List Str), OexC K (He.ga K (toS c)) ∧ PySem.W.findIn K (.ref (He.ga K (toS c))) "__init__" = some (some (.ref fI)) ∧ PySem.W.typeIn K (.ref fI) = some (.type "function") ∧
    FnOk P w K mg base (L2.CX P w) k fI fd ps (spI (He.ga K (toS c)) (fl.map toS)) ∧ Binds K fd ps []
section
variable {X : Cx} {Wx : WX} {ml : Ma} {c : S} {fl : List S} {x : Str} {e : Expr} {es : List Expr} {p pos pos2 : Pos} {k j : Nat}
/-- raise C(e, ..) -/
theorem c_raise (G : IOk X.prog X.w X.K X.mg X.base c k fl) (hr : Room j X.A) (hj : k + 1 ≤ j) (hc : X.calm = true) (tk : Takes X Wx) (h0 : fl ≠ []) (h9 : fl.length ≤ 1000) (hg : Gl X x) (hm : X.mg x = some (.ref (He.ga X.K (toS c))))
    (ha : PA X (e :: es) (fA (gc X) Wx ml)) (hdb : (x == ("__debug__" : Str)) = false := by decide) (he : starEach (e :: es) X.env = (false, eval e X.env) :: starEach es X.env := by rfl) (hpl : (backTo pos (starEach es X.env)).any (·.1) = false := by rfl) :
    PS X (.Raise (some (.Call (.Name x p) (e :: es) [] pos)) none pos2) (fS (gc X) Wx (mRaise c fl ml)) := by
  obtain ⟨fI, fd, ps, T, iC, tI, F1, hb⟩ := G
  exact s_raise hc tk h0 h9 (pmk_oex T iC tI F1 (hr.mono hj) hb .nil (passes_call tk fun _ _ _ _ z => z.elim) hg hm ha hdb he hpl)
end
end FL
end
section
set_option Elab.async false
set_option linter.all false
set_option maxRecDepth 100000
/-! FMG: an own exception's __init__ as it stands behind the top. -/
namespace FL
open PySem PySem.Spec PyProof.Rows L2 NdefX
/-- the text of such an __init__ -/
structure DefX where
  c : S
  name : Str
  qual : Str
  params : Arguments
  body : List Stmt
  scope : Scope
abbrev DefX.nf (d : DefX) (c0 cda : Addr) : NF := ⟨d.name, d.qual, d.params, d.body, d.scope, [(("__class__" : Str), c0)], cda⟩
structure SupAt (K : PySem.W.Frag) (P : Program) (d : DefX) (C fI : Addr) (fd : FuncData) (c0 cda : Addr) : Prop where
  ini : PySem.W.findIn K (.ref C) "__init__" = some (some (.ref fI))
  typ : PySem.W.typeIn K (.ref fI) = some (.type "function")
  fn : ∃ (oc : Value) (od : Option Addr) (osl : Array (Option Value)) (doc pm ct : Value) (an : Option Addr), fd = PySem.W.fnX d.name d.qual d.params d.body d.scope [(("__class__" : Str), c0)] .none .none doc pm an (.ref cda) ct ∧ K.lookup fI = some ⟨oc, od, .func fd, osl⟩
  code : PySem.W.codeIn K (.ref cda) d.qual = true
  cell : ∃ (cl : Value) (cld : Option Addr) (csl : Array (Option Value)), K.lookup c0 = some ⟨cl, cld, .cell (some (.ref C)), csl⟩
  cls : ∃ cdD, PySem.W.clsIn K C = some cdD
  file : ∃ (ccl : Value) (cdd : Option Addr) (ccs : Array (Option Value)) (vs : Array Value) (file : Str) (tf : Tok), K.lookup cda = some ⟨ccl, cdd, .fields vs, ccs⟩ ∧ vs[2]? = some (.str file tf) ∧ ((P.main.file : Str) == file) = true
  mro : PySem.W.mroIn K C (.ref C) = some true
  sup : PySem.W.ks_superIn K C C "__init__" = some (some (.builtin "ValueError.__init__"))
  sub : PySem.W.subIn K (.ref C) (.type "ValueError") = some true
  opq : PySem.W.nsIn K cStatics "thirdparty.any" = some none
  oex : OexC K C
section
variable {P : Program} {w : World} {K : PySem.W.Frag} {mg : Str → Option Value} {base : Heap} {d : DefX} {fI c0 cda : Addr} {fd : FuncData} {N ps : List Str} {rest : List Stmt} {fl : List S} {p0 p1 p2 p4 p5 p6 : Pos} {m : Str} {j : Nat} {ar : Arg} {k : Nat}
theorem iok_of (A : SupAt K P d (He.ga K (toS d.c)) fI fd c0 cda) (S : NScope N ps [("__class__" : Str)] d.scope)
    (hb : d.body = .Expr (.Call (.Attribute (.Call (.Name "super" p0) [] [] p1) "__init__" p2) [.Constant (.str m) j p4] [] p5) p6 :: rest)
    (hp : (d.params.posonlyargs ++ d.params.args).head? = some ar) (hN : N[0]? = some ar.arg) (hka : d.scope.names.lookup ar.arg = some .local) (hks : d.scope.names.lookup ("super" : Str) = some .globalImplicit)
    (hsuper : mg "super" = none) (htop : (P.main.scope.names.lookup ("super" : Str)).isSome = false) (hl : ps.length = fl.length + 1)
    (hbind : ∀ (doc pm : Value) (an : Option Addr) (ct : Value) (us : List Value), us.length = ps.length → bindArgs (PySem.W.fnX d.name d.qual d.params d.body d.scope [(("__class__" : Str), c0)] .none .none doc pm an (.ref cda) ct) ⟨us, []⟩ = pure (ps.zip us))
    (hrest : ∀ (X : Cx), X.K = K → X.N = N → X.env.scope = d.scope → ∃ t, PSs X rest t ∧ ∀ (vs : List V) (H : Hp) (Q : VK) (E : XK), spI (He.ga K (toS d.c)) (fl.map toS) vs H Q E → t { nx := fun _ H' => Q .non H', rt := Q } (startF N vs [some (.ref (He.ga K (toS d.c)))]) H)
    (heq : ∀ (c0 cda f L : Addr), ∃ pl : Sem Bool, eval (.Call (.Attribute (.Call (.Name "super" p0) [] [] p1) "__init__" p2) [.Constant (.str m) j p4] [] p5) (envF (d.nf c0 cda) f L) = (do
      let ov ← attributeBase (.Call (.Name "super" p0) [] [] p1) "__init__" (envF (d.nf c0 cda) f L) (eval (.Call (.Name "super" p0) [] [] p1) (envF (d.nf c0 cda) f L))
      standAt p2.atName
      let (fv, first) ← holding [ov] (getMethod ov "__init__" pl)
      callWith p5 fv first (backTo p5 (starEach [.Constant (.str m) j p4] (envF (d.nf c0 cda) f L))) [])) :
    IOk P w K mg base d.c (k + 1) fl := by
  obtain ⟨oc, od, osl, doc, pm, ct, an, rfl, lk⟩ := A.fn
  obtain ⟨cl, cld, csl, hcell⟩ := A.cell
  obtain ⟨cdD, hD⟩ := A.cls
  obtain ⟨ccl, cdd, ccs, vs, file, tf, hcode, hvs, hfile⟩ := A.file
  refine ⟨fI, _, ps, A.oex, A.ini, A.typ, fn_sup (F := d.nf c0 cda) lk A.code S hb rfl hcell hD hp hN hka hks hcode hvs hfile hsuper htop A.opq (spI_len (by rw [List.length_map, hl])) (fun A' outer s H vs Q E hr hsp => ?_) (fun L => heq c0 cda fI L), ?_⟩
  · obtain ⟨t, ht, hq⟩ := hrest (ncx (L2.CX P w) P w K mg base N (d.nf c0 cda) fI A' outer s H E) rfl rfl rfl
    have q := hq vs H Q E hsp
    obtain ⟨a, us, rfl, _, ha, _⟩ := id hsp
    exact ⟨a, _, us, rfl, A.oex, ha, A.mro, A.sup, A.sub, t, ht, q⟩
  · exact .all fun us h => hbind doc pm an ct us h
theorem rest_one {C : Addr} {f1 : S} {x1 : Str} {q1 q2 q3 q4 : Pos} (T : OexC K C) (n1 : PySem.W.findIn K (.ref C) (toS f1) = some none) (hN0 : N[0]? = some ("self" : Str)) (hN1 : N[1]? = some x1) (v0 : Vis d.scope "self") (v1 : Vis d.scope x1)
    (h1 : (x1 == ("__debug__" : Str)) = false) (h2 : (x1 == ("__classdict__" : Str)) = false) :
    ∀ (X : Cx), X.K = K → X.N = N → X.env.scope = d.scope → ∃ t, PSs X [.Assign [.Attribute (.Name "self" q1) (toS f1) q2] (.Name x1 q3) q4] t ∧ ∀ (vs : List V) (H : Hp) (Q : VK) (E : XK), spI C ([f1].map toS) vs H Q E → t { nx := fun _ H' => Q .non H', rt := Q } (startF N vs [some (.ref C)]) H := by
  rintro X rfl rfl hs
  refine ⟨_, pss_one (ps_ost (pe_var hN0 (by rw [hs]; exact v0)) (pe_var hN1 (by rw [hs]; exact v1) h1 h2)), fun vs H Q E hsp => ?_⟩
  obtain ⟨a, us, rfl, hl, ha, q⟩ := id hsp
  match us, hl with
  | [y], _ => exact ini_read1 T n1 hsp rfl rfl
theorem rest_two {C : Addr} {f1 f2 : S} {x1 x2 : Str} {q1 q2 q3 q4 r1 r2 r3 r4 : Pos} (T : OexC K C) (n1 : PySem.W.findIn K (.ref C) (toS f1) = some none) (n2 : PySem.W.findIn K (.ref C) (toS f2) = some none) (hN0 : N[0]? = some ("self" : Str)) (hN1 : N[1]? = some x1) (hN2 : N[2]? = some x2)
    (v0 : Vis d.scope "self") (v1 : Vis d.scope x1) (v2 : Vis d.scope x2) (h1 : (x1 == ("__debug__" : Str)) = false) (h2 : (x1 == ("__classdict__" : Str)) = false) (h3 : (x2 == ("__debug__" : Str)) = false) (h4 : (x2 == ("__classdict__" : Str)) = false) :
    ∀ (X : Cx), X.K = K → X.N = N → X.env.scope = d.scope → ∃ t, PSs X [.Assign [.Attribute (.Name "self" q1) (toS f1) q2] (.Name x1 q3) q4, .Assign [.Attribute (.Name "self" r1) (toS f2) r2] (.Name x2 r3) r4] t ∧
      ∀ (vs : List V) (H : Hp) (Q : VK) (E : XK), spI C ([f1, f2].map toS) vs H Q E → t { nx := fun _ H' => Q .non H', rt := Q } (startF N vs [some (.ref C)]) H := by
  rintro X rfl rfl hs
  refine ⟨_, pss_cons (ps_ost (pe_var hN0 (by rw [hs]; exact v0)) (pe_var hN1 (by rw [hs]; exact v1) h1 h2)) (pss_one (ps_ost (pe_var hN0 (by rw [hs]; exact v0)) (pe_var hN2 (by rw [hs]; exact v2) h3 h4))), fun vs H Q E hsp => ?_⟩
  obtain ⟨a, us, rfl, hl, ha, q⟩ := id hsp
  match us, hl with
  | [y, z], _ => exact ini_read2 T n1 n2 hsp rfl rfl rfl
end
end FL
end
section
set_option Elab.async false
set_option linter.all false
set_option maxRecDepth 100000
/-! FMH: the facts of own exceptions, by a test of the top's part. -/
namespace FL
open PySem PySem.Spec PyProof.Rows L2 NdefX
def oexB (K : PySem.W.Frag) (C : Addr) : Bool := (match K.lookup C with
  | some ⟨cl, _, .cls ⟨_, _, c0 :: bm, _, _, hd, _, _, _, _, del⟩, sl⟩ => decide (cl = .type "type") && (decide (c0 = .ref C) && (PySem.HandSPX.refsVE bm && (hd && (!del && (match sl.toList with
    | [_, _, _, _, some n, _] => decide (n = .builtin "ValueError.__new__")
    | _ => false)))))
  | _ => false) && (decide (PySem.W.findIn K (.ref C) "__setattr__" = some (some (.builtin "object.__setattr__"))) && (decide (PySem.W.subIn K (.ref C) (.type "BaseException") = some true) && (decide (PySem.W.typeIn K (.ref C) = some (.type "type")) && PySem.W.keepIn K (.ref C))))
theorem oexB_ok {K : PySem.W.Frag} {C : Addr} (h : oexB K C = true) : OexC K C := by
  obtain ⟨h1, h⟩ := ba2 h
  obtain ⟨h2, h⟩ := ba2 h
  obtain ⟨h3, h⟩ := ba2 h
  obtain ⟨h4, h5⟩ := ba2 h
  refine ⟨?_, of_decide_eq_true h2, of_decide_eq_true h3, of_decide_eq_true h4, h5⟩
  split at h1
  · rename_i cl dd n1 n2 c0 bm n4 n5 hd n7 n8 n9 n10 del sl hq
    obtain ⟨q1, h1⟩ := ba2 h1
    obtain ⟨q2, h1⟩ := ba2 h1
    obtain ⟨q3, h1⟩ := ba2 h1
    obtain ⟨q4, h1⟩ := ba2 h1
    obtain ⟨q5, h1⟩ := ba2 h1
    have e1 := of_decide_eq_true q1
    have e2 := of_decide_eq_true q2
    have e5 : del = false := by simpa using q5
    subst e1 e2 q4 e5
    split at h1
    · rename_i k0 k1 k2 k3 n k5 hs
      have en : n = .builtin "ValueError.__new__" := by simpa [q3] using h1
      subst en
      have es : sl = #[k0, k1, k2, k3, some (.builtin "ValueError.__new__"), k5] := by
        have := congrArg List.toArray hs
        simpa using this
      subst es
      exact ⟨_, _, _, _, _, _, _, _, _, _, _, _, _, _, _, hq, q3⟩
    · simp at h1
  · cases h1
abbrev FnWx : Type := Option (Str × Str × Arguments × FuncBody × Scope × Addr × List Str × Addr)
def xIni (K : PySem.W.Frag) (d : DefX) : Addr := He.ma K (He.ga K (toS d.c)) "__init__"
def supFn (K : PySem.W.Frag) (file : Str) (C : Addr) (qual : Str) (fd : FuncData) : Bool := match fd.code, fd.closure, fd.defaults, fd.kwdefaults with
  | .ref cda, [(y, c0)], .none, .none => decide (y = ("__class__" : Str)) && (PySem.W.codeIn K (.ref cda) qual && ((match K.lookup c0 with
    | some ⟨_, _, .cell (some v), _⟩ => decide (v = .ref C)
    | _ => false) && (match K.lookup cda with
    | some ⟨_, _, .fields vs, _⟩ => (match (vs[2]? : Option Value) with
      | some (Value.str fl _) => decide (file = fl)
      | _ => false)
    | _ => false)))
  | _, _, _, _ => false
theorem supFn_ok {K : PySem.W.Frag} {file : Str} {C : Addr} {qual : Str} {fd : FuncData} (h : supFn K file C qual fd = true) : ∃ (c0 cda : Addr), fd.code = .ref cda ∧ fd.closure = [(("__class__" : Str), c0)] ∧ fd.defaults = .none ∧ fd.kwdefaults = .none ∧ PySem.W.codeIn K (.ref cda) qual = true ∧
    (∃ (cl : Value) (cld : Option Addr) (csl : Array (Option Value)), K.lookup c0 = some ⟨cl, cld, .cell (some (.ref C)), csl⟩) ∧ ∃ (ccl : Value) (cdd : Option Addr) (ccs : Array (Option Value)) (vs : Array Value) (fl : Str) (tf : Tok), K.lookup cda = some ⟨ccl, cdd, .fields vs, ccs⟩ ∧ vs[2]? = some (.str fl tf) ∧ file = fl := by
  unfold supFn at h
  split at h
  · rename_i cda y c0 e1 e2 e3 e4
    obtain ⟨h1, h⟩ := ba2 h
    obtain ⟨h2, h⟩ := ba2 h
    obtain ⟨h3, h4⟩ := ba2 h
    have ey := of_decide_eq_true h1
    subst ey
    refine ⟨c0, cda, e1, e2, e3, e4, h2, ?_, ?_⟩
    · split at h3
      · rename_i v _ q
        have ev := of_decide_eq_true h3
        subst ev
        exact ⟨_, _, _, q⟩
      · cases h3
    · split at h4
      · rename_i q
        split at h4
        · rename_i q2
          exact ⟨_, _, _, _, _, _, q, q2, of_decide_eq_true h4⟩
        · cases h4
      · cases h4
  · cases h
def fnWx (K : PySem.W.Frag) (a : Addr) : FnWx := match K.lookup a with
  | some ⟨_, _, .func fd, _⟩ => some (fd.name, fd.qualname, fd.params, fd.body, fd.scope, fd.globals, fd.closure.map (·.1), fd.builtins)
  | _ => none
def DefX.val (d : DefX) : FnWx := some (d.name, d.qual, d.params, .stmts d.body, d.scope, mainGlobals, [("__class__" : Str)], builtinsNs)
def DefX.ok (K : PySem.W.Frag) (file : Str) (d : DefX) : Bool := He.eqO (PySem.W.findIn K (.ref (He.ga K (toS d.c))) "__init__") (some (some (.ref (xIni K d)))) && (decide (PySem.W.typeIn K (.ref (xIni K d)) = some (.type "function")) && ((match K.lookup (xIni K d) with
  | some ⟨_, _, .func fd, _⟩ => supFn K file (He.ga K (toS d.c)) d.qual fd
  | _ => false) && ((PySem.W.clsIn K (He.ga K (toS d.c))).isSome && (decide (PySem.W.mroIn K (He.ga K (toS d.c)) (.ref (He.ga K (toS d.c))) = some true) && (He.eqO (PySem.W.ks_superIn K (He.ga K (toS d.c)) (He.ga K (toS d.c)) "__init__") (some (some (.builtin "ValueError.__init__"))) &&
  (decide (PySem.W.subIn K (.ref (He.ga K (toS d.c))) (.type "ValueError") = some true) && (He.eqO (PySem.W.nsIn K cStatics "thirdparty.any") (some none) && oexB K (He.ga K (toS d.c)))))))))
theorem sup_at {K : PySem.W.Frag} {P : Program} {file : Str} {d : DefX} (hf : P.main.file = file) (e : fnWx K (xIni K d) = d.val) (c : d.ok K file = true) : ∃ (fI : Addr) (fd : FuncData) (c0 cda : Addr), SupAt K P d (He.ga K (toS d.c)) fI fd c0 cda := by
  obtain ⟨h1, c⟩ := ba2 c
  obtain ⟨h2, c⟩ := ba2 c
  obtain ⟨h3, c⟩ := ba2 c
  obtain ⟨h4, c⟩ := ba2 c
  obtain ⟨h5, c⟩ := ba2 c
  obtain ⟨h6, c⟩ := ba2 c
  obtain ⟨h7, c⟩ := ba2 c
  obtain ⟨h8, h9⟩ := ba2 c
  unfold fnWx at e
  cases q : K.lookup (xIni K d) with
  | none => rw [q] at h3; cases h3
  | some o =>
    obtain ⟨oc, od, dt, osl⟩ := o
    rw [q] at h3 e
    cases dt with
    | func fd =>
      obtain ⟨c0, cda, s1, s2, s3, s4, s5, s6, ccl, cdd, ccs, vs, fl, tf, s7, s8, s9⟩ := supFn_ok (show supFn K file (He.ga K (toS d.c)) d.qual fd = true from h3)
      obtain ⟨n1, n2, n3, n4, n5, n6, n7, n8, n9, n10, n11, n12, n13, n14, n15⟩ := fd
      have e2 : (some (n1, n2, n3, n4, n5, n6, n7.map (·.1), n15) : FnWx) = some (d.name, d.qual, d.params, .stmts d.body, d.scope, mainGlobals, [("__class__" : Str)], builtinsNs) := e
      simp only [Option.some.injEq, Prod.mk.injEq] at e2
      obtain ⟨g1, g2, g3, g4, g5, g6, g7, g8⟩ := e2
      dsimp only at s1 s2 s3 s4
      subst g1 g2 g3 g4 g5 g6 g8 s1 s2 s3 s4
      obtain ⟨cdD, hD⟩ := Option.isSome_iff_exists.mp h4
      exact ⟨xIni K d, _, c0, cda, ⟨He.eqO_ok h1, of_decide_eq_true h2, ⟨oc, od, osl, n10, n11, n14, n12, rfl, q⟩, s5, s6, ⟨cdD, hD⟩, ⟨ccl, cdd, ccs, vs, fl, tf, s7, s8, by rw [hf, s9]; simp⟩,
        of_decide_eq_true h5, He.eqO_ok h6, of_decide_eq_true h7, He.eqO_ok h8, oexB_ok h9⟩⟩
    | _ => cases h3
end FL
end
section
set_option Elab.async false
set_option linter.all false
set_option maxRecDepth 100000
/-! FMI: the hook with own exceptions. -/
namespace FL
open PySem PySem.Spec PyProof.Rows L2 NdefX
abbrev AlX : Type := AlP × Bool × List FnWx
section
variable (fa : List He.Fa) (fn : List He.DefD) (ts : List He.Tab) (ex : PySem.W.Frag → Bool) (qs : List DefQ) (file : Str) (xs : List DefX)
def obsX (K : PySem.W.Frag) : AlX := (obsP fa fn ts ex qs K, xs.all (fun d => d.ok K file), xs.map fun d => fnWx K (xIni K d))
def valX (w : World) : AlX := (valP fn ts qs w, true, xs.map DefX.val)
def obsXG (n : Nat) (g : Addr → Option Obj) : AlX := obsX fa fn ts ex qs file xs (He.frG g (cStatics :: He.asD g n))
def SaysX (w : World) (K : PySem.W.Frag) : Prop := obsX fa fn ts ex qs file xs K = valX fn ts qs xs w
def hookX (n : Nat) : PySem.W.Hook where
  α := AlX
  obs := fun s => obsXG fa fn ts ex qs file xs n s.heap.get?
  val := fun w => valX fn ts qs xs w
  says := fun w h => ∃ K : PySem.W.Frag, K.In h ∧ SaysX fa fn ts ex qs file xs w K
  of := fun _ _ e => ⟨_, He.frG_in, e⟩
  keeps := fun _ _ _ ⟨K, hK, c⟩ k => ⟨K, PySem.W.Frag.In.keeps hK k, c⟩
end
section
variable {fa : List He.Fa} {fn : List He.DefD} {ts : List He.Tab} {ex : PySem.W.Frag → Bool} {qs : List DefQ} {file : Str} {xs : List DefX} {w : World} {K : PySem.W.Frag}
theorem obsXG_eq {n : Nat} {g : Addr → Option Obj} {s : Shared} (h : ∀ a, g a = s.heap.get? a) : obsXG fa fn ts ex qs file xs n g = (hookX fa fn ts ex qs file xs n).obs s := by
  have e : g = s.heap.get? := funext h
  rw [e] <;> rfl
theorem SaysX.p (c : SaysX fa fn ts ex qs file xs w K) : SaysP fa fn ts ex qs w K := congrArg (fun z : AlX => z.1) c
theorem SaysX.x {P : Program} (c : SaysX fa fn ts ex qs file xs w K) (hf : P.main.file = file) (i : Nat) {d : DefX} (h : xs[i]? = some d := by rfl) : ∃ (fI : Addr) (fd : FuncData) (c0 cda : Addr), SupAt K P d (He.ga K (toS d.c)) fI fd c0 cda := by
  have c2 : xs.all (fun d => d.ok K file) = true := congrArg (fun z : AlX => z.2.1) c
  have e : xs.map (fun d => fnWx K (xIni K d)) = xs.map DefX.val := congrArg (fun z : AlX => z.2.2) c
  have e2 : (xs.map fun d => fnWx K (xIni K d))[i]? = (xs.map DefX.val)[i]? := by rw [e]
  rw [List.getElem?_map, List.getElem?_map, h] at e2
  exact sup_at hf (Option.some.inj e2) (List.all_eq_true.mp c2 d (List.mem_of_getElem? h))
end
end FL
end
section
set_option Elab.async false
set_option linter.all false
set_option maxRecDepth 100000
/-! FMJ: try .. except. -/
namespace FL
open PySem PySem.Spec PyProof.Rows L2
def noExc (r : Fl) : Fl := match r with
  | .exc _ _ _ => .no
  | r => r
/-- try: b, except C: sb -/
def mTry0 (ok : S → Option Bool) (b sb : Ms) : Ms := fun e st => match b e st with
  | .exc x e1 st1 => (match ok x.1 with
    | some true => noExc (sb e1 st1)
    | some false => .exc x e1 st1
    | none => .no)
  | r => r
theorem PostS.noE {g : Gc} {W0 : Wd} {Wx Wx' : WX} {r : Fl} {D : Ends} (p : PostS g W0 Wx (noExc r) D) : PostS g W0 Wx' r D := by
  cases r with
  | exc x e st => exact p.elim
  | no => exact p
  | _ => exact p
section
variable {X : Cx} {x : Str} {c : Value} {body suite : List Stmt} {b₀ : Stmt} {np pos pos' : Pos} {Wx : WX} {b sb : Ms} {ok : S → Option Bool}
theorem s_try0 (hs : X.stack = X.env :: X.outer) (hf : X.env.frame = some X.env.locals) (hc : Names X x c) (tk : Takes X Wx) (hok : ∀ y r, ok y = some r → PySem.W.exmOne X.K (.ref (He.ga X.K (toS y))) c = some r)
    (hb : ∀ (W : WX) (pn : List (Addr × Obj)) (xe : Value → Shared → Prop), Takes (X.tr pn xe) W → PassesOwn (model X.prog X.w) X.A X.env xe → PSs (X.tr pn xe) body (fS (gc X) W b))
    (hsu : ∀ (a : Addr) (pn : List (Addr × Obj)), PSs (X.suite a pn) (b₀ :: suite) (fS (gc X) (fun _ _ _ _ => False) sb)) :
    PS X (.Try body [.ExceptHandler (some (.Name x np)) none (b₀ :: suite) pos'] [] [] pos) (fS (gc X) Wx (mTry0 ok b sb)) := by
  refine PS.imp (ps_try_only (tb := fun W => fS (gc X) W b) (ts := fun _ _ _ => fS (gc X) (fun _ _ _ _ => False) sb) hs hf hc tk hb (fun a oe cls d pn _ _ => hsu a _)) fun D σ H h => ?_
  obtain ⟨W, env, rfl, s, r, p⟩ := h
  refine ⟨W, env, rfl, s, r, ?_⟩
  dsimp only [mTry0] at p
  cases q : b env W.st with
  | exc y e1 st1 =>
    rw [q] at p
    dsimp only at p
    intro W1 σ1 e' s1 hs1 r1 cls dd hx
    have ec : cls = .ref (He.ga X.K (toS y.1)) := hx.1
    cases ho : ok y.1 with
    | none => rw [ho] at p; exact p.elim
    | some t =>
      rw [ho] at p
      refine ⟨t, by rw [ec]; exact hok _ _ ho, fun ht a ha => ?_, fun ht => ?_⟩
      · subst ht
        exact ⟨W1, e1, rfl, s1, r1, by rw [hs1]; exact (PostS.ext (PostS.noE p) e')⟩
      · subst ht
        exact p W1 σ1 e' s1 hs1 r1 cls dd hx
  | no => rw [q] at p; exact p
  | _ => rw [q] at p; exact p
end
end FL
end
section
set_option Elab.async false
set_option linter.all false
set_option maxRecDepth 100000
/-! FMK: except C as n: t = n.f -/
namespace FL
open PySem PySem.Spec PyProof.Rows L2
/-- try: b, except C as (slot i): (slot j) = (slot i).f -/
def mTryF (i j : Nat) (f : S) (ok : S → Option Bool) (b : Ms) : Ms := fun e st => match b e st with
  | .exc x e1 st1 => (match ok x.1 with
    | some true => (match x.2.lookup f with
      | some d => if i < e1.length then .nx (((e1.set i none).set j (some d)).set i none) st1 else .no
      | none => .no)
    | some false => .exc x e1 st1
    | none => .no)
  | r => r
theorem EnvR.setN {g : Gc} {W : Wd} {σ : L2.St} {e : En} {i : Nat} (r : EnvR g W σ e) (o : Option V) : EnvR g W (σ.set i o) (e.set i none) := by
  refine ⟨by rw [List.length_set, List.length_set]; exact r.1, fun k d h => ?_⟩
  by_cases hk : k = i
  · subst hk
    by_cases hl : k < e.length
    · rw [List.getElem?_set_self hl] at h; cases h
    · rw [List.getElem?_eq_none (by simpa using hl)] at h; cases h
  · rw [List.getElem?_set_ne (Ne.symm hk)] at h ⊢
    exact r.2 k d h
section
variable {X : Cx} {x n y : Str} {c : Value} {body : List Stmt} {np p1 p2 p3 pos pos' ap : Pos} {Wx : WX} {b : Ms} {ok : S → Option Bool} {f C : S} {i j : Nat}
theorem s_tryF (hs : X.stack = X.env :: X.outer) (hf : X.env.frame = some X.env.locals) (hN : X.N.Nodup) (hi : X.N[i]? = some n) (hln : X.env.kindOf n = some .local) (hni : X.env.scope.names.lookup n = some .local) (hj : X.N[j]? = some y) (hy : X.env.scope.names.lookup y = some .local)
    (hc : Names X x c) (tk : Takes X Wx) (hok : ∀ y r, ok y = some r → PySem.W.exmOne X.K (.ref (He.ga X.K (toS y))) c = some r) (hC : ∀ y, ok y = some true → y = C) (T : XfC X.K (He.ga X.K (toS C))) (hno : PySem.W.findIn X.K (.ref (He.ga X.K (toS C))) (toS f) = some none)
    (hb : ∀ (W : WX) (pn : List (Addr × Obj)) (xe : Value → Shared → Prop), Takes (X.tr pn xe) W → PassesOwn (model X.prog X.w) X.A X.env xe → PSs (X.tr pn xe) body (fS (gc X) W b))
    (hd : (n == ("__debug__" : Str)) = false) (hcd : (n == ("__classdict__" : Str)) = false)
    (hsw : swapsWith (.Attribute (.Name n p2) (toS f) p3) (some (.Name y p1)) ap.line X.env = pure false) (hab : attributeBase (.Name n p2) (toS f) X.env (eval (.Name n p2) X.env) = eval (.Name n p2) X.env) :
    PS X (.Try body [.ExceptHandler (some (.Name x np)) (some n) [.Assign [.Name y p1] (.Attribute (.Name n p2) (toS f) p3) ap] pos'] [] [] pos) (fS (gc X) Wx (mTryF i j f ok b)) := by
  refine PS.imp (ps_try_as (i := i) (tb := fun W => fS (gc X) W b) (ts := fun a cls d => tAsg (tXf a cls d (He.ga X.K (toS C)) (toS f) (tVar i)) (gName j)) hs hf hN hi hln hc tk hb
    (fun a oe cls d pn hz hfl => pss_one (ps_set (X := X.suite a ((a, oe) :: pn)) hN hj (.inl hy) (pe_xf T hno hz hfl (pe_var hi (.inl hni) hd hcd) hab) hsw (.inr hy)))) fun D σ H h => ?_
  obtain ⟨W, env, rfl, s, r, p⟩ := h
  refine ⟨W, env, rfl, s, r, ?_⟩
  dsimp only [mTryF] at p
  cases q : b env W.st with
  | exc z e1 st1 =>
    rw [q] at p
    dsimp only at p
    intro W1 σ1 e' s1 hs1 r1 cls dd hx
    have hx0 := hx
    obtain ⟨ec, hx2⟩ := hx
    cases ho : ok z.1 with
    | none => rw [ho] at p; exact p.elim
    | some t =>
      rw [ho] at p
      refine ⟨t, by rw [ec]; exact hok _ _ ho, fun ht a ha => ?_, fun ht => ?_⟩
      · subst ht
        have ez := hC _ ho
        cases hl : z.2.lookup f with
        | none => simp only [hl] at p; exact p.elim
        | some d =>
          simp only [hl] at p
          split at p
          rotate_left
          · exact p.elim
          rename_i hlt
          cases hz : z.2 with
          | nil => rw [hz] at hl; cases hl
          | cons u us =>
            rw [hz] at hx2 hl
            obtain ⟨da, vs, ed, hda, hm, k1, k2⟩ := hx2
            obtain ⟨v, hv, hvd⟩ := lookup_den k1 k2 hl
            have hlen : i < σ1.length := by
              have := r1.1
              omega
            refine ⟨.ref a, List.getElem?_set_self hlen, rfl, by rw [ec, ez], da, vs, v, ed, hda, hv, ?_⟩
            exact p W1 _ e' s1 hs1 (((r1.setN (i := i) (some (.ref a))).set j hvd).setN (i := i) none)
      · subst ht
        exact p W1 σ1 e' s1 hs1 r1 cls dd hx0
  | no => rw [q] at p; exact p
  | _ => rw [q] at p; exact p
end
end FL
end
section
set_option Elab.async false
set_option linter.all false
set_option maxRecDepth 100000
/-! FML: except C as n: t = (n.f, n.g) -/
namespace FL
open PySem PySem.Spec PyProof.Rows L2
/-- try: b, except C as (slot i): (slot j) = ((slot i).f, (slot i).f2) -/
def mTryG (i j : Nat) (f f2 : S) (ok : S → Option Bool) (b : Ms) : Ms := fun e st => match b e st with
  | .exc x e1 st1 => (match ok x.1 with
    | some true => (match x.2.lookup f, x.2.lookup f2 with
      | some d, some d2 => if i < e1.length then .nx (((e1.set i none).set j (some (.tup [d, d2]))).set i none) st1 else .no
      | _, _ => .no)
    | some false => .exc x e1 st1
    | none => .no)
  | r => r
section
variable {X : Cx} {x n y : Str} {c : Value} {body : List Stmt} {np p1 p2 p3 p4 p5 p6 pos pos' ap : Pos} {Wx : WX} {b : Ms} {ok : S → Option Bool} {f f2 C : S} {i j : Nat} {x1 : Nat}
theorem s_tryG (hs : X.stack = X.env :: X.outer) (hf : X.env.frame = some X.env.locals) (hN : X.N.Nodup) (hi : X.N[i]? = some n) (hln : X.env.kindOf n = some .local) (hni : X.env.scope.names.lookup n = some .local) (hj : X.N[j]? = some y) (hy : X.env.scope.names.lookup y = some .local)
    (hc : Names X x c) (tk : Takes X Wx) (hok : ∀ y r, ok y = some r → PySem.W.exmOne X.K (.ref (He.ga X.K (toS y))) c = some r) (hC : ∀ y, ok y = some true → y = C) (T : XfC X.K (He.ga X.K (toS C))) (hno : PySem.W.findIn X.K (.ref (He.ga X.K (toS C))) (toS f) = some none) (hno2 : PySem.W.findIn X.K (.ref (He.ga X.K (toS C))) (toS f2) = some none)
    (hb : ∀ (W : WX) (pn : List (Addr × Obj)) (xe : Value → Shared → Prop), Takes (X.tr pn xe) W → PassesOwn (model X.prog X.w) X.A X.env xe → PSs (X.tr pn xe) body (fS (gc X) W b))
    (hd : (n == ("__debug__" : Str)) = false) (hcd : (n == ("__classdict__" : Str)) = false)
    (hsw : swapsWith (.Tuple [.Attribute (.Name n p2) (toS f) p3, .Attribute (.Name n p4) (toS f2) p5] x1 p6) (some (.Name y p1)) ap.line X.env = pure false) (hab2 : attributeBase (.Name n p4) (toS f2) X.env (eval (.Name n p4) X.env) = eval (.Name n p4) X.env)
    (hab : attributeBase (.Name n p2) (toS f) X.env (eval (.Name n p2) X.env) = eval (.Name n p2) X.env) :
    PS X (.Try body [.ExceptHandler (some (.Name x np)) (some n) [.Assign [.Name y p1] (.Tuple [.Attribute (.Name n p2) (toS f) p3, .Attribute (.Name n p4) (toS f2) p5] x1 p6) ap] pos'] [] [] pos) (fS (gc X) Wx (mTryG i j f f2 ok b)) := by
  refine PS.imp (ps_try_as (i := i) (tb := fun W => fS (gc X) W b) (ts := fun a cls d => tAsg (tTup (tCons (tXf a cls d (He.ga X.K (toS C)) (toS f) (tVar i)) (tCons (tXf a cls d (He.ga X.K (toS C)) (toS f2) (tVar i)) tNil))) (gName j)) hs hf hN hi hln hc tk hb
    (fun a oe cls d pn hz hfl => pss_one (ps_set (X := X.suite a ((a, oe) :: pn)) hN hj (.inl hy) (pe_tup (pa_cons (pe_xf T hno hz hfl (pe_var hi (.inl hni) hd hcd) hab) (pa_cons (pe_xf T hno2 hz hfl (pe_var hi (.inl hni) hd hcd) hab2) pa_nil))) hsw (.inr hy)))) fun D σ H h => ?_
  obtain ⟨W, env, rfl, s, r, p⟩ := h
  refine ⟨W, env, rfl, s, r, ?_⟩
  dsimp only [mTryG] at p
  cases q : b env W.st with
  | exc z e1 st1 =>
    rw [q] at p
    dsimp only at p
    intro W1 σ1 e' s1 hs1 r1 cls dd hx
    have hx0 := hx
    obtain ⟨ec, hx2⟩ := hx
    cases ho : ok z.1 with
    | none => rw [ho] at p; exact p.elim
    | some t =>
      rw [ho] at p
      refine ⟨t, by rw [ec]; exact hok _ _ ho, fun ht a ha => ?_, fun ht => ?_⟩
      · subst ht
        have ez := hC _ ho
        cases hl : z.2.lookup f with
        | none => simp only [hl] at p; exact p.elim
        | some d =>
          cases hl2 : z.2.lookup f2 with
          | none => simp only [hl, hl2] at p; exact p.elim
          | some d2 =>
            simp only [hl, hl2] at p
            split at p
            rotate_left
            · exact p.elim
            rename_i hlt
            cases hz : z.2 with
            | nil => rw [hz] at hl; cases hl
            | cons u us =>
              rw [hz] at hx2 hl hl2
              obtain ⟨da, vs, ed, hda, hm, k1, k2⟩ := hx2
              obtain ⟨v, hv, hvd⟩ := lookup_den k1 k2 hl
              obtain ⟨v2, hv2, hvd2⟩ := lookup_den k1 k2 hl2
              have hlen : i < σ1.length := by
                have := r1.1
                omega
              have ga := List.getElem?_set_self (a := some (V.ref a)) hlen
              refine ⟨.ref a, ga, rfl, by rw [ec, ez], da, vs, v, ed, hda, hv, .ref a, ga, rfl, by rw [ec, ez], da, vs, v2, ed, hda, hv2, (show 2 ≤ sizeLine by rw [sizeLine_eq]; omega), fun q hq => ?_⟩
              obtain ⟨W2, e2, s2, g1, g2, g3⟩ := s1.newT hq (.cons hvd (.cons hvd2 .nil))
              rw [← g2]
              exact p W2 _ (e'.trans e2) s2 (g1.trans hs1) ((((r1.mono e2).setN (i := i) (some (.ref a))).set j g3).setN (i := i) none)
      · subst ht
        exact p W1 σ1 e' s1 hs1 r1 cls dd hx0
  | no => rw [q] at p; exact p
  | _ => rw [q] at p; exact p
end
end FL
end
section
set_option Elab.async false
set_option linter.all false
set_option maxRecDepth 100000
/-! FMM: small things: texts compared, facts of own exceptions. -/
namespace FL
open PySem PySem.Spec PyProof.Rows L2
/-- <= of ints or of texts -/
def oLeA (x y : D) (st : Store) : Res D := match x, y with
  | .int i, .int j => .ok (.bl (decide (i ≤ j))) st
  | .str a, .str b => .ok (.bl (!decide (b < a))) st
  | _, _ => .no
def rLeA : R2 := fun x y H Q => rI0 (fun i j => .bl (decide (i ≤ j))) x y H Q ∨ (∃ i j, x = .str i ∧ y = .str j ∧ Q (.bl (!decide (j.cps.toList < i.cps.toList))) H)
theorem op_leA {X : Cx} : OpR X (compareOp .LtE) rLeA := op_le.or op_le_str
theorem im_leA {X : Cx} {Wx : WX} {σ : L2.St} {H : Hp} {Q : VK} {x y : V} (h : f2 (gc X) Wx (rD (gc X)) oLeA x y σ H Q) : rLeA x y H Q := by
  obtain ⟨W, d, d', rfl, s, h1, h2, p⟩ := h
  dsimp only [oLeA] at p
  split at p
  · cases h1.int_inv
    cases h2.int_inv
    exact .inl ⟨_, _, rfl, rfl, p W (Ext.refl W) s rfl _ (.bl _)⟩
  · obtain ⟨rfl, _⟩ := h1.str_inv
    obtain ⟨rfl, _⟩ := h2.str_inv
    exact .inr ⟨_, _, rfl, rfl, p W (Ext.refl W) s rfl _ (.bl _)⟩
  · exact p.elim
/-- what a class is in an except clause -/
def okOf (l : List (S × Bool)) (y : S) : Option Bool := l.lookup y
theorem okOf_ok {K : PySem.W.Frag} {C : S} {l : List (S × Bool)} (h : ∀ p ∈ l, (He.Fa.exm (toS p.1) (toS C) p.2).ok K = true) (y : S) (r : Bool) (e : okOf l y = some r) : PySem.W.exmOne K (.ref (He.ga K (toS y))) (.ref (He.ga K (toS C))) = some r :=
  He.exm_ok (h _ (lookup_mem e))
def only (l : List (S × Bool)) (C : S) : Bool := l.all fun p => !p.2 || decide (p.1 = C)
theorem only_ok {l : List (S × Bool)} {C : S} (h : only l C = true) (y : S) (e : okOf l y = some true) : y = C := by
  have q := List.all_eq_true.mp h _ (lookup_mem e)
  simpa using q
theorem find_none {K : PySem.W.Frag} {x f : Str} (c : (He.Fa.noat x f).ok K = true) : PySem.W.findIn K (.ref (He.ga K x)) f = some none := He.eqO_ok c
theorem names_of {X : Cx} {x : Str} {a : Addr} (hg : Gl X x) (hm : X.mg x = some (.ref a)) (hd : (x == ("__debug__" : Str)) = false := by decide) : Names X x (.ref a) := ⟨hg, hd, .inl hm⟩
end FL
namespace FL
open PySem PySem.Spec PyProof.Rows L2 NdefX
section
variable {P : Program} {w : World} {K : PySem.W.Frag} {mg : Str → Option Value} {base : Heap} {d : DefX} {N : List Str}
theorem rest_oneF {C : Addr} {F1 : Str} {f1 : S} {x1 : Str} {q1 q2 q3 q4 : Pos} (hF : F1 = toS f1) (T : OexC K C) (n1 : PySem.W.findIn K (.ref C) (toS f1) = some none) (hN0 : N[0]? = some ("self" : Str)) (hN1 : N[1]? = some x1) (v0 : Vis d.scope "self") (v1 : Vis d.scope x1)
    (h1 : (x1 == ("__debug__" : Str)) = false) (h2 : (x1 == ("__classdict__" : Str)) = false) :
    ∀ (X : Cx), X.K = K → X.N = N → X.env.scope = d.scope → ∃ t, PSs X [.Assign [.Attribute (.Name "self" q1) F1 q2] (.Name x1 q3) q4] t ∧ ∀ (vs : List V) (H : Hp) (Q : VK) (E : XK), spI C ([f1].map toS) vs H Q E → t { nx := fun _ H' => Q .non H', rt := Q } (startF N vs [some (.ref C)]) H := by
  subst hF
  exact rest_one T n1 hN0 hN1 v0 v1 h1 h2
theorem rest_twoF {C : Addr} {F1 F2 : Str} {f1 f2 : S} {x1 x2 : Str} {q1 q2 q3 q4 r1 r2 r3 r4 : Pos} (hF : F1 = toS f1) (hF2 : F2 = toS f2) (T : OexC K C) (n1 : PySem.W.findIn K (.ref C) (toS f1) = some none) (n2 : PySem.W.findIn K (.ref C) (toS f2) = some none) (hN0 : N[0]? = some ("self" : Str)) (hN1 : N[1]? = some x1) (hN2 : N[2]? = some x2)
    (v0 : Vis d.scope "self") (v1 : Vis d.scope x1) (v2 : Vis d.scope x2) (h1 : (x1 == ("__debug__" : Str)) = false) (h2 : (x1 == ("__classdict__" : Str)) = false) (h3 : (x2 == ("__debug__" : Str)) = false) (h4 : (x2 == ("__classdict__" : Str)) = false) :
    ∀ (X : Cx), X.K = K → X.N = N → X.env.scope = d.scope → ∃ t, PSs X [.Assign [.Attribute (.Name "self" q1) F1 q2] (.Name x1 q3) q4, .Assign [.Attribute (.Name "self" r1) F2 r2] (.Name x2 r3) r4] t ∧
      ∀ (vs : List V) (H : Hp) (Q : VK) (E : XK), spI C ([f1, f2].map toS) vs H Q E → t { nx := fun _ H' => Q .non H', rt := Q } (startF N vs [some (.ref C)]) H := by
  subst hF hF2
  exact rest_two T n1 n2 hN0 hN1 hN2 v0 v1 v2 h1 h2 h3 h4
end
section
variable {X : Cx} {x n y : Str} {body : List Stmt} {np p1 p2 p3 p4 p5 p6 pos pos' ap : Pos} {Wx : WX} {b : Ms} {l : List (S × Bool)} {f f2 C Cx' : S} {F F2 : Str} {i j : Nat} {x1 : Nat}
theorem c_tryF (hs : X.stack = X.env :: X.outer) (hf : X.env.frame = some X.env.locals) (hN : X.N.Nodup) (hi : X.N[i]? = some n) (hln : X.env.kindOf n = some .local) (hni : X.env.scope.names.lookup n = some .local) (hj : X.N[j]? = some y) (hy : X.env.scope.names.lookup y = some .local)
    (hc : Names X x (.ref (He.ga X.K (toS Cx')))) (tk : Takes X Wx) (hok : ∀ p ∈ l, (He.Fa.exm (toS p.1) (toS Cx') p.2).ok X.K = true) (hC : only l C = true) (T : xfB X.K (He.ga X.K (toS C)) = true) (hno : (He.Fa.noat (toS C) (toS f)).ok X.K = true) (hF : F = toS f)
    (hb : ∀ (W : WX) (pn : List (Addr × Obj)) (xe : Value → Shared → Prop), Takes (X.tr pn xe) W → PassesOwn (model X.prog X.w) X.A X.env xe → PSs (X.tr pn xe) body (fS (gc X) W b))
    (hd : (n == ("__debug__" : Str)) = false := by decide) (hcd : (n == ("__classdict__" : Str)) = false := by decide)
    (hsw : swapsWith (.Attribute (.Name n p2) F p3) (some (.Name y p1)) ap.line X.env = pure false := by rfl) (hab : attributeBase (.Name n p2) F X.env (eval (.Name n p2) X.env) = eval (.Name n p2) X.env := by rfl) :
    PS X (.Try body [.ExceptHandler (some (.Name x np)) (some n) [.Assign [.Name y p1] (.Attribute (.Name n p2) F p3) ap] pos'] [] [] pos) (fS (gc X) Wx (mTryF i j f (okOf l) b)) := by
  subst hF
  exact s_tryF hs hf hN hi hln hni hj hy hc tk (okOf_ok hok) (only_ok hC) (xfB_ok T) (find_none hno) hb hd hcd hsw hab
theorem c_tryG (hs : X.stack = X.env :: X.outer) (hf : X.env.frame = some X.env.locals) (hN : X.N.Nodup) (hi : X.N[i]? = some n) (hln : X.env.kindOf n = some .local) (hni : X.env.scope.names.lookup n = some .local) (hj : X.N[j]? = some y) (hy : X.env.scope.names.lookup y = some .local)
    (hc : Names X x (.ref (He.ga X.K (toS Cx')))) (tk : Takes X Wx) (hok : ∀ p ∈ l, (He.Fa.exm (toS p.1) (toS Cx') p.2).ok X.K = true) (hC : only l C = true) (T : xfB X.K (He.ga X.K (toS C)) = true) (hno : (He.Fa.noat (toS C) (toS f)).ok X.K = true) (hno2 : (He.Fa.noat (toS C) (toS f2)).ok X.K = true) (hF : F = toS f) (hF2 : F2 = toS f2)
    (hb : ∀ (W : WX) (pn : List (Addr × Obj)) (xe : Value → Shared → Prop), Takes (X.tr pn xe) W → PassesOwn (model X.prog X.w) X.A X.env xe → PSs (X.tr pn xe) body (fS (gc X) W b))
    (hd : (n == ("__debug__" : Str)) = false := by decide) (hcd : (n == ("__classdict__" : Str)) = false := by decide)
    (hsw : swapsWith (.Tuple [.Attribute (.Name n p2) F p3, .Attribute (.Name n p4) F2 p5] x1 p6) (some (.Name y p1)) ap.line X.env = pure false := by rfl) (hab2 : attributeBase (.Name n p4) F2 X.env (eval (.Name n p4) X.env) = eval (.Name n p4) X.env := by rfl)
    (hab : attributeBase (.Name n p2) F X.env (eval (.Name n p2) X.env) = eval (.Name n p2) X.env := by rfl) :
    PS X (.Try body [.ExceptHandler (some (.Name x np)) (some n) [.Assign [.Name y p1] (.Tuple [.Attribute (.Name n p2) F p3, .Attribute (.Name n p4) F2 p5] x1 p6) ap] pos'] [] [] pos) (fS (gc X) Wx (mTryG i j f f2 (okOf l) b)) := by
  subst hF hF2
  exact s_tryG hs hf hN hi hln hni hj hy hc tk (okOf_ok hok) (only_ok hC) (xfB_ok T) (find_none hno) (find_none hno2) hb hd hcd hsw hab2 hab
end
end FL
end
section
set_option Elab.async false
set_option linter.all false
set_option maxRecDepth 100000
/-! FMN: several clauses with and without names; own exceptions without __init__; {}; a, b, c = ..; methods. -/
namespace FL
open PySem PySem.Spec PyProof.Rows L2
/-! ### raise C() -/
section
variable {X : Cx} {C : Addr} {bmB : List Value} {B newId initId : String}
theorem pmk_own0 {x : Str} {p pos : Pos} (F : ExcBaseFacts B newId initId bmB) (q : PySem.W.excIn X.K C bmB newId = true) (gC : X.mg x = some (.ref C)) (kC : PySem.W.keepIn X.K (.ref C) = true) (r : Raises X (.ref C)) (hg : Gl X x)
    (hdb : (x == ("__debug__" : Str)) = false := by decide) : PMk X (.Call (.Name x p) [] [] pos) (fun _ H Q => Q (.ref C) none H) := by
  intro pins s σ H Q I h
  refine wpAny_Call_Name_kw (ld_glob I hg gC ?_ hdb)
  refine PySem.W.callWith_K0 I.kIn kC ?_
  show wpAny _ _ (call (.ref C) []) _ _ _
  obtain ⟨bm, N, nm, qn, bs, hdct, sn, sub, ab, col, dd, k0, k1, k2, k3, k5, mN, hC, hN, hni, T⟩ := exc_obj I.kIn q
  refine wpAny_call_exc_subT F T hC hN hni (fun h' e hm => ?_) (Nat.zero_le _)
  exact mk_of I hm r h (I.hok.gone hm.new)
end
abbrev veMro : List Value := [.type "ValueError", .type "Exception", .type "BaseException", .type "object"]
/-- a class of our own over ValueError without __init__ -/
def ownXB (K : PySem.W.Frag) (c : S) : Bool := PySem.W.excIn K (He.ga K (toS c)) veMro "ValueError.__new__" && (PySem.W.keepIn K (.ref (He.ga K (toS c))) &&
  (decide (PySem.W.subIn K (.ref (He.ga K (toS c))) (.type "BaseException") = some true) && decide (PySem.W.typeIn K (.ref (He.ga K (toS c))) = some (.type "type"))))
def mRaise0 (c : S) : Ms := fun e st => .exc (c, []) e st
theorem c_raise0 {X : Cx} {Wx : WX} {c : S} {x : Str} {p pos pos2 : Pos} (hc : X.calm = true) (tk : Takes X Wx) (hg : Gl X x) (hm : X.mg x = some (.ref (He.ga X.K (toS c)))) (ho : ownXB X.K c = true) (hdb : (x == ("__debug__" : Str)) = false := by decide) :
    PS X (.Raise (some (.Call (.Name x p) [] [] pos)) none pos2) (fS (gc X) Wx (mRaise0 c)) := by
  obtain ⟨h1, ho⟩ := ba2 ho
  obtain ⟨h2, ho⟩ := ba2 ho
  obtain ⟨h3, h4⟩ := ba2 ho
  refine PS.imp (ps_raise hc tk (pmk_own0 PySem.F.excBase_ValueError h1 hm h2 (raises_own (of_decide_eq_true h3) (of_decide_eq_true h4)) hg hdb)) fun D σ H h => ?_
  obtain ⟨W, env, rfl, s, r, p⟩ := h
  exact p W σ (Ext.refl W) s rfl r _ _ ⟨rfl, rfl⟩

/-! ### clauses with and without names -/
def wMix (K : PySem.W.Frag) (Wout : WX) (D : Ends) : List (Value × Option Nat × (Addr → Value → Option Addr → TS)) → WX
  | [] => Wout
  | (c, none, ts) :: r => fun cls d σ H => ∃ b, PySem.W.exmOne K cls c = some b ∧ (b = true → ∀ a, H a = none → ts a cls d D σ H) ∧ (b = false → wMix K Wout D r cls d σ H)
  | (c, some i, ts) :: r => fun cls d σ H => ∃ b, PySem.W.exmOne K cls c = some b ∧ (b = true → ∀ a, H a = none → ts a cls d { nx := fun σ' H' => D.nx (σ'.set i none) H', rt := D.rt, bk := fun σ' H' => D.bk (σ'.set i none) H', ct := fun σ' H' => D.ct (σ'.set i none) H' } (σ.set i (some (.ref a))) H) ∧
    (b = false → wMix K Wout D r cls d σ H)
inductive HdsMix (X : Cx) : List ExceptHandler → List (Value × Option Nat × (Addr → Value → Option Addr → TS)) → Prop
  | nil : HdsMix X [] []
  | cons {x : Str} {c : Value} {ts : Addr → Value → Option Addr → TS} {b₀ : Stmt} {suite : List Stmt} {np pos' : Pos} {hds : List ExceptHandler} {l : List (Value × Option Nat × (Addr → Value → Option Addr → TS))} (hc : Names X x c)
      (hsu : ∀ (a : Addr) (oe : Obj) (cls : Value) (d : Option Addr) (pn : List (Addr × Obj)), Zc cls d oe → (∃ vs, oe.data = .fields vs) → PSs (X.suite a ((a, oe) :: pn)) (b₀ :: suite) (ts a cls d)) (r : HdsMix X hds l) :
      HdsMix X (.ExceptHandler (some (.Name x np)) none (b₀ :: suite) pos' :: hds) ((c, none, ts) :: l)
  | consN {x n : Str} {i : Nat} {c : Value} {ts : Addr → Value → Option Addr → TS} {b₀ : Stmt} {suite : List Stmt} {np pos' : Pos} {hds : List ExceptHandler} {l : List (Value × Option Nat × (Addr → Value → Option Addr → TS))} (hc : Names X x c) (hi : X.N[i]? = some n) (hln : X.env.kindOf n = some .local)
      (hsu : ∀ (a : Addr) (oe : Obj) (cls : Value) (d : Option Addr) (pn : List (Addr × Obj)), Zc cls d oe → (∃ vs, oe.data = .fields vs) → PSs (X.suite a ((a, oe) :: pn)) (b₀ :: suite) (ts a cls d)) (r : HdsMix X hds l) :
      HdsMix X (.ExceptHandler (some (.Name x np)) (some n) (b₀ :: suite) pos' :: hds) ((c, some i, ts) :: l)
section
variable {X : Cx} {body : List Stmt} {h₀ : ExceptHandler} {hds : List ExceptHandler} {l : List (Value × Option Nat × (Addr → Value → Option Addr → TS))} {pos : Pos} {tb : WX → TS} {Wout : WX}
theorem ps_try_mix (hs : X.stack = X.env :: X.outer) (hf : X.env.frame = some X.env.locals) (hN : X.N.Nodup) (tk : Takes X Wout)
    (hb : ∀ (W : WX) (pn : List (Addr × Obj)) (xe : Value → Shared → Prop), Takes (X.tr pn xe) W → PassesOwn (model X.prog X.w) X.A X.env xe → PSs (X.tr pn xe) body (tb W))
    (hh : HdsMix X (h₀ :: hds) l) : PS X (.Try body (h₀ :: hds) [] [] pos) (fun D σ H => tb (wMix X.K Wout D l) D σ H) := by
  refine ⟨fun pins s σ H D I h => ?_⟩
  have ok := I.ok
  have hfr : X.A.frames = some (X.env :: X.outer) := by rw [ok.frames, hs]
  refine wpAny_Try_except ?_
  refine wpAny_mono ((hb (wMix X.K Wout D l) (X.pn ++ pins) (fun e s₁ => wpAny (model X.prog X.w) X.A (noteFrame e X.env) (fun _ s₂ => wpAny (model X.prog X.w) X.A (setFlight e none) (fun _ s₃ =>
    wpAny (model X.prog X.w) X.A (handleBy e X.env (h₀ :: hds)) (SP X pins D) X.xe s₃) X.xe s₂) X.xe s₁) (fun u s' xx => ?_) PassesOwn.looking).run [] s σ H D (I.toTry _) h) (fun f s1 hsp => ?_) (fun e s1 he => he)
  · -- the catch
    obtain ⟨a, B, sI, pins', σ', H', cls, d, rfl, J', nb, up, sky, na, os, ag, w⟩ := xx
    have J : Inv X pins σ' H' sI := J'.ofTry ok
    have sky' : Sky B (X.env :: X.outer) a (Zc cls d) X.env.locals s'.heap := by rw [← hs]; exact sky
    show wpAny (model X.prog X.w) X.A (noteFrame (.ref a) X.env) _ _ _
    refine Sky.land Zc.steady hfr hf sky' fun h3 fl3 up3 => ?_
    have J3 : Inv X pins σ' H' { s' with heap := h3 } := J.landed nb fl3.1 (up.trans up3) os ag
    obtain ⟨oe3, vs3, he3, hz3, hd3⟩ := fl3.there
    have notFr : ∀ {h : Heap} {o : Obj} {vs : Array Value}, h.FunFrames B (X.env :: X.outer) → h.get? a = some o → o.data = .fields vs → a ∉ frs (X.env :: X.outer) := fun {h o vs} ff e dd hm => by
      obtain ⟨_, o', e', hnf⟩ := ff.mem hm
      rw [e] at e'; cases e'
      exact hnf _ dd
    have nfr := notFr fl3.2.2.1 he3 hd3
    have nL : a ≠ X.env.locals := fun z => nfr (List.mem_filterMap.mpr ⟨X.env, List.mem_cons_self, by rw [hf, z]⟩)
    have nF : a ∉ X.fs := fun hm => by
      obtain ⟨e, he, q⟩ := List.mem_filterMap.mp hm
      exact nfr (List.mem_filterMap.mpr ⟨e, List.mem_cons_of_mem _ he, q⟩)
    have S3 := J3.suite he3 hd3 na nL nF
    have go : ∀ {hds' : List ExceptHandler} {l' : List (Value × Option Nat × (Addr → Value → Option Addr → TS))}, HdsMix X hds' l' → wMix X.K Wout D l' cls d σ' H' →
        wpAny (model X.prog X.w) X.A (handleBy (.ref a) X.env hds') (SP X pins D) X.xe { s' with heap := h3 } := by
      intro hds' l' hk
      induction hk with
      | nil =>
        intro w
        refine wpAny_handleBy_nil ?_
        obtain ⟨k1, k2, k3, oe, vs, T, oT, ts', he, hz, hd, h1, hr⟩ := id fl3
        unfold PySem.passOn
        refine wpAny_bind (wpAny_field he hd h1 ?_)
        rw [if_neg (show ¬ ((Value.ref T == Value.none) = true) from by simp)]
        have fin : wpAny (model X.prog X.w) X.A (setFlight (.ref a) X.env.frame) (fun _ s4 => wpAny (model X.prog X.w) X.A (throw (.ref a) : Sem Flow) (SP X pins D) X.xe s4) X.xe { s' with heap := h3 } := by
          rw [hf]
          refine HandSPX.setFlight_upZ fl3 fun h4 hh4 up4 => wpAny_throw (tk _ _ ?_)
          exact ⟨a, B, sI, pins, σ', H', cls, d, rfl, J, nb, (up.trans up3).trans up4, .inr (.inr (by rw [hs]; exact hh4)), na, os, ag, w⟩
        first
          | exact wpAny_bind (wpAny_pure (wpAny_bind fin))
          | exact wpAny_bind fin
      | @cons x c ts b₀ suite np pos' hds2 l2 hc hsu r ih =>
        intro w
        obtain ⟨b, hb1, hyes, hno⟩ := w
        refine wpAny_handleBy_cons (codeAny_handlers_test ?_) (by intro q; cases q)
        have LT : PySem.W.Looks (model X.prog X.w) h3 (typeOf (.ref a)) cls := fun A Q E s k q => wpAny_typeOf_ref (k _ _ he3) (by rw [hz3.1]; exact q)
        have LM := PySem.W.exm_one (M := model X.prog X.w) (J3.kIn) LT hb1
        have test : ∀ {Q : Value → Shared → Prop} {E : Value → Shared → Prop}, Q c { s' with heap := h3 } → wpAny (model X.prog X.w) (X.A.mark (some (.ref a))) (eval (.Name x np) X.env) Q E { s' with heap := h3 } := fun {Q E} q => by
          obtain ⟨hg, hdbg, hm | ⟨hm, hv, hnn⟩⟩ := hc
          · exact ld_glob (X := X.suite a ((a, oe3) :: (X.pn ++ pins))) S3 hg hm q hdbg
          · exact ld_blt (X := X.suite a ((a, oe3) :: (X.pn ++ pins))) S3 hg hm hv q hnn hdbg
        refine test (LM.here ?_)
        cases b with
        | true =>
          refine codeAny_handlers_suite ?_
          refine HandSPX.lands_againZ fl3 fun h4 fl4 up4 => ?_
          have J4 : Inv X pins σ' H' { s' with heap := h4 } := J.landed nb fl4.1 ((up.trans up3).trans up4) os ag
          obtain ⟨oe4, vs4, he4, hz4, hd4⟩ := fl4.there
          have S4 := J4.suite he4 hd4 na nL nF
          refine wpAny_mono ((hsu a oe4 cls d (X.pn ++ pins) hz4 ⟨_, hd4⟩).run [] _ _ H' _ S4 (hyes rfl a na)) (fun f s6 hsp => ?_) (fun _ _ z => False.elim z)
          cases f with
          | next =>
            obtain ⟨σ6, H6, S6, q6⟩ := hsp
            exact ⟨_, _, S6.unsuite ok, q6⟩
          | brk =>
            obtain ⟨σ6, H6, S6, q6⟩ := hsp
            exact ⟨_, _, S6.unsuite ok, q6⟩
          | cont =>
            obtain ⟨σ6, H6, S6, q6⟩ := hsp
            exact ⟨_, _, S6.unsuite ok, q6⟩
          | ret u =>
            obtain ⟨v6, σ6, H6, S6, r6, q6⟩ := hsp
            exact ⟨_, _, _, S6.unsuite ok, r6, q6⟩
        | false =>
          show wpAny _ X.A (handleBy (.ref a) X.env hds2) _ _ _
          exact ih (hno rfl)
      | @consN x n i c ts b₀ suite np pos' hds2 l2 hc hi hln hsu r ih =>
        intro w
        obtain ⟨b, hb1, hyes, hno⟩ := w
        refine wpAny_handleBy_cons (codeAny_handlers_test ?_) (by intro q; cases q)
        have LT : PySem.W.Looks (model X.prog X.w) h3 (typeOf (.ref a)) cls := fun A Q E s k q => wpAny_typeOf_ref (k _ _ he3) (by rw [hz3.1]; exact q)
        have LM := PySem.W.exm_one (M := model X.prog X.w) (J3.kIn) LT hb1
        have test : ∀ {Q : Value → Shared → Prop} {E : Value → Shared → Prop}, Q c { s' with heap := h3 } → wpAny (model X.prog X.w) (X.A.mark (some (.ref a))) (eval (.Name x np) X.env) Q E { s' with heap := h3 } := fun {Q E} q => by
          obtain ⟨hg, hdbg, hm | ⟨hm, hv, hnn⟩⟩ := hc
          · exact ld_glob (X := X.suite a ((a, oe3) :: (X.pn ++ pins))) S3 hg hm q hdbg
          · exact ld_blt (X := X.suite a ((a, oe3) :: (X.pn ++ pins))) S3 hg hm hv q hnn hdbg
        refine test (LM.here ?_)
        cases b with
        | true =>
          refine codeAny_handlers_suite_as ?_
          refine HandSPX.lands_againZ fl3 fun h4 fl4 up4 => ?_
          have J4 : Inv X pins σ' H' { s' with heap := h4 } := J.landed nb fl4.1 ((up.trans up3).trans up4) os ag
          obtain ⟨oe4, vs4, he4, hz4, hd4⟩ := fl4.there
          have S4 := J4.suite he4 hd4 na nL nF
          refine store_ok (X := X.suite a ((a, oe4) :: (X.pn ++ pins))) (v := .ref a) S4 hN hi (.inl hln) rfl (fun s5 S5 => ?_) (.inr hln)
          refine wpAny_mono ((hsu a oe4 cls d (X.pn ++ pins) hz4 ⟨_, hd4⟩).run [] s5 _ H' _ S5 (hyes rfl a na)) (fun f s6 hsp => ?_) (fun _ _ z => False.elim z)
          have end_ : ∀ {σ6 : L2.St} {H6 : Hp} {Q : Shared → Prop}, Inv (X.suite a ((a, oe4) :: (X.pn ++ pins))) [] σ6 H6 s6 → (∀ s7, Inv X pins (σ6.set i none) H6 s7 → Q s7) →
              wpAny (model X.prog X.w) X.A (do bindName X.env n .none; unbindBehindTheSuite X.env n pos') (fun _ s7 => Q s7) X.xe s6 := fun {σ6 H6 Q} S6 hq => gone_ok (S6.unsuite ok) hN hi hln hq
          cases f with
          | next =>
            obtain ⟨σ6, H6, S6, q6⟩ := hsp
            exact end_ S6 fun s7 J7 => ⟨_, _, J7, q6⟩
          | brk =>
            obtain ⟨σ6, H6, S6, q6⟩ := hsp
            exact end_ S6 fun s7 J7 => ⟨_, _, J7, q6⟩
          | cont =>
            obtain ⟨σ6, H6, S6, q6⟩ := hsp
            exact end_ S6 fun s7 J7 => ⟨_, _, J7, q6⟩
          | ret u =>
            obtain ⟨v6, σ6, H6, S6, r6, q6⟩ := hsp
            exact end_ S6 fun s7 J7 => ⟨_, _, _, J7, r6, q6⟩
        | false =>
          show wpAny _ X.A (handleBy (.ref a) X.env hds2) _ _ _
          exact ih (hno rfl)
    exact go hh w
  · cases f with
    | next =>
      obtain ⟨σ', H', J', q⟩ := hsp
      exact wpAny_execs_nil ⟨σ', H', J'.ofTry ok, q⟩
    | brk =>
      obtain ⟨σ', H', J', q⟩ := hsp
      exact ⟨σ', H', J'.ofTry ok, q⟩
    | cont =>
      obtain ⟨σ', H', J', q⟩ := hsp
      exact ⟨σ', H', J'.ofTry ok, q⟩
    | ret u =>
      obtain ⟨v, σ', H', J', r, q⟩ := hsp
      exact ⟨v, σ', H', J'.ofTry ok, r, q⟩
end

/-! ### try: b, except C1: sb, except C2 as n: t = n.f -/
def mTryUF (i j : Nat) (f : S) (ok1 ok2 : S → Option Bool) (b sb : Ms) : Ms := fun e st => match b e st with
  | .exc x e1 st1 => (match ok1 x.1 with
    | some true => noExc (sb e1 st1)
    | some false => (match ok2 x.1 with
      | some true => (match x.2.lookup f with
        | some d => if i < e1.length then .nx (((e1.set i none).set j (some d)).set i none) st1 else .no
        | none => .no)
      | some false => .exc x e1 st1
      | none => .no)
    | none => .no)
  | r => r
section
variable {X : Cx} {x1 x n y : Str} {body suite : List Stmt} {b₀ : Stmt} {np1 np p1 p2 p3 pos pos1 pos' ap : Pos} {Wx : WX} {b sb : Ms} {l1 l2 : List (S × Bool)} {f C C1 Cx' : S} {F : Str} {i j : Nat}
theorem c_tryUF (hs : X.stack = X.env :: X.outer) (hf : X.env.frame = some X.env.locals) (hN : X.N.Nodup) (hi : X.N[i]? = some n) (hln : X.env.kindOf n = some .local) (hni : X.env.scope.names.lookup n = some .local) (hj : X.N[j]? = some y) (hy : X.env.scope.names.lookup y = some .local)
    (hc1 : Names X x1 (.ref (He.ga X.K (toS C1)))) (hc : Names X x (.ref (He.ga X.K (toS Cx')))) (tk : Takes X Wx) (hok1 : ∀ p ∈ l1, (He.Fa.exm (toS p.1) (toS C1) p.2).ok X.K = true) (hok : ∀ p ∈ l2, (He.Fa.exm (toS p.1) (toS Cx') p.2).ok X.K = true) (hC : only l2 C = true)
    (T : xfB X.K (He.ga X.K (toS C)) = true) (hno : (He.Fa.noat (toS C) (toS f)).ok X.K = true) (hF : F = toS f)
    (hb : ∀ (W : WX) (pn : List (Addr × Obj)) (xe : Value → Shared → Prop), Takes (X.tr pn xe) W → PassesOwn (model X.prog X.w) X.A X.env xe → PSs (X.tr pn xe) body (fS (gc X) W b))
    (hsu : ∀ (a : Addr) (pn : List (Addr × Obj)), PSs (X.suite a pn) (b₀ :: suite) (fS (gc X) (fun _ _ _ _ => False) sb))
    (hd : (n == ("__debug__" : Str)) = false := by decide) (hcd : (n == ("__classdict__" : Str)) = false := by decide)
    (hsw : swapsWith (.Attribute (.Name n p2) F p3) (some (.Name y p1)) ap.line X.env = pure false := by rfl) (hab : attributeBase (.Name n p2) F X.env (eval (.Name n p2) X.env) = eval (.Name n p2) X.env := by rfl) :
    PS X (.Try body [.ExceptHandler (some (.Name x1 np1)) none (b₀ :: suite) pos1, .ExceptHandler (some (.Name x np)) (some n) [.Assign [.Name y p1] (.Attribute (.Name n p2) F p3) ap] pos'] [] [] pos) (fS (gc X) Wx (mTryUF i j f (okOf l1) (okOf l2) b sb)) := by
  subst hF
  refine PS.imp (ps_try_mix (tb := fun W => fS (gc X) W b) hs hf hN tk hb
    (.cons hc1 (ts := fun _ _ _ => fS (gc X) (fun _ _ _ _ => False) sb) (fun a oe cls d pn _ _ => hsu a _)
      (.consN (i := i) hc hi hln (ts := fun a cls d => tAsg (tXf a cls d (He.ga X.K (toS C)) (toS f) (tVar i)) (gName j))
        (fun a oe cls d pn hz hfl => pss_one (ps_set (X := X.suite a ((a, oe) :: pn)) hN hj (.inl hy) (pe_xf (xfB_ok T) (find_none hno) hz hfl (pe_var hi (.inl hni) hd hcd) hab) hsw (.inr hy))) .nil))) fun D σ H h => ?_
  obtain ⟨W, env, rfl, s, r, p⟩ := h
  refine ⟨W, env, rfl, s, r, ?_⟩
  dsimp only [mTryUF] at p
  cases q : b env W.st with
  | exc z e1 st1 =>
    rw [q] at p
    dsimp only at p
    intro W1 σ1 e' s1 hs1 r1 cls dd hx
    have hx0 := hx
    obtain ⟨ec, hx2⟩ := hx
    cases ho1 : okOf l1 z.1 with
    | none => rw [ho1] at p; exact p.elim
    | some t1 =>
      rw [ho1] at p
      refine ⟨t1, by rw [ec]; exact okOf_ok hok1 _ _ ho1, fun ht a ha => ?_, fun ht => ?_⟩
      · subst ht
        exact ⟨W1, e1, rfl, s1, r1, by rw [hs1]; exact (PostS.ext (PostS.noE p) e')⟩
      · subst ht
        dsimp only at p
        cases ho : okOf l2 z.1 with
        | none => rw [ho] at p; exact p.elim
        | some t =>
          rw [ho] at p
          refine ⟨t, by rw [ec]; exact okOf_ok hok _ _ ho, fun ht a ha => ?_, fun ht => ?_⟩
          · subst ht
            have ez := only_ok hC _ ho
            cases hl : z.2.lookup f with
            | none => simp only [hl] at p; exact p.elim
            | some d =>
              simp only [hl] at p
              split at p
              rotate_left
              · exact p.elim
              rename_i hlt
              cases hz : z.2 with
              | nil => rw [hz] at hl; cases hl
              | cons u us =>
                rw [hz] at hx2 hl
                obtain ⟨da, vs, ed, hda, hm, k1, k2⟩ := hx2
                obtain ⟨v, hv, hvd⟩ := lookup_den k1 k2 hl
                have hlen : i < σ1.length := by
                  have := r1.1
                  omega
                refine ⟨.ref a, List.getElem?_set_self hlen, rfl, by rw [ec, ez], da, vs, v, ed, hda, hv, ?_⟩
                exact p W1 _ e' s1 hs1 (((r1.setN (i := i) (some (.ref a))).set j hvd).setN (i := i) none)
          · subst ht
            exact p W1 σ1 e' s1 hs1 r1 cls dd hx0
  | no => rw [q] at p; exact p
  | _ => rw [q] at p; exact p
end

/-! ### {} -/
def oDic0 : Me := fun _ st => .ok (.dic []) st
theorem e_dic0 {X : Cx} {Wx : WX} {pos : Pos} : PE X (.Dict [] [] pos) (fE (gc X) Wx oDic0) := PE.imp pe_dnewK fun σ H Q h => by
  obtain ⟨W, env, rfl, s, r, p⟩ := h
  intro q hq
  obtain ⟨e2, s2, n2⟩ := s.lay (o := .dK []) hq
  exact p _ e2 s2 rfl _ (.dic upd_same n2 rfl .nil)

/-! ### a, b, c = x, y, z -/
def mPar3 (i j l : Nat) (ma : Ma) : Ms := fun e st => (ma e st).flB e fun ds st1 => match ds with
  | [u, v, w] => .nx (((e.set i (some u)).set j (some v)).set l (some w)) st1
  | _ => .no
theorem s_par3 {X : Cx} {Wx : WX} {i j l : Nat} {x y z : Str} {a b c : Expr} {ma : Ma} {px py pz pt pos : Pos} {kt k2 pt2} (hc : X.calm = true) (hN : X.N.Nodup) (hi : X.N[i]? = some x) (hj : X.N[j]? = some y) (hl : X.N[l]? = some z) (hij : i ≠ j) (hil : i ≠ l) (hjl : j ≠ l)
    (hx : X.env.scope.names.lookup x = some .local) (hy : X.env.scope.names.lookup y = some .local) (hz : X.env.scope.names.lookup z = some .local) (ha : PA X [a, b, c] (fA (gc X) Wx ma))
    (hw : swappedStores [.Tuple [.Name x px, .Name y py, .Name z pz] kt pt] (.Tuple [a, b, c] k2 pt2) X.env = pure (some [x, y, z]))
    (hs : swapsWithSole [.Tuple [.Name x px, .Name y py, .Name z pz] kt pt] (.Tuple [a, b, c] k2 pt2) pos.line X.env = pure false := by rfl) :
    PS X (.Assign [.Tuple [.Name x px, .Name y py, .Name z pz] kt pt] (.Tuple [a, b, c] k2 pt2) pos) (fS (gc X) Wx (mPar3 i j l ma)) := by
  refine PS.imp (ps_par3 hc hN hi hj hl hij hil hjl hx hy hz ha hw hs) fun D σ H h => ?_
  obtain ⟨W, env, rfl, s, r, p⟩ := h
  show fA (gc X) Wx ma σ W.H fun vs H1 => ∃ u v w, vs = [u, v, w] ∧ D.nx (((σ.set i (some u)).set j (some v)).set l (some w)) H1
  refine ⟨W, env, rfl, s, r, ?_⟩
  dsimp only [mPar3] at p
  cases q : ma env W.st with
  | no => rw [q] at p; exact p
  | exc x st1 => rw [q] at p; exact fun W1 e1 s1 hs => p W1 σ e1 s1 hs (r.mono e1)
  | ok ds st1 =>
    rw [q] at p
    dsimp only [Res.flB] at p
    split at p
    · intro W1 e1 s1 hs vs hv
      cases hv with
      | cons h1 t1 => cases t1 with
        | cons h2 t2 => cases t2 with
          | cons h3 t3 =>
            cases t3
            exact ⟨_, _, _, rfl, p W1 _ e1 s1 hs ((((r.mono e1).set i h1).set j h2).set l h3)⟩
    · exact p.elim

/-! ### o.m(..) -/
section
variable {X : Cx} {Wx : WX} {j k : Nat} {ps : List Str} {F : List D → Store → Res D} {M : Str} {pos apos : Pos} {e o : Expr} {es : List Expr} {m : Me} {ml : Ma} {c f : S}
theorem c_meth {pl : Sem Bool} (hM : M = toS f) (G : FOk X.prog X.w X.K X.mg X.base (toS c, some M) k ps F) (hr : Room j X.A) (hj : k ≤ j) (hc : He.Fa.ok X.K (.cls (toS c)) = true) (hm : He.Fa.ok X.K (.meth (toS c) M) = true) (tk : Takes X Wx) (he : PE X o (fE (gc X) Wx m))
    (ha : PA X (e :: es) (fA (gc X) Wx ml)) (hst : starEach (e :: es) X.env = (false, eval e X.env) :: starEach es X.env := by rfl) (hpl : (backTo pos (starEach es X.env)).any (·.1) = false := by rfl)
    (ht : eval (.Call (.Attribute o M apos) (e :: es) [] pos) X.env = (do
      let ov ← eval o X.env
      standAt apos.atName
      let (f, first) ← holding [ov] (getMethod ov M pl)
      callWith pos f first (backTo pos (starEach (e :: es) X.env)) (backToKw pos (keywordEach [] X.env))) := by rfl) :
    PE X (.Call (.Attribute o M apos) (e :: es) [] pos) (fE (gc X) Wx (mMeth c f F m ml)) := by
  obtain ⟨fd, G, hb, hk, _⟩ := G
  exact e_meth hM he (He.cls_ok hc) (He.meth_ok hm) G (hr.mono hj) tk hb ha hst hpl ht
theorem c_meth0 {pl : Sem Bool} (hM : M = toS f) (G : FOk X.prog X.w X.K X.mg X.base (toS c, some M) k ps F) (hr : Room j X.A) (hj : k ≤ j) (hc : He.Fa.ok X.K (.cls (toS c)) = true) (hm : He.Fa.ok X.K (.meth (toS c) M) = true) (tk : Takes X Wx) (he : PE X o (fE (gc X) Wx m))
    (ht : eval (.Call (.Attribute o M apos) [] [] pos) X.env = (do
      let ov ← eval o X.env
      standAt apos.atName
      let (f, first) ← holding [ov] (getMethod ov M pl)
      callWith pos f first (backTo pos (starEach [] X.env)) (backToKw pos (keywordEach [] X.env))) := by rfl) :
    PE X (.Call (.Attribute o M apos) [] [] pos) (fE (gc X) Wx (mMeth c f F m mNil)) := by
  obtain ⟨fd, G, hb, hk, _⟩ := G
  exact e_meth0 hM he (He.cls_ok hc) (He.meth_ok hm) G (hr.mono hj) tk hb ht
end
end FL
end
section
set_option Elab.async false
set_option linter.all false
set_option maxRecDepth 100000
set_option maxHeartbeats 4000000
namespace G9
open PySem PySem.Spec PyProof.Rows L2 FL NdefX

abbrev PP : Program := PySem.Challenge.pw_opensigns_k09_sides_kept_and_refused
abbrev top (i : Nat) : Stmt := PySem.Challenge.pw_opensigns_k09_sides_kept_and_refused.main.body.getD i (.Pass ⟨0, 0, 0, 0⟩)
abbrev n_OpenError : S := [79, 112, 101, 110, 69, 114, 114, 111, 114]
abbrev n_BadPart : S := [66, 97, 100, 80, 97, 114, 116]
abbrev n_UnknownPart : S := [85, 110, 107, 110, 111, 119, 110, 80, 97, 114, 116]
abbrev n_Writer : S := [87, 114, 105, 116, 101, 114]
abbrev n_Program : S := [80, 114, 111, 103, 114, 97, 109]
abbrev K___name__ : D := .str [108, 97, 119, 95, 111, 112, 101, 110, 115, 105, 103, 110, 115, 95, 107, 48, 57, 95, 115, 105, 100, 101, 115, 95, 107, 101, 112, 116, 95, 97, 110, 100, 95, 114, 101, 102, 117, 115, 101, 100]
abbrev K_AGAIN : D := .tup [.str [97, 108, 108], .str [110, 101, 119], .str [110, 111, 110, 101]]
abbrev K_GOES : D := .tup [.str [99, 111, 109, 109, 105, 116, 115], .str [100, 114, 111, 112, 115]]
abbrev K_PARTS : D := .tup [.str [99, 104, 97, 110, 103, 101, 115], .str [99, 117, 114, 115, 111, 114], .str [99, 117, 116, 115], .str [104, 101, 97, 114, 115], .str [115, 101, 110, 100, 115]]
abbrev K_WORDS : D := .tup [.str [97, 110, 101, 119], .str [99, 117, 116], .str [102, 114, 111, 110, 116], .str [109, 111, 118, 101], .str [115, 101, 110, 100], .str [116, 117, 114, 110]]
abbrev T_CHOICES : List (S × D) := [([99, 104, 97, 110, 103, 101, 115], .tup [.str [110, 111, 119], .str [119, 97, 105, 116, 115]]), ([99, 117, 114, 115, 111, 114], .tup [.str [110, 111, 119], .str [119, 97, 105, 116, 115]]), ([99, 117, 116, 115], .tup [.str [110, 111, 119], .str [119, 97, 105, 116, 115]]), ([104, 101, 97, 114, 115], .tup [.str [99, 108, 111, 115, 101, 100], .str [101, 97, 99, 104]]), ([115, 101, 110, 100, 115], .tup [.str [97, 108, 108], .str [99, 108, 111, 115, 101, 100], .str [119, 97, 105, 116, 115]])]
abbrev st__law_random : Stmt := (top 15)
def d__law_random : He.DefD := ⟨("_law_random", none), "_law_random", "_law_random", defArgs st__law_random, defBody st__law_random, defScope st__law_random, [], []⟩
abbrev N__law_random : List Str := ["_law_script", "_law_salt", "_law_seed", "_law_cell"]
abbrev P__law_random : List Str := ["_law_script", "_law_salt"]
theorem sc__law_random : FnScope N__law_random P__law_random (defScope st__law_random) := sc_of (by decide +kernel)
theorem nd__law_random : (N__law_random).Nodup := by decide +kernel
def b__law_random : Ms := (mSeq (mSet 2 (aVar 1)) (mSeq (mFor (iScr (aVar 0)) (gN 3) (mSet 2 (a2 oMod (aL (on1 oInt) (mCons (a2 oAdd (a2 (oMu false) (aVar 2) (aC (.int 31))) (aL (on1 oAbs) (mCons (aVar 3) mNil))) mNil)) (aC (.int 2147483647))))) (mRet (a2 (oCat true) (aL oLst (mCons (aVar 2) (mCons (aC (.int 0)) mNil))) (mLc [3] (iScr (aVar 0)) (gN 3) (tB (a2 oGe (aVar 3) (a2 oPow (aC (.int 10)) (aC (.int 18))))) (aVar 3))))))
def F__law_random : List D → Store → Res D := mkF true 2 4 b__law_random
abbrev st_is_one_of : Stmt := (top 10)
def d_is_one_of : He.DefD := ⟨("is_one_of", none), "is_one_of", "is_one_of", defArgs st_is_one_of, defBody st_is_one_of, defScope st_is_one_of, [], []⟩
abbrev N_is_one_of : List Str := ["value", "some"]
abbrev P_is_one_of : List Str := ["value", "some"]
theorem sc_is_one_of : FnScope N_is_one_of P_is_one_of (defScope st_is_one_of) := sc_of (by decide +kernel)
theorem nd_is_one_of : (N_is_one_of).Nodup := by decide +kernel
def b_is_one_of : Ms := (mRet (mAn (a1 (oIsiT .str []) (aVar 0)) (a2 (oIn false) (aVar 0) (aVar 1))))
def F_is_one_of : List D → Store → Res D := mkF false 2 2 b_is_one_of
abbrev st_are_words : Stmt := (top 11)
def d_are_words : He.DefD := ⟨("are_words", none), "are_words", "are_words", defArgs st_are_words, defBody st_are_words, defScope st_are_words, [], []⟩
abbrev N_are_words : List Str := ["value", "word"]
abbrev P_are_words : List Str := ["value"]
theorem sc_are_words : FnScope N_are_words P_are_words (defScope st_are_words) := sc_of (by decide +kernel)
theorem nd_are_words : (N_are_words).Nodup := by decide +kernel
def b_are_words : Ms := (mSeq (mIfS (tO (tN (tB (a1 (oIsiT .tup []) (aVar 0)))) (tN (tB (aL (on1 oAll) (mCons (mLc [1] (iSq (aVar 0)) (gN 1) tYe (aL F_is_one_of (mCons (aVar 1) (mCons (aC K_WORDS) mNil)))) mNil))))) (mRet (aC (.bl false))) mPass) (mRet (a2 oEq (aL (on1 oListOf) (mCons (aVar 0) mNil)) (a1 oSortSet (aVar 0)))))
def F_are_words : List D → Store → Res D := mkF false 1 2 b_are_words
abbrev st_Program_init : Stmt := (inClass (top 13) 0)
def d_Program_init : He.DefD := ⟨(toS n_Program, some "__init__"), "__init__", "Program.__init__", defArgs st_Program_init, defBody st_Program_init, defScope st_Program_init, [], []⟩
abbrev N_Program_init : List Str := ["self", "changes", "cursor", "cuts", "hears", "sends", "words", "part", "word"]
abbrev P_Program_init : List Str := ["self", "changes", "cursor", "cuts", "hears", "sends", "words"]
theorem sc_Program_init : FnScope N_Program_init P_Program_init (defScope st_Program_init) := sc_of (by decide +kernel)
theorem nd_Program_init : (N_Program_init).Nodup := by decide +kernel
def b_Program_init : Ms := (mSeq (mFor (iZp (mCons (aC K_PARTS) (mCons (aL oTup (mCons (aVar 1) (mCons (aVar 2) (mCons (aVar 3) (mCons (aVar 4) (mCons (aVar 5) mNil)))))) mNil))) (gTp 2 (gCo (gN 7) (gCo (gN 8) gNl))) (mIfS (tN (tB (aL F_is_one_of (mCons (aVar 8) (mCons (a1 (oKGet T_CHOICES) (aVar 7)) mNil))))) (mRaise n_BadPart [[110, 97, 109, 101]] (mCons (aVar 7) mNil)) mPass)) (mSeq (mIfS (tN (tB (aL F_are_words (mCons (aVar 6) mNil)))) (mRaise n_BadPart [[110, 97, 109, 101]] (mCons (aC (.str [119, 111, 114, 100, 115])) mNil)) mPass) (mFld n_Program [114, 117, 108, 101] (aVar 0) (aL oTup (mCons (aVar 1) (mCons (aVar 2) (mCons (aVar 3) (mCons (aVar 4) (mCons (aVar 5) (mCons (aVar 6) mNil))))))))))
def F_Program_init : List D → Store → Res D := mkF false 7 9 b_Program_init
abbrev st__law_below : Stmt := (top 16)
def d__law_below : He.DefD := ⟨("_law_below", none), "_law_below", "_law_below", defArgs st__law_below, defBody st__law_below, defScope st__law_below, [], []⟩
abbrev N__law_below : List Str := ["_law_d", "_law_size", "_law_result"]
abbrev P__law_below : List Str := ["_law_d", "_law_size"]
theorem sc__law_below : FnScope N__law_below P__law_below (defScope st__law_below) := sc_of (by decide +kernel)
theorem nd__law_below : (N__law_below).Nodup := by decide +kernel
def b__law_below : Ms := (mSeq (mIfS (tAn (tB (a2 oEq (a2 oIx (aVar 0) (aC (.int 1))) (aC (.int 0)))) (tB (a2 oGt (aL (on1 oLen) (mCons (aVar 0) mNil)) (aC (.int 2))))) (mAsgO (mBm tyL lPopAt (aVar 0) (mCons (aC (.int 2)) mNil)) (gIx (aVar 0) (aC (.int 1)))) mPass) (mSeq (mIfS (tB (a2 oGt (a2 oIx (aVar 0) (aC (.int 1))) (aC (.int 0)))) (mSeq (mSet 2 (a2 oMod (aL (on1 oInt) (mCons (a2 oIx (aVar 0) (aC (.int 1))) mNil)) (aVar 1))) (mSeq (mAsgO (a2 oDiv (a2 oIx (aVar 0) (aC (.int 1))) (aVar 1)) (gIx (aVar 0) (aC (.int 1)))) (mRet (aVar 2)))) mPass) (mSeq (mAsgO (a2 oMod (aL (on1 oInt) (mCons (a2 oAdd (a2 (oMu false) (a2 oIx (aVar 0) (aC (.int 0))) (aC (.int 48271))) (aC (.int 11))) mNil)) (aC (.int 2147483647))) (gIx (aVar 0) (aC (.int 0)))) (mRet (a2 oMod (aL (on1 oInt) (mCons (a2 oDiv (a2 oIx (aVar 0) (aC (.int 0))) (aC (.int 64))) mNil)) (aVar 1))))))
def F__law_below : List D → Store → Res D := mkF false 2 3 b__law_below
abbrev st__law_pick : Stmt := (top 17)
def d__law_pick : He.DefD := ⟨("_law_pick", none), "_law_pick", "_law_pick", defArgs st__law_pick, defBody st__law_pick, defScope st__law_pick, [], []⟩
abbrev N__law_pick : List Str := ["_law_d", "_law_items"]
abbrev P__law_pick : List Str := ["_law_d", "_law_items"]
theorem sc__law_pick : FnScope N__law_pick P__law_pick (defScope st__law_pick) := sc_of (by decide +kernel)
theorem nd__law_pick : (N__law_pick).Nodup := by decide +kernel
def b__law_pick : Ms := (mRet (a2 oIx (aVar 1) (aL F__law_below (mCons (aVar 0) (mCons (aL (on1 oLen) (mCons (aVar 1) mNil)) mNil)))))
def F__law_pick : List D → Store → Res D := mkF false 2 2 b__law_pick
abbrev st_Writer_init : Stmt := (inClass (top 12) 0)
def d_Writer_init : He.DefD := ⟨(toS n_Writer, some "__init__"), "__init__", "Writer.__init__", defArgs st_Writer_init, defBody st_Writer_init, defScope st_Writer_init, [], []⟩
abbrev N_Writer_init : List Str := ["self", "again", "goes"]
abbrev P_Writer_init : List Str := ["self", "again", "goes"]
theorem sc_Writer_init : FnScope N_Writer_init P_Writer_init (defScope st_Writer_init) := sc_of (by decide +kernel)
theorem nd_Writer_init : (N_Writer_init).Nodup := by decide +kernel
def b_Writer_init : Ms := (mSeq (mIfS (tN (tB (aL F_is_one_of (mCons (aVar 1) (mCons (aC K_AGAIN) mNil))))) (mRaise n_BadPart [[110, 97, 109, 101]] (mCons (aC (.str [97, 103, 97, 105, 110])) mNil)) mPass) (mSeq (mIfS (tN (tB (aL F_is_one_of (mCons (aVar 2) (mCons (aC K_GOES) mNil))))) (mRaise n_BadPart [[110, 97, 109, 101]] (mCons (aC (.str [103, 111, 101, 115])) mNil)) mPass) (mFld n_Writer [116, 111, 108, 100] (aVar 0) (aL oTup (mCons (aVar 1) (mCons (aVar 2) mNil))))))
def F_Writer_init : List D → Store → Res D := mkF false 3 3 b_Writer_init
abbrev st_Writer_again : Stmt := (inClass (top 12) 1)
def d_Writer_again : DefQ := ⟨fun K => propAt K (toS n_Writer) "again", "again", "Writer.again", defArgs st_Writer_again, defBody st_Writer_again, defScope st_Writer_again⟩
abbrev N_Writer_again : List Str := ["self"]
abbrev P_Writer_again : List Str := ["self"]
theorem sc_Writer_again : FnScope N_Writer_again P_Writer_again (defScope st_Writer_again) := sc_of (by decide +kernel)
theorem nd_Writer_again : (N_Writer_again).Nodup := by decide +kernel
def b_Writer_again : Ms := (mRet (a2 oIx (a1 (oFld n_Writer [116, 111, 108, 100]) (aVar 0)) (aC (.int 0))))
def F_Writer_again : List D → Store → Res D := mkF false 1 1 b_Writer_again
abbrev st_Writer_goes : Stmt := (inClass (top 12) 2)
def d_Writer_goes : DefQ := ⟨fun K => propAt K (toS n_Writer) "goes", "goes", "Writer.goes", defArgs st_Writer_goes, defBody st_Writer_goes, defScope st_Writer_goes⟩
abbrev N_Writer_goes : List Str := ["self"]
abbrev P_Writer_goes : List Str := ["self"]
theorem sc_Writer_goes : FnScope N_Writer_goes P_Writer_goes (defScope st_Writer_goes) := sc_of (by decide +kernel)
theorem nd_Writer_goes : (N_Writer_goes).Nodup := by decide +kernel
def b_Writer_goes : Ms := (mRet (a2 oIx (a1 (oFld n_Writer [116, 111, 108, 100]) (aVar 0)) (aC (.int 1))))
def F_Writer_goes : List D → Store → Res D := mkF false 1 1 b_Writer_goes
abbrev st_Program_changes : Stmt := (inClass (top 13) 1)
def d_Program_changes : DefQ := ⟨fun K => propAt K (toS n_Program) "changes", "changes", "Program.changes", defArgs st_Program_changes, defBody st_Program_changes, defScope st_Program_changes⟩
abbrev N_Program_changes : List Str := ["self"]
abbrev P_Program_changes : List Str := ["self"]
theorem sc_Program_changes : FnScope N_Program_changes P_Program_changes (defScope st_Program_changes) := sc_of (by decide +kernel)
theorem nd_Program_changes : (N_Program_changes).Nodup := by decide +kernel
def b_Program_changes : Ms := (mRet (a2 oIx (a1 (oFld n_Program [114, 117, 108, 101]) (aVar 0)) (aC (.int 0))))
def F_Program_changes : List D → Store → Res D := mkF false 1 1 b_Program_changes
abbrev st_Program_cursor : Stmt := (inClass (top 13) 2)
def d_Program_cursor : DefQ := ⟨fun K => propAt K (toS n_Program) "cursor", "cursor", "Program.cursor", defArgs st_Program_cursor, defBody st_Program_cursor, defScope st_Program_cursor⟩
abbrev N_Program_cursor : List Str := ["self"]
abbrev P_Program_cursor : List Str := ["self"]
theorem sc_Program_cursor : FnScope N_Program_cursor P_Program_cursor (defScope st_Program_cursor) := sc_of (by decide +kernel)
theorem nd_Program_cursor : (N_Program_cursor).Nodup := by decide +kernel
def b_Program_cursor : Ms := (mRet (a2 oIx (a1 (oFld n_Program [114, 117, 108, 101]) (aVar 0)) (aC (.int 1))))
def F_Program_cursor : List D → Store → Res D := mkF false 1 1 b_Program_cursor
abbrev st_Program_cuts : Stmt := (inClass (top 13) 3)
def d_Program_cuts : DefQ := ⟨fun K => propAt K (toS n_Program) "cuts", "cuts", "Program.cuts", defArgs st_Program_cuts, defBody st_Program_cuts, defScope st_Program_cuts⟩
abbrev N_Program_cuts : List Str := ["self"]
abbrev P_Program_cuts : List Str := ["self"]
theorem sc_Program_cuts : FnScope N_Program_cuts P_Program_cuts (defScope st_Program_cuts) := sc_of (by decide +kernel)
theorem nd_Program_cuts : (N_Program_cuts).Nodup := by decide +kernel
def b_Program_cuts : Ms := (mRet (a2 oIx (a1 (oFld n_Program [114, 117, 108, 101]) (aVar 0)) (aC (.int 2))))
def F_Program_cuts : List D → Store → Res D := mkF false 1 1 b_Program_cuts
abbrev st_Program_hears : Stmt := (inClass (top 13) 4)
def d_Program_hears : DefQ := ⟨fun K => propAt K (toS n_Program) "hears", "hears", "Program.hears", defArgs st_Program_hears, defBody st_Program_hears, defScope st_Program_hears⟩
abbrev N_Program_hears : List Str := ["self"]
abbrev P_Program_hears : List Str := ["self"]
theorem sc_Program_hears : FnScope N_Program_hears P_Program_hears (defScope st_Program_hears) := sc_of (by decide +kernel)
theorem nd_Program_hears : (N_Program_hears).Nodup := by decide +kernel
def b_Program_hears : Ms := (mRet (a2 oIx (a1 (oFld n_Program [114, 117, 108, 101]) (aVar 0)) (aC (.int 3))))
def F_Program_hears : List D → Store → Res D := mkF false 1 1 b_Program_hears
abbrev st_Program_sends : Stmt := (inClass (top 13) 5)
def d_Program_sends : DefQ := ⟨fun K => propAt K (toS n_Program) "sends", "sends", "Program.sends", defArgs st_Program_sends, defBody st_Program_sends, defScope st_Program_sends⟩
abbrev N_Program_sends : List Str := ["self"]
abbrev P_Program_sends : List Str := ["self"]
theorem sc_Program_sends : FnScope N_Program_sends P_Program_sends (defScope st_Program_sends) := sc_of (by decide +kernel)
theorem nd_Program_sends : (N_Program_sends).Nodup := by decide +kernel
def b_Program_sends : Ms := (mRet (a2 oIx (a1 (oFld n_Program [114, 117, 108, 101]) (aVar 0)) (aC (.int 4))))
def F_Program_sends : List D → Store → Res D := mkF false 1 1 b_Program_sends
abbrev st_Program_words : Stmt := (inClass (top 13) 6)
def d_Program_words : DefQ := ⟨fun K => propAt K (toS n_Program) "words", "words", "Program.words", defArgs st_Program_words, defBody st_Program_words, defScope st_Program_words⟩
abbrev N_Program_words : List Str := ["self"]
abbrev P_Program_words : List Str := ["self"]
theorem sc_Program_words : FnScope N_Program_words P_Program_words (defScope st_Program_words) := sc_of (by decide +kernel)
theorem nd_Program_words : (N_Program_words).Nodup := by decide +kernel
def b_Program_words : Ms := (mRet (a2 oIx (a1 (oFld n_Program [114, 117, 108, 101]) (aVar 0)) (aC (.int 5))))
def F_Program_words : List D → Store → Res D := mkF false 1 1 b_Program_words
abbrev st_Program_eq : Stmt := (inClass (top 13) 8)
def d_Program_eq : He.DefD := ⟨(toS n_Program, some "__eq__"), "__eq__", "Program.__eq__", defArgs st_Program_eq, defBody st_Program_eq, defScope st_Program_eq, [], []⟩
abbrev N_Program_eq : List Str := ["self", "other"]
abbrev P_Program_eq : List Str := ["self", "other"]
theorem sc_Program_eq : FnScope N_Program_eq P_Program_eq (defScope st_Program_eq) := sc_of (by decide +kernel)
theorem nd_Program_eq : (N_Program_eq).Nodup := by decide +kernel
def b_Program_eq : Ms := (mRet (mAn (a1 (oIsiC [(n_Program, true)]) (aVar 1)) (a2 oEq (a1 (oFld n_Program [114, 117, 108, 101]) (aVar 0)) (a1 (oFld n_Program [114, 117, 108, 101]) (aVar 1)))))
def F_Program_eq : List D → Store → Res D := mkF false 2 2 b_Program_eq
abbrev st_Writer_eq : Stmt := (inClass (top 12) 3)
def d_Writer_eq : He.DefD := ⟨(toS n_Writer, some "__eq__"), "__eq__", "Writer.__eq__", defArgs st_Writer_eq, defBody st_Writer_eq, defScope st_Writer_eq, [], []⟩
abbrev N_Writer_eq : List Str := ["self", "other"]
abbrev P_Writer_eq : List Str := ["self", "other"]
theorem sc_Writer_eq : FnScope N_Writer_eq P_Writer_eq (defScope st_Writer_eq) := sc_of (by decide +kernel)
theorem nd_Writer_eq : (N_Writer_eq).Nodup := by decide +kernel
def b_Writer_eq : Ms := (mRet (mAn (a1 (oIsiC [(n_Writer, true), (n_Program, false)]) (aVar 1)) (a2 oEq (a1 (oFld n_Writer [116, 111, 108, 100]) (aVar 0)) (a1 (oFld n_Writer [116, 111, 108, 100]) (aVar 1)))))
def F_Writer_eq : List D → Store → Res D := mkF false 2 2 b_Writer_eq
abbrev st__law_equal : Stmt := (top 18)
def d__law_equal : He.DefD := ⟨("_law_equal", none), "_law_equal", "_law_equal", defArgs st__law_equal, defBody st__law_equal, defScope st__law_equal, [], []⟩
abbrev N__law_equal : List Str := ["_law_actual", "_law_expected", "_law_k", "_law_key"]
abbrev P__law_equal : List Str := ["_law_actual", "_law_expected"]
theorem sc__law_equal : FnScope N__law_equal P__law_equal (defScope st__law_equal) := sc_of (by decide +kernel)
theorem nd__law_equal : (N__law_equal).Nodup := by decide +kernel
def b__law_equal (Fr : List D → Store → Res D) : Ms := (mSeq (mIfS (tB (a1 (oIsN false) (aVar 1))) (mRet (a1 (oIsN false) (aVar 0))) mPass) (mSeq (mIfS (tB (a1 (oIsiT .bl []) (aVar 1))) (mRet (mAn (a1 (oIsiT .bl []) (aVar 0)) (a2 oEq (aVar 0) (aVar 1)))) mPass) (mSeq (mIfS (tB (a1 (oIsiT .int []) (aVar 1))) (mRet (mAn (a1 (oIsiT .int []) (aVar 0)) (mAn (mN (a1 (oIsiT .bl []) (aVar 0))) (a2 oEq (aVar 0) (aVar 1))))) mPass) (mSeq (mIfS (tB (a1 (oIsiT .str []) (aVar 1))) (mRet (mAn (a1 (oIsiT .str []) (aVar 0)) (a2 oEq (aVar 0) (aVar 1)))) mPass) (mSeq (mIfS (tB (a1 (oIsiT .dic []) (aVar 1))) mNever mPass) (mSeq (mIfS (tB (a2 oNe (a1 (oIsiT .tup []) (aVar 1)) (a1 (oIsiT .tup []) (aVar 0)))) (mRet (aC (.bl false))) mPass) (mSeq (mIfS (tB (a2 oNe (a1 (oIsiT .lst []) (aVar 1)) (a1 (oIsiT .lst []) (aVar 0)))) (mRet (aC (.bl false))) mPass) (mSeq (mIfS (tB (a2 oNe (aL (on1 oLen) (mCons (aVar 0) mNil)) (aL (on1 oLen) (mCons (aVar 1) mNil)))) (mRet (aC (.bl false))) mPass) (mRet (aL (on1 oAll) (mCons (mLc [2] (iR1 (mCons (aL (on1 oLen) (mCons (aVar 1) mNil)) mNil)) (gN 2) tYe (aL Fr (mCons (a2 oIx (aVar 0) (aVar 2)) (mCons (a2 oIx (aVar 1) (aVar 2)) mNil)))) mNil)))))))))))
def F__law_equal : Nat → List D → Store → Res D
  | 0 => fun _ _ => .no
  | n + 1 => mkF false 2 4 (b__law_equal (F__law_equal n))
abbrev st_Program_changed : Stmt := (inClass (top 13) 7)
def d_Program_changed : He.DefD := ⟨(toS n_Program, some "changed"), "changed", "Program.changed", defArgs st_Program_changed, defBody st_Program_changed, defScope st_Program_changed, [], []⟩
abbrev N_Program_changed : List Str := ["self", "part", "word", "at", "rule"]
abbrev P_Program_changed : List Str := ["self", "part", "word"]
theorem sc_Program_changed : FnScope N_Program_changed P_Program_changed (defScope st_Program_changed) := sc_of (by decide +kernel)
theorem nd_Program_changed : (N_Program_changed).Nodup := by decide +kernel
def b_Program_changed : Ms := (mSeq (mIfS (tN (tB (aL F_is_one_of (mCons (aVar 1) (mCons (aC K_PARTS) mNil))))) (mRaise0 n_UnknownPart) mPass) (mSeq (mSet 3 (aL (fun vs st => tIdx (K_PARTS) vs st) (mCons (aVar 1) mNil))) (mSeq (mSet 4 (aL oTup (mStar (mSl (a1 (oFld n_Program [114, 117, 108, 101]) (aVar 0)) oNone (a1 toI (aVar 3))) (mCons (aVar 2) (mStar (mSl (a1 (oFld n_Program [114, 117, 108, 101]) (aVar 0)) (a1 toI (a2 oAdd (aVar 3) (aC (.int 1)))) oNone) mNil))))) (mRet (mMake true n_Program F_Program_init (mCons (a2 oIx (aVar 4) (aC (.int 0))) (mCons (a2 oIx (aVar 4) (aC (.int 1))) (mCons (a2 oIx (aVar 4) (aC (.int 2))) (mCons (a2 oIx (aVar 4) (aC (.int 3))) (mCons (a2 oIx (aVar 4) (aC (.int 4))) (mCons (a2 oIx (aVar 4) (aC (.int 5))) mNil)))))))))))
def F_Program_changed : List D → Store → Res D := mkF false 3 5 b_Program_changed
abbrev st__law_changing : Stmt := (top 20)
def d__law_changing : He.DefD := ⟨("_law_changing", none), "_law_changing", "_law_changing", defArgs st__law_changing, defBody st__law_changing, defScope st__law_changing, [], []⟩
abbrev N__law_changing : List Str := ["_law_program", "_law_part", "_law_word", "_law_told_here", "e", "_law_found"]
abbrev P__law_changing : List Str := ["_law_program", "_law_part", "_law_word"]
theorem sc__law_changing : FnScope N__law_changing P__law_changing (defScope st__law_changing) := sc_of (by decide +kernel)
theorem nd__law_changing : (N__law_changing).Nodup := by decide +kernel
def b__law_changing : Ms := (mSeq (mSet 3 (aC .non)) (mSeq (mTryUF 4 3 [110, 97, 109, 101] (okOf [(n_UnknownPart, true), (n_BadPart, false)]) (okOf [(n_UnknownPart, false), (n_BadPart, true)]) (mSeq (mSet 5 (mMeth n_Program [99, 104, 97, 110, 103, 101, 100] F_Program_changed (aVar 0) (mCons (aVar 1) (mCons (aVar 2) mNil)))) (mSet 3 (aL oLst (mCons (a1 (oProp n_Program F_Program_changes) (aVar 5)) (mCons (a1 (oProp n_Program F_Program_cursor) (aVar 5)) (mCons (a1 (oProp n_Program F_Program_cuts) (aVar 5)) (mCons (a1 (oProp n_Program F_Program_hears) (aVar 5)) (mCons (a1 (oProp n_Program F_Program_sends) (aVar 5)) (mCons (a1 (oProp n_Program F_Program_words) (aVar 5)) mNil))))))))) (mSet 3 (aC (.str [112, 97, 114, 116])))) (mRet (aVar 3))))
def F__law_changing : List D → Store → Res D := mkF false 3 6 b__law_changing
abbrev st__law_told : Stmt := (top 19)
def d__law_told : He.DefD := ⟨("_law_told", none), "_law_told", "_law_told", defArgs st__law_told, defBody st__law_told, defScope st__law_told, [], []⟩
abbrev N__law_told : List Str := ["_law_values", "_law_told_here", "e"]
abbrev P__law_told : List Str := ["_law_values"]
theorem sc__law_told : FnScope N__law_told P__law_told (defScope st__law_told) := sc_of (by decide +kernel)
theorem nd__law_told : (N__law_told).Nodup := by decide +kernel
def b__law_told : Ms := (mSeq (mSet 1 (aC .non)) (mSeq (mTryF 2 1 [110, 97, 109, 101] (okOf [(n_BadPart, true)]) (mIfS (tB (a2 oEq (aL (on1 oLen) (mCons (aVar 0) mNil)) (aC (.int 2)))) (mExpr (mMake true n_Writer F_Writer_init (mCons (a2 oIx (aVar 0) (aC (.int 0))) (mCons (a2 oIx (aVar 0) (aC (.int 1))) mNil)))) (mExpr (mMake true n_Program F_Program_init (mCons (a2 oIx (aVar 0) (aC (.int 0))) (mCons (a2 oIx (aVar 0) (aC (.int 1))) (mCons (a2 oIx (aVar 0) (aC (.int 2))) (mCons (a2 oIx (aVar 0) (aC (.int 3))) (mCons (a2 oIx (aVar 0) (aC (.int 4))) (mCons (a2 oIx (aVar 0) (aC (.int 5))) mNil)))))))))) (mRet (aVar 1))))
def F__law_told : List D → Store → Res D := mkF false 1 3 b__law_told
abbrev st__law_tuples : Stmt := (top 22)
def d__law_tuples : He.DefD := ⟨("_law_tuples", none), "_law_tuples", "_law_tuples", defArgs st__law_tuples, defBody st__law_tuples, defScope st__law_tuples, [], []⟩
abbrev N__law_tuples : List Str := ["_law_d", "_law_word"]
abbrev P__law_tuples : List Str := ["_law_d"]
theorem sc__law_tuples : FnScope N__law_tuples P__law_tuples (defScope st__law_tuples) := sc_of (by decide +kernel)
theorem nd__law_tuples : (N__law_tuples).Nodup := by decide +kernel
def b__law_tuples : Ms := (mRet (aL (on1 oTupOf) (mCons (mLc [1] (iSq (aL oLst (mCons (aC (.str [97, 110, 101, 119])) (mCons (aC (.str [99, 117, 116])) (mCons (aC (.str [102, 114, 111, 110, 116])) (mCons (aC (.str [109, 111, 118, 101])) (mCons (aC (.str [115, 101, 110, 100])) (mCons (aC (.str [116, 117, 114, 110])) mNil)))))))) (gN 1) (tB (a2 oEq (aL F__law_below (mCons (aVar 0) (mCons (aC (.int 2)) mNil))) (aC (.int 0)))) (aVar 1)) mNil)))
def F__law_tuples : List D → Store → Res D := mkF false 1 2 b__law_tuples
abbrev st__law_some : Stmt := (top 21)
def d__law_some : He.DefD := ⟨("_law_some", none), "_law_some", "_law_some", defArgs st__law_some, defBody st__law_some, defScope st__law_some, [], []⟩
abbrev N__law_some : List Str := ["_law_found"]
abbrev P__law_some : List Str := []
theorem sc__law_some : FnScope N__law_some P__law_some (defScope st__law_some) := sc_of (by decide +kernel)
theorem nd__law_some : (N__law_some).Nodup := by decide +kernel
def b__law_some : Ms := (mSeq (mSet 0 (aL oLst (mCons (aL oLst (mCons (aC (.str [97, 108, 108])) (mCons (aC (.str [110, 101, 119])) (mCons (aC (.str [110, 111, 110, 101])) mNil)))) (mCons (aL oLst (mCons (aC (.str [99, 111, 109, 109, 105, 116, 115])) (mCons (aC (.str [100, 114, 111, 112, 115])) mNil))) (mCons (aL oLst (mCons (aC (.str [110, 111, 119])) (mCons (aC (.str [119, 97, 105, 116, 115])) mNil))) (mCons (aL oLst (mCons (aC (.str [110, 111, 119])) (mCons (aC (.str [119, 97, 105, 116, 115])) mNil))) (mCons (aL oLst (mCons (aC (.str [110, 111, 119])) (mCons (aC (.str [119, 97, 105, 116, 115])) mNil))) mNil))))))) (mRet (a2 oAdd (aVar 0) (aL oLst (mCons (aL oLst (mCons (aC (.str [99, 108, 111, 115, 101, 100])) (mCons (aC (.str [101, 97, 99, 104])) mNil))) (mCons (aL oLst (mCons (aC (.str [97, 108, 108])) (mCons (aC (.str [99, 108, 111, 115, 101, 100])) (mCons (aC (.str [119, 97, 105, 116, 115])) mNil)))) mNil))))))
def F__law_some : List D → Store → Res D := mkF false 0 1 b__law_some
abbrev st_law : Stmt := (top 23)
def d_law : He.DefD := ⟨("law", none), "law", "law", defArgs st_law, defBody st_law, defScope st_law, [], []⟩
abbrev N_law : List Str := ["_law_script", "_law_d", "_law_names", "_law_values", "_law_more", "_law_program", "_law_other", "_law_told_here", "_law_k", "_law_word", "_law_odd", "_law_part", "_law_wrong", "_law_bad", "_law_at", "_law_w", "_law_p", "_law_rest", "_law_some_here"]
abbrev P_law : List Str := ["_law_script"]
theorem sc_law : FnScope N_law P_law (defScope st_law) := sc_of (by decide +kernel)
theorem nd_law : (N_law).Nodup := by decide +kernel
def b_law : Ms := (mSeq (mSet 1 (aL F__law_random (mCons (aVar 0) (mCons (aC (.int 979)) mNil)))) (mSeq (mSet 2 (aL oLst (mCons (aC (.str [97, 103, 97, 105, 110])) (mCons (aC (.str [103, 111, 101, 115])) (mCons (aC (.str [99, 104, 97, 110, 103, 101, 115])) (mCons (aC (.str [99, 117, 114, 115, 111, 114])) (mCons (aC (.str [99, 117, 116, 115])) (mCons (aC (.str [104, 101, 97, 114, 115])) (mCons (aC (.str [115, 101, 110, 100, 115])) (mCons (aC (.str [119, 111, 114, 100, 115])) mNil)))))))))) (mSeq (mSet 3 (a2 oAdd (mLc [18] (iSq (fun _ st => F__law_some [] st)) (gN 18) tYe (aL F__law_pick (mCons (aVar 1) (mCons (aVar 18) mNil)))) (aL oLst (mCons (aL F__law_tuples (mCons (aVar 1) mNil)) mNil)))) (mSeq (mSet 4 (a2 oAdd (mLc [8] (iR1 (mCons (aC (.int 7)) mNil)) (gN 8) tYe (aL F__law_pick (mCons (aVar 1) (mCons (aL oLst (mCons (a2 oIx (aVar 3) (aVar 8)) (mCons (aL F__law_pick (mCons (aVar 1) (mCons (a2 oIx (fun _ st => F__law_some [] st) (aVar 8)) mNil))) mNil))) mNil)))) (aL oLst (mCons (aL F__law_pick (mCons (aVar 1) (mCons (aL oLst (mCons (a2 oIx (aVar 3) (aC (.int 7))) (mCons (aL oTup mNil) mNil))) mNil))) mNil)))) (mSeq (mPar3 15 16 17 (mCons (mMake true n_Writer F_Writer_init (mCons (a2 oIx (aVar 3) (aC (.int 0))) (mCons (a2 oIx (aVar 3) (aC (.int 1))) mNil))) (mCons (mSl (aVar 3) (a1 toI (aC (.int 2))) oNone) (mCons (mSl (aVar 4) (a1 toI (aC (.int 2))) oNone) mNil)))) (mSeq (mSet 5 (mMake true n_Program F_Program_init (mCons (a2 oIx (aVar 16) (aC (.int 0))) (mCons (a2 oIx (aVar 16) (aC (.int 1))) (mCons (a2 oIx (aVar 16) (aC (.int 2))) (mCons (a2 oIx (aVar 16) (aC (.int 3))) (mCons (a2 oIx (aVar 16) (aC (.int 4))) (mCons (a2 oIx (aVar 16) (aC (.int 5))) mNil)))))))) (mSeq (mSet 6 (mMake true n_Program F_Program_init (mCons (a2 oIx (aVar 17) (aC (.int 0))) (mCons (a2 oIx (aVar 17) (aC (.int 1))) (mCons (a2 oIx (aVar 17) (aC (.int 2))) (mCons (a2 oIx (aVar 17) (aC (.int 3))) (mCons (a2 oIx (aVar 17) (aC (.int 4))) (mCons (a2 oIx (aVar 17) (aC (.int 5))) mNil)))))))) (mSeq (mSet 7 (aL oLst (mCons (a1 (oProp n_Writer F_Writer_again) (aVar 15)) (mCons (a1 (oProp n_Writer F_Writer_goes) (aVar 15)) (mCons (a1 (oProp n_Program F_Program_changes) (aVar 5)) (mCons (a1 (oProp n_Program F_Program_cursor) (aVar 5)) (mCons (a1 (oProp n_Program F_Program_cuts) (aVar 5)) (mCons (a1 (oProp n_Program F_Program_hears) (aVar 5)) (mCons (a1 (oProp n_Program F_Program_sends) (aVar 5)) (mCons (a1 (oProp n_Program F_Program_words) (aVar 5)) mNil)))))))))) (mSeq (mIfS (tO (tN (tB (aL (F__law_equal 3) (mCons (aVar 7) (mCons (aVar 3) mNil))))) (tB (a2 oNe (a2 (oOwn n_Writer [.inr n_Writer, .inl .tup, .inr n_Program] F_Writer_eq) (aVar 15) (mMake true n_Writer F_Writer_init (mCons (a2 oIx (aVar 4) (aC (.int 0))) (mCons (a2 oIx (aVar 4) (aC (.int 1))) mNil)))) (a2 oEq (mSl (aVar 3) oNone (a1 toI (aC (.int 2)))) (mSl (aVar 4) oNone (a1 toI (aC (.int 2)))))))) (mRet (aC (.bl false))) mPass) (mSeq (mIfS (tO (tB (a2 oNe (a2 (oOwn n_Program [.inr n_Program, .inl .tup] F_Program_eq) (aVar 5) (aVar 6)) (a2 oEq (aVar 16) (aVar 17)))) (tO (tB (a2 (oOwn n_Program [.inr n_Program, .inl .tup] F_Program_eq) (aVar 5) (aL (on1 oTupOf) (mCons (aVar 16) mNil)))) (tO (tB (a2 (oOwn n_Writer [.inr n_Writer, .inl .tup, .inr n_Program] F_Writer_eq) (aVar 15) (aL (on1 oTupOf) (mCons (mSl (aVar 3) oNone (a1 toI (aC (.int 2)))) mNil)))) (tB (a2 (oOwn n_Writer [.inr n_Writer, .inl .tup, .inr n_Program] F_Writer_eq) (aVar 15) (aVar 5)))))) (mRet (aC (.bl false))) mPass) (mSeq (mSet 8 (aL F__law_below (mCons (aVar 1) (mCons (aC (.int 5)) mNil)))) (mSeq (mSet 9 (aL F__law_pick (mCons (aVar 1) (mCons (a2 oIx (fun _ st => F__law_some [] st) (a2 oAdd (aVar 8) (aC (.int 2)))) mNil)))) (mSeq (mIfS (tN (tB (aL (F__law_equal 3) (mCons (aL F__law_changing (mCons (aVar 5) (mCons (a2 oIx (aVar 2) (a2 oAdd (aVar 8) (aC (.int 2)))) (mCons (aVar 9) mNil)))) (mCons (a2 oAdd (a2 oAdd (mSl (aVar 16) oNone (a1 toI (aVar 8))) (aL oLst (mCons (aVar 9) mNil))) (mSl (aVar 16) (a1 toI (a2 oAdd (aVar 8) (aC (.int 1)))) oNone)) mNil))))) (mRet (aC (.bl false))) mPass) (mSeq (mSet 10 (aL F__law_pick (mCons (aVar 1) (mCons (aL oLst (mCons (aC .non) (mCons (aC (.str [])) (mCons (aC (.str [78, 111, 119])) (mCons (aC (.int 0)) (mCons (aC (.bl true)) (mCons (aL oTup (mCons (aC (.str [110, 111, 119])) mNil)) (mCons (aL oLst (mCons (aC (.str [97, 108, 108])) mNil)) (mCons oDic0 (mCons (aC (.str [110, 101, 118, 101, 114])) mNil)))))))))) mNil)))) (mSeq (mIfS (tB (a2 oNe (aL F__law_changing (mCons (aVar 5) (mCons (a2 oIx (aVar 2) (a2 oAdd (aVar 8) (aC (.int 2)))) (mCons (aVar 10) mNil)))) (a2 oIx (aVar 2) (a2 oAdd (aVar 8) (aC (.int 2)))))) (mRet (aC (.bl false))) mPass) (mSeq (mSet 11 (aL F__law_pick (mCons (aVar 1) (mCons (aL oLst (mCons (aC (.str [119, 111, 114, 100, 115])) (mCons (aC (.str [97, 103, 97, 105, 110])) (mCons (aC .non) (mCons (aC (.str [])) (mCons (aC (.int 0)) (mCons (aL oTup (mCons (aC (.str [104, 101, 97, 114, 115])) mNil)) (mCons (aL oLst (mCons (aC (.str [99, 117, 116, 115])) mNil)) (mCons oDic0 mNil))))))))) mNil)))) (mSeq (mIfS (tO (tB (a2 oNe (aL F__law_changing (mCons (aVar 5) (mCons (aVar 11) (mCons (aVar 10) mNil)))) (aC (.str [112, 97, 114, 116])))) (tB (a2 oNe (aL F__law_changing (mCons (aVar 5) (mCons (aVar 11) (mCons (aC (.str [110, 111, 119])) mNil)))) (aC (.str [112, 97, 114, 116]))))) (mRet (aC (.bl false))) mPass) (mSeq (mSet 12 (aL oLst (mCons (aC .non) (mCons (aC (.str [97, 110, 101, 119])) (mCons (aL oLst (mCons (aC (.str [97, 110, 101, 119])) mNil)) (mCons (aL oTup (mCons (aC (.str [99, 117, 116])) (mCons (aC (.str [97, 110, 101, 119])) mNil))) (mCons (aL oTup (mCons (aC (.str [97, 110, 101, 119])) (mCons (aC (.str [97, 110, 101, 119])) mNil))) (mCons (aL oTup (mCons (aC (.str [111, 112, 101, 110])) mNil)) (mCons (aL oTup (mCons (aC .non) mNil)) (mCons (aL oTup (mCons (aC (.str [97, 110, 101, 119])) (mCons (aC (.int 1)) mNil))) (mCons (aL oTup (mCons (aL oTup (mCons (aC (.str [97, 110, 101, 119])) mNil)) mNil)) mNil))))))))))) (mSeq (mSet 13 (a2 oAdd (a2 (oMu false) (aL oLst (mCons (aVar 10) mNil)) (aC (.int 7))) (aL oLst (mCons (aL F__law_pick (mCons (aVar 1) (mCons (a2 oAdd (aVar 12) (aL oLst (mCons oDic0 (mCons (aC (.bl true)) (mCons (aL oTup (mCons (aC (.str [116, 117, 114, 110])) (mCons (aC (.str [115, 101, 110, 100])) mNil))) (mCons (aL oTup (mCons (aL oLst (mCons (aC (.str [99, 117, 116])) mNil)) mNil)) mNil)))))) mNil))) mNil)))) (mSeq (mSet 14 (aL F__law_below (mCons (aVar 1) (mCons (aC (.int 2)) mNil)))) (mSeq (mIfS (tB (a2 oNe (aL F__law_told (mCons (a2 oAdd (mSl (aVar 3) oNone (a1 toI (aVar 14))) (mSl (aVar 13) (a1 toI (aVar 14)) (a1 toI (aC (.int 2))))) mNil)) (a2 oIx (aVar 2) (aVar 14)))) (mRet (aC (.bl false))) mPass) (mSeq (mSet 14 (a2 oAdd (aC (.int 2)) (aL F__law_below (mCons (aVar 1) (mCons (aC (.int 6)) mNil))))) (mRet (mAn (a2 oEq (aL F__law_told (mCons (a2 oAdd (mSl (aVar 3) (a1 toI (aC (.int 2))) (a1 toI (aVar 14))) (mSl (aVar 13) (a1 toI (aVar 14)) oNone)) mNil)) (a2 oIx (aVar 2) (aVar 14))) (a1 (oIsN false) (aL F__law_told (mCons (mSl (aVar 3) (a1 toI (aC (.int 2))) oNone) mNil)))))))))))))))))))))))))))
def F_law : List D → Store → Res D := mkF false 1 19 b_law
abbrev st_x_BadPart : Stmt := inClass (top 2) 0
def x_BadPart : DefX := ⟨n_BadPart, "__init__", "BadPart.__init__", defArgs st_x_BadPart, defBody st_x_BadPart, defScope st_x_BadPart⟩
def xqs : List DefX := [x_BadPart]
def fns : List He.DefD := [d__law_random, d_is_one_of, d_are_words, d_Program_init, d__law_below, d__law_pick, d_Writer_init, d_Program_eq, d_Writer_eq, d__law_equal, d_Program_changed, d__law_changing, d__law_told, d__law_tuples, d__law_some, d_law]
def pqs : List DefQ := [d_Writer_again, d_Writer_goes, d_Program_changes, d_Program_cursor, d_Program_cuts, d_Program_hears, d_Program_sends, d_Program_words]
def fas : List He.Fa := [.free "abs", .free "int", .free "isinstance", .free "str", .free "tuple", .glo "is_one_of", .free "all", .free "list", .free "sorted", .free "set", .free "zip", .glo "CHOICES", .free "super", .noat (toS n_BadPart) (toS [110, 97, 109, 101]), .glo "BadPart", .glo "are_words", .cls (toS n_Program), .noat (toS n_Program) "rule", .free "len", .glo "_law_below", .cls (toS n_Writer), .noat (toS n_Writer) "told", .glo "Program", .glo "Writer", .free "bool", .free "dict", .free "range", .glo "_law_equal", .glo "UnknownPart", .glo "PARTS", .mkr (toS n_Program), .meth (toS n_Program) "changed", .exm (toS n_BadPart) (toS n_UnknownPart) false, .exm (toS n_UnknownPart) (toS n_UnknownPart) true, .exm (toS n_BadPart) (toS n_BadPart) true, .exm (toS n_UnknownPart) (toS n_BadPart) false, .mkr (toS n_Writer), .glo "_law_random", .glo "_law_some", .glo "_law_pick", .glo "_law_tuples", .meth (toS n_Writer) "__eq__", .meth (toS n_Program) "__eq__", .glo "_law_changing", .glo "_law_told", .glo "law"]
def tbs : List He.Tab := [(fun K => He.ga K "CHOICES", ["changes", "cursor", "cuts", "hears", "sends"])]
def exs (K : PySem.W.Frag) : Bool := [conD K "WORDS" (K_WORDS),
 conD K "PARTS" (K_PARTS),
 valsD K (He.ga K "CHOICES") T_CHOICES,
 conD K "AGAIN" (K_AGAIN),
 conD K "GOES" (K_GOES),
 isiCB K n_Program (n_Program, true),
 isiKB K n_Program,
 isiCB K n_Writer (n_Program, false),
 isiCB K n_Writer (n_Writer, true),
 isiKB K n_Writer,
 ownXB K n_UnknownPart,
 isKT K (He.ga K "PARTS"),
 propB K (toS n_Program) "words",
 propB K (toS n_Program) "sends",
 propB K (toS n_Program) "hears",
 propB K (toS n_Program) "cuts",
 propB K (toS n_Program) "cursor",
 propB K (toS n_Program) "changes",
 xfB K (He.ga K (toS n_BadPart)),
 propB K (toS n_Writer) "goes",
 propB K (toS n_Writer) "again",
 nfB K n_Writer (.inr n_Program),
 nfB K n_Writer (.inl .tup),
 nfB K n_Writer (.inr n_Writer),
 nfB K n_Program (.inl .tup),
 nfB K n_Program (.inr n_Program)].all id
structure Zz (w : World) (K : PySem.W.Frag) (mg : Str → Option Value) : Prop where
  n_abs : mg "abs" = none
  n_int : mg "int" = none
  n_isinstance : mg "isinstance" = none
  n_str : mg "str" = none
  n_tuple : mg "tuple" = none
  c_WORDS : conD K "WORDS" (K_WORDS) = true
  k_WORDS : ∃ u v, mg "WORDS" = some u ∧ RelV v u ∧ ∀ (P : Program) (w : World) (W : Wd), Den ⟨P, w, K⟩ W v (K_WORDS)
  g_is_one_of : mg "is_one_of" = some (.ref (He.ga K "is_one_of"))
  n_all : mg "all" = none
  n_list : mg "list" = none
  n_sorted : mg "sorted" = none
  n_set : mg "set" = none
  c_PARTS : conD K "PARTS" (K_PARTS) = true
  k_PARTS : ∃ u v, mg "PARTS" = some u ∧ RelV v u ∧ ∀ (P : Program) (w : World) (W : Wd), Den ⟨P, w, K⟩ W v (K_PARTS)
  n_zip : mg "zip" = none
  g_CHOICES : mg "CHOICES" = some (.ref (He.ga K "CHOICES"))
  t_CHOICES : ∃ es n, KDict K w (He.ga K "CHOICES") es n
  v_CHOICES : valsD K (He.ga K "CHOICES") T_CHOICES = true
  x_BadPart : ∃ (fI : Addr) (fd : FuncData) (c0 cda : Addr), SupAt K PP x_BadPart (He.ga K (toS x_BadPart.c)) fI fd c0 cda
  n_super : mg "super" = none
  na_BadPart_name : (He.Fa.noat (toS n_BadPart) (toS [110, 97, 109, 101])).ok K = true
  gS_BadPart : mg "BadPart" = some (.ref (He.ga K (toS n_BadPart)))
  g_are_words : mg "are_words" = some (.ref (He.ga K "are_words"))
  cls_Program : (He.Fa.cls (toS n_Program)).ok K = true
  no_Program_rule : (He.Fa.noat (toS n_Program) "rule").ok K = true
  n_len : mg "len" = none
  g__law_below : mg "_law_below" = some (.ref (He.ga K "_law_below"))
  c_AGAIN : conD K "AGAIN" (K_AGAIN) = true
  k_AGAIN : ∃ u v, mg "AGAIN" = some u ∧ RelV v u ∧ ∀ (P : Program) (w : World) (W : Wd), Den ⟨P, w, K⟩ W v (K_AGAIN)
  c_GOES : conD K "GOES" (K_GOES) = true
  k_GOES : ∃ u v, mg "GOES" = some u ∧ RelV v u ∧ ∀ (P : Program) (w : World) (W : Wd), Den ⟨P, w, K⟩ W v (K_GOES)
  cls_Writer : (He.Fa.cls (toS n_Writer)).ok K = true
  no_Writer_told : (He.Fa.noat (toS n_Writer) "told").ok K = true
  ic_Program_Program : isiCB K n_Program (n_Program, true) = true
  gS_Program : mg "Program" = some (.ref (He.ga K (toS n_Program)))
  ik_Program : isiKB K n_Program = true
  ic_Writer_Program : isiCB K n_Writer (n_Program, false) = true
  ic_Writer_Writer : isiCB K n_Writer (n_Writer, true) = true
  gS_Writer : mg "Writer" = some (.ref (He.ga K (toS n_Writer)))
  ik_Writer : isiKB K n_Writer = true
  n_bool : mg "bool" = none
  n_dict : mg "dict" = none
  n_range : mg "range" = none
  g__law_equal : mg "_law_equal" = some (.ref (He.ga K "_law_equal"))
  gS_UnknownPart : mg "UnknownPart" = some (.ref (He.ga K (toS n_UnknownPart)))
  ox_UnknownPart : ownXB K n_UnknownPart = true
  kt_PARTS : isKT K (He.ga K "PARTS") = true
  g_PARTS : mg "PARTS" = some (.ref (He.ga K "PARTS"))
  mk_Program : (He.Fa.mkr (toS n_Program)).ok K = true
  me_Program_changed : (He.Fa.meth (toS n_Program) "changed").ok K = true
  p_Program_words : propB K (toS n_Program) "words" = true
  p_Program_sends : propB K (toS n_Program) "sends" = true
  p_Program_hears : propB K (toS n_Program) "hears" = true
  p_Program_cuts : propB K (toS n_Program) "cuts" = true
  p_Program_cursor : propB K (toS n_Program) "cursor" = true
  p_Program_changes : propB K (toS n_Program) "changes" = true
  exm_BadPart_UnknownPart : (He.Fa.exm (toS n_BadPart) (toS n_UnknownPart) false).ok K = true
  exm_UnknownPart_UnknownPart : (He.Fa.exm (toS n_UnknownPart) (toS n_UnknownPart) true).ok K = true
  exm_BadPart_BadPart : (He.Fa.exm (toS n_BadPart) (toS n_BadPart) true).ok K = true
  exm_UnknownPart_BadPart : (He.Fa.exm (toS n_UnknownPart) (toS n_BadPart) false).ok K = true
  xf_BadPart : xfB K (He.ga K (toS n_BadPart)) = true
  mk_Writer : (He.Fa.mkr (toS n_Writer)).ok K = true
  g__law_random : mg "_law_random" = some (.ref (He.ga K "_law_random"))
  g__law_some : mg "_law_some" = some (.ref (He.ga K "_law_some"))
  g__law_pick : mg "_law_pick" = some (.ref (He.ga K "_law_pick"))
  g__law_tuples : mg "_law_tuples" = some (.ref (He.ga K "_law_tuples"))
  p_Writer_goes : propB K (toS n_Writer) "goes" = true
  p_Writer_again : propB K (toS n_Writer) "again" = true
  nf_Writer_Program : nfB K n_Writer (.inr n_Program) = true
  nf_Writer_tuple : nfB K n_Writer (.inl .tup) = true
  nf_Writer_Writer : nfB K n_Writer (.inr n_Writer) = true
  eq_Writer : (He.Fa.meth (toS n_Writer) "__eq__").ok K = true
  nf_Program_tuple : nfB K n_Program (.inl .tup) = true
  nf_Program_Program : nfB K n_Program (.inr n_Program) = true
  eq_Program : (He.Fa.meth (toS n_Program) "__eq__").ok K = true
  g__law_changing : mg "_law_changing" = some (.ref (He.ga K "_law_changing"))
  g__law_told : mg "_law_told" = some (.ref (He.ga K "_law_told"))
  d__law_random : ∃ fd, FunD K d__law_random.name d__law_random.qual d__law_random.params d__law_random.body d__law_random.scope (d__law_random.dvs K) (d__law_random.kws K) (He.fAd K d__law_random.at_) fd
  d_is_one_of : ∃ fd, FunD K d_is_one_of.name d_is_one_of.qual d_is_one_of.params d_is_one_of.body d_is_one_of.scope (d_is_one_of.dvs K) (d_is_one_of.kws K) (He.fAd K d_is_one_of.at_) fd
  d_are_words : ∃ fd, FunD K d_are_words.name d_are_words.qual d_are_words.params d_are_words.body d_are_words.scope (d_are_words.dvs K) (d_are_words.kws K) (He.fAd K d_are_words.at_) fd
  d_Program_init : ∃ fd, FunD K d_Program_init.name d_Program_init.qual d_Program_init.params d_Program_init.body d_Program_init.scope (d_Program_init.dvs K) (d_Program_init.kws K) (He.fAd K d_Program_init.at_) fd
  d__law_below : ∃ fd, FunD K d__law_below.name d__law_below.qual d__law_below.params d__law_below.body d__law_below.scope (d__law_below.dvs K) (d__law_below.kws K) (He.fAd K d__law_below.at_) fd
  d__law_pick : ∃ fd, FunD K d__law_pick.name d__law_pick.qual d__law_pick.params d__law_pick.body d__law_pick.scope (d__law_pick.dvs K) (d__law_pick.kws K) (He.fAd K d__law_pick.at_) fd
  d_Writer_init : ∃ fd, FunD K d_Writer_init.name d_Writer_init.qual d_Writer_init.params d_Writer_init.body d_Writer_init.scope (d_Writer_init.dvs K) (d_Writer_init.kws K) (He.fAd K d_Writer_init.at_) fd
  d_Program_eq : ∃ fd, FunD K d_Program_eq.name d_Program_eq.qual d_Program_eq.params d_Program_eq.body d_Program_eq.scope (d_Program_eq.dvs K) (d_Program_eq.kws K) (He.fAd K d_Program_eq.at_) fd
  d_Writer_eq : ∃ fd, FunD K d_Writer_eq.name d_Writer_eq.qual d_Writer_eq.params d_Writer_eq.body d_Writer_eq.scope (d_Writer_eq.dvs K) (d_Writer_eq.kws K) (He.fAd K d_Writer_eq.at_) fd
  d__law_equal : ∃ fd, FunD K d__law_equal.name d__law_equal.qual d__law_equal.params d__law_equal.body d__law_equal.scope (d__law_equal.dvs K) (d__law_equal.kws K) (He.fAd K d__law_equal.at_) fd
  d_Program_changed : ∃ fd, FunD K d_Program_changed.name d_Program_changed.qual d_Program_changed.params d_Program_changed.body d_Program_changed.scope (d_Program_changed.dvs K) (d_Program_changed.kws K) (He.fAd K d_Program_changed.at_) fd
  d__law_changing : ∃ fd, FunD K d__law_changing.name d__law_changing.qual d__law_changing.params d__law_changing.body d__law_changing.scope (d__law_changing.dvs K) (d__law_changing.kws K) (He.fAd K d__law_changing.at_) fd
  d__law_told : ∃ fd, FunD K d__law_told.name d__law_told.qual d__law_told.params d__law_told.body d__law_told.scope (d__law_told.dvs K) (d__law_told.kws K) (He.fAd K d__law_told.at_) fd
  d__law_tuples : ∃ fd, FunD K d__law_tuples.name d__law_tuples.qual d__law_tuples.params d__law_tuples.body d__law_tuples.scope (d__law_tuples.dvs K) (d__law_tuples.kws K) (He.fAd K d__law_tuples.at_) fd
  d__law_some : ∃ fd, FunD K d__law_some.name d__law_some.qual d__law_some.params d__law_some.body d__law_some.scope (d__law_some.dvs K) (d__law_some.kws K) (He.fAd K d__law_some.at_) fd
  d_law : ∃ fd, FunD K d_law.name d_law.qual d_law.params d_law.body d_law.scope (d_law.dvs K) (d_law.kws K) (He.fAd K d_law.at_) fd
  d_Writer_again : ∃ fd, FunD K d_Writer_again.name d_Writer_again.qual d_Writer_again.params d_Writer_again.body d_Writer_again.scope [] [] (d_Writer_again.at_ K) fd
  d_Writer_goes : ∃ fd, FunD K d_Writer_goes.name d_Writer_goes.qual d_Writer_goes.params d_Writer_goes.body d_Writer_goes.scope [] [] (d_Writer_goes.at_ K) fd
  d_Program_changes : ∃ fd, FunD K d_Program_changes.name d_Program_changes.qual d_Program_changes.params d_Program_changes.body d_Program_changes.scope [] [] (d_Program_changes.at_ K) fd
  d_Program_cursor : ∃ fd, FunD K d_Program_cursor.name d_Program_cursor.qual d_Program_cursor.params d_Program_cursor.body d_Program_cursor.scope [] [] (d_Program_cursor.at_ K) fd
  d_Program_cuts : ∃ fd, FunD K d_Program_cuts.name d_Program_cuts.qual d_Program_cuts.params d_Program_cuts.body d_Program_cuts.scope [] [] (d_Program_cuts.at_ K) fd
  d_Program_hears : ∃ fd, FunD K d_Program_hears.name d_Program_hears.qual d_Program_hears.params d_Program_hears.body d_Program_hears.scope [] [] (d_Program_hears.at_ K) fd
  d_Program_sends : ∃ fd, FunD K d_Program_sends.name d_Program_sends.qual d_Program_sends.params d_Program_sends.body d_Program_sends.scope [] [] (d_Program_sends.at_ K) fd
  d_Program_words : ∃ fd, FunD K d_Program_words.name d_Program_words.qual d_Program_words.params d_Program_words.body d_Program_words.scope [] [] (d_Program_words.at_ K) fd
  g_law : mg "law" = some (.ref (He.ga K "law"))
theorem zz_of {w : World} {K : PySem.W.Frag} {h : Heap} {mg : Str → Option Value} (X0 : K.In h) (G0 : h.Ns mainGlobals mg) (cx : SaysX fas fns tbs exs pqs PP.main.file xqs w K) : Zz w K mg where
  n_abs := He.free_ok X0 G0 (cx.p.t.d.fact 0)
  n_int := He.free_ok X0 G0 (cx.p.t.d.fact 1)
  n_isinstance := He.free_ok X0 G0 (cx.p.t.d.fact 2)
  n_str := He.free_ok X0 G0 (cx.p.t.d.fact 3)
  n_tuple := He.free_ok X0 G0 (cx.p.t.d.fact 4)
  c_WORDS := xs_at cx.p.more 0
  k_WORDS := conD_ok X0 G0 (xs_at cx.p.more 0)
  g_is_one_of := He.glo_ok X0 G0 (cx.p.t.d.fact 5)
  n_all := He.free_ok X0 G0 (cx.p.t.d.fact 6)
  n_list := He.free_ok X0 G0 (cx.p.t.d.fact 7)
  n_sorted := He.free_ok X0 G0 (cx.p.t.d.fact 8)
  n_set := He.free_ok X0 G0 (cx.p.t.d.fact 9)
  c_PARTS := xs_at cx.p.more 1
  k_PARTS := conD_ok X0 G0 (xs_at cx.p.more 1)
  n_zip := He.free_ok X0 G0 (cx.p.t.d.fact 10)
  g_CHOICES := He.glo_ok X0 G0 (cx.p.t.d.fact 11)
  t_CHOICES := cx.p.t.tab 0
  v_CHOICES := xs_at cx.p.more 2
  x_BadPart := cx.x (P := PP) rfl 0 (d := x_BadPart)
  n_super := He.free_ok X0 G0 (cx.p.t.d.fact 12)
  na_BadPart_name := cx.p.t.d.fact 13
  gS_BadPart := (by have h := He.glo_ok X0 G0 (cx.p.t.d.fact 14); exact h)
  g_are_words := He.glo_ok X0 G0 (cx.p.t.d.fact 15)
  cls_Program := cx.p.t.d.fact 16
  no_Program_rule := cx.p.t.d.fact 17
  n_len := He.free_ok X0 G0 (cx.p.t.d.fact 18)
  g__law_below := He.glo_ok X0 G0 (cx.p.t.d.fact 19)
  c_AGAIN := xs_at cx.p.more 3
  k_AGAIN := conD_ok X0 G0 (xs_at cx.p.more 3)
  c_GOES := xs_at cx.p.more 4
  k_GOES := conD_ok X0 G0 (xs_at cx.p.more 4)
  cls_Writer := cx.p.t.d.fact 20
  no_Writer_told := cx.p.t.d.fact 21
  ic_Program_Program := xs_at cx.p.more 5
  gS_Program := (by have h := He.glo_ok X0 G0 (cx.p.t.d.fact 22); exact h)
  ik_Program := xs_at cx.p.more 6
  ic_Writer_Program := xs_at cx.p.more 7
  ic_Writer_Writer := xs_at cx.p.more 8
  gS_Writer := (by have h := He.glo_ok X0 G0 (cx.p.t.d.fact 23); exact h)
  ik_Writer := xs_at cx.p.more 9
  n_bool := He.free_ok X0 G0 (cx.p.t.d.fact 24)
  n_dict := He.free_ok X0 G0 (cx.p.t.d.fact 25)
  n_range := He.free_ok X0 G0 (cx.p.t.d.fact 26)
  g__law_equal := He.glo_ok X0 G0 (cx.p.t.d.fact 27)
  gS_UnknownPart := (by have h := He.glo_ok X0 G0 (cx.p.t.d.fact 28); exact h)
  ox_UnknownPart := xs_at cx.p.more 10
  kt_PARTS := xs_at cx.p.more 11
  g_PARTS := He.glo_ok X0 G0 (cx.p.t.d.fact 29)
  mk_Program := cx.p.t.d.fact 30
  me_Program_changed := cx.p.t.d.fact 31
  p_Program_words := xs_at cx.p.more 12
  p_Program_sends := xs_at cx.p.more 13
  p_Program_hears := xs_at cx.p.more 14
  p_Program_cuts := xs_at cx.p.more 15
  p_Program_cursor := xs_at cx.p.more 16
  p_Program_changes := xs_at cx.p.more 17
  exm_BadPart_UnknownPart := cx.p.t.d.fact 32
  exm_UnknownPart_UnknownPart := cx.p.t.d.fact 33
  exm_BadPart_BadPart := cx.p.t.d.fact 34
  exm_UnknownPart_BadPart := cx.p.t.d.fact 35
  xf_BadPart := xs_at cx.p.more 18
  mk_Writer := cx.p.t.d.fact 36
  g__law_random := He.glo_ok X0 G0 (cx.p.t.d.fact 37)
  g__law_some := He.glo_ok X0 G0 (cx.p.t.d.fact 38)
  g__law_pick := He.glo_ok X0 G0 (cx.p.t.d.fact 39)
  g__law_tuples := He.glo_ok X0 G0 (cx.p.t.d.fact 40)
  p_Writer_goes := xs_at cx.p.more 19
  p_Writer_again := xs_at cx.p.more 20
  nf_Writer_Program := xs_at cx.p.more 21
  nf_Writer_tuple := xs_at cx.p.more 22
  nf_Writer_Writer := xs_at cx.p.more 23
  eq_Writer := cx.p.t.d.fact 41
  nf_Program_tuple := xs_at cx.p.more 24
  nf_Program_Program := xs_at cx.p.more 25
  eq_Program := cx.p.t.d.fact 42
  g__law_changing := He.glo_ok X0 G0 (cx.p.t.d.fact 43)
  g__law_told := He.glo_ok X0 G0 (cx.p.t.d.fact 44)
  d__law_random := cx.p.t.d.def_ 0 (d := d__law_random)
  d_is_one_of := cx.p.t.d.def_ 1 (d := d_is_one_of)
  d_are_words := cx.p.t.d.def_ 2 (d := d_are_words)
  d_Program_init := cx.p.t.d.def_ 3 (d := d_Program_init)
  d__law_below := cx.p.t.d.def_ 4 (d := d__law_below)
  d__law_pick := cx.p.t.d.def_ 5 (d := d__law_pick)
  d_Writer_init := cx.p.t.d.def_ 6 (d := d_Writer_init)
  d_Program_eq := cx.p.t.d.def_ 7 (d := d_Program_eq)
  d_Writer_eq := cx.p.t.d.def_ 8 (d := d_Writer_eq)
  d__law_equal := cx.p.t.d.def_ 9 (d := d__law_equal)
  d_Program_changed := cx.p.t.d.def_ 10 (d := d_Program_changed)
  d__law_changing := cx.p.t.d.def_ 11 (d := d__law_changing)
  d__law_told := cx.p.t.d.def_ 12 (d := d__law_told)
  d__law_tuples := cx.p.t.d.def_ 13 (d := d__law_tuples)
  d__law_some := cx.p.t.d.def_ 14 (d := d__law_some)
  d_law := cx.p.t.d.def_ 15 (d := d_law)
  d_Writer_again := cx.p.q 0 (d := d_Writer_again)
  d_Writer_goes := cx.p.q 1 (d := d_Writer_goes)
  d_Program_changes := cx.p.q 2 (d := d_Program_changes)
  d_Program_cursor := cx.p.q 3 (d := d_Program_cursor)
  d_Program_cuts := cx.p.q 4 (d := d_Program_cuts)
  d_Program_hears := cx.p.q 5 (d := d_Program_hears)
  d_Program_sends := cx.p.q 6 (d := d_Program_sends)
  d_Program_words := cx.p.q 7 (d := d_Program_words)
  g_law := He.glo_ok X0 G0 (cx.p.t.d.fact 45)
section
variable {w : World} {K : PySem.W.Frag} {mg : Str → Option Value} {base : Heap}
theorem ini_BadPart (z : Zz w K mg) : IOk PP w K mg base n_BadPart 1 [[110, 97, 109, 101]] := by
  obtain ⟨fI, fd, c0, cda, A⟩ := z.x_BadPart
  exact iok_of (d := x_BadPart) (k := 0) (N := ["self", "name", "__class__"]) (ps := ["self", "name"]) A (nscope_by (by decide +kernel)) rfl rfl rfl (by decide +kernel) (by decide +kernel) z.n_super (by decide +kernel) rfl (fun _ _ _ _ us hl => match us, hl with | [_, _], _ => rfl) (rest_oneF (by decide +kernel) A.oex (find_none z.na_BadPart_name) rfl rfl (Or.inl (by decide +kernel)) (Or.inl (by decide +kernel)) (by decide) (by decide)) (fun _ _ _ _ => ⟨_, rfl⟩)
theorem ok__law_random (z : Zz w K mg) : FOk PP w K mg base ("_law_random", none) 2 P__law_random F__law_random :=
  fok_of (d := d__law_random) (N := N__law_random) (b := b__law_random) (keep := true) z.d__law_random rfl sc__law_random (fun _ _ _ _ _ _ us hl => match us, hl with | [_, _], _ => rfl) fun cdv A outer s H E hr =>
  (s_cons (s_set 2 nd__law_random rfl (by first | exact .inl rfl | exact .inr rfl) (e_var 1))
 (s_cons (s_for (ns := [3]) (passes_of rfl) rfl (i_scr (e_var 0)) (g_name 3 (by decide) nd__law_random rfl (by first | exact .inl rfl | exact .inr rfl))
 (s_one (s_set 2 nd__law_random rfl (by first | exact .inl rfl | exact .inr rfl) (e_op op_mod im_mod (e_callTy call_int1 im_int (by rfl) z.n_int boot_int (a_cons (e_op op_addA im_add (e_op op_mu im_mu (e_var 2) e_int) (e_callB call_abs im_abs (by rfl) z.n_abs boot_abs (a_cons (e_var 3) a_nil))) a_nil)) e_int))))
 (s_one (s_ret (e_op op_cat im_cat (e_lst (a_cons (e_var 2) (a_cons e_int a_nil))) (e_lc (own := [("_law_cell", 3)]) rfl nd__law_random (i_scr (e_var 0)) (blk_of rfl) (fun _ _ _ _ _ => (g_name 3 (by decide) nd__law_random rfl (by first | exact .inl rfl | exact .inr rfl))) (fun _ _ _ _ _ => (t_one (t_cmp op_ge im_ge (e_var 3) (e_op op_pow im_pow e_int e_int))))
 (fun _ _ _ _ _ => (e_var 3))))))))
theorem ok_is_one_of (z : Zz w K mg) : FOk PP w K mg base ("is_one_of", none) 2 P_is_one_of F_is_one_of :=
  fok_of (d := d_is_one_of) (N := N_is_one_of) (b := b_is_one_of) (keep := false) z.d_is_one_of rfl sc_is_one_of (fun _ _ _ _ _ _ us hl => match us, hl with | [_, _], _ => rfl) fun cdv A outer s H E hr =>
  (s_one (s_ret (e_and (e_isiT .str [] (by rfl) z.n_isinstance (by rfl) z.n_str boot_str (fun _ h => nomatch h) (e_var 0))
 (e_one (e_cmp (op_inA (FL.Room.u65 hr)) im_in (e_var 0) (e_var 1))))))
theorem ok_are_words (z : Zz w K mg) : FOk PP w K mg base ("are_words", none) 3 P_are_words F_are_words :=
  fok_of (d := d_are_words) (N := N_are_words) (b := b_are_words) (keep := false) z.d_are_words rfl sc_are_words (fun _ _ _ _ _ _ us hl => match us, hl with | [_], _ => rfl) fun cdv A outer s H E hr =>
  (s_cons (s_if (PW.pt (w_or (t_not (t_val (e_isiT .tup [] (by rfl) z.n_isinstance (by rfl) z.n_tuple boot_tuple (fun _ h => nomatch h) (e_var 0))))
 (w_or1 (t_not (t_val (e_callB (cr_all rfl) im_all (by rfl) z.n_all boot_all (a_cons (e_lc (own := [("word", 1)]) rfl nd_are_words (i_seq (e_var 0)) (blk_of rfl) (fun _ _ _ _ _ => (g_name 1 (by decide) nd_are_words rfl (by first | exact .inl rfl | exact .inr rfl))) (fun _ _ _ _ _ => t_yes)
 (fun _ _ _ _ _ => (c_call (ok_is_one_of z) hr (by decide) takes0 (by rfl) z.g_is_one_of (a_cons (e_var 1) (a_cons (c_con (by rfl) z.k_WORDS) a_nil))))) a_nil)))))))
 (s_one (s_ret e_bl))
 s_nil)
 (s_one (s_ret (e_cmp (op_eqD hr.units) im_eq (e_callTy call_list_of im_listOf (by rfl) z.n_list boot_list (a_cons (e_var 0) a_nil)) (e_sortSet rfl (by rfl) z.n_sorted (by rfl) z.n_set (e_var 0))))))
theorem ok_Program_init (z : Zz w K mg) : FOk PP w K mg base (toS n_Program, some "__init__") 4 P_Program_init F_Program_init :=
  fok_of (d := d_Program_init) (N := N_Program_init) (b := b_Program_init) (keep := false) z.d_Program_init rfl sc_Program_init (fun _ _ _ _ _ _ us hl => match us, hl with | [_, _, _, _, _, _, _], _ => rfl) fun cdv A outer s H E hr =>
  (s_cons (s_for (ns := [7, 8]) (passes_of rfl) rfl (i_zip (by rfl) z.n_zip (a_cons (c_con (by rfl) z.k_PARTS) (a_cons (e_tup (a_cons (e_var 1) (a_cons (e_var 2) (a_cons (e_var 3) (a_cons (e_var 4) (a_cons (e_var 5) a_nil)))))) a_nil))) (g_tup (n := 2) rfl (gs_cons (g_name 7 (by decide) nd_Program_init rfl (by first | exact .inl rfl | exact .inr rfl)) (gs_cons (g_name 8 (by decide) nd_Program_init rfl (by first | exact .inl rfl | exact .inr rfl)) gs_nil)))
 (s_one (s_if (t_not (t_val (c_call (ok_is_one_of z) hr (by decide) (takes_of rfl rfl rfl rfl) (by rfl) z.g_is_one_of (a_cons (e_var 8) (a_cons (c_kget (by rfl) z.g_CHOICES z.t_CHOICES z.v_CHOICES (e_var 7)) a_nil)))))
 (s_one (c_raise (ini_BadPart z) hr (by decide) rfl (takes_of rfl rfl rfl rfl) (by decide) (by decide) (by rfl) z.gS_BadPart (a_cons (e_var 7) a_nil)))
 s_nil)))
 (s_cons (s_if (t_not (t_val (c_call (ok_are_words z) hr (by decide) (takes_of rfl rfl rfl rfl) (by rfl) z.g_are_words (a_cons (e_var 6) a_nil))))
 (s_one (c_raise (ini_BadPart z) hr (by decide) rfl (takes_of rfl rfl rfl rfl) (by decide) (by decide) (by rfl) z.gS_BadPart (a_cons e_str a_nil)))
 s_nil)
 (s_one (s_fld (f := [114, 117, 108, 101]) (by decide +kernel) (He.cls_ok z.cls_Program) (He.noat_ok z.no_Program_rule) (e_var 0) (e_tup (a_cons (e_var 1) (a_cons (e_var 2) (a_cons (e_var 3) (a_cons (e_var 4) (a_cons (e_var 5) (a_cons (e_var 6) a_nil)))))))))))
theorem ok__law_below (z : Zz w K mg) : FOk PP w K mg base ("_law_below", none) 2 P__law_below F__law_below :=
  fok_of (d := d__law_below) (N := N__law_below) (b := b__law_below) (keep := false) z.d__law_below rfl sc__law_below (fun _ _ _ _ _ _ us hl => match us, hl with | [_, _], _ => rfl) fun cdv A outer s H E hr =>
  (s_cons (s_if (PW.pt (w_and (t_cmp (op_eqD hr.units) im_eq (e_ix (e_var 0) e_int) e_int)
 (w_and1 (t_cmp op_gt im_gt (e_callB call_len im_len (by rfl) z.n_len boot_len (a_cons (e_var 0) a_nil)) e_int))))
 (s_one (s_asg (ns := []) (e_bm tyL_ok mt_popAt im_popAt PySem.F.plainAttrs_list PySem.F.slot_list_pop PySem.F.type_list_pop (e_var 0) (a_cons e_int a_nil)) (g_ix (e_var 0) e_int)))
 s_nil)
 (s_cons (s_if (t_cmp op_gt im_gt (e_ix (e_var 0) e_int) e_int)
 (s_cons (s_set 2 nd__law_below rfl (by first | exact .inl rfl | exact .inr rfl) (e_op op_mod im_mod (e_callTy call_int1 im_int (by rfl) z.n_int boot_int (a_cons (e_ix (e_var 0) e_int) a_nil)) (e_var 1)))
 (s_cons (s_asg (ns := []) (e_op op_fdiv im_div (e_ix (e_var 0) e_int) (e_var 1)) (g_ix (e_var 0) e_int))
 (s_one (s_ret (e_var 2)))))
 s_nil)
 (s_cons (s_asg (ns := []) (e_op op_mod im_mod (e_callTy call_int1 im_int (by rfl) z.n_int boot_int (a_cons (e_op op_addA im_add (e_op op_mu im_mu (e_ix (e_var 0) e_int) e_int) e_int) a_nil)) e_int) (g_ix (e_var 0) e_int))
 (s_one (s_ret (e_op op_mod im_mod (e_callTy call_int1 im_int (by rfl) z.n_int boot_int (a_cons (e_op op_fdiv im_div (e_ix (e_var 0) e_int) e_int) a_nil)) (e_var 1)))))))
theorem ok__law_pick (z : Zz w K mg) : FOk PP w K mg base ("_law_pick", none) 3 P__law_pick F__law_pick :=
  fok_of (d := d__law_pick) (N := N__law_pick) (b := b__law_pick) (keep := false) z.d__law_pick rfl sc__law_pick (fun _ _ _ _ _ _ us hl => match us, hl with | [_, _], _ => rfl) fun cdv A outer s H E hr =>
  (s_one (s_ret (e_ix (e_var 1) (c_call (ok__law_below z) hr (by decide) (takes_of rfl rfl rfl rfl) (by rfl) z.g__law_below (a_cons (e_var 0) (a_cons (e_callB call_len im_len (by rfl) z.n_len boot_len (a_cons (e_var 1) a_nil)) a_nil))))))
theorem ok_Writer_init (z : Zz w K mg) : FOk PP w K mg base (toS n_Writer, some "__init__") 3 P_Writer_init F_Writer_init :=
  fok_of (d := d_Writer_init) (N := N_Writer_init) (b := b_Writer_init) (keep := false) z.d_Writer_init rfl sc_Writer_init (fun _ _ _ _ _ _ us hl => match us, hl with | [_, _, _], _ => rfl) fun cdv A outer s H E hr =>
  (s_cons (s_if (t_not (t_val (c_call (ok_is_one_of z) hr (by decide) (takes_of rfl rfl rfl rfl) (by rfl) z.g_is_one_of (a_cons (e_var 1) (a_cons (c_con (by rfl) z.k_AGAIN) a_nil)))))
 (s_one (c_raise (ini_BadPart z) hr (by decide) rfl (takes_of rfl rfl rfl rfl) (by decide) (by decide) (by rfl) z.gS_BadPart (a_cons e_str a_nil)))
 s_nil)
 (s_cons (s_if (t_not (t_val (c_call (ok_is_one_of z) hr (by decide) (takes_of rfl rfl rfl rfl) (by rfl) z.g_is_one_of (a_cons (e_var 2) (a_cons (c_con (by rfl) z.k_GOES) a_nil)))))
 (s_one (c_raise (ini_BadPart z) hr (by decide) rfl (takes_of rfl rfl rfl rfl) (by decide) (by decide) (by rfl) z.gS_BadPart (a_cons e_str a_nil)))
 s_nil)
 (s_one (s_fld (f := [116, 111, 108, 100]) (by decide +kernel) (He.cls_ok z.cls_Writer) (He.noat_ok z.no_Writer_told) (e_var 0) (e_tup (a_cons (e_var 1) (a_cons (e_var 2) a_nil)))))))
theorem ok_Writer_again (z : Zz w K mg) : FOkA PP w K mg base (propAt K (toS n_Writer) "again") 2 P_Writer_again F_Writer_again :=
  fokA_of (d := d_Writer_again) (N := N_Writer_again) (b := b_Writer_again) (keep := false) z.d_Writer_again sc_Writer_again (fun _ _ _ _ _ _ us hl => match us, hl with | [_], _ => rfl) fun cdv A outer s H E hr =>
  (s_one (s_ret (e_ix (e_fld (f := [116, 111, 108, 100]) (by decide +kernel) (He.cls_ok z.cls_Writer) (He.noat_ok z.no_Writer_told) (e_var 0)) e_int)))
theorem ok_Writer_goes (z : Zz w K mg) : FOkA PP w K mg base (propAt K (toS n_Writer) "goes") 2 P_Writer_goes F_Writer_goes :=
  fokA_of (d := d_Writer_goes) (N := N_Writer_goes) (b := b_Writer_goes) (keep := false) z.d_Writer_goes sc_Writer_goes (fun _ _ _ _ _ _ us hl => match us, hl with | [_], _ => rfl) fun cdv A outer s H E hr =>
  (s_one (s_ret (e_ix (e_fld (f := [116, 111, 108, 100]) (by decide +kernel) (He.cls_ok z.cls_Writer) (He.noat_ok z.no_Writer_told) (e_var 0)) e_int)))
theorem ok_Program_changes (z : Zz w K mg) : FOkA PP w K mg base (propAt K (toS n_Program) "changes") 2 P_Program_changes F_Program_changes :=
  fokA_of (d := d_Program_changes) (N := N_Program_changes) (b := b_Program_changes) (keep := false) z.d_Program_changes sc_Program_changes (fun _ _ _ _ _ _ us hl => match us, hl with | [_], _ => rfl) fun cdv A outer s H E hr =>
  (s_one (s_ret (e_ix (e_fld (f := [114, 117, 108, 101]) (by decide +kernel) (He.cls_ok z.cls_Program) (He.noat_ok z.no_Program_rule) (e_var 0)) e_int)))
theorem ok_Program_cursor (z : Zz w K mg) : FOkA PP w K mg base (propAt K (toS n_Program) "cursor") 2 P_Program_cursor F_Program_cursor :=
  fokA_of (d := d_Program_cursor) (N := N_Program_cursor) (b := b_Program_cursor) (keep := false) z.d_Program_cursor sc_Program_cursor (fun _ _ _ _ _ _ us hl => match us, hl with | [_], _ => rfl) fun cdv A outer s H E hr =>
  (s_one (s_ret (e_ix (e_fld (f := [114, 117, 108, 101]) (by decide +kernel) (He.cls_ok z.cls_Program) (He.noat_ok z.no_Program_rule) (e_var 0)) e_int)))
theorem ok_Program_cuts (z : Zz w K mg) : FOkA PP w K mg base (propAt K (toS n_Program) "cuts") 2 P_Program_cuts F_Program_cuts :=
  fokA_of (d := d_Program_cuts) (N := N_Program_cuts) (b := b_Program_cuts) (keep := false) z.d_Program_cuts sc_Program_cuts (fun _ _ _ _ _ _ us hl => match us, hl with | [_], _ => rfl) fun cdv A outer s H E hr =>
  (s_one (s_ret (e_ix (e_fld (f := [114, 117, 108, 101]) (by decide +kernel) (He.cls_ok z.cls_Program) (He.noat_ok z.no_Program_rule) (e_var 0)) e_int)))
theorem ok_Program_hears (z : Zz w K mg) : FOkA PP w K mg base (propAt K (toS n_Program) "hears") 2 P_Program_hears F_Program_hears :=
  fokA_of (d := d_Program_hears) (N := N_Program_hears) (b := b_Program_hears) (keep := false) z.d_Program_hears sc_Program_hears (fun _ _ _ _ _ _ us hl => match us, hl with | [_], _ => rfl) fun cdv A outer s H E hr =>
  (s_one (s_ret (e_ix (e_fld (f := [114, 117, 108, 101]) (by decide +kernel) (He.cls_ok z.cls_Program) (He.noat_ok z.no_Program_rule) (e_var 0)) e_int)))
theorem ok_Program_sends (z : Zz w K mg) : FOkA PP w K mg base (propAt K (toS n_Program) "sends") 2 P_Program_sends F_Program_sends :=
  fokA_of (d := d_Program_sends) (N := N_Program_sends) (b := b_Program_sends) (keep := false) z.d_Program_sends sc_Program_sends (fun _ _ _ _ _ _ us hl => match us, hl with | [_], _ => rfl) fun cdv A outer s H E hr =>
  (s_one (s_ret (e_ix (e_fld (f := [114, 117, 108, 101]) (by decide +kernel) (He.cls_ok z.cls_Program) (He.noat_ok z.no_Program_rule) (e_var 0)) e_int)))
theorem ok_Program_words (z : Zz w K mg) : FOkA PP w K mg base (propAt K (toS n_Program) "words") 2 P_Program_words F_Program_words :=
  fokA_of (d := d_Program_words) (N := N_Program_words) (b := b_Program_words) (keep := false) z.d_Program_words sc_Program_words (fun _ _ _ _ _ _ us hl => match us, hl with | [_], _ => rfl) fun cdv A outer s H E hr =>
  (s_one (s_ret (e_ix (e_fld (f := [114, 117, 108, 101]) (by decide +kernel) (He.cls_ok z.cls_Program) (He.noat_ok z.no_Program_rule) (e_var 0)) e_int)))
theorem ok_Program_eq (z : Zz w K mg) : FOk PP w K mg base (toS n_Program, some "__eq__") 2 P_Program_eq F_Program_eq :=
  fok_of (d := d_Program_eq) (N := N_Program_eq) (b := b_Program_eq) (keep := false) z.d_Program_eq rfl sc_Program_eq (fun _ _ _ _ _ _ us hl => match us, hl with | [_, _], _ => rfl) fun cdv A outer s H E hr =>
  (s_one (s_ret (e_and (e_isiC (C := n_Program) [(n_Program, true)] (by rfl) z.n_isinstance (by rfl) z.gS_Program z.ik_Program (mcons z.ic_Program_Program mnil) (e_var 1))
 (e_one (e_cmp (op_eqD hr.units) im_eq (e_fld (f := [114, 117, 108, 101]) (by decide +kernel) (He.cls_ok z.cls_Program) (He.noat_ok z.no_Program_rule) (e_var 0)) (e_fld (f := [114, 117, 108, 101]) (by decide +kernel) (He.cls_ok z.cls_Program) (He.noat_ok z.no_Program_rule) (e_var 1)))))))
theorem ok_Writer_eq (z : Zz w K mg) : FOk PP w K mg base (toS n_Writer, some "__eq__") 2 P_Writer_eq F_Writer_eq :=
  fok_of (d := d_Writer_eq) (N := N_Writer_eq) (b := b_Writer_eq) (keep := false) z.d_Writer_eq rfl sc_Writer_eq (fun _ _ _ _ _ _ us hl => match us, hl with | [_, _], _ => rfl) fun cdv A outer s H E hr =>
  (s_one (s_ret (e_and (e_isiC (C := n_Writer) [(n_Writer, true), (n_Program, false)] (by rfl) z.n_isinstance (by rfl) z.gS_Writer z.ik_Writer (mcons z.ic_Writer_Writer (mcons z.ic_Writer_Program mnil)) (e_var 1))
 (e_one (e_cmp (op_eqD hr.units) im_eq (e_fld (f := [116, 111, 108, 100]) (by decide +kernel) (He.cls_ok z.cls_Writer) (He.noat_ok z.no_Writer_told) (e_var 0)) (e_fld (f := [116, 111, 108, 100]) (by decide +kernel) (He.cls_ok z.cls_Writer) (He.noat_ok z.no_Writer_told) (e_var 1)))))))
theorem ok__law_equal (z : Zz w K mg) : ∀ n : Nat, FOk PP w K mg base ("_law_equal", none) (2 + n) P__law_equal (F__law_equal n)
  | 0 => fok_no (d := d__law_equal) z.d__law_equal rfl (fun _ _ _ _ _ _ us hl => match us, hl with | [_, _], _ => rfl)
  | n + 1 => fok_of (d := d__law_equal) (N := N__law_equal) (b := b__law_equal (F__law_equal n)) (keep := false) z.d__law_equal rfl sc__law_equal (fun _ _ _ _ _ _ us hl => match us, hl with | [_, _], _ => rfl) fun cdv A outer s H E hr =>
  have ih := ok__law_equal z n
  (s_cons (s_if (t_isN (e_var 1))
 (s_one (s_ret (e_isN (e_var 0))))
 s_nil)
 (s_cons (s_if (t_val (e_isiT .bl [] (by rfl) z.n_isinstance (by rfl) z.n_bool boot_bool (fun _ h => nomatch h) (e_var 1)))
 (s_one (s_ret (e_and (e_isiT .bl [] (by rfl) z.n_isinstance (by rfl) z.n_bool boot_bool (fun _ h => nomatch h) (e_var 0))
 (e_one (e_cmp (op_eqD hr.units) im_eq (e_var 0) (e_var 1))))))
 s_nil)
 (s_cons (s_if (t_val (e_isiT .int [] (by rfl) z.n_isinstance (by rfl) z.n_int boot_int (fun _ h => nomatch h) (e_var 1)))
 (s_one (s_ret (e_and (e_isiT .int [] (by rfl) z.n_isinstance (by rfl) z.n_int boot_int (fun _ h => nomatch h) (e_var 0))
 (e_and (e_not (e_isiT .bl [] (by rfl) z.n_isinstance (by rfl) z.n_bool boot_bool (fun _ h => nomatch h) (e_var 0)))
 (e_one (e_cmp (op_eqD hr.units) im_eq (e_var 0) (e_var 1)))))))
 s_nil)
 (s_cons (s_if (t_val (e_isiT .str [] (by rfl) z.n_isinstance (by rfl) z.n_str boot_str (fun _ h => nomatch h) (e_var 1)))
 (s_one (s_ret (e_and (e_isiT .str [] (by rfl) z.n_isinstance (by rfl) z.n_str boot_str (fun _ h => nomatch h) (e_var 0))
 (e_one (e_cmp (op_eqD hr.units) im_eq (e_var 0) (e_var 1))))))
 s_nil)
 (s_cons (s_if (t_val (e_isiT .dic [] (by rfl) z.n_isinstance (by rfl) z.n_dict boot_dict (fun _ h => nomatch h) (e_var 1)))
 ss_never
 s_nil)
 (s_cons (s_if (t_cmp (op_neD hr.units) im_ne (e_isiT .tup [] (by rfl) z.n_isinstance (by rfl) z.n_tuple boot_tuple (fun _ h => nomatch h) (e_var 1)) (e_isiT .tup [] (by rfl) z.n_isinstance (by rfl) z.n_tuple boot_tuple (fun _ h => nomatch h) (e_var 0)))
 (s_one (s_ret e_bl))
 s_nil)
 (s_cons (s_if (t_cmp (op_neD hr.units) im_ne (e_isiT .lst [] (by rfl) z.n_isinstance (by rfl) z.n_list boot_list (fun _ h => nomatch h) (e_var 1)) (e_isiT .lst [] (by rfl) z.n_isinstance (by rfl) z.n_list boot_list (fun _ h => nomatch h) (e_var 0)))
 (s_one (s_ret e_bl))
 s_nil)
 (s_cons (s_if (t_cmp (op_neD hr.units) im_ne (e_callB call_len im_len (by rfl) z.n_len boot_len (a_cons (e_var 0) a_nil)) (e_callB call_len im_len (by rfl) z.n_len boot_len (a_cons (e_var 1) a_nil)))
 (s_one (s_ret e_bl))
 s_nil)
 (s_one (s_ret (e_callB (cr_all rfl) im_all (by rfl) z.n_all boot_all (a_cons (e_lc (own := [("_law_k", 2)]) rfl nd__law_equal (i_rng1 (by rfl) z.n_range (a_cons (e_callB call_len im_len (by rfl) z.n_len boot_len (a_cons (e_var 1) a_nil)) a_nil)) (blk_of rfl) (fun _ _ _ _ _ => (g_name 2 (by decide) nd__law_equal rfl (by first | exact .inl rfl | exact .inr rfl))) (fun _ _ _ _ _ => t_yes)
 (fun _ _ _ _ _ => (c_call ih hr (Nat.le_refl _) takes0 (by rfl) z.g__law_equal (a_cons (e_ix (e_var 0) (e_var 2)) (a_cons (e_ix (e_var 1) (e_var 2)) a_nil))))) a_nil))))))))))))
theorem ok_Program_changed (z : Zz w K mg) : FOk PP w K mg base (toS n_Program, some "changed") 6 P_Program_changed F_Program_changed :=
  fok_of (d := d_Program_changed) (N := N_Program_changed) (b := b_Program_changed) (keep := false) z.d_Program_changed rfl sc_Program_changed (fun _ _ _ _ _ _ us hl => match us, hl with | [_, _, _], _ => rfl) fun cdv A outer s H E hr =>
  (s_cons (s_if (t_not (t_val (c_call (ok_is_one_of z) hr (by decide) (takes_of rfl rfl rfl rfl) (by rfl) z.g_is_one_of (a_cons (e_var 1) (a_cons (c_con (by rfl) z.k_PARTS) a_nil)))))
 (s_one (c_raise0 rfl (takes_of rfl rfl rfl rfl) (by rfl) z.gS_UnknownPart z.ox_UnknownPart))
 s_nil)
 (s_cons (s_set 3 nd_Program_changed rfl (by first | exact .inl rfl | exact .inr rfl) (c_tIdx z.kt_PARTS (by rfl) z.g_PARTS z.k_PARTS (a_cons (e_var 1) a_nil)))
 (s_cons (s_set 4 nd_Program_changed rfl (by first | exact .inl rfl | exact .inr rfl) (e_tup (a_star (e_sl (e_fld (f := [114, 117, 108, 101]) (by decide +kernel) (He.cls_ok z.cls_Program) (He.noat_ok z.no_Program_rule) (e_var 0)) o_none (o_some (e_var 3))) (a_cons (e_var 2) (a_star (e_sl (e_fld (f := [114, 117, 108, 101]) (by decide +kernel) (He.cls_ok z.cls_Program) (He.noat_ok z.no_Program_rule) (e_var 0)) (o_some (e_op op_addA im_add (e_var 3) e_int)) o_none) a_nil)))))
 (s_one (s_ret (c_make (c := n_Program) (ok_Program_init z) hr (by decide) z.mk_Program (takes_of rfl rfl rfl rfl) (by rfl) z.gS_Program (a_cons (e_ix (e_var 4) e_int) (a_cons (e_ix (e_var 4) e_int) (a_cons (e_ix (e_var 4) e_int) (a_cons (e_ix (e_var 4) e_int) (a_cons (e_ix (e_var 4) e_int) (a_cons (e_ix (e_var 4) e_int) a_nil))))))))))))
theorem ok__law_changing (z : Zz w K mg) : FOk PP w K mg base ("_law_changing", none) 7 P__law_changing F__law_changing :=
  fok_of (d := d__law_changing) (N := N__law_changing) (b := b__law_changing) (keep := false) z.d__law_changing rfl sc__law_changing (fun _ _ _ _ _ _ us hl => match us, hl with | [_, _, _], _ => rfl) fun cdv A outer s H E hr =>
  (s_cons (s_set 3 nd__law_changing rfl (by first | exact .inl rfl | exact .inr rfl) e_non)
 (s_cons (c_tryUF rfl rfl nd__law_changing rfl rfl rfl rfl rfl (names_of (by rfl) z.gS_UnknownPart) (names_of (by rfl) z.gS_BadPart) (takes_of rfl rfl rfl rfl) (mcons z.exm_UnknownPart_UnknownPart (mcons z.exm_BadPart_UnknownPart mnil)) (mcons z.exm_UnknownPart_BadPart (mcons z.exm_BadPart_BadPart mnil)) (by decide +kernel) z.xf_BadPart z.na_BadPart_name (by decide +kernel) (fun W pn xe tk hp => (s_cons (s_set 5 nd__law_changing rfl (by first | exact .inl rfl | exact .inr rfl) (c_meth (f := [99, 104, 97, 110, 103, 101, 100]) (by decide +kernel) (ok_Program_changed z) hr (by decide) z.cls_Program z.me_Program_changed tk (e_var 0) (a_cons (e_var 1) (a_cons (e_var 2) a_nil))))
 (s_one (s_set 3 nd__law_changing rfl (by first | exact .inl rfl | exact .inr rfl) (e_lst (a_cons (c_prop (c := n_Program) (ok_Program_changes z) hr (by decide) z.cls_Program z.p_Program_changes (e_var 5)) (a_cons (c_prop (c := n_Program) (ok_Program_cursor z) hr (by decide) z.cls_Program z.p_Program_cursor (e_var 5)) (a_cons (c_prop (c := n_Program) (ok_Program_cuts z) hr (by decide) z.cls_Program z.p_Program_cuts (e_var 5)) (a_cons (c_prop (c := n_Program) (ok_Program_hears z) hr (by decide) z.cls_Program z.p_Program_hears (e_var 5)) (a_cons (c_prop (c := n_Program) (ok_Program_sends z) hr (by decide) z.cls_Program z.p_Program_sends (e_var 5)) (a_cons (c_prop (c := n_Program) (ok_Program_words z) hr (by decide) z.cls_Program z.p_Program_words (e_var 5)) a_nil))))))))))) (fun a pn => (s_one (s_set 3 nd__law_changing rfl (by first | exact .inl rfl | exact .inr rfl) e_str))))
 (s_one (s_ret (e_var 3)))))
theorem ok__law_told (z : Zz w K mg) : FOk PP w K mg base ("_law_told", none) 6 P__law_told F__law_told :=
  fok_of (d := d__law_told) (N := N__law_told) (b := b__law_told) (keep := false) z.d__law_told rfl sc__law_told (fun _ _ _ _ _ _ us hl => match us, hl with | [_], _ => rfl) fun cdv A outer s H E hr =>
  (s_cons (s_set 1 nd__law_told rfl (by first | exact .inl rfl | exact .inr rfl) e_non)
 (s_cons (c_tryF rfl rfl nd__law_told rfl rfl rfl rfl rfl (names_of (by rfl) z.gS_BadPart) (takes_of rfl rfl rfl rfl) (mcons z.exm_BadPart_BadPart mnil) (by decide +kernel) z.xf_BadPart z.na_BadPart_name (by decide +kernel) (fun W pn xe tk hp => (s_one (s_if (t_cmp (op_eqD hr.units) im_eq (e_callB call_len im_len (by rfl) z.n_len boot_len (a_cons (e_var 0) a_nil)) e_int)
 (s_one (s_expr (c_make (c := n_Writer) (ok_Writer_init z) hr (by decide) z.mk_Writer tk (by rfl) z.gS_Writer (a_cons (e_ix (e_var 0) e_int) (a_cons (e_ix (e_var 0) e_int) a_nil)))))
 (s_one (s_expr (c_make (c := n_Program) (ok_Program_init z) hr (by decide) z.mk_Program tk (by rfl) z.gS_Program (a_cons (e_ix (e_var 0) e_int) (a_cons (e_ix (e_var 0) e_int) (a_cons (e_ix (e_var 0) e_int) (a_cons (e_ix (e_var 0) e_int) (a_cons (e_ix (e_var 0) e_int) (a_cons (e_ix (e_var 0) e_int) a_nil)))))))))))))
 (s_one (s_ret (e_var 1)))))
theorem ok__law_tuples (z : Zz w K mg) : FOk PP w K mg base ("_law_tuples", none) 3 P__law_tuples F__law_tuples :=
  fok_of (d := d__law_tuples) (N := N__law_tuples) (b := b__law_tuples) (keep := false) z.d__law_tuples rfl sc__law_tuples (fun _ _ _ _ _ _ us hl => match us, hl with | [_], _ => rfl) fun cdv A outer s H E hr =>
  (s_one (s_ret (e_callTy call_tuple_of im_tupOf (by rfl) z.n_tuple boot_tuple (a_cons (e_lc (own := [("_law_word", 1)]) rfl nd__law_tuples (i_seq (e_lst (a_cons e_str (a_cons e_str (a_cons e_str (a_cons e_str (a_cons e_str (a_cons e_str a_nil)))))))) (blk_of rfl) (fun _ _ _ _ _ => (g_name 1 (by decide) nd__law_tuples rfl (by first | exact .inl rfl | exact .inr rfl))) (fun _ _ _ _ _ => (t_one (t_cmp (op_eqD hr.units) im_eq (c_call (ok__law_below z) hr (by decide) takes0 (by rfl) z.g__law_below (a_cons (e_var 0) (a_cons e_int a_nil))) e_int)))
 (fun _ _ _ _ _ => (e_var 1))) a_nil))))
theorem ok__law_some (z : Zz w K mg) : FOk PP w K mg base ("_law_some", none) 2 P__law_some F__law_some :=
  fok_of (d := d__law_some) (N := N__law_some) (b := b__law_some) (keep := false) z.d__law_some rfl sc__law_some (fun _ _ _ _ _ _ us hl => match us, hl with | [], _ => rfl) fun cdv A outer s H E hr =>
  (s_cons (s_set 0 nd__law_some rfl (by first | exact .inl rfl | exact .inr rfl) (e_lst (a_cons (e_lst (a_cons e_str (a_cons e_str (a_cons e_str a_nil)))) (a_cons (e_lst (a_cons e_str (a_cons e_str a_nil))) (a_cons (e_lst (a_cons e_str (a_cons e_str a_nil))) (a_cons (e_lst (a_cons e_str (a_cons e_str a_nil))) (a_cons (e_lst (a_cons e_str (a_cons e_str a_nil))) a_nil)))))))
 (s_one (s_ret (e_op op_addA im_add (e_var 0) (e_lst (a_cons (e_lst (a_cons e_str (a_cons e_str a_nil))) (a_cons (e_lst (a_cons e_str (a_cons e_str (a_cons e_str a_nil)))) a_nil)))))))
theorem ok_law (z : Zz w K mg) : FOk PP w K mg base ("law", none) 8 P_law F_law :=
  fok_of (d := d_law) (N := N_law) (b := b_law) (keep := false) z.d_law rfl sc_law (fun _ _ _ _ _ _ us hl => match us, hl with | [_], _ => rfl) fun cdv A outer s H E hr =>
  (s_cons (s_set 1 nd_law rfl (by first | exact .inl rfl | exact .inr rfl) (c_call (ok__law_random z) hr (by decide) (takes_of rfl rfl rfl rfl) (by rfl) z.g__law_random (a_cons (e_var 0) (a_cons e_int a_nil))))
 (s_cons (s_set 2 nd_law rfl (by first | exact .inl rfl | exact .inr rfl) (e_lst (a_cons e_str (a_cons e_str (a_cons e_str (a_cons e_str (a_cons e_str (a_cons e_str (a_cons e_str (a_cons e_str a_nil))))))))))
 (s_cons (s_set 3 nd_law rfl (by first | exact .inl rfl | exact .inr rfl) (e_op op_addA im_add (e_lc (own := [("_law_some_here", 18)]) rfl nd_law (i_seq (c_call0 (ok__law_some z) hr (by decide) (takes_of rfl rfl rfl rfl) (by rfl) z.g__law_some)) (blk_of rfl) (fun _ _ _ _ _ => (g_name 18 (by decide) nd_law rfl (by first | exact .inl rfl | exact .inr rfl))) (fun _ _ _ _ _ => t_yes)
 (fun _ _ _ _ _ => (c_call (ok__law_pick z) hr (by decide) takes0 (by rfl) z.g__law_pick (a_cons (e_var 1) (a_cons (e_var 18) a_nil))))) (e_lst (a_cons (c_call (ok__law_tuples z) hr (by decide) (takes_of rfl rfl rfl rfl) (by rfl) z.g__law_tuples (a_cons (e_var 1) a_nil)) a_nil))))
 (s_cons (s_set 4 nd_law rfl (by first | exact .inl rfl | exact .inr rfl) (e_op op_addA im_add (e_lc (own := [("_law_k", 8)]) rfl nd_law (i_rng1 (by rfl) z.n_range (a_cons e_int a_nil)) (blk_of rfl) (fun _ _ _ _ _ => (g_name 8 (by decide) nd_law rfl (by first | exact .inl rfl | exact .inr rfl))) (fun _ _ _ _ _ => t_yes)
 (fun _ _ _ _ _ => (c_call (ok__law_pick z) hr (by decide) takes0 (by rfl) z.g__law_pick (a_cons (e_var 1) (a_cons (e_lst (a_cons (e_ix (e_var 3) (e_var 8)) (a_cons (c_call (ok__law_pick z) hr (by decide) takes0 (by rfl) z.g__law_pick (a_cons (e_var 1) (a_cons (e_ix (c_call0 (ok__law_some z) hr (by decide) takes0 (by rfl) z.g__law_some) (e_var 8)) a_nil))) a_nil))) a_nil))))) (e_lst (a_cons (c_call (ok__law_pick z) hr (by decide) (takes_of rfl rfl rfl rfl) (by rfl) z.g__law_pick (a_cons (e_var 1) (a_cons (e_lst (a_cons (e_ix (e_var 3) e_int) (a_cons (e_tup a_nil) a_nil))) a_nil))) a_nil))))
 (s_cons (s_par3 rfl nd_law rfl rfl rfl (by decide) (by decide) (by decide) rfl rfl rfl (a_cons (c_make (c := n_Writer) (ok_Writer_init z) hr (by decide) z.mk_Writer (takes_of rfl rfl rfl rfl) (by rfl) z.gS_Writer (a_cons (e_ix (e_var 3) e_int) (a_cons (e_ix (e_var 3) e_int) a_nil))) (a_cons (e_sl (e_var 3) (o_some e_int) o_none) (a_cons (e_sl (e_var 4) (o_some e_int) o_none) a_nil))) (by rfl))
 (s_cons (s_set 5 nd_law rfl (by first | exact .inl rfl | exact .inr rfl) (c_make (c := n_Program) (ok_Program_init z) hr (by decide) z.mk_Program (takes_of rfl rfl rfl rfl) (by rfl) z.gS_Program (a_cons (e_ix (e_var 16) e_int) (a_cons (e_ix (e_var 16) e_int) (a_cons (e_ix (e_var 16) e_int) (a_cons (e_ix (e_var 16) e_int) (a_cons (e_ix (e_var 16) e_int) (a_cons (e_ix (e_var 16) e_int) a_nil))))))))
 (s_cons (s_set 6 nd_law rfl (by first | exact .inl rfl | exact .inr rfl) (c_make (c := n_Program) (ok_Program_init z) hr (by decide) z.mk_Program (takes_of rfl rfl rfl rfl) (by rfl) z.gS_Program (a_cons (e_ix (e_var 17) e_int) (a_cons (e_ix (e_var 17) e_int) (a_cons (e_ix (e_var 17) e_int) (a_cons (e_ix (e_var 17) e_int) (a_cons (e_ix (e_var 17) e_int) (a_cons (e_ix (e_var 17) e_int) a_nil))))))))
 (s_cons (s_set 7 nd_law rfl (by first | exact .inl rfl | exact .inr rfl) (e_lst (a_cons (c_prop (c := n_Writer) (ok_Writer_again z) hr (by decide) z.cls_Writer z.p_Writer_again (e_var 15)) (a_cons (c_prop (c := n_Writer) (ok_Writer_goes z) hr (by decide) z.cls_Writer z.p_Writer_goes (e_var 15)) (a_cons (c_prop (c := n_Program) (ok_Program_changes z) hr (by decide) z.cls_Program z.p_Program_changes (e_var 5)) (a_cons (c_prop (c := n_Program) (ok_Program_cursor z) hr (by decide) z.cls_Program z.p_Program_cursor (e_var 5)) (a_cons (c_prop (c := n_Program) (ok_Program_cuts z) hr (by decide) z.cls_Program z.p_Program_cuts (e_var 5)) (a_cons (c_prop (c := n_Program) (ok_Program_hears z) hr (by decide) z.cls_Program z.p_Program_hears (e_var 5)) (a_cons (c_prop (c := n_Program) (ok_Program_sends z) hr (by decide) z.cls_Program z.p_Program_sends (e_var 5)) (a_cons (c_prop (c := n_Program) (ok_Program_words z) hr (by decide) z.cls_Program z.p_Program_words (e_var 5)) a_nil))))))))))
 (s_cons (s_if (PW.pt (w_or (t_not (t_val (c_call (ok__law_equal z 3) hr (by decide) (takes_of rfl rfl rfl rfl) (by rfl) z.g__law_equal (a_cons (e_var 7) (a_cons (e_var 3) a_nil)))))
 (w_or1 (t_cmp (op_neD hr.units) im_ne (c_ownEq (c := n_Writer) (ts := [.inr n_Writer, .inl .tup, .inr n_Program]) (ok_Writer_eq z) hr (by decide) z.eq_Writer (mcons z.nf_Writer_Writer (mcons z.nf_Writer_tuple (mcons z.nf_Writer_Program mnil))) (e_var 15) (c_make (c := n_Writer) (ok_Writer_init z) hr (by decide) z.mk_Writer (takes_of rfl rfl rfl rfl) (by rfl) z.gS_Writer (a_cons (e_ix (e_var 4) e_int) (a_cons (e_ix (e_var 4) e_int) a_nil)))) (e_cmp (op_eqD hr.units) im_eq (e_sl (e_var 3) o_none (o_some e_int)) (e_sl (e_var 4) o_none (o_some e_int)))))))
 (s_one (s_ret e_bl))
 s_nil)
 (s_cons (s_if (PW.pt (w_or (t_cmp (op_neD hr.units) im_ne (c_ownEq (c := n_Program) (ts := [.inr n_Program, .inl .tup]) (ok_Program_eq z) hr (by decide) z.eq_Program (mcons z.nf_Program_Program (mcons z.nf_Program_tuple mnil)) (e_var 5) (e_var 6)) (e_cmp (op_eqD hr.units) im_eq (e_var 16) (e_var 17)))
 (w_or (ct_ownEq (c := n_Program) (ts := [.inr n_Program, .inl .tup]) (ok_Program_eq z) hr (by decide) z.eq_Program (mcons z.nf_Program_Program (mcons z.nf_Program_tuple mnil)) (e_var 5) (e_callTy call_tuple_of im_tupOf (by rfl) z.n_tuple boot_tuple (a_cons (e_var 16) a_nil)))
 (w_or (ct_ownEq (c := n_Writer) (ts := [.inr n_Writer, .inl .tup, .inr n_Program]) (ok_Writer_eq z) hr (by decide) z.eq_Writer (mcons z.nf_Writer_Writer (mcons z.nf_Writer_tuple (mcons z.nf_Writer_Program mnil))) (e_var 15) (e_callTy call_tuple_of im_tupOf (by rfl) z.n_tuple boot_tuple (a_cons (e_sl (e_var 3) o_none (o_some e_int)) a_nil)))
 (w_or1 (ct_ownEq (c := n_Writer) (ts := [.inr n_Writer, .inl .tup, .inr n_Program]) (ok_Writer_eq z) hr (by decide) z.eq_Writer (mcons z.nf_Writer_Writer (mcons z.nf_Writer_tuple (mcons z.nf_Writer_Program mnil))) (e_var 15) (e_var 5)))))))
 (s_one (s_ret e_bl))
 s_nil)
 (s_cons (s_set 8 nd_law rfl (by first | exact .inl rfl | exact .inr rfl) (c_call (ok__law_below z) hr (by decide) (takes_of rfl rfl rfl rfl) (by rfl) z.g__law_below (a_cons (e_var 1) (a_cons e_int a_nil))))
 (s_cons (s_set 9 nd_law rfl (by first | exact .inl rfl | exact .inr rfl) (c_call (ok__law_pick z) hr (by decide) (takes_of rfl rfl rfl rfl) (by rfl) z.g__law_pick (a_cons (e_var 1) (a_cons (e_ix (c_call0 (ok__law_some z) hr (by decide) (takes_of rfl rfl rfl rfl) (by rfl) z.g__law_some) (e_op op_addA im_add (e_var 8) e_int)) a_nil))))
 (s_cons (s_if (t_not (t_val (c_call (ok__law_equal z 3) hr (by decide) (takes_of rfl rfl rfl rfl) (by rfl) z.g__law_equal (a_cons (c_call (ok__law_changing z) hr (by decide) (takes_of rfl rfl rfl rfl) (by rfl) z.g__law_changing (a_cons (e_var 5) (a_cons (e_ix (e_var 2) (e_op op_addA im_add (e_var 8) e_int)) (a_cons (e_var 9) a_nil)))) (a_cons (e_op op_addA im_add (e_op op_addA im_add (e_sl (e_var 16) o_none (o_some (e_var 8))) (e_lst (a_cons (e_var 9) a_nil))) (e_sl (e_var 16) (o_some (e_op op_addA im_add (e_var 8) e_int)) o_none)) a_nil)))))
 (s_one (s_ret e_bl))
 s_nil)
 (s_cons (s_set 10 nd_law rfl (by first | exact .inl rfl | exact .inr rfl) (c_call (ok__law_pick z) hr (by decide) (takes_of rfl rfl rfl rfl) (by rfl) z.g__law_pick (a_cons (e_var 1) (a_cons (e_lst (a_cons e_non (a_cons e_str (a_cons e_str (a_cons e_int (a_cons e_bl (a_cons (e_tup (a_cons e_str a_nil)) (a_cons (e_lst (a_cons e_str a_nil)) (a_cons e_dic0 (a_cons e_str a_nil)))))))))) a_nil))))
 (s_cons (s_if (t_cmp (op_neD hr.units) im_ne (c_call (ok__law_changing z) hr (by decide) (takes_of rfl rfl rfl rfl) (by rfl) z.g__law_changing (a_cons (e_var 5) (a_cons (e_ix (e_var 2) (e_op op_addA im_add (e_var 8) e_int)) (a_cons (e_var 10) a_nil)))) (e_ix (e_var 2) (e_op op_addA im_add (e_var 8) e_int)))
 (s_one (s_ret e_bl))
 s_nil)
 (s_cons (s_set 11 nd_law rfl (by first | exact .inl rfl | exact .inr rfl) (c_call (ok__law_pick z) hr (by decide) (takes_of rfl rfl rfl rfl) (by rfl) z.g__law_pick (a_cons (e_var 1) (a_cons (e_lst (a_cons e_str (a_cons e_str (a_cons e_non (a_cons e_str (a_cons e_int (a_cons (e_tup (a_cons e_str a_nil)) (a_cons (e_lst (a_cons e_str a_nil)) (a_cons e_dic0 a_nil))))))))) a_nil))))
 (s_cons (s_if (PW.pt (w_or (t_cmp (op_neD hr.units) im_ne (c_call (ok__law_changing z) hr (by decide) (takes_of rfl rfl rfl rfl) (by rfl) z.g__law_changing (a_cons (e_var 5) (a_cons (e_var 11) (a_cons (e_var 10) a_nil)))) e_str)
 (w_or1 (t_cmp (op_neD hr.units) im_ne (c_call (ok__law_changing z) hr (by decide) (takes_of rfl rfl rfl rfl) (by rfl) z.g__law_changing (a_cons (e_var 5) (a_cons (e_var 11) (a_cons e_str a_nil)))) e_str))))
 (s_one (s_ret e_bl))
 s_nil)
 (s_cons (s_set 12 nd_law rfl (by first | exact .inl rfl | exact .inr rfl) (e_lst (a_cons e_non (a_cons e_str (a_cons (e_lst (a_cons e_str a_nil)) (a_cons (e_tup (a_cons e_str (a_cons e_str a_nil))) (a_cons (e_tup (a_cons e_str (a_cons e_str a_nil))) (a_cons (e_tup (a_cons e_str a_nil)) (a_cons (e_tup (a_cons e_non a_nil)) (a_cons (e_tup (a_cons e_str (a_cons e_int a_nil))) (a_cons (e_tup (a_cons (e_tup (a_cons e_str a_nil)) a_nil)) a_nil)))))))))))
 (s_cons (s_set 13 nd_law rfl (by first | exact .inl rfl | exact .inr rfl) (e_op op_addA im_add (e_op op_mu im_mu (e_lst (a_cons (e_var 10) a_nil)) e_int) (e_lst (a_cons (c_call (ok__law_pick z) hr (by decide) (takes_of rfl rfl rfl rfl) (by rfl) z.g__law_pick (a_cons (e_var 1) (a_cons (e_op op_addA im_add (e_var 12) (e_lst (a_cons e_dic0 (a_cons e_bl (a_cons (e_tup (a_cons e_str (a_cons e_str a_nil))) (a_cons (e_tup (a_cons (e_lst (a_cons e_str a_nil)) a_nil)) a_nil)))))) a_nil))) a_nil))))
 (s_cons (s_set 14 nd_law rfl (by first | exact .inl rfl | exact .inr rfl) (c_call (ok__law_below z) hr (by decide) (takes_of rfl rfl rfl rfl) (by rfl) z.g__law_below (a_cons (e_var 1) (a_cons e_int a_nil))))
 (s_cons (s_if (t_cmp (op_neD hr.units) im_ne (c_call (ok__law_told z) hr (by decide) (takes_of rfl rfl rfl rfl) (by rfl) z.g__law_told (a_cons (e_op op_addA im_add (e_sl (e_var 3) o_none (o_some (e_var 14))) (e_sl (e_var 13) (o_some (e_var 14)) (o_some e_int))) a_nil)) (e_ix (e_var 2) (e_var 14)))
 (s_one (s_ret e_bl))
 s_nil)
 (s_cons (s_set 14 nd_law rfl (by first | exact .inl rfl | exact .inr rfl) (e_op op_addA im_add e_int (c_call (ok__law_below z) hr (by decide) (takes_of rfl rfl rfl rfl) (by rfl) z.g__law_below (a_cons (e_var 1) (a_cons e_int a_nil)))))
 (s_one (s_ret (e_and (e_cmp (op_eqD hr.units) im_eq (c_call (ok__law_told z) hr (by decide) (takes_of rfl rfl rfl rfl) (by rfl) z.g__law_told (a_cons (e_op op_addA im_add (e_sl (e_var 3) (o_some e_int) (o_some (e_var 14))) (e_sl (e_var 13) (o_some (e_var 14)) o_none)) a_nil)) (e_ix (e_var 2) (e_var 14)))
 (e_one (e_isN (c_call (ok__law_told z) hr (by decide) (takes_of rfl rfl rfl rfl) (by rfl) z.g__law_told (a_cons (e_sl (e_var 3) (o_some e_int) o_none) a_nil)))))))))))))))))))))))))))))
end
end G9
end
section
set_option Elab.async false
set_option linter.all false
set_option maxRecDepth 100000
namespace G9
open PySem PySem.Spec PyProof.Rows L2 FL
/-- the source of numbers -/
def Drw (c : Cell) : Prop := ∃ (a b : Int) (r : List Int), c = .lst (.int a :: .int b :: r.map .int) ∧ r.length ≤ 63
theorem below_ok {c : Cell} {rest : Store} {size : Int} (h : Drw c) (h0 : 0 < size) (h1 : size < 1073741824) :
    ∃ r c', 0 ≤ r ∧ r < size ∧ Drw c' ∧ F__law_below [.ref 0, .int size] (c :: rest) = .ok (.int r) (c' :: rest) := by
  obtain ⟨a, b, l, rfl, hl⟩ := h
  have hm : ∀ (n : Int), 0 ≤ n % size ∧ n % size < size := fun n => ⟨Int.emod_nonneg _ (by omega), Int.emod_lt_of_pos _ h0⟩
  -- behind the first if
  have key : ∀ (b : Int) (l : List Int), l.length ≤ 63 → ∃ r c' e', 0 ≤ r ∧ r < size ∧ Drw c' ∧ (mSeq (mIfS (FL.tB (a2 oGt (a2 oIx (aVar 0) (aC (.int 1))) (aC (.int 0)))) (mSeq (mSet 2 (a2 oMod (aL (on1 oInt) (mCons (a2 oIx (aVar 0) (aC (.int 1))) mNil)) (aVar 1))) (mSeq (mAsgO (a2 oDiv (a2 oIx (aVar 0) (aC (.int 1))) (aVar 1)) (gIx (aVar 0) (aC (.int 1)))) (mRet (aVar 2)))) mPass) (mSeq (mAsgO (a2 oMod (aL (on1 oInt) (mCons (a2 oAdd (a2 (oMu false) (a2 oIx (aVar 0) (aC (.int 0))) (aC (.int 48271))) (aC (.int 11))) mNil)) (aC (.int 2147483647))) (gIx (aVar 0) (aC (.int 0)))) (mRet (a2 oMod (aL (on1 oInt) (mCons (a2 oDiv (a2 oIx (aVar 0) (aC (.int 0))) (aC (.int 64))) mNil)) (aVar 1)))))
      [some (D.ref 0), some (.int size), none] (Cell.lst (.int a :: .int b :: l.map .int) :: rest) = .rt (.int r) (c' :: rest) ∧ e' = e' ∧ (e' : Nat) = 0 := by
    intro b l hl
    by_cases hb : 0 < b
    · exact ⟨b % size, _, 0, (hm b).1, (hm b).2, ⟨a, b / size, l, rfl, hl⟩, by simp [h0, h1, hb], rfl, rfl⟩
    · refine ⟨(a * 48271 + 11) % 2147483647 / 64 % size, _, 0, (hm _).1, (hm _).2, ⟨(a * 48271 + 11) % 2147483647, b, l, rfl, hl⟩, ?_, rfl, rfl⟩
      simp [h0, h1, hb, oMu_int]
  have run : ∃ r c', 0 ≤ r ∧ r < size ∧ Drw c' ∧ b__law_below [some (D.ref 0), some (.int size), none] (Cell.lst (.int a :: .int b :: l.map .int) :: rest) = .rt (.int r) (c' :: rest) := by
    unfold b__law_below
    by_cases hb : b = 0
    · subst hb
      cases l with
      | nil =>
        obtain ⟨r, c', e', r1, r2, r3, r4, _⟩ := key 0 [] hl
        refine ⟨r, c', r1, r2, r3, ?_⟩
        rw [mSeq_e, ← r4]
        simp
      | cons x l =>
        obtain ⟨r, c', e', r1, r2, r3, r4, _⟩ := key x l (by simp at hl; omega)
        refine ⟨r, c', r1, r2, r3, ?_⟩
        rw [mSeq_e, ← r4]
        have e := lPopAt_2 (x0 := .int a) (x1 := .int 0) (x2 := .int x) (xs := l.map .int) (rest := rest) (by simp at hl ⊢; omega)
        have h2 : (2 : Int) < (l.length : Int) + 1 + 1 + 1 := by omega
        simp [e, h2]
    · obtain ⟨r, c', e', r1, r2, r3, r4, _⟩ := key b l hl
      refine ⟨r, c', r1, r2, r3, ?_⟩
      rw [mSeq_e, ← r4]
      simp [hb]
  obtain ⟨r, c', r1, r2, r3, r4⟩ := run
  exact ⟨r, c', r1, r2, r3, mkF_rt rfl r4 rfl⟩
theorem pick_ok {c : Cell} {rest : Store} {its : List D} (h : Drw c) (hne : its ≠ []) (hl : its.length < 1000) : ∃ d c', d ∈ its ∧ Drw c' ∧ F__law_pick [.ref 0, .lst its] (c :: rest) = .ok d (c' :: rest) := by
  have hp : 0 < its.length := List.length_pos_iff.mpr hne
  obtain ⟨r, c', r1, r2, r3, r4⟩ := below_ok (rest := rest) (size := its.length) h (by omega) (by omega)
  obtain ⟨k, rfl⟩ : ∃ k : Nat, r = k := ⟨r.toNat, by omega⟩
  have hk : k < its.length := by omega
  refine ⟨its[k], c', List.getElem_mem hk, r3, mkF_rt (st' := c' :: rest) rfl ?_ rfl⟩
  show b__law_pick [some (.ref 0), some (.lst its)] (c :: rest) = _
  unfold b__law_pick
  simp [r4]
  rw [oAt_nat (d := its[k]) (by simp)]
  rfl
theorem random_ok (ns : List Int) (salt : Int) (hl : ns.length ≤ 63) : ∃ c, Drw c ∧ F__law_random [.scr ns, .int salt] [] = .ok (.ref 0) [c] := by
  have loop : ∀ (ms : List Int) (s : Int) (o : Option D), ∃ s' o', foL (gN 3) (mSet 2 (a2 oMod (aL (on1 oInt) (mCons (a2 oAdd (a2 (oMu false) (aVar 2) (aC (.int 31))) (aL (on1 oAbs) (mCons (aVar 3) mNil))) mNil)) (aC (.int 2147483647)))) (ms.map .int) [some (.scr ns), some (.int salt), some (.int s), o] [] = .nx [some (.scr ns), some (.int salt), some (.int s'), o'] [] := by
    intro ms
    induction ms with
    | nil => exact fun s o => ⟨s, o, rfl⟩
    | cons m ms ih =>
      intro s o
      obtain ⟨s', o', h⟩ := ih ((s * 31 + (if m < 0 then -m else m)) % 2147483647) (some (.int m))
      refine ⟨s', o', ?_⟩
      rw [List.map_cons, foL_cons]
      simp [oMu_int]
      exact h
  obtain ⟨s', o', h⟩ := loop ns salt none
  have pw : (10 : Int) ^ Int.toNat 18 = 1000000000000000000 := by decide
  have comp : ∀ e3, lcL (gN 3) (FL.tB (a2 oGe (aVar 3) (a2 oPow (aC (.int 10)) (aC (.int 18))))) (aVar 3) [some (.scr ns), some (.int salt), some (.int s'), e3] (ns.map .int) [] [] = .ok ((ns.filter fun n => decide (1000000000000000000 ≤ n)).map .int) [] := by
    intro e3
    have := lcL_pure (k := gN 3) (t := FL.tB (a2 oGe (aVar 3) (a2 oPow (aC (.int 10)) (aC (.int 18))))) (m := aVar 3) (e := [some (.scr ns), some (.int salt), some (.int s'), e3]) (st := []) (fun d => match d with | .int n => decide (1000000000000000000 ≤ n) | _ => false) id (ns.map .int) [] (fun x hx => by
      obtain ⟨n, _, rfl⟩ := List.mem_map.mp hx
      refine ⟨_, rfl, ?_, fun _ => rfl⟩
      simp [oPow, oI, pw]) (by have : BIG = 16777216 := rfl; simp; omega)
    rw [this]
    simp [List.filter_map, Function.comp_def]
  have hf : (ns.filter fun n => decide (1000000000000000000 ≤ n)).length ≤ 63 := Nat.le_trans (List.length_filter_le _ _) hl
  refine ⟨_, ⟨s', 0, ns.filter fun n => decide (1000000000000000000 ≤ n), rfl, hf⟩, ?_⟩
  refine mkF_keep rfl ?_
  show b__law_random [some (.scr ns), some (.int salt), none, none] [] = _
  unfold b__law_random
  simp [h]
  simp only [wipeE, List.set, comp, bind_ok]
  have oc := oCat_t (st := []) (a := [.int s', .int 0]) (b := (ns.filter fun n => decide (1000000000000000000 ≤ n)).map .int) (by simp; omega)
  simp only [oc, fl_ok]
  rfl
theorem low_ints (L : Nat) : ∀ r : List Int, lowL L (r.map .int) = true
  | [] => rfl
  | _ :: r => by show (true && lowL L (r.map .int)) = true; rw [low_ints L r]; rfl
theorem low_strs (L : Nat) : ∀ r : List S, lowL L (r.map .str) = true
  | [] => rfl
  | _ :: r => by show (true && lowL L (r.map .str)) = true; rw [low_strs L r]; rfl
theorem Drw.low {c : Cell} (h : Drw c) (L : Nat) : c.low L = true := by
  obtain ⟨a, b, r, rfl, _⟩ := h
  show (true && (true && lowL L (r.map .int))) = true
  rw [low_ints]; rfl
theorem sh_strs (n : Nat) : ∀ r : List S, shL (r.map .str) n = true
  | [] => by unfold shL; rfl
  | s :: r => by
    show shL (.str s :: r.map .str) n = true
    unfold shL
    rw [sh_strs n r]
    simp [D.sh]
theorem any_strs (x : S) : ∀ r : List S, ((r.map D.str).any fun z => z.eqv (.str x)) = r.contains x
  | [] => rfl
  | s :: r => by
    rw [List.map_cons, List.any_cons, any_strs x r, List.contains_cons]
    congr 1
    simp only [D.eqv]
    by_cases e : s = x
    · subst e; simp
    · have : (x == s) = false := beq_eq_false_iff_ne.mpr (Ne.symm e)
      simp [e, this]
def everyS : List S := [[97, 110, 101, 119], [99, 117, 116], [102, 114, 111, 110, 116], [109, 111, 118, 101], [115, 101, 110, 100], [116, 117, 114, 110]]

theorem rng_ok {n : Nat} {st : Store} {m : Me} {e : En} (h : n ≤ 1000) (hm : m e st = .ok (.int n) st) : iR1 (mCons m mNil) e st = .ok (rgD 0 n) st := by
  have b1 : (-(2 ^ 62) : Int) ≤ n ∧ (n : Int) < 2 ^ 62 := by omega
  rw [iR1_e, mCons_e, hm, bind_ok, mNil_e, bind_ok, bind_ok]
  simp only
  rw [if_pos b1, Int.toNat_natCast]
theorem oTupOf_l {ys : List D} {st : Store} : oTupOf (.lst ys) st = .ok (.tup ys) st := rfl
end G9
end
section
set_option Elab.async false
set_option linter.all false
set_option maxRecDepth 100000
namespace G9
open PySem PySem.Spec PyProof.Rows L2 FL
def strD (l : List S) : List D := l.map .str
def eS : List S := [[97, 108, 108], [110, 101, 119], [110, 111, 110, 101]]
def gS : List S := [[99, 111, 109, 109, 105, 116, 115], [100, 114, 111, 112, 115]]
def nS : List S := [[110, 111, 119], [119, 97, 105, 116, 115]]
def hS : List S := [[99, 108, 111, 115, 101, 100], [101, 97, 99, 104]]
def sS : List S := [[97, 108, 108], [99, 108, 111, 115, 101, 100], [119, 97, 105, 116, 115]]
theorem flat_strD : ∀ l : List S, (strD l).all D.flat = true
  | [] => rfl
  | s :: l => by show (true && (strD l).all D.flat) = true; rw [flat_strD l]; rfl
theorem oIn_tup {s : S} {l : List S} {st : Store} : oIn false (.str s) (.tup (strD l)) st = .ok (.bl (l.contains s)) st := by
  have e2 : oIn false (.str s) (.tup (strD l)) st = (if ((D.str s).flat && (strD l).all D.flat) = true then .ok (.bl (false != (strD l).any fun z => z.eqv (.str s))) st else .no) := by
    unfold oIn
    cases s with
    | nil => rfl
    | cons a s => cases s <;> rfl
  rw [e2, flat_strD]
  unfold strD
  rw [any_strs]
  simp [D.flat]
theorem is_one {s : S} {l : List S} {st : Store} : F_is_one_of [.str s, .tup (strD l)] st = .ok (.bl (l.contains s)) st := by
  refine mkF_rt rfl ?_ rfl
  show b_is_one_of [some (.str s), some (.tup (strD l))] st = _
  unfold b_is_one_of
  simp [oIsiT, tyN, isT, oIn_tup]
theorem bls_true : ∀ n : Nat, blsOf (List.replicate n (.bl true)) = some (List.replicate n true)
  | 0 => rfl
  | n + 1 => by rw [List.replicate_succ, List.replicate_succ]; show (blsOf (List.replicate n (.bl true))).map (true :: ·) = _; rw [bls_true n]; rfl
theorem ssOf_strD : ∀ l : List S, ssOf (strD l) = some l
  | [] => rfl
  | s :: l => by show (ssOf (strD l)).map (s :: ·) = _; rw [ssOf_strD l]; rfl
theorem eqvL_strD : ∀ l : List S, eqvL (strD l) (strD l) = true
  | [] => rfl
  | s :: l => by
    show ((D.str s).eqv (.str s) && eqvL (strD l) (strD l)) = true
    rw [eqvL_strD l]
    simp [D.eqv]
def subs : List S → List (List S)
  | [] => [[]]
  | x :: r => subs r ++ (subs r).map (x :: ·)
theorem subs_filter (p : S → Bool) : ∀ l : List S, l.filter p ∈ subs l
  | [] => by simp [subs]
  | x :: l => by
    unfold subs
    rw [List.filter_cons]
    split
    · exact List.mem_append_right _ (List.mem_map.mpr ⟨_, subs_filter p l, rfl⟩)
    · exact List.mem_append_left _ (subs_filter p l)
theorem subs_sorted : ((subs everyS).all fun ws => decide (sortU ws = ws) && (decide (ws.length ≤ 6) && ws.all fun w => everyS.contains w)) = true := by decide +kernel
theorem sub_facts {ws : List S} (h : ws ∈ subs everyS) : sortU ws = ws ∧ ws.length ≤ 6 ∧ ∀ w ∈ ws, everyS.contains w = true := by
  have := List.all_eq_true.mp subs_sorted ws h
  obtain ⟨h1, h2⟩ := ba2 this
  obtain ⟨h2, h3⟩ := ba2 h2
  exact ⟨of_decide_eq_true h1, of_decide_eq_true h2, fun w hw => List.all_eq_true.mp h3 w hw⟩
theorem KW : K_WORDS = .tup (strD everyS) := rfl
theorem are_words {ws : List S} {st : Store} (h : ws ∈ subs everyS) : F_are_words [.tup (strD ws)] st = .ok (.bl true) st := by
  obtain ⟨h1, h2, h3⟩ := sub_facts h
  refine mkF_rt rfl ?_ rfl
  show b_are_words [some (.tup (strD ws)), none] st = _
  have comp : lcL (gN 1) tYe (aL F_is_one_of (mCons (aVar 1) (mCons (aC K_WORDS) mNil))) [some (.tup (strD ws)), none] (strD ws) st [] = .ok ((strD ws).map fun _ => .bl true) st := by
    refine lcL_map (fun _ => .bl true) _ (fun x hx => ?_) (by unfold strD; rw [List.length_map]; have : BIG = 16777216 := rfl; omega)
    obtain ⟨w, hw, rfl⟩ := List.mem_map.mp hx
    refine ⟨_, rfl, ?_⟩
    have hm : w ∈ everyS := by simpa using h3 w hw
    simp [KW, is_one, hm]
  have e1 : onBls (.lst ((strD ws).map fun _ => D.bl true)) st (fun bs => .ok (.bl (bs.all id)) st) = .ok (.bl true) st := by
    have : ((strD ws).map fun _ => D.bl true) = List.replicate ws.length (.bl true) := by
      unfold strD
      rw [List.map_map]
      exact List.eq_replicate_iff.mpr ⟨by simp, fun b hb => by obtain ⟨_, _, rfl⟩ := List.mem_map.mp hb; rfl⟩
    unfold onBls onLs lsOf
    rw [this]
    simp only [bls_true]
    simp
  unfold b_are_words
  simp only [mSeq_e, mIfS_e, tO_e, tN_e, tB_e, a1_e, aVar_0, bind_ok, oIsiT, tyN, isT, toB_e, aL_e, mCons_e, mLc_e, iSq_e, wipeE, List.set, comp, mNil_e, on1_e, oAll, e1]
  simp
  have e2 : oListOf (.tup (strD ws)) st = .ok (.lst (strD ws)) st := rfl
  have e3 : oSortSet (.tup (strD ws)) st = .ok (.lst (strD ws)) st := by
    show (match ssOf (strD ws) with | some ss => if ss.length ≤ 60 then Res.ok (D.lst ((sortU ss).map .str)) st else .no | none => .no) = _
    rw [ssOf_strD]
    simp only
    rw [if_pos (by omega), h1]
    rfl
  have sh : ∀ n, shL (strD ws) n = true := fun n => sh_strs n ws
  have e4 : oEq (.lst (strD ws)) (.lst (strD ws)) st = .ok (.bl true) st := by
    have this : (D.lst (strD ws)).sh 40 = true := by unfold D.sh; exact sh 39
    refine (if_pos (by show ((D.lst (strD ws)).sh 40 && (D.lst (strD ws)).sh 40) = true; rw [this]; rfl)).trans ?_
    show Res.ok (D.bl ((D.lst (strD ws)).eqv (D.lst (strD ws)))) st = _
    simp [D.eqv, eqvL_strD]
  rw [e2]
  simp [e3, e4]
end G9
end
section
set_option Elab.async false
set_option linter.all false
set_option maxRecDepth 100000
namespace G9
open PySem PySem.Spec PyProof.Rows L2 FL
@[simp] theorem mRaise_e {c : S} {fl : List S} {ma : Ma} {e : En} {st : Store} : mRaise c fl ma e st = (ma e st).flB e fun ds st1 => if ds.length = fl.length then .exc (c, (fl.zip ds).reverse) e st1 else .no := (rfl)
@[simp] theorem mRaise0_e {c : S} {e : En} {st : Store} : mRaise0 c e st = .exc (c, []) e st := (rfl)
@[simp] theorem exc_bind {x : Exn} {e : En} {st : Store} {k : En → Store → Fl} : (Fl.exc x e st).bind k = Fl.exc x e st := (rfl)
@[simp] theorem rexc_bind {α β : Type} {x : Exn} {st : Store} {k : α → Store → Res β} : (Res.exc x st : Res α).bind k = Res.exc x st := (rfl)
@[simp] theorem rexc_fl {x : Exn} {e : En} {st : Store} {k : D → Store → Fl} : (Res.exc x st).fl e k = Fl.exc x e st := (rfl)
theorem mkF_exc {keep : Bool} {n N : Nat} {b : Ms} {ds : List D} {st st' : Store} {x : Exn} {e' : En} (hn : ds.length = n) (h : b (ds.map some ++ List.replicate (N - n) none) st = .exc x e' st') (hl : st'.length = st.length) : mkF keep n N b ds st = .exc x st' := by
  unfold mkF
  rw [if_pos hn, h]
  unfold finF popX
  cases keep <;> simp [hl]
theorem mkF_popX {n N : Nat} {b : Ms} {ds : List D} {st st' : Store} {x : Exn} {e' : En} (hn : ds.length = n) (h : b (ds.map some ++ List.replicate (N - n) none) st = .exc x e' st') (hd : lowF st.length x.2 = true) (hs : (st'.take st.length).all (Cell.low st.length) = true) :
    mkF false n N b ds st = .exc x (if st'.length = st.length then st' else st'.take st.length) := by
  unfold mkF
  rw [if_pos hn, h]
  unfold finF popX
  by_cases e : st'.length = st.length
  · simp [e]
  · simp [e, hd]
    exact fun a b => List.all_eq_true.mp hs a b
/-- data whose kind is a built-in one -/
def kD (d : D) : Bool := match d with
  | .non | .bl _ | .int _ | .str _ | .tup _ | .lst _ | .dic _ => true
  | _ => false
def isP (l : List S) (d : D) : Bool := match d with
  | .str s => l.contains s
  | _ => false
theorem is_oneD {d : D} {l : List S} {st : Store} (h : kD d = true) : F_is_one_of [d, .tup (strD l)] st = .ok (.bl (isP l d)) st := by
  cases d with
  | str s => exact is_one
  | ref n => cases h
  | scr n => cases h
  | nd n => cases h
  | obj c f => cases h
  | _ =>
    refine mkF_rt rfl ?_ rfl
    unfold b_is_one_of
    simp [oIsiT, tyN, isT, isP]
def chS : S := [99, 104, 97, 110, 103, 101, 115]
def cuS : S := [99, 117, 114, 115, 111, 114]
def ctS : S := [99, 117, 116, 115]
def heS : S := [104, 101, 97, 114, 115]
def seS : S := [115, 101, 110, 100, 115]
def woS : S := [119, 111, 114, 100, 115]
def agS : S := [97, 103, 97, 105, 110]
def goS : S := [103, 111, 101, 115]
def sName : S := [110, 97, 109, 101]
def bp (s : S) : Exn := (n_BadPart, [(sName, .str s)])
def rS : S := [114, 117, 108, 101]
def tS : S := [116, 111, 108, 100]
theorem KA : K_AGAIN = .tup (strD eS) := rfl
theorem KG : K_GOES = .tup (strD gS) := rfl
theorem get_end {α : Type} {l : List α} {x : α} : (l ++ [x])[l.length]? = some x := by simp
theorem set_end {α : Type} {l : List α} {x y : α} : (l ++ [x]).set l.length y = l ++ [y] := by simp
theorem stF_end {c f : S} {v : D} {e : En} {st : Store} : stF c f (.ref st.length) v e (st ++ [.ins c []]) = .nx e (st ++ [.ins c [(f, v)]]) := by
  unfold stF
  simp only [get_end, set_end]
  simp [putD]
theorem fz_end {c : S} {fs : List (S × D)} {st : Store} : fz (.ref st.length) (st ++ [.ins c fs]) = .ok (.obj c fs) (st ++ [.dead]) := by
  unfold fz
  simp only [get_end, set_end]
theorem kg1 {st : Store} : oKGet T_CHOICES (.str [99, 104, 97, 110, 103, 101, 115]) st = .ok (.tup (strD nS)) st := rfl
theorem kg2 {st : Store} : oKGet T_CHOICES (.str [99, 117, 114, 115, 111, 114]) st = .ok (.tup (strD nS)) st := rfl
theorem kg3 {st : Store} : oKGet T_CHOICES (.str [99, 117, 116, 115]) st = .ok (.tup (strD nS)) st := rfl
theorem kg4 {st : Store} : oKGet T_CHOICES (.str [104, 101, 97, 114, 115]) st = .ok (.tup (strD hS)) st := rfl
theorem kg5 {st : Store} : oKGet T_CHOICES (.str [115, 101, 110, 100, 115]) st = .ok (.tup (strD sS)) st := rfl
/-! ### the two __init__ -/
def fbW (a g : D) : Option S := if isP eS a = true then (if isP gS g = true then none else some goS) else some agS
def fbP (d0 d1 d2 d3 d4 : D) (w : Bool) : Option S := if isP nS d0 = true then (if isP nS d1 = true then (if isP nS d2 = true then (if isP hS d3 = true then (if isP sS d4 = true then (if w = true then none else some woS) else some seS) else some heS) else some ctS) else some cuS) else some chS
def oW (a g : D) : D := .obj n_Writer [(tS, .tup [a, g])]
def oP (d0 d1 d2 d3 d4 w : D) : D := .obj n_Program [(rS, .tup [d0, d1, d2, d3, d4, w])]
theorem writer_init {a g : D} {st : Store} (ha : kD a = true) (hg : kD g = true) : F_Writer_init [.ref st.length, a, g] (st ++ [.ins n_Writer []]) = match fbW a g with
    | some s => .exc (bp s) (st ++ [.ins n_Writer []])
    | none => .ok .non (st ++ [.ins n_Writer [(tS, .tup [a, g])]]) := by
  unfold fbW
  by_cases h1 : isP eS a = true
  · by_cases h2 : isP gS g = true
    · simp only [h1, h2, if_true]
      refine mkF_nx (e' := [some (.ref st.length), some a, some g]) rfl ?_ (by simp)
      show b_Writer_init [some (.ref st.length), some a, some g] _ = _
      unfold b_Writer_init
      simp [KA, KG, is_oneD ha, is_oneD hg, h1, h2, stF_end, tS]
    · simp only [h1, h2, if_true]
      refine mkF_exc (e' := [some (.ref st.length), some a, some g]) rfl ?_ rfl
      show b_Writer_init [some (.ref st.length), some a, some g] _ = _
      unfold b_Writer_init
      simp [KA, KG, is_oneD ha, is_oneD hg, h1, h2, bp, goS, sName]
  · simp only [h1]
    refine mkF_exc (e' := [some (.ref st.length), some a, some g]) rfl ?_ rfl
    show b_Writer_init [some (.ref st.length), some a, some g] _ = _
    unfold b_Writer_init
    simp [KA, KG, is_oneD ha, is_oneD hg, h1, bp, agS, sName]
theorem program_init {d0 d1 d2 d3 d4 dw : D} {w : Bool} {st : Store} (k0 : kD d0 = true) (k1 : kD d1 = true) (k2 : kD d2 = true) (k3 : kD d3 = true) (k4 : kD d4 = true) (kw : ∀ st, F_are_words [dw] st = .ok (.bl w) st) :
    F_Program_init [.ref st.length, d0, d1, d2, d3, d4, dw] (st ++ [.ins n_Program []]) = match fbP d0 d1 d2 d3 d4 w with
    | some s => .exc (bp s) (st ++ [.ins n_Program []])
    | none => .ok .non (st ++ [.ins n_Program [(rS, .tup [d0, d1, d2, d3, d4, dw])]]) := by
  have zp : zpD [.str [99, 104, 97, 110, 103, 101, 115], .str [99, 117, 114, 115, 111, 114], .str [99, 117, 116, 115], .str [104, 101, 97, 114, 115], .str [115, 101, 110, 100, 115]] [d0, d1, d2, d3, d4] = [.tup [.str [99, 104, 97, 110, 103, 101, 115], d0], .tup [.str [99, 117, 114, 115, 111, 114], d1], .tup [.str [99, 117, 116, 115], d2], .tup [.str [104, 101, 97, 114, 115], d3], .tup [.str [115, 101, 110, 100, 115], d4]] := rfl
  have run : ∃ e', b_Program_init [some (.ref st.length), some d0, some d1, some d2, some d3, some d4, some dw, none, none] (st ++ [.ins n_Program []]) = match fbP d0 d1 d2 d3 d4 w with
      | some s => .exc (bp s) e' (st ++ [.ins n_Program []])
      | none => .nx e' (st ++ [.ins n_Program [(rS, .tup [d0, d1, d2, d3, d4, dw])]]) := by
    refine ⟨match fbP d0 d1 d2 d3 d4 w with
      | some s => if s = chS then [some (.ref st.length), some d0, some d1, some d2, some d3, some d4, some dw, some (.str chS), some d0] else if s = cuS then [some (.ref st.length), some d0, some d1, some d2, some d3, some d4, some dw, some (.str cuS), some d1] else
        if s = ctS then [some (.ref st.length), some d0, some d1, some d2, some d3, some d4, some dw, some (.str ctS), some d2] else if s = heS then [some (.ref st.length), some d0, some d1, some d2, some d3, some d4, some dw, some (.str heS), some d3] else [some (.ref st.length), some d0, some d1, some d2, some d3, some d4, some dw, some (.str seS), some d4]
      | none => [some (.ref st.length), some d0, some d1, some d2, some d3, some d4, some dw, some (.str seS), some d4], ?_⟩
    unfold b_Program_init
    rw [mSeq_e, mFor_e, iZp_ok (d := K_PARTS) (d2 := .tup [d0, d1, d2, d3, d4]) (st' := st ++ [.ins n_Program []]) (by simp) rfl rfl, zp]
    unfold fbP
    by_cases h0 : isP nS d0 = true
    · by_cases h1 : isP nS d1 = true
      · by_cases h2 : isP nS d2 = true
        · by_cases h3 : isP hS d3 = true
          · by_cases h4 : isP sS d4 = true
            · cases w with
              | true => simp [foL_cons, kg1, kg2, kg3, kg4, kg5, is_oneD k0, is_oneD k1, is_oneD k2, is_oneD k3, is_oneD k4, h0, h1, h2, h3, h4, kw, stF_end, rS, seS]
              | false => simp [foL_cons, kg1, kg2, kg3, kg4, kg5, is_oneD k0, is_oneD k1, is_oneD k2, is_oneD k3, is_oneD k4, h0, h1, h2, h3, h4, kw, bp, woS, sName, seS, chS, cuS, ctS, heS]
            · simp [foL_cons, kg1, kg2, kg3, kg4, kg5, is_oneD k0, is_oneD k1, is_oneD k2, is_oneD k3, is_oneD k4, h0, h1, h2, h3, h4, bp, sName, seS, chS, cuS, ctS, heS]
          · simp [foL_cons, kg1, kg2, kg3, kg4, kg5, is_oneD k0, is_oneD k1, is_oneD k2, is_oneD k3, is_oneD k4, h0, h1, h2, h3, bp, sName, seS, chS, cuS, ctS, heS]
        · simp [foL_cons, kg1, kg2, kg3, kg4, kg5, is_oneD k0, is_oneD k1, is_oneD k2, is_oneD k3, is_oneD k4, h0, h1, h2, bp, sName, seS, chS, cuS, ctS, heS]
      · simp [foL_cons, kg1, kg2, kg3, kg4, kg5, is_oneD k0, is_oneD k1, is_oneD k2, is_oneD k3, is_oneD k4, h0, h1, bp, sName, seS, chS, cuS, ctS, heS]
    · simp [foL_cons, kg1, kg2, kg3, kg4, kg5, is_oneD k0, is_oneD k1, is_oneD k2, is_oneD k3, is_oneD k4, h0, bp, sName, seS, chS, cuS, ctS, heS]
  obtain ⟨e', run⟩ := run
  cases q : fbP d0 d1 d2 d3 d4 w with
  | some s => rw [q] at run; exact mkF_exc rfl run rfl
  | none => rw [q] at run; exact mkF_nx rfl run (by simp)
theorem make_writer {ma mg : Me} {e : En} {a g : D} {st : Store} (ha : kD a = true) (hg : kD g = true) (h1 : ma e st = .ok a st) (h2 : mg e st = .ok g st) : mMake true n_Writer F_Writer_init (mCons ma (mCons mg mNil)) e st = match fbW a g with
    | some s => .exc (bp s) (st ++ [.ins n_Writer []])
    | none => .ok (oW a g) (st ++ [.dead]) := by
  have i := writer_init (st := st) ha hg
  cases q : fbW a g with
  | some s => rw [q] at i; simp [h1, h2, i]
  | none => rw [q] at i; simp [h1, h2, i, fz_end, oW]
theorem make_program {m1 m2 m3 m4 m5 m6 : Me} {e : En} {d0 d1 d2 d3 d4 dw : D} {w : Bool} {st : Store} (k0 : kD d0 = true) (k1 : kD d1 = true) (k2 : kD d2 = true) (k3 : kD d3 = true) (k4 : kD d4 = true) (kw : ∀ st, F_are_words [dw] st = .ok (.bl w) st)
    (e1 : m1 e st = .ok d0 st) (e2 : m2 e st = .ok d1 st) (e3 : m3 e st = .ok d2 st) (e4 : m4 e st = .ok d3 st) (e5 : m5 e st = .ok d4 st) (e6 : m6 e st = .ok dw st) :
    mMake true n_Program F_Program_init (mCons m1 (mCons m2 (mCons m3 (mCons m4 (mCons m5 (mCons m6 mNil)))))) e st = match fbP d0 d1 d2 d3 d4 w with
    | some s => .exc (bp s) (st ++ [.ins n_Program []])
    | none => .ok (oP d0 d1 d2 d3 d4 dw) (st ++ [.dead]) := by
  have i := program_init (st := st) k0 k1 k2 k3 k4 kw
  cases q : fbP d0 d1 d2 d3 d4 w with
  | some s => rw [q] at i; simp [e1, e2, e3, e4, e5, e6, i]
  | none => rw [q] at i; simp [e1, e2, e3, e4, e5, e6, i, fz_end, oP]
end G9
end
section
set_option Elab.async false
set_option linter.all false
set_option maxRecDepth 100000
namespace G9
open PySem PySem.Spec PyProof.Rows L2 FL
def resN : Option S → D
  | none => .non
  | some s => .str s
theorem low_resN (L : Nat) (r : Option S) : (resN r).low L = true := by cases r <;> rfl
section
variable {i j : Nat} {f : S} {ok ok1 ok2 : S → Option Bool} {b sb : Ms} {e e1 : En} {st st1 : Store} {x : Exn} {d : D}
theorem mTryF_hit (h : b e st = .exc x e1 st1) (ho : ok x.1 = some true) (h1 : x.2.lookup f = some d) (hi : i < e1.length) : mTryF i j f ok b e st = .nx (((e1.set i none).set j (some d)).set i none) st1 := by
  simp only [mTryF, h, ho, h1, if_pos hi]
theorem mTryF_nx (h : b e st = .nx e1 st1) : mTryF i j f ok b e st = .nx e1 st1 := by
  simp only [mTryF, h]
theorem mTryUF_nx (h : b e st = .nx e1 st1) : mTryUF i j f ok1 ok2 b sb e st = .nx e1 st1 := by
  simp only [mTryUF, h]
theorem mTryUF_1 (h : b e st = .exc x e1 st1) (ho : ok1 x.1 = some true) : mTryUF i j f ok1 ok2 b sb e st = noExc (sb e1 st1) := by
  simp only [mTryUF, h, ho]
theorem mTryUF_2 (h : b e st = .exc x e1 st1) (ho : ok1 x.1 = some false) (ho2 : ok2 x.1 = some true) (h1 : x.2.lookup f = some d) (hi : i < e1.length) : mTryUF i j f ok1 ok2 b sb e st = .nx (((e1.set i none).set j (some d)).set i none) st1 := by
  simp only [mTryUF, h, ho, ho2, h1, if_pos hi]
end
theorem ok_bp : okOf [(n_BadPart, true)] n_BadPart = some true := by decide +kernel
theorem ok1_bp : okOf [(n_UnknownPart, true), (n_BadPart, false)] n_BadPart = some false := by decide +kernel
theorem ok1_up : okOf [(n_UnknownPart, true), (n_BadPart, false)] n_UnknownPart = some true := by decide +kernel
theorem ok2_bp : okOf [(n_UnknownPart, false), (n_BadPart, true)] n_BadPart = some true := by decide +kernel
section
variable {d0 d1 d2 d3 d4 dw : D} {w : Bool} {st : Store}
theorem take_all {x : List Cell} (hs : st.all (Cell.low st.length) = true) : ((st ++ x).take st.length).all (Cell.low st.length) = true := by
  rw [List.take_left' rfl]; exact hs
theorem told2 (k0 : kD d0 = true) (k1 : kD d1 = true) (hs : st.all (Cell.low st.length) = true) : F__law_told [.lst [d0, d1]] st = .ok (resN (fbW d0 d1)) st := by
  have mk := make_writer (e := [some (.lst [d0, d1]), some .non, none]) (st := st) k0 k1 (ma := a2 oIx (aVar 0) (aC (.int 0))) (mg := a2 oIx (aVar 0) (aC (.int 1))) (by simp) (by simp)
  have run : ∃ y, b__law_told [some (.lst [d0, d1]), none, none] st = .rt (resN (fbW d0 d1)) (st ++ [y]) := by
    unfold b__law_told
    rw [mSeq_e, mSet_e, aC_e, fl_ok, nx_bind, mSeq_e]
    cases q : fbW d0 d1 with
    | some s =>
      rw [q] at mk
      simp only [List.set]
      rw [mTryF_hit (x := bp s) (e1 := [some (.lst [d0, d1]), some .non, none]) (st1 := st ++ [.ins n_Writer []]) (d := .str s) (by
        rw [mIfS_e]
        simp [-mMake_e, mk]) ok_bp rfl (by simp)]
      exact ⟨_, rfl⟩
    | none =>
      rw [q] at mk
      simp only [List.set]
      rw [mTryF_nx (e1 := [some (.lst [d0, d1]), some .non, none]) (st1 := st ++ [.dead]) (by
        rw [mIfS_e]
        simp [-mMake_e, mk])]
      exact ⟨_, rfl⟩
  obtain ⟨y, run⟩ := run
  have := mkF_pop (n := 1) (N := 3) (b := b__law_told) (ds := [.lst [d0, d1]]) (st := st) rfl run (low_resN _ _) (take_all hs)
  rw [if_neg (by simp), List.take_left' rfl] at this
  exact this
theorem told6 (k0 : kD d0 = true) (k1 : kD d1 = true) (k2 : kD d2 = true) (k3 : kD d3 = true) (k4 : kD d4 = true) (kw : ∀ st, F_are_words [dw] st = .ok (.bl w) st) (hs : st.all (Cell.low st.length) = true) :
    F__law_told [.lst [d0, d1, d2, d3, d4, dw]] st = .ok (resN (fbP d0 d1 d2 d3 d4 w)) st := by
  have mk := make_program (e := [some (.lst [d0, d1, d2, d3, d4, dw]), some .non, none]) (st := st) k0 k1 k2 k3 k4 kw (m1 := a2 oIx (aVar 0) (aC (.int 0))) (m2 := a2 oIx (aVar 0) (aC (.int 1))) (m3 := a2 oIx (aVar 0) (aC (.int 2))) (m4 := a2 oIx (aVar 0) (aC (.int 3))) (m5 := a2 oIx (aVar 0) (aC (.int 4))) (m6 := a2 oIx (aVar 0) (aC (.int 5)))
    (by simp) (by simp) (by simp) (by simp) (by simp) (by simp)
  have run : ∃ y, b__law_told [some (.lst [d0, d1, d2, d3, d4, dw]), none, none] st = .rt (resN (fbP d0 d1 d2 d3 d4 w)) (st ++ [y]) := by
    unfold b__law_told
    rw [mSeq_e, mSet_e, aC_e, fl_ok, nx_bind, mSeq_e]
    cases q : fbP d0 d1 d2 d3 d4 w with
    | some s =>
      rw [q] at mk
      simp only [List.set]
      rw [mTryF_hit (x := bp s) (e1 := [some (.lst [d0, d1, d2, d3, d4, dw]), some .non, none]) (st1 := st ++ [.ins n_Program []]) (d := .str s) (by
        rw [mIfS_e]
        simp [-mMake_e, mk]) ok_bp rfl (by simp)]
      exact ⟨_, rfl⟩
    | none =>
      rw [q] at mk
      simp only [List.set]
      rw [mTryF_nx (e1 := [some (.lst [d0, d1, d2, d3, d4, dw]), some .non, none]) (st1 := st ++ [.dead]) (by
        rw [mIfS_e]
        simp [-mMake_e, mk])]
      exact ⟨_, rfl⟩
  obtain ⟨y, run⟩ := run
  have := mkF_pop (n := 1) (N := 3) (b := b__law_told) (ds := [.lst [d0, d1, d2, d3, d4, dw]]) (st := st) rfl run (low_resN _ _) (take_all hs)
  rw [if_neg (by simp), List.take_left' rfl] at this
  exact this
end
/-! ### changed -/
def partsS : List S := [chS, cuS, ctS, heS, seS]
theorem KPT : K_PARTS = .tup (strD partsS) := rfl
theorem sIx_hi {n k : Nat} (h : k ≤ n) : HT.sIx n n (some (k : Int)) = k := by
  have : ¬ ((k : Int) < 0) := by omega
  simp [HT.sIx, this]
  omega
theorem sIx_lo {n k : Nat} : HT.sIx n 0 (some (k : Int)) = min k n := by
  have : ¬ ((k : Int) < 0) := by omega
  simp [HT.sIx, this]
theorem cut_hi {α : Type} {xs : List α} {k : Nat} (h : k ≤ xs.length) : FL.cutD xs none (some (k : Int)) = xs.take k := by
  unfold FL.cutD
  rw [sIx_hi h]
  simp [HT.sIx]
theorem cut_lo {α : Type} {xs : List α} {k : Nat} : FL.cutD xs (some (k : Int)) none = xs.drop k := by
  unfold FL.cutD
  rw [sIx_lo]
  have s2 : HT.sIx xs.length xs.length none = xs.length := rfl
  rw [s2]
  by_cases h : k ≤ xs.length
  · rw [Nat.min_eq_left h, List.take_of_length_le (by rw [List.length_drop]; exact Nat.le_refl _)]
  · rw [Nat.min_eq_right (by omega), List.drop_of_length_le (by omega : xs.length ≤ k), List.drop_of_length_le (Nat.le_refl _)]
    simp
section
variable {vals : List D} {x0 x1 x2 x3 x4 x5 wd : D} {w : Bool} {st : Store} {k : Nat} {p : S}
def objP (vals : List D) : D := .obj n_Program [(rS, .tup vals)]
theorem changed_bad {part : D} (hp : kD part = true) (hb : isP partsS part = false) : F_Program_changed [objP vals, part, wd] st = .exc (n_UnknownPart, []) st := by
  refine mkF_exc (e' := [some (objP vals), some part, some wd, none, none]) rfl ?_ rfl
  show b_Program_changed [some (objP vals), some part, some wd, none, none] st = _
  unfold b_Program_changed
  simp [KPT, is_oneD hp, hb]
theorem changed_ok (hk : k ≤ 4) (hv : vals.length = 6) (hp : p ∈ partsS) (hix : ixS p partsS = some k) (hx : vals.take k ++ wd :: vals.drop (k + 1) = [x0, x1, x2, x3, x4, x5]) (k0 : kD x0 = true) (k1 : kD x1 = true) (k2 : kD x2 = true) (k3 : kD x3 = true) (k4 : kD x4 = true)
    (kw : ∀ st, F_are_words [x5] st = .ok (.bl w) st) (hl : ∀ L, lowL L [x0, x1, x2, x3, x4, x5] = true) (hs : st.all (Cell.low st.length) = true) :
    F_Program_changed [objP vals, .str p, wd] st = match fbP x0 x1 x2 x3 x4 w with
      | some s => .exc (bp s) st
      | none => .ok (oP x0 x1 x2 x3 x4 x5) st := by
  have mk := make_program (e := [some (objP vals), some (.str p), some wd, some (.int (k : Nat)), some (.tup [x0, x1, x2, x3, x4, x5])]) (st := st) k0 k1 k2 k3 k4 kw (m1 := a2 oIx (aVar 4) (aC (.int 0))) (m2 := a2 oIx (aVar 4) (aC (.int 1))) (m3 := a2 oIx (aVar 4) (aC (.int 2))) (m4 := a2 oIx (aVar 4) (aC (.int 3))) (m5 := a2 oIx (aVar 4) (aC (.int 4))) (m6 := a2 oIx (aVar 4) (aC (.int 5)))
    (by simp) (by simp) (by simp) (by simp) (by simp) (by simp)
  have fl : ∀ st, oFld n_Program [114, 117, 108, 101] (objP vals) st = .ok (.tup vals) st := fun _ => rfl
  have io : ∀ st, F_is_one_of [.str p, .tup (strD partsS)] st = .ok (.bl true) st := fun st => by rw [is_one]; simp [hp]
  have ti : ∀ st, tIdx (.tup (strD partsS)) [.str p] st = .ok (.int (k : Nat)) st := fun st => by
    show (match ssOf (strD partsS) with | some ss => (match ixS p ss with | some j => Res.ok (D.int j) st | none => .no) | none => .no) = _
    rw [ssOf_strD]
    simp only [hix]
  have s1 : ∀ st, oSl (.tup vals) none (some (k : Int)) st = .ok (.tup (vals.take k)) st := fun st => by
    show Res.ok (D.tup (FL.cutD vals none (some (k : Int)))) st = _
    rw [cut_hi (by omega)]
  have s2 : ∀ st, oSl (.tup vals) (some ((k : Int) + 1)) none st = .ok (.tup (vals.drop (k + 1))) st := fun st => by
    have e : ((k : Int) + 1) = ((k + 1 : Nat) : Int) := by omega
    show Res.ok (D.tup (FL.cutD vals (some ((k : Int) + 1)) none)) st = _
    rw [e, cut_lo]
  have sq : ∀ (xs : List D) st, sqOf (.tup xs) st = some xs := fun _ _ => rfl
  have tp : ∀ st, oTup (vals.take k ++ wd :: (vals.drop (k + 1) ++ [])) st = .ok (.tup [x0, x1, x2, x3, x4, x5]) st := fun st => by
    rw [List.append_nil, hx]
    exact oTup_e (by simp)
  have run : b_Program_changed [some (objP vals), some (.str p), some wd, none, none] st = match fbP x0 x1 x2 x3 x4 w with
      | some s => .exc (bp s) [some (objP vals), some (.str p), some wd, some (.int (k : Nat)), some (.tup [x0, x1, x2, x3, x4, x5])] (st ++ [.ins n_Program []])
      | none => .rt (oP x0 x1 x2 x3 x4 x5) (st ++ [.dead]) := by
    unfold b_Program_changed
    simp only [KPT, mSeq_e, mIfS_e, tN_e, tB_e, aL_e, mCons_e, aVar_s, aVar_0, bind_ok, aC_e, mNil_e, io, toB_e, Bool.not_true, flB_ok, Bool.false_eq_true, if_false, mPass_e, nx_bind, mSet_e, ti, fl_ok, List.set, mStar_e, mSl_e, a1_e, fl, oNone_e, toI_e, s1, s2, sq, a2_e, oAdd_int, tp, mRet_e]
    rw [mk]
    cases fbP x0 x1 x2 x3 x4 w <;> rfl
  cases q : fbP x0 x1 x2 x3 x4 w with
  | some s =>
    rw [q] at run
    have := mkF_popX (n := 3) (N := 5) (b := b_Program_changed) (ds := [objP vals, .str p, wd]) (st := st) rfl run (by simp [bp, lowF, D.low]) (take_all hs)
    rw [if_neg (by simp), List.take_left' rfl] at this
    exact this
  | none =>
    rw [q] at run
    have := mkF_pop (n := 3) (N := 5) (b := b_Program_changed) (ds := [objP vals, .str p, wd]) (st := st) rfl run (by
      have := hl st.length
      simp only [oP, D.low, lowF, Bool.and_true]
      exact this) (take_all hs)
    rw [if_neg (by simp), List.take_left' rfl] at this
    exact this
theorem pr0 : oProp n_Program F_Program_changes (oP x0 x1 x2 x3 x4 x5) st = .ok x0 st := by
  have e : F_Program_changes [oP x0 x1 x2 x3 x4 x5] st = .ok x0 st := mkF_rt (st' := st) rfl rfl rfl
  show (F_Program_changes [oP x0 x1 x2 x3 x4 x5] st).bindN _ = _
  rw [e]; rfl
theorem pr1 : oProp n_Program F_Program_cursor (oP x0 x1 x2 x3 x4 x5) st = .ok x1 st := by
  have e : F_Program_cursor [oP x0 x1 x2 x3 x4 x5] st = .ok x1 st := mkF_rt (st' := st) rfl rfl rfl
  show (F_Program_cursor [oP x0 x1 x2 x3 x4 x5] st).bindN _ = _
  rw [e]; rfl
theorem pr2 : oProp n_Program F_Program_cuts (oP x0 x1 x2 x3 x4 x5) st = .ok x2 st := by
  have e : F_Program_cuts [oP x0 x1 x2 x3 x4 x5] st = .ok x2 st := mkF_rt (st' := st) rfl rfl rfl
  show (F_Program_cuts [oP x0 x1 x2 x3 x4 x5] st).bindN _ = _
  rw [e]; rfl
theorem pr3 : oProp n_Program F_Program_hears (oP x0 x1 x2 x3 x4 x5) st = .ok x3 st := by
  have e : F_Program_hears [oP x0 x1 x2 x3 x4 x5] st = .ok x3 st := mkF_rt (st' := st) rfl rfl rfl
  show (F_Program_hears [oP x0 x1 x2 x3 x4 x5] st).bindN _ = _
  rw [e]; rfl
theorem pr4 : oProp n_Program F_Program_sends (oP x0 x1 x2 x3 x4 x5) st = .ok x4 st := by
  have e : F_Program_sends [oP x0 x1 x2 x3 x4 x5] st = .ok x4 st := mkF_rt (st' := st) rfl rfl rfl
  show (F_Program_sends [oP x0 x1 x2 x3 x4 x5] st).bindN _ = _
  rw [e]; rfl
theorem pr5 : oProp n_Program F_Program_words (oP x0 x1 x2 x3 x4 x5) st = .ok x5 st := by
  have e : F_Program_words [oP x0 x1 x2 x3 x4 x5] st = .ok x5 st := mkF_rt (st' := st) rfl rfl rfl
  show (F_Program_words [oP x0 x1 x2 x3 x4 x5] st).bindN _ = _
  rw [e]; rfl
def resC (r : Option S) (xs : List D) : D := match r with
  | some s => .str s
  | none => .lst xs
def bodyC : Ms := (mSeq (mSet 5 (mMeth n_Program [99, 104, 97, 110, 103, 101, 100] F_Program_changed (aVar 0) (mCons (aVar 1) (mCons (aVar 2) mNil)))) (mSet 3 (aL oLst (mCons (a1 (oProp n_Program F_Program_changes) (aVar 5)) (mCons (a1 (oProp n_Program F_Program_cursor) (aVar 5)) (mCons (a1 (oProp n_Program F_Program_cuts) (aVar 5)) (mCons (a1 (oProp n_Program F_Program_hears) (aVar 5)) (mCons (a1 (oProp n_Program F_Program_sends) (aVar 5)) (mCons (a1 (oProp n_Program F_Program_words) (aVar 5)) mNil)))))))))
theorem meth_e {m : Me} {ma : Ma} {e : En} {st1 : Store} {a b : D} (h : m e st = .ok (objP vals) st) (h2 : ma e st = .ok [a, b] st) : mMeth n_Program [99, 104, 97, 110, 103, 101, 100] F_Program_changed m ma e st = F_Program_changed [objP vals, a, b] st := by
  have f : flds n_Program (objP vals) st = some [(rS, .tup vals)] := rfl
  have l : ([(rS, D.tup vals)] : List (S × D)).lookup [99, 104, 97, 110, 103, 101, 100] = none := rfl
  unfold mMeth
  rw [h]
  simp only [bind_ok, f, l, if_true, h2]
theorem changing_bad {part : D} (hp : kD part = true) (hb : isP partsS part = false) : F__law_changing [objP vals, part, wd] st = .ok (.str [112, 97, 114, 116]) st := by
  have ch := changed_bad (vals := vals) (wd := wd) (st := st) hp hb
  refine mkF_rt (st' := st) rfl ?_ rfl
  show (mSeq (mSet 3 (aC .non)) (mSeq (mTryUF 4 3 [110, 97, 109, 101] (okOf [(n_UnknownPart, true), (n_BadPart, false)]) (okOf [(n_UnknownPart, false), (n_BadPart, true)]) bodyC (mSet 3 (aC (.str [112, 97, 114, 116])))) (mRet (aVar 3)))) _ st = _
  rw [mSeq_e, mSet_e, aC_e, fl_ok, nx_bind, mSeq_e]
  rw [mTryUF_1 (x := (n_UnknownPart, [])) (e1 := [some (objP vals), some part, some wd, some .non, none, none]) (st1 := st) (by
    unfold bodyC
    rw [mSeq_e, mSet_e, meth_e (st1 := st) (vals := vals) (a := part) (b := wd) rfl rfl, ch]
    rfl) ok1_up]
  rfl
theorem changing_ok (hk : k ≤ 4) (hv : vals.length = 6) (hp : p ∈ partsS) (hix : ixS p partsS = some k) (hx : vals.take k ++ wd :: vals.drop (k + 1) = [x0, x1, x2, x3, x4, x5]) (k0 : kD x0 = true) (k1 : kD x1 = true) (k2 : kD x2 = true) (k3 : kD x3 = true) (k4 : kD x4 = true)
    (kw : ∀ st, F_are_words [x5] st = .ok (.bl w) st) (hl : ∀ L, lowL L [x0, x1, x2, x3, x4, x5] = true) (hs : st.all (Cell.low st.length) = true) :
    F__law_changing [objP vals, .str p, wd] st = .ok (resC (fbP x0 x1 x2 x3 x4 w) [x0, x1, x2, x3, x4, x5]) st := by
  have ch := changed_ok (st := st) hk hv hp hix hx k0 k1 k2 k3 k4 kw hl hs
  refine mkF_rt (st' := st) rfl ?_ rfl
  show (mSeq (mSet 3 (aC .non)) (mSeq (mTryUF 4 3 [110, 97, 109, 101] (okOf [(n_UnknownPart, true), (n_BadPart, false)]) (okOf [(n_UnknownPart, false), (n_BadPart, true)]) bodyC (mSet 3 (aC (.str [112, 97, 114, 116])))) (mRet (aVar 3)))) _ st = _
  rw [mSeq_e, mSet_e, aC_e, fl_ok, nx_bind, mSeq_e]
  cases q : fbP x0 x1 x2 x3 x4 w with
  | some s =>
    rw [q] at ch
    rw [mTryUF_2 (x := bp s) (e1 := [some (objP vals), some (.str p), some wd, some .non, none, none]) (st1 := st) (d := .str s) (by
      unfold bodyC
      rw [mSeq_e, mSet_e, meth_e (st1 := st) (vals := vals) (a := .str p) (b := wd) rfl rfl, ch]
      rfl) ok1_bp ok2_bp rfl (by simp)]
    rfl
  | none =>
    rw [q] at ch
    rw [mTryUF_nx (e1 := [some (objP vals), some (.str p), some wd, some (.lst [x0, x1, x2, x3, x4, x5]), none, some (oP x0 x1 x2 x3 x4 x5)]) (st1 := st) (by
      unfold bodyC
      rw [mSeq_e, mSet_e, meth_e (st1 := st) (vals := vals) (a := .str p) (b := wd) rfl rfl, ch]
      simp [pr0, pr1, pr2, pr3, pr4, pr5])]
    rfl
end
/-! ### _law_equal -/
@[simp] theorem oNe_bl {i j : Bool} {st : Store} : oNe (.bl i) (.bl j) st = .ok (.bl (!(i == j))) st := by simp [oNe, rdl, D.sh, D.eqv]
theorem eq_str {n : Nat} {s : S} {st : Store} : F__law_equal (n + 1) [.str s, .str s] st = .ok (.bl true) st := by
  refine mkF_rt (st' := st) rfl ?_ rfl
  show b__law_equal (F__law_equal n) [some (.str s), some (.str s), none, none] st = _
  unfold b__law_equal
  simp [oIsN, oIsiT, tyN, isT]
theorem all_true {n : Nat} {st : Store} : oAll (.lst (List.replicate n (.bl true))) st = .ok (.bl true) st := by
  show onBls (.lst (List.replicate n (.bl true))) st (fun bs => .ok (.bl (bs.all id)) st) = _
  unfold onBls onLs lsOf
  simp only [bls_true]
  simp
theorem eq_comp {n : Nat} {mk : List D → D} {xs : List D} {st : Store} (hmk : ∀ (i : Int) st, oIx (mk xs) (.int i) st = oAt xs i st) (hl : xs.length ≤ 1000) (hx : ∀ x ∈ xs, F__law_equal n [x, x] st = .ok (.bl true) st) :
    lcL (gN 2) tYe (aL (F__law_equal n) (mCons (a2 oIx (aVar 0) (aVar 2)) (mCons (a2 oIx (aVar 1) (aVar 2)) mNil))) [some (mk xs), some (mk xs), none, none] (rgD 0 xs.length) st [] = .ok (List.replicate xs.length (.bl true)) st := by
  rw [lcL_map (fun _ => .bl true) _ (fun x hm => ?_) (by have : BIG = 16777216 := rfl; simp [rgD]; omega)]
  · congr 1
    unfold rgD
    rw [List.map_map]
    exact List.eq_replicate_iff.mpr ⟨by simp, fun b hb => by obtain ⟨_, _, rfl⟩ := List.mem_map.mp hb; rfl⟩
  · unfold rgD at hm
    obtain ⟨i, hi, rfl⟩ := List.mem_map.mp hm
    have hi' := List.mem_range.mp hi
    refine ⟨_, rfl, ?_⟩
    have e : (0 + (i : Int)) = ((i : Nat) : Int) := by omega
    have at_ : oAt xs ((i : Nat) : Int) st = .ok xs[i] st := oAt_nat (List.getElem?_eq_getElem hi')
    simp only [aL_e, mCons_e, a2_e, List.set, aVar_s, aVar_0, bind_ok, hmk, e, at_, mNil_e, hx _ (List.getElem_mem hi')]
theorem eq_tup {n : Nat} {xs : List D} {st : Store} (hl : xs.length ≤ 1000) (hx : ∀ x ∈ xs, F__law_equal n [x, x] st = .ok (.bl true) st) : F__law_equal (n + 1) [.tup xs, .tup xs] st = .ok (.bl true) st := by
  refine mkF_rt (st' := st) rfl ?_ rfl
  show b__law_equal (F__law_equal n) [some (.tup xs), some (.tup xs), none, none] st = _
  have rg : ∀ (e : En) (st : Store), iR1 (mCons (aL (on1 oLen) (mCons (aVar 1) mNil)) mNil) (some (.tup xs) :: some (.tup xs) :: e) st = .ok (rgD 0 xs.length) st := fun e st => rng_ok (n := xs.length) hl (by simp)
  have lc := eq_comp (mk := .tup) (st := st) (fun i st => rfl) hl hx
  unfold b__law_equal
  simp only [mSeq_e, mIfS_e, tB_e, a1_e, a2_e, aVar_s, aVar_0, bind_ok, oIsN, oIsiT, tyN, isT, toB_e, flB_ok, reduceCtorEq, decide_false, Bool.false_or, Bool.false_and, Bool.false_eq_true, if_false, mPass_e, nx_bind, decide_true, Bool.true_or, oNe_bl, BEq.rfl, Bool.not_true, aL_e, mCons_e, mNil_e, on1_e, oLen_tup, oNe_int, mRet_e, mLc_e, rg, wipeE, List.set, lc, all_true, fl_ok, Bool.false_bne, bne_self_eq_false]
theorem eq_lst {n : Nat} {xs : List D} {st : Store} (hl : xs.length ≤ 1000) (hx : ∀ x ∈ xs, F__law_equal n [x, x] st = .ok (.bl true) st) : F__law_equal (n + 1) [.lst xs, .lst xs] st = .ok (.bl true) st := by
  refine mkF_rt (st' := st) rfl ?_ rfl
  show b__law_equal (F__law_equal n) [some (.lst xs), some (.lst xs), none, none] st = _
  have rg : ∀ (e : En) (st : Store), iR1 (mCons (aL (on1 oLen) (mCons (aVar 1) mNil)) mNil) (some (.lst xs) :: some (.lst xs) :: e) st = .ok (rgD 0 xs.length) st := fun e st => rng_ok (n := xs.length) hl (by simp)
  have lc := eq_comp (mk := .lst) (st := st) (fun i st => rfl) hl hx
  unfold b__law_equal
  simp only [mSeq_e, mIfS_e, tB_e, a1_e, a2_e, aVar_s, aVar_0, bind_ok, oIsN, oIsiT, tyN, isT, toB_e, flB_ok, reduceCtorEq, decide_false, Bool.false_or, Bool.false_and, Bool.false_eq_true, if_false, mPass_e, nx_bind, decide_true, Bool.true_or, oNe_bl, BEq.rfl, Bool.not_true, aL_e, mCons_e, mNil_e, on1_e, oLen_lst, oNe_int, mRet_e, mLc_e, rg, wipeE, List.set, lc, all_true, fl_ok, Bool.false_bne, bne_self_eq_false]
theorem eq_strs {n : Nat} {ws : List S} {st : Store} (hl : ws.length ≤ 1000) : F__law_equal (n + 2) [.tup (strD ws), .tup (strD ws)] st = .ok (.bl true) st :=
  eq_tup (by unfold strD; simpa using hl) fun x hx => by
    obtain ⟨s, _, rfl⟩ := List.mem_map.mp hx
    exact eq_str
end G9
end
section
set_option Elab.async false
set_option linter.all false
set_option maxRecDepth 100000
namespace G9
open PySem PySem.Spec PyProof.Rows L2 FL
def S1 : Ms := (mSet 1 (aL F__law_random (mCons (aVar 0) (mCons (aC (.int 979)) mNil))))
def S2 : Ms := (mSet 2 (aL oLst (mCons (aC (.str [97, 103, 97, 105, 110])) (mCons (aC (.str [103, 111, 101, 115])) (mCons (aC (.str [99, 104, 97, 110, 103, 101, 115])) (mCons (aC (.str [99, 117, 114, 115, 111, 114])) (mCons (aC (.str [99, 117, 116, 115])) (mCons (aC (.str [104, 101, 97, 114, 115])) (mCons (aC (.str [115, 101, 110, 100, 115])) (mCons (aC (.str [119, 111, 114, 100, 115])) mNil))))))))))
def S3 : Ms := (mSet 3 (a2 oAdd (mLc [18] (iSq (fun _ st => F__law_some [] st)) (gN 18) tYe (aL F__law_pick (mCons (aVar 1) (mCons (aVar 18) mNil)))) (aL oLst (mCons (aL F__law_tuples (mCons (aVar 1) mNil)) mNil))))
def S4 : Ms := (mSet 4 (a2 oAdd (mLc [8] (iR1 (mCons (aC (.int 7)) mNil)) (gN 8) tYe (aL F__law_pick (mCons (aVar 1) (mCons (aL oLst (mCons (a2 oIx (aVar 3) (aVar 8)) (mCons (aL F__law_pick (mCons (aVar 1) (mCons (a2 oIx (fun _ st => F__law_some [] st) (aVar 8)) mNil))) mNil))) mNil)))) (aL oLst (mCons (aL F__law_pick (mCons (aVar 1) (mCons (aL oLst (mCons (a2 oIx (aVar 3) (aC (.int 7))) (mCons (aL oTup mNil) mNil))) mNil))) mNil))))
def S5 : Ms := (mPar3 15 16 17 (mCons (mMake true n_Writer F_Writer_init (mCons (a2 oIx (aVar 3) (aC (.int 0))) (mCons (a2 oIx (aVar 3) (aC (.int 1))) mNil))) (mCons (mSl (aVar 3) (a1 toI (aC (.int 2))) oNone) (mCons (mSl (aVar 4) (a1 toI (aC (.int 2))) oNone) mNil))))
def S6 : Ms := (mSet 5 (mMake true n_Program F_Program_init (mCons (a2 oIx (aVar 16) (aC (.int 0))) (mCons (a2 oIx (aVar 16) (aC (.int 1))) (mCons (a2 oIx (aVar 16) (aC (.int 2))) (mCons (a2 oIx (aVar 16) (aC (.int 3))) (mCons (a2 oIx (aVar 16) (aC (.int 4))) (mCons (a2 oIx (aVar 16) (aC (.int 5))) mNil))))))))
def S7 : Ms := (mSet 6 (mMake true n_Program F_Program_init (mCons (a2 oIx (aVar 17) (aC (.int 0))) (mCons (a2 oIx (aVar 17) (aC (.int 1))) (mCons (a2 oIx (aVar 17) (aC (.int 2))) (mCons (a2 oIx (aVar 17) (aC (.int 3))) (mCons (a2 oIx (aVar 17) (aC (.int 4))) (mCons (a2 oIx (aVar 17) (aC (.int 5))) mNil))))))))
def S8 : Ms := (mSet 7 (aL oLst (mCons (a1 (oProp n_Writer F_Writer_again) (aVar 15)) (mCons (a1 (oProp n_Writer F_Writer_goes) (aVar 15)) (mCons (a1 (oProp n_Program F_Program_changes) (aVar 5)) (mCons (a1 (oProp n_Program F_Program_cursor) (aVar 5)) (mCons (a1 (oProp n_Program F_Program_cuts) (aVar 5)) (mCons (a1 (oProp n_Program F_Program_hears) (aVar 5)) (mCons (a1 (oProp n_Program F_Program_sends) (aVar 5)) (mCons (a1 (oProp n_Program F_Program_words) (aVar 5)) mNil))))))))))
def S9 : Ms := (mIfS (tO (tN (FL.tB (aL (F__law_equal 3) (mCons (aVar 7) (mCons (aVar 3) mNil))))) (FL.tB (a2 oNe (a2 (oOwn n_Writer [.inr n_Writer, .inl .tup, .inr n_Program] F_Writer_eq) (aVar 15) (mMake true n_Writer F_Writer_init (mCons (a2 oIx (aVar 4) (aC (.int 0))) (mCons (a2 oIx (aVar 4) (aC (.int 1))) mNil)))) (a2 oEq (mSl (aVar 3) oNone (a1 toI (aC (.int 2)))) (mSl (aVar 4) oNone (a1 toI (aC (.int 2)))))))) (mRet (aC (.bl false))) mPass)
def S10 : Ms := (mIfS (tO (FL.tB (a2 oNe (a2 (oOwn n_Program [.inr n_Program, .inl .tup] F_Program_eq) (aVar 5) (aVar 6)) (a2 oEq (aVar 16) (aVar 17)))) (tO (FL.tB (a2 (oOwn n_Program [.inr n_Program, .inl .tup] F_Program_eq) (aVar 5) (aL (on1 oTupOf) (mCons (aVar 16) mNil)))) (tO (FL.tB (a2 (oOwn n_Writer [.inr n_Writer, .inl .tup, .inr n_Program] F_Writer_eq) (aVar 15) (aL (on1 oTupOf) (mCons (mSl (aVar 3) oNone (a1 toI (aC (.int 2)))) mNil)))) (FL.tB (a2 (oOwn n_Writer [.inr n_Writer, .inl .tup, .inr n_Program] F_Writer_eq) (aVar 15) (aVar 5)))))) (mRet (aC (.bl false))) mPass)
def S11 : Ms := (mSet 8 (aL F__law_below (mCons (aVar 1) (mCons (aC (.int 5)) mNil))))
def S12 : Ms := (mSet 9 (aL F__law_pick (mCons (aVar 1) (mCons (a2 oIx (fun _ st => F__law_some [] st) (a2 oAdd (aVar 8) (aC (.int 2)))) mNil))))
def S13 : Ms := (mIfS (tN (FL.tB (aL (F__law_equal 3) (mCons (aL F__law_changing (mCons (aVar 5) (mCons (a2 oIx (aVar 2) (a2 oAdd (aVar 8) (aC (.int 2)))) (mCons (aVar 9) mNil)))) (mCons (a2 oAdd (a2 oAdd (mSl (aVar 16) oNone (a1 toI (aVar 8))) (aL oLst (mCons (aVar 9) mNil))) (mSl (aVar 16) (a1 toI (a2 oAdd (aVar 8) (aC (.int 1)))) oNone)) mNil))))) (mRet (aC (.bl false))) mPass)
def S14 : Ms := (mSet 10 (aL F__law_pick (mCons (aVar 1) (mCons (aL oLst (mCons (aC .non) (mCons (aC (.str [])) (mCons (aC (.str [78, 111, 119])) (mCons (aC (.int 0)) (mCons (aC (.bl true)) (mCons (aL oTup (mCons (aC (.str [110, 111, 119])) mNil)) (mCons (aL oLst (mCons (aC (.str [97, 108, 108])) mNil)) (mCons oDic0 (mCons (aC (.str [110, 101, 118, 101, 114])) mNil)))))))))) mNil))))
def S15 : Ms := (mIfS (FL.tB (a2 oNe (aL F__law_changing (mCons (aVar 5) (mCons (a2 oIx (aVar 2) (a2 oAdd (aVar 8) (aC (.int 2)))) (mCons (aVar 10) mNil)))) (a2 oIx (aVar 2) (a2 oAdd (aVar 8) (aC (.int 2)))))) (mRet (aC (.bl false))) mPass)
def S16 : Ms := (mSet 11 (aL F__law_pick (mCons (aVar 1) (mCons (aL oLst (mCons (aC (.str [119, 111, 114, 100, 115])) (mCons (aC (.str [97, 103, 97, 105, 110])) (mCons (aC .non) (mCons (aC (.str [])) (mCons (aC (.int 0)) (mCons (aL oTup (mCons (aC (.str [104, 101, 97, 114, 115])) mNil)) (mCons (aL oLst (mCons (aC (.str [99, 117, 116, 115])) mNil)) (mCons oDic0 mNil))))))))) mNil))))
def S17 : Ms := (mIfS (tO (FL.tB (a2 oNe (aL F__law_changing (mCons (aVar 5) (mCons (aVar 11) (mCons (aVar 10) mNil)))) (aC (.str [112, 97, 114, 116])))) (FL.tB (a2 oNe (aL F__law_changing (mCons (aVar 5) (mCons (aVar 11) (mCons (aC (.str [110, 111, 119])) mNil)))) (aC (.str [112, 97, 114, 116]))))) (mRet (aC (.bl false))) mPass)
def S18 : Ms := (mSet 12 (aL oLst (mCons (aC .non) (mCons (aC (.str [97, 110, 101, 119])) (mCons (aL oLst (mCons (aC (.str [97, 110, 101, 119])) mNil)) (mCons (aL oTup (mCons (aC (.str [99, 117, 116])) (mCons (aC (.str [97, 110, 101, 119])) mNil))) (mCons (aL oTup (mCons (aC (.str [97, 110, 101, 119])) (mCons (aC (.str [97, 110, 101, 119])) mNil))) (mCons (aL oTup (mCons (aC (.str [111, 112, 101, 110])) mNil)) (mCons (aL oTup (mCons (aC .non) mNil)) (mCons (aL oTup (mCons (aC (.str [97, 110, 101, 119])) (mCons (aC (.int 1)) mNil))) (mCons (aL oTup (mCons (aL oTup (mCons (aC (.str [97, 110, 101, 119])) mNil)) mNil)) mNil)))))))))))
def S19 : Ms := (mSet 13 (a2 oAdd (a2 (oMu false) (aL oLst (mCons (aVar 10) mNil)) (aC (.int 7))) (aL oLst (mCons (aL F__law_pick (mCons (aVar 1) (mCons (a2 oAdd (aVar 12) (aL oLst (mCons oDic0 (mCons (aC (.bl true)) (mCons (aL oTup (mCons (aC (.str [116, 117, 114, 110])) (mCons (aC (.str [115, 101, 110, 100])) mNil))) (mCons (aL oTup (mCons (aL oLst (mCons (aC (.str [99, 117, 116])) mNil)) mNil)) mNil)))))) mNil))) mNil))))
def S20 : Ms := (mSet 14 (aL F__law_below (mCons (aVar 1) (mCons (aC (.int 2)) mNil))))
def S21 : Ms := (mIfS (FL.tB (a2 oNe (aL F__law_told (mCons (a2 oAdd (mSl (aVar 3) oNone (a1 toI (aVar 14))) (mSl (aVar 13) (a1 toI (aVar 14)) (a1 toI (aC (.int 2))))) mNil)) (a2 oIx (aVar 2) (aVar 14)))) (mRet (aC (.bl false))) mPass)
def S22 : Ms := (mSet 14 (a2 oAdd (aC (.int 2)) (aL F__law_below (mCons (aVar 1) (mCons (aC (.int 6)) mNil)))))
def S23 : Ms := (mRet (mAn (a2 oEq (aL F__law_told (mCons (a2 oAdd (mSl (aVar 3) (a1 toI (aC (.int 2))) (a1 toI (aVar 14))) (mSl (aVar 13) (a1 toI (aVar 14)) oNone)) mNil)) (a2 oIx (aVar 2) (aVar 14))) (a1 (oIsN false) (aL F__law_told (mCons (mSl (aVar 3) (a1 toI (aC (.int 2))) oNone) mNil)))))
theorem lt_big {n : Nat} : (n < BIG) = (n < 16777216) := (rfl)
def LowS (rest : Store) : Prop := ∀ L, rest.all (Cell.low L) = true
theorem LowS.nil : LowS [] := fun _ => rfl
theorem LowS.dead {rest : Store} (h : LowS rest) : LowS (rest ++ [.dead]) := fun L => by
  rw [List.all_append, h L]
  rfl
theorem LowS.all {c : Cell} {rest : Store} (h : LowS rest) (hc : Drw c) : (c :: rest).all (Cell.low (c :: rest).length) = true := by
  rw [List.all_cons, hc.low, h]
  rfl
section
variable {c : Cell} {rest st : Store}
theorem pickS (its : List S) (h : Drw c) (hne : its ≠ []) (hl : its.length < 1000) : ∃ s c', s ∈ its ∧ Drw c' ∧ F__law_pick [.ref 0, .lst (strD its)] (c :: rest) = .ok (.str s) (c' :: rest) := by
  obtain ⟨d, c', hd, hc, e⟩ := pick_ok (rest := rest) (its := strD its) h (by unfold strD; simpa using hne) (by unfold strD; simpa using hl)
  obtain ⟨s, hs, rfl⟩ := List.mem_map.mp hd
  exact ⟨s, c', hs, hc, e⟩
def someL : List D := [.lst (strD eS), .lst (strD gS), .lst (strD nS), .lst (strD nS), .lst (strD nS), .lst (strD hS), .lst (strD sS)]
theorem some_ok : F__law_some [] st = .ok (.lst someL) st := by
  refine mkF_rt (st' := st) rfl ?_ rfl
  show b__law_some [none] st = _
  unfold b__law_some
  simp [someL, strD, eS, gS, nS, hS, sS]
theorem belowN {size : Nat} (h : Drw c) (h0 : 0 < size) (h1 : size < 1073741824) :
    ∃ (k : Nat) (c' : Cell), k < size ∧ Drw c' ∧ F__law_below [.ref 0, .int (size : Nat)] (c :: rest) = .ok (.int (k : Nat)) (c' :: rest) := by
  obtain ⟨r, c', r1, r2, r3, r4⟩ := below_ok (rest := rest) (size := size) h (by omega) (by omega)
  obtain ⟨k, rfl⟩ : ∃ k : Nat, r = k := ⟨r.toNat, by omega⟩
  exact ⟨k, c', by omega, r3, r4⟩
theorem tup_loop {e : En} (h1 : e[0]? = some (some (.ref 0))) (h2 : 1 < e.length) : ∀ (l : List S) (acc : List D) (c : Cell), Drw c → acc.length + l.length ≤ 1000 → ∃ (ws : List S) (c' : Cell), ws ∈ subs l ∧ Drw c' ∧
    lcL (gN 1) (FL.tB (a2 oEq (aL F__law_below (mCons (aVar 0) (mCons (aC (.int 2)) mNil))) (aC (.int 0)))) (aVar 1) e (strD l) (c :: rest) acc = .ok (acc ++ strD ws) (c' :: rest)
  | [], acc, c, h, _ => ⟨[], c, by simp [subs], h, by simp [strD]⟩
  | x :: l, acc, c, h, hl => by
    simp only [List.length_cons] at hl
    obtain ⟨k, c1, k1, hc1, e1⟩ := belowN (rest := rest) (size := 2) h (by omega) (by omega)
    have q2 : (D.int 2) = D.int ((2 : Nat) : Int) := rfl
    have a0 : aVar 0 (e.set 1 (some (.str x))) (c :: rest) = .ok (.ref 0) (c :: rest) := aVar_e (by rw [List.getElem?_set_ne (by decide)]; exact h1)
    have a1 : ∀ st, aVar 1 (e.set 1 (some (.str x))) st = .ok (.str x) st := fun st => aVar_e (by rw [List.getElem?_set_self h2])
    have t : (FL.tB (a2 oEq (aL F__law_below (mCons (aVar 0) (mCons (aC (.int 2)) mNil))) (aC (.int 0)))) (e.set 1 (some (.str x))) (c :: rest) = .ok (decide (k = 0)) (c1 :: rest) := by
      simp only [tB_e, a2_e, aL_e, mCons_e, a0, bind_ok, aC_e, mNil_e, q2, e1, oEq_int, toB_e]
      congr 1
      by_cases hk : k = 0
      · subst hk; rfl
      · rw [decide_eq_false hk, beq_eq_false_iff_ne]
        omega
    show ∃ ws c', ws ∈ subs (x :: l) ∧ Drw c' ∧ lcL _ _ _ e (D.str x :: strD l) (c :: rest) acc = _
    unfold lcL
    simp only [gN_e, t, bindN_ok]
    by_cases hk : k = 0
    · obtain ⟨ws, c', hw, hc', ih⟩ := tup_loop h1 h2 l (acc ++ [.str x]) c1 hc1 (by simp; omega)
      refine ⟨x :: ws, c', ?_, hc', ?_⟩
      · unfold subs; exact List.mem_append_right _ (List.mem_map.mpr ⟨ws, hw, rfl⟩)
      · rw [if_pos (decide_eq_true hk), a1, bindN_ok, if_pos (by have : BIG = 16777216 := rfl; omega), ih]
        simp [strD]
    · obtain ⟨ws, c', hw, hc', ih⟩ := tup_loop h1 h2 l acc c1 hc1 (by omega)
      refine ⟨ws, c', ?_, hc', ?_⟩
      · unfold subs; exact List.mem_append_left _ hw
      · rw [if_neg (by simp [hk]), ih]
theorem tuples_ok (h : Drw c) : ∃ (ws : List S) (c' : Cell), ws ∈ subs everyS ∧ Drw c' ∧ F__law_tuples [.ref 0] (c :: rest) = .ok (.tup (strD ws)) (c' :: rest) := by
  obtain ⟨ws, c', hw, hc', e⟩ := tup_loop (rest := rest) (e := [some (.ref 0), none]) rfl (by simp) everyS [] c h (by decide)
  refine ⟨ws, c', hw, hc', mkF_rt (st' := c' :: rest) rfl ?_ rfl⟩
  show b__law_tuples [some (.ref 0), none] (c :: rest) = _
  have ev : ∀ (e : En) (st : Store), (aL oLst (mCons (aC (.str [97, 110, 101, 119])) (mCons (aC (.str [99, 117, 116])) (mCons (aC (.str [102, 114, 111, 110, 116])) (mCons (aC (.str [109, 111, 118, 101])) (mCons (aC (.str [115, 101, 110, 100])) (mCons (aC (.str [116, 117, 114, 110])) mNil))))))) e st = .ok (.lst (strD everyS)) st := fun e st => by simp [strD, everyS]
  unfold b__law_tuples
  rw [mRet_e, aL_e, mCons_e, mLc_e, iSq_e, ev]
  simp only [bind_ok, wipeE, List.set, e, List.nil_append, mNil_e, on1_e, oTupOf_l, fl_ok]
end
/-! ### the stages -/
def names8 : List S := [agS, goS, chS, cuS, ctS, heS, seS, woS]
structure Sd (a g n1 n2 n3 h s : S) (ws : List S) : Prop where
  a : a ∈ eS
  g : g ∈ gS
  n1 : n1 ∈ nS
  n2 : n2 ∈ nS
  n3 : n3 ∈ nS
  h : h ∈ hS
  s : s ∈ sS
  ws : ws ∈ subs everyS
def vL (a g n1 n2 n3 h s : S) (ws : List S) : List D := [.str a, .str g, .str n1, .str n2, .str n3, .str h, .str s, .tup (strD ws)]
def pL (n1 n2 n3 h s : S) (ws : List S) : List D := [.str n1, .str n2, .str n3, .str h, .str s, .tup (strD ws)]
section
variable {c : Cell} {rest : Store} {sc NM V M : D} {o2 o3 o4 o5 o6 o7 o8 o9 o10 o11 o12 o13 o14 o15 o16 o17 o18 : Option D} {a g n1 n2 n3 h s a' g' m1 m2 m3 h' s' : S} {ws ws' : List S}
theorem S2_ok {st : Store} {o1 : Option D} : S2 [some sc, o1, none, none, none, none, none, none, none, none, none, none, none, none, none, none, none, none, none] st = .nx [some sc, o1, some (.lst (strD names8)), none, none, none, none, none, none, none, none, none, none, none, none, none, none, none, none] st := by
  unfold S2
  simp [strD, names8, agS, goS, chS, cuS, ctS, heS, seS, woS]
theorem S3_ok (hc : Drw c) : ∃ (a g n1 n2 n3 h s : S) (ws : List S) (c' : Cell), Sd a g n1 n2 n3 h s ws ∧ Drw c' ∧
    S3 [some sc, some (.ref 0), some NM, none, none, none, none, none, none, none, none, none, none, none, none, none, none, none, none] [c] = .nx [some sc, some (.ref 0), some NM, some (.lst (vL a g n1 n2 n3 h s ws)), none, none, none, none, none, none, none, none, none, none, none, none, none, none, none] [c'] := by
  obtain ⟨a, c1, ha, d1, p1⟩ := pickS (rest := []) eS hc (by simp [eS]) (by simp [eS])
  obtain ⟨g, c2, hg, d2, p2⟩ := pickS (rest := []) gS d1 (by simp [gS]) (by simp [gS])
  obtain ⟨n1, c3, hn1, d3, p3⟩ := pickS (rest := []) nS d2 (by simp [nS]) (by simp [nS])
  obtain ⟨n2, c4, hn2, d4, p4⟩ := pickS (rest := []) nS d3 (by simp [nS]) (by simp [nS])
  obtain ⟨n3, c5, hn3, d5, p5⟩ := pickS (rest := []) nS d4 (by simp [nS]) (by simp [nS])
  obtain ⟨h, c6, hh, d6, p6⟩ := pickS (rest := []) hS d5 (by simp [hS]) (by simp [hS])
  obtain ⟨s, c7, hs, d7, p7⟩ := pickS (rest := []) sS d6 (by simp [sS]) (by simp [sS])
  obtain ⟨ws, c8, hw, d8, p8⟩ := tuples_ok (rest := []) d7
  refine ⟨a, g, n1, n2, n3, h, s, ws, c8, ⟨ha, hg, hn1, hn2, hn3, hh, hs, hw⟩, d8, ?_⟩
  have lc : ∀ e : En, e[1]? = some (some (.ref 0)) → 18 < e.length → lcL (gN 18) tYe (aL F__law_pick (mCons (aVar 1) (mCons (aVar 18) mNil))) e someL [c] [] = .ok [.str a, .str g, .str n1, .str n2, .str n3, .str h, .str s] [c7] := fun e h1 h2 => by
    have a1 : ∀ (d : D) st, aVar 1 (e.set 18 (some d)) st = .ok (.ref 0) st := fun d st => aVar_e (by rw [List.getElem?_set_ne (by decide)]; exact h1)
    have a18 : ∀ (d : D) st, aVar 18 (e.set 18 (some d)) st = .ok d st := fun d st => aVar_e (by rw [List.getElem?_set_self h2])
    simp [someL, lcL, a1, a18, p1, p2, p3, p4, p5, p6, p7, lt_big]
  unfold S3
  rw [mSet_e, a2_e, mLc_e, iSq_e]
  simp only [some_ok, bind_ok]
  rw [lc _ rfl (by simp [wipeE])]
  simp [p8, vL]
theorem S4_ok (z : Sd a g n1 n2 n3 h s ws) (hc : Drw c) : ∃ (a' g' m1 m2 m3 h' s' : S) (ws' : List S) (c' : Cell), Sd a' g' m1 m2 m3 h' s' ws' ∧ Drw c' ∧
    S4 [some sc, some (.ref 0), some NM, some (.lst (vL a g n1 n2 n3 h s ws)), none, none, none, none, none, none, none, none, none, none, none, none, none, none, none] [c] = .nx [some sc, some (.ref 0), some NM, some (.lst (vL a g n1 n2 n3 h s ws)), some (.lst (vL a' g' m1 m2 m3 h' s' ws')), none, none, none, none, none, none, none, none, none, none, none, none, none, none] [c'] := by
  have two : ∀ {ch : List S} {v : S} {c : Cell}, Drw c → v ∈ ch → ch.length < 1000 → ∃ (x y : S) (c1 c2 : Cell), y ∈ ch ∧ Drw c2 ∧ F__law_pick [.ref 0, .lst (strD ch)] [c] = .ok (.str x) [c1] ∧ F__law_pick [.ref 0, .lst [.str v, .str x]] [c1] = .ok (.str y) [c2] := fun {ch v c} hc hv hl => by
    obtain ⟨x, c1, hx, d1, p1⟩ := pickS (rest := []) ch hc (List.ne_nil_of_mem hv) hl
    obtain ⟨y, c2, hy, d2, p2⟩ := pickS (rest := []) [v, x] d1 (by simp) (by simp)
    refine ⟨x, y, c1, c2, ?_, d2, p1, p2⟩
    simp only [List.mem_cons, List.not_mem_nil, or_false] at hy
    rcases hy with rfl | rfl
    · exact hv
    · exact hx
  obtain ⟨x1, a', b1, c1, ha, d1, p1, q1⟩ := two hc z.a (by simp [eS])
  obtain ⟨x2, g', b2, c2, hg, d2, p2, q2⟩ := two d1 z.g (by simp [gS])
  obtain ⟨x3, m1, b3, c3, hm1, d3, p3, q3⟩ := two d2 z.n1 (by simp [nS])
  obtain ⟨x4, m2, b4, c4, hm2, d4, p4, q4⟩ := two d3 z.n2 (by simp [nS])
  obtain ⟨x5, m3, b5, c5, hm3, d5, p5, q5⟩ := two d4 z.n3 (by simp [nS])
  obtain ⟨x6, h', b6, c6, hh, d6, p6, q6⟩ := two d5 z.h (by simp [hS])
  obtain ⟨x7, s', b7, c7, hs, d7, p7, q7⟩ := two d6 z.s (by simp [sS])
  obtain ⟨d, c8, hd, d8, p8⟩ := pick_ok (rest := []) (its := [.tup (strD ws), .tup []]) d7 (by simp) (by simp)
  obtain ⟨ws', hw', rfl⟩ : ∃ ws', ws' ∈ subs everyS ∧ d = .tup (strD ws') := by
    simp only [List.mem_cons, List.not_mem_nil, or_false] at hd
    rcases hd with rfl | rfl
    · exact ⟨ws, z.ws, rfl⟩
    · exact ⟨[], by decide +kernel, rfl⟩
  refine ⟨a', g', m1, m2, m3, h', s', ws', c8, ⟨ha, hg, hm1, hm2, hm3, hh, hs, hw'⟩, d8, ?_⟩
  have lc : ∀ e : En, e[1]? = some (some (.ref 0)) → e[3]? = some (some (.lst (vL a g n1 n2 n3 h s ws))) → 8 < e.length →
      lcL (gN 8) tYe (aL F__law_pick (mCons (aVar 1) (mCons (aL oLst (mCons (a2 oIx (aVar 3) (aVar 8)) (mCons (aL F__law_pick (mCons (aVar 1) (mCons (a2 oIx (fun _ st => F__law_some [] st) (aVar 8)) mNil))) mNil))) mNil))) e (rgD 0 7) [c] [] = .ok [.str a', .str g', .str m1, .str m2, .str m3, .str h', .str s'] [c7] := fun e h1 h3 h2 => by
    have a1 : ∀ (d : D) st, aVar 1 (e.set 8 (some d)) st = .ok (.ref 0) st := fun d st => aVar_e (by rw [List.getElem?_set_ne (by decide)]; exact h1)
    have a3 : ∀ (d : D) st, aVar 3 (e.set 8 (some d)) st = .ok (.lst (vL a g n1 n2 n3 h s ws)) st := fun d st => aVar_e (by rw [List.getElem?_set_ne (by decide)]; exact h3)
    have a8 : ∀ (d : D) st, aVar 8 (e.set 8 (some d)) st = .ok d st := fun d st => aVar_e (by rw [List.getElem?_set_self h2])
    have r7 : rgD 0 7 = [.int 0, .int 1, .int 2, .int 3, .int 4, .int 5, .int 6] := rfl
    rw [r7]
    simp [someL, lcL, a1, a3, a8, some_ok, vL, p1, p2, p3, p4, p5, p6, p7, q1, q2, q3, q4, q5, q6, q7, lt_big]
  have rg : ∀ (e : En) (st : Store), iR1 (mCons (aC (.int 7)) mNil) e st = .ok (rgD 0 7) st := fun e st => rng_ok (n := 7) (by omega) (by simp)
  have ix7 : ∀ st, oIx (.lst (vL a g n1 n2 n3 h s ws)) (.int 7) st = .ok (.tup (strD ws)) st := fun st => rfl
  unfold S4
  rw [mSet_e, a2_e, mLc_e, rg]
  simp only [bind_ok]
  rw [lc _ rfl rfl (by simp [wipeE])]
  simp [ix7, p8, vL]
theorem isP_mem {l : List S} {x : S} (h : x ∈ l) : isP l (.str x) = true := by simpa [isP] using h
theorem fbW_none (ha : a ∈ eS) (hg : g ∈ gS) : fbW (.str a) (.str g) = none := by simp [fbW, isP_mem ha, isP_mem hg]
theorem fbP_none (z : Sd a g n1 n2 n3 h s ws) : fbP (.str n1) (.str n2) (.str n3) (.str h) (.str s) true = none := by
  simp [fbP, isP_mem z.n1, isP_mem z.n2, isP_mem z.n3, isP_mem z.h, isP_mem z.s]
def oWs (a g : S) : D := oW (.str a) (.str g)
def oPs (n1 n2 n3 h s : S) (ws : List S) : D := oP (.str n1) (.str n2) (.str n3) (.str h) (.str s) (.tup (strD ws))
theorem S5_ok (z : Sd a g n1 n2 n3 h s ws) :
    S5 [some sc, some (.ref 0), some NM, some (.lst (vL a g n1 n2 n3 h s ws)), some (.lst (vL a' g' m1 m2 m3 h' s' ws')), none, none, none, none, none, none, none, none, none, none, none, none, none, none] (c :: rest) =
      .nx [some sc, some (.ref 0), some NM, some (.lst (vL a g n1 n2 n3 h s ws)), some (.lst (vL a' g' m1 m2 m3 h' s' ws')), none, none, none, none, none, none, none, none, none, none, some (oWs a g), some (.lst (pL n1 n2 n3 h s ws)), some (.lst (pL m1 m2 m3 h' s' ws')), none] (c :: (rest ++ [.dead])) := by
  have mk := make_writer (e := [some sc, some (.ref 0), some NM, some (.lst (vL a g n1 n2 n3 h s ws)), some (.lst (vL a' g' m1 m2 m3 h' s' ws')), none, none, none, none, none, none, none, none, none, none, none, none, none, none]) (st := c :: rest) (a := .str a) (g := .str g) rfl rfl (ma := a2 oIx (aVar 3) (aC (.int 0))) (mg := a2 oIx (aVar 3) (aC (.int 1))) (by simp [vL]) (by simp [vL])
  rw [fbW_none z.a z.g] at mk
  have s1 : ∀ st, oSl (.lst (vL a g n1 n2 n3 h s ws)) (some 2) none st = .ok (.lst (pL n1 n2 n3 h s ws)) st := fun st => rfl
  have s2 : ∀ st, oSl (.lst (vL a' g' m1 m2 m3 h' s' ws')) (some 2) none st = .ok (.lst (pL m1 m2 m3 h' s' ws')) st := fun st => rfl
  unfold S5
  simp only [mPar3]
  rw [mCons_e, mk]
  simp only [bind_ok, mCons_e, mSl_e, aVar_s, aVar_0, a1_e, aC_e, toI_e, oNone_e, s1, s2, mNil_e, flB_ok, List.set]
  rfl
theorem S6_ok (z : Sd a g n1 n2 n3 h s ws) {W R : Option D} :
    S6 [some sc, some (.ref 0), some NM, o3, o4, none, none, none, none, none, none, none, none, none, none, W, some (.lst (pL n1 n2 n3 h s ws)), R, none] (c :: rest) =
      .nx [some sc, some (.ref 0), some NM, o3, o4, some (oPs n1 n2 n3 h s ws), none, none, none, none, none, none, none, none, none, W, some (.lst (pL n1 n2 n3 h s ws)), R, none] (c :: (rest ++ [.dead])) := by
  have mk := make_program (e := [some sc, some (.ref 0), some NM, o3, o4, none, none, none, none, none, none, none, none, none, none, W, some (.lst (pL n1 n2 n3 h s ws)), R, none]) (st := c :: rest) (d0 := .str n1) (d1 := .str n2) (d2 := .str n3) (d3 := .str h) (d4 := .str s) (dw := .tup (strD ws)) (w := true) rfl rfl rfl rfl rfl (fun st => are_words z.ws)
    (m1 := a2 oIx (aVar 16) (aC (.int 0))) (m2 := a2 oIx (aVar 16) (aC (.int 1))) (m3 := a2 oIx (aVar 16) (aC (.int 2))) (m4 := a2 oIx (aVar 16) (aC (.int 3))) (m5 := a2 oIx (aVar 16) (aC (.int 4))) (m6 := a2 oIx (aVar 16) (aC (.int 5))) (by simp [pL]) (by simp [pL]) (by simp [pL]) (by simp [pL]) (by simp [pL]) (by simp [pL])
  rw [fbP_none z] at mk
  unfold S6
  rw [mSet_e, mk]
  rfl
theorem S7_ok (z : Sd a g n1 n2 n3 h s ws) {W R Q : Option D} :
    S7 [some sc, some (.ref 0), some NM, o3, o4, Q, none, none, none, none, none, none, none, none, none, W, R, some (.lst (pL n1 n2 n3 h s ws)), none] (c :: rest) =
      .nx [some sc, some (.ref 0), some NM, o3, o4, Q, some (oPs n1 n2 n3 h s ws), none, none, none, none, none, none, none, none, W, R, some (.lst (pL n1 n2 n3 h s ws)), none] (c :: (rest ++ [.dead])) := by
  have mk := make_program (e := [some sc, some (.ref 0), some NM, o3, o4, Q, none, none, none, none, none, none, none, none, none, W, R, some (.lst (pL n1 n2 n3 h s ws)), none]) (st := c :: rest) (d0 := .str n1) (d1 := .str n2) (d2 := .str n3) (d3 := .str h) (d4 := .str s) (dw := .tup (strD ws)) (w := true) rfl rfl rfl rfl rfl (fun st => are_words z.ws)
    (m1 := a2 oIx (aVar 17) (aC (.int 0))) (m2 := a2 oIx (aVar 17) (aC (.int 1))) (m3 := a2 oIx (aVar 17) (aC (.int 2))) (m4 := a2 oIx (aVar 17) (aC (.int 3))) (m5 := a2 oIx (aVar 17) (aC (.int 4))) (m6 := a2 oIx (aVar 17) (aC (.int 5))) (by simp [pL]) (by simp [pL]) (by simp [pL]) (by simp [pL]) (by simp [pL]) (by simp [pL])
  rw [fbP_none z] at mk
  unfold S7
  rw [mSet_e, mk]
  rfl
theorem wr0 {x y : D} {st : Store} : oProp n_Writer F_Writer_again (oW x y) st = .ok x st := by
  have e : F_Writer_again [oW x y] st = .ok x st := mkF_rt (st' := st) rfl rfl rfl
  show (F_Writer_again [oW x y] st).bindN _ = _
  rw [e]; rfl
theorem wr1 {x y : D} {st : Store} : oProp n_Writer F_Writer_goes (oW x y) st = .ok y st := by
  have e : F_Writer_goes [oW x y] st = .ok y st := mkF_rt (st' := st) rfl rfl rfl
  show (F_Writer_goes [oW x y] st).bindN _ = _
  rw [e]; rfl
theorem S8_ok {st : Store} {o1 p2 : Option D} {R Q : Option D} :
    S8 [some sc, o1, p2, o3, o4, some (oPs n1 n2 n3 h s ws), Q, none, none, none, none, none, none, none, none, some (oWs a g), R, o17, none] st =
      .nx [some sc, o1, p2, o3, o4, some (oPs n1 n2 n3 h s ws), Q, some (.lst (vL a g n1 n2 n3 h s ws)), none, none, none, none, none, none, none, some (oWs a g), R, o17, none] st := by
  unfold S8
  simp only [mSet_e, aL_e, mCons_e, a1_e, aVar_s, aVar_0, bind_ok, oWs, oPs, wr0, wr1, pr0, pr1, pr2, pr3, pr4, pr5, mNil_e]
  rw [oLst_e (by simp)]
  rfl
end
end G9
end
section
set_option Elab.async false
set_option linter.all false
set_option maxRecDepth 100000
namespace G9
open PySem PySem.Spec PyProof.Rows L2 FL
section
variable {c : Cell} {rest st : Store} {sc NM V M : D} {o2 o3 o4 o5 o6 o7 o8 o9 o10 o11 o12 o13 o14 o15 o16 o17 o18 : Option D} {a g n1 n2 n3 h s a' g' m1 m2 m3 h' s' : S} {ws ws' : List S}
theorem oEq_t {xs ys : List D} (h1 : shL xs 39 = true) (h2 : shL ys 39 = true) : oEq (.tup xs) (.tup ys) st = .ok (.bl (eqvL xs ys)) st := by
  have e1 : (D.tup xs).sh 40 = true := by unfold D.sh; exact h1
  have e2 : (D.tup ys).sh 40 = true := by unfold D.sh; exact h2
  have : oEq (.tup xs) (.tup ys) st = if ((D.tup xs).sh 40 && (D.tup ys).sh 40) = true then .ok (.bl ((D.tup xs).eqv (.tup ys))) st else .no := rfl
  rw [this, e1, e2]
  simp [D.eqv]
theorem oEq_l {xs ys : List D} (h1 : shL xs 39 = true) (h2 : shL ys 39 = true) : oEq (.lst xs) (.lst ys) st = .ok (.bl (eqvL xs ys)) st := by
  have e1 : (D.lst xs).sh 40 = true := by unfold D.sh; exact h1
  have e2 : (D.lst ys).sh 40 = true := by unfold D.sh; exact h2
  have : oEq (.lst xs) (.lst ys) st = if ((D.lst xs).sh 40 && (D.lst ys).sh 40) = true then .ok (.bl ((D.lst xs).eqv (.lst ys))) st else .no := rfl
  rw [this, e1, e2]
  simp [D.eqv]
theorem sh_two (x y : S) : shL [.str x, .str y] 39 = true := by simp [D.sh, shL]
theorem sh_p : shL (pL n1 n2 n3 h s ws) 39 = true := by
  have : shL (strD ws) 38 = true := sh_strs 38 ws
  unfold pL
  simp [D.sh, shL, this]
def tsW : List (Ty ⊕ S) := [.inr n_Writer, .inl .tup, .inr n_Program]
def tsP : List (Ty ⊕ S) := [.inr n_Program, .inl .tup]
theorem own_w {x y d : D} {b : Bool} {t : Ty ⊕ S} (ht : tyN d st = some t) (hi : inTs t tsW = true) (e : F_Writer_eq [oW x y, d] st = .ok (.bl b) st) : oOwn n_Writer [.inr n_Writer, .inl .tup, .inr n_Program] F_Writer_eq (oW x y) d st = .ok (.bl b) st := by
  have f : flds n_Writer (oW x y) st = some [(tS, .tup [x, y])] := rfl
  have hi2 : inTs t [.inr n_Writer, .inl .tup, .inr n_Program] = true := hi
  unfold oOwn
  rw [f, ht]
  simp only [hi2, if_true, e, bindN_ok]
theorem own_p {x0 x1 x2 x3 x4 x5 d : D} {b : Bool} {t : Ty ⊕ S} (ht : tyN d st = some t) (hi : inTs t tsP = true) (e : F_Program_eq [oP x0 x1 x2 x3 x4 x5, d] st = .ok (.bl b) st) : oOwn n_Program [.inr n_Program, .inl .tup] F_Program_eq (oP x0 x1 x2 x3 x4 x5) d st = .ok (.bl b) st := by
  have f : flds n_Program (oP x0 x1 x2 x3 x4 x5) st = some [(rS, .tup [x0, x1, x2, x3, x4, x5])] := rfl
  have hi2 : inTs t [.inr n_Program, .inl .tup] = true := hi
  unfold oOwn
  rw [f, ht]
  simp only [hi2, if_true, e, bindN_ok]
theorem w_eq : F_Writer_eq [oWs a g, oWs a' g'] st = .ok (.bl (eqvL [.str a, .str g] [.str a', .str g'])) st := by
  have is : oIsiC [(n_Writer, true), (n_Program, false)] (oWs a' g') st = .ok (.bl true) st := rfl
  have f1 : ∀ x y, oFld n_Writer [116, 111, 108, 100] (oWs x y) st = .ok (.tup [.str x, .str y]) st := fun _ _ => rfl
  refine mkF_rt (st' := st) rfl ?_ rfl
  show b_Writer_eq [some (oWs a g), some (oWs a' g')] st = _
  unfold b_Writer_eq
  simp only [mRet_e, mAn_e, tB_e, a1_e, aVar_s, aVar_0, bind_ok, is, toB_e, if_true, a2_e, f1, oEq_t (sh_two _ _) (sh_two _ _), fl_ok]
theorem w_eq_t {xs : List D} : F_Writer_eq [oWs a g, .tup xs] st = .ok (.bl false) st := by
  have is : oIsiC [(n_Writer, true), (n_Program, false)] (.tup xs) st = .ok (.bl false) st := rfl
  refine mkF_rt (st' := st) rfl ?_ rfl
  show b_Writer_eq [some (oWs a g), some (.tup xs)] st = _
  unfold b_Writer_eq
  simp only [mRet_e, mAn_e, tB_e, a1_e, aVar_s, aVar_0, bind_ok, is, toB_e, Bool.false_eq_true, if_false, fl_ok]
theorem w_eq_p : F_Writer_eq [oWs a g, oPs n1 n2 n3 h s ws] st = .ok (.bl false) st := by
  have is : oIsiC [(n_Writer, true), (n_Program, false)] (oPs n1 n2 n3 h s ws) st = .ok (.bl false) st := rfl
  refine mkF_rt (st' := st) rfl ?_ rfl
  show b_Writer_eq [some (oWs a g), some (oPs n1 n2 n3 h s ws)] st = _
  unfold b_Writer_eq
  simp only [mRet_e, mAn_e, tB_e, a1_e, aVar_s, aVar_0, bind_ok, is, toB_e, Bool.false_eq_true, if_false, fl_ok]
theorem p_eq : F_Program_eq [oPs n1 n2 n3 h s ws, oPs m1 m2 m3 h' s' ws'] st = .ok (.bl (eqvL (pL n1 n2 n3 h s ws) (pL m1 m2 m3 h' s' ws'))) st := by
  have is : oIsiC [(n_Program, true)] (oPs m1 m2 m3 h' s' ws') st = .ok (.bl true) st := rfl
  have f1 : oFld n_Program [114, 117, 108, 101] (oPs n1 n2 n3 h s ws) st = .ok (.tup (pL n1 n2 n3 h s ws)) st := rfl
  have f2 : oFld n_Program [114, 117, 108, 101] (oPs m1 m2 m3 h' s' ws') st = .ok (.tup (pL m1 m2 m3 h' s' ws')) st := rfl
  refine mkF_rt (st' := st) rfl ?_ rfl
  show b_Program_eq [some (oPs n1 n2 n3 h s ws), some (oPs m1 m2 m3 h' s' ws')] st = _
  unfold b_Program_eq
  simp only [mRet_e, mAn_e, tB_e, a1_e, aVar_s, aVar_0, bind_ok, is, toB_e, if_true, a2_e, f1, f2, oEq_t sh_p sh_p, fl_ok]
theorem p_eq_t {xs : List D} : F_Program_eq [oPs n1 n2 n3 h s ws, .tup xs] st = .ok (.bl false) st := by
  have is : oIsiC [(n_Program, true)] (.tup xs) st = .ok (.bl false) st := rfl
  refine mkF_rt (st' := st) rfl ?_ rfl
  show b_Program_eq [some (oPs n1 n2 n3 h s ws), some (.tup xs)] st = _
  unfold b_Program_eq
  simp only [mRet_e, mAn_e, tB_e, a1_e, aVar_s, aVar_0, bind_ok, is, toB_e, Bool.false_eq_true, if_false, fl_ok]
/-! elements that _law_equal takes -/
def good (x : D) : Prop := (∃ s, x = .str s) ∨ ∃ ws : List S, ws.length ≤ 1000 ∧ x = .tup (strD ws)
theorem good_eq {x : D} (h : good x) : F__law_equal 2 [x, x] st = .ok (.bl true) st := by
  rcases h with ⟨s, rfl⟩ | ⟨ws, hl, rfl⟩
  · exact eq_str
  · exact eq_strs hl
theorem good_lst {xs : List D} (hl : xs.length ≤ 1000) (h : ∀ x ∈ xs, good x) : F__law_equal 3 [.lst xs, .lst xs] st = .ok (.bl true) st := eq_lst hl fun x hx => good_eq (h x hx)
theorem good_v (hw : ws ∈ subs everyS) : ∀ x ∈ vL a g n1 n2 n3 h s ws, good x := by
  have := (sub_facts hw).2.1
  intro x hx
  simp only [vL, List.mem_cons, List.not_mem_nil, or_false] at hx
  rcases hx with rfl | rfl | rfl | rfl | rfl | rfl | rfl | rfl
  all_goals first | exact .inl ⟨_, rfl⟩ | exact .inr ⟨_, by omega, rfl⟩
theorem good_p (hw : ws ∈ subs everyS) : ∀ x ∈ pL n1 n2 n3 h s ws, good x := fun x hx => good_v (a := n1) (g := n1) hw x (by unfold vL; unfold pL at hx; exact List.mem_cons_of_mem _ (List.mem_cons_of_mem _ hx))
theorem S9_ok (z : Sd a g n1 n2 n3 h s ws) (z' : Sd a' g' m1 m2 m3 h' s' ws') :
    S9 [some sc, some (.ref 0), some NM, some (.lst (vL a g n1 n2 n3 h s ws)), some (.lst (vL a' g' m1 m2 m3 h' s' ws')), o5, o6, some (.lst (vL a g n1 n2 n3 h s ws)), o8, o9, o10, o11, o12, o13, o14, some (oWs a g), o16, o17, o18] (c :: rest) =
      .nx [some sc, some (.ref 0), some NM, some (.lst (vL a g n1 n2 n3 h s ws)), some (.lst (vL a' g' m1 m2 m3 h' s' ws')), o5, o6, some (.lst (vL a g n1 n2 n3 h s ws)), o8, o9, o10, o11, o12, o13, o14, some (oWs a g), o16, o17, o18] (c :: (rest ++ [.dead])) := by
  have mk := make_writer (e := [some sc, some (.ref 0), some NM, some (.lst (vL a g n1 n2 n3 h s ws)), some (.lst (vL a' g' m1 m2 m3 h' s' ws')), o5, o6, some (.lst (vL a g n1 n2 n3 h s ws)), o8, o9, o10, o11, o12, o13, o14, some (oWs a g), o16, o17, o18]) (st := c :: rest) (a := .str a') (g := .str g') rfl rfl (ma := a2 oIx (aVar 4) (aC (.int 0))) (mg := a2 oIx (aVar 4) (aC (.int 1))) (by simp [vL]) (by simp [vL])
  rw [fbW_none z'.a z'.g] at mk
  have mk2 : mMake true n_Writer F_Writer_init (mCons (a2 oIx (aVar 4) (aC (.int 0))) (mCons (a2 oIx (aVar 4) (aC (.int 1))) mNil)) [some sc, some (.ref 0), some NM, some (.lst (vL a g n1 n2 n3 h s ws)), some (.lst (vL a' g' m1 m2 m3 h' s' ws')), o5, o6, some (.lst (vL a g n1 n2 n3 h s ws)), o8, o9, o10, o11, o12, o13, o14, some (oWs a g), o16, o17, o18] (c :: rest) = .ok (oWs a' g') (c :: (rest ++ [.dead])) := mk
  have eq := good_lst (st := c :: rest) (xs := vL a g n1 n2 n3 h s ws) (by simp [vL]) (good_v z.ws)
  have ow := own_w (st := c :: (rest ++ [.dead])) (x := .str a) (y := .str g) (d := oWs a' g') (t := .inr n_Writer) rfl rfl (w_eq (a := a) (g := g))
  have ow2 : oOwn n_Writer [.inr n_Writer, .inl .tup, .inr n_Program] F_Writer_eq (oWs a g) (oWs a' g') (c :: (rest ++ [.dead])) = .ok (.bl (eqvL [.str a, .str g] [.str a', .str g'])) (c :: (rest ++ [.dead])) := ow
  have s1 : ∀ st, oSl (.lst (vL a g n1 n2 n3 h s ws)) none (some 2) st = .ok (.lst [.str a, .str g]) st := fun st => rfl
  have s2 : ∀ st, oSl (.lst (vL a' g' m1 m2 m3 h' s' ws')) none (some 2) st = .ok (.lst [.str a', .str g']) st := fun st => rfl
  unfold S9
  rw [mIfS_e, tO_e, tN_e, tB_e]
  simp only [aL_e, mCons_e, aVar_s, aVar_0, bind_ok, mNil_e, eq, toB_e, Bool.not_true, Bool.false_eq_true, if_false]
  rw [tB_e, a2_e, a2_e]
  simp only [aVar_s, aVar_0, bind_ok]
  rw [mk2]
  simp only [bind_ok, ow2, a2_e, mSl_e, aVar_s, aVar_0, oNone_e, a1_e, aC_e, toI_e, s1, s2, oEq_l (sh_two _ _) (sh_two _ _), oNe_bl, BEq.rfl, Bool.not_true, toB_e, flB_ok, Bool.false_eq_true, if_false, mPass_e]
theorem S10_ok :
    S10 [some sc, some (.ref 0), some NM, some (.lst (vL a g n1 n2 n3 h s ws)), o4, some (oPs n1 n2 n3 h s ws), some (oPs m1 m2 m3 h' s' ws'), o7, o8, o9, o10, o11, o12, o13, o14, some (oWs a g), some (.lst (pL n1 n2 n3 h s ws)), some (.lst (pL m1 m2 m3 h' s' ws')), o18] st =
      .nx [some sc, some (.ref 0), some NM, some (.lst (vL a g n1 n2 n3 h s ws)), o4, some (oPs n1 n2 n3 h s ws), some (oPs m1 m2 m3 h' s' ws'), o7, o8, o9, o10, o11, o12, o13, o14, some (oWs a g), some (.lst (pL n1 n2 n3 h s ws)), some (.lst (pL m1 m2 m3 h' s' ws')), o18] st := by
  have e1 : oOwn n_Program [.inr n_Program, .inl .tup] F_Program_eq (oPs n1 n2 n3 h s ws) (oPs m1 m2 m3 h' s' ws') st = .ok (.bl (eqvL (pL n1 n2 n3 h s ws) (pL m1 m2 m3 h' s' ws'))) st := own_p (t := .inr n_Program) rfl rfl p_eq
  have e2 : ∀ xs, oOwn n_Program [.inr n_Program, .inl .tup] F_Program_eq (oPs n1 n2 n3 h s ws) (.tup xs) st = .ok (.bl false) st := fun xs => own_p (t := .inl .tup) rfl rfl p_eq_t
  have e3 : ∀ xs, oOwn n_Writer [.inr n_Writer, .inl .tup, .inr n_Program] F_Writer_eq (oWs a g) (.tup xs) st = .ok (.bl false) st := fun xs => own_w (t := .inl .tup) rfl rfl w_eq_t
  have e4 : oOwn n_Writer [.inr n_Writer, .inl .tup, .inr n_Program] F_Writer_eq (oWs a g) (oPs n1 n2 n3 h s ws) st = .ok (.bl false) st := own_w (t := .inr n_Program) rfl rfl w_eq_p
  have t1 : oTupOf (.lst (pL n1 n2 n3 h s ws)) st = .ok (.tup (pL n1 n2 n3 h s ws)) st := rfl
  have s1 : ∀ st, oSl (.lst (vL a g n1 n2 n3 h s ws)) none (some 2) st = .ok (.lst [.str a, .str g]) st := fun st => rfl
  have t2 : oTupOf (.lst [.str a, .str g]) st = .ok (.tup [.str a, .str g]) st := rfl
  unfold S10
  simp only [mIfS_e, tO_e, tB_e, a2_e, aVar_s, aVar_0, bind_ok, e1, oEq_l sh_p sh_p, oNe_bl, BEq.rfl, Bool.not_true, toB_e, Bool.false_eq_true, if_false, aL_e, mCons_e, mNil_e, on1_e, t1, e2, mSl_e, oNone_e, a1_e, aC_e, toI_e, s1, t2, e3, e4, flB_ok, mPass_e]
/-! ### k, the changes -/
def chK (k : Nat) : List S := [nS, nS, nS, hS, sS].getD k []
def pk (k : Nat) : S := partsS.getD k []
theorem someAt {k : Nat} (hk : k < 5) : oIx (.lst someL) (.int ((k : Int) + 2)) st = .ok (.lst (strD (chK k))) st := by
  match k, hk with
  | 0, _ => rfl
  | 1, _ => rfl
  | 2, _ => rfl
  | 3, _ => rfl
  | 4, _ => rfl
theorem nameAt {k : Nat} (hk : k < 5) : oIx (.lst (strD names8)) (.int ((k : Int) + 2)) st = .ok (.str (pk k)) st := by
  match k, hk with
  | 0, _ => rfl
  | 1, _ => rfl
  | 2, _ => rfl
  | 3, _ => rfl
  | 4, _ => rfl
theorem chK_ne {k : Nat} (hk : k < 5) : chK k ≠ [] ∧ (chK k).length < 1000 := by
  match k, hk with
  | 0, _ => decide
  | 1, _ => decide
  | 2, _ => decide
  | 3, _ => decide
  | 4, _ => decide
theorem chg (z : Sd a g n1 n2 n3 h s ws) {k : Nat} (hk : k < 5) {wd : D} (kd : kD wd = true) (lo : ∀ L, wd.low L = true) (hs : st.all (Cell.low st.length) = true) :
    F__law_changing [oPs n1 n2 n3 h s ws, .str (pk k), wd] st = .ok (if isP (chK k) wd = true then .lst ((pL n1 n2 n3 h s ws).take k ++ [wd] ++ (pL n1 n2 n3 h s ws).drop (k + 1)) else .str (pk k)) st := by
  have lw : ∀ L, lowL L (strD ws) = true := fun L => low_strs L ws
  have kw : ∀ st, F_are_words [.tup (strD ws)] st = .ok (.bl true) st := fun st => are_words z.ws
  have q1 := isP_mem z.n1
  have q2 := isP_mem z.n2
  have q3 := isP_mem z.n3
  have q4 := isP_mem z.h
  have q5 := isP_mem z.s
  match k, hk with
  | 0, _ =>
    have e := changing_ok (vals := pL n1 n2 n3 h s ws) (k := 0) (p := chS) (wd := wd) (st := st) (by omega) rfl (by decide) rfl rfl kd rfl rfl rfl rfl kw (fun L => by simp [lowL, D.low, lo, lw]) hs
    refine e.trans ?_
    have : chK 0 = nS := rfl
    by_cases hw : isP nS wd = true
    · simp [fbP, this, hw, q2, q3, q4, q5, resC, pL]
    · simp [fbP, this, hw, resC, pk, partsS]
  | 1, _ =>
    have e := changing_ok (vals := pL n1 n2 n3 h s ws) (k := 1) (p := cuS) (wd := wd) (st := st) (by omega) rfl (by decide) rfl rfl rfl kd rfl rfl rfl kw (fun L => by simp [lowL, D.low, lo, lw]) hs
    refine e.trans ?_
    have : chK 1 = nS := rfl
    by_cases hw : isP nS wd = true
    · simp [fbP, this, hw, q1, q3, q4, q5, resC, pL]
    · simp [fbP, this, hw, q1, resC, pk, partsS]
  | 2, _ =>
    have e := changing_ok (vals := pL n1 n2 n3 h s ws) (k := 2) (p := ctS) (wd := wd) (st := st) (by omega) rfl (by decide) rfl rfl rfl rfl kd rfl rfl kw (fun L => by simp [lowL, D.low, lo, lw]) hs
    refine e.trans ?_
    have : chK 2 = nS := rfl
    by_cases hw : isP nS wd = true
    · simp [fbP, this, hw, q1, q2, q4, q5, resC, pL]
    · simp [fbP, this, hw, q1, q2, resC, pk, partsS]
  | 3, _ =>
    have e := changing_ok (vals := pL n1 n2 n3 h s ws) (k := 3) (p := heS) (wd := wd) (st := st) (by omega) rfl (by decide) rfl rfl rfl rfl rfl kd rfl kw (fun L => by simp [lowL, D.low, lo, lw]) hs
    refine e.trans ?_
    have : chK 3 = hS := rfl
    by_cases hw : isP hS wd = true
    · simp [fbP, this, hw, q1, q2, q3, q5, resC, pL]
    · simp [fbP, this, hw, q1, q2, q3, resC, pk, partsS]
  | 4, _ =>
    have e := changing_ok (vals := pL n1 n2 n3 h s ws) (k := 4) (p := seS) (wd := wd) (st := st) (by omega) rfl (by decide) rfl rfl rfl rfl rfl rfl kd kw (fun L => by simp [lowL, D.low, lo, lw]) hs
    refine e.trans ?_
    have : chK 4 = sS := rfl
    by_cases hw : isP sS wd = true
    · simp [fbP, this, hw, q1, q2, q3, q4, resC, pL]
    · simp [fbP, this, hw, q1, q2, q3, q4, resC, pk, partsS]
end
end G9
end
section
set_option Elab.async false
set_option linter.all false
set_option maxRecDepth 100000
namespace G9
open PySem PySem.Spec PyProof.Rows L2 FL
section
variable {c : Cell} {rest st : Store} {sc NM V M : D} {o2 o3 o4 o5 o6 o7 o8 o9 o10 o11 o12 o13 o14 o15 o16 o17 o18 : Option D} {a g n1 n2 n3 h s a' g' m1 m2 m3 h' s' : S} {ws ws' : List S}
theorem S11_ok (hc : Drw c) : ∃ (k : Nat) (c' : Cell), k < 5 ∧ Drw c' ∧ S11 [some sc, some (.ref 0), o2, o3, o4, o5, o6, o7, o8, o9, o10, o11, o12, o13, o14, o15, o16, o17, o18] (c :: rest) = .nx [some sc, some (.ref 0), o2, o3, o4, o5, o6, o7, some (.int (k : Nat)), o9, o10, o11, o12, o13, o14, o15, o16, o17, o18] (c' :: rest) := by
  obtain ⟨k, c', k1, h1, e1⟩ := belowN (rest := rest) (size := 5) hc (by omega) (by omega)
  refine ⟨k, c', k1, h1, ?_⟩
  have q : (D.int 5) = D.int ((5 : Nat) : Int) := rfl
  unfold S11
  simp only [mSet_e, aL_e, mCons_e, aVar_s, aVar_0, bind_ok, aC_e, mNil_e, q, e1, fl_ok, List.set]
theorem S12_ok {k : Nat} (hk : k < 5) (hc : Drw c) : ∃ (w : S) (c' : Cell), w ∈ chK k ∧ Drw c' ∧ S12 [some sc, some (.ref 0), o2, o3, o4, o5, o6, o7, some (.int (k : Nat)), o9, o10, o11, o12, o13, o14, o15, o16, o17, o18] (c :: rest) =
    .nx [some sc, some (.ref 0), o2, o3, o4, o5, o6, o7, some (.int (k : Nat)), some (.str w), o10, o11, o12, o13, o14, o15, o16, o17, o18] (c' :: rest) := by
  obtain ⟨w, c', hw, h1, e1⟩ := pickS (rest := rest) (chK k) hc (chK_ne hk).1 (chK_ne hk).2
  refine ⟨w, c', hw, h1, ?_⟩
  unfold S12
  simp only [mSet_e, aL_e, mCons_e, aVar_s, aVar_0, bind_ok, a2_e, some_ok, aC_e, oAdd_int, someAt hk, mNil_e, e1, fl_ok, List.set]
theorem S13_ok (z : Sd a g n1 n2 n3 h s ws) {k : Nat} {w : S} (hk : k < 5) (hw : w ∈ chK k) (hs : st.all (Cell.low st.length) = true) :
    S13 [some sc, some (.ref 0), some (.lst (strD names8)), o3, o4, some (oPs n1 n2 n3 h s ws), o6, o7, some (.int (k : Nat)), some (.str w), o10, o11, o12, o13, o14, o15, some (.lst (pL n1 n2 n3 h s ws)), o17, o18] st =
      .nx [some sc, some (.ref 0), some (.lst (strD names8)), o3, o4, some (oPs n1 n2 n3 h s ws), o6, o7, some (.int (k : Nat)), some (.str w), o10, o11, o12, o13, o14, o15, some (.lst (pL n1 n2 n3 h s ws)), o17, o18] st := by
  have ch := chg (st := st) z hk (wd := .str w) rfl (fun _ => rfl) hs
  rw [if_pos (isP_mem hw)] at ch
  have e1 : ((k : Int) + 1) = ((k + 1 : Nat) : Int) := by omega
  have s1 : ∀ st, oSl (.lst (pL n1 n2 n3 h s ws)) none (some (k : Int)) st = .ok (.lst ((pL n1 n2 n3 h s ws).take k)) st := fun st => by
    show Res.ok (D.lst (FL.cutD (pL n1 n2 n3 h s ws) none (some (k : Int)))) st = _
    rw [cut_hi (by simp [pL]; omega)]
  have s2 : ∀ st, oSl (.lst (pL n1 n2 n3 h s ws)) (some ((k : Int) + 1)) none st = .ok (.lst ((pL n1 n2 n3 h s ws).drop (k + 1))) st := fun st => by
    show Res.ok (D.lst (FL.cutD (pL n1 n2 n3 h s ws) (some ((k : Int) + 1)) none)) st = _
    rw [e1, cut_lo]
  have lp : (pL n1 n2 n3 h s ws).length = 6 := rfl
  have a1 : ∀ st, oAdd (.lst ((pL n1 n2 n3 h s ws).take k)) (.lst [.str w]) st = .ok (.lst ((pL n1 n2 n3 h s ws).take k ++ [.str w])) st := fun st => by
    rw [oAdd_lst, if_pos (by have : BIG = 16777216 := rfl; simp [lp]; omega)]
  have a2 : ∀ st, oAdd (.lst ((pL n1 n2 n3 h s ws).take k ++ [.str w])) (.lst ((pL n1 n2 n3 h s ws).drop (k + 1))) st = .ok (.lst ((pL n1 n2 n3 h s ws).take k ++ [.str w] ++ (pL n1 n2 n3 h s ws).drop (k + 1))) st := fun st => by
    rw [oAdd_lst, if_pos (by have : BIG = 16777216 := rfl; simp [lp]; omega)]
  have l1 : oLst [.str w] st = .ok (.lst [.str w]) st := oLst_e (by simp)
  have eq := good_lst (st := st) (xs := (pL n1 n2 n3 h s ws).take k ++ [.str w] ++ (pL n1 n2 n3 h s ws).drop (k + 1)) (by simp [lp]; omega) (fun x hx => by
    simp only [List.mem_append, List.mem_cons, List.not_mem_nil, or_false] at hx
    rcases hx with (hx | rfl) | hx
    · exact good_p z.ws x (List.mem_of_mem_take hx)
    · exact .inl ⟨w, rfl⟩
    · exact good_p z.ws x (List.mem_of_mem_drop hx))
  unfold S13
  simp only [mIfS_e, tN_e, tB_e, aL_e, mCons_e, aVar_s, aVar_0, bind_ok, a2_e, aC_e, oAdd_int, nameAt hk, mNil_e, ch, mSl_e, oNone_e, a1_e, toI_e, s1, l1, a1, s2, a2, eq, toB_e, Bool.not_true, flB_ok, Bool.false_eq_true, if_false, mPass_e]
/-! ### odd values -/
def oddL : List D := [.non, .str [], .str [78, 111, 119], .int 0, .bl true, .tup [.str [110, 111, 119]], .lst [.str [97, 108, 108]], .dic [], .str [110, 101, 118, 101, 114]]
def partL : List D := [.str woS, .str agS, .non, .str [], .int 0, .tup [.str heS], .lst [.str ctS], .dic []]
def oddB (d : D) : Bool := kD d && (!isP eS d && (!isP gS d && (!isP nS d && (!isP hS d && !isP sS d))))
theorem odd_all : oddL.all oddB = true := by decide +kernel
theorem part_all : partL.all (fun d => kD d && !isP partsS d) = true := by decide +kernel
theorem odd_low (L : Nat) : ∀ d ∈ oddL, d.low L = true := by
  intro d hd
  simp only [oddL, List.mem_cons, List.not_mem_nil, or_false] at hd
  rcases hd with rfl | rfl | rfl | rfl | rfl | rfl | rfl | rfl | rfl <;> simp [D.low, lowL, lowP]
structure Odd (d : D) : Prop where
  k : kD d = true
  e : isP eS d = false
  g : isP gS d = false
  n : isP nS d = false
  h : isP hS d = false
  s : isP sS d = false
  lo : ∀ L, d.low L = true
theorem odd_of {d : D} (hd : d ∈ oddL) : Odd d := by
  have h0 := List.all_eq_true.mp odd_all d hd
  obtain ⟨h1, h0⟩ := ba2 h0
  obtain ⟨h2, h0⟩ := ba2 h0
  obtain ⟨h3, h0⟩ := ba2 h0
  obtain ⟨h4, h0⟩ := ba2 h0
  obtain ⟨h5, h6⟩ := ba2 h0
  exact ⟨h1, by simpa using h2, by simpa using h3, by simpa using h4, by simpa using h5, by simpa using h6, fun L => odd_low L d hd⟩
theorem odd_ch {d : D} (o : Odd d) {k : Nat} (hk : k < 5) : isP (chK k) d = false := by
  match k, hk with
  | 0, _ => exact o.n
  | 1, _ => exact o.n
  | 2, _ => exact o.n
  | 3, _ => exact o.h
  | 4, _ => exact o.s
theorem S14_ok (hc : Drw c) : ∃ (d : D) (c' : Cell), Odd d ∧ Drw c' ∧ S14 [some sc, some (.ref 0), o2, o3, o4, o5, o6, o7, o8, o9, o10, o11, o12, o13, o14, o15, o16, o17, o18] (c :: rest) = .nx [some sc, some (.ref 0), o2, o3, o4, o5, o6, o7, o8, o9, some d, o11, o12, o13, o14, o15, o16, o17, o18] (c' :: rest) := by
  obtain ⟨d, c', hd, h1, e1⟩ := pick_ok (rest := rest) (its := oddL) hc (by simp [oddL]) (by simp [oddL])
  refine ⟨d, c', odd_of hd, h1, ?_⟩
  have e2 : F__law_pick [.ref 0, .lst [.non, .str [], .str [78, 111, 119], .int 0, .bl true, .tup [.str [110, 111, 119]], .lst [.str [97, 108, 108]], .dic [], .str [110, 101, 118, 101, 114]]] (c :: rest) = .ok d (c' :: rest) := e1
  unfold S14
  simp [oDic0, e2]
theorem S15_ok (z : Sd a g n1 n2 n3 h s ws) {k : Nat} {d : D} (hk : k < 5) (o : Odd d) (hs : st.all (Cell.low st.length) = true) :
    S15 [some sc, some (.ref 0), some (.lst (strD names8)), o3, o4, some (oPs n1 n2 n3 h s ws), o6, o7, some (.int (k : Nat)), o9, some d, o11, o12, o13, o14, o15, o16, o17, o18] st =
      .nx [some sc, some (.ref 0), some (.lst (strD names8)), o3, o4, some (oPs n1 n2 n3 h s ws), o6, o7, some (.int (k : Nat)), o9, some d, o11, o12, o13, o14, o15, o16, o17, o18] st := by
  have ch := chg (st := st) z hk (wd := d) o.k o.lo hs
  rw [if_neg (by rw [odd_ch o hk]; exact Bool.false_ne_true)] at ch
  unfold S15
  simp only [mIfS_e, tB_e, a2_e, aL_e, mCons_e, aVar_s, aVar_0, bind_ok, aC_e, oAdd_int, nameAt hk, mNil_e, ch, oNe_str, decide_true, Bool.not_true, toB_e, flB_ok, Bool.false_eq_true, if_false, mPass_e]
theorem S16_ok (hc : Drw c) : ∃ (d : D) (c' : Cell), kD d = true ∧ isP partsS d = false ∧ Drw c' ∧ S16 [some sc, some (.ref 0), o2, o3, o4, o5, o6, o7, o8, o9, o10, o11, o12, o13, o14, o15, o16, o17, o18] (c :: rest) = .nx [some sc, some (.ref 0), o2, o3, o4, o5, o6, o7, o8, o9, o10, some d, o12, o13, o14, o15, o16, o17, o18] (c' :: rest) := by
  obtain ⟨d, c', hd, h1, e1⟩ := pick_ok (rest := rest) (its := partL) hc (by simp [partL]) (by simp [partL])
  have h0 := ba2 (List.all_eq_true.mp part_all d hd)
  refine ⟨d, c', h0.1, by simpa using h0.2, h1, ?_⟩
  have e2 : F__law_pick [.ref 0, .lst [.str [119, 111, 114, 100, 115], .str [97, 103, 97, 105, 110], .non, .str [], .int 0, .tup [.str [104, 101, 97, 114, 115]], .lst [.str [99, 117, 116, 115]], .dic []]] (c :: rest) = .ok d (c' :: rest) := e1
  unfold S16
  simp [oDic0, e2]
theorem S17_ok {p d : D} (hp : kD p = true) (hb : isP partsS p = false) :
    S17 [some sc, some (.ref 0), o2, o3, o4, some (oPs n1 n2 n3 h s ws), o6, o7, o8, o9, some d, some p, o12, o13, o14, o15, o16, o17, o18] st =
      .nx [some sc, some (.ref 0), o2, o3, o4, some (oPs n1 n2 n3 h s ws), o6, o7, o8, o9, some d, some p, o12, o13, o14, o15, o16, o17, o18] st := by
  have ch : ∀ wd, F__law_changing [oPs n1 n2 n3 h s ws, p, wd] st = .ok (.str [112, 97, 114, 116]) st := fun wd => changing_bad (vals := pL n1 n2 n3 h s ws) hp hb
  unfold S17
  simp only [mIfS_e, tO_e, tB_e, a2_e, aL_e, mCons_e, aVar_s, aVar_0, bind_ok, aC_e, mNil_e, ch, oNe_str, decide_true, Bool.not_true, toB_e, flB_ok, Bool.false_eq_true, if_false, mPass_e]
def anS : S := [97, 110, 101, 119]
def wrongL : List D := [.non, .str anS, .lst [.str anS], .tup [.str [99, 117, 116], .str anS], .tup [.str anS, .str anS], .tup [.str [111, 112, 101, 110]], .tup [.non], .tup [.str anS, .int 1], .tup [.tup [.str anS]]]
def wrong2 : List D := wrongL ++ [.dic [], .bl true, .tup [.str [116, 117, 114, 110], .str [115, 101, 110, 100]], .tup [.lst [.str [99, 117, 116]]]]
theorem S18_ok : S18 [some sc, some (.ref 0), o2, o3, o4, o5, o6, o7, o8, o9, o10, o11, o12, o13, o14, o15, o16, o17, o18] st = .nx [some sc, some (.ref 0), o2, o3, o4, o5, o6, o7, o8, o9, o10, o11, some (.lst wrongL), o13, o14, o15, o16, o17, o18] st := by
  unfold S18
  simp [wrongL, anS]
theorem are_n {d : D} (hd : ∀ st, oIsiT .tup [] d st = .ok (.bl false) st) (st : Store) : F_are_words [d] st = .ok (.bl false) st := by
  refine mkF_rt rfl ?_ rfl
  show b_are_words [some d, none] st = _
  unfold b_are_words
  simp [hd]
theorem blsOf_map : ∀ l : List Bool, blsOf (l.map D.bl) = some l
  | [] => rfl
  | b :: l => by show (blsOf (l.map D.bl)).map (b :: ·) = _; rw [blsOf_map l]; rfl
theorem are_t {xs : List D} {y : D} {st : Store} (hk : ∀ x ∈ xs, kD x = true) (hl : xs.length ≤ 1000) (h : xs.all (isP everyS) = false ∨ (xs.all (isP everyS) = true ∧ oSortSet (.tup xs) st = .ok y st ∧ oEq (.lst xs) y st = .ok (.bl false) st)) : F_are_words [.tup xs] st = .ok (.bl false) st := by
  have comp : lcL (gN 1) tYe (aL F_is_one_of (mCons (aVar 1) (mCons (aC K_WORDS) mNil))) [some (.tup xs), none] xs st [] = .ok (xs.map fun x => .bl (isP everyS x)) st := by
    refine lcL_map (fun x => .bl (isP everyS x)) _ (fun x hx => ?_) (by have : BIG = 16777216 := rfl; omega)
    refine ⟨_, rfl, ?_⟩
    simp [KW, is_oneD (hk x hx)]
  have e1 : onBls (.lst (xs.map fun x => D.bl (isP everyS x))) st (fun bs => .ok (.bl (bs.all id)) st) = .ok (.bl (xs.all (isP everyS))) st := by
    have : (xs.map fun x => D.bl (isP everyS x)) = (xs.map (isP everyS)).map D.bl := by rw [List.map_map]; rfl
    unfold onBls onLs lsOf
    rw [this]
    simp only [blsOf_map]
    simp [List.all_map]
  have e2 : ∀ st, oListOf (.tup xs) st = .ok (.lst xs) st := fun _ => rfl
  refine mkF_rt rfl ?_ rfl
  show b_are_words [some (.tup xs), none] st = _
  unfold b_are_words
  rcases h with ha | ⟨ha, hs, he⟩
  · simp only [mSeq_e, mIfS_e, tO_e, tN_e, tB_e, a1_e, aVar_0, bind_ok, oIsiT, tyN, isT, toB_e, aL_e, mCons_e, mLc_e, iSq_e, wipeE, List.set, comp, mNil_e, on1_e, oAll, e1, ha]
    simp
  · simp only [mSeq_e, mIfS_e, tO_e, tN_e, tB_e, a1_e, aVar_0, bind_ok, oIsiT, tyN, isT, toB_e, aL_e, mCons_e, mLc_e, iSq_e, wipeE, List.set, comp, mNil_e, on1_e, oAll, e1, ha]
    simp [e2, hs, he]
theorem wrong_words (st : Store) : ∀ d ∈ wrong2, F_are_words [d] st = .ok (.bl false) st := by
  have bad : ∀ {xs : List D}, (∀ x ∈ xs, kD x = true) → xs.length ≤ 1000 → xs.all (isP everyS) = false → F_are_words [.tup xs] st = .ok (.bl false) st := fun {xs} h1 h2 h3 => are_t (y := .non) h1 h2 (.inl h3)
  have two : ∀ {u v : S}, (isP everyS (.str u) && isP everyS (.str v)) = true → (∃ y, oSortSet (.tup [.str u, .str v]) st = .ok y st ∧ oEq (.lst [.str u, .str v]) y st = .ok (.bl false) st) → F_are_words [.tup [.str u, .str v]] st = .ok (.bl false) st := fun {u v} h1 ⟨y, h2, h3⟩ =>
    are_t (by simp [kD]) (by simp) (.inr ⟨by simpa using h1, h2, h3⟩)
  intro d hd
  simp only [wrong2, wrongL, List.cons_append, List.nil_append, List.mem_cons, List.not_mem_nil, or_false] at hd
  rcases hd with rfl | rfl | rfl | rfl | rfl | rfl | rfl | rfl | rfl | rfl | rfl | rfl | rfl
  · exact are_n (fun _ => rfl) st
  · exact are_n (fun _ => rfl) st
  · exact are_n (fun _ => rfl) st
  · exact two (by decide +kernel) ⟨_, rfl, rfl⟩
  · exact two (by decide +kernel) ⟨_, rfl, rfl⟩
  · exact bad (by simp [kD]) (by simp) (by decide +kernel)
  · exact bad (by simp [kD]) (by simp) (by decide +kernel)
  · exact bad (by simp [kD]) (by simp) (by decide +kernel)
  · exact bad (by simp [kD]) (by simp) (by decide +kernel)
  · exact are_n (fun _ => rfl) st
  · exact are_n (fun _ => rfl) st
  · exact two (by decide +kernel) ⟨_, rfl, rfl⟩
  · exact bad (by simp [kD]) (by simp) (by decide +kernel)
theorem S19_ok {d : D} (hc : Drw c) : ∃ (b : D) (c' : Cell), (∀ st, F_are_words [b] st = .ok (.bl false) st) ∧ Drw c' ∧ S19 [some sc, some (.ref 0), o2, o3, o4, o5, o6, o7, o8, o9, some d, o11, some (.lst wrongL), o13, o14, o15, o16, o17, o18] (c :: rest) =
    .nx [some sc, some (.ref 0), o2, o3, o4, o5, o6, o7, o8, o9, some d, o11, some (.lst wrongL), some (.lst [d, d, d, d, d, d, d, b]), o14, o15, o16, o17, o18] (c' :: rest) := by
  obtain ⟨b, c', hb, h1, e1⟩ := pick_ok (rest := rest) (its := wrong2) hc (by simp [wrong2]) (by simp [wrong2, wrongL])
  refine ⟨b, c', fun st => wrong_words st b hb, h1, ?_⟩
  have ad : oAdd (.lst wrongL) (.lst [.dic [], .bl true, .tup [.str [116, 117, 114, 110], .str [115, 101, 110, 100]], .tup [.lst [.str [99, 117, 116]]]]) (c :: rest) = .ok (.lst wrong2) (c :: rest) := by
    rw [oAdd_lst, if_pos (by simp [wrongL])]
    rfl
  have mu : oMu false (.lst [d]) (.int 7) (c :: rest) = .ok (.lst [d, d, d, d, d, d, d]) (c :: rest) := by
    unfold oMu
    simp only [lsOf]
    rw [if_pos (by have : BIG = 16777216 := rfl; refine ⟨by omega, by omega, by simp⟩)]
    rfl
  have ad2 : oAdd (.lst [d, d, d, d, d, d, d]) (.lst [b]) (c' :: rest) = .ok (.lst [d, d, d, d, d, d, d, b]) (c' :: rest) := rfl
  unfold S19
  simp [-oAdd_lst, oDic0, mu, ad, e1, ad2]
theorem S20_ok (hc : Drw c) : ∃ (k : Nat) (c' : Cell), k < 2 ∧ Drw c' ∧ S20 [some sc, some (.ref 0), o2, o3, o4, o5, o6, o7, o8, o9, o10, o11, o12, o13, o14, o15, o16, o17, o18] (c :: rest) = .nx [some sc, some (.ref 0), o2, o3, o4, o5, o6, o7, o8, o9, o10, o11, o12, o13, some (.int (k : Nat)), o15, o16, o17, o18] (c' :: rest) := by
  obtain ⟨k, c', k1, h1, e1⟩ := belowN (rest := rest) (size := 2) hc (by omega) (by omega)
  refine ⟨k, c', k1, h1, ?_⟩
  have q : (D.int 2) = D.int ((2 : Nat) : Int) := rfl
  unfold S20
  simp only [mSet_e, aL_e, mCons_e, aVar_s, aVar_0, bind_ok, aC_e, mNil_e, q, e1, fl_ok, List.set]
theorem S21_ok (z : Sd a g n1 n2 n3 h s ws) {d b : D} {k : Nat} (hk : k < 2) (o : Odd d) (hs : st.all (Cell.low st.length) = true) :
    S21 [some sc, some (.ref 0), some (.lst (strD names8)), some (.lst (vL a g n1 n2 n3 h s ws)), o4, o5, o6, o7, o8, o9, o10, o11, o12, some (.lst [d, d, d, d, d, d, d, b]), some (.int (k : Nat)), o15, o16, o17, o18] st =
      .nx [some sc, some (.ref 0), some (.lst (strD names8)), some (.lst (vL a g n1 n2 n3 h s ws)), o4, o5, o6, o7, o8, o9, o10, o11, o12, some (.lst [d, d, d, d, d, d, d, b]), some (.int (k : Nat)), o15, o16, o17, o18] st := by
  match k, hk with
  | 0, _ =>
    have t := told2 (st := st) (d0 := d) (d1 := d) o.k o.k hs
    have f : fbW d d = some agS := by simp [fbW, o.e]
    rw [f] at t
    have s1 : oSl (.lst (vL a g n1 n2 n3 h s ws)) none (some ((0 : Nat) : Int)) st = .ok (.lst []) st := rfl
    have s2 : oSl (.lst [d, d, d, d, d, d, d, b]) (some ((0 : Nat) : Int)) (some 2) st = .ok (.lst [d, d]) st := rfl
    have ix : oIx (.lst (strD names8)) (.int ((0 : Nat) : Int)) st = .ok (.str agS) st := rfl
    have ad : oAdd (.lst []) (.lst [d, d]) st = .ok (.lst [d, d]) st := rfl
    unfold S21
    simp only [mIfS_e, tB_e, a2_e, aL_e, mCons_e, mSl_e, aVar_s, aVar_0, bind_ok, oNone_e, a1_e, toI_e, s1, aC_e, s2, ad, mNil_e, t, resN, ix, oNe_str, decide_true, Bool.not_true, toB_e, flB_ok, Bool.false_eq_true, if_false, mPass_e]
  | 1, _ =>
    have t := told2 (st := st) (d0 := .str a) (d1 := d) rfl o.k hs
    have f : fbW (.str a) d = some goS := by simp [fbW, isP_mem z.a, o.g]
    rw [f] at t
    have s1 : oSl (.lst (vL a g n1 n2 n3 h s ws)) none (some ((1 : Nat) : Int)) st = .ok (.lst [.str a]) st := rfl
    have s2 : oSl (.lst [d, d, d, d, d, d, d, b]) (some ((1 : Nat) : Int)) (some 2) st = .ok (.lst [d]) st := rfl
    have ix : oIx (.lst (strD names8)) (.int ((1 : Nat) : Int)) st = .ok (.str goS) st := rfl
    have ad : oAdd (.lst [.str a]) (.lst [d]) st = .ok (.lst [.str a, d]) st := rfl
    unfold S21
    simp only [mIfS_e, tB_e, a2_e, aL_e, mCons_e, mSl_e, aVar_s, aVar_0, bind_ok, oNone_e, a1_e, toI_e, s1, aC_e, s2, ad, mNil_e, t, resN, ix, oNe_str, decide_true, Bool.not_true, toB_e, flB_ok, Bool.false_eq_true, if_false, mPass_e]
theorem S22_ok (hc : Drw c) : ∃ (k : Nat) (c' : Cell), k < 6 ∧ Drw c' ∧ S22 [some sc, some (.ref 0), o2, o3, o4, o5, o6, o7, o8, o9, o10, o11, o12, o13, o14, o15, o16, o17, o18] (c :: rest) = .nx [some sc, some (.ref 0), o2, o3, o4, o5, o6, o7, o8, o9, o10, o11, o12, o13, some (.int ((k + 2 : Nat) : Int)), o15, o16, o17, o18] (c' :: rest) := by
  obtain ⟨k, c', k1, h1, e1⟩ := belowN (rest := rest) (size := 6) hc (by omega) (by omega)
  refine ⟨k, c', k1, h1, ?_⟩
  have q : (D.int 6) = D.int ((6 : Nat) : Int) := rfl
  have q2 : (2 : Int) + (k : Int) = ((k + 2 : Nat) : Int) := by omega
  unfold S22
  simp only [mSet_e, a2_e, aL_e, mCons_e, aVar_s, aVar_0, bind_ok, aC_e, mNil_e, q, e1, oAdd_int, fl_ok, List.set, q2]
theorem told_at (z : Sd a g n1 n2 n3 h s ws) {d b : D} {k : Nat} (hk : k < 6) (o : Odd d) (hb : ∀ st, F_are_words [b] st = .ok (.bl false) st) (hs : st.all (Cell.low st.length) = true) :
    ∃ x y : List D, oSl (.lst (vL a g n1 n2 n3 h s ws)) (some 2) (some ((k + 2 : Nat) : Int)) st = .ok (.lst x) st ∧ oSl (.lst [d, d, d, d, d, d, d, b]) (some ((k + 2 : Nat) : Int)) none st = .ok (.lst y) st ∧ oAdd (.lst x) (.lst y) st = .ok (.lst (x ++ y)) st ∧
      F__law_told [.lst (x ++ y)] st = .ok (.str (names8.getD (k + 2) [])) st ∧ oIx (.lst (strD names8)) (.int ((k + 2 : Nat) : Int)) st = .ok (.str (names8.getD (k + 2) [])) st := by
  have q1 := isP_mem z.n1
  have q2 := isP_mem z.n2
  have q3 := isP_mem z.n3
  have q4 := isP_mem z.h
  have q5 := isP_mem z.s
  match k, hk with
  | 0, _ =>
    have t := told6 (st := st) (d0 := d) (d1 := d) (d2 := d) (d3 := d) (d4 := d) (dw := b) o.k o.k o.k o.k o.k hb hs
    rw [show fbP d d d d d false = some chS by simp [fbP, o.n]] at t
    exact ⟨_, _, rfl, rfl, rfl, t, rfl⟩
  | 1, _ =>
    have t := told6 (st := st) (d0 := .str n1) (d1 := d) (d2 := d) (d3 := d) (d4 := d) (dw := b) rfl o.k o.k o.k o.k hb hs
    rw [show fbP (.str n1) d d d d false = some cuS by simp [fbP, q1, o.n]] at t
    exact ⟨_, _, rfl, rfl, rfl, t, rfl⟩
  | 2, _ =>
    have t := told6 (st := st) (d0 := .str n1) (d1 := .str n2) (d2 := d) (d3 := d) (d4 := d) (dw := b) rfl rfl o.k o.k o.k hb hs
    rw [show fbP (.str n1) (.str n2) d d d false = some ctS by simp [fbP, q1, q2, o.n]] at t
    exact ⟨_, _, rfl, rfl, rfl, t, rfl⟩
  | 3, _ =>
    have t := told6 (st := st) (d0 := .str n1) (d1 := .str n2) (d2 := .str n3) (d3 := d) (d4 := d) (dw := b) rfl rfl rfl o.k o.k hb hs
    rw [show fbP (.str n1) (.str n2) (.str n3) d d false = some heS by simp [fbP, q1, q2, q3, o.h]] at t
    exact ⟨_, _, rfl, rfl, rfl, t, rfl⟩
  | 4, _ =>
    have t := told6 (st := st) (d0 := .str n1) (d1 := .str n2) (d2 := .str n3) (d3 := .str h) (d4 := d) (dw := b) rfl rfl rfl rfl o.k hb hs
    rw [show fbP (.str n1) (.str n2) (.str n3) (.str h) d false = some seS by simp [fbP, q1, q2, q3, q4, o.s]] at t
    exact ⟨_, _, rfl, rfl, rfl, t, rfl⟩
  | 5, _ =>
    have t := told6 (st := st) (d0 := .str n1) (d1 := .str n2) (d2 := .str n3) (d3 := .str h) (d4 := .str s) (dw := b) rfl rfl rfl rfl rfl hb hs
    rw [show fbP (.str n1) (.str n2) (.str n3) (.str h) (.str s) false = some woS by simp [fbP, q1, q2, q3, q4, q5]] at t
    exact ⟨_, _, rfl, rfl, rfl, t, rfl⟩
theorem S23_ok (z : Sd a g n1 n2 n3 h s ws) {d b : D} {k : Nat} (hk : k < 6) (o : Odd d) (hb : ∀ st, F_are_words [b] st = .ok (.bl false) st) (hs : st.all (Cell.low st.length) = true) :
    S23 [some sc, some (.ref 0), some (.lst (strD names8)), some (.lst (vL a g n1 n2 n3 h s ws)), o4, o5, o6, o7, o8, o9, o10, o11, o12, some (.lst [d, d, d, d, d, d, d, b]), some (.int ((k + 2 : Nat) : Int)), o15, o16, o17, o18] st = .rt (.bl true) st := by
  obtain ⟨x, y, s1, s2, ad, t, ix⟩ := told_at (st := st) z hk o hb hs
  have t6 := told6 (st := st) (d0 := .str n1) (d1 := .str n2) (d2 := .str n3) (d3 := .str h) (d4 := .str s) (dw := .tup (strD ws)) rfl rfl rfl rfl rfl (fun st => are_words z.ws) hs
  rw [fbP_none z] at t6
  have s3 : oSl (.lst (vL a g n1 n2 n3 h s ws)) (some 2) none st = .ok (.lst [.str n1, .str n2, .str n3, .str h, .str s, .tup (strD ws)]) st := rfl
  unfold S23
  simp only [mRet_e, mAn_e, tB_e, a2_e, aL_e, mCons_e, mSl_e, aVar_s, aVar_0, bind_ok, a1_e, aC_e, toI_e, s1, oNone_e, s2, ad, mNil_e, t, ix, oEq_str, decide_true, toB_e, if_true, s3, t6, resN, oIsN, fl_ok]
  rfl
end
theorem law_plain (ns : List Int) (hl : ns.length ≤ 63) : ∃ st, F_law [.scr ns] [] = .ok (.bl true) st := by
  obtain ⟨c, hc, e1⟩ := random_ok ns 979 hl
  have e1' : S1 [some (.scr ns), none, none, none, none, none, none, none, none, none, none, none, none, none, none, none, none, none, none] [] = .nx [some (.scr ns), some (.ref 0), none, none, none, none, none, none, none, none, none, none, none, none, none, none, none, none, none] [c] := by
    unfold S1
    simp only [mSet_e, aL_e, mCons_e, aVar_0, aC_e, bind_ok, mNil_e, e1, fl_ok, List.set]
  obtain ⟨a, g, n1, n2, n3, h, s, ws, c3, z, hc3, e3⟩ := S3_ok (sc := .scr ns) (NM := .lst (strD names8)) hc
  obtain ⟨a', g', m1, m2, m3, h', s', ws', c4, z', hc4, e4⟩ := S4_ok (sc := .scr ns) (NM := .lst (strD names8)) z hc3
  have e5 := S5_ok (c := c4) (rest := []) (sc := .scr ns) (NM := .lst (strD names8)) (a' := a') (g' := g') (m1 := m1) (m2 := m2) (m3 := m3) (h' := h') (s' := s') (ws' := ws') z
  have e6 := S6_ok (c := c4) (rest := [.dead]) (sc := .scr ns) (NM := .lst (strD names8)) (o3 := some (.lst (vL a g n1 n2 n3 h s ws))) (o4 := some (.lst (vL a' g' m1 m2 m3 h' s' ws'))) (W := some (oWs a g)) (R := some (.lst (pL m1 m2 m3 h' s' ws'))) z
  have e7 := S7_ok (c := c4) (rest := [.dead, .dead]) (sc := .scr ns) (NM := .lst (strD names8)) (o3 := some (.lst (vL a g n1 n2 n3 h s ws))) (o4 := some (.lst (vL a' g' m1 m2 m3 h' s' ws'))) (W := some (oWs a g)) (R := some (.lst (pL n1 n2 n3 h s ws))) (Q := some (oPs n1 n2 n3 h s ws)) z'
  have e8 := S8_ok (st := [c4, .dead, .dead, .dead]) (sc := .scr ns) (o1 := some (.ref 0)) (p2 := some (.lst (strD names8))) (o3 := some (.lst (vL a g n1 n2 n3 h s ws))) (o4 := some (.lst (vL a' g' m1 m2 m3 h' s' ws'))) (a := a) (g := g) (n1 := n1) (n2 := n2) (n3 := n3) (h := h) (s := s) (ws := ws) (Q := some (oPs m1 m2 m3 h' s' ws')) (R := some (.lst (pL n1 n2 n3 h s ws))) (o17 := some (.lst (pL m1 m2 m3 h' s' ws')))
  have e9 := S9_ok (c := c4) (rest := [.dead, .dead, .dead]) (sc := .scr ns) (NM := .lst (strD names8)) (o5 := some (oPs n1 n2 n3 h s ws)) (o6 := some (oPs m1 m2 m3 h' s' ws')) (o8 := none) (o9 := none) (o10 := none) (o11 := none) (o12 := none) (o13 := none) (o14 := none) (o16 := some (.lst (pL n1 n2 n3 h s ws))) (o17 := some (.lst (pL m1 m2 m3 h' s' ws'))) (o18 := none) z z'
  have e10 := S10_ok (st := [c4, .dead, .dead, .dead, .dead]) (sc := .scr ns) (NM := .lst (strD names8)) (a := a) (g := g) (n1 := n1) (n2 := n2) (n3 := n3) (h := h) (s := s) (ws := ws) (m1 := m1) (m2 := m2) (m3 := m3) (h' := h') (s' := s') (ws' := ws') (o4 := some (.lst (vL a' g' m1 m2 m3 h' s' ws'))) (o7 := some (.lst (vL a g n1 n2 n3 h s ws))) (o8 := none) (o9 := none) (o10 := none) (o11 := none) (o12 := none) (o13 := none) (o14 := none) (o18 := none)
  have dd : LowS [.dead, .dead, .dead, .dead] := fun _ => rfl
  obtain ⟨k, c11, hk, hc11, e11⟩ := S11_ok (c := c4) (rest := [.dead, .dead, .dead, .dead]) (sc := .scr ns) (o2 := some (.lst (strD names8))) (o3 := some (.lst (vL a g n1 n2 n3 h s ws))) (o4 := some (.lst (vL a' g' m1 m2 m3 h' s' ws'))) (o5 := some (oPs n1 n2 n3 h s ws)) (o6 := some (oPs m1 m2 m3 h' s' ws')) (o7 := some (.lst (vL a g n1 n2 n3 h s ws))) (o8 := none) (o9 := none) (o10 := none) (o11 := none) (o12 := none) (o13 := none) (o14 := none) (o15 := some (oWs a g)) (o16 := some (.lst (pL n1 n2 n3 h s ws))) (o17 := some (.lst (pL m1 m2 m3 h' s' ws'))) (o18 := none) hc4
  obtain ⟨w, c12, hw, hc12, e12⟩ := S12_ok (c := c11) (rest := [.dead, .dead, .dead, .dead]) (sc := .scr ns) (o2 := some (.lst (strD names8))) (o3 := some (.lst (vL a g n1 n2 n3 h s ws))) (o4 := some (.lst (vL a' g' m1 m2 m3 h' s' ws'))) (o5 := some (oPs n1 n2 n3 h s ws)) (o6 := some (oPs m1 m2 m3 h' s' ws')) (o7 := some (.lst (vL a g n1 n2 n3 h s ws))) (o9 := none) (o10 := none) (o11 := none) (o12 := none) (o13 := none) (o14 := none) (o15 := some (oWs a g)) (o16 := some (.lst (pL n1 n2 n3 h s ws))) (o17 := some (.lst (pL m1 m2 m3 h' s' ws'))) (o18 := none) hk hc11
  have e13 := S13_ok (st := c12 :: [.dead, .dead, .dead, .dead]) (sc := .scr ns) (o3 := some (.lst (vL a g n1 n2 n3 h s ws))) (o4 := some (.lst (vL a' g' m1 m2 m3 h' s' ws'))) (o6 := some (oPs m1 m2 m3 h' s' ws')) (o7 := some (.lst (vL a g n1 n2 n3 h s ws))) (o10 := none) (o11 := none) (o12 := none) (o13 := none) (o14 := none) (o15 := some (oWs a g)) (o17 := some (.lst (pL m1 m2 m3 h' s' ws'))) (o18 := none) z hk hw (dd.all hc12)
  obtain ⟨d, c14, o, hc14, e14⟩ := S14_ok (c := c12) (rest := [.dead, .dead, .dead, .dead]) (sc := .scr ns) (o2 := some (.lst (strD names8))) (o3 := some (.lst (vL a g n1 n2 n3 h s ws))) (o4 := some (.lst (vL a' g' m1 m2 m3 h' s' ws'))) (o5 := some (oPs n1 n2 n3 h s ws)) (o6 := some (oPs m1 m2 m3 h' s' ws')) (o7 := some (.lst (vL a g n1 n2 n3 h s ws))) (o8 := some (.int (k : Nat))) (o9 := some (.str w)) (o10 := none) (o11 := none) (o12 := none) (o13 := none) (o14 := none) (o15 := some (oWs a g)) (o16 := some (.lst (pL n1 n2 n3 h s ws))) (o17 := some (.lst (pL m1 m2 m3 h' s' ws'))) (o18 := none) hc12
  have e15 := S15_ok (st := c14 :: [.dead, .dead, .dead, .dead]) (sc := .scr ns) (o3 := some (.lst (vL a g n1 n2 n3 h s ws))) (o4 := some (.lst (vL a' g' m1 m2 m3 h' s' ws'))) (o6 := some (oPs m1 m2 m3 h' s' ws')) (o7 := some (.lst (vL a g n1 n2 n3 h s ws))) (o9 := some (.str w)) (o11 := none) (o12 := none) (o13 := none) (o14 := none) (o15 := some (oWs a g)) (o16 := some (.lst (pL n1 n2 n3 h s ws))) (o17 := some (.lst (pL m1 m2 m3 h' s' ws'))) (o18 := none) z hk o (dd.all hc14)
  obtain ⟨p, c16, hp, hb, hc16, e16⟩ := S16_ok (c := c14) (rest := [.dead, .dead, .dead, .dead]) (sc := .scr ns) (o2 := some (.lst (strD names8))) (o3 := some (.lst (vL a g n1 n2 n3 h s ws))) (o4 := some (.lst (vL a' g' m1 m2 m3 h' s' ws'))) (o5 := some (oPs n1 n2 n3 h s ws)) (o6 := some (oPs m1 m2 m3 h' s' ws')) (o7 := some (.lst (vL a g n1 n2 n3 h s ws))) (o8 := some (.int (k : Nat))) (o9 := some (.str w)) (o10 := some d) (o11 := none) (o12 := none) (o13 := none) (o14 := none) (o15 := some (oWs a g)) (o16 := some (.lst (pL n1 n2 n3 h s ws))) (o17 := some (.lst (pL m1 m2 m3 h' s' ws'))) (o18 := none) hc14
  have e17 := S17_ok (st := c16 :: [.dead, .dead, .dead, .dead]) (sc := .scr ns) (n1 := n1) (n2 := n2) (n3 := n3) (h := h) (s := s) (ws := ws) (d := d) (o2 := some (.lst (strD names8))) (o3 := some (.lst (vL a g n1 n2 n3 h s ws))) (o4 := some (.lst (vL a' g' m1 m2 m3 h' s' ws'))) (o6 := some (oPs m1 m2 m3 h' s' ws')) (o7 := some (.lst (vL a g n1 n2 n3 h s ws))) (o8 := some (.int (k : Nat))) (o9 := some (.str w)) (o12 := none) (o13 := none) (o14 := none) (o15 := some (oWs a g)) (o16 := some (.lst (pL n1 n2 n3 h s ws))) (o17 := some (.lst (pL m1 m2 m3 h' s' ws'))) (o18 := none) hp hb
  have e18 := S18_ok (st := c16 :: [.dead, .dead, .dead, .dead]) (sc := .scr ns) (o2 := some (.lst (strD names8))) (o3 := some (.lst (vL a g n1 n2 n3 h s ws))) (o4 := some (.lst (vL a' g' m1 m2 m3 h' s' ws'))) (o5 := some (oPs n1 n2 n3 h s ws)) (o6 := some (oPs m1 m2 m3 h' s' ws')) (o7 := some (.lst (vL a g n1 n2 n3 h s ws))) (o8 := some (.int (k : Nat))) (o9 := some (.str w)) (o10 := some d) (o11 := some p) (o12 := none) (o13 := none) (o14 := none) (o15 := some (oWs a g)) (o16 := some (.lst (pL n1 n2 n3 h s ws))) (o17 := some (.lst (pL m1 m2 m3 h' s' ws'))) (o18 := none)
  obtain ⟨b, c19, hbw, hc19, e19⟩ := S19_ok (c := c16) (rest := [.dead, .dead, .dead, .dead]) (sc := .scr ns) (d := d) (o2 := some (.lst (strD names8))) (o3 := some (.lst (vL a g n1 n2 n3 h s ws))) (o4 := some (.lst (vL a' g' m1 m2 m3 h' s' ws'))) (o5 := some (oPs n1 n2 n3 h s ws)) (o6 := some (oPs m1 m2 m3 h' s' ws')) (o7 := some (.lst (vL a g n1 n2 n3 h s ws))) (o8 := some (.int (k : Nat))) (o9 := some (.str w)) (o11 := some p) (o13 := none) (o14 := none) (o15 := some (oWs a g)) (o16 := some (.lst (pL n1 n2 n3 h s ws))) (o17 := some (.lst (pL m1 m2 m3 h' s' ws'))) (o18 := none) hc16
  obtain ⟨k2, c20, hk2, hc20, e20⟩ := S20_ok (c := c19) (rest := [.dead, .dead, .dead, .dead]) (sc := .scr ns) (o2 := some (.lst (strD names8))) (o3 := some (.lst (vL a g n1 n2 n3 h s ws))) (o4 := some (.lst (vL a' g' m1 m2 m3 h' s' ws'))) (o5 := some (oPs n1 n2 n3 h s ws)) (o6 := some (oPs m1 m2 m3 h' s' ws')) (o7 := some (.lst (vL a g n1 n2 n3 h s ws))) (o8 := some (.int (k : Nat))) (o9 := some (.str w)) (o10 := some d) (o11 := some p) (o12 := some (.lst wrongL)) (o13 := some (.lst [d, d, d, d, d, d, d, b])) (o14 := none) (o15 := some (oWs a g)) (o16 := some (.lst (pL n1 n2 n3 h s ws))) (o17 := some (.lst (pL m1 m2 m3 h' s' ws'))) (o18 := none) hc19
  have e21 := S21_ok (st := c20 :: [.dead, .dead, .dead, .dead]) (sc := .scr ns) (b := b) (o4 := some (.lst (vL a' g' m1 m2 m3 h' s' ws'))) (o5 := some (oPs n1 n2 n3 h s ws)) (o6 := some (oPs m1 m2 m3 h' s' ws')) (o7 := some (.lst (vL a g n1 n2 n3 h s ws))) (o8 := some (.int (k : Nat))) (o9 := some (.str w)) (o10 := some d) (o11 := some p) (o12 := some (.lst wrongL)) (o15 := some (oWs a g)) (o16 := some (.lst (pL n1 n2 n3 h s ws))) (o17 := some (.lst (pL m1 m2 m3 h' s' ws'))) (o18 := none) z hk2 o (dd.all hc20)
  obtain ⟨k3, c22, hk3, hc22, e22⟩ := S22_ok (c := c20) (rest := [.dead, .dead, .dead, .dead]) (sc := .scr ns) (o2 := some (.lst (strD names8))) (o3 := some (.lst (vL a g n1 n2 n3 h s ws))) (o4 := some (.lst (vL a' g' m1 m2 m3 h' s' ws'))) (o5 := some (oPs n1 n2 n3 h s ws)) (o6 := some (oPs m1 m2 m3 h' s' ws')) (o7 := some (.lst (vL a g n1 n2 n3 h s ws))) (o8 := some (.int (k : Nat))) (o9 := some (.str w)) (o10 := some d) (o11 := some p) (o12 := some (.lst wrongL)) (o13 := some (.lst [d, d, d, d, d, d, d, b])) (o14 := some (.int (k2 : Nat))) (o15 := some (oWs a g)) (o16 := some (.lst (pL n1 n2 n3 h s ws))) (o17 := some (.lst (pL m1 m2 m3 h' s' ws'))) (o18 := none) hc20
  have e23 := S23_ok (st := c22 :: [.dead, .dead, .dead, .dead]) (sc := .scr ns) (o4 := some (.lst (vL a' g' m1 m2 m3 h' s' ws'))) (o5 := some (oPs n1 n2 n3 h s ws)) (o6 := some (oPs m1 m2 m3 h' s' ws')) (o7 := some (.lst (vL a g n1 n2 n3 h s ws))) (o8 := some (.int (k : Nat))) (o9 := some (.str w)) (o10 := some d) (o11 := some p) (o12 := some (.lst wrongL)) (o15 := some (oWs a g)) (o16 := some (.lst (pL n1 n2 n3 h s ws))) (o17 := some (.lst (pL m1 m2 m3 h' s' ws'))) (o18 := none) z hk3 o hbw (dd.all hc22)
  have run : b_law [some (.scr ns), none, none, none, none, none, none, none, none, none, none, none, none, none, none, none, none, none, none] [] = .rt (.bl true) (c22 :: [.dead, .dead, .dead, .dead]) := by
    show (mSeq S1 (mSeq S2 (mSeq S3 (mSeq S4 (mSeq S5 (mSeq S6 (mSeq S7 (mSeq S8 (mSeq S9 (mSeq S10 (mSeq S11 (mSeq S12 (mSeq S13 (mSeq S14 (mSeq S15 (mSeq S16 (mSeq S17 (mSeq S18 (mSeq S19 (mSeq S20 (mSeq S21 (mSeq S22 S23)))))))))))))))))))))) _ _ = _
    simp only [List.nil_append, List.cons_append] at e5 e6 e7 e9
    rw [mSeq_e, e1', nx_bind, mSeq_e, S2_ok, nx_bind, mSeq_e, e3, nx_bind, mSeq_e, e4, nx_bind, mSeq_e, e5, nx_bind, mSeq_e, e6, nx_bind, mSeq_e, e7, nx_bind, mSeq_e, e8, nx_bind, mSeq_e, e9, nx_bind, mSeq_e, e10, nx_bind, mSeq_e, e11, nx_bind, mSeq_e, e12, nx_bind, mSeq_e, e13, nx_bind, mSeq_e, e14, nx_bind, mSeq_e, e15, nx_bind, mSeq_e, e16, nx_bind, mSeq_e, e17, nx_bind,
      mSeq_e, e18, nx_bind, mSeq_e, e19, nx_bind, mSeq_e, e20, nx_bind, mSeq_e, e21, nx_bind, mSeq_e, e22, nx_bind, e23]
  exact ⟨_, mkF_pop (n := 1) (N := 19) (b := b_law) (ds := [.scr ns]) (st := []) rfl run rfl rfl⟩
end G9
end
section
set_option Elab.async false
set_option linter.all false
set_option maxRecDepth 100000
set_option maxHeartbeats 0
namespace G9
open PySem PySem.Spec PyProof.Rows L2 FL NdefX
abbrev R : PySem.W.OpenRow := PySem.W.OpenLaw.row PySem.Challenge.rw_opensigns_k09_sides_kept_and_refused
abbrev hk : PySem.W.Hook := hookX fas fns tbs exs pqs PP.main.file xqs 6
def ob (s : PySem.W.SharedT) : AlX := obsXG fas fns tbs exs pqs PP.main.file xqs 6 (HandSHeadRun.getT s)
theorem ob_eq (s : PySem.W.SharedT) : ob s = hk.obs s.abs := obsXG_eq (HandSHeadRun.getT_eq s)
def loose : List Str := ["OpenError", "BadPart", "UnknownPart", "AGAIN", "GOES", "PARTS", "CHOICES", "WORDS", "is_one_of", "are_words", "Writer", "Program", "_law_random", "_law_below", "_law_pick", "_law_equal", "_law_told", "_law_changing", "_law_some", "_law_tuples"]
theorem runF (w : World) : HandSHeadRun.RunEq R (PySem.W.view R.prog [23]) hk ob 20000 loose (w.withFollow "special-get-raises" false) := by
  intro os
  kernel_rfl
theorem runT (w : World) : HandSHeadRun.RunEq R (PySem.W.view R.prog [23]) hk ob 20000 loose (w.withFollow "special-get-raises" true) := by
  intro os
  kernel_rfl
theorem run (w : World) : HandSHeadRun.RunEq R (PySem.W.view R.prog [23]) hk ob 20000 loose w := PySem.W.byRow2 "special-get-raises" (P := fun w => HandSHeadRun.RunEq R (PySem.W.view R.prog [23]) hk ob 20000 loose w) runF runT w
theorem law_holds (hL : ∀ ns : List Int, ns.length ≤ 63 → ∃ st, F_law [.scr ns] [] = .ok (.bl true) st) : PySem.Challenge.rw_opensigns_k09_sides_kept_and_refused.Holds := by
  w_on; o_law
  refine HandSHeadRun.head_any (r := PySem.W.OpenLaw.row PySem.Challenge.rw_opensigns_k09_sides_kept_and_refused) (q := PySem.W.view (PySem.W.OpenLaw.row PySem.Challenge.rw_opensigns_k09_sides_kept_and_refused).prog [23]) (H := hk) (ob := ob) (M := 20000) (loose := loose) (d := HandSHeadRun.topDef (PySem.W.OpenLaw.row PySem.Challenge.rw_opensigns_k09_sides_kept_and_refused).prog 23) (kwd := []) ob_eq
    (by kernel_rfl) (fun s => by kernel_rfl) run (by kernel_rfl) (by kernel_rfl) (by kernel_rfl) (by rfl) (by first | assumption | decide +kernel) (by decide +kernel) ⟨rfl, rfl, rfl, rfl, rfl, by decide +kernel⟩ ?hw ?hc
  case hw => w_witness2
  case hc =>
    refine walk_ofW (l := PySem.Challenge.rw_opensigns_k09_sides_kept_and_refused) (n := 63) (k := 8) (x := "_law_script") (CX := fun w => L2.CX (PySem.Challenge.rw_opensigns_k09_sides_kept_and_refused).prog w) rfl (by decide) (by kernel_rfl) ⟨rfl, by decide, by decide⟩ ?F (fun w H s e s' h => cx_end _ w H s e s' h)
    intro w mg fa h Y G hmg0
    obtain ⟨K, KX, c⟩ := Y
    have hmg : mg ("law" : PySem.Str) = some (.ref fa) := by
      have e : (HandSHeadRun.topDef (PySem.W.OpenLaw.row PySem.Challenge.rw_opensigns_k09_sides_kept_and_refused).prog 23).name = ("law" : PySem.Str) := by kernel_rfl
      rw [← e]
      exact hmg0
    have z : Zz w K mg := zz_of KX G c
    exact law_at (d := d_law) KX hmg z.g_law rfl rfl z.d_law (fun _ _ _ _ _ _ us hl => match us, hl with | [_], _ => rfl) (fun base => ok_law z) hL
end G9
end
theorem PySem.Challenge.cw_opensigns_k09_sides_kept_and_refused_holds : PySem.Challenge.rw_opensigns_k09_sides_kept_and_refused.Holds := by
  exact G9.law_holds G9.law_plain
