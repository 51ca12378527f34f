import PyProof.Rows.All
import Wide.All
import OpenK.AllK
import Wide.FinOn
import HandS.Base
import HandS.Call
import HandS.List
import HandS.Comp
import HandS.Ends
import HandS.Exc
import HandS.Text
import HandS.More
import HandS.Slots
import HandS.SlotsVar
import HandS.SlotsOwn
import HandS.Lambda
import HandS.Nested
import HandS.NoneIn
import HandS.DictTup
import HandS.Deep
import HandS.Wide
import HandS.WideMore
import HandS.Star
import HandS.Words
import HandS.WordsExc
import HandS.ExcOwn
import HandS.Iter
import HandS.IsInst
import HandS.Style
import HandS.Replace
import HandS.Property
import HandS.Zip
import KE.GoesEnum
import KE.GoesMore
import HandS.TupAny
import HandS.Conv
import HandS.Codes
import HandS.SetKeys
import HandS.Set
import HandS.Strs
import HandS.SortInts
import HandS.SortKw
import HandS.WideBits
import HandS.TupMul
import KE.KDictZip
import HandS.ExcValue
import PyProof.LongRange
import KE.DataMinMax
import KE.DataCmp
import KE.Datum
import KE.KLam
import HandS.Flow
import HandS.TryMany
import HandS.OwnEq
import PyProof.InstEq
import KE.KCallOwn
import PyProof.InstSpecial
import HandS.TupLen
import KE.SortCalls
import HandS.HeadHook3
import HandS.ExcInit
import HandS.ExcField
import HandS.FStr
import HandS.ExcIs
import KE.KWithOwn
import HandS.Finally
import HandS.HotCalls
import PyProof.DictCopy
import PyProof.DictUpdate
import HandS.ClsMeth
import HandS.EndTab
import KE.KNestM
import PySem.Challenge.RW_ruledpieces_k54_whole_tables_and_rows
set_option Elab.async false
set_option linter.all false
set_option maxRecDepth 100000
set_option maxHeartbeats 4000000
namespace VE
open PySem PySem.Spec PyProof.Rows L2
/-- a lambda, an inner def: its names, its text; fr: what it captures, in order -/
structure LamCode where
  name : Str
  qual : Str
  params : Arguments
  body : FuncBody
  scope : Scope
  ps : List Str
  fr : List Str
/-- the tables of code objects, the texts of all lambdas and inner defs, by number -/
class VEnv where
  T : List (Addr × Str)
  code : Nat → LamCode
  pw : Option (Program × World) := none
/-- for a law without lambdas -/
@[reducible] def VEnv.dummy : VEnv := ⟨[], fun _ => ⟨"", "", ⟨[], [], none, [], [], none, []⟩, .stmts [], default, [], []⟩, none⟩
/-- a function as a value: of the module, by its name; a lambda or inner def, by its number, with the cells of the frame that made it -/
inductive Clo where
  | glb (x : Str)
  | lam (id : Nat) (cells : List (Str × Addr))
  | lamD (i : Nat) (cells : List (Str × Addr)) (z : Int)
  deriving Inhabited
/-- pure data that a value stands for -/
inductive D where
  | non
  | bl (b : Bool)
  | int (i : Int)
  | str (x : Str)
  | lst (xs : List D)
  | tup (xs : List D)
  | scr (xs : List Int)
  | ino (c : Str) (ns : List Str) (xs : List D)
  | obj (c : Str) (xs : List D)
  | ref (n : Nat)
  | fn (x : Clo)
  deriving Inhabited

/-- an exception: its class's name, its attributes -/
structure Exn where
  cls : Str
  fs : List (Str × D)
/-- an exception that a suite handles: where it is, its class, its dict -/
structure XI where
  a : Addr
  cls : Value
  d : Option Addr
/-- a slot: nothing known; a value; a list or dict that this slot alone holds; the exception that is handled -/
inductive Sl where
  | no
  | va (d : D)
  | ow (d : D)
  | gh (cells : List (Str × Addr)) (vals : List (Str × D))
  | xc (xi : XI) (x : Exn)
/-- an object that may be changed: a list, an instance with its attributes -/
inductive Cell where
  | lst (xs : List D)
  | ins (c : Str) (fs : List (Str × D))
  | slo (c : Str) (ds : List D)
  | slp (c : Str) (ix : List Nat) (ds : List D)
  | dct (kvs : List (L2.Key × D))
  | dcT (kvs : List (List L2.Key × D))
  | dcN (kvs : List (Option L2.Key × D))
  | lcT (kvs : List (List L2.Key × D))
  | lcN (kvs : List (Option L2.Key × D))
/-- a dict that is walked: it is locked -/
def Cell.lck : Cell → Bool
  | .lcT _ => true
  | .lcN _ => true
  | _ => false
abbrev EnvD := List Sl
abbrev Sto := List Cell
inductive R (α : Type) where
  | ok (a : α) (e : EnvD) (st : Sto)
  | ex (x : Exn) (e : EnvD) (st : Sto)
  | bad
@[reducible] def M (α : Type) := EnvD → Sto → R α
def R.bind {α β : Type} (r : R α) (k : α → M β) : R β := match r with
  | .ok a e st => k a e st
  | .ex x e st => .ex x e st
  | .bad => .bad
@[simp] theorem R.bind_ok {α β : Type} (a : α) (e : EnvD) (st : Sto) (k : α → M β) : (R.ok a e st).bind k = k a e st := rfl
@[simp] theorem R.bind_ex {α β : Type} (x : Exn) (e : EnvD) (st : Sto) (k : α → M β) : (R.ex x e st).bind k = .ex x e st := rfl
@[simp] theorem R.bind_bad {α β : Type} (k : α → M β) : (R.bad : R α).bind k = .bad := rfl

/-- an instance with slots at x, its own dict, which is empty, at dx -/
def SlAt (H : Hp) (x C dx : Addr) (vs : List (Option V)) : Prop := H dx = some (.frz PySem.W.emptyDict (.own x)) ∧ dx ≠ x ∧ H x = some (L2.SlO C dx x vs)
theorem SlAt.here {H : Hp} {x C dx : Addr} {vs ws : List (Option V)} (h : SlAt H x C dx vs) : SlAt (upd H x (L2.SlO C dx x ws)) x C dx ws :=
  ⟨by rw [upd_ne h.2.1]; exact h.1, h.2.1, upd_same⟩
theorem SlAt.made {H : Hp} {x C dx : Addr} (h : dx ≠ x) : SlAt (upd (upd H dx (.frz PySem.W.emptyDict (.own x))) x (L2.SlO C dx x [])) x C dx [] :=
  ⟨by rw [upd_ne h]; exact upd_same, h, upd_same⟩
/-- slots that are filled in the order ix -/
def fillS (ix : List Nat) (vs : List V) : List (Option V) := (ix.zip vs).foldl (fun o p => L2.putS p.1 p.2 o) []
/-- the function object of a lambda or inner def -/
def FnL (f : Addr) (L : LamCode) (cells : List (Str × Addr)) (c' : Addr) : HO := .ext fun h => ∃ (od : Option Addr) (sl : Array (Option Value)) (doc pm ctv : Value),
  h.get? f = some (⟨.type "function", od, .func { name := L.name, qualname := L.qual, params := L.params, body := L.body, scope := L.scope, globals := mainGlobals, closure := cloFrom cells L.scope.names [], defaults := .none, kwdefaults := .none, doc, pyModule := pm, annotations := none, code := .ref c', closureTuple := ctv, builtins := builtinsNs }, sl⟩ : Obj)
/-- .. of a lambda whose one parameter has a default, the tuple at q -/
def FnLD (f : Addr) (L : LamCode) (cells : List (Str × Addr)) (c' q : Addr) : HO := .ext fun h => ∃ (od : Option Addr) (sl : Array (Option Value)) (doc pm ctv : Value),
  h.get? f = some (⟨.type "function", od, .func { name := L.name, qualname := L.qual, params := L.params, body := L.body, scope := L.scope, globals := mainGlobals, closure := cloFrom cells L.scope.names [], defaults := .ref q, kwdefaults := .none, doc, pyModule := pm, annotations := none, code := .ref c', closureTuple := ctv, builtins := builtinsNs }, sl⟩ : Obj)
/-- a known cell of a frame that waits -/
def cellT : HO := .ext fun _ => True
def CelO (o : Obj) : HO := .frz o cellT
section
variable [VEnv]
variable (K : PySem.W.Frag) (mg : Str → Option Value)
def FqL (F : Addr → Prop) (H : Hp) (a : Addr) (xs : List V) : Prop :=
  (F a ∧ Rd H a (.lst xs)) ∨ ∃ (o : Obj) (its : Array Value) (n : Nat), K.lookup a = some o ∧ o.cls = .type "list" ∧ o.dict = none ∧ o.data = .seq its n ∧ its.size ≤ sizeLine ∧ Vals xs its.toList
def FqT (F : Addr → Prop) (H : Hp) (a : Addr) (xs : List V) : Prop :=
  (F a ∧ H a = some (.tup xs)) ∨ ∃ (o : Obj) (its : Array Value) (n : Nat), K.lookup a = some o ∧ o.cls = .type "tuple" ∧ o.data = .seq its n ∧ its.size ≤ sizeLine ∧ Vals xs its.toList
mutual
inductive Rp (F : Addr → Prop) (c : List Addr) (H : Hp) : V → D → Prop
  | non : Rp F c H .non .non
  | bl (b : Bool) : Rp F c H (.bl b) (.bl b)
  | int (i : Int) : Rp F c H (.int i) (.int i)
  | str (x : Str) : Rp F c H (.str x) (.str x)
  | lst {a : Addr} {xs : List V} {ds : List D} : F a → H a = some (.lst xs) → Rps F c H xs ds → Rp F c H (.ref a) (.lst ds)
  | scr {a : Addr} {ns : List Int} : FqL K F H a (ns.map V.int) → Rp F c H (.ref a) (.scr ns)
  | tup {a : Addr} {xs : List V} {ds : List D} : FqT K F H a xs → Rps F c H xs ds → Rp F c H (.ref a) (.tup ds)
  | obj {a C dx : Addr} {n : Str} {xs : List V} {ds : List D} : mg n = some (.ref C) → F a → SlAt H a C dx (xs.map some) → Rps F c H xs ds → Rp F c H (.ref a) (.obj n ds)
  | ino {a C dx : Addr} {n : Str} {vfs : List (Str × V)} {ns : List Str} {ds : List D} : mg n = some (.ref C) → F a → H a = some (.ins C dx vfs) → vfs.map (·.1) = ns → Rps F c H (vfs.map (·.2)) ds → Rp F c H (.ref a) (.ino n ns ds)
  | ref {a : Addr} {n : Nat} : c[n]? = some a → Rp F c H (.ref a) (.ref n)
  | glb {x : Str} {f : Addr} : mg x = some (.ref f) → Rp F c H (.ref f) (.fn (.glb x))
  | lam {f c' : Addr} {i : Nat} {cells : List (Str × Addr)} : F f → H f = some (FnL f (VEnv.code i) cells c') → F c' → H c' = some (LamX.CodeO c' (VEnv.code i).qual) → (∀ y ∈ (VEnv.code i).scope.names, y.2 = .free → ∃ a, cells.lookup y.1 = some a) → Rp F c H (.ref f) (.fn (.lam i cells))
  | lamD {f c' q : Addr} {i : Nat} {cells : List (Str × Addr)} {z : Int} : F f → H f = some (FnLD f (VEnv.code i) cells c' q) → F c' → H c' = some (LamX.CodeO c' (VEnv.code i).qual) → (∀ y ∈ (VEnv.code i).scope.names, y.2 = .free → ∃ a, cells.lookup y.1 = some a) → F q → H q = some (.tup [.int z]) → (VEnv.code i).params.defaults ≠ [] → Rp F c H (.ref f) (.fn (.lamD i cells z))
inductive Rps (F : Addr → Prop) (c : List Addr) (H : Hp) : List V → List D → Prop
  | nil : Rps F c H [] []
  | cons {v : V} {vs : List V} {d : D} {ds : List D} : Rp F c H v d → Rps F c H vs ds → Rps F c H (v :: vs) (d :: ds)
end
end
/-- what stood there stands there still; a table of code objects may have grown -/
def Kept (H' : Hp) (a : Addr) (o : HO) : Prop := H' a = some o ∨ ((∃ ps, o = .tbl ps) ∧ ∃ ps', H' a = some (.tbl ps'))
theorem Kept.there {H' : Hp} {a : Addr} {o : HO} (k : Kept H' a o) : ∃ o', H' a = some o' := k.elim (fun h => ⟨_, h⟩) fun ⟨_, _, h⟩ => ⟨_, h⟩
theorem Kept.same {H' : Hp} {a : Addr} {o : HO} (k : Kept H' a o) (n : ∀ ps, o ≠ .tbl ps) : H' a = some o := k.elim id fun ⟨⟨ps, e⟩, _⟩ => absurd e (n ps)
theorem Kept.up {H H' : Hp} {a : Addr} {o : HO} (k : Kept H a o) (h : ∀ o, H a = some o → Kept H' a o) : Kept H' a o := by
  rcases k with k | ⟨⟨ps, e⟩, ps', k⟩
  · exact h o k
  · refine .inr ⟨⟨ps, e⟩, ?_⟩
    rcases h _ k with q | ⟨_, q⟩
    · exact ⟨_, q⟩
    · exact q
/-- what is frozen stays -/
structure Stp (F : Addr → Prop) (c : List Addr) (H : Hp) (F' : Addr → Prop) (c' : List Addr) (H' : Hp) : Prop where
  inc : ∀ a, F a → F' a
  keep : ∀ a o, F a → H a = some o → H' a = some o
  cs : ∃ l, c' = c ++ l
  own : ∀ d x, H d = some (.own x) → H' d = some (.own x)
  lck : ∀ d o u, H d = some (.frz o u) → H' d = some (.frz o u)
section
variable [VEnv]
variable {K : PySem.W.Frag} {mg : Str → Option Value} {F F' F2 : Addr → Prop} {c c' c2 : List Addr} {H H' H2 : Hp}
theorem Stp.refl : Stp F c H F c H := ⟨fun _ h => h, fun _ _ _ h => h, ⟨[], (List.append_nil c).symm⟩, fun _ _ h => h, fun _ _ _ h => h⟩
theorem Stp.trans (s : Stp F c H F' c' H') (t : Stp F' c' H' F2 c2 H2) : Stp F c H F2 c2 H2 := by
  obtain ⟨l, e⟩ := s.cs
  obtain ⟨l', e'⟩ := t.cs
  exact ⟨fun a h => t.inc a (s.inc a h), fun a o h e => t.keep a o (s.inc a h) (s.keep a o h e), ⟨l ++ l', by rw [e', e, List.append_assoc]⟩, fun d x h => t.own d x (s.own d x h), fun d o u h => t.lck d o u (s.lck d o u h)⟩
theorem FqL.stp {a : Addr} {xs : List V} (h : FqL K F H a xs) (s : Stp F c H F' c' H') : FqL K F' H' a xs := by
  rcases h with ⟨f, h | ⟨o, h⟩⟩ | h
  · exact .inl ⟨s.inc a f, .inl (s.keep a _ f h)⟩
  · exact .inl ⟨s.inc a f, .inr ⟨o, s.keep a _ f h⟩⟩
  · exact .inr h
theorem FqL.sq {a : Addr} {xs : List V} (h : FqL K F H a xs) : SqL K H a xs := h.elim (fun h => .inl h.2) .inr
theorem FqT.stp {a : Addr} {xs : List V} (h : FqT K F H a xs) (s : Stp F c H F' c' H') : FqT K F' H' a xs := by
  rcases h with ⟨f, h⟩ | h
  · exact .inl ⟨s.inc a f, s.keep a _ f h⟩
  · exact .inr h
theorem FqT.sq {a : Addr} {xs : List V} (h : FqT K F H a xs) : SqT K H a xs := h.elim (fun h => .inl (.inl h.2)) .inr
theorem slAt_stp {a C dx : Addr} {vs : List (Option V)} (s : Stp F c H F' c' H') (f : F a) (h : SlAt H a C dx vs) : SlAt H' a C dx vs :=
  ⟨s.lck _ _ _ h.1, h.2.1, s.keep _ _ f h.2.2⟩
mutual
theorem Rp.stp (s : Stp F c H F' c' H') : ∀ {v : V} {d : D}, Rp K mg F c H v d → Rp K mg F' c' H' v d
  | _, _, .non => .non
  | _, _, .bl b => .bl b
  | _, _, .int i => .int i
  | _, _, .str x => .str x
  | _, _, .lst f h r => .lst (s.inc _ f) (s.keep _ _ f h) (Rps.stp s r)
  | _, _, .scr h => .scr (h.stp s)
  | _, _, .tup h r => .tup (h.stp s) (Rps.stp s r)
  | _, _, .obj m f h r => .obj m (s.inc _ f) (slAt_stp s f h) (Rps.stp s r)
  | _, _, .ino m f h e r => .ino m (s.inc _ f) (s.keep _ _ f h) e (Rps.stp s r)
  | _, _, .ref h => .ref (by
      obtain ⟨l, e⟩ := s.cs
      rw [e, List.getElem?_append_left]
      · exact h
      · exact (List.getElem?_eq_some_iff.mp h).1)
  | _, _, .glb h => .glb h
  | _, _, .lam f h g k z => .lam (s.inc _ f) (s.keep _ _ f h) (s.inc _ g) (s.keep _ _ g k) z
  | _, _, .lamD f h g k z t u w => .lamD (s.inc _ f) (s.keep _ _ f h) (s.inc _ g) (s.keep _ _ g k) z (s.inc _ t) (s.keep _ _ t u) w
theorem Rps.stp (s : Stp F c H F' c' H') : ∀ {vs : List V} {ds : List D}, Rps K mg F c H vs ds → Rps K mg F' c' H' vs ds
  | _, _, .nil => .nil
  | _, _, .cons h r => .cons (Rp.stp s h) (Rps.stp s r)
end
theorem Rps.length : ∀ {vs : List V} {ds : List D}, Rps K mg F c H vs ds → vs.length = ds.length
  | _, _, .nil => rfl
  | _, _, .cons _ r => by rw [List.length_cons, List.length_cons, Rps.length r]
theorem Rps.append : ∀ {vs : List V} {ds : List D} {ws : List V} {es : List D}, Rps K mg F c H vs ds → Rps K mg F c H ws es → Rps K mg F c H (vs ++ ws) (ds ++ es)
  | _, _, _, _, .nil, h => h
  | _, _, _, _, .cons h r, q => .cons h (Rps.append r q)
theorem Rps.get' : ∀ {vs : List V} {ds : List D} {i : Nat} {d : D}, Rps K mg F c H vs ds → ds[i]? = some d → ∃ v, vs[i]? = some v ∧ Rp K mg F c H v d
  | _, _, _, _, .nil, e => by simp at e
  | _, _, 0, _, .cons h _, e => by simp at e; subst e; exact ⟨_, rfl, h⟩
  | _, _, i + 1, d, .cons _ r, e => by
    obtain ⟨v, h1, h2⟩ := Rps.get' (i := i) (d := d) r (by simpa using e)
    exact ⟨v, by simpa using h1, h2⟩
theorem Rps.take : ∀ {vs : List V} {ds : List D} (n : Nat), Rps K mg F c H vs ds → Rps K mg F c H (vs.take n) (ds.take n)
  | _, _, 0, _ => .nil
  | _, _, _ + 1, .nil => .nil
  | _, _, n + 1, .cons h r => .cons h (Rps.take n r)
theorem Rps.drop : ∀ {vs : List V} {ds : List D} (n : Nat), Rps K mg F c H vs ds → Rps K mg F c H (vs.drop n) (ds.drop n)
  | _, _, 0, r => r
  | _, _, _ + 1, .nil => .nil
  | _, _, n + 1, .cons _ r => Rps.drop n r
theorem Rps.set {x : V} {d : D} (r : Rp K mg F c H x d) : ∀ {vs : List V} {ds : List D} (i : Nat), Rps K mg F c H vs ds → Rps K mg F c H (vs.set i x) (ds.set i d)
  | _, _, _, .nil => .nil
  | _, _, 0, .cons _ t => .cons r t
  | _, _, i + 1, .cons q t => .cons q (Rps.set r i t)
end
/-- the fixed things of a def's run: the written part, the module's names, the heap, the frozen and the changeable objects at its entry -/
structure Bs where
  K : PySem.W.Frag
  mg : Str → Option Value
  H0 : Hp
  F0 : Addr → Prop
  c0 : List Addr

section
variable [VEnv]
def OwnAt (K : PySem.W.Frag) (mg : Str → Option Value) (F : Addr → Prop) (c : List Addr) (H : Hp) (a : Addr) : D → Prop
  | .lst ds => ∃ vs, H a = some (.lst vs) ∧ Rps K mg F c H vs ds
  | _ => False
/-- a dict among whose keys None may be -/
def NoneD (P : Program) (w : World) (a : Addr) (vk : List (Option L2.Key × V)) (h : Heap) : Prop := vk.length ≤ sizeLine ∧ (a == sysModules) = false ∧ ∃ vs : List (Option L2.Key × Value), L2.KV vk vs ∧ h.DictOf (L2.noneKind P w) a vs
/-- a dict whose keys are tuples: its entries -/
def TupD (P : Program) (w : World) (a : Addr) (ks : List (List L2.Key × Addr)) (vs : List V) (h : Heap) : Prop := ks.length ≤ sizeLine ∧ (a == sysModules) = false ∧ (ks.map (·.1)).Nodup ∧
  ∃ xs : List (List L2.Key × Addr × Value), xs.map (fun x => (x.1, x.2.1)) = ks ∧ Vals vs (xs.map (·.2.2)) ∧ ∃ o es ep, h.get? a = some o ∧ o.ExactDict ∧ o.data = .dict es ep ∧ es.toList = xs.map (entryOfKey (tupleKind (L2.mixKind P w)))
def dTO (P : Program) (w : World) (a : Addr) (ks : List (List L2.Key × Addr)) (vs : List V) : HO := .ext (TupD P w a ks vs)
def dNO (P : Program) (w : World) (a : Addr) (vk : List (Option L2.Key × V)) : HO := .ext (NoneD P w a vk)
def CellOk (K : PySem.W.Frag) (mg : Str → Option Value) (F : Addr → Prop) (c : List Addr) (H : Hp) (a : Addr) : Cell → Prop
  | .lst ds => ∃ vs, H a = some (.lst vs) ∧ Rps K mg F c H vs ds
  | .ins n fs => ∃ C dx vfs, mg n = some (.ref C) ∧ H a = some (.ins C dx vfs) ∧ vfs.map (·.1) = fs.map (·.1) ∧ Rps K mg F c H (vfs.map (·.2)) (fs.map (·.2))
  | .slo n ds => ∃ C dx vs, mg n = some (.ref C) ∧ SlAt H a C dx (vs.map some) ∧ Rps K mg F c H vs ds
  | .slp n ix ds => ∃ C dx vs, mg n = some (.ref C) ∧ SlAt H a C dx (fillS ix vs) ∧ Rps K mg F c H vs ds
  | .dct kvs => ∃ vk : List (L2.Key × V), H a = some (.dK vk) ∧ vk.map (·.1) = kvs.map (·.1) ∧ Rps K mg F c H (vk.map (·.2)) (kvs.map (·.2))
  | .dcT kvs => ∃ (P : Program) (w : World) (ks : List (List L2.Key × Addr)) (vs : List V), VEnv.pw = some (P, w) ∧ H a = some (dTO P w a ks vs) ∧ ks.map (·.1) = kvs.map (·.1) ∧ Rps K mg F c H vs (kvs.map (·.2)) ∧ ∀ x ∈ ks, FqT K F H x.2 (x.1.map L2.kV)
  | .dcN kvs => ∃ (P : Program) (w : World) (vk : List (Option L2.Key × V)), VEnv.pw = some (P, w) ∧ H a = some (dNO P w a vk) ∧ vk.map (·.1) = kvs.map (·.1) ∧ Rps K mg F c H (vk.map (·.2)) (kvs.map (·.2))
  | .lcT kvs => ∃ (P : Program) (w : World) (ks : List (List L2.Key × Addr)) (vs : List V) (od : Obj), VEnv.pw = some (P, w) ∧ H a = some (.frz od (dTO P w a ks vs)) ∧ ks.map (·.1) = kvs.map (·.1) ∧ Rps K mg F c H vs (kvs.map (·.2)) ∧ ∀ x ∈ ks, FqT K F H x.2 (x.1.map L2.kV)
  | .lcN kvs => ∃ (P : Program) (w : World) (vk : List (Option L2.Key × V)) (od : Obj), VEnv.pw = some (P, w) ∧ H a = some (.frz od (dNO P w a vk)) ∧ vk.map (·.1) = kvs.map (·.1) ∧ Rps K mg F c H (vk.map (·.2)) (kvs.map (·.2))
/-- no dict of an instance's own: such stay as they are -/
def NotOwn (o : HO) : Prop := ∀ x, o ≠ .own x
theorem CellOk.notOwn {K : PySem.W.Frag} {mg : Str → Option Value} {F : Addr → Prop} {c : List Addr} {H : Hp} {a : Addr} {x : Cell} (h : CellOk K mg F c H a x) : ∃ o, H a = some o ∧ NotOwn o := by
  cases x with
  | lst ds => obtain ⟨vs, h, _⟩ := h; exact ⟨_, h, fun x z => by cases z⟩
  | ins n fs => obtain ⟨_, _, _, _, h, _⟩ := h; exact ⟨_, h, fun x z => by cases z⟩
  | slo n ds =>
    obtain ⟨C, dx, vs, _, ⟨_, _, h⟩, _⟩ := h
    exact ⟨_, h, fun x z => by cases z⟩
  | slp n ix ds =>
    obtain ⟨C, dx, vs, _, ⟨_, _, h⟩, _⟩ := h
    exact ⟨_, h, fun x z => by cases z⟩
  | dct kvs => obtain ⟨vk, h, _⟩ := h; exact ⟨_, h, fun x z => by cases z⟩
  | dcT kvs => obtain ⟨_, _, _, vk, _, h, _⟩ := h; exact ⟨_, h, fun x z => by cases z⟩
  | dcN kvs => obtain ⟨_, _, vk, _, h, _⟩ := h; exact ⟨_, h, fun x z => by cases z⟩
  | lcT kvs => obtain ⟨_, _, _, vk, _, _, h, _⟩ := h; exact ⟨_, h, fun x z => by cases z⟩
  | lcN kvs => obtain ⟨_, _, vk, _, _, h, _⟩ := h; exact ⟨_, h, fun x z => by cases z⟩
/-- what is not locked -/
theorem CellOk.notFrz {K : PySem.W.Frag} {mg : Str → Option Value} {F : Addr → Prop} {c : List Addr} {H : Hp} {a : Addr} {x : Cell} (h : CellOk K mg F c H a x) (hx : x.lck = false) : ∀ o u, H a ≠ some (.frz o u) := by
  intro o u z
  cases x with
  | lst ds => obtain ⟨vs, h, _⟩ := h; rw [z] at h; cases h
  | ins n fs => obtain ⟨_, _, _, _, h, _⟩ := h; rw [z] at h; cases h
  | slo n ds =>
    obtain ⟨C, dx, vs, _, ⟨_, _, h⟩, _⟩ := h
    rw [z] at h; cases h
  | slp n ix ds =>
    obtain ⟨C, dx, vs, _, ⟨_, _, h⟩, _⟩ := h
    rw [z] at h; cases h
  | dct kvs => obtain ⟨vk, h, _⟩ := h; rw [z] at h; cases h
  | dcT kvs => obtain ⟨_, _, _, vk, _, h, _⟩ := h; rw [z] at h; cases h
  | dcN kvs => obtain ⟨_, _, vk, _, h, _⟩ := h; rw [z] at h; cases h
  | lcT kvs => cases hx
  | lcN kvs => cases hx
/-- a table of code objects; what it tells is frozen -/
def TabF (F : Addr → Prop) (c : List Addr) (H : Hp) (p : Addr × Str) : Prop := ¬ F p.1 ∧ p.1 ∉ c ∧ ∃ ps : Array Value, H p.1 = some (.tbl ps) ∧ TriplesOk ps.toList ∧ ∀ (pos : Pos) (cv : Value), codeAmong pos ps.toList = some cv → ∃ c', cv = .ref c' ∧ F c' ∧ H c' = some (LamX.CodeO c' p.2)
theorem TabF.stp {F F' : Addr → Prop} {c c' : List Addr} {H H' : Hp} {p : Addr × Str} (t : TabF F c H p) (s : Stp F c H F' c' H') (h5 : ∀ ps, H p.1 = some (.tbl ps) → H' p.1 = some (.tbl ps)) (h6 : ∀ ps, H p.1 = some (.tbl ps) → F' p.1 → F p.1) (h7 : ∀ ps, H p.1 = some (.tbl ps) → p.1 ∈ c' → p.1 ∈ c) : TabF F' c' H' p := by
  obtain ⟨t1, t2, ps, t3, t4, t5⟩ := t
  exact ⟨fun h => t1 (h6 _ t3 h), fun h => t2 (h7 _ t3 h), ps, h5 _ t3, t4, fun pos cv h => by obtain ⟨c', e, f, k⟩ := t5 pos cv h; exact ⟨c', e, s.inc _ f, s.keep _ _ f k⟩⟩
structure RelC (K : PySem.W.Frag) (mg : Str → Option Value) (F : Addr → Prop) (c : List Addr) (st : Sto) (H : Hp) : Prop where
  trk : ∀ a, F a → ∃ o, H a = some o
  len : st.length = c.length
  nd : c.Nodup
  cl : ∀ (n : Nat) (a : Addr) (x : Cell), c[n]? = some a → st[n]? = some x → CellOk K mg F c H a x
  nf : ∀ a ∈ c, ¬ F a
  tab : ∀ p ∈ VEnv.T, TabF F c H p
/-- the cells of a frame that waits; what some of them hold -/
structure GhOk (K : PySem.W.Frag) (mg : Str → Option Value) (F : Addr → Prop) (c : List Addr) (H : Hp) (cells : List (Str × Addr)) (vals : List (Str × D)) : Prop where
  cel : ∀ y a, cells.lookup y = some a → F a ∧ ∃ o v, H a = some (CelO o) ∧ o.data = .cell v
  inj : ∀ x y a, cells.lookup x = some a → cells.lookup y = some a → x = y
  val : ∀ y d, vals.lookup y = some d → ∃ a o u v, cells.lookup y = some a ∧ H a = some (CelO o) ∧ o.data = .cell (some u) ∧ L2.RelV v u ∧ Rp K mg F c H v d
/-- an exception that a suite handles; its attributes hold no cell -/
def XcOk (K : PySem.W.Frag) (mg : Str → Option Value) (F : Addr → Prop) (H : Hp) (xi : XI) (x : Exn) : Prop :=
  mg x.cls = some xi.cls ∧ ((x.fs = [] ∧ xi.d = none) ∨ ∃ d' vfs, xi.d = some d' ∧ F d' ∧ H d' = some (.xd vfs) ∧ vfs.map (·.1) = x.fs.map (·.1) ∧ Rps K mg F [] H (vfs.map (·.2)) (x.fs.map (·.2)))
theorem XcOk.stp {K : PySem.W.Frag} {mg : Str → Option Value} {F F' : Addr → Prop} {c c' : List Addr} {H H' : Hp} {xi : XI} {x : Exn} (h : XcOk K mg F H xi x) (s : Stp F c H F' c' H') : XcOk K mg F' H' xi x :=
  ⟨h.1, h.2.imp id fun ⟨d', vfs, e, f, k, m, r⟩ => ⟨d', vfs, e, s.inc _ f, s.keep _ _ f k, m, r.stp ⟨s.inc, s.keep, ⟨[], rfl⟩, s.own, s.lck⟩⟩⟩
def SlOk (b : Bs) (F : Addr → Prop) (c : List Addr) (H : Hp) (σ : L2.St) (i : Nat) : Sl → Prop
  | .no => True
  | .va d => ∃ v, σ[i]? = some (some v) ∧ Rp b.K b.mg F c H v d
  | .ow d => ∃ a, σ[i]? = some (some (.ref a)) ∧ ¬ F a ∧ a ∉ c ∧ b.H0 a = none ∧ OwnAt b.K b.mg F c H a d
  | .gh cells vals => GhOk b.K b.mg F c H cells vals
  | .xc xi x => σ[i]? = some (some (.ref xi.a)) ∧ XcOk b.K b.mg F H xi x
def OwnA (env : EnvD) (σ : L2.St) (i : Nat) (a : Addr) : Prop := ∃ d, env[i]? = some (.ow d) ∧ σ[i]? = some (some (.ref a))
theorem CellOk.notTbl {K : PySem.W.Frag} {mg : Str → Option Value} {F : Addr → Prop} {c : List Addr} {H : Hp} {a : Addr} {x : Cell} (h : CellOk K mg F c H a x) : ∀ ps, H a ≠ some (.tbl ps) := by
  intro ps z
  cases x with
  | lst ds => obtain ⟨vs, h, _⟩ := h; rw [z] at h; cases h
  | ins n fs => obtain ⟨_, _, _, _, h, _⟩ := h; rw [z] at h; cases h
  | slo n ds =>
    obtain ⟨C, dx, vs, _, ⟨_, _, h⟩, _⟩ := h
    rw [z] at h; cases h
  | slp n ix ds =>
    obtain ⟨C, dx, vs, _, ⟨_, _, h⟩, _⟩ := h
    rw [z] at h; cases h
  | dct kvs => obtain ⟨vk, h, _⟩ := h; rw [z] at h; cases h
  | dcT kvs => obtain ⟨_, _, _, vk, _, h, _⟩ := h; rw [z] at h; cases h
  | dcN kvs => obtain ⟨_, _, vk, _, h, _⟩ := h; rw [z] at h; cases h
  | lcT kvs => obtain ⟨_, _, _, vk, _, _, h, _⟩ := h; rw [z] at h; cases h
  | lcN kvs => obtain ⟨_, _, vk, _, _, h, _⟩ := h; rw [z] at h; cases h
structure Rel (b : Bs) (F : Addr → Prop) (c : List Addr) (env : EnvD) (st : Sto) (σ : L2.St) (H : Hp) : Prop where
  rc : RelC b.K b.mg F c st H
  len : env.length = σ.length
  sl : ∀ (i : Nat) (s : Sl), env[i]? = some s → SlOk b F c H σ i s
  ds : ∀ i j a, OwnA env σ i a → OwnA env σ j a → i = j
  old : ∀ a o, b.H0 a = some o → a ∉ c → Kept H a o
  new : ∀ a, F a → b.F0 a ∨ b.H0 a = none
  nwc : ∀ a ∈ c, a ∈ b.c0 ∨ b.H0 a = none
  f0 : ∀ a, b.F0 a → ∃ o, b.H0 a = some o
  k0 : ∀ a ∈ b.c0, ∃ o, b.H0 a = some o
end
section
variable [VEnv]
variable {K : PySem.W.Frag} {mg : Str → Option Value} {b : Bs} {F F' F2 : Addr → Prop} {c c' c2 : List Addr} {H H' H2 : Hp} {env : EnvD} {st : Sto} {σ : L2.St}
theorem RelC.ctrk (r : RelC K mg F c st H) {a : Addr} (h : a ∈ c) : ∃ o, H a = some o := by
  obtain ⟨n, hn⟩ := List.getElem?_of_mem h
  have hl : n < st.length := by rw [r.len]; exact (List.getElem?_eq_some_iff.mp hn).1
  have hc := r.cl n a _ hn (List.getElem?_eq_getElem hl)
  obtain ⟨o, h, _⟩ := hc.notOwn
  exact ⟨o, h⟩
/-- a slotted instance's cell, where neither it nor its dict changed -/
theorem slAt_keep {a C dx : Addr} {vs : List (Option V)} (h : SlAt H a C dx vs) (h1 : H' a = H a) (h2 : ∀ d o u, H d = some (.frz o u) → H' d = some (.frz o u)) : SlAt H' a C dx vs := ⟨h2 _ _ _ h.1, h.2.1, by rw [h1]; exact h.2.2⟩
theorem Rel.own (r : Rel b F c env st σ H) {i : Nat} {a : Addr} (h : OwnA env σ i a) : ¬ F a ∧ a ∉ c ∧ b.H0 a = none ∧ ∃ o, H a = some o := by
  obtain ⟨d, he, hs⟩ := h
  obtain ⟨a', e', h1, h2, h3, h4⟩ := r.sl i _ he
  rw [hs] at e'; cases e'
  refine ⟨h1, h2, h3, ?_⟩
  cases d with
  | lst ds => obtain ⟨vs, h, _⟩ := h4; exact ⟨_, h⟩
  | _ => exact h4.elim
/-- an exception's form -/
def RpX (K : PySem.W.Frag) (mg : Str → Option Value) (F : Addr → Prop) (c : List Addr) (H : Hp) (cls : Value) (d : Option Addr) (x : Exn) : Prop :=
  mg x.cls = some cls ∧ ((x.fs = [] ∧ d = none) ∨ ∃ d' vfs, d = some d' ∧ F d' ∧ H d' = some (.xd vfs) ∧ vfs.map (·.1) = x.fs.map (·.1) ∧ Rps K mg F c H (vfs.map (·.2)) (x.fs.map (·.2)))

/-- what is wanted behind a run that gives r -/
def Post {α : Type} (b : Bs) (W : WX) (F : Addr → Prop) (c : List Addr) (σ : L2.St) (H : Hp) (P : α → EnvD → Sto → (Addr → Prop) → List Addr → Hp → Prop) : R α → Prop
  | .ok x env st => ∀ F' c' H', Stp F c H F' c' H' → Rel b F' c' env st σ H' → P x env st F' c' H'
  | .ex x env st => ∀ F' c' H' cls d, Stp F c H F' c' H' → Rel b F' c' env st σ H' → RpX b.K b.mg F' c' H' cls d x → W cls d σ H'
  | .bad => False
theorem Post.mono {α : Type} {W : WX} {P P' : α → EnvD → Sto → (Addr → Prop) → List Addr → Hp → Prop} {r : R α} (h : Post b W F c σ H P r)
    (k : ∀ x env st F' c' H', Stp F c H F' c' H' → Rel b F' c' env st σ H' → P x env st F' c' H' → P' x env st F' c' H') : Post b W F c σ H P' r := by
  cases r with
  | ok x env st => exact fun F' c' H' s r => k _ _ _ _ _ _ s r (h F' c' H' s r)
  | ex x env st => exact h
  | bad => exact h
theorem Post.stp {α : Type} {W : WX} {P : α → EnvD → Sto → (Addr → Prop) → List Addr → Hp → Prop} {r : R α} (s : Stp F c H F' c' H') (h : Post b W F c σ H P r) : Post b W F' c' σ H' P r := by
  cases r with
  | ok x env st => exact fun F2 c2 H2 t r => h F2 c2 H2 (s.trans t) r
  | ex x env st => exact fun F2 c2 H2 cls d t r => h F2 c2 H2 cls d (s.trans t) r
  | bad => exact h
theorem Post.bind {α β : Type} {W : WX} {P : β → EnvD → Sto → (Addr → Prop) → List Addr → Hp → Prop} {r : R α} {k : α → M β} (h : Post b W F c σ H P (r.bind k)) :
    Post b W F c σ H (fun x env st F1 c1 H1 => Post b W F1 c1 σ H1 P (k x env st)) r := by
  cases r with
  | ok x env st => exact fun F' c' H' s r => Post.stp s h
  | ex x env st => exact h
  | bad => exact h
/-- at once -/
theorem Post.here {α : Type} {W : WX} {P : α → EnvD → Sto → (Addr → Prop) → List Addr → Hp → Prop} {x : α} (r : Rel b F c env st σ H) (h : Post b W F c σ H P (.ok x env st)) : P x env st F c H := h F c H .refl r
end
section
variable [VEnv]
variable {X : Cx} {W : WX}
/-- the state that the data tell -/
def At (X : Cx) (W : WX) {α : Type} (f : M α) (σ : L2.St) (H : Hp) (P : Bs → α → EnvD → Sto → (Addr → Prop) → List Addr → Hp → Prop) : Prop :=
  ∃ b F c env st, b.K = X.K ∧ b.mg = X.mg ∧ Rel b F c env st σ H ∧ Post b W F c σ H (P b) (f env st)
def tE (X : Cx) (W : WX) (f : M D) : TE := fun σ H Q => At X W f σ H fun b d _ _ F c H' => ∀ v, Rp b.K b.mg F c H' v d → Q v H'
def tT (X : Cx) (W : WX) (f : M Bool) : TT := fun σ H Q => At X W f σ H fun _ t _ _ _ _ H' => Q t H'
def tA (X : Cx) (W : WX) (f : M (List D)) : TA := fun σ H Q => At X W f σ H fun b ds _ _ F c H' => ∀ vs, Rps b.K b.mg F c H' vs ds → Q vs H'
/-- the value is new and held by none -/
def tF (X : Cx) (W : WX) (f : M D) : TE := fun σ H Q => At X W f σ H fun b d env _ F c H' => ∀ a, ¬ F a → a ∉ c → b.H0 a = none → (∀ i, ¬ OwnA env σ i a) → OwnAt b.K b.mg F c H' a d → Q (.ref a) H'
@[reducible] def VE (X : Cx) (W : WX) (e : Expr) (f : M D) : Prop := PE X e (tE X W f)
@[reducible] def VF (X : Cx) (W : WX) (e : Expr) (f : M D) : Prop := PE X e (tF X W f)
@[reducible] def VT (X : Cx) (W : WX) (e : Expr) (f : M Bool) : Prop := PT X e (tT X W f)
@[reducible] def VA (X : Cx) (W : WX) (es : List Expr) (f : M (List D)) : Prop := PA X es (tA X W f)
end
end VE
namespace VE
open PySem PySem.Spec PyProof.Rows L2
variable [VEnv]
section
variable {X : Cx} {W : WX} {b : Bs} {F : Addr → Prop} {c : List Addr} {env : EnvD} {st : Sto} {σ : L2.St} {H : Hp}
theorem PEof {e : Expr} {t t' : TE} (h : PE X e t) (k : ∀ σ H Q, t' σ H Q → t σ H Q) : PE X e t' := ⟨fun pins s σ H Q I q => h.run pins s σ H Q I (k σ H Q q)⟩
theorem PTof {e : Expr} {t t' : TT} (h : PT X e t) (k : ∀ σ H Q, t' σ H Q → t σ H Q) : PT X e t' := ⟨fun pins s σ H Q I q => h.run pins s σ H Q I (k σ H Q q)⟩
theorem PWof {e : Expr} {t t' : TT} (h : PW X e t) (k : ∀ σ H Q, t' σ H Q → t σ H Q) : PW X e t' := ⟨fun wh pins s σ H Q I q => h.run wh pins s σ H Q I (k σ H Q q)⟩
theorem PAof {e : List Expr} {t t' : TA} (h : PA X e t) (k : ∀ σ H Q, t' σ H Q → t σ H Q) : PA X e t' := ⟨fun pos pins s σ H Q I q => h.run pos pins s σ H Q I (k σ H Q q)⟩
theorem PSof {e : Stmt} {t t' : TS} (h : PS X e t) (k : ∀ D σ H, t' D σ H → t D σ H) : PS X e t' := ⟨fun pins s σ H D I q => h.run pins s σ H D I (k D σ H q)⟩
theorem PSsof {e : List Stmt} {t t' : TS} (h : PSs X e t) (k : ∀ D σ H, t' D σ H → t D σ H) : PSs X e t' := ⟨fun pins s σ H D I q => h.run pins s σ H D I (k D σ H q)⟩

section
variable {α β : Type} {P : β → EnvD → Sto → (Addr → Prop) → List Addr → Hp → Prop}
theorem tE_at {f : M D} {k : D → M β} {Q : VK} (e1 : b.K = X.K) (e2 : b.mg = X.mg) (r : Rel b F c env st σ H) (p : Post b W F c σ H P ((f env st).bind k))
    (hq : ∀ v d env' st' F' c' H', Stp F c H F' c' H' → Rel b F' c' env' st' σ H' → Rp b.K b.mg F' c' H' v d → Post b W F' c' σ H' P (k d env' st') → Q v H') : tE X W f σ H Q :=
  ⟨b, F, c, env, st, e1, e2, r, (Post.bind p).mono fun d env' st' F' c' H' s r' q v rp => hq v d env' st' F' c' H' s r' rp q⟩
theorem tT_at {f : M Bool} {k : Bool → M β} {Q : Bool → Hp → Prop} (e1 : b.K = X.K) (e2 : b.mg = X.mg) (r : Rel b F c env st σ H) (p : Post b W F c σ H P ((f env st).bind k))
    (hq : ∀ t env' st' F' c' H', Stp F c H F' c' H' → Rel b F' c' env' st' σ H' → Post b W F' c' σ H' P (k t env' st') → Q t H') : tT X W f σ H Q :=
  ⟨b, F, c, env, st, e1, e2, r, (Post.bind p).mono fun t env' st' F' c' H' s r' q => hq t env' st' F' c' H' s r' q⟩
theorem tA_at {f : M (List D)} {k : List D → M β} {Q : List V → Hp → Prop} (e1 : b.K = X.K) (e2 : b.mg = X.mg) (r : Rel b F c env st σ H) (p : Post b W F c σ H P ((f env st).bind k))
    (hq : ∀ vs ds env' st' F' c' H', Stp F c H F' c' H' → Rel b F' c' env' st' σ H' → Rps b.K b.mg F' c' H' vs ds → Post b W F' c' σ H' P (k ds env' st') → Q vs H') : tA X W f σ H Q :=
  ⟨b, F, c, env, st, e1, e2, r, (Post.bind p).mono fun ds env' st' F' c' H' s r' q v rp => hq v ds env' st' F' c' H' s r' rp q⟩
end
@[reducible] def FAdd (F : Addr → Prop) (p : Addr) : Addr → Prop := fun a => F a ∨ a = p
theorem RelC.stp {K : PySem.W.Frag} {mg : Str → Option Value} {F' : Addr → Prop} {H' : Hp} (r : RelC K mg F c st H) (s : Stp F c H F' c H') (h1 : ∀ a, F' a → ∃ o, H' a = some o) (h2 : ∀ a ∈ c, H' a = H a) (h3 : ∀ a ∈ c, ¬ F' a) (h4 : ∀ d x, H d = some (.own x) → H' d = some (.own x))
    (h5 : ∀ d ps, H d = some (.tbl ps) → H' d = some (.tbl ps)) (h6 : ∀ d ps, H d = some (.tbl ps) → F' d → F d) : RelC K mg F' c st H' := by
  refine ⟨h1, r.len, r.nd, fun n a x hn hx => ?_, h3, fun p hp => ?_⟩
  rotate_left
  · obtain ⟨t1, t2, ps, t3, t4, t5⟩ := r.tab p hp
    exact ⟨fun h => t1 (h6 _ _ t3 h), t2, ps, h5 _ _ t3, t4, fun pos cv h => by obtain ⟨c', e, f, k⟩ := t5 pos cv h; exact ⟨c', e, s.inc _ f, s.keep _ _ f k⟩⟩
  have hm : a ∈ c := List.mem_of_getElem? hn
  have q := r.cl n a x hn hx
  cases x with
  | lst ds => obtain ⟨vs, e, p⟩ := q; exact ⟨vs, by rw [h2 a hm]; exact e, p.stp s⟩
  | ins m fs => obtain ⟨C, dx, vfs, e1, e2, e3, p⟩ := q; exact ⟨C, dx, vfs, e1, by rw [h2 a hm]; exact e2, e3, p.stp s⟩
  | slo m ds => obtain ⟨C, dx, vs, e1, e2, p⟩ := q; exact ⟨C, dx, vs, e1, slAt_keep e2 (h2 a hm) s.lck, p.stp s⟩
  | slp m ix ds => obtain ⟨C, dx, vs, e1, e2, p⟩ := q; exact ⟨C, dx, vs, e1, slAt_keep e2 (h2 a hm) s.lck, p.stp s⟩
  | dct kvs => obtain ⟨vk, e, e2, p⟩ := q; exact ⟨vk, by rw [h2 a hm]; exact e, e2, p.stp s⟩
  | dcT kvs => obtain ⟨P, w, xs, vs, e0, e, e2, p, pk⟩ := q; exact ⟨P, w, xs, vs, e0, by rw [h2 a hm]; exact e, e2, p.stp s, fun x hx => (pk x hx).stp s⟩
  | dcN kvs => obtain ⟨P, w, vk, e0, e, e2, p⟩ := q; exact ⟨P, w, vk, e0, by rw [h2 a hm]; exact e, e2, p.stp s⟩
  | lcT kvs => obtain ⟨P, w, xs, vs, od, e0, e, e2, p, pk⟩ := q; exact ⟨P, w, xs, vs, od, e0, by rw [h2 a hm]; exact e, e2, p.stp s, fun x hx => (pk x hx).stp s⟩
  | lcN kvs => obtain ⟨P, w, vk, od, e0, e, e2, p⟩ := q; exact ⟨P, w, vk, od, e0, by rw [h2 a hm]; exact e, e2, p.stp s⟩
theorem OwnAt.stp {K : PySem.W.Frag} {mg : Str → Option Value} {F' : Addr → Prop} {c' : List Addr} {H' : Hp} {a : Addr} {d : D} (s : Stp F c H F' c' H') (h : H' a = H a) (o : OwnAt K mg F c H a d) : OwnAt K mg F' c' H' a d := by
  cases d with
  | lst ds => obtain ⟨vs, e, p⟩ := o; exact ⟨vs, by rw [h]; exact e, p.stp s⟩
  | _ => exact o.elim
theorem GhOk.stp {K : PySem.W.Frag} {mg : Str → Option Value} {F' : Addr → Prop} {c' : List Addr} {H' : Hp} {cells : List (Str × Addr)} {vals : List (Str × D)} (g : GhOk K mg F c H cells vals) (s : Stp F c H F' c' H') : GhOk K mg F' c' H' cells vals :=
  ⟨fun y a e => by obtain ⟨f, o, v, h, k⟩ := g.cel y a e; exact ⟨s.inc _ f, o, v, s.keep _ _ f h, k⟩, g.inj, fun y d e => by
    obtain ⟨a, o, u, v, h1, h2, h3, h4, h5⟩ := g.val y d e
    exact ⟨a, o, u, v, h1, s.keep _ _ (g.cel y a h1).1 h2, h3, h4, h5.stp s⟩⟩
theorem Rel.H0none (r : Rel b F c env st σ H) {p : Addr} (hp : H p = none) : b.H0 p = none := by
  cases e : b.H0 p with
  | none => rfl
  | some o =>
    by_cases hc : p ∈ c
    · obtain ⟨o', e'⟩ := r.rc.ctrk hc
      rw [hp] at e'; cases e'
    · obtain ⟨o', q⟩ := (r.old p o e hc).there
      rw [hp] at q; cases q
/-- heap and frozen set grow; the slots, the changeable objects stay -/
theorem Rel.grow {F' : Addr → Prop} {H' : Hp} (r : Rel b F c env st σ H) (s : Stp F c H F' c H') (hk : ∀ a o, H a = some o → H' a = some o) (h1 : ∀ a, F' a → ∃ o, H' a = some o) (h2 : ∀ a, F' a → F a ∨ (b.H0 a = none ∧ a ∉ c ∧ (∀ i, ¬ OwnA env σ i a) ∧ ∀ ps, H a ≠ some (.tbl ps))) : Rel b F' c env st σ H' := by
  have hcs : ∀ a ∈ c, H' a = H a := fun a ha => by
    obtain ⟨o, e⟩ := r.rc.ctrk ha
    rw [e]; exact hk a o e
  refine ⟨r.rc.stp s h1 hcs (fun a ha hf => ?_) (fun d x e => hk d _ e) (fun d x e => hk d _ e) (fun d ps e hf => (h2 d hf).elim id fun z => absurd e (z.2.2.2 ps)), r.len, fun i sl he => ?_, r.ds, fun a o e hc => (r.old a o e hc).up fun o h => .inl (hk a o h), fun a hf => ?_, r.nwc, r.f0, r.k0⟩
  · rcases h2 a hf with h | h
    · exact r.rc.nf a ha h
    · exact h.2.1 ha
  · have q := r.sl i sl he
    cases sl with
    | no => trivial
    | va d => obtain ⟨v, e, p⟩ := q; exact ⟨v, e, p.stp s⟩
    | gh cells vals => exact GhOk.stp q s
    | xc xi x => exact ⟨q.1, q.2.stp s⟩
    | ow d =>
      obtain ⟨a, e, p1, p2, p3, p4⟩ := q
      refine ⟨a, e, fun hf => ?_, p2, p3, p4.stp s ?_⟩
      · rcases h2 a hf with h | h
        · exact p1 h
        · exact h.2.2.1 i ⟨d, he, e⟩
      · obtain ⟨_, _, _, o, e⟩ := r.own (i := i) ⟨d, he, e⟩
        rw [e]; exact hk a o e
  · rcases h2 a hf with h | h
    · exact r.new a h
    · exact .inr h.1
theorem own_new {H : Hp} {p : Addr} (hp : H p = none) {o : HO} : ∀ d x, H d = some (.own x) → upd H p o d = some (.own x) := fun d x e => by rw [upd_ne (ne_of_none e hp)]; exact e
theorem lck_new {H : Hp} {p : Addr} (hp : H p = none) {o : HO} : ∀ d y u, H d = some (.frz y u) → upd H p o d = some (.frz y u) := fun d y u e => by rw [upd_ne (ne_of_none e hp)]; exact e
theorem lck_upd {H : Hp} {p : Addr} (no : ∀ y u, H p ≠ some (.frz y u)) {o : HO} : ∀ d y u, H d = some (.frz y u) → upd H p o d = some (.frz y u) := fun d y u e => by rw [upd_ne (fun z : d = p => no y u (z ▸ e))]; exact e
theorem own_upd {H : Hp} {p : Addr} (no : ∀ x, H p ≠ some (.own x)) {o : HO} : ∀ d x, H d = some (.own x) → upd H p o d = some (.own x) := fun d x e => by rw [upd_ne (fun z : d = p => no x (z ▸ e))]; exact e
theorem stp_add {p : Addr} (hp : ¬ F p) (hn : H p = none) {o : HO} : Stp F c H (FAdd F p) c (upd H p o) := ⟨fun _ h => .inl h, fun a o f h => by
  rw [upd_ne (fun e : a = p => hp (e ▸ f))]; exact h, ⟨[], (List.append_nil c).symm⟩, own_new hn, lck_new hn⟩
theorem Rel.nF (r : Rel b F c env st σ H) {p : Addr} (hp : H p = none) : ¬ F p := fun hf => by
  obtain ⟨o, e⟩ := r.rc.trk p hf
  rw [hp] at e; cases e
theorem Rel.nO (r : Rel b F c env st σ H) {p : Addr} (hp : H p = none) (i : Nat) : ¬ OwnA env σ i p := fun hf => by
  obtain ⟨_, _, _, o, e⟩ := r.own hf
  rw [hp] at e; cases e
theorem Rel.nC (r : Rel b F c env st σ H) {p : Addr} (hp : H p = none) : p ∉ c := fun hf => by
  obtain ⟨o, e⟩ := r.rc.ctrk hf
  rw [hp] at e; cases e
/-- a new object, frozen at once -/
theorem Rel.newF (r : Rel b F c env st σ H) {p : Addr} (hp : H p = none) (o : HO) : Stp F c H (FAdd F p) c (upd H p o) ∧ Rel b (FAdd F p) c env st σ (upd H p o) := by
  have s : Stp F c H (FAdd F p) c (upd H p o) := stp_add (r.nF hp) hp
  refine ⟨s, r.grow s (fun a x e => ?_) (fun a hf => ?_) (fun a hf => ?_)⟩
  · rw [upd_ne (ne_of_none e hp)]; exact e
  · rcases hf with hf | rfl
    · obtain ⟨x, e⟩ := r.rc.trk a hf
      exact ⟨x, s.keep a x hf e⟩
    · exact ⟨o, upd_same⟩
  · rcases hf with hf | rfl
    · exact .inl hf
    · exact .inr ⟨r.H0none hp, r.nC hp, r.nO hp, fun ps e => by rw [hp] at e; cases e⟩
/-- a new object, not frozen -/
theorem Rel.newO (r : Rel b F c env st σ H) {p : Addr} (hp : H p = none) (o : HO) : Stp F c H F c (upd H p o) ∧ Rel b F c env st σ (upd H p o) := by
  have hk : ∀ a x, H a = some x → upd H p o a = some x := fun a x e => by rw [upd_ne (ne_of_none e hp)]; exact e
  have s : Stp F c H F c (upd H p o) := ⟨fun _ h => h, fun a x _ e => hk a x e, ⟨[], (List.append_nil c).symm⟩, own_new hp, lck_new hp⟩
  exact ⟨s, r.grow s hk (fun a hf => by obtain ⟨x, e⟩ := r.rc.trk a hf; exact ⟨x, hk a x e⟩) fun a hf => .inl hf⟩
/-- what none holds is frozen -/
theorem Rel.frz (r : Rel b F c env st σ H) {a : Addr} (h2 : a ∉ c) (h3 : b.H0 a = none) (h4 : ∀ i, ¬ OwnA env σ i a) (h5 : ∃ o, H a = some o) (h6 : ∀ ps, H a ≠ some (.tbl ps)) : Stp F c H (FAdd F a) c H ∧ Rel b (FAdd F a) c env st σ H := by
  have s : Stp F c H (FAdd F a) c H := ⟨fun _ h => .inl h, fun _ _ _ h => h, ⟨[], (List.append_nil c).symm⟩, fun _ _ h => h, fun _ _ _ h => h⟩
  refine ⟨s, r.grow s (fun _ _ e => e) (fun x hf => ?_) fun x hf => ?_⟩
  · rcases hf with hf | rfl
    · exact r.rc.trk x hf
    · exact h5
  · rcases hf with hf | rfl
    · exact .inl hf
    · exact .inr ⟨h3, h2, h4, h6⟩
theorem OwnAt.rp {K : PySem.W.Frag} {mg : Str → Option Value} {a : Addr} {d : D} (o : OwnAt K mg F c H a d) : Rp K mg (FAdd F a) c H (.ref a) d := by
  cases d with
  | lst ds =>
    obtain ⟨vs, e, p⟩ := o
    have s : Stp F c H (FAdd F a) c H := ⟨fun _ h => .inl h, fun _ _ _ h => h, ⟨[], (List.append_nil c).symm⟩, fun _ _ h => h, fun _ _ _ h => h⟩
    exact .lst (.inr rfl) e (p.stp s)
  | _ => exact o.elim
theorem OwnAt.trk {K : PySem.W.Frag} {mg : Str → Option Value} {a : Addr} {d : D} (o : OwnAt K mg F c H a d) : ∃ x, H a = some x := by
  cases d with
  | lst ds => obtain ⟨vs, e, p⟩ := o; exact ⟨_, e⟩
  | _ => exact o.elim
theorem OwnAt.ntbl {K : PySem.W.Frag} {mg : Str → Option Value} {a : Addr} {d : D} (o : OwnAt K mg F c H a d) : ∀ ps, H a ≠ some (.tbl ps) := by
  cases d with
  | lst ds => obtain ⟨vs, e, p⟩ := o; intro ps z; rw [e] at z; cases z
  | _ => exact o.elim
/-- a fresh value is a value -/
theorem VF.ve {e : Expr} {f : M D} (h : VF X W e f) : VE X W e f := PEof h fun σ H Q ⟨b, F, c, env, st, e1, e2, r, p⟩ => ⟨b, F, c, env, st, e1, e2, r, by
  generalize f env st = y at p
  cases y with
  | ok d env' st' =>
    intro F' c' H' s r' a h1 h2 h3 h4 h5
    obtain ⟨s2, r2⟩ := r'.frz h2 h3 h4 h5.trk h5.ntbl
    exact p _ c' H' (s.trans s2) r2 _ h5.rp
  | ex x env' st' => exact p
  | bad => exact p⟩

theorem ownA_set {i j : Nat} {x : Sl} {a : Addr} (h : OwnA (env.set i x) σ j a) (hx : ∀ d, x ≠ .ow d) : OwnA env σ j a := by
  obtain ⟨d, e, e'⟩ := h
  by_cases q : i = j
  · subst q
    by_cases hl : i < env.length
    · rw [List.getElem?_set_self hl] at e; cases e; exact absurd rfl (hx d)
    · rw [List.getElem?_eq_none (by simpa using hl)] at e; cases e
  · rw [List.getElem?_set_ne q] at e; exact ⟨d, e, e'⟩
/-- a slot is forgotten -/
theorem Rel.forget (r : Rel b F c env st σ H) (i : Nat) : Rel b F c (env.set i .no) st σ H := by
  refine ⟨r.rc, by rw [List.length_set]; exact r.len, fun j s e => ?_, fun j k a h h' => r.ds j k a (ownA_set h fun _ => nofun) (ownA_set h' fun _ => nofun), r.old, r.new, r.nwc, r.f0, r.k0⟩
  by_cases q : i = j
  · subst q
    by_cases hl : i < env.length
    · rw [List.getElem?_set_self hl] at e; cases e; trivial
    · rw [List.getElem?_eq_none (by simpa using hl)] at e; cases e
  · rw [List.getElem?_set_ne q] at e; exact r.sl j s e
/-- a name's value is stored -/
theorem Rel.put (r : Rel b F c env st σ H) {i : Nat} {v : V} {d : D} (h : Rp b.K b.mg F c H v d) : Rel b F c (env.set i (.va d)) st (σ.set i (some v)) H := by
  have own : ∀ {j a}, OwnA (env.set i (.va d)) (σ.set i (some v)) j a → OwnA env σ j a := fun {j a} h => by
    obtain ⟨d', e, e'⟩ := h
    by_cases q : i = j
    · subst q
      by_cases hl : i < env.length
      · rw [List.getElem?_set_self hl] at e; cases e
      · rw [List.getElem?_eq_none (by simpa using hl)] at e; cases e
    · rw [List.getElem?_set_ne q] at e e'; exact ⟨d', e, e'⟩
  refine ⟨r.rc, by rw [List.length_set, List.length_set]; exact r.len, fun j s e => ?_, fun j k a h h' => r.ds j k a (own h) (own h'), r.old, r.new, r.nwc, r.f0, r.k0⟩
  by_cases q : i = j
  · subst q
    by_cases hl : i < env.length
    · rw [List.getElem?_set_self hl] at e; cases e
      exact ⟨v, List.getElem?_set_self (by rw [← r.len]; exact hl), h⟩
    · rw [List.getElem?_eq_none (by simpa using hl)] at e; cases e
  · rw [List.getElem?_set_ne q] at e
    have z := r.sl j s e
    cases s with
    | no => trivial
    | va d' => obtain ⟨v', e', p⟩ := z; exact ⟨v', by rw [List.getElem?_set_ne q]; exact e', p⟩
    | ow d' => obtain ⟨a, e', p⟩ := z; exact ⟨a, by rw [List.getElem?_set_ne q]; exact e', p⟩
    | gh cells vals => exact z
    | xc xi x => exact ⟨by rw [List.getElem?_set_ne q]; exact z.1, z.2⟩
/-- a name takes what none holds -/
theorem Rel.take (r : Rel b F c env st σ H) {i : Nat} {a : Addr} {d : D} (h1 : ¬ F a) (h2 : a ∉ c) (h3 : b.H0 a = none) (h4 : ∀ i, ¬ OwnA env σ i a) (h5 : OwnAt b.K b.mg F c H a d) : Rel b F c (env.set i (.ow d)) st (σ.set i (some (.ref a))) H := by
  have own : ∀ {j a'}, OwnA (env.set i (.ow d)) (σ.set i (some (.ref a))) j a' → (j = i ∧ a' = a) ∨ OwnA env σ j a' := fun {j a'} h => by
    obtain ⟨d', e, e'⟩ := h
    by_cases q : i = j
    · subst q
      by_cases hl : i < σ.length
      · rw [List.getElem?_set_self hl] at e'; cases e'; exact .inl ⟨rfl, rfl⟩
      · rw [List.getElem?_eq_none (by simpa using hl)] at e'; cases e'
    · rw [List.getElem?_set_ne q] at e e'; exact .inr ⟨d', e, e'⟩
  refine ⟨r.rc, by rw [List.length_set, List.length_set]; exact r.len, fun j s e => ?_, fun j k a' h h' => ?_, r.old, r.new, r.nwc, r.f0, r.k0⟩
  · by_cases q : i = j
    · subst q
      by_cases hl : i < env.length
      · rw [List.getElem?_set_self hl] at e; cases e
        exact ⟨a, List.getElem?_set_self (by rw [← r.len]; exact hl), h1, h2, h3, h5⟩
      · rw [List.getElem?_eq_none (by simpa using hl)] at e; cases e
    · rw [List.getElem?_set_ne q] at e
      have z := r.sl j s e
      cases s with
      | no => trivial
      | va d' => obtain ⟨v', e', p⟩ := z; exact ⟨v', by rw [List.getElem?_set_ne q]; exact e', p⟩
      | ow d' => obtain ⟨a', e', p⟩ := z; exact ⟨a', by rw [List.getElem?_set_ne q]; exact e', p⟩
      | gh cells vals => exact z
      | xc xi x => exact ⟨by rw [List.getElem?_set_ne q]; exact z.1, z.2⟩
  · rcases own h with ⟨rfl, rfl⟩ | g <;> rcases own h' with ⟨e1, e2⟩ | g'
    · exact e1.symm
    · exact absurd g' (h4 k)
    · subst e1 e2; exact absurd g (h4 j)
    · exact r.ds j k a' g g'
/-- what a slot alone held is frozen: the slot keeps it as a value -/
theorem Rel.freeze (r : Rel b F c env st σ H) {i : Nat} {d : D} (e : env[i]? = some (.ow d)) : ∃ a, σ[i]? = some (some (.ref a)) ∧ Stp F c H (FAdd F a) c H ∧ Rel b (FAdd F a) c (env.set i (.va d)) st σ H ∧ Rp b.K b.mg (FAdd F a) c H (.ref a) d := by
  obtain ⟨a, e', h1, h2, h3, h5⟩ := r.sl i _ e
  have hσ : i < σ.length := (List.getElem?_eq_some_iff.mp e').1
  have r1 := r.forget i
  have no : ∀ j, ¬ OwnA (env.set i .no) σ j a := fun j h => by
    have g := ownA_set h fun _ => nofun
    have ej : j = i := r.ds j i a g ⟨d, e, e'⟩
    subst ej
    obtain ⟨d', e2, _⟩ := h
    rw [List.getElem?_set_self (by rw [r.len]; exact hσ)] at e2; cases e2
  obtain ⟨s, r2⟩ := r1.frz h2 h3 no h5.trk h5.ntbl
  have rp := h5.rp
  have r3 := r2.put (i := i) rp
  have es : σ.set i (some (.ref a)) = σ := by
    apply List.ext_getElem?
    intro j
    by_cases q : i = j
    · subst q; rw [List.getElem?_set_self hσ, e']
    · rw [List.getElem?_set_ne q]
  rw [es, List.set_set] at r3
  exact ⟨a, e', s, r3, rp⟩

def eVar (i : Nat) : M D := fun env st => match env[i]? with
  | some (.va d) => .ok d env st
  | some (.ow d) => .ok d (env.set i (.va d)) st
  | _ => .bad
def eC (d : D) : M D := fun env st => .ok d env st
theorem ve_name (i : Nat) {x : Str} {pos : Pos} (hN : X.N[i]? = some x := by rfl) (hv : Vis X.env.scope x := by first | exact Or.inl rfl | exact Or.inr (Or.inl rfl) | exact Or.inr (Or.inr rfl)) (hd : (x == ("__debug__" : Str)) = false := by decide)
    (hcd : (x == ("__classdict__" : Str)) = false := by decide) : VE X W (.Name x pos) (eVar i) := PEof (pe_var hN hv hd hcd) fun σ H Q ⟨b, F, c, env, st, e1, e2, r, p⟩ => by
  unfold eVar at p
  split at p
  · rename_i d e
    obtain ⟨v, ev, rp⟩ := r.sl i _ e
    exact ⟨v, ev, Post.here r p v rp⟩
  · rename_i d e
    obtain ⟨a, ea, s, r2, rp⟩ := r.freeze e
    exact ⟨_, ea, p _ c H s r2 _ rp⟩
  · exact p.elim
theorem ve_c {e : Expr} {v : V} {d : D} (h : PE X e (tC v)) (k : ∀ F c H, Rp X.K X.mg F c H v d) : VE X W e (eC d) := PEof h fun σ H Q ⟨b, F, c, env, st, e1, e2, r, p⟩ => Post.here r p v (by rw [e1, e2]; exact k F c H)
theorem ve_int {i : Int} {j : Nat} {pos : Pos} : VE X W (.Constant (.int i) j pos) (eC (.int i)) := ve_c pe_int fun _ _ _ => .int i
theorem ve_bl {i : Bool} {j : Nat} {pos : Pos} : VE X W (.Constant (.bool i) j pos) (eC (.bl i)) := ve_c pe_bl fun _ _ _ => .bl i
theorem ve_non {j : Nat} {pos : Pos} : VE X W (.Constant .none j pos) (eC .non) := ve_c pe_non fun _ _ _ => .non
theorem ve_str {i : Str} {j : Nat} {pos : Pos} : VE X W (.Constant (.str i) j pos) (eC (.str i)) := ve_c pe_str fun _ _ _ => .str i
end
end VE
namespace VE
open PySem PySem.Spec PyProof.Rows L2
variable [VEnv]
mutual
def toPy : D → PyData
  | .non => .none
  | .bl b => .bool b
  | .int i => .int i
  | .str x => .str x
  | .lst xs => .list (toPys xs)
  | .tup xs => .tuple (toPys xs)
  | _ => .none
def toPys : List D → List PyData
  | [] => []
  | x :: xs => toPy x :: toPys xs
end
mutual
/-- data of none, bools, ints, texts, lists, tuples, at most n deep -/
def plain : Nat → D → Bool
  | _, .non => true
  | _, .bl _ => true
  | _, .int _ => true
  | _, .str x => PyData.strOk x
  | n + 1, .lst xs => plains n xs
  | n + 1, .tup xs => plains n xs
  | _, _ => false
def plains : Nat → List D → Bool
  | _, [] => true
  | n, x :: xs => plain n x && plains n xs
end
/-- equality, as == has it -/
def eqD (x y : D) : Bool := PyData.eqv (toPy x) (toPy y)
def eqDs (x y : List D) : Bool := PyData.eqvAll (toPys x) (toPys y)
mutual
theorem canLay_of : ∀ (n : Nat) (d : D), plain n d = true → PyData.canLay0 (toPy d) = true
  | _, .non, _ => by simp only [toPy, PyData.canLay0]
  | _, .bl _, _ => by simp only [toPy, PyData.canLay0]
  | _, .int _, _ => by simp only [toPy, PyData.canLay0]
  | _, .str x, h => by simpa [toPy, PyData.canLay0, plain] using h
  | n + 1, .lst xs, h => by simp only [toPy, PyData.canLay0]; exact canLays_of n xs (by simpa [plain] using h)
  | n + 1, .tup xs, h => by simp only [toPy, PyData.canLay0]; exact canLays_of n xs (by simpa [plain] using h)
  | 0, .lst xs, h => by simp [plain] at h
  | 0, .tup xs, h => by simp [plain] at h
  | 0, .scr xs, h => by simp [plain] at h
  | 0, .ino _ _ xs, h => by simp [plain] at h
  | 0, .obj _ xs, h => by simp [plain] at h
  | 0, .ref xs, h => by simp [plain] at h
  | 0, .fn xs, h => by simp [plain] at h
  | _ + 1, .scr xs, h => by simp [plain] at h
  | _ + 1, .ino _ _ xs, h => by simp [plain] at h
  | _ + 1, .obj _ xs, h => by simp [plain] at h
  | _ + 1, .ref xs, h => by simp [plain] at h
  | _ + 1, .fn xs, h => by simp [plain] at h
theorem canLays_of : ∀ (n : Nat) (d : List D), plains n d = true → PyData.canLayAll0 (toPys d) = true
  | _, [], _ => by simp only [toPys, PyData.canLayAll0]
  | n, x :: xs, h => by
    have h' : plain n x = true ∧ plains n xs = true := by simpa [plains] using h
    simp only [toPys, PyData.canLayAll0, canLay_of n x h'.1, canLays_of n xs h'.2, Bool.and_self]
end
mutual
theorem depth_of : ∀ (n : Nat) (d : D), plain n d = true → PyData.depth (toPy d) ≤ n
  | _, .non, _ => by simp [toPy, PyData.depth]
  | _, .bl _, _ => by simp [toPy, PyData.depth]
  | _, .int _, _ => by simp [toPy, PyData.depth]
  | _, .str x, h => by simp [toPy, PyData.depth]
  | n + 1, .lst xs, h => by simp only [toPy, PyData.depth]; have := depths_of n xs (by simpa [plain] using h); omega
  | n + 1, .tup xs, h => by simp only [toPy, PyData.depth]; have := depths_of n xs (by simpa [plain] using h); omega
  | 0, .lst xs, h => by simp [plain] at h
  | 0, .tup xs, h => by simp [plain] at h
  | 0, .scr xs, h => by simp [plain] at h
  | 0, .ino _ _ xs, h => by simp [plain] at h
  | 0, .obj _ xs, h => by simp [plain] at h
  | 0, .ref xs, h => by simp [plain] at h
  | 0, .fn xs, h => by simp [plain] at h
  | _ + 1, .scr xs, h => by simp [plain] at h
  | _ + 1, .ino _ _ xs, h => by simp [plain] at h
  | _ + 1, .obj _ xs, h => by simp [plain] at h
  | _ + 1, .ref xs, h => by simp [plain] at h
  | _ + 1, .fn xs, h => by simp [plain] at h
theorem depths_of : ∀ (n : Nat) (d : List D), plains n d = true → PyData.depthAll (toPys d) ≤ n
  | _, [], _ => by simp [toPys, PyData.depthAll]
  | n, x :: xs, h => by
    have h' : plain n x = true ∧ plains n xs = true := by simpa [plains] using h
    have h1 := depth_of n x h'.1
    have h2 := depths_of n xs h'.2
    simp only [toPys, PyData.depthAll]
    omega
end
theorem shaped_of {n : Nat} {d : D} (hn : n ≤ 64) (h : plain n d = true) : SeqAt.shaped (toPy d) = true := by
  have h1 := depth_of n d h
  show (PyData.canLay0 (toPy d) && decide (PyData.depth (toPy d) ≤ 64)) = true
  rw [Bool.and_eq_true]
  exact ⟨canLay_of n d h, decide_eq_true (by omega)⟩
section
variable {K : PySem.W.Frag} {mg : Str → Option Value} {F : Addr → Prop} {c : List Addr} {H : Hp}
mutual
theorem Rp.dp : ∀ {v : V} {d : D} (n : Nat), Rp K mg F c H v d → plain n d = true → Dp K H v (toPy d)
  | _, _, _, .non, _ => by simp only [toPy]; exact .non
  | _, _, _, .bl b, _ => by simp only [toPy]; exact .bl b
  | _, _, _, .int b, _ => by simp only [toPy]; exact .int b
  | _, _, _, .str b, _ => by simp only [toPy]; exact .str b
  | _, _, n + 1, .lst f h r, p => by simp only [toPy]; exact .lst (SqL.of h) (Rps.dp n r (by simpa [plain] using p))
  | _, _, n + 1, .tup h r, p => by simp only [toPy]; exact .tup h.sq (Rps.dp n r (by simpa [plain] using p))
  | _, _, 0, .lst f h r, p => by simp [plain] at p
  | _, _, 0, .tup h r, p => by simp [plain] at p
  | _, _, 0, .scr _, p => by simp [plain] at p
  | _, _, 0, .obj _ _ _ _, p => by simp [plain] at p
  | _, _, 0, .ino _ _ _ _ _, p => by simp [plain] at p
  | _, _, 0, .ref _, p => by simp [plain] at p
  | _, _, _ + 1, .scr _, p => by simp [plain] at p
  | _, _, _ + 1, .obj _ _ _ _, p => by simp [plain] at p
  | _, _, _ + 1, .ino _ _ _ _ _, p => by simp [plain] at p
  | _, _, _ + 1, .ref _, p => by simp [plain] at p
theorem Rps.dp : ∀ {v : List V} {d : List D} (n : Nat), Rps K mg F c H v d → plains n d = true → DpAll K H v (toPys d)
  | _, _, _, .nil, _ => by simp only [toPys]; exact .nil
  | _, _, n, .cons h r, p => by
    have h' := by simpa [plains] using p
    simp only [toPys]; exact .cons (Rp.dp n h h'.1) (Rps.dp n r h'.2)
end
end
section
variable {X : Cx} {W : WX} {e a d : Expr} {pos : Pos} {fa fb fc : M D}
def ret (o : Option D) : M D := fun env st => match o with
  | some d => .ok d env st
  | none => .bad
def eBin (g : D → D → M D) (fa fb : M D) : M D := fun env st => (fa env st).bind fun x e s => (fb e s).bind fun y e s => g x y e s
def OpOk (X : Cx) (W : WX) (r : R2) (g : D → D → M D) : Prop := ∀ (b : Bs) (F : Addr → Prop) (c : List Addr) (env : EnvD) (st : Sto) (σ : L2.St) (H : Hp) (x y : V) (dx dy : D) (Q : VK), b.K = X.K → b.mg = X.mg → Rel b F c env st σ H →
  Rp b.K b.mg F c H x dx → Rp b.K b.mg F c H y dy → Post b W F c σ H (fun d _ _ F' c' H' => ∀ v, Rp b.K b.mg F' c' H' v d → Q v H') (g dx dy env st) → r x y H Q
theorem tOp_of {r : R2} {g : D → D → M D} (hg : OpOk X W r g) : ∀ σ H Q, tE X W (eBin g fa fb) σ H Q → tOp r (tE X W fa) (tE X W fb) σ H Q := fun σ H Q ⟨b, F, c, env, st, e1, e2, r0, p⟩ =>
  tE_at e1 e2 r0 p fun v dx env1 st1 F1 c1 H1 s1 r1 rp1 p1 => tE_at e1 e2 r1 p1 fun u dy env2 st2 F2 c2 H2 s2 r2 rp2 p2 => hg b F2 c2 env2 st2 σ H2 v u dx dy Q e1 e2 r2 (rp1.stp s2) rp2 p2
theorem ve_op {op : Operator} {r : R2} {g : D → D → M D} (ho : OpR X (binaryOp op) r) (hg : OpOk X W r g) (ha : VE X W e fa) (hb : VE X W a fb) : VE X W (.BinOp e op a pos) (eBin g fa fb) := PEof (pe_op ho ha hb) (tOp_of hg)
/-- a total operator upon scalars -/
def sc2 (g : D → D → Option D) : D → D → M D := fun x y => ret (g x y)
theorem opOk_sc {r : R2} {g : D → D → Option D} (h : ∀ (F : Addr → Prop) (c : List Addr) (H : Hp) (x y : V) (dx dy d : D) (Q : VK), Rp X.K X.mg F c H x dx → Rp X.K X.mg F c H y dy → g dx dy = some d → (∀ v, Rp X.K X.mg F c H v d → Q v H) → r x y H Q) : OpOk X W r (sc2 g) := by
  intro b F c env st σ H x y dx dy Q e1 e2 r0 hx hy p
  unfold sc2 ret at p
  split at p
  · rename_i d e
    rw [e1, e2] at hx hy
    exact h F c H x y dx dy d Q hx hy e fun v hv => Post.here r0 p v (by rw [e1, e2]; exact hv)
  · exact p.elim
def subI : D → D → Option D
  | .int i, .int j => some (.int (i - j))
  | _, _ => none
/-- shut: the kernel would reckon such bounds in unary -/
noncomputable def mulOk (i j : Int) : Bool := @decide ((-(2 ^ 64) < i ∧ i < 2 ^ 64) ∨ (-(2 ^ 64) < j ∧ j < 2 ^ 64)) (Classical.propDecidable _)
omit [VEnv] in
theorem mulOk_iff {i j : Int} : mulOk i j = true ↔ (-(2 ^ 64) < i ∧ i < 2 ^ 64) ∨ (-(2 ^ 64) < j ∧ j < 2 ^ 64) := by unfold mulOk; exact @decide_eq_true_iff _ (Classical.propDecidable _)
noncomputable def mulI : D → D → Option D
  | .int i, .int j => if mulOk i j then some (.int (i * j)) else none
  | _, _ => none
noncomputable def divOk (j : Int) : Bool := @decide (0 < j ∧ j ≤ 10000000000000000000000000000000000000000) (Classical.propDecidable _)
omit [VEnv] in
theorem divOk_iff {j : Int} : divOk j = true ↔ 0 < j ∧ j ≤ 10000000000000000000000000000000000000000 := by unfold divOk; exact @decide_eq_true_iff _ (Classical.propDecidable _)
noncomputable def fdivI : D → D → Option D
  | .int i, .int j => if divOk j then some (.int (i / j)) else none
  | _, _ => none
def modI : D → D → Option D
  | .int i, .int j => if 0 < j then some (.int (i % j)) else none
  | _, _ => none
def powI : D → D → Option D
  | .int i, .int j => if decide (0 ≤ j) && decide (j ≤ 1000) && decide (i.natAbs < 2 ^ 64) then some (.int (i ^ j.toNat)) else none
  | _, _ => none
theorem divOk_w {i j : Int} (h : divOk j = true) : CDivW i j := by
  rw [divOk_iff] at h
  refine wide_div h.1 (b := 134) ?_ (by decide) (by decide)
  have h2 := h.2
  have e : (2 : Nat) ^ 134 = 21778071482940061661655974875633165533184 := by decide +kernel
  rw [e]
  omega
theorem mulOk_w {i j : Int} (h : mulOk i j = true) : CMul i j := by
  exact mulOk_iff.mp h
theorem op_addR : OpR X (binaryOp .Add) (fun x y H Q => (∃ i j, x = .int i ∧ y = .int j ∧ Q (.int (i + j)) H) ∨ (∃ i j, x = .str i ∧ y = .str j ∧ i.length + j.length ≤ sizeLine ∧ Q (.str (i ++ j)) H)) := OpR.or op_add op_add_str
theorem ok_sub : OpOk X W (rI0 fun i j => .int (i - j)) (sc2 subI) := opOk_sc fun F c H x y dx dy d Q hx hy e q => by
  unfold subI at e
  split at e
  · cases hx; cases hy; cases e; exact ⟨_, _, rfl, rfl, q _ (.int _)⟩
  · cases e
theorem ok_mul : OpOk X W (rI CMul fun i j => .int (i * j)) (sc2 mulI) := opOk_sc fun F c H x y dx dy d Q hx hy e q => by
  unfold mulI at e
  split at e
  · cases hx; cases hy
    split at e
    · cases e; exact ⟨_, _, rfl, rfl, mulOk_w (by assumption), q _ (.int _)⟩
    · cases e
  · cases e
theorem ok_fdiv : OpOk X W (rI CDivW fun i j => .int (i / j)) (sc2 fdivI) := opOk_sc fun F c H x y dx dy d Q hx hy e q => by
  unfold fdivI at e
  split at e
  · cases hx; cases hy
    split at e
    · cases e; exact ⟨_, _, rfl, rfl, divOk_w (by assumption), q _ (.int _)⟩
    · cases e
  · cases e
theorem ok_mod : OpOk X W (rI (fun _ j => 0 < j) fun i j => .int (i % j)) (sc2 modI) := opOk_sc fun F c H x y dx dy d Q hx hy e q => by
  unfold modI at e
  split at e
  · cases hx; cases hy
    split at e
    · cases e; exact ⟨_, _, rfl, rfl, by assumption, q _ (.int _)⟩
    · cases e
  · cases e
theorem ok_pow : OpOk X W (rI CPow fun i j => .int (i ^ j.toNat)) (sc2 powI) := opOk_sc fun F c H x y dx dy d Q hx hy e q => by
  unfold powI at e
  split at e
  · cases hx; cases hy
    split at e
    · rename_i h
      simp only [Bool.and_eq_true, decide_eq_true_eq] at h
      cases e; exact ⟨_, _, rfl, rfl, ⟨h.1.1, by omega, h.2⟩, q _ (.int _)⟩
    · cases e
  · cases e
theorem ve_sub (ha : VE X W e fa) (hb : VE X W a fb) : VE X W (.BinOp e .Sub a pos) (eBin (sc2 subI) fa fb) := ve_op op_sub ok_sub ha hb
theorem ve_mul (ha : VE X W e fa) (hb : VE X W a fb) : VE X W (.BinOp e .Mult a pos) (eBin (sc2 mulI) fa fb) := ve_op op_mul ok_mul ha hb
theorem ve_fdiv (ha : VE X W e fa) (hb : VE X W a fb) : VE X W (.BinOp e .FloorDiv a pos) (eBin (sc2 fdivI) fa fb) := ve_op op_fdivW ok_fdiv ha hb
theorem ve_mod (ha : VE X W e fa) (hb : VE X W a fb) : VE X W (.BinOp e .Mod a pos) (eBin (sc2 modI) fa fb) := ve_op op_mod ok_mod ha hb
theorem ve_pow (ha : VE X W e fa) (hb : VE X W a fb) : VE X W (.BinOp e .Pow a pos) (eBin (sc2 powI) fa fb) := ve_op op_pow ok_pow ha hb
def negI : D → Option D
  | .int i => some (.int (-i))
  | _ => none
def eUn (g : D → Option D) (fa : M D) : M D := fun env st => (fa env st).bind fun x e s => ret (g x) e s
theorem ve_neg (ha : VE X W e fa) : VE X W (.UnaryOp .USub e pos) (eUn negI fa) := PEof (pe_un un_neg ha) fun σ H Q ⟨b, F, c, env, st, e1, e2, r0, p⟩ =>
  tE_at e1 e2 r0 p fun v dx env1 st1 F1 c1 H1 s1 r1 rp1 p1 => by
    unfold ret negI at p1
    split at p1
    · rename_i d e
      split at e
      · cases rp1; cases e; exact ⟨_, rfl, Post.here r1 p1 _ (.int _)⟩
      · cases e
    · exact p1.elim

theorem ve_cmp {op : CmpOp} {r : R2} {g : D → D → M D} (ho : OpR X (compareOp op) r) (hg : OpOk X W r g) (ha : VE X W e fa) (hb : VE X W a fb) (hm : behindInMarks op a = false) : VE X W (.Compare e [op] [a] pos) (eBin g fa fb) := PEof (pe_cmpR ho ha hb hm) (tOp_of hg)
/-- a value that is a bool, as a test -/
def eT (f : M D) : M Bool := fun env st => (f env st).bind fun x e s => match x with
  | .bl t => .ok t e s
  | _ => .bad
theorem tTest_of {f : M D} : ∀ σ H Q, tT X W (eT f) σ H Q → tTest (tE X W f) σ H Q := fun σ H Q ⟨b, F, c, env, st, e1, e2, r0, p⟩ => tE_at e1 e2 r0 p fun v dx env1 st1 F1 c1 H1 s1 r1 rp1 p1 => by
    split at p1
    · cases rp1; exact ⟨_, rfl, Post.here r1 p1⟩
    · exact p1.elim
theorem vt_cmp {op : CmpOp} {r : R2} {g : D → D → M D} (ho : OpR X (compareOp op) r) (hg : OpOk X W r g) (ha : VE X W e fa) (hb : VE X W a fb) (hm : behindInMarks op a = false) : VT X W (.Compare e [op] [a] pos) (eT (eBin g fa fb)) :=
  PTof (pt_cmpR ho ha hb hm) fun σ H Q h => by
    have h2 := tTest_of σ H Q h
    exact tOp_of (fa := fa) (fb := fb) hg σ H _ h2
theorem vt_val (ha : VE X W e fa) (he : ∀ whole, isTrue e X.env whole = (do let v ← whole; standAt e.pos; holding [v] (truthy v)) := by intro _; rfl) : VT X W e (eT fa) := PTof (pt_val ha he) fun σ H Q h => tTest_of σ H Q h
/-- == and != of plain data -/
def eqP (x y : D) : Option D := if plain 20 x && plain 20 y then some (.bl (eqD x y)) else none
def neP (x y : D) : Option D := if plain 20 x && plain 20 y then some (.bl (!eqD x y)) else none
variable {k : Nat}
theorem huOf (hr : Room k X.A) : X.A.units + 64 < cLine := by have := hr.un; omega
theorem huOf1 (hr : Room k X.A) : X.A.units + 65 < cLine := by have := hr.un; omega
/-- is None -/
def isNone : D → Bool
  | .non => true
  | _ => false
theorem Rp.isNon {K : PySem.W.Frag} {mg : Str → Option Value} {F : Addr → Prop} {c : List Addr} {H : Hp} {v : V} {d : D} (h : Rp K mg F c H v d) : decide (v = .non) = isNone d := by cases h <;> rfl
def isN (neg : Bool) : D → D → Option D
  | x, .non => some (.bl (if neg then !isNone x else isNone x))
  | _, _ => none
theorem ok_isN : OpOk X W (fun x y H Q => y = .non ∧ Q (.bl (decide (x = .non))) H) (sc2 (isN false)) := opOk_sc fun F c H x y dx dy d Q hx hy e q => by
  unfold isN at e
  split at e
  · cases hy; cases e; exact ⟨rfl, q _ (by rw [hx.isNon]; exact .bl _)⟩
  · cases e
theorem vt_isN (ha : VE X W e fa) (hb : VE X W a fb) : VT X W (.Compare e [.Is] [a] pos) (eT (eBin (sc2 (isN false)) fa fb)) := vt_cmp op_isN ok_isN ha hb (nomark _)
/-- in: a text in a text; plain data in a list or a tuple -/
def inText (i j : Str) : Bool := !(Builtin.Str.occurrences j i 0 j.length 1).isEmpty
theorem any_toPys (x : D) : ∀ ys : List D, (toPys ys).any (fun z => PyData.eqv z (toPy x)) = ys.any fun z => eqD z x
  | [] => by simp [toPys]
  | y :: ys => by simp only [toPys, List.any_cons, any_toPys x ys]; rfl
theorem op_inR (hu : X.A.units + 65 < cLine) : OpR X (compareOp .In) (fun x y H Q => (∃ i j, x = .str i ∧ y = .str j ∧ Q (.bl (!(Builtin.Str.occurrences j i 0 j.length 1).isEmpty)) H) ∨ rInD X.K x y H Q) := OpR.or op_in_str (op_inD hu)
theorem op_notinR (hu : X.A.units + 65 < cLine) : OpR X (compareOp .NotIn) (fun x y H Q => (∃ i j, x = .str i ∧ y = .str j ∧ Q (.bl (!(!(Builtin.Str.occurrences j i 0 j.length 1).isEmpty))) H) ∨ rNotInD X.K x y H Q) := OpR.or L2.op_notin_str (op_notInD hu)
/-- a <= b <= c, of ints -/
def eChain (p q : Int → Int → Bool) (fa fb fc : M D) : M D := fun env st => (fa env st).bind fun x e s => (fb e s).bind fun y e s => match x, y with
  | .int i, .int j => if p i j then (fc e s).bind fun z e s => match z with
      | .int l => .ok (.bl (q j l)) e s
      | _ => .bad
    else .ok (.bl false) e s
  | _, _ => .bad
end
end VE
namespace VE
open PySem PySem.Spec PyProof.Rows L2
variable [VEnv]
section
variable {X : Cx} {W : WX} {e a d : Expr} {rest : List Expr} {pos : Pos} {fa fb fc : M D} {ta tb tc : M Bool}
theorem chain_of {p q : Int → Int → Bool} : ∀ σ H Q, tE X W (eChain p q fa fb fc) σ H Q → tChain (rI0 fun i j => .bl (p i j)) (rI0 fun i j => .bl (q i j)) (tE X W fa) (tE X W fb) (tE X W fc) σ H Q := fun σ H Q ⟨b, F, c, env, st, e1, e2, r0, h⟩ =>
  tE_at e1 e2 r0 h fun v dx env1 st1 F1 c1 H1 s1 r1 rp1 p1 => tE_at e1 e2 r1 p1 fun u dy env2 st2 F2 c2 H2 s2 r2 rp2 p2 => by
    split at p2
    · rename_i i j
      cases rp1; cases rp2
      refine ⟨_, _, rfl, rfl, _, rfl, ?_⟩
      cases hp : p i j with
      | true =>
        rw [hp, if_pos rfl] at p2
        rw [if_pos rfl]
        exact tE_at e1 e2 r2 p2 fun w dz env3 st3 F3 c3 H3 s3 r3 rp3 p3 => by
          split at p3
          · cases rp3; exact ⟨_, _, rfl, rfl, Post.here r3 p3 _ (.bl _)⟩
          · exact p3.elim
      | false =>
        rw [hp, if_neg Bool.false_ne_true] at p2
        rw [if_neg Bool.false_ne_true]
        exact Post.here r2 p2 _ (.bl _)
    · exact p2.elim
theorem ve_chain {op op' : CmpOp} {p q : Int → Int → Bool} (ho : OpR X (compareOp op) (rI0 fun i j => .bl (p i j))) (ho' : OpR X (compareOp op') (rI0 fun i j => .bl (q i j))) (ha : VE X W e fa) (hb : VE X W a fb) (hc : VE X W d fc)
    (hm : lastMarks [op, op'] [a, d] = false := by with_unfolding_all rfl) : VE X W (.Compare e [op, op'] [a, d] pos) (eChain p q fa fb fc) := PEof (pe_chain ho ho' ha hb hc hm) chain_of
theorem vt_chain {op op' : CmpOp} {p q : Int → Int → Bool} (ho : OpR X (compareOp op) (rI0 fun i j => .bl (p i j))) (ho' : OpR X (compareOp op') (rI0 fun i j => .bl (q i j))) (ha : VE X W e fa) (hb : VE X W a fb) (hc : VE X W d fc)
    (hm : lastMarks [op, op'] [a, d] = false := by with_unfolding_all rfl) : VT X W (.Compare e [op, op'] [a, d] pos) (eT (eChain p q fa fb fc)) := PTof (pt_chain ho ho' ha hb hc hm) fun σ H Q h => chain_of σ H _ (tTest_of σ H Q h)
@[reducible] def VW (X : Cx) (W : WX) (e : Expr) (f : M Bool) : Prop := PW X e (tT X W f)
def bAnd (ta tb : M Bool) : M Bool := fun env st => (ta env st).bind fun t env st => if t then tb env st else .ok false env st
def bOr (ta tb : M Bool) : M Bool := fun env st => (ta env st).bind fun t env st => if t then .ok true env st else tb env st
def bNot (ta : M Bool) : M Bool := fun env st => (ta env st).bind fun t env st => .ok (!t) env st
theorem vw_and1 (h : VT X W e ta) : VW X W (.BoolOp .And [e] pos) ta := pw_and1 h
theorem vw_or1 (h : VT X W e ta) : VW X W (.BoolOp .Or [e] pos) ta := pw_or1 h
theorem vw_and (h : VT X W e ta) (h2 : VW X W (.BoolOp .And (a :: rest) pos) tb) : VW X W (.BoolOp .And (e :: a :: rest) pos) (bAnd ta tb) := PWof (pw_and h h2) fun σ H Q ⟨b, F, c, env, st, e1, e2, r0, h⟩ =>
  tT_at e1 e2 r0 h fun t env1 st1 F1 c1 H1 s1 r1 p1 => by
    cases t with
    | true => rw [if_pos rfl] at p1 ⊢; exact ⟨b, F1, c1, env1, st1, e1, e2, r1, p1⟩
    | false => rw [if_neg Bool.false_ne_true] at p1 ⊢; exact Post.here r1 p1
theorem vw_or (h : VT X W e ta) (h2 : VW X W (.BoolOp .Or (a :: rest) pos) tb) : VW X W (.BoolOp .Or (e :: a :: rest) pos) (bOr ta tb) := PWof (pw_or h h2) fun σ H Q ⟨b, F, c, env, st, e1, e2, r0, h⟩ =>
  tT_at e1 e2 r0 h fun t env1 st1 F1 c1 H1 s1 r1 p1 => by
    cases t with
    | false => rw [if_neg Bool.false_ne_true] at p1 ⊢; exact ⟨b, F1, c1, env1, st1, e1, e2, r1, p1⟩
    | true => rw [if_pos rfl] at p1 ⊢; exact Post.here r1 p1
theorem vt_not (h : VT X W e ta) : VT X W (.UnaryOp .Not e pos) (bNot ta) := PTof (pt_not h) fun σ H Q ⟨b, F, c, env, st, e1, e2, r0, h⟩ => tT_at e1 e2 r0 h fun t env1 st1 F1 c1 H1 s1 r1 p1 => Post.here r1 p1
def eAnd (fa fb : M D) : M D := fun env st => (fa env st).bind fun x env st => match x with
  | .bl true => fb env st
  | .bl false => .ok (.bl false) env st
  | _ => .bad
def eNot (fa : M D) : M D := fun env st => (fa env st).bind fun x env st => match x with
  | .bl t => .ok (.bl (!t)) env st
  | _ => .bad
theorem ve_one {op : BoolOp} (h : VE X W e fa) : VE X W (.BoolOp op [e] pos) fa := pe_one h
theorem ve_and (h : VE X W e fa) (h2 : VE X W (.BoolOp .And (a :: rest) pos) fb) : VE X W (.BoolOp .And (e :: a :: rest) pos) (eAnd fa fb) := PEof (pe_and h h2) fun σ H Q ⟨b, F, c, env, st, e1, e2, r0, h⟩ =>
  tE_at e1 e2 r0 h fun v dx env1 st1 F1 c1 H1 s1 r1 rp1 p1 => by
    split at p1
    · cases rp1; exact ⟨true, rfl, by rw [if_pos rfl]; exact ⟨b, F1, c1, env1, st1, e1, e2, r1, p1⟩⟩
    · cases rp1; exact ⟨false, rfl, by rw [if_neg Bool.false_ne_true]; exact Post.here r1 p1 _ (.bl _)⟩
    · exact p1.elim
theorem ve_not (h : VE X W e fa) : VE X W (.UnaryOp .Not e pos) (eNot fa) := PEof (pe_not h) fun σ H Q ⟨b, F, c, env, st, e1, e2, r0, h⟩ =>
  tE_at e1 e2 r0 h fun v dx env1 st1 F1 c1 H1 s1 r1 rp1 p1 => by
    split at p1
    · cases rp1; exact ⟨_, rfl, Post.here r1 p1 _ (.bl _)⟩
    · exact p1.elim
def eIf (t : M Bool) (fa fb : M D) : M D := fun env st => (t env st).bind fun t env st => if t then fa env st else fb env st
theorem ve_if (h : VT X W d tc) (ha : VE X W e fa) (hb : VE X W a fb) : VE X W (.IfExp d e a pos) (eIf tc fa fb) := PEof (pe_ifExp h ha hb) fun σ H Q ⟨b, F, c, env, st, e1, e2, r0, h⟩ =>
  tT_at e1 e2 r0 h fun t env1 st1 F1 c1 H1 s1 r1 p1 => by
    cases t with
    | true => rw [if_pos rfl] at p1 ⊢; exact ⟨b, F1, c1, env1, st1, e1, e2, r1, p1⟩
    | false => rw [if_neg Bool.false_ne_true] at p1 ⊢; exact ⟨b, F1, c1, env1, st1, e1, e2, r1, p1⟩

variable {es : List Expr} {fs : M (List D)}
def eNil : M (List D) := fun env st => .ok [] env st
def eCons (fa : M D) (fs : M (List D)) : M (List D) := fun env st => (fa env st).bind fun d env st => (fs env st).bind fun ds env st => .ok (d :: ds) env st
def itemsOf : D → Option (List D)
  | .lst xs => some xs
  | .tup xs => some xs
  | _ => none
def eStar (fa : M D) (fs : M (List D)) : M (List D) := fun env st => (fa env st).bind fun d env st => match itemsOf d with
  | some xs => (fs env st).bind fun ds env st => .ok (xs ++ ds) env st
  | none => .bad
theorem va_nil : VA X W [] eNil := PAof pa_nil fun σ H Q ⟨b, F, c, env, st, e1, e2, r0, h⟩ => Post.here r0 h _ .nil
theorem va_cons (h : VE X W e fa) (h2 : VA X W es fs) (hs : starEach (e :: es) X.env = (false, eval e X.env) :: starEach es X.env := by rfl) : VA X W (e :: es) (eCons fa fs) := PAof (pa_cons h h2 hs) fun σ H Q ⟨b, F, c, env, st, e1, e2, r0, h⟩ =>
  tE_at e1 e2 r0 h fun v dx env1 st1 F1 c1 H1 s1 r1 rp1 p1 => tA_at e1 e2 r1 p1 fun vs ds env2 st2 F2 c2 H2 s2 r2 rp2 p2 => Post.here r2 p2 _ (.cons (rp1.stp s2) rp2)
theorem Rp.items {K : PySem.W.Frag} {mg : Str → Option Value} {F : Addr → Prop} {c : List Addr} {H : Hp} {v : V} {d : D} {ds : List D} (h : Rp K mg F c H v d) (e : itemsOf d = some ds) : ∃ a vs, v = .ref a ∧ (SqT K H a vs ∨ SqL K H a vs) ∧ Rps K mg F c H vs ds := by
  cases h with
  | lst f h r => cases e; exact ⟨_, _, rfl, .inr (SqL.of h), r⟩
  | tup h r => cases e; exact ⟨_, _, rfl, .inl h.sq, r⟩
  | _ => cases e
theorem va_star {p : Pos} (h : VE X W e fa) (h2 : VA X W es fs) (hs : starEach (.Starred e p :: es) X.env = (true, eval e X.env) :: starEach es X.env := by rfl) : VA X W (.Starred e p :: es) (eStar fa fs) := PAof (StX.pa_star h h2 hs) fun σ H Q ⟨b, F, c, env, st, e1, e2, r0, h⟩ =>
  tE_at e1 e2 r0 h fun v dx env1 st1 F1 c1 H1 s1 r1 rp1 p1 => by
    split at p1
    · rename_i ds ed
      obtain ⟨a, vs, rfl, hq, rps⟩ := rp1.items ed
      rw [e1] at hq
      exact ⟨a, vs, rfl, hq, tA_at e1 e2 r1 p1 fun ws es env2 st2 F2 c2 H2 s2 r2 rp2 p2 => Post.here r2 p2 _ ((rps.stp s2).append rp2)⟩
    · exact p1.elim
def eTup (fs : M (List D)) : M D := fun env st => (fs env st).bind fun ds env st => if ds.length ≤ 16777216 then .ok (.tup ds) env st else .bad
def eLst (fs : M (List D)) : M D := fun env st => (fs env st).bind fun ds env st => if ds.length ≤ 16777216 then .ok (.lst ds) env st else .bad
theorem ve_tup {x1 : Nat} (h : VA X W es fs) : VE X W (.Tuple es x1 pos) (eTup fs) := PEof (pe_tup h) fun σ H Q ⟨b, F, c, env, st, e1, e2, r0, h⟩ =>
  tA_at e1 e2 r0 h fun vs ds env1 st1 F1 c1 H1 s1 r1 rp1 p1 => by
    split at p1
    · rename_i hl
      refine ⟨by rw [rp1.length, sizeLine_eq]; exact hl, fun p hp => ?_⟩
      obtain ⟨s2, r2⟩ := r1.newF hp (.tup vs)
      exact p1 _ _ _ s2 r2 _ (.tup (.inl ⟨.inr rfl, upd_same⟩) (rp1.stp s2))
    · exact p1.elim
theorem vf_lst (h : VA X W es fs) : VF X W (.List es pos) (eLst fs) := PEof (pe_lst h) fun σ H Q ⟨b, F, c, env, st, e1, e2, r0, h⟩ =>
  tA_at e1 e2 r0 h fun vs ds env1 st1 F1 c1 H1 s1 r1 rp1 p1 => by
    split at p1
    · rename_i hl
      refine ⟨by rw [rp1.length, sizeLine_eq]; exact hl, fun p hp => ?_⟩
      obtain ⟨s2, r2⟩ := r1.newO hp (.lst vs)
      exact p1 _ _ _ s2 r2 p (r1.nF hp) (r1.nC hp) (r1.H0none hp) (r1.nO hp) ⟨vs, upd_same, rp1.stp s2⟩
    · exact p1.elim

theorem fresh_of {b : Bs} {F : Addr → Prop} {c : List Addr} {env : EnvD} {st : Sto} {σ : L2.St} {H : Hp} {d : D} {Q : VK} (r1 : Rel b F c env st σ H)
    (p1 : Post b W F c σ H (fun d env _ F c H' => ∀ a, ¬ F a → a ∉ c → b.H0 a = none → (∀ i, ¬ OwnA env σ i a) → OwnAt b.K b.mg F c H' a d → Q (.ref a) H') (.ok d env st))
    (p : Addr) (o : HO) (hp : H p = none) (ho : ∀ F' : Addr → Prop, Stp F c H F' c (upd H p o) → OwnAt b.K b.mg F' c (upd H p o) p d) : Q (.ref p) (upd H p o) := by
  obtain ⟨s2, r2⟩ := r1.newO hp o
  exact p1 _ _ _ s2 r2 p (r1.nF hp) (r1.nC hp) (r1.H0none hp) (r1.nO hp) (ho _ s2)
def ixD : D → D → Option D
  | .lst xs, .int i => atI xs i
  | .tup xs, .int i => atI xs i
  | .scr xs, .int i => (atI xs i).map .int
  | .str z, .int i => if z.length ≤ 16777216 then (atI z.cps.toList i).map fun c => .str ⟨#[c]⟩ else none
  | _, _ => none
theorem Rps.atI {K : PySem.W.Frag} {mg : Str → Option Value} {F : Addr → Prop} {c : List Addr} {H : Hp} {vs : List V} {ds : List D} {i : Int} {d : D} (r : Rps K mg F c H vs ds) (e : L2.atI ds i = some d) : ∃ v, L2.atI vs i = some v ∧ Rp K mg F c H v d := by
  unfold L2.atI at e ⊢
  rw [r.length]
  cases h : ixN ds.length i with
  | none => rw [h] at e; cases e
  | some j => rw [h] at e; exact r.get' e
theorem atI_map {α β : Type} (f : α → β) (xs : List α) (i : Int) : L2.atI (xs.map f) i = (L2.atI xs i).map f := by
  unfold L2.atI
  rw [List.length_map]
  cases ixN xs.length i with
  | none => rfl
  | some j => simp
theorem ok_ix : OpOk X W (rIx X.K) (sc2 ixD) := opOk_sc fun F c H x y dx dy d Q hx hy e q => by
  unfold ixD at e
  split at e
  · cases hy
    cases hx with
    | lst f h r => obtain ⟨v, hv, rp⟩ := r.atI e; exact .inl ⟨_, _, _, v, rfl, rfl, SqL.of h, hv, q v rp⟩
  · cases hy
    cases hx with
    | tup h r => obtain ⟨v, hv, rp⟩ := r.atI e; exact .inr (.inl ⟨_, _, _, v, rfl, rfl, h.sq, hv, q v rp⟩)
  · rename_i xs i
    cases hy
    cases hx with
    | scr h =>
      cases hz : L2.atI xs i with
      | none => rw [hz] at e; cases e
      | some z =>
        rw [hz] at e; cases e
        exact .inl ⟨_, _, _, .int z, rfl, rfl, h.sq, by rw [atI_map, hz]; rfl, q _ (.int z)⟩
  · rename_i z i
    cases hy; cases hx
    split at e
    · rename_i hl
      cases hz : L2.atI z.cps.toList i with
      | none => rw [hz] at e; cases e
      | some ch =>
        rw [hz] at e; cases e
        exact .inr (.inr ⟨_, _, _, rfl, rfl, by rw [sizeLine_eq]; exact hl, hz, q _ (.str _)⟩)
    · cases e
  · cases e
end
end VE
namespace VE
open PySem PySem.Spec PyProof.Rows L2
variable [VEnv]
/-- how a statement ends: on; back with a value; back with a thing that is new; break; continue -/
inductive Fl where
  | nx
  | rt (d : D)
  | rf (d : D)
  | bk
  | ct
section
variable {X : Cx} {W : WX} {b : Bs} {F F' : Addr → Prop} {c c' : List Addr} {env : EnvD} {st : Sto} {σ : L2.St} {H H' : Hp} {D₀ : Ends}
def FlOk (b : Bs) (D₀ : Ends) (F : Addr → Prop) (c : List Addr) (σ : L2.St) (H : Hp) : Fl → Prop
  | .nx => D₀.nx σ H
  | .bk => D₀.bk σ H
  | .ct => D₀.ct σ H
  | .rt d => ∀ v, Rp b.K b.mg F c H v d → D₀.rt v H
  | .rf d => ∀ a, ¬ F a → a ∉ c → b.H0 a = none → OwnAt b.K b.mg F c H a d → D₀.rt (.ref a) H
def PostS (b : Bs) (W : WX) (F : Addr → Prop) (c : List Addr) (H : Hp) (P : Fl → EnvD → Sto → (Addr → Prop) → List Addr → L2.St → Hp → Prop) : R Fl → Prop
  | .ok fl env st => ∀ σ' F' c' H', Stp F c H F' c' H' → Rel b F' c' env st σ' H' → P fl env st F' c' σ' H'
  | .ex x env st => ∀ σ' F' c' H' cls d, Stp F c H F' c' H' → Rel b F' c' env st σ' H' → RpX b.K b.mg F' c' H' cls d x → W cls d σ' H'
  | .bad => False
theorem PostS.mono {P P' : Fl → EnvD → Sto → (Addr → Prop) → List Addr → L2.St → Hp → Prop} {r : R Fl} (h : PostS b W F c H P r)
    (k : ∀ x env st F' c' σ' H', Stp F c H F' c' H' → Rel b F' c' env st σ' H' → P x env st F' c' σ' H' → P' x env st F' c' σ' H') : PostS b W F c H P' r := by
  cases r with
  | ok x env st => exact fun σ' F' c' H' s r => k _ _ _ _ _ _ _ s r (h σ' F' c' H' s r)
  | ex x env st => exact h
  | bad => exact h
theorem PostS.stp {P : Fl → EnvD → Sto → (Addr → Prop) → List Addr → L2.St → Hp → Prop} {r : R Fl} (s : Stp F c H F' c' H') (h : PostS b W F c H P r) : PostS b W F' c' H' P r := by
  cases r with
  | ok x env st => exact fun σ' F2 c2 H2 t r => h σ' F2 c2 H2 (s.trans t) r
  | ex x env st => exact fun σ' F2 c2 H2 cls d t r => h σ' F2 c2 H2 cls d (s.trans t) r
  | bad => exact h
/-- a statement behind a run that leaves the slots -/
theorem PostS.of {α : Type} {P : Fl → EnvD → Sto → (Addr → Prop) → List Addr → L2.St → Hp → Prop} {r : R α} {k : α → M Fl} (h : PostS b W F c H P (r.bind k)) :
    Post b W F c σ H (fun x env st F1 c1 H1 => PostS b W F1 c1 H1 P (k x env st)) r := by
  cases r with
  | ok x env st => exact fun F' c' H' s r => PostS.stp s h
  | ex x env st => exact fun F' c' H' cls d s r q => h σ F' c' H' cls d s r q
  | bad => exact h
theorem PostS.bind {P : Fl → EnvD → Sto → (Addr → Prop) → List Addr → L2.St → Hp → Prop} {r : R Fl} {k : Fl → M Fl} (h : PostS b W F c H P (r.bind k)) :
    PostS b W F c H (fun x env st F1 c1 σ1 H1 => PostS b W F1 c1 H1 P (k x env st)) r := by
  cases r with
  | ok x env st => exact fun σ' F' c' H' s r => PostS.stp s h
  | ex x env st => exact h
  | bad => exact h
theorem PostS.here {P : Fl → EnvD → Sto → (Addr → Prop) → List Addr → L2.St → Hp → Prop} {x : Fl} (r : Rel b F c env st σ H) (h : PostS b W F c H P (.ok x env st)) : P x env st F c σ H := h σ F c H .refl r
def tS (X : Cx) (W : WX) (g : M Fl) : TS := fun D₀ σ H => ∃ b F c env st, b.K = X.K ∧ b.mg = X.mg ∧ Rel b F c env st σ H ∧ PostS b W F c H (fun fl _ _ F c σ H => FlOk b D₀ F c σ H fl) (g env st)
@[reducible] def VS (X : Cx) (W : WX) (s : Stmt) (g : M Fl) : Prop := PS X s (tS X W g)
@[reducible] def VSs (X : Cx) (W : WX) (s : List Stmt) (g : M Fl) : Prop := PSs X s (tS X W g)
section
variable {β : Type} {P : Fl → EnvD → Sto → (Addr → Prop) → List Addr → L2.St → Hp → Prop}
theorem sE_at {f : M D} {k : D → M Fl} {Q : VK} (e1 : b.K = X.K) (e2 : b.mg = X.mg) (r : Rel b F c env st σ H) (p : PostS b W F c H P ((f env st).bind k))
    (hq : ∀ v d env' st' F' c' H', Stp F c H F' c' H' → Rel b F' c' env' st' σ H' → Rp b.K b.mg F' c' H' v d → PostS b W F' c' H' P (k d env' st') → Q v H') : tE X W f σ H Q :=
  ⟨b, F, c, env, st, e1, e2, r, (PostS.of p).mono fun d env' st' F' c' H' s r' q v rp => hq v d env' st' F' c' H' s r' rp q⟩
theorem sT_at {f : M Bool} {k : Bool → M Fl} {Q : Bool → Hp → Prop} (e1 : b.K = X.K) (e2 : b.mg = X.mg) (r : Rel b F c env st σ H) (p : PostS b W F c H P ((f env st).bind k))
    (hq : ∀ t env' st' F' c' H', Stp F c H F' c' H' → Rel b F' c' env' st' σ H' → PostS b W F' c' H' P (k t env' st') → Q t H') : tT X W f σ H Q :=
  ⟨b, F, c, env, st, e1, e2, r, (PostS.of p).mono fun t env' st' F' c' H' s r' q => hq t env' st' F' c' H' s r' q⟩
theorem sA_at {f : M (List D)} {k : List D → M Fl} {Q : List V → Hp → Prop} (e1 : b.K = X.K) (e2 : b.mg = X.mg) (r : Rel b F c env st σ H) (p : PostS b W F c H P ((f env st).bind k))
    (hq : ∀ vs ds env' st' F' c' H', Stp F c H F' c' H' → Rel b F' c' env' st' σ H' → Rps b.K b.mg F' c' H' vs ds → PostS b W F' c' H' P (k ds env' st') → Q vs H') : tA X W f σ H Q :=
  ⟨b, F, c, env, st, e1, e2, r, (PostS.of p).mono fun ds env' st' F' c' H' s r' q v rp => hq v ds env' st' F' c' H' s r' rp q⟩
theorem sF_at {f : M D} {k : D → M Fl} {Q : VK} (e1 : b.K = X.K) (e2 : b.mg = X.mg) (r : Rel b F c env st σ H) (p : PostS b W F c H P ((f env st).bind k))
    (hq : ∀ a d env' st' F' c' H', Stp F c H F' c' H' → Rel b F' c' env' st' σ H' → ¬ F' a → a ∉ c' → b.H0 a = none → (∀ i, ¬ OwnA env' σ i a) → OwnAt b.K b.mg F' c' H' a d → PostS b W F' c' H' P (k d env' st') → Q (.ref a) H') : tF X W f σ H Q :=
  ⟨b, F, c, env, st, e1, e2, r, (PostS.of p).mono fun d env' st' F' c' H' s r' q a h1 h2 h3 h4 h5 => hq a d env' st' F' c' H' s r' h1 h2 h3 h4 h5 q⟩
end
end
section
variable {X : Cx} {W : WX} {e a : Expr} {s : Stmt} {ss : List Stmt} {pos : Pos} {fa fb : M D} {ta : M Bool} {g g' : M Fl}
def sNx : M Fl := fun env st => .ok .nx env st
def sSeq (g g' : M Fl) : M Fl := fun env st => (g env st).bind fun fl env st => match fl with
  | .nx => g' env st
  | fl => .ok fl env st
theorem vss_nil : VSs X W [] sNx := PSsof pss_nil fun D₀ σ H ⟨b, F, c, env, st, e1, e2, r, p⟩ => PostS.here r p
theorem vss_cons (h : VS X W s g) (h2 : VSs X W ss g') : VSs X W (s :: ss) (sSeq g g') := PSsof (pss_cons h h2) fun D₀ σ H ⟨b, F, c, env, st, e1, e2, r, p⟩ =>
  ⟨b, F, c, env, st, e1, e2, r, (PostS.bind p).mono fun fl env' st' F' c' σ' H' s' r' q => by
    cases fl with
    | nx => exact ⟨b, F', c', env', st', e1, e2, r', q⟩
    | _ => exact PostS.here r' q⟩
theorem vss_one (h : VS X W s g) : VSs X W [s] g := pss_one h
def sExpr (fa : M D) : M Fl := fun env st => (fa env st).bind fun _ env st => .ok .nx env st
theorem vs_expr (h : VE X W e fa) (hs : swapsWith e none pos.line X.env = pure false := by rfl) : VS X W (.Expr e pos) (sExpr fa) := PSof (ps_expr h hs) fun D₀ σ H ⟨b, F, c, env, st, e1, e2, r, p⟩ =>
  sE_at e1 e2 r p fun v d env1 st1 F1 c1 H1 s1 r1 rp1 p1 => PostS.here r1 p1
def sRet (fa : M D) : M Fl := fun env st => (fa env st).bind fun d env st => .ok (.rt d) env st
theorem vs_ret (h : VE X W e fa) : VS X W (.Return (some e) pos) (sRet fa) := PSof (ps_ret h) fun D₀ σ H ⟨b, F, c, env, st, e1, e2, r, p⟩ =>
  sE_at e1 e2 r p fun v d env1 st1 F1 c1 H1 s1 r1 rp1 p1 => PostS.here r1 p1 v rp1
def sIf (t : M Bool) (g g' : M Fl) : M Fl := fun env st => (t env st).bind fun t env st => if t then g env st else g' env st
theorem vs_if {ss' : List Stmt} (h : VT X W e ta) (h1 : VSs X W ss g) (h2 : VSs X W ss' g') : VS X W (.If e ss ss' pos) (sIf ta g g') := PSof (ps_if h h1 h2) fun D₀ σ H ⟨b, F, c, env, st, e1, e2, r, p⟩ =>
  sT_at e1 e2 r p fun t env1 st1 F1 c1 H1 s1 r1 p1 => by
    cases t with
    | true => rw [if_pos rfl] at p1 ⊢; exact ⟨b, F1, c1, env1, st1, e1, e2, r1, p1⟩
    | false => rw [if_neg Bool.false_ne_true] at p1 ⊢; exact ⟨b, F1, c1, env1, st1, e1, e2, r1, p1⟩
def sSet (i : Nat) (fa : M D) : M Fl := fun env st => (fa env st).bind fun d env st => .ok .nx (env.set i (.va d)) st
def sSetF (i : Nat) (fa : M D) : M Fl := fun env st => (fa env st).bind fun d env st => .ok .nx (env.set i (.ow d)) st
theorem vs_set {i : Nat} {x : Str} {pos' : Pos} (hN : X.N.Nodup) (h : VE X W e fa) (hi : X.N[i]? = some x := by rfl) (hx : Loc X.env.scope x := by first | exact Or.inl rfl | exact Or.inr rfl) (hs : swapsWith e (some (.Name x pos')) pos.line X.env = pure false := by rfl)
    (hf : X.fn x = true ∨ X.env.scope.names.lookup x = some .local := by first | exact .inl rfl | exact .inr rfl | assumption) : VS X W (.Assign [.Name x pos'] e pos) (sSet i fa) := PSof (ps_set hN hi hx h hs hf) fun D₀ σ H ⟨b, F, c, env, st, e1, e2, r, p⟩ =>
  sE_at e1 e2 r p fun v d env1 st1 F1 c1 H1 s1 r1 rp1 p1 => PostS.here (r1.put rp1) p1
theorem vs_setF {i : Nat} {x : Str} {pos' : Pos} (hN : X.N.Nodup) (h : VF X W e fa) (hi : X.N[i]? = some x := by rfl) (hx : Loc X.env.scope x := by first | exact Or.inl rfl | exact Or.inr rfl) (hs : swapsWith e (some (.Name x pos')) pos.line X.env = pure false := by rfl)
    (hf : X.fn x = true ∨ X.env.scope.names.lookup x = some .local := by first | exact .inl rfl | exact .inr rfl | assumption) : VS X W (.Assign [.Name x pos'] e pos) (sSetF i fa) := PSof (ps_set hN hi hx h hs hf) fun D₀ σ H ⟨b, F, c, env, st, e1, e2, r, p⟩ =>
  sF_at e1 e2 r p fun a d env1 st1 F1 c1 H1 s1 r1 h1 h2 h3 h4 h5 p1 => PostS.here (r1.take h1 h2 h3 h4 h5) p1
/-- targets: what a value is stored to -/
def GSem (X : Cx) (g : TG) (is : List Nat) (t : D → EnvD → Option EnvD) : Prop := ∀ (b : Bs) (F : Addr → Prop) (c : List Addr) (env : EnvD) (st : Sto) (σ : L2.St) (H : Hp) (v : V) (d : D) (env' : EnvD) (Q : L2.St → Hp → Prop), b.K = X.K → b.mg = X.mg → Rel b F c env st σ H → Rp b.K b.mg F c H v d → t d env = some env' →
  (∀ σ', Rel b F c env' st σ' H → σ'.length = σ.length → (∀ i, i ∉ is → σ'[i]? = σ[i]?) → Q σ' H) → g v σ H Q
def VG (X : Cx) (tg : Expr) (g : TG) (is : List Nat) (t : D → EnvD → Option EnvD) : Prop := PG X tg g ∧ GSem X g is t
def gN (i : Nat) : D → EnvD → Option EnvD := fun d env => some (env.set i (.va d))
theorem vg_name {i : Nat} {x : Str} (hN : X.N.Nodup) (hi : X.N[i]? = some x := by rfl) (hx : Loc X.env.scope x := by first | exact Or.inl rfl | exact Or.inr rfl) (hf : X.fn x = true ∨ X.env.scope.names.lookup x = some .local := by first | exact .inl rfl | exact .inr rfl | assumption) : VG X (.Name x pos) (gName i) [i] (gN i) :=
  ⟨pg_name hN hi hx hf, fun b F c env st σ H v d env' Q _ _ r rp e q => by cases e; exact q _ (r.put rp) (List.length_set ..) fun j hj => List.getElem?_set_ne (fun e => hj (by rw [e]; exact List.mem_singleton.mpr rfl))⟩
def VGs (X : Cx) (ts : List Expr) (g : TGs) (is : List Nat) (t : List D → EnvD → Option EnvD) : Prop := PGs X ts g ∧ ∀ (b : Bs) (F : Addr → Prop) (c : List Addr) (env : EnvD) (st : Sto) (σ : L2.St) (H : Hp) (vs : List V) (ds : List D) (env' : EnvD) (Q : L2.St → Hp → Prop), b.K = X.K → b.mg = X.mg → Rel b F c env st σ H → Rps b.K b.mg F c H vs ds → t ds env = some env' →
  (∀ σ', Rel b F c env' st σ' H → σ'.length = σ.length → (∀ i, i ∉ is → σ'[i]? = σ[i]?) → Q σ' H) → g vs σ H Q
def gsN : List D → EnvD → Option EnvD
  | [], env => some env
  | _, _ => none
def gsC (t : D → EnvD → Option EnvD) (u : List D → EnvD → Option EnvD) : List D → EnvD → Option EnvD
  | d :: ds, env => (t d env).bind (u ds)
  | _, _ => none
theorem vgs_nil : VGs X [] gNil [] gsN := ⟨pgs_nil, fun b F c env st σ H vs ds env' Q _ _ r rp e q => by
  unfold gsN at e
  split at e
  · cases rp; cases e; exact ⟨rfl, q _ r rfl fun _ _ => rfl⟩
  · cases e⟩
theorem vgs_cons {es : List Expr} {t : D → EnvD → Option EnvD} {u : List D → EnvD → Option EnvD} {is js : List Nat} {g : TG} {g2 : TGs} (h : VG X e g is t) (h2 : VGs X es g2 js u) (hs : (assignEach (e :: es) X.env).map (·.2) = assign e X.env :: (assignEach es X.env).map (·.2) := by rfl) : VGs X (e :: es) (gCons g g2) (is ++ js) (gsC t u) := by
  obtain ⟨hg, kg⟩ := h
  obtain ⟨hg2, kg2⟩ := h2
  refine ⟨pgs_cons hg hg2 hs, fun b F c env st σ H vs ds env' Q e1 e2 r rp e q => ?_⟩
  cases rp with
  | nil => cases e
  | cons h hs' =>
    rename_i v vs d ds
    obtain ⟨env1, ea, eb⟩ := Option.bind_eq_some_iff.mp (show (t d env).bind (u ds) = some env' from e)
    exact ⟨_, _, rfl, kg b F c env st σ H _ d env1 _ e1 e2 r h ea fun σ' r' l1 k1 => kg2 b F c env1 st σ' H _ ds env' Q e1 e2 r' hs' eb fun σ2 r2 l2 k2 => q σ2 r2 (l2.trans l1) fun i hi => by
      simp only [List.mem_append, not_or] at hi
      rw [k2 i hi.2, k1 i hi.1]⟩
def gT (n : Nat) (t : List D → EnvD → Option EnvD) : D → EnvD → Option EnvD
  | .tup ds, env => if ds.length = n then t ds env else none
  | _, _ => none
theorem vg_tup {es : List Expr} {k n : Nat} {is : List Nat} {t : List D → EnvD → Option EnvD} {g : TGs} (hc : X.calm = true) (h : VGs X es g is t) (hn : (assignEach es X.env).length = n := by rfl) (hst : (assignEach es X.env).findIdx? (·.1) = none := by rfl) : VG X (.Tuple es k pos) (gTup X.K n g) is (gT n t) := by
  obtain ⟨hg, kg⟩ := h
  refine ⟨pg_tup hc hg hn hst, fun b F c env st σ H v d env' Q e1 e2 r rp e q => ?_⟩
  unfold gT at e
  split at e
  · split at e
    · rename_i hl
      cases rp with
      | tup h hs => exact ⟨_, _, rfl, e1 ▸ h.sq, by rw [hs.length]; exact hl, kg b F c env st σ H _ _ env' Q e1 e2 r hs e q⟩
    · cases e
  · cases e
def sAsg (t : D → EnvD → Option EnvD) (fa : M D) : M Fl := fun env st => (fa env st).bind fun d env st => match t d env with
  | some env => .ok .nx env st
  | none => .bad
theorem vs_asg {tg : Expr} {is : List Nat} {t : D → EnvD → Option EnvD} {gg : TG} (h : VE X W e fa) (hg : VG X tg gg is t) (hs : swapsWithSole [tg] e pos.line X.env = pure false := by rfl) (hw : swappedStores [tg] e X.env = pure none := by rfl)
    (h1 : (assignEach [tg] X.env).map (·.2) = [assign tg X.env] := by rfl) : VS X W (.Assign [tg] e pos) (sAsg t fa) := by
  obtain ⟨hg, kg⟩ := hg
  refine PSof (ps_asg h hg hs hw h1) fun D₀ σ H ⟨b, F, c, env, st, e1, e2, r, p⟩ => sE_at e1 e2 r p fun v d env1 st1 F1 c1 H1 s1 r1 rp1 p1 => ?_
  split at p1
  · rename_i env' e
    exact kg b F1 c1 env1 st1 σ H1 v d env' _ e1 e2 r1 rp1 e fun σ' r' _ _ => PostS.here (P := fun fl _ _ F c σ H => FlOk b D₀ F c σ H fl) r' p1
  · exact p1.elim
/-- a, b = x, y -/
def sPar (i j : Nat) (fs : M (List D)) : M Fl := fun env st => (fs env st).bind fun ds env st => match ds with
  | [d, d'] => .ok .nx ((env.set i (.va d)).set j (.va d')) st
  | _ => .bad
theorem vs_par {i j : Nat} {x y : Str} {fs : M (List D)} {px py pt : Pos} {kt k2 : Nat} {pt2 : Pos} (hc : X.calm = true) (hN : X.N.Nodup) (ha : VA X W [e, a] fs) (hi : X.N[i]? = some x := by rfl) (hj : X.N[j]? = some y := by rfl) (hij : i ≠ j := by decide)
    (hx : X.env.scope.names.lookup x = some .local := by rfl) (hy : X.env.scope.names.lookup y = some .local := by rfl)
    (hw : swappedStores [.Tuple [.Name x px, .Name y py] kt pt] (.Tuple [e, a] k2 pt2) X.env = pure (some [x, y]) := by rfl)
    (hs : swapsWithSole [.Tuple [.Name x px, .Name y py] kt pt] (.Tuple [e, a] k2 pt2) pos.line X.env = pure false := by rfl) :
    VS X W (.Assign [.Tuple [.Name x px, .Name y py] kt pt] (.Tuple [e, a] k2 pt2) pos) (sPar i j fs) := PSof (ps_par hc hN hi hj hij hx hy ha hw hs) fun D₀ σ H ⟨b, F, c, env, st, e1, e2, r, p⟩ =>
  sA_at e1 e2 r p fun vs ds env1 st1 F1 c1 H1 s1 r1 rp1 p1 => by
    split at p1
    · cases rp1 with
      | cons h t =>
        cases t with
        | cons h' t' =>
          cases t'
          exact ⟨_, _, rfl, PostS.here (P := fun fl _ _ F c σ H => FlOk b D₀ F c σ H fl) ((r1.put h).put h') p1⟩
    · exact p1.elim
end
end VE
namespace VE
open PySem PySem.Spec PyProof.Rows L2
variable [VEnv]
inductive RF where
  | ok (d : D) (st : Sto)
  | ex (x : Exn) (st : Sto)
  | bad
@[reducible] def FM := List D → Sto → RF
def env0 (n : Nat) (ds : List D) : EnvD := ds.map .va ++ List.replicate (n - ds.length) .no
def toRF (fr : Bool) : R Fl → RF
  | .ok .nx _ st => if fr then .bad else .ok .non st
  | .ok (.rt d) _ st => if fr then .bad else .ok d st
  | .ok (.rf d) _ st => .ok d st
  | .ok _ _ _ => .bad
  | .ex x _ st => .ex x st
  | .bad => .bad
def toF (fr : Bool) (n : Nat) (g : M Fl) : FM := fun ds st => toRF fr (g (env0 n ds) st)
section
variable (K : PySem.W.Frag) (mg : Str → Option Value)
structure Old (F : Addr → Prop) (c : List Addr) (H : Hp) (F' : Addr → Prop) (c' : List Addr) (H' : Hp) : Prop where
  keep : ∀ a o, H a = some o → a ∉ c → Kept H' a o
  new : ∀ a, F' a → F a ∨ H a = none
  nwc : ∀ a ∈ c', a ∈ c ∨ H a = none
def RetOk (fr : Bool) (F' : Addr → Prop) (c' : List Addr) (H H' : Hp) (v : V) (d : D) : Prop :=
  if fr then ∃ a, v = .ref a ∧ ¬ F' a ∧ a ∉ c' ∧ H a = none ∧ OwnAt K mg F' c' H' a d else Rp K mg F' c' H' v d
def PostF (fr : Bool) (F : Addr → Prop) (c : List Addr) (H : Hp) (Q : VK) (E : XK) : RF → Prop
  | .ok d st => ∀ v F' c' H', Stp F c H F' c' H' → RelC K mg F' c' st H' → Old F c H F' c' H' → RetOk K mg fr F' c' H H' v d → Q v H'
  | .ex x st => ∀ cls dx F' c' H', Stp F c H F' c' H' → RelC K mg F' c' st H' → Old F c H F' c' H' → RpX K mg F' c' H' cls dx x → E cls dx H'
  | .bad => False
def spV (fr : Bool) (n : Nat) (m : FM) : Sp := fun vs H Q E => ∃ F c ds st, RelC K mg F c st H ∧ Rps K mg F c H vs ds ∧ ds.length = n ∧ PostF K mg fr F c H Q E (m ds st)
end
section
variable {P : Program} {w : World} {K : PySem.W.Frag} {mg : Str → Option Value} {base : Heap} {b : Bs} {F F' : Addr → Prop} {c c' : List Addr} {env : EnvD} {st st' : Sto} {σ : L2.St} {H H' : Hp}
theorem Rel.oldOf (r : Rel b F' c' env st σ H') : (∀ a ∈ b.c0, a ∈ c') → Old b.F0 b.c0 b.H0 F' c' H' := fun hc => by
  refine ⟨fun a o e hn => r.old a o e fun hm => ?_, r.new, r.nwc⟩
  rcases r.nwc a hm with h | h
  · exact hn h
  · rw [e] at h; cases h
/-- the state at a def's entry -/
theorem rel_start {n : Nat} {vs : List V} {ds : List D} (rc : RelC K mg F c st H) (rp : Rps K mg F c H vs ds) (N : List Str) (hn : n = N.length) : Rel ⟨K, mg, H, F, c⟩ F c (env0 n ds) st (L2.start N vs) H := by
  refine ⟨rc, ?_, fun i s e => ?_, fun i j a h => ?_, fun a o e _ => .inl e, fun a h => .inl h, fun a h => .inl h, rc.trk, fun a h => rc.ctrk h⟩
  · unfold env0 L2.start
    simp only [List.length_append, List.length_map, List.length_replicate, rp.length, hn]
  · unfold env0 at e
    by_cases hi : i < ds.length
    · rw [List.getElem?_append_left (by simpa using hi), List.getElem?_map] at e
      cases hd : ds[i]? with
      | none => rw [hd] at e; cases e
      | some d =>
        rw [hd] at e; cases e
        obtain ⟨v, hv, h⟩ := rp.get' hd
        refine ⟨v, ?_, h⟩
        unfold L2.start
        rw [List.getElem?_append_left (by rw [List.length_map, rp.length]; exact hi), List.getElem?_map, hv]
        rfl
    · rw [List.getElem?_append_right (by simpa using hi), List.getElem?_replicate] at e
      split at e
      · cases e; trivial
      · cases e
  · obtain ⟨d, e, _⟩ := h
    unfold env0 at e
    by_cases hi : i < ds.length
    · rw [List.getElem?_append_left (by simpa using hi), List.getElem?_map] at e
      cases hd : ds[i]? with
      | none => rw [hd] at e; cases e
      | some d => rw [hd] at e; cases e
    · rw [List.getElem?_append_right (by simpa using hi), List.getElem?_replicate] at e
      split at e <;> cases e
/-- from what a def wants to what its body must give -/
theorem okV_post {fr : Bool} {F : Addr → Prop} {c : List Addr} {H : Hp} {Q : VK} {E : XK} {y : R Fl} (p : PostF K mg fr F c H Q E (toRF fr y)) : PostS ⟨K, mg, H, F, c⟩ (fun cls d _ H => E cls d H) F c H (fun fl _ _ F' c' σ' H' => FlOk ⟨K, mg, H, F, c⟩ { nx := fun _ H' => Q .non H', rt := Q } F' c' σ' H' fl) y := by
  cases y with
  | bad => exact p
  | ex x env' st' => exact fun σ' F' c' H' cls d s r q => p cls d F' c' H' s r.rc (r.oldOf fun a ha => by obtain ⟨l, e⟩ := s.cs; rw [e]; exact List.mem_append_left _ ha) q
  | ok fl env' st' =>
    intro σ' F' c' H' s r
    have old : Old F c H F' c' H' := r.oldOf fun a ha => by obtain ⟨l, e⟩ := s.cs; rw [e]; exact List.mem_append_left _ ha
    cases fl with
    | nx =>
      cases fr with
      | true => exact p.elim
      | false => exact p .non F' c' H' s r.rc old .non
    | rt d =>
      cases fr with
      | true => exact p.elim
      | false => exact fun v rv => p v F' c' H' s r.rc old rv
    | rf d =>
      intro a h1 h2 h3 h4
      cases fr with
      | true => exact p _ F' c' H' s r.rc old ⟨a, rfl, h1, h2, h3, h4⟩
      | false =>
        have s2 : Stp F' c' H' (FAdd F' a) c' H' := ⟨fun _ h => .inl h, fun _ _ _ h => h, ⟨[], (List.append_nil c').symm⟩, fun _ _ h => h, fun _ _ _ h => h⟩
        refine p _ (FAdd F' a) c' H' (s.trans s2) (r.rc.stp s2 (fun x hf => ?_) (fun _ _ => rfl) (fun x hx hf => ?_) (fun _ _ h => h) (fun _ _ h => h) fun d ps e hf => hf.elim id fun z => absurd (z ▸ e) (h4.ntbl ps)) ⟨old.keep, fun x hf => ?_, old.nwc⟩ h4.rp
        · rcases hf with hf | rfl
          · exact r.rc.trk x hf
          · exact h4.trk
        · rcases hf with hf | rfl
          · exact r.rc.nf x hx hf
          · exact h2 hx
        · rcases hf with hf | rfl
          · exact old.new x hf
          · exact .inr h3
    | bk => exact p.elim
    | ct => exact p.elim
/-- a def keeps what its body tells -/
theorem okV {x qual : Str} {stm : Stmt} {f : Addr} {fd : FuncData} {N ps : List Str} {k n np : Nat} {g : M Fl} (fr : Bool) (Fn : Fun K x qual stm f fd) (S : FnScope N ps (defScope stm)) (hn : n = N.length) (hp : np = ps.length)
    (hb : ∀ (cdv : Value) (A : Around) (outer : List Env) (s : Shared) (H : Hp) (E : XK), Room k (A.deeper (envOfC qual (defScope stm) s.heap.objs.size f cdv)) →
      VSs (cxOf (L2.CX P w) P w K mg base N qual (defScope stm) f cdv A outer s H E) (fun cls d _ H => E cls d H) (defBody stm) g) : FnOk P w K mg base (L2.CX P w) (k + 1) f fd ps (spV K mg fr np (toF fr n g)) := by
  refine Fn.okX S (fun vs H Q E h => ?_) (fun cdv A outer s H vs Q E hr h => ?_)
  · obtain ⟨F, c, ds, st, _, rp, hl, _⟩ := h
    rw [rp.length, hl, hp]
  · obtain ⟨F, c, ds, st, rc, rp, hl, p⟩ := h
    refine ⟨_, hb cdv A outer s H E hr, ⟨K, mg, H, F, c⟩, F, c, env0 n ds, st, rfl, rfl, rel_start rc rp N hn, ?_⟩
    unfold toF at p
    generalize g (env0 n ds) st = y at p
    exact okV_post p
/-- a def of the module by its name -/
structure FnV (P : Program) (w : World) (K : PySem.W.Frag) (mg : Str → Option Value) (base : Heap) (k : Nat) (x : Str) (fr : Bool) (n : Nat) (m : FM) : Prop where
  ex : ∃ f fd ps, FnOk P w K mg base (L2.CX P w) k f fd ps (spV K mg fr n m) ∧ mg x = some (.ref f) ∧ PySem.W.keepIn K (.ref f) = true ∧ Binds K fd ps []
/-- behind a call -/
theorem Rel.call (r : Rel b F c env st σ H) (s : Stp F c H F' c' H') (rc : RelC b.K b.mg F' c' st' H') (o : Old F c H F' c' H') : Rel b F' c' env st' σ H' := by
  refine ⟨rc, r.len, fun i sl he => ?_, r.ds, fun a x e hc => ?_, fun a hf => ?_, fun a ha => ?_, r.f0, r.k0⟩
  · have q := r.sl i sl he
    cases sl with
    | no => trivial
    | va d => obtain ⟨v, e, p⟩ := q; exact ⟨v, e, p.stp s⟩
    | gh cells vals => exact GhOk.stp q s
    | xc xi x => exact ⟨q.1, q.2.stp s⟩
    | ow d =>
      obtain ⟨a, e, p1, p2, p3, p4⟩ := q
      obtain ⟨_, _, _, x, ex⟩ := r.own (i := i) ⟨d, he, e⟩
      refine ⟨a, e, fun hf => ?_, fun hc => ?_, p3, p4.stp s ?_⟩
      · rcases o.new a hf with h | h
        · exact p1 h
        · rw [ex] at h; cases h
      · rcases o.nwc a hc with h | h
        · exact p2 h
        · rw [ex] at h; cases h
      · rw [ex]; exact (o.keep a x ex p2).same fun ps z => p4.ntbl ps (z ▸ ex)
  · have hc' : a ∉ c := fun h => hc (by obtain ⟨l, e⟩ := s.cs; rw [e]; exact List.mem_append_left _ h)
    exact (r.old a x e hc').up fun y h => o.keep a y h hc'
  · rcases o.new a hf with h | h
    · exact r.new a h
    · exact .inr (r.H0none h)
  · rcases o.nwc a ha with h | h
    · exact r.nwc a h
    · exact .inr (r.H0none h)
end
section
variable {X : Cx} {W : WX} {e a : Expr} {es : List Expr} {pos p : Pos} {fs : M (List D)} {x : Str} {k j n : Nat} {m : FM}
def callR (m : FM) (ds : List D) : M D := fun env st => match m ds st with
  | .ok d st => .ok d env st
  | .ex x st => .ex x env st
  | .bad => .bad
def eCall (m : FM) (n : Nat) (fs : M (List D)) : M D := fun env st => (fs env st).bind fun ds env st => if ds.length = n then callR m ds env st else .bad
theorem call_of {fr : Bool} {b : Bs} {F : Addr → Prop} {c : List Addr} {env : EnvD} {st : Sto} {σ : L2.St} {H : Hp} {vs : List V} {ds : List D} {Q : VK} {Pk : D → EnvD → Sto → (Addr → Prop) → List Addr → Hp → Prop} (e1 : b.K = X.K) (e2 : b.mg = X.mg) (r : Rel b F c env st σ H) (rp : Rps b.K b.mg F c H vs ds) (hl : ds.length = n)
    (p : Post b W F c σ H Pk (callR m ds env st)) (hq : ∀ v d st F' c' H', Stp F c H F' c' H' → Rel b F' c' env st σ H' → RetOk b.K b.mg fr F' c' H H' v d → Pk d env st F' c' H' → Q v H') : spV X.K X.mg fr n m vs H Q (WE W σ) := by
  rw [← e1, ← e2]
  refine ⟨F, c, ds, st, r.rc, rp, hl, ?_⟩
  unfold callR at p
  generalize m ds st = y at p
  cases y with
  | ok d st' => exact fun v F' c' H' s rc o rv => hq v d st' F' c' H' s (r.call s rc o) rv (p F' c' H' s (r.call s rc o))
  | ex x st' => exact fun cls dx F' c' H' s rc o rx => p F' c' H' cls dx s (r.call s rc o) rx
  | bad => exact p
theorem ve_call (Fv : FnV X.prog X.w X.K X.mg X.base k x false n m) (hr : Room k X.A) (tk : Takes X W) (ha : VA X W (e :: es) fs) (hg : Gl X x := by rfl) (hdb : (x == ("__debug__" : Str)) = false := by decide)
    (he : starEach (e :: es) X.env = (false, eval e X.env) :: starEach es X.env := by rfl) (hpl : (backTo pos (starEach es X.env)).any (·.1) = false := by rfl) : VE X W (.Call (.Name x p) (e :: es) [] pos) (eCall m n fs) := by
  obtain ⟨f, fd, ps, Fo, hm, hk, hb⟩ := Fv.ex
  refine PEof (pe_callS Fo hr hg hm hk hb (passAt tk) ha hdb he hpl) fun σ H Q ⟨b, F, c, env, st, e1, e2, r, pp⟩ => tA_at e1 e2 r pp fun vs ds env1 st1 F1 c1 H1 s1 r1 rp1 p1 => ?_
  split at p1
  · rename_i hl
    exact call_of e1 e2 r1 rp1 hl p1 fun v d st F' c' H' s r rv q => q v rv
  · exact p1.elim
end
end VE
namespace VE
open PySem PySem.Spec PyProof.Rows L2
variable [VEnv]
def wipeD (ws : List Nat) (env : EnvD) : EnvD := ws.foldl (fun e i => e.set i .no) env
theorem wipeD_length : ∀ (ws : List Nat) (env : EnvD), (wipeD ws env).length = env.length
  | [], _ => rfl
  | i :: ws, env => by
    show (wipeD ws (env.set i .no)).length = _
    rw [wipeD_length ws, List.length_set]
theorem wipeD_get : ∀ (ws : List Nat) (env : EnvD) (i : Nat) (s : Sl), (wipeD ws env)[i]? = some s → (s = .no) ∨ (i ∉ ws ∧ env[i]? = some s)
  | [], env, i, s, h => .inr ⟨by simp, h⟩
  | j :: ws, env, i, s, h => by
    have h' : (wipeD ws (env.set j .no))[i]? = some s := h
    rcases wipeD_get ws (env.set j .no) i s h' with q | ⟨h1, h2⟩
    · exact .inl q
    · by_cases q : j = i
      · subst q
        by_cases hl : j < env.length
        · rw [List.getElem?_set_self hl] at h2; cases h2; exact .inl rfl
        · rw [List.getElem?_eq_none (by simpa using hl)] at h2; cases h2
      · rw [List.getElem?_set_ne q] at h2
        exact .inr ⟨by simp only [List.mem_cons, not_or]; exact ⟨fun e => q e.symm, h1⟩, h2⟩
section
variable {X : Cx} {W : WX} {b : Bs} {F F' : Addr → Prop} {c c' : List Addr} {env : EnvD} {st st' : Sto} {σ : L2.St} {H H' : Hp}
theorem Rel.wipe (r : Rel b F c env st σ H) : ∀ ws : List Nat, Rel b F c (wipeD ws env) st σ H := by
  intro ws
  induction ws generalizing env with
  | nil => exact r
  | cons i ws ih => exact ih (r.forget i)
/-- the state over the slots with those of vs wiped, and over all -/
theorem wipe_at : ∀ (vs : List Nat) (σ : L2.St) (i : Nat), i ∉ vs → (wipe σ vs)[i]? = σ[i]?
  | [], _, _, _ => rfl
  | j :: vs, σ, i, h => by
    simp only [List.mem_cons, not_or] at h
    show ((wipe σ vs).set j none)[i]? = _
    rw [List.getElem?_set_ne (fun e => h.1 e.symm)]
    exact wipe_at vs σ i h.2
theorem Rel.reslot {σ' : L2.St} (r : Rel b F c env st σ H) (hl : σ'.length = σ.length) (h : ∀ (i : Nat) (s : Sl), env[i]? = some s → s = .no ∨ σ'[i]? = σ[i]?) : Rel b F c env st σ' H := by
  have own : ∀ {i a}, OwnA env σ' i a → OwnA env σ i a := fun {i a} ⟨d, e, e'⟩ => by
    rcases h i _ e with q | q
    · cases q
    · exact ⟨d, e, by rw [← q]; exact e'⟩
  refine ⟨r.rc, by rw [hl]; exact r.len, fun i s e => ?_, fun i j a h1 h2 => r.ds i j a (own h1) (own h2), r.old, r.new, r.nwc, r.f0, r.k0⟩
  have q := r.sl i s e
  rcases h i s e with z | z
  · rw [z]; trivial
  · cases s with
    | no => trivial
    | va d => obtain ⟨v, e', p⟩ := q; exact ⟨v, by rw [z]; exact e', p⟩
    | ow d => obtain ⟨a, e', p⟩ := q; exact ⟨a, by rw [z]; exact e', p⟩
    | gh cells vals => exact q
    | xc xi x => exact ⟨by rw [z]; exact q.1, q.2⟩
theorem Rel.toWipe (r : Rel b F c env st σ H) (vs : List Nat) : Rel b F c (wipeD vs env) st (L2.wipe σ vs) H :=
  (r.wipe vs).reslot (wipe_length σ vs) fun i s e => by
    rcases wipeD_get vs env i s e with q | ⟨q, _⟩
    · exact .inl q
    · exact .inr (wipe_at vs σ i q)
theorem Rel.ofWipe {vs : List Nat} (r : Rel b F c env st (L2.wipe σ vs) H) : Rel b F c (wipeD vs env) st σ H :=
  (r.wipe vs).reslot (wipe_length σ vs).symm fun i s e => by
    rcases wipeD_get vs env i s e with q | ⟨q, _⟩
    · exact .inl q
    · exact .inr (wipe_at vs σ i q).symm

/-- what a turn yields: data as it stands, or a tuple that is made for it -/
def YOk (b : Bs) (F : Addr → Prop) (c : List Addr) (H H2 : Hp) (x : V) (d : D) : Prop :=
  (H2 = H ∧ Rp b.K b.mg F c H x d) ∨ ∃ T xs es, x = .ref T ∧ H T = none ∧ H2 = upd H T (.tup xs) ∧ d = .tup es ∧ Rps b.K b.mg F c H xs es
def Walks (b : Bs) (J : It) (ds : List D) (F : Addr → Prop) (c : List Addr) (H : Hp) : Prop :=
  ∀ F' c' H', Stp F c H F' c' H' → ∀ i, (∀ d, ds[i]? = some d → J.go i H' ∧ ∀ x H2, J.yld i H' x H2 → YOk b F' c' H' H2 x d) ∧ (ds.length ≤ i → J.stop i H')
def VI (X : Cx) (W : WX) (tg iter : Expr) (f : M (List D)) : Prop := ∃ wi : TI, PI X tg iter wi ∧ ∀ σ H R, At X W f σ H (fun b ds _ _ F c H' => ∀ J, Walks b J ds F c H' → R J H') → wi σ H R
theorem Rel.yield (r : Rel b F c env st σ H) {x : V} {d : D} {H2 : Hp} (y : YOk b F c H H2 x d) : ∃ F2, Stp F c H F2 c H2 ∧ Rel b F2 c env st σ H2 ∧ Rp b.K b.mg F2 c H2 x d := by
  rcases y with ⟨rfl, rp⟩ | ⟨T, xs, es, rfl, hT, rfl, rfl, rps⟩
  · exact ⟨F, .refl, r, rp⟩
  · obtain ⟨s, r2⟩ := r.newF hT (.tup xs)
    exact ⟨_, s, r2, .tup (.inl ⟨.inr rfl, upd_same⟩) (rps.stp s)⟩
theorem walks_list {a : Addr} {xs : List V} {ds : List D} (hF : F a) (hx : H a = some (.lst xs)) (r : Rps b.K b.mg F c H xs ds) : Walks b (Itl b.K a) ds F c H := by
  intro F' c' H' s i
  have h' := s.keep a _ hF hx
  have r' := r.stp s
  refine ⟨fun d hd => ?_, fun hi => ⟨xs, SqL.of h', by rw [r.length]; exact hi⟩⟩
  obtain ⟨v, hv, rp⟩ := r'.get' hd
  refine ⟨⟨xs, v, SqL.of h', hv⟩, fun x H2 y => ?_⟩
  obtain ⟨rfl, y⟩ := y
  have e := y xs (SqL.of h')
  rw [hv] at e; cases e
  exact .inl ⟨rfl, rp⟩
theorem walks_tup {a : Addr} {xs : List V} {ds : List D} (hx : FqT b.K F H a xs) (r : Rps b.K b.mg F c H xs ds) : Walks b (Itt b.K a) ds F c H := by
  intro F' c' H' s i
  have h' := hx.stp s
  have r' := r.stp s
  refine ⟨fun d hd => ?_, fun hi => ⟨xs, h'.sq, by rw [r.length]; exact hi⟩⟩
  obtain ⟨v, hv, rp⟩ := r'.get' hd
  refine ⟨⟨xs, v, h'.sq, hv⟩, fun x H2 y => ?_⟩
  obtain ⟨rfl, y⟩ := y
  have e := y xs h'.sq
  rw [hv] at e; cases e
  exact .inl ⟨rfl, rp⟩
def rngD (lo : Int) (n : Nat) : List D := (List.range n).map fun i => .int (lo + (i : Nat))
theorem walks_rng {lo : Int} {n : Nat} : Walks b (Itr lo n) (rngD lo n) F c H := by
  intro F' c' H' s i
  unfold rngD
  refine ⟨fun d hd => ?_, fun hi => by show n ≤ i; simpa using hi⟩
  rw [List.getElem?_map] at hd
  by_cases hi : i < n
  · rw [List.getElem?_range hi] at hd; cases hd
    refine ⟨hi, fun x H2 y => ?_⟩
    obtain ⟨rfl, rfl⟩ := y
    exact .inl ⟨rfl, .int _⟩
  · rw [List.getElem?_eq_none (by simpa using hi)] at hd; cases hd
def signsD (x : Str) : List D := x.cps.toList.map fun ch => .str ⟨#[ch]⟩
theorem walks_str {x : Str} : Walks b (Its x) (signsD x) F c H := by
  intro F' c' H' s i
  unfold signsD
  refine ⟨fun d hd => ?_, fun hi => by show x.cps.size ≤ i; simpa using hi⟩
  rw [List.getElem?_map] at hd
  by_cases hi : i < x.cps.size
  · have e : x.cps.toList[i]? = some x.cps[i] := by simp [hi]
    rw [e] at hd; cases hd
    refine ⟨hi, fun v H2 y => ?_⟩
    obtain ⟨rfl, ch, hc, rfl⟩ := y
    have e2 : x.cps[i]? = some x.cps[i] := by simp [hi]
    rw [e2] at hc; cases hc
    exact .inl ⟨rfl, .str _⟩
  · rw [List.getElem?_eq_none (by simpa using hi)] at hd; cases hd
variable {e a tg iter : Expr} {pos p : Pos} {fa : M D} {fs : M (List D)}
/-- a bound that range takes: kept shut, so that the kernel does not reckon it -/
noncomputable def rOk (j : Int) : Bool := @decide (-(2 ^ 62) ≤ j ∧ j < 2 ^ 62) (Classical.propDecidable _)
omit [VEnv] in
theorem rOk_iff {j : Int} : rOk j = true ↔ -(2 ^ 62) ≤ j ∧ j < 2 ^ 62 := by unfold rOk; exact @decide_eq_true_iff _ (Classical.propDecidable _)
noncomputable def iR1 (fa : M D) : M (List D) := fun env st => (fa env st).bind fun d env st => match d with
  | .int j => if rOk j then .ok (rngD 0 j.toNat) env st else .bad
  | _ => .bad
theorem vi_r1 (hm : X.mg "range" = none) (h : VE X W e fa) (hg : Gl X "range" := by rfl) (hs : starEach [e] X.env = [(false, eval e X.env)] := by rfl) : VI X W tg (.Call (.Name "range" p) [e] [] pos) (iR1 fa) :=
  ⟨_, pi_range1 hg hm (pa_cons h pa_nil (by rw [hs]; rfl)) hs, fun σ H R ⟨b, F, c, env, st, e1, e2, r, p⟩ => tE_at e1 e2 r p fun v d env1 st1 F1 c1 H1 s1 r1 rp1 p1 => by
    split at p1
    · cases rp1
      split at p1
      · rename_i j hj
        rw [rOk_iff] at hj
        exact ⟨_, rfl, hj.1, hj.2, Post.here r1 p1 _ walks_rng⟩
      · exact p1.elim
    · exact p1.elim⟩
def forL (t : D → EnvD → Option EnvD) (ws : List Nat) (g : M Fl) : List D → M Fl
  | [], env, st => .ok .nx env st
  | d :: ds, env, st => match t d env with
    | none => .bad
    | some env => (g env st).bind fun fl env st => match fl with
      | .nx => forL t ws g ds (wipeD ws env) st
      | .ct => forL t ws g ds (wipeD ws env) st
      | .bk => .ok .nx env st
      | .rt d => .ok (.rt d) env st
      | .rf d => .ok (.rf d) env st
def sFor (fi : M (List D)) (t : D → EnvD → Option EnvD) (ws : List Nat) (g : M Fl) : M Fl := fun env st => (fi env st).bind fun ds env st => forL t ws g ds env st
theorem vs_for {body : List Stmt} {is : List Nat} {gg : TG} {fi : M (List D)} {t : D → EnvD → Option EnvD} {g : M Fl} (ws : List Nat) (hp : PassesOwn (model X.prog X.w) X.A X.env X.xe) (hc : X.calm = true) (hi : VI X W tg iter fi) (hg : VG X tg gg is t) (hb : VSs X W body g)
    (hs : ∀ x, foldedSetIterable iter X.env x = pure x := by intro _; rfl) : VS X W (.For tg iter body [] pos) (sFor fi t ws g) := by
  obtain ⟨wi, pi, ki⟩ := hi
  obtain ⟨pg, kg⟩ := hg
  refine PSof (ps_for hp hc pi pg hb hs) fun D₀ σ H ⟨b, F, c, env, st, e1, e2, r, p⟩ => ?_
  refine ki σ H _ ⟨b, F, c, env, st, e1, e2, r, (PostS.of p).mono fun ds env1 st1 F1 c1 H1 s1 r1 p1 J wk => ?_⟩
  refine ⟨fun i m σ' H' => m = ds.length - i ∧ i ≤ ds.length ∧ ∃ F' c' env' st', Stp F1 c1 H1 F' c' H' ∧ Rel b F' c' env' st' σ' H' ∧ PostS b W F' c' H' (fun fl _ _ F c σ H => FlOk b D₀ F c σ H fl) (forL t ws g (ds.drop i) env' st'),
    ⟨ds.length, by simp, Nat.zero_le _, F1, c1, env1, st1, .refl, r1, p1⟩, fun i m σ' H' hw => ?_⟩
  obtain ⟨rfl, hi, F', c', env', st', s', r', p'⟩ := hw
  obtain ⟨wgo, wstop⟩ := wk F' c' H' s' i
  by_cases hlt : i < ds.length
  · refine .inr ?_
    obtain ⟨go, yl⟩ := wgo ds[i] (List.getElem?_eq_getElem hlt)
    refine ⟨go, _, fun σ2 H2 n => ⟨ds.length - (i + 1), by omega, n⟩, fun x H2 y => ?_⟩
    obtain ⟨F2, s2, r2, rp⟩ := r'.yield (yl x H2 y)
    rw [List.drop_eq_getElem_cons hlt] at p'
    unfold forL at p'
    split at p'
    · exact p'.elim
    · rename_i env2 et
      refine kg b F2 c' env' st' σ' H2 x _ env2 _ e1 e2 r2 rp et fun σ3 r3 _ _ => ?_
      refine ⟨b, F2, c', env2, st', e1, e2, r3, (PostS.bind (p'.stp s2)).mono fun fl env4 st4 F4 c4 σ4 H4 s4 r4 q => ?_⟩
      cases fl with
      | nx => exact ⟨rfl, by omega, F4, c4, _, st4, s'.trans (s2.trans s4), r4.wipe ws, q⟩
      | ct => exact ⟨rfl, by omega, F4, c4, _, st4, s'.trans (s2.trans s4), r4.wipe ws, q⟩
      | bk => exact PostS.here r4 q
      | rt d => exact PostS.here r4 q
      | rf d => exact PostS.here r4 q
  · have e : i = ds.length := by omega
    subst e
    rw [List.drop_length] at p'
    exact .inl ⟨wstop (Nat.le_refl _), PostS.here r' p'⟩

def compL (t : D → EnvD → Option EnvD) (ws : List Nat) (tt : M Bool) (fe : M D) : List D → List D → M D
  | [], acc, env, st => .ok (.lst acc) (wipeD ws env) st
  | d :: ds, acc, env, st => match t d (wipeD ws env) with
    | none => .bad
    | some env => match tt env st with
      | .ok true env st => (match fe env st with
        | .ok y env st => if acc.length < 16777216 then compL t ws tt fe ds (acc ++ [y]) env st else .bad
        | _ => .bad)
      | .ok false env st => compL t ws tt fe ds acc env st
      | _ => .bad
def eComp (fi : M (List D)) (t : D → EnvD → Option EnvD) (ws : List Nat) (tt : M Bool) (fe : M D) : M D := fun env st => (fi env st).bind fun ds env st => compL t ws tt fe ds [] env st
@[reducible] def W0 : WX := fun _ _ _ _ => False
theorem wipe_same {σ σ' : L2.St} {is vs : List Nat} (hl : σ'.length = σ.length) (h : ∀ i, i ∉ is → σ'[i]? = (L2.wipe σ vs)[i]?) (hs : ∀ i ∈ is, i ∈ vs) : L2.wipe σ' vs = L2.wipe σ vs := by
  apply List.ext_getElem?
  intro i
  by_cases hi : i ∈ vs
  · have key : ∀ (τ : L2.St) (vs : List Nat), i ∈ vs → (L2.wipe τ vs)[i]? = if i < τ.length then some none else none := by
      intro τ vs
      induction vs with
      | nil => intro h; cases h
      | cons j vs ih =>
        intro h
        show ((L2.wipe τ vs).set j none)[i]? = _
        by_cases q : j = i
        · subst q
          by_cases hlt : j < τ.length
          · rw [if_pos hlt, List.getElem?_set_self (by rw [wipe_length]; exact hlt)]
          · rw [if_neg hlt, List.getElem?_eq_none (by rw [List.length_set, wipe_length]; omega)]
        · rw [List.getElem?_set_ne q]
          exact ih (by rcases List.mem_cons.mp h with e | e; exact absurd e.symm q; exact e)
    rw [key σ' vs hi, key σ vs hi, hl]
  · rw [wipe_at vs σ' i hi, h i fun hm => hi (hs i hm)]
/-- the new list of a comprehension is set aside while an element is made -/
def Bs.aside (b : Bs) (a : Addr) (o : HO) : Bs := { b with H0 := upd b.H0 a o }
theorem Rel.aside {a : Addr} {o : HO} (r : Rel b F c env st σ H) (h1 : ¬ F a) (h2 : a ∉ c) (h4 : ∀ i, ¬ OwnA env σ i a) (ho : H a = some o) : Rel (b.aside a o) F c env st σ H := by
  have up : ∀ x, x ≠ a → (b.aside a o).H0 x = b.H0 x := fun x hx => upd_ne hx
  have tr : ∀ x, (∃ y, b.H0 x = some y) → ∃ y, (b.aside a o).H0 x = some y := fun x ⟨y, e⟩ => by
    by_cases hx : x = a
    · exact ⟨o, by rw [hx]; exact upd_same⟩
    · exact ⟨y, by rw [up x hx]; exact e⟩
  refine ⟨r.rc, r.len, fun i s e => ?_, r.ds, fun x y e hc => ?_, fun x hx => ?_, fun x hx => ?_, fun x hx => tr x (r.f0 x hx), fun x hx => tr x (r.k0 x hx)⟩
  · have q := r.sl i s e
    cases s with
    | no => trivial
    | va d => exact q
    | gh cells vals => exact q
    | xc xi x => exact q
    | ow d =>
      obtain ⟨a', e', p1, p2, p3, p4⟩ := q
      refine ⟨a', e', p1, p2, ?_, p4⟩
      rw [up a' fun z => h4 i ⟨d, e, by rw [← z]; exact e'⟩]
      exact p3
  · by_cases hx : x = a
    · subst hx
      have : upd b.H0 x o x = some y := e
      rw [upd_same] at this; cases this; exact .inl ho
    · rw [up x hx] at e; exact r.old x y e hc
  · rcases r.new x hx with h | h
    · exact .inl h
    · exact .inr (by rw [up x fun z => h1 (z ▸ hx)]; exact h)
  · rcases r.nwc x hx with h | h
    · exact .inl h
    · exact .inr (by rw [up x fun z => h2 (z ▸ hx)]; exact h)
theorem Rel.unaside {a : Addr} {o o' : HO} (r : Rel (b.aside a o) F c env st σ H) (ho : NotOwn o) (hot : ∀ ps, o ≠ .tbl ps) (h0 : b.H0 a = none) (f0 : ∀ a, b.F0 a → ∃ o, b.H0 a = some o) (k0 : ∀ a ∈ b.c0, ∃ o, b.H0 a = some o) (hoz : ∀ y u, o ≠ .frz y u := by intro _ _ z; cases z) : (¬ F a ∧ a ∉ c ∧ (∀ i, ¬ OwnA env σ i a) ∧ H a = some o) ∧ Stp F c H F c (upd H a o') ∧ Rel b F c env st σ (upd H a o') := by
  have ha : (b.aside a o).H0 a = some o := upd_same
  have hf : ¬ b.F0 a := fun h => by
    obtain ⟨o, e⟩ := f0 a h
    rw [h0] at e; cases e
  have hc0 : a ∉ b.c0 := fun h => by
    obtain ⟨o, e⟩ := k0 a h
    rw [h0] at e; cases e
  have up : ∀ x, x ≠ a → (b.aside a o).H0 x = b.H0 x := fun x hx => upd_ne hx
  have nF : ¬ F a := fun h => by
    rcases r.new a h with q | q
    · exact hf q
    · rw [ha] at q; cases q
  have nc : a ∉ c := fun h => by
    rcases r.nwc a h with q | q
    · exact hc0 q
    · rw [ha] at q; cases q
  have nO : ∀ i, ¬ OwnA env σ i a := fun i h => by
    obtain ⟨_, _, q, _⟩ := r.own h
    rw [ha] at q; cases q
  have s : Stp F c H F c (upd H a o') := ⟨fun _ h => h, fun x y f e => by rw [upd_ne (fun z : x = a => nF (z ▸ f))]; exact e, ⟨[], (List.append_nil c).symm⟩, own_upd fun x z => by rw [(r.old a o ha nc).same hot] at z; exact ho x (Option.some.inj z), lck_upd fun y u z => by rw [(r.old a o ha nc).same hot] at z; exact hoz y u (Option.some.inj z)⟩
  have ne : ∀ x, x ≠ a → upd H a o' x = H x := fun x h => upd_ne h
  refine ⟨⟨nF, nc, nO, (r.old a o ha nc).same hot⟩, s, r.rc.stp s (fun x hx => ?_) (fun x hx => ne x fun z => nc (z ▸ hx)) r.rc.nf (fun d x e => by rw [ne d fun z => by rw [z, (r.old a o ha nc).same hot] at e; exact ho x (Option.some.inj e)]; exact e) (fun d ps e => by rw [ne d fun z => by rw [z, (r.old a o ha nc).same hot] at e; exact hot ps (Option.some.inj e)]; exact e) (fun _ _ _ h => h), r.len, fun i sl e => ?_, r.ds, fun x y e hc => ?_, fun x hx => ?_, fun x hx => ?_, f0, k0⟩
  · obtain ⟨y, e⟩ := r.rc.trk x hx
    exact ⟨y, s.keep x y hx e⟩
  · have q := r.sl i sl e
    cases sl with
    | no => trivial
    | va d => obtain ⟨v, e', p⟩ := q; exact ⟨v, e', p.stp s⟩
    | gh cells vals => exact GhOk.stp q s
    | xc xi x => exact ⟨q.1, q.2.stp s⟩
    | ow d =>
      obtain ⟨a', e', p1, p2, p3, p4⟩ := q
      have hne : a' ≠ a := fun z => nO i ⟨d, e, by rw [← z]; exact e'⟩
      exact ⟨a', e', p1, p2, by rw [← up a' hne]; exact p3, p4.stp s (ne a' hne)⟩
  · have hne : x ≠ a := fun z => by rw [z, h0] at e; cases e
    exact (r.old x y (by rw [up x hne]; exact e) hc).up fun w h => .inl (by rw [ne x hne]; exact h)
  · rcases r.new x hx with h | h
    · exact .inl h
    · exact .inr (by rw [← up x fun z => nF (z ▸ hx)]; exact h)
  · rcases r.nwc x hx with h | h
    · exact .inl h
    · exact .inr (by rw [← up x fun z => nc (z ▸ hx)]; exact h)
theorem wipeD_in : ∀ (ws : List Nat) (env : EnvD) (i : Nat), i ∈ ws → i < env.length → (wipeD ws env)[i]? = some .no
  | j :: ws, env, i, h, hl => by
    show (wipeD ws (env.set j .no))[i]? = _
    by_cases hi : i ∈ ws
    · exact wipeD_in ws _ i hi (by rw [List.length_set]; exact hl)
    · have e : i = j := by rcases List.mem_cons.mp h with e | e; exact e; exact absurd e hi
      subst e
      have key : ∀ (ws : List Nat) (env : EnvD), i ∉ ws → (wipeD ws env)[i]? = env[i]? := by
        intro ws
        induction ws with
        | nil => intro _ _; rfl
        | cons k ws ih =>
          intro env h
          simp only [List.mem_cons, not_or] at h
          show (wipeD ws (env.set k .no))[i]? = _
          rw [ih _ h.2, List.getElem?_set_ne (fun e => h.1 e.symm)]
      rw [key ws _ hi, List.getElem?_set_self hl]
theorem wipeD_out : ∀ (ws : List Nat) (env : EnvD) (i : Nat), i ∉ ws → (wipeD ws env)[i]? = env[i]?
  | [], _, _, _ => rfl
  | k :: ws, env, i, h => by
    simp only [List.mem_cons, not_or] at h
    show (wipeD ws (env.set k .no))[i]? = _
    rw [wipeD_out ws _ i h.2, List.getElem?_set_ne (fun e => h.1 e.symm)]
theorem wipeD_twice (ws : List Nat) (env : EnvD) : wipeD ws (wipeD ws env) = wipeD ws env := by
  apply List.ext_getElem?
  intro i
  by_cases hi : i ∈ ws
  · by_cases hl : i < env.length
    · rw [wipeD_in ws _ i hi (by rw [wipeD_length]; exact hl), wipeD_in ws _ i hi hl]
    · rw [List.getElem?_eq_none (by rw [wipeD_length, wipeD_length]; omega), List.getElem?_eq_none (by rw [wipeD_length]; omega)]
  · rw [wipeD_out ws _ i hi]
theorem comp_of {is : List Nat} {gg : TG} {wi : TI} {fi : M (List D)} {t : D → EnvD → Option EnvD} {tt : M Bool} {fe : M D} {ws : List Nat} (ki : ∀ σ H R, At X W fi σ H (fun b ds _ _ F c H' => ∀ J, Walks b J ds F c H' → R J H') → wi σ H R) (his : ∀ i ∈ is, i ∈ ws) (kg : GSem X gg is t) :
    ∀ σ H Q, tF X W (eComp fi t ws tt fe) σ H Q → tLc wi gg (tT X W0 tt) (tE X W0 fe) ws σ H Q := fun σ H Q ⟨b, F, c, env, st, e1, e2, r, p⟩ => by
  refine ki σ H _ ⟨b, F, c, env, st, e1, e2, r, (Post.bind p).mono fun ds env1 st1 F1 c1 H1 s1 r1 p1 J wk D hD => ?_⟩
  obtain ⟨sD, rD⟩ := r1.newO hD (.lst [])
  have h0 : b.H0 D = none := r1.H0none hD
  refine ⟨fun i m H' => m = ds.length - i ∧ i ≤ ds.length ∧ ∃ F' c' env' st' acc accD, Stp F1 c1 H1 F' c' H' ∧ Rel b F' c' (wipeD ws env') st' (L2.wipe σ ws) H' ∧ (¬ F' D ∧ D ∉ c' ∧ (∀ i, ¬ OwnA (wipeD ws env') (L2.wipe σ ws) i D) ∧ H' D = some (.lst acc)) ∧ Rps b.K b.mg F' c' H' acc accD ∧
    Post b W F' c' σ H' (fun d env _ F c H' => ∀ a, ¬ F a → a ∉ c → b.H0 a = none → (∀ i, ¬ OwnA env σ i a) → OwnAt b.K b.mg F c H' a d → Q (.ref a) H') (compL t ws tt fe (ds.drop i) accD env' st'),
    ⟨ds.length, by simp, Nat.zero_le _, F1, c1, env1, st1, [], [], sD, rD.toWipe ws, ⟨r1.nF hD, r1.nC hD, fun i h => (r1.toWipe ws).nO hD i h, upd_same⟩, .nil, p1.stp sD⟩, fun i m H' hw => ?_⟩
  obtain ⟨rfl, hi, F', c', env', st', acc, accD, s', r', ⟨nF, nc, nO, hH⟩, rps, p'⟩ := hw
  obtain ⟨wgo, wstop⟩ := wk F' c' H' s' i
  by_cases hlt : i < ds.length
  · refine .inr ?_
    obtain ⟨go, yl⟩ := wgo ds[i] (List.getElem?_eq_getElem hlt)
    refine ⟨go, _, fun H2 n => ⟨ds.length - (i + 1), by omega, n⟩, fun x H2 y => ?_⟩
    have ra := r'.aside nF nc nO hH
    obtain ⟨F2, s2, r2, rp⟩ := ra.yield (b := b.aside D (.lst acc)) (yl x H2 y)
    rw [List.drop_eq_getElem_cons hlt] at p'
    unfold compL at p'
    split at p'
    · exact p'.elim
    · rename_i env2 et
      refine kg (b.aside D (.lst acc)) F2 c' _ st' _ H2 x _ env2 _ e1 e2 r2 rp et fun σ3 r3 hl3 hk3 => ?_
      have hw3 : L2.wipe σ3 ws = L2.wipe σ ws := by
        have q := wipe_same (σ := σ) (σ' := σ3) (is := is) (vs := ws) (by rw [hl3, wipe_length]) hk3 his
        exact q
      refine ⟨hw3, b.aside D (.lst acc), F2, c', env2, st', e1, e2, r3, ?_⟩
      generalize tt env2 st' = yt at p' ⊢
      cases yt with
      | bad => exact p'.elim
      | ex x env st => exact p'.elim
      | ok tv env3 st3 =>
        intro F3 c3 H3 s3 r3'
        cases tv with
        | true =>
          rw [if_pos rfl]
          refine ⟨b.aside D (.lst acc), F3, c3, env3, st3, e1, e2, r3', ?_⟩
          dsimp only at p'
          generalize fe env3 st3 = ye at p' ⊢
          cases ye with
          | bad => exact p'.elim
          | ex x env st => exact p'.elim
          | ok yv env4 st4 =>
            intro F4 c4 H4 s4 r4 v rv
            dsimp only at p'
            split at p'
            · rename_i hz
              obtain ⟨⟨nF4, nc4, nO4, hH4⟩, s5, r5⟩ := r4.unaside (o' := .lst (acc ++ [v])) (fun x z => by cases z) (fun x z => by cases z) h0 r1.f0 r1.k0
              have sAll : Stp F' c' H' F4 c4 (upd H4 D (.lst (acc ++ [v]))) := s2.trans (s3.trans (s4.trans s5))
              refine ⟨acc, hH4, by rw [rps.length, sizeLine_eq]; exact hz, rfl, by omega, F4, c4, env4, st4, acc ++ [v], accD ++ [yv], s'.trans sAll, ?_, ⟨nF4, nc4, fun i h => ?_, upd_same⟩, (rps.stp sAll).append (.cons (rv.stp s5) .nil), p'.stp sAll⟩
              · rw [← hw3]; exact r5.toWipe ws
              · rw [← hw3] at h
                have r6 := r4.toWipe ws
                obtain ⟨_, _, q, _⟩ := r6.own h
                have z : (b.aside D (.lst acc)).H0 D = some (.lst acc) := upd_same
                rw [z] at q; cases q
            · exact p'.elim
        | false =>
          rw [if_neg Bool.false_ne_true]
          dsimp only at p'
          obtain ⟨⟨nF4, nc4, nO4, hH4⟩, s5, r5⟩ := r3'.unaside (o' := .lst acc) (fun x z => by cases z) (fun x z => by cases z) h0 r1.f0 r1.k0
          have eH : upd H3 D (.lst acc) = H3 := by
            funext z
            by_cases hz : z = D
            · rw [hz, upd_same, hH4]
            · rw [upd_ne hz]
          rw [eH] at s5 r5
          have sAll : Stp F' c' H' F3 c3 H3 := s2.trans s3
          refine ⟨rfl, by omega, F3, c3, env3, st3, acc, accD, s'.trans sAll, ?_, ⟨nF4, nc4, fun i h => ?_, hH4⟩, rps.stp sAll, p'.stp sAll⟩
          · rw [← hw3]; exact r5.toWipe ws
          · rw [← hw3] at h
            have r6 := r3'.toWipe ws
            obtain ⟨_, _, q, _⟩ := r6.own h
            have z : (b.aside D (.lst acc)).H0 D = some (.lst acc) := upd_same
            rw [z] at q; cases q
  · have e : i = ds.length := by omega
    subst e
    rw [List.drop_length] at p'
    unfold compL at p'
    have r9 := r'.ofWipe
    rw [wipeD_twice] at r9
    exact .inl ⟨wstop (Nat.le_refl _), p' F' c' H' .refl r9 D nF nc h0 (fun i h => by
      have q := r9.own h
      exact nO i (by
        obtain ⟨d, h1, h2⟩ := h
        refine ⟨d, h1, ?_⟩
        rcases wipeD_get ws env' i _ h1 with z | ⟨z, _⟩
        · cases z
        · rw [wipe_at ws σ i z]; exact h2)) ⟨acc, hH, rps⟩⟩
theorem vf_comp {elt : Expr} {ifs : List Expr} {scope : Scope} {own : List (Str × Nat)} {is : List Nat} {gg : TG} {fi : M (List D)} {t : D → EnvD → Option EnvD} {tt : M Bool} {fe : M D} (hc : X.calm = true) (hN : X.N.Nodup) (hi : VI X W tg iter fi) (ok : BlkOk X.N X.env.scope scope own)
    (his : ∀ i ∈ is, i ∈ own.map (·.2)) (hg : ∀ (s : Shared) (H : Hp) (C : Addr) (cl : List (Str × Addr)) (fp : List Addr), VG (X.blk s H scope (compEnvC scope cl C X.env) fp) tg gg is t)
    (ht : ∀ (s : Shared) (H : Hp) (C : Addr) (cl : List (Str × Addr)) (fp : List Addr), PTs (X.blk s H scope (compEnvC scope cl C X.env) fp) ifs (tT X W0 tt))
    (he : ∀ (s : Shared) (H : Hp) (C : Addr) (cl : List (Str × Addr)) (fp : List Addr), VE (X.blk s H scope (compEnvC scope cl C X.env) fp) W0 elt fe) (hs : ∀ x, foldedSetIterable iter X.env x = pure x := by intro _; rfl) :
    VF X W (.ListComp elt [⟨tg, iter, ifs, 0⟩] scope pos) (eComp fi t (own.map (·.2)) tt fe) := by
  obtain ⟨wi, pi, ki⟩ := hi
  exact ⟨fun pins s0 σ H Q I h => (pe_lc (te := tE X W0 fe) hc hN pi ok (fun s H C cl fp => (hg s H C cl fp).1) ht he hs).run pins s0 σ H Q I (comp_of ki his (hg s0 H 0 [] []).2 σ H Q h)⟩
def bYes : M Bool := fun env st => .ok true env st
theorem vts_nil : PTs X [] (tT X W bYes) := ⟨fun pins s σ H Q I ⟨b, F, c, env, st, e1, e2, r, p⟩ => pts_nil.run pins s σ H Q I (Post.here r p)⟩
theorem vts_one {Y : Cx} {tt : M Bool} (h : PT Y e (tT X W tt)) : PTs Y [e] (tT X W tt) := pts_one h
end
end VE
namespace VE
open PySem PySem.Spec PyProof.Rows L2
variable [VEnv]
def putD (f : Str) (v : D) : List (Str × D) → List (Str × D)
  | [] => [(f, v)]
  | (g, x) :: r => if g = f then (g, v) :: r else (g, x) :: putD f v r
section
variable {K : PySem.W.Frag} {mg : Str → Option Value} {b : Bs} {F F' : Addr → Prop} {c c' : List Addr} {env : EnvD} {st st' : Sto} {σ : L2.St} {H H' : Hp}
theorem fst_put (f : Str) (v : V) (d : D) : ∀ (vs : List (Str × V)) (ds : List (Str × D)), vs.map (·.1) = ds.map (·.1) → (putF f v vs).map (·.1) = (putD f d ds).map (·.1)
  | [], [], _ => rfl
  | (g, x) :: vs, (g', x') :: ds, h => by
    have h1 : g = g' := (List.cons.inj h).1
    have h2 := (List.cons.inj h).2
    subst h1
    show (if g = f then (g, v) :: vs else (g, x) :: putF f v vs).map (·.1) = (if g = f then (g, d) :: ds else (g, x') :: putD f d ds).map (·.1)
    by_cases e : g = f
    · rw [if_pos e, if_pos e]; exact h
    · rw [if_neg e, if_neg e, List.map_cons, List.map_cons, fst_put f v d vs ds h2]
  | [], _ :: _, h => by cases h
  | _ :: _, [], h => by cases h
theorem snd_put {f : Str} {v : V} {d : D} (r : Rp K mg F c H v d) : ∀ (vs : List (Str × V)) (ds : List (Str × D)), vs.map (·.1) = ds.map (·.1) → Rps K mg F c H (vs.map (·.2)) (ds.map (·.2)) → Rps K mg F c H ((putF f v vs).map (·.2)) ((putD f d ds).map (·.2))
  | [], [], _, _ => .cons r .nil
  | (g, x) :: vs, (g', x') :: ds, h, q => by
    have h1 : g = g' := (List.cons.inj h).1
    have h2 := (List.cons.inj h).2
    subst h1
    cases q with
    | cons q1 q2 =>
      show Rps K mg F c H ((if g = f then (g, v) :: vs else (g, x) :: putF f v vs).map (·.2)) ((if g = f then (g, d) :: ds else (g, x') :: putD f d ds).map (·.2))
      by_cases e : g = f
      · rw [if_pos e, if_pos e]; exact .cons r q2
      · rw [if_neg e, if_neg e]; exact .cons q1 (snd_put r vs ds h2 q2)
  | [], _ :: _, h, _ => by cases h
  | _ :: _, [], h, _ => by cases h
theorem look_of {f : Str} : ∀ (vs : List (Str × V)) (ds : List (Str × D)), vs.map (·.1) = ds.map (·.1) → Rps K mg F c H (vs.map (·.2)) (ds.map (·.2)) →
    (∀ d, ds.lookup f = some d → ∃ v, vs.lookup f = some v ∧ Rp K mg F c H v d) ∧ (ds.lookup f = none → vs.lookup f = none)
  | [], [], _, _ => ⟨(fun d h => (nomatch h)), fun _ => rfl⟩
  | (g, x) :: vs, (g', x') :: ds, h, q => by
    have h1 : g = g' := (List.cons.inj h).1
    have h2 := (List.cons.inj h).2
    subst h1
    cases q with
    | cons q1 q2 =>
      obtain ⟨k1, k2⟩ := look_of (f := f) vs ds h2 q2
      rw [List.lookup_cons, List.lookup_cons]
      cases e : f == g with
      | true =>
        refine ⟨fun d z => ?_, fun z => ?_⟩
        · cases z
          exact ⟨_, rfl, q1⟩
        · cases z
      | false => exact ⟨k1, k2⟩
  | [], _ :: _, h, _ => by cases h
  | _ :: _, [], h, _ => by cases h
/-- what a reference points to -/
theorem Rel.cell (r : Rel b F c env st σ H) {v : V} {n : Nat} {x : Cell} (h : Rp b.K b.mg F c H v (.ref n)) (e : st[n]? = some x) : ∃ a, v = .ref a ∧ c[n]? = some a ∧ CellOk b.K b.mg F c H a x := by
  cases h with
  | ref h => exact ⟨_, rfl, h, r.rc.cl n _ x h e⟩
/-- the object that a reference points to changes -/
theorem Rel.cellUpd (r : Rel b F c env st σ H) {a : Addr} {n : Nat} {x : Cell} {o : HO} (hn : c[n]? = some a) (hx : Stp F c H F c (upd H a o) → CellOk b.K b.mg F c (upd H a o) a x) (hl : ∃ y, st[n]? = some y ∧ y.lck = false := by first | (refine ⟨_, by assumption, ?_⟩; rfl) | assumption) : Stp F c H F c (upd H a o) ∧ Rel b F c env (st.set n x) σ (upd H a o) := by
  have ha : a ∈ c := List.mem_of_getElem? hn
  have nF : ¬ F a := r.rc.nf a ha
  have hno : ∀ x, H a ≠ some (.own x) := fun x z => by
    have hl : n < st.length := by rw [r.rc.len]; exact (List.getElem?_eq_some_iff.mp hn).1
    obtain ⟨o', e, no⟩ := (r.rc.cl n a _ hn (List.getElem?_eq_getElem hl)).notOwn
    rw [z] at e; cases e
    exact no x rfl
  have hfz : ∀ y u, H a ≠ some (.frz y u) := by
    obtain ⟨y, e, hy⟩ := hl
    exact (r.rc.cl n a _ hn e).notFrz hy
  have htb : ∀ ps, H a ≠ some (.tbl ps) := by
    have hl : n < st.length := by rw [r.rc.len]; exact (List.getElem?_eq_some_iff.mp hn).1
    exact (r.rc.cl n a _ hn (List.getElem?_eq_getElem hl)).notTbl
  have ne : ∀ y, y ≠ a → upd H a o y = H y := fun y h => upd_ne h
  have s : Stp F c H F c (upd H a o) := ⟨fun _ h => h, fun y o' f e => by rw [ne y (fun z => nF (z ▸ f))]; exact e, ⟨[], (List.append_nil c).symm⟩, own_upd hno, lck_upd hfz⟩
  refine ⟨s, ⟨fun y hf => ?_, by rw [List.length_set]; exact r.rc.len, r.rc.nd, fun m y z hm hz => ?_, r.rc.nf, fun p hp => (r.rc.tab p hp).stp s (fun ps e => by rw [ne p.1 fun z => htb ps (z ▸ e)]; exact e) (fun _ _ h => h) fun _ _ h => h⟩, r.len, fun i sl e => ?_, r.ds, fun y o' e hc => (r.old y o' e hc).up fun z h => .inl (by rw [ne y fun z => hc (z ▸ ha)]; exact h), r.new, r.nwc, r.f0, r.k0⟩
  · obtain ⟨o', e⟩ := r.rc.trk y hf
    exact ⟨o', s.keep y o' hf e⟩
  · by_cases q : n = m
    · subst q
      rw [hn] at hm; cases hm
      have hl : n < st.length := by rw [r.rc.len]; exact (List.getElem?_eq_some_iff.mp hn).1
      rw [List.getElem?_set_self hl] at hz; cases hz
      exact hx s
    · rw [List.getElem?_set_ne q] at hz
      have hy : y ≠ a := fun z => by
        subst z
        exact q ((List.getElem?_inj (List.getElem?_eq_some_iff.mp hn).1 r.rc.nd).mp (hn.trans hm.symm))
      have k := r.rc.cl m y z hm hz
      cases z with
      | lst ds => obtain ⟨vs, e, p⟩ := k; exact ⟨vs, by rw [ne y hy]; exact e, p.stp s⟩
      | ins nm fs => obtain ⟨C, dx, vfs, k1, k2, k3, p⟩ := k; exact ⟨C, dx, vfs, k1, by rw [ne y hy]; exact k2, k3, p.stp s⟩
      | slo nm fs => obtain ⟨C, dx, vs, k1, k2, p⟩ := k; exact ⟨C, dx, vs, k1, slAt_keep k2 (ne y hy) s.lck, p.stp s⟩
      | slp nm ix fs => obtain ⟨C, dx, vs, k1, k2, p⟩ := k; exact ⟨C, dx, vs, k1, slAt_keep k2 (ne y hy) s.lck, p.stp s⟩
      | dct kvs => obtain ⟨vk, e, e2, p⟩ := k; exact ⟨vk, by rw [ne y hy]; exact e, e2, p.stp s⟩
      | dcT kvs => obtain ⟨P, w, xs, vs, e0, e, e2, p, pk⟩ := k; exact ⟨P, w, xs, vs, e0, by rw [ne y hy]; exact e, e2, p.stp s, fun x hx => (pk x hx).stp s⟩
      | dcN kvs => obtain ⟨P, w, vk, e0, e, e2, p⟩ := k; exact ⟨P, w, vk, e0, by rw [ne y hy]; exact e, e2, p.stp s⟩
      | lcT kvs => obtain ⟨P, w, xs, vs, od, e0, e, e2, p, pk⟩ := k; exact ⟨P, w, xs, vs, od, e0, by rw [ne y hy]; exact e, e2, p.stp s, fun x hx => (pk x hx).stp s⟩
      | lcN kvs => obtain ⟨P, w, vk, od, e0, e, e2, p⟩ := k; exact ⟨P, w, vk, od, e0, by rw [ne y hy]; exact e, e2, p.stp s⟩
  · have q := r.sl i sl e
    cases sl with
    | no => trivial
    | va d => obtain ⟨v, e', p⟩ := q; exact ⟨v, e', p.stp s⟩
    | gh cells vals => exact GhOk.stp q s
    | xc xi x => exact ⟨q.1, q.2.stp s⟩
    | ow d =>
      obtain ⟨y, e', p1, p2, p3, p4⟩ := q
      exact ⟨y, e', p1, p2, p3, p4.stp s (ne y fun z => p2 (z ▸ ha))⟩
/-- a new object that may be changed -/
theorem Rel.cellNew (r : Rel b F c env st σ H) {p : Addr} {x : Cell} {o : HO} (hp : H p = none) (hx : Stp F c H F (c ++ [p]) (upd H p o) → CellOk b.K b.mg F (c ++ [p]) (upd H p o) p x) : Stp F c H F (c ++ [p]) (upd H p o) ∧ Rel b F (c ++ [p]) env (st ++ [x]) σ (upd H p o) ∧ Rp b.K b.mg F (c ++ [p]) (upd H p o) (.ref p) (.ref st.length) := by
  have nF := r.nF hp
  have nc := r.nC hp
  have ne : ∀ y, y ≠ p → upd H p o y = H y := fun y h => upd_ne h
  have hk : ∀ y o', H y = some o' → upd H p o y = some o' := fun y o' e => by rw [ne y (ne_of_none e hp)]; exact e
  have s : Stp F c H F (c ++ [p]) (upd H p o) := ⟨fun _ h => h, fun y o' f e => hk y o' e, ⟨[p], rfl⟩, own_new hp, lck_new hp⟩
  have ec : (c ++ [p])[st.length]? = some p := by rw [r.rc.len]; simp
  refine ⟨s, ⟨⟨fun y hf => ?_, by rw [List.length_append, List.length_append, r.rc.len]; rfl, ?_, fun m y z hm hz => ?_, fun y hy => ?_, fun q hq => (r.rc.tab q hq).stp s (fun ps e => hk _ _ e) (fun _ _ h => h) fun ps e h => (List.mem_append.mp h).elim id fun z => by rw [List.mem_singleton] at z; rw [z, hp] at e; cases e⟩, r.len, fun i sl e => ?_, r.ds, fun y o' e hc => ?_, r.new, fun y hy => ?_, r.f0, r.k0⟩, .ref ec⟩
  · obtain ⟨o', e⟩ := r.rc.trk y hf
    exact ⟨o', hk y o' e⟩
  · rw [List.nodup_append]
    exact ⟨r.rc.nd, by simp, fun x1 hx1 y hy => by rw [List.mem_singleton] at hy; exact fun z => nc (hy ▸ z ▸ hx1)⟩
  · by_cases hl : m < st.length
    · rw [List.getElem?_append_left (by rw [← r.rc.len]; exact hl)] at hm
      rw [List.getElem?_append_left hl] at hz
      have hy : y ≠ p := fun e => nc (e ▸ List.mem_of_getElem? hm)
      have k := r.rc.cl m y z hm hz
      cases z with
      | lst ds => obtain ⟨vs, e, p⟩ := k; exact ⟨vs, by rw [ne y hy]; exact e, p.stp s⟩
      | ins nm fs => obtain ⟨C, dx, vfs, k1, k2, k3, p⟩ := k; exact ⟨C, dx, vfs, k1, by rw [ne y hy]; exact k2, k3, p.stp s⟩
      | slo nm fs => obtain ⟨C, dx, vs, k1, k2, p⟩ := k; exact ⟨C, dx, vs, k1, slAt_keep k2 (ne y hy) s.lck, p.stp s⟩
      | slp nm ix fs => obtain ⟨C, dx, vs, k1, k2, p⟩ := k; exact ⟨C, dx, vs, k1, slAt_keep k2 (ne y hy) s.lck, p.stp s⟩
      | dct kvs => obtain ⟨vk, e, e2, p⟩ := k; exact ⟨vk, by rw [ne y hy]; exact e, e2, p.stp s⟩
      | dcT kvs => obtain ⟨P, w, xs, vs, e0, e, e2, p, pk⟩ := k; exact ⟨P, w, xs, vs, e0, by rw [ne y hy]; exact e, e2, p.stp s, fun x hx => (pk x hx).stp s⟩
      | dcN kvs => obtain ⟨P, w, vk, e0, e, e2, p⟩ := k; exact ⟨P, w, vk, e0, by rw [ne y hy]; exact e, e2, p.stp s⟩
      | lcT kvs => obtain ⟨P, w, xs, vs, od, e0, e, e2, p, pk⟩ := k; exact ⟨P, w, xs, vs, od, e0, by rw [ne y hy]; exact e, e2, p.stp s, fun x hx => (pk x hx).stp s⟩
      | lcN kvs => obtain ⟨P, w, vk, od, e0, e, e2, p⟩ := k; exact ⟨P, w, vk, od, e0, by rw [ne y hy]; exact e, e2, p.stp s⟩
    · have hm' : m = st.length := by
        have := (List.getElem?_eq_some_iff.mp hz).1
        rw [List.length_append, List.length_singleton] at this
        omega
      subst hm'
      rw [ec] at hm; cases hm
      have : (st ++ [x])[st.length]? = some x := by simp
      rw [this] at hz; cases hz
      exact hx s
  · rcases List.mem_append.mp hy with h | h
    · exact r.rc.nf y h
    · rw [List.mem_singleton] at h; subst h; exact nF
  · have q := r.sl i sl e
    cases sl with
    | no => trivial
    | va d => obtain ⟨v, e', p⟩ := q; exact ⟨v, e', p.stp s⟩
    | gh cells vals => exact GhOk.stp q s
    | xc xi x => exact ⟨q.1, q.2.stp s⟩
    | ow d =>
      obtain ⟨y, e', p1, p2, p3, p4⟩ := q
      have hy : y ≠ p := fun z => r.nO hp i ⟨d, e, by rw [← z]; exact e'⟩
      refine ⟨y, e', p1, fun h => ?_, p3, p4.stp s (ne y hy)⟩
      rcases List.mem_append.mp h with h | h
      · exact p2 h
      · exact hy (List.mem_singleton.mp h)
  · exact (r.old y o' e fun h => hc (List.mem_append_left _ h)).up fun z h => .inl (hk y z h)
  · rcases List.mem_append.mp hy with h | h
    · exact r.nwc y h
    · rw [List.mem_singleton] at h; subst h; exact .inr (r.H0none hp)
end
section
variable {X : Cx} {W : WX} {e a o : Expr} {es : List Expr} {pos pos' : Pos} {fa fb fo fi : M D} {fs : M (List D)} {x : Str}
/-- x = [..], a list that defs may change -/
def sCell (i : Nat) (fs : M (List D)) : M Fl := fun env st => (fs env st).bind fun ds env st => if ds.length ≤ 16777216 then .ok .nx (env.set i (.va (.ref st.length))) (st ++ [.lst ds]) else .bad
theorem vs_cell {i : Nat} (hN : X.N.Nodup) (h : VA X W es fs) (hi : X.N[i]? = some x := by rfl) (hx : Loc X.env.scope x := by first | exact Or.inl rfl | exact Or.inr rfl) (hs : swapsWith (.List es pos) (some (.Name x pos')) pos.line X.env = pure false := by rfl)
    (hf : X.fn x = true ∨ X.env.scope.names.lookup x = some .local := by first | exact .inl rfl | exact .inr rfl | assumption) {p2 : Pos} (hs : swapsWith (.List es p2) (some (.Name x pos')) pos.line X.env = pure false := by rfl) : VS X W (.Assign [.Name x pos'] (.List es p2) pos) (sCell i fs) := PSof (ps_set hN hi hx (pe_lst h) hs hf) fun D₀ σ H ⟨b, F, c, env, st, e1, e2, r, p⟩ =>
  sA_at e1 e2 r p fun vs ds env1 st1 F1 c1 H1 s1 r1 rp1 p1 => by
    split at p1
    · rename_i hl
      refine ⟨by rw [rp1.length, sizeLine_eq]; exact hl, fun q hq => ?_⟩
      obtain ⟨s2, r2, rp⟩ := r1.cellNew (x := .lst ds) hq fun s => ⟨vs, upd_same, rp1.stp s⟩
      exact PostS.here (P := fun fl _ _ F c σ H => FlOk b D₀ F c σ H fl) (r2.put (i := i) rp) (p1.stp s2)
    · exact p1.elim
/-- a[b], a list of the store or a value -/
def ixC : D → D → M D := fun x y env st => match x, y with
  | .ref n, .int i => (match st[n]? with
    | some (.lst ds) => ret (atI ds i) env st
    | _ => .bad)
  | x, y => ret (ixD x y) env st
theorem ok_ixC : OpOk X W (rIx X.K) ixC := fun b F c env st σ H x y dx dy Q e1 e2 r hx hy p => by
  unfold ixC at p
  split at p
  · rename_i n i
    split at p
    · rename_i ds es
      obtain ⟨a, rfl, hc, vs, ha, rps⟩ := r.cell hx es
      unfold ret at p
      split at p
      · rename_i d ed
        obtain ⟨v, hv, rp⟩ := rps.atI ed
        cases hy
        exact .inl ⟨a, vs, i, v, rfl, rfl, SqL.of ha, hv, Post.here r p v rp⟩
      · exact p.elim
    · exact p.elim
  · exact ok_ix b F c env st σ H x y _ _ Q e1 e2 r hx hy p
/-- what is to be known of a class -/
structure ClsV (K : PySem.W.Frag) (mg : Str → Option Value) (n : Str) (fs : List Str) : Prop where
  cl : ∀ C, mg n = some (.ref C) → Cls K C
  no : ∀ C, mg n = some (.ref C) → ∀ f ∈ fs, NoAttr K C f
def sFldS (n f : Str) (fo fe : M D) : M Fl := fun env st => (fe env st).bind fun d env st => (fo env st).bind fun r env st => match r with
  | .ref m => (match st[m]? with
    | some (.ins n' fs) => if n' = n ∧ fs.length < 1000 then .ok .nx env (st.set m (.ins n (putD f d fs))) else .bad
    | _ => .bad)
  | _ => .bad
theorem len_of {K : PySem.W.Frag} {mg : Str → Option Value} {F : Addr → Prop} {c : List Addr} {H : Hp} {vfs : List (Str × V)} {fs : List (Str × D)} (h : vfs.map (·.1) = fs.map (·.1)) : vfs.length = fs.length := by
  have := congrArg List.length h
  simpa using this
theorem vs_fld {n f : Str} {fl : List Str} {fe : M D} (cv : ClsV X.K X.mg n fl) (ho : VE X W o fo) (he : VE X W e fe) (hf : f ∈ fl := by decide +kernel) (hs : swapsWith e (some (.Attribute o f pos')) pos.line X.env = pure false := by rfl) : VS X W (.Assign [.Attribute o f pos'] e pos) (sFldS n f fo fe) := PSof (ps_fld ho he hs) fun D₀ σ H ⟨b, F, c, env, st, e1, e2, r, p⟩ =>
  sE_at e1 e2 r p fun v d env1 st1 F1 c1 H1 s1 r1 rp1 p1 => sE_at e1 e2 r1 p1 fun u r_ env2 st2 F2 c2 H2 s2 r2 rp2 p2 => by
    split at p2
    · rename_i m
      split at p2
      · rename_i n' fs es
        split at p2
        · rename_i hn
          obtain ⟨en, hl⟩ := hn
          subst en
          obtain ⟨q, rfl, hc, C, dx, vfs, k1, k2, k3, rps⟩ := r2.cell rp2 es
          have k1' := k1
          rw [e2] at k1'
          refine ⟨q, C, dx, vfs, rfl, k2, cv.cl C k1', cv.no C k1' f hf, by rw [len_of (K := X.K) (mg := X.mg) (F := F) (c := c) (H := H) k3]; exact hl, ?_⟩
          obtain ⟨s4, r4⟩ := r2.cellUpd (o := .ins C dx (putF f v vfs)) (x := .ins n' (putD f d fs)) hc fun s => ⟨C, dx, _, k1, upd_same, fst_put f v d vfs fs k3, snd_put ((rp1.stp s2).stp s) vfs fs k3 (rps.stp s)⟩
          exact PostS.here (P := fun fl _ _ F c σ H => FlOk b D₀ F c σ H fl) r4 (p2.stp s4)
        · exact p2.elim
      · exact p2.elim
    · exact p2.elim
/-- a method m of the class n -/
structure MtV (P : Program) (w : World) (K : PySem.W.Frag) (mg : Str → Option Value) (base : Heap) (k : Nat) (n m : Str) (fr : Bool) (np : Nat) (mf : FM) : Prop where
  ex : ∃ C f fd ps, mg n = some (.ref C) ∧ Cls K C ∧ FnOk P w K mg base (L2.CX P w) k f fd ps (spV K mg fr np mf) ∧ Meth K C m f ∧ Binds K fd ps []
def eMeth (n m : Str) (mf : FM) (np : Nat) (fo : M D) (fs : M (List D)) : M D := fun env st => (fo env st).bind fun r env st => match r with
  | .ref q => (match st[q]? with
    | some (.ins n' fl) => if n' = n ∧ fl.lookup m = none then (fs env st).bind fun ds env st => if ds.length + 1 = np then callR mf (.ref q :: ds) env st else .bad else .bad
    | _ => .bad)
  | _ => .bad
theorem ve_meth {k np : Nat} {n m : Str} {mf : FM} {apos : Pos} {pl : Sem Bool} (Mv : MtV X.prog X.w X.K X.mg X.base k n m false np mf) (hr : Room k X.A) (tk : Takes X W) (ho : VE X W o fo) (ha : VA X W (e :: es) fs)
    (hst : starEach (e :: es) X.env = (false, eval e X.env) :: starEach es X.env := by rfl) (hpl : (backTo pos (starEach es X.env)).any (·.1) = false := by rfl)
    (ht : eval (.Call (.Attribute o m apos) (e :: es) [] pos) X.env = (do
      let ov ← eval o X.env
      standAt apos.atName
      let (f, first) ← holding [ov] (getMethod ov m pl)
      callWith pos f first (backTo pos (starEach (e :: es) X.env)) (backToKw pos (keywordEach [] X.env))) := by rfl) : VE X W (.Call (.Attribute o m apos) (e :: es) [] pos) (eMeth n m mf np fo fs) := by
  obtain ⟨C, f, fd, ps, hC, cl, Fo, hm, hb⟩ := Mv.ex
  refine ⟨fun pins s σ H Q I ⟨b, F, c, env, st, e1, e2, r, p⟩ => ?_⟩
  refine PySem.W.methodCall_KW (pl := pl) (thn (ho.run pins s σ H _ I (tE_at e1 e2 r p (Q := fun x H1 => ∃ a dx vfs, x = .ref a ∧ H1 a = some (.ins C dx vfs) ∧ vfs.lookup m = none ∧ tA X W fs σ H1 fun vs H2 => spV X.K X.mg false np mf (x :: vs) H2 Q (WE W σ)) fun v d env1 st1 F1 c1 H1 s1 r1 rp1 p1 => ?_)) fun u s1 ⟨x, H1, I1, rx, a, dx, vfs, ex, ea, l, q⟩ => ?_) ht
  · split at p1
    · rename_i q
      split at p1
      · rename_i n' fl es
        split at p1
        · rename_i hn
          obtain ⟨en, hl⟩ := hn
          subst en
          obtain ⟨a, rfl, hc, C', dx, vfs, k1, k2, k3, rps⟩ := r1.cell rp1 es
          rw [e2, hC] at k1; cases k1
          refine ⟨a, dx, vfs, rfl, k2, (look_of (f := m) vfs fl k3 rps).2 hl, tA_at e1 e2 r1 p1 fun vs ds env2 st2 F2 c2 H2 s2 r2 rp2 p2 => ?_⟩
          split at p2
          · rename_i hnp
            exact call_of e1 e2 r2 (.cons (rp1.stp s2) rp2) (by simpa using hnp) p2 fun v d st F' c' H' s r rv q => q v rv
          · exact p2.elim
        · exact p1.elim
      · exact p1.elim
    · exact p1.elim
  · subst ex
    obtain rfl : u = Value.ref a := rx
    refine getmeth_ok I1 ea cl hm l ?_
    refine PySem.W.callWith_K (first := [.ref a]) (h₀ := X.base) I.ok.mod.kin hm.kp (thn (ha.run pos pins s1 σ H1 _ I1 q) fun us s2 ⟨vs, H2, I2, r, q2⟩ => ⟨I2.kIn, ?_⟩) hst hpl
    exact run_fnS (E := WE W) (us := .ref a :: us) (vs := .ref a :: vs) Fo hr hb (passAt tk σ) I2 (.cons rfl r) q2
def eMeth0 (n m : Str) (mf : FM) (np : Nat) (fo : M D) : M D := fun env st => (fo env st).bind fun r env st => match r with
  | .ref q => (match st[q]? with
    | some (.ins n' fl) => if n' = n ∧ fl.lookup m = none ∧ np = 1 then callR mf [.ref q] env st else .bad
    | _ => .bad)
  | _ => .bad
theorem ve_meth0 {k np : Nat} {n m : Str} {mf : FM} {apos : Pos} {pl : Sem Bool} (Mv : MtV X.prog X.w X.K X.mg X.base k n m false np mf) (hr : Room k X.A) (tk : Takes X W) (ho : VE X W o fo)
    (ht : eval (.Call (.Attribute o m apos) [] [] pos) X.env = (do
      let ov ← eval o X.env
      standAt apos.atName
      let (f, first) ← holding [ov] (getMethod ov m pl)
      callWith pos f first (backTo pos (starEach [] X.env)) (backToKw pos (keywordEach [] X.env))) := by rfl) : VE X W (.Call (.Attribute o m apos) [] [] pos) (eMeth0 n m mf np fo) := by
  obtain ⟨C, f, fd, ps, hC, cl, Fo, hm, hb⟩ := Mv.ex
  refine ⟨fun pins s σ H Q I ⟨b, F, c, env, st, e1, e2, r, p⟩ => ?_⟩
  refine PySem.W.methodCall_KW (pl := pl) (thn (ho.run pins s σ H _ I (tE_at e1 e2 r p (Q := fun x H1 => ∃ a dx vfs, x = .ref a ∧ H1 a = some (.ins C dx vfs) ∧ vfs.lookup m = none ∧ spV X.K X.mg false np mf [x] H1 Q (WE W σ)) fun v d env1 st1 F1 c1 H1 s1 r1 rp1 p1 => ?_)) fun u s1 ⟨x, H1, I1, rx, a, dx, vfs, ex, ea, l, q⟩ => ?_) ht
  · split at p1
    · rename_i q
      split at p1
      · rename_i n' fl es
        split at p1
        · rename_i hn
          obtain ⟨en, hl, hnp⟩ := hn
          subst en
          obtain ⟨a, rfl, hc, C', dx, vfs, k1, k2, k3, rps⟩ := r1.cell rp1 es
          rw [e2, hC] at k1; cases k1
          refine ⟨a, dx, vfs, rfl, k2, (look_of (f := m) vfs fl k3 rps).2 hl, ?_⟩
          exact call_of e1 e2 r1 (.cons rp1 .nil) (by simp [hnp]) p1 fun v d st F' c' H' s r rv q => q v rv
        · exact p1.elim
      · exact p1.elim
    · exact p1.elim
  · subst ex
    obtain rfl : u = Value.ref a := rx
    refine getmeth_ok I1 ea cl hm l ?_
    exact PySem.W.callWith_K0 (first := [.ref a]) I1.kIn hm.kp (run_fnS (E := WE W) (us := [.ref a]) (vs := [.ref a]) Fo hr hb (passAt tk σ) I1 (.cons rfl .nil) q)
/-- a class whose instances are made by its __init__ -/
structure MkV (P : Program) (w : World) (K : PySem.W.Frag) (mg : Str → Option Value) (base : Heap) (k : Nat) (n : Str) (np : Nat) (mf : FM) : Prop where
  ex : ∃ C f fd ps, mg n = some (.ref C) ∧ Mk K C f ∧ FnOk P w K mg base (L2.CX P w) k f fd ps (spV K mg false np mf) ∧ Binds K fd ps []
def eMake (n : Str) (mf : FM) (np : Nat) (fs : M (List D)) : M D := fun env st => (fs env st).bind fun ds env st => if ds.length + 1 = np then (callR mf (.ref st.length :: ds) env (st ++ [.ins n []])).bind fun d env st' => match d with
  | .non => .ok (.ref st.length) env st'
  | _ => .bad else .bad
theorem run_makeS {k : Nat} {f C : Addr} {fd : FuncData} {ps : List Str} {sp : Sp} {E : L2.St → XK} {pins : List (Addr × Obj)} {σ : L2.St} {H : Hp} {s : Shared} {Q : VK} {us : List Value} {vs : List V} (M : Mk X.K C f) (F : FnOk X.prog X.w X.K X.mg X.base (L2.CX X.prog X.w) k f fd ps sp) (hr : Room (k + 1) X.A) (hb : Binds X.K fd ps [])
    (hx : PassesAt (L2.CX X.prog X.w) X σ (E σ)) (I : Inv X pins σ H s) (r : Vals vs us)
    (h : ∀ x dx, H x = none → H dx = none → dx ≠ x → sp (.ref x :: vs) (upd (upd H dx (.own x)) x (.ins C dx [])) (fun v H2 => v = .non ∧ Q (.ref x) H2) (E σ)) :
    wpAny (model X.prog X.w) X.A (call (.ref C) us) (EP X pins σ Q) X.xe s := by
  have hq := h (s.heap.objs.size + 1) s.heap.objs.size (I.hok.fresh (Nat.le_succ _)) (I.hok.fresh (Nat.le_refl _)) (Nat.ne_of_lt (Nat.lt_succ_self _))
  have I2 := Inv.made (C := C) I
  have r2 : Vals (V.ref (s.heap.objs.size + 1) :: vs) (Value.ref (s.heap.objs.size + 1) :: us) := .cons rfl r
  have hl : (Value.ref (s.heap.objs.size + 1) :: us).length = ps.length := by
    have e := r2.length
    rw [F.len _ _ _ _ hq] at e
    exact e.symm
  have bb := hb _ (Value.ref (s.heap.objs.size + 1) :: us) I2.kIn (by rw [List.append_nil]; exact hl)
  rw [List.append_nil] at bb
  refine wpAny_call (make_map (f := f) I.kIn M.makes M.init (beq_iff_eq.mp M.fn) (codeAny_mono (F.run _ X.stack _ _ ⟨Value.ref (s.heap.objs.size + 1) :: us, []⟩ (Value.ref (s.heap.objs.size + 1) :: us) _ _ (E σ) (hr.make C us [])
    (I2.env0.make C us []) bb r2 hq) fun r s' hq' => ?_))
  cases r with
  | error e => exact hx pins _ _ e s' I2 hq'
  | ok fl =>
    cases fl with
    | ret u =>
      obtain ⟨v, H', I3, rv, ev, q3⟩ := I2.after hq'
      subst ev
      exact ⟨rv, ⟨V.ref (s.heap.objs.size + 1), H', I3, rfl, q3⟩⟩
    | next => exact False.elim hq'
    | brk => exact False.elim hq'
    | cont => exact False.elim hq'
theorem ve_make {k np : Nat} {n : Str} {mf : FM} {p : Pos} (Mv : MkV X.prog X.w X.K X.mg X.base k n np mf) (hr : Room (k + 1) X.A) (tk : Takes X W) (ha : VA X W (e :: es) fs) (hg : Gl X n := by rfl) (hdb : (n == ("__debug__" : Str)) = false := by decide)
    (he : starEach (e :: es) X.env = (false, eval e X.env) :: starEach es X.env := by rfl) (hpl : (backTo pos (starEach es X.env)).any (·.1) = false := by rfl) : VE X W (.Call (.Name n p) (e :: es) [] pos) (eMake n mf np fs) := by
  obtain ⟨C, f, fd, ps, hC, mk, Fo, hb⟩ := Mv.ex
  refine ⟨fun pins s σ H Q I ⟨b, F, c, env, st, e1, e2, r, p⟩ => ?_⟩
  refine wpAny_Call_Name_kw (ld_glob I hg hC ?_ hdb)
  refine PySem.W.callWith_K (h₀ := X.base) I.ok.mod.kin mk.kp (thn (ha.run pos pins s σ H _ I (tA_at e1 e2 r p (Q := fun vs H1 => ∀ x dx, H1 x = none → H1 dx = none → dx ≠ x → spV X.K X.mg false np mf (.ref x :: vs) (upd (upd H1 dx (.own x)) x (.ins C dx [])) (fun v H2 => v = .non ∧ Q (.ref x) H2) (WE W σ))
    fun vs ds env1 st1 F1 c1 H1 s1 r1 rp1 p1 x dx hx hdx hne => ?_)) fun us s1 ⟨vs, H1, I1, r, q⟩ => ⟨I1.kIn, run_makeS (E := WE W) mk Fo hr hb (passAt tk σ) I1 r q⟩) he hpl
  split at p1
  · rename_i hnp
    obtain ⟨s2, r2⟩ := r1.newO hdx (.own x)
    have hx2 : upd H1 dx (.own x) x = none := by rw [upd_ne (Ne.symm hne)]; exact hx
    obtain ⟨s3, r3, rp3⟩ := r2.cellNew (x := .ins n []) (o := .ins C dx []) hx2 fun s => ⟨C, dx, [], by rw [e2]; exact hC, upd_same, rfl, .nil⟩
    exact call_of e1 e2 r3 (.cons rp3 (rp1.stp (s2.trans s3))) (by simpa using hnp) (Post.bind (Post.stp (s2.trans s3) p1)) fun v d st F' c' H' s r rv q => by
      dsimp only at q
      split at q
      · cases rv
        exact ⟨rfl, Post.here r q _ (rp3.stp s)⟩
      · exact q.elim
  · exact p1.elim
end
end VE
namespace VE
open PySem PySem.Spec PyProof.Rows L2
variable [VEnv]
section
variable {X : Cx} {W : WX} {e a o : Expr} {es : List Expr} {pos pos' p : Pos} {fa fb fo fi : M D} {fs : M (List D)} {x : Str}
def eBlt (g : List D → M D) (fs : M (List D)) : M D := fun env st => (fs env st).bind fun ds env st => g ds env st
def CallOk (X : Cx) (W : WX) (r : List V → Hp → VK → Prop) (g : List D → M D) : Prop := ∀ (b : Bs) (F : Addr → Prop) (c : List Addr) (env : EnvD) (st : Sto) (σ : L2.St) (H : Hp) (vs : List V) (ds : List D) (Q : VK), b.K = X.K → b.mg = X.mg → Rel b F c env st σ H →
  Rps b.K b.mg F c H vs ds → Post b W F c σ H (fun d _ _ F' c' H' => ∀ v, Rp b.K b.mg F' c' H' v d → Q v H') (g ds env st) → r vs H Q
def CallOkF (X : Cx) (W : WX) (r : List V → Hp → VK → Prop) (g : List D → M D) : Prop := ∀ (b : Bs) (F : Addr → Prop) (c : List Addr) (env : EnvD) (st : Sto) (σ : L2.St) (H : Hp) (vs : List V) (ds : List D) (Q : VK), b.K = X.K → b.mg = X.mg → Rel b F c env st σ H →
  Rps b.K b.mg F c H vs ds → Post b W F c σ H (fun d env _ F c H' => ∀ a, ¬ F a → a ∉ c → b.H0 a = none → (∀ i, ¬ OwnA env σ i a) → OwnAt b.K b.mg F c H' a d → Q (.ref a) H') (g ds env st) → r vs H Q
theorem tCB_of {r : List V → Hp → VK → Prop} {g : List D → M D} (hg : CallOk X W r g) : ∀ σ H Q, tE X W (eBlt g fs) σ H Q → tCB r (tA X W fs) σ H Q := fun σ H Q ⟨b, F, c, env, st, e1, e2, r0, p⟩ =>
  tA_at e1 e2 r0 p fun vs ds env1 st1 F1 c1 H1 s1 r1 rp1 p1 => hg b F1 c1 env1 st1 σ H1 vs ds Q e1 e2 r1 rp1 p1
theorem tCB_ofF {r : List V → Hp → VK → Prop} {g : List D → M D} (hg : CallOkF X W r g) : ∀ σ H Q, tF X W (eBlt g fs) σ H Q → tCB r (tA X W fs) σ H Q := fun σ H Q ⟨b, F, c, env, st, e1, e2, r0, p⟩ =>
  tA_at e1 e2 r0 p fun vs ds env1 st1 F1 c1 H1 s1 r1 rp1 p1 => hg b F1 c1 env1 st1 σ H1 vs ds Q e1 e2 r1 rp1 p1
theorem ve_blt {id : String} {r : List V → Hp → VK → Prop} {g : List D → M D} (hc : CallR X (.builtin id) r) (hg : CallOk X W r g) (hm : X.mg x = none) (hv : bootBuiltins x = some (.builtin id)) (ha : VA X W (e :: es) fs) (hgl : Gl X x := by rfl) (hn : x ≠ "__name__" := by decide) (hdb : (x == ("__debug__" : Str)) = false := by decide)
    (he : starEach (e :: es) X.env = (false, eval e X.env) :: starEach es X.env := by rfl) (hpl : (backTo pos (starEach es X.env)).any (·.1) = false := by rfl) : VE X W (.Call (.Name x p) (e :: es) [] pos) (eBlt g fs) := PEof (pe_callB hc hgl hm hv ha hn hdb he hpl) (tCB_of hg)
theorem ve_ty {T : String} {r : List V → Hp → VK → Prop} {g : List D → M D} (hc : CallR X (.type T) r) (hg : CallOk X W r g) (hm : X.mg x = none) (hv : bootBuiltins x = some (.type T)) (ha : VA X W (e :: es) fs) (hgl : Gl X x := by rfl) (hn : x ≠ "__name__" := by decide) (hdb : (x == ("__debug__" : Str)) = false := by decide)
    (he : starEach (e :: es) X.env = (false, eval e X.env) :: starEach es X.env := by rfl) (hpl : (backTo pos (starEach es X.env)).any (·.1) = false := by rfl) : VE X W (.Call (.Name x p) (e :: es) [] pos) (eBlt g fs) := PEof (pe_callTy hc hgl hm hv ha hn hdb he hpl) (tCB_of hg)
theorem vf_blt {id : String} {r : List V → Hp → VK → Prop} {g : List D → M D} (hc : CallR X (.builtin id) r) (hg : CallOkF X W r g) (hm : X.mg x = none) (hv : bootBuiltins x = some (.builtin id)) (ha : VA X W (e :: es) fs) (hgl : Gl X x := by rfl) (hn : x ≠ "__name__" := by decide) (hdb : (x == ("__debug__" : Str)) = false := by decide)
    (he : starEach (e :: es) X.env = (false, eval e X.env) :: starEach es X.env := by rfl) (hpl : (backTo pos (starEach es X.env)).any (·.1) = false := by rfl) : VF X W (.Call (.Name x p) (e :: es) [] pos) (eBlt g fs) := PEof (pe_callB hc hgl hm hv ha hn hdb he hpl) (tCB_ofF hg)
theorem vf_ty {T : String} {r : List V → Hp → VK → Prop} {g : List D → M D} (hc : CallR X (.type T) r) (hg : CallOkF X W r g) (hm : X.mg x = none) (hv : bootBuiltins x = some (.type T)) (ha : VA X W (e :: es) fs) (hgl : Gl X x := by rfl) (hn : x ≠ "__name__" := by decide) (hdb : (x == ("__debug__" : Str)) = false := by decide)
    (he : starEach (e :: es) X.env = (false, eval e X.env) :: starEach es X.env := by rfl) (hpl : (backTo pos (starEach es X.env)).any (·.1) = false := by rfl) : VF X W (.Call (.Name x p) (e :: es) [] pos) (eBlt g fs) := PEof (pe_callTy hc hgl hm hv ha hn hdb he hpl) (tCB_ofF hg)
/-- a function of the values alone -/
def b1 (g : D → Option D) : List D → M D := fun ds => match ds with
  | [d] => ret (g d)
  | _ => fun _ _ => .bad
theorem callOk_1 {r : List V → Hp → VK → Prop} {g : D → Option D} (h : ∀ (F : Addr → Prop) (c : List Addr) (H : Hp) (x : V) (dx d : D) (Q : VK), Rp X.K X.mg F c H x dx → g dx = some d → (∀ v, Rp X.K X.mg F c H v d → Q v H) → r [x] H Q) : CallOk X W r (b1 g) := by
  intro b F c env st σ H vs ds Q e1 e2 r0 rp p
  unfold b1 at p
  split at p
  · cases rp with
    | cons hx t =>
      cases t
      unfold ret at p
      split at p
      · rename_i d ed
        rw [e1, e2] at hx
        exact h F c H _ _ d Q hx ed fun v hv => Post.here r0 p v (by rw [e1, e2]; exact hv)
      · exact p.elim
  · exact p.elim
theorem callOkF_1 {r : List V → Hp → VK → Prop} {g : D → Option D} (h : ∀ (F : Addr → Prop) (c : List Addr) (H : Hp) (x : V) (dx d : D) (Q : VK), Rp X.K X.mg F c H x dx → g dx = some d →
    (∀ p o, H p = none → (∀ F' : Addr → Prop, Stp F c H F' c (upd H p o) → OwnAt X.K X.mg F' c (upd H p o) p d) → Q (.ref p) (upd H p o)) → r [x] H Q) : CallOkF X W r (b1 g) := by
  intro b F c env st σ H vs ds Q e1 e2 r0 rp p
  unfold b1 at p
  split at p
  · cases rp with
    | cons hx t =>
      cases t
      unfold ret at p
      split at p
      · rename_i d ed
        rw [e1, e2] at hx
        exact h F c H _ _ d Q hx ed fun q o hq ho => fresh_of r0 p q o hq (by rw [e1, e2]; exact ho)
      · exact p.elim
  · exact p.elim
/-- len -/
def lenD : D → Option D
  | .lst xs => some (.int xs.length)
  | .tup xs => some (.int xs.length)
  | .scr xs => some (.int xs.length)
  | .str z => if z.length ≤ 16777216 then some (.int z.length) else none
  | _ => none
theorem lenR : CallR X (.builtin "len") (fun xs H Q => (∃ p ys, xs = [.ref p] ∧ (SqL X.K H p ys ∨ SqT X.K H p ys) ∧ Q (.int ys.length) H) ∨ (∃ z, xs = [.str z] ∧ z.length ≤ sizeLine ∧ Q (.int z.length) H)) := CallR.or call_len_seq call_len_str
/-- int -/
def intD : D → Option D
  | .int i => some (.int i)
  | .bl k => some (.int (if k then 1 else 0))
  | .str z => if z.length ≤ 640 then (PySem.intText? z).map .int else none
  | _ => none
theorem intR : CallR X (.type "int") (fun xs H Q => ((∃ i, xs = [.int i] ∧ Q (.int i) H) ∨ ∃ k, xs = [.bl k] ∧ Q (.int (if k then 1 else 0)) H) ∨ (∃ a n, xs = [.str a] ∧ PySem.intText? a = some n ∧ a.length ≤ 640 ∧ Q (.int n) H)) := CallR.or call_int1 call_int_str
theorem ok_int : CallOk X W (fun xs H Q => ((∃ i, xs = [.int i] ∧ Q (.int i) H) ∨ ∃ k, xs = [.bl k] ∧ Q (.int (if k then 1 else 0)) H) ∨ (∃ a n, xs = [.str a] ∧ PySem.intText? a = some n ∧ a.length ≤ 640 ∧ Q (.int n) H)) (b1 intD) := callOk_1 fun F c H x dx d Q hx e q => by
  unfold intD at e
  split at e
  · cases hx; cases e; exact .inl (.inl ⟨_, rfl, q _ (.int _)⟩)
  · cases hx; cases e; exact .inl (.inr ⟨_, rfl, q _ (.int _)⟩)
  · rename_i z
    cases hx
    split at e
    · cases hz : PySem.intText? z with
      | none => rw [hz] at e; cases e
      | some n => rw [hz] at e; cases e; exact .inr ⟨_, _, rfl, hz, by assumption, q _ (.int _)⟩
    · cases e
  · cases e
theorem ve_intc (hm : X.mg "int" = none) (ha : VE X W e fa) (hgl : Gl X "int" := by rfl) (hs : starEach [e] X.env = (false, eval e X.env) :: starEach [] X.env := by rfl) : VE X W (.Call (.Name "int" p) [e] [] pos) (eBlt (b1 intD) (eCons fa eNil)) := ve_ty intR ok_int hm (by decide +kernel) (va_cons ha va_nil hs) hgl (by decide) (by decide) hs
def blsOf : List D → Option (List Bool)
  | [] => some []
  | .bl i :: ds => (blsOf ds).map (i :: ·)
  | _ => none
section
variable {K : PySem.W.Frag} {mg : Str → Option Value} {F : Addr → Prop} {c : List Addr} {H : Hp}
theorem Rps.bls : ∀ {vs : List V} {ds : List D} {ns : List Bool}, Rps K mg F c H vs ds → blsOf ds = some ns → vs = ns.map V.bl
  | _, _, _, .nil, e => by cases e; rfl
  | _, _, _, .cons h t, e => by
    cases h with
    | bl i =>
      obtain ⟨ms, hm, rfl⟩ := Option.map_eq_some_iff.mp (show (blsOf _).map (i :: ·) = some _ from e)
      rw [Rps.bls t hm]; rfl
    | _ => cases e
end
/-- all, any, sum of a list -/
def allD : D → Option D
  | .lst xs => (blsOf xs).map fun bs => .bl (bs.all id)
  | _ => none
theorem ok_all : CallOk X W (rAll X.K) (b1 allD) := callOk_1 fun F c H x dx d Q hx e q => by
  unfold allD at e
  split at e
  · cases hx with
    | lst f h r =>
      obtain ⟨bs, hb, rfl⟩ := Option.map_eq_some_iff.mp e
      rw [r.bls hb] at h
      exact ⟨_, bs, rfl, SqL.of h, q _ (.bl _)⟩
  · cases e
theorem ve_all (hc : X.calm = true) (hm : X.mg "all" = none) (ha : VE X W e fa) (hgl : Gl X "all" := by rfl) (hs : starEach [e] X.env = (false, eval e X.env) :: starEach [] X.env := by rfl) : VE X W (.Call (.Name "all" p) [e] [] pos) (eBlt (b1 allD) (eCons fa eNil)) := ve_blt (cr_all hc) ok_all hm PyProof.Rows.boot_all (va_cons ha va_nil hs) hgl (by decide) (by decide) hs
def listD : D → Option D
  | .lst xs => some (.lst xs)
  | .tup xs => some (.lst xs)
  | _ => none
def tupD : D → Option D
  | .lst xs => some (.tup xs)
  | .tup xs => some (.tup xs)
  | _ => none
theorem ok_list : CallOkF X W (fun xs H Q => ∃ p ys, xs = [.ref p] ∧ (SqL X.K H p ys ∨ SqT X.K H p ys) ∧ ∀ l, H l = none → Q (.ref l) (upd H l (.lst ys))) (b1 listD) := callOkF_1 fun F c H x dx d Q hx e q => by
  unfold listD at e
  split at e
  · cases e
    cases hx with
    | lst f h r => exact ⟨_, _, rfl, .inl (SqL.of h), fun l hl => q l _ hl fun F' s => ⟨_, upd_same, r.stp s⟩⟩
  · cases e
    cases hx with
    | tup h r => exact ⟨_, _, rfl, .inr h.sq, fun l hl => q l _ hl fun F' s => ⟨_, upd_same, r.stp s⟩⟩
  · cases e
theorem vf_list (hm : X.mg "list" = none) (ha : VE X W e fa) (hgl : Gl X "list" := by rfl) (hs : starEach [e] X.env = (false, eval e X.env) :: starEach [] X.env := by rfl) : VF X W (.Call (.Name "list" p) [e] [] pos) (eBlt (b1 listD) (eCons fa eNil)) := vf_ty call_list_of ok_list hm (by decide +kernel) (va_cons ha va_nil hs) hgl (by decide) (by decide) hs
def tyD : D → Option String
  | .non => some "NoneType"
  | .bl _ => some "bool"
  | .int _ => some "int"
  | .str _ => some "str"
  | .lst _ => some "list"
  | .tup _ => some "tuple"
  | _ => none
def isiD (T : String) (d : D) : Option D := (tyD d).bind fun t => (kitB t T).map .bl
theorem Rp.tyx {K : PySem.W.Frag} {mg : Str → Option Value} {F : Addr → Prop} {c : List Addr} {H : Hp} {v : V} {d : D} {t : String} (h : Rp K mg F c H v d) (e : tyD d = some t) : TyX K H v (.type t) := by
  cases h with
  | non => cases e; exact .base .non
  | bl b => cases e; exact .base (.bl b)
  | int b => cases e; exact .base (.int b)
  | str b => cases e; exact .base (.str b)
  | lst f h r => cases e; exact .base (.lst h)
  | tup h r =>
    cases e
    rcases h with ⟨_, h⟩ | ⟨o, its, n, h1, h2, _⟩
    · exact .base (.tup h)
    · exact .kTuple h1 h2
  | scr => cases e
  | obj => cases e
  | ino => cases e
  | ref => cases e
  | glb => cases e
  | lam => cases e
  | lamD => cases e
theorem ve_isi {T : Str} {t : String} {p2 : Pos} (hm : X.mg "isinstance" = none) (hmT : X.mg T = none) (hvT : bootBuiltins T = some (.type t)) (ha : VE X W e fa) (hgl : Gl X "isinstance" := by rfl) (hglT : Gl X T := by rfl) (hn : T ≠ "__name__" := by decide) (hdb : (T == ("__debug__" : Str)) = false := by decide)
    (hs : starEach [e, .Name T p2] X.env = (false, eval e X.env) :: starEach [.Name T p2] X.env := by rfl) (hs2 : starEach [.Name T p2] X.env = (false, eval (.Name T p2) X.env) :: starEach [] X.env := by rfl) (hpl : (backTo pos (starEach [.Name T p2] X.env)).any (·.1) = false := by rfl) : VE X W (.Call (.Name "isinstance" p) [e, .Name T p2] [] pos) (eUn (isiD t) fa) := by
  refine PEof (pe_callB call_isi hgl hm PyProof.Rows.boot_isinstance (pa_cons ha (pa_cons (pe_bltn (v := .ty t) hglT hmT hvT rfl hn hdb) pa_nil hs2) hs) (by decide) (by decide) hs hpl) fun σ H Q ⟨b, F, c, env, st, e1, e2, r, pp⟩ => tE_at e1 e2 r pp fun v d env1 st1 F1 c1 H1 s1 r1 rp1 p1 => ?_
  unfold ret isiD at p1
  split at p1
  · rename_i d' ed
    obtain ⟨t', ht, h2⟩ := Option.bind_eq_some_iff.mp ed
    obtain ⟨k, hk, rfl⟩ := Option.map_eq_some_iff.mp h2
    exact ⟨v, .ty t, .type t', .type t, k, rfl, .ty t, e1 ▸ rp1.tyx ht, kit_ty hk, Post.here r1 p1 _ (.bl _)⟩
  · exact p1.elim
def cutD (xs : List D) (lo hi : Option Int) : List D := (xs.drop (HT.sIx xs.length 0 lo)).take (HT.sIx xs.length xs.length hi - HT.sIx xs.length 0 lo)
theorem Rps.cut {K : PySem.W.Frag} {mg : Str → Option Value} {F : Addr → Prop} {c : List Addr} {H : Hp} {vs : List V} {ds : List D} (r : Rps K mg F c H vs ds) (lo hi : Option Int) : Rps K mg F c H (cutV vs lo hi) (cutD ds lo hi) := by
  unfold cutV cutD
  rw [r.length]
  exact (r.drop _).take _
/-- a slice's bounds -/
def VO (X : Cx) (W : WX) (e : Option Expr) (f : M (Option Int)) : Prop := PO X e (fun σ H Q => At X W f σ H fun _ t _ _ _ _ H' => Q t H')
def oNone : M (Option Int) := fun env st => .ok none env st
def oSome (fa : M D) : M (Option Int) := fun env st => (fa env st).bind fun d env st => match d with
  | .int i => .ok (some i) env st
  | _ => .bad
theorem vo_none : VO X W none oNone := ⟨fun pins s σ H Q I ⟨b, F, c, env, st, e1, e2, r, p⟩ => po_none.run pins s σ H Q I (Post.here r p)⟩
theorem vo_some (h : VE X W e fa) : VO X W (some e) (oSome fa) := ⟨fun pins s σ H Q I ⟨b, F, c, env, st, e1, e2, r, p⟩ => (po_some h).run pins s σ H Q I (tE_at e1 e2 r p fun v d env1 st1 F1 c1 H1 s1 r1 rp1 p1 => by
  split at p1
  · cases rp1; exact ⟨_, rfl, Post.here r1 p1⟩
  · exact p1.elim)⟩
theorem tO_at {β : Type} {b : Bs} {F : Addr → Prop} {c : List Addr} {env : EnvD} {st : Sto} {σ : L2.St} {H : Hp} {P : β → EnvD → Sto → (Addr → Prop) → List Addr → Hp → Prop} {f : M (Option Int)} {k : Option Int → M β} {Q : Option Int → Hp → Prop} (e1 : b.K = X.K) (e2 : b.mg = X.mg) (r : Rel b F c env st σ H) (p : Post b W F c σ H P ((f env st).bind k))
    (hq : ∀ t env' st' F' c' H', Stp F c H F' c' H' → Rel b F' c' env' st' σ H' → Post b W F' c' σ H' P (k t env' st') → Q t H') : At X W f σ H (fun _ t _ _ _ _ H' => Q t H') :=
  ⟨b, F, c, env, st, e1, e2, r, (Post.bind p).mono fun t env' st' F' c' H' s r' q => hq t env' st' F' c' H' s r' q⟩
theorem Rel.ownUpd {b : Bs} {F : Addr → Prop} {c : List Addr} {env : EnvD} {st : Sto} {σ : L2.St} {H : Hp} (r : Rel b F c env st σ H) {i : Nat} {d d' : D} {ad : Addr} {o' : HO} (he : env[i]? = some (.ow d)) (hσ : σ[i]? = some (some (.ref ad))) (hx : Stp F c H F c (upd H ad o') → OwnAt b.K b.mg F c (upd H ad o') ad d') :
    Stp F c H F c (upd H ad o') ∧ Rel b F c (env.set i (.ow d')) st σ (upd H ad o') := by
  obtain ⟨nF, nc, n0, o, ho⟩ := r.own (i := i) ⟨d, he, hσ⟩
  have ne : ∀ y, y ≠ ad → upd H ad o' y = H y := fun y h => upd_ne h
  have hno : ∀ x, H ad ≠ some (.own x) := fun x z => by
    obtain ⟨a2, e2, _, _, _, q4⟩ := r.sl i _ he
    rw [hσ] at e2; cases e2
    cases d with
    | lst ds => obtain ⟨vs, h, _⟩ := q4; rw [z] at h; cases h
    | _ => exact q4.elim
  have hfz : ∀ y u, H ad ≠ some (.frz y u) := fun y u z => by
    obtain ⟨a2, e2, _, _, _, q4⟩ := r.sl i _ he
    rw [hσ] at e2; cases e2
    cases d with
    | lst ds => obtain ⟨vs, h, _⟩ := q4; rw [z] at h; cases h
    | _ => exact q4.elim
  have htb : ∀ ps, H ad ≠ some (.tbl ps) := by
    obtain ⟨a2, e2, _, _, _, q4⟩ := r.sl i _ he
    rw [hσ] at e2; cases e2
    exact q4.ntbl
  have s : Stp F c H F c (upd H ad o') := ⟨fun _ h => h, fun y z f e => by rw [ne y (fun q => nF (q ▸ f))]; exact e, ⟨[], (List.append_nil c).symm⟩, own_upd hno, lck_upd hfz⟩
  have il : i < env.length := (List.getElem?_eq_some_iff.mp he).1
  have own : ∀ {j y}, OwnA (env.set i (.ow d')) σ j y → OwnA env σ j y := fun {j y} ⟨dd, e, e'⟩ => by
    by_cases q : i = j
    · subst q; exact ⟨d, he, e'⟩
    · rw [List.getElem?_set_ne q] at e; exact ⟨dd, e, e'⟩
  refine ⟨s, r.rc.stp s (fun y hf => ?_) (fun y hy => ne y fun q => nc (q ▸ hy)) r.rc.nf (fun y x e => by rw [ne y fun q => hno x (q ▸ e)]; exact e) (fun y x e => by rw [ne y fun q => htb x (q ▸ e)]; exact e) (fun _ _ _ h => h), by rw [List.length_set]; exact r.len, fun j sl e => ?_, fun j k y h1 h2 => r.ds j k y (own h1) (own h2), fun y z e hc => (r.old y z e hc).up fun w h => .inl (by rw [ne y fun q => by rw [q, n0] at e; cases e]; exact h), r.new, r.nwc, r.f0, r.k0⟩
  · obtain ⟨z, e⟩ := r.rc.trk y hf
    exact ⟨z, s.keep y z hf e⟩
  · by_cases q : i = j
    · subst q
      rw [List.getElem?_set_self il] at e; cases e
      exact ⟨ad, hσ, nF, nc, n0, hx s⟩
    · rw [List.getElem?_set_ne q] at e
      have z := r.sl j sl e
      cases sl with
      | no => trivial
      | va d => obtain ⟨v, e', p⟩ := z; exact ⟨v, e', p.stp s⟩
      | gh cells vals => exact GhOk.stp z s
      | xc xi x => exact ⟨z.1, z.2.stp s⟩
      | ow d2 =>
        obtain ⟨y, e', p1, p2, p3, p4⟩ := z
        have hy : y ≠ ad := fun w => q (r.ds i j ad ⟨d, he, hσ⟩ ⟨d2, e, by rw [← w]; exact e'⟩)
        exact ⟨y, e', p1, p2, p3, p4.stp s (ne y hy)⟩
/-- x.append(e), x.extend(e) -/
def sApp (i : Nat) (g : List D → D → Option (List D)) (fa : M D) : M Fl := fun env st => match env[i]? with
  | some (.ow (.lst _)) => (fa env st).bind fun d env st => (match env[i]? with
    | some (.ow (.lst xs)) => (match g xs d with
      | some ys => .ok .nx (env.set i (.ow (.lst ys))) st
      | none => .bad)
    | _ => .bad)
  | _ => .bad
def appD (xs : List D) (d : D) : Option (List D) := if xs.length < 16777216 then some (xs ++ [d]) else none
theorem vs_app {i : Nat} {m : Str} {id : String} {r : V → List V → Hp → VK → Prop} {g : List D → D → Option (List D)} {apos p2 : Pos} (hslot : Slot "list" m id) (hty : typeOf (.builtin id) = pure (.type "method_descriptor")) (hm : MtR X id r)
    (hg : ∀ (F : Addr → Prop) (c : List Addr) (H : Hp) (ad : Addr) (vs : List V) (xs ys : List D) (v : V) (d : D) (Q : VK), H ad = some (.lst vs) → Rps X.K X.mg F c H vs xs → Rp X.K X.mg F c H v d → g xs d = some ys → (∀ ws, (∀ F' : Addr → Prop, Stp F c H F' c (upd H ad (.lst ws)) → Rps X.K X.mg F' c (upd H ad (.lst ws)) ws ys) → Q .non (upd H ad (.lst ws))) → r (.ref ad) [v] H Q)
    (ha : VE X W a fa) (hN : X.N[i]? = some x := by rfl) (hv : Vis X.env.scope x := by first | exact Or.inl rfl | exact Or.inr (Or.inl rfl) | exact Or.inr (Or.inr rfl)) (hd : (x == ("__debug__" : Str)) = false := by decide) (hcd : (x == ("__classdict__" : Str)) = false := by decide)
    (hbase : attributeBase (.Name x p) m X.env (eval (.Name x p) X.env) = eval (.Name x p) X.env := by rfl)
    (hfew : ((backTo p2 (starEach [a] X.env)).all (fun x => !x.1) && (backToKw p2 (keywordEach [] X.env)).all (fun x => x.1.isSome)
      && decide (([a] : List Expr).length + ([] : List Keyword).length + (if ([] : List Keyword).isEmpty then 0 else 1) < 30)) = true := by rfl)
    (hline : (apos.endLine == p2.line) = true := by rfl) (hs : starEach [a] X.env = (false, eval a X.env) :: starEach [] X.env := by rfl) (hplain : (backTo p2 (starEach [] X.env)).any (·.1) = false := by rfl)
    (hsw : swapsWith (.Call (.Attribute (.Name x p) m apos) [a] [] p2) none pos.line X.env = pure false := by rfl) : VS X W (.Expr (.Call (.Attribute (.Name x p) m apos) [a] [] p2) pos) (sApp i g fa) :=
  PSof (ps_expr (pe_bm PySem.F.plainAttrs_list hslot hty hm (pe_var hN hv hd hcd) (pa_cons ha pa_nil hs) hbase hfew hline hs hplain) hsw) fun D₀ σ H ⟨b, F, c, env, st, e1, e2, r0, p⟩ => by
    unfold sApp at p
    split at p
    · rename_i xs0 he0
      obtain ⟨ad, had, h1, h2, h3, vs0, h4, h5⟩ := r0.sl i _ he0
      refine ⟨_, had, .inl ⟨rfl, _, SqL.of h4⟩, sE_at e1 e2 r0 p fun v d env1 st1 F1 c1 H1 s1 r1 rp1 p1 => ?_⟩
      split at p1
      · rename_i xs he
        split at p1
        · rename_i ys hys
          obtain ⟨ad', had', k1, k2, k3, vs, k4, k5⟩ := r1.sl i _ he
          rw [had] at had'; cases had'
          rw [e1, e2] at k5 rp1
          refine hg F1 c1 H1 ad vs xs ys v d _ k4 k5 rp1 hys fun ws hw => ?_
          obtain ⟨s2, r2⟩ := r1.ownUpd (d' := .lst ys) (o' := .lst ws) he had fun s => ⟨ws, upd_same, by rw [e1, e2]; exact hw _ s⟩
          exact PostS.here (P := fun fl _ _ F c σ H => FlOk b D₀ F c σ H fl) r2 (p1.stp s2)
        · exact p1.elim
      · exact p1.elim
    · exact p.elim
theorem vs_append {i : Nat} {apos p2 : Pos} (ha : VE X W a fa) (hN : X.N[i]? = some x := by rfl) (hv : Vis X.env.scope x := by first | exact Or.inl rfl | exact Or.inr (Or.inl rfl) | exact Or.inr (Or.inr rfl)) (hd : (x == ("__debug__" : Str)) = false := by decide) (hcd : (x == ("__classdict__" : Str)) = false := by decide)
    (hbase : attributeBase (.Name x p) "append" X.env (eval (.Name x p) X.env) = eval (.Name x p) X.env := by rfl)
    (hfew : ((backTo p2 (starEach [a] X.env)).all (fun x => !x.1) && (backToKw p2 (keywordEach [] X.env)).all (fun x => x.1.isSome)
      && decide (([a] : List Expr).length + ([] : List Keyword).length + (if ([] : List Keyword).isEmpty then 0 else 1) < 30)) = true := by rfl)
    (hline : (apos.endLine == p2.line) = true := by rfl) (hs : starEach [a] X.env = (false, eval a X.env) :: starEach [] X.env := by rfl) (hplain : (backTo p2 (starEach [] X.env)).any (·.1) = false := by rfl)
    (hsw : swapsWith (.Call (.Attribute (.Name x p) "append" apos) [a] [] p2) none pos.line X.env = pure false := by rfl) : VS X W (.Expr (.Call (.Attribute (.Name x p) "append" apos) [a] [] p2) pos) (sApp i appD fa) :=
  vs_app PySem.F.slot_list_append PySem.F.type_list_append mt_append (fun F c H ad vs xs ys v d Q h1 h2 h3 h4 q => by
    unfold appD at h4
    split at h4
    · rename_i hl
      cases h4
      exact ⟨ad, vs, v, rfl, rfl, h1, by rw [h2.length, sizeLine_eq]; exact hl, q _ fun F' s => (h2.stp s).append (.cons (h3.stp s) .nil)⟩
    · cases h4) ha hN hv hd hcd hbase hfew hline hs hplain hsw
end
end VE
namespace VE
open PySem PySem.Spec PyProof.Rows L2
variable [VEnv]
/-- a constant of the module -/
structure ConstV (K : PySem.W.Frag) (mg : Str → Option Value) (n : Str) (d : D) : Prop where
  ex : ∃ u v, mg n = some u ∧ RelV v u ∧ ∀ F c H, Rp K mg F c H v d
theorem ConstV.int {K : PySem.W.Frag} {mg : Str → Option Value} {n : Str} {i : Int} {t : Tok} (h : mg n = some (.int i t)) : ConstV K mg n (.int i) := ⟨_, .int i, h, ⟨t, rfl⟩, fun _ _ _ => .int i⟩
theorem ConstV.str {K : PySem.W.Frag} {mg : Str → Option Value} {n : Str} {i : Str} {t : Tok} (h : mg n = some (.str i t)) : ConstV K mg n (.str i) := ⟨_, .str i, h, ⟨t, rfl⟩, fun _ _ _ => .str i⟩
section
variable {X : Cx} {W : WX} {e a o : Expr} {es : List Expr} {pos pos' p : Pos} {fa fb fo fi : M D} {fs : M (List D)} {x : Str}
theorem ve_gc {d : D} (cv : ConstV X.K X.mg x d) (hg : Gl X x := by rfl) (hd : (x == ("__debug__" : Str)) = false := by decide) : VE X W (.Name x pos) (eC d) := by
  obtain ⟨u, v, hm, r, rp⟩ := cv.ex
  exact ve_c (pe_glob hg hm r hd) rp
def sBad : M Fl := fun _ _ => .bad
theorem vs_never {s : Stmt} : VS X W s sBad := PSof ps_never fun D₀ σ H ⟨b, F, c, env, st, e1, e2, r, p⟩ => p
end
end VE
namespace VE
open PySem PySem.Spec PyProof.Rows L2
section
variable {fa fb fc fo fi fe : M D} {fs : M (List D)} {ff : M (List D)} {ta tb tc : M Bool} {g g' : M Fl} {env : EnvD} {st : Sto} {i j n np : Nat} {d d' x y z : D} {ds : List D} {s m : Str} {t : Bool} {mf : FM}
@[simp] theorem x_ret_some : ret (some d) env st = .ok d env st := rfl
@[simp] theorem x_ret_none : ret none env st = .bad := rfl
def kVar (i : Nat) (s : Option Sl) : M D := fun env st => match s with
  | some (.va d) => .ok d env st
  | some (.ow d) => .ok d (env.set i (.va d)) st
  | _ => .bad
@[simp] theorem x_eVar : eVar i env st = kVar i env[i]? env st := rfl
@[simp] theorem x_kVar1 : kVar i (some (.va d)) env st = .ok d env st := rfl
@[simp] theorem x_kVar2 : kVar i (some (.ow d)) env st = .ok d (env.set i (.va d)) st := rfl
@[simp] theorem x_eC : eC d env st = .ok d env st := rfl
def kBin2 (h : D → D → M D) (x : D) : D → M D := fun y e s => h x y e s
def kBin1 (h : D → D → M D) (fb : M D) : D → M D := fun x e s => (fb e s).bind (kBin2 h x)
@[simp] theorem x_eBin {h : D → D → M D} : eBin h fa fb env st = (fa env st).bind (kBin1 h fb) := rfl

@[simp] theorem x_kBin1 {h : D → D → M D} : kBin1 h fb x env st = (fb env st).bind (kBin2 h x) := rfl
@[simp] theorem x_kBin2 {h : D → D → M D} : kBin2 h x y env st = h x y env st := rfl
@[simp] theorem x_sc2 {h : D → D → Option D} : sc2 h x y env st = ret (h x y) env st := rfl
def kUn (h : D → Option D) : D → M D := fun x e s => ret (h x) e s
@[simp] theorem x_eUn {h : D → Option D} : eUn h fa env st = (fa env st).bind (kUn h) := rfl
@[simp] theorem x_kUn {h : D → Option D} : kUn h x env st = ret (h x) env st := rfl
def kT : D → M Bool := fun x e s => match x with
  | .bl t => .ok t e s
  | _ => .bad
@[simp] theorem x_eT : eT fa env st = (fa env st).bind kT := rfl
@[simp] theorem x_kT : kT (.bl t) env st = .ok t env st := rfl
def kCh3 (q : Int → Int → Bool) (j : Int) : D → M D := fun z e s => match z with
  | .int l => .ok (.bl (q j l)) e s
  | _ => .bad
def kCh2 (p q : Int → Int → Bool) (fc : M D) (x : D) : D → M D := fun y e s => match x, y with
  | .int i, .int j => if p i j then (fc e s).bind (kCh3 q j) else .ok (.bl false) e s
  | _, _ => .bad
def kCh1 (p q : Int → Int → Bool) (fb fc : M D) : D → M D := fun x e s => (fb e s).bind (kCh2 p q fc x)
@[simp] theorem x_eChain {p q : Int → Int → Bool} : eChain p q fa fb fc env st = (fa env st).bind (kCh1 p q fb fc) := rfl
@[simp] theorem x_kCh1 {p q : Int → Int → Bool} : kCh1 p q fb fc x env st = (fb env st).bind (kCh2 p q fc x) := rfl
@[simp] theorem x_kCh2 {p q : Int → Int → Bool} {i j : Int} : kCh2 p q fc (.int i) (.int j) env st = if p i j then (fc env st).bind (kCh3 q j) else .ok (.bl false) env st := rfl
@[simp] theorem x_kCh3 {q : Int → Int → Bool} {j l : Int} : kCh3 q j (.int l) env st = .ok (.bl (q j l)) env st := rfl
def kBA (tb : M Bool) : Bool → M Bool := fun t env st => if t then tb env st else .ok false env st
def kBO (tb : M Bool) : Bool → M Bool := fun t env st => if t then .ok true env st else tb env st
def kBN : Bool → M Bool := fun t env st => .ok (!t) env st
@[simp] theorem x_bAnd : bAnd ta tb env st = (ta env st).bind (kBA tb) := rfl
@[simp] theorem x_kBA1 : kBA tb true env st = tb env st := rfl
@[simp] theorem x_kBA0 : kBA tb false env st = .ok false env st := rfl
@[simp] theorem x_bOr : bOr ta tb env st = (ta env st).bind (kBO tb) := rfl
@[simp] theorem x_kBO1 : kBO tb true env st = .ok true env st := rfl
@[simp] theorem x_kBO0 : kBO tb false env st = tb env st := rfl
@[simp] theorem x_bNot : bNot ta env st = (ta env st).bind kBN := rfl
@[simp] theorem x_kBN : kBN t env st = .ok (!t) env st := rfl
@[simp] theorem x_bYes : bYes env st = .ok true env st := rfl
def kEA (fb : M D) : D → M D := fun x env st => match x with
  | .bl true => fb env st
  | .bl false => .ok (.bl false) env st
  | _ => .bad
def kEN : D → M D := fun x env st => match x with
  | .bl t => .ok (.bl (!t)) env st
  | _ => .bad
@[simp] theorem x_eAnd : eAnd fa fb env st = (fa env st).bind (kEA fb) := rfl
@[simp] theorem x_kEA1 : kEA fb (.bl true) env st = fb env st := rfl
@[simp] theorem x_kEA0 : kEA fb (.bl false) env st = .ok (.bl false) env st := rfl
@[simp] theorem x_eNot : eNot fa env st = (fa env st).bind kEN := rfl
@[simp] theorem x_kEN : kEN (.bl t) env st = .ok (.bl (!t)) env st := rfl
def kIf (fa fb : M D) : Bool → M D := fun t env st => if t then fa env st else fb env st
@[simp] theorem x_eIf : eIf ta fa fb env st = (ta env st).bind (kIf fa fb) := rfl
@[simp] theorem x_kIf1 : kIf fa fb true env st = fa env st := rfl
@[simp] theorem x_kIf0 : kIf fa fb false env st = fb env st := rfl
@[simp] theorem x_eNil : eNil env st = .ok [] env st := rfl
def kCons2 (d : D) : List D → M (List D) := fun ds env st => .ok (d :: ds) env st
def kCons1 (fs : M (List D)) : D → M (List D) := fun d env st => (fs env st).bind (kCons2 d)
@[simp] theorem x_eCons : eCons fa fs env st = (fa env st).bind (kCons1 fs) := rfl
@[simp] theorem x_kCons1 : kCons1 fs d env st = (fs env st).bind (kCons2 d) := rfl
@[simp] theorem x_kCons2 : kCons2 d ds env st = .ok (d :: ds) env st := rfl
def kStar2 (xs : List D) : List D → M (List D) := fun ds env st => .ok (xs ++ ds) env st
def kStar1 (fs : M (List D)) : D → M (List D) := fun d env st => match itemsOf d with
  | some xs => (fs env st).bind (kStar2 xs)
  | none => .bad
@[simp] theorem x_eStar : eStar fa fs env st = (fa env st).bind (kStar1 fs) := rfl
@[simp] theorem x_kStarL : kStar1 fs (.lst ds) env st = (fs env st).bind (kStar2 ds) := rfl
@[simp] theorem x_kStarT : kStar1 fs (.tup ds) env st = (fs env st).bind (kStar2 ds) := rfl
@[simp] theorem x_kStar2 {xs : List D} : kStar2 xs ds env st = .ok (xs ++ ds) env st := rfl
def kTup : List D → M D := fun ds env st => if ds.length ≤ 16777216 then .ok (.tup ds) env st else .bad
def kLst : List D → M D := fun ds env st => if ds.length ≤ 16777216 then .ok (.lst ds) env st else .bad
@[simp] theorem x_eTup : eTup fs env st = (fs env st).bind kTup := rfl
@[simp] theorem x_kTup : kTup ds env st = if ds.length ≤ 16777216 then .ok (.tup ds) env st else .bad := rfl
@[simp] theorem x_eLst : eLst fs env st = (fs env st).bind kLst := rfl
@[simp] theorem x_kLst : kLst ds env st = if ds.length ≤ 16777216 then .ok (.lst ds) env st else .bad := rfl
@[simp] theorem x_eBlt {h : List D → M D} : eBlt h fs env st = (fs env st).bind h := rfl
@[simp] theorem x_b1 {h : D → Option D} : b1 h [d] env st = ret (h d) env st := rfl
@[simp] theorem x_sNx : sNx env st = .ok .nx env st := rfl
@[simp] theorem x_sBad : sBad env st = .bad := rfl
def kSeq (g : M Fl) : Fl → M Fl := fun fl env st => match fl with
  | .nx => g env st
  | fl => .ok fl env st
@[simp] theorem x_sSeq : sSeq g g' env st = (g env st).bind (kSeq g') := rfl
@[simp] theorem x_kSeq1 : kSeq g .nx env st = g env st := id rfl
@[simp] theorem x_kSeq2 : kSeq g (.rt d) env st = .ok (.rt d) env st := rfl
@[simp] theorem x_kSeq3 : kSeq g (.rf d) env st = .ok (.rf d) env st := rfl
@[simp] theorem x_kSeq4 : kSeq g .bk env st = .ok .bk env st := rfl
@[simp] theorem x_kSeq5 : kSeq g .ct env st = .ok .ct env st := rfl
def kExpr : D → M Fl := fun _ env st => .ok .nx env st
@[simp] theorem x_sExpr : sExpr fa env st = (fa env st).bind kExpr := rfl
@[simp] theorem x_kExpr : kExpr d env st = .ok .nx env st := rfl
def kRet : D → M Fl := fun d env st => .ok (.rt d) env st
@[simp] theorem x_sRet : sRet fa env st = (fa env st).bind kRet := rfl
@[simp] theorem x_kRet : kRet d env st = .ok (.rt d) env st := rfl
def kSIf (g g' : M Fl) : Bool → M Fl := fun t env st => if t then g env st else g' env st
@[simp] theorem x_sIf : sIf ta g g' env st = (ta env st).bind (kSIf g g') := rfl
@[simp] theorem x_kSIf1 : kSIf g g' true env st = g env st := rfl
@[simp] theorem x_kSIf0 : kSIf g g' false env st = g' env st := rfl
def kSet (i : Nat) : D → M Fl := fun d env st => .ok .nx (env.set i (.va d)) st
def kSetF (i : Nat) : D → M Fl := fun d env st => .ok .nx (env.set i (.ow d)) st
@[simp] theorem x_sSet : sSet i fa env st = (fa env st).bind (kSet i) := rfl
@[simp] theorem x_kSet : kSet i d env st = .ok .nx (env.set i (.va d)) st := rfl
@[simp] theorem x_sSetF : sSetF i fa env st = (fa env st).bind (kSetF i) := rfl
@[simp] theorem x_kSetF : kSetF i d env st = .ok .nx (env.set i (.ow d)) st := rfl
def kAsg2 : Option EnvD → M Fl := fun o _ st => match o with
  | some env => .ok .nx env st
  | none => .bad
def kAsg (t : D → EnvD → Option EnvD) : D → M Fl := fun d env st => kAsg2 (t d env) env st
@[simp] theorem x_sAsg {t : D → EnvD → Option EnvD} : sAsg t fa env st = (fa env st).bind (kAsg t) := rfl
@[simp] theorem x_kAsg {t : D → EnvD → Option EnvD} : kAsg t d env st = kAsg2 (t d env) env st := rfl
@[simp] theorem x_kAsg2 {env' : EnvD} : kAsg2 (some env') env st = .ok .nx env' st := rfl
@[simp] theorem x_gN : gN i d env = some (env.set i (.va d)) := rfl
@[simp] theorem x_gsN : gsN [] env = some env := rfl
@[simp] theorem x_gsC {t : D → EnvD → Option EnvD} {u : List D → EnvD → Option EnvD} : gsC t u (d :: ds) env = (t d env).bind (u ds) := rfl
@[simp] theorem x_gT {t : List D → EnvD → Option EnvD} : gT n t (.tup ds) env = if ds.length = n then t ds env else none := rfl
def kPar (i j : Nat) : List D → M Fl := fun ds env st => match ds with
  | [d, d'] => .ok .nx ((env.set i (.va d)).set j (.va d')) st
  | _ => .bad
@[simp] theorem x_sPar : sPar i j fs env st = (fs env st).bind (kPar i j) := rfl
@[simp] theorem x_kPar : kPar i j [d, d'] env st = .ok .nx ((env.set i (.va d)).set j (.va d')) st := rfl
def kCall (mf : FM) (n : Nat) : List D → M D := fun ds env st => if ds.length = n then callR mf ds env st else .bad
@[simp] theorem x_eCall : eCall mf n fs env st = (fs env st).bind (kCall mf n) := rfl
@[simp] theorem x_kCall : kCall mf n ds env st = if ds.length = n then callR mf ds env st else .bad := rfl
def ofRF : RF → M D := fun r env st => match r with
  | .ok d st => .ok d env st
  | .ex x st => .ex x env st
  | .bad => .bad
theorem x_callR : callR mf ds env st = ofRF (mf ds st) env st := rfl
@[simp] theorem x_ofRF1 {st' : Sto} : ofRF (.ok d st') env st = .ok d env st' := rfl
@[simp] theorem x_ofRF2 {e : Exn} {st' : Sto} : ofRF (.ex e st') env st = .ex e env st' := rfl
def kFor (t : D → EnvD → Option EnvD) (ws : List Nat) (g : M Fl) : List D → M Fl := fun ds env st => forL t ws g ds env st
@[simp] theorem x_sFor {t : D → EnvD → Option EnvD} {ws : List Nat} : sFor ff t ws g env st = (ff env st).bind (kFor t ws g) := rfl
@[simp] theorem x_kFor {t : D → EnvD → Option EnvD} {ws : List Nat} : kFor t ws g ds env st = forL t ws g ds env st := rfl
def kComp (t : D → EnvD → Option EnvD) (ws : List Nat) (ta : M Bool) (fe : M D) : List D → M D := fun ds env st => compL t ws ta fe ds [] env st
@[simp] theorem x_eComp {t : D → EnvD → Option EnvD} {ws : List Nat} : eComp ff t ws ta fe env st = (ff env st).bind (kComp t ws ta fe) := rfl
@[simp] theorem x_kComp {t : D → EnvD → Option EnvD} {ws : List Nat} : kComp t ws ta fe ds env st = compL t ws ta fe ds [] env st := rfl
@[simp] theorem rOk_ {j : Int} (h : -1000000 ≤ j) (h2 : j ≤ 1000000) : rOk j = true := by
  rw [rOk_iff]
  exact ⟨by omega, by omega⟩
noncomputable def kR1 : D → M (List D) := fun d env st => match d with
  | .int j => if rOk j then .ok (rngD 0 j.toNat) env st else .bad
  | _ => .bad
@[simp] theorem x_iR1 : iR1 fa env st = (fa env st).bind kR1 := rfl
@[simp] theorem x_kR1 {j : Int} : kR1 (.int j) env st = if rOk j then .ok (rngD 0 j.toNat) env st else .bad := rfl
def kCell (i : Nat) : List D → M Fl := fun ds env st => if ds.length ≤ 16777216 then .ok .nx (env.set i (.va (.ref st.length))) (st ++ [.lst ds]) else .bad
@[simp] theorem x_sCell : sCell i fs env st = (fs env st).bind (kCell i) := rfl
@[simp] theorem x_kCell : kCell i ds env st = if ds.length ≤ 16777216 then .ok .nx (env.set i (.va (.ref st.length))) (st ++ [.lst ds]) else .bad := rfl
def kIxC (k : Int) (c : Option Cell) : M D := fun env st => match c with
  | some (.lst ds) => ret (atI ds k) env st
  | _ => .bad
@[simp] theorem x_ixC {k : Int} : ixC (.ref n) (.int k) env st = kIxC k st[n]? env st := rfl
@[simp] theorem x_kIxC {k : Int} : kIxC k (some (.lst ds)) env st = ret (atI ds k) env st := rfl
def kFS3 (n f : Str) (d : D) (m : Nat) (c : Option Cell) : M Fl := fun env st => match c with
  | some (.ins n' fs) => if n' = n ∧ fs.length < 1000 then .ok .nx env (st.set m (.ins n (putD f d fs))) else .bad
  | _ => .bad
def kFS2 (n f : Str) (d : D) : D → M Fl := fun r env st => match r with
  | .ref m => kFS3 n f d m st[m]? env st
  | _ => .bad
def kFS1 (n f : Str) (fo : M D) : D → M Fl := fun d env st => (fo env st).bind (kFS2 n f d)
@[simp] theorem x_sFldS {n f : Str} : sFldS n f fo fe env st = (fe env st).bind (kFS1 n f fo) := rfl
@[simp] theorem x_kFS1 {n f : Str} : kFS1 n f fo d env st = (fo env st).bind (kFS2 n f d) := rfl
@[simp] theorem x_kFS2 {n f : Str} {q : Nat} : kFS2 n f d (.ref q) env st = kFS3 n f d q st[q]? env st := rfl
@[simp] theorem x_kFS3 {n n' f : Str} {q : Nat} {fl : List (Str × D)} : kFS3 n f d q (some (.ins n' fl)) env st = if n' = n ∧ fl.length < 1000 then .ok .nx env (st.set q (.ins n (putD f d fl))) else .bad := rfl
def kM3 (mf : FM) (np q : Nat) : List D → M D := fun ds env st => if ds.length + 1 = np then callR mf (.ref q :: ds) env st else .bad
def kM2 (n m : Str) (mf : FM) (np q : Nat) (fs : M (List D)) (c : Option Cell) : M D := fun env st => match c with
  | some (.ins n' fl) => if n' = n ∧ fl.lookup m = none then (fs env st).bind (kM3 mf np q) else .bad
  | _ => .bad
def kM1 (n m : Str) (mf : FM) (np : Nat) (fs : M (List D)) : D → M D := fun r env st => match r with
  | .ref q => kM2 n m mf np q fs st[q]? env st
  | _ => .bad
@[simp] theorem x_eMeth {n m : Str} : eMeth n m mf np fo fs env st = (fo env st).bind (kM1 n m mf np fs) := rfl
@[simp] theorem x_kM1 {n m : Str} {q : Nat} : kM1 n m mf np fs (.ref q) env st = kM2 n m mf np q fs st[q]? env st := rfl
@[simp] theorem x_kM2 {n n' m : Str} {q : Nat} {fl : List (Str × D)} : kM2 n m mf np q fs (some (.ins n' fl)) env st = if n' = n ∧ fl.lookup m = none then (fs env st).bind (kM3 mf np q) else .bad := rfl
@[simp] theorem x_kM3 {q : Nat} : kM3 mf np q ds env st = if ds.length + 1 = np then callR mf (.ref q :: ds) env st else .bad := rfl
def kMz2 (n m : Str) (mf : FM) (np q : Nat) (c : Option Cell) : M D := fun env st => match c with
  | some (.ins n' fl) => if n' = n ∧ fl.lookup m = none ∧ np = 1 then callR mf [.ref q] env st else .bad
  | _ => .bad
def kMz1 (n m : Str) (mf : FM) (np : Nat) : D → M D := fun r env st => match r with
  | .ref q => kMz2 n m mf np q st[q]? env st
  | _ => .bad
@[simp] theorem x_eMeth0 {n m : Str} : eMeth0 n m mf np fo env st = (fo env st).bind (kMz1 n m mf np) := rfl
@[simp] theorem x_kMz1 {n m : Str} {q : Nat} : kMz1 n m mf np (.ref q) env st = kMz2 n m mf np q st[q]? env st := rfl
@[simp] theorem x_kMz2 {n n' m : Str} {q : Nat} {fl : List (Str × D)} : kMz2 n m mf np q (some (.ins n' fl)) env st = if n' = n ∧ fl.lookup m = none ∧ np = 1 then callR mf [.ref q] env st else .bad := rfl
def kMk2 (q : Nat) : D → M D := fun d env st => match d with
  | .non => .ok (.ref q) env st
  | _ => .bad
def kMk1 (n : Str) (mf : FM) (np : Nat) : List D → M D := fun ds env st => if ds.length + 1 = np then (callR mf (.ref st.length :: ds) env (st ++ [.ins n []])).bind (kMk2 st.length) else .bad
@[simp] theorem x_eMake {n : Str} : eMake n mf np fs env st = (fs env st).bind (kMk1 n mf np) := rfl
@[simp] theorem x_kMk1 {n : Str} : kMk1 n mf np ds env st = if ds.length + 1 = np then (callR mf (.ref st.length :: ds) env (st ++ [.ins n []])).bind (kMk2 st.length) else .bad := rfl
@[simp] theorem x_kMk2 {q : Nat} : kMk2 q .non env st = .ok (.ref q) env st := rfl
@[simp] theorem x_oNone : oNone env st = .ok none env st := rfl
def kO : D → M (Option Int) := fun d env st => match d with
  | .int i => .ok (some i) env st
  | _ => .bad
@[simp] theorem x_oSome : oSome fa env st = (fa env st).bind kO := rfl
@[simp] theorem x_kO {i : Int} : kO (.int i) env st = .ok (some i) env st := rfl
def kApp3 (i : Nat) : Option (List D) → M Fl := fun o env st => match o with
  | some ys => .ok .nx (env.set i (.ow (.lst ys))) st
  | none => .bad
def kApp2b (i : Nat) (h : List D → D → Option (List D)) (d : D) (s : Option Sl) : M Fl := fun env st => match s with
  | some (.ow (.lst xs)) => kApp3 i (h xs d) env st
  | _ => .bad
def kApp2 (i : Nat) (h : List D → D → Option (List D)) : D → M Fl := fun d env st => kApp2b i h d env[i]? env st
def kApp1 (i : Nat) (h : List D → D → Option (List D)) (fa : M D) (s : Option Sl) : M Fl := fun env st => match s with
  | some (.ow (.lst _)) => (fa env st).bind (kApp2 i h)
  | _ => .bad
@[simp] theorem x_sApp {h : List D → D → Option (List D)} : sApp i h fa env st = kApp1 i h fa env[i]? env st := rfl
@[simp] theorem x_kApp1 {h : List D → D → Option (List D)} : kApp1 i h fa (some (.ow (.lst ds))) env st = (fa env st).bind (kApp2 i h) := rfl
@[simp] theorem x_kApp2 {h : List D → D → Option (List D)} : kApp2 i h d env st = kApp2b i h d env[i]? env st := rfl
@[simp] theorem x_kApp2b {h : List D → D → Option (List D)} : kApp2b i h d (some (.ow (.lst ds))) env st = kApp3 i (h ds d) env st := rfl
@[simp] theorem x_kApp3 : kApp3 i (some ds) env st = .ok .nx (env.set i (.ow (.lst ds))) st := rfl
@[simp] theorem x_appD : appD ds d = if ds.length < 16777216 then some (ds ++ [d]) else none := rfl
@[simp] theorem x_sub {i j : Int} : subI (.int i) (.int j) = some (.int (i - j)) := rfl
@[simp] theorem x_mul {i j : Int} : mulI (.int i) (.int j) = if mulOk i j then some (.int (i * j)) else none := rfl
@[simp] theorem x_fdiv {i j : Int} : fdivI (.int i) (.int j) = if divOk j then some (.int (i / j)) else none := rfl
@[simp] theorem x_mod {i j : Int} : modI (.int i) (.int j) = if 0 < j then some (.int (i % j)) else none := rfl
@[simp] theorem x_pow {i j : Int} : powI (.int i) (.int j) = if decide (0 ≤ j) && decide (j ≤ 1000) && decide (i.natAbs < 2 ^ 64) then some (.int (i ^ j.toNat)) else none := rfl
@[simp] theorem x_neg {i : Int} : negI (.int i) = some (.int (-i)) := rfl
@[simp] theorem x_isN {b : Bool} : isN b x .non = some (.bl (if b then !isNone x else isNone x)) := rfl
@[simp] theorem x_ixL {xs : List D} {k : Int} : ixD (.lst xs) (.int k) = atI xs k := rfl
@[simp] theorem x_ixT {xs : List D} {k : Int} : ixD (.tup xs) (.int k) = atI xs k := rfl
@[simp] theorem x_ixR {xs : List Int} {k : Int} : ixD (.scr xs) (.int k) = (atI xs k).map .int := rfl
@[simp] theorem x_len1 {xs : List D} : lenD (.lst xs) = some (.int xs.length) := rfl
@[simp] theorem x_len2 {xs : List D} : lenD (.tup xs) = some (.int xs.length) := rfl
@[simp] theorem x_len3 {xs : List Int} : lenD (.scr xs) = some (.int xs.length) := rfl
@[simp] theorem x_len4 {z : Str} : lenD (.str z) = if z.length ≤ 16777216 then some (.int z.length) else none := rfl
@[simp] theorem x_int1 {i : Int} : intD (.int i) = some (.int i) := rfl
@[simp] theorem x_int2 {i : Bool} : intD (.bl i) = some (.int (if i then 1 else 0)) := rfl
@[simp] theorem x_tup1 {xs : List D} : tupD (.lst xs) = some (.tup xs) := rfl
@[simp] theorem x_tup2 {xs : List D} : tupD (.tup xs) = some (.tup xs) := rfl
@[simp] theorem x_list1 {xs : List D} : listD (.lst xs) = some (.lst xs) := rfl
@[simp] theorem x_list2 {xs : List D} : listD (.tup xs) = some (.lst xs) := rfl
@[simp] theorem x_ii1 {i : Int} : isiD "int" (.int i) = some (.bl true) := by simp only [isiD, tyD]; rfl
@[simp] theorem x_ib1 {i : Int} : isiD "bool" (.int i) = some (.bl false) := by simp only [isiD, tyD]; rfl
@[simp] theorem x_is1 {i : Str} : isiD "str" (.str i) = some (.bl true) := by simp only [isiD, tyD]; rfl
@[simp] theorem x_toRF1 {fr : Bool} : toRF fr (.ok .nx env st) = if fr then .bad else .ok .non st := rfl
@[simp] theorem x_toRF2 {fr : Bool} : toRF fr (.ok (.rt d) env st) = if fr then .bad else .ok d st := rfl
@[simp] theorem x_toRF3 {fr : Bool} : toRF fr (.ok (.rf d) env st) = .ok d st := rfl
@[simp] theorem x_toRF4 {fr : Bool} {e : Exn} : toRF fr (.ex e env st) = .ex e st := rfl
@[simp] theorem x_isNone : isNone .non = true := rfl
@[simp] theorem x_isNone1 {i : Int} : isNone (.int i) = false := rfl
@[simp] theorem x_isNone2 {i : Str} : isNone (.str i) = false := rfl
end
/-- items at written places -/
@[simp] theorem at0 {α : Type} {x : α} {xs : List α} : atI (x :: xs) 0 = some x := atI_nat (j := 0) rfl
@[simp] theorem at1 {α : Type} {x y : α} {xs : List α} : atI (x :: y :: xs) 1 = some y := atI_nat (j := 1) rfl
@[simp] theorem at2 {α : Type} {x y z : α} {xs : List α} : atI (x :: y :: z :: xs) 2 = some z := atI_nat (j := 2) rfl
@[simp] theorem at3 {α : Type} {x y z u : α} {xs : List α} : atI (x :: y :: z :: u :: xs) 3 = some u := atI_nat (j := 3) rfl
@[simp] theorem at4 {α : Type} {x y z u v : α} {xs : List α} : atI (x :: y :: z :: u :: v :: xs) 4 = some v := atI_nat (j := 4) rfl
@[simp] theorem at5 {α : Type} {x y z u v w : α} {xs : List α} : atI (x :: y :: z :: u :: v :: w :: xs) 5 = some w := atI_nat (j := 5) rfl
theorem ixN_nat {n : Nat} {i : Int} (h0 : 0 ≤ i) (h1 : i < n) : ixN n i = some i.toNat := by unfold ixN; rw [if_pos h0, if_pos h1]
theorem atI_pos {α : Type} {xs : List α} {i : Int} (h0 : 0 ≤ i) (h1 : i < xs.length) : atI xs i = xs[i.toNat]? := by unfold atI; rw [ixN_nat h0 h1]; rfl
@[simp] theorem ixN_4_1 : ixN 4 1 = some 1 := by decide
@[simp] theorem ixN_4_2 : ixN 4 2 = some 2 := by decide
@[simp] theorem ixN_4_3 : ixN 4 3 = some 3 := by decide
theorem mulOk_r {i j : Int} (h : -(2 ^ 64) < j ∧ j < 2 ^ 64) : mulOk i j = true := by
  exact mulOk_iff.mpr (.inr h)
theorem mulOk_l {i j : Int} (h : -(2 ^ 64) < i ∧ i < 2 ^ 64) : mulOk i j = true := by
  exact mulOk_iff.mpr (.inl h)
theorem divOk_ {j : Int} (h : 0 < j) (h2 : j ≤ 10000000000000000000000000000000000000000) : divOk j = true := by
  exact divOk_iff.mpr ⟨h, h2⟩
end VE
namespace VE
open PySem PySem.Spec PyProof.Rows L2
variable [VEnv]
section
variable {X : Cx} {W : WX} {e a o : Expr} {es : List Expr} {pos pos' : Pos} {fa fb fo fi : M D} {fs : M (List D)} {x : Str}
omit [VEnv] in
/-- the instance's object, its dict -/
theorem slAt_get {pins : List (Addr × Obj)} {σ : L2.St} {H : Hp} {s : Shared} {a C dx : Addr} {vs : List (Option V)} (I : Inv X pins σ H s) (h : SlAt H a C dx vs) : ∃ (us : List (Option Value)) (od : Obj), Paired RelO vs us ∧ s.heap.get? a = some { PySem.W.instObj C dx with slots := us.toArray } ∧
    PySem.W.InstAt s.heap a { PySem.W.instObj C dx with slots := us.toArray } C (some od) := by
  obtain ⟨ho, _, e⟩ := h
  have hd : s.heap.get? dx = some PySem.W.emptyDict := (I.hok dx _ ho).1
  obtain ⟨us, r, q⟩ := (I.hok a _ e).1
  exact ⟨us, _, r, q, ⟨q, rfl, rfl, hd⟩⟩
theorem slAt_meth {pins : List (Addr × Obj)} {σ : L2.St} {H : Hp} {s : Shared} {a C dx g : Addr} {m : Str} {vs : List (Option V)} {pl : Sem Bool} {A : Around} {E : Value → Shared → Prop} {Q : Value × List Value → Shared → Prop} (I : Inv X pins σ H s) (h : SlAt H a C dx vs) (c : L2.SCls X.K C) (k : L2.Meth X.K C m g) (q : Q (.ref g, [.ref a]) s) :
    wpAny (model X.prog X.w) A (getMethod (.ref a) m pl) Q E s := by
  obtain ⟨ho, _, e⟩ := h
  have hd : s.heap.get? dx = some PySem.W.emptyDict := (I.hok dx _ ho).1
  obtain ⟨us, r, q'⟩ := (I.hok a _ e).1
  have J : PySem.W.InstAt s.heap a { PySem.W.instObj C dx with slots := us.toArray } C (some PySem.W.emptyDict) := ⟨q', rfl, rfl, hd⟩
  exact PySem.W.method_fn I.kIn J (PySem.W.plainGet_of (show PySem.W.plainGet X.K C m = true from c.pg)).1 (PySem.W.plainGet_of (show PySem.W.plainGet X.K C m = true from c.pg)).2 k.at_ (beq_iff_eq.mp k.fn) rfl q
theorem getslot_ok {pins : List (Addr × Obj)} {σ : L2.St} {H : Hp} {s : Shared} {a C dx p : Addr} {vs : List (Option V)} {f : Str} {i : Nat} {v : V} {A : Around} {E : Value → Shared → Prop} {b : Bool} {Q : Value → Shared → Prop} (I : Inv X pins σ H s) (e : SlAt H a C dx vs) (c : L2.SCls X.K C) (k : L2.Slt X.K C f i p) (l : vs[i]? = some (some v))
    (h : ∀ u s', Inv X pins σ H s' → RelV v u → Q u s') : wpAny (model X.prog X.w) A (getAttr (.ref a) f b) Q E s := by
  obtain ⟨us, od, r, _, J⟩ := slAt_get I e
  obtain ⟨m, F⟩ := I.fr
  obtain ⟨q, hq, rq⟩ := L2.slots_get r l
  obtain ⟨u, eu, ru⟩ := RelO.some_of rq
  subst eu
  refine PySem.W.get_slot (v := u) F I.ok.mod.kin J c.pg c.ic k.at_ k.get k.tk k.ix ?_ (handed_of ru) (h u _ (I.tok _) ru)
  show (us.toArray[i]?).join = some u
  rw [List.getElem?_toArray, hq]
  rfl
theorem setslot_ok {pins : List (Addr × Obj)} {σ : L2.St} {H : Hp} {s : Shared} {a C dx p : Addr} {vs : List (Option V)} {f : Str} {i : Nat} {A : Around} {E : Value → Shared → Prop} {y : V} {u : Value} {Q : Unit → Shared → Prop} (I : Inv X pins σ H s) (e : SlAt H a C dx vs) (c : L2.SCls X.K C) (k : L2.Slt X.K C f i p) (ry : RelV y u)
    (h : ∀ s', Inv X pins σ (upd H a (L2.SlO C dx a (L2.putS i y vs))) s' → Q () s') : wpAny (model X.prog X.w) A (setAttr (.ref a) f u) Q E s := by
  obtain ⟨us, od, r, _, J⟩ := slAt_get I e
  refine GSL.set_attr I.kIn J c.sa c.po k.taker k.ty k.ix k.lt rfl fun h' hx keep => h _ ?_
  have hx2 : h'.get? a = some { PySem.W.instObj C dx with slots := ((us ++ List.replicate (i + 1 - us.length) none).set i (some u)).toArray } := by
    rw [← L2.slots_array]
    exact hx
  have mu : Mut (H a) := by rw [e.2.2]; exact True.intro
  refine I.write (x := a) (e := a) (t' := s.toks + 1) mu (.inl rfl) (fun b o nb q => keep b o nb q) ⟨_, hx2⟩ ?_
  exact ⟨⟨_, L2.slots_put ry i r, hx2⟩, ⟨_, hx2⟩, fun h1 h2 q z => let ⟨us2, r2, e2⟩ := q; ⟨us2, r2, z _ e2⟩⟩
def tSlotB (C : Addr) (i : Nat) (ta : TE) : TE := fun σ H Q => ta σ H fun x H1 => ∃ a dx vs v, x = .ref a ∧ SlAt H1 a C dx vs ∧ vs[i]? = some (some v) ∧ Q v H1
def sSlotB (C : Addr) (i : Nat) (ta tv : TE) : TS := fun D σ H => tv σ H fun y H1 => ta σ H1 fun x H2 => ∃ a dx vs, x = .ref a ∧ SlAt H2 a C dx vs ∧ D.nx σ (upd H2 a (L2.SlO C dx a (L2.putS i y vs)))
theorem pe_slot {ta : TE} {C p : Addr} {i : Nat} {f : Str} (c : L2.SCls X.K C) (k : L2.Slt X.K C f i p) (he : PE X e ta) (hb : attributeBase e f X.env (eval e X.env) = eval e X.env := by rfl) : PE X (.Attribute e f pos) (tSlotB C i ta) := by
  refine ⟨fun pins s σ H Q I h => ?_⟩
  refine attr_of hb (thn (he.run pins s σ H _ I h) fun u s1 ⟨x, H1, I1, rx, a, dx, vs, v, ex, ea, l, q⟩ => ?_)
  subst ex
  obtain rfl : u = Value.ref a := rx
  exact getslot_ok I1 ea c k l fun u' s2 I2 ru => ⟨v, H1, I2, ru, q⟩
theorem ps_slot {ta tv : TE} {C p : Addr} {i : Nat} {f : Str} {value : Expr} (c : L2.SCls X.K C) (k : L2.Slt X.K C f i p) (ha : PE X o ta) (hv : PE X value tv) (hs : swapsWith value (some (.Attribute o f pos')) pos.line X.env = pure false := by rfl) :
    PS X (.Assign [.Attribute o f pos'] value pos) (sSlotB C i ta tv) := by
  refine ⟨fun pins s σ H D I h => ?_⟩
  refine plainObj_wpAny_Assign_Attribute (thn (hv.run pins s σ H _ I h) fun u s1 ⟨y, H1, I1, ry, q⟩ => thn (ha.run pins s1 σ H1 _ I1 q) fun ov s2 ⟨x, H2, I2, rx, a, dx, vs, ex, ea, q2⟩ => ?_) hs
  subst ex
  obtain rfl : ov = Value.ref a := rx
  exact setslot_ok I2 ea c k ry fun s3 I3 => ⟨σ, _, I3, q2⟩
/-- a new instance with slots; its dict is known to be empty -/
theorem Inv.madeB {pins : List (Addr × Obj)} {σ : L2.St} {H : Hp} {s : Shared} {C : Addr} (I : Inv X pins σ H s) : Inv X pins σ (upd (upd H s.heap.objs.size (.frz PySem.W.emptyDict (.own (s.heap.objs.size + 1)))) (s.heap.objs.size + 1) (L2.SlO C s.heap.objs.size (s.heap.objs.size + 1) []))
    { s with heap := (s.heap.push PySem.W.emptyDict).push (PySem.W.instObj C s.heap.objs.size) } := by
  have e1 : (s.heap.push PySem.W.emptyDict).get? s.heap.objs.size = some PySem.W.emptyDict := Heap.get?_push_size s.heap rfl
  have e2 : ((s.heap.push PySem.W.emptyDict).push (PySem.W.instObj C s.heap.objs.size)).get? (s.heap.objs.size + 1) = some (PySem.W.instObj C s.heap.objs.size) := by
    have := Heap.get?_push_size (s.heap.push PySem.W.emptyDict) (o := PySem.W.instObj C s.heap.objs.size) rfl
    rwa [Heap.size_push] at this
  have I1 := I.laid (a := s.heap.objs.size) (o := .frz PySem.W.emptyDict (.own (s.heap.objs.size + 1))) (h' := s.heap.push PySem.W.emptyDict) (t' := s.toks) (fun b u q => Heap.get?_push_of_some _ q) (Nat.le_refl _) ⟨e1, ⟨_, e1⟩⟩
  refine I1.laid (a := s.heap.objs.size + 1) (o := L2.SlO C s.heap.objs.size (s.heap.objs.size + 1) []) (t' := s.toks) (fun b u q => Heap.get?_push_of_some _ q) (Nat.le_of_eq (Heap.size_push _ _)) ?_
  exact ⟨⟨[], .nil, e2⟩, ⟨_, e2⟩, fun h1 h2 q z => let ⟨us2, r2, e3⟩ := q; ⟨us2, r2, z _ e3⟩⟩
theorem run_makeB {k : Nat} {f C : Addr} {fd : FuncData} {ps : List Str} {sp : Sp} {E : L2.St → XK} {pins : List (Addr × Obj)} {σ : L2.St} {H : Hp} {s : Shared} {Q : VK} {us : List Value} {vs : List V} (M : Mk X.K C f) (F : FnOk X.prog X.w X.K X.mg X.base (L2.CX X.prog X.w) k f fd ps sp) (hr : Room (k + 1) X.A) (hb : Binds X.K fd ps [])
    (hx : PassesAt (L2.CX X.prog X.w) X σ (E σ)) (I : Inv X pins σ H s) (r : Vals vs us)
    (h : ∀ x dx, H x = none → H dx = none → dx ≠ x → sp (.ref x :: vs) (upd (upd H dx (.frz PySem.W.emptyDict (.own x))) x (L2.SlO C dx x [])) (fun v H2 => v = .non ∧ Q (.ref x) H2) (E σ)) :
    wpAny (model X.prog X.w) X.A (call (.ref C) us) (EP X pins σ Q) X.xe s := by
  have hq := h (s.heap.objs.size + 1) s.heap.objs.size (I.hok.fresh (Nat.le_succ _)) (I.hok.fresh (Nat.le_refl _)) (Nat.ne_of_lt (Nat.lt_succ_self _))
  have I2 := Inv.madeB (C := C) I
  have r2 : Vals (V.ref (s.heap.objs.size + 1) :: vs) (Value.ref (s.heap.objs.size + 1) :: us) := .cons rfl r
  have hl : (Value.ref (s.heap.objs.size + 1) :: us).length = ps.length := by
    have e := r2.length
    rw [F.len _ _ _ _ hq] at e
    exact e.symm
  have bb := hb _ (Value.ref (s.heap.objs.size + 1) :: us) I2.kIn (by rw [List.append_nil]; exact hl)
  rw [List.append_nil] at bb
  refine wpAny_call (make_map (f := f) I.kIn M.makes M.init (beq_iff_eq.mp M.fn) (codeAny_mono (F.run _ X.stack _ _ ⟨Value.ref (s.heap.objs.size + 1) :: us, []⟩ (Value.ref (s.heap.objs.size + 1) :: us) _ _ (E σ) (hr.make C us [])
    (I2.env0.make C us []) bb r2 hq) fun r s' hq' => ?_))
  cases r with
  | error e => exact hx pins _ _ e s' I2 hq'
  | ok fl =>
    cases fl with
    | ret u =>
      obtain ⟨v, H', I3, rv, ev, q3⟩ := I2.after hq'
      subst ev
      exact ⟨rv, ⟨V.ref (s.heap.objs.size + 1), H', I3, rfl, q3⟩⟩
    | next => exact False.elim hq'
    | brk => exact False.elim hq'
    | cont => exact False.elim hq'
/-- a class with slots: its instances' variables, in order -/
structure SlV (K : PySem.W.Frag) (mg : Str → Option Value) (n : Str) (fl : List Str) : Prop where
  ex : ∃ C, mg n = some (.ref C)
  cl : ∀ C, mg n = some (.ref C) → L2.SCls K C
  at_ : ∀ C i f, mg n = some (.ref C) → fl[i]? = some f → ∃ p, L2.Slt K C f i p
theorem Rps.at {K : PySem.W.Frag} {mg : Str → Option Value} {F : Addr → Prop} {c : List Addr} {H : Hp} {vs : List V} {ds : List D} {i : Nat} {d : D} (r : Rps K mg F c H vs ds) (h : ds[i]? = some d) : ∃ v, (vs.map some)[i]? = some (some v) ∧ Rp K mg F c H v d := by
  obtain ⟨v, hv, rp⟩ := r.get' h
  exact ⟨v, by rw [List.getElem?_map, hv]; rfl, rp⟩
/-- o.f = e, the next slot is filled -/
def sSlot (n : Str) (i : Nat) (fo fe : M D) : M Fl := fun env st => (fe env st).bind fun d env st => (fo env st).bind fun r env st => match r with
  | .ref q => (match st[q]? with
    | some (.slo n' ds) => if n' = n ∧ ds.length = i then .ok .nx env (st.set q (.slo n (ds ++ [d]))) else .bad
    | _ => .bad)
  | _ => .bad
theorem putS_end (vs : List V) (v : V) : L2.putS vs.length v (vs.map some) = (vs ++ [v]).map some := by
  unfold L2.putS
  rw [List.length_map, show vs.length + 1 - vs.length = 1 from by omega, List.map_append]
  show ((vs.map some) ++ [none]).set vs.length (some v) = _
  rw [List.set_append_right _ _ (by simp)]
  simp
theorem vs_slot {n f : Str} {fl : List Str} {fe : M D} (i : Nat) (cv : SlV X.K X.mg n fl) (ho : VE X W o fo) (he : VE X W e fe) (hf : fl[i]? = some f := by rfl) (hs : swapsWith e (some (.Attribute o f pos')) pos.line X.env = pure false := by rfl) : VS X W (.Assign [.Attribute o f pos'] e pos) (sSlot n i fo fe) := by
  obtain ⟨C, hC⟩ := cv.ex
  obtain ⟨p, sl⟩ := cv.at_ C i f hC hf
  refine PSof (ps_slot (cv.cl C hC) sl ho he hs) fun D₀ σ H ⟨b, F, c, env, st, e1, e2, r, p⟩ =>
    sE_at e1 e2 r p fun v d env1 st1 F1 c1 H1 s1 r1 rp1 p1 => sE_at e1 e2 r1 p1 fun u r_ env2 st2 F2 c2 H2 s2 r2 rp2 p2 => ?_
  split at p2
  · rename_i m
    split at p2
    · rename_i n' ds es
      split at p2
      · rename_i hn
        obtain ⟨en, hl⟩ := hn
        subst en
        obtain ⟨q, rfl, hc, C', dx, vs, k1, k2, rps⟩ := r2.cell rp2 es
        have k1' := k1
        rw [e2, hC] at k1'; cases k1'
        refine ⟨q, dx, vs.map some, rfl, k2, ?_⟩
        have hvl : vs.length = i := by rw [rps.length]; exact hl
        rw [← hvl, putS_end]
        obtain ⟨s4, r4⟩ := r2.cellUpd (o := L2.SlO C dx q ((vs ++ [v]).map some)) (x := .slo n' (ds ++ [d])) hc fun s => ⟨C, dx, vs ++ [v], k1, k2.here, (rps.stp s).append (.cons ((rp1.stp s2).stp s) .nil)⟩
        exact PostS.here (P := fun fl _ _ F c σ H => FlOk b D₀ F c σ H fl) r4 (p2.stp s4)
      · exact p2.elim
    · exact p2.elim
  · exact p2.elim
/-- an instance with slots is made -/
def eMakeS (n : Str) (mf : FM) (np : Nat) (fs : M (List D)) : M D := fun env st => (fs env st).bind fun ds env st => if ds.length + 1 = np then (callR mf (.ref st.length :: ds) env (st ++ [.slo n []])).bind fun d env st' => match d with
  | .non => .ok (.ref st.length) env st'
  | _ => .bad else .bad
theorem ve_makeS {k np : Nat} {n : Str} {mf : FM} {p : Pos} (Mv : MkV X.prog X.w X.K X.mg X.base k n np mf) (hr : Room (k + 1) X.A) (tk : Takes X W) (ha : VA X W (e :: es) fs) (hg : Gl X n := by rfl) (hdb : (n == ("__debug__" : Str)) = false := by decide)
    (he : starEach (e :: es) X.env = (false, eval e X.env) :: starEach es X.env := by rfl) (hpl : (backTo pos (starEach es X.env)).any (·.1) = false := by rfl) : VE X W (.Call (.Name n p) (e :: es) [] pos) (eMakeS n mf np fs) := by
  obtain ⟨C, f, fd, ps, hC, mk, Fo, hb⟩ := Mv.ex
  refine ⟨fun pins s σ H Q I ⟨b, F, c, env, st, e1, e2, r, p⟩ => ?_⟩
  refine wpAny_Call_Name_kw (ld_glob I hg hC ?_ hdb)
  refine PySem.W.callWith_K (h₀ := X.base) I.ok.mod.kin mk.kp (thn (ha.run pos pins s σ H _ I (tA_at e1 e2 r p (Q := fun vs H1 => ∀ x dx, H1 x = none → H1 dx = none → dx ≠ x → spV X.K X.mg false np mf (.ref x :: vs) (upd (upd H1 dx (.frz PySem.W.emptyDict (.own x))) x (L2.SlO C dx x [])) (fun v H2 => v = .non ∧ Q (.ref x) H2) (WE W σ))
    fun vs ds env1 st1 F1 c1 H1 s1 r1 rp1 p1 x dx hx hdx hne => ?_)) fun us s1 ⟨vs, H1, I1, r, q⟩ => ⟨I1.kIn, run_makeB (E := WE W) mk Fo hr hb (passAt tk σ) I1 r q⟩) he hpl
  split at p1
  · rename_i hnp
    obtain ⟨s2, r2⟩ := r1.newO hdx (.frz PySem.W.emptyDict (.own x))
    have hx2 : upd H1 dx (.frz PySem.W.emptyDict (.own x)) x = none := by rw [upd_ne (Ne.symm hne)]; exact hx
    obtain ⟨s3, r3, rp3⟩ := r2.cellNew (x := .slo n []) (o := L2.SlO C dx x []) hx2 fun s => ⟨C, dx, [], by rw [e2]; exact hC, SlAt.made hne, .nil⟩
    exact call_of e1 e2 r3 (.cons rp3 (rp1.stp (s2.trans s3))) (by simpa using hnp) (Post.bind (Post.stp (s2.trans s3) p1)) fun v d st F' c' H' s r rv q => by
      dsimp only at q
      split at q
      · cases rv
        exact ⟨rfl, Post.here r q _ (rp3.stp s)⟩
      · exact q.elim
  · exact p1.elim
/-- a property of a class with slots -/
structure PrV (P : Program) (w : World) (K : PySem.W.Frag) (mg : Str → Option Value) (base : Heap) (k : Nat) (n f : Str) (mf : FM) : Prop where
  ex : ∃ C p g fd ps, mg n = some (.ref C) ∧ L2.SCls K C ∧ PropOf K C f p g ∧ FnOk P w K mg base (L2.CX P w) k g fd ps (spV K mg false 1 mf) ∧ Binds K fd ps []
theorem getprop_at {k : Nat} {C p g a dx : Addr} {vs : List (Option V)} {f : Str} {fd : FuncData} {ps : List Str} {sp : Sp} {pins : List (Addr × Obj)} {σ : L2.St} {H : Hp} {s : Shared} {Q : VK} {b : Bool} {E' : Value → Shared → Prop} (I : Inv X pins σ H s) (ea : VE.SlAt H a C dx vs) (c : L2.SCls X.K C) (hp : PropOf X.K C f p g)
    (F : FnOk X.prog X.w X.K X.mg X.base (L2.CX X.prog X.w) k g fd ps sp) (hr : Room (k + 1) X.A) (hb : Binds X.K fd ps []) (h : sp [.ref a] H Q (fun _ _ _ => False)) :
    wpAny (model X.prog X.w) X.A (getAttr (.ref a) f b) (EP X pins σ Q) E' s := by
  obtain ⟨us, od, _, _, J⟩ := VE.slAt_get I ea
  obtain ⟨rest, hrec⟩ := hp.rec_
  have I1 := I.tok (s.toks + 1)
  have hl : ([Value.ref a] ++ ([] : List Value)).length = ps.length := by
    rw [← F.len _ _ _ _ h]; rfl
  have cg : PySem.W.plainGet X.K C f = true := c.pg
  refine PySem.W.get_bind I.kIn J (PySem.W.plainGet_of cg).1 (PySem.W.findObj_data c.ic hp.at_ hp.get hp.tak) (PySem.W.plainGet_of cg).2 (wpAny_call (PySem.W.prop_get (s := { s with toks := s.toks + 1 }) I.kIn hrec ?_))
  refine codeAny_mono (F.run X.A.in1 X.stack { s with toks := s.toks + 1 } H ⟨[.ref a], []⟩ (.ref a :: []) (.ref a :: []) Q (fun _ _ _ => False) hr.in1 I1.env0.in1 (hb _ [.ref a] I1.kIn hl) (.cons rfl .nil) h) fun r s' hq => ?_
  cases r with
  | error er => exact False.elim (by obtain ⟨_, _, _, _, _, _, _, _, _, _, _, _, z⟩ := hq; exact z)
  | ok fl =>
    cases fl with
    | ret u =>
      obtain ⟨v, H', I3, rv, q3⟩ := I1.after hq
      show wpAny _ _ (handedOut u) _ _ _
      rw [PySem.W.handedOut_of (handed_of rv)]
      exact wpAny_pure ⟨v, H', I3, rv, q3⟩
    | next => exact False.elim hq
    | brk => exact False.elim hq
    | cont => exact False.elim hq
end
end VE
namespace VE
open PySem PySem.Spec PyProof.Rows L2
variable [VEnv]
section
variable {X : Cx} {W : WX} {b : Bs} {F : Addr → Prop} {c : List Addr} {H : Hp} {e e2 : Expr} {pos p tpos : Pos} {elts : List Expr} {kk : Nat} {fa : M D} {fs : M (List D)}
def zipD (xs ys : List D) : List D := List.zipWith (fun x y => .tup [x, y]) xs ys
theorem zipD_at {xs ys : List D} {i : Nat} {d : D} (h : (zipD xs ys)[i]? = some d) : ∃ x y, xs[i]? = some x ∧ ys[i]? = some y ∧ d = .tup [x, y] := by
  unfold zipD at h
  rw [List.getElem?_zipWith] at h
  split at h
  · rename_i x y ex ey; cases h; exact ⟨x, y, ex, ey, rfl⟩
  · cases h
theorem zipD_end {xs ys : List D} {i : Nat} (h : (zipD xs ys).length ≤ i) : xs.length ≤ i ∨ ys.length ≤ i := by
  unfold zipD at h
  rw [List.length_zipWith] at h
  omega
theorem walks_zipL {a a2 : Addr} {xs xs2 : List V} {ds ds2 : List D} (hF : F a) (hx : H a = some (.lst xs)) (r : Rps b.K b.mg F c H xs ds) (hF2 : F a2) (hx2 : H a2 = some (.lst xs2)) (r2 : Rps b.K b.mg F c H xs2 ds2) : Walks b (Itz b.K a a2) (zipD ds ds2) F c H := by
  intro F' c' H' s i
  have q1 := SqL.of (K := b.K) (s.keep a _ hF hx)
  have q2 := SqL.of (K := b.K) (s.keep a2 _ hF2 hx2)
  have r' := r.stp s
  have r2' := r2.stp s
  refine ⟨fun d hd => ?_, fun hi => ⟨xs, xs2, q1, q2, by rw [r.length, r2.length]; exact zipD_end hi⟩⟩
  obtain ⟨x, y, ex, ey, rfl⟩ := zipD_at hd
  obtain ⟨v, hv, rp⟩ := r'.get' ex
  obtain ⟨v2, hv2, rp2⟩ := r2'.get' ey
  refine ⟨⟨xs, xs2, v, v2, q1, q2, hv, hv2⟩, fun z H2 yl => ?_⟩
  obtain ⟨T, x', y', rfl, hT, rfl, k1, k2⟩ := yl
  have z1 := k1 xs q1
  have z2 := k2 xs2 q2
  rw [hv] at z1; cases z1
  rw [hv2] at z2; cases z2
  exact .inr ⟨T, [v, v2], _, rfl, hT, rfl, rfl, .cons rp (.cons rp2 .nil)⟩
theorem walks_zipT {a a2 : Addr} {xs xs2 : List V} {ds ds2 : List D} (hx : FqT b.K F H a xs) (r : Rps b.K b.mg F c H xs ds) (hx2 : FqT b.K F H a2 xs2) (r2 : Rps b.K b.mg F c H xs2 ds2) : Walks b (RZ.ItzT b.K a a2) (zipD ds ds2) F c H := by
  intro F' c' H' s i
  have q1 := (hx.stp s).sq
  have q2 := (hx2.stp s).sq
  have r' := r.stp s
  have r2' := r2.stp s
  refine ⟨fun d hd => ?_, fun hi => ⟨xs, xs2, q1, q2, by rw [r.length, r2.length]; exact zipD_end hi⟩⟩
  obtain ⟨x, y, ex, ey, rfl⟩ := zipD_at hd
  obtain ⟨v, hv, rp⟩ := r'.get' ex
  obtain ⟨v2, hv2, rp2⟩ := r2'.get' ey
  refine ⟨⟨xs, xs2, v, v2, q1, q2, hv, hv2⟩, fun z H2 yl => ?_⟩
  obtain ⟨T, x', y', rfl, hT, rfl, k1, k2⟩ := yl
  have z1 := k1 xs q1
  have z2 := k2 xs2 q2
  rw [hv] at z1; cases z1
  rw [hv2] at z2; cases z2
  exact .inr ⟨T, [v, v2], _, rfl, hT, rfl, rfl, .cons rp (.cons rp2 .nil)⟩
def iZip (fs : M (List D)) : M (List D) := fun env st => (fs env st).bind fun ds env st => match ds with
  | [.lst xs, .lst ys] => .ok (zipD xs ys) env st
  | [.tup xs, .tup ys] => .ok (zipD xs ys) env st
  | _ => .bad
theorem vi_zip (hm : X.mg "zip" = none) (h : VA X W [e, e2] fs) (hg : Gl X "zip" := by rfl) (hs : starEach [e, e2] X.env = (false, eval e X.env) :: starEach [e2] X.env := by rfl) (hpl : (backTo pos (starEach [e2] X.env)).any (·.1) = false := by rfl) :
    VI X W (.Tuple elts kk tpos) (.Call (.Name "zip" p) [e, e2] [] pos) (iZip fs) :=
  ⟨_, RZ.pi_zipA hg hm h hs hpl, fun σ H R ⟨b, F, c, env, st, e1, e2, r, p⟩ => tA_at e1 e2 r p fun vs ds env1 st1 F1 c1 H1 s1 r1 rp1 p1 => by
    split at p1
    · rename_i xs ys
      cases rp1 with
      | cons a1 t1 => cases t1 with
        | cons a2 t2 => cases t2; cases a1 with
          | lst f hx hr => cases a2 with
            | lst f2 hx2 hr2 => exact ⟨_, _, _, _, rfl, .inl ⟨SqL.of hx, SqL.of hx2, Post.here r1 p1 _ (e1 ▸ walks_zipL f hx hr f2 hx2 hr2)⟩⟩
    · rename_i xs ys
      cases rp1 with
      | cons a1 t1 => cases t1 with
        | cons a2 t2 => cases t2; cases a1 with
          | tup hx hr => cases a2 with
            | tup hx2 hr2 => exact ⟨_, _, _, _, rfl, .inr ⟨e1 ▸ hx.sq, e1 ▸ hx2.sq, Post.here r1 p1 _ (e1 ▸ walks_zipT hx hr hx2 hr2)⟩⟩
    · exact p1.elim⟩
/-- enumerate -/
def enuD : Nat → List D → List D
  | _, [] => []
  | i, d :: ds => .tup [.int (i : Nat), d] :: enuD (i + 1) ds
theorem enuD_len : ∀ (i : Nat) (ds : List D), (enuD i ds).length = ds.length
  | _, [] => rfl
  | i, d :: ds => by simp [enuD, enuD_len (i + 1) ds]
theorem enuD_at : ∀ (j : Nat) (ds : List D) (i : Nat) (d : D), (enuD j ds)[i]? = some d → ∃ x, ds[i]? = some x ∧ d = .tup [.int ((j + i : Nat) : Int), x]
  | _, [], i, d, h => by simp [enuD] at h
  | j, x :: ds, 0, d, h => by simp [enuD] at h; exact ⟨x, rfl, by rw [← h]; rfl⟩
  | j, x :: ds, i + 1, d, h => by
    obtain ⟨y, e, q⟩ := enuD_at (j + 1) ds i d (by simpa [enuD] using h)
    exact ⟨y, by simpa using e, by rw [q]; congr 4; omega⟩
theorem walks_enL {a : Addr} {xs : List V} {ds : List D} (hF : F a) (hx : H a = some (.lst xs)) (r : Rps b.K b.mg F c H xs ds) : Walks b (Ite b.K a) (enuD 0 ds) F c H := by
  intro F' c' H' s i
  have q1 := SqL.of (K := b.K) (s.keep a _ hF hx)
  have r' := r.stp s
  refine ⟨fun d hd => ?_, fun hi => ⟨xs, q1, by rw [r.length, ← enuD_len 0 ds]; exact hi⟩⟩
  obtain ⟨x, ex, rfl⟩ := enuD_at 0 ds i d hd
  obtain ⟨v, hv, rp⟩ := r'.get' ex
  refine ⟨⟨xs, v, q1, hv⟩, fun z H2 yl => ?_⟩
  obtain ⟨T, x', rfl, hT, rfl, k1⟩ := yl
  have z1 := k1 xs q1
  rw [hv] at z1; cases z1
  exact .inr ⟨T, [.int (i : Nat), v], _, rfl, hT, rfl, rfl, .cons (by rw [Nat.zero_add]; exact .int _) (.cons rp .nil)⟩
def iEnL (fs : M (List D)) : M (List D) := fun env st => (fs env st).bind fun ds env st => match ds with
  | [.lst xs] => .ok (enuD 0 xs) env st
  | _ => .bad
theorem vi_enL (hm : X.mg "enumerate" = none) (h : VA X W [e] fs) (hg : Gl X "enumerate" := by rfl) (hs : starEach [e] X.env = [(false, eval e X.env)] := by rfl) :
    VI X W (.Tuple elts kk tpos) (.Call (.Name "enumerate" p) [e] [] pos) (iEnL fs) :=
  ⟨_, pi_enum hg hm h hs, fun σ H R ⟨b, F, c, env, st, e1, e2, r, p⟩ => tA_at e1 e2 r p fun vs ds env1 st1 F1 c1 H1 s1 r1 rp1 p1 => by
    split at p1
    · rename_i xs
      cases rp1 with
      | cons a1 t1 => cases t1; cases a1 with
        | lst f hx hr => exact ⟨_, _, rfl, SqL.of hx, Post.here r1 p1 _ (e1 ▸ walks_enL f hx hr)⟩
    · exact p1.elim⟩
end
end VE
namespace VE
open PySem PySem.Spec PyProof.Rows L2
variable [VEnv]
theorem meets_enum1 {v : Value} {o : Obj} {H : Heap → Prop} (B : Begins v o H) :
    Meets (Builtin.«enumerate.__new__» ⟨[.type "enumerate", v], []⟩) (fun _ R s => H s.heap ∧
      R (.ok (.ret (.ref (s.heap.push o).objs.size))) { s with heap := (s.heap.push o).push { cls := .type "enumerate", data := .fields #[.none, .bool false, .ref s.heap.objs.size, rawInt 0, .none, .none] } }) :=
  .of_wp fun prog w A R s h => by
    obtain ⟨hp, g, d, tk, os⟩ := s; obtain ⟨h1, h⟩ := h
    have hsub := sub_enumerate
    have q1 : ∀ {A' : Around} {E : Value → Shared → Prop} {Q : Value → Shared → Prop}, Q (.ref hp.objs.size) ⟨hp.push o, g, d, tk, os⟩ → wpAny (model prog w) A' (pyIter v) Q E ⟨hp, g, d, tk, os⟩ :=
      fun q => B.iter prog w _ _ ⟨hp, g, d, tk, os⟩ _ h1 q
    wp_walk using q1
    refine wpAny_stack_any fun st => wpAny_pure ?_
    split
    · rename_i c _ _ _ _ _
      cases (c == Value.type "enumerate")
      · wp_walk using q1
        exact ⟨_, rfl, h⟩
      · wp_walk using q1
        exact ⟨_, rfl, h⟩
    · wp_walk using q1
      exact ⟨_, rfl, h⟩
theorem enum1_begins {prog : Program} {w : World} {A : Around} {E : Value → Shared → Prop} {s : Shared} {v : Value} {o : Obj} {H : Heap → Prop} {Q : Value → Shared → Prop} (B : Begins v o H) (h1 : H s.heap)
    (h : ∀ h', IsEnum h' (s.heap.objs.size + 1) s.heap.objs.size 0 .none → h'.get? s.heap.objs.size = some o → h'.objs.size = s.heap.objs.size + 2 →
      (∀ b o, s.heap.get? b = some o → h'.get? b = some o) → Q (.ref (s.heap.objs.size + 1)) { s with heap := h' }) :
    wpAny (model prog w) A (call (.type "enumerate") [v]) Q E s := by
  refine callType_new F.called_enumerate (by decide) (F.typeCall_enumerate_1 _) (F.newCall_enumerate_1 _) (fun obj => F.args_object_init_2 obj _) F.entry_enumerate_new
    (meets_enum1 B) ⟨h1, ?_⟩
  have hz : (s.heap.push o).objs.size = s.heap.objs.size + 1 := Heap.size_push ..
  show _ ∧ _
  rw [hz]
  have he : IsEnum ((s.heap.push o).push { cls := .type "enumerate", data := .fields #[.none, .bool false, .ref s.heap.objs.size, rawInt 0, .none, .none] }) (s.heap.objs.size + 1) s.heap.objs.size 0 .none := by
    have := Heap.get?_push_size (s.heap.push o) (o := { cls := .type "enumerate", data := .fields #[.none, .bool false, .ref s.heap.objs.size, rawInt 0, .none, .none] }) rfl
    rw [hz] at this; exact this
  refine ⟨⟨_, he, rfl⟩, h _ he (Heap.get?_push_of_some _ (Heap.get?_push_size _ B.free)) (by rw [Heap.size_push, hz]) fun b o x => Heap.get?_push_of_some _ (Heap.get?_push_of_some _ x)⟩
theorem enumT_end {prog : Program} {w : World} {A : Around} {E : Value → Shared → Prop} {s : Shared} {e it t : Addr} {i : Nat} {items : Array Value} {old : Value} {k : Int} {Q : Option Value → Shared → Prop} (hh : A.in1.handled = none) (he : IsEnum s.heap e it k old) (hit : s.heap.IsTupleIter it t i) (ht : s.heap.IsTuple t items) (hx : items[i]? = none)
    (hQ : ∀ h', Heap.ExtBut it s.heap h' → Q none { s with heap := h' }) : wpAny (model prog w) A (pyNext (.ref e)) Q E s := by
  have hT : s.TypeIs (.ref e) "enumerate" := ⟨_, he, rfl⟩
  unfold pyNext
  refine wpAny_bind (wpAny_attempt (wpAny_callSpecial?_slot (name := Str.ofString "__next__") hT F.slot_enumerate_next
    (wpAny_call_entry F.slot_enumerate_next hT F.entry_enumerate_next ?_ (F.args_enumerate_next_1 _))))
  show wpAny _ _ (field (.ref e) 2 >>= _) _ _ _
  refine wpAny_bind (wpAny_field he rfl (x := .ref it) rfl ?_)
  refine wpAny_bind (wpAny_nextOf_tuple_end hh hit ht hx fun h' x he' hx' => ?_)
  obtain ⟨o, ho, hc⟩ := hx'
  refine wpAny_bind (wpAny_isInstance (T := "StopIteration") (b := true) ⟨o, ho, hc⟩ isSubtype_stop ?_)
  exact wpAny_pure (hQ _ he')
/-- the tuple at a as it stands at each turn, its items with their places in new pairs -/
def IteT (K : PySem.W.Frag) (a : Addr) : It :=
  ⟨fun i H => ∃ (xs : List V) (x : V), SqT K H a xs ∧ xs[i]? = some x, fun i H v H' => ∃ T x, v = .ref T ∧ H T = none ∧ H' = upd H T (.tup [.int (i : Nat), x]) ∧ ∀ xs, SqT K H a xs → xs[i]? = some x, fun i H => ∃ xs : List V, SqT K H a xs ∧ xs.length ≤ i⟩
theorem turn_enumT {P : Program} {w : World} {K : PySem.W.Frag} {elts : List Expr} {kk : Nat} {tpos : Pos} (a e it : Addr) :
    Turn P w K (.Tuple elts kk tpos) (IteT K a) [e, it] e (fun i h => (∃ old, IsEnum h e it ((i : Nat) : Int) old) ∧ h.IsTupleIter it a i ∧ e ≠ it ∧ a ≠ it ∧ a ≠ e) where
  mem := by simp
  obj := fun i h st b hb => by
    obtain ⟨⟨old, he⟩, ⟨o, ho, hc, hd⟩, _⟩ := st
    have e' : b = e ∨ b = it := by simpa using hb
    rcases e' with z | z
    · rw [z]; exact ⟨_, he, fun v q => nomatch q⟩
    · rw [z]; exact ⟨o, ho, fun v q => by rw [hd] at q; cases q⟩
  keep := fun i h h' st k => let ⟨⟨old, he⟩, hi, hne⟩ := st; ⟨⟨old, k e (by simp) _ he⟩, hi.at fun o q => k it (by simp) o q, hne⟩
  item := by
    intro X hP hw hK hc i pins s σ H E I hf st hg
    subst hP hw hK
    obtain ⟨⟨old, he⟩, hit, hne, hai, hae⟩ := st
    obtain ⟨xs, x, hq, hx⟩ := hg
    obtain ⟨its, rv, p, hz⟩ := I.tuple hq
    obtain ⟨u, hu, ru⟩ := rv.get hx
    have hel : e < s.heap.objs.size := Heap.lt_size he
    have hil : it < s.heap.objs.size := by obtain ⟨_, q, _⟩ := hit; exact Heap.lt_size q
    have p' : s.heap.IsTuple a its.toArray := p
    have hlt : i < its.toArray.size := by
      have := (List.getElem?_eq_some_iff.mp hu).1
      simpa using this
    refine wpAny_pyNext_enum_itemD (Draws.tuple (A := X.A.in1) (I.ok.hd hc) it a hai its.toArray) he ⟨hit, p'⟩ hlt hne (by simp; exact ⟨hne, Ne.symm hae⟩) fun x2 h' tk Px ho hst' hT hsz hk => ?_
    have ex : x2 = u := by
      have Px' : its.toArray[i]? = some x2 := Px
      rw [List.getElem?_toArray, hu] at Px'
      exact (Option.some.inj Px').symm
    subst ex
    refine ⟨_, rfl, wpAny_letOwnedTupleGo_enum (s := { s with heap := h', toks := tk + 1 }) ho fun h'' he' sb => ?_⟩
    have hT2 : h''.get? s.heap.objs.size = some { cls := .type "tuple", data := .seq #[.int i tk, x2] } := (sb.2 _ (Nat.ne_of_gt hel)).trans hT
    have new : ObjOk X.prog X.w (upd H s.heap.objs.size (.tup [.int (i : Nat), x])) h'' s.heap.objs.size (.tup [.int (i : Nat), x]) :=
      ⟨by show 2 ≤ sizeLine; decide, [.int i tk, x2], .cons ⟨_, rfl⟩ (.cons ru .nil), ⟨_, hT2, rfl, _, rfl⟩⟩
    have I1 : Inv X pins σ (upd H s.heap.objs.size (.tup [.int (i : Nat), x])) { s with heap := h'', toks := tk + 1 } :=
      I.turnedNew (ch := [e, it]) (fun b ob hb q => (sb.2 b (fun z => hb (by simp [z]))).trans (hk b ob (fun z => hb (by simp [z])) (fun z => hb (by simp [z])) q)) hf (Nat.le_refl _) new
    refine ⟨.ref s.heap.objs.size, _, I1, rfl, ⟨_, x, rfl, I.hok.fresh (Nat.le_refl _), rfl, fun ys hy => by rw [I.tuple_inj hy hq]; exact hx⟩, ⟨⟨x2, ?_⟩, hst'.1.at fun o q => (sb.2 it (Ne.symm hne)).trans q, hne, hai, hae⟩, fun b hb => ?_⟩
    · have e1 : ((i + 1 : Nat) : Int) = (i : Int) + 1 := by omega
      rw [e1]; exact he'
    · have hb' : b < s.heap.objs.size := by
        have e' : b = e ∨ b = it := by simpa using hb
        rcases e' with z | z
        · rw [z]; exact hel
        · rw [z]; exact hil
      rw [upd_ne (Nat.ne_of_lt hb')]
      exact (hf b hb).1
  done := by
    intro X hP hw hK hc i pins s σ H E I hf st hg
    subst hP hw hK
    obtain ⟨⟨old, he⟩, hit, hne, hai, hae⟩ := st
    obtain ⟨xs, hq, hx⟩ := hg
    obtain ⟨its, rv, p, hz⟩ := I.tuple hq
    obtain ⟨f0, f1, f2, f3, f4, f5⟩ := hf it (by simp)
    have hl := rv.length
    have p' : s.heap.IsTuple a its.toArray := p
    exact enumT_end (I.ok.hd hc) he hit p' (by simp; omega) fun h' eb => ⟨rfl, I.turned (t' := s.toks) (fun b o hb q => eb b o hb q) f0 f1 f3 f4 f5⟩
  self := fun A i s Q E st h => let ⟨⟨_, he⟩, _⟩ := st; wpAny_pyIter_enum he h
def iEnumT (K : PySem.W.Frag) (ta : TA) : TI := fun σ H R => ta σ H fun vs H1 => ∃ a xs, vs = [.ref a] ∧ SqT K H1 a xs ∧ R (IteT K a) H1
theorem pi_enumT {X : Cx} {e : Expr} {ta : TA} {p pos tpos : Pos} {elts : List Expr} {kk : Nat} (hg : Gl X "enumerate") (hm : X.mg "enumerate" = none) (ha : PA X [e] ta) (hs : starEach [e] X.env = [(false, eval e X.env)] := by rfl) :
    PI X (.Tuple elts kk tpos) (.Call (.Name "enumerate" p) [e] [] pos) (iEnumT X.K ta) := by
  refine ⟨fun pins s σ H R I h => ?_⟩
  refine Call_ (ld_blt I hg hm boot_enumerate (PyProof.Rows.callWith_type1 (thn (ha.run pos pins s σ H _ I h) fun us s1 ⟨vs, H1, I1, r1, q1⟩ => ?_) hs rfl))
  obtain ⟨a, xs, ex, hq, q⟩ := q1
  subst ex
  cases r1 with
  | cons r rr =>
    cases rr
    cases r
    obtain ⟨its, rv, p', hz⟩ := I1.tuple hq
    have p2 : s1.heap.IsTuple a its.toArray := p'
    have hal : a < s1.heap.objs.size := by obtain ⟨o, ho, _⟩ := id p2; exact Heap.lt_size ho
    refine enum1_begins (begins_tuple a its.toArray) p2 fun h' he hit hsz hk => wpAny_pyIter_enum he ?_
    have I2 : Inv X pins σ H1 { s1 with heap := h' } := I1.kept (t' := s1.toks) hk
    refine ⟨s1.heap.objs.size + 1, [s1.heap.objs.size + 1, s1.heap.objs.size], _, _, H1, rfl, I2, turn_enumT a (s1.heap.objs.size + 1) s1.heap.objs.size, ⟨⟨.none, he⟩, ⟨_, hit, rfl, rfl⟩, Nat.succ_ne_self _, Nat.ne_of_lt hal, Nat.ne_of_lt (Nat.lt_succ_of_lt hal)⟩, fun b hb => ?_, q⟩
    have e' : b = s1.heap.objs.size + 1 ∨ b = s1.heap.objs.size := by simpa using hb
    have hle : s1.heap.objs.size ≤ b := by
      rcases e' with z | z
      · rw [z]; exact Nat.le_add_right _ _
      · rw [z]; exact Nat.le_refl _
    exact I1.fpOk hle (I1.hok.fresh hle)
section
variable {X : Cx} {W : WX} {b : Bs} {F : Addr → Prop} {c : List Addr} {H : Hp} {e : Expr} {pos p tpos : Pos} {elts : List Expr} {kk : Nat} {fs : M (List D)}
theorem walks_enT {a : Addr} {xs : List V} {ds : List D} (hx : FqT b.K F H a xs) (r : Rps b.K b.mg F c H xs ds) : Walks b (IteT b.K a) (enuD 0 ds) F c H := by
  intro F' c' H' s i
  have q1 := (hx.stp s).sq
  have r' := r.stp s
  refine ⟨fun d hd => ?_, fun hi => ⟨xs, q1, by rw [r.length, ← enuD_len 0 ds]; exact hi⟩⟩
  obtain ⟨x, ex, rfl⟩ := enuD_at 0 ds i d hd
  obtain ⟨v, hv, rp⟩ := r'.get' ex
  refine ⟨⟨xs, v, q1, hv⟩, fun z H2 yl => ?_⟩
  obtain ⟨T, x', rfl, hT, rfl, k1⟩ := yl
  have z1 := k1 xs q1
  rw [hv] at z1; cases z1
  exact .inr ⟨T, [.int (i : Nat), v], _, rfl, hT, rfl, rfl, .cons (by rw [Nat.zero_add]; exact .int _) (.cons rp .nil)⟩
def iEnT (fs : M (List D)) : M (List D) := fun env st => (fs env st).bind fun ds env st => match ds with
  | [.tup xs] => .ok (enuD 0 xs) env st
  | _ => .bad
theorem vi_enT (hm : X.mg "enumerate" = none) (h : VA X W [e] fs) (hg : Gl X "enumerate" := by rfl) (hs : starEach [e] X.env = [(false, eval e X.env)] := by rfl) :
    VI X W (.Tuple elts kk tpos) (.Call (.Name "enumerate" p) [e] [] pos) (iEnT fs) :=
  ⟨_, pi_enumT hg hm h hs, fun σ H R ⟨b, F, c, env, st, e1, e2, r, p⟩ => tA_at e1 e2 r p fun vs ds env1 st1 F1 c1 H1 s1 r1 rp1 p1 => by
    split at p1
    · rename_i xs
      cases rp1 with
      | cons a1 t1 => cases t1; cases a1 with
        | tup hx hr => exact ⟨_, _, rfl, e1 ▸ hx.sq, Post.here r1 p1 _ (e1 ▸ walks_enT hx hr)⟩
    · exact p1.elim⟩
end
end VE
namespace VE
open PySem PySem.Spec PyProof.Rows L2
variable [VEnv]
section
variable {X : Cx} {W : WX} {e a : Expr} {pos : Pos} {fa fb : M D} {k : Nat}
def rInTD (K : PySem.W.Frag) : R2 := fun x y H Q => ∃ d ds, Dp K H x d ∧ Dp K H y (.tuple ds) ∧ SeqAt.shaped d = true ∧ SeqAt.shaped (.tuple ds) = true ∧ Q (.bl (ds.any fun z => PyData.eqv z d)) H
def rNotInTD (K : PySem.W.Frag) : R2 := fun x y H Q => ∃ d ds, Dp K H x d ∧ Dp K H y (.tuple ds) ∧ SeqAt.shaped d = true ∧ SeqAt.shaped (.tuple ds) = true ∧ Q (.bl (!ds.any fun z => PyData.eqv z d)) H
theorem op_inTD (hu : X.A.units + 65 < cLine) : OpR X (compareOp .In) (rInTD X.K) := by
  intro pins s σ H x y v u Q I rx ry h
  obtain ⟨d, ds, hd, he, sd, se, q⟩ := h
  obtain ⟨as, r1⟩ := Dp.reads I d x v hd rx
  obtain ⟨bs, r2⟩ := Dp.reads I (.tuple ds) y u he ry
  exact SeqAt.in_tuple_reads r2 r1 (SeqAt.canLay_of_shaped se) (SeqAt.canLay_of_shaped sd) (room_in_shaped sd hu) ⟨.bl _, H, I, rfl, q⟩
theorem op_notInTD (hu : X.A.units + 65 < cLine) : OpR X (compareOp .NotIn) (rNotInTD X.K) := by
  intro pins s σ H x y v u Q I rx ry h
  obtain ⟨d, ds, hd, he, sd, se, q⟩ := h
  obtain ⟨as, r1⟩ := Dp.reads I d x v hd rx
  obtain ⟨bs, r2⟩ := Dp.reads I (.tuple ds) y u he ry
  exact SeqAt.notIn_tuple_reads r2 r1 (SeqAt.canLay_of_shaped se) (SeqAt.canLay_of_shaped sd) (room_in_shaped sd hu) ⟨.bl _, H, I, rfl, q⟩
/-- texts in order -/
def ltS (x y : Str) : Bool := decide (x.cps.toList < y.cps.toList)
end
end VE
namespace VE
open PySem PySem.Spec PyProof.Rows L2
open SX (S S_len S_cat S_inj)
/-- the run ends well and P holds, or raises and E holds -/
@[irreducible] def R.sat {α : Type} (r : R α) (P : α → EnvD → Sto → Prop) (E : Exn → Sto → Prop) : Prop := match r with
  | .ok a e st => P a e st
  | .ex x _ st => E x st
  | .bad => False
@[irreducible] def RF.sat (r : RF) (P : D → Sto → Prop) (E : Exn → Sto → Prop) : Prop := match r with
  | .ok d st => P d st
  | .ex x st => E x st
  | .bad => False
@[reducible] def nE : Exn → Sto → Prop := fun _ _ => False
section
variable {α β : Type} {P : α → EnvD → Sto → Prop} {E : Exn → Sto → Prop} {e env : EnvD} {st : Sto}
@[simp] theorem sat_ok {a : α} : (R.ok a e st).sat P E = P a e st := by unfold R.sat; rfl
@[simp] theorem sat_ex {x : Exn} : (R.ex x e st : R α).sat P E = E x st := by unfold R.sat; rfl
@[simp] theorem sat_bad : (R.bad : R α).sat P E = False := by unfold R.sat; rfl
@[simp] theorem fsat_ok {d : D} {P : D → Sto → Prop} : (RF.ok d st).sat P E = P d st := by unfold RF.sat; rfl
@[simp] theorem fsat_ex {x : Exn} {P : D → Sto → Prop} : (RF.ex x st).sat P E = E x st := by unfold RF.sat; rfl
@[simp] theorem fsat_bad {P : D → Sto → Prop} : RF.bad.sat P E = False := by unfold RF.sat; rfl
def kk {α β γ : Type} (k : α → M β) (l : β → M γ) : α → M γ := fun a e s => (k a e s).bind l
@[simp] theorem x_kk {α β γ : Type} {k : α → M β} {l : β → M γ} {a : α} : kk k l a env st = (k a env st).bind l := rfl
@[simp] theorem bind_assoc {α β γ : Type} {r : R α} {k : α → M β} {l : β → M γ} : (r.bind k).bind l = r.bind (kk k l) := by cases r <;> rfl
theorem toRF_sat {fr : Bool} {r : R Fl} {P : D → Sto → Prop} (h : r.sat (fun fl _ s => match fl with | .rt d => fr = false ∧ P d s | .rf d => P d s | .nx => fr = false ∧ P .non s | _ => False) E) : (toRF fr r).sat P E := by
  unfold R.sat at h; unfold RF.sat
  cases r with
  | ok fl e s =>
    cases fl with
    | nx => obtain ⟨rfl, h⟩ := h; exact h
    | rt d => obtain ⟨rfl, h⟩ := h; exact h
    | rf d => exact h
    | bk => exact h.elim
    | ct => exact h.elim
  | ex => exact h
  | bad => exact h
theorem toF_sat {fr : Bool} {n : Nat} {g : M Fl} {ds : List D} {P : D → Sto → Prop} (h : (g (env0 n ds) st).sat (fun fl _ s => match fl with | .rt d => fr = false ∧ P d s | .rf d => P d s | .nx => fr = false ∧ P .non s | _ => False) E) : (toF fr n g ds st).sat P E := toRF_sat h
/-- a loop, by an invariant -/
theorem sat_for (I : Nat → EnvD → Sto → Prop) {t : D → EnvD → Option EnvD} {ws : List Nat} {g : M Fl} : ∀ {ds : List D} {k : Fl → M α} (j : Nat) {env : EnvD} {st : Sto}, I j env st →
    (∀ i d env st, ds[i]? = some d → I (j + i) env st → ∃ e1, t d env = some e1 ∧ (g e1 st).sat (fun fl e s => match fl with | .nx => I (j + i + 1) (wipeD ws e) s | .ct => I (j + i + 1) (wipeD ws e) s | .bk => (k .nx e s).sat P E | .rt d => (k (.rt d) e s).sat P E | .rf d => (k (.rf d) e s).sat P E) E) →
    (∀ e s, I (j + ds.length) e s → (k .nx e s).sat P E) → ((forL t ws g ds env st).bind k).sat P E
  | [], k, j, env, st, h0, _, hk => hk _ _ h0
  | d :: ds, k, j, env, st, h0, hs, hk => by
    obtain ⟨e1, et, hg⟩ := hs 0 d env st rfl h0
    unfold forL
    rw [et]
    show (((g e1 st).bind _).bind k).sat P E
    cases hr : g e1 st with
    | bad => rw [hr, sat_bad] at hg; exact hg.elim
    | ex x e s => rw [hr, sat_ex] at hg; show (R.ex x e s).sat P E; rw [sat_ex]; exact hg
    | ok fl e s =>
      rw [hr, sat_ok] at hg
      have go : I (j + 0 + 1) (wipeD ws e) s → ((forL t ws g ds (wipeD ws e) s).bind k).sat P E := fun hI => by
        refine sat_for I (j + 1) hI (fun i d' env st hd hI' => ?_) fun e s hI' => hk e s (by rw [show j + (d :: ds).length = j + 1 + ds.length from by simp only [List.length_cons]; omega]; exact hI')
        have := hs (i + 1) d' env st (by simpa using hd) (by rw [show j + (i + 1) = j + 1 + i from by omega]; exact hI')
        rw [show j + (i + 1) = j + 1 + i from by omega] at this
        exact this
      cases fl with
      | nx => exact go hg
      | ct => exact go hg
      | bk => exact hg
      | rt d => exact hg
      | rf d => exact hg
end
section
variable {i j : Int} {x y : Str} {xs ys : List D} {b b' : Bool} {d d' : D} {n : Nat}
@[simp] theorem eq_int : eqD (.int i) (.int j) = decide (i = j) := by simp only [eqD, toPy, PyData.eqv]; exact rfl
@[simp] theorem eq_str : eqD (.str x) (.str y) = decide (x = y) := by simp only [eqD, toPy, PyData.eqv]; exact rfl
@[simp] theorem eq_lst : eqD (.lst xs) (.lst ys) = eqDs xs ys := by simp only [eqD, toPy, PyData.eqv, eqDs]
@[simp] theorem eq_tup : eqD (.tup xs) (.tup ys) = eqDs xs ys := by simp only [eqD, toPy, PyData.eqv, eqDs]
@[simp] theorem eqs_nil : eqDs [] [] = true := by simp only [eqDs, toPys, PyData.eqvAll]
@[simp] theorem eqs_cons : eqDs (d :: xs) (d' :: ys) = (eqD d d' && eqDs xs ys) := by simp only [eqDs, toPys, PyData.eqvAll, eqD]
@[simp] theorem eqs_nc : eqDs [] (d' :: ys) = false := by simp only [eqDs, toPys, PyData.eqvAll]
@[simp] theorem eqs_cn : eqDs (d :: xs) [] = false := by simp only [eqDs, toPys, PyData.eqvAll]
@[simp] theorem eq_non : eqD .non .non = true := by simp only [eqD, toPy, PyData.eqv]
@[simp] theorem eq_bl : eqD (.bl b) (.bl b') = (b == b') := by simp only [eqD, toPy, PyData.eqv]
mutual
theorem eqD_refl : ∀ (n : Nat) (d : D), plain n d = true → eqD d d = true
  | _, .non, _ => eq_non
  | _, .bl b, _ => by simp
  | _, .int i, _ => by simp
  | _, .str x, _ => by simp
  | n + 1, .lst xs, h => by rw [eq_lst]; exact eqDs_refl n xs (by simpa [plain] using h)
  | n + 1, .tup xs, h => by rw [eq_tup]; exact eqDs_refl n xs (by simpa [plain] using h)
  | 0, .lst xs, h => by simp [plain] at h
  | 0, .tup xs, h => by simp [plain] at h
  | n, .scr xs, h => by cases n <;> simp [plain] at h
  | n, .ino _ _ xs, h => by cases n <;> simp [plain] at h
  | n, .obj _ xs, h => by cases n <;> simp [plain] at h
  | n, .ref _, h => by cases n <;> simp [plain] at h
  | n, .fn _, h => by cases n <;> simp [plain] at h
theorem eqDs_refl : ∀ (n : Nat) (xs : List D), plains n xs = true → eqDs xs xs = true
  | _, [], _ => eqs_nil
  | n, x :: xs, h => by
    simp only [plains, Bool.and_eq_true] at h
    rw [eqs_cons, eqD_refl n x h.1, eqDs_refl n xs h.2]; rfl
end
@[simp] theorem pl_non : plain n .non = true := by cases n <;> simp only [plain]
@[simp] theorem pl_int : plain n (.int i) = true := by cases n <;> simp only [plain]
@[simp] theorem pl_str : plain n (.str x) = PyData.strOk x := by cases n <;> simp only [plain]
theorem pl_lst : plain (n + 1) (.lst xs) = plains n xs := by simp only [plain]
theorem pl_tup : plain (n + 1) (.tup xs) = plains n xs := by simp only [plain]
@[simp] theorem pls_nil : plains n [] = true := by cases n <;> simp only [plains]
@[simp] theorem pls_cons : plains n (d :: xs) = (plain n d && plains n xs) := by cases n <;> simp only [plains]
@[simp] theorem pl20l : plain 20 (.lst xs) = plains 19 xs := pl_lst
@[simp] theorem pl20t : plain 20 (.tup xs) = plains 19 xs := pl_tup
@[simp] theorem pl19t : plain 19 (.tup xs) = plains 18 xs := pl_tup
@[simp] theorem pls_ints : ∀ {xs : List Int}, plains n (xs.map .int) = true
  | [] => by simp
  | x :: xs => by rw [List.map_cons, pls_cons, pls_ints]; simp
theorem neP_same (h : plain 20 d = true) : neP d d = some (.bl false) := by unfold neP; rw [h, eqD_refl 20 d h]; rfl
@[simp] theorem x_eqP (h : plain 20 d = true) (h' : plain 20 d' = true) : eqP d d' = some (.bl (eqD d d')) := by unfold eqP; rw [h, h']; rfl
@[simp] theorem x_neP (h : plain 20 d = true) (h' : plain 20 d' = true) : neP d d' = some (.bl (!eqD d d')) := by unfold neP; rw [h, h']; rfl
end
@[simp] theorem rng_len {lo : Int} {n : Nat} : (rngD lo n).length = n := by simp [rngD]
theorem rng_at {lo : Int} {n i : Nat} {d : D} (h : (rngD lo n)[i]? = some d) : d = .int (lo + i) ∧ i < n := by
  unfold rngD at h
  rw [List.getElem?_map] at h
  by_cases hi : i < n
  · rw [List.getElem?_range hi] at h; cases h; exact ⟨rfl, hi⟩
  · rw [List.getElem?_eq_none (by simpa using hi)] at h; cases h
theorem signs_S (a : List Nat) : signsD (S a) = a.map fun c => .str (S [c]) := by simp [signsD]
theorem ok_S {a : List Nat} (h : ∀ c ∈ a, c < 1114112) : PyData.strOk (S a) = true := by
  unfold PyData.strOk
  rw [Array.all_eq_true_iff_forall_mem]
  intro c hc
  exact decide_eq_true (h c (by simpa using hc))
@[simp] theorem wipe_nil {env : EnvD} : wipeD [] env = env := rfl
@[simp] theorem wipe_cons {i : Nat} {ws : List Nat} {env : EnvD} : wipeD (i :: ws) env = wipeD ws (env.set i .no) := rfl
/-- cells -/
@[simp] theorem put_cell {c : Cell} {rest : Sto} {ds : List D} {k : Int} {env : EnvD} : ixC (.ref 0) (.int k) env (.lst ds :: rest) = ret (atI ds k) env (.lst ds :: rest) := rfl
theorem blsF_map {α : Type} (f : α → Bool) : ∀ xs : List α, blsOf (xs.map fun x => .bl (f x)) = some (xs.map f)
  | [] => rfl
  | x :: xs => by simp [blsOf, blsF_map f xs]
end VE
namespace VE
open PySem PySem.Spec PyProof.Rows L2
section
variable {fa fb fo fe : M D} {fs : M (List D)} {env : EnvD} {st : Sto} {i np q : Nat} {d x y : D} {ds : List D} {n n' : Str} {mf : FM}
def kSS3 (n : Str) (i : Nat) (d : D) (q : Nat) (c : Option Cell) : M Fl := fun env st => match c with
  | some (.slo n' ds) => if n' = n ∧ ds.length = i then .ok .nx env (st.set q (.slo n (ds ++ [d]))) else .bad
  | _ => .bad
def kSS2 (n : Str) (i : Nat) (d : D) : D → M Fl := fun r env st => match r with
  | .ref q => kSS3 n i d q st[q]? env st
  | _ => .bad
def kSS1 (n : Str) (i : Nat) (fo : M D) : D → M Fl := fun d env st => (fo env st).bind (kSS2 n i d)
@[simp] theorem x_sSlot : sSlot n i fo fe env st = (fe env st).bind (kSS1 n i fo) := rfl
@[simp] theorem x_kSS1 : kSS1 n i fo d env st = (fo env st).bind (kSS2 n i d) := rfl
@[simp] theorem x_kSS2 : kSS2 n i d (.ref q) env st = kSS3 n i d q st[q]? env st := rfl
@[simp] theorem x_kSS3 : kSS3 n i d q (some (.slo n' ds)) env st = if n' = n ∧ ds.length = i then .ok .nx env (st.set q (.slo n (ds ++ [d]))) else .bad := rfl
def kMkS (n : Str) (mf : FM) (np : Nat) : List D → M D := fun ds env st => if ds.length + 1 = np then (callR mf (.ref st.length :: ds) env (st ++ [.slo n []])).bind (kMk2 st.length) else .bad
@[simp] theorem x_eMakeS : eMakeS n mf np fs env st = (fs env st).bind (kMkS n mf np) := rfl
@[simp] theorem x_kMkS : kMkS n mf np ds env st = if ds.length + 1 = np then (callR mf (.ref st.length :: ds) env (st ++ [.slo n []])).bind (kMk2 st.length) else .bad := rfl
def kPr3 : RF → M D := fun r env _ => match r with
  | .ok d st => .ok d env st
  | _ => .bad
@[simp] theorem x_kPr3 {st' : Sto} : kPr3 (.ok d st') env st = .ok d env st' := rfl
def kZip : List D → M (List D) := fun ds env st => match ds with
  | [.lst xs, .lst ys] => .ok (zipD xs ys) env st
  | [.tup xs, .tup ys] => .ok (zipD xs ys) env st
  | _ => .bad
@[simp] theorem x_iZip : iZip fs env st = (fs env st).bind kZip := rfl
@[simp] theorem x_kZip1 {xs ys : List D} : kZip [.lst xs, .lst ys] env st = .ok (zipD xs ys) env st := rfl
@[simp] theorem x_kZip2 {xs ys : List D} : kZip [.tup xs, .tup ys] env st = .ok (zipD xs ys) env st := rfl
def kEnL : List D → M (List D) := fun ds env st => match ds with
  | [.lst xs] => .ok (enuD 0 xs) env st
  | _ => .bad
def kEnT : List D → M (List D) := fun ds env st => match ds with
  | [.tup xs] => .ok (enuD 0 xs) env st
  | _ => .bad
@[simp] theorem x_iEnL : iEnL fs env st = (fs env st).bind kEnL := rfl
@[simp] theorem x_kEnL {xs : List D} : kEnL [.lst xs] env st = .ok (enuD 0 xs) env st := rfl
@[simp] theorem x_iEnT : iEnT fs env st = (fs env st).bind kEnT := rfl
@[simp] theorem x_kEnT {xs : List D} : kEnT [.tup xs] env st = .ok (enuD 0 xs) env st := rfl
end
end VE
namespace VE
open PySem PySem.Spec PyProof.Rows L2
variable [VEnv]
mutual
/-- all references are below n -/
def rfB (n : Nat) : D → Bool
  | .ref m => decide (m < n)
  | .lst xs => rfBs n xs
  | .tup xs => rfBs n xs
  | .obj _ xs => rfBs n xs
  | .ino _ _ xs => rfBs n xs
  | .non => true
  | .bl _ => true
  | .int _ => true
  | .str _ => true
  | .scr _ => true
  | .fn _ => true
def rfBs (n : Nat) : List D → Bool
  | [] => true
  | x :: xs => rfB n x && rfBs n xs
end
section
variable {K : PySem.W.Frag} {mg : Str → Option Value} {F : Addr → Prop} {c l : List Addr} {H : Hp}
mutual
theorem Rp.rf : ∀ {v : V} {d : D}, Rp K mg F c H v d → rfB c.length d = true
  | _, _, .non => by simp only [rfB]
  | _, _, .bl b => by simp only [rfB]
  | _, _, .int i => by simp only [rfB]
  | _, _, .str x => by simp only [rfB]
  | _, _, .scr _ => by simp only [rfB]
  | _, _, .lst _ _ r => by simp only [rfB]; exact Rps.rf r
  | _, _, .tup _ r => by simp only [rfB]; exact Rps.rf r
  | _, _, .obj _ _ _ r => by simp only [rfB]; exact Rps.rf r
  | _, _, .ino _ _ _ _ r => by simp only [rfB]; exact Rps.rf r
  | _, _, .ref h => by simp only [rfB]; exact decide_eq_true (List.getElem?_eq_some_iff.mp h).1
  | _, _, .glb _ => by simp only [rfB]
  | _, _, .lam _ _ _ _ _ => by simp only [rfB]
  | _, _, .lamD _ _ _ _ _ _ _ _ => by simp only [rfB]
theorem Rps.rf : ∀ {vs : List V} {ds : List D}, Rps K mg F c H vs ds → rfBs c.length ds = true
  | _, _, .nil => by simp only [rfBs]
  | _, _, .cons h r => by simp only [rfBs, Rp.rf h, Rps.rf r, Bool.and_self]
end
mutual
theorem Rp.cut : ∀ {v : V} {d : D}, Rp K mg F (c ++ l) H v d → rfB c.length d = true → Rp K mg F c H v d
  | _, _, .non, _ => .non
  | _, _, .bl b, _ => .bl b
  | _, _, .int i, _ => .int i
  | _, _, .str x, _ => .str x
  | _, _, .scr h, _ => .scr h
  | _, _, .lst f h r, e => .lst f h (Rps.cutR r (by simpa only [rfB] using e))
  | _, _, .tup h r, e => .tup h (Rps.cutR r (by simpa only [rfB] using e))
  | _, _, .obj m f h r, e => .obj m f h (Rps.cutR r (by simpa only [rfB] using e))
  | _, _, .ino m f h z r, e => .ino m f h z (Rps.cutR r (by simpa only [rfB] using e))
  | _, _, .ref h, e => .ref (by
      simp only [rfB, decide_eq_true_eq] at e
      rw [List.getElem?_append_left e] at h; exact h)
  | _, _, .glb h, _ => .glb h
  | _, _, .lam h1 h2 h3 h4 h5, _ => .lam h1 h2 h3 h4 h5
  | _, _, .lamD h1 h2 h3 h4 h5 h6 h7 h8, _ => .lamD h1 h2 h3 h4 h5 h6 h7 h8
theorem Rps.cutR : ∀ {vs : List V} {ds : List D}, Rps K mg F (c ++ l) H vs ds → rfBs c.length ds = true → Rps K mg F c H vs ds
  | _, _, .nil, _ => .nil
  | _, _, .cons h r, e => by
    simp only [rfBs, Bool.and_eq_true] at e
    exact .cons (Rp.cut h e.1) (Rps.cutR r e.2)
end
def rfC (n : Nat) : Cell → Bool
  | .lst ds => rfBs n ds
  | .ins _ fs => rfBs n (fs.map (·.2))
  | .slo _ ds => rfBs n ds
  | .slp _ _ ds => rfBs n ds
  | .dct kvs => rfBs n (kvs.map (·.2))
  | .dcT kvs => rfBs n (kvs.map (·.2))
  | .dcN kvs => rfBs n (kvs.map (·.2))
  | .lcT kvs => rfBs n (kvs.map (·.2))
  | .lcN kvs => rfBs n (kvs.map (·.2))
theorem CellOk.rf {a : Addr} {x : Cell} (h : CellOk K mg F c H a x) : rfC c.length x = true := by
  cases x with
  | lst ds => obtain ⟨_, _, r⟩ := h; exact r.rf
  | ins n fs => obtain ⟨_, _, _, _, _, _, r⟩ := h; exact r.rf
  | slo n ds => obtain ⟨_, _, _, _, _, r⟩ := h; exact r.rf
  | slp n ix ds => obtain ⟨_, _, _, _, _, r⟩ := h; exact r.rf
  | dct kvs => obtain ⟨_, _, _, r⟩ := h; exact r.rf
  | dcT kvs => obtain ⟨_, _, _, _, _, _, _, r, _⟩ := h; exact r.rf
  | dcN kvs => obtain ⟨_, _, _, _, _, _, r⟩ := h; exact r.rf
  | lcT kvs => obtain ⟨_, _, _, _, _, _, _, _, r, _⟩ := h; exact r.rf
  | lcN kvs => obtain ⟨_, _, _, _, _, _, _, r⟩ := h; exact r.rf
theorem CellOk.cut {a : Addr} {x : Cell} (h : CellOk K mg F (c ++ l) H a x) (e : rfC c.length x = true) : CellOk K mg F c H a x := by
  cases x with
  | lst ds => obtain ⟨vs, h1, r⟩ := h; exact ⟨vs, h1, r.cutR e⟩
  | ins n fs => obtain ⟨C, dx, vfs, h1, h2, h3, r⟩ := h; exact ⟨C, dx, vfs, h1, h2, h3, r.cutR e⟩
  | slo n ds => obtain ⟨C, dx, vs, h1, h2, r⟩ := h; exact ⟨C, dx, vs, h1, h2, r.cutR e⟩
  | slp n ix ds => obtain ⟨C, dx, vs, h1, h2, r⟩ := h; exact ⟨C, dx, vs, h1, h2, r.cutR e⟩
  | dct kvs => obtain ⟨vk, h1, h2, r⟩ := h; exact ⟨vk, h1, h2, r.cutR e⟩
  | dcT kvs => obtain ⟨P, w, xs, vs, h0, h1, h2, r, h4⟩ := h; exact ⟨P, w, xs, vs, h0, h1, h2, r.cutR e, h4⟩
  | dcN kvs => obtain ⟨P, w, vk, h0, h1, h2, r⟩ := h; exact ⟨P, w, vk, h0, h1, h2, r.cutR e⟩
  | lcT kvs => obtain ⟨P, w, xs, vs, od, h0, h1, h2, r, h4⟩ := h; exact ⟨P, w, xs, vs, od, h0, h1, h2, r.cutR e, h4⟩
  | lcN kvs => obtain ⟨P, w, vk, od, h0, h1, h2, r⟩ := h; exact ⟨P, w, vk, od, h0, h1, h2, r.cutR e⟩
theorem CellOk.stp {F' : Addr → Prop} {c' : List Addr} {a : Addr} {x : Cell} (s : Stp F c H F' c' H) (h : CellOk K mg F c H a x) : CellOk K mg F' c' H a x := by
  cases x with
  | lst ds => obtain ⟨vs, h1, r⟩ := h; exact ⟨vs, h1, r.stp s⟩
  | ins n fs => obtain ⟨C, dx, vfs, h1, h2, h3, r⟩ := h; exact ⟨C, dx, vfs, h1, h2, h3, r.stp s⟩
  | slo n ds => obtain ⟨C, dx, vs, h1, h2, r⟩ := h; exact ⟨C, dx, vs, h1, h2, r.stp s⟩
  | slp n ix ds => obtain ⟨C, dx, vs, h1, h2, r⟩ := h; exact ⟨C, dx, vs, h1, h2, r.stp s⟩
  | dct kvs => obtain ⟨vk, h1, h2, r⟩ := h; exact ⟨vk, h1, h2, r.stp s⟩
  | dcT kvs => obtain ⟨P, w, xs, vs, h0, h1, h2, r, h4⟩ := h; exact ⟨P, w, xs, vs, h0, h1, h2, r.stp s, fun x hx => (h4 x hx).stp s⟩
  | dcN kvs => obtain ⟨P, w, vk, h0, h1, h2, r⟩ := h; exact ⟨P, w, vk, h0, h1, h2, r.stp s⟩
  | lcT kvs => obtain ⟨P, w, xs, vs, od, h0, h1, h2, r, h4⟩ := h; exact ⟨P, w, xs, vs, od, h0, h1, h2, r.stp s, fun x hx => (h4 x hx).stp s⟩
  | lcN kvs => obtain ⟨P, w, vk, od, h0, h1, h2, r⟩ := h; exact ⟨P, w, vk, od, h0, h1, h2, r.stp s⟩
end
section
variable {b : Bs} {F F' : Addr → Prop} {c : List Addr} {env : EnvD} {st : Sto} {σ : L2.St} {H H' : Hp} {p : Addr} {x : Cell}
/-- the last cell is no cell any more: it is frozen -/
theorem Rel.unmake (r0 : Rel b F c env st σ H) (hp : H p = none) (s : Stp F c H F' (c ++ [p]) H') (r : Rel b F' (c ++ [p]) env (st ++ [x]) σ H') :
    Stp F c H (FAdd F' p) c H' ∧ Stp F' c H' (FAdd F' p) c H' ∧ Rel b (FAdd F' p) c env st σ H' ∧ CellOk b.K b.mg F' (c ++ [p]) H' p x := by
  have nc := r0.nC hp
  have t : Stp F' c H' (FAdd F' p) c H' := ⟨fun _ h => .inl h, fun _ _ _ h => h, ⟨[], (List.append_nil c).symm⟩, fun _ _ h => h, fun _ _ _ h => h⟩
  have hcp : CellOk b.K b.mg F' (c ++ [p]) H' p x := r.rc.cl c.length p x (by simp) (by rw [← r0.rc.len]; simp)
  refine ⟨⟨fun a h => .inl (s.inc a h), s.keep, ⟨[], (List.append_nil c).symm⟩, s.own, s.lck⟩, t, ⟨⟨fun a h => ?_, r0.rc.len, r0.rc.nd, fun n a y hn hy => ?_, fun a ha h => ?_, fun q hq => ?_⟩, r.len, fun i sl he => ?_, r.ds, fun a o e hc => ?_, fun a h => ?_, r0.nwc, r.f0, r.k0⟩, hcp⟩
  · rcases h with h | rfl
    · exact r.rc.trk a h
    · exact r.rc.ctrk (by simp)
  · have h1 := r0.rc.cl n a y hn hy
    have hlt : n < c.length := (List.getElem?_eq_some_iff.mp hn).1
    have h2 := r.rc.cl n a y (by rw [List.getElem?_append_left hlt]; exact hn) (by rw [List.getElem?_append_left (by rw [r0.rc.len]; exact hlt)]; exact hy)
    exact (h2.cut h1.rf).stp t
  · rcases h with h | rfl
    · exact r.rc.nf a (List.mem_append_left _ ha) h
    · exact nc ha
  · obtain ⟨t1, t2, ps, t3, t4, t5⟩ := r.rc.tab q hq
    exact ⟨fun h => h.elim t1 fun z => t2 (by simp [z]), fun h => t2 (List.mem_append_left _ h), ps, t3, t4, fun pos cv h => by obtain ⟨c', e, f, k⟩ := t5 pos cv h; exact ⟨c', e, .inl f, k⟩⟩
  · have q0 := r0.sl i sl he
    have q := r.sl i sl he
    cases sl with
    | no => trivial
    | va d =>
      obtain ⟨v0, _, p0⟩ := q0
      obtain ⟨v, e, p1⟩ := q
      exact ⟨v, e, (p1.cut p0.rf).stp t⟩
    | xc xi x => exact ⟨q.1, q.2.stp t⟩
    | gh cells vals =>
      refine ⟨fun y a e => by obtain ⟨f, z⟩ := q.cel y a e; exact ⟨.inl f, z⟩, q.inj, fun y d e => ?_⟩
      obtain ⟨a0, _, _, _, _, _, _, _, p0⟩ := q0.val y d e
      obtain ⟨a, o, u, v, h1, h2, h3, h4, h5⟩ := q.val y d e
      exact ⟨a, o, u, v, h1, h2, h3, h4, (h5.cut p0.rf).stp t⟩
    | ow d =>
      obtain ⟨a0, _, _, _, _, p0⟩ := q0
      obtain ⟨a, e, h1, h2, h3, h4⟩ := q
      have h2' : a ∉ c ∧ a ≠ p := by simpa using h2
      refine ⟨a, e, fun h => ?_, h2'.1, h3, ?_⟩
      · rcases h with h | h
        · exact h1 h
        · exact h2'.2 h
      · cases d with
        | lst ds =>
          obtain ⟨_, _, r9⟩ := p0
          obtain ⟨vs, e9, r8⟩ := h4
          exact ⟨vs, e9, (r8.cutR r9.rf).stp t⟩
        | _ => exact h4.elim
  · refine r.old a o e fun h => ?_
    rcases List.mem_append.mp h with h | h
    · exact hc h
    · rw [List.mem_singleton] at h
      rw [h, r0.H0none hp] at e; cases e
  · rcases h with h | rfl
    · exact r.new a h
    · exact .inr (r0.H0none hp)
theorem RpX.cut {K : PySem.W.Frag} {mg : Str → Option Value} {F' : Addr → Prop} {l : List Addr} {cls : Value} {d : Option Addr} {x : Exn} (t : Stp F c H F' c H) (h : RpX K mg F (c ++ l) H cls d x) (e : rfBs c.length (x.fs.map (·.2)) = true) : RpX K mg F' c H cls d x := by
  obtain ⟨h1, h⟩ := h
  refine ⟨h1, ?_⟩
  rcases h with h | ⟨d', vfs, h2, h3, h4, h5, h6⟩
  · exact .inl h
  · exact .inr ⟨d', vfs, h2, t.inc _ h3, h4, h5, (h6.cutR e).stp t⟩
end
/-- what is left behind a making: the new one is frozen, no other cell has changed -/
noncomputable def frzX (env : EnvD) (st st' : Sto) (x : Exn) : R D := match st'[st.length]? with
  | some c => @ite _ (st' = st ++ [c] ∧ rfBs st.length (x.fs.map (·.2)) = true) (Classical.propDecidable _) (.ex x env st) .bad
  | none => .bad
noncomputable def frzS (n : Str) (env : EnvD) (st : Sto) : RF → R D
  | .ok .non st' => (match st'[st.length]? with
    | some (.slo n' xs) => @ite _ (n' = n ∧ st' = st ++ [.slo n' xs] ∧ rfBs st.length xs = true) (Classical.propDecidable _) (.ok (.obj n xs) env st) .bad
    | _ => .bad)
  | .ex x st' => frzX env st st' x
  | _ => .bad
@[simp] theorem frzS_ok {n : Str} {env : EnvD} {st : Sto} {xs : List D} (h : rfBs st.length xs = true) : frzS n env st (.ok .non (st ++ [.slo n xs])) = .ok (.obj n xs) env st := by
  unfold frzS
  have e : (st ++ [Cell.slo n xs])[st.length]? = some (.slo n xs) := by simp
  dsimp only
  rw [e]
  exact if_pos ⟨rfl, rfl, h⟩
@[simp] theorem frzS_bad {n : Str} {env : EnvD} {st : Sto} : frzS n env st .bad = .bad := rfl
noncomputable def eMakeZ (n : Str) (mf : FM) (np : Nat) (fs : M (List D)) : M D := fun env st => (fs env st).bind fun ds env st => if ds.length + 1 = np then frzS n env st (mf (.ref st.length :: ds) (st ++ [.slo n []])) else .bad
section
variable {X : Cx} {W : WX} {e a o : Expr} {es : List Expr} {pos pos' : Pos} {fa fb fo fi : M D} {fs : M (List D)} {x : Str}
theorem len_one {c c' : List Addr} {p : Addr} {st' : Sto} {n : Nat} (cs : ∃ l, c' = (c ++ [p]) ++ l) (h1 : st'.length = c'.length) (h2 : st'.length = n + 1) (h3 : n = c.length) : c' = c ++ [p] := by
  obtain ⟨l, e⟩ := cs
  have : l = [] := by
    apply List.eq_nil_of_length_eq_zero
    rw [e, List.length_append, List.length_append, List.length_singleton] at h1
    omega
  rw [e, this, List.append_nil]
theorem frzX_post {b : Bs} {F F' : Addr → Prop} {c c' : List Addr} {env : EnvD} {st st' : Sto} {σ : L2.St} {H H' : Hp} {p : Addr} {x : Exn} {Pk : D → EnvD → Sto → (Addr → Prop) → List Addr → Hp → Prop} {cls : Value} {dx : Option Addr}
    (r0 : Rel b F c env st σ H) (hp : H p = none) (s : Stp F c H F' c' H') (cs : ∃ l, c' = (c ++ [p]) ++ l) (r : Rel b F' c' env st' σ H') (rx : RpX b.K b.mg F' c' H' cls dx x) (q : Post b W F c σ H Pk (frzX env st st' x)) : W cls dx σ H' := by
  unfold frzX at q
  split at q
  · rename_i cc ec
    split at q
    · rename_i hh
      obtain ⟨rfl, hrf⟩ := hh
      have ec' := len_one cs r.rc.len (n := st.length) (by simp) r0.rc.len
      subst ec'
      obtain ⟨t1, t2, r2, _⟩ := r0.unmake hp s r
      exact q _ c H' cls dx t1 r2 (rx.cut t2 (by rw [← r0.rc.len]; exact hrf))
    · exact q.elim
  · exact q.elim
theorem ve_makeZ {k np : Nat} {n : Str} {mf : FM} {p : Pos} (Mv : MkV X.prog X.w X.K X.mg X.base k n np mf) (hr : Room (k + 1) X.A) (tk : Takes X W) (ha : VA X W (e :: es) fs) (hg : Gl X n := by rfl) (hdb : (n == ("__debug__" : Str)) = false := by decide)
    (he : starEach (e :: es) X.env = (false, eval e X.env) :: starEach es X.env := by rfl) (hpl : (backTo pos (starEach es X.env)).any (·.1) = false := by rfl) : VE X W (.Call (.Name n p) (e :: es) [] pos) (eMakeZ n mf np fs) := by
  obtain ⟨C, f, fd, ps, hC, mk, Fo, hb⟩ := Mv.ex
  refine ⟨fun pins s σ H Q I ⟨b, F, c, env, st, e1, e2, r, p⟩ => ?_⟩
  refine wpAny_Call_Name_kw (ld_glob I hg hC ?_ hdb)
  refine PySem.W.callWith_K (h₀ := X.base) I.ok.mod.kin mk.kp (thn (ha.run pos pins s σ H _ I (tA_at e1 e2 r p (Q := fun vs H1 => ∀ x dx, H1 x = none → H1 dx = none → dx ≠ x → spV X.K X.mg false np mf (.ref x :: vs) (upd (upd H1 dx (.frz PySem.W.emptyDict (.own x))) x (L2.SlO C dx x [])) (fun v H2 => v = .non ∧ Q (.ref x) H2) (WE W σ))
    fun vs ds env1 st1 F1 c1 H1 s1 r1 rp1 p1 x dx hx hdx hne => ?_)) fun us s1 ⟨vs, H1, I1, r, q⟩ => ⟨I1.kIn, run_makeB (E := WE W) mk Fo hr hb (passAt tk σ) I1 r q⟩) he hpl
  split at p1
  · rename_i hnp
    obtain ⟨s2, r2⟩ := r1.newO hdx (.frz PySem.W.emptyDict (.own x))
    have hx2 : upd H1 dx (.frz PySem.W.emptyDict (.own x)) x = none := by rw [upd_ne (Ne.symm hne)]; exact hx
    obtain ⟨s3, r3, rp3⟩ := r2.cellNew (x := .slo n []) (o := L2.SlO C dx x []) hx2 fun s => ⟨C, dx, [], by rw [e2]; exact hC, SlAt.made hne, .nil⟩
    rw [← e1, ← e2]
    refine ⟨F1, c1 ++ [x], .ref st1.length :: ds, st1 ++ [.slo n []], r3.rc, .cons rp3 (rp1.stp (s2.trans s3)), by simpa using hnp, ?_⟩
    have hx1 : H1 x = none := hx
    generalize mf (.ref st1.length :: ds) (st1 ++ [.slo n []]) = y at p1
    cases y with
    | bad => exact p1.elim
    | ok d st' =>
      intro v F' c' H' s rc o rv
      have r4 := r3.call s rc o
      have sAll : Stp F1 c1 H1 F' c' H' := (s2.trans s3).trans s
      unfold frzS at p1
      split at p1
      · rename_i st'' he
        cases he
        cases rv
        refine ⟨rfl, ?_⟩
        split at p1
        · rename_i n' xs ex
          split at p1
          · rename_i hh
            obtain ⟨rfl, rfl, hrf⟩ := hh
            have ec' := len_one s.cs r4.rc.len (n := st1.length) (by simp) r1.rc.len
            subst ec'
            obtain ⟨t1, t2, r5, C', dx', vs', m1, m2, m3⟩ := r1.unmake hx1 sAll r4
            exact p1 _ c1 H' t1 r5 _ (.obj m1 (.inr rfl) m2 ((m3.cutR (by rw [← r1.rc.len]; exact hrf)).stp t2))
          · exact p1.elim
        · exact p1.elim
      · rename_i he; cases he
      · exact p1.elim
    | ex xx st' =>
      intro cls dxx F' c' H' s rc o rx
      have r4 := r3.call s rc o
      have sAll : Stp F1 c1 H1 F' c' H' := (s2.trans s3).trans s
      exact frzX_post r1 hx1 sAll s.cs r4 rx p1
  · exact p1.elim
def slU (n : Str) (i : Nat) : D → M D := fun r env st => match r with
  | .ref q => (match st[q]? with
    | some (.slo n' ds) => if n' = n then ret ds[i]? env st else .bad
    | _ => .bad)
  | .obj n' ds => if n' = n then ret ds[i]? env st else .bad
  | _ => .bad
def eSlU (n : Str) (i : Nat) (fo : M D) : M D := fun env st => (fo env st).bind (slU n i)
theorem ve_slU {n f : Str} {fl : List Str} (i : Nat) (cv : SlV X.K X.mg n fl) (h : VE X W e fa) (hf : fl[i]? = some f := by rfl) (hb : attributeBase e f X.env (eval e X.env) = eval e X.env := by rfl) : VE X W (.Attribute e f pos) (eSlU n i fa) := by
  obtain ⟨C, hC⟩ := cv.ex
  obtain ⟨p, sl⟩ := cv.at_ C i f hC hf
  refine PEof (pe_slot (cv.cl C hC) sl h hb) fun σ H Q ⟨b, F, c, env, st, e1, e2, r, p⟩ =>
    tE_at e1 e2 r p fun v d env1 st1 F1 c1 H1 s1 r1 rp1 p1 => ?_
  unfold slU at p1
  split at p1
  · split at p1
    · rename_i n' ds es
      split at p1
      · rename_i en
        subst en
        obtain ⟨q, rfl, hc, C', dx, vs, k1, k2, rps⟩ := r1.cell rp1 es
        rw [e2, hC] at k1; cases k1
        unfold ret at p1
        split at p1
        · rename_i d ed
          obtain ⟨v, hv, rp⟩ := rps.at ed
          exact ⟨q, dx, vs.map some, v, rfl, k2, hv, Post.here r1 p1 v rp⟩
        · exact p1.elim
      · exact p1.elim
    · exact p1.elim
  · rename_i n' ds
    split at p1
    · rename_i en
      subst en
      cases rp1 with
      | obj m1 m2 m3 m4 =>
        rw [e2, hC] at m1; cases m1
        unfold ret at p1
        split at p1
        · rename_i d ed
          obtain ⟨v, hv, rp⟩ := m4.at ed
          exact ⟨_, _, _, v, rfl, m3, hv, Post.here r1 p1 v rp⟩
        · exact p1.elim
    · exact p1.elim
  · exact p1.elim
/-- a property -/
def prU (n : Str) (mf : FM) : D → M D := fun r env st => match r with
  | .ref q => (match st[q]? with
    | some (.slo n' _) => if n' = n then (match mf [.ref q] st with
      | .ok d st => .ok d env st
      | _ => .bad) else .bad
    | _ => .bad)
  | .obj n' ds => if n' = n then (match mf [.obj n' ds] st with
      | .ok d st => .ok d env st
      | _ => .bad) else .bad
  | _ => .bad
def ePrU (n : Str) (mf : FM) (fo : M D) : M D := fun env st => (fo env st).bind (prU n mf)
theorem ve_prU {n f : Str} {mf : FM} {k : Nat} (Pv : PrV X.prog X.w X.K X.mg X.base k n f mf) (hr : Room (k + 1) X.A) (h : VE X W e fa) (hb : attributeBase e f X.env (eval e X.env) = eval e X.env := by rfl) : VE X W (.Attribute e f pos) (ePrU n mf fa) := by
  obtain ⟨C, p, g, fd, ps, hC, cl, hp, Fo, hbi⟩ := Pv.ex
  refine ⟨fun pins s σ H Q I ⟨b, F, c, env, st, e1, e2, r, p⟩ => ?_⟩
  refine attr_of hb (thn (h.run pins s σ H _ I (tE_at e1 e2 r p (Q := fun x H1 => ∃ a dx vs, x = .ref a ∧ VE.SlAt H1 a C dx vs ∧ spV X.K X.mg false 1 mf [.ref a] H1 Q (fun _ _ _ => False)) fun v d env1 st1 F1 c1 H1 s1 r1 rp1 p1 => ?_)) fun u s1 ⟨x, H1, I1, rx, a, dx, vs, ex, ea, q⟩ => ?_)
  · unfold prU at p1
    split at p1
    · rename_i q
      split at p1
      · rename_i n' ds es
        split at p1
        · rename_i en
          subst en
          obtain ⟨a, rfl, hc, C', dx, vs, k1, k2, rps⟩ := r1.cell rp1 es
          rw [e2, hC] at k1; cases k1
          refine ⟨a, dx, vs.map some, rfl, k2, ?_⟩
          rw [← e1, ← e2]
          refine ⟨F1, c1, [.ref q], st1, r1.rc, .cons rp1 .nil, rfl, ?_⟩
          generalize mf [.ref q] st1 = y at p1
          cases y with
          | ok d st' => exact fun v F' c' H' s rc o rv => p1 F' c' H' s (r1.call s rc o) v rv
          | ex x st' => exact p1.elim
          | bad => exact p1.elim
        · exact p1.elim
      · exact p1.elim
    · rename_i n' ds
      split at p1
      · rename_i en
        subst en
        have rp0 := rp1
        cases rp1 with
        | obj m1 m2 m3 m4 =>
          rw [e2, hC] at m1; cases m1
          refine ⟨_, _, _, rfl, m3, ?_⟩
          rw [← e1, ← e2]
          refine ⟨F1, c1, [.obj n' ds], st1, r1.rc, .cons rp0 .nil, rfl, ?_⟩
          generalize mf [.obj n' ds] st1 = y at p1
          cases y with
          | ok d st' => exact fun v F' c' H' s rc o rv => p1 F' c' H' s (r1.call s rc o) v rv
          | ex x st' => exact p1.elim
          | bad => exact p1.elim
      · exact p1.elim
    · exact p1.elim
  · subst ex
    obtain rfl : u = Value.ref a := rx
    exact getprop_at I1 ea cl hp Fo hr hbi q
/-- an attribute -/
def lkD (f : Str) : List Str → List D → Option D
  | g :: gs, d :: ds => if f == g then some d else lkD f gs ds
  | _, _ => none
theorem lkD_look {K : PySem.W.Frag} {mg : Str → Option Value} {F : Addr → Prop} {c : List Addr} {H : Hp} {f : Str} {d : D} : ∀ {vfs : List (Str × V)} {ns : List Str} {ds : List D}, vfs.map (·.1) = ns → Rps K mg F c H (vfs.map (·.2)) ds → lkD f ns ds = some d → ∃ v, vfs.lookup f = some v ∧ Rp K mg F c H v d
  | [], _, _, e, r, h => by subst e; simp [lkD] at h
  | (g, v) :: vfs, _, _, e, r, h => by
    subst e
    cases r with
    | cons r1 r2 =>
      simp only [List.map_cons, lkD] at h
      rw [List.lookup_cons]
      cases q : f == g with
      | true => rw [q, if_pos rfl] at h; cases h; exact ⟨v, rfl, r1⟩
      | false => rw [q, if_neg Bool.false_ne_true] at h; exact lkD_look rfl r2 h
def flU (n f : Str) : D → M D := fun r env st => match r with
  | .ref m => (match st[m]? with
    | some (.ins n' fs) => if n' = n then ret (fs.lookup f) env st else .bad
    | _ => .bad)
  | .ino n' ns ds => if n' = n then ret (lkD f ns ds) env st else .bad
  | _ => .bad
def eFlU (n f : Str) (fa : M D) : M D := fun env st => (fa env st).bind (flU n f)
theorem ve_flU {n f : Str} {fl : List Str} (cv : ClsV X.K X.mg n fl) (h : VE X W e fa) (hf : f ∈ fl := by decide +kernel) (hb : attributeBase e f X.env (eval e X.env) = eval e X.env := by rfl) : VE X W (.Attribute e f pos) (eFlU n f fa) := PEof (pe_fld h hb) fun σ H Q ⟨b, F, c, env, st, e1, e2, r, p⟩ =>
  tE_at e1 e2 r p fun v d env1 st1 F1 c1 H1 s1 r1 rp1 p1 => by
    unfold flU at p1
    split at p1
    · split at p1
      · rename_i n' fs es
        split at p1
        · rename_i en
          subst en
          obtain ⟨q, rfl, hc, C, dx, vfs, k1, k2, k3, rps⟩ := r1.cell rp1 es
          unfold ret at p1
          split at p1
          · rename_i d ed
            obtain ⟨v, hv, rp⟩ := (look_of (f := f) vfs fs k3 rps).1 d ed
            rw [e2] at k1
            exact ⟨q, C, dx, vfs, v, rfl, k2, cv.cl C k1, cv.no C k1 f hf, hv, Post.here r1 p1 v rp⟩
          · exact p1.elim
        · exact p1.elim
      · exact p1.elim
    · rename_i n' ns ds
      split at p1
      · rename_i en
        subst en
        cases rp1 with
        | ino m1 m2 m3 m4 m5 =>
          unfold ret at p1
          split at p1
          · rename_i d ed
            obtain ⟨v, hv, rp⟩ := lkD_look m4 m5 ed
            rw [e2] at m1
            exact ⟨_, _, _, _, v, rfl, m3, cv.cl _ m1, cv.no _ m1 f hf, hv, Post.here r1 p1 v rp⟩
          · exact p1.elim
      · exact p1.elim
    · exact p1.elim
end
end VE
namespace VE
open PySem PySem.Spec PyProof.Rows L2
variable [VEnv]
def kOf : Value → Key
  | .int i _ => .inl i
  | .str z _ => .inr z
  | _ => .inl 0
theorem kOf_is {k : Key} {v : Value} (q : keyIs k v = true) : kOf v = k := by
  rcases keyIs_shape q with ⟨i, t, rfl, rfl⟩ | ⟨z, t, rfl, rfl⟩ <;> rfl
section
variable {P : Program} {w : World} {h h' : Heap} {a : Addr} {S : Key → Bool} {n : Nat}
end
section
variable {P : Program} {w : World} {A : Around} {E : Value → Shared → Prop} {s : Shared} {a : Addr} {S : Key → Bool} {n : Nat}
end
section
variable {P : Program} {w : World} {A : Around} {R : Result → Shared → Prop} {I : Addr} {fp wr : List Addr} {G : Array GenState → Array GenState → Prop} {n : Nat} {Pv : Nat → Value → Prop} {St : Nat → Shared → Prop}
end
end VE
namespace VE
open PySem PySem.Spec PyProof.Rows L2
variable [VEnv]
def ltK : Key → Key → Bool
  | .inl i, .inl j => decide (i < j)
  | .inr x, .inr y => decide (x.cps.toList < y.cps.toList)
  | .inl _, .inr _ => true
  | .inr _, .inl _ => false
def lexK : List Key → List Key → Bool
  | [], [] => false
  | [], _ :: _ => true
  | _ :: _, [] => false
  | x :: xs, y :: ys => if x = y then lexK xs ys else ltK x y
theorem str_of_list {x y : Str} (h : x.cps.toList = y.cps.toList) : x = y := by
  cases x; cases y; simp at h; rw [h]
theorem ltK_irr : ∀ x : Key, ltK x x = false
  | .inl i => by simp [ltK]
  | .inr x => by simp [ltK]
theorem ltK_asym : ∀ {x y : Key}, ltK x y = true → ltK y x = false
  | .inl i, .inl j, h => by simp [ltK] at *; omega
  | .inr x, .inr y, h => by
    simp only [ltK, decide_eq_true_eq, decide_eq_false_iff_not] at *
    exact fun h2 => List.lt_irrefl _ (List.lt_trans h h2)
  | .inl i, .inr j, h => rfl
  | .inr i, .inl j, h => by simp [ltK] at h
theorem ltK_tot : ∀ {x y : Key}, ltK x y = false → ltK y x = false → x = y
  | .inl i, .inl j, h, h2 => by simp [ltK] at *; omega
  | .inr x, .inr y, h, h2 => by
    simp only [ltK, decide_eq_false_iff_not] at *
    rw [str_of_list (List.le_antisymm (List.not_lt.mp h2) (List.not_lt.mp h))]
  | .inl i, .inr j, h, _ => by simp [ltK] at h
  | .inr i, .inl j, _, h => by simp [ltK] at h
theorem ltK_trans : ∀ {x y z : Key}, ltK x y = true → ltK y z = true → ltK x z = true
  | .inl i, .inl j, .inl k, h, h2 => by simp [ltK] at *; omega
  | .inr x, .inr y, .inr z, h, h2 => by
    simp only [ltK, decide_eq_true_eq] at *
    exact List.lt_trans h h2
  | .inl i, .inr j, .inr k, h, h2 => rfl
  | .inl i, .inl j, .inr k, h, h2 => rfl
  | .inl i, .inr j, .inl k, h, h2 => by simp [ltK] at h2
  | .inr i, .inl j, _, h, h2 => by simp [ltK] at h
  | .inr i, .inr j, .inl k, h, h2 => by simp [ltK] at h2
theorem lexK_irr : ∀ xs, lexK xs xs = false
  | [] => rfl
  | x :: xs => by simp [lexK, lexK_irr xs]
theorem lexK_asym : ∀ {xs ys}, lexK xs ys = true → lexK ys xs = false
  | [], [], h => by simp [lexK] at h
  | [], _ :: _, _ => rfl
  | _ :: _, [], h => by simp [lexK] at h
  | x :: xs, y :: ys, h => by
    simp only [lexK] at *
    by_cases e : x = y
    · subst e; simp only [↓reduceIte] at *; exact lexK_asym h
    · rw [if_neg e] at h; rw [if_neg (Ne.symm e)]; exact ltK_asym h
theorem lexK_tot : ∀ {xs ys}, lexK xs ys = false → lexK ys xs = false → xs = ys
  | [], [], _, _ => rfl
  | [], _ :: _, h, _ => by simp [lexK] at h
  | _ :: _, [], _, h => by simp [lexK] at h
  | x :: xs, y :: ys, h, h2 => by
    simp only [lexK] at *
    by_cases e : x = y
    · subst e; simp only [↓reduceIte] at *; rw [lexK_tot h h2]
    · rw [if_neg e] at h; rw [if_neg (Ne.symm e)] at h2; exact absurd (ltK_tot h h2) e
theorem lexK_trans : ∀ {xs ys zs}, lexK xs ys = true → lexK ys zs = true → lexK xs zs = true
  | [], [], _, h, _ => by simp [lexK] at h
  | [], _ :: _, [], _, h => by simp [lexK] at h
  | [], _ :: _, _ :: _, _, _ => rfl
  | _ :: _, [], _, h, _ => by simp [lexK] at h
  | _ :: _, _ :: _, [], _, h => by simp [lexK] at h
  | x :: xs, y :: ys, z :: zs, h, h2 => by
    simp only [lexK] at *
    by_cases e : x = y
    · subst e
      simp only [↓reduceIte] at h
      by_cases e2 : x = z
      · subst e2; simp only [↓reduceIte] at *; exact lexK_trans h h2
      · rw [if_neg e2] at *; exact h2
    · rw [if_neg e] at h
      by_cases e2 : y = z
      · subst e2; rw [if_neg e]; exact h
      · rw [if_neg e2] at h2
        have h3 := ltK_trans h h2
        by_cases e3 : x = z
        · subst e3; rw [ltK_irr] at h3; cases h3
        · rw [if_neg e3]; exact h3
theorem swo_lexK {α : Type} (k : α → List Key) : SrtO.Swo fun x y => lexK (k x) (k y) := by
  refine ⟨fun x y h => lexK_asym h, fun x y z h1 h2 => ?_⟩
  cases q : lexK (k z) (k x) with
  | false => rfl
  | true =>
    cases q1 : lexK (k x) (k y) with
    | true => rw [lexK_trans q q1] at h2; cases h2
    | false => rw [lexK_tot q1 h1, h2] at q; cases q
section
variable {α : Type} (k : α → List Key)
def insB (x : α) : List α → List α
  | [] => [x]
  | y :: ys => if lexK (k y) (k x) then y :: insB x ys else x :: y :: ys
/-- in order; equal ones as they stood -/
def srtB : List α → List α
  | [] => []
  | x :: xs => insB k x (srtB xs)
variable {k}
theorem insB_perm (x : α) : ∀ ys, (insB k x ys).Perm (x :: ys)
  | [] => .refl _
  | y :: ys => by
    unfold insB
    split
    · exact ((insB_perm x ys).cons y).trans (.swap x y ys)
    · exact .refl _
theorem srtB_perm : ∀ xs : List α, (srtB k xs).Perm xs
  | [] => .refl _
  | x :: xs => (insB_perm x _).trans ((srtB_perm xs).cons x)
theorem insB_srt (x : α) : ∀ ys, SrtO.Srtd (fun a b => lexK (k a) (k b)) ys → SrtO.Srtd (fun a b => lexK (k a) (k b)) (insB k x ys)
  | [], _ => List.pairwise_singleton _ _
  | y :: ys, h => by
    have ⟨h1, h2⟩ := List.pairwise_cons.mp h
    unfold insB
    split
    · rename_i q
      refine List.pairwise_cons.mpr ⟨fun z hz => ?_, insB_srt x ys h2⟩
      rcases List.mem_cons.mp ((insB_perm x ys).mem_iff.mp hz) with e | e
      · subst e; exact lexK_asym q
      · exact h1 z e
    · rename_i q
      have q' : lexK (k y) (k x) = false := by simpa using q
      refine List.pairwise_cons.mpr ⟨fun z hz => ?_, h⟩
      rcases List.mem_cons.mp hz with e | e
      · subst e; exact q'
      · exact (swo_lexK k).tr x y z q' (h1 z e)
theorem srtB_srt : ∀ xs : List α, SrtO.Srtd (fun a b => lexK (k a) (k b)) (srtB k xs)
  | [] => List.Pairwise.nil
  | x :: xs => insB_srt x _ (srtB_srt xs)
/-- two sorted arrangements by the same keys have the same keys -/
theorem srt_keys : ∀ {xs ys : List α}, SrtO.Srtd (fun a b => lexK (k a) (k b)) xs → SrtO.Srtd (fun a b => lexK (k a) (k b)) ys → (xs.map k).Perm (ys.map k) → xs.map k = ys.map k
  | [], ys, _, _, p => by simpa using p.symm.length_eq
  | x :: xs, [], _, _, p => by simpa using p.length_eq
  | x :: xs, y :: ys, hx, hy, p => by
    have ⟨x1, x2⟩ := List.pairwise_cons.mp hx
    have ⟨y1, y2⟩ := List.pairwise_cons.mp hy
    have e : k x = k y := by
      have m1 : k x ∈ (y :: ys).map k := p.mem_iff.mp List.mem_cons_self
      have m2 : k y ∈ (x :: xs).map k := p.mem_iff.mpr List.mem_cons_self
      rcases List.mem_cons.mp m1 with h | h
      · exact h
      · rcases List.mem_cons.mp m2 with h' | h'
        · exact h'.symm
        · obtain ⟨z, hz, ez⟩ := List.mem_map.mp h
          obtain ⟨u, hu, eu⟩ := List.mem_map.mp h'
          have a1 : lexK (k z) (k y) = false := y1 z hz
          have a2 : lexK (k u) (k x) = false := x1 u hu
          rw [ez] at a1; rw [eu] at a2
          exact lexK_tot a1 a2
    simp only [List.map_cons] at p ⊢
    rw [e] at p ⊢
    rw [srt_keys x2 y2 ((List.perm_cons _).mp p)]
end
section
variable {P : Program} {w : World} {A : Around} {E : Value → Shared → Prop} {s : Shared}
/-- ints, or texts -/
def AllSc (vs : List Value) : Prop := (∃ ns, IntsAre vs ns) ∨ ∃ xs, StrsAre vs xs
theorem kOf_int {i : Int} {t : Tok} : kOf (.int i t) = .inl i := rfl
theorem kOf_str {i : Str} {t : Tok} : kOf (.str i t) = .inr i := rfl
theorem lex1 {x y : Key} : lexK [x] [y] = if x = y then false else ltK x y := by simp [lexK]
theorem lex1' {x y : Key} : lexK [x] [y] = ltK x y := by
  rw [lex1]
  split
  · rename_i e; subst e; exact (ltK_irr _).symm
  · rfl
theorem sortable_sc {a : Addr} {vs : List Value} (h : AllSc vs) (h2 : 2 ≤ vs.length) : SrtO.SortableO P w A s a vs fun v u => lexK [kOf v] [kOf u] := by
  intro h' _
  rcases h with ⟨ns, hi⟩ | ⟨xs, hx⟩
  · refine ⟨oneType', fun Q E hq => ?_, fun p q hm hm' => ?_⟩
    · match vs, hi, h2 with
      | v1 :: v2 :: rest, hi, _ => rw [keyKind_ints hi]; exact wpAny_pure hq
      | [], _, h => exact absurd h (by decide)
      | [v], _, h => exact absurd h (by simp)
    · obtain ⟨i, t, e⟩ := SrtO.ints_mem hi _ hm
      obtain ⟨j, u, e'⟩ := SrtO.ints_mem hi _ hm'
      show wpAny _ A (keyLt' oneType' p.1 q.1) _ _ _
      rw [e, e', keyLt'_oneType]
      refine oneLt_int ⟨rfl, ?_⟩
      show _ = lexK [kOf p.1] [kOf q.1]
      rw [e, e', lex1', kOf_int, kOf_int]; rfl
  · refine ⟨oneType', fun Q E hq => ?_, fun p q hm hm' => ?_⟩
    · match vs, hx, h2 with
      | v1 :: v2 :: rest, hx, _ => rw [keyKind_strs hx]; exact wpAny_pure hq
      | [], _, h => exact absurd h (by decide)
      | [v], _, h => exact absurd h (by simp)
    · obtain ⟨i, t, e⟩ := hx.all _ hm
      obtain ⟨j, u, e'⟩ := hx.all _ hm'
      show wpAny _ A (keyLt' oneType' p.1 q.1) _ _ _
      rw [e, e', keyLt'_oneType]
      refine oneLt_str ⟨rfl, ?_⟩
      show _ = lexK [kOf p.1] [kOf q.1]
      rw [e, e', lex1', kOf_str, kOf_str]; rfl
/-- a tuple of these keys -/
def TupK (h : Heap) (v : Value) (ks : List Key) : Prop := ∃ a o its n, v = .ref a ∧ h.get? a = some o ∧ o.cls = .type "tuple" ∧ o.data = .seq its n ∧ Paired keyIs' ks its.toList
where keyIs' (k : Key) (v : Value) : Prop := keyIs k v = true
theorem TupK.keeps {h h' : Heap} {v : Value} {ks : List Key} (t : TupK h v ks) (k : ∀ a o, v = .ref a → o.cls = .type "tuple" → h.get? a = some o → h'.get? a = some o) : TupK h' v ks := by
  obtain ⟨a, o, its, n, e, g, c, r⟩ := t
  exact ⟨a, o, its, n, e, k a o e c g, c, r⟩
def shp (ks : List Key) : List Bool := ks.map fun | .inl _ => true | .inr _ => false
theorem lt_keys {x y : Key} {u v : Value} {b : Bool} {Q : Bool → Shared → Prop} (hx : keyIs x u = true) (hy : keyIs y v = true) (hs : shp [x] = shp [y]) (q : Q (ltK x y) s) : wpAny (model P w) A (oneLt' b u v) Q E s := by
  rcases keyIs_shape hx with ⟨i, t, rfl, rfl⟩ | ⟨i, t, rfl, rfl⟩ <;> rcases keyIs_shape hy with ⟨j, t', rfl, rfl⟩ | ⟨j, t', rfl, rfl⟩
  · cases b with
    | true => exact oneLt_int q
    | false => exact PySem.W.kat_one _ _ (PyProof.Rows.lt_int q)
  · simp [shp] at hs
  · simp [shp] at hs
  · cases b with
    | true => exact oneLt_str q
    | false => exact PySem.W.kat_one _ _ (PyProof.Rows.lt_str q)
theorem katlex {Q : Bool → Shared → Prop} : ∀ {ks js : List Key} {us vs : List Value} (i : Nat), Paired TupK.keyIs' ks us → Paired TupK.keyIs' js vs → shp ks = shp js → Q (lexK ks js) s → PySem.W.KatLex P w A true false Q (us.zip vs) i s
  | _, _, _, _, i, .nil, .nil, _, q => PySem.W.kat_nil q
  | _, _, _, _, _, .nil, .cons _ _, h, _ => by simp [shp] at h
  | _, _, _, _, _, .cons _ _, .nil, h, _ => by simp [shp] at h
  | x :: ks, y :: js, u :: us, v :: vs, i, .cons hx hr, .cons hy hr', h, q => by
    simp only [shp, List.map_cons, List.cons.injEq] at h
    refine PySem.W.kat_cons ((mixKind P w).eqBool hx hy ?_)
    simp only [lexK] at q
    refine PySem.W.kat_go (fun e => ?_) fun e => ?_
    · rw [if_pos (of_decide_eq_true e)] at q
      exact PySem.W.kat_yes (katlex (i + 1) hr hr' h.2 q)
    · rw [if_neg (of_decide_eq_false e)] at q
      exact PySem.W.kat_no (lt_keys hx hy (by simp only [shp, List.map_cons, List.map_nil, h.1]) q)
theorem tupK_firsts {h : Heap} {kf : Value → List Key} : ∀ {vs : List Value}, (∀ v ∈ vs, TupK h v (kf v)) → (∀ v ∈ vs, kf v ≠ []) → ∃ fs, PySem.W.KatTups h vs fs ∧ fs.length = vs.length ∧ ∀ f ∈ fs, ∃ v ∈ vs, ∃ k, (kf v).head? = some k ∧ keyIs k f = true
  | [], _, _ => ⟨[], PySem.W.KatTups.nil, rfl, by simp⟩
  | v :: vs, hv, hn => by
    obtain ⟨fs, h1, h2, h3⟩ := tupK_firsts (vs := vs) (fun u hu => hv u (List.mem_cons_of_mem _ hu)) (fun u hu => hn u (List.mem_cons_of_mem _ hu))
    obtain ⟨a, o, its, n, e, g, c, d, r⟩ := hv v List.mem_cons_self
    have hne := hn v List.mem_cons_self
    generalize hk : kf v = ks at r hne
    generalize hl : its.toList = il at r
    have key : ∃ k f, ks.head? = some k ∧ il[0]? = some f ∧ keyIs k f = true := by
      cases r with
      | nil => exact absurd rfl hne
      | cons hx hr =>
        exact ⟨_, _, rfl, rfl, hx⟩
    obtain ⟨k, f, k1, k2, k3⟩ := key
    refine ⟨f :: fs, ?_, by simp [h2], fun g' hg => ?_⟩
    · rw [e]
      exact PySem.W.KatTups.cons g c d (by rw [← Array.getElem?_toList, hl]; exact k2) h1
    · rcases List.mem_cons.mp hg with z | z
      · exact ⟨v, List.mem_cons_self, k, by rw [hk]; exact k1, by rw [z]; exact k3⟩
      · obtain ⟨u, hu, r⟩ := h3 g' z
        exact ⟨u, List.mem_cons_of_mem _ hu, r⟩
theorem sortable_tup {a : Addr} {vs : List Value} {kf : Value → List Key} {sh : List Bool} (h2 : 2 ≤ vs.length) (hsh : sh ≠ []) (hv : ∀ v ∈ vs, TupK s.heap v (kf v)) (hs : ∀ v ∈ vs, shp (kf v) = sh) (ha : ∀ o, s.heap.get? a = some o → o.cls ≠ .type "tuple") :
    SrtO.SortableO P w A s a vs fun v u => lexK (kf v) (kf u) := by
  intro h' keep
  have hv' : ∀ v ∈ vs, TupK h' v (kf v) := fun v hm => (hv v hm).keeps fun b o e c g => keep b o (fun z => ha o (z ▸ g) c) g
  have hne : ∀ v ∈ vs, kf v ≠ [] := fun v hm z => by
    have := hs v hm
    rw [z] at this; exact hsh this.symm
  obtain ⟨fs, f1, f2, f3⟩ := tupK_firsts hv' hne
  refine ⟨tuples' true, fun Q E hq => ?_, fun p q hm hm' => ?_⟩
  · cases hb : sh with
    | nil => exact absurd hb hsh
    | cons b0 rest =>
      have typ : ∀ f ∈ fs, ∃ k, keyIs k f = true ∧ shp [k] = [b0] := fun f hf => by
        obtain ⟨v, hvm, k, k1, k2⟩ := f3 f hf
        refine ⟨k, k2, ?_⟩
        have := hs v hvm
        rw [hb] at this
        cases hkv : kf v with
        | nil => rw [hkv] at k1; cases k1
        | cons k' ks =>
          rw [hkv] at k1 this
          cases k1
          simp only [shp, List.map_cons, List.cons.injEq] at this ⊢
          exact ⟨this.1, rfl⟩
      cases b0 with
      | true =>
        refine PySem.W.kat_kind (T := .type "int") f1 (by omega) (fun f hm => ?_) (by rfl) ?_
        · obtain ⟨k, k1, k2⟩ := typ f hm
          rcases keyIs_shape k1 with ⟨i, t, rfl, rfl⟩ | ⟨i, t, rfl, rfl⟩
          · exact PySem.W.Looks.now
          · simp [shp] at k2
        · have e : (Value.type "int" != Value.type "tuple") = true := by first | decide +kernel | rfl | decide
          rw [e]
          exact hq
      | false =>
        refine PySem.W.kat_kind (T := .type "str") f1 (by omega) (fun f hm => ?_) (by rfl) ?_
        · obtain ⟨k, k1, k2⟩ := typ f hm
          rcases keyIs_shape k1 with ⟨i, t, rfl, rfl⟩ | ⟨i, t, rfl, rfl⟩
          · simp [shp] at k2
          · exact PySem.W.Looks.now
        · have e : (Value.type "str" != Value.type "tuple") = true := by first | decide +kernel | rfl | decide
          rw [e]
          exact hq
  · obtain ⟨b, o, its, n, e, g, c, d, r⟩ := hv' _ hm
    obtain ⟨b', o', its', n', e', g', c', d', r'⟩ := hv' _ hm'
    show wpAny _ A (keyLt' (tuples' true) p.1 q.1) _ _ _
    rw [e, e']
    have hsz : its.size = its'.size := by
      have l1 := r.length
      have l2 := r'.length
      have l3 : (kf p.1).length = (kf q.1).length := by
        have := (hs _ hm).trans (hs _ hm').symm
        simpa [shp] using congrArg List.length this
      rw [l3, l2] at l1
      simpa using l1.symm
    refine PySem.W.kat_lt g d g' d' ?_
    rw [hsz, show decide (its'.size < its'.size) = false from by simp]
    exact katlex 0 r r' ((hs _ hm).trans (hs _ hm').symm) ⟨rfl, rfl⟩
theorem get_fresh {h h' : Heap} (k : ∀ b o, h.get? b = some o → h'.get? b = some o) : h.get? h'.objs.size = none := by
  cases e : h.get? h'.objs.size with
  | none => rfl
  | some o => exact absurd (Heap.lt_size (k _ _ e)) (Nat.lt_irrefl _)
/-- sorted(v), v a list, a tuple or a set that gathers to items of which Pp holds -/
theorem sorted_any {v : Value} {Pp : List Value → Prop} {ltv : Value → Value → Bool} {Q : Value → Shared → Prop} (O : SrtO.Swo ltv)
    (hcol : ∀ Z : List Value → Shared → Prop, (∀ s1 out, (∀ b o, s.heap.get? b = some o → s1.heap.get? b = some o) → s1.gens = s.gens → s1.os = s.os → Pp out → Z out s1) → wpAny (model P w) A.in1 (collect v) Z E s)
    (hz : ∀ out, Pp out → out.length ≤ sizeLine)
    (hS : ∀ (out : List Value) (s1 : Shared) (a : Addr), Pp out → 2 ≤ out.length → (∀ b o, s.heap.get? b = some o → s1.heap.get? b = some o) → s1.heap.get? a = some (seqObj "list" out.toArray 0) → SrtO.SortableO P w A.in1.in1 s1 a out ltv)
    (h : ∀ s' p (out out' : List Value) (c : Nat), (∀ b o, s.heap.get? b = some o → s'.heap.get? b = some o) → s'.gens = s.gens → s'.os = s.os → s.heap.get? p = none → s'.heap.get? p = some (seqObj "list" out'.toArray c) →
      Pp out → SrtO.Srtd ltv out' → SrtO.Stb ltv out' out → Q (.ref p) s') :
    wpAny (model P w) A (call (.builtin "sorted") [v]) Q E s := by
  refine Calls.call_function_entry kind_sorted plain_sorted entry_sorted (args_sorted1 _) ?_
  unfold Builtin.«sorted»
  refine wpAny_bind (m := checkCount "sorted" 1 1 _) (wpAny_pure ?_)
  refine wpAny_bind (hcol _ fun s1 out k1 g1 o1 pp => ?_)
  refine wpAny_bind (wpAny_newList ?_ (hz out pp))
  have gL : (s1.heap.push (seqObj "list" out.toArray 0)).get? s1.heap.objs.size = some (seqObj "list" out.toArray 0) := Heap.get?_push_size _ rfl
  refine wpAny_bind (wpAny_holding (wpAny_call_entry slot_list_sort ⟨_, gL, rfl⟩ entry_list_sort (SrtO.list_sort_ord O gL (hz out pp) (fun h2 => hS out _ _ pp h2 (fun b o e => Heap.get?_push_of_some _ (k1 b o e)) gL) fun out' a1 a2 => ⟨_, rfl, ?_⟩) (args_list_sort _)))
  obtain ⟨c, hc⟩ := sortedHeap_at (vs := out) (out := out'.toArray) gL
  refine wpAny_pure ⟨_, rfl, h _ s1.heap.objs.size out out' c (fun b u e => ?_) g1 o1 (get_fresh k1) hc pp a1 a2⟩
  have q := k1 b u e
  have lt := Heap.lt_size q
  show (sortedHeap (s1.heap.push (seqObj "list" out.toArray 0)) s1.heap.objs.size out out'.toArray).get? b = some u
  rw [sortedHeap_old (Nat.ne_of_lt lt) (by rw [size_push']; exact Nat.lt_succ_of_lt lt)]
  exact Heap.get?_push_of_some _ q
end
end VE
namespace VE
open PySem PySem.Spec PyProof.Rows L2
variable [VEnv]
def kDs : List D → List Key
  | .int i :: ds => .inl i :: kDs ds
  | .str x :: ds => .inr x :: kDs ds
  | _ => []
def kD : D → List Key
  | .tup ds => kDs ds
  | .int i => [.inl i]
  | .str x => [.inr x]
  | _ => []
def isInt : D → Bool
  | .int _ => true
  | _ => false
def isStr : D → Bool
  | .str _ => true
  | _ => false
def isKs : List D → Bool
  | [] => true
  | .int _ :: ds => isKs ds
  | .str _ :: ds => isKs ds
  | _ => false
def isRow (sh : List Bool) : D → Bool
  | .tup ds => isKs ds && (shp (kDs ds) == sh)
  | _ => false
/-- ints, or texts, or tuples of both of one shape -/
def sortL (ds : List D) : Option (List D) :=
  if ds.all isInt || ds.all isStr || (ds.all (isRow ((ds.head?.map fun d => shp (kD d)).getD [])) && ((ds.head?.map fun d => shp (kD d)).getD [] != [])) then some (srtB kD ds) else none
def sortedD : D → Option D
  | .lst ds => (sortL ds).map .lst
  | .tup ds => (sortL ds).map .lst
  | _ => none
theorem kDs_inj : ∀ {xs ys : List D}, isKs xs = true → isKs ys = true → kDs xs = kDs ys → xs = ys
  | [], [], _, _, _ => rfl
  | [], .int i :: ys, _, _, e => by simp [kDs] at e
  | [], .str i :: ys, _, _, e => by simp [kDs] at e
  | .int i :: xs, [], _, _, e => by simp [kDs] at e
  | .str i :: xs, [], _, _, e => by simp [kDs] at e
  | .int i :: xs, .int j :: ys, h, h2, e => by
    simp only [kDs, List.cons.injEq, Sum.inl.injEq] at e
    rw [e.1, kDs_inj (by simpa [isKs] using h) (by simpa [isKs] using h2) e.2]
  | .str i :: xs, .str j :: ys, h, h2, e => by
    simp only [kDs, List.cons.injEq, Sum.inr.injEq] at e
    rw [e.1, kDs_inj (by simpa [isKs] using h) (by simpa [isKs] using h2) e.2]
  | .int i :: xs, .str j :: ys, h, h2, e => by simp [kDs] at e
  | .str i :: xs, .int j :: ys, h, h2, e => by simp [kDs] at e
  | .non :: _, _, h, _, _ => by simp [isKs] at h
  | .bl _ :: _, _, h, _, _ => by simp [isKs] at h
  | .lst _ :: _, _, h, _, _ => by simp [isKs] at h
  | .tup _ :: _, _, h, _, _ => by simp [isKs] at h
  | .scr _ :: _, _, h, _, _ => by simp [isKs] at h
  | .ino _ _ _ :: _, _, h, _, _ => by simp [isKs] at h
  | .obj _ _ :: _, _, h, _, _ => by simp [isKs] at h
  | .ref _ :: _, _, h, _, _ => by simp [isKs] at h
  | .fn _ :: _, _, h, _, _ => by simp [isKs] at h
  | _, .non :: _, _, h, _ => by simp [isKs] at h
  | _, .bl _ :: _, _, h, _ => by simp [isKs] at h
  | _, .lst _ :: _, _, h, _ => by simp [isKs] at h
  | _, .tup _ :: _, _, h, _ => by simp [isKs] at h
  | _, .scr _ :: _, _, h, _ => by simp [isKs] at h
  | _, .ino _ _ _ :: _, _, h, _ => by simp [isKs] at h
  | _, .obj _ _ :: _, _, h, _ => by simp [isKs] at h
  | _, .ref _ :: _, _, h, _ => by simp [isKs] at h
  | _, .fn _ :: _, _, h, _ => by simp [isKs] at h
theorem map_inj {α β : Type} {f : α → β} {p : α → Prop} (hi : ∀ x y, p x → p y → f x = f y → x = y) : ∀ {xs ys : List α}, (∀ x ∈ xs, p x) → (∀ x ∈ ys, p x) → xs.map f = ys.map f → xs = ys
  | [], [], _, _, _ => rfl
  | [], _ :: _, _, _, e => by simp at e
  | _ :: _, [], _, _, e => by simp at e
  | x :: xs, y :: ys, h, h2, e => by
    simp only [List.map_cons, List.cons.injEq] at e
    rw [hi x y (h x List.mem_cons_self) (h2 y List.mem_cons_self) e.1, map_inj hi (fun z hz => h z (List.mem_cons_of_mem _ hz)) (fun z hz => h2 z (List.mem_cons_of_mem _ hz)) e.2]
/-- a sorted arrangement of ds is the one -/
theorem srtB_uniq {ds es : List D} {p : D → Prop} (hi : ∀ x y, p x → p y → kD x = kD y → x = y) (hp : ∀ x ∈ ds, p x) (hs : SrtO.Srtd (fun a b => lexK (kD a) (kD b)) es) (h : es.Perm ds) : es = srtB kD ds := by
  have e := srt_keys (k := kD) hs (srtB_srt ds) ((h.trans (srtB_perm ds).symm).map kD)
  exact map_inj hi (fun x hx => hp x (h.mem_iff.mp hx)) (fun x hx => hp x ((srtB_perm ds).mem_iff.mp hx)) e
section
variable {K : PySem.W.Frag} {mg : Str → Option Value} {F : Addr → Prop} {c : List Addr} {H : Hp}
/-- a value that stands for d -/
def Is (K : PySem.W.Frag) (mg : Str → Option Value) (F : Addr → Prop) (c : List Addr) (H : Hp) (u : Value) (d : D) : Prop := ∃ v, RelV v u ∧ Rp K mg F c H v d
theorem is_of : ∀ {xs : List V} {us : List Value} {ds : List D}, Vals xs us → Rps K mg F c H xs ds → Paired (Is K mg F c H) us ds
  | _, _, _, .nil, .nil => .nil
  | _, _, _, .cons r t, .cons h q => .cons ⟨_, r, h⟩ (is_of t q)
theorem of_is : ∀ {us : List Value} {ds : List D}, Paired (Is K mg F c H) us ds → ∃ xs, Vals xs us ∧ Rps K mg F c H xs ds
  | _, _, .nil => ⟨[], .nil, .nil⟩
  | _, _, .cons ⟨v, r, h⟩ t => by
    obtain ⟨xs, h1, h2⟩ := of_is t
    exact ⟨v :: xs, .cons r h1, .cons h h2⟩
theorem paired_perm {α β : Type} {R : α → β → Prop} {l l' : List α} (p : l'.Perm l) : ∀ {m : List β}, Paired R l m → ∃ m', m'.Perm m ∧ Paired R l' m' := by
  induction p with
  | nil => intro m h; cases h; exact ⟨[], .refl _, .nil⟩
  | cons x p ih =>
    intro m h
    cases h with
    | cons r t =>
      obtain ⟨m', h1, h2⟩ := ih t
      exact ⟨_ :: m', h1.cons _, .cons r h2⟩
  | swap x y l =>
    intro m h
    cases h with
    | cons r t => cases t with
      | cons r' t' => exact ⟨_ :: _ :: _, .swap _ _ _, .cons r' (.cons r t')⟩
  | trans p q ih1 ih2 =>
    intro m h
    obtain ⟨m1, h1, h2⟩ := ih2 h
    obtain ⟨m2, h3, h4⟩ := ih1 h2
    exact ⟨m2, h3.trans h1, h4⟩
theorem paired_map {α β γ : Type} {R : α → β → Prop} {f : α → γ} {g : β → γ} : ∀ {l : List α} {m : List β}, Paired R l m → (∀ a ∈ l, ∀ b ∈ m, R a b → f a = g b) → l.map f = m.map g
  | _, _, .nil, _ => rfl
  | _, _, .cons r t, h => by
    rw [List.map_cons, List.map_cons, h _ List.mem_cons_self _ List.mem_cons_self r, paired_map t fun a ha b hb => h a (List.mem_cons_of_mem _ ha) b (List.mem_cons_of_mem _ hb)]
end
theorem ok_get {P : Program} {w : World} {H : Hp} {h : Heap} {a : Addr} {o : HO} (z : ObjOk P w H h a o) : ∃ u, h.get? a = some u := by
  cases o with
  | lst xs => obtain ⟨_, _, _, _, e⟩ := z; exact ⟨_, e⟩
  | tup xs => obtain ⟨_, _, _, o, e, _⟩ := z; exact ⟨_, e⟩
  | dK kvs => obtain ⟨_, _, _, _, o, _, _, e, _⟩ := z; exact ⟨_, e⟩
  | dT kvs => obtain ⟨_, _, _, _, o, _, _, e, _⟩ := z; exact ⟨_, e⟩
  | set S n => obtain ⟨o, _, _, _, e, _⟩ := z; exact ⟨_, e⟩
  | ins C dx fs => obtain ⟨_, _, _, e, _⟩ := z; exact ⟨_, e⟩
  | own y => exact z
  | xd fs => obtain ⟨_, ⟨_, _, _, e, _⟩, _⟩ := z; exact ⟨_, e⟩
  | rng lo hi => obtain ⟨_, _, _, e⟩ := z; exact ⟨_, e⟩
  | frz ob u => obtain ⟨e, _⟩ := z; exact ⟨_, e⟩
  | tbl ps => exact ⟨_, (show h.get? a = some _ from z)⟩
  | met f y => exact ⟨_, (show h.get? a = some _ from z)⟩
  | ext φ => exact z.2.1
theorem ok_none {P : Program} {w : World} {H : Hp} {h : Heap} {a : Addr} (x : HOk P w H h) (e : h.get? a = none) : H a = none := by
  cases q : H a with
  | none => rfl
  | some o =>
    obtain ⟨u, hu⟩ := ok_get (x a o q)
    rw [e] at hu; cases hu
theorem ok_laid {P : Program} {w : World} {H : Hp} {h h' : Heap} {a : Addr} {o : HO} (x : HOk P w H h) (k : ∀ b u, h.get? b = some u → h'.get? b = some u) (hn : H a = none) (new : ObjOk P w (upd H a o) h' a o) : HOk P w (upd H a o) h' := fun b u e => by
  by_cases hb : b = a
  · subst hb; rw [upd_same] at e; cases e; exact new
  · rw [upd_ne hb] at e
    exact (x b u e).stay (fun c v _ q => k c v q) (fun d q => own_new hn d _ q) fun c xs q => by rw [upd_ne (ne_of_none q hn)]; exact q
theorem un_laid {H : Hp} {h h' : Heap} {a : Addr} {o : HO} {fs ex : List Addr} (k : ∀ b u, h.get? b = some u → h'.get? b = some u) (e : h.get? a = none) (hn : H a = none) : Un fs ex H (upd H a o) h h' where
  keep := fun b u q _ _ _ => k b u q
  slot := fun b u q _ _ _ => ⟨u.slots, k b u q⟩
  free := fun b u q n _ => by rw [upd_ne fun z => by rw [z, e] at q; cases q]; exact n
  there := fun b u q _ => ⟨u, k b u q⟩
  tups := fun b xs q => by rw [upd_ne (ne_of_none q hn)]; exact q
  frzs := fun b u xs q => by rw [upd_ne (ne_of_none q hn)]; exact q
  tbls := fun b ps q => ⟨#[], by rw [upd_ne (ne_of_none q hn), q]; simp⟩
/-- the keys of a value -/
def kV1 (h : Heap) : Value → List Key
  | .ref a => match h.get? a with
    | some o => match o.data with
      | .seq its _ => its.toList.map kOf
      | _ => []
    | none => []
  | v => [kOf v]
theorem tupK_keys {h : Heap} {v : Value} {ks : List Key} (t : TupK h v ks) : kV1 h v = ks := by
  obtain ⟨a, o, its, n, rfl, g, c, d, r⟩ := t
  unfold kV1
  dsimp only
  rw [g]
  dsimp only
  rw [d]
  dsimp only
  generalize its.toList = l at r
  clear g d
  induction r with
  | nil => rfl
  | cons q t ih => rw [List.map_cons, ih, kOf_is q]
section
variable {X : Cx} {F : Addr → Prop} {c : List Addr} {H : Hp} {pins : List (Addr × Obj)} {σ : L2.St} {s : Shared}
theorem is_row (I : Inv X pins σ H s) {u : Value} {sh : List Bool} {d : D} (h : Is X.K X.mg F c H u d) (e : isRow sh d = true) : TupK s.heap u (kD d) ∧ shp (kD d) = sh := by
  obtain ⟨v, r, h⟩ := h
  unfold isRow at e
  split at e
  · rename_i ds
    rw [Bool.and_eq_true, beq_iff_eq] at e
    cases h with
    | tup hq hr =>
      obtain ⟨its, rv, it, hz⟩ := I.tuple hq.sq
      cases r
      obtain ⟨o, g, cc, n, d⟩ := it
      refine ⟨⟨_, o, _, n, rfl, g, cc, d, ?_⟩, e.2⟩
      show Paired TupK.keyIs' (kDs ds) its
      have go : ∀ {xs : List V} {us : List Value} {ds : List D}, Vals xs us → Rps X.K X.mg F c H xs ds → isKs ds = true → Paired TupK.keyIs' (kDs ds) us := by
        intro xs us ds rv hr
        induction rv generalizing ds with
        | nil => intro _; cases hr; exact .nil
        | cons q t ih =>
          intro e
          cases hr with
          | cons h1 h2 =>
            cases h1 with
            | int i =>
              obtain ⟨tk, rfl⟩ := q
              exact .cons (keyIs_int i tk) (ih h2 (by simpa [isKs] using e))
            | str i =>
              obtain ⟨tk, rfl⟩ := q
              exact .cons (keyIs_str i tk) (ih h2 (by simpa [isKs] using e))
            | _ => simp [isKs] at e
      exact go rv hr e.1
  · cases e
/-- sorted(xs) -/
def rSorted (K : PySem.W.Frag) (mg : Str → Option Value) : List V → Hp → VK → Prop := fun vs H Q => ∃ a xs F c ds es, vs = [V.ref a] ∧ (SqL K H a xs ∨ SqT K H a xs) ∧ Rps K mg F c H xs ds ∧ sortL ds = some es ∧
  ∀ p ys, H p = none → Rps K mg F c H ys es → Q (.ref p) (upd H p (.lst ys))
theorem srt_out (I : Inv X pins σ H s) {us out' : List Value} {ds : List D} {p : D → Prop} {ltv : Value → Value → Bool} {kf : Value → List Key} (hl : ∀ u ∈ us, ∀ v ∈ us, ltv u v = lexK (kf u) (kf v)) (hk : ∀ u ∈ us, ∀ d ∈ ds, Is X.K X.mg F c H u d → kf u = kD d) (hi : ∀ x y, p x → p y → kD x = kD y → x = y) (hp : ∀ x ∈ ds, p x)
    (h1 : SrtO.Srtd ltv out') (h2 : out'.Perm us) (h3 : Paired (Is X.K X.mg F c H) us ds) : Paired (Is X.K X.mg F c H) out' (srtB kD ds) := by
  obtain ⟨es, q1, q2⟩ := paired_perm h2 h3
  have e := paired_map (f := kf) (g := kD) q2 fun a ha b hb r => hk a (h2.mem_iff.mp ha) b (q1.mem_iff.mp hb) r
  have hs : SrtO.Srtd (fun a b => lexK (kD a) (kD b)) es := by
    have z : (out'.map kf).Pairwise fun x y => lexK y x = false := by
      rw [List.pairwise_map]
      exact h1.imp_of_mem fun {a b} ha hb q => by
        rw [← hl b (h2.mem_iff.mp hb) a (h2.mem_iff.mp ha)]; exact q
    rw [e, List.pairwise_map] at z
    exact z
  rw [← srtB_uniq hi hp hs q1]
  exact q2
theorem cr_sorted : CallR X (.builtin "sorted") (rSorted X.K X.mg) := by
  intro pins s σ H vs us Q I r h
  obtain ⟨a, xs, F, c, ds, es, rfl, hq, rps, hes, q⟩ := h
  rw [Vals.ref1 r]
  obtain ⟨its, rv, T, o, hT, ho, hc, n, hd, hz⟩ : ∃ its, Vals xs its ∧ ∃ (T : String) (o : Obj), (T = "list" ∨ T = "tuple") ∧ s.heap.get? a = some o ∧ o.cls = .type T ∧ ∃ n, o.data = .seq its.toArray n ∧ xs.length ≤ sizeLine := by
    rcases hq with hq | hq
    · obtain ⟨its, rv, hl, hz⟩ := I.list hq
      obtain ⟨o, g, cc, n, d⟩ := hl.isList
      exact ⟨its, rv, _, o, .inl rfl, g, cc, n, d, hz⟩
    · obtain ⟨its, rv, ⟨o, g, cc, n, d⟩, hz⟩ := I.tuple hq
      exact ⟨its, rv, _, o, .inr rfl, g, cc, n, d, hz⟩
  have hzi : its.length ≤ sizeLine := by rw [← rv.length]; exact hz
  have pr := is_of rv rps
  have fin : ∀ (ltv : Value → Value → Bool) (kf : Value → List Key) (p : D → Prop), SrtO.Swo ltv → (∀ u ∈ its, ∀ v ∈ its, ltv u v = lexK (kf u) (kf v)) → (∀ u ∈ its, ∀ d ∈ ds, Is X.K X.mg F c H u d → kf u = kD d) → (∀ x y, p x → p y → kD x = kD y → x = y) → (∀ x ∈ ds, p x) → es = srtB kD ds →
      (∀ (s1 : Shared) (a : Addr), 2 ≤ its.length → (∀ b o, s.heap.get? b = some o → s1.heap.get? b = some o) → s1.heap.get? a = some (seqObj "list" its.toArray 0) → SrtO.SortableO X.prog X.w X.A.in1.in1 s1 a its ltv) →
      wpAny (model X.prog X.w) X.A (call (.builtin "sorted") [.ref a]) (EP X pins σ Q) X.xe s := by
    intro ltv kf p O hl hk hi hp ees hS
    refine sorted_any (Pp := fun out => out = its) O (fun Z hZ => ?_) (fun out e => by rw [e]; exact hzi) (fun out s1 a e h2 k g => by subst e; exact hS s1 a h2 k g) fun s' pa out out' cc k g e2 hp' hg eo a1 a2 => ?_
    · exact wpAny_collect_seq a hT ho hc hd (fun h' hk' => hZ _ _ hk' rfl rfl rfl) (by simpa using hzi)
    · subst eo
      have pz := srt_out (F := F) (c := c) I hl hk hi hp a1 a2.perm pr
      obtain ⟨ys, y1, y2⟩ := of_is pz
      have hlen : ys.length ≤ sizeLine := by rw [y1.length, a2.perm.length_eq]; exact hzi
      have hn : H pa = none := ok_none I.hok hp'
      have J : Inv X pins σ (upd H pa (.lst ys)) s' := I.call' (ch := []) e2 (un_laid k hp' hn) (ok_laid I.hok k hn ⟨hlen, _, cc, y1, hg⟩) (by rw [g]; exact I.bare) (fun _ z => nomatch z)
      exact ⟨.ref pa, _, J, rfl, q pa ys hn (by rw [ees]; exact y2)⟩
  unfold sortL at hes
  split at hes
  · rename_i hh
    cases hes
    simp only [Bool.or_eq_true, Bool.and_eq_true, List.all_eq_true] at hh
    have isInt' : ∀ (u : Value) (d : D), Is X.K X.mg F c H u d → isInt d = true → ∃ i t, u = .int i t ∧ d = .int i := by
      rintro u d ⟨v, r, h⟩ e
      cases h with
      | int i => obtain ⟨t, rfl⟩ := r; exact ⟨i, t, rfl, rfl⟩
      | _ => cases e
    have isStr' : ∀ (u : Value) (d : D), Is X.K X.mg F c H u d → isStr d = true → ∃ i t, u = .str i t ∧ d = .str i := by
      rintro u d ⟨v, r, h⟩ e
      cases h with
      | str i => obtain ⟨t, rfl⟩ := r; exact ⟨i, t, rfl, rfl⟩
      | _ => cases e
    rcases hh with (hh | hh) | ⟨hh, hne⟩
    · have al : ∀ {us : List Value} {ds : List D}, Paired (Is X.K X.mg F c H) us ds → (∀ d ∈ ds, isInt d = true) → ∃ ns, IntsAre us ns := by
        intro us ds pr
        induction pr with
        | nil => intro _; exact ⟨[], .nil⟩
        | cons r t ih =>
          intro hh
          obtain ⟨i, tk, rfl, rfl⟩ := isInt' _ _ r (hh _ List.mem_cons_self)
          obtain ⟨ns, hn⟩ := ih fun d hd => hh d (List.mem_cons_of_mem _ hd)
          exact ⟨i :: ns, .cons i tk hn⟩
      refine fin (fun v u => lexK [kOf v] [kOf u]) (fun v => [kOf v]) (fun d => isInt d = true) (swo_lexK _) (fun _ _ _ _ => rfl) (fun u _ d hd h => ?_) (fun x y hx hy e => ?_) hh rfl fun s1 a h2 k g => sortable_sc (.inl (al pr hh)) h2
      · obtain ⟨i, tk, rfl, rfl⟩ := isInt' _ _ h (hh _ hd)
        rfl
      · cases x <;> simp [isInt] at hx
        cases y <;> simp [isInt] at hy
        simpa [kD] using e
    · have al : ∀ {us : List Value} {ds : List D}, Paired (Is X.K X.mg F c H) us ds → (∀ d ∈ ds, isStr d = true) → ∃ ns, StrsAre us ns := by
        intro us ds pr
        induction pr with
        | nil => intro _; exact ⟨[], .nil⟩
        | cons r t ih =>
          intro hh
          obtain ⟨i, tk, rfl, rfl⟩ := isStr' _ _ r (hh _ List.mem_cons_self)
          obtain ⟨ns, hn⟩ := ih fun d hd => hh d (List.mem_cons_of_mem _ hd)
          exact ⟨i :: ns, .cons i tk hn⟩
      refine fin (fun v u => lexK [kOf v] [kOf u]) (fun v => [kOf v]) (fun d => isStr d = true) (swo_lexK _) (fun _ _ _ _ => rfl) (fun u _ d hd h => ?_) (fun x y hx hy e => ?_) hh rfl fun s1 a h2 k g => sortable_sc (.inr (al pr hh)) h2
      · obtain ⟨i, tk, rfl, rfl⟩ := isStr' _ _ h (hh _ hd)
        rfl
      · cases x <;> simp [isStr] at hx
        cases y <;> simp [isStr] at hy
        simpa [kD] using e
    · generalize ((ds.head?.map fun d => shp (kD d)).getD []) = sh at hh hne
      have mem : ∀ {us : List Value} {ds : List D}, Paired (Is X.K X.mg F c H) us ds → ∀ u ∈ us, ∃ d ∈ ds, Is X.K X.mg F c H u d := by
        intro us ds pr
        induction pr with
        | nil => intro u hu; cases hu
        | cons r t ih =>
          intro u hu
          rcases List.mem_cons.mp hu with e | e
          · subst e; exact ⟨_, List.mem_cons_self, r⟩
          · obtain ⟨d, hd, r⟩ := ih u e
            exact ⟨d, List.mem_cons_of_mem _ hd, r⟩
      have row : ∀ u ∈ its, TupK s.heap u (kV1 s.heap u) ∧ shp (kV1 s.heap u) = sh := fun u hu => by
        obtain ⟨d, hd, r⟩ := mem pr u hu
        obtain ⟨t1, t2⟩ := is_row I r (hh d hd)
        rw [tupK_keys t1]
        exact ⟨t1, t2⟩
      refine fin (fun v u => lexK (kV1 s.heap v) (kV1 s.heap u)) (kV1 s.heap) (fun d => isRow sh d = true) (swo_lexK _) (fun _ _ _ _ => rfl) (fun u _ d hd h => tupK_keys (is_row I h (hh d hd)).1) (fun x y hx hy e => ?_) hh rfl fun s1 a h2 k g => ?_
      · unfold isRow at hx hy
        split at hx
        · split at hy
          · rw [Bool.and_eq_true] at hx hy
            rw [kDs_inj hx.1 hy.1 e]
          · cases hy
        · cases hx
      · refine sortable_tup h2 (by simpa using hne) (fun v hv => (row v hv).1.keeps fun b o _ _ e => k b o e) (fun v hv => (row v hv).2) fun o e z => ?_
        rw [g] at e
        cases e
        exact absurd (Value.type.inj z) (by decide)
  · cases hes
end
end VE
namespace VE
open PySem PySem.Spec PyProof.Rows L2
variable [VEnv]
section
variable {P : Program} {w : World} {A : Around} {E : Value → Shared → Prop} {s : Shared}
end
end VE
namespace VE
open PySem PySem.Spec PyProof.Rows L2
variable [VEnv]
section
variable {X : Cx} {W : WX} {e a : Expr} {pos p p2 q : Pos} {fa : M D}
theorem ok_sorted : CallOkF X W (rSorted X.K X.mg) (b1 sortedD) := callOkF_1 fun F c H x dx d Q hx e q => by
  unfold sortedD at e
  split at e
  · obtain ⟨es, h1, rfl⟩ := Option.map_eq_some_iff.mp e
    cases hx with
    | lst f h r => exact ⟨_, _, F, c, _, es, rfl, .inl (SqL.of h), r, h1, fun p ys hp ry => q p _ hp fun F' s => ⟨_, upd_same, ry.stp s⟩⟩
  · obtain ⟨es, h1, rfl⟩ := Option.map_eq_some_iff.mp e
    cases hx with
    | tup h r => exact ⟨_, _, F, c, _, es, rfl, .inr h.sq, r, h1, fun p ys hp ry => q p _ hp fun F' s => ⟨_, upd_same, ry.stp s⟩⟩
  · cases e
theorem vf_sorted (hm : X.mg "sorted" = none) (ha : VE X W e fa) (hgl : Gl X "sorted" := by rfl) (hs : starEach [e] X.env = (false, eval e X.env) :: starEach [] X.env := by rfl) : VF X W (.Call (.Name "sorted" p) [e] [] pos) (eBlt (b1 sortedD) (eCons fa eNil)) := vf_blt cr_sorted ok_sorted hm PyProof.Rows.boot_sorted (va_cons ha va_nil hs) hgl (by decide) (by decide) hs
end
section
variable {X : Cx}
end
def keyD : Key → D
  | .inl i => .int i
  | .inr x => .str x
section
variable {K : PySem.W.Frag} {mg : Str → Option Value} {F : Addr → Prop} {c : List Addr} {H : Hp}
end
section
variable {X : Cx} {W : WX} {e a : Expr} {pos p p2 q : Pos} {fa : M D}
end
end VE
namespace VE
open PySem PySem.Spec PyProof.Rows L2
variable [VEnv]
/-- what is seen of a value: a list of the store as it stands now -/
def vw (st : Sto) : D → D
  | .ref n => match st[n]? with
    | some (.lst ds) => .lst ds
    | _ => .ref n
  | d => d
def LV (K : PySem.W.Frag) (mg : Str → Option Value) (F : Addr → Prop) (c : List Addr) (H : Hp) (v : V) : D → Prop
  | .lst ds => ∃ a vs, v = .ref a ∧ H a = some (.lst vs) ∧ Rps K mg F c H vs ds
  | d => Rp K mg F c H v d
section
variable {K : PySem.W.Frag} {mg : Str → Option Value} {F : Addr → Prop} {c : List Addr} {H : Hp} {v : V} {d : D} {b : Bs} {env : EnvD} {st : Sto} {σ : L2.St}
theorem Rp.lv (h : Rp K mg F c H v d) : LV K mg F c H v d := by
  cases d with
  | lst ds => cases h with
    | lst f e r => exact ⟨_, _, rfl, e, r⟩
  | _ => exact h
theorem Rel.lv (r : Rel b F c env st σ H) (h : Rp b.K b.mg F c H v d) : LV b.K b.mg F c H v (vw st d) := by
  unfold vw
  split
  · rename_i n
    split
    · rename_i ds es
      obtain ⟨a, rfl, _, vs, e, q⟩ := r.cell h es
      exact ⟨a, vs, rfl, e, q⟩
    · exact h.lv
  · exact h.lv
theorem LV.dp (h : LV K mg F c H v d) (p : plain 20 d = true) : Dp K H v (toPy d) := by
  cases d with
  | lst ds =>
    obtain ⟨a, vs, rfl, e, q⟩ := h
    simp only [toPy]
    exact .lst (SqL.of e) (Rps.dp 19 q (by simpa [plain] using p))
  | _ => exact Rp.dp 20 h p
end
section
variable {X : Cx} {W : WX} {e a d : Expr} {es : List Expr} {pos p : Pos} {fa fb fc : M D} {fs : M (List D)} {x : Str} {k : Nat}
def sv2 (g : D → D → Option D) : D → D → M D := fun x y env st => ret (g (vw st x) (vw st y)) env st
theorem opOk_sv {r : R2} {g : D → D → Option D} (h : ∀ (F : Addr → Prop) (c : List Addr) (H : Hp) (x y : V) (dx dy d : D) (Q : VK), LV X.K X.mg F c H x dx → LV X.K X.mg F c H y dy → g dx dy = some d → (∀ v, Rp X.K X.mg F c H v d → Q v H) →
    (∀ p o, H p = none → (∀ ps, o ≠ .tbl ps) → (∀ F' : Addr → Prop, Stp F c H F' c (upd H p o) → Rp X.K X.mg (FAdd F' p) c (upd H p o) (.ref p) d) → Q (.ref p) (upd H p o)) → r x y H Q) : OpOk X W r (sv2 g) := by
  intro b F c env st σ H x y dx dy Q e1 e2 r0 hx hy p
  unfold sv2 ret at p
  split at p
  · rename_i d e
    have h1 := r0.lv hx
    have h2 := r0.lv hy
    rw [e1, e2] at h1 h2
    refine h F c H x y _ _ d Q h1 h2 e (fun v hv => Post.here r0 p v (by rw [e1, e2]; exact hv)) fun q o hq hot ho => ?_
    obtain ⟨s2, r2⟩ := r0.newO hq o
    obtain ⟨s3, r3⟩ := r2.frz (r0.nC hq) (r0.H0none hq) (fun i h => r0.nO hq i h) ⟨o, upd_same⟩ (fun ps z => hot ps (by rw [upd_same] at z; exact Option.some.inj z))
    exact p _ _ _ (s2.trans s3) r3 _ (by rw [e1, e2]; exact ho F s2)
  · exact p.elim
def addA : D → D → Option D
  | .int i, .int j => some (.int (i + j))
  | .str i, .str j => if i.length + j.length ≤ sizeLine then some (.str (i ++ j)) else none
  | .tup xs, .tup ys => if xs.length + ys.length ≤ 16777216 then some (.tup (xs ++ ys)) else none
  | .lst xs, .lst ys => if xs.length + ys.length ≤ 16777216 then some (.lst (xs ++ ys)) else none
  | _, _ => none
@[reducible] def rAddA (K : PySem.W.Frag) : R2 := fun x y H Q => ((∃ i j, x = .int i ∧ y = .int j ∧ Q (.int (i + j)) H) ∨ (∃ i j, x = .str i ∧ y = .str j ∧ i.length + j.length ≤ sizeLine ∧ Q (.str (i ++ j)) H)) ∨ (rCatA K x y H Q ∨ rCat x y H Q)
theorem op_addA : OpR X (binaryOp .Add) (rAddA X.K) := OpR.or op_addR (OpR.or op_catA op_cat)
theorem ok_addA : OpOk X W (rAddA X.K) (sv2 addA) := opOk_sv fun F c H x y dx dy d Q hx hy e q qn => by
  unfold addA at e
  split at e
  · cases hx; cases hy; cases e; exact .inl (.inl ⟨_, _, rfl, rfl, q _ (.int _)⟩)
  · split at e
    · cases hx; cases hy; cases e; exact .inl (.inr ⟨_, _, rfl, rfl, by assumption, q _ (.str _)⟩)
    · cases e
  · split at e
    · rename_i hl
      cases e
      cases hx with
      | tup hx hrx => cases hy with
        | tup hy hry =>
          rename_i a vs b2 ws
          refine .inr (.inl ⟨_, _, vs, ws, rfl, rfl, hx.sq, hy.sq, by rw [hrx.length, hry.length, sizeLine_eq]; exact hl, fun z => ?_, fun _ z => ?_, fun _ _ p hp => ?_⟩)
          · subst z; cases hrx
            exact q _ (.tup hy (by simpa using hry))
          · subst z; cases hry
            exact q _ (.tup hx (by simpa using hrx))
          · exact qn p _ hp (fun _ z => by cases z) fun F' s => .tup (.inl ⟨.inr rfl, upd_same⟩) (((hrx.append hry).stp s).stp ⟨fun _ h => .inl h, fun _ _ _ h => h, ⟨[], (List.append_nil c).symm⟩, fun _ _ h => h, fun _ _ _ h => h⟩)
    · cases e
  · split at e
    · rename_i hl
      cases e
      obtain ⟨a, vs, rfl, h, r⟩ := hx
      obtain ⟨a', vs', rfl, h', r'⟩ := hy
      refine .inr (.inr ⟨_, _, _, _, rfl, rfl, h, h', by rw [r.length, r'.length, sizeLine_eq]; exact hl, fun p hp => ?_⟩)
      exact qn p _ hp (fun _ z => by cases z) fun F' s => .lst (.inr rfl) upd_same (((r.append r').stp s).stp ⟨fun _ h => .inl h, fun _ _ _ h => h, ⟨[], (List.append_nil c).symm⟩, fun _ _ h => h, fun _ _ _ h => h⟩)
    · cases e
  · cases e
theorem ve_addA (ha : VE X W e fa) (hb : VE X W a fb) : VE X W (.BinOp e .Add a pos) (eBin (sv2 addA) fa fb) := ve_op op_addA ok_addA ha hb
theorem ok_eqV : OpOk X W (rEqD X.K) (sv2 eqP) := opOk_sv fun F c H x y dx dy d Q hx hy e q _ => by
  unfold eqP at e
  split at e
  · rename_i h
    rw [Bool.and_eq_true] at h
    cases e
    exact ⟨_, _, hx.dp h.1, hy.dp h.2, shaped_of (by decide) h.1, shaped_of (by decide) h.2, q _ (.bl _)⟩
  · cases e
theorem ok_neV : OpOk X W (rNeD X.K) (sv2 neP) := opOk_sv fun F c H x y dx dy d Q hx hy e q _ => by
  unfold neP at e
  split at e
  · rename_i h
    rw [Bool.and_eq_true] at h
    cases e
    exact ⟨_, _, hx.dp h.1, hy.dp h.2, shaped_of (by decide) h.1, shaped_of (by decide) h.2, q _ (.bl _)⟩
  · cases e
theorem ve_eqV (hr : Room k X.A) (ha : VE X W e fa) (hb : VE X W a fb) : VE X W (.Compare e [.Eq] [a] pos) (eBin (sv2 eqP) fa fb) := ve_cmp (op_eqD (huOf hr)) ok_eqV ha hb (nomark _)
theorem ve_neV (hr : Room k X.A) (ha : VE X W e fa) (hb : VE X W a fb) : VE X W (.Compare e [.NotEq] [a] pos) (eBin (sv2 neP) fa fb) := ve_cmp (op_neD (huOf hr)) ok_neV ha hb (nomark _)
theorem vt_eqV (hr : Room k X.A) (ha : VE X W e fa) (hb : VE X W a fb) : VT X W (.Compare e [.Eq] [a] pos) (eT (eBin (sv2 eqP) fa fb)) := vt_cmp (op_eqD (huOf hr)) ok_eqV ha hb (nomark _)
theorem vt_neV (hr : Room k X.A) (ha : VE X W e fa) (hb : VE X W a fb) : VT X W (.Compare e [.NotEq] [a] pos) (eT (eBin (sv2 neP) fa fb)) := vt_cmp (op_neD (huOf hr)) ok_neV ha hb (nomark _)
def ng (neg t : Bool) : Bool := if neg then !t else t
/-- plain data within plain data, a text within a text -/
def inV (neg : Bool) : D → D → Option D
  | .str i, .str j => some (.bl (ng neg (inText i j)))
  | x, .lst ys => if plain 20 x && plain 20 (.lst ys) then some (.bl (ng neg (ys.any fun z => eqD z x))) else none
  | x, .tup ys => if plain 20 x && plain 20 (.tup ys) then some (.bl (ng neg (ys.any fun z => eqD z x))) else none
  | _, _ => none
def hasD (ky : Key) : List (Key × D) → Bool
  | [] => false
  | (j, _) :: r => decide (j = ky) || hasD ky r
def inA (neg : Bool) : D → D → M D := fun x y env st => match y with
  | .ref n => (match st[n]? with
    | some (.dct kvs) => (match x with
      | .int i => .ok (.bl (ng neg (hasD (.inl i) kvs))) env st
      | .str i => .ok (.bl (ng neg (hasD (.inr i) kvs))) env st
      | _ => .bad)
    | _ => sv2 (inV neg) x y env st)
  | y => sv2 (inV neg) x y env st
theorem valV_has {ky : Key} : ∀ {vk : List (Key × V)} {kvs : List (Key × D)}, vk.map (·.1) = kvs.map (·.1) → (valV vk ky).isSome = hasD ky kvs
  | [], [], _ => rfl
  | (j, v) :: vk, (j', d) :: kvs, h => by
    simp only [List.map_cons, List.cons.injEq] at h
    obtain ⟨rfl, h⟩ := h
    unfold hasD
    by_cases e : j = ky
    · rw [valV_pos (p := (j, v)) e, decide_eq_true e]; rfl
    · rw [valV_neg (p := (j, v)) e, decide_eq_false e, valV_has h]; rfl
  | [], _ :: _, h => by simp at h
  | _ :: _, [], h => by simp at h

theorem op_inDt (hu : X.A.units + 1 < cLine) : OpR X (compareOp .In) (fun y x H Q => ∃ a o, x = .ref a ∧ DGet H a y o ∧ Q (.bl o.isSome) H) := by
  intro pins s σ H y x u v Q I ry rx ⟨a, o, ex, g, q⟩
  subst ex
  obtain rfl : v = Value.ref a := rx
  exact d_in hu I g ry fun s' I' => ⟨.bl o.isSome, H, I', rfl, q⟩
theorem op_notinDt (hu : X.A.units + 1 < cLine) : OpR X (compareOp .NotIn) (fun y x H Q => ∃ a o, x = .ref a ∧ DGet H a y o ∧ Q (.bl (!o.isSome)) H) := by
  intro pins s σ H y x u v Q I ry rx ⟨a, o, ex, g, q⟩
  subst ex
  obtain rfl : v = Value.ref a := rx
  exact d_notIn hu I g ry fun s' I' => ⟨.bl (!o.isSome), H, I', rfl, q⟩
@[reducible] def rInA (K : PySem.W.Frag) : R2 := fun x y H Q => ((∃ i j, x = .str i ∧ y = .str j ∧ Q (.bl (!(Builtin.Str.occurrences j i 0 j.length 1).isEmpty)) H) ∨ rInD K x y H Q) ∨ (rInTD K x y H Q ∨ ∃ a o, y = .ref a ∧ DGet H a x o ∧ Q (.bl o.isSome) H)
@[reducible] def rNotInA (K : PySem.W.Frag) : R2 := fun x y H Q => ((∃ i j, x = .str i ∧ y = .str j ∧ Q (.bl (!(!(Builtin.Str.occurrences j i 0 j.length 1).isEmpty))) H) ∨ rNotInD K x y H Q) ∨ (rNotInTD K x y H Q ∨ ∃ a o, y = .ref a ∧ DGet H a x o ∧ Q (.bl (!o.isSome)) H)
theorem Rel.dget {b : Bs} {F : Addr → Prop} {c : List Addr} {env : EnvD} {st : Sto} {σ : L2.St} {H : Hp} (r : Rel b F c env st σ H) {v : V} {n : Nat} {kvs : List (Key × D)} (h : Rp b.K b.mg F c H v (.ref n)) (e : st[n]? = some (.dct kvs)) (k : Key) :
    ∃ a vk, v = .ref a ∧ c[n]? = some a ∧ H a = some (.dK vk) ∧ vk.map (·.1) = kvs.map (·.1) ∧ Rps b.K b.mg F c H (vk.map (·.2)) (kvs.map (·.2)) := by
  obtain ⟨a, rfl, hc, vk, h1, h2, h3⟩ := r.cell h e
  exact ⟨a, vk, rfl, hc, h1, h2, h3⟩
theorem ok_inA : OpOk X W (rInA X.K) (inA false) := fun b F c env st σ H x y dx dy Q e1 e2 r hx hy p => by
  have gen : Post b W F c σ H (fun d _ _ F' c' H' => ∀ v, Rp b.K b.mg F' c' H' v d → Q v H') (sv2 (inV false) dx dy env st) → rInA X.K x y H Q := fun p => by
    unfold sv2 ret at p
    split at p
    · rename_i d e
      have h1 := r.lv hx
      have h2 := r.lv hy
      unfold inV ng at e
      split at e
      · rename_i i j ei ej
        rw [ei] at h1; rw [ej] at h2
        cases h1; cases h2; cases e
        exact .inl (.inl ⟨_, _, rfl, rfl, Post.here r p _ (.bl _)⟩)
      · rename_i x2 ys nx ex ey
        split at e
        · rename_i h
          rw [Bool.and_eq_true] at h
          cases e
          rw [ey] at h2
          have k2 := LV.dp h2 h.2
          have k3 := shaped_of (by decide) h.2
          simp only [toPy] at k2 k3
          rw [e1] at h1 k2
          exact .inl (.inr ⟨_, _, h1.dp h.1, k2, shaped_of (by decide) h.1, k3, Post.here r p _ (by rw [any_toPys]; exact .bl _)⟩)
        · cases e
      · rename_i x2 ys nx ex ey
        split at e
        · rename_i h
          rw [Bool.and_eq_true] at h
          cases e
          rw [ey] at h2
          have k2 := LV.dp h2 h.2
          have k3 := shaped_of (by decide) h.2
          simp only [toPy] at k2 k3
          rw [e1] at h1 k2
          exact .inr (.inl ⟨_, _, h1.dp h.1, k2, shaped_of (by decide) h.1, k3, Post.here r p _ (by rw [any_toPys]; exact .bl _)⟩)
        · cases e
      · cases e
    · exact p.elim
  unfold inA at p
  split at p
  · rename_i n
    split at p
    · rename_i kvs es
      split at p
      · cases hx
        obtain ⟨a, vk, rfl, hc, h1, h2, h3⟩ := r.dget hy es (.inl 0)
        exact .inr (.inr ⟨a, _, rfl, DGet.k (k := .inl _) h1, by rw [valV_has h2]; exact Post.here r p _ (.bl _)⟩)
      · cases hx
        obtain ⟨a, vk, rfl, hc, h1, h2, h3⟩ := r.dget hy es (.inl 0)
        exact .inr (.inr ⟨a, _, rfl, DGet.k (k := .inr _) h1, by rw [valV_has h2]; exact Post.here r p _ (.bl _)⟩)
      · exact p.elim
    · exact gen p
  · exact gen p
theorem ok_notinA : OpOk X W (rNotInA X.K) (inA true) := fun b F c env st σ H x y dx dy Q e1 e2 r hx hy p => by
  have gen : Post b W F c σ H (fun d _ _ F' c' H' => ∀ v, Rp b.K b.mg F' c' H' v d → Q v H') (sv2 (inV true) dx dy env st) → rNotInA X.K x y H Q := fun p => by
    unfold sv2 ret at p
    split at p
    · rename_i d e
      have h1 := r.lv hx
      have h2 := r.lv hy
      unfold inV ng at e
      split at e
      · rename_i i j ei ej
        rw [ei] at h1; rw [ej] at h2
        cases h1; cases h2; cases e
        exact .inl (.inl ⟨_, _, rfl, rfl, Post.here r p _ (.bl _)⟩)
      · rename_i x2 ys nx ex ey
        split at e
        · rename_i h
          rw [Bool.and_eq_true] at h
          cases e
          rw [ey] at h2
          have k2 := LV.dp h2 h.2
          have k3 := shaped_of (by decide) h.2
          simp only [toPy] at k2 k3
          rw [e1] at h1 k2
          exact .inl (.inr ⟨_, _, h1.dp h.1, k2, shaped_of (by decide) h.1, k3, Post.here r p _ (by rw [any_toPys]; exact .bl _)⟩)
        · cases e
      · rename_i x2 ys nx ex ey
        split at e
        · rename_i h
          rw [Bool.and_eq_true] at h
          cases e
          rw [ey] at h2
          have k2 := LV.dp h2 h.2
          have k3 := shaped_of (by decide) h.2
          simp only [toPy] at k2 k3
          rw [e1] at h1 k2
          exact .inr (.inl ⟨_, _, h1.dp h.1, k2, shaped_of (by decide) h.1, k3, Post.here r p _ (by rw [any_toPys]; exact .bl _)⟩)
        · cases e
      · cases e
    · exact p.elim
  unfold inA at p
  split at p
  · rename_i n
    split at p
    · rename_i kvs es
      split at p
      · cases hx
        obtain ⟨a, vk, rfl, hc, h1, h2, h3⟩ := r.dget hy es (.inl 0)
        exact .inr (.inr ⟨a, _, rfl, DGet.k (k := .inl _) h1, by rw [valV_has h2]; exact Post.here r p _ (.bl _)⟩)
      · cases hx
        obtain ⟨a, vk, rfl, hc, h1, h2, h3⟩ := r.dget hy es (.inl 0)
        exact .inr (.inr ⟨a, _, rfl, DGet.k (k := .inr _) h1, by rw [valV_has h2]; exact Post.here r p _ (.bl _)⟩)
      · exact p.elim
    · exact gen p
  · exact gen p
theorem op_inAll (hu : X.A.units + 65 < cLine) : OpR X (compareOp .In) (rInA X.K) := OpR.or (op_inR hu) (OpR.or (op_inTD hu) (op_inDt (by omega)))
theorem op_notinAll (hu : X.A.units + 65 < cLine) : OpR X (compareOp .NotIn) (rNotInA X.K) := OpR.or (op_notinR hu) (OpR.or (op_notInTD hu) (op_notinDt (by omega)))
theorem ve_inA (hr : Room k X.A) (ha : VE X W e fa) (hb : VE X W a fb) (hm : behindInMarks .In a = false := by rfl) : VE X W (.Compare e [.In] [a] pos) (eBin (inA false) fa fb) := ve_cmp (op_inAll (huOf1 hr)) ok_inA ha hb hm
theorem vt_inA (hr : Room k X.A) (ha : VE X W e fa) (hb : VE X W a fb) (hm : behindInMarks .In a = false := by rfl) : VT X W (.Compare e [.In] [a] pos) (eT (eBin (inA false) fa fb)) := vt_cmp (op_inAll (huOf1 hr)) ok_inA ha hb hm
theorem vt_notinA (hr : Room k X.A) (ha : VE X W e fa) (hb : VE X W a fb) (hm : behindInMarks .NotIn a = false := by rfl) : VT X W (.Compare e [.NotIn] [a] pos) (eT (eBin (inA true) fa fb)) := vt_cmp (op_notinAll (huOf1 hr)) ok_notinA ha hb hm
def ordA (p : Int → Int → Bool) (q : Str → Str → Bool) : D → D → Option D
  | .int i, .int j => some (.bl (p i j))
  | .str x, .str y => some (.bl (q x y))
  | _, _ => none
@[reducible] def gLtA : D → D → M D := sc2 (ordA (fun i j => decide (i < j)) fun x y => ltS x y)
@[reducible] def gLeA : D → D → M D := sc2 (ordA (fun i j => decide (i ≤ j)) fun x y => !ltS y x)
@[reducible] def gGtA : D → D → M D := sc2 (ordA (fun i j => decide (j < i)) fun x y => ltS y x)
@[reducible] def gGeA : D → D → M D := sc2 (ordA (fun i j => decide (j ≤ i)) fun x y => !ltS x y)
@[reducible] def rOrd (p : Int → Int → Bool) (q : Str → Str → Bool) : R2 := fun x y H Q => rI0 (fun i j => .bl (p i j)) x y H Q ∨ ∃ i j, x = .str i ∧ y = .str j ∧ Q (.bl (q i j)) H
theorem ok_ord (p : Int → Int → Bool) (q : Str → Str → Bool) : OpOk X W (rOrd p q) (sc2 (ordA p q)) := opOk_sc fun F c H x y dx dy d Q hx hy e qq => by
  unfold ordA at e
  split at e
  · cases hx; cases hy; cases e; exact .inl ⟨_, _, rfl, rfl, qq _ (.bl _)⟩
  · cases hx; cases hy; cases e; exact .inr ⟨_, _, rfl, rfl, qq _ (.bl _)⟩
  · cases e
theorem op_ltAll : OpR X (compareOp .Lt) (rOrd (fun i j => decide (i < j)) fun x y => ltS x y) := OpR.or op_lt op_lt_str
theorem op_leAll : OpR X (compareOp .LtE) (rOrd (fun i j => decide (i ≤ j)) fun x y => !ltS y x) := OpR.or op_le op_le_str
theorem op_gtAll : OpR X (compareOp .Gt) (rOrd (fun i j => decide (j < i)) fun x y => ltS y x) := OpR.or op_gt op_gt_str
theorem op_geAll : OpR X (compareOp .GtE) (rOrd (fun i j => decide (j ≤ i)) fun x y => !ltS x y) := OpR.or op_ge op_ge_str
theorem ve_oLt (ha : VE X W e fa) (hb : VE X W a fb) : VE X W (.Compare e [.Lt] [a] pos) (eBin gLtA fa fb) := ve_cmp op_ltAll (ok_ord _ _) ha hb (nomark _)
theorem vt_oLe (ha : VE X W e fa) (hb : VE X W a fb) : VT X W (.Compare e [.LtE] [a] pos) (eT (eBin gLeA fa fb)) := vt_cmp op_leAll (ok_ord _ _) ha hb (nomark _)
theorem vt_oGt (ha : VE X W e fa) (hb : VE X W a fb) : VT X W (.Compare e [.Gt] [a] pos) (eT (eBin gGtA fa fb)) := vt_cmp op_gtAll (ok_ord _ _) ha hb (nomark _)
theorem vt_oGe (ha : VE X W e fa) (hb : VE X W a fb) : VT X W (.Compare e [.GtE] [a] pos) (eT (eBin gGeA fa fb)) := vt_cmp op_geAll (ok_ord _ _) ha hb (nomark _)
theorem PI.or {tg l : Expr} {w1 w2 : TI} (h : PI X tg l w1) (h2 : PI X tg l w2) : PI X tg l (fun σ H R => w1 σ H R ∨ w2 σ H R) := ⟨fun pins s σ H R I q => q.elim (h.run pins s σ H R I) (h2.run pins s σ H R I)⟩
def walkD (st : Sto) : D → Option (List D)
  | .lst xs => some xs
  | .tup xs => some xs
  | .scr xs => some (xs.map .int)
  | .str x => some (signsD x)
  | _ => none
def iQ (fa : M D) : M (List D) := fun env st => (fa env st).bind fun d env st => match walkD st d with
  | some xs => .ok xs env st
  | none => .bad
theorem walks_scr {b : Bs} {F : Addr → Prop} {c : List Addr} {H : Hp} {a : Addr} {ns : List Int} (hx : FqL b.K F H a (ns.map V.int)) : Walks b (Itl b.K a) (ns.map .int) F c H := by
  intro F' c' H' s i
  have h' := (hx.stp s).sq
  refine ⟨fun d hd => ?_, fun hi => ⟨_, h', by simpa using hi⟩⟩
  rw [List.getElem?_map] at hd
  cases hn : ns[i]? with
  | none => rw [hn] at hd; cases hd
  | some n =>
    rw [hn] at hd; cases hd
    have hv : (ns.map V.int)[i]? = some (.int n) := by rw [List.getElem?_map, hn]; rfl
    refine ⟨⟨_, _, h', hv⟩, fun x H2 y => ?_⟩
    obtain ⟨rfl, y⟩ := y
    have e := y _ h'
    rw [hv] at e; cases e
    exact .inl ⟨rfl, .int _⟩
theorem vi_q {tg iter : Expr} (h : VE X W iter fa) : VI X W tg iter (iQ fa) := ⟨_, PI.or (pi_list h) (PI.or (pi_tup h) (pi_str h)), fun σ H R ⟨b, F, c, env, st, e1, e2, r, p⟩ => by
  have key : ∀ {w : TI}, (∀ v d env1 st1 F1 c1 H1, Rel b F1 c1 env1 st1 σ H1 → Rp b.K b.mg F1 c1 H1 v d → True) → True := fun _ => trivial
  unfold iQ at p
  cases hf : fa env st with
  | bad => rw [hf] at p; exact p.elim
  | ex x env1 st1 =>
    rw [hf] at p
    exact .inl ⟨b, F, c, env, st, e1, e2, r, by rw [hf]; exact p⟩
  | ok d env1 st1 =>
    rw [hf] at p
    simp only [VE.R.bind_ok] at p
    cases d with
    | lst xs => exact .inl ⟨b, F, c, env, st, e1, e2, r, by
        rw [hf]
        intro F1 c1 H1 s1 r1 v rp
        cases rp with
        | lst f hx hr => exact ⟨_, rfl, ⟨_, SqL.of hx⟩, p F1 c1 H1 s1 r1 _ (e1 ▸ walks_list f hx hr)⟩⟩
    | scr xs => exact .inl ⟨b, F, c, env, st, e1, e2, r, by
        rw [hf]
        intro F1 c1 H1 s1 r1 v rp
        cases rp with
        | scr hx => exact ⟨_, rfl, ⟨_, e1 ▸ hx.sq⟩, p F1 c1 H1 s1 r1 _ (e1 ▸ walks_scr hx)⟩⟩
    | tup xs => exact .inr (.inl ⟨b, F, c, env, st, e1, e2, r, by
        rw [hf]
        intro F1 c1 H1 s1 r1 v rp
        cases rp with
        | tup hx hr => exact ⟨_, rfl, ⟨_, e1 ▸ hx.sq⟩, p F1 c1 H1 s1 r1 _ (e1 ▸ walks_tup hx hr)⟩⟩)
    | str x => exact .inr (.inr ⟨b, F, c, env, st, e1, e2, r, by
        rw [hf]
        intro F1 c1 H1 s1 r1 v rp
        cases rp with
        | str x => exact ⟨_, rfl, p F1 c1 H1 s1 r1 _ walks_str⟩⟩)
    | _ => exact p.elim⟩
end
end VE
namespace VE
open PySem PySem.Spec PyProof.Rows L2
variable [VEnv]
def lkK (k : Key) : List (Key × D) → Option D
  | [] => none
  | (j, d) :: r => if j = k then some d else lkK k r
def chK (k : Key) (y : D) : List (Key × D) → List (Key × D)
  | [] => []
  | (j, d) :: r => (if j = k then (j, y) else (j, d)) :: chK k y r
/-- d[k] = y -/
def ptK (kvs : List (Key × D)) (k : Key) (y : D) : List (Key × D) := if hasD k kvs then chK k y kvs else kvs ++ [(k, y)]
def dKey : D → Option Key
  | .int i => some (.inl i)
  | .str x => some (.inr x)
  | _ => none
section
variable {K : PySem.W.Frag} {mg : Str → Option Value} {F : Addr → Prop} {c : List Addr} {H : Hp} {k : Key}
theorem valV_lk : ∀ {vk : List (Key × V)} {kvs : List (Key × D)}, vk.map (·.1) = kvs.map (·.1) → Rps K mg F c H (vk.map (·.2)) (kvs.map (·.2)) → (∀ d, lkK k kvs = some d → ∃ v, valV vk k = some v ∧ Rp K mg F c H v d) ∧ (lkK k kvs = none → valV vk k = none)
  | [], [], _, _ => ⟨(fun d h => by simp [lkK] at h), fun _ => rfl⟩
  | (j, v) :: vk, (j', d) :: kvs, h, r => by
    simp only [List.map_cons, List.cons.injEq] at h
    obtain ⟨rfl, h⟩ := h
    cases r with
    | cons r1 r2 =>
      obtain ⟨k1, k2⟩ := valV_lk h r2
      unfold lkK
      by_cases e : j = k
      · rw [if_pos e, valV_pos (p := (j, v)) e]
        exact ⟨fun d' z => by cases z; exact ⟨v, rfl, r1⟩, fun z => by cases z⟩
      · rw [if_neg e, valV_neg (p := (j, v)) e]
        exact ⟨k1, k2⟩
  | [], _ :: _, h, _ => by simp at h
  | _ :: _, [], h, _ => by simp at h
theorem any_has : ∀ {vk : List (Key × V)} {kvs : List (Key × D)}, vk.map (·.1) = kvs.map (·.1) → (vk.any fun kv => decide (kv.1 = k)) = hasD k kvs := fun {vk kvs} h => by rw [valV_any, valV_has h]
theorem map_ch (y : V) (d : D) : ∀ {vk : List (Key × V)} {kvs : List (Key × D)}, vk.map (·.1) = kvs.map (·.1) → (vk.map fun kv => if kv.1 = k then (kv.1, y) else kv).map (·.1) = (chK k d kvs).map (·.1)
  | [], [], _ => rfl
  | (j, v) :: vk, (j', d') :: kvs, h => by
    simp only [List.map_cons, List.cons.injEq] at h
    obtain ⟨rfl, h⟩ := h
    have := map_ch y d h
    simp only [chK, List.map_cons]
    rw [this]
    by_cases e : j = k
    · rw [if_pos e, if_pos e]
    · rw [if_neg e, if_neg e]
  | [], _ :: _, h => by simp at h
  | _ :: _, [], h => by simp at h
theorem map_ch2 {y : V} {d : D} (hy : Rp K mg F c H y d) : ∀ {vk : List (Key × V)} {kvs : List (Key × D)}, vk.map (·.1) = kvs.map (·.1) → Rps K mg F c H (vk.map (·.2)) (kvs.map (·.2)) → Rps K mg F c H ((vk.map fun kv => if kv.1 = k then (kv.1, y) else kv).map (·.2)) ((chK k d kvs).map (·.2))
  | [], [], _, _ => .nil
  | (j, v) :: vk, (j', d') :: kvs, h, r => by
    simp only [List.map_cons, List.cons.injEq] at h
    obtain ⟨rfl, h⟩ := h
    cases r with
    | cons r1 r2 =>
      have := map_ch2 hy h r2
      simp only [chK, List.map_cons]
      by_cases e : j = k
      · rw [if_pos e, if_pos e]; exact .cons hy this
      · rw [if_neg e, if_neg e]; exact .cons r1 this
  | [], _ :: _, h, _ => by simp at h
  | _ :: _, [], h, _ => by simp at h
theorem put_pt {y : V} {d : D} {vk : List (Key × V)} {kvs : List (Key × D)} (h : vk.map (·.1) = kvs.map (·.1)) : (putK vk k y).map (·.1) = (ptK kvs k d).map (·.1) := by
  unfold putK ptK
  rw [any_has h]
  split
  · exact map_ch y d h
  · rw [List.map_append, List.map_append, h]; rfl
theorem put_pt2 {y : V} {d : D} (hy : Rp K mg F c H y d) {vk : List (Key × V)} {kvs : List (Key × D)} (h : vk.map (·.1) = kvs.map (·.1)) (r : Rps K mg F c H (vk.map (·.2)) (kvs.map (·.2))) : Rps K mg F c H ((putK vk k y).map (·.2)) ((ptK kvs k d).map (·.2)) := by
  unfold putK ptK
  rw [any_has h]
  split
  · exact map_ch2 hy h r
  · rw [List.map_append, List.map_append]; exact r.append (.cons hy .nil)
theorem len_kv {vk : List (Key × V)} {kvs : List (Key × D)} (h : vk.map (·.1) = kvs.map (·.1)) : vk.length = kvs.length := by simpa using congrArg List.length h
theorem dKey_of {v : V} {d : D} (h : Rp K mg F c H v d) (e : dKey d = some k) : v = kV k := by
  cases h <;> simp [dKey] at e <;> subst e <;> rfl
end
section
variable {X : Cx} {W : WX} {e a o d : Expr} {es : List Expr} {pos p pos' : Pos} {fa fb fo fi : M D} {fs : M (List D)} {x : Str} {k : Nat}
def eCellL (fs : M (List D)) : M D := fun env st => (fs env st).bind fun ds env st => if ds.length ≤ 16777216 then .ok (.ref st.length) env (st ++ [.lst ds]) else .bad
theorem ve_cellL (h : VA X W es fs) : VE X W (.List es pos) (eCellL fs) := PEof (pe_lst h) fun σ H Q ⟨b, F, c, env, st, e1, e2, r0, h⟩ =>
  tA_at e1 e2 r0 h fun vs ds env1 st1 F1 c1 H1 s1 r1 rp1 p1 => by
    split at p1
    · rename_i hl
      refine ⟨by rw [rp1.length, sizeLine_eq]; exact hl, fun q hq => ?_⟩
      obtain ⟨s2, r2, rp⟩ := r1.cellNew (x := .lst ds) hq fun s => ⟨vs, upd_same, rp1.stp s⟩
      exact p1 _ _ _ s2 r2 _ rp
    · exact p1.elim
def eCellD : M D := fun env st => .ok (.ref st.length) env (st ++ [.dct []])
theorem ve_cellD : VE X W (.Dict [] [] pos) eCellD := PEof pe_dnewK fun σ H Q ⟨b, F, c, env, st, e1, e2, r0, h⟩ q hq => by
  obtain ⟨s2, r2, rp⟩ := r0.cellNew (x := .dct []) (o := .dK []) hq fun s => ⟨[], upd_same, rfl, .nil⟩
  exact h _ _ _ s2 r2 _ rp
def ixA : D → D → M D := fun x y env st => match x with
  | .ref n => (match st[n]? with
    | some (.dct kvs) => (match dKey y with
      | some ky => ret (lkK ky kvs) env st
      | none => .bad)
    | _ => ixC (.ref n) y env st)
  | x => ixC x y env st
theorem subTail {prog : Program} {w : World} {A : Around} {E : Value → Shared → Prop} {s : Shared} {value slice : Expr} {v u : Value} {T id : String} {Q : Value → Shared → Prop} (hT : s.TypeIs v T) (hl : typeLookup (.type T) "__getitem__" = pure (some (.builtin id)))
    (h : wpAny (model prog w) A (getItem v u) Q E s) (hs : subscripted slice false v u = operate [v, u] (getItem v u)) : wpAny (model prog w) A (subscriptTail value slice v u) Q E s := by
  unfold subscriptTail
  refine wpAny_bind ?_
  rw [getitemInPython_of_ne hT.not_modules]
  refine wpAny_bind (wpAny_specialOf hT hl ?_)
  have fin : wpAny (model prog w) A (subscripted slice false v u) (fun r s₃ => wpAny (model prog w) A (letTemporaryGo value v r >>= fun _ => pure r) Q E s₃) E s := by
    rw [hs]
    exact wpAny_operating (wpAny_mono h (fun r s₃ h₃ => wpAny_bind (wpAny_letTemporaryGo (wpAny_pure h₃))) fun _ _ x => x)
  first
    | exact wpAny_pure (wpAny_bind fin)
    | exact wpAny_bind (wpAny_pure (wpAny_bind fin))
    | exact wpAny_pure fin
theorem ix_dict (hu : X.A.units + 1 < cLine) : IxR X (fun x y H Q => ∃ a v, x = .ref a ∧ DGet H a y (some v) ∧ Q v H) := by
  intro value slice pins s σ H x y v u Q I rx ry ⟨a, w, ex, g, q⟩ hs
  subst ex
  obtain rfl : v = Value.ref a := rx
  exact subTail (dict_typeIs I g) PySem.F.slot_dict_getitem.lookup (d_getItem hu I g ry fun w' s' I' rw' => ⟨w, H, I', rw', q⟩) hs
theorem ok_ixA : OpOk X W (fun x y H Q => rIx X.K x y H Q ∨ ∃ a v, x = .ref a ∧ DGet H a y (some v) ∧ Q v H) ixA := fun b F c env st σ H x y dx dy Q e1 e2 r hx hy p => by
  unfold ixA at p
  split at p
  · rename_i n
    split at p
    · rename_i kvs es
      split at p
      · rename_i ky eky
        unfold ret at p
        split at p
        · rename_i d ed
          obtain ⟨a, vk, rfl, hc, h1, h2, h3⟩ := r.dget hx es ky
          obtain ⟨v, hv, rp⟩ := (valV_lk h2 h3).1 d ed
          rw [dKey_of hy eky]
          exact .inr ⟨a, v, rfl, by rw [← hv]; exact DGet.k h1, Post.here r p v rp⟩
        · exact p.elim
      · exact p.elim
    · exact .inl (ok_ixC b F c env st σ H x y _ _ Q e1 e2 r hx hy p)
  · exact .inl (ok_ixC b F c env st σ H x y _ _ Q e1 e2 r hx hy p)
theorem ve_ixA (hr : Room k X.A) (ha : VE X W e fa) (hb : VE X W a fb) (hs : PlainIx a := by exact fun _ _ => rfl) : VE X W (.Subscript e a pos) (eBin ixA fa fb) := PEof (pe_ix (IxR.or ix_seq (ix_dict (by have := hr.un; omega))) ha hb hs) (tOp_of ok_ixA)
def sItemA (fo fi fe : M D) : M Fl := fun env st => (fe env st).bind fun d env st => (fo env st).bind fun r env st => (fi env st).bind fun k env st => match r with
  | .ref n => (match st[n]? with
    | some (.lst ds) => (match k with
      | .int k => (match ixN ds.length k with
        | some j => .ok .nx env (st.set n (.lst (ds.set j d)))
        | none => .bad)
      | _ => .bad)
    | some (.dct kvs) => (match dKey k with
      | some ky => if kvs.length < 16777216 then .ok .nx env (st.set n (.dct (ptK kvs ky d))) else .bad
      | none => .bad)
    | _ => .bad)
  | _ => .bad
theorem set_dict (hu : X.A.units + 1 < cLine) : PSet X (fun o i v H Q => ∃ a H4, o = .ref a ∧ DPut H a i v H4 ∧ Q H4) := by
  intro pins s σ H o i v ov iv u Q I ro ri rv ⟨a, H4, eo, g, q⟩
  subst eo
  obtain rfl : ov = Value.ref a := ro
  exact d_setItem hu I g ri rv fun s' I' => ⟨H4, I', q⟩
theorem PSet.or {t1 t2 : TSet} (h : PSet X t1) (h2 : PSet X t2) : PSet X (fun o i v H Q => t1 o i v H Q ∨ t2 o i v H Q) := fun pins s σ H o i v ov iv u Q I ro ri rv q => q.elim (h pins s σ H o i v ov iv u Q I ro ri rv) (h2 pins s σ H o i v ov iv u Q I ro ri rv)
theorem vs_itemA {tp : Pos} {fe : M D} (hr : Room k X.A) (he : VE X W e fe) (ho : VE X W o fo) (hi : VE X W a fi) (ha : ∀ v, assign (.Subscript o a tp) X.env v = (do
      let ov ← holding [v] (eval o X.env)
      let iv ← holding [v, ov] (eval a X.env)
      standAt tp
      holding [v, ov, iv] (setItem ov iv v)
      release [v, ov, iv] []) := by intro _; rfl)
    (hs : swapsWithSole [.Subscript o a tp] e pos.line X.env = pure false := by rfl) (hw : swappedStores [.Subscript o a tp] e X.env = pure none := by rfl)
    (h1 : (assignEach [.Subscript o a tp] X.env).map (·.2) = [assign (.Subscript o a tp) X.env] := by rfl) : VS X W (.Assign [.Subscript o a tp] e pos) (sItemA fo fi fe) := PSof (ps_asg he (pg_sub ho hi (PSet.or set_list (set_dict (by have := hr.un; omega))) ha) hs hw h1) fun D₀ σ H ⟨b, F, c, env, st, e1, e2, r, p⟩ =>
  sE_at e1 e2 r p fun v d env1 st1 F1 c1 H1 s1 r1 rp1 p1 => sE_at e1 e2 r1 p1 fun u r_ env2 st2 F2 c2 H2 s2 r2 rp2 p2 => sE_at e1 e2 r2 p2 fun w k env3 st3 F3 c3 H3 s3 r3 rp3 p3 => by
    split at p3
    · rename_i n
      have rp2' := rp2.stp s3
      split at p3
      · rename_i ds es
        split at p3
        · rename_i k
          split at p3
          · rename_i j ej
            obtain ⟨q, rfl, hc, vs, hq, rps⟩ := r3.cell rp2' es
            cases rp3
            refine .inl ⟨q, vs, k, j, rfl, rfl, hq, by rw [rps.length]; exact ej, ?_⟩
            obtain ⟨s4, r4⟩ := r3.cellUpd (o := .lst (vs.set j v)) (x := .lst (ds.set j d)) hc fun s => ⟨_, upd_same, Rps.set ((rp1.stp (s2.trans s3)).stp s) j (rps.stp s)⟩
            exact PostS.here (P := fun fl _ _ F c σ H => FlOk b D₀ F c σ H fl) r4 (p3.stp s4)
          · exact p3.elim
        · exact p3.elim
      · rename_i kvs es
        split at p3
        · rename_i ky eky
          split at p3
          · rename_i hl
            obtain ⟨q, vk, rfl, hc, h1, h2, h3⟩ := r3.dget rp2' es ky
            rw [dKey_of rp3 eky]
            refine .inr ⟨q, _, rfl, DPut.k h1 (by rw [len_kv h2, sizeLine_eq]; exact hl), ?_⟩
            obtain ⟨s4, r4⟩ := r3.cellUpd (o := .dK (putK vk ky v)) (x := .dct (ptK kvs ky d)) hc fun s => ⟨_, upd_same, put_pt h2, put_pt2 ((rp1.stp (s2.trans s3)).stp s) h2 (h3.stp s)⟩
            exact PostS.here (P := fun fl _ _ F c σ H => FlOk b D₀ F c σ H fl) r4 (p3.stp s4)
          · exact p3.elim
        · exact p3.elim
      · exact p3.elim
    · exact p3.elim
/-- o.append(e), o a list of the store -/
def sAppC (g : List D → D → Option (List D)) (fo fa : M D) : M Fl := fun env st => (fo env st).bind fun r env st => match r with
  | .ref n => (match st[n]? with
    | some (.lst _) => (fa env st).bind fun d env st => (match st[n]? with
      | some (.lst ds) => (match g ds d with
        | some es => .ok .nx env (st.set n (.lst es))
        | none => .bad)
      | _ => .bad)
    | _ => .bad)
  | _ => .bad
theorem vs_appC {apos p2 : Pos} (ho : VE X W o fo) (ha : VE X W a fa) (hbase : attributeBase o "append" X.env (eval o X.env) = eval o X.env := by rfl)
    (hfew : ((backTo p2 (starEach [a] X.env)).all (fun x => !x.1) && (backToKw p2 (keywordEach [] X.env)).all (fun x => x.1.isSome)
      && decide (([a] : List Expr).length + ([] : List Keyword).length + (if ([] : List Keyword).isEmpty then 0 else 1) < 30)) = true := by rfl)
    (hline : (apos.endLine == p2.line) = true := by rfl) (hs : starEach [a] X.env = (false, eval a X.env) :: starEach [] X.env := by rfl) (hplain : (backTo p2 (starEach [] X.env)).any (·.1) = false := by rfl)
    (hsw : swapsWith (.Call (.Attribute o "append" apos) [a] [] p2) none pos.line X.env = pure false := by rfl) : VS X W (.Expr (.Call (.Attribute o "append" apos) [a] [] p2) pos) (sAppC appD fo fa) :=
  PSof (ps_expr (pe_bm PySem.F.plainAttrs_list PySem.F.slot_list_append PySem.F.type_list_append mt_append ho (pa_cons ha pa_nil hs) hbase hfew hline hs hplain) hsw) fun D₀ σ H ⟨b, F, c, env, st, e1, e2, r0, p⟩ =>
  sE_at e1 e2 r0 p fun u r_ env1 st1 F1 c1 H1 s1 r1 rp1 p1 => by
    split at p1
    · rename_i n
      split at p1
      · rename_i ds0 es0
        obtain ⟨q, rfl, hc, vs0, hq0, rps0⟩ := r1.cell rp1 es0
        refine ⟨.inl ⟨rfl, _, SqL.of hq0⟩, sE_at e1 e2 r1 p1 fun v d env2 st2 F2 c2 H2 s2 r2 rp2 p2 => ?_⟩
        split at p2
        · rename_i ds es
          obtain ⟨q', eq', hc', vs, hq, rps⟩ := r2.cell (rp1.stp s2) es
          cases eq'
          split at p2
          · rename_i ys hys
            unfold appD at hys
            split at hys
            · rename_i hl
              cases hys
              refine ⟨q, vs, v, rfl, rfl, hq, by rw [rps.length, sizeLine_eq]; exact hl, ?_⟩
              obtain ⟨s4, r4⟩ := r2.cellUpd (o := .lst (vs ++ [v])) (x := .lst (ds ++ [d])) hc' fun s => ⟨_, upd_same, (rps.stp s).append (.cons (rp2.stp s) .nil)⟩
              exact PostS.here (P := fun fl _ _ F c σ H => FlOk b D₀ F c σ H fl) r4 (p2.stp s4)
            · cases hys
          · exact p2.elim
        · exact p2.elim
      · exact p1.elim
    · exact p1.elim
/-- o.setdefault(k, d) -/
def eSetd (fo fi fd : M D) : M D := fun env st => (fo env st).bind fun r env st => match r with
  | .ref n => (match st[n]? with
    | some (.dct _) => (fi env st).bind fun k env st => (fd env st).bind fun d env st => (match st[n]?, dKey k with
      | some (.dct kvs), some ky => if kvs.length < 16777216 then (match lkK ky kvs with
        | some x => .ok x env st
        | none => .ok d env (st.set n (.dct (ptK kvs ky d)))) else .bad
      | _, _ => .bad)
    | _ => .bad)
  | _ => .bad
theorem ve_setd {apos : Pos} {fd : M D} (ho : VE X W o fo) (hi : VE X W a fi) (hd : VE X W d fd) (m : M2 X o "setdefault" apos a d pos := by exact ⟨rfl, rfl, rfl, rfl⟩) : VE X W (.Call (.Attribute o "setdefault" apos) [a, d] [] pos) (eSetd fo fi fd) :=
  PEof (pe_dsetd ho hi hd m) fun σ H Q ⟨b, F, c, env, st, e1, e2, r, p⟩ => tE_at e1 e2 r p fun u r_ env1 st1 F1 c1 H1 s1 r1 rp1 p1 => by
    split at p1
    · rename_i n
      split at p1
      · rename_i kv0 es0
        obtain ⟨q, vk0, rfl, hc, h10, h20, h30⟩ := r1.dget rp1 es0 (.inl 0)
        refine ⟨q, rfl, .inl ⟨_, .inl h10⟩, tE_at e1 e2 r1 p1 fun w k env2 st2 F2 c2 H2 s2 r2 rp2 p2 => tE_at e1 e2 r2 p2 fun z d env3 st3 F3 c3 H3 s3 r3 rp3 p3 => ?_⟩
        split at p3
        · rename_i kvs ky es eky
          obtain ⟨q', vk, eq', hc', h1, h2, h3⟩ := r3.dget (rp1.stp (s2.trans s3)) es ky
          cases eq'
          have ew := dKey_of rp2 eky
          subst ew
          obtain ⟨k1, k2⟩ := valV_lk (k := ky) h2 h3
          split at p3
          · rename_i hlen
            have hz : vk.length < sizeLine := by rw [len_kv h2, sizeLine_eq]; exact hlen
            cases hl : lkK ky kvs with
            | none =>
              simp only [hl] at p3
              refine ⟨vk, ky, h1, rfl, hz, (fun v hv => by rw [k2 hl] at hv; cases hv), fun _ => ?_⟩
              obtain ⟨s4, r4⟩ := r3.cellUpd (o := .dK (putK vk ky z)) (x := .dct (ptK kvs ky d)) hc' fun s => ⟨_, upd_same, put_pt h2, put_pt2 (rp3.stp s) h2 (h3.stp s)⟩
              exact Post.here r4 (Post.stp s4 p3) _ (rp3.stp s4)
            | some dd =>
              simp only [hl] at p3
              obtain ⟨v, hv, rp⟩ := k1 dd hl
              refine ⟨vk, ky, h1, rfl, hz, (fun v' hv' => ?_), fun hn => by rw [hv] at hn; cases hn⟩
              rw [hv] at hv'; cases hv'
              exact Post.here r3 p3 _ rp
          · exact p3.elim
        · exact p3.elim
      · exact p1.elim
    · exact p1.elim
end
end VE
namespace VE
open PySem PySem.Spec PyProof.Rows L2
variable [VEnv]
section
variable {X : Cx} {W : WX} {e a o d : Expr} {es : List Expr} {pos p pos' : Pos} {fa fb fo fi : M D} {fs : M (List D)} {x : Str} {k : Nat}
def eB1 (g : D → Option D) (fa : M D) : M D := fun env st => (fa env st).bind fun d env st => ret (g (vw st d)) env st
def C1Ok (X : Cx) (r : List V → Hp → VK → Prop) (g : D → Option D) : Prop := ∀ (F : Addr → Prop) (c : List Addr) (H : Hp) (x : V) (dx d : D) (Q : VK), LV X.K X.mg F c H x dx → g dx = some d → (∀ v, Rp X.K X.mg F c H v d → Q v H) →
    (∀ p o, H p = none → (∀ ps, o ≠ .tbl ps) → (∀ F' : Addr → Prop, Stp F c H F' c (upd H p o) → Rp X.K X.mg (FAdd F' p) c (upd H p o) (.ref p) d) → Q (.ref p) (upd H p o)) → r [x] H Q
theorem tB1_of {r : List V → Hp → VK → Prop} {g : D → Option D} (h : C1Ok X r g) : ∀ σ H Q, tE X W (eB1 g fa) σ H Q → tCB r (tCons (tE X W fa) tNil) σ H Q := fun σ H Q ⟨b, F, c, env, st, e1, e2, r0, p⟩ =>
  tE_at e1 e2 r0 p fun v d env1 st1 F1 c1 H1 s1 r1 rp1 p1 => by
    unfold ret at p1
    split at p1
    · rename_i d' ed
      have h1 := r1.lv rp1
      rw [e1, e2] at h1
      refine h F1 c1 H1 v _ d' Q h1 ed (fun v hv => Post.here r1 p1 v (by rw [e1, e2]; exact hv)) fun q o hq hot ho => ?_
      obtain ⟨s2, r2⟩ := r1.newO hq o
      obtain ⟨s3, r3⟩ := r2.frz (r1.nC hq) (r1.H0none hq) (fun i h => r1.nO hq i h) ⟨o, upd_same⟩ (fun ps z => hot ps (by rw [upd_same] at z; exact Option.some.inj z))
      exact p1 _ _ _ (s2.trans s3) r3 _ (by rw [e1, e2]; exact ho F1 s2)
    · exact p1.elim
theorem ve_b1 {id : String} {r : List V → Hp → VK → Prop} {g : D → Option D} (hc : CallR X (.builtin id) r) (hg : C1Ok X r g) (hm : X.mg x = none) (hv : bootBuiltins x = some (.builtin id)) (ha : VE X W e fa) (hgl : Gl X x := by rfl) (hn : x ≠ "__name__" := by decide) (hdb : (x == ("__debug__" : Str)) = false := by decide)
    (hs : starEach [e] X.env = (false, eval e X.env) :: starEach [] X.env := by rfl) (hpl : (backTo pos (starEach [] X.env)).any (·.1) = false := by rfl) : VE X W (.Call (.Name x p) [e] [] pos) (eB1 g fa) := PEof (pe_callB hc hgl hm hv (pa_cons ha pa_nil hs) hn hdb hs hpl) (tB1_of hg)
theorem ve_t1 {T : String} {r : List V → Hp → VK → Prop} {g : D → Option D} (hc : CallR X (.type T) r) (hg : C1Ok X r g) (hm : X.mg x = none) (hv : bootBuiltins x = some (.type T)) (ha : VE X W e fa) (hgl : Gl X x := by rfl) (hn : x ≠ "__name__" := by decide) (hdb : (x == ("__debug__" : Str)) = false := by decide)
    (hs : starEach [e] X.env = (false, eval e X.env) :: starEach [] X.env := by rfl) (hpl : (backTo pos (starEach [] X.env)).any (·.1) = false := by rfl) : VE X W (.Call (.Name x p) [e] [] pos) (eB1 g fa) := PEof (pe_callTy hc hgl hm hv (pa_cons ha pa_nil hs) hn hdb hs hpl) (tB1_of hg)
theorem one_len : C1Ok X (fun xs H Q => (∃ p ys, xs = [.ref p] ∧ (SqL X.K H p ys ∨ SqT X.K H p ys) ∧ Q (.int ys.length) H) ∨ (∃ z, xs = [.str z] ∧ z.length ≤ sizeLine ∧ Q (.int z.length) H)) lenD := fun F c H x dx d Q hx e q _ => by
  unfold lenD at e
  split at e
  · cases e
    obtain ⟨a, vs, rfl, h, r⟩ := hx
    exact .inl ⟨_, _, rfl, .inl (SqL.of h), q _ (by rw [r.length]; exact .int _)⟩
  · cases e
    cases hx with
    | tup h r => exact .inl ⟨_, _, rfl, .inr h.sq, q _ (by rw [r.length]; exact .int _)⟩
  · cases e
    cases hx with
    | scr h => exact .inl ⟨_, _, rfl, .inl h.sq, q _ (by rw [List.length_map]; exact .int _)⟩
  · split at e
    · cases hx; cases e; exact .inr ⟨_, rfl, by rw [sizeLine_eq]; assumption, q _ (.int _)⟩
    · cases e
  · cases e
theorem ve_len1 (hm : X.mg "len" = none) (ha : VE X W e fa) (hgl : Gl X "len" := by rfl) (hs : starEach [e] X.env = (false, eval e X.env) :: starEach [] X.env := by rfl) : VE X W (.Call (.Name "len" p) [e] [] pos) (eB1 lenD fa) := ve_b1 lenR one_len hm PySem.boot_len ha hgl (by decide) (by decide) hs
theorem one_tuple : C1Ok X (fun xs H Q => ∃ p ys, xs = [.ref p] ∧ ((SqL X.K H p ys ∧ ∀ l, H l = none → Q (.ref l) (upd H l (.tup ys))) ∨ (SqT X.K H p ys ∧ Q (.ref p) H))) tupD := fun F c H x dx d Q hx e q qn => by
  unfold tupD at e
  split at e
  · cases e
    obtain ⟨a, vs, rfl, h, r⟩ := hx
    exact ⟨_, _, rfl, .inl ⟨SqL.of h, fun l hl => qn l _ hl (fun _ z => by cases z) fun F' s => .tup (.inl ⟨.inr rfl, upd_same⟩) ((r.stp s).stp ⟨fun _ h => .inl h, fun _ _ _ h => h, ⟨[], (List.append_nil c).symm⟩, fun _ _ h => h, fun _ _ _ h => h⟩)⟩⟩
  · cases e
    cases hx with
    | tup h r => exact ⟨_, _, rfl, .inr ⟨h.sq, q _ (.tup h r)⟩⟩
  · cases e
theorem ve_tuple1 (hm : X.mg "tuple" = none) (ha : VE X W e fa) (hgl : Gl X "tuple" := by rfl) (hs : starEach [e] X.env = (false, eval e X.env) :: starEach [] X.env := by rfl) : VE X W (.Call (.Name "tuple" p) [e] [] pos) (eB1 tupD fa) := ve_t1 call_tuple_of one_tuple hm (by decide +kernel) ha hgl (by decide) (by decide) hs
def mxI : List Int → Option Int
  | [] => none
  | x :: xs => some (xs.foldl (fun m y => if m < y then y else m) x)
def slA (d : D) (lo hi : Option Int) : Option D := match d with
  | .tup xs => some (.tup (cutD xs lo hi))
  | .lst xs => some (.lst (cutD xs lo hi))
  | .str z => if z.length ≤ 16777216 then some (.str (cutS z lo hi)) else none
  | _ => none
def eSlA (fa : M D) (fl fh : M (Option Int)) : M D := fun env st => (fa env st).bind fun d env st => (fl env st).bind fun l env st => (fh env st).bind fun h env st => ret (slA (vw st d) l h) env st
theorem ve_slA {lo hi : Option Expr} {fl fh : M (Option Int)} {p2 : Pos} (ha : VE X W e fa) (hl : VO X W lo fl) (hh : VO X W hi fh) : VE X W (.Subscript e (.Slice lo hi none p2) pos) (eSlA fa fl fh) := PEof (pe_slice (SlR.or sl_tupA (SlR.or sl_list sl_str)) ha hl hh) fun σ H Q ⟨b, F, c, env, st, e1, e2, r, p⟩ =>
  tE_at e1 e2 r p fun v d env1 st1 F1 c1 H1 s1 r1 rp1 p1 => tO_at e1 e2 r1 p1 fun l env2 st2 F2 c2 H2 s2 r2 p2 => tO_at e1 e2 r2 p2 fun h env3 st3 F3 c3 H3 s3 r3 p3 => by
    have lv := r3.lv (rp1.stp (s2.trans s3))
    have nw : ∀ {d' : D} {o : HO} {q : Addr}, H3 q = none → (∀ ps, o ≠ .tbl ps) → Post b W F3 c3 σ H3 (fun d _ _ F' c' H' => ∀ v, Rp b.K b.mg F' c' H' v d → Q v H') (.ok d' env3 st3) → (∀ F' : Addr → Prop, Stp F3 c3 H3 F' c3 (upd H3 q o) → Rp b.K b.mg (FAdd F' q) c3 (upd H3 q o) (.ref q) d') → Q (.ref q) (upd H3 q o) := fun {d' o q} hq hot p ho => by
      obtain ⟨s4, r4⟩ := r3.newO hq o
      obtain ⟨s5, r5⟩ := r4.frz (r3.nC hq) (r3.H0none hq) (fun i h => r3.nO hq i h) ⟨o, upd_same⟩ (fun ps z => hot ps (by rw [upd_same] at z; exact Option.some.inj z))
      exact p _ _ _ (s4.trans s5) r5 _ (ho F3 s4)
    unfold ret slA at p3
    split at p3
    · rename_i d' ed
      split at ed
      · rename_i xs ex
        rw [ex] at lv
        cases ed
        cases lv with
        | tup hx rs =>
          refine .inl ⟨_, _, rfl, e1 ▸ hx.sq, fun z => ?_, fun _ q hq => nw hq (fun _ z => by cases z) p3 fun F' s => .tup (.inl ⟨.inr rfl, upd_same⟩) (((rs.cut l h).stp s).stp ⟨fun _ h => .inl h, fun _ _ _ h => h, ⟨[], (List.append_nil c3).symm⟩, fun _ _ h => h, fun _ _ _ h => h⟩)⟩
          refine Post.here r3 p3 _ (.tup hx ?_)
          rw [rs.length] at z
          have ec : cutD xs l h = xs := by unfold cutD; rw [z.1, z.2]; simp
          rw [ec]; exact rs
      · rename_i xs ex
        rw [ex] at lv
        cases ed
        obtain ⟨a, vs, rfl, hx, rs⟩ := lv
        exact .inr (.inl ⟨_, _, rfl, SqL.of hx, fun q hq => nw hq (fun _ z => by cases z) p3 fun F' s => .lst (.inr rfl) upd_same (((rs.cut l h).stp s).stp ⟨fun _ h => .inl h, fun _ _ _ h => h, ⟨[], (List.append_nil c3).symm⟩, fun _ _ h => h, fun _ _ _ h => h⟩)⟩)
      · rename_i z ex
        rw [ex] at lv
        split at ed
        · cases ed
          cases lv
          exact .inr (.inr ⟨_, rfl, by rw [sizeLine_eq]; assumption, Post.here r3 p3 _ (.str _)⟩)
        · cases ed
      · cases ed
    · exact p3.elim
def eSortK (fa : M D) : M D := fun env st => (fa env st).bind fun d env st => match d with
  | .ref n => (match st[n]? with
    | some (.dct kvs) => if kvs.all (fun kv => isStr (keyD kv.1)) && decide (kvs.length < 64) then .ok (.lst (srtB kD (kvs.map fun kv => keyD kv.1))) env st else .bad
    | _ => .bad)
  | _ => .bad
theorem rise_srt : ∀ (l : List Str) (p : Str), risingS p l = true → (p :: l).Pairwise fun a b => ltS b a = false
  | [], p, _ => List.pairwise_singleton _ _
  | x :: r, p, h => by
    have h' : (!ltCps x.cps.toList p.cps.toList && risingS x r) = true := h
    rw [Bool.and_eq_true, Bool.not_eq_true', ltCps_eq] at h'
    have ih := rise_srt r x h'.2
    have hx : ltS x p = false := h'.1
    refine List.pairwise_cons.mpr ⟨fun z hz => ?_, ih⟩
    rcases List.mem_cons.mp hz with e | e
    · subst e; exact hx
    · have hz' := (List.pairwise_cons.mp ih).1 z e
      unfold ltS at *
      simp only [decide_eq_false_iff_not] at *
      exact fun hzp => hx (List.lt_of_le_of_lt (List.not_lt.mp hz') hzp)
theorem sortedS_srt {ys : List Str} (h : sortedS ys = true) : SrtO.Srtd (fun a b => lexK (kD a) (kD b)) (ys.map D.str) := by
  have key : ys.Pairwise fun a b => ltS b a = false := by
    cases ys with
    | nil => exact List.Pairwise.nil
    | cons x r => exact rise_srt r x h
  refine List.pairwise_map.mpr (key.imp fun {a b} q => ?_)
  show lexK [.inr b] [.inr a] = false
  rw [lex1']
  exact q
theorem strs_of_keys : ∀ {kvs : List (Key × D)}, kvs.all (fun kv => isStr (keyD kv.1)) = true → ∃ ks : List Str, kvs.map (·.1) = ks.map Sum.inr ∧ (kvs.map fun kv => keyD kv.1) = ks.map D.str
  | [], _ => ⟨[], rfl, rfl⟩
  | (k, d) :: kvs, h => by
    simp only [List.all_cons, Bool.and_eq_true] at h
    obtain ⟨ks, h1, h2⟩ := strs_of_keys h.2
    cases k with
    | inl i => simp [keyD, isStr] at h
    | inr x => exact ⟨x :: ks, by simp [h1], by rw [List.map_cons, List.map_cons, h2]; rfl⟩
theorem ve_sortK (hc : X.calm = true) (hm : X.mg "sorted" = none) (ha : VE X W e fa) (hgl : Gl X "sorted" := by rfl) (hs : starEach [e] X.env = (false, eval e X.env) :: starEach [] X.env := by rfl) (hpl : (backTo pos (starEach [] X.env)).any (·.1) = false := by rfl) : VE X W (.Call (.Name "sorted" p) [e] [] pos) (eSortK fa) :=
  PEof (pe_callB (call_sortedD hc) hgl hm PyProof.Rows.boot_sorted (pa_cons ha pa_nil hs) (by decide) (by decide) hs hpl) fun σ H Q ⟨b, F, c, env, st, e1, e2, r0, p⟩ => tE_at e1 e2 r0 p fun v d env1 st1 F1 c1 H1 s1 r1 rp1 p1 => by
    split at p1
    · rename_i n
      split at p1
      · rename_i kvs es
        split at p1
        · rename_i hh
          rw [Bool.and_eq_true, decide_eq_true_eq] at hh
          obtain ⟨a, vk, rfl, hc', h1, h2, h3⟩ := r1.dget rp1 es (.inl 0)
          obtain ⟨ks, k1, k2⟩ := strs_of_keys hh.1
          have kl : ks.length = kvs.length := by simpa using (congrArg List.length k1).symm
          refine ⟨a, vk, ks, rfl, .inl h1, h2.trans k1, by omega, fun ys q pm so hq => ?_⟩
          have e9 : ys.map D.str = srtB kD (kvs.map fun kv => keyD kv.1) := by
            rw [k2]
            refine srtB_uniq (p := fun d => isStr d = true) (fun x y hx hy e => ?_) (fun x hx => ?_) (sortedS_srt so) (pm.map _)
            · cases x <;> simp [isStr] at hx
              cases y <;> simp [isStr] at hy
              simpa [kD] using e
            · obtain ⟨z, _, rfl⟩ := List.mem_map.mp hx; rfl
          rw [← e9] at p1
          obtain ⟨s2, r2⟩ := r1.newO hq (.lst (ys.map V.str))
          obtain ⟨s3, r3⟩ := r2.frz (r1.nC hq) (r1.H0none hq) (fun i h => r1.nO hq i h) ⟨_, upd_same⟩ (fun ps z => by rw [upd_same] at z; cases z)
          have rr : ∀ ys : List Str, Rps b.K b.mg (FAdd F1 q) c1 (upd H1 q (.lst (ys.map V.str))) (ys.map V.str) (ys.map D.str) → True := fun _ _ => trivial
          have go : ∀ (H' : Hp) (F' : Addr → Prop) (zs : List Str), Rps b.K b.mg F' c1 H' (zs.map V.str) (zs.map D.str) := fun H' F' zs => by
            induction zs with
            | nil => exact .nil
            | cons z zs ih => exact .cons (.str z) ih
          exact p1 _ _ _ (s2.trans s3) r3 _ (.lst (.inr rfl) upd_same (go _ _ ys))
        · exact p1.elim
      · exact p1.elim
    · exact p1.elim
end
end VE
namespace VE
open PySem PySem.Spec PyProof.Rows L2
variable [VEnv]
section
variable {X : Cx} {W : WX} {e a o d tg iter : Expr} {es : List Expr} {pos p pos' : Pos} {fa fb fo fi : M D} {fs : M (List D)} {x : Str} {k : Nat}
/-- x = [.. for ..], x a local, the list never changed -/
theorem vs_setCompV {elt : Expr} {ifs : List Expr} {scope : Scope} {own : List (Str × Nat)} {is : List Nat} {gg : TG} {fi : M (List D)} {t : D → EnvD → Option EnvD} {tt : M Bool} {fe : M D} {i : Nat} {x : Str} {py sp : Pos} (hc : X.calm = true) (hN : X.N.Nodup) (hi : VI X W tg iter fi) (ok : BlkOk X.N X.env.scope scope own)
    (his : ∀ i ∈ is, i ∈ own.map (·.2)) (hg : ∀ (s : Shared) (H : Hp) (C : Addr) (cl : List (Str × Addr)) (fp : List Addr), VG (X.blk s H scope (compEnvC scope cl C X.env) fp) tg gg is t)
    (ht : ∀ (s : Shared) (H : Hp) (C : Addr) (cl : List (Str × Addr)) (fp : List Addr), PTs (X.blk s H scope (compEnvC scope cl C X.env) fp) ifs (tT X W0 tt))
    (he : ∀ (s : Shared) (H : Hp) (C : Addr) (cl : List (Str × Addr)) (fp : List Addr), VE (X.blk s H scope (compEnvC scope cl C X.env) fp) W0 elt fe) (hy : X.N[i]? = some x := by rfl) (hyl : X.env.scope.names.lookup x = some .local := by rfl)
    (hsw : swapsWith (.ListComp elt [⟨tg, iter, ifs, 0⟩] scope pos) (some (.Name x py)) sp.line X.env = pure true := by exact sw_true rfl rfl rfl (by decide +kernel)) (hs : ∀ x, foldedSetIterable iter X.env x = pure x := by intro _; rfl) :
    VS X W (.Assign [.Name x py] (.ListComp elt [⟨tg, iter, ifs, 0⟩] scope pos) sp) (sSet i (eComp fi t (own.map (·.2)) tt fe)) := by
  obtain ⟨wi, pi, ki⟩ := hi
  refine ⟨fun pins s0 σ H D₀ I ⟨b, F, c, env, st, e1, e2, r, p⟩ => (ps_setLc (te := tE X W0 fe) hc hN hy hyl hsw pi ok (fun s H C cl fp => (hg s H C cl fp).1) ht he hs).run pins s0 σ H D₀ I ?_⟩
  refine comp_of (W := W) ki his (hg s0 H 0 [] []).2 σ H _ (sF_at e1 e2 r p fun a d env1 st1 F1 c1 H1 s1 r1 h1 h2 h3 h4 h5 p1 => ?_)
  obtain ⟨s2, r2⟩ := r1.frz h2 h3 h4 h5.trk h5.ntbl
  exact PostS.here (P := fun fl _ _ F c σ H => FlOk b D₀ F c σ H fl) (r2.put h5.rp) (p1.stp s2)
end
end VE
namespace VE
open PySem PySem.Spec PyProof.Rows L2
variable [VEnv]
section
variable {X : Cx} {W : WX} {e : Expr} {pos p tpos : Pos} {elts : List Expr} {kk : Nat} {fa : M D}
/-- enumerate of a list or a tuple -/
def iEnA (fa : M D) : M (List D) := fun env st => (fa env st).bind fun d env st => match d with
  | .lst xs => .ok (enuD 0 xs) env st
  | .tup xs => .ok (enuD 0 xs) env st
  | _ => .bad
theorem vi_enA (hm : X.mg "enumerate" = none) (h : VE X W e fa) (hg : Gl X "enumerate" := by rfl) (hs : starEach [e] X.env = [(false, eval e X.env)] := by rfl) :
    VI X W (.Tuple elts kk tpos) (.Call (.Name "enumerate" p) [e] [] pos) (iEnA fa) := by
  have va := va_cons h va_nil hs
  obtain ⟨w1, p1, k1⟩ := vi_enL (elts := elts) (kk := kk) (tpos := tpos) (p := p) (pos := pos) hm va hg hs
  obtain ⟨w2, p2, k2⟩ := vi_enT (elts := elts) (kk := kk) (tpos := tpos) (p := p) (pos := pos) hm va hg hs
  refine ⟨_, PI.or p1 p2, fun σ H R ⟨b, F, c, env, st, e1, e2, r, q⟩ => ?_⟩
  unfold iEnA at q
  cases hf : fa env st with
  | bad => rw [hf] at q; exact q.elim
  | ex x env1 st1 =>
    rw [hf] at q
    exact .inl (k1 σ H R ⟨b, F, c, env, st, e1, e2, r, by unfold iEnL eCons; rw [hf]; exact q⟩)
  | ok d env1 st1 =>
    rw [hf] at q
    cases d with
    | lst xs => exact .inl (k1 σ H R ⟨b, F, c, env, st, e1, e2, r, by unfold iEnL eCons; rw [hf]; exact q⟩)
    | tup xs => exact .inr (k2 σ H R ⟨b, F, c, env, st, e1, e2, r, by unfold iEnT eCons; rw [hf]; exact q⟩)
    | _ => exact q.elim
end
end VE
namespace VE
open PySem PySem.Spec PyProof.Rows L2
variable [VEnv]
namespace ZL
abbrev LObj (acc : Array Value) (c : Nat) : Obj := { cls := .type "list", dict := none, data := .seq acc c, slots := #[] }
section
variable {prog : Program} {w : World} {A : Around} {z TI TO i1 i2 l1 l2 S : Addr} {xs ys : Array Value} {h0 : Heap}
end
section
variable {X : Cx} {pins : List (Addr × Obj)} {σ : L2.St} {s : Shared} {h' : Heap} {B : Nat} {S : Addr}
end
end ZL
section
variable {X : Cx} {W : WX} {e e2 : Expr} {pos p p2 q : Pos} {fs : M (List D)}
end
end VE
namespace VE
open PySem PySem.Spec PyProof.Rows L2
variable [VEnv]
namespace TM
end TM
section
variable {X : Cx} {W : WX} {e a o d : Expr} {es : List Expr} {pos p p2 q pos' : Pos} {fa fb fo fi : M D} {fs : M (List D)} {x : Str} {k : Nat}
end
end VE
namespace VE
open PySem PySem.Spec PyProof.Rows L2
variable [VEnv]
namespace LG
section
variable {X : Cx} {tg : Expr}
end
end LG
section
variable {X : Cx} {W : WX} {e a tg : Expr} {pos p : Pos} {fa fb : M D}
end
end VE
namespace VE
open PySem PySem.Spec PyProof.Rows L2
variable [VEnv]
namespace MN
end MN
section
variable {X : Cx} {W : WX} {e a : Expr} {pos p kpos : Pos} {fa fb : M D} {k : Nat}
end
end VE
namespace VE
open PySem PySem.Spec PyProof.Rows L2
variable [VEnv]
section
variable {X : Cx} {W : WX} {e a : Expr} {pos p p2 q : Pos} {fa fb : M D}
end
end VE
namespace VE
open PySem PySem.Spec PyProof.Rows L2
variable [VEnv]
namespace CM
section
variable {X : Cx}
end
end CM
section
variable {X : Cx} {W : WX} {e a : Expr} {pos : Pos} {fa fb : M D} {k : Nat}
end
end VE
namespace VE
open PySem PySem.Spec PyProof.Rows L2
variable [VEnv]
section
variable {K : PySem.W.Frag} {mg : Str → Option Value} {F F' : Addr → Prop} {c c' : List Addr} {st st' : Sto} {H H' H₀ : Hp} {C : List Addr} {a : Addr} {u : HO}
end
section
variable {P : Program} {w : World} {K : PySem.W.Frag} {mg : Str → Option Value} {base B h h' : Heap} {A : Around} {outer : List Env} {s s' : Shared} {H H' H₀ : Hp} {C fs : List Addr} {Q Q' : VK} {E E' : XK} {a : Addr} {u : Value}
end
section
variable {K : PySem.W.Frag} {mg : Str → Option Value} {F F' : Addr → Prop} {c c' : List Addr} {st st' : Sto} {H H' H₀ : Hp} {C : List Addr} {Q : VK} {E : XK} {cls : Value} {dx : Option Addr} {x : Exn}
end
section
variable {P : Program} {w : World} {K : PySem.W.Frag} {mg : Str → Option Value} {base : Heap} {F F' : Addr → Prop} {c c' : List Addr} {st st' : Sto} {H H' H₀ : Hp} {C : List Addr} {Q : VK} {E : XK} {N : List Str} {vs : List V} {ds : List D} {ws : List (Option V)} {caps : List (Option D)}
end
section
variable {P : Program} {w : World} {K : PySem.W.Frag} {mg : Str → Option Value} {base : Heap} {N : List Str} {k i : Nat} {H : Hp} {f c' : Addr} {cells : List (Str × Addr)} {L : LamCode} {h : Heap}
end
/-- a table was asked, or written; the function's object at f is new, its code object at c' is known -/
structure Mk (G : Addr → Prop) (H H1 : Hp) (P f c' : Addr) (ps' : Array Value) (q : Str) (o : HO) : Prop where
  tab : H1 P = some (.tbl ps')
  ok : TriplesOk ps'.toList
  all : ∀ (pos : Pos) (cv : Value), codeAmong pos ps'.toList = some cv → ∃ c0, cv = .ref c0 ∧ H1 c0 = some (LamX.CodeO c0 q) ∧ (c0 = c' ∨ G c0)
  f0 : H f = none
  f1 : H1 f = some o
  c0 : H c' = none ∨ G c'
  c1 : H1 c' = some (LamX.CodeO c' q)
  kp : ∀ u, H c' = some u → H1 c' = some u
  rest : ∀ b, b ≠ P → b ≠ f → b ≠ c' → H1 b = H b
section
variable {G : Addr → Prop} {X : Cx} {pins : List (Addr × Obj)} {σ : L2.St} {H : Hp} {s : Shared} {P c' : Addr} {L : LamCode} {ps : Array Value} {h' : Heap} {fo : Obj} {tk : Nat} {pos : Pos} {q : Str}
end
section
variable {b : Bs} {F : Addr → Prop} {c : List Addr} {env : EnvD} {st : Sto} {σ : L2.St} {H H1 : Hp} {P f c' : Addr} {ps' : Array Value} {q : Str} {o : HO}
end
section
variable {X : Cx} {W : WX} {pos : Pos} {i : Nat}
end
section
variable {P : Program} {w : World} {K : PySem.W.Frag} {mg : Str → Option Value} {base : Heap}
end
@[reducible] def FMG := List (Str × Addr) → List (Str × D) → FM
section
variable {P : Program} {w : World} {K : PySem.W.Frag} {mg : Str → Option Value} {base : Heap} {F : Addr → Prop} {c : List Addr} {st : Sto} {H : Hp} {vs : List V} {ds : List D} {cells : List (Str × Addr)} {vals : List (Str × D)}
end
/-- the mirrors of the functions that may be handed in: what they capture, what they do -/
structure LamM where
  fr : List Str
  n : Nat
  run : List (Option D) → FM
def LamM.bad : LamM := ⟨[], 0, fun _ _ _ => .bad⟩
section
variable {X : Cx} {W : WX} {e a : Expr} {es : List Expr} {pos p : Pos} {fs : M (List D)} {x : Str} {k j i gi : Nat} {G : Nat → LamM}
end
section
variable {X : Cx} {W : WX} {e a : Expr} {es : List Expr} {pos p : Pos} {fs : M (List D)} {x : Str} {k n : Nat} {m : FMG} {js : List (Str × Nat)}
end
end VE
namespace PySem.W
open PySem PySem.Spec PySem.Calls PyProof.Rows
section
variable {M : Model} {A : Around} {E : Value → Shared → Prop} {s : Shared} {name qual : Str} {params : Arguments} {body : Expr} {scope : Scope} {env : Env} {c P : Addr} {ps : Array Value} {pos : Pos} {firstLine : Nat} {mg : Str → Option Value}
  {clos : List (Str × Addr)} {Q : Value → Shared → Prop} {dv : Value}
end
end PySem.W
namespace VE
open PySem PySem.Spec PyProof.Rows L2
section
variable [VEnv]
end
section
variable [VEnv]
variable {P : Program} {w : World} {K : PySem.W.Frag} {mg : Str → Option Value} {base : Heap} {N : List Str} {k i : Nat} {H : Hp} {f c' q : Addr} {cells : List (Str × Addr)} {L : LamCode} {h : Heap}
end
section
variable [VEnv]
section
variable {G : Addr → Prop} {X : Cx} {pins : List (Addr × Obj)} {σ : L2.St} {H : Hp} {s : Shared} {P c' qd : Addr} {L : LamCode} {ps : Array Value} {h' : Heap} {fo : Obj} {tk : Nat} {pos : Pos} {q : Str}
end
end
section
variable [VEnv]
variable {X : Cx} {W : WX} {pos : Pos}
end
section
variable [VEnv]
variable {X : Cx} {W : WX} {e a : Expr} {pos p : Pos} {x : Str} {k j i gi : Nat} {G : Nat → LamM}
end
end VE
namespace VE
open PySem PySem.Spec PyProof.Rows L2
variable [VEnv]
section
variable {X : Cx} {W : WX} {o a : Expr} {pos : Pos} {fo fa : M D} {k : Nat}
end
end VE
namespace VE
open PySem PySem.Spec PyProof.Rows L2
variable [VEnv]
section
variable {X : Cx} {W : WX} {e a o d : Expr} {es : List Expr} {pos p p2 q pos' : Pos} {fa fb fo fi : M D} {fs : M (List D)} {x : Str} {k : Nat} {env : EnvD} {st : Sto}
end
end VE
namespace VE
open PySem PySem.Spec PyProof.Rows L2
variable [VEnv]
def noEx {α : Type} : R α → R α
  | .ex _ _ _ => .bad
  | r => r
section
variable {X : Cx} {W : WX} {hds : List ExceptHandler} {hs : List ((List Str × List Str) × M Fl)} {g gb : M Fl} {pos np pos' : Pos} {x : Str} {b₀ h₀ : Stmt} {suite body : List Stmt} {yes no : List Str}
end
section
variable {env e : EnvD} {st s : Sto} {gb : M Fl} {hs : List ((List Str × List Str) × M Fl)} {x : Exn} {fl : Fl} {g : M Fl} {yes no : List Str}
@[simp] theorem x_noEx : noEx (.ok fl e s) = .ok fl e s := rfl
end
end VE
namespace VE
open PySem PySem.Spec PyProof.Rows L2
variable [VEnv]
section
variable {X : Cx} {W : WX} {e a o q : Expr} {fa fb fo fi : M D} {pos : Pos} {k : Nat}
end
section
variable {i : Nat} {fa fb fo fi : M D} {env : EnvD} {st : Sto}
end
end VE
namespace VP.RT
open PySem PyProof.Rows
open HT
section
variable {prog : Program} {w : World} {A : Around} {E : Value → Shared → Prop} {s : Shared}
end
end VP.RT
namespace VE
open PySem PySem.Spec PyProof.Rows L2
variable [VEnv]
section
variable {X : Cx} {W : WX} {a e : Expr} {pos : Pos} {fa fb : M D} {k : Nat}
namespace CM
end CM
end
end VE
namespace PySem.W
open PyProof.Rows
section
variable {prog : Program} {w : World} {A A₀ : Around} {E : Value → Shared → Prop} {s : Shared} {K : Frag} {x C L f : Addr} {h₀ : Heap} {m : Str → Option Value} {ox : Obj} {od : Option Obj} {name : Str} {b tb : Value}
/-- the inherited != asks the own == -/
theorem objNe_K {Q : Fin → Shared → Prop} (hu : A.units < cLine) (X : K.In s.heap) (I : InstAt s.heap x ox C od) (hs : findIn K (.ref C) "__eq__" = some (some (.ref f))) (hf : isFn K (.ref f) = true)
    (h : wpAny (model prog w) A (call (.ref f) [.ref x, b]) (fun v s' => v = .bool true ∧ Q (.done (.ret (.bool false))) s') E s) :
    wpAny (model prog w) A (Builtin.«object.__ne__» ⟨[.ref x, b], []⟩) Q E s := by
  unfold Builtin.«object.__ne__»
  refine wpAny_bind (m := slotArgs "__ne__" 1 _) (wpAny_pure ?_)
  refine wpAny_bind (wpAny_cRoomFor hu ?_)
  refine wpAny_bind (ifBound_K X I hs hf (wpAny_mono h (fun v s' hv => ?_) fun _ _ e => e))
  obtain ⟨rfl, q⟩ := hv
  refine wpAny_bind (wpAny_truthy_bool ?_)
  exact wpAny_pure q
theorem ne_try {Q : Option Value → Shared → Prop} (hu : A.units + 1 < cLine) (X : K.In s.heap) (I : InstAt s.heap x ox C od) (hs : findIn K (.ref C) "__eq__" = some (some (.ref f))) (hf : isFn K (.ref f) = true)
    (hne : findIn K (.ref C) "__ne__" = some (some (.builtin "object.__ne__"))) (hsub : subIn K (.ref C) (.type "object") = some true)
    (h : wpAny (model prog w) A.in1 (call (.ref f) [.ref x, b]) (fun v s' => v = .bool true ∧ Q (some (.bool false)) s') E s) :
    wpAny (model prog w) A (tryCompare (.ref x) "__ne__" b) Q E s := by
  have FB := PySem.F.cmp_object
  have sub : Looks (model prog w) s.heap (isInstance (.ref x) (.type "object")) true := I.type.andThen (looks_subIn X hsub)
  unfold tryCompare
  simp only [callSpecialIfBound?, bindSpecialIfBound?]
  have fin : wpAny (model prog w) A (call (.builtin "object.__ne__") ([.ref x] ++ [b])) (fun v s' => v = .bool false ∧ Q (some (.bool false)) s') E s := by
    refine wpAny_call (codeAny_call_builtin FB.ne.plain PySem.F.cmpEntry_ne (@check_slot (model prog w) _ _ s "object.__ne__" "object" "__ne__" (.ref x) [b] [] _ PySem.F.cmpKind_ne PySem.F.cmpSplit_ne sub (PySem.F.cmpArgs_ne _ _) ?_))
    refine objNe_K (by show A.units + 1 < cLine; exact hu) X I hs hf (wpAny_mono h (fun v s' hv => ?_) fun _ _ e => e)
    exact ⟨hv.1, rfl, hv.2⟩
  refine wpAny_bind ?_
  refine wpAny_holding (wpAny_bind (wpAny_bind (wpAny_bind (I.type.here ((looks_findIn X hne).here ?_)))))
  have fin2 : wpAny (model prog w) A (call (.builtin "object.__ne__") ([.ref x] ++ [b]) >>= fun v => pure (some v)) (fun r s' => wpAny (model prog w) A (match r with | some .notImplemented | none => pure none | some v => pure (some v)) Q E s') E s :=
    wpAny_bind (wpAny_mono fin (fun v s' hv => by
      obtain ⟨rfl, q⟩ := hv
      exact wpAny_pure (wpAny_pure q)) fun _ _ e => e)
  simp only [FB.ne.bind]
  refine wpAny_bind (wpAny_askSetting (wpAny_ite ?_))
  split
  · exact wpAny_bind (wpAny_pure (wpAny_pure (by exact fin2)))
  · exact wpAny_tryCatch (wpAny_bind (wpAny_pure (wpAny_pure (by exact fin2))))
theorem ne_K {tb : Value} {Q : Value → Shared → Prop} (hu : A.units + 1 < cLine) (F : Fr h₀ L s.heap m) (X₀ : K.In h₀) (I : InstAt s.heap x ox C od) (hb : Looks (model prog w) s.heap (typeOf b) tb) (hn : notFirst K C tb = true)
    (hs : findIn K (.ref C) "__eq__" = some (some (.ref f))) (hf : isFn K (.ref f) = true) (hne : findIn K (.ref C) "__ne__" = some (some (.builtin "object.__ne__"))) (hsub : subIn K (.ref C) (.type "object") = some true)
    (h : wpAny (model prog w) A.in1 (call (.ref f) [.ref x, b]) (fun v s' => v = .bool true ∧ Q (.bool false) s') E s) : wpAny (model prog w) A (richCompare .NotEq (.ref x) b) Q E s := by
  have X := X₀.keeps F.keep
  have one : wpAny (model prog w) A (tryCompare (.ref x) "__ne__" b) (fun r s' => ∃ v, r = some v ∧ Q v s') E s := ne_try hu X I hs hf hne hsub (wpAny_mono h (fun v s' hv => ⟨hv.1, _, rfl, hv.2⟩) fun _ _ e => e)
  unfold richCompare
  simp only [oneThing_ref]
  refine wpAny_holding (wpAny_bind (wpAny_cRoomFor (by omega) ?_))
  refine wpAny_bind (I.type.here (wpAny_bind (hb.here ?_)))
  split
  · rename_i q
    have e : subIn K tb (.ref C) = some false := by
      rcases Bool.or_eq_true_iff.mp hn with e | e
      · rw [beq_iff_eq.mp e] at q; simp at q
      · exact beq_iff_eq.mp e
    refine wpAny_bind ((looks_subIn X e).here ?_)
    simp only [Bool.false_eq_true, if_false]
    refine wpAny_bind (wpAny_mono one (fun r s' z => ?_) fun _ _ e => e)
    obtain ⟨v, rfl, hq⟩ := z
    exact wpAny_pure hq
  · refine wpAny_bind (wpAny_pure ?_)
    simp only [Bool.false_eq_true, if_false]
    refine wpAny_bind (wpAny_mono one (fun r s' z => ?_) fun _ _ e => e)
    obtain ⟨v, rfl, hq⟩ := z
    exact wpAny_pure hq
end
end PySem.W
namespace L2
open PySem PySem.Spec PyProof.Rows
section
variable {X : Cx} {n : Nat}
/-- instances of a class with slots -/
def DSl (C : Addr) (R : Addr → Addr → Hp → Prop) : Eqv := fun x y H => ∃ a b dx dy vs ws, x = .ref a ∧ y = .ref b ∧ VE.SlAt H a C dx vs ∧ VE.SlAt H b C dy ws ∧ R a b H
theorem rcG_sl {CX : CXT} {C f : Addr} {fd : FuncData} {ps : List Str} {R : Addr → Addr → Hp → Prop} {E : XK} (F : FnOk X.prog X.w X.K X.mg X.base CX n f fd ps (spEq R))
    (hs : PySem.W.findIn X.K (.ref C) "__eq__" = some (some (.ref f))) (hf : PySem.W.isFn X.K (.ref f) = true) (hb : Binds X.K fd ps []) (hx : Passes CX X E) : RcG X n (DSl C R) := by
  intro A pins s σ H x y u v sb I rx ry d
  obtain ⟨a, b, dx, dy, fs, gs, rfl, rfl, ha, hb', hr'⟩ := d
  cases rx
  cases ry
  obtain ⟨us, od, _, _, J⟩ := VE.slAt_get I ha
  obtain ⟨us', od', _, _, J'⟩ := VE.slAt_get I hb'
  obtain ⟨m, hF⟩ := I.fr
  refine PySem.W.cmp_K (op := .Eq) (tb := .ref C) sb.room.units0 hF I.ok.mod.kin J J'.type (by simp [PySem.W.notFirst]) hs hf ?_
  have hsp : spEq R [.ref a, .ref b] H (fun v H' => v = .bl true ∧ Ext H H') E := ⟨a, b, rfl, hr', fun H' e => ⟨rfl, e⟩⟩
  have e0 : Env0 X.prog X.w X.K X.mg X.base A X.stack s H := by
    have e := I.env0
    exact ⟨by rw [sb.fr]; exact e.frames, e.mod, e.bs, e.bsz, e.funs, e.frf, e.hok, e.bare⟩
  have hl := F.len _ _ _ _ hsp
  have r2 : Vals [V.ref a, V.ref b] [Value.ref a, Value.ref b] := .cons rfl (.cons rfl .nil)
  refine wpAny_call (codeAny_mono (F.run A X.stack s H ⟨[.ref a, .ref b], []⟩ [.ref a, .ref b] [.ref a, .ref b] _ E sb.room e0 (by
    have := hb s [.ref a, .ref b] I.kIn (by simpa using hl)
    simpa using this) r2 hsp) fun r s' hq => ?_)
  cases r with
  | error e => exact hx pins σ H s e s' I hq
  | ok fl =>
    cases fl with
    | ret w =>
      obtain ⟨z, H', I', rz, ez, ex⟩ := I.after hq
      subst ez
      cases rz
      exact ⟨rfl, H', I', ex⟩
    | next => exact False.elim hq
    | brk => exact False.elim hq
    | cont => exact False.elim hq
theorem eqG_sl {CX : CXT} {C f : Addr} {fd : FuncData} {ps : List Str} {R : Addr → Addr → Hp → Prop} {E : XK} (F : FnOk X.prog X.w X.K X.mg X.base CX n f fd ps (spEq R))
    (hs : PySem.W.findIn X.K (.ref C) "__eq__" = some (some (.ref f))) (hf : PySem.W.isFn X.K (.ref f) = true) (hb : Binds X.K fd ps []) (hx : Passes CX X E) : EqG X n (DSl C R) :=
  (rcG_sl F hs hf hb hx).eqG fun _ _ _ d => let ⟨a, b, _, _, _, _, hx, hy, _⟩ := d; ⟨a, b, hx, hy⟩
end
end L2
namespace VE
open PySem PySem.Spec PyProof.Rows L2
variable [VEnv]
/-- what isinstance asks of the class n -/
structure IsiV (K : PySem.W.Frag) (mg : Str → Option Value) (n : Str) : Prop where
  ex : ∃ C, mg n = some (.ref C)
  cl : ∀ C, mg n = some (.ref C) → L2.SCls K C ∧ SlX.SIsi K C ∧ PySem.W.kitOne K (.ref C) (.ref C) = some true
def rIsiAt (C : Addr) : List V → Hp → VK → Prop := fun xs H Q => ∃ a dx vs, xs = [V.ref a, V.ref C] ∧ VE.SlAt H a C dx vs ∧ Q (.bl true) H
def tIsiO (C : Addr) (ta : TE) : TE := tCB (rIsiAt C) (tCons ta (tCons (tC (.ref C)) tNil))
section
variable {X : Cx} {W : WX} {e a : Expr} {pos p p2 : Pos} {ta : TE} {fa fb : M D} {n : Str} {C : Addr}
theorem call_isiAt (c : L2.SCls X.K C) (i : SlX.SIsi X.K C) (k : PySem.W.kitOne X.K (.ref C) (.ref C) = some true) : CallR X (.builtin "isinstance") (rIsiAt C) := by
  intro pins s σ H xs us Q I r h
  obtain ⟨a, dx, vs, rfl, hsl, q⟩ := h
  obtain ⟨u1, u2, rfl, r1, r2⟩ := r.two
  cases (show u1 = Value.ref a from r1)
  cases (show u2 = Value.ref C from r2)
  obtain ⟨us, od, _, _, J⟩ := VE.slAt_get I hsl
  exact PySem.W.kia_one (OwX.kitx_slt c.ic c.pg i.ca i.cn i.ct i.cm) I.kIn J k (fun z => nomatch z) fun tk => ⟨.bl true, H, I.tok _, rfl, q⟩
theorem pe_isiO (cv : IsiV X.K X.mg n) (hC : X.mg n = some (.ref C)) (hm : X.mg "isinstance" = none) (ha : PE X e ta) (hgl : Gl X "isinstance" := by rfl) (hglT : Gl X n := by rfl) (hdb : (n == ("__debug__" : Str)) = false := by decide)
    (hs : starEach [e, .Name n p2] X.env = (false, eval e X.env) :: starEach [.Name n p2] X.env := by rfl) (hs2 : starEach [.Name n p2] X.env = (false, eval (.Name n p2) X.env) :: starEach [] X.env := by rfl) (hpl : (backTo pos (starEach [.Name n p2] X.env)).any (·.1) = false := by rfl) :
    PE X (.Call (.Name "isinstance" p) [e, .Name n p2] [] pos) (tIsiO C ta) := by
  obtain ⟨c, i, k⟩ := cv.cl C hC
  exact pe_callB (call_isiAt c i k) hgl hm PyProof.Rows.boot_isinstance (pa_cons ha (pa_cons (pe_glob (v := .ref C) hglT hC rfl hdb) pa_nil hs2) hs) (by decide) (by decide) hs hpl
/-- isinstance(x, n), x such an instance -/
def isO (n : Str) : D → Option D
  | .obj n' _ => if n' = n then some (.bl true) else none
  | _ => none
theorem ve_isiO (cv : IsiV X.K X.mg n) (hm : X.mg "isinstance" = none) (ha : VE X W e fa) (hgl : Gl X "isinstance" := by rfl) (hglT : Gl X n := by rfl) (hdb : (n == ("__debug__" : Str)) = false := by decide)
    (hs : starEach [e, .Name n p2] X.env = (false, eval e X.env) :: starEach [.Name n p2] X.env := by rfl) (hs2 : starEach [.Name n p2] X.env = (false, eval (.Name n p2) X.env) :: starEach [] X.env := by rfl) (hpl : (backTo pos (starEach [.Name n p2] X.env)).any (·.1) = false := by rfl) :
    VE X W (.Call (.Name "isinstance" p) [e, .Name n p2] [] pos) (eUn (isO n) fa) := by
  obtain ⟨C, hC⟩ := cv.ex
  refine PEof (pe_isiO cv hC hm ha hgl hglT hdb hs hs2 hpl) fun σ H Q ⟨b, F, c, env, st, e1, e2, r, pp⟩ => tE_at e1 e2 r pp fun v d env1 st1 F1 c1 H1 s1 r1 rp1 p1 => ?_
  unfold ret isO at p1
  split at p1
  · rename_i d' ed
    split at ed
    · rename_i n' ds
      split at ed
      · rename_i en
        subst en
        cases ed
        cases rp1 with
        | obj m1 m2 m3 m4 =>
          rw [e2, hC] at m1; cases m1
          exact ⟨_, _, _, rfl, m3, Post.here r1 p1 _ (.bl true)⟩
      · cases ed
    · cases ed
  · exact p1.elim
end
section
variable {K : PySem.W.Frag} {mg : Str → Option Value} {F F' : Addr → Prop} {c : List Addr} {H H' : Hp}
/-- the heap only grew -/
theorem FqT.ext {a : Addr} {xs : List V} (h : FqT K F H a xs) (e : Ext H H') : FqT K F H' a xs := h.imp (fun ⟨f, h⟩ => ⟨f, e _ _ h⟩) id
theorem FqL.ext {a : Addr} {xs : List V} (h : FqL K F H a xs) (e : Ext H H') : FqL K F H' a xs := h.imp (fun ⟨f, h⟩ => ⟨f, h.elim (fun h => .inl (e _ _ h)) fun ⟨o, h⟩ => .inr ⟨o, e _ _ h⟩⟩) id
theorem slAt_ext {a C dx : Addr} {vs : List (Option V)} (h : VE.SlAt H a C dx vs) (e : Ext H H') : VE.SlAt H' a C dx vs := ⟨e _ _ h.1, h.2.1, e _ _ h.2.2⟩
mutual
theorem Rp.ext (e : Ext H H') : ∀ {v : V} {d : D}, Rp K mg F c H v d → Rp K mg F c H' v d
  | _, _, .non => .non
  | _, _, .bl b => .bl b
  | _, _, .int i => .int i
  | _, _, .str x => .str x
  | _, _, .lst f h r => .lst f (e _ _ h) (Rps.ext e r)
  | _, _, .scr h => .scr (h.ext e)
  | _, _, .tup h r => .tup (h.ext e) (Rps.ext e r)
  | _, _, .obj m f h r => .obj m f (slAt_ext h e) (Rps.ext e r)
  | _, _, .ino m f h q r => .ino m f (e _ _ h) q (Rps.ext e r)
  | _, _, .ref h => .ref h
  | _, _, .glb h => .glb h
  | _, _, .lam f h g k z => .lam f (e _ _ h) g (e _ _ k) z
  | _, _, .lamD f h g k z t u w => .lamD f (e _ _ h) g (e _ _ k) z t (e _ _ u) w
theorem Rps.ext (e : Ext H H') : ∀ {vs : List V} {ds : List D}, Rps K mg F c H vs ds → Rps K mg F c H' vs ds
  | _, _, .nil => .nil
  | _, _, .cons h r => .cons (Rp.ext e h) (Rps.ext e r)
end
/-- two instances of n with the same plain data -/
def RSame (K : PySem.W.Frag) (mg : Str → Option Value) (n : Str) : Addr → Addr → Hp → Prop := fun a b H => ∃ F c F' c' ds, Rp K mg F c H (.ref a) (.obj n ds) ∧ Rp K mg F' c' H (.ref b) (.obj n ds) ∧ ds ≠ [] ∧ plains 20 ds = true
theorem RSame.ext {n : Str} {a b : Addr} (h : RSame K mg n a b H) (e : Ext H H') : RSame K mg n a b H' := by
  obtain ⟨F, c, F', c', ds, h1, h2, h3⟩ := h
  exact ⟨F, c, F', c', ds, h1.ext e, h2.ext e, h3⟩
end
/-- the text of an own == : isinstance(other, n) and self.f == other.f, f in slot 0 -/
def tEqText (K : PySem.W.Frag) (C : Addr) : TS := tRet (tAndV (tIsiO C (tVar 1)) (tOp (rEqD K) (VE.tSlotB C 0 (tVar 0)) (VE.tSlotB C 0 (tVar 1))))
section
variable {P : Program} {w : World} {K : PySem.W.Frag} {mg : Str → Option Value} {base : Heap}
theorem okEqText {n qual : Str} {stm : Stmt} {f C : Addr} {fd : FuncData} (Fn : Fun K "__eq__" qual stm f fd) (S : FnScope ["self", "other"] ["self", "other"] (defScope stm)) (hC : mg n = some (.ref C))
    (hb : ∀ (cdv : Value) (A : Around) (outer : List Env) (s : Shared) (H : Hp) (E : XK), Room 0 (A.deeper (envOfC qual (defScope stm) s.heap.objs.size f cdv)) →
      PSs (cxOf (L2.CX P w) P w K mg base ["self", "other"] qual (defScope stm) f cdv A outer s H E) (defBody stm) (tEqText K C)) : FnOk P w K mg base (L2.CX P w) 1 f fd ["self", "other"] (spEq (RSame K mg n)) := by
  refine Fn.okX S (fun vs H Q E h => ?_) (fun cdv A outer s H vs Q E hr h => ?_)
  · obtain ⟨a, b, rfl, _⟩ := h; rfl
  · obtain ⟨a, b, rfl, ⟨F, c, F', c', ds, h1, h2, h0, h3⟩, q⟩ := h
    refine ⟨_, hb cdv A outer s H E hr, ?_⟩
    cases h1 with
    | obj m1 f1 s1 r1 =>
      cases h2 with
      | obj m2 f2 s2 r2 =>
        rw [hC] at m1 m2; cases m1; cases m2
        refine ⟨_, rfl, ⟨_, _, _, rfl, s2, true, rfl, ?_⟩⟩
        rw [if_pos rfl]
        cases ds with
        | nil => exact (h0 rfl).elim
        | cons d ds =>
          cases r1 with
          | cons a1 t1 =>
            cases r2 with
            | cons a2 t2 =>
              simp only [plains, Bool.and_eq_true] at h3
              refine ⟨_, rfl, _, _, _, _, rfl, s1, rfl, _, rfl, _, _, _, _, rfl, s2, rfl, toPy d, toPy d, a1.dp 20 h3.1, a2.dp 20 h3.1, shaped_of (by decide) h3.1, shaped_of (by decide) h3.1, ?_⟩
              rw [SeqAt.eqv_refl _ (canLay_of 20 d h3.1)]
              exact q H fun _ _ h => h
/-- the own == of n, whose instances are equal where their data are -/
structure EqR (P : Program) (w : World) (K : PySem.W.Frag) (mg : Str → Option Value) (base : Heap) (n : Str) : Prop where
  ex : ∃ C f fd ps, mg n = some (.ref C) ∧ PySem.W.findIn K (.ref C) "__eq__" = some (some (.ref f)) ∧ PySem.W.isFn K (.ref f) = true ∧ FnOk P w K mg base (L2.CX P w) 1 f fd ps (spEq (RSame K mg n)) ∧ Binds K fd ps []
/-- .. as a function of data -/
structure EqV (P : Program) (w : World) (K : PySem.W.Frag) (mg : Str → Option Value) (base : Heap) (k : Nat) (n : Str) (m : FM) : Prop where
  ex : ∃ C f fd ps, mg n = some (.ref C) ∧ PySem.W.findIn K (.ref C) "__eq__" = some (some (.ref f)) ∧ PySem.W.isFn K (.ref f) = true ∧ PySem.W.findIn K (.ref C) "__ne__" = some (some (.builtin "object.__ne__")) ∧ PySem.W.subIn K (.ref C) (.type "object") = some true ∧
    FnOk P w K mg base (L2.CX P w) k f fd ps (spV K mg false 2 m) ∧ Binds K fd ps []
end
/-- a tuple of texts and a tuple of instances of n -/
def okBk (n : Str) (x : D) : Prop := ∃ ks rs, x = .tup [.tup ks, .tup rs] ∧ (∀ k ∈ ks, ∃ s, k = .str s) ∧ ∀ r ∈ rs, ∃ ds, r = .obj n ds ∧ ds ≠ [] ∧ plains 20 ds = true
noncomputable def eqOk (n : Str) (x y : D) : Bool := @decide (x = y ∧ okBk n x) (Classical.propDecidable _)
omit [VEnv] in
theorem eqOk_iff {n : Str} {x y : D} : eqOk n x y = true ↔ x = y ∧ okBk n x := by unfold eqOk; exact @decide_eq_true_iff _ (Classical.propDecidable _)
noncomputable def eqB (n : Str) : D → D → Option D := fun x y => if eqOk n x y then some (.bl true) else none
section
variable {X : Cx} {W : WX} {e a : Expr} {pos p p2 : Pos} {ta : TE} {fa fb : M D} {n : Str} {b : Bs} {F F' : Addr → Prop} {c : List Addr} {env : EnvD} {st : Sto} {σ : L2.St} {H H' : Hp}
def DAny (K : PySem.W.Frag) (C : Addr) (mg : Str → Option Value) (n : Str) : Eqv := fun x y H => DTup K DFlat x y H ∨ DTup K (DSl C (RSame K mg n)) x y H
theorem Rel.ext (r : Rel b F c env st σ H) (e : Ext H H') : Stp F c H F c H' ∧ Rel b F c env st σ H' := by
  have s : Stp F c H F c H' := ⟨fun _ h => h, fun a o _ h => e a o h, ⟨[], (List.append_nil c).symm⟩, fun d x h => e _ _ h, fun d o u h => e _ _ h⟩
  exact ⟨s, r.grow s e (fun a f => by obtain ⟨o, h⟩ := r.rc.trk a f; exact ⟨o, e _ _ h⟩) fun a f => .inl f⟩
theorem mon_sl {C : Addr} {R : Addr → Addr → Hp → Prop} (hR : ∀ a b H H', Ext H H' → R a b H → R a b H') : Mon (DSl C R) := fun x y H H' e d => by
  obtain ⟨a, b, dx, dy, vs, ws, h1, h2, h3, h4, h5⟩ := d
  exact ⟨a, b, dx, dy, vs, ws, h1, h2, slAt_ext h3 e, slAt_ext h4 e, hR _ _ _ _ e h5⟩
theorem prs_flat {K : PySem.W.Frag} {mg : Str → Option Value} {F F' : Addr → Prop} {c c' : List Addr} : ∀ {ks : List D} {xs ys : List V}, (∀ k ∈ ks, ∃ s, k = .str s) → Rps K mg F c H xs ks → Rps K mg F' c' H ys ks → Prs DFlat xs ys H
  | [], _, _, _, .nil, .nil => .nil
  | k :: ks, _, _, h, .cons a t, .cons a' t' => by
    obtain ⟨s, rfl⟩ := h k (List.mem_cons_self ..)
    cases a; cases a'
    exact .cons ⟨rfl, rfl, by simp [eqV]⟩ (prs_flat (fun k hk => h k (List.mem_cons_of_mem _ hk)) t t')
theorem prs_sl {K : PySem.W.Frag} {mg : Str → Option Value} {F F' : Addr → Prop} {c c' : List Addr} {C : Addr} (hC : mg n = some (.ref C)) : ∀ {ks : List D} {xs ys : List V}, (∀ r ∈ ks, ∃ ds, r = .obj n ds ∧ ds ≠ [] ∧ plains 20 ds = true) → Rps K mg F c H xs ks → Rps K mg F' c' H ys ks → Prs (DSl C (RSame K mg n)) xs ys H
  | [], _, _, _, .nil, .nil => .nil
  | k :: ks, _, _, h, .cons a t, .cons a' t' => by
    obtain ⟨ds, rfl, h1, h2⟩ := h k (List.mem_cons_self ..)
    refine .cons ?_ (prs_sl hC (fun k hk => h k (List.mem_cons_of_mem _ hk)) t t')
    have b := a
    have b' := a'
    cases a with
    | obj m1 f1 s1 r1 =>
      cases a' with
      | obj m2 f2 s2 r2 =>
        rw [hC] at m1 m2; cases m1; cases m2
        exact ⟨_, _, _, _, _, _, rfl, rfl, s1, s2, _, _, _, _, _, b, b', h1, h2⟩
omit [VEnv] in
theorem passNone : Passes (L2.CX X.prog X.w) X (fun _ _ _ => False) := fun pins σ H s e s' I h => by
  obtain ⟨_, _, _, _, _, _, _, _, _, _, _, _, z⟩ := h
  exact z.elim
theorem ve_eqB (Q : EqR X.prog X.w X.K X.mg X.base n) (hr : Room 3 X.A) (ha : VE X W e fa) (hb : VE X W a fb) : VE X W (.Compare e [.Eq] [a] pos) (eBin (sc2 (eqB n)) fa fb) := by
  obtain ⟨C, f, fd, ps, hC, hs, hf, Fo, hbi⟩ := Q.ex
  have key : OpR X (compareOp .Eq) (rEqG (DTup X.K (DAny X.K C X.mg n))) :=
    op_eqG (rcG_tup ((mon_tup mon_flat).or (mon_tup (mon_sl fun _ _ _ _ e h => h.ext e))) (((eqG_tup mon_flat eqG_flat).mono (by decide)).or (eqG_tup (n := 1) (mon_sl fun _ _ _ _ e h => h.ext e) (eqG_sl (E := fun _ _ _ => False) Fo hs hf hbi passNone)))) hr
  refine ve_cmp key (fun b F c env st σ H x y dx dy Q e1 e2 r hx hy p => ?_) ha hb (nomark _)
  unfold sc2 ret eqB at p
  split at p
  · rename_i d ed
    split at ed
    · rename_i hh
      obtain ⟨rfl, ks, rs, rfl, h1, h2⟩ := eqOk_iff.mp hh
      cases ed
      refine ⟨?_, fun H' ex => ?_⟩
      · cases hx with
        | tup q1 r1 =>
          cases hy with
          | tup q2 r2 =>
            rw [e1] at q1 q2
            refine ⟨_, _, _, _, rfl, rfl, q1.sq, q2.sq, ?_⟩
            cases r1 with
            | cons a1 t1 => cases t1 with
              | cons b1 t1 => cases t1; cases r2 with
                | cons a2 t2 => cases t2 with
                  | cons b2 t2 =>
                    cases t2; cases a1; cases a2; cases b1; cases b2
                    rename_i u1 u2 u3 u4 u5 u6 u7 u8 u9 u10 u11 u12
                    rw [e1, e2] at *
                    exact .cons (.inl ⟨_, _, _, _, rfl, rfl, FqT.sq (by assumption), FqT.sq (by assumption), prs_flat h1 (by assumption) (by assumption)⟩) (.cons (.inr ⟨_, _, _, _, rfl, rfl, FqT.sq (by assumption), FqT.sq (by assumption), prs_sl hC h2 (by assumption) (by assumption)⟩) .nil)
      · obtain ⟨s, r'⟩ := r.ext ex
        exact p _ _ _ s r' _ (.bl true)
    · cases ed
  · exact p.elim
/-- x != y, where the own == says True -/
def neO (n : Str) (m : FM) : D → D → M D := fun x y env st => match x, y with
  | .obj n1 xs, .obj n2 ys => if n1 = n ∧ n2 = n then (match m [.obj n1 xs, .obj n2 ys] st with
    | .ok (.bl true) st => .ok (.bl false) env st
    | _ => .bad) else .bad
  | _, _ => .bad
end
section
variable {X : Cx} {k : Nat}
def rNeO (C : Addr) (sp : Sp) (E : XK) : R2 := fun x y H Q => ∃ a b dx dy vs ws, x = .ref a ∧ y = .ref b ∧ VE.SlAt H a C dx vs ∧ VE.SlAt H b C dy ws ∧ sp [x, y] H (fun v H' => v = .bl true ∧ Q (.bl false) H') E
omit [VEnv] in
theorem op_neO {CX : CXT} {C f : Addr} {fd : FuncData} {ps : List Str} {sp : Sp} {E : XK} (F : FnOk X.prog X.w X.K X.mg X.base CX k f fd ps sp) (hr : Room (k + 1) X.A)
    (hs : PySem.W.findIn X.K (.ref C) "__eq__" = some (some (.ref f))) (hf : PySem.W.isFn X.K (.ref f) = true) (hne : PySem.W.findIn X.K (.ref C) "__ne__" = some (some (.builtin "object.__ne__"))) (hsub : PySem.W.subIn X.K (.ref C) (.type "object") = some true)
    (hb : Binds X.K fd ps []) (hx : Passes CX X E) : OpR X (compareOp .NotEq) (rNeO C sp E) := by
  intro pins s σ H x y v u Q I rx ry hq
  obtain ⟨a, b, dx, dy, fs, gs, rfl, rfl, ha, hb', hsp⟩ := hq
  cases rx
  cases ry
  show wpAny (model X.prog X.w) X.A (richCompare .NotEq (.ref a) (.ref b)) (EP X pins σ Q) X.xe s
  have sb : L2.Sub X (k + 1) X.A := ⟨hr, rfl⟩
  obtain ⟨us, od, _, _, J⟩ := VE.slAt_get I ha
  obtain ⟨us', od', _, _, J'⟩ := VE.slAt_get I hb'
  obtain ⟨m, hF⟩ := I.fr
  refine PySem.W.ne_K (tb := .ref C) (by have := sb.in1.room.units0; exact this) hF I.ok.mod.kin J J'.type (by simp [PySem.W.notFirst]) hs hf hne hsub ?_
  have e0 : Env0 X.prog X.w X.K X.mg X.base X.A.in1 X.stack s H := by
    have e := I.env0
    exact ⟨by rw [sb.in1.fr]; exact e.frames, e.mod, e.bs, e.bsz, e.funs, e.frf, e.hok, e.bare⟩
  have hl := F.len _ _ _ _ hsp
  have r2 : Vals [V.ref a, V.ref b] [Value.ref a, Value.ref b] := .cons rfl (.cons rfl .nil)
  refine wpAny_call (codeAny_mono (F.run X.A.in1 X.stack s H ⟨[.ref a, .ref b], []⟩ [.ref a, .ref b] [.ref a, .ref b] _ E sb.in1.room e0 (by
    have := hb s [.ref a, .ref b] I.kIn (by simpa using hl)
    simpa using this) r2 hsp) fun r s' hq => ?_)
  cases r with
  | error e => exact hx pins σ H s e s' I hq
  | ok fl =>
    cases fl with
    | ret w =>
      obtain ⟨z, H', I', rz, ez, q⟩ := I.after hq
      subst ez
      cases rz
      exact ⟨rfl, .bl false, H', I', rfl, q⟩
    | next => exact False.elim hq
    | brk => exact False.elim hq
    | cont => exact False.elim hq
end
section
variable {X : Cx} {W : WX} {e a : Expr} {pos p p2 : Pos} {fa fb : M D} {n : Str} {k : Nat} {m : FM}
theorem ok_neO {C f : Addr} {σ : L2.St} (hC : X.mg n = some (.ref C)) : ∀ b F c env st σ' H x y dx dy Q, b.K = X.K → b.mg = X.mg → Rel b F c env st σ' H → Rp b.K b.mg F c H x dx → Rp b.K b.mg F c H y dy → Post b W F c σ' H (fun d _ _ F' c' H' => ∀ v, Rp b.K b.mg F' c' H' v d → Q v H') (neO n m dx dy env st) → rNeO C (spV X.K X.mg false 2 m) (fun _ _ _ => False) x y H Q := by
  intro b F c env st σ' H x y dx dy Q e1 e2 r hx hy p
  unfold neO at p
  split at p
  · rename_i n1 xs n2 ys
    split at p
    · rename_i hh
      obtain ⟨rfl, rfl⟩ := hh
      have gx := hx
      have gy := hy
      cases hx with
      | obj m1 f1 s1 r1 =>
        cases hy with
        | obj m2 f2 s2 r2 =>
          rw [e2, hC] at m1 m2; cases m1; cases m2
          refine ⟨_, _, _, _, _, _, rfl, rfl, s1, s2, ?_⟩
          rw [← e1, ← e2]
          refine ⟨F, c, [.obj n2 xs, .obj n2 ys], st, r.rc, .cons gx (.cons gy .nil), rfl, ?_⟩
          generalize m [.obj n2 xs, .obj n2 ys] st = z at p
          cases z with
          | ok d st' =>
            cases d with
            | bl t =>
              cases t with
              | true =>
                intro v F' c' H' s rc o rv
                cases (show Rp b.K b.mg F' c' H' v (.bl true) from rv)
                exact ⟨rfl, p F' c' H' s (r.call s rc o) _ (.bl false)⟩
              | false => exact p.elim
            | _ => exact p.elim
          | ex x st' => exact p.elim
          | bad => exact p.elim
    · exact p.elim
  · exact p.elim
theorem vt_neO (Q : EqV X.prog X.w X.K X.mg X.base k n m) (hr : Room (k + 1) X.A) (ha : VE X W e fa) (hb : VE X W a fb) : VT X W (.Compare e [.NotEq] [a] pos) (eT (eBin (neO n m) fa fb)) := by
  obtain ⟨C, f, fd, ps, hC, hs, hf, hne, hsub, Fo, hbi⟩ := Q.ex
  exact vt_cmp (op_neO Fo hr hs hf hne hsub hbi passNone) (ok_neO (C := C) (f := f) (σ := []) hC) ha hb (nomark _)
end
section
open PySem.W
variable {prog : Program} {w : World} {A : Around} {E : Value → Shared → Prop} {s : Shared} {K : Frag} {x C f : Addr} {ox : Obj} {od : Option Obj}
end
section
variable {X : Cx} {W : WX} {e a : Expr} {pos p p2 : Pos} {fa fb : M D} {n : Str} {k : Nat} {m : FM}
end
end VE
namespace VE
open PySem PySem.Spec PyProof.Rows L2
variable [VEnv]
section
variable {κ : Type} [DecidableEq κ]
variable {K : PySem.W.Frag} {mg : Str → Option Value} {F : Addr → Prop} {c : List Addr} {H : Hp} {k : κ}
end
section
variable {K : PySem.W.Frag} {mg : Str → Option Value} {F : Addr → Prop} {c : List Addr} {H : Hp}
end
/-- what the dict at a tells of y -/
structure Getb (X : Cx) (H : Hp) (a : Addr) (y : V) (o : Option V) : Prop where
  get : ∀ (pins : List (Addr × Obj)) (σ : L2.St) (s : Shared) (A : Around) (u : Value) (E : Value → Shared → Prop) (v : V) (Q : Value → Shared → Prop), Inv X pins σ H s → A.units + 1 < cLine → RelV y u → o = some v → (∀ w' s', Inv X pins σ H s' → RelV v w' → Q w' s') → wpAny (model X.prog X.w) A (getItem (.ref a) u) Q E s
  in_ : ∀ (pins : List (Addr × Obj)) (σ : L2.St) (s : Shared) (A : Around) (u : Value) (E : Value → Shared → Prop) (Q : Value → Shared → Prop), Inv X pins σ H s → A.units + 1 < cLine → RelV y u → (∀ s', Inv X pins σ H s' → Q (.bool o.isSome) s') → wpAny (model X.prog X.w) A (compareOp .In u (.ref a)) Q E s
  notIn : ∀ (pins : List (Addr × Obj)) (σ : L2.St) (s : Shared) (A : Around) (u : Value) (E : Value → Shared → Prop) (Q : Value → Shared → Prop), Inv X pins σ H s → A.units + 1 < cLine → RelV y u → (∀ s', Inv X pins σ H s' → Q (.bool (!o.isSome)) s') → wpAny (model X.prog X.w) A (compareOp .NotIn u (.ref a)) Q E s
  get2 : ∀ (pins : List (Addr × Obj)) (σ : L2.St) (s : Shared) (A : Around) (u r : Value) (d : V) (E : Value → Shared → Prop) (Q : Value → Shared → Prop), Inv X pins σ H s → A.units + 1 < cLine → RelV y u → RelV d r → (∀ w' s', Inv X pins σ H s' → RelV (o.getD d) w' → Q w' s') → wpAny (model X.prog X.w) A (call (.builtin "dict.get") [.ref a, u, r]) Q E s
/-- a dict stands at a -/
def Dictb (X : Cx) (H : Hp) (a : Addr) : Prop := ∀ (pins : List (Addr × Obj)) (σ : L2.St) (s : Shared), Inv X pins σ H s → s.TypeIs (.ref a) "dict" ∧ (∀ b, Value.ref a = .ref b → ∃ ob, s.heap.get? b = some ob ∧ ob.dict = none)
section
variable {X : Cx} {H : Hp} {a : Addr}
end
section
variable {X : Cx} {b : Bs} {F : Addr → Prop} {c : List Addr} {env : EnvD} {st : Sto} {σ : L2.St} {H : Hp} {n : Nat} {x : Cell} {v y : V} {dy : D}
end
section
variable {X : Cx}
end
section
variable {X : Cx} {W : WX} {e a o d : Expr} {pos p pos' : Pos} {fa fb fo fi fd : M D} {k : Nat}
/-- d.get(k, x) -/
def tGet2X (X : Cx) (td ty tx : TE) : TE := fun σ H Q => td σ H fun x H1 => ∃ a, x = .ref a ∧ Dictb X H1 a ∧ ty σ H1 fun y H2 => tx σ H2 fun z H3 => ∃ o, Getb X H3 a y o ∧ Q (o.getD z) H3
omit [VEnv] in
theorem pe_get2X {apos cpos : Pos} {td ty tx : TE} {f : Expr} (hu : X.A.units + 1 < cLine) (ho : PE X o td) (he : PE X e ty) (hf : PE X f tx) (m : M2 X o "get" apos e f cpos) : PE X (.Call (.Attribute o "get" apos) [e, f] [] cpos) (tGet2X X td ty tx) := by
  refine ⟨fun pins s σ H Q I h => ?_⟩
  refine wpAny_Call_method m.base m.few m.line PySem.F.plainAttrs_dict PySem.F.slot_dict_get PySem.F.type_dict_get (thn (ho.run pins s σ H _ I h) fun u s1 ⟨x, H1, I1, rx, a, ex, d, q1⟩ => ?_)
  subst ex
  obtain rfl : u = Value.ref a := rx
  obtain ⟨t1, t2⟩ := d pins σ s1 I1
  refine ⟨t1, t2, ?_⟩
  rw [m.trees]
  refine Calls.callWith_builtin rfl (Calls.evalArgs_plain (Calls.spliced_cons (thn (he.run pins s1 σ H1 _ I1 q1) fun iv s2 ⟨y, H2, I2, ry, q2⟩ =>
    Calls.spliced_cons (thn (hf.run pins s2 σ H2 _ I2 q2) fun fv s3 ⟨z, H3, I3, rz, ov, g, q3⟩ => Calls.spliced_nil ?_))))
  exact g.get2 pins σ s3 X.A iv fv z _ _ I3 hu ry rz fun w' s4 I4 rw' => ⟨_, H3, I4, rw', q3⟩
end
end VE
namespace VE
open PySem PySem.Spec PyProof.Rows L2
variable [VEnv]
section
variable {P : Program} {w : World} {K : PySem.W.Frag} {tg : Expr} {d : Addr} {o : Obj} {es : Array DictEntry} {ep : Nat} {u : HO} {ys : List V}
end
section
variable {P : Program} {w : World} {d : Addr} {o : Obj}
end
section
variable {X : Cx}
end
section
variable {X : Cx} {W : WX} {b : Bs} {F : Addr → Prop} {c : List Addr} {env : EnvD} {st : Sto} {σ : L2.St} {H : Hp}
end
end VE
namespace VE
open PySem PySem.Spec PyProof.Rows L2
variable [VEnv]
section
variable {X : Cx} {H : Hp} {a : Addr}
end
section
variable {X : Cx}
end
section
variable {X : Cx} {W : WX} {b : Bs} {F : Addr → Prop} {c : List Addr} {env : EnvD} {st : Sto} {σ : L2.St} {H : Hp} {n : Nat} {x : Cell} {v : V}
end
end VE
namespace VE
open PySem PySem.Spec PyProof.Rows L2
variable [VEnv]
section
variable {b : Bs} {F : Addr → Prop} {c : List Addr} {env : EnvD} {st : Sto} {σ : L2.St} {H : Hp} {a : Addr} {ds : List D}
end
section
variable {X : Cx} {W : WX} {e : Expr} {f : M D}
end
section
variable {X : Cx} {W : WX} {e a o d tg iter : Expr} {es : List Expr} {pos p pos' : Pos} {fa fb fo fi : M D} {fs : M (List D)} {x : Str} {k : Nat}
end
section
variable {X : Cx} {W : WX} {a o : Expr} {pos : Pos} {fo fa : M D}
end
end VE
namespace VE
open PySem PySem.Spec PyProof.Rows L2
variable [VEnv]
section
variable {X : Cx} {W : WX} {a e : Expr} {fb fe : M D} {pos p : Pos}
end
end VE
namespace VE
open PySem PySem.Spec PyProof.Rows L2
variable [VEnv]
section
variable {X : Cx} {W : WX} {e a d tg : Expr} {fa fb fc fi fd : M D} {pos p : Pos} {k : Nat}
def rngC (i c : Int) (n : Nat) : List D := (List.range n).map fun k => .int (i + (k : Nat) * c)
theorem walks_rngC {b : Bs} {F : Addr → Prop} {c : List Addr} {H : Hp} {lo st : Int} {n : Nat} : Walks b (Itc lo st n) (rngC lo st n) F c H := by
  intro F' c' H' s i
  unfold rngC
  refine ⟨fun d hd => ?_, fun hi => by show n ≤ i; simpa using hi⟩
  rw [List.getElem?_map] at hd
  by_cases hi : i < n
  · rw [List.getElem?_range hi] at hd; cases hd
    refine ⟨hi, fun x H2 y => ?_⟩
    obtain ⟨rfl, rfl⟩ := y
    exact .inl ⟨rfl, .int _⟩
  · rw [List.getElem?_eq_none (by simpa using hi)] at hd; cases hd
def iR3 (fa fb fc : M D) : M (List D) := fun env st => (fa env st).bind fun d env st => (fb env st).bind fun d' env st => (fc env st).bind fun d'' env st => match d, d', d'' with
  | .int i, .int j, .int c => if decide (c ≠ 0) && decide (c.natAbs < 1073741824) && Builtin.Range.small i j c && decide (0 ≤ Builtin.Range.rangeSize i j c) then .ok (rngC i c (Builtin.Range.rangeSize i j c).toNat) env st else .bad
  | _, _, _ => .bad
theorem vi_r3 {c : Expr} (hm : X.mg "range" = none) (h : VE X W e fa) (h2 : VE X W a fb) (h3 : VE X W c fc) (hg : Gl X "range" := by rfl)
    (hs : starEach [e, a, c] X.env = (false, eval e X.env) :: starEach [a, c] X.env := by rfl) (hs2 : starEach [a, c] X.env = (false, eval a X.env) :: starEach [c] X.env := by rfl) (hs3 : starEach [c] X.env = (false, eval c X.env) :: starEach [] X.env := by rfl)
    (hpl : (backTo pos (starEach [a, c] X.env)).any (·.1) = false := by rfl) : VI X W tg (.Call (.Name "range" p) [e, a, c] [] pos) (iR3 fa fb fc) :=
  ⟨_, pi_range3 hg hm (pa_cons h (pa_cons h2 (pa_cons h3 pa_nil hs3) hs2) hs) hs hpl, fun σ H R ⟨b, F, cc, env, st, e1, e2, r, p⟩ => tE_at e1 e2 r p fun v d env1 st1 F1 c1 H1 s1 r1 rp1 p1 => tE_at e1 e2 r1 p1 fun v' d' env2 st2 F2 c2 H2 s2 r2 rp2 p2 => tE_at e1 e2 r2 p2 fun v'' d'' env3 st3 F3 c3 H3 s3 r3 rp3 p3 => by
    split at p3
    · rename_i i j c
      cases rp1; cases rp2; cases rp3
      split at p3
      · rename_i hh
        simp only [Bool.and_eq_true, decide_eq_true_eq] at hh
        obtain ⟨⟨⟨h1, h2⟩, h3⟩, h4⟩ := hh
        exact ⟨i, j, c, _, rfl, ⟨h1, h2, h3, (Int.toNat_of_nonneg h4).symm⟩, Post.here r3 p3 _ walks_rngC⟩
      · exact p3.elim
    · exact p3.elim⟩
structure KdV (K : PySem.W.Frag) (w : World) (mg : Str → Option Value) (x : Str) (kvs : List (Str × D)) : Prop where
  ex : ∃ a es n, mg x = some (.ref a) ∧ KDict K w a es n ∧ ∀ z d, kvs.lookup z = some d → ∃ u v, PySem.W.nsIn K a z = some (some u) ∧ RelV v u ∧ ∀ F c H, Rp K mg F c H v d
omit [VEnv] in
theorem kd_nil {Pq : Str → D → Prop} : ∀ z d, ([] : List (Str × D)).lookup z = some d → Pq z d := fun z d h => by cases h
omit [VEnv] in
theorem kd_cons {Pq : Str → D → Prop} {k : Str} {v : D} {kvs : List (Str × D)} (h0 : Pq k v) (h : ∀ z d, kvs.lookup z = some d → Pq z d) : ∀ z d, ((k, v) :: kvs).lookup z = some d → Pq z d := by
  intro z d e
  rw [List.lookup_cons] at e
  split at e
  · rename_i q
    cases e
    rw [beq_iff_eq.mp q]; exact h0
  · exact h z d e
omit [VEnv] in
theorem getb_KD {H : Hp} {a : Addr} {es : Array DictEntry} {n : Nat} {z : Str} {u0 : Value} {v : V} (D : KDict X.K X.w a es n) (hn : PySem.W.nsIn X.K a z = some (some u0)) (rv : RelV v u0) : Getb X H a (.str z) (some v) where
  get := fun pins σ s A u E v' Q I hu ru ev q => by
    cases ev
    obtain ⟨t, rfl⟩ := ru
    exact wpAny_getItem_of (strKind_is X.prog X.w z t) (PySem.W.mapOf_K (prog := X.prog) I.kIn D.at_ D.lit) (PySem.W.find_K D.at_ hn) (q u0 _ (I.tok _) rv)
  in_ := fun pins σ s A u E Q I hu ru q => by
    obtain ⟨t, rfl⟩ := ru
    refine wpAny_in_of (strKind_is X.prog X.w z t) D.low (PySem.W.mapOf_K (prog := X.prog) I.kIn D.at_ D.lit) ?_
    rw [PySem.W.find_K D.at_ hn]
    exact q _ (I.tok _)
  notIn := fun pins σ s A u E Q I hu ru q => by
    obtain ⟨t, rfl⟩ := ru
    refine wpAny_notIn_of (strKind_is X.prog X.w z t) D.low (PySem.W.mapOf_K (prog := X.prog) I.kIn D.at_ D.lit) ?_
    rw [PySem.W.find_K D.at_ hn]
    exact q _ (I.tok _)
  get2 := fun pins σ s A u r d E Q I hu ru rd q => by
    obtain ⟨t, rfl⟩ := ru
    have hm := PySem.W.mapOf_K (prog := X.prog) (w := X.w) I.kIn D.at_ D.lit
    refine call_meetsIn PySem.F.slot_dict_get hm.typeIs PySem.F.entry_dict_get (PySem.F.args_dict_get_3 _ _ _) (meets_dict_get_default (strKind X.prog X.w) a (strKind_is X.prog X.w z t) D.low r) ⟨_, hm, ?_⟩
    rw [PySem.W.find_K D.at_ hn]
    exact q u0 _ (I.tok _) rv
omit [VEnv] in
theorem dictb_KD {H : Hp} {a : Addr} {es : Array DictEntry} {n : Nat} (D : KDict X.K X.w a es n) : Dictb X H a := fun pins σ s I =>
  ⟨(PySem.W.mapOf_K (prog := X.prog) (w := X.w) I.kIn D.at_ D.lit).typeIs, fun b q => by cases q; exact ⟨_, I.kIn _ _ D.at_, rfl⟩⟩
def eGetK (kvs : List (Str × D)) (fi fd : M D) : M D := fun env st => (fi env st).bind fun k env st => (fd env st).bind fun d env st => match k with
  | .str z => ret (kvs.lookup z) env st
  | _ => .bad
theorem ve_getK {x : Str} {kvs : List (Str × D)} {apos : Pos} (cv : KdV X.K X.w X.mg x kvs) (hr : Room k X.A) (hi : VE X W a fi) (hd : VE X W d fd) (hg : Gl X x := by rfl) (hdb : (x == ("__debug__" : Str)) = false := by decide) (m : M2 X (.Name x p) "get" apos a d pos := by exact ⟨rfl, rfl, rfl, rfl⟩) :
    VE X W (.Call (.Attribute (.Name x p) "get" apos) [a, d] [] pos) (eGetK kvs fi fd) := by
  obtain ⟨q, es, n, hm, D, hk⟩ := cv.ex
  refine PEof (pe_get2X (by have := hr.un; omega) (pe_glob hg hm (v := V.ref q) rfl hdb) hi hd m) fun σ H Q ⟨b, F, c, env, st, e1, e2, r, p⟩ => ?_
  refine ⟨q, rfl, dictb_KD D, tE_at e1 e2 r p fun w kk env2 st2 F2 c2 H2 s2 r2 rp2 p2 => tE_at e1 e2 r2 p2 fun z d env3 st3 F3 c3 H3 s3 r3 rp3 p3 => ?_⟩
  split at p3
  · rename_i z
    cases rp2
    unfold ret at p3
    split at p3
    · rename_i dd ed
      obtain ⟨u, v, h1, h2, h3⟩ := hk _ _ ed
      exact ⟨some v, getb_KD D h1 h2, Post.here r3 p3 v (by rw [e1, e2]; exact h3 _ _ _)⟩
    · exact p3.elim
  · exact p3.elim
end
end VE
namespace VE
open PySem PySem.Spec PyProof.Rows L2
variable [VEnv]
section
variable {X : Cx} {W : WX} {a e : Expr} {pos p1 p2 : Pos} {fa fb : M D} {k1 k2 : Str} {j1 j2 : Nat}
end
end VE
namespace VE
open PySem PySem.Spec PyProof.Rows L2
variable [VEnv]
section
variable {X : Cx} {W : WX} {a e q1 q2 : Expr} {fa fb f1 f2 : M D} {pos p : Pos}
end
section
variable {i : Nat} {f fa fb f1 f2 : M D} {d : D} {g : M Fl} {env : EnvD} {st : Sto}
end
end VE
namespace PySem.W
open PyProof.Rows
section
variable {prog : Program} {w : World} {A : Around} {E : Value → Shared → Prop} {s : Shared} {K : Frag} {x C L f : Addr} {h₀ : Heap} {m : Str → Option Value} {ox : Obj} {od : Option Obj} {b tb : Value} {t : Bool}
end
end PySem.W
namespace VE
open PySem PySem.Spec PyProof.Rows L2
variable [VEnv]
section
variable {X : Cx} {k : Nat}
end
section
variable {X : Cx} {W : WX} {e a : Expr} {pos p p2 : Pos} {fa fb : M D} {n : Str} {k : Nat} {m : FM}
end
end VE
namespace VE
open PySem PySem.Spec PySem.SeqAt
open AutoSeq1 (wpAny_loadPart')
open MeetsSeq MeetsSeq2 MeetsSeq3 SeqRoads2
section
variable {P : Program} {w : World} {A : Around} {E : Value → Shared → Prop} {Z : Result → Shared → Prop} {s : Shared} {p q : Addr} {N : Nat} {J : Nat → Shared → Prop}
end
end VE
namespace VE
open PySem PySem.Spec PyProof.Rows L2
variable [VEnv]
namespace MN
end MN
section
variable {X : Cx} {W : WX} {e a : Expr} {pos p : Pos} {fa : M D} {k : Nat}
end
end VE
namespace VE
open PySem PySem.Spec PyProof.Rows L2
variable [VEnv]
structure PrI (P : Program) (w : World) (K : PySem.W.Frag) (mg : Str → Option Value) (base : Heap) (k : Nat) (n f : Str) (mf : FM) : Prop where
  ex : ∃ C p g fd ps, mg n = some (.ref C) ∧ L2.Cls K C ∧ PropOf K C f p g ∧ FnOk P w K mg base (L2.CX P w) k g fd ps (spV K mg false 1 mf) ∧ Binds K fd ps []
def prI (n : Str) (mf : FM) : D → M D := fun r env st => match r with
  | .ref q => (match st[q]? with
    | some (.ins n' _) => if n' = n then (match mf [.ref q] st with
      | .ok d st => .ok d env st
      | _ => .bad) else .bad
    | _ => .bad)
  | _ => .bad
def ePrI (n : Str) (mf : FM) (fo : M D) : M D := fun env st => (fo env st).bind (prI n mf)
section
variable {X : Cx} {W : WX} {e : Expr} {pos : Pos} {fa : M D}
omit [VEnv] in
theorem passNox : Passes (L2.CX X.prog X.w) X.nox (fun _ _ _ => False) := fun pins σ H s e s' I h => by
  obtain ⟨_, _, _, _, _, _, _, _, _, _, _, _, z⟩ := h
  exact z.elim
theorem ve_prI {n f : Str} {mf : FM} {k : Nat} (Pv : PrI X.prog X.w X.K X.mg X.base k n f mf) (hr : Room (k + 1) X.A) (h : VE X W e fa) (hb : attributeBase e f X.env (eval e X.env) = eval e X.env := by rfl) : VE X W (.Attribute e f pos) (ePrI n mf fa) := by
  obtain ⟨C, p, g, fd, ps, hC, cl, hp, Fo, hbi⟩ := Pv.ex
  refine PEof (pe_prop h cl hp Fo hr hbi .nil passNox hb) fun σ H Q ⟨b, F, c, env, st, e1, e2, r, p⟩ => tE_at e1 e2 r p fun v d env1 st1 F1 c1 H1 s1 r1 rp1 p1 => ?_
  unfold prI at p1
  split at p1
  · rename_i q
    split at p1
    · rename_i n' fs es
      split at p1
      · rename_i en
        subst en
        obtain ⟨a, rfl, hc, C', dx, vfs, k1, k2, k3, rps⟩ := r1.cell rp1 es
        rw [e2, hC] at k1; cases k1
        refine ⟨a, dx, vfs, rfl, k2, ?_⟩
        rw [← e1, ← e2]
        refine ⟨F1, c1, [.ref q], st1, r1.rc, .cons rp1 .nil, rfl, ?_⟩
        generalize mf [.ref q] st1 = y at p1
        cases y with
        | ok d st' => exact fun v F' c' H' s rc o rv => p1 F' c' H' s (r1.call s rc o) v rv
        | ex x st' => exact p1.elim
        | bad => exact p1.elim
      · exact p1.elim
    · exact p1.elim
  · exact p1.elim
end
section
variable {n n' : Str} {mf : FM} {fo : M D} {q : Nat} {env : EnvD} {st : Sto} {fs : List (Str × D)}
def kPI (n : Str) (mf : FM) (q : Nat) : Option Cell → M D := fun c env st => match c with
  | some (.ins n' _) => if n' = n then kPr3 (mf [.ref q] st) env st else .bad
  | _ => .bad
@[simp] theorem x_ePrI : ePrI n mf fo env st = (fo env st).bind (prI n mf) := rfl
@[simp] theorem x_prI : prI n mf (.ref q) env st = kPI n mf q st[q]? env st := by
  unfold prI kPI
  dsimp only
  cases st[q]? with
  | none => rfl
  | some c =>
    cases c with
    | ins n' fs =>
      dsimp only
      by_cases h : n' = n
      · rw [if_pos h, if_pos h]
        unfold kPr3
        cases mf [.ref q] st <;> rfl
      · rw [if_neg h, if_neg h]
    | _ => rfl
@[simp] theorem x_kPI : kPI n mf q (some (.ins n' fs)) env st = if n' = n then kPr3 (mf [.ref q] st) env st else .bad := rfl
end
end VE
namespace VE
open PySem PySem.Spec PyProof.Rows L2
variable [VEnv]
section
variable {X : Cx} {W : WX} {e a : Expr} {pos : Pos} {fa fb : M D}
end
end VE
namespace VE
open PySem PySem.Spec PyProof.Rows L2
variable [VEnv]
section
variable {b : Bs} {F F' : Addr → Prop} {c : List Addr} {env : EnvD} {st st' : Sto} {σ : L2.St} {H H' : Hp} {a : Addr} {ds : List D} {i : Nat}
end
section
variable {X : Cx} {W : WX} {e : Expr} {f : M D}
end
end VE
namespace VE
open PySem PySem.Spec PyProof.Rows L2
variable [VEnv]
def whileL (ws : List Nat) (tt : M Bool) (g : M Fl) : Nat → M Fl
  | 0, _, _ => .bad
  | n + 1, env, st => (tt env st).bind fun t env st => match t with
    | false => .ok .nx env st
    | true => (g env st).bind fun fl env st => match fl with
      | .nx => whileL ws tt g n (wipeD ws env) st
      | .ct => whileL ws tt g n (wipeD ws env) st
      | .bk => .ok .nx env st
      | .rt d => .ok (.rt d) env st
      | .rf d => .ok (.rf d) env st
section
variable {X : Cx} {W : WX} {pos : Pos}
theorem vs_while {c : Expr} {body : List Stmt} {tt : M Bool} {g : M Fl} (n : Nat) (ws : List Nat) (hp : PassesOwn (model X.prog X.w) X.A X.env X.xe) (hc : VT X W c tt) (hb : VSs X W body g) : VS X W (.While c body [] pos) (whileL ws tt g n) := by
  refine PSof (ps_while hp hc hb) fun D₀ σ H ⟨b, F, c, env, st, e1, e2, r, p⟩ => ?_
  refine ⟨fun m σ' H' => ∃ F' c' env' st', Stp F c H F' c' H' ∧ Rel b F' c' env' st' σ' H' ∧ PostS b W F' c' H' (fun fl _ _ F c σ H => FlOk b D₀ F c σ H fl) (whileL ws tt g m env' st'),
    ⟨n, F, c, env, st, .refl, r, p⟩, fun m σ' H' hw => ?_⟩
  obtain ⟨F', c', env', st', s', r', p'⟩ := hw
  cases m with
  | zero => exact p'.elim
  | succ m =>
    unfold whileL at p'
    refine ⟨b, F', c', env', st', e1, e2, r', (PostS.of p').mono fun t env1 st1 F1 c1 H1 s1 r1 p1 => ?_⟩
    cases t with
    | false => exact PostS.here r1 p1
    | true =>
      refine ⟨_, fun σ2 H2 h2 => ⟨m, by omega, h2⟩, b, F1, c1, env1, st1, e1, e2, r1, (PostS.bind p1).mono fun fl env4 st4 F4 c4 σ4 H4 s4 r4 q => ?_⟩
      cases fl with
      | nx => exact ⟨F4, c4, _, st4, s'.trans (s1.trans s4), r4.wipe ws, q⟩
      | ct => exact ⟨F4, c4, _, st4, s'.trans (s1.trans s4), r4.wipe ws, q⟩
      | bk => exact PostS.here r4 q
      | rt d => exact PostS.here r4 q
      | rf d => exact PostS.here r4 q
end
end VE
namespace VE
open PySem PySem.Spec PyProof.Rows L2
variable [VEnv]
def sSlotW (n : Str) (i : Nat) (fo fe : M D) : M Fl := fun env st => (fe env st).bind fun d env st => (fo env st).bind fun r env st => match r with
  | .ref q => (match st[q]? with
    | some (.slo n' ds) => if n' = n ∧ i < ds.length then .ok .nx env (st.set q (.slo n (ds.set i d))) else .bad
    | _ => .bad)
  | _ => .bad
def kSW2 (n : Str) (i : Nat) (d : D) : D → M Fl := fun r env st => match r with
  | .ref q => (match st[q]? with
    | some (.slo n' ds) => if n' = n ∧ i < ds.length then .ok .nx env (st.set q (.slo n (ds.set i d))) else .bad
    | _ => .bad)
  | _ => .bad
def kSW1 (n : Str) (i : Nat) (fo : M D) : D → M Fl := fun d env st => (fo env st).bind (kSW2 n i d)
def kSW3 (n : Str) (i : Nat) (d : D) (q : Nat) (c : Option Cell) : M Fl := fun env st => match c with
  | some (.slo n' ds) => if n' = n ∧ i < ds.length then .ok .nx env (st.set q (.slo n (ds.set i d))) else .bad
  | _ => .bad
@[simp] theorem x_sSlotW {n : Str} {i : Nat} {fo fe : M D} {env : EnvD} {st : Sto} : sSlotW n i fo fe env st = (fe env st).bind (kSW1 n i fo) := rfl
@[simp] theorem x_kSW1 {n : Str} {i : Nat} {fo : M D} {d : D} {env : EnvD} {st : Sto} : kSW1 n i fo d env st = (fo env st).bind (kSW2 n i d) := rfl
@[simp] theorem x_kSW2 {n : Str} {i q : Nat} {d : D} {env : EnvD} {st : Sto} : kSW2 n i d (.ref q) env st = kSW3 n i d q st[q]? env st := rfl
@[simp] theorem x_kSW3 {n n' : Str} {i q : Nat} {d : D} {ds : List D} {env : EnvD} {st : Sto} : kSW3 n i d q (some (.slo n' ds)) env st = if n' = n ∧ i < ds.length then .ok .nx env (st.set q (.slo n (ds.set i d))) else .bad := rfl
theorem putS_in (vs : List V) (v : V) {i : Nat} (h : i < vs.length) : L2.putS i v (vs.map some) = (vs.set i v).map some := by
  unfold L2.putS
  rw [List.length_map, show i + 1 - vs.length = 0 from by omega, List.map_set]
  simp
theorem Rps.setAt {K : PySem.W.Frag} {mg : Str → Option Value} {F : Addr → Prop} {c : List Addr} {H : Hp} {v : V} {d : D} (hv : Rp K mg F c H v d) : ∀ {vs : List V} {ds : List D} {i : Nat}, Rps K mg F c H vs ds → Rps K mg F c H (vs.set i v) (ds.set i d)
  | _, _, _, .nil => .nil
  | _, _, 0, .cons _ r => .cons hv r
  | _, _, i + 1, .cons h r => .cons h (Rps.setAt hv r)
section
variable {X : Cx} {W : WX} {e o : Expr} {pos pos' : Pos} {fo : M D}
theorem vs_slotW {n f : Str} {fl : List Str} {fe : M D} (i : Nat) (cv : SlV X.K X.mg n fl) (ho : VE X W o fo) (he : VE X W e fe) (hf : fl[i]? = some f := by rfl) (hs : swapsWith e (some (.Attribute o f pos')) pos.line X.env = pure false := by rfl) : VS X W (.Assign [.Attribute o f pos'] e pos) (sSlotW n i fo fe) := by
  obtain ⟨C, hC⟩ := cv.ex
  obtain ⟨p, sl⟩ := cv.at_ C i f hC hf
  refine PSof (ps_slot (cv.cl C hC) sl ho he hs) fun D₀ σ H ⟨b, F, c, env, st, e1, e2, r, p⟩ =>
    sE_at e1 e2 r p fun v d env1 st1 F1 c1 H1 s1 r1 rp1 p1 => sE_at e1 e2 r1 p1 fun u r_ env2 st2 F2 c2 H2 s2 r2 rp2 p2 => ?_
  split at p2
  · rename_i m
    split at p2
    · rename_i n' ds es
      split at p2
      · rename_i hn
        obtain ⟨en, hl⟩ := hn
        subst en
        obtain ⟨q, rfl, hc, C', dx, vs, k1, k2, rps⟩ := r2.cell rp2 es
        have k1' := k1
        rw [e2, hC] at k1'; cases k1'
        refine ⟨q, dx, vs.map some, rfl, k2, ?_⟩
        rw [putS_in vs v (by rw [rps.length]; exact hl)]
        obtain ⟨s4, r4⟩ := r2.cellUpd (o := L2.SlO C dx q ((vs.set i v).map some)) (x := .slo n' (ds.set i d)) hc fun s => ⟨C, dx, vs.set i v, k1, k2.here, Rps.setAt ((rp1.stp s2).stp s) (rps.stp s)⟩
        exact PostS.here (P := fun fl _ _ F c σ H => FlOk b D₀ F c σ H fl) r4 (p2.stp s4)
      · exact p2.elim
    · exact p2.elim
  · exact p2.elim
end
end VE
namespace VE
open PySem PySem.Spec PyProof.Rows L2
variable [VEnv]
section
variable {P : Program} {w : World} {K : PySem.W.Frag} {mg : Str → Option Value} {base : Heap}
end
section
variable {X : Cx} {W : WX} {n : Str} {fs : List Str} {e : Expr} {es : List Expr} {fa : M (List D)} {p pos p3 : Pos}
end
end VE
namespace L2
open PySem PySem.Spec PyProof.Rows
section
variable {X : Cx} {body : List Stmt} {h₀ : ExceptHandler} {hds : List ExceptHandler} {l : List (Value × Option Nat × (Addr → Value → Option Addr → TS))} {pos : Pos} {tb : WX → TS} {Wout : WX}
end
end L2
namespace VE
open PySem PySem.Spec PyProof.Rows L2
variable [VEnv]
/-- a suite: without a name; with one, in slot i -/
inductive HdM where
  | pl (g : M Fl)
  | nm (i : Nat) (g : XI → M Fl)
def dropS (i : Nat) : R Fl → R Fl
  | .ok fl e s => .ok fl (e.set i .no) s
  | r => r
section
variable {b : Bs} {F : Addr → Prop} {c : List Addr} {env : EnvD} {st : Sto} {σ : L2.St} {H : Hp}
end
section
variable {X : Cx} {W : WX} {hds : List ExceptHandler} {hs : List ((List Str × List Str) × HdM)} {g gb : M Fl} {gn : XI → M Fl} {pos np pos' : Pos} {x n : Str} {b₀ h₀ : Stmt} {suite body : List Stmt} {yes no : List Str}
end
section
variable {env e : EnvD} {st s : Sto} {gb : M Fl} {hs : List ((List Str × List Str) × HdM)} {x : Exn} {fl : Fl} {g : M Fl} {gn : XI → M Fl} {yes no : List Str} {i : Nat}
@[simp] theorem x_dropS : dropS i (.ok fl e s) = .ok fl (e.set i .no) s := rfl
end
end VE
namespace PySem
namespace HandSPX
section
variable {M : Model} {A : Around} {E : Value → Shared → Prop} {s : Shared} {Z : Obj → Prop} {base : Heap} {env : Env} {outer l : List Env} {L e : Addr}
end
end HandSPX
end PySem
namespace L2
open PySem PySem.Spec PyProof.Rows
section
variable {X : Cx} {W : WX}
end
end L2
namespace L2
open PySem PySem.Spec PyProof.Rows
section
variable {M : Model} {A : Around} {E : Value → Shared → Prop} {s : Shared} {env : Env}
end
section
variable {X : Cx}
end
end L2
namespace VE
open PySem PySem.Spec PyProof.Rows L2
variable [VEnv]
section
variable {X : Cx} {W : WX} {b : Bs} {F F' : Addr → Prop} {c c' : List Addr} {env : EnvD} {st : Sto} {σ : L2.St} {H H' : Hp} {tg iter : Expr} {pos : Pos}
end
section
variable {ff : M (List D)} {t : D → EnvD → Option EnvD} {ws : List Nat} {tt : M Bool} {fe : M D} {env e' : EnvD} {st s' : Sto} {ds acc : List D} {r : D}
end
end VE
namespace VE
open PySem PySem.Spec PyProof.Rows L2
variable [VEnv]
section
variable {X : Cx} {W : WX} {e a : Expr} {es : List Expr} {pos p : Pos} {fs : M (List D)} {x : Str} {k n : Nat} {m : FMG} {js : List (Str × Nat)} {cells : List (Str × Addr)} {vals : List (Str × D)}
end
end VE
namespace PySem.W
open PySem PySem.Spec PySem.Calls PyProof.Rows
section
variable {prog : Program} {w : World} {A : Around} {E : Value → Shared → Prop} {s : Shared} {K : Frag} {x D : Addr} {ox od : Obj}
end
end PySem.W
namespace L2
open PySem PySem.Spec PyProof.Rows
end L2
namespace VE
open PySem PySem.Spec PyProof.Rows L2
variable [VEnv]
section
variable {X : Cx} {W : WX} {a : Addr} {oe : Obj} {cls : Value} {d : Option Addr} {pn : List (Addr × Obj)} {x n : Str} {tb : List (Str × Bool)} {p p1 p2 pos : Pos}
end
end VE
namespace VE
open PySem PySem.Spec PyProof.Rows L2
variable [VEnv]
section
variable {X : Cx} {W : WX} {e a d : Expr} {p pos : Pos} {fi fd : M D} {k : Nat}
end
end VE
namespace VE
open PySem PySem.Spec PyProof.Rows L2
variable [VEnv]
section
variable {P : Program} {w : World} {K : PySem.W.Frag} {mg : Str → Option Value} {base : Heap} {N : List Str} {k i : Nat} {H : Hp} {f c' q : Addr} {cells : List (Str × Addr)} {L : LamCode} {h : Heap} {m : List (Option D) → FM} {fr : Bool}
end
section
variable {X : Cx} {W : WX} {e a : Expr} {es : List Expr} {pos p : Pos} {x : Str} {k i : Nat} {G : Nat → LamM} {js : List (Str × Nat)} {fr : Bool}
end
section
variable {X : Cx} {W : WX} {e : Expr} {pos : Pos} {fa : M D}
end
section
variable {X : Cx} {W : WX} {pos p p2 : Pos}
end
end VE
namespace VE
open PySem PySem.Spec PyProof.Rows L2
variable [VEnv]
section
variable {K : PySem.W.Frag} {mg : Str → Option Value} {F F1 F2 : Addr → Prop} {c c1 c2 : List Addr} {H H1 H2 : Hp} {st : Sto}
theorem Old.refl : Old F c H F c H := ⟨fun _ _ h _ => .inl h, fun _ h => .inl h, fun _ h => .inl h⟩
theorem Old.trans (o : Old F c H F1 c1 H1) (s : Stp F c H F1 c1 H1) (rc : RelC K mg F1 c1 st H1) (o2 : Old F1 c1 H1 F2 c2 H2) : Old F c H F2 c2 H2 := by
  have back : ∀ a, H1 a = none → H a = none := fun a h => by
    cases e : H a with
    | none => rfl
    | some x =>
      by_cases hc : a ∈ c
      · obtain ⟨l, hl⟩ := s.cs
        obtain ⟨y, hy⟩ := rc.ctrk (a := a) (by rw [hl]; exact List.mem_append_left _ hc)
        rw [h] at hy; cases hy
      · obtain ⟨y, hy⟩ := (o.keep a x e hc).there
        rw [h] at hy; cases hy
  refine ⟨fun a x e hc => ?_, fun a h => ?_, fun a h => ?_⟩
  · have h1 : a ∉ c1 := fun hm => by
      rcases o.nwc a hm with h | h
      · exact hc h
      · rw [e] at h; cases h
    exact (o.keep a x e hc).up fun y hy => o2.keep a y hy h1
  · rcases o2.new a h with h | h
    · exact o.new a h
    · exact .inr (back a h)
  · rcases o2.nwc a h with h | h
    · exact o.nwc a h
    · exact .inr (back a h)
end
section
variable {X : Cx} {n k : Nat} {d : D} {ds : List D}
/-- the store is as it was; the heap has gone on -/
def Nxt (X : Cx) (pins : List (Addr × Obj)) (σ : L2.St) (F : Addr → Prop) (c : List Addr) (st : Sto) (H : Hp) (s : Shared) : Prop :=
  ∃ F' c' H', Inv X pins σ H' s ∧ Stp F c H F' c' H' ∧ RelC X.K X.mg F' c' st H' ∧ Old F c H F' c' H'
theorem Nxt.refl {pins : List (Addr × Obj)} {σ : L2.St} {F : Addr → Prop} {c : List Addr} {st : Sto} {H : Hp} {s : Shared} (I : Inv X pins σ H s) (rc : RelC X.K X.mg F c st H) : Nxt X pins σ F c st H s := ⟨F, c, H, I, Stp.refl, rc, Old.refl⟩
/-- two values that stand for d are equal, by == -/
def EqS (X : Cx) (n : Nat) (d : D) : Prop :=
  ∀ (A : Around) (pins : List (Addr × Obj)) (s : Shared) (σ : L2.St) (H : Hp) (F : Addr → Prop) (c : List Addr) (st : Sto) (x y : V) (u v : Value), L2.Sub X n A → Inv X pins σ H s → RelC X.K X.mg F c st H → RelV x u → RelV y v → Rp X.K X.mg F c H x d → Rp X.K X.mg F c H y d →
    wpAny (model X.prog X.w) A (eqBool u v) (fun r s' => r = true ∧ Nxt X pins σ F c st H s') X.xe s
theorem EqS.mono {m : Nat} (h : EqS X n d) (hn : n ≤ m) : EqS X m d := fun A pins s σ H F c st x y u v sb => h A pins s σ H F c st x y u v (sb.mono hn)
end
section
variable {X : Cx} {W : WX} {e a : Expr} {pos p p2 : Pos} {fa fb : M D} {nb : Str} {k : Nat} {m : FM}
end
end VE
namespace L2
open PySem PySem.Spec PyProof.Rows
/-- a def of which only the first argument is known; it may run where an error is handled, and raises nothing -/
structure FnX (P : Program) (w : World) (K : PySem.W.Frag) (mg : Str → Option Value) (base : Heap) (k : Nat) (f : Addr) (fd : FuncData) (ps : List Str) (sp : V → Hp → VK → Prop) : Prop where
  run : ∀ (A : Around) (outer : List Env) (s : Shared) (H : Hp) (u0 : Value) (us : List Value) (v : V) (Q : VK), L2H.RoomH k A → Env0 P w K mg base A outer s H → us.length + 1 = ps.length → BindsTo s fd ⟨u0 :: us, []⟩ (ps.zip (u0 :: us)) → RelV v u0 → sp v H Q →
    codeAny (model P w) A (.call (.ref f) ⟨u0 :: us, []⟩) (fun r s' => match r with | .ok (.ret u) => CE outer P w H s Q u s' | _ => False) s
theorem FnX.mono {P : Program} {w : World} {K : PySem.W.Frag} {mg : Str → Option Value} {base : Heap} {j k : Nat} {f : Addr} {fd : FuncData} {ps : List Str} {sp : V → Hp → VK → Prop} (F : FnX P w K mg base j f fd ps sp) (h : j ≤ k) : FnX P w K mg base k f fd ps sp :=
  ⟨fun A outer s H u0 us v Q hr => F.run A outer s H u0 us v Q (hr.mono h)⟩
/-- the context of such a def's body -/
def cxU (P : Program) (w : World) (K : PySem.W.Frag) (mg : Str → Option Value) (base : Heap) (N : List Str) (qual : Str) (scope : Scope) (f : Addr) (cd : Value) (A : Around) (outer : List Env) (s : Shared) (H : Hp) : Cx :=
  { cxOf (L2.CX P w) P w K mg base N qual scope f cd A outer s H (fun _ _ _ => False) with calm := false, xe := fun _ _ => False }
theorem inv_startU {P : Program} {w : World} {K : PySem.W.Frag} {mg : Str → Option Value} {base : Heap} {N ps : List Str} {qual : Str} {scope : Scope} {f : Addr} {cd : Value} {A : Around} {outer : List Env} {s s1 : Shared} {H : Hp} {u0 : Value} {us : List Value} {v : V}
    (S : FnScope N ps scope) (e0 : Env0 P w K mg base A outer s H) (hl : us.length + 1 = ps.length) (r : RelV v u0)
    (x : InCallC s s.heap.objs.size (bindL (envOfC qual scope s.heap.objs.size f cd).kindOf (ps.zip (u0 :: us)) fun _ => none) (cellsFrom (s.heap.objs.size + 1) scope.names []) (bindC (envOfC qual scope s.heap.objs.size f cd).kindOf (ps.zip (u0 :: us)) fun _ => none) s1) :
    Inv (cxU P w K mg base N qual scope f cd A outer s H) [] (L2.start N [v]) H s1 := by
  have hpl : ps.length ≤ N.length := by have := congrArg List.length S.pre; rw [List.length_take] at this; omega
  obtain ⟨h1, tk, rfl, hk⟩ := x.done
  have noA : ∀ b : Addr, b ∉ (cxU P w K mg base N qual scope f cd A outer s H).ex := fun b z => absurd (show b ∈ ([] : List Addr) from z) (by simp)
  refine ⟨⟨e0.mod, S.kind, rfl, rfl, Nat.le_refl _, fun y z c h1 h2 => ?_, fun y hy => ?_, fun y c _ h => ?_, (fun z => Bool.noConfusion (show false = true from z)), Around.frames_deeper e0.frames, .inr ⟨rfl, rfl⟩, fun b z => absurd z (noA b), e0.bs, e0.bsz, fun b _ _ => noA b, fun b z => absurd z (noA b), e0.funs, e0.frf⟩,
    rfl, e0.bare, Un.kept hk, ⟨_, x.toInCall.ns, fun i y v' h1 h2 h3 => ?_⟩, fun y c h => ⟨_, x.cell y c h⟩, e0.hok.fresh (Nat.le_refl _), fun y c h => ?_, fun q hq => ?_, e0.hok.kept hk, ?_⟩
  · exact name_of_addr x.apart (PySem.mem_of_lookup h1) (PySem.mem_of_lookup h2)
  · have hy : scope.names.lookup y = some .cell ∨ scope.names.lookup y = some .free := hy
    rcases hy with hy | hy
    · exact cell_has hy
    · exact absurd rfl (S.nofree _ (PySem.mem_of_lookup hy))
  · exact Nat.le_of_lt (x.above y c (PySem.mem_of_lookup h))
  · have hi : i < [v].length := by
      unfold L2.start at h2
      by_cases hi : i < [v].length
      · exact hi
      · rw [List.getElem?_append_right (by simp at hi ⊢; omega)] at h2
        rw [List.getElem?_replicate] at h2
        split at h2 <;> cases h2
    have ha : [v][i]? = some v' := by
      unfold L2.start at h2
      rw [List.getElem?_append_left (by simpa using hi), List.getElem?_map] at h2
      cases e : [v][i]? with
      | none => rw [e] at h2; cases h2
      | some a => rw [e] at h2; cases h2; rfl
    have hi0 : i = 0 := by simpa using hi
    subst hi0
    have ev : v = v' := by simpa using ha
    subst ev
    have hp : ps[0]? = some y := by
      rw [← S.pre, List.getElem?_take_of_lt (by omega)]; exact h1
    have ndP : ps.Nodup := by rw [← S.pre]; exact S.nd.sublist (List.take_sublist _ _)
    refine ⟨u0, r, ?_⟩
    rcases S.par y (List.mem_of_getElem? hp) with k | k
    · exact .inl ⟨k, bindL_get ndP hp (by simp) k⟩
    · obtain ⟨c, e⟩ := cell_has (n := s.heap.objs.size + 1) k
      refine .inr ⟨.inl k, c, e, ?_⟩
      have q := x.cell y c e
      rw [bindC_get ndP hp (show (u0 :: us)[0]? = some u0 from rfl) (by show scope.names.lookup y ≠ _; rw [k]; decide)] at q
      exact q
  · exact e0.hok.fresh (Nat.le_of_lt (x.above y c (PySem.mem_of_lookup h)))
  · cases (show q ∈ ([] : List (Addr × Obj)) from hq)
  · unfold L2.start
    show _ = N.length
    rw [List.length_append, List.length_map, List.length_replicate]
    simp
    omega
theorem Fun.fnX {P : Program} {w : World} {K : PySem.W.Frag} {mg : Str → Option Value} {base : Heap} {x qual : Str} {st : Stmt} {f : Addr} {fd : FuncData} {N ps : List Str} {k : Nat} {sp : V → Hp → VK → Prop} (F : Fun K x qual st f fd) (S : FnScope N ps (defScope st))
    (hbody : ∀ (cdv : Value) (A : Around) (outer : List Env) (s : Shared) (H : Hp) (v : V) (Q : VK), sp v H Q →
      ∃ t, PSs (cxU P w K mg base N qual (defScope st) f cdv A outer s H) (defBody st) t ∧ t { nx := fun _ H' => Q .non H', rt := fun v H' => Q v H' } (start N [v]) H) : FnX P w K mg base (k + 1) f fd ps sp := by
  obtain ⟨oc, od, kV, doc, pm, an, cdv, ct, osl, rfl, lk, hcd⟩ := F.ex
  refine ⟨fun A outer s H u0 us v Q hr e0 hl hb r hsp => ?_⟩
  have KX : K.In s.heap := e0.mod.kin.keeps fun b o e => (e0.bs b o e).1
  have lim : s.heap.NoLimit := e0.mod.nolimit.keeps fun b o e => (e0.bs b o e).1
  have hkind : ∀ y ∈ ps.zip (u0 :: us), (defScope st).names.lookup y.1 = some .local ∨ ((defScope st).names.lookup y.1 = some .cell ∧ ((cellsFrom (s.heap.objs.size + 1) (defScope st).names []).lookup y.1).isSome = true) := fun ⟨n, v⟩ hy => by
    rcases S.par n (List.of_mem_zip hy).1 with q | q
    · exact .inl q
    · exact .inr ⟨q, PySem.W.cellsFrom_some _ _ _ (.inl q)⟩
  refine codeAny_call_function hr.depth (KX _ _ lk) rfl S.co S.gen rfl (PySem.W.codeRec_of KX hcd) (hb _ _ _ _ ?_)
  refine wpAny_newFunctionEnv_cells S.kind hkind fun env he s1 x => ?_
  subst he
  refine ⟨lim.keeps x.toInCall.keep, codeAny_func ?_⟩
  obtain ⟨t, ht, hq⟩ := hbody cdv A outer s H v Q hsp
  have I := inv_startU S e0 hl r x
  refine wpAny_mono (ht.run [] s1 (L2.start N [v]) H _ I hq) (fun fl s' hs => ?_) fun e s' hs => hs.elim
  have fin : ∀ {σ' : St} {H' : Hp} {v : V} {u : Value}, Inv (cxU P w K mg base N qual (defScope st) f cdv A outer s H) [] σ' H' s' → RelV v u → Q v H' → CE outer P w H s Q u s' :=
    fun {σ' H' v u} J rv q => ⟨v, H', J.os, J.bare, J.base, J.hok, rv, q⟩
  cases fl with
  | ret u =>
    obtain ⟨v, σ', H', J, rv, q⟩ := hs
    exact fin J rv q
  | next =>
    obtain ⟨σ', H', J, q⟩ := hs
    exact fin (v := V.non) (u := Value.none) J rfl q
  | brk =>
    obtain ⟨_, _, _, q⟩ := hs
    exact False.elim q
  | cont =>
    obtain ⟨_, _, _, q⟩ := hs
    exact False.elim q
/-- the call, in a context -/
theorem run_fnX {X : Cx} {k : Nat} {f : Addr} {fd : FuncData} {ps : List Str} {sp : V → Hp → VK → Prop} {pins : List (Addr × Obj)} {σ : St} {H : Hp} {s : Shared} {Q : VK} {u0 : Value} {us : List Value} {v : V} (F : FnX X.prog X.w X.K X.mg X.base k f fd ps sp) (hr : L2H.RoomH k X.A) (hb : Binds X.K fd ps [])
    (hl : us.length + 1 = ps.length) (I : Inv X pins σ H s) (r : RelV v u0) (h : sp v H Q) : codeAny (model X.prog X.w) X.A (.call (.ref f) ⟨u0 :: us, []⟩) (fun r s' => match r with | .ok (.ret u) => EP X pins σ Q u s' | _ => False) s := by
  have bb := hb s (u0 :: us) I.kIn (by simpa using hl)
  rw [List.append_nil] at bb
  refine codeAny_mono (F.run X.A X.stack s H u0 us v Q hr I.env0 hl bb r h) fun r s' hq => ?_
  cases r with
  | error e => exact hq
  | ok fl =>
    cases fl with
    | ret u => exact I.after hq
    | next => exact hq
    | brk => exact hq
    | cont => exact hq
def wRest (fx a : Addr) (p : Pos) (env : Env) (e : Value) : Sem Flow := do
  standAt p
  holding [e] do
    let t ← typeOf e
    let tb ← tracebackOf e
    let r ← withItem.marked e (Code.call (.ref fx) ⟨[.ref a] ++ [t, e, tb], []⟩)
    let r ← pure r
    match r with
    | .none => do
      let swallow ← pure false
      if swallow then do
        rule "with.exit-swallows"
        setFlight e none
        pure Flow.next
      else PySem.passOn "with" e env
    | .bool b => do
      let swallow ← pure b
      if swallow then do
        rule "with.exit-swallows"
        setFlight e none
        pure Flow.next
      else PySem.passOn "with" e env
    | _ => do
      let x ← withItem.marked e (.call (.type "bool") ⟨[r], []⟩)
      let swallow ← pure (x == .bool true)
      if swallow then do
        rule "with.exit-swallows"
        setFlight e none
        pure Flow.next
      else PySem.passOn "with" e env
def endW (spx : V → Hp → VK → Prop) (v : V) (D : Ends) : Ends := { nx := fun σ' H' => spx v H' fun _ H2 => D.nx σ' H2, rt := fun _ _ => False }
def wWith (spx : V → Hp → VK → Prop) (v : V) (Wout : WX) : WX := fun cls d σ H => spx v H fun r H2 => r = .non ∧ Wout cls d σ H2
def tWith (C : Addr) (spe : Sp) (spx : V → Hp → VK → Prop) (te : TE) (tb : WX → TS) (i : Nat) (Wout : WX) : TS := fun D σ H => te σ H fun v H1 => ∃ a dx fs, v = .ref a ∧ H1 a = some (.ins C dx fs) ∧
  spe [v] H1 (fun u H2 => tb (wWith spx v Wout) (endW spx v D) (σ.set i (some u)) H2) (WE Wout σ)
section
variable {X : Cx} {ctx : Expr} {body : List Stmt} {n : Str} {i k : Nat} {np pos : Pos} {te : TE} {tb : WX → TS} {Wout : WX} {C fe fx : Addr} {fde fdx : FuncData} {pse psx : List Str} {spe : Sp} {spx : V → Hp → VK → Prop}
theorem ps_with (hN : X.N.Nodup) (hi : X.N[i]? = some n) (hloc : Loc X.env.scope n) (hfn : X.fn n = true ∨ X.env.scope.names.lookup n = some .local) (hs : X.stack = X.env :: X.outer) (hf : X.env.frame = some X.env.locals) (hex : X.ex = []) (tk : Takes X Wout) (he : PE X ctx te)
    (hr : Room k X.A) (me : Meth X.K C "__enter__" fe) (Fe : FnOk X.prog X.w X.K X.mg X.base (L2.CX X.prog X.w) k fe fde pse spe) (be : Binds X.K fde pse []) (mx : Meth X.K C "__exit__" fx) (Fx : FnX X.prog X.w X.K X.mg X.base k fx fdx psx spx) (bx : Binds X.K fdx psx []) (lx : psx.length = 4)
    (hb : ∀ (W : WX) (pn : List (Addr × Obj)) (xe : Value → Shared → Prop), Takes (X.tr pn xe) W → PassesOwn (model X.prog X.w) X.A X.env xe → PSs (X.tr pn xe) body (tb W)) :
    PS X (.With [⟨ctx, some (.Name n np)⟩] body pos) (tWith C spe spx te tb i Wout) := by
  refine ⟨fun pins s σ H D I h => ?_⟩
  have ok := I.ok
  have hfr : X.A.frames = some (X.env :: X.outer) := by rw [ok.frames, hs]
  refine PySem.W.kw_execN (thn (he.run pins s σ H _ I h) fun v0 s1 ⟨v, H1, I1, rv, a, dx, fs, ev, ea, q⟩ => ?_)
  subst ev
  obtain rfl : v0 = Value.ref a := rv
  unfold PySem.W.KwIn
  obtain ⟨mA, O, _, _, _, _⟩ := ins_get I1.hok ea
  obtain ⟨od, J, _⟩ := O.look
  have XK := I1.kIn
  obtain ⟨cd, hcd, ae⟩ := PySem.W.kw_along me.at_
  obtain ⟨cd', hcd', ax⟩ := PySem.W.kw_along mx.at_
  cases hcd.symm.trans hcd'
  obtain ⟨hh, g, d, tt, os⟩ := s1
  have L1 : PySem.W.Looks (model X.prog X.w) hh (specialOnItsLine (.ref a) "__enter__") (some (.ref fe), cd.mro) := PySem.W.kw_special XK J hcd ae
  have L2 : PySem.W.Looks (model X.prog X.w) hh (specialOnItsLine (.ref a) "__exit__") (some (.ref fx), cd.mro) := PySem.W.kw_special XK J hcd ax
  have L3 : PySem.W.Looks (model X.prog X.w) hh (bindSpecial (.ref fe) (.ref a)) (.ref fe, [.ref a]) := PySem.W.bind_fn XK _ (beq_iff_eq.mp me.fn)
  have L4 : PySem.W.Looks (model X.prog X.w) hh (bindSpecial (.ref fx) (.ref a)) (.ref fx, [.ref a]) := PySem.W.bind_fn XK _ (beq_iff_eq.mp mx.fn)
  have L5 : PySem.W.Looks (model X.prog X.w) hh (aMethodOfAnotherBuiltinTypeStops (.ref fe) cd.mro) () := PySem.W.Looks.of_pure rfl
  have L6 : PySem.W.Looks (model X.prog X.w) hh (aMethodOfAnotherBuiltinTypeStops (.ref fx) cd.mro) () := PySem.W.Looks.of_pure rfl
  unfold withItem
  refine wpAny_bind (wpAny_pure ?_)
  refine wpAny_bind (wpAny_standAt ?_)
  simp only [Bool.false_eq_true, if_false]
  kw_lk
  refine wpAny_mono (run_fnS (E := WE Wout) (us := [.ref a]) (vs := [.ref a]) Fe hr be (passAt tk σ) I1 (.cons rfl .nil) q) (fun v s2 ⟨u, H2, I2, ru, q2⟩ => ?_) fun _ _ z => z
  kw_lk
  refine wpAny_attempt (PySem.W.kw_held ?_)
  show wpAny _ _ (assign (.Name n np) X.env v >>= fun _ => execs body X.env) _ _ _
  refine wpAny_bind (wpAny_assign_Name (store_ok I2 hN hi hloc ru (fun s3 I3 => ?_) hfn))
  have roomX : L2H.RoomH k X.A := L2H.roomH_of hr
  refine wpAny_mono ((hb (wWith spx (.ref a) Wout) (X.pn ++ pins) (fun e s₁ => wpAny (model X.prog X.w) X.A (noteFrame e X.env) (fun _ s₂ => wpAny (model X.prog X.w) X.A (setFlight e none) (fun _ s₃ => wpAny (model X.prog X.w) X.A (wRest fx a ctx.pos X.env e) (SP X pins D) X.xe s₃) X.xe s₂) X.xe s₁) (fun u' s' xx => ?_) PassesOwn.looking).run [] s3 _ H2 (endW spx (.ref a) D) (I3.toTry _) q2) (fun f s1 hsp => ?_) (fun e s' he => ?_)
  · obtain ⟨e, B, sI, pins', σ', H', cls, d, rfl, J', nb, up, sky, na, os, ag, hw⟩ := xx
    have J : Inv X pins σ' H' sI := J'.ofTry ok
    have sky' : Sky B (X.env :: X.outer) e (Zc cls d) X.env.locals s'.heap := by rw [← hs]; exact sky
    show wpAny (model X.prog X.w) X.A (noteFrame (.ref e) X.env) _ _ _
    refine Sky.land Zc.steady hfr hf sky' fun h3 fl3 up3 => ?_
    have J3 : Inv X pins σ' H' { s' with heap := h3 } := J.landed nb fl3.1 (up.trans up3) os ag
    obtain ⟨k1, k2, k3, oe, vs, T, oT, ts, he3, hz, hd, hv1, hnT, hTe, hT, hdT, ht3⟩ := id fl3
    have nT : H' T = none := (J.inGround nb).gone hnT
    have notFr : ∀ (b : Addr) (o : Obj) (fv : Array Value), h3.get? b = some o → o.data = .fields fv → b ∉ frs (X.env :: X.outer) := fun b o fv e dd hm => by
      obtain ⟨_, o', e', hnf⟩ := k3.mem hm
      have eo : o = o' := Option.some.inj (e.symm.trans e')
      rw [← eo] at hnf
      exact hnf _ dd
    have locF : X.env.locals ∈ frs (X.env :: X.outer) := List.mem_filterMap.mpr ⟨X.env, List.mem_cons_self, hf⟩
    have fsF : ∀ b, b ∈ X.fs → b ∈ frs (X.env :: X.outer) := fun b hm => by
      obtain ⟨e, he, q⟩ := List.mem_filterMap.mp hm
      exact List.mem_filterMap.mpr ⟨e, List.mem_cons_of_mem _ he, q⟩
    have fa := notFr e oe vs he3 hd
    have fT := notFr T oT ts hT hdT
    have S3 : Inv (X.suite e ((e, oe) :: (T, oT) :: (X.pn ++ pins))) [] σ' H' { s' with heap := h3 } :=
      ⟨J3.ok.suite _ _, J3.os, J3.bare, J3.base, J3.loc, J3.cell, J3.free, J3.freeC, fun p hp => by
        rw [List.append_nil] at hp
        rcases List.mem_cons.mp hp with z | hp
        · rw [z]
          exact ⟨he3, na, fun z2 => fa (by rw [show e = X.env.locals from z2]; exact locF), fun z2 => fa (fsF _ z2), fun v z2 => by
            have z3 : oe.data = .cell v := z2
            rw [hd] at z3
            cases z3⟩
        · rcases List.mem_cons.mp hp with z | hp
          · rw [z]
            exact ⟨hT, nT, fun z2 => fT (by rw [show T = X.env.locals from z2]; exact locF), fun z2 => fT (fsF _ z2), fun v z2 => by
              have z3 : oT.data = .cell v := z2
              rw [hdT] at z3
              cases z3⟩
          · exact J3.pin p hp, J3.hok, J3.len⟩
    unfold wRest
    refine wpAny_bind (wpAny_standAt (wpAny_holding (wpAny_bind (wpAny_typeOf_ref he3 ?_))))
    have tbk : ∀ {Q : Value → Shared → Prop}, (∀ tv, Q tv { s' with heap := h3 }) → wpAny (model X.prog X.w) X.A (tracebackOf (.ref e)) Q X.xe { s' with heap := h3 } := fun {Q} hq => by
      unfold tracebackOf
      refine wpAny_bind (wpAny_field he3 hd hv1 ?_)
      have h1s : ∃ y, ts[1]? = some y := by
        have := (Array.getElem?_eq_some_iff.mp ht3).1
        exact ⟨_, Array.getElem?_eq_getElem (by omega)⟩
      obtain ⟨y, hy⟩ := h1s
      refine wpAny_bind (wpAny_field hT hdT hy ?_)
      by_cases c : (y == Value.none) = true
      · rw [if_pos c]; exact wpAny_pure (hq _)
      · rw [if_neg c]; exact wpAny_pure (hq _)
    refine wpAny_bind (tbk fun tv => ?_)
    have go : ∀ {Q : Value → Shared → Prop}, (∀ s6 σ6 H6, Inv (X.suite e ((e, oe) :: (T, oT) :: (X.pn ++ pins))) [] σ6 H6 s6 → σ6 = σ' → Wout cls d σ' H6 → Q .none s6) →
        wpAny (model X.prog X.w) X.A (withItem.marked (.ref e) (Code.call (.ref fx) ⟨[.ref a] ++ [oe.cls, .ref e, tv], []⟩)) Q X.xe { s' with heap := h3 } := fun {Q} hq => by
      unfold withItem.marked
      refine wpAny_bind (wpAny_run ?_ (fun z => ref_ne_byPass e (Option.some.inj z)))
      refine codeAny_mono (run_fnX (X := X.suite e ((e, oe) :: (T, oT) :: (X.pn ++ pins))) (Q := fun r H2 => r = .non ∧ Wout cls d σ' H2) Fx ⟨roomX.dp, roomX.un⟩ bx (by rw [lx]; rfl) S3 (show RelV (.ref a) (.ref a) from rfl) hw) fun r s6 hr6 => ?_
      cases r with
      | error e => exact hr6.elim
      | ok fl =>
        cases fl with
        | ret u =>
          obtain ⟨r, H6, S6, rr, er, hW⟩ := hr6
          subst er
          obtain rfl : u = Value.none := rr
          exact wpAny_pure (hq s6 _ H6 S6 rfl hW)
        | next => exact hr6.elim
        | brk => exact hr6.elim
        | cont => exact hr6.elim
    refine wpAny_bind (go fun s6 σ6 H6 S6 es q6 => ?_)
    subst es
    refine wpAny_bind (wpAny_pure ?_)
    refine wpAny_bind (wpAny_pure ?_)
    rw [if_neg Bool.false_ne_true]
    have J6 : Inv X pins σ6 H6 s6 := ⟨ok, S6.os, S6.bare, S6.base, S6.loc, S6.cell, S6.free, S6.freeC, fun p hp => S6.pin p (List.mem_append_left _ (List.mem_cons_of_mem _ (List.mem_cons_of_mem _ hp))), S6.hok, S6.len⟩
    have pa := S6.pin (e, oe) (List.mem_append_left _ List.mem_cons_self)
    have pT := S6.pin (T, oT) (List.mem_append_left _ (List.mem_cons_of_mem _ List.mem_cons_self))
    have ga : s6.heap.get? e = some oe := pa.1
    have gT : s6.heap.get? T = some oT := pT.1
    have na6 : H6 e = none := pa.2.1
    have nT6 : H6 T = none := pT.2.1
    have far : ∀ b o, sI.heap.get? b = some o → b ≠ e ∧ b ≠ T := fun b o e' => by
      by_cases hb : b ∈ frs X.stack
      · rw [hs] at hb
        exact ⟨fun z => fa (by rw [← z]; exact hb), fun z => fT (by rw [← z]; exact hb)⟩
      · have q := nb b o e' hb
        exact ⟨fun z => by
          rw [z, k2] at q
          exact (nomatch q), fun z => by
          rw [z, hnT] at q
          cases q⟩
    have far0 : ∀ b o, X.s_0.heap.get? b = some o → b ≠ e ∧ b ≠ T := fun b o e' => by
      obtain ⟨o', q⟩ := J.base.there b o e' (by rw [hex]; simp)
      exact far b o' q
    have farP : ∀ p ∈ X.pn ++ pins, p.1 ≠ e ∧ p.1 ≠ T := fun p hp => far p.1 p.2 (J.pin p hp).1
    obtain ⟨G, g1, g2⟩ := restrict s6.heap fun b => !(decide (b = e) || decide (b = T))
    have gIn : ∀ b o, G.get? b = some o → s6.heap.get? b = some o ∧ b ≠ e ∧ b ≠ T := fun b o e' => by
      cases q : (!(decide (b = e) || decide (b = T))) with
      | false =>
        rw [g2 b q] at e'
        cases e'
      | true =>
        rw [g1 b q] at e'
        simp only [Bool.not_eq_true', Bool.or_eq_false_iff, decide_eq_false_iff_not] at q
        exact ⟨e', q.1, q.2⟩
    have gOf : ∀ b o, b ≠ e → b ≠ T → s6.heap.get? b = some o → G.get? b = some o := fun b o h1 h2 e' => by
      rw [g1 b (by simp [h1, h2])]
      exact e'
    have I6 : Inv X pins σ6 H6 { s6 with heap := G } := J6.less (fun b o e' => (gIn b o e').1) gOf ⟨oe, vs, ga, hd⟩ ⟨oT, ts, gT, hdT⟩ na6 nT6 far0 farP
    have B6in : ∀ b o, (PySem.W.hideAll G (frs X.stack)).get? b = some o → s6.heap.get? b = some o := fun b o e' => (gIn b o (PySem.W.of_hideAll _ e')).1
    have Bno : ∀ b, (b = e ∨ b = T) → (PySem.W.hideAll G (frs X.stack)).get? b = none := fun b hb => by
      cases q : (PySem.W.hideAll G (frs X.stack)).get? b with
      | none => rfl
      | some o =>
        obtain ⟨_, n1, n2⟩ := gIn b o (PySem.W.of_hideAll _ q)
        rcases hb with z | z
        · exact absurd z n1
        · exact absurd z n2
    have fl6 : HandSPX.FlyingZ (PySem.W.hideAll G (frs X.stack)) (X.env :: X.outer) e (Zc cls d) s6.heap := by
      refine ⟨B6in, Bno e (.inl rfl), ?_, oe, vs, T, oT, ts, ga, hz, hd, hv1, Bno T (.inr rfl), hTe, gT, hdT, ht3⟩
      have ff := funFrames_none (B := PySem.W.hideAll G (frs X.stack)) J6.stack fun b hb => PySem.W.hideAll_none _ hb
      rw [← hs]
      exact ff
    show wpAny (model X.prog X.w) X.A (PySem.passOn "with" (.ref e) X.env) (SP X pins D) X.xe s6
    unfold PySem.passOn
    refine wpAny_bind (wpAny_field ga hd hv1 ?_)
    rw [if_neg (show ¬ ((Value.ref T == Value.none) = true) from by simp)]
    have goOn : wpAny (model X.prog X.w) X.A (setFlight (.ref e) X.env.frame) (fun _ s7 => wpAny (model X.prog X.w) X.A (throw (.ref e) : Sem Flow) (SP X pins D) X.xe s7) X.xe s6 := by
      rw [hf]
      refine HandSPX.setFlight_upZ fl6 fun h7 hh7 up7 => wpAny_throw (tk _ _ ?_)
      refine ⟨e, PySem.W.hideAll G (frs X.stack), { s6 with heap := G }, pins, σ6, H6, cls, d, rfl, I6, fun b o e' hb => PySem.W.hideAll_get _ e' hb, ?_, .inr (.inr (by rw [← hs] at hh7; exact hh7)), na6, rfl, J6.bare, q6⟩
      exact Heap.UpToSlots.trans (Heap.UpToSlots.of_keeps fun b o e' => (gIn b o e').1) up7
    first
      | exact wpAny_bind (wpAny_pure (wpAny_bind goOn))
      | exact wpAny_bind goOn
  · cases f with
    | next =>
      obtain ⟨σ', H', J', q⟩ := hsp
      have J2 := J'.ofTry ok
      show wpAny _ _ (do standAt ctx.pos; let _ ← holding [] (call (.ref fx) ([.ref a] ++ [.none, .none, .none])); pure Flow.next) _ _ _
      refine wpAny_bind (wpAny_standAt (wpAny_bind (wpAny_holding (wpAny_call ?_))))
      refine codeAny_mono (run_fnX (X := X) (Q := fun _ H2 => D.nx σ' H2) Fx roomX bx (by rw [lx]; rfl) J2 (show RelV (.ref a) (.ref a) from rfl) q) fun r s6 hr6 => ?_
      cases r with
      | error e => exact hr6.elim
      | ok fl =>
        cases fl with
        | ret u =>
          obtain ⟨r, H6, J6, rr, hq⟩ := hr6
          exact wpAny_pure ⟨_, H6, J6, hq⟩
        | next => exact hr6.elim
        | brk => exact hr6.elim
        | cont => exact hr6.elim
    | ret u => obtain ⟨_, _, _, _, _, q⟩ := hsp; exact q.elim
    | brk => obtain ⟨_, _, _, q⟩ := hsp; exact q.elim
    | cont => obtain ⟨_, _, _, q⟩ := hsp; exact q.elim
  · exact wpAny_bind (wpAny_mono he (fun _ s2 h2 => wpAny_bind (wpAny_mono h2 (fun _ s3 h3 => h3) fun _ _ z => z)) fun _ _ z => z)
end
end L2
namespace VE
open PySem PySem.Spec PyProof.Rows L2
variable [VEnv]
section
variable {P : Program} {w : World} {K : PySem.W.Frag} {mg : Str → Option Value} {base : Heap}
def sp1V (K : PySem.W.Frag) (mg : Str → Option Value) (m : FM) : V → Hp → VK → Prop := fun v H Q => ∃ F c d st, RelC K mg F c st H ∧ Rp K mg F c H v d ∧ PostF K mg false F c H Q (fun _ _ _ => False) (m [d] st)
theorem okVX {x qual : Str} {stm : Stmt} {f : Addr} {fd : FuncData} {N ps : List Str} {k n : Nat} {g : M Fl} (Fn : Fun K x qual stm f fd) (S : FnScope N ps (defScope stm)) (hn : n = N.length)
    (hb : ∀ (cdv : Value) (A : Around) (outer : List Env) (s : Shared) (H : Hp), VSs (cxU P w K mg base N qual (defScope stm) f cdv A outer s H) (fun _ _ _ _ => False) (defBody stm) g) : FnX P w K mg base (k + 1) f fd ps (sp1V K mg (toF false n g)) := by
  refine Fn.fnX S fun cdv A outer s H v Q h => ?_
  obtain ⟨F, c, d, st, rc, rp, p⟩ := h
  refine ⟨_, hb cdv A outer s H, ⟨K, mg, H, F, c⟩, F, c, env0 n [d], st, rfl, rfl, rel_start rc (.cons rp .nil) N hn, ?_⟩
  unfold toF at p
  generalize g (env0 n [d]) st = y at p
  exact okV_post p
/-- a class whose instances stand behind `with` -/
structure WthV (P : Program) (w : World) (K : PySem.W.Frag) (mg : Str → Option Value) (base : Heap) (k : Nat) (n : Str) (me mx : FM) : Prop where
  ex : ∃ C fe fde pse fx fdx psx, mg n = some (.ref C) ∧ Meth K C "__enter__" fe ∧ FnOk P w K mg base (L2.CX P w) k fe fde pse (spV K mg false 1 me) ∧ Binds K fde pse [] ∧ Meth K C "__exit__" fx ∧ FnX P w K mg base k fx fdx psx (sp1V K mg mx) ∧ Binds K fdx psx [] ∧ psx.length = 4
end
def exitW (mx : FM) (q : Nat) : R Fl → R Fl
  | .ok .nx env st => (match mx [.ref q] st with
    | .ok _ st' => .ok .nx env st'
    | _ => .bad)
  | .ex x env st => (match mx [.ref q] st with
    | .ok .non st' => .ex x env st'
    | _ => .bad)
  | _ => .bad
def sWith (i : Nat) (n : Str) (me mx : FM) (fa : M D) (g : M Fl) : M Fl := fun env st => (fa env st).bind fun r env st => match r with
  | .ref q => (match st[q]? with
    | some (.ins n' _) => if n' = n then (callR me [.ref q] env st).bind fun u env st => exitW mx q (g (env.set i (.va u)) st) else .bad
    | _ => .bad)
  | _ => .bad
theorem RpX.stp {K : PySem.W.Frag} {mg : Str → Option Value} {F F' : Addr → Prop} {c c' : List Addr} {H H' : Hp} {cls : Value} {d : Option Addr} {x : Exn} (h : RpX K mg F c H cls d x) (s : Stp F c H F' c' H') : RpX K mg F' c' H' cls d x :=
  ⟨h.1, h.2.imp id fun ⟨d', vfs, e, f, k, m, r⟩ => ⟨d', vfs, e, s.inc _ f, s.keep _ _ f k, m, r.stp s⟩⟩
section
variable {X : Cx} {W : WX} {ctx : Expr} {body : List Stmt} {n y : Str} {i k : Nat} {np pos : Pos} {fa : M D} {g : M Fl} {me mx : FM}
theorem vs_with (i : Nat) (Wv : WthV X.prog X.w X.K X.mg X.base k n me mx) (hr : Room k X.A) (hN : X.N.Nodup) (hst : X.stack = X.env :: X.outer) (hf : X.env.frame = some X.env.locals) (hex : X.ex = []) (tk : Takes X W) (hc : VE X W ctx fa)
    (hb : ∀ (W : WX) (pn : List (Addr × Obj)) (xe : Value → Shared → Prop), Takes (X.tr pn xe) W → PassesOwn (model X.prog X.w) X.A X.env xe → VSs (X.tr pn xe) W body g)
    (hi : X.N[i]? = some y := by rfl) (hx : Loc X.env.scope y := by first | exact Or.inl rfl | exact Or.inr rfl) (hfn : X.fn y = true ∨ X.env.scope.names.lookup y = some .local := by first | exact .inl rfl | exact .inr rfl | assumption) :
    VS X W (.With [⟨ctx, some (.Name y np)⟩] body pos) (sWith i n me mx fa g) := by
  obtain ⟨C, fe, fde, pse, fx, fdx, psx, hC, h1, h2, h3, h4, h5, h6, h7⟩ := Wv.ex
  refine ⟨fun pins s σ H D I ⟨b, F, c, env, st, e1, e2, r, p⟩ => (ps_with (C := C) (tb := fun W => tS X W g) hN hi hx hfn hst hf hex tk hc hr h1 h2 h3 h4 h5 h6 h7 hb).run pins s σ H D I ?_⟩
  refine sE_at e1 e2 r p fun v d env1 st1 F1 c1 H1 s1 r1 rp1 p1 => ?_
  split at p1
  · rename_i q
    split at p1
    · rename_i n' fs es
      split at p1
      · rename_i en
        subst en
        obtain ⟨a, rfl, hc, C', dx, vfs, k1, k2, k3, rps⟩ := r1.cell rp1 es
        rw [e2, hC] at k1; cases k1
        refine ⟨a, dx, vfs, rfl, k2, call_of e1 e2 r1 (.cons rp1 .nil) rfl (PostS.of p1) fun u d st2 F2 c2 H2 s2 r2 rv q2 => ?_⟩
        refine ⟨b, F2, c2, env1.set i (.va d), st2, e1, e2, r2.put rv, ?_⟩
        have rq := rp1.stp s2
        generalize g (env1.set i (.va d)) st2 = z at q2
        cases z with
        | bad => exact q2.elim
        | ok fl env3 st3 =>
          cases fl with
          | nx =>
            intro σ' F3 c3 H3 s3 r3
            unfold exitW at q2
            refine ⟨F3, c3, .ref q, st3, by rw [← e1, ← e2]; exact r3.rc, by rw [← e1, ← e2]; exact rq.stp s3, ?_⟩
            dsimp only at q2
            cases hm : mx [.ref q] st3 with
            | ok d4 st4 =>
              rw [hm] at q2
              intro v4 F4 c4 H4 s4 rc4 o4 rv4
              rw [← e1, ← e2] at rc4
              exact q2 σ' F4 c4 H4 (s3.trans s4) (r3.call s4 rc4 o4)
            | ex x st4 => rw [hm] at q2; exact q2.elim
            | bad => rw [hm] at q2; exact q2.elim
          | rt d => exact q2.elim
          | rf d => exact q2.elim
          | bk => exact q2.elim
          | ct => exact q2.elim
        | ex x env3 st3 =>
          intro σ' F3 c3 H3 cls dd s3 r3 rx
          unfold exitW at q2
          refine ⟨F3, c3, .ref q, st3, by rw [← e1, ← e2]; exact r3.rc, by rw [← e1, ← e2]; exact rq.stp s3, ?_⟩
          dsimp only at q2
          cases hm : mx [.ref q] st3 with
          | ok d4 st4 =>
            rw [hm] at q2
            cases d4 with
            | non =>
              intro v4 F4 c4 H4 s4 rc4 o4 rv4
              rw [← e1, ← e2] at rc4
              cases rv4
              exact ⟨rfl, q2 σ' F4 c4 H4 cls dd (s3.trans s4) (r3.call s4 rc4 o4) (rx.stp s4)⟩
            | _ => exact q2.elim
          | ex x st4 => rw [hm] at q2; exact q2.elim
          | bad => rw [hm] at q2; exact q2.elim
      · exact p1.elim
    · exact p1.elim
  · exact p1.elim
structure MtS (P : Program) (w : World) (K : PySem.W.Frag) (mg : Str → Option Value) (base : Heap) (k : Nat) (n m : Str) (fr : Bool) (np : Nat) (mf : FM) : Prop where
  ex : ∃ C f fd ps, mg n = some (.ref C) ∧ L2.SCls K C ∧ FnOk P w K mg base (L2.CX P w) k f fd ps (spV K mg fr np mf) ∧ L2.Meth K C m f ∧ Binds K fd ps []
def eMethS (n : Str) (mf : FM) (np : Nat) (fo : M D) (fs : M (List D)) : M D := fun env st => (fo env st).bind fun r env st => match r with
  | .ref q => (match st[q]? with
    | some (.slo n' _) => if n' = n then (fs env st).bind fun ds env st => if ds.length + 1 = np then callR mf (.ref q :: ds) env st else .bad else .bad
    | _ => .bad)
  | _ => .bad
variable {e o : Expr} {es : List Expr} {fo : M D} {fs : M (List D)} {m : Str} {mf : FM} {np' : Nat} {apos : Pos}
theorem ve_methS {pl : Sem Bool} (Mv : MtS X.prog X.w X.K X.mg X.base k n m false np' mf) (hr : Room k X.A) (tk : Takes X W) (ho : VE X W o fo) (ha : VA X W (e :: es) fs)
    (hst : starEach (e :: es) X.env = (false, eval e X.env) :: starEach es X.env := by rfl) (hpl : (backTo pos (starEach es X.env)).any (·.1) = false := by rfl)
    (ht : eval (.Call (.Attribute o m apos) (e :: es) [] pos) X.env = (do
      let ov ← eval o X.env
      standAt apos.atName
      let (f, first) ← holding [ov] (getMethod ov m pl)
      callWith pos f first (backTo pos (starEach (e :: es) X.env)) (backToKw pos (keywordEach [] X.env))) := by rfl) : VE X W (.Call (.Attribute o m apos) (e :: es) [] pos) (eMethS n mf np' fo fs) := by
  obtain ⟨C, f, fd, ps, hC, cl, Fo, hm, hb⟩ := Mv.ex
  refine ⟨fun pins s σ H Q I ⟨b, F, c, env, st, e1, e2, r, p⟩ => ?_⟩
  refine PySem.W.methodCall_KW (pl := pl) (thn (ho.run pins s σ H _ I (tE_at e1 e2 r p (Q := fun x H1 => ∃ a dx vs, x = .ref a ∧ SlAt H1 a C dx vs ∧ tA X W fs σ H1 fun vs H2 => spV X.K X.mg false np' mf (x :: vs) H2 Q (WE W σ)) fun v d env1 st1 F1 c1 H1 s1 r1 rp1 p1 => ?_)) fun u s1 ⟨x, H1, I1, rx, a, dx, vs0, ex, ea, q⟩ => ?_) ht
  · split at p1
    · rename_i q
      split at p1
      · rename_i n' fl es
        split at p1
        · rename_i en
          subst en
          obtain ⟨a, rfl, hc, C', dx, vs, k1, k2, rps⟩ := r1.cell rp1 es
          rw [e2, hC] at k1; cases k1
          refine ⟨a, dx, vs.map some, rfl, k2, tA_at e1 e2 r1 p1 fun vs ds env2 st2 F2 c2 H2 s2 r2 rp2 p2 => ?_⟩
          split at p2
          · rename_i hnp
            exact call_of e1 e2 r2 (.cons (rp1.stp s2) rp2) (by simpa using hnp) p2 fun v d st F' c' H' s r rv q => q v rv
          · exact p2.elim
        · exact p1.elim
      · exact p1.elim
    · exact p1.elim
  · subst ex
    obtain rfl : u = Value.ref a := rx
    refine slAt_meth I1 ea cl hm ?_
    refine PySem.W.callWith_K (first := [.ref a]) (h₀ := X.base) I.ok.mod.kin hm.kp (thn (ha.run pos pins s1 σ H1 _ I1 q) fun us s2 ⟨vs, H2, I2, r, q2⟩ => ⟨I2.kIn, ?_⟩) hst hpl
    exact run_fnS (E := WE W) (us := .ref a :: us) (vs := .ref a :: vs) Fo hr hb (passAt tk σ) I2 (.cons rfl r) q2
def eMethS0 (n : Str) (mf : FM) (np : Nat) (fo : M D) : M D := fun env st => (fo env st).bind fun r env st => match r with
  | .ref q => (match st[q]? with
    | some (.slo n' _) => if n' = n ∧ np = 1 then callR mf [.ref q] env st else .bad
    | _ => .bad)
  | _ => .bad
theorem ve_methS0 {pl : Sem Bool} (Mv : MtS X.prog X.w X.K X.mg X.base k n m false np' mf) (hr : Room k X.A) (tk : Takes X W) (ho : VE X W o fo)
    (ht : eval (.Call (.Attribute o m apos) [] [] pos) X.env = (do
      let ov ← eval o X.env
      standAt apos.atName
      let (f, first) ← holding [ov] (getMethod ov m pl)
      callWith pos f first (backTo pos (starEach [] X.env)) (backToKw pos (keywordEach [] X.env))) := by rfl) : VE X W (.Call (.Attribute o m apos) [] [] pos) (eMethS0 n mf np' fo) := by
  obtain ⟨C, f, fd, ps, hC, cl, Fo, hm, hb⟩ := Mv.ex
  refine ⟨fun pins s σ H Q I ⟨b, F, c, env, st, e1, e2, r, p⟩ => ?_⟩
  refine PySem.W.methodCall_KW (pl := pl) (thn (ho.run pins s σ H _ I (tE_at e1 e2 r p (Q := fun x H1 => ∃ a dx vs, x = .ref a ∧ SlAt H1 a C dx vs ∧ spV X.K X.mg false np' mf [x] H1 Q (WE W σ)) fun v d env1 st1 F1 c1 H1 s1 r1 rp1 p1 => ?_)) fun u s1 ⟨x, H1, I1, rx, a, dx, vs0, ex, ea, q⟩ => ?_) ht
  · split at p1
    · rename_i q
      split at p1
      · rename_i n' fl es
        split at p1
        · rename_i hn
          obtain ⟨en, hnp⟩ := hn
          subst en
          obtain ⟨a, rfl, hc, C', dx, vs, k1, k2, rps⟩ := r1.cell rp1 es
          rw [e2, hC] at k1; cases k1
          exact ⟨a, dx, vs.map some, rfl, k2, call_of e1 e2 r1 (.cons rp1 .nil) (by simp [hnp]) p1 fun v d st F' c' H' s r rv q => q v rv⟩
        · exact p1.elim
      · exact p1.elim
    · exact p1.elim
  · subst ex
    obtain rfl : u = Value.ref a := rx
    refine slAt_meth I1 ea cl hm ?_
    exact PySem.W.callWith_K0 (first := [.ref a]) I1.kIn hm.kp (run_fnS (E := WE W) (us := [.ref a]) (vs := [.ref a]) Fo hr hb (passAt tk σ) I1 (.cons rfl .nil) q)
end
end VE
namespace L2
open PySem PySem.Spec PyProof.Rows
section
variable {prog : Program} {w : World} {K : Type} [DecidableEq K] {knd : KeyKind prog w K} {A : Around} {E : Value → Shared → Prop} {s : Shared}
theorem or_copyOf {d : Addr} {kvs : List (K × Value)} {Q : Value → Shared → Prop} (hd : (d == sysModules) = false) (hm : s.heap.DictOf knd d kvs) (hsz : kvs.length ≤ sizeLine)
    (h : ∀ es', (s.heap.push { cls := .type "dict", data := .dict es' }).DictOf knd s.heap.objs.size kvs → Q (.ref s.heap.objs.size) { s with heap := s.heap.push { cls := .type "dict", data := .dict es' } }) :
    wpAny (model prog w) A (Builtin.Dict.copyOf "dict.__or__" (.ref d)) Q E s := by
  obtain ⟨o, es, ep, ho, hc, hdat, hk, hp, hn⟩ := id hm
  have hes : es.size ≤ sizeLine + 1 := by
    have e1 := hp.length
    have e2 : es.toList.length = es.size := by simp
    omega
  unfold Builtin.Dict.copyOf
  refine wpAny_bind (wpAny_pure ?_)
  unfold Builtin.Dict.showsAll
  rw [if_neg (by rw [hd]; exact Bool.false_ne_true)]
  refine wpAny_bind (wpAny_pure ?_)
  refine wpAny_bind (wpAny_dictEntries ho hdat ?_)
  have fin := h es ⟨_, es, 0, Heap.get?_push_size _ rfl, ⟨rfl, rfl, rfl⟩, rfl, hk, hp, hn⟩
  by_cases hemp : es.isEmpty = true
  · rw [if_pos hemp]
    have e0 : es = #[] := Array.isEmpty_iff.mp hemp
    subst e0
    exact wpAny_bind (wpAny_rule (wpAny_newObj_type fin))
  · rw [if_neg hemp]
    refine wpAny_bind ?_
    unfold Builtin.Dict.readDirectly
    refine wpAny_bind (wpAny_isInstance hm.typeIs isSubtype_dict_dict ?_)
    simp only [Bool.not_true, Bool.false_eq_true, if_false]
    refine wpAny_bind (wpAny_specialOf hm.typeIs F.slot_dict_iter.lookup (wpAny_pure ?_))
    simp only [beq_self_eq_true, if_true]
    exact wpAny_bind (wpAny_entriesForEmpty (knd := knd) ho hdat hk (wpAny_newObj_type fin hes))
theorem or_update {d o : Addr} {kvs more : List (K × Value)} {Q : Fin → Shared → Prop} (hdo : d ≠ o) (hoS : (o == sysModules) = false) (hd : s.heap.DictOf knd d kvs) (ho : s.heap.DictOf knd o more) (hsz : kvs.length + more.length ≤ sizeLine)
    (h : ∀ h', h'.DictOf knd d (merged kvs more) → h'.DictOf knd o more → Heap.SameBut d s.heap h' → Q (.done (.ret (.ref d))) { s with heap := h' }) :
    wpAny (model prog w) A (Builtin.Dict.updateFrom "dict.__or__" d (.ref o) [] (.ref d)) Q E s := by
  unfold Builtin.Dict.updateFrom
  refine wpAny_bind (wpAny_typeOf ho.typeIs ?_)
  rw [if_neg (by decide)]
  refine wpAny_bind ?_
  unfold Builtin.Dict.merge
  refine wpAny_bind ?_
  unfold Builtin.Dict.readDirectly
  refine wpAny_bind (wpAny_isInstance ho.typeIs isSubtype_dict_dict ?_)
  simp only [Bool.not_true, Bool.false_eq_true, if_false]
  refine wpAny_bind (wpAny_specialOf ho.typeIs F.slot_dict_iter.lookup (wpAny_pure ?_))
  simp only [beq_self_eq_true, if_true]
  refine wpAny_bind (wpAny_pure ?_)
  refine wpAny_mergeDict (hsz := hsz) hdo hoS hd ho fun h' hd' ho' hs' => ?_
  show wpAny _ _ (Builtin.Dict.addKeywords d [] >>= _) _ _ _
  exact wpAny_bind (wpAny_pure (wpAny_pure (h h' hd' ho' hs')))
theorem meets_dict_or (knd : KeyKind prog w K) (d o : Addr) (hd : (d == sysModules) = false) (ho : (o == sysModules) = false) :
    MeetsIn prog w (Builtin.«dict.__or__» ⟨[.ref d, .ref o], []⟩) (fun _ R s => ∃ kvs more, s.heap.DictOf knd d kvs ∧ s.heap.DictOf knd o more ∧ kvs.length + more.length ≤ sizeLine ∧
      ∀ h', h'.DictOf knd s.heap.objs.size (merged kvs more) → (∀ b ob, s.heap.get? b = some ob → h'.get? b = some ob) → R (.ok (.ret (.ref s.heap.objs.size))) { s with heap := h' }) :=
  .of_wp fun A R s ⟨kvs, more, hm, ho', hsz, h⟩ => by
    unfold Builtin.«dict.__or__»
    refine wpAny_bind ?_
    unfold Builtin.Dict.dictSlotArgs
    refine wpAny_bind (wpAny_notOrdered_dict hm.typeIs ?_)
    show wpAny _ _ (pure (Value.ref d, Value.ref o)) _ _ s
    refine wpAny_pure ?_
    show wpAny _ _ (do
      if !(← isInstance (.ref d) (.type "dict") <&&> isInstance (.ref o) (.type "dict")) then rule "dict.__or__.not-a-dict"; return ← ret .notImplemented
      let new ← Builtin.Dict.copyOf "dict.__or__" (.ref d)
      holding [new] (Builtin.Dict.updateFrom "dict.__or__" (← Builtin.Dict.addrOf new) (.ref o) [] new)) _ _ s
    refine wpAny_bind ?_
    show wpAny _ _ (isInstance (.ref d) (.type "dict") >>= _) _ _ s
    refine wpAny_bind (wpAny_isInstance hm.typeIs isSubtype_dict_dict ?_)
    show wpAny _ _ (isInstance (.ref o) (.type "dict")) _ _ s
    refine wpAny_isInstance ho'.typeIs isSubtype_dict_dict ?_
    rw [if_neg (by decide)]
    refine wpAny_bind (or_copyOf hd hm (by omega) fun es' hm' => ?_)
    have ltd : d < s.heap.objs.size := by obtain ⟨o, _, _, ho, _⟩ := id hm; exact Heap.lt_size ho
    have lto : o < s.heap.objs.size := by obtain ⟨o, _, _, ho, _⟩ := id ho'; exact Heap.lt_size ho
    refine wpAny_bind (wpAny_pure ?_)
    refine wpAny_holding (or_update (knd := knd) (Ne.symm (Nat.ne_of_lt lto)) ho hm' (ho'.push _) hsz fun h' h1 h2 h3 => ?_)
    refine ⟨_, rfl, h h' h1 fun b ob hb => ?_⟩
    exact (h3.2 b (Nat.ne_of_lt (Heap.lt_size hb))).trans (Heap.get?_push_of_some _ hb)
end
section
variable {X : Cx}
/-- d | {k: v} -/
def rOrD : R2 := fun x y H Q => ∃ a b kvs k v, x = .ref a ∧ y = .ref b ∧ Rd H a (.dK kvs) ∧ Rd H b (.dK [(k, v)]) ∧ kvs.length + 1 ≤ sizeLine ∧ ∀ p, H p = none → Q (.ref p) (upd H p (.dK (putK kvs k v)))
theorem op_orD : OpR X (binaryOp .BitOr) rOrD := by
  intro pins s σ H x y v u Q I rx ry ⟨a, b, kvs, k, v1, ex, ey, e1, e2, hsz, q⟩
  subst ex
  subst ey
  obtain rfl : v = Value.ref a := rx
  obtain rfl : u = Value.ref b := ry
  obtain ⟨z, hd, vs, rel, dd⟩ := dk_rd I.hok e1
  obtain ⟨z', hd', vs', rel', dd'⟩ := dk_rd I.hok e2
  refine wpAny_binaryOp_same (op := .BitOr) dd.typeIs dd'.typeIs PySem.F.fills_dict_or PySem.F.slot_dict_or ?_
  refine call_meetsIn PySem.F.slot_dict_or dd.typeIs PySem.F.entry_dict_or (PySem.F.args_dict_or_2 _ _) (meets_dict_or (mixKind X.prog X.w) a b hd hd') ⟨vs, vs', dd, dd', by rw [← rel.length, ← rel'.length]; exact hsz, fun h' dd2 hk => ?_⟩
  refine ⟨(fun z => nomatch z), ?_⟩
  cases rel' with
  | cons r t =>
    cases t
    rename_i q1
    obtain ⟨k1, u1⟩ := q1
    obtain ⟨ek, rv⟩ := r
    cases ek
    have hpl : (putK kvs k v1).length ≤ sizeLine := by
      unfold putK
      split
      · rw [List.length_map]; omega
      · rw [List.length_append]; simpa using hsz
    exact ⟨.ref s.heap.objs.size, _, I.laid (a := s.heap.objs.size) (o := .dK (putK kvs k v1)) (t' := s.toks) (h' := h') hk (Nat.le_refl _) (dk_new hpl (beq_eq_false_iff_ne.mpr (Ne.symm (Nat.ne_of_lt I.big))) (rel.put k rv) dd2), rfl, q _ (I.hok.fresh (Nat.le_refl _))⟩
end
end L2
namespace VE
open PySem PySem.Spec PyProof.Rows L2
variable [VEnv]
section
variable {X : Cx} {W : WX} {a e : Expr} {pos : Pos} {fa fb fk : M D}
def eDict1 (fk fa : M D) : M D := fun env st => (fk env (st ++ [.dct []])).bind fun k env1 st1 => (fa env1 st1).bind fun d env2 st2 => match dKey k with
  | some ky => (match st2[st.length]? with
    | some (.dct []) => .ok (.ref st.length) env2 (st2.set st.length (.dct [(ky, d)]))
    | _ => .bad)
  | none => .bad
theorem ve_dict1 (h1 : VE X W a fk) (h2 : VE X W e fa) : VE X W (.Dict [some a] [e] pos) (eDict1 fk fa) :=
  PEof (pe_disp (pps_cons h1 h2 pps_nil) rfl rfl (fun z => by cases z) (show 1 ≤ 15 by decide)) fun σ H Q ⟨b, F, c, env, st, e1, e2, r0, h⟩ q hq => by
    obtain ⟨s1, r1, rp⟩ := r0.cellNew (x := .dct []) (o := .dK []) hq fun s => ⟨[], upd_same, rfl, .nil⟩
    have h := h.stp s1
    unfold eDict1 at h
    refine tE_at e1 e2 r1 h fun v1 d1 env1 st1 F1 c1 H1 t1 g1 rp1 p1' => ?_
    refine tE_at e1 e2 g1 p1' fun v2 d2 env2 st2 F2 c2 H2 t2 g2 rp2 p2' => ?_
    dsimp only at p2'
    have hrf := (rp.stp t1).stp t2
    split at p2'
    · rename_i ky hky
      split at p2'
      · rename_i hd
        obtain ⟨q', eq', hc, vk, hk, hm, rps⟩ := g2.cell hrf hd
        cases eq'
        obtain rfl : vk = [] := by simpa using hm
        have ek := dKey_of rp1 hky
        refine ⟨hk, [(ky, v2)], by rw [ek]; rfl, (show 1 ≤ 15 by decide), ?_⟩
        have em : mergeK [] [(ky, v2)] = [(ky, v2)] := by simp [mergeK, putK]
        rw [em]
        obtain ⟨s4, r4⟩ := g2.cellUpd (o := .dK [(ky, v2)]) (x := .dct [(ky, d2)]) hc (fun s => ⟨_, upd_same, rfl, .cons (rp2.stp s) .nil⟩) ⟨_, hd, rfl⟩
        exact p2' _ _ _ s4 r4 _ (hrf.stp s4)
      · exact p2'.elim
    · exact p2'.elim
def orD : D → D → M D := fun x y env st => match x, y with
  | .ref m, .ref n => (match st[m]?, st[n]? with
    | some (.dct kvs), some (.dct [(k, d)]) => if kvs.length < 16777216 then .ok (.ref st.length) env (st ++ [.dct (ptK kvs k d)]) else .bad
    | _, _ => .bad)
  | _, _ => .bad
theorem ok_orD : OpOk X W rOrD orD := fun b F c env st σ H x y dx dy Q e1 e2 r hx hy p => by
  unfold orD at p
  split at p
  · rename_i m n
    split at p
    · rename_i kvs k d es1 es2
      split at p
      · rename_i hl
        obtain ⟨a, rfl, hc, vk, h1, h2, h3⟩ := r.cell hx es1
        obtain ⟨a', rfl, hc', vk', h1', h2', h3'⟩ := r.cell hy es2
        cases vk' with
        | nil => cases h2'
        | cons q1 t =>
          cases t with
          | nil =>
            obtain ⟨k', v'⟩ := q1
            obtain rfl : k' = k := by simpa using h2'
            refine ⟨a, a', vk, k', v', rfl, rfl, .inl h1, .inl h1', ?_, fun p' hp => ?_⟩
            · have := congrArg List.length h2
              simp only [List.length_map] at this
              rw [sizeLine_eq]; omega
            · cases h3' with
              | cons rv _ =>
                obtain ⟨s2, r2, rp⟩ := r.cellNew (x := .dct (ptK kvs k' d)) (o := .dK (putK vk k' v')) hp fun s => ⟨_, upd_same, put_pt h2, put_pt2 (rv.stp s) h2 (h3.stp s)⟩
                exact p _ _ _ s2 r2 _ rp
          | cons _ _ => simp at h2'
      · exact p.elim
    · exact p.elim
  · exact p.elim
theorem ve_orD (ha : VE X W e fa) (hb : VE X W a fb) : VE X W (.BinOp e .BitOr a pos) (eBin orD fa fb) := ve_op op_orD ok_orD ha hb
end
end VE
namespace L2
open PySem PySem.Spec PyProof.Rows
section
variable {X : Cx}
/-- x == (), x a tuple of anything -/
def rEqE (K : PySem.W.Frag) : R2 := fun x y H Q => ∃ a b xs, x = .ref a ∧ y = .ref b ∧ SqT K H a xs ∧ SqT K H b [] ∧ Q (.bl xs.isEmpty) H
theorem op_eqE (hu : X.A.units < cLine) : OpR X (compareOp .Eq) (rEqE X.K) := by
  intro pins s σ H x y v u Q I rx ry ⟨a, b, xs, ex, ey, ha, hb, q⟩
  subst ex
  subst ey
  obtain rfl : v = Value.ref a := rx
  obtain rfl : u = Value.ref b := ry
  obtain ⟨its, r, t, _⟩ := I.tuple ha
  obtain ⟨its', r', t', _⟩ := I.tuple hb
  cases r'
  have tt : ∀ {c : Addr} {z : Array Value}, IsTup s.heap c z → s.heap.IsTuple c z := fun {c z} h => by
    obtain ⟨o, e, k, n, d⟩ := h
    exact ⟨o, e, k, n, d⟩
  refine SeqAt.eq_tupleAt (e := fun _ => true) (tt t) (tt t') hu (fun j h1 h2 => by simp at h2) ⟨.bl xs.isEmpty, H, I, ?_, q⟩
  show _ = _
  have e1 := r.length
  cases xs with
  | nil => cases r; rfl
  | cons x xs => cases r; simp
end
end L2
namespace VE
open PySem PySem.Spec PyProof.Rows L2
variable [VEnv]
section
variable {X : Cx} {W : WX} {a e : Expr} {es : List Expr} {pos p apos : Pos} {fa fb fk : M D} {fs : M (List D)} {n m x : Str} {k np i : Nat} {mf : FM}
structure CmV (P : Program) (w : World) (K : PySem.W.Frag) (mg : Str → Option Value) (base : Heap) (k : Nat) (n m : Str) (fr : Bool) (np : Nat) (mf : FM) : Prop where
  ex : ∃ C mc p g fd ps, mg n = some (.ref C) ∧ ClX.CRead K C mc ∧ ClX.CMet K C mc m p g ∧ FnOk P w K mg base (L2.CX P w) k g fd ps (spV K mg fr np mf) ∧ Binds K fd ps []
theorem run_cmS {C g q : Addr} {fd : FuncData} {ps : List Str} {sp : Sp} {E : L2.St → XK} {pins : List (Addr × Obj)} {σ : L2.St} {H : Hp} {s : Shared} {Q : VK} {us : List Value} {vs : List V} (F : FnOk X.prog X.w X.K X.mg X.base (L2.CX X.prog X.w) k g fd ps sp) (hr : Room k X.A) (hb : Binds X.K fd ps [])
    (hx : PassesAt (L2.CX X.prog X.w) X σ (E σ)) (I : Inv X ((q, PySem.W.methodObj (.ref g) (.ref C)) :: pins) σ H s) (r : Vals vs us) (h : sp (.ref C :: vs) H Q (E σ)) : wpAny (model X.prog X.w) X.A (call (.ref q) us) (EP X pins σ Q) X.xe s := by
  have r2 : Vals (V.ref C :: vs) (Value.ref C :: us) := .cons rfl r
  have hl : (Value.ref C :: us).length = ps.length := by
    have e := r2.length
    rw [F.len _ _ _ _ h] at e
    exact e.symm
  have bb := hb s (Value.ref C :: us) I.kIn (by rw [List.append_nil]; exact hl)
  rw [List.append_nil] at bb
  have z : wpAny (model X.prog X.w) X.A (call (.ref q) us) (EP X ((q, PySem.W.methodObj (.ref g) (.ref C)) :: pins) σ Q) X.xe s :=
    wpAny_call (PySem.W.method_call (ClX.pin_at I) (codeAny_mono (F.run X.A X.stack s H ⟨Value.ref C :: us, []⟩ (Value.ref C :: us) (V.ref C :: vs) Q (E σ) hr I.env0 bb r2 h) fun r s' hq => by
      cases r with
      | error e => exact hx _ _ _ e s' I hq
      | ok fl =>
        cases fl with
        | ret u => exact I.after hq
        | next => exact False.elim hq
        | brk => exact False.elim hq
        | cont => exact False.elim hq))
  exact thn z fun _ _ y => ClX.unpinE y
def eCmeth (n : Str) (mf : FM) (np : Nat) (fs : M (List D)) : M D := fun env st => (fs env st).bind fun ds env st => if ds.length + 1 = np then callR mf (.fn (.glb n) :: ds) env st else .bad
theorem ve_cmeth {pl : Sem Bool} (Mv : CmV X.prog X.w X.K X.mg X.base k n m false np mf) (hr : Room k X.A) (tk : Takes X W) (ha : VA X W (e :: es) fs) (hg : Gl X n := by rfl) (hdb : (n == ("__debug__" : Str)) = false := by decide)
    (hst : starEach (e :: es) X.env = (false, eval e X.env) :: starEach es X.env := by rfl) (hpl : (backTo pos (starEach es X.env)).any (·.1) = false := by rfl)
    (ht : eval (.Call (.Attribute (.Name n p) m apos) (e :: es) [] pos) X.env = (do
      let ov ← eval (.Name n p) X.env
      standAt apos.atName
      let (f, first) ← holding [ov] (getMethod ov m pl)
      callWith pos f first (backTo pos (starEach (e :: es) X.env)) (backToKw pos (keywordEach [] X.env))) := by rfl) : VE X W (.Call (.Attribute (.Name n p) m apos) (e :: es) [] pos) (eCmeth n mf np fs) := by
  obtain ⟨C, mc, pp, g, fd, ps, hC, rd, cm, Fo, hb⟩ := Mv.ex
  refine ⟨fun pins s σ H Q I ⟨b, F, c, env, st, e1, e2, r, p⟩ => ?_⟩
  refine PySem.W.methodCall_KW (pl := pl) (ld_glob I hg hC ?_ hdb) ht
  refine ClX.getmethcm_ok I rd cm fun s2 I2 => ?_
  refine ClX.callwith_cm I2 (ClX.base_none I (Nat.le_refl _)) cm.fi (thn (ha.run pos _ s2 σ H _ I2 (tA_at e1 e2 r p (Q := fun vs H2 => spV X.K X.mg false np mf (.ref C :: vs) H2 Q (WE W σ)) fun vs ds env2 st2 F2 c2 H2 s2 r2 rp2 p2 => ?_)) fun us s3 ⟨vs, H2, I3, rv, q2⟩ => ⟨⟨ClX.pin_at I3, I3.kIn⟩, ?_⟩) hst hpl
  · split at p2
    · rename_i hnp
      exact call_of e1 e2 r2 (.cons (.glb (by rw [e2]; exact hC)) rp2) (by simpa using hnp) p2 fun v d st F' c' H' s r rv q => q v rv
    · exact p2.elim
  · exact run_cmS (E := WE W) Fo hr hb (passAt tk σ) I3 rv q2
/-- cls(..), cls a name of the frame that holds the class n -/
def eMakeL (i : Nat) (n : Str) (mf : FM) (np : Nat) (fs : M (List D)) : M D := fun env st => match env[i]? with
  | some (.va (.fn (.glb n'))) => if n' = n then eMake n mf np fs env st else .bad
  | _ => .bad
theorem ve_makeL (i : Nat) (Mv : MkV X.prog X.w X.K X.mg X.base k n np mf) (hr : Room (k + 1) X.A) (tk : Takes X W) (ha : VA X W (e :: es) fs) (hN : X.N[i]? = some x := by rfl) (hv : Vis X.env.scope x := by first | exact Or.inl rfl | exact Or.inr (Or.inl rfl) | exact Or.inr (Or.inr rfl)) (hd : (x == ("__debug__" : Str)) = false := by decide)
    (hcd : (x == ("__classdict__" : Str)) = false := by decide)
    (he : starEach (e :: es) X.env = (false, eval e X.env) :: starEach es X.env := by rfl) (hpl : (backTo pos (starEach es X.env)).any (·.1) = false := by rfl) : VE X W (.Call (.Name x p) (e :: es) [] pos) (eMakeL i n mf np fs) := by
  obtain ⟨C, f, fd, ps, hC, mk, Fo, hb⟩ := Mv.ex
  refine ⟨fun pins s σ H Q I ⟨b, F, c, env, st, e1, e2, r, p⟩ => ?_⟩
  unfold eMakeL at p
  split at p
  · rename_i n' ev0
    split at p
    · rename_i en
      subst en
      obtain ⟨v0, ev, rp0⟩ := r.sl i _ ev0
      cases rp0 with
      | glb hm0 =>
        rw [e2, hC] at hm0; cases hm0
        refine wpAny_Call_Name_kw (thn ((pe_var hN hv hd hcd).run pins s σ H (fun v H1 => v = .ref C ∧ H1 = H) I ⟨.ref C, ev, rfl, rfl⟩) fun u s1 ⟨v, H1, I1, r1, q1⟩ => ?_)
        obtain ⟨rfl, rfl⟩ := q1
        obtain rfl : u = Value.ref C := r1
        unfold eMake at p
        refine PySem.W.callWith_K (h₀ := X.base) I1.ok.mod.kin mk.kp (thn (ha.run pos pins s1 σ H1 _ I1 (tA_at e1 e2 r p (Q := fun vs H1 => ∀ x dx, H1 x = none → H1 dx = none → dx ≠ x → spV X.K X.mg false np mf (.ref x :: vs) (upd (upd H1 dx (.own x)) x (.ins C dx [])) (fun v H2 => v = .non ∧ Q (.ref x) H2) (WE W σ))
          fun vs ds env1 st1 F1 c1 H1 s1 r1 rp1 p1 x dx hx hdx hne => ?_)) fun us s1 ⟨vs, H1, I1, r, q⟩ => ⟨I1.kIn, run_makeS (E := WE W) mk Fo hr hb (passAt tk σ) I1 r q⟩) he hpl
        split at p1
        · rename_i hnp
          obtain ⟨s2, r2⟩ := r1.newO hdx (.own x)
          have hx2 : upd H1 dx (.own x) x = none := by rw [upd_ne (Ne.symm hne)]; exact hx
          obtain ⟨s3, r3, rp3⟩ := r2.cellNew (x := .ins n' []) (o := .ins C dx []) hx2 fun s => ⟨C, dx, [], by rw [e2]; exact hC, upd_same, rfl, .nil⟩
          exact call_of e1 e2 r3 (.cons rp3 (rp1.stp (s2.trans s3))) (by simpa using hnp) (Post.bind (Post.stp (s2.trans s3) p1)) fun v d st F' c' H' s r rv q => by
            dsimp only at q
            split at q
            · cases rv
              exact ⟨rfl, Post.here r q _ (rp3.stp s)⟩
            · exact q.elim
        · exact p1.elim
    · exact p.elim
  · exact p.elim
/-- x == (), x a tuple -/
def eqE : D → D → Option D
  | .tup xs, .tup [] => some (.bl xs.isEmpty)
  | _, _ => none
theorem ok_eqE : OpOk X W (rEqE X.K) (sc2 eqE) := opOk_sc fun F c H x y dx dy d Q hx hy e q => by
  unfold eqE at e
  split at e
  · rename_i xs
    cases e
    cases hx with
    | tup h r =>
      cases hy with
      | tup h' r' =>
        cases r'
        refine ⟨_, _, _, rfl, rfl, h.sq, h'.sq, ?_⟩
        have := r.length
        have e2 : (‹List V›).isEmpty = xs.isEmpty := by cases xs <;> cases r <;> rfl
        rw [e2]
        exact q _ (.bl _)
  · cases e
theorem vt_eqE (hr : Room k X.A) (ha : VE X W e fa) (hb : VE X W a fb) : VT X W (.Compare e [.Eq] [a] pos) (eT (eBin (sc2 eqE) fa fb)) := vt_cmp (op_eqE (by have := hr.un; omega)) ok_eqE ha hb (nomark _)
@[simp] theorem x_eqE {xs : List D} : eqE (.tup xs) (.tup []) = some (.bl xs.isEmpty) := rfl
end
end VE
namespace VE
open PySem PySem.Spec PyProof.Rows L2
variable [VEnv]
theorem fillS_end (ix : List Nat) (i : Nat) (vs : List V) (v : V) (h : vs.length = ix.length) : fillS (ix ++ [i]) (vs ++ [v]) = L2.putS i v (fillS ix vs) := by
  unfold fillS
  rw [List.zip_append (by rw [h]), List.foldl_append]
  rfl
def reoS {α : Type} (perm : List Nat) (xs : List α) : List α := perm.filterMap fun j => xs[j]?
theorem Rps.reo {K : PySem.W.Frag} {mg : Str → Option Value} {F : Addr → Prop} {c : List Addr} {H : Hp} {vs : List V} {ds : List D} (r : Rps K mg F c H vs ds) : ∀ perm : List Nat, Rps K mg F c H (reoS perm vs) (reoS perm ds)
  | [] => .nil
  | j :: perm => by
    unfold reoS
    rw [List.filterMap_cons, List.filterMap_cons]
    cases hd : ds[j]? with
    | none =>
      have hv : vs[j]? = none := by
        rw [List.getElem?_eq_none_iff] at hd ⊢
        rw [r.length]; exact hd
      rw [hv]
      exact Rps.reo r perm
    | some d =>
      obtain ⟨v, hv, rp⟩ := r.get' hd
      rw [hv]
      exact .cons rp (Rps.reo r perm)
/-- o.f = e in an __init__, slot i; fin: it is the last one, perm tells where the slots' values stand -/
def putP (n : Str) (i : Nat) (fin : Option (List Nat × List Nat)) (d : D) : Option Cell → Option Cell
  | some (.slo n' []) => if n' = n ∧ fin = none then some (.slp n [i] [d]) else none
  | some (.slp n' ix ds) => if n' = n ∧ ds.length = ix.length then (match fin with
    | none => some (.slp n (ix ++ [i]) (ds ++ [d]))
    | some (ix', perm) => if ix' = ix ++ [i] then some (.slo n (reoS perm (ds ++ [d]))) else none) else none
  | _ => none
def sSlotP (n : Str) (i : Nat) (fin : Option (List Nat × List Nat)) (fo fe : M D) : M Fl := fun env st => (fe env st).bind fun d env st => (fo env st).bind fun r env st => match r with
  | .ref q => (match putP n i fin d st[q]? with
    | some c => .ok .nx env (st.set q c)
    | none => .bad)
  | _ => .bad
def FinOk (fin : Option (List Nat × List Nat)) : Prop := ∀ ix perm, fin = some (ix, perm) → ∀ vs : List V, vs.length = ix.length → fillS ix vs = (reoS perm vs).map some
theorem FinOk.none : FinOk none := fun _ _ h => by cases h
theorem FinOk.some {ix perm : List Nat} (h : ∀ vs : List V, vs.length = ix.length → fillS ix vs = (reoS perm vs).map Option.some) : FinOk (Option.some (ix, perm)) := fun _ _ e => by cases e; exact h
section
variable {X : Cx} {W : WX} {e o : Expr} {pos pos' : Pos} {fo fe : M D}
theorem vs_slotP {n f : Str} {fl : List Str} {fin : Option (List Nat × List Nat)} (i : Nat) (hfin : FinOk fin) (cv : SlV X.K X.mg n fl) (ho : VE X W o fo) (he : VE X W e fe) (hf : fl[i]? = some f := by rfl) (hs : swapsWith e (some (.Attribute o f pos')) pos.line X.env = pure false := by rfl) : VS X W (.Assign [.Attribute o f pos'] e pos) (sSlotP n i fin fo fe) := by
  obtain ⟨C, hC⟩ := cv.ex
  obtain ⟨p, sl⟩ := cv.at_ C i f hC hf
  refine PSof (VE.ps_slot (cv.cl C hC) sl ho he hs) fun D₀ σ H ⟨b, F, c, env, st, e1, e2, r, p⟩ =>
    sE_at e1 e2 r p fun v d env1 st1 F1 c1 H1 s1 r1 rp1 p1 => sE_at e1 e2 r1 p1 fun u r_ env2 st2 F2 c2 H2 s2 r2 rp2 p2 => ?_
  split at p2
  · rename_i q
    split at p2
    · rename_i cl ecl
      unfold putP at ecl
      split at ecl
      · rename_i n' es
        split at ecl
        · rename_i hn
          obtain ⟨en, hfn⟩ := hn
          subst en
          cases ecl
          obtain ⟨q', rfl, hc, C', dx, vs, k1, k2, rps⟩ := r2.cell rp2 es
          have k1' := k1
          rw [e2, hC] at k1'; cases k1'
          cases rps
          refine ⟨q', dx, _, rfl, k2, ?_⟩
          obtain ⟨s4, r4⟩ := r2.cellUpd (o := L2.SlO C dx q' (L2.putS i v (([] : List V).map some))) (x := .slp n' [i] [d]) hc fun s => ⟨C, dx, [v], k1, k2.here, .cons ((rp1.stp s2).stp s) .nil⟩
          exact PostS.here (P := fun fl _ _ F c σ H => FlOk b D₀ F c σ H fl) r4 (p2.stp s4)
        · cases ecl
      · rename_i n' ix ds es
        split at ecl
        · rename_i hn
          obtain ⟨en, hl⟩ := hn
          subst en
          obtain ⟨q', rfl, hc, C', dx, vs, k1, k2, rps⟩ := r2.cell rp2 es
          have k1' := k1
          rw [e2, hC] at k1'; cases k1'
          have hvl : vs.length = ix.length := by rw [rps.length]; exact hl
          refine ⟨q', dx, _, rfl, k2, ?_⟩
          rw [← fillS_end ix i vs v hvl]
          have rall : ∀ {H' : Hp}, Stp F2 c2 H2 F2 c2 H' → Rps b.K b.mg F2 c2 H' (vs ++ [v]) (ds ++ [d]) := fun s => (rps.stp s).append (.cons ((rp1.stp s2).stp s) .nil)
          cases fin with
          | none =>
            cases ecl
            obtain ⟨s4, r4⟩ := r2.cellUpd (o := L2.SlO C dx q' (fillS (ix ++ [i]) (vs ++ [v]))) (x := .slp n' (ix ++ [i]) (ds ++ [d])) hc fun s => ⟨C, dx, vs ++ [v], k1, k2.here, rall s⟩
            exact PostS.here (P := fun fl _ _ F c σ H => FlOk b D₀ F c σ H fl) r4 (p2.stp s4)
          | some qq =>
            obtain ⟨ix', perm⟩ := qq
            dsimp only at ecl
            split at ecl
            · rename_i eix
              cases ecl
              subst eix
              have ef := hfin _ _ rfl (vs ++ [v]) (by simp [hvl])
              rw [ef]
              obtain ⟨s4, r4⟩ := r2.cellUpd (o := L2.SlO C dx q' ((reoS perm (vs ++ [v])).map some)) (x := .slo n' (reoS perm (ds ++ [d]))) hc fun s => ⟨C, dx, reoS perm (vs ++ [v]), k1, k2.here, (rall s).reo perm⟩
              exact PostS.here (P := fun fl _ _ F c σ H => FlOk b D₀ F c σ H fl) r4 (p2.stp s4)
            · cases ecl
        · cases ecl
      · cases ecl
    · exact p2.elim
  · exact p2.elim
end
/-- .. of four slots -/
theorem fin4 {ix perm : List Nat} (h4 : ix.length = 4) (h : ∀ a b c d : V, fillS ix [a, b, c, d] = (reoS perm [a, b, c, d]).map Option.some) : FinOk (Option.some (ix, perm)) := .some fun vs hl => by
  rw [h4] at hl
  match vs, hl with
  | [a, b, c, d], _ => exact h a b c d
end VE
namespace VE
open PySem PySem.Spec PyProof.Rows L2
section
variable {fa fb fc fo fi fe fd : M D} {fs : M (List D)} {env : EnvD} {st : Sto} {i n np q : Nat} {d x y z : D} {ds xs : List D} {c c' f : Str} {mf : FM} {kvs : List (Key × D)} {ky : Key}
def vwC (n : Nat) : Option Cell → D
  | some (.lst ds) => .lst ds
  | _ => .ref n
@[simp] theorem vw_non : vw st .non = .non := rfl
@[simp] theorem vw_bl {b : Bool} : vw st (.bl b) = .bl b := rfl
@[simp] theorem vw_int {i : Int} : vw st (.int i) = .int i := rfl
@[simp] theorem vw_str {s : Str} : vw st (.str s) = .str s := rfl
@[simp] theorem vw_lst : vw st (.lst xs) = .lst xs := rfl
@[simp] theorem vw_tup : vw st (.tup xs) = .tup xs := rfl
@[simp] theorem vw_scr {ns : List Int} : vw st (.scr ns) = .scr ns := rfl
@[simp] theorem vw_obj : vw st (.obj c xs) = .obj c xs := rfl
@[simp] theorem vw_ino {ns : List Str} : vw st (.ino c ns xs) = .ino c ns xs := rfl
@[simp] theorem vw_ref : vw st (.ref n) = vwC n st[n]? := by
  unfold vw vwC
  rfl
@[simp] theorem vwC_lst : vwC n (some (.lst ds)) = .lst ds := rfl
@[simp] theorem vwC_dct : vwC n (some (.dct kvs)) = .ref n := rfl
@[simp] theorem x_sv2 {g : D → D → Option D} : sv2 g x y env st = ret (g (vw st x) (vw st y)) env st := rfl
@[simp] theorem x_addA1 {i j : Int} : addA (.int i) (.int j) = some (.int (i + j)) := rfl
@[simp] theorem x_addA2 {i j : Str} : addA (.str i) (.str j) = if i.length + j.length ≤ sizeLine then some (.str (i ++ j)) else none := rfl
@[simp] theorem x_addA3 {xs ys : List D} : addA (.tup xs) (.tup ys) = if xs.length + ys.length ≤ 16777216 then some (.tup (xs ++ ys)) else none := rfl
@[simp] theorem x_addA4 {xs ys : List D} : addA (.lst xs) (.lst ys) = if xs.length + ys.length ≤ 16777216 then some (.lst (xs ++ ys)) else none := rfl
@[simp] theorem ng_f {t : Bool} : ng false t = t := rfl
@[simp] theorem ng_t {t : Bool} : ng true t = !t := rfl
def kInC (neg : Bool) (x : D) (n : Nat) : Option Cell → M D := fun o env st => match o with
  | some (.dct kvs) => (match x with
      | .int i => .ok (.bl (ng neg (hasD (.inl i) kvs))) env st
      | .str i => .ok (.bl (ng neg (hasD (.inr i) kvs))) env st
      | _ => .bad)
  | _ => sv2 (inV neg) x (.ref n) env st
@[simp] theorem x_inA_lst {neg : Bool} : inA neg x (.lst ds) env st = ret (inV neg (vw st x) (.lst ds)) env st := rfl
@[simp] theorem x_inA_tup {neg : Bool} : inA neg x (.tup ds) env st = ret (inV neg (vw st x) (.tup ds)) env st := rfl
@[simp] theorem x_inA_str {neg : Bool} {s : Str} : inA neg x (.str s) env st = ret (inV neg (vw st x) (.str s)) env st := rfl
@[simp] theorem x_inA_ref {neg : Bool} : inA neg x (.ref n) env st = kInC neg x n st[n]? env st := rfl
@[simp] theorem x_kInC1 {neg : Bool} {i : Int} : kInC neg (.int i) n (some (.dct kvs)) env st = .ok (.bl (ng neg (hasD (.inl i) kvs))) env st := rfl
@[simp] theorem x_kInC2 {neg : Bool} {i : Str} : kInC neg (.str i) n (some (.dct kvs)) env st = .ok (.bl (ng neg (hasD (.inr i) kvs))) env st := rfl
@[simp] theorem x_kInC3 {neg : Bool} : kInC neg x n (some (.lst ds)) env st = ret (inV neg (vw st x) (vw st (.ref n))) env st := rfl
@[simp] theorem inV_str {neg : Bool} {i j : Str} : inV neg (.str i) (.str j) = some (.bl (ng neg (inText i j))) := rfl
theorem inV_lst {neg : Bool} (h : plain 20 x = true) (h2 : plain 20 (.lst ds) = true) : inV neg x (.lst ds) = some (.bl (ng neg (ds.any fun z => eqD z x))) := by
  cases x <;> first | (show (if (plain 20 _ && plain 20 _) = true then _ else _) = _; rw [h, h2]; rfl) | (simp [plain] at h)
theorem inV_tup {neg : Bool} (h : plain 20 x = true) (h2 : plain 20 (.tup ds) = true) : inV neg x (.tup ds) = some (.bl (ng neg (ds.any fun z => eqD z x))) := by
  cases x <;> first | (show (if (plain 20 _ && plain 20 _) = true then _ else _) = _; rw [h, h2]; rfl) | (simp [plain] at h)
@[simp] theorem x_ord1 {p : Int → Int → Bool} {r : Str → Str → Bool} {i j : Int} : ordA p r (.int i) (.int j) = some (.bl (p i j)) := rfl
@[simp] theorem x_ord2 {p : Int → Int → Bool} {r : Str → Str → Bool} {i j : Str} : ordA p r (.str i) (.str j) = some (.bl (r i j)) := rfl
def kQ : D → M (List D) := fun d env st => match walkD st d with
  | some xs => .ok xs env st
  | none => .bad
@[simp] theorem x_iQ : iQ fa env st = (fa env st).bind kQ := rfl
@[simp] theorem x_kQ1 : kQ (.lst ds) env st = .ok ds env st := rfl
@[simp] theorem x_kQ2 : kQ (.tup ds) env st = .ok ds env st := rfl
@[simp] theorem x_kQ3 {s : Str} : kQ (.str s) env st = .ok (signsD s) env st := rfl
@[simp] theorem x_kQ4 {ns : List Int} : kQ (.scr ns) env st = .ok (ns.map .int) env st := rfl
def kSU (c : Str) (i : Nat) (o : Option Cell) : M D := fun env st => match o with
  | some (.slo n' ds) => if n' = c then ret ds[i]? env st else .bad
  | _ => .bad
@[simp] theorem x_eSlU : eSlU c i fo env st = (fo env st).bind (slU c i) := rfl
@[simp] theorem x_slU1 : slU c i (.obj c' ds) env st = if c' = c then ret ds[i]? env st else .bad := rfl
@[simp] theorem x_slU2 : slU c i (.ref q) env st = kSU c i st[q]? env st := rfl
@[simp] theorem x_kSU : kSU c i (some (.slo c' ds)) env st = if c' = c then ret ds[i]? env st else .bad := rfl
@[simp] theorem x_ePrU : ePrU c mf fo env st = (fo env st).bind (prU c mf) := rfl
@[simp] theorem x_prU1 : prU c mf (.obj c' ds) env st = if c' = c then kPr3 (mf [.obj c' ds] st) env st else .bad := rfl
def kFU (c f : Str) (o : Option Cell) : M D := fun env st => match o with
  | some (.ins n' fs) => if n' = c then ret (fs.lookup f) env st else .bad
  | _ => .bad
@[simp] theorem x_eFlU : eFlU c f fo env st = (fo env st).bind (flU c f) := rfl
@[simp] theorem x_flU1 {ns : List Str} : flU c f (.ino c' ns ds) env st = if c' = c then ret (lkD f ns ds) env st else .bad := rfl
@[simp] theorem x_flU2 : flU c f (.ref q) env st = kFU c f st[q]? env st := rfl
@[simp] theorem x_kFU {fs : List (Str × D)} : kFU c f (some (.ins c' fs)) env st = if c' = c then ret (fs.lookup f) env st else .bad := rfl
noncomputable def kMZ (c : Str) (mf : FM) (np : Nat) : List D → M D := fun ds env st => if ds.length + 1 = np then frzS c env st (mf (.ref st.length :: ds) (st ++ [.slo c []])) else .bad
@[simp] theorem x_eMakeZ : eMakeZ c mf np fs env st = (fs env st).bind (kMZ c mf np) := rfl
@[simp] theorem x_kMZ : kMZ c mf np ds env st = if ds.length + 1 = np then frzS c env st (mf (.ref st.length :: ds) (st ++ [.slo c []])) else .bad := rfl
@[simp] theorem rf_int {i : Int} : rfB n (.int i) = true := by simp only [rfB]
@[simp] theorem rf_str {s : Str} : rfB n (.str s) = true := by simp only [rfB]
@[simp] theorem rf_tup : rfB n (.tup xs) = rfBs n xs := by simp only [rfB]
@[simp] theorem rf_obj : rfB n (.obj c xs) = rfBs n xs := by simp only [rfB]
@[simp] theorem rfs_nil : rfBs n [] = true := by simp only [rfBs]
@[simp] theorem rfs_cons : rfBs n (x :: xs) = (rfB n x && rfBs n xs) := by simp only [rfBs]
theorem rfs_all : ∀ {xs : List D}, (∀ x ∈ xs, rfB n x = true) → rfBs n xs = true
  | [], _ => rfs_nil
  | x :: xs, h => by rw [rfs_cons, h x List.mem_cons_self, rfs_all fun y hy => h y (List.mem_cons_of_mem _ hy)]; rfl
def kB1 (g : D → Option D) : D → M D := fun d env st => ret (g (vw st d)) env st
@[simp] theorem x_eB1 {g : D → Option D} : eB1 g fa env st = (fa env st).bind (kB1 g) := rfl
@[simp] theorem x_kB1 {g : D → Option D} : kB1 g d env st = ret (g (vw st d)) env st := rfl
def kSA3 (d : D) (l : Option Int) : Option Int → M D := fun h env st => ret (slA (vw st d) l h) env st
def kSA2 (fh : M (Option Int)) (d : D) : Option Int → M D := fun l env st => (fh env st).bind (kSA3 d l)
def kSA1 (fl fh : M (Option Int)) : D → M D := fun d env st => (fl env st).bind (kSA2 fh d)
@[simp] theorem x_eSlA {fl fh : M (Option Int)} : eSlA fa fl fh env st = (fa env st).bind (kSA1 fl fh) := rfl
@[simp] theorem x_kSA1 {fl fh : M (Option Int)} : kSA1 fl fh d env st = (fl env st).bind (kSA2 fh d) := rfl
@[simp] theorem x_kSA2 {fh : M (Option Int)} {l : Option Int} : kSA2 fh d l env st = (fh env st).bind (kSA3 d l) := rfl
@[simp] theorem x_kSA3 {l h : Option Int} : kSA3 d l h env st = ret (slA (vw st d) l h) env st := rfl
@[simp] theorem x_slA1 {l h : Option Int} : slA (.tup xs) l h = some (.tup (cutD xs l h)) := rfl
@[simp] theorem x_slA2 {l h : Option Int} : slA (.lst xs) l h = some (.lst (cutD xs l h)) := rfl
def kIxA (y : D) (n : Nat) : Option Cell → M D := fun o env st => match o with
  | some (.dct kvs) => (match dKey y with
      | some ky => ret (lkK ky kvs) env st
      | none => .bad)
  | _ => ixC (.ref n) y env st
@[simp] theorem x_ixA_ref : ixA (.ref n) y env st = kIxA y n st[n]? env st := rfl
@[simp] theorem x_kIxA1 {i : Int} : kIxA (.int i) n (some (.dct kvs)) env st = ret (lkK (.inl i) kvs) env st := rfl
@[simp] theorem x_kIxA2 {s : Str} : kIxA (.str s) n (some (.dct kvs)) env st = ret (lkK (.inr s) kvs) env st := rfl
@[simp] theorem x_kIxA3 : kIxA y n (some (.lst ds)) env st = ixC (.ref n) y env st := rfl
@[simp] theorem x_ixA_lst {i : Int} : ixA (.lst xs) (.int i) env st = ret (atI xs i) env st := rfl
@[simp] theorem x_ixA_tup {i : Int} : ixA (.tup xs) (.int i) env st = ret (atI xs i) env st := rfl
@[simp] theorem x_ixA_scr {i : Int} {ns : List Int} : ixA (.scr ns) (.int i) env st = ret ((atI ns i).map .int) env st := rfl
@[simp] theorem x_ixA_str {i : Int} {s : Str} : ixA (.str s) (.int i) env st = ret (ixD (.str s) (.int i)) env st := rfl
def kIA4 (n : Nat) (d k : D) : Option Cell → M Fl := fun o env st => match o with
    | some (.lst ds) => (match k with
      | .int k => (match ixN ds.length k with
        | some j => .ok .nx env (st.set n (.lst (ds.set j d)))
        | none => .bad)
      | _ => .bad)
    | some (.dct kvs) => (match dKey k with
      | some ky => if kvs.length < 16777216 then .ok .nx env (st.set n (.dct (ptK kvs ky d))) else .bad
      | none => .bad)
    | _ => .bad
def kIA3 (d r : D) : D → M Fl := fun k env st => match r with
  | .ref n => kIA4 n d k st[n]? env st
  | _ => .bad
def kIA2 (fi : M D) (d : D) : D → M Fl := fun r env st => (fi env st).bind (kIA3 d r)
def kIA1 (fo fi : M D) : D → M Fl := fun d env st => (fo env st).bind (kIA2 fi d)
@[simp] theorem x_sItemA : sItemA fo fi fe env st = (fe env st).bind (kIA1 fo fi) := rfl
@[simp] theorem x_kIA1 : kIA1 fo fi d env st = (fo env st).bind (kIA2 fi d) := rfl
@[simp] theorem x_kIA2 : kIA2 fi d x env st = (fi env st).bind (kIA3 d x) := rfl
@[simp] theorem x_kIA3 : kIA3 d (.ref n) y env st = kIA4 n d y st[n]? env st := rfl
def kIA5 (n : Nat) (ds : List D) (d : D) (o : Option Nat) : M Fl := fun env st => match o with
  | some j => .ok .nx env (st.set n (.lst (ds.set j d)))
  | none => .bad
@[simp] theorem x_kIA4 {k : Int} : kIA4 n d (.int k) (some (.lst ds)) env st = kIA5 n ds d (ixN ds.length k) env st := rfl
@[simp] theorem x_kIA4b {k : Int} : kIA4 n d (.int k) (some (.dct kvs)) env st = if kvs.length < 16777216 then .ok .nx env (st.set n (.dct (ptK kvs (.inl k) d))) else .bad := rfl
@[simp] theorem x_kIA4c {k : Str} : kIA4 n d (.str k) (some (.dct kvs)) env st = if kvs.length < 16777216 then .ok .nx env (st.set n (.dct (ptK kvs (.inr k) d))) else .bad := rfl
@[simp] theorem x_kIA5 {j : Nat} : kIA5 n ds d (some j) env st = .ok .nx env (st.set n (.lst (ds.set j d))) := rfl
def kCL : List D → M D := fun ds env st => if ds.length ≤ 16777216 then .ok (.ref st.length) env (st ++ [.lst ds]) else .bad
@[simp] theorem x_eCellL : eCellL fs env st = (fs env st).bind kCL := rfl
@[simp] theorem x_kCL : kCL ds env st = if ds.length ≤ 16777216 then .ok (.ref st.length) env (st ++ [.lst ds]) else .bad := rfl
@[simp] theorem x_eCellD : eCellD env st = .ok (.ref st.length) env (st ++ [.dct []]) := rfl
def kAC4 (g : List D → D → Option (List D)) (n : Nat) (d : D) (ds : List D) : M Fl := fun env st => match g ds d with
        | some es => .ok .nx env (st.set n (.lst es))
        | none => .bad
def kAC3 (g : List D → D → Option (List D)) (n : Nat) (d : D) (o : Option Cell) : M Fl := fun env st => match o with
  | some (.lst ds) => kAC4 g n d ds env st
  | _ => .bad
def kAC2 (g : List D → D → Option (List D)) (n : Nat) : D → M Fl := fun d env st => kAC3 g n d st[n]? env st
def kAC1b (g : List D → D → Option (List D)) (fa : M D) (n : Nat) (o : Option Cell) : M Fl := fun env st => match o with
  | some (.lst _) => (fa env st).bind (kAC2 g n)
  | _ => .bad
def kAC1 (g : List D → D → Option (List D)) (fa : M D) : D → M Fl := fun r env st => match r with
  | .ref n => kAC1b g fa n st[n]? env st
  | _ => .bad
@[simp] theorem x_sAppC {g : List D → D → Option (List D)} : sAppC g fo fa env st = (fo env st).bind (kAC1 g fa) := rfl
@[simp] theorem x_kAC1 {g : List D → D → Option (List D)} : kAC1 g fa (.ref n) env st = kAC1b g fa n st[n]? env st := rfl
@[simp] theorem x_kAC1b {g : List D → D → Option (List D)} : kAC1b g fa n (some (.lst ds)) env st = (fa env st).bind (kAC2 g n) := rfl
@[simp] theorem x_kAC2 {g : List D → D → Option (List D)} : kAC2 g n d env st = kAC3 g n d st[n]? env st := rfl
@[simp] theorem x_kAC3 {g : List D → D → Option (List D)} : kAC3 g n d (some (.lst ds)) env st = kAC4 g n d ds env st := rfl
theorem x_kAC4 (h : ds.length < 16777216) : kAC4 appD n d ds env st = .ok .nx env (st.set n (.lst (ds ++ [d]))) := by
  unfold kAC4 appD
  rw [if_pos h]
def kD4 (n : Nat) (ky : Key) (d : D) (kvs : List (Key × D)) (o : Option D) : M D := fun env st => match o with
        | some x => .ok x env st
        | none => .ok d env (st.set n (.dct (ptK kvs ky d)))
def kD3 (n : Nat) (k d : D) (o : Option Cell) : M D := fun env st => match o, dKey k with
      | some (.dct kvs), some ky => if kvs.length < 16777216 then kD4 n ky d kvs (lkK ky kvs) env st else .bad
      | _, _ => .bad
def kD2b (n : Nat) (k : D) : D → M D := fun d env st => kD3 n k d st[n]? env st
def kD2 (fd : M D) (n : Nat) : D → M D := fun k env st => (fd env st).bind (kD2b n k)
def kD1b (fi fd : M D) (n : Nat) (o : Option Cell) : M D := fun env st => match o with
  | some (.dct _) => (fi env st).bind (kD2 fd n)
  | _ => .bad
def kD1 (fi fd : M D) : D → M D := fun r env st => match r with
  | .ref n => kD1b fi fd n st[n]? env st
  | _ => .bad
@[simp] theorem x_eSetd : eSetd fo fi fd env st = (fo env st).bind (kD1 fi fd) := rfl
@[simp] theorem x_kD1 : kD1 fi fd (.ref n) env st = kD1b fi fd n st[n]? env st := rfl
@[simp] theorem x_kD1b : kD1b fi fd n (some (.dct kvs)) env st = (fi env st).bind (kD2 fd n) := rfl
@[simp] theorem x_kD2 : kD2 fd n x env st = (fd env st).bind (kD2b n x) := rfl
@[simp] theorem x_kD2b : kD2b n x d env st = kD3 n x d st[n]? env st := rfl
@[simp] theorem x_kD3 {s : Str} : kD3 n (.str s) d (some (.dct kvs)) env st = if kvs.length < 16777216 then kD4 n (.inr s) d kvs (lkK (.inr s) kvs) env st else .bad := rfl
@[simp] theorem x_kD4s : kD4 n ky d kvs (some x) env st = .ok x env st := rfl
@[simp] theorem x_kD4n : kD4 n ky d kvs none env st = .ok d env (st.set n (.dct (ptK kvs ky d))) := rfl
def kSK2 (o : Option Cell) : M D := fun env st => match o with
  | some (.dct kvs) => if kvs.all (fun kv => isStr (keyD kv.1)) && decide (kvs.length < 64) then .ok (.lst (srtB kD (kvs.map fun kv => keyD kv.1))) env st else .bad
  | _ => .bad
def kSK : D → M D := fun d env st => match d with
  | .ref n => kSK2 st[n]? env st
  | _ => .bad
@[simp] theorem x_eSortK : eSortK fa env st = (fa env st).bind kSK := rfl
@[simp] theorem x_kSK : kSK (.ref n) env st = kSK2 st[n]? env st := rfl
@[simp] theorem x_kSK2 : kSK2 (some (.dct kvs)) env st = if kvs.all (fun kv => isStr (keyD kv.1)) && decide (kvs.length < 64) then .ok (.lst (srtB kD (kvs.map fun kv => keyD kv.1))) env st else .bad := rfl
end
end VE
namespace VE
open PySem PySem.Spec PyProof.Rows L2
section
variable {fa : M D} {env : EnvD} {st : Sto} {ds : List D}
def kEnA : D → M (List D) := fun d env st => match d with
  | .lst xs => .ok (enuD 0 xs) env st
  | .tup xs => .ok (enuD 0 xs) env st
  | _ => .bad
@[simp] theorem x_iEnA : iEnA fa env st = (fa env st).bind kEnA := rfl
@[simp] theorem x_kEnA1 : kEnA (.lst ds) env st = .ok (enuD 0 ds) env st := rfl
@[simp] theorem x_kEnA2 : kEnA (.tup ds) env st = .ok (enuD 0 ds) env st := rfl
end
section
variable {α β : Type} {t : D → EnvD → Option EnvD} {ws : List Nat} {tt : M Bool} {fe : M D} {g : α → D} {st : Sto}
theorem comp_go {p : α → Bool} {f : α → D} {E0 : EnvD} : ∀ (xs : List α) (acc : List D) (env : EnvD), wipeD ws env = E0 → (∀ a ∈ xs, ∃ e1, t (g a) E0 = some e1 ∧ ∃ e2, tt e1 st = .ok (p a) e2 st ∧ wipeD ws e2 = E0 ∧ (p a = true → ∃ e3, fe e2 st = .ok (f a) e3 st ∧ wipeD ws e3 = E0)) → acc.length + xs.length < 16777216 →
    compL t ws tt fe (xs.map g) acc env st = .ok (.lst (acc ++ (xs.filter p).map f)) E0 st
  | [], acc, env, h0, _, _ => by simp [compL, h0]
  | a :: xs, acc, env, h0, h, hl => by
    obtain ⟨e1, h1, e2, h2, h3, h4⟩ := h a List.mem_cons_self
    have h' := fun b hb => h b (List.mem_cons_of_mem a hb)
    simp only [List.length_cons] at hl
    rw [List.map_cons]
    unfold compL
    rw [h0, h1]
    dsimp only
    rw [h2]
    cases hp : p a with
    | false =>
      dsimp only
      rw [comp_go xs acc e2 h3 h' (by omega), List.filter_cons_of_neg (by rw [hp]; decide)]
    | true =>
      obtain ⟨e3, h5, h6⟩ := h4 hp
      dsimp only
      rw [h5]
      dsimp only
      rw [if_pos (by omega), comp_go xs (acc ++ [f a]) e3 h6 h' (by simp; omega), List.filter_cons_of_pos hp]
      simp
theorem comp_map (p : α → Bool) (f : α → D) {xs : List α} {env : EnvD} (hl : xs.length < 16777216) (h : ∀ a ∈ xs, ∃ e1, t (g a) (wipeD ws env) = some e1 ∧ ∃ e2, tt e1 st = .ok (p a) e2 st ∧ wipeD ws e2 = wipeD ws env ∧ (p a = true → ∃ e3, fe e2 st = .ok (f a) e3 st ∧ wipeD ws e3 = wipeD ws env)) :
    compL t ws tt fe (xs.map g) [] env st = .ok (.lst ((xs.filter p).map f)) (wipeD ws env) st := by
  rw [comp_go (p := p) (f := f) xs [] env rfl h (by simpa using hl)]; rfl
theorem comp_all (f : α → D) {xs : List α} {env : EnvD} (hl : xs.length < 16777216) (h : ∀ a ∈ xs, ∃ e1, t (g a) (wipeD ws env) = some e1 ∧ ∃ e3, fe e1 st = .ok (f a) e3 st ∧ wipeD ws e1 = wipeD ws env ∧ wipeD ws e3 = wipeD ws env) :
    compL t ws bYes fe (xs.map g) [] env st = .ok (.lst (xs.map f)) (wipeD ws env) st := by
  rw [comp_map (p := fun _ => true) (f := f) hl]
  · rw [List.filter_eq_self.mpr fun _ _ => rfl]
  · intro a ha
    obtain ⟨e1, h1, e3, h2, h3, h4⟩ := h a ha
    exact ⟨e1, h1, e1, rfl, h3, fun _ => ⟨e3, h2, h4⟩⟩
/-- a loop that folds a state -/
theorem for_fold {σ : Type} {body : M Fl} (E : σ → EnvD) (step : σ → α → σ) : ∀ (xs : List α) (s : σ), (∀ s, ∀ a ∈ xs, ∃ e1, t (g a) (E s) = some e1 ∧ ∃ e2, body e1 st = .ok .nx e2 st ∧ wipeD ws e2 = E (step s a)) →
    forL t ws body (xs.map g) (E s) st = .ok .nx (E (xs.foldl step s)) st
  | [], s, _ => rfl
  | a :: xs, s, h => by
    obtain ⟨e1, h1, e2, h2, h3⟩ := h s a List.mem_cons_self
    rw [List.map_cons]
    unfold forL
    rw [h1]
    dsimp only
    rw [h2, R.bind_ok]
    dsimp only
    rw [h3, for_fold E step xs (step s a) fun s b hb => h s b (List.mem_cons_of_mem a hb)]
    rfl
theorem enu_map : ∀ (i : Nat) (xs : List α), enuD i (xs.map g) = (xs.zipIdx i).map fun p => .tup [.int (p.2 : Nat), g p.1]
  | _, [] => rfl
  | i, x :: xs => by simp [enuD, enu_map (i + 1) xs]
theorem zip_map {β : Type} {h : β → D} : ∀ (xs : List α) (ys : List β), zipD (xs.map g) (ys.map h) = (xs.zip ys).map fun p => .tup [g p.1, h p.2]
  | [], _ => by simp [zipD]
  | _ :: _, [] => by simp [zipD]
  | x :: xs, y :: ys => by
    have := zip_map (h := h) xs ys
    simp only [zipD, List.map_cons, List.zipWith_cons_cons, List.zip_cons_cons] at this ⊢
    rw [this]
end
end VE
namespace VE
open PySem PySem.Spec PyProof.Rows L2
section
variable {env : EnvD} {st : Sto} {xs ys : List D} {fs : M (List D)}
end
end VE
namespace VE
open PySem PySem.Spec PyProof.Rows L2
section
variable {α : Type} {f fo fi fd fe : M D} {g : M α} {d x y k r : D} {ds : List D} {n i : Nat} {env : EnvD} {st : Sto} {cl : Cell} {es : List (D × D)} {o : Option D}
def kGK2 (kvs : List (Str × D)) (k : D) : D → M D := fun d env st => match k with
  | .str z => ret (kvs.lookup z) env st
  | _ => .bad
def kGK1 (kvs : List (Str × D)) (fd : M D) : D → M D := fun k env st => (fd env st).bind (kGK2 kvs k)
@[simp] theorem x_eGetK {kvs : List (Str × D)} : eGetK kvs fi fd env st = (fi env st).bind (kGK1 kvs fd) := rfl
@[simp] theorem x_kGK1 {kvs : List (Str × D)} : kGK1 kvs fd k env st = (fd env st).bind (kGK2 kvs k) := rfl
@[simp] theorem x_kGK2 {kvs : List (Str × D)} {z : Str} : kGK2 kvs (.str z) d env st = ret (kvs.lookup z) env st := rfl
def kR3c (d d' : D) : D → M (List D) := fun d'' env st => match d, d', d'' with
  | .int i, .int j, .int c => if decide (c ≠ 0) && decide (c.natAbs < 1073741824) && Builtin.Range.small i j c && decide (0 ≤ Builtin.Range.rangeSize i j c) then .ok (rngC i c (Builtin.Range.rangeSize i j c).toNat) env st else .bad
  | _, _, _ => .bad
def kR3b (fc : M D) (d : D) : D → M (List D) := fun d' env st => (fc env st).bind (kR3c d d')
def kR3a (fb fc : M D) : D → M (List D) := fun d env st => (fb env st).bind (kR3b fc d)
@[simp] theorem x_iR3 : iR3 fo fi fd env st = (fo env st).bind (kR3a fi fd) := rfl
@[simp] theorem x_kR3a : kR3a fi fd x env st = (fi env st).bind (kR3b fd x) := rfl
@[simp] theorem x_kR3b : kR3b fd x y env st = (fd env st).bind (kR3c x y) := rfl
theorem x_kR3c {i j c : Int} (h : (decide (c ≠ 0) && decide (c.natAbs < 1073741824) && Builtin.Range.small i j c && decide (0 ≤ Builtin.Range.rangeSize i j c)) = true) : kR3c (.int i) (.int j) (.int c) env st = .ok (rngC i c (Builtin.Range.rangeSize i j c).toNat) env st := by
  unfold kR3c
  dsimp only
  rw [if_pos h]
end
end VE
namespace VE
open PySem PySem.Spec PyProof.Rows L2
section
variable {f fo fa fb fk : M D} {fs : M (List D)} {g : M Fl} {me mx mf : FM} {n n' m : Str} {d x y k r : D} {ds vs : List D} {i q np : Nat} {env : EnvD} {st st' : Sto} {cl : Cell} {kvs : List (Key × D)} {ky : Key} {fl : List (Str × D)} {x' : Exn}
def kWth2 (i : Nat) (mx : FM) (q : Nat) (g : M Fl) : D → M Fl := fun u env st => exitW mx q (g (env.set i (.va u)) st)
def kWthC (i : Nat) (n : Str) (me mx : FM) (g : M Fl) (q : Nat) (c : Option Cell) : M Fl := fun env st => match c with
  | some (.ins n' _) => if n' = n then (callR me [.ref q] env st).bind (kWth2 i mx q g) else .bad
  | _ => .bad
def kWth (i : Nat) (n : Str) (me mx : FM) (g : M Fl) : D → M Fl := fun r env st => match r with
  | .ref q => kWthC i n me mx g q st[q]? env st
  | _ => .bad
@[simp] theorem x_sWith : sWith i n me mx fa g env st = (fa env st).bind (kWth i n me mx g) := rfl
@[simp] theorem x_kWth : kWth i n me mx g (.ref q) env st = kWthC i n me mx g q st[q]? env st := rfl
@[simp] theorem x_kWthC : kWthC i n me mx g q (some (.ins n' fl)) env st = if n' = n then (callR me [.ref q] env st).bind (kWth2 i mx q g) else .bad := rfl
@[simp] theorem x_kWth2 : kWth2 i mx q g x env st = exitW mx q (g (env.set i (.va x)) st) := rfl
theorem x_exitW_ok (h : mx [.ref q] st = .ok d st') : exitW mx q (.ok .nx env st) = .ok .nx env st' := by unfold exitW; dsimp only; rw [h]
def kMS2 (n : Str) (mf : FM) (np q : Nat) (fs : M (List D)) (c : Option Cell) : M D := fun env st => match c with
  | some (.slo n' _) => if n' = n then (fs env st).bind (kM3 mf np q) else .bad
  | _ => .bad
def kMS1 (n : Str) (mf : FM) (np : Nat) (fs : M (List D)) : D → M D := fun r env st => match r with
  | .ref q => kMS2 n mf np q fs st[q]? env st
  | _ => .bad
@[simp] theorem x_eMethS : eMethS n mf np fo fs env st = (fo env st).bind (kMS1 n mf np fs) := rfl
@[simp] theorem x_kMS1 : kMS1 n mf np fs (.ref q) env st = kMS2 n mf np q fs st[q]? env st := rfl
@[simp] theorem x_kMS2 : kMS2 n mf np q fs (some (.slo n' ds)) env st = if n' = n then (fs env st).bind (kM3 mf np q) else .bad := rfl
def kMSz2 (n : Str) (mf : FM) (np q : Nat) (c : Option Cell) : M D := fun env st => match c with
  | some (.slo n' _) => if n' = n ∧ np = 1 then callR mf [.ref q] env st else .bad
  | _ => .bad
def kMSz1 (n : Str) (mf : FM) (np : Nat) : D → M D := fun r env st => match r with
  | .ref q => kMSz2 n mf np q st[q]? env st
  | _ => .bad
@[simp] theorem x_eMethS0 : eMethS0 n mf np fo env st = (fo env st).bind (kMSz1 n mf np) := rfl
@[simp] theorem x_kMSz1 : kMSz1 n mf np (.ref q) env st = kMSz2 n mf np q st[q]? env st := rfl
@[simp] theorem x_kMSz2 : kMSz2 n mf np q (some (.slo n' ds)) env st = if n' = n ∧ np = 1 then callR mf [.ref q] env st else .bad := rfl
def kDpc (q : Nat) (k d : D) (c : Option Cell) : M D := fun env st => match dKey k with
  | some ky => (match c with
    | some (.dct []) => .ok (.ref q) env (st.set q (.dct [(ky, d)]))
    | _ => .bad)
  | none => .bad
def kDpb (q : Nat) (k : D) : D → M D := fun d env st => kDpc q k d st[q]? env st
def kDpa (q : Nat) (fa : M D) : D → M D := fun k env st => (fa env st).bind (kDpb q k)
@[simp] theorem x_eDict1 : eDict1 fk fa env st = (fk env (st ++ [.dct []])).bind (kDpa st.length fa) := rfl
@[simp] theorem x_kDpa : kDpa q fa k env st = (fa env st).bind (kDpb q k) := rfl
@[simp] theorem x_kDpb : kDpb q k d env st = kDpc q k d st[q]? env st := rfl
@[simp] theorem x_kDpc {z : Str} : kDpc q (.str z) d (some (.dct [])) env st = .ok (.ref q) env (st.set q (.dct [(.inr z, d)])) := rfl
def kOr (a b : Option Cell) : M D := fun env st => match a, b with
  | some (.dct kvs), some (.dct [(k, d)]) => if kvs.length < 16777216 then .ok (.ref st.length) env (st ++ [.dct (ptK kvs k d)]) else .bad
  | _, _ => .bad
@[simp] theorem x_orD {p q : Nat} : orD (.ref p) (.ref q) env st = kOr st[p]? st[q]? env st := rfl
@[simp] theorem x_kOr : kOr (some (.dct kvs)) (some (.dct [(ky, d)])) env st = if kvs.length < 16777216 then .ok (.ref st.length) env (st ++ [.dct (ptK kvs ky d)]) else .bad := rfl
def kCm (n : Str) (mf : FM) (np : Nat) : List D → M D := fun ds env st => if ds.length + 1 = np then callR mf (.fn (.glb n) :: ds) env st else .bad
@[simp] theorem x_eCmeth : eCmeth n mf np fs env st = (fs env st).bind (kCm n mf np) := rfl
@[simp] theorem x_kCm : kCm n mf np ds env st = if ds.length + 1 = np then callR mf (.fn (.glb n) :: ds) env st else .bad := rfl
def kMkL (n : Str) (mf : FM) (np : Nat) (fs : M (List D)) (s : Option Sl) : M D := fun env st => match s with
  | some (.va (.fn (.glb n'))) => if n' = n then eMake n mf np fs env st else .bad
  | _ => .bad
@[simp] theorem x_eMakeL : eMakeL i n mf np fs env st = kMkL n mf np fs env[i]? env st := rfl
@[simp] theorem x_kMkL : kMkL n mf np fs (some (.va (.fn (.glb n')))) env st = if n' = n then eMake n mf np fs env st else .bad := rfl
def kSP3 (q : Nat) (o : Option Cell) : M Fl := fun env st => match o with
  | some c => .ok .nx env (st.set q c)
  | none => .bad
def kSP2 (n : Str) (i : Nat) (fin : Option (List Nat × List Nat)) (d : D) : D → M Fl := fun r env st => match r with
  | .ref q => kSP3 q (putP n i fin d st[q]?) env st
  | _ => .bad
def kSP1 (n : Str) (i : Nat) (fin : Option (List Nat × List Nat)) (fo : M D) : D → M Fl := fun d env st => (fo env st).bind (kSP2 n i fin d)
@[simp] theorem x_sSlotP {fin : Option (List Nat × List Nat)} {fe : M D} : sSlotP n i fin fo fe env st = (fe env st).bind (kSP1 n i fin fo) := by
  unfold sSlotP kSP1
  rfl
@[simp] theorem x_kSP1 {fin : Option (List Nat × List Nat)} : kSP1 n i fin fo d env st = (fo env st).bind (kSP2 n i fin d) := rfl
@[simp] theorem x_kSP2 {fin : Option (List Nat × List Nat)} : kSP2 n i fin d (.ref q) env st = kSP3 q (putP n i fin d st[q]?) env st := rfl
@[simp] theorem x_kSP3 {c : Cell} : kSP3 q (some c) env st = .ok .nx env (st.set q c) := rfl
@[simp] theorem x_putP1 : putP n i none d (some (.slo n [])) = some (.slp n [i] [d]) := by simp [putP]
@[simp] theorem x_putP2 {ix : List Nat} (h : ds.length = ix.length) : putP n i none d (some (.slp n ix ds)) = some (.slp n (ix ++ [i]) (ds ++ [d])) := by simp [putP, h]
@[simp] theorem x_putP3 {ix ix' perm : List Nat} (h : ds.length = ix.length) (h2 : ix' = ix ++ [i]) : putP n i (some (ix', perm)) d (some (.slp n ix ds)) = some (.slo n (reoS perm (ds ++ [d]))) := by simp [putP, h, h2]
end
end VE
namespace VE
open PySem PySem.Spec PyProof.Rows L2
variable [VEnv]
/-- a constant that is a tuple of ints, of texts -/
theorem ConstV.tupI {K : PySem.W.Frag} {mg : Str → Option Value} {n : Str} {a : Addr} {dd : Option Addr} {its : Array Value} {k : Nat} {sl : Array (Option Value)} {ns : List Int} (h : mg n = some (.ref a)) (hl : K.lookup a = some ⟨.type "tuple", dd, .seq its k, sl⟩) (hv : IntsAre its.toList ns) (hz : its.size ≤ sizeLine) : ConstV K mg n (.tup (ns.map .int)) :=
  ⟨_, .ref a, h, rfl, fun F c H => .tup (xs := ns.map V.int) (.inr ⟨_, its, k, hl, rfl, rfl, hz, vals_of_ints hv⟩) (by
    clear hv
    induction ns with
    | nil => exact .nil
    | cons x ns ih => exact .cons (.int x) ih)⟩
/-- the law's promise: a list of ints is handed in, True comes out -/
def spLaw (K : PySem.W.Frag) : Sp := fun vs H Q _ => ∃ (a : Addr) (ns : List Int), vs = [.ref a] ∧ SqL K H a (ns.map V.int) ∧ ns.length ≤ 63 ∧ (∀ p ∈ VEnv.T, H p.1 = some (.tbl #[])) ∧ ∀ H', Q (.bl true) H'
omit [VEnv] in
theorem cx_none {P : Program} {w : World} {H : Hp} {s : Shared} {e : Value} {s' : Shared} (h : L2.CX P w [] H s (fun _ _ _ => False) e s') : False := by
  obtain ⟨_, _, _, _, _, _, _, _, _, _, _, _, z⟩ := h
  exact z
/-- the law's mirror gives True -/
def LawTrue (m : FM) : Prop := ∀ ns : List Int, ns.length ≤ 63 → ∃ st, m [.scr ns] [] = .ok (.bl true) st
theorem law_end {P : Program} {w : World} {K : PySem.W.Frag} {mg : Str → Option Value} {fa : Addr} {k : Nat} {x : Str} {m : FM} (hm : LawTrue m)
    (h : ∃ fd : FuncData, (∀ (s : Shared) (v : Value), BindsTo s fd ⟨[v], []⟩ [(x, v)]) ∧ ∀ base : Heap, K.In base → base.Ns mainGlobals mg → FnOk P w K mg base (L2.CX P w) k fa fd [x] (spV K mg false 1 m)) :
    ∃ fd : FuncData, (∀ (s : Shared) (v : Value), BindsTo s fd ⟨[v], []⟩ [(x, v)]) ∧ ∀ base : Heap, K.In base → base.Ns mainGlobals mg → FnOk P w K mg base (L2.CX P w) k fa fd [x] (spLaw K) := by
  obtain ⟨fd, h1, h2⟩ := h
  refine ⟨fd, h1, fun base KB GB => (h2 base KB GB).imp fun vs H Q E q => ?_⟩
  obtain ⟨a, ns, rfl, hS, hl, hT, k⟩ := q
  obtain ⟨st, e⟩ := hm ns hl
  refine ⟨fun b => (∃ o, H b = some o) ∧ ∀ ps, H b ≠ some (.tbl ps), [], [.scr ns], [], ⟨fun _ h => h.1, rfl, List.nodup_nil, fun n _ _ h => by simp at h, (fun _ h => nomatch h), fun p hp => ⟨fun h => h.2 _ (hT p hp), fun h => (by simp at h), #[], hT p hp, True.intro, fun pos cv h => ?_⟩⟩, .cons (.scr ?_) .nil, rfl, ?_⟩
  · have z : codeAmong pos [] = some cv := h
    simp [codeAmong] at z
  · rcases hS with h | h
    · refine .inl ⟨?_, h⟩
      rcases h with h | ⟨o, h⟩
      · exact ⟨⟨_, h⟩, fun ps z => by rw [h] at z; cases z⟩
      · exact ⟨⟨_, h⟩, fun ps z => by rw [h] at z; cases z⟩
    · exact .inr h
  · rw [e]
    intro v F' c' H' _ _ _ rv
    cases (show Rp K mg F' c' H' v (.bl true) from rv)
    exact k H'
end VE
namespace VE
open PySem PySem.Spec PyProof.Rows L2
end VE
namespace VP
open PySem PySem.Spec PyProof.Rows L2 VE
open SX (S S_len S_cat S_inj)
structure Rul where
  piece : Str
  low : Int
  high : Int
  modulus : Int
  rests : List Int
  kinds : List Str
structure Bok where
  kinds : List Str
  rules : List Rul
def Rul.d (r : Rul) : D := .obj "Rule" [.tup [.str r.piece, .int r.low, .int r.high, .int r.modulus, .tup (r.rests.map .int), .tup (r.kinds.map .str)]]
def Bok.d (b : Bok) : D := .obj "Book" [.tup [.tup (b.kinds.map .str), .tup (b.rules.map Rul.d)]]
def LASTn : Int := 999999999999999999999999999999
/-- a word: one to eight letters a to z -/
def WOk (w : Str) : Prop := ∃ L : List Nat, w = S L ∧ 1 ≤ L.length ∧ L.length ≤ 8 ∧ ∀ c ∈ L, 97 ≤ c ∧ c < 123
def ascI : List Int → Bool
  | [] => true
  | x :: xs => (xs.head?.all fun y => decide (x < y)) && ascI xs
def ascS : List Str → Bool
  | [] => true
  | x :: xs => (xs.head?.all fun y => ltS x y) && ascS xs
structure KOk (ks : List Str) : Prop where
  ne : ks ≠ []
  w : ∀ k ∈ ks, WOk k
  asc : ascS ks = true
  len : ks.length < 1000
structure RulOk (r : Rul) : Prop where
  piece : WOk r.piece
  low0 : 0 ≤ r.low
  low1 : r.low ≤ LASTn
  high0 : r.low ≤ r.high
  high1 : r.high ≤ LASTn
  mod : r.modulus ∈ [1, 2, 3, 4, 6, 12]
  rne : r.rests ≠ []
  rin : ∀ x ∈ r.rests, 0 ≤ x ∧ x < r.modulus
  rasc : ascI r.rests = true
  rlen : r.rests.length < 1000
  kinds : KOk r.kinds
structure BokOk (b : Bok) : Prop where
  kinds : KOk b.kinds
  klen : b.kinds.length ≤ 4
  rules : ∀ r ∈ b.rules, RulOk r
  rlen : b.rules.length ≤ 8
  sub : ∀ r ∈ b.rules, ∀ k ∈ r.kinds, k ∈ b.kinds
def fitsB (n : Int) (k : Str) (r : Rul) : Bool := decide (r.low ≤ n) && decide (n ≤ r.high) && decide (n % r.modulus ∈ r.rests) && r.kinds.any fun z => decide (z = k)
/-- the piece in which a row lies -/
def Bok.place (b : Bok) (n : Int) (k : Str) : Option Str := (b.rules.find? (fitsB n k)).map (·.piece)
def optS : Option Str → D
  | none => .non
  | some x => .str x
theorem Rul.d_rf {n : Nat} {r : Rul} : rfB n r.d = true := by
  have h1 : rfBs n (r.rests.map D.int) = true := rfs_all fun x hx => by obtain ⟨y, _, rfl⟩ := List.mem_map.mp hx; exact rf_int
  have h2 : rfBs n (r.kinds.map D.str) = true := rfs_all fun x hx => by obtain ⟨y, _, rfl⟩ := List.mem_map.mp hx; exact rf_str
  simp [Rul.d, h1, h2]
theorem S_ok {L : List Nat} (h : ∀ c ∈ L, 97 ≤ c ∧ c < 123) : PyData.strOk (S L) = true := ok_S fun c hc => by have := h c hc; omega
theorem WOk.ok {w : Str} (h : WOk w) : PyData.strOk w = true := by
  obtain ⟨L, rfl, _, _, h⟩ := h
  exact S_ok h
theorem pl_strs {n : Nat} {ks : List Str} (h : ∀ k ∈ ks, PyData.strOk k = true) : plains n (ks.map .str) = true := by
  induction ks with
  | nil => simp
  | cons k ks ih => rw [List.map_cons, pls_cons, pl_str, h k List.mem_cons_self, ih fun k hk => h k (List.mem_cons_of_mem _ hk)]; rfl
theorem any_strs {x : Str} : ∀ {ks : List Str}, (ks.map D.str).any (fun z => eqD z (.str x)) = ks.any fun z => decide (z = x)
  | [] => rfl
  | k :: ks => by simp [any_strs]
theorem any_ints {x : Int} : ∀ {ks : List Int}, (ks.map D.int).any (fun z => eqD z (.int x)) = decide (x ∈ ks)
  | [] => by simp
  | k :: ks => by
    rw [List.map_cons, List.any_cons, any_ints, VE.eq_int]
    by_cases h : k = x
    · subst h; simp
    · have : ¬ x = k := fun z => h z.symm
      simp [h, this]
@[simp] theorem in_ints {neg : Bool} {x : Int} {ks : List Int} : inV neg (.int x) (.tup (ks.map .int)) = some (.bl (ng neg (decide (x ∈ ks)))) := by
  rw [inV_tup pl_int (by simp), any_ints]
theorem in_strs {neg : Bool} {x : Str} {ks : List Str} (hx : PyData.strOk x = true) (hk : ∀ k ∈ ks, PyData.strOk k = true) : inV neg (.str x) (.tup (ks.map .str)) = some (.bl (ng neg (ks.any fun z => decide (z = x)))) := by
  rw [inV_tup (by simpa using hx) (by simpa using pl_strs hk), any_strs]
@[simp] theorem toRF_nx {e : EnvD} {st : Sto} : toRF false (.ok .nx e st) = .ok .non st := rfl
@[simp] theorem toRF_rt {d : D} {e : EnvD} {st : Sto} : toRF false (.ok (.rt d) e st) = .ok d st := rfl
@[simp] theorem toRF_rf {fr : Bool} {d : D} {e : EnvD} {st : Sto} : toRF fr (.ok (.rf d) e st) = .ok d st := rfl
@[simp] theorem toRF_ex {fr : Bool} {x : Exn} {e : EnvD} {st : Sto} : toRF fr (.ex x e st) = .ex x st := rfl
@[simp] theorem toRF_bad {fr : Bool} : toRF fr .bad = .bad := rfl
theorem toF_def {fr : Bool} {n : Nat} {g : M Fl} {ds : List D} {st : Sto} : toF fr n g ds st = toRF fr (g (env0 n ds) st) := rfl
/-- a row's kind, a book's kinds -/
theorem KOk.ok {ks : List Str} (h : KOk ks) : ∀ k ∈ ks, PyData.strOk k = true := fun k hk => (h.w k hk).ok
theorem KOk.pl {ks : List Str} (h : KOk ks) {m : Nat} : plains m (ks.map .str) = true := pl_strs h.ok
theorem RulOk.mpos {r : Rul} (h : RulOk r) : 0 < r.modulus := by
  have := h.mod; simp at this; omega
theorem pls_map {α : Type} {f : α → D} {n : Nat} : ∀ {xs : List α}, (∀ x ∈ xs, plain n (f x) = true) → plains n (xs.map f) = true
  | [], _ => by simp
  | x :: xs, h => by rw [List.map_cons, pls_cons, h x List.mem_cons_self, pls_map fun y hy => h y (List.mem_cons_of_mem _ hy)]; rfl
@[simp] theorem pls_mapI {α : Type} {f : α → Int} {n : Nat} {xs : List α} : plains n (xs.map fun x => .int (f x)) = true := pls_map fun _ _ => pl_int
theorem eqs_strs : ∀ {xs ys : List Str}, eqDs (xs.map .str) (ys.map .str) = decide (xs = ys)
  | [], [] => by simp
  | [], y :: ys => by simp
  | x :: xs, [] => by simp
  | x :: xs, y :: ys => by simp [eqs_strs]
theorem atI_nat {α : Type} {xs : List α} {i : Nat} {x : α} (h : xs[i]? = some x) : atI xs (i : Int) = some x := by
  have hl := (List.getElem?_eq_some_iff.mp h).1
  rw [atI_pos (by omega) (by omega)]
  simpa using h
@[simp] theorem all_tt {α : Type} {xs : List α} : (xs.all fun _ => true) = true := by simp
section
variable {α : Type} {t : D → EnvD → Option EnvD} {ws : List Nat} {tt : M Bool} {fe : M D} {g : α → D}
/-- a loop, by an invariant; it goes through -/
theorem for_inv {body : M Fl} (Inv : Nat → EnvD → Sto → Prop) : ∀ (ds : List D) (j : Nat) (env : EnvD) (st : Sto), Inv j env st →
    (∀ i d env st, ds[i]? = some d → Inv (j + i) env st → ∃ e1, t d env = some e1 ∧ ∃ e2 st2, body e1 st = .ok .nx e2 st2 ∧ Inv (j + i + 1) (wipeD ws e2) st2) →
    ∃ e' st', forL t ws body ds env st = .ok .nx e' st' ∧ Inv (j + ds.length) e' st'
  | [], j, env, st, h0, _ => ⟨env, st, rfl, h0⟩
  | d :: ds, j, env, st, h0, hs => by
    obtain ⟨e1, h1, e2, st2, h2, h3⟩ := hs 0 d env st rfl h0
    obtain ⟨e', st', h4, h5⟩ := for_inv Inv ds (j + 1) (wipeD ws e2) st2 h3 fun i d' env st hd hI => by
      have := hs (i + 1) d' env st (by simpa using hd) (by rw [show j + (i + 1) = j + 1 + i from by omega]; exact hI)
      rw [show j + (i + 1) = j + 1 + i from by omega] at this
      exact this
    refine ⟨e', st', ?_, by rw [show j + (d :: ds).length = j + 1 + ds.length from by simp only [List.length_cons]; omega]; exact h5⟩
    unfold forL
    rw [h1]
    dsimp only
    rw [h2]
    exact h4
/-- a comprehension of items that are drawn or not -/
theorem comp_draw {E0 : EnvD} (Ok : Sto → Prop) : ∀ (xs : List α) (acc : List D) (env : EnvD) (st : Sto), wipeD ws env = E0 → Ok st → acc.length + xs.length < 16777216 →
    (∀ a st, a ∈ xs → Ok st → ∃ e1, t (g a) E0 = some e1 ∧ ∃ b e2 st2, tt e1 st = .ok b e2 st2 ∧ Ok st2 ∧ wipeD ws e2 = E0 ∧ ∃ e3, fe e2 st2 = .ok (g a) e3 st2 ∧ wipeD ws e3 = E0) →
    ∃ (ys : List α) (st' : Sto), ys.Sublist xs ∧ Ok st' ∧ compL t ws tt fe (xs.map g) acc env st = .ok (.lst (acc ++ ys.map g)) E0 st'
  | [], acc, env, st, h0, hk, _, _ => ⟨[], st, .slnil, hk, by simp [compL, h0]⟩
  | a :: xs, acc, env, st, h0, hk, hl, h => by
    obtain ⟨e1, h1, b, e2, st2, h2, h3, h4, e3, h5, h6⟩ := h a st List.mem_cons_self hk
    have h' := fun b st hb => h b st (List.mem_cons_of_mem a hb)
    simp only [List.length_cons] at hl
    rw [List.map_cons]
    unfold compL
    rw [h0, h1]
    dsimp only
    rw [h2]
    cases b with
    | false =>
      obtain ⟨ys, st', k1, k2, k3⟩ := comp_draw Ok xs acc e2 st2 h4 h3 (by omega) h'
      exact ⟨ys, st', k1.cons _, k2, k3⟩
    | true =>
      obtain ⟨ys, st', k1, k2, k3⟩ := comp_draw Ok xs (acc ++ [g a]) e3 st2 h6 h3 (by simp; omega) h'
      refine ⟨a :: ys, st', k1.cons_cons _, k2, ?_⟩
      dsimp only
      rw [h5]
      dsimp only
      rw [if_pos (by omega), k3]
      simp
end
theorem ascI_sub : ∀ {xs ys : List Int}, ys.Sublist xs → xs.Pairwise (· < ·) → ascI ys = true := by
  have key : ∀ {ys : List Int}, ys.Pairwise (· < ·) → ascI ys = true := by
    intro ys h
    induction h with
    | nil => rfl
    | cons h t ih =>
      rename_i x xs
      simp only [ascI, ih, Bool.and_true]
      cases xs with
      | nil => rfl
      | cons y ys => simpa using h y List.mem_cons_self
  exact fun {_ _} s p => key (List.Pairwise.sublist s p)
theorem ascS_sub : ∀ {xs ys : List Str}, ys.Sublist xs → xs.Pairwise (fun x y => ltS x y = true) → ascS ys = true := by
  have key : ∀ {ys : List Str}, ys.Pairwise (fun x y => ltS x y = true) → ascS ys = true := by
    intro ys h
    induction h with
    | nil => rfl
    | cons h t ih =>
      rename_i x xs
      simp only [ascS, ih, Bool.and_true]
      cases xs with
      | nil => rfl
      | cons y ys => simpa using h y List.mem_cons_self
  exact fun {_ _} s p => key (List.Pairwise.sublist s p)
theorem rng_map {lo : Int} {n : Nat} : rngD lo n = ((List.range n).map fun i => lo + (i : Nat)).map .int := by
  unfold rngD; rw [List.map_map]; rfl
theorem rng_asc {lo : Int} {n : Nat} : ((List.range n).map fun i => lo + ((i : Nat) : Int)).Pairwise (· < ·) := by
  rw [List.pairwise_map]
  exact (List.pairwise_lt_range (n := n)).imp fun h => by omega
theorem sat_ex {r : RF} {P : D → Sto → Prop} (h : r.sat P nE) : ∃ d s, r = .ok d s ∧ P d s := by
  cases r with
  | ok d s => exact ⟨d, s, rfl, by simpa using h⟩
  | ex x s => exact (show False by simpa using h).elim
  | bad => simp at h
@[simp] theorem at01 {p : Prop} [Decidable p] {a b : Int} : atI [D.int a, D.int b] (if p then 1 else 0) = some (.int (if p then b else a)) := by
  by_cases h : p
  · rw [if_pos h, if_pos h]; rfl
  · rw [if_neg h, if_neg h]; rfl
end VP
namespace VP
open PySem PySem.Spec PyProof.Rows L2 VE
noncomputable section
def k_LAST : D := .int 999999999999999999999999999999
def k_LETTERS_books : D := .str ("abcdefghijklmnopqrstuvwxyz" : Str)
def k_LETTERS_tables : D := .str ("abcdefghijklmnopqrstuvwxyz" : Str)
def k_MAX_KINDS : D := .int 4
def k_MAX_NAME : D := .int 8
def k_MAX_ROWS : D := .int 30
def k_MAX_RULES : D := .int 8
def k_MAX_WORD : D := .int 8
def k_MODULI : D := .tup [(.int 1), (.int 2), (.int 3), (.int 4), (.int 6), (.int 12)]
def kd_SIZES : List (Str × D) := [(("put" : Str), .int 2), (("drop" : Str), .int 2), (("rebook" : Str), .int 2), (("keep_as" : Str), .int 2), (("fetch" : Str), .int 2), (("undo" : Str), .int 1), (("redo" : Str), .int 1)]
def b_is_number : M Fl :=
  sRet (eAnd (eUn (isiD "int") (eVar 0)) (eAnd (eNot (eUn (isiD "bool") (eVar 0))) (eChain (fun i j => decide (i ≤ j)) (fun i j => decide (i ≤ j)) (eVar 1) (eVar 0) (eVar 2))))
def m_is_number : FM := toF false 3 b_is_number
def b_is_word : M Fl :=
  sRet (eAnd (eUn (isiD "str") (eVar 0)) (eAnd (eChain (fun i j => decide (i ≤ j)) (fun i j => decide (i ≤ j)) (eC (.int 1)) (eB1 lenD (eVar 0)) (eC k_MAX_WORD)) (eBlt (b1 allD) (eCons (eComp (iQ (eVar 0)) (gN 1) [1] (bYes) (eBin (inA false) (eVar 1) (eC k_LETTERS_books))) eNil))))
def m_is_word : FM := toF false 2 b_is_word
def b_ascend : M Fl :=
  sRet (eBlt (b1 allD) (eCons (eComp (iZip (eCons (eVar 0) (eCons (eSlA (eVar 0) (oSome (eC (.int 1))) (oNone)) eNil))) (gT 2 (gsC (gN 1) (gsC (gN 2) (gsN)))) [1, 2] (bYes) (eBin gLtA (eVar 1) (eVar 2))) eNil))
def m_ascend : FM := toF false 3 b_ascend
def b_Rule_piece : M Fl :=
  sRet (eBin ixA (eSlU "Rule" 0 (eVar 0)) (eC (.int 0)))
def m_Rule_piece : FM := toF false 1 b_Rule_piece
def b_Rule_low : M Fl :=
  sRet (eBin ixA (eSlU "Rule" 0 (eVar 0)) (eC (.int 1)))
def m_Rule_low : FM := toF false 1 b_Rule_low
def b_Rule_high : M Fl :=
  sRet (eBin ixA (eSlU "Rule" 0 (eVar 0)) (eC (.int 2)))
def m_Rule_high : FM := toF false 1 b_Rule_high
def b_Rule_modulus : M Fl :=
  sRet (eBin ixA (eSlU "Rule" 0 (eVar 0)) (eC (.int 3)))
def m_Rule_modulus : FM := toF false 1 b_Rule_modulus
def b_Rule_rests : M Fl :=
  sRet (eBin ixA (eSlU "Rule" 0 (eVar 0)) (eC (.int 4)))
def m_Rule_rests : FM := toF false 1 b_Rule_rests
def b_Rule_kinds : M Fl :=
  sRet (eBin ixA (eSlU "Rule" 0 (eVar 0)) (eC (.int 5)))
def m_Rule_kinds : FM := toF false 1 b_Rule_kinds
def b_Book_kinds : M Fl :=
  sRet (eBin ixA (eSlU "Book" 0 (eVar 0)) (eC (.int 0)))
def m_Book_kinds : FM := toF false 1 b_Book_kinds
def b_Book_rules : M Fl :=
  sRet (eBin ixA (eSlU "Book" 0 (eVar 0)) (eC (.int 1)))
def m_Book_rules : FM := toF false 1 b_Book_rules
def b_rest_of : M Fl :=
  sRet (eBin (sc2 modI) (eBlt (b1 intD) (eCons (eVar 0) eNil)) (eVar 1))
def m_rest_of : FM := toF false 2 b_rest_of
def b_named : M Fl :=
  sRet (eIf (eT (eBin (sc2 (isN false)) (eVar 0) (eC .non))) (eC (.str ("" : Str))) (eVar 0))
def m_named : FM := toF false 1 b_named
def b_is_operation : M Fl :=
  sSeq (sIf (bOr (bNot (eT (eUn (isiD "tuple") (eVar 0)))) (bOr (eT (eBin (sc2 eqE) (eVar 0) (eTup (eNil)))) (bNot (eT (eUn (isiD "str") (eBin ixA (eVar 0) (eC (.int 0))))))))
    (sRet (eC (.bl false)))
    (sNx))
    (sRet (eBin (sv2 eqP) (eGetK kd_SIZES (eBin ixA (eVar 0) (eC (.int 0))) (eC (.int 0))) (eB1 lenD (eVar 0))))
def m_is_operation : FM := toF false 1 b_is_operation
def b_is_name : M Fl :=
  sSeq (sIf (bOr (bNot (eT (eUn (isiD "str") (eVar 0)))) (bNot (eT (eChain (fun i j => decide (i ≤ j)) (fun i j => decide (i ≤ j)) (eC (.int 1)) (eB1 lenD (eVar 0)) (eC k_MAX_NAME)))))
    (sRet (eC (.bl false)))
    (sNx))
    (sRet (eBlt (b1 allD) (eCons (eComp (iQ (eVar 0)) (gN 1) [1] (bYes) (eBin (inA false) (eVar 1) (eC k_LETTERS_tables))) eNil)))
def m_is_name : FM := toF false 2 b_is_name
def b_State_init : M Fl :=
  sSeq (sSlotP "State" 0 none (eVar 0) (eVar 1))
    (sSeq (sSlotP "State" 2 none (eVar 0) (eVar 2))
    (sSeq (sSlotP "State" 1 none (eVar 0) (eVar 3))
    (sSlotP "State" 3 (some ([0, 2, 1, 3], [0, 2, 1, 3])) (eVar 0) (eVar 4))))
def m_State_init : FM := toF false 5 b_State_init
def b_State_go_on : M Fl :=
  sSeq (sSlotW "State" 1 (eVar 0) (eTup (eStar (eSlU "State" 1 (eVar 0)) (eCons (eTup (eCons (eVar 1) (eCons (eSlU "State" 0 (eVar 0)) (eCons (eSlU "State" 2 (eVar 0)) (eNil))))) (eNil)))))
    (sSeq (sSlotW "State" 3 (eVar 0) (eTup (eNil)))
    (sSeq (sSlotW "State" 0 (eVar 0) (eVar 2))
    (sSlotW "State" 2 (eVar 0) (eVar 3))))
def m_State_go_on : FM := toF false 4 b_State_go_on
def b_State_go_back : M Fl :=
  sSeq (sAsg (gT 3 (gsC (gN 1) (gsC (gN 2) (gsC (gN 3) (gsN))))) (eBin ixA (eSlU "State" 1 (eVar 0)) (eUn negI (eC (.int 1)))))
    (sSeq (sSlotW "State" 3 (eVar 0) (eTup (eStar (eSlU "State" 3 (eVar 0)) (eCons (eTup (eCons (eVar 1) (eCons (eSlU "State" 0 (eVar 0)) (eCons (eSlU "State" 2 (eVar 0)) (eNil))))) (eNil)))))
    (sSeq (sSlotW "State" 1 (eVar 0) (eSlA (eSlU "State" 1 (eVar 0)) (oNone) (oSome (eUn negI (eC (.int 1))))))
    (sSeq (sSlotW "State" 0 (eVar 0) (eVar 2))
    (sSlotW "State" 2 (eVar 0) (eVar 3)))))
def m_State_go_back : FM := toF false 4 b_State_go_back
def b_State_go_again : M Fl :=
  sSeq (sAsg (gT 3 (gsC (gN 1) (gsC (gN 2) (gsC (gN 3) (gsN))))) (eBin ixA (eSlU "State" 3 (eVar 0)) (eUn negI (eC (.int 1)))))
    (sSeq (sSlotW "State" 1 (eVar 0) (eTup (eStar (eSlU "State" 1 (eVar 0)) (eCons (eTup (eCons (eVar 1) (eCons (eSlU "State" 0 (eVar 0)) (eCons (eSlU "State" 2 (eVar 0)) (eNil))))) (eNil)))))
    (sSeq (sSlotW "State" 3 (eVar 0) (eSlA (eSlU "State" 3 (eVar 0)) (oNone) (oSome (eUn negI (eC (.int 1))))))
    (sSeq (sSlotW "State" 0 (eVar 0) (eVar 2))
    (sSlotW "State" 2 (eVar 0) (eVar 3)))))
def m_State_go_again : FM := toF false 4 b_State_go_again
def b_Table_book_now : M Fl :=
  sRet (eBin ixA (eSlU "State" 0 (eFlU "Table" "held" (eVar 0))) (eC (.int 0)))
def m_Table_book_now : FM := toF false 1 b_Table_book_now
def b_Table_rows_now : M Fl :=
  sRet (eBlt (b1 listD) (eCons (eBin ixA (eSlU "State" 0 (eFlU "Table" "held" (eVar 0))) (eC (.int 1))) eNil))
def m_Table_rows_now : FM := toF false 1 b_Table_rows_now
def b_Table_counts_now : M Fl :=
  sRet (eBlt (b1 listD) (eCons (eBin ixA (eSlU "State" 0 (eFlU "Table" "held" (eVar 0))) (eC (.int 2))) eNil))
def m_Table_counts_now : FM := toF false 1 b_Table_counts_now
def b_Table_kept_under : M Fl :=
  sRet (eSortK (eSlU "State" 2 (eFlU "Table" "held" (eVar 0))))
def m_Table_kept_under : FM := toF false 1 b_Table_kept_under
def b_Table_history : M Fl :=
  sRet (eComp (iQ (eSlU "State" 1 (eFlU "Table" "held" (eVar 0)))) (gT 3 (gsC (gN 1) (gsC (gN 2) (gsC (gN 3) (gsN))))) [1, 2, 3] (bYes) (eVar 1))
def m_Table_history : FM := toF false 4 b_Table_history
def b_Trial_init : M Fl :=
  sSeq (sFldS "Trial" "tested_table" (eVar 0) (eVar 1))
    (sSeq (sFldS "Trial" "origin" (eVar 0) (eFlU "Table" "held" (eVar 1)))
    (sSeq (sFldS "Trial" "newest" (eVar 0) (eFlU "Table" "held" (eVar 1)))
    (sFldS "Trial" "chosen" (eVar 0) (eFlU "Table" "held" (eVar 1)))))
def m_Trial_init : FM := toF false 2 b_Trial_init
def b_Trial_hold : M Fl :=
  sFldS "Trial" "chosen" (eVar 0) (eFlU "Trial" "newest" (eVar 0))
def m_Trial_hold : FM := toF false 1 b_Trial_hold
def b_Trial_exit : M Fl :=
  sSeq (sSlotW "State" 0 (eFlU "Trial" "origin" (eVar 0)) (eSlU "State" 0 (eFlU "Trial" "chosen" (eVar 0))))
    (sSeq (sSlotW "State" 2 (eFlU "Trial" "origin" (eVar 0)) (eSlU "State" 2 (eFlU "Trial" "chosen" (eVar 0))))
    (sSeq (sSlotW "State" 1 (eFlU "Trial" "origin" (eVar 0)) (eSlU "State" 1 (eFlU "Trial" "chosen" (eVar 0))))
    (sSeq (sSlotW "State" 3 (eFlU "Trial" "origin" (eVar 0)) (eSlU "State" 3 (eFlU "Trial" "chosen" (eVar 0))))
    (sFldS "Table" "held" (eFlU "Trial" "tested_table" (eVar 0)) (eFlU "Trial" "origin" (eVar 0))))))
def m_Trial_exit : FM := toF false 4 b_Trial_exit
def b_law_taken : M Fl :=
  sSeq (sIf (eT (eBin gGtA (eBin ixA (eVar 0) (eC (.int 3))) (eC (.int 0))))
    (sSeq (sSet 2 (eBin (sc2 modI) (eBlt (b1 intD) (eCons (eBin ixA (eVar 0) (eC (.int 3))) eNil)) (eVar 1)))
    (sSeq (sItemA (eVar 0) (eC (.int 3)) (eBin (sc2 fdivI) (eBin ixA (eVar 0) (eC (.int 3))) (eVar 1)))
    (sRet (eVar 2))))
    (sNx))
    (sSeq (sItemA (eVar 0) (eC (.int 1)) (eBin (sv2 addA) (eBin ixA (eVar 0) (eC (.int 1))) (eC (.int 1))))
    (sSeq (sIf (eT (eBin gGtA (eBin ixA (eVar 0) (eC (.int 1))) (eB1 lenD (eBin ixA (eVar 0) (eC (.int 0))))))
    (sSeq (sItemA (eVar 0) (eC (.int 2)) (eBin (sc2 modI) (eBlt (b1 intD) (eCons (eBin (sv2 addA) (eBin (sc2 mulI) (eBin ixA (eVar 0) (eC (.int 2))) (eC (.int 48271))) (eC (.int 11))) eNil)) (eC (.int 2147483647))))
    (sRet (eBin (sc2 modI) (eBlt (b1 intD) (eCons (eBin (sc2 fdivI) (eBin ixA (eVar 0) (eC (.int 2))) (eC (.int 7))) eNil)) (eVar 1))))
    (sNx))
    (sSeq (sSet 3 (eBin ixA (eBin ixA (eVar 0) (eC (.int 0))) (eBin (sc2 subI) (eBin ixA (eVar 0) (eC (.int 1))) (eC (.int 1)))))
    (sSeq (sItemA (eVar 0) (eC (.int 2)) (eBin (sc2 modI) (eBlt (b1 intD) (eCons (eBin (sv2 addA) (eBin (sv2 addA) (eBin (sc2 mulI) (eBin ixA (eVar 0) (eC (.int 2))) (eC (.int 48271))) (eVar 3)) (eC (.int 11))) eNil)) (eC (.int 2147483647))))
    (sSeq (sIf (eT (eBin gGeA (eVar 3) (eBin (sc2 powI) (eC (.int 10)) (eC (.int 18)))))
    (sItemA (eVar 0) (eC (.int 3)) (eBin (sc2 fdivI) (eVar 3) (eVar 1)))
    (sNx))
    (sRet (eBin (sc2 modI) (eBlt (b1 intD) (eCons (eVar 3) eNil)) (eVar 1))))))))
def m_law_taken : FM := toF false 4 b_law_taken
def b_are_kinds : M Fl :=
  sRet (eAnd (eBin (sv2 neP) (eVar 0) (eTup (eNil))) (eAnd (eBlt (b1 allD) (eCons (eComp (iQ (eVar 0)) (gN 1) [1] (bYes) (eCall m_is_word 1 (eCons (eVar 1) (eNil)))) eNil)) (eCall m_ascend 1 (eCons (eVar 0) (eNil)))))
def m_are_kinds : FM := toF false 2 b_are_kinds
def b_are_rests : M Fl :=
  sRet (eAnd (eBin (sv2 neP) (eVar 1) (eTup (eNil))) (eAnd (eBlt (b1 allD) (eCons (eComp (iQ (eVar 1)) (gN 2) [2] (bYes) (eCall m_is_number 3 (eCons (eVar 2) (eCons (eC (.int 0)) (eCons (eBin (sc2 subI) (eVar 0) (eC (.int 1))) (eNil)))))) eNil)) (eCall m_ascend 1 (eCons (eVar 1) (eNil)))))
def m_are_rests : FM := toF false 3 b_are_rests
def b_check_kinds : M Fl :=
  sSeq (sFor (iEnA (eVar 0)) (gT 2 (gsC (gN 1) (gsC (gN 2) (gsN)))) [1, 2]
    (sIf (bOr (eT (eBin (sv2 eqP) (eVar 1) (eC k_MAX_KINDS))) (bOr (bNot (eT (eCall m_is_word 1 (eCons (eVar 2) (eNil))))) (bAnd (eT (eBin gGtA (eVar 1) (eC (.int 0)))) (eT (eBin gLeA (eVar 2) (eBin ixA (eVar 0) (eBin (sc2 subI) (eVar 1) (eC (.int 1)))))))))
    (sBad)
    (sNx)))
    (sIf (eT (eBin (sv2 eqP) (eVar 0) (eTup (eNil))))
    (sBad)
    (sNx))
def m_check_kinds : FM := toF false 3 b_check_kinds
def b_Table_keep_as : M Fl :=
  sSeq (sIf (bNot (eT (eCall m_is_name 1 (eCons (eVar 1) (eNil)))))
    (sBad)
    (sNx))
    (sSeq (sSet 2 (eFlU "Table" "held" (eVar 0)))
    (sSeq (sSet 3 (eBin (inA false) (eVar 1) (eSlU "State" 2 (eVar 2))))
    (sSeq (sExpr (eMethS "State" m_State_go_on 4 (eVar 2) (eCons (eTup (eCons (eC (.str ("keep_as" : Str))) (eCons (eVar 1) (eNil)))) (eCons (eSlU "State" 0 (eVar 2)) (eCons (eBin orD (eSlU "State" 2 (eVar 2)) (eDict1 (eVar 1) (eSlU "State" 0 (eVar 2)))) (eNil))))))
    (sRet (eVar 3)))))
def m_Table_keep_as : FM := toF false 4 b_Table_keep_as
def b_Table_fetch : M Fl :=
  sSeq (sSet 2 (eFlU "Table" "held" (eVar 0)))
    (sSeq (sIf (bOr (bNot (eT (eUn (isiD "str") (eVar 1)))) (eT (eBin (inA true) (eVar 1) (eSlU "State" 2 (eVar 2)))))
    (sBad)
    (sNx))
    (sSeq (sExpr (eMethS "State" m_State_go_on 4 (eVar 2) (eCons (eTup (eCons (eC (.str ("fetch" : Str))) (eCons (eVar 1) (eNil)))) (eCons (eBin ixA (eSlU "State" 2 (eVar 2)) (eVar 1)) (eCons (eSlU "State" 2 (eVar 2)) (eNil))))))
    (sRet (eB1 lenD (eBin ixA (eSlU "State" 0 (eFlU "Table" "held" (eVar 0))) (eC (.int 1)))))))
def m_Table_fetch : FM := toF false 3 b_Table_fetch
def b_Table_undo : M Fl :=
  sSeq (sIf (eT (eBin (sc2 eqE) (eSlU "State" 1 (eFlU "Table" "held" (eVar 0))) (eTup (eNil))))
    (sRet (eC (.bl false)))
    (sNx))
    (sSeq (sExpr (eMethS0 "State" m_State_go_back 1 (eFlU "Table" "held" (eVar 0))))
    (sRet (eC (.bl true))))
def m_Table_undo : FM := toF false 1 b_Table_undo
def b_Table_redo : M Fl :=
  sSeq (sIf (eT (eBin (sc2 eqE) (eSlU "State" 3 (eFlU "Table" "held" (eVar 0))) (eTup (eNil))))
    (sRet (eC (.bl false)))
    (sNx))
    (sSeq (sExpr (eMethS0 "State" m_State_go_again 1 (eFlU "Table" "held" (eVar 0))))
    (sRet (eC (.bl true))))
def m_Table_redo : FM := toF false 1 b_Table_redo
def b_law_kinds : M Fl :=
  sRet (eBin ixA (eLst (eCons (eTup (eCons (eC (.str ("a" : Str))) (eNil))) (eCons (eTup (eCons (eC (.str ("a" : Str))) (eCons (eC (.str ("b" : Str))) (eNil)))) (eCons (eTup (eCons (eC (.str ("a" : Str))) (eCons (eC (.str ("b" : Str))) (eCons (eC (.str ("c" : Str))) (eNil))))) (eNil))))) (eCall m_law_taken 2 (eCons (eVar 0) (eCons (eC (.int 3)) (eNil)))))
def m_law_kinds : FM := toF false 1 b_law_kinds
def b_law_rows : M Fl :=
  sSeq (sSet 4 (eLst (eNil)))
    (sSeq (sFor (iR1 (eCall m_law_taken 2 (eCons (eVar 0) (eCons (eBin (sv2 addA) (eVar 3) (eC (.int 1))) (eNil))))) (gN 5) [5, 6, 7]
    (sSeq (sSet 6 (eBin ixA (eLst (eCons (eCall m_law_taken 2 (eCons (eVar 0) (eCons (eBin (sc2 mulI) (eC (.int 2)) (eVar 2)) (eNil)))) (eCons (eBin (sc2 subI) (eBin (sc2 subI) (eBin (sc2 powI) (eC (.int 10)) (eC (.int 30))) (eC (.int 1))) (eCall m_law_taken 2 (eCons (eVar 0) (eCons (eC (.int 9)) (eNil))))) (eNil)))) (eBlt (b1 intD) (eCons (eBin (sv2 eqP) (eCall m_law_taken 2 (eCons (eVar 0) (eCons (eC (.int 8)) (eNil)))) (eC (.int 0))) eNil))))
    (sSeq (sSet 7 (eTup (eCons (eVar 6) (eCons (eBin ixA (eVar 1) (eCall m_law_taken 2 (eCons (eVar 0) (eCons (eB1 lenD (eVar 1)) (eNil))))) (eNil)))))
    (sSet 4 (eIf (eT (eBin (inA false) (eVar 7) (eVar 4))) (eVar 4) (eBin (sv2 addA) (eVar 4) (eLst (eCons (eVar 7) (eNil)))))))))
    (sRet (eB1 tupD (eVar 4))))
def m_law_rows : FM := toF false 8 b_law_rows
def b_Rule_init : M Fl :=
  sSeq (sIf (bNot (eT (eCall m_is_word 1 (eCons (eVar 1) (eNil)))))
    (sBad)
    (sNx))
    (sSeq (sIf (bNot (eT (eCall m_is_number 3 (eCons (eVar 2) (eCons (eC (.int 0)) (eCons (eC k_LAST) (eNil)))))))
    (sBad)
    (sNx))
    (sSeq (sIf (bNot (eT (eCall m_is_number 3 (eCons (eVar 3) (eCons (eVar 2) (eCons (eC k_LAST) (eNil)))))))
    (sBad)
    (sNx))
    (sSeq (sIf (bOr (eT (eUn (isiD "bool") (eVar 4))) (eT (eBin (inA true) (eVar 4) (eC k_MODULI))))
    (sBad)
    (sNx))
    (sSeq (sIf (bNot (eT (eCall m_are_rests 2 (eCons (eVar 4) (eCons (eVar 5) (eNil))))))
    (sBad)
    (sNx))
    (sSeq (sIf (bNot (eT (eCall m_are_kinds 1 (eCons (eVar 6) (eNil)))))
    (sBad)
    (sNx))
    (sSlot "Rule" 0 (eVar 0) (eTup (eCons (eVar 1) (eCons (eVar 2) (eCons (eVar 3) (eCons (eVar 4) (eCons (eVar 5) (eCons (eVar 6) (eNil))))))))))))))
def m_Rule_init : FM := toF false 7 b_Rule_init
def b_Book_init : M Fl :=
  sSeq (sExpr (eCall m_check_kinds 1 (eCons (eVar 1) (eNil))))
    (sSeq (sFor (iEnA (eVar 2)) (gT 2 (gsC (gN 3) (gsC (gN 4) (gsN)))) [3, 4, 5]
    (sIf (bOr (eT (eBin (sv2 eqP) (eVar 3) (eC k_MAX_RULES))) (bNot (eT (eBlt (b1 allD) (eCons (eComp (iQ (ePrU "Rule" m_Rule_kinds (eVar 4))) (gN 5) [5] (bYes) (eBin (inA false) (eVar 5) (eVar 1))) eNil)))))
    (sBad)
    (sNx)))
    (sSlot "Book" 0 (eVar 0) (eTup (eCons (eVar 1) (eCons (eVar 2) (eNil))))))
def m_Book_init : FM := toF false 6 b_Book_init
def b_fits : M Fl :=
  sRet (eAnd (eChain (fun i j => decide (i ≤ j)) (fun i j => decide (i ≤ j)) (ePrU "Rule" m_Rule_low (eVar 0)) (eVar 1) (ePrU "Rule" m_Rule_high (eVar 0))) (eAnd (eBin (inA false) (eCall m_rest_of 2 (eCons (eVar 1) (eCons (ePrU "Rule" m_Rule_modulus (eVar 0)) (eNil)))) (ePrU "Rule" m_Rule_rests (eVar 0))) (eBin (inA false) (eVar 2) (ePrU "Rule" m_Rule_kinds (eVar 0)))))
def m_fits : FM := toF false 3 b_fits
def b_check_row : M Fl :=
  sIf (bOr (bNot (eT (eCall m_is_number 3 (eCons (eBin ixA (eVar 1) (eC (.int 0))) (eCons (eC (.int 0)) (eCons (eC k_LAST) (eNil))))))) (eT (eBin (inA true) (eBin ixA (eVar 1) (eC (.int 1))) (ePrU "Book" m_Book_kinds (eVar 0)))))
    (sBad)
    (sNx)
def m_check_row : FM := toF false 2 b_check_row
def b_check_books : M Fl :=
  sIf (eT (eBin (sv2 neP) (ePrU "Book" m_Book_kinds (eVar 0)) (ePrU "Book" m_Book_kinds (eVar 1))))
    (sBad)
    (sNx)
def m_check_books : FM := toF false 2 b_check_books
def b_is_row : M Fl :=
  sRet (eAnd (eCall m_is_number 3 (eCons (eBin ixA (eVar 1) (eC (.int 0))) (eCons (eC (.int 0)) (eCons (eC k_LAST) (eNil))))) (eBin (inA false) (eBin ixA (eVar 1) (eC (.int 1))) (ePrU "Book" m_Book_kinds (eVar 0))))
def m_is_row : FM := toF false 2 b_is_row
def b_State_copied : M Fl :=
  sRet (eMakeS "State" m_State_init 5 (eCons (eSlU "State" 0 (eVar 0)) (eCons (eSlU "State" 2 (eVar 0)) (eCons (eSlU "State" 1 (eVar 0)) (eCons (eSlU "State" 3 (eVar 0)) (eNil))))))
def m_State_copied : FM := toF false 1 b_State_copied
def b_Table_init : M Fl :=
  sFldS "Table" "held" (eVar 0) (eMakeS "State" m_State_init 5 (eCons (eTup (eCons (eVar 1) (eCons (eTup (eNil)) (eCons (eTup (eNil)) (eNil))))) (eCons (eCellD) (eCons (eTup (eNil)) (eCons (eTup (eNil)) (eNil))))))
def m_Table_init : FM := toF false 2 b_Table_init
def b_Book_eq : M Fl :=
  sRet (eAnd (eUn (isO "Book") (eVar 1)) (eBin (sc2 (eqB "Rule")) (eSlU "Book" 0 (eVar 0)) (eTup (eCons (ePrU "Book" m_Book_kinds (eVar 1)) (eCons (ePrU "Book" m_Book_rules (eVar 1)) (eNil))))))
def m_Book_eq : FM := toF false 2 b_Book_eq
def b_fitting : M Fl :=
  sRet (eComp (iEnA (ePrU "Book" m_Book_rules (eVar 0))) (gT 2 (gsC (gN 3) (gsC (gN 4) (gsN)))) [3, 4] (eT (eCall m_fits 3 (eCons (eVar 4) (eCons (eVar 1) (eCons (eVar 2) (eNil)))))) (eVar 3))
def m_fitting : FM := toF false 5 b_fitting
def b_check_rows : M Fl :=
  sFor (iEnA (eVar 1)) (gT 2 (gsC (gN 2) (gsC (gN 3) (gsN)))) [2, 3]
    (sIf (bOr (eT (eBin (sv2 eqP) (eVar 2) (eC k_MAX_ROWS))) (bOr (bNot (eT (eCall m_is_row 2 (eCons (eVar 0) (eCons (eVar 3) (eNil)))))) (eT (eBin (inA false) (eVar 3) (eSlA (eVar 1) (oNone) (oSome (eVar 2)))))))
    (sBad)
    (sNx))
def m_check_rows : FM := toF false 4 b_check_rows
def b_Trial_enter : M Fl :=
  sSeq (sFldS "Trial" "origin" (eVar 0) (eFlU "Table" "held" (eFlU "Trial" "tested_table" (eVar 0))))
    (sSeq (sFldS "Trial" "chosen" (eVar 0) (eMethS0 "State" m_State_copied 1 (eFlU "Trial" "origin" (eVar 0))))
    (sSeq (sFldS "Trial" "newest" (eVar 0) (eMethS0 "State" m_State_copied 1 (eFlU "Trial" "origin" (eVar 0))))
    (sSeq (sFldS "Table" "held" (eFlU "Trial" "tested_table" (eVar 0)) (eFlU "Trial" "newest" (eVar 0)))
    (sRet (eVar 0)))))
def m_Trial_enter : FM := toF false 1 b_Trial_enter
def b_place_of : M Fl :=
  sSeq (sSet 3 (eCall m_fitting 3 (eCons (eVar 0) (eCons (eVar 1) (eCons (eVar 2) (eNil))))))
    (sRet (eIf (eT (eBin (sv2 neP) (eVar 3) (eLst (eNil)))) (ePrU "Rule" m_Rule_piece (eBin ixA (ePrU "Book" m_Book_rules (eVar 0)) (eBin ixA (eVar 3) (eC (.int 0))))) (eC .non)))
def m_place_of : FM := toF false 4 b_place_of
def b_law_book : M Fl :=
  sSeq (sSetF 3 (eLst (eNil)))
    (sSeq (sFor (iR1 (eCall m_law_taken 2 (eCons (eVar 0) (eCons (eC (.int 5)) (eNil))))) (gN 4) [4, 5, 6, 7, 8, 10, 12]
    (sSeq (sSet 5 (eCall m_law_taken 2 (eCons (eVar 0) (eCons (eVar 1) (eNil)))))
    (sSeq (sSet 6 (eBin ixA (eLst (eCons (eBin (sv2 addA) (eVar 5) (eCall m_law_taken 2 (eCons (eVar 0) (eCons (eVar 1) (eNil))))) (eCons (eBin (sc2 subI) (eBin (sc2 powI) (eC (.int 10)) (eC (.int 30))) (eC (.int 1))) (eNil)))) (eBlt (b1 intD) (eCons (eBin (sv2 eqP) (eCall m_law_taken 2 (eCons (eVar 0) (eCons (eC (.int 5)) (eNil)))) (eC (.int 0))) eNil))))
    (sSeq (sSet 7 (eBin ixA (eLst (eCons (eC (.int 1)) (eCons (eC (.int 1)) (eCons (eC (.int 2)) (eCons (eC (.int 3)) (eCons (eC (.int 4)) (eCons (eC (.int 6)) (eCons (eC (.int 12)) (eNil))))))))) (eCall m_law_taken 2 (eCons (eVar 0) (eCons (eC (.int 7)) (eNil))))))
    (sSeq (sSet 8 (eB1 tupD (eComp (iR1 (eVar 7)) (gN 9) [9] (eT (eBin (sv2 eqP) (eCall m_law_taken 2 (eCons (eVar 0) (eCons (eC (.int 2)) (eNil)))) (eC (.int 0)))) (eVar 9))))
    (sSeq (sSet 10 (eB1 tupD (eComp (iQ (eVar 2)) (gN 11) [11] (eT (eBin gGtA (eCall m_law_taken 2 (eCons (eVar 0) (eCons (eC (.int 3)) (eNil)))) (eC (.int 0)))) (eVar 11))))
    (sSeq (sSet 8 (eIf (eT (eBin (sv2 neP) (eVar 8) (eTup (eNil)))) (eVar 8) (eTup (eCons (eCall m_law_taken 2 (eCons (eVar 0) (eCons (eVar 7) (eNil)))) (eNil)))))
    (sSeq (sSet 12 (eBin ixA (eLst (eCons (eC (.str ("x" : Str))) (eCons (eC (.str ("y" : Str))) (eCons (eC (.str ("z" : Str))) (eNil))))) (eCall m_law_taken 2 (eCons (eVar 0) (eCons (eC (.int 3)) (eNil))))))
    (sApp 3 appD (eMakeZ "Rule" m_Rule_init 7 (eCons (eVar 12) (eCons (eVar 5) (eCons (eVar 6) (eCons (eVar 7) (eCons (eVar 8) (eCons (eIf (eT (eBin (sv2 neP) (eVar 10) (eTup (eNil)))) (eVar 10) (eVar 2)) (eNil)))))))))))))))))
    (sRet (eMakeZ "Book" m_Book_init 3 (eCons (eVar 2) (eCons (eB1 tupD (eVar 3)) (eNil))))))
def m_law_book : FM := toF false 13 b_law_book
def b_piece_of : M Fl :=
  sSeq (sExpr (eCall m_check_row 2 (eCons (eVar 0) (eCons (eVar 1) (eNil)))))
    (sRet (eCall m_place_of 3 (eCons (eVar 0) (eCons (eBin ixA (eVar 1) (eC (.int 0))) (eCons (eBin ixA (eVar 1) (eC (.int 1))) (eNil))))))
def m_piece_of : FM := toF false 2 b_piece_of
def b_by_pieces : M Fl :=
  sSeq (sSet 2 (eCellD))
    (sSeq (sFor (iQ (eBlt (b1 sortedD) (eCons (eVar 1) eNil))) (gT 2 (gsC (gN 3) (gsC (gN 4) (gsN)))) [3, 4]
    (sAppC appD (eSetd (eVar 2) (eCall m_named 1 (eCons (eCall m_place_of 3 (eCons (eVar 0) (eCons (eVar 3) (eCons (eVar 4) (eNil))))) (eNil))) (eCellL (eNil))) (eTup (eCons (eVar 3) (eCons (eVar 4) (eNil))))))
    (sRet (eVar 2)))
def m_by_pieces : FM := toF false 5 b_by_pieces
def b_moves_of : M Fl :=
  sSeq (sExpr (eCall m_check_books 2 (eCons (eVar 0) (eCons (eVar 1) (eNil)))))
    (sSeq (sExpr (eCall m_check_rows 2 (eCons (eVar 0) (eCons (eVar 2) (eNil)))))
    (sSeq (sSetF 3 (eLst (eNil)))
    (sSeq (sFor (iQ (eBlt (b1 sortedD) (eCons (eVar 2) eNil))) (gT 2 (gsC (gN 4) (gsC (gN 5) (gsN)))) [4, 5, 6]
    (sSeq (sSet 6 (eTup (eCons (eCall m_named 1 (eCons (eCall m_place_of 3 (eCons (eVar 0) (eCons (eVar 4) (eCons (eVar 5) (eNil))))) (eNil))) (eCons (eCall m_named 1 (eCons (eCall m_place_of 3 (eCons (eVar 1) (eCons (eVar 4) (eCons (eVar 5) (eNil))))) (eNil))) (eNil)))))
    (sIf (eT (eBin (sv2 neP) (eBin ixA (eVar 6) (eC (.int 0))) (eBin ixA (eVar 6) (eC (.int 1)))))
    (sApp 3 appD (eTup (eCons (eTup (eCons (eVar 4) (eCons (eVar 5) (eNil)))) (eStar (eVar 6) (eNil)))))
    (sNx))))
    (sRet (eVar 3)))))
def m_moves_of : FM := toF false 7 b_moves_of
def b_law_are_undone_L1 : M Fl :=
  sIf (bNot (eT (eMeth0 "Table" "undo" m_Table_undo 1 (eVar 0))))
    (sRet (eC (.bl false)))
    (sNx)
def b_law_are_undone_L2 : M Fl :=
  sSet 3 (eBin (sc2 subI) (eVar 3) (eC (.int 1)))
def b_law_are_undone : M Fl :=
  sSeq (sSet 3 (eB1 lenD (ePrI "Table" m_Table_history (eVar 0))))
    (sSeq (sFor (iR1 (eVar 3)) (gN 4) [4]
    (b_law_are_undone_L1))
    (sSeq (sIf (bOr (eT (eMeth0 "Table" "undo" m_Table_undo 1 (eVar 0))) (bOr (eT (eBin (sv2 neP) (ePrI "Table" m_Table_rows_now (eVar 0)) (eLst (eNil)))) (bOr (eT (eBin (sv2 neP) (ePrI "Table" m_Table_kept_under (eVar 0)) (eLst (eNil)))) (eT (eBin (neO "Book" m_Book_eq) (ePrI "Table" m_Table_book_now (eVar 0)) (eVar 2))))))
    (sRet (eC (.bl false)))
    (sNx))
    (sSeq (whileL [] (eT (eMeth0 "Table" "redo" m_Table_redo 1 (eVar 0))) (b_law_are_undone_L2) 64)
    (sSeq (sIf (bOr (eT (eBin (sv2 neP) (eVar 3) (eC (.int 0)))) (bOr (eT (eBin (sv2 neP) (ePrI "Table" m_Table_rows_now (eVar 0)) (eBlt (b1 sortedD) (eCons (eVar 1) eNil)))) (eT (eBin (sv2 neP) (ePrI "Table" m_Table_kept_under (eVar 0)) (eLst (eCons (eC (.str ("a" : Str))) (eNil)))))))
    (sRet (eC (.bl false)))
    (sNx))
    (sRet (eC (.bl true)))))))
def m_law_are_undone : FM := toF false 5 b_law_are_undone
def b_laid : M Fl :=
  sSeq (sExpr (eCall m_check_rows 2 (eCons (eVar 0) (eCons (eVar 1) (eNil)))))
    (sSeq (sSet 2 (eCall m_by_pieces 2 (eCons (eVar 0) (eCons (eVar 1) (eNil)))))
    (sRet (eComp (iQ (eSortK (eVar 2))) (gN 3) [3] (bYes) (eTup (eCons (eVar 3) (eCons (eB1 tupD (eBin ixA (eVar 2) (eVar 3))) (eNil)))))))
def m_laid : FM := toF false 4 b_laid
def b_facts_of : M Fl :=
  sSeq (sSet 2 (eCall m_by_pieces 2 (eCons (eVar 0) (eCons (eVar 1) (eNil)))))
    (sRet (eTup (eCons (eVar 0) (eCons (eVar 1) (eCons (eB1 tupD (eComp (iQ (eSortK (eVar 2))) (gN 3) [3] (bYes) (eTup (eCons (eVar 3) (eCons (eB1 lenD (eBin ixA (eVar 2) (eVar 3))) (eNil)))))) (eNil))))))
def m_facts_of : FM := toF false 4 b_facts_of
def b_Table_put : M Fl :=
  sSeq (sAsg (gT 3 (gsC (gN 2) (gsC (gN 3) (gsC (gN 4) (gsN))))) (eSlU "State" 0 (eFlU "Table" "held" (eVar 0))))
    (sSeq (sExpr (eCall m_check_row 2 (eCons (eVar 2) (eCons (eVar 1) (eNil)))))
    (sSeq (sIf (eT (eBin (inA false) (eVar 1) (eVar 3)))
    (sBad)
    (sNx))
    (sSeq (sIf (eT (eBin (sv2 eqP) (eB1 lenD (eVar 3)) (eC k_MAX_ROWS)))
    (sBad)
    (sNx))
    (sSeq (sExpr (eMethS "State" m_State_go_on 4 (eFlU "Table" "held" (eVar 0)) (eCons (eTup (eCons (eC (.str ("put" : Str))) (eCons (eVar 1) (eNil)))) (eCons (eCall m_facts_of 2 (eCons (eVar 2) (eCons (eB1 tupD (eBlt (b1 sortedD) (eCons (eLst (eStar (eVar 3) (eCons (eVar 1) (eNil)))) eNil))) (eNil)))) (eCons (eSlU "State" 2 (eFlU "Table" "held" (eVar 0))) (eNil))))))
    (sRet (eCall m_place_of 3 (eCons (eVar 2) (eCons (eBin ixA (eVar 1) (eC (.int 0))) (eCons (eBin ixA (eVar 1) (eC (.int 1))) (eNil))))))))))
def m_Table_put : FM := toF false 5 b_Table_put
def b_Table_drop : M Fl :=
  sSeq (sAsg (gT 3 (gsC (gN 2) (gsC (gN 3) (gsC (gN 4) (gsN))))) (eSlU "State" 0 (eFlU "Table" "held" (eVar 0))))
    (sSeq (sExpr (eCall m_check_row 2 (eCons (eVar 2) (eCons (eVar 1) (eNil)))))
    (sSeq (sIf (eT (eBin (inA true) (eVar 1) (eVar 3)))
    (sBad)
    (sNx))
    (sSeq (sSet 5 (eB1 tupD (eComp (iQ (eVar 3)) (gN 6) [6] (eT (eBin (sv2 neP) (eVar 6) (eVar 1))) (eVar 6))))
    (sSeq (sExpr (eMethS "State" m_State_go_on 4 (eFlU "Table" "held" (eVar 0)) (eCons (eTup (eCons (eC (.str ("drop" : Str))) (eCons (eVar 1) (eNil)))) (eCons (eCall m_facts_of 2 (eCons (eVar 2) (eCons (eVar 5) (eNil)))) (eCons (eSlU "State" 2 (eFlU "Table" "held" (eVar 0))) (eNil))))))
    (sRet (eCall m_place_of 3 (eCons (eVar 2) (eCons (eBin ixA (eVar 1) (eC (.int 0))) (eCons (eBin ixA (eVar 1) (eC (.int 1))) (eNil))))))))))
def m_Table_drop : FM := toF false 7 b_Table_drop
def b_Table_rebook : M Fl :=
  sSeq (sAsg (gT 3 (gsC (gN 2) (gsC (gN 3) (gsC (gN 4) (gsN))))) (eSlU "State" 0 (eFlU "Table" "held" (eVar 0))))
    (sSeq (sExpr (eCall m_check_books 2 (eCons (eVar 2) (eCons (eVar 1) (eNil)))))
    (sSeq (sExpr (eMethS "State" m_State_go_on 4 (eFlU "Table" "held" (eVar 0)) (eCons (eTup (eCons (eC (.str ("rebook" : Str))) (eCons (eVar 1) (eNil)))) (eCons (eCall m_facts_of 2 (eCons (eVar 1) (eCons (eVar 3) (eNil)))) (eCons (eSlU "State" 2 (eFlU "Table" "held" (eVar 0))) (eNil))))))
    (sRet (eB1 lenD (eCall m_moves_of 3 (eCons (eVar 2) (eCons (eVar 1) (eCons (eVar 3) (eNil)))))))))
def m_Table_rebook : FM := toF false 5 b_Table_rebook
def b_Table_execute : M Fl :=
  sSeq (sPar 2 3 (eCons (eBin ixA (eVar 1) (eC (.int 0))) (eCons (eSlA (eVar 1) (oSome (eC (.int 1))) (oNone)) (eNil))))
    (sSeq (sIf (eT (eBin (sv2 eqP) (eVar 2) (eC (.str ("put" : Str)))))
    (sRet (eMeth "Table" "put" m_Table_put 2 (eVar 0) (eCons (eBin ixA (eVar 3) (eC (.int 0))) (eNil))))
    (sNx))
    (sSeq (sIf (eT (eBin (sv2 eqP) (eVar 2) (eC (.str ("drop" : Str)))))
    (sRet (eMeth "Table" "drop" m_Table_drop 2 (eVar 0) (eCons (eBin ixA (eVar 3) (eC (.int 0))) (eNil))))
    (sNx))
    (sSeq (sIf (eT (eBin (sv2 eqP) (eVar 2) (eC (.str ("rebook" : Str)))))
    (sRet (eMeth "Table" "rebook" m_Table_rebook 2 (eVar 0) (eCons (eBin ixA (eVar 3) (eC (.int 0))) (eNil))))
    (sNx))
    (sSeq (sIf (eT (eBin (sv2 eqP) (eVar 2) (eC (.str ("keep_as" : Str)))))
    (sRet (eMeth "Table" "keep_as" m_Table_keep_as 2 (eVar 0) (eCons (eBin ixA (eVar 3) (eC (.int 0))) (eNil))))
    (sNx))
    (sSeq (sIf (eT (eBin (sv2 eqP) (eVar 2) (eC (.str ("fetch" : Str)))))
    (sRet (eMeth "Table" "fetch" m_Table_fetch 2 (eVar 0) (eCons (eBin ixA (eVar 3) (eC (.int 0))) (eNil))))
    (sNx))
    (sRet (eIf (eT (eBin (sv2 eqP) (eVar 2) (eC (.str ("undo" : Str))))) (eMeth0 "Table" "undo" m_Table_undo 1 (eVar 0)) (eMeth0 "Table" "redo" m_Table_redo 1 (eVar 0)))))))))
def m_Table_execute : FM := toF false 4 b_Table_execute
def b_Table_apply_all_L1 : M Fl :=
  sIf (bNot (eT (eCall m_is_operation 1 (eCons (eVar 3) (eNil)))))
    (sBad)
    (sNx)
def b_Table_apply_all : M Fl :=
  sSeq (sFor (iEnA (eVar 1)) (gT 2 (gsC (gN 2) (gsC (gN 3) (gsN)))) [2, 3]
    (b_Table_apply_all_L1))
    (sSeq (sWith 4 "Trial" m_Trial_enter m_Trial_exit (eMake "Trial" m_Trial_init 2 (eCons (eVar 0) (eNil)))
    (sSeq (sSet 5 (eComp (iQ (eVar 1)) (gN 3) [3] (bYes) (eMeth "Table" "execute" m_Table_execute 2 (eVar 0) (eCons (eVar 3) (eNil)))))
    (sExpr (eMeth0 "Trial" "hold" m_Trial_hold 1 (eVar 4)))))
    (sRet (eVar 5)))
def m_Table_apply_all : FM := toF false 6 b_Table_apply_all
def b_Table_replay : M Fl :=
  sSeq (sSet 3 (eMakeL 0 "Table" m_Table_init 2 (eCons (eVar 1) (eNil))))
    (sSeq (sExpr (eMeth "Table" "apply_all" m_Table_apply_all 2 (eVar 3) (eCons (eVar 2) (eNil))))
    (sRet (eVar 3)))
def m_Table_replay : FM := toF false 4 b_Table_replay
def b_law_L1 : M Fl :=
  sSeq (sIf (bOr (eT (eBin (sv2 neP) (eMeth "Table" "put" m_Table_put 2 (eVar 8) (eCons (eBin ixA (eVar 7) (eVar 9)) (eNil))) (eCall m_piece_of 2 (eCons (eVar 5) (eCons (eBin ixA (eVar 7) (eVar 9)) (eNil)))))) (eT (eBin (sv2 neP) (ePrI "Table" m_Table_rows_now (eVar 8)) (eBlt (b1 sortedD) (eCons (eSlA (eVar 7) (oNone) (oSome (eBin (sv2 addA) (eVar 9) (eC (.int 1))))) eNil)))))
    (sRet (eC (.bl false)))
    (sNx))
    (sIf (eT (eBin (sv2 neP) (ePrI "Table" m_Table_counts_now (eVar 8)) (eComp (iQ (eCall m_laid 2 (eCons (eVar 5) (eCons (eSlA (eVar 7) (oNone) (oSome (eBin (sv2 addA) (eVar 9) (eC (.int 1))))) (eNil))))) (gT 2 (gsC (gN 10) (gsC (gN 11) (gsN)))) [10, 11] (bYes) (eTup (eCons (eVar 10) (eCons (eB1 lenD (eVar 11)) (eNil)))))))
    (sRet (eC (.bl false)))
    (sNx))
def b_law_L2 : M Fl :=
  sSeq (sIf (bOr (eT (eBin (sv2 neP) (eMeth "Table" "drop" m_Table_drop 2 (eVar 8) (eCons (eBin ixA (eVar 7) (eVar 9)) (eNil))) (eCall m_piece_of 2 (eCons (eVar 5) (eCons (eBin ixA (eVar 7) (eVar 9)) (eNil)))))) (eT (eBin (sv2 neP) (ePrI "Table" m_Table_rows_now (eVar 8)) (eBlt (b1 sortedD) (eCons (eSlA (eVar 7) (oNone) (oSome (eVar 9))) eNil)))))
    (sRet (eC (.bl false)))
    (sNx))
    (sIf (bOr (bNot (eT (eMeth0 "Table" "undo" m_Table_undo 1 (eVar 8)))) (bOr (eT (eBin (sv2 neP) (ePrI "Table" m_Table_rows_now (eVar 8)) (eBlt (b1 sortedD) (eCons (eSlA (eVar 7) (oNone) (oSome (eBin (sv2 addA) (eVar 9) (eC (.int 1))))) eNil)))) (bNot (eT (eMeth0 "Table" "redo" m_Table_redo 1 (eVar 8))))))
    (sRet (eC (.bl false)))
    (sNx))
def b_law_L3 : M Fl :=
  sSeq (sPar 3 4 (eCons (eCall m_law_kinds 1 (eCons (eVar 1) (eNil))) (eCons (eBin ixA (eLst (eCons (eC (.int 20)) (eCons (eBin (sc2 powI) (eC (.int 10)) (eC (.int 28))) (eNil)))) (eCall m_law_taken 2 (eCons (eVar 1) (eCons (eC (.int 2)) (eNil))))) (eNil))))
    (sSeq (sPar 5 6 (eCons (eCall m_law_book 3 (eCons (eVar 1) (eCons (eVar 4) (eCons (eVar 3) (eNil))))) (eCons (eCall m_law_book 3 (eCons (eVar 1) (eCons (eVar 4) (eCons (eVar 3) (eNil))))) (eNil))))
    (sSeq (sPar 7 8 (eCons (eCall m_law_rows 4 (eCons (eVar 1) (eCons (eVar 3) (eCons (eVar 4) (eCons (eC (.int 15)) (eNil)))))) (eCons (eMake "Table" m_Table_init 2 (eCons (eVar 5) (eNil))) (eNil))))
    (sSeq (sFor (iR1 (eB1 lenD (eVar 7))) (gN 9) [9]
    (b_law_L1))
    (sSeq (sSet 12 (eB1 lenD (eCall m_moves_of 3 (eCons (eVar 5) (eCons (eVar 6) (eCons (eVar 7) (eNil)))))))
    (sSeq (sIf (bOr (eT (eMeth "Table" "keep_as" m_Table_keep_as 2 (eVar 8) (eCons (eC (.str ("a" : Str))) (eNil)))) (bOr (eT (eBin (sv2 neP) (eMeth "Table" "rebook" m_Table_rebook 2 (eVar 8) (eCons (eVar 6) (eNil))) (eVar 12))) (eT (eBin (neO "Book" m_Book_eq) (ePrI "Table" m_Table_book_now (eVar 8)) (eVar 6)))))
    (sRet (eC (.bl false)))
    (sNx))
    (sSeq (sIf (eT (eBin (sv2 neP) (ePrI "Table" m_Table_counts_now (eVar 8)) (eComp (iQ (eCall m_laid 2 (eCons (eVar 6) (eCons (eVar 7) (eNil))))) (gT 2 (gsC (gN 10) (gsC (gN 11) (gsN)))) [10, 11] (bYes) (eTup (eCons (eVar 10) (eCons (eB1 lenD (eVar 11)) (eNil)))))))
    (sRet (eC (.bl false)))
    (sNx))
    (sSeq (sIf (bOr (eT (eBin (sv2 neP) (eMeth "Table" "rebook" m_Table_rebook 2 (eVar 8) (eCons (eVar 5) (eNil))) (eVar 12))) (bOr (eT (eBin (sv2 neP) (eMeth "Table" "rebook" m_Table_rebook 2 (eVar 8) (eCons (eVar 5) (eNil))) (eC (.int 0)))) (eT (eBin (sv2 neP) (ePrI "Table" m_Table_rows_now (eVar 8)) (eBlt (b1 sortedD) (eCons (eVar 7) eNil))))))
    (sRet (eC (.bl false)))
    (sNx))
    (sSeq (sFor (iR3 (eBin (sc2 subI) (eB1 lenD (eVar 7)) (eC (.int 1))) (eBin (sc2 subI) (eC (.int 0)) (eC (.int 1))) (eBin (sc2 subI) (eC (.int 0)) (eC (.int 1)))) (gN 9) [9]
    (b_law_L2))
    (sSeq (sIf (bOr (eT (eBin (sv2 neP) (ePrI "Table" m_Table_counts_now (eVar 8)) (eLst (eNil)))) (bOr (eT (eBin (sv2 neP) (eMeth "Table" "fetch" m_Table_fetch 2 (eVar 8) (eCons (eC (.str ("a" : Str))) (eNil))) (eB1 lenD (eVar 7)))) (eT (eBin (neO "Book" m_Book_eq) (ePrI "Table" m_Table_book_now (eVar 8)) (eVar 5)))))
    (sRet (eC (.bl false)))
    (sNx))
    (sSeq (sIf (bOr (eT (eBin (sv2 neP) (ePrI "Table" m_Table_rows_now (eCmeth "Table" m_Table_replay 3 (eCons (eVar 5) (eCons (ePrI "Table" m_Table_history (eVar 8)) (eNil))))) (eBlt (b1 sortedD) (eCons (eVar 7) eNil)))) (bNot (eT (eMeth "Table" "keep_as" m_Table_keep_as 2 (eVar 8) (eCons (eC (.str ("a" : Str))) (eNil))))))
    (sRet (eC (.bl false)))
    (sNx))
    (sIf (bNot (eT (eCall m_law_are_undone 3 (eCons (eVar 8) (eCons (eVar 7) (eCons (eVar 5) (eNil)))))))
    (sRet (eC (.bl false)))
    (sNx))))))))))))
def b_law : M Fl :=
  sSeq (sCell 1 (eCons (eVar 0) (eCons (eC (.int 0)) (eCons (eC (.int 0)) (eCons (eC (.int 0)) (eNil))))))
    (sSeq (sFor (iR1 (eC (.int 3))) (gN 2) [2, 3, 4, 5, 6, 7, 8, 9, 10, 11, 12]
    (b_law_L3))
    (sRet (eC (.bl true))))
def m_law : FM := toF false 13 b_law
end
end VP
namespace VP
open PySem PySem.Spec PyProof.Rows L2 VE
def top (i : Nat) : Stmt := PySem.Challenge.pw_ruledpieces_k54_whole_tables_and_rows.main.body.getD i (.Pass ⟨0, 0, 0, 0⟩)
abbrev s_is_number : Stmt := top 21
abbrev s_is_word : Stmt := top 22
abbrev s_ascend : Stmt := top 23
abbrev s_Rule_piece : Stmt := inClass (top 26) 2
abbrev s_Rule_low : Stmt := inClass (top 26) 3
abbrev s_Rule_high : Stmt := inClass (top 26) 4
abbrev s_Rule_modulus : Stmt := inClass (top 26) 5
abbrev s_Rule_rests : Stmt := inClass (top 26) 6
abbrev s_Rule_kinds : Stmt := inClass (top 26) 7
abbrev s_Rule_eq : Stmt := inClass (top 26) 8
abbrev s_Book_kinds : Stmt := inClass (top 28) 2
abbrev s_Book_rules : Stmt := inClass (top 28) 3
abbrev s_rest_of : Stmt := top 29
abbrev s_named : Stmt := top 37
abbrev s_is_operation : Stmt := top 49
abbrev s_is_name : Stmt := top 50
abbrev s_State_init : Stmt := inClass (top 51) 1
abbrev s_State_go_on : Stmt := inClass (top 51) 3
abbrev s_State_go_back : Stmt := inClass (top 51) 4
abbrev s_State_go_again : Stmt := inClass (top 51) 5
abbrev s_Table_book_now : Stmt := inClass (top 53) 2
abbrev s_Table_rows_now : Stmt := inClass (top 53) 3
abbrev s_Table_counts_now : Stmt := inClass (top 53) 4
abbrev s_Table_kept_under : Stmt := inClass (top 53) 5
abbrev s_Table_history : Stmt := inClass (top 53) 6
abbrev s_Trial_init : Stmt := inClass (top 54) 0
abbrev s_Trial_hold : Stmt := inClass (top 54) 1
abbrev s_Trial_exit : Stmt := inClass (top 54) 3
abbrev s_law_taken : Stmt := top 56
abbrev s_are_kinds : Stmt := top 24
abbrev s_are_rests : Stmt := top 25
abbrev s_check_kinds : Stmt := top 27
abbrev s_Table_keep_as : Stmt := inClass (top 53) 10
abbrev s_Table_fetch : Stmt := inClass (top 53) 11
abbrev s_Table_undo : Stmt := inClass (top 53) 12
abbrev s_Table_redo : Stmt := inClass (top 53) 13
abbrev s_law_kinds : Stmt := top 57
abbrev s_law_rows : Stmt := top 59
abbrev s_Rule_init : Stmt := inClass (top 26) 1
abbrev s_Book_init : Stmt := inClass (top 28) 1
abbrev s_fits : Stmt := top 30
abbrev s_check_row : Stmt := top 32
abbrev s_check_books : Stmt := top 36
abbrev s_is_row : Stmt := top 40
abbrev s_State_copied : Stmt := inClass (top 51) 2
abbrev s_Table_init : Stmt := inClass (top 53) 0
abbrev s_Book_eq : Stmt := inClass (top 28) 6
abbrev s_fitting : Stmt := top 31
abbrev s_check_rows : Stmt := top 41
abbrev s_Trial_enter : Stmt := inClass (top 54) 2
abbrev s_place_of : Stmt := top 33
abbrev s_law_book : Stmt := top 58
abbrev s_piece_of : Stmt := top 34
abbrev s_by_pieces : Stmt := top 42
abbrev s_moves_of : Stmt := top 44
abbrev s_law_are_undone : Stmt := top 60
abbrev s_laid : Stmt := top 43
abbrev s_facts_of : Stmt := top 52
abbrev s_Table_put : Stmt := inClass (top 53) 7
abbrev s_Table_drop : Stmt := inClass (top 53) 8
abbrev s_Table_rebook : Stmt := inClass (top 53) 9
abbrev s_Table_execute : Stmt := inClass (top 53) 14
abbrev s_Table_apply_all : Stmt := inClass (top 53) 15
abbrev s_Table_replay : Stmt := inClass (top 53) 1
abbrev s_law : Stmt := top 61
abbrev N_is_number : List Str := ["value", "smallest", "largest"]
theorem sc_is_number : FnScope N_is_number ["value", "smallest", "largest"] (defScope s_is_number) := ⟨rfl, rfl, rfl, by decide +kernel, rfl, by decide +kernel, by decide +kernel⟩
abbrev N_is_word : List Str := ["value", "sign"]
theorem sc_is_word : FnScope N_is_word ["value"] (defScope s_is_word) := ⟨rfl, rfl, rfl, by decide +kernel, rfl, by decide +kernel, by decide +kernel⟩
abbrev N_ascend : List Str := ["values", "one", "other"]
theorem sc_ascend : FnScope N_ascend ["values"] (defScope s_ascend) := ⟨rfl, rfl, rfl, by decide +kernel, rfl, by decide +kernel, by decide +kernel⟩
abbrev N_Rule_piece : List Str := ["self"]
theorem sc_Rule_piece : FnScope N_Rule_piece ["self"] (defScope s_Rule_piece) := ⟨rfl, rfl, rfl, by decide +kernel, rfl, by decide +kernel, by decide +kernel⟩
abbrev N_Rule_low : List Str := ["self"]
theorem sc_Rule_low : FnScope N_Rule_low ["self"] (defScope s_Rule_low) := ⟨rfl, rfl, rfl, by decide +kernel, rfl, by decide +kernel, by decide +kernel⟩
abbrev N_Rule_high : List Str := ["self"]
theorem sc_Rule_high : FnScope N_Rule_high ["self"] (defScope s_Rule_high) := ⟨rfl, rfl, rfl, by decide +kernel, rfl, by decide +kernel, by decide +kernel⟩
abbrev N_Rule_modulus : List Str := ["self"]
theorem sc_Rule_modulus : FnScope N_Rule_modulus ["self"] (defScope s_Rule_modulus) := ⟨rfl, rfl, rfl, by decide +kernel, rfl, by decide +kernel, by decide +kernel⟩
abbrev N_Rule_rests : List Str := ["self"]
theorem sc_Rule_rests : FnScope N_Rule_rests ["self"] (defScope s_Rule_rests) := ⟨rfl, rfl, rfl, by decide +kernel, rfl, by decide +kernel, by decide +kernel⟩
abbrev N_Rule_kinds : List Str := ["self"]
theorem sc_Rule_kinds : FnScope N_Rule_kinds ["self"] (defScope s_Rule_kinds) := ⟨rfl, rfl, rfl, by decide +kernel, rfl, by decide +kernel, by decide +kernel⟩
abbrev N_Rule_eq : List Str := ["self", "other"]
theorem sc_Rule_eq : FnScope N_Rule_eq ["self", "other"] (defScope s_Rule_eq) := ⟨rfl, rfl, rfl, by decide +kernel, rfl, by decide +kernel, by decide +kernel⟩
abbrev N_Book_kinds : List Str := ["self"]
theorem sc_Book_kinds : FnScope N_Book_kinds ["self"] (defScope s_Book_kinds) := ⟨rfl, rfl, rfl, by decide +kernel, rfl, by decide +kernel, by decide +kernel⟩
abbrev N_Book_rules : List Str := ["self"]
theorem sc_Book_rules : FnScope N_Book_rules ["self"] (defScope s_Book_rules) := ⟨rfl, rfl, rfl, by decide +kernel, rfl, by decide +kernel, by decide +kernel⟩
abbrev N_rest_of : List Str := ["number", "modulus"]
theorem sc_rest_of : FnScope N_rest_of ["number", "modulus"] (defScope s_rest_of) := ⟨rfl, rfl, rfl, by decide +kernel, rfl, by decide +kernel, by decide +kernel⟩
abbrev N_named : List Str := ["piece"]
theorem sc_named : FnScope N_named ["piece"] (defScope s_named) := ⟨rfl, rfl, rfl, by decide +kernel, rfl, by decide +kernel, by decide +kernel⟩
abbrev N_is_operation : List Str := ["value"]
theorem sc_is_operation : FnScope N_is_operation ["value"] (defScope s_is_operation) := ⟨rfl, rfl, rfl, by decide +kernel, rfl, by decide +kernel, by decide +kernel⟩
abbrev N_is_name : List Str := ["value", "letter"]
theorem sc_is_name : FnScope N_is_name ["value"] (defScope s_is_name) := ⟨rfl, rfl, rfl, by decide +kernel, rfl, by decide +kernel, by decide +kernel⟩
abbrev N_State_init : List Str := ["self", "facts", "shelf", "past", "undone"]
theorem sc_State_init : FnScope N_State_init ["self", "facts", "shelf", "past", "undone"] (defScope s_State_init) := ⟨rfl, rfl, rfl, by decide +kernel, rfl, by decide +kernel, by decide +kernel⟩
abbrev N_State_go_on : List Str := ["self", "operation", "facts", "shelf"]
theorem sc_State_go_on : FnScope N_State_go_on ["self", "operation", "facts", "shelf"] (defScope s_State_go_on) := ⟨rfl, rfl, rfl, by decide +kernel, rfl, by decide +kernel, by decide +kernel⟩
abbrev N_State_go_back : List Str := ["self", "operation", "facts", "shelf"]
theorem sc_State_go_back : FnScope N_State_go_back ["self"] (defScope s_State_go_back) := ⟨rfl, rfl, rfl, by decide +kernel, rfl, by decide +kernel, by decide +kernel⟩
abbrev N_State_go_again : List Str := ["self", "operation", "facts", "shelf"]
theorem sc_State_go_again : FnScope N_State_go_again ["self"] (defScope s_State_go_again) := ⟨rfl, rfl, rfl, by decide +kernel, rfl, by decide +kernel, by decide +kernel⟩
abbrev N_Table_book_now : List Str := ["self"]
theorem sc_Table_book_now : FnScope N_Table_book_now ["self"] (defScope s_Table_book_now) := ⟨rfl, rfl, rfl, by decide +kernel, rfl, by decide +kernel, by decide +kernel⟩
abbrev N_Table_rows_now : List Str := ["self"]
theorem sc_Table_rows_now : FnScope N_Table_rows_now ["self"] (defScope s_Table_rows_now) := ⟨rfl, rfl, rfl, by decide +kernel, rfl, by decide +kernel, by decide +kernel⟩
abbrev N_Table_counts_now : List Str := ["self"]
theorem sc_Table_counts_now : FnScope N_Table_counts_now ["self"] (defScope s_Table_counts_now) := ⟨rfl, rfl, rfl, by decide +kernel, rfl, by decide +kernel, by decide +kernel⟩
abbrev N_Table_kept_under : List Str := ["self"]
theorem sc_Table_kept_under : FnScope N_Table_kept_under ["self"] (defScope s_Table_kept_under) := ⟨rfl, rfl, rfl, by decide +kernel, rfl, by decide +kernel, by decide +kernel⟩
abbrev N_Table_history : List Str := ["self", "operation", "facts", "shelf"]
theorem sc_Table_history : FnScope N_Table_history ["self"] (defScope s_Table_history) := ⟨rfl, rfl, rfl, by decide +kernel, rfl, by decide +kernel, by decide +kernel⟩
abbrev N_Trial_init : List Str := ["self", "table"]
theorem sc_Trial_init : FnScope N_Trial_init ["self", "table"] (defScope s_Trial_init) := ⟨rfl, rfl, rfl, by decide +kernel, rfl, by decide +kernel, by decide +kernel⟩
abbrev N_Trial_hold : List Str := ["self"]
theorem sc_Trial_hold : FnScope N_Trial_hold ["self"] (defScope s_Trial_hold) := ⟨rfl, rfl, rfl, by decide +kernel, rfl, by decide +kernel, by decide +kernel⟩
abbrev N_Trial_exit : List Str := ["self", "kind", "error", "trace"]
theorem sc_Trial_exit : FnScope N_Trial_exit ["self", "kind", "error", "trace"] (defScope s_Trial_exit) := ⟨rfl, rfl, rfl, by decide +kernel, rfl, by decide +kernel, by decide +kernel⟩
abbrev N_law_taken : List Str := ["_law_row", "_law_many", "_law_found", "_law_cell"]
theorem sc_law_taken : FnScope N_law_taken ["_law_row", "_law_many"] (defScope s_law_taken) := ⟨rfl, rfl, rfl, by decide +kernel, rfl, by decide +kernel, by decide +kernel⟩
abbrev N_are_kinds : List Str := ["kinds", "kind"]
theorem sc_are_kinds : FnScope N_are_kinds ["kinds"] (defScope s_are_kinds) := ⟨rfl, rfl, rfl, by decide +kernel, rfl, by decide +kernel, by decide +kernel⟩
abbrev N_are_rests : List Str := ["modulus", "rests", "rest"]
theorem sc_are_rests : FnScope N_are_rests ["modulus", "rests"] (defScope s_are_rests) := ⟨rfl, rfl, rfl, by decide +kernel, rfl, by decide +kernel, by decide +kernel⟩
abbrev N_check_kinds : List Str := ["kinds", "index", "kind"]
theorem sc_check_kinds : FnScope N_check_kinds ["kinds"] (defScope s_check_kinds) := ⟨rfl, rfl, rfl, by decide +kernel, rfl, by decide +kernel, by decide +kernel⟩
abbrev N_Table_keep_as : List Str := ["self", "name", "held", "is_there"]
theorem sc_Table_keep_as : FnScope N_Table_keep_as ["self", "name"] (defScope s_Table_keep_as) := ⟨rfl, rfl, rfl, by decide +kernel, rfl, by decide +kernel, by decide +kernel⟩
abbrev N_Table_fetch : List Str := ["self", "name", "held"]
theorem sc_Table_fetch : FnScope N_Table_fetch ["self", "name"] (defScope s_Table_fetch) := ⟨rfl, rfl, rfl, by decide +kernel, rfl, by decide +kernel, by decide +kernel⟩
abbrev N_Table_undo : List Str := ["self"]
theorem sc_Table_undo : FnScope N_Table_undo ["self"] (defScope s_Table_undo) := ⟨rfl, rfl, rfl, by decide +kernel, rfl, by decide +kernel, by decide +kernel⟩
abbrev N_Table_redo : List Str := ["self"]
theorem sc_Table_redo : FnScope N_Table_redo ["self"] (defScope s_Table_redo) := ⟨rfl, rfl, rfl, by decide +kernel, rfl, by decide +kernel, by decide +kernel⟩
abbrev N_law_kinds : List Str := ["_law_row"]
theorem sc_law_kinds : FnScope N_law_kinds ["_law_row"] (defScope s_law_kinds) := ⟨rfl, rfl, rfl, by decide +kernel, rfl, by decide +kernel, by decide +kernel⟩
abbrev N_law_rows : List Str := ["_law_row", "_law_kinds_here", "_law_wide", "_law_most", "_law_found", "_law_k", "_law_number", "_law_one"]
theorem sc_law_rows : FnScope N_law_rows ["_law_row", "_law_kinds_here", "_law_wide", "_law_most"] (defScope s_law_rows) := ⟨rfl, rfl, rfl, by decide +kernel, rfl, by decide +kernel, by decide +kernel⟩
abbrev N_Rule_init : List Str := ["self", "piece", "low", "high", "modulus", "rests", "kinds"]
theorem sc_Rule_init : FnScope N_Rule_init ["self", "piece", "low", "high", "modulus", "rests", "kinds"] (defScope s_Rule_init) := ⟨rfl, rfl, rfl, by decide +kernel, rfl, by decide +kernel, by decide +kernel⟩
abbrev N_Book_init : List Str := ["self", "kinds", "rules", "index", "rule", "kind"]
theorem sc_Book_init : FnScope N_Book_init ["self", "kinds", "rules"] (defScope s_Book_init) := ⟨rfl, rfl, rfl, by decide +kernel, rfl, by decide +kernel, by decide +kernel⟩
abbrev N_fits : List Str := ["rule", "number", "kind"]
theorem sc_fits : FnScope N_fits ["rule", "number", "kind"] (defScope s_fits) := ⟨rfl, rfl, rfl, by decide +kernel, rfl, by decide +kernel, by decide +kernel⟩
abbrev N_check_row : List Str := ["book", "row"]
theorem sc_check_row : FnScope N_check_row ["book", "row"] (defScope s_check_row) := ⟨rfl, rfl, rfl, by decide +kernel, rfl, by decide +kernel, by decide +kernel⟩
abbrev N_check_books : List Str := ["one", "other"]
theorem sc_check_books : FnScope N_check_books ["one", "other"] (defScope s_check_books) := ⟨rfl, rfl, rfl, by decide +kernel, rfl, by decide +kernel, by decide +kernel⟩
abbrev N_is_row : List Str := ["book", "row"]
theorem sc_is_row : FnScope N_is_row ["book", "row"] (defScope s_is_row) := ⟨rfl, rfl, rfl, by decide +kernel, rfl, by decide +kernel, by decide +kernel⟩
abbrev N_State_copied : List Str := ["self"]
theorem sc_State_copied : FnScope N_State_copied ["self"] (defScope s_State_copied) := ⟨rfl, rfl, rfl, by decide +kernel, rfl, by decide +kernel, by decide +kernel⟩
abbrev N_Table_init : List Str := ["self", "book"]
theorem sc_Table_init : FnScope N_Table_init ["self", "book"] (defScope s_Table_init) := ⟨rfl, rfl, rfl, by decide +kernel, rfl, by decide +kernel, by decide +kernel⟩
abbrev N_Book_eq : List Str := ["self", "other"]
theorem sc_Book_eq : FnScope N_Book_eq ["self", "other"] (defScope s_Book_eq) := ⟨rfl, rfl, rfl, by decide +kernel, rfl, by decide +kernel, by decide +kernel⟩
abbrev N_fitting : List Str := ["book", "number", "kind", "index", "rule"]
theorem sc_fitting : FnScope N_fitting ["book", "number", "kind"] (defScope s_fitting) := ⟨rfl, rfl, rfl, by decide +kernel, rfl, by decide +kernel, by decide +kernel⟩
abbrev N_check_rows : List Str := ["book", "rows", "index", "row"]
theorem sc_check_rows : FnScope N_check_rows ["book", "rows"] (defScope s_check_rows) := ⟨rfl, rfl, rfl, by decide +kernel, rfl, by decide +kernel, by decide +kernel⟩
abbrev N_Trial_enter : List Str := ["self"]
theorem sc_Trial_enter : FnScope N_Trial_enter ["self"] (defScope s_Trial_enter) := ⟨rfl, rfl, rfl, by decide +kernel, rfl, by decide +kernel, by decide +kernel⟩
abbrev N_place_of : List Str := ["book", "number", "kind", "found"]
theorem sc_place_of : FnScope N_place_of ["book", "number", "kind"] (defScope s_place_of) := ⟨rfl, rfl, rfl, by decide +kernel, rfl, by decide +kernel, by decide +kernel⟩
abbrev N_law_book : List Str := ["_law_row", "_law_wide", "_law_kinds_here", "_law_rules", "_law_k", "_law_low", "_law_high", "_law_modulus", "_law_rests", "_law_rest", "_law_some", "_law_kind", "_law_piece"]
theorem sc_law_book : FnScope N_law_book ["_law_row", "_law_wide", "_law_kinds_here"] (defScope s_law_book) := ⟨rfl, rfl, rfl, by decide +kernel, rfl, by decide +kernel, by decide +kernel⟩
abbrev N_piece_of : List Str := ["book", "row"]
theorem sc_piece_of : FnScope N_piece_of ["book", "row"] (defScope s_piece_of) := ⟨rfl, rfl, rfl, by decide +kernel, rfl, by decide +kernel, by decide +kernel⟩
abbrev N_by_pieces : List Str := ["book", "rows", "found", "number", "kind"]
theorem sc_by_pieces : FnScope N_by_pieces ["book", "rows"] (defScope s_by_pieces) := ⟨rfl, rfl, rfl, by decide +kernel, rfl, by decide +kernel, by decide +kernel⟩
abbrev N_moves_of : List Str := ["one", "other", "rows", "found", "number", "kind", "pieces"]
theorem sc_moves_of : FnScope N_moves_of ["one", "other", "rows"] (defScope s_moves_of) := ⟨rfl, rfl, rfl, by decide +kernel, rfl, by decide +kernel, by decide +kernel⟩
abbrev N_law_are_undone : List Str := ["_law_table", "_law_rows_here", "_law_book_here", "_law_size", "_law_k"]
theorem sc_law_are_undone : FnScope N_law_are_undone ["_law_table", "_law_rows_here", "_law_book_here"] (defScope s_law_are_undone) := ⟨rfl, rfl, rfl, by decide +kernel, rfl, by decide +kernel, by decide +kernel⟩
abbrev N_laid : List Str := ["book", "rows", "found", "piece"]
theorem sc_laid : FnScope N_laid ["book", "rows"] (defScope s_laid) := ⟨rfl, rfl, rfl, by decide +kernel, rfl, by decide +kernel, by decide +kernel⟩
abbrev N_facts_of : List Str := ["book", "rows", "found", "piece"]
theorem sc_facts_of : FnScope N_facts_of ["book", "rows"] (defScope s_facts_of) := ⟨rfl, rfl, rfl, by decide +kernel, rfl, by decide +kernel, by decide +kernel⟩
abbrev N_Table_put : List Str := ["self", "row", "book", "rows", "counted"]
theorem sc_Table_put : FnScope N_Table_put ["self", "row"] (defScope s_Table_put) := ⟨rfl, rfl, rfl, by decide +kernel, rfl, by decide +kernel, by decide +kernel⟩
abbrev N_Table_drop : List Str := ["self", "row", "book", "rows", "counted", "rest", "other"]
theorem sc_Table_drop : FnScope N_Table_drop ["self", "row"] (defScope s_Table_drop) := ⟨rfl, rfl, rfl, by decide +kernel, rfl, by decide +kernel, by decide +kernel⟩
abbrev N_Table_rebook : List Str := ["self", "book", "before", "rows", "counted"]
theorem sc_Table_rebook : FnScope N_Table_rebook ["self", "book"] (defScope s_Table_rebook) := ⟨rfl, rfl, rfl, by decide +kernel, rfl, by decide +kernel, by decide +kernel⟩
abbrev N_Table_execute : List Str := ["self", "operation", "word", "rest"]
theorem sc_Table_execute : FnScope N_Table_execute ["self", "operation"] (defScope s_Table_execute) := ⟨rfl, rfl, rfl, by decide +kernel, rfl, by decide +kernel, by decide +kernel⟩
abbrev N_Table_apply_all : List Str := ["self", "operations", "index", "operation", "trial", "found"]
theorem sc_Table_apply_all : FnScope N_Table_apply_all ["self", "operations"] (defScope s_Table_apply_all) := ⟨rfl, rfl, rfl, by decide +kernel, rfl, by decide +kernel, by decide +kernel⟩
abbrev N_Table_replay : List Str := ["cls", "book", "operations", "table"]
theorem sc_Table_replay : FnScope N_Table_replay ["cls", "book", "operations"] (defScope s_Table_replay) := ⟨rfl, rfl, rfl, by decide +kernel, rfl, by decide +kernel, by decide +kernel⟩
abbrev N_law : List Str := ["_law_script", "_law_row", "_law_turn", "_law_kinds_here", "_law_wide", "_law_book_here", "_law_other", "_law_rows_here", "_law_table", "_law_k", "_law_piece", "_law_some", "_law_count"]
theorem sc_law : FnScope N_law ["_law_script"] (defScope s_law) := ⟨rfl, rfl, rfl, by decide +kernel, rfl, by decide +kernel, by decide +kernel⟩
section
variable [VEnv]
structure Txt (P : Program) (w : World) (K : PySem.W.Frag) (mg : Str → Option Value) : Prop where
  b_all : mg "all" = none
  b_bool : mg "bool" = none
  b_enumerate : mg "enumerate" = none
  b_int : mg "int" = none
  b_isinstance : mg "isinstance" = none
  b_len : mg "len" = none
  b_list : mg "list" = none
  b_range : mg "range" = none
  b_sorted : mg "sorted" = none
  b_str : mg "str" = none
  b_tuple : mg "tuple" = none
  b_zip : mg "zip" = none
  c_LAST : ConstV K mg "LAST" k_LAST
  c_LETTERS_books : ConstV K mg "LETTERS_books" k_LETTERS_books
  c_LETTERS_tables : ConstV K mg "LETTERS_tables" k_LETTERS_tables
  c_MAX_KINDS : ConstV K mg "MAX_KINDS" k_MAX_KINDS
  c_MAX_NAME : ConstV K mg "MAX_NAME" k_MAX_NAME
  c_MAX_ROWS : ConstV K mg "MAX_ROWS" k_MAX_ROWS
  c_MAX_RULES : ConstV K mg "MAX_RULES" k_MAX_RULES
  c_MAX_WORD : ConstV K mg "MAX_WORD" k_MAX_WORD
  c_MODULI : ConstV K mg "MODULI" k_MODULI
  d_SIZES : KdV K w mg "SIZES" kd_SIZES
  s_Rule : SlV K mg "Rule" ["parts"]
  s_Book : SlV K mg "Book" ["lists"]
  s_State : SlV K mg "State" ["facts", "past", "shelf", "undone"]
  o_Table : ClsV K mg "Table" ["held"]
  o_Trial : ClsV K mg "Trial" ["tested_table", "origin", "newest", "chosen"]
  i_Book : IsiV K mg "Book"
  i_Rule : IsiV K mg "Rule"
section
variable {P : Program} {w : World} {K : PySem.W.Frag} {mg : Str → Option Value} {base : Heap}
theorem ok_is_number {f : Addr} {fd : FuncData} (F : Fun K "is_number" "is_number" s_is_number f fd) (T : Txt P w K mg)  :
    FnOk P w K mg base (L2.CX P w) 1 f fd ["value", "smallest", "largest"] (spV K mg false 3 m_is_number) :=
  okV false F sc_is_number rfl rfl fun cdv A outer s H E hr =>
    (vss_one (vs_ret (ve_and (ve_isi T.b_isinstance T.b_int boot_int (ve_name 0)) (ve_and (ve_not (ve_isi T.b_isinstance T.b_bool boot_bool (ve_name 0))) (ve_one (ve_chain op_le op_le (ve_name 1) (ve_name 0) (ve_name 2)))))))
theorem ok_is_word {f : Addr} {fd : FuncData} (F : Fun K "is_word" "is_word" s_is_word f fd) (T : Txt P w K mg)  :
    FnOk P w K mg base (L2.CX P w) 1 f fd ["value"] (spV K mg false 1 m_is_word) :=
  okV false F sc_is_word rfl rfl fun cdv A outer s H E hr =>
    (vss_one (vs_ret (ve_and (ve_isi T.b_isinstance T.b_str boot_str (ve_name 0)) (ve_and (ve_chain op_le op_le ve_int (ve_len1 T.b_len (ve_name 0)) (ve_gc T.c_MAX_WORD)) (ve_one (ve_all rfl T.b_all (VF.ve (vf_comp (own := [(("sign" : Str), 1)]) rfl sc_is_word.nd (vi_q (ve_name 0)) (blkOk_by (N := N_is_word) (sc := defScope s_is_word) (by decide +kernel)) (by decide) (fun _ _ _ _ _ => (vg_name (i := 1) sc_is_word.nd)) (fun _ _ _ _ _ => vts_nil) (fun _ _ _ _ _ => (ve_inA hr (ve_name 1) (ve_gc T.c_LETTERS_books)))))))))))
theorem ok_ascend {f : Addr} {fd : FuncData} (F : Fun K "ascend" "ascend" s_ascend f fd) (T : Txt P w K mg)  :
    FnOk P w K mg base (L2.CX P w) 1 f fd ["values"] (spV K mg false 1 m_ascend) :=
  okV false F sc_ascend rfl rfl fun cdv A outer s H E hr =>
    (vss_one (vs_ret (ve_all rfl T.b_all (VF.ve (vf_comp (gg := gTup K 2 (gCons (gName 1) (gCons (gName 2) (gNil)))) (own := [(("one" : Str), 1), (("other" : Str), 2)]) rfl sc_ascend.nd (vi_zip T.b_zip (va_cons (ve_name 0) (va_cons (ve_slA (ve_name 0) (vo_some ve_int) vo_none) va_nil))) (blkOk_by (N := N_ascend) (sc := defScope s_ascend) (by decide +kernel)) (by decide) (fun _ _ _ _ _ => (vg_tup rfl (vgs_cons (vg_name (i := 1) sc_ascend.nd) (vgs_cons (vg_name (i := 2) sc_ascend.nd) vgs_nil)))) (fun _ _ _ _ _ => vts_nil) (fun _ _ _ _ _ => (ve_oLt (ve_name 1) (ve_name 2))))))))
theorem ok_Rule_piece {f : Addr} {fd : FuncData} (F : Fun K "piece" "Rule.piece" s_Rule_piece f fd) (T : Txt P w K mg)  :
    FnOk P w K mg base (L2.CX P w) 1 f fd ["self"] (spV K mg false 1 m_Rule_piece) :=
  okV false F sc_Rule_piece rfl rfl fun cdv A outer s H E hr =>
    (vss_one (vs_ret (ve_ixA hr (ve_slU 0 T.s_Rule (ve_name 0)) ve_int)))
theorem ok_Rule_low {f : Addr} {fd : FuncData} (F : Fun K "low" "Rule.low" s_Rule_low f fd) (T : Txt P w K mg)  :
    FnOk P w K mg base (L2.CX P w) 1 f fd ["self"] (spV K mg false 1 m_Rule_low) :=
  okV false F sc_Rule_low rfl rfl fun cdv A outer s H E hr =>
    (vss_one (vs_ret (ve_ixA hr (ve_slU 0 T.s_Rule (ve_name 0)) ve_int)))
theorem ok_Rule_high {f : Addr} {fd : FuncData} (F : Fun K "high" "Rule.high" s_Rule_high f fd) (T : Txt P w K mg)  :
    FnOk P w K mg base (L2.CX P w) 1 f fd ["self"] (spV K mg false 1 m_Rule_high) :=
  okV false F sc_Rule_high rfl rfl fun cdv A outer s H E hr =>
    (vss_one (vs_ret (ve_ixA hr (ve_slU 0 T.s_Rule (ve_name 0)) ve_int)))
theorem ok_Rule_modulus {f : Addr} {fd : FuncData} (F : Fun K "modulus" "Rule.modulus" s_Rule_modulus f fd) (T : Txt P w K mg)  :
    FnOk P w K mg base (L2.CX P w) 1 f fd ["self"] (spV K mg false 1 m_Rule_modulus) :=
  okV false F sc_Rule_modulus rfl rfl fun cdv A outer s H E hr =>
    (vss_one (vs_ret (ve_ixA hr (ve_slU 0 T.s_Rule (ve_name 0)) ve_int)))
theorem ok_Rule_rests {f : Addr} {fd : FuncData} (F : Fun K "rests" "Rule.rests" s_Rule_rests f fd) (T : Txt P w K mg)  :
    FnOk P w K mg base (L2.CX P w) 1 f fd ["self"] (spV K mg false 1 m_Rule_rests) :=
  okV false F sc_Rule_rests rfl rfl fun cdv A outer s H E hr =>
    (vss_one (vs_ret (ve_ixA hr (ve_slU 0 T.s_Rule (ve_name 0)) ve_int)))
theorem ok_Rule_kinds {f : Addr} {fd : FuncData} (F : Fun K "kinds" "Rule.kinds" s_Rule_kinds f fd) (T : Txt P w K mg)  :
    FnOk P w K mg base (L2.CX P w) 1 f fd ["self"] (spV K mg false 1 m_Rule_kinds) :=
  okV false F sc_Rule_kinds rfl rfl fun cdv A outer s H E hr =>
    (vss_one (vs_ret (ve_ixA hr (ve_slU 0 T.s_Rule (ve_name 0)) ve_int)))
theorem ok_Rule_eq {f C : Addr} {fd : FuncData} (F : Fun K "__eq__" "Rule.__eq__" s_Rule_eq f fd) (T : Txt P w K mg) (hC : mg "Rule" = some (.ref C)) :
    FnOk P w K mg base (L2.CX P w) 1 f fd ["self", "other"] (spEq (RSame K mg "Rule")) :=
  okEqText F sc_Rule_eq hC fun cdv A outer s H E hr => (T.s_Rule.at_ _ 0 "parts" hC rfl).elim fun p sl => pss_one (ps_ret (pe_and (pe_isiO T.i_Rule hC T.b_isinstance (pv 1)) (pe_one (pe_cmpR (op_eqD (huOf hr)) (VE.pe_slot (T.s_Rule.cl _ hC) sl (pv 0)) (VE.pe_slot (T.s_Rule.cl _ hC) sl (pv 1)) (nomark _)))))
theorem ok_Book_kinds {f : Addr} {fd : FuncData} (F : Fun K "kinds" "Book.kinds" s_Book_kinds f fd) (T : Txt P w K mg)  :
    FnOk P w K mg base (L2.CX P w) 1 f fd ["self"] (spV K mg false 1 m_Book_kinds) :=
  okV false F sc_Book_kinds rfl rfl fun cdv A outer s H E hr =>
    (vss_one (vs_ret (ve_ixA hr (ve_slU 0 T.s_Book (ve_name 0)) ve_int)))
theorem ok_Book_rules {f : Addr} {fd : FuncData} (F : Fun K "rules" "Book.rules" s_Book_rules f fd) (T : Txt P w K mg)  :
    FnOk P w K mg base (L2.CX P w) 1 f fd ["self"] (spV K mg false 1 m_Book_rules) :=
  okV false F sc_Book_rules rfl rfl fun cdv A outer s H E hr =>
    (vss_one (vs_ret (ve_ixA hr (ve_slU 0 T.s_Book (ve_name 0)) ve_int)))
theorem ok_rest_of {f : Addr} {fd : FuncData} (F : Fun K "rest_of" "rest_of" s_rest_of f fd) (T : Txt P w K mg)  :
    FnOk P w K mg base (L2.CX P w) 1 f fd ["number", "modulus"] (spV K mg false 2 m_rest_of) :=
  okV false F sc_rest_of rfl rfl fun cdv A outer s H E hr =>
    (vss_one (vs_ret (ve_mod (ve_intc T.b_int (ve_name 0)) (ve_name 1))))
theorem ok_named {f : Addr} {fd : FuncData} (F : Fun K "named" "named" s_named f fd) (T : Txt P w K mg)  :
    FnOk P w K mg base (L2.CX P w) 1 f fd ["piece"] (spV K mg false 1 m_named) :=
  okV false F sc_named rfl rfl fun cdv A outer s H E hr =>
    (vss_one (vs_ret (ve_if (vt_isN (ve_name 0) ve_non) ve_str (ve_name 0))))
theorem ok_is_operation {f : Addr} {fd : FuncData} (F : Fun K "is_operation" "is_operation" s_is_operation f fd) (T : Txt P w K mg)  :
    FnOk P w K mg base (L2.CX P w) 1 f fd ["value"] (spV K mg false 1 m_is_operation) :=
  okV false F sc_is_operation rfl rfl fun cdv A outer s H E hr =>
    (vss_cons (vs_if (PW.pt (vw_or (vt_not (vt_val (ve_isi T.b_isinstance T.b_tuple boot_tuple (ve_name 0)))) (vw_or (vt_eqE hr (ve_name 0) (ve_tup va_nil)) (vw_or1 (vt_not (vt_val (ve_isi T.b_isinstance T.b_str boot_str (ve_ixA hr (ve_name 0) ve_int))))))))
      (vss_one (vs_ret ve_bl))
      vss_nil)
      (vss_one (vs_ret (ve_eqV hr (ve_getK T.d_SIZES hr (ve_ixA hr (ve_name 0) ve_int) ve_int) (ve_len1 T.b_len (ve_name 0))))))
theorem ok_is_name {f : Addr} {fd : FuncData} (F : Fun K "is_name" "is_name" s_is_name f fd) (T : Txt P w K mg)  :
    FnOk P w K mg base (L2.CX P w) 1 f fd ["value"] (spV K mg false 1 m_is_name) :=
  okV false F sc_is_name rfl rfl fun cdv A outer s H E hr =>
    (vss_cons (vs_if (PW.pt (vw_or (vt_not (vt_val (ve_isi T.b_isinstance T.b_str boot_str (ve_name 0)))) (vw_or1 (vt_not (vt_chain op_le op_le ve_int (ve_len1 T.b_len (ve_name 0)) (ve_gc T.c_MAX_NAME))))))
      (vss_one (vs_ret ve_bl))
      vss_nil)
      (vss_one (vs_ret (ve_all rfl T.b_all (VF.ve (vf_comp (own := [(("letter" : Str), 1)]) rfl sc_is_name.nd (vi_q (ve_name 0)) (blkOk_by (N := N_is_name) (sc := defScope s_is_name) (by decide +kernel)) (by decide) (fun _ _ _ _ _ => (vg_name (i := 1) sc_is_name.nd)) (fun _ _ _ _ _ => vts_nil) (fun _ _ _ _ _ => (ve_inA hr (ve_name 1) (ve_gc T.c_LETTERS_tables)))))))))
theorem ok_State_init {f : Addr} {fd : FuncData} (F : Fun K "__init__" "State.__init__" s_State_init f fd) (T : Txt P w K mg)  :
    FnOk P w K mg base (L2.CX P w) 1 f fd ["self", "facts", "shelf", "past", "undone"] (spV K mg false 5 m_State_init) :=
  okV false F sc_State_init rfl rfl fun cdv A outer s H E hr =>
    (vss_cons (vs_slotP 0 FinOk.none T.s_State (ve_name 0) (ve_name 1))
      (vss_cons (vs_slotP 2 FinOk.none T.s_State (ve_name 0) (ve_name 2))
      (vss_cons (vs_slotP 1 FinOk.none T.s_State (ve_name 0) (ve_name 3))
      (vss_one (vs_slotP 3 (fin4 rfl fun _ _ _ _ => rfl) T.s_State (ve_name 0) (ve_name 4))))))
theorem ok_State_go_on {f : Addr} {fd : FuncData} (F : Fun K "go_on" "State.go_on" s_State_go_on f fd) (T : Txt P w K mg)  :
    FnOk P w K mg base (L2.CX P w) 1 f fd ["self", "operation", "facts", "shelf"] (spV K mg false 4 m_State_go_on) :=
  okV false F sc_State_go_on rfl rfl fun cdv A outer s H E hr =>
    (vss_cons (vs_slotW 1 T.s_State (ve_name 0) (ve_tup (va_star (ve_slU 1 T.s_State (ve_name 0)) (va_cons (ve_tup (va_cons (ve_name 1) (va_cons (ve_slU 0 T.s_State (ve_name 0)) (va_cons (ve_slU 2 T.s_State (ve_name 0)) va_nil)))) va_nil))))
      (vss_cons (vs_slotW 3 T.s_State (ve_name 0) (ve_tup va_nil))
      (vss_cons (vs_slotW 0 T.s_State (ve_name 0) (ve_name 2))
      (vss_one (vs_slotW 2 T.s_State (ve_name 0) (ve_name 3))))))
theorem ok_State_go_back {f : Addr} {fd : FuncData} (F : Fun K "go_back" "State.go_back" s_State_go_back f fd) (T : Txt P w K mg)  :
    FnOk P w K mg base (L2.CX P w) 1 f fd ["self"] (spV K mg false 1 m_State_go_back) :=
  okV false F sc_State_go_back rfl rfl fun cdv A outer s H E hr =>
    (vss_cons (vs_asg (ve_ixA hr (ve_slU 1 T.s_State (ve_name 0)) (ve_neg ve_int)) (vg_tup rfl (vgs_cons (vg_name (i := 1) sc_State_go_back.nd) (vgs_cons (vg_name (i := 2) sc_State_go_back.nd) (vgs_cons (vg_name (i := 3) sc_State_go_back.nd) vgs_nil)))))
      (vss_cons (vs_slotW 3 T.s_State (ve_name 0) (ve_tup (va_star (ve_slU 3 T.s_State (ve_name 0)) (va_cons (ve_tup (va_cons (ve_name 1) (va_cons (ve_slU 0 T.s_State (ve_name 0)) (va_cons (ve_slU 2 T.s_State (ve_name 0)) va_nil)))) va_nil))))
      (vss_cons (vs_slotW 1 T.s_State (ve_name 0) (ve_slA (ve_slU 1 T.s_State (ve_name 0)) vo_none (vo_some (ve_neg ve_int))))
      (vss_cons (vs_slotW 0 T.s_State (ve_name 0) (ve_name 2))
      (vss_one (vs_slotW 2 T.s_State (ve_name 0) (ve_name 3)))))))
theorem ok_State_go_again {f : Addr} {fd : FuncData} (F : Fun K "go_again" "State.go_again" s_State_go_again f fd) (T : Txt P w K mg)  :
    FnOk P w K mg base (L2.CX P w) 1 f fd ["self"] (spV K mg false 1 m_State_go_again) :=
  okV false F sc_State_go_again rfl rfl fun cdv A outer s H E hr =>
    (vss_cons (vs_asg (ve_ixA hr (ve_slU 3 T.s_State (ve_name 0)) (ve_neg ve_int)) (vg_tup rfl (vgs_cons (vg_name (i := 1) sc_State_go_again.nd) (vgs_cons (vg_name (i := 2) sc_State_go_again.nd) (vgs_cons (vg_name (i := 3) sc_State_go_again.nd) vgs_nil)))))
      (vss_cons (vs_slotW 1 T.s_State (ve_name 0) (ve_tup (va_star (ve_slU 1 T.s_State (ve_name 0)) (va_cons (ve_tup (va_cons (ve_name 1) (va_cons (ve_slU 0 T.s_State (ve_name 0)) (va_cons (ve_slU 2 T.s_State (ve_name 0)) va_nil)))) va_nil))))
      (vss_cons (vs_slotW 3 T.s_State (ve_name 0) (ve_slA (ve_slU 3 T.s_State (ve_name 0)) vo_none (vo_some (ve_neg ve_int))))
      (vss_cons (vs_slotW 0 T.s_State (ve_name 0) (ve_name 2))
      (vss_one (vs_slotW 2 T.s_State (ve_name 0) (ve_name 3)))))))
theorem ok_Table_book_now {f : Addr} {fd : FuncData} (F : Fun K "book_now" "Table.book_now" s_Table_book_now f fd) (T : Txt P w K mg)  :
    FnOk P w K mg base (L2.CX P w) 1 f fd ["self"] (spV K mg false 1 m_Table_book_now) :=
  okV false F sc_Table_book_now rfl rfl fun cdv A outer s H E hr =>
    (vss_one (vs_ret (ve_ixA hr (ve_slU 0 T.s_State (ve_flU T.o_Table (ve_name 0))) ve_int)))
theorem ok_Table_rows_now {f : Addr} {fd : FuncData} (F : Fun K "rows_now" "Table.rows_now" s_Table_rows_now f fd) (T : Txt P w K mg)  :
    FnOk P w K mg base (L2.CX P w) 1 f fd ["self"] (spV K mg false 1 m_Table_rows_now) :=
  okV false F sc_Table_rows_now rfl rfl fun cdv A outer s H E hr =>
    (vss_one (vs_ret (VF.ve (vf_list T.b_list (ve_ixA hr (ve_slU 0 T.s_State (ve_flU T.o_Table (ve_name 0))) ve_int)))))
theorem ok_Table_counts_now {f : Addr} {fd : FuncData} (F : Fun K "counts_now" "Table.counts_now" s_Table_counts_now f fd) (T : Txt P w K mg)  :
    FnOk P w K mg base (L2.CX P w) 1 f fd ["self"] (spV K mg false 1 m_Table_counts_now) :=
  okV false F sc_Table_counts_now rfl rfl fun cdv A outer s H E hr =>
    (vss_one (vs_ret (VF.ve (vf_list T.b_list (ve_ixA hr (ve_slU 0 T.s_State (ve_flU T.o_Table (ve_name 0))) ve_int)))))
theorem ok_Table_kept_under {f : Addr} {fd : FuncData} (F : Fun K "kept_under" "Table.kept_under" s_Table_kept_under f fd) (T : Txt P w K mg)  :
    FnOk P w K mg base (L2.CX P w) 1 f fd ["self"] (spV K mg false 1 m_Table_kept_under) :=
  okV false F sc_Table_kept_under rfl rfl fun cdv A outer s H E hr =>
    (vss_one (vs_ret (ve_sortK rfl T.b_sorted (ve_slU 2 T.s_State (ve_flU T.o_Table (ve_name 0))))))
theorem ok_Table_history {f : Addr} {fd : FuncData} (F : Fun K "history" "Table.history" s_Table_history f fd) (T : Txt P w K mg)  :
    FnOk P w K mg base (L2.CX P w) 1 f fd ["self"] (spV K mg false 1 m_Table_history) :=
  okV false F sc_Table_history rfl rfl fun cdv A outer s H E hr =>
    (vss_one (vs_ret (VF.ve (vf_comp (gg := gTup K 3 (gCons (gName 1) (gCons (gName 2) (gCons (gName 3) (gNil))))) (own := [(("operation" : Str), 1), (("facts" : Str), 2), (("shelf" : Str), 3)]) rfl sc_Table_history.nd (vi_q (ve_slU 1 T.s_State (ve_flU T.o_Table (ve_name 0)))) (blkOk_by (N := N_Table_history) (sc := defScope s_Table_history) (by decide +kernel)) (by decide) (fun _ _ _ _ _ => (vg_tup rfl (vgs_cons (vg_name (i := 1) sc_Table_history.nd) (vgs_cons (vg_name (i := 2) sc_Table_history.nd) (vgs_cons (vg_name (i := 3) sc_Table_history.nd) vgs_nil))))) (fun _ _ _ _ _ => vts_nil) (fun _ _ _ _ _ => (ve_name 1))))))
theorem ok_Trial_init {f : Addr} {fd : FuncData} (F : Fun K "__init__" "Trial.__init__" s_Trial_init f fd) (T : Txt P w K mg)  :
    FnOk P w K mg base (L2.CX P w) 1 f fd ["self", "table"] (spV K mg false 2 m_Trial_init) :=
  okV false F sc_Trial_init rfl rfl fun cdv A outer s H E hr =>
    (vss_cons (vs_fld T.o_Trial (ve_name 0) (ve_name 1))
      (vss_cons (vs_fld T.o_Trial (ve_name 0) (ve_flU T.o_Table (ve_name 1)))
      (vss_cons (vs_fld T.o_Trial (ve_name 0) (ve_flU T.o_Table (ve_name 1)))
      (vss_one (vs_fld T.o_Trial (ve_name 0) (ve_flU T.o_Table (ve_name 1)))))))
theorem ok_Trial_hold {f : Addr} {fd : FuncData} (F : Fun K "hold" "Trial.hold" s_Trial_hold f fd) (T : Txt P w K mg)  :
    FnOk P w K mg base (L2.CX P w) 1 f fd ["self"] (spV K mg false 1 m_Trial_hold) :=
  okV false F sc_Trial_hold rfl rfl fun cdv A outer s H E hr =>
    (vss_one (vs_fld T.o_Trial (ve_name 0) (ve_flU T.o_Trial (ve_name 0))))
theorem ok_Trial_exit {f : Addr} {fd : FuncData} (F : Fun K "__exit__" "Trial.__exit__" s_Trial_exit f fd) (T : Txt P w K mg) :
    FnX P w K mg base 1 f fd ["self", "kind", "error", "trace"] (sp1V K mg m_Trial_exit) :=
  okVX F sc_Trial_exit rfl fun cdv A outer s H =>
    (vss_cons (vs_slotW 0 T.s_State (ve_flU T.o_Trial (ve_name 0)) (ve_slU 0 T.s_State (ve_flU T.o_Trial (ve_name 0))))
      (vss_cons (vs_slotW 2 T.s_State (ve_flU T.o_Trial (ve_name 0)) (ve_slU 2 T.s_State (ve_flU T.o_Trial (ve_name 0))))
      (vss_cons (vs_slotW 1 T.s_State (ve_flU T.o_Trial (ve_name 0)) (ve_slU 1 T.s_State (ve_flU T.o_Trial (ve_name 0))))
      (vss_cons (vs_slotW 3 T.s_State (ve_flU T.o_Trial (ve_name 0)) (ve_slU 3 T.s_State (ve_flU T.o_Trial (ve_name 0))))
      (vss_one (vs_fld T.o_Table (ve_flU T.o_Trial (ve_name 0)) (ve_flU T.o_Trial (ve_name 0))))))))
theorem ok_law_taken {f : Addr} {fd : FuncData} (F : Fun K "_law_taken" "_law_taken" s_law_taken f fd) (T : Txt P w K mg)  :
    FnOk P w K mg base (L2.CX P w) 1 f fd ["_law_row", "_law_many"] (spV K mg false 2 m_law_taken) :=
  okV false F sc_law_taken rfl rfl fun cdv A outer s H E hr =>
    (vss_cons (vs_if (vt_oGt (ve_ixA hr (ve_name 0) ve_int) ve_int)
      (vss_cons (vs_set (i := 2) sc_law_taken.nd (ve_mod (ve_intc T.b_int (ve_ixA hr (ve_name 0) ve_int)) (ve_name 1)))
      (vss_cons (vs_itemA hr (ve_fdiv (ve_ixA hr (ve_name 0) ve_int) (ve_name 1)) (ve_name 0) ve_int)
      (vss_one (vs_ret (ve_name 2)))))
      vss_nil)
      (vss_cons (vs_itemA hr (ve_addA (ve_ixA hr (ve_name 0) ve_int) ve_int) (ve_name 0) ve_int)
      (vss_cons (vs_if (vt_oGt (ve_ixA hr (ve_name 0) ve_int) (ve_len1 T.b_len (ve_ixA hr (ve_name 0) ve_int)))
      (vss_cons (vs_itemA hr (ve_mod (ve_intc T.b_int (ve_addA (ve_mul (ve_ixA hr (ve_name 0) ve_int) ve_int) ve_int)) ve_int) (ve_name 0) ve_int)
      (vss_one (vs_ret (ve_mod (ve_intc T.b_int (ve_fdiv (ve_ixA hr (ve_name 0) ve_int) ve_int)) (ve_name 1)))))
      vss_nil)
      (vss_cons (vs_set (i := 3) sc_law_taken.nd (ve_ixA hr (ve_ixA hr (ve_name 0) ve_int) (ve_sub (ve_ixA hr (ve_name 0) ve_int) ve_int)))
      (vss_cons (vs_itemA hr (ve_mod (ve_intc T.b_int (ve_addA (ve_addA (ve_mul (ve_ixA hr (ve_name 0) ve_int) ve_int) (ve_name 3)) ve_int)) ve_int) (ve_name 0) ve_int)
      (vss_cons (vs_if (vt_oGe (ve_name 3) (ve_pow ve_int ve_int))
      (vss_one (vs_itemA hr (ve_fdiv (ve_name 3) (ve_name 1)) (ve_name 0) ve_int))
      vss_nil)
      (vss_one (vs_ret (ve_mod (ve_intc T.b_int (ve_name 3)) (ve_name 1))))))))))
theorem ok_are_kinds {f : Addr} {fd : FuncData} (F : Fun K "are_kinds" "are_kinds" s_are_kinds f fd) (T : Txt P w K mg) (v_ascend : FnV P w K mg base 1 "ascend" false 1 m_ascend) (v_is_word : FnV P w K mg base 1 "is_word" false 1 m_is_word) :
    FnOk P w K mg base (L2.CX P w) 2 f fd ["kinds"] (spV K mg false 1 m_are_kinds) :=
  okV false F sc_are_kinds rfl rfl fun cdv A outer s H E hr =>
    (vss_one (vs_ret (ve_and (ve_neV hr (ve_name 0) (ve_tup va_nil)) (ve_and (ve_all rfl T.b_all (VF.ve (vf_comp (own := [(("kind" : Str), 1)]) rfl sc_are_kinds.nd (vi_q (ve_name 0)) (blkOk_by (N := N_are_kinds) (sc := defScope s_are_kinds) (by decide +kernel)) (by decide) (fun _ _ _ _ _ => (vg_name (i := 1) sc_are_kinds.nd)) (fun _ _ _ _ _ => vts_nil) (fun _ _ _ _ _ => (ve_call v_is_word (hr.mono (by decide)) takes0 (va_cons (ve_name 1) va_nil)))))) (ve_one (ve_call v_ascend (hr.mono (by decide)) (takes_of rfl rfl rfl rfl) (va_cons (ve_name 0) va_nil)))))))
theorem ok_are_rests {f : Addr} {fd : FuncData} (F : Fun K "are_rests" "are_rests" s_are_rests f fd) (T : Txt P w K mg) (v_ascend : FnV P w K mg base 1 "ascend" false 1 m_ascend) (v_is_number : FnV P w K mg base 1 "is_number" false 3 m_is_number) :
    FnOk P w K mg base (L2.CX P w) 2 f fd ["modulus", "rests"] (spV K mg false 2 m_are_rests) :=
  okV false F sc_are_rests rfl rfl fun cdv A outer s H E hr =>
    (vss_one (vs_ret (ve_and (ve_neV hr (ve_name 1) (ve_tup va_nil)) (ve_and (ve_all rfl T.b_all (VF.ve (vf_comp (own := [(("rest" : Str), 2)]) rfl sc_are_rests.nd (vi_q (ve_name 1)) (blkOk_by (N := N_are_rests) (sc := defScope s_are_rests) (by decide +kernel)) (by decide) (fun _ _ _ _ _ => (vg_name (i := 2) sc_are_rests.nd)) (fun _ _ _ _ _ => vts_nil) (fun _ _ _ _ _ => (ve_call v_is_number (hr.mono (by decide)) takes0 (va_cons (ve_name 2) (va_cons ve_int (va_cons (ve_sub (ve_name 0) ve_int) va_nil)))))))) (ve_one (ve_call v_ascend (hr.mono (by decide)) (takes_of rfl rfl rfl rfl) (va_cons (ve_name 1) va_nil)))))))
theorem ok_check_kinds {f : Addr} {fd : FuncData} (F : Fun K "check_kinds" "check_kinds" s_check_kinds f fd) (T : Txt P w K mg) (v_is_word : FnV P w K mg base 1 "is_word" false 1 m_is_word) :
    FnOk P w K mg base (L2.CX P w) 2 f fd ["kinds"] (spV K mg false 1 m_check_kinds) :=
  okV false F sc_check_kinds rfl rfl fun cdv A outer s H E hr =>
    (vss_cons (vs_for [1, 2] (passes_of rfl) rfl (vi_enA T.b_enumerate (ve_name 0)) (vg_tup rfl (vgs_cons (vg_name (i := 1) sc_check_kinds.nd) (vgs_cons (vg_name (i := 2) sc_check_kinds.nd) vgs_nil)))
      (vss_one (vs_if (PW.pt (vw_or (vt_eqV hr (ve_name 1) (ve_gc T.c_MAX_KINDS)) (vw_or (vt_not (vt_val (ve_call v_is_word (hr.mono (by decide)) (takes_of rfl rfl rfl rfl) (va_cons (ve_name 2) va_nil)))) (vw_or1 (PW.pt (vw_and (vt_oGt (ve_name 1) ve_int) (vw_and1 (vt_oLe (ve_name 2) (ve_ixA hr (ve_name 0) (ve_sub (ve_name 1) ve_int))))))))))
      (vss_one vs_never)
      vss_nil)))
      (vss_one (vs_if (vt_eqV hr (ve_name 0) (ve_tup va_nil))
      (vss_one vs_never)
      vss_nil)))
theorem ok_Table_keep_as {f : Addr} {fd : FuncData} (F : Fun K "keep_as" "Table.keep_as" s_Table_keep_as f fd) (T : Txt P w K mg) (v_is_name : FnV P w K mg base 1 "is_name" false 1 m_is_name) (mt_State_go_on : MtS P w K mg base 1 "State" "go_on" false 4 m_State_go_on) :
    FnOk P w K mg base (L2.CX P w) 2 f fd ["self", "name"] (spV K mg false 2 m_Table_keep_as) :=
  okV false F sc_Table_keep_as rfl rfl fun cdv A outer s H E hr =>
    (vss_cons (vs_if (vt_not (vt_val (ve_call v_is_name (hr.mono (by decide)) (takes_of rfl rfl rfl rfl) (va_cons (ve_name 1) va_nil))))
      (vss_one vs_never)
      vss_nil)
      (vss_cons (vs_set (i := 2) sc_Table_keep_as.nd (ve_flU T.o_Table (ve_name 0)))
      (vss_cons (vs_set (i := 3) sc_Table_keep_as.nd (ve_inA hr (ve_name 1) (ve_slU 2 T.s_State (ve_name 2))))
      (vss_cons (vs_expr (ve_methS mt_State_go_on (hr.mono (by decide)) (takes_of rfl rfl rfl rfl) (ve_name 2) (va_cons (ve_tup (va_cons ve_str (va_cons (ve_name 1) va_nil))) (va_cons (ve_slU 0 T.s_State (ve_name 2)) (va_cons (ve_orD (ve_slU 2 T.s_State (ve_name 2)) (ve_dict1 (ve_name 1) (ve_slU 0 T.s_State (ve_name 2)))) va_nil)))))
      (vss_one (vs_ret (ve_name 3)))))))
theorem ok_Table_fetch {f : Addr} {fd : FuncData} (F : Fun K "fetch" "Table.fetch" s_Table_fetch f fd) (T : Txt P w K mg) (mt_State_go_on : MtS P w K mg base 1 "State" "go_on" false 4 m_State_go_on) :
    FnOk P w K mg base (L2.CX P w) 2 f fd ["self", "name"] (spV K mg false 2 m_Table_fetch) :=
  okV false F sc_Table_fetch rfl rfl fun cdv A outer s H E hr =>
    (vss_cons (vs_set (i := 2) sc_Table_fetch.nd (ve_flU T.o_Table (ve_name 0)))
      (vss_cons (vs_if (PW.pt (vw_or (vt_not (vt_val (ve_isi T.b_isinstance T.b_str boot_str (ve_name 1)))) (vw_or1 (vt_notinA hr (ve_name 1) (ve_slU 2 T.s_State (ve_name 2))))))
      (vss_one vs_never)
      vss_nil)
      (vss_cons (vs_expr (ve_methS mt_State_go_on (hr.mono (by decide)) (takes_of rfl rfl rfl rfl) (ve_name 2) (va_cons (ve_tup (va_cons ve_str (va_cons (ve_name 1) va_nil))) (va_cons (ve_ixA hr (ve_slU 2 T.s_State (ve_name 2)) (ve_name 1)) (va_cons (ve_slU 2 T.s_State (ve_name 2)) va_nil)))))
      (vss_one (vs_ret (ve_len1 T.b_len (ve_ixA hr (ve_slU 0 T.s_State (ve_flU T.o_Table (ve_name 0))) ve_int)))))))
theorem ok_Table_undo {f : Addr} {fd : FuncData} (F : Fun K "undo" "Table.undo" s_Table_undo f fd) (T : Txt P w K mg) (mt_State_go_back : MtS P w K mg base 1 "State" "go_back" false 1 m_State_go_back) :
    FnOk P w K mg base (L2.CX P w) 2 f fd ["self"] (spV K mg false 1 m_Table_undo) :=
  okV false F sc_Table_undo rfl rfl fun cdv A outer s H E hr =>
    (vss_cons (vs_if (vt_eqE hr (ve_slU 1 T.s_State (ve_flU T.o_Table (ve_name 0))) (ve_tup va_nil))
      (vss_one (vs_ret ve_bl))
      vss_nil)
      (vss_cons (vs_expr (ve_methS0 mt_State_go_back (hr.mono (by decide)) (takes_of rfl rfl rfl rfl) (ve_flU T.o_Table (ve_name 0))))
      (vss_one (vs_ret ve_bl))))
theorem ok_Table_redo {f : Addr} {fd : FuncData} (F : Fun K "redo" "Table.redo" s_Table_redo f fd) (T : Txt P w K mg) (mt_State_go_again : MtS P w K mg base 1 "State" "go_again" false 1 m_State_go_again) :
    FnOk P w K mg base (L2.CX P w) 2 f fd ["self"] (spV K mg false 1 m_Table_redo) :=
  okV false F sc_Table_redo rfl rfl fun cdv A outer s H E hr =>
    (vss_cons (vs_if (vt_eqE hr (ve_slU 3 T.s_State (ve_flU T.o_Table (ve_name 0))) (ve_tup va_nil))
      (vss_one (vs_ret ve_bl))
      vss_nil)
      (vss_cons (vs_expr (ve_methS0 mt_State_go_again (hr.mono (by decide)) (takes_of rfl rfl rfl rfl) (ve_flU T.o_Table (ve_name 0))))
      (vss_one (vs_ret ve_bl))))
theorem ok_law_kinds {f : Addr} {fd : FuncData} (F : Fun K "_law_kinds" "_law_kinds" s_law_kinds f fd) (T : Txt P w K mg) (v_law_taken : FnV P w K mg base 1 "_law_taken" false 2 m_law_taken) :
    FnOk P w K mg base (L2.CX P w) 2 f fd ["_law_row"] (spV K mg false 1 m_law_kinds) :=
  okV false F sc_law_kinds rfl rfl fun cdv A outer s H E hr =>
    (vss_one (vs_ret (ve_ixA hr (VF.ve (vf_lst (va_cons (ve_tup (va_cons ve_str va_nil)) (va_cons (ve_tup (va_cons ve_str (va_cons ve_str va_nil))) (va_cons (ve_tup (va_cons ve_str (va_cons ve_str (va_cons ve_str va_nil)))) va_nil))))) (ve_call v_law_taken (hr.mono (by decide)) (takes_of rfl rfl rfl rfl) (va_cons (ve_name 0) (va_cons ve_int va_nil))))))
theorem ok_law_rows {f : Addr} {fd : FuncData} (F : Fun K "_law_rows" "_law_rows" s_law_rows f fd) (T : Txt P w K mg) (v_law_taken : FnV P w K mg base 1 "_law_taken" false 2 m_law_taken) :
    FnOk P w K mg base (L2.CX P w) 2 f fd ["_law_row", "_law_kinds_here", "_law_wide", "_law_most"] (spV K mg false 4 m_law_rows) :=
  okV false F sc_law_rows rfl rfl fun cdv A outer s H E hr =>
    (vss_cons (vs_set (i := 4) sc_law_rows.nd (VF.ve (vf_lst va_nil)))
      (vss_cons (vs_for [5, 6, 7] (passes_of rfl) rfl (vi_r1 T.b_range (ve_call v_law_taken (hr.mono (by decide)) (takes_of rfl rfl rfl rfl) (va_cons (ve_name 0) (va_cons (ve_addA (ve_name 3) ve_int) va_nil)))) (vg_name (i := 5) sc_law_rows.nd)
      (vss_cons (vs_set (i := 6) sc_law_rows.nd (ve_ixA hr (VF.ve (vf_lst (va_cons (ve_call v_law_taken (hr.mono (by decide)) (takes_of rfl rfl rfl rfl) (va_cons (ve_name 0) (va_cons (ve_mul ve_int (ve_name 2)) va_nil))) (va_cons (ve_sub (ve_sub (ve_pow ve_int ve_int) ve_int) (ve_call v_law_taken (hr.mono (by decide)) (takes_of rfl rfl rfl rfl) (va_cons (ve_name 0) (va_cons ve_int va_nil)))) va_nil)))) (ve_intc T.b_int (ve_eqV hr (ve_call v_law_taken (hr.mono (by decide)) (takes_of rfl rfl rfl rfl) (va_cons (ve_name 0) (va_cons ve_int va_nil))) ve_int))))
      (vss_cons (vs_set (i := 7) sc_law_rows.nd (ve_tup (va_cons (ve_name 6) (va_cons (ve_ixA hr (ve_name 1) (ve_call v_law_taken (hr.mono (by decide)) (takes_of rfl rfl rfl rfl) (va_cons (ve_name 0) (va_cons (ve_len1 T.b_len (ve_name 1)) va_nil)))) va_nil))))
      (vss_one (vs_set (i := 4) sc_law_rows.nd (ve_if (vt_inA hr (ve_name 7) (ve_name 4)) (ve_name 4) (ve_addA (ve_name 4) (VF.ve (vf_lst (va_cons (ve_name 7) va_nil))))))))))
      (vss_one (vs_ret (ve_tuple1 T.b_tuple (ve_name 4))))))
theorem ok_Rule_init {f : Addr} {fd : FuncData} (F : Fun K "__init__" "Rule.__init__" s_Rule_init f fd) (T : Txt P w K mg) (v_are_kinds : FnV P w K mg base 2 "are_kinds" false 1 m_are_kinds) (v_are_rests : FnV P w K mg base 2 "are_rests" false 2 m_are_rests) (v_is_number : FnV P w K mg base 1 "is_number" false 3 m_is_number) (v_is_word : FnV P w K mg base 1 "is_word" false 1 m_is_word) :
    FnOk P w K mg base (L2.CX P w) 3 f fd ["self", "piece", "low", "high", "modulus", "rests", "kinds"] (spV K mg false 7 m_Rule_init) :=
  okV false F sc_Rule_init rfl rfl fun cdv A outer s H E hr =>
    (vss_cons (vs_if (vt_not (vt_val (ve_call v_is_word (hr.mono (by decide)) (takes_of rfl rfl rfl rfl) (va_cons (ve_name 1) va_nil))))
      (vss_one vs_never)
      vss_nil)
      (vss_cons (vs_if (vt_not (vt_val (ve_call v_is_number (hr.mono (by decide)) (takes_of rfl rfl rfl rfl) (va_cons (ve_name 2) (va_cons ve_int (va_cons (ve_gc T.c_LAST) va_nil))))))
      (vss_one vs_never)
      vss_nil)
      (vss_cons (vs_if (vt_not (vt_val (ve_call v_is_number (hr.mono (by decide)) (takes_of rfl rfl rfl rfl) (va_cons (ve_name 3) (va_cons (ve_name 2) (va_cons (ve_gc T.c_LAST) va_nil))))))
      (vss_one vs_never)
      vss_nil)
      (vss_cons (vs_if (PW.pt (vw_or (vt_val (ve_isi T.b_isinstance T.b_bool boot_bool (ve_name 4))) (vw_or1 (vt_notinA hr (ve_name 4) (ve_gc T.c_MODULI)))))
      (vss_one vs_never)
      vss_nil)
      (vss_cons (vs_if (vt_not (vt_val (ve_call v_are_rests (hr.mono (by decide)) (takes_of rfl rfl rfl rfl) (va_cons (ve_name 4) (va_cons (ve_name 5) va_nil)))))
      (vss_one vs_never)
      vss_nil)
      (vss_cons (vs_if (vt_not (vt_val (ve_call v_are_kinds (hr.mono (by decide)) (takes_of rfl rfl rfl rfl) (va_cons (ve_name 6) va_nil))))
      (vss_one vs_never)
      vss_nil)
      (vss_one (vs_slot 0 T.s_Rule (ve_name 0) (ve_tup (va_cons (ve_name 1) (va_cons (ve_name 2) (va_cons (ve_name 3) (va_cons (ve_name 4) (va_cons (ve_name 5) (va_cons (ve_name 6) va_nil)))))))))))))))
theorem ok_Book_init {f : Addr} {fd : FuncData} (F : Fun K "__init__" "Book.__init__" s_Book_init f fd) (T : Txt P w K mg) (v_check_kinds : FnV P w K mg base 2 "check_kinds" false 1 m_check_kinds) (pr_Rule_kinds : PrV P w K mg base 1 "Rule" "kinds" m_Rule_kinds) :
    FnOk P w K mg base (L2.CX P w) 3 f fd ["self", "kinds", "rules"] (spV K mg false 3 m_Book_init) :=
  okV false F sc_Book_init rfl rfl fun cdv A outer s H E hr =>
    (vss_cons (vs_expr (ve_call v_check_kinds (hr.mono (by decide)) (takes_of rfl rfl rfl rfl) (va_cons (ve_name 1) va_nil)))
      (vss_cons (vs_for [3, 4, 5] (passes_of rfl) rfl (vi_enA T.b_enumerate (ve_name 2)) (vg_tup rfl (vgs_cons (vg_name (i := 3) sc_Book_init.nd) (vgs_cons (vg_name (i := 4) sc_Book_init.nd) vgs_nil)))
      (vss_one (vs_if (PW.pt (vw_or (vt_eqV hr (ve_name 3) (ve_gc T.c_MAX_RULES)) (vw_or1 (vt_not (vt_val (ve_all rfl T.b_all (VF.ve (vf_comp (own := [(("kind" : Str), 5)]) rfl sc_Book_init.nd (vi_q (ve_prU pr_Rule_kinds (hr.mono (by decide)) (ve_name 4))) (blkOk_by (N := N_Book_init) (sc := defScope s_Book_init) (by decide +kernel)) (by decide) (fun _ _ _ _ _ => (vg_name (i := 5) sc_Book_init.nd)) (fun _ _ _ _ _ => vts_nil) (fun _ _ _ _ _ => (ve_inA hr (ve_name 5) (ve_name 1)))))))))))
      (vss_one vs_never)
      vss_nil)))
      (vss_one (vs_slot 0 T.s_Book (ve_name 0) (ve_tup (va_cons (ve_name 1) (va_cons (ve_name 2) va_nil)))))))
theorem ok_fits {f : Addr} {fd : FuncData} (F : Fun K "fits" "fits" s_fits f fd) (T : Txt P w K mg) (pr_Rule_high : PrV P w K mg base 1 "Rule" "high" m_Rule_high) (pr_Rule_kinds : PrV P w K mg base 1 "Rule" "kinds" m_Rule_kinds) (pr_Rule_low : PrV P w K mg base 1 "Rule" "low" m_Rule_low) (pr_Rule_modulus : PrV P w K mg base 1 "Rule" "modulus" m_Rule_modulus) (pr_Rule_rests : PrV P w K mg base 1 "Rule" "rests" m_Rule_rests) (v_rest_of : FnV P w K mg base 1 "rest_of" false 2 m_rest_of) :
    FnOk P w K mg base (L2.CX P w) 3 f fd ["rule", "number", "kind"] (spV K mg false 3 m_fits) :=
  okV false F sc_fits rfl rfl fun cdv A outer s H E hr =>
    (vss_one (vs_ret (ve_and (ve_chain op_le op_le (ve_prU pr_Rule_low (hr.mono (by decide)) (ve_name 0)) (ve_name 1) (ve_prU pr_Rule_high (hr.mono (by decide)) (ve_name 0))) (ve_and (ve_inA hr (ve_call v_rest_of (hr.mono (by decide)) (takes_of rfl rfl rfl rfl) (va_cons (ve_name 1) (va_cons (ve_prU pr_Rule_modulus (hr.mono (by decide)) (ve_name 0)) va_nil))) (ve_prU pr_Rule_rests (hr.mono (by decide)) (ve_name 0))) (ve_one (ve_inA hr (ve_name 2) (ve_prU pr_Rule_kinds (hr.mono (by decide)) (ve_name 0))))))))
theorem ok_check_row {f : Addr} {fd : FuncData} (F : Fun K "check_row" "check_row" s_check_row f fd) (T : Txt P w K mg) (v_is_number : FnV P w K mg base 1 "is_number" false 3 m_is_number) (pr_Book_kinds : PrV P w K mg base 1 "Book" "kinds" m_Book_kinds) :
    FnOk P w K mg base (L2.CX P w) 3 f fd ["book", "row"] (spV K mg false 2 m_check_row) :=
  okV false F sc_check_row rfl rfl fun cdv A outer s H E hr =>
    (vss_one (vs_if (PW.pt (vw_or (vt_not (vt_val (ve_call v_is_number (hr.mono (by decide)) (takes_of rfl rfl rfl rfl) (va_cons (ve_ixA hr (ve_name 1) ve_int) (va_cons ve_int (va_cons (ve_gc T.c_LAST) va_nil)))))) (vw_or1 (vt_notinA hr (ve_ixA hr (ve_name 1) ve_int) (ve_prU pr_Book_kinds (hr.mono (by decide)) (ve_name 0))))))
      (vss_one vs_never)
      vss_nil))
theorem ok_check_books {f : Addr} {fd : FuncData} (F : Fun K "check_books" "check_books" s_check_books f fd) (T : Txt P w K mg) (pr_Book_kinds : PrV P w K mg base 1 "Book" "kinds" m_Book_kinds) :
    FnOk P w K mg base (L2.CX P w) 3 f fd ["one", "other"] (spV K mg false 2 m_check_books) :=
  okV false F sc_check_books rfl rfl fun cdv A outer s H E hr =>
    (vss_one (vs_if (vt_neV hr (ve_prU pr_Book_kinds (hr.mono (by decide)) (ve_name 0)) (ve_prU pr_Book_kinds (hr.mono (by decide)) (ve_name 1)))
      (vss_one vs_never)
      vss_nil))
theorem ok_is_row {f : Addr} {fd : FuncData} (F : Fun K "is_row" "is_row" s_is_row f fd) (T : Txt P w K mg) (v_is_number : FnV P w K mg base 1 "is_number" false 3 m_is_number) (pr_Book_kinds : PrV P w K mg base 1 "Book" "kinds" m_Book_kinds) :
    FnOk P w K mg base (L2.CX P w) 3 f fd ["book", "row"] (spV K mg false 2 m_is_row) :=
  okV false F sc_is_row rfl rfl fun cdv A outer s H E hr =>
    (vss_one (vs_ret (ve_and (ve_call v_is_number (hr.mono (by decide)) (takes_of rfl rfl rfl rfl) (va_cons (ve_ixA hr (ve_name 1) ve_int) (va_cons ve_int (va_cons (ve_gc T.c_LAST) va_nil)))) (ve_one (ve_inA hr (ve_ixA hr (ve_name 1) ve_int) (ve_prU pr_Book_kinds (hr.mono (by decide)) (ve_name 0)))))))
theorem ok_State_copied {f : Addr} {fd : FuncData} (F : Fun K "copied" "State.copied" s_State_copied f fd) (T : Txt P w K mg) (mk_State : MkV P w K mg base 1 "State" 5 m_State_init) :
    FnOk P w K mg base (L2.CX P w) 3 f fd ["self"] (spV K mg false 1 m_State_copied) :=
  okV false F sc_State_copied rfl rfl fun cdv A outer s H E hr =>
    (vss_one (vs_ret (ve_makeS mk_State (hr.mono (by decide)) (takes_of rfl rfl rfl rfl) (va_cons (ve_slU 0 T.s_State (ve_name 0)) (va_cons (ve_slU 2 T.s_State (ve_name 0)) (va_cons (ve_slU 1 T.s_State (ve_name 0)) (va_cons (ve_slU 3 T.s_State (ve_name 0)) va_nil)))))))
theorem ok_Table_init {f : Addr} {fd : FuncData} (F : Fun K "__init__" "Table.__init__" s_Table_init f fd) (T : Txt P w K mg) (mk_State : MkV P w K mg base 1 "State" 5 m_State_init) :
    FnOk P w K mg base (L2.CX P w) 3 f fd ["self", "book"] (spV K mg false 2 m_Table_init) :=
  okV false F sc_Table_init rfl rfl fun cdv A outer s H E hr =>
    (vss_one (vs_fld T.o_Table (ve_name 0) (ve_makeS mk_State (hr.mono (by decide)) (takes_of rfl rfl rfl rfl) (va_cons (ve_tup (va_cons (ve_name 1) (va_cons (ve_tup va_nil) (va_cons (ve_tup va_nil) va_nil)))) (va_cons ve_cellD (va_cons (ve_tup va_nil) (va_cons (ve_tup va_nil) va_nil)))))))
theorem ok_Book_eq {f : Addr} {fd : FuncData} (F : Fun K "__eq__" "Book.__eq__" s_Book_eq f fd) (T : Txt P w K mg) (er_Rule : EqR P w K mg base "Rule") (pr_Book_kinds : PrV P w K mg base 1 "Book" "kinds" m_Book_kinds) (pr_Book_rules : PrV P w K mg base 1 "Book" "rules" m_Book_rules) :
    FnOk P w K mg base (L2.CX P w) 4 f fd ["self", "other"] (spV K mg false 2 m_Book_eq) :=
  okV false F sc_Book_eq rfl rfl fun cdv A outer s H E hr =>
    (vss_one (vs_ret (ve_and (ve_isiO T.i_Book T.b_isinstance (ve_name 1)) (ve_one (ve_eqB er_Rule (hr.mono (by decide)) (ve_slU 0 T.s_Book (ve_name 0)) (ve_tup (va_cons (ve_prU pr_Book_kinds (hr.mono (by decide)) (ve_name 1)) (va_cons (ve_prU pr_Book_rules (hr.mono (by decide)) (ve_name 1)) va_nil))))))))
theorem ok_fitting {f : Addr} {fd : FuncData} (F : Fun K "fitting" "fitting" s_fitting f fd) (T : Txt P w K mg) (v_fits : FnV P w K mg base 3 "fits" false 3 m_fits) (pr_Book_rules : PrV P w K mg base 1 "Book" "rules" m_Book_rules) :
    FnOk P w K mg base (L2.CX P w) 4 f fd ["book", "number", "kind"] (spV K mg false 3 m_fitting) :=
  okV false F sc_fitting rfl rfl fun cdv A outer s H E hr =>
    (vss_one (vs_ret (VF.ve (vf_comp (gg := gTup K 2 (gCons (gName 3) (gCons (gName 4) (gNil)))) (own := [(("index" : Str), 3), (("rule" : Str), 4)]) rfl sc_fitting.nd (vi_enA T.b_enumerate (ve_prU pr_Book_rules (hr.mono (by decide)) (ve_name 0))) (blkOk_by (N := N_fitting) (sc := defScope s_fitting) (by decide +kernel)) (by decide) (fun _ _ _ _ _ => (vg_tup rfl (vgs_cons (vg_name (i := 3) sc_fitting.nd) (vgs_cons (vg_name (i := 4) sc_fitting.nd) vgs_nil)))) (fun _ _ _ _ _ => (vts_one (vt_val (ve_call v_fits (hr.mono (by decide)) takes0 (va_cons (ve_name 4) (va_cons (ve_name 1) (va_cons (ve_name 2) va_nil))))))) (fun _ _ _ _ _ => (ve_name 3))))))
theorem ok_check_rows {f : Addr} {fd : FuncData} (F : Fun K "check_rows" "check_rows" s_check_rows f fd) (T : Txt P w K mg) (v_is_row : FnV P w K mg base 3 "is_row" false 2 m_is_row) :
    FnOk P w K mg base (L2.CX P w) 4 f fd ["book", "rows"] (spV K mg false 2 m_check_rows) :=
  okV false F sc_check_rows rfl rfl fun cdv A outer s H E hr =>
    (vss_one (vs_for [2, 3] (passes_of rfl) rfl (vi_enA T.b_enumerate (ve_name 1)) (vg_tup rfl (vgs_cons (vg_name (i := 2) sc_check_rows.nd) (vgs_cons (vg_name (i := 3) sc_check_rows.nd) vgs_nil)))
      (vss_one (vs_if (PW.pt (vw_or (vt_eqV hr (ve_name 2) (ve_gc T.c_MAX_ROWS)) (vw_or (vt_not (vt_val (ve_call v_is_row (hr.mono (by decide)) (takes_of rfl rfl rfl rfl) (va_cons (ve_name 0) (va_cons (ve_name 3) va_nil))))) (vw_or1 (vt_inA hr (ve_name 3) (ve_slA (ve_name 1) vo_none (vo_some (ve_name 2))))))))
      (vss_one vs_never)
      vss_nil))))
theorem ok_Trial_enter {f : Addr} {fd : FuncData} (F : Fun K "__enter__" "Trial.__enter__" s_Trial_enter f fd) (T : Txt P w K mg) (mt_State_copied : MtS P w K mg base 3 "State" "copied" false 1 m_State_copied) :
    FnOk P w K mg base (L2.CX P w) 4 f fd ["self"] (spV K mg false 1 m_Trial_enter) :=
  okV false F sc_Trial_enter rfl rfl fun cdv A outer s H E hr =>
    (vss_cons (vs_fld T.o_Trial (ve_name 0) (ve_flU T.o_Table (ve_flU T.o_Trial (ve_name 0))))
      (vss_cons (vs_fld T.o_Trial (ve_name 0) (ve_methS0 mt_State_copied (hr.mono (by decide)) (takes_of rfl rfl rfl rfl) (ve_flU T.o_Trial (ve_name 0))))
      (vss_cons (vs_fld T.o_Trial (ve_name 0) (ve_methS0 mt_State_copied (hr.mono (by decide)) (takes_of rfl rfl rfl rfl) (ve_flU T.o_Trial (ve_name 0))))
      (vss_cons (vs_fld T.o_Table (ve_flU T.o_Trial (ve_name 0)) (ve_flU T.o_Trial (ve_name 0)))
      (vss_one (vs_ret (ve_name 0)))))))
theorem ok_place_of {f : Addr} {fd : FuncData} (F : Fun K "place_of" "place_of" s_place_of f fd) (T : Txt P w K mg) (v_fitting : FnV P w K mg base 4 "fitting" false 3 m_fitting) (pr_Book_rules : PrV P w K mg base 1 "Book" "rules" m_Book_rules) (pr_Rule_piece : PrV P w K mg base 1 "Rule" "piece" m_Rule_piece) :
    FnOk P w K mg base (L2.CX P w) 5 f fd ["book", "number", "kind"] (spV K mg false 3 m_place_of) :=
  okV false F sc_place_of rfl rfl fun cdv A outer s H E hr =>
    (vss_cons (vs_set (i := 3) sc_place_of.nd (ve_call v_fitting (hr.mono (by decide)) (takes_of rfl rfl rfl rfl) (va_cons (ve_name 0) (va_cons (ve_name 1) (va_cons (ve_name 2) va_nil)))))
      (vss_one (vs_ret (ve_if (vt_neV hr (ve_name 3) (VF.ve (vf_lst va_nil))) (ve_prU pr_Rule_piece (hr.mono (by decide)) (ve_ixA hr (ve_prU pr_Book_rules (hr.mono (by decide)) (ve_name 0)) (ve_ixA hr (ve_name 3) ve_int))) ve_non))))
theorem ok_law_book {f : Addr} {fd : FuncData} (F : Fun K "_law_book" "_law_book" s_law_book f fd) (T : Txt P w K mg) (v_law_taken : FnV P w K mg base 1 "_law_taken" false 2 m_law_taken) (mk_Book : MkV P w K mg base 3 "Book" 3 m_Book_init) (mk_Rule : MkV P w K mg base 3 "Rule" 7 m_Rule_init) :
    FnOk P w K mg base (L2.CX P w) 5 f fd ["_law_row", "_law_wide", "_law_kinds_here"] (spV K mg false 3 m_law_book) :=
  okV false F sc_law_book rfl rfl fun cdv A outer s H E hr =>
    (vss_cons (vs_setF (i := 3) sc_law_book.nd (vf_lst va_nil))
      (vss_cons (vs_for [4, 5, 6, 7, 8, 10, 12] (passes_of rfl) rfl (vi_r1 T.b_range (ve_call v_law_taken (hr.mono (by decide)) (takes_of rfl rfl rfl rfl) (va_cons (ve_name 0) (va_cons ve_int va_nil)))) (vg_name (i := 4) sc_law_book.nd)
      (vss_cons (vs_set (i := 5) sc_law_book.nd (ve_call v_law_taken (hr.mono (by decide)) (takes_of rfl rfl rfl rfl) (va_cons (ve_name 0) (va_cons (ve_name 1) va_nil))))
      (vss_cons (vs_set (i := 6) sc_law_book.nd (ve_ixA hr (VF.ve (vf_lst (va_cons (ve_addA (ve_name 5) (ve_call v_law_taken (hr.mono (by decide)) (takes_of rfl rfl rfl rfl) (va_cons (ve_name 0) (va_cons (ve_name 1) va_nil)))) (va_cons (ve_sub (ve_pow ve_int ve_int) ve_int) va_nil)))) (ve_intc T.b_int (ve_eqV hr (ve_call v_law_taken (hr.mono (by decide)) (takes_of rfl rfl rfl rfl) (va_cons (ve_name 0) (va_cons ve_int va_nil))) ve_int))))
      (vss_cons (vs_set (i := 7) sc_law_book.nd (ve_ixA hr (VF.ve (vf_lst (va_cons ve_int (va_cons ve_int (va_cons ve_int (va_cons ve_int (va_cons ve_int (va_cons ve_int (va_cons ve_int va_nil))))))))) (ve_call v_law_taken (hr.mono (by decide)) (takes_of rfl rfl rfl rfl) (va_cons (ve_name 0) (va_cons ve_int va_nil)))))
      (vss_cons (vs_set (i := 8) sc_law_book.nd (ve_tuple1 T.b_tuple (VF.ve (vf_comp (own := [(("_law_rest" : Str), 9)]) rfl sc_law_book.nd (vi_r1 T.b_range (ve_name 7)) (blkOk_by (N := N_law_book) (sc := defScope s_law_book) (by decide +kernel)) (by decide) (fun _ _ _ _ _ => (vg_name (i := 9) sc_law_book.nd)) (fun _ _ _ _ _ => (vts_one (vt_eqV hr (ve_call v_law_taken (hr.mono (by decide)) takes0 (va_cons (ve_name 0) (va_cons ve_int va_nil))) ve_int))) (fun _ _ _ _ _ => (ve_name 9))))))
      (vss_cons (vs_set (i := 10) sc_law_book.nd (ve_tuple1 T.b_tuple (VF.ve (vf_comp (own := [(("_law_kind" : Str), 11)]) rfl sc_law_book.nd (vi_q (ve_name 2)) (blkOk_by (N := N_law_book) (sc := defScope s_law_book) (by decide +kernel)) (by decide) (fun _ _ _ _ _ => (vg_name (i := 11) sc_law_book.nd)) (fun _ _ _ _ _ => (vts_one (vt_oGt (ve_call v_law_taken (hr.mono (by decide)) takes0 (va_cons (ve_name 0) (va_cons ve_int va_nil))) ve_int))) (fun _ _ _ _ _ => (ve_name 11))))))
      (vss_cons (vs_set (i := 8) sc_law_book.nd (ve_if (vt_neV hr (ve_name 8) (ve_tup va_nil)) (ve_name 8) (ve_tup (va_cons (ve_call v_law_taken (hr.mono (by decide)) (takes_of rfl rfl rfl rfl) (va_cons (ve_name 0) (va_cons (ve_name 7) va_nil))) va_nil))))
      (vss_cons (vs_set (i := 12) sc_law_book.nd (ve_ixA hr (VF.ve (vf_lst (va_cons ve_str (va_cons ve_str (va_cons ve_str va_nil))))) (ve_call v_law_taken (hr.mono (by decide)) (takes_of rfl rfl rfl rfl) (va_cons (ve_name 0) (va_cons ve_int va_nil)))))
      (vss_one (vs_append (i := 3) (ve_makeZ mk_Rule (hr.mono (by decide)) (takes_of rfl rfl rfl rfl) (va_cons (ve_name 12) (va_cons (ve_name 5) (va_cons (ve_name 6) (va_cons (ve_name 7) (va_cons (ve_name 8) (va_cons (ve_if (vt_neV hr (ve_name 10) (ve_tup va_nil)) (ve_name 10) (ve_name 2)) va_nil)))))))))))))))))
      (vss_one (vs_ret (ve_makeZ mk_Book (hr.mono (by decide)) (takes_of rfl rfl rfl rfl) (va_cons (ve_name 2) (va_cons (ve_tuple1 T.b_tuple (ve_name 3)) va_nil)))))))
theorem ok_piece_of {f : Addr} {fd : FuncData} (F : Fun K "piece_of" "piece_of" s_piece_of f fd) (T : Txt P w K mg) (v_check_row : FnV P w K mg base 3 "check_row" false 2 m_check_row) (v_place_of : FnV P w K mg base 5 "place_of" false 3 m_place_of) :
    FnOk P w K mg base (L2.CX P w) 6 f fd ["book", "row"] (spV K mg false 2 m_piece_of) :=
  okV false F sc_piece_of rfl rfl fun cdv A outer s H E hr =>
    (vss_cons (vs_expr (ve_call v_check_row (hr.mono (by decide)) (takes_of rfl rfl rfl rfl) (va_cons (ve_name 0) (va_cons (ve_name 1) va_nil))))
      (vss_one (vs_ret (ve_call v_place_of (hr.mono (by decide)) (takes_of rfl rfl rfl rfl) (va_cons (ve_name 0) (va_cons (ve_ixA hr (ve_name 1) ve_int) (va_cons (ve_ixA hr (ve_name 1) ve_int) va_nil)))))))
theorem ok_by_pieces {f : Addr} {fd : FuncData} (F : Fun K "by_pieces" "by_pieces" s_by_pieces f fd) (T : Txt P w K mg) (v_named : FnV P w K mg base 1 "named" false 1 m_named) (v_place_of : FnV P w K mg base 5 "place_of" false 3 m_place_of) :
    FnOk P w K mg base (L2.CX P w) 6 f fd ["book", "rows"] (spV K mg false 2 m_by_pieces) :=
  okV false F sc_by_pieces rfl rfl fun cdv A outer s H E hr =>
    (vss_cons (vs_set (i := 2) sc_by_pieces.nd ve_cellD)
      (vss_cons (vs_for [3, 4] (passes_of rfl) rfl (vi_q (VF.ve (vf_sorted T.b_sorted (ve_name 1)))) (vg_tup rfl (vgs_cons (vg_name (i := 3) sc_by_pieces.nd) (vgs_cons (vg_name (i := 4) sc_by_pieces.nd) vgs_nil)))
      (vss_one (vs_appC (ve_setd (ve_name 2) (ve_call v_named (hr.mono (by decide)) (takes_of rfl rfl rfl rfl) (va_cons (ve_call v_place_of (hr.mono (by decide)) (takes_of rfl rfl rfl rfl) (va_cons (ve_name 0) (va_cons (ve_name 3) (va_cons (ve_name 4) va_nil)))) va_nil)) (ve_cellL va_nil)) (ve_tup (va_cons (ve_name 3) (va_cons (ve_name 4) va_nil))))))
      (vss_one (vs_ret (ve_name 2)))))
theorem ok_moves_of {f : Addr} {fd : FuncData} (F : Fun K "moves_of" "moves_of" s_moves_of f fd) (T : Txt P w K mg) (v_check_books : FnV P w K mg base 3 "check_books" false 2 m_check_books) (v_check_rows : FnV P w K mg base 4 "check_rows" false 2 m_check_rows) (v_named : FnV P w K mg base 1 "named" false 1 m_named) (v_place_of : FnV P w K mg base 5 "place_of" false 3 m_place_of) :
    FnOk P w K mg base (L2.CX P w) 6 f fd ["one", "other", "rows"] (spV K mg false 3 m_moves_of) :=
  okV false F sc_moves_of rfl rfl fun cdv A outer s H E hr =>
    (vss_cons (vs_expr (ve_call v_check_books (hr.mono (by decide)) (takes_of rfl rfl rfl rfl) (va_cons (ve_name 0) (va_cons (ve_name 1) va_nil))))
      (vss_cons (vs_expr (ve_call v_check_rows (hr.mono (by decide)) (takes_of rfl rfl rfl rfl) (va_cons (ve_name 0) (va_cons (ve_name 2) va_nil))))
      (vss_cons (vs_setF (i := 3) sc_moves_of.nd (vf_lst va_nil))
      (vss_cons (vs_for [4, 5, 6] (passes_of rfl) rfl (vi_q (VF.ve (vf_sorted T.b_sorted (ve_name 2)))) (vg_tup rfl (vgs_cons (vg_name (i := 4) sc_moves_of.nd) (vgs_cons (vg_name (i := 5) sc_moves_of.nd) vgs_nil)))
      (vss_cons (vs_set (i := 6) sc_moves_of.nd (ve_tup (va_cons (ve_call v_named (hr.mono (by decide)) (takes_of rfl rfl rfl rfl) (va_cons (ve_call v_place_of (hr.mono (by decide)) (takes_of rfl rfl rfl rfl) (va_cons (ve_name 0) (va_cons (ve_name 4) (va_cons (ve_name 5) va_nil)))) va_nil)) (va_cons (ve_call v_named (hr.mono (by decide)) (takes_of rfl rfl rfl rfl) (va_cons (ve_call v_place_of (hr.mono (by decide)) (takes_of rfl rfl rfl rfl) (va_cons (ve_name 1) (va_cons (ve_name 4) (va_cons (ve_name 5) va_nil)))) va_nil)) va_nil))))
      (vss_one (vs_if (vt_neV hr (ve_ixA hr (ve_name 6) ve_int) (ve_ixA hr (ve_name 6) ve_int))
      (vss_one (vs_append (i := 3) (ve_tup (va_cons (ve_tup (va_cons (ve_name 4) (va_cons (ve_name 5) va_nil))) (va_star (ve_name 6) va_nil)))))
      vss_nil))))
      (vss_one (vs_ret (ve_name 3)))))))
theorem ok_law_are_undone {f : Addr} {fd : FuncData} (F : Fun K "_law_are_undone" "_law_are_undone" s_law_are_undone f fd) (T : Txt P w K mg) (eq_Book : EqV P w K mg base 4 "Book" m_Book_eq) (mt_Table_redo : MtV P w K mg base 2 "Table" "redo" false 1 m_Table_redo) (mt_Table_undo : MtV P w K mg base 2 "Table" "undo" false 1 m_Table_undo) (pr_Table_book_now : PrI P w K mg base 1 "Table" "book_now" m_Table_book_now) (pr_Table_history : PrI P w K mg base 1 "Table" "history" m_Table_history) (pr_Table_kept_under : PrI P w K mg base 1 "Table" "kept_under" m_Table_kept_under) (pr_Table_rows_now : PrI P w K mg base 1 "Table" "rows_now" m_Table_rows_now) :
    FnOk P w K mg base (L2.CX P w) 6 f fd ["_law_table", "_law_rows_here", "_law_book_here"] (spV K mg false 3 m_law_are_undone) :=
  okV false F sc_law_are_undone rfl rfl fun cdv A outer s H E hr =>
    (vss_cons (vs_set (i := 3) sc_law_are_undone.nd (ve_len1 T.b_len (ve_prI pr_Table_history (hr.mono (by decide)) (ve_name 0))))
      (vss_cons (vs_for [4] (passes_of rfl) rfl (vi_r1 T.b_range (ve_name 3)) (vg_name (i := 4) sc_law_are_undone.nd)
      (vss_one (vs_if (vt_not (vt_val (ve_meth0 mt_Table_undo (hr.mono (by decide)) (takes_of rfl rfl rfl rfl) (ve_name 0))))
      (vss_one (vs_ret ve_bl))
      vss_nil)))
      (vss_cons (vs_if (PW.pt (vw_or (vt_val (ve_meth0 mt_Table_undo (hr.mono (by decide)) (takes_of rfl rfl rfl rfl) (ve_name 0))) (vw_or (vt_neV hr (ve_prI pr_Table_rows_now (hr.mono (by decide)) (ve_name 0)) (VF.ve (vf_lst va_nil))) (vw_or (vt_neV hr (ve_prI pr_Table_kept_under (hr.mono (by decide)) (ve_name 0)) (VF.ve (vf_lst va_nil))) (vw_or1 (vt_neO eq_Book (hr.mono (by decide)) (ve_prI pr_Table_book_now (hr.mono (by decide)) (ve_name 0)) (ve_name 2)))))))
      (vss_one (vs_ret ve_bl))
      vss_nil)
      (vss_cons (vs_while 64 [] (passes_of rfl) (vt_val (ve_meth0 mt_Table_redo (hr.mono (by decide)) (takes_of rfl rfl rfl rfl) (ve_name 0)))
      (vss_one (vs_set (i := 3) sc_law_are_undone.nd (ve_sub (ve_name 3) ve_int))))
      (vss_cons (vs_if (PW.pt (vw_or (vt_neV hr (ve_name 3) ve_int) (vw_or (vt_neV hr (ve_prI pr_Table_rows_now (hr.mono (by decide)) (ve_name 0)) (VF.ve (vf_sorted T.b_sorted (ve_name 1)))) (vw_or1 (vt_neV hr (ve_prI pr_Table_kept_under (hr.mono (by decide)) (ve_name 0)) (VF.ve (vf_lst (va_cons ve_str va_nil))))))))
      (vss_one (vs_ret ve_bl))
      vss_nil)
      (vss_one (vs_ret ve_bl)))))))
theorem ok_laid {f : Addr} {fd : FuncData} (F : Fun K "laid" "laid" s_laid f fd) (T : Txt P w K mg) (v_by_pieces : FnV P w K mg base 6 "by_pieces" false 2 m_by_pieces) (v_check_rows : FnV P w K mg base 4 "check_rows" false 2 m_check_rows) :
    FnOk P w K mg base (L2.CX P w) 7 f fd ["book", "rows"] (spV K mg false 2 m_laid) :=
  okV false F sc_laid rfl rfl fun cdv A outer s H E hr =>
    (vss_cons (vs_expr (ve_call v_check_rows (hr.mono (by decide)) (takes_of rfl rfl rfl rfl) (va_cons (ve_name 0) (va_cons (ve_name 1) va_nil))))
      (vss_cons (vs_set (i := 2) sc_laid.nd (ve_call v_by_pieces (hr.mono (by decide)) (takes_of rfl rfl rfl rfl) (va_cons (ve_name 0) (va_cons (ve_name 1) va_nil))))
      (vss_one (vs_ret (VF.ve (vf_comp (own := [(("piece" : Str), 3)]) rfl sc_laid.nd (vi_q (ve_sortK rfl T.b_sorted (ve_name 2))) (blkOk_by (N := N_laid) (sc := defScope s_laid) (by decide +kernel)) (by decide) (fun _ _ _ _ _ => (vg_name (i := 3) sc_laid.nd)) (fun _ _ _ _ _ => vts_nil) (fun _ _ _ _ _ => (ve_tup (va_cons (ve_name 3) (va_cons (ve_tuple1 T.b_tuple (ve_ixA hr (ve_name 2) (ve_name 3))) va_nil))))))))))
theorem ok_facts_of {f : Addr} {fd : FuncData} (F : Fun K "facts_of" "facts_of" s_facts_of f fd) (T : Txt P w K mg) (v_by_pieces : FnV P w K mg base 6 "by_pieces" false 2 m_by_pieces) :
    FnOk P w K mg base (L2.CX P w) 7 f fd ["book", "rows"] (spV K mg false 2 m_facts_of) :=
  okV false F sc_facts_of rfl rfl fun cdv A outer s H E hr =>
    (vss_cons (vs_set (i := 2) sc_facts_of.nd (ve_call v_by_pieces (hr.mono (by decide)) (takes_of rfl rfl rfl rfl) (va_cons (ve_name 0) (va_cons (ve_name 1) va_nil))))
      (vss_one (vs_ret (ve_tup (va_cons (ve_name 0) (va_cons (ve_name 1) (va_cons (ve_tuple1 T.b_tuple (VF.ve (vf_comp (own := [(("piece" : Str), 3)]) rfl sc_facts_of.nd (vi_q (ve_sortK rfl T.b_sorted (ve_name 2))) (blkOk_by (N := N_facts_of) (sc := defScope s_facts_of) (by decide +kernel)) (by decide) (fun _ _ _ _ _ => (vg_name (i := 3) sc_facts_of.nd)) (fun _ _ _ _ _ => vts_nil) (fun _ _ _ _ _ => (ve_tup (va_cons (ve_name 3) (va_cons (ve_len1 T.b_len (ve_ixA hr (ve_name 2) (ve_name 3))) va_nil))))))) va_nil)))))))
theorem ok_Table_put {f : Addr} {fd : FuncData} (F : Fun K "put" "Table.put" s_Table_put f fd) (T : Txt P w K mg) (v_check_row : FnV P w K mg base 3 "check_row" false 2 m_check_row) (v_facts_of : FnV P w K mg base 7 "facts_of" false 2 m_facts_of) (mt_State_go_on : MtS P w K mg base 1 "State" "go_on" false 4 m_State_go_on) (v_place_of : FnV P w K mg base 5 "place_of" false 3 m_place_of) :
    FnOk P w K mg base (L2.CX P w) 8 f fd ["self", "row"] (spV K mg false 2 m_Table_put) :=
  okV false F sc_Table_put rfl rfl fun cdv A outer s H E hr =>
    (vss_cons (vs_asg (ve_slU 0 T.s_State (ve_flU T.o_Table (ve_name 0))) (vg_tup rfl (vgs_cons (vg_name (i := 2) sc_Table_put.nd) (vgs_cons (vg_name (i := 3) sc_Table_put.nd) (vgs_cons (vg_name (i := 4) sc_Table_put.nd) vgs_nil)))))
      (vss_cons (vs_expr (ve_call v_check_row (hr.mono (by decide)) (takes_of rfl rfl rfl rfl) (va_cons (ve_name 2) (va_cons (ve_name 1) va_nil))))
      (vss_cons (vs_if (vt_inA hr (ve_name 1) (ve_name 3))
      (vss_one vs_never)
      vss_nil)
      (vss_cons (vs_if (vt_eqV hr (ve_len1 T.b_len (ve_name 3)) (ve_gc T.c_MAX_ROWS))
      (vss_one vs_never)
      vss_nil)
      (vss_cons (vs_expr (ve_methS mt_State_go_on (hr.mono (by decide)) (takes_of rfl rfl rfl rfl) (ve_flU T.o_Table (ve_name 0)) (va_cons (ve_tup (va_cons ve_str (va_cons (ve_name 1) va_nil))) (va_cons (ve_call v_facts_of (hr.mono (by decide)) (takes_of rfl rfl rfl rfl) (va_cons (ve_name 2) (va_cons (ve_tuple1 T.b_tuple (VF.ve (vf_sorted T.b_sorted (VF.ve (vf_lst (va_star (ve_name 3) (va_cons (ve_name 1) va_nil))))))) va_nil))) (va_cons (ve_slU 2 T.s_State (ve_flU T.o_Table (ve_name 0))) va_nil)))))
      (vss_one (vs_ret (ve_call v_place_of (hr.mono (by decide)) (takes_of rfl rfl rfl rfl) (va_cons (ve_name 2) (va_cons (ve_ixA hr (ve_name 1) ve_int) (va_cons (ve_ixA hr (ve_name 1) ve_int) va_nil)))))))))))
theorem ok_Table_drop {f : Addr} {fd : FuncData} (F : Fun K "drop" "Table.drop" s_Table_drop f fd) (T : Txt P w K mg) (v_check_row : FnV P w K mg base 3 "check_row" false 2 m_check_row) (v_facts_of : FnV P w K mg base 7 "facts_of" false 2 m_facts_of) (mt_State_go_on : MtS P w K mg base 1 "State" "go_on" false 4 m_State_go_on) (v_place_of : FnV P w K mg base 5 "place_of" false 3 m_place_of) :
    FnOk P w K mg base (L2.CX P w) 8 f fd ["self", "row"] (spV K mg false 2 m_Table_drop) :=
  okV false F sc_Table_drop rfl rfl fun cdv A outer s H E hr =>
    (vss_cons (vs_asg (ve_slU 0 T.s_State (ve_flU T.o_Table (ve_name 0))) (vg_tup rfl (vgs_cons (vg_name (i := 2) sc_Table_drop.nd) (vgs_cons (vg_name (i := 3) sc_Table_drop.nd) (vgs_cons (vg_name (i := 4) sc_Table_drop.nd) vgs_nil)))))
      (vss_cons (vs_expr (ve_call v_check_row (hr.mono (by decide)) (takes_of rfl rfl rfl rfl) (va_cons (ve_name 2) (va_cons (ve_name 1) va_nil))))
      (vss_cons (vs_if (vt_notinA hr (ve_name 1) (ve_name 3))
      (vss_one vs_never)
      vss_nil)
      (vss_cons (vs_set (i := 5) sc_Table_drop.nd (ve_tuple1 T.b_tuple (VF.ve (vf_comp (own := [(("other" : Str), 6)]) rfl sc_Table_drop.nd (vi_q (ve_name 3)) (blkOk_by (N := N_Table_drop) (sc := defScope s_Table_drop) (by decide +kernel)) (by decide) (fun _ _ _ _ _ => (vg_name (i := 6) sc_Table_drop.nd)) (fun _ _ _ _ _ => (vts_one (vt_neV hr (ve_name 6) (ve_name 1)))) (fun _ _ _ _ _ => (ve_name 6))))))
      (vss_cons (vs_expr (ve_methS mt_State_go_on (hr.mono (by decide)) (takes_of rfl rfl rfl rfl) (ve_flU T.o_Table (ve_name 0)) (va_cons (ve_tup (va_cons ve_str (va_cons (ve_name 1) va_nil))) (va_cons (ve_call v_facts_of (hr.mono (by decide)) (takes_of rfl rfl rfl rfl) (va_cons (ve_name 2) (va_cons (ve_name 5) va_nil))) (va_cons (ve_slU 2 T.s_State (ve_flU T.o_Table (ve_name 0))) va_nil)))))
      (vss_one (vs_ret (ve_call v_place_of (hr.mono (by decide)) (takes_of rfl rfl rfl rfl) (va_cons (ve_name 2) (va_cons (ve_ixA hr (ve_name 1) ve_int) (va_cons (ve_ixA hr (ve_name 1) ve_int) va_nil)))))))))))
theorem ok_Table_rebook {f : Addr} {fd : FuncData} (F : Fun K "rebook" "Table.rebook" s_Table_rebook f fd) (T : Txt P w K mg) (v_check_books : FnV P w K mg base 3 "check_books" false 2 m_check_books) (v_facts_of : FnV P w K mg base 7 "facts_of" false 2 m_facts_of) (v_moves_of : FnV P w K mg base 6 "moves_of" false 3 m_moves_of) (mt_State_go_on : MtS P w K mg base 1 "State" "go_on" false 4 m_State_go_on) :
    FnOk P w K mg base (L2.CX P w) 8 f fd ["self", "book"] (spV K mg false 2 m_Table_rebook) :=
  okV false F sc_Table_rebook rfl rfl fun cdv A outer s H E hr =>
    (vss_cons (vs_asg (ve_slU 0 T.s_State (ve_flU T.o_Table (ve_name 0))) (vg_tup rfl (vgs_cons (vg_name (i := 2) sc_Table_rebook.nd) (vgs_cons (vg_name (i := 3) sc_Table_rebook.nd) (vgs_cons (vg_name (i := 4) sc_Table_rebook.nd) vgs_nil)))))
      (vss_cons (vs_expr (ve_call v_check_books (hr.mono (by decide)) (takes_of rfl rfl rfl rfl) (va_cons (ve_name 2) (va_cons (ve_name 1) va_nil))))
      (vss_cons (vs_expr (ve_methS mt_State_go_on (hr.mono (by decide)) (takes_of rfl rfl rfl rfl) (ve_flU T.o_Table (ve_name 0)) (va_cons (ve_tup (va_cons ve_str (va_cons (ve_name 1) va_nil))) (va_cons (ve_call v_facts_of (hr.mono (by decide)) (takes_of rfl rfl rfl rfl) (va_cons (ve_name 1) (va_cons (ve_name 3) va_nil))) (va_cons (ve_slU 2 T.s_State (ve_flU T.o_Table (ve_name 0))) va_nil)))))
      (vss_one (vs_ret (ve_len1 T.b_len (ve_call v_moves_of (hr.mono (by decide)) (takes_of rfl rfl rfl rfl) (va_cons (ve_name 2) (va_cons (ve_name 1) (va_cons (ve_name 3) va_nil))))))))))
theorem ok_Table_execute {f : Addr} {fd : FuncData} (F : Fun K "execute" "Table.execute" s_Table_execute f fd) (T : Txt P w K mg) (mt_Table_drop : MtV P w K mg base 8 "Table" "drop" false 2 m_Table_drop) (mt_Table_fetch : MtV P w K mg base 2 "Table" "fetch" false 2 m_Table_fetch) (mt_Table_keep_as : MtV P w K mg base 2 "Table" "keep_as" false 2 m_Table_keep_as) (mt_Table_put : MtV P w K mg base 8 "Table" "put" false 2 m_Table_put) (mt_Table_rebook : MtV P w K mg base 8 "Table" "rebook" false 2 m_Table_rebook) (mt_Table_redo : MtV P w K mg base 2 "Table" "redo" false 1 m_Table_redo) (mt_Table_undo : MtV P w K mg base 2 "Table" "undo" false 1 m_Table_undo) :
    FnOk P w K mg base (L2.CX P w) 9 f fd ["self", "operation"] (spV K mg false 2 m_Table_execute) :=
  okV false F sc_Table_execute rfl rfl fun cdv A outer s H E hr =>
    (vss_cons (vs_par (i := 2) (j := 3) rfl sc_Table_execute.nd (va_cons (ve_ixA hr (ve_name 1) ve_int) (va_cons (ve_slA (ve_name 1) (vo_some ve_int) vo_none) va_nil)))
      (vss_cons (vs_if (vt_eqV hr (ve_name 2) ve_str)
      (vss_one (vs_ret (ve_meth mt_Table_put (hr.mono (by decide)) (takes_of rfl rfl rfl rfl) (ve_name 0) (va_cons (ve_ixA hr (ve_name 3) ve_int) va_nil))))
      vss_nil)
      (vss_cons (vs_if (vt_eqV hr (ve_name 2) ve_str)
      (vss_one (vs_ret (ve_meth mt_Table_drop (hr.mono (by decide)) (takes_of rfl rfl rfl rfl) (ve_name 0) (va_cons (ve_ixA hr (ve_name 3) ve_int) va_nil))))
      vss_nil)
      (vss_cons (vs_if (vt_eqV hr (ve_name 2) ve_str)
      (vss_one (vs_ret (ve_meth mt_Table_rebook (hr.mono (by decide)) (takes_of rfl rfl rfl rfl) (ve_name 0) (va_cons (ve_ixA hr (ve_name 3) ve_int) va_nil))))
      vss_nil)
      (vss_cons (vs_if (vt_eqV hr (ve_name 2) ve_str)
      (vss_one (vs_ret (ve_meth mt_Table_keep_as (hr.mono (by decide)) (takes_of rfl rfl rfl rfl) (ve_name 0) (va_cons (ve_ixA hr (ve_name 3) ve_int) va_nil))))
      vss_nil)
      (vss_cons (vs_if (vt_eqV hr (ve_name 2) ve_str)
      (vss_one (vs_ret (ve_meth mt_Table_fetch (hr.mono (by decide)) (takes_of rfl rfl rfl rfl) (ve_name 0) (va_cons (ve_ixA hr (ve_name 3) ve_int) va_nil))))
      vss_nil)
      (vss_one (vs_ret (ve_if (vt_eqV hr (ve_name 2) ve_str) (ve_meth0 mt_Table_undo (hr.mono (by decide)) (takes_of rfl rfl rfl rfl) (ve_name 0)) (ve_meth0 mt_Table_redo (hr.mono (by decide)) (takes_of rfl rfl rfl rfl) (ve_name 0)))))))))))
theorem ok_Table_apply_all {f : Addr} {fd : FuncData} (F : Fun K "apply_all" "Table.apply_all" s_Table_apply_all f fd) (T : Txt P w K mg) (v_is_operation : FnV P w K mg base 1 "is_operation" false 1 m_is_operation) (mk_Trial : MkV P w K mg base 1 "Trial" 2 m_Trial_init) (mt_Table_execute : MtV P w K mg base 9 "Table" "execute" false 2 m_Table_execute) (mt_Trial_hold : MtV P w K mg base 1 "Trial" "hold" false 1 m_Trial_hold) (wt_Trial : WthV P w K mg base 4 "Trial" m_Trial_enter m_Trial_exit) :
    FnOk P w K mg base (L2.CX P w) 10 f fd ["self", "operations"] (spV K mg false 2 m_Table_apply_all) :=
  okV false F sc_Table_apply_all rfl rfl fun cdv A outer s H E hr =>
    (vss_cons (vs_for [2, 3] (passes_of rfl) rfl (vi_enA T.b_enumerate (ve_name 1)) (vg_tup rfl (vgs_cons (vg_name (i := 2) sc_Table_apply_all.nd) (vgs_cons (vg_name (i := 3) sc_Table_apply_all.nd) vgs_nil)))
      (vss_one (vs_if (vt_not (vt_val (ve_call v_is_operation (hr.mono (by decide)) (takes_of rfl rfl rfl rfl) (va_cons (ve_name 3) va_nil))))
      (vss_one vs_never)
      vss_nil)))
      (vss_cons (vs_with 4 wt_Trial (hr.mono (by decide)) sc_Table_apply_all.nd rfl rfl rfl (takes_of rfl rfl rfl rfl) (ve_make mk_Trial (hr.mono (by decide)) (takes_of rfl rfl rfl rfl) (va_cons (ve_name 0) va_nil)) (fun _ _ _ tk1 po1 => (vss_cons (vs_setCompV (i := 5) (own := [(("operation" : Str), 3)]) rfl sc_Table_apply_all.nd (vi_q (ve_name 1)) (blkOk_by (N := N_Table_apply_all) (sc := defScope s_Table_apply_all) (by decide +kernel)) (by decide) (fun _ _ _ _ _ => (vg_name (i := 3) sc_Table_apply_all.nd)) (fun _ _ _ _ _ => vts_nil) (fun _ _ _ _ _ => (ve_meth mt_Table_execute (hr.mono (by decide)) takes0 (ve_name 0) (va_cons (ve_name 3) va_nil))))
      (vss_one (vs_expr (ve_meth0 mt_Trial_hold (hr.mono (by decide)) tk1 (ve_name 4)))))))
      (vss_one (vs_ret (ve_name 5)))))
theorem ok_Table_replay {f : Addr} {fd : FuncData} (F : Fun K "replay" "Table.replay" s_Table_replay f fd) (T : Txt P w K mg) (mk_Table : MkV P w K mg base 3 "Table" 2 m_Table_init) (mt_Table_apply_all : MtV P w K mg base 10 "Table" "apply_all" false 2 m_Table_apply_all) :
    FnOk P w K mg base (L2.CX P w) 11 f fd ["cls", "book", "operations"] (spV K mg false 3 m_Table_replay) :=
  okV false F sc_Table_replay rfl rfl fun cdv A outer s H E hr =>
    (vss_cons (vs_set (i := 3) sc_Table_replay.nd (ve_makeL 0 mk_Table (hr.mono (by decide)) (takes_of rfl rfl rfl rfl) (va_cons (ve_name 1) va_nil)))
      (vss_cons (vs_expr (ve_meth mt_Table_apply_all (hr.mono (by decide)) (takes_of rfl rfl rfl rfl) (ve_name 3) (va_cons (ve_name 2) va_nil)))
      (vss_one (vs_ret (ve_name 3)))))
theorem ok_law {f : Addr} {fd : FuncData} (F : Fun K "law" "law" s_law f fd) (T : Txt P w K mg) (cm_Table_replay : CmV P w K mg base 11 "Table" "replay" false 3 m_Table_replay) (eq_Book : EqV P w K mg base 4 "Book" m_Book_eq) (v_laid : FnV P w K mg base 7 "laid" false 2 m_laid) (v_law_are_undone : FnV P w K mg base 6 "_law_are_undone" false 3 m_law_are_undone) (v_law_book : FnV P w K mg base 5 "_law_book" false 3 m_law_book) (v_law_kinds : FnV P w K mg base 2 "_law_kinds" false 1 m_law_kinds) (v_law_rows : FnV P w K mg base 2 "_law_rows" false 4 m_law_rows) (v_law_taken : FnV P w K mg base 1 "_law_taken" false 2 m_law_taken) (mk_Table : MkV P w K mg base 3 "Table" 2 m_Table_init) (v_moves_of : FnV P w K mg base 6 "moves_of" false 3 m_moves_of) (mt_Table_drop : MtV P w K mg base 8 "Table" "drop" false 2 m_Table_drop) (mt_Table_fetch : MtV P w K mg base 2 "Table" "fetch" false 2 m_Table_fetch) (mt_Table_keep_as : MtV P w K mg base 2 "Table" "keep_as" false 2 m_Table_keep_as) (mt_Table_put : MtV P w K mg base 8 "Table" "put" false 2 m_Table_put) (mt_Table_rebook : MtV P w K mg base 8 "Table" "rebook" false 2 m_Table_rebook) (mt_Table_redo : MtV P w K mg base 2 "Table" "redo" false 1 m_Table_redo) (mt_Table_undo : MtV P w K mg base 2 "Table" "undo" false 1 m_Table_undo) (v_piece_of : FnV P w K mg base 6 "piece_of" false 2 m_piece_of) (pr_Table_book_now : PrI P w K mg base 1 "Table" "book_now" m_Table_book_now) (pr_Table_counts_now : PrI P w K mg base 1 "Table" "counts_now" m_Table_counts_now) (pr_Table_history : PrI P w K mg base 1 "Table" "history" m_Table_history) (pr_Table_rows_now : PrI P w K mg base 1 "Table" "rows_now" m_Table_rows_now) :
    FnOk P w K mg base (L2.CX P w) 12 f fd ["_law_script"] (spV K mg false 1 m_law) :=
  okV false F sc_law rfl rfl fun cdv A outer s H E hr =>
    (vss_cons (vs_cell (i := 1) sc_law.nd (va_cons (ve_name 0) (va_cons ve_int (va_cons ve_int (va_cons ve_int va_nil)))))
      (vss_cons (vs_for [2, 3, 4, 5, 6, 7, 8, 9, 10, 11, 12] (passes_of rfl) rfl (vi_r1 T.b_range ve_int) (vg_name (i := 2) sc_law.nd)
      (vss_cons (vs_par (i := 3) (j := 4) rfl sc_law.nd (va_cons (ve_call v_law_kinds (hr.mono (by decide)) (takes_of rfl rfl rfl rfl) (va_cons (ve_name 1) va_nil)) (va_cons (ve_ixA hr (VF.ve (vf_lst (va_cons ve_int (va_cons (ve_pow ve_int ve_int) va_nil)))) (ve_call v_law_taken (hr.mono (by decide)) (takes_of rfl rfl rfl rfl) (va_cons (ve_name 1) (va_cons ve_int va_nil)))) va_nil)))
      (vss_cons (vs_par (i := 5) (j := 6) rfl sc_law.nd (va_cons (ve_call v_law_book (hr.mono (by decide)) (takes_of rfl rfl rfl rfl) (va_cons (ve_name 1) (va_cons (ve_name 4) (va_cons (ve_name 3) va_nil)))) (va_cons (ve_call v_law_book (hr.mono (by decide)) (takes_of rfl rfl rfl rfl) (va_cons (ve_name 1) (va_cons (ve_name 4) (va_cons (ve_name 3) va_nil)))) va_nil)))
      (vss_cons (vs_par (i := 7) (j := 8) rfl sc_law.nd (va_cons (ve_call v_law_rows (hr.mono (by decide)) (takes_of rfl rfl rfl rfl) (va_cons (ve_name 1) (va_cons (ve_name 3) (va_cons (ve_name 4) (va_cons ve_int va_nil))))) (va_cons (ve_make mk_Table (hr.mono (by decide)) (takes_of rfl rfl rfl rfl) (va_cons (ve_name 5) va_nil)) va_nil)))
      (vss_cons (vs_for [9] (passes_of rfl) rfl (vi_r1 T.b_range (ve_len1 T.b_len (ve_name 7))) (vg_name (i := 9) sc_law.nd)
      (vss_cons (vs_if (PW.pt (vw_or (vt_neV hr (ve_meth mt_Table_put (hr.mono (by decide)) (takes_of rfl rfl rfl rfl) (ve_name 8) (va_cons (ve_ixA hr (ve_name 7) (ve_name 9)) va_nil)) (ve_call v_piece_of (hr.mono (by decide)) (takes_of rfl rfl rfl rfl) (va_cons (ve_name 5) (va_cons (ve_ixA hr (ve_name 7) (ve_name 9)) va_nil)))) (vw_or1 (vt_neV hr (ve_prI pr_Table_rows_now (hr.mono (by decide)) (ve_name 8)) (VF.ve (vf_sorted T.b_sorted (ve_slA (ve_name 7) vo_none (vo_some (ve_addA (ve_name 9) ve_int)))))))))
      (vss_one (vs_ret ve_bl))
      vss_nil)
      (vss_one (vs_if (vt_neV hr (ve_prI pr_Table_counts_now (hr.mono (by decide)) (ve_name 8)) (VF.ve (vf_comp (gg := gTup K 2 (gCons (gName 10) (gCons (gName 11) (gNil)))) (own := [(("_law_piece" : Str), 10), (("_law_some" : Str), 11)]) rfl sc_law.nd (vi_q (ve_call v_laid (hr.mono (by decide)) (takes_of rfl rfl rfl rfl) (va_cons (ve_name 5) (va_cons (ve_slA (ve_name 7) vo_none (vo_some (ve_addA (ve_name 9) ve_int))) va_nil)))) (blkOk_by (N := N_law) (sc := defScope s_law) (by decide +kernel)) (by decide) (fun _ _ _ _ _ => (vg_tup rfl (vgs_cons (vg_name (i := 10) sc_law.nd) (vgs_cons (vg_name (i := 11) sc_law.nd) vgs_nil)))) (fun _ _ _ _ _ => vts_nil) (fun _ _ _ _ _ => (ve_tup (va_cons (ve_name 10) (va_cons (ve_len1 T.b_len (ve_name 11)) va_nil)))))))
      (vss_one (vs_ret ve_bl))
      vss_nil))))
      (vss_cons (vs_set (i := 12) sc_law.nd (ve_len1 T.b_len (ve_call v_moves_of (hr.mono (by decide)) (takes_of rfl rfl rfl rfl) (va_cons (ve_name 5) (va_cons (ve_name 6) (va_cons (ve_name 7) va_nil))))))
      (vss_cons (vs_if (PW.pt (vw_or (vt_val (ve_meth mt_Table_keep_as (hr.mono (by decide)) (takes_of rfl rfl rfl rfl) (ve_name 8) (va_cons ve_str va_nil))) (vw_or (vt_neV hr (ve_meth mt_Table_rebook (hr.mono (by decide)) (takes_of rfl rfl rfl rfl) (ve_name 8) (va_cons (ve_name 6) va_nil)) (ve_name 12)) (vw_or1 (vt_neO eq_Book (hr.mono (by decide)) (ve_prI pr_Table_book_now (hr.mono (by decide)) (ve_name 8)) (ve_name 6))))))
      (vss_one (vs_ret ve_bl))
      vss_nil)
      (vss_cons (vs_if (vt_neV hr (ve_prI pr_Table_counts_now (hr.mono (by decide)) (ve_name 8)) (VF.ve (vf_comp (gg := gTup K 2 (gCons (gName 10) (gCons (gName 11) (gNil)))) (own := [(("_law_piece" : Str), 10), (("_law_some" : Str), 11)]) rfl sc_law.nd (vi_q (ve_call v_laid (hr.mono (by decide)) (takes_of rfl rfl rfl rfl) (va_cons (ve_name 6) (va_cons (ve_name 7) va_nil)))) (blkOk_by (N := N_law) (sc := defScope s_law) (by decide +kernel)) (by decide) (fun _ _ _ _ _ => (vg_tup rfl (vgs_cons (vg_name (i := 10) sc_law.nd) (vgs_cons (vg_name (i := 11) sc_law.nd) vgs_nil)))) (fun _ _ _ _ _ => vts_nil) (fun _ _ _ _ _ => (ve_tup (va_cons (ve_name 10) (va_cons (ve_len1 T.b_len (ve_name 11)) va_nil)))))))
      (vss_one (vs_ret ve_bl))
      vss_nil)
      (vss_cons (vs_if (PW.pt (vw_or (vt_neV hr (ve_meth mt_Table_rebook (hr.mono (by decide)) (takes_of rfl rfl rfl rfl) (ve_name 8) (va_cons (ve_name 5) va_nil)) (ve_name 12)) (vw_or (vt_neV hr (ve_meth mt_Table_rebook (hr.mono (by decide)) (takes_of rfl rfl rfl rfl) (ve_name 8) (va_cons (ve_name 5) va_nil)) ve_int) (vw_or1 (vt_neV hr (ve_prI pr_Table_rows_now (hr.mono (by decide)) (ve_name 8)) (VF.ve (vf_sorted T.b_sorted (ve_name 7))))))))
      (vss_one (vs_ret ve_bl))
      vss_nil)
      (vss_cons (vs_for [9] (passes_of rfl) rfl (vi_r3 T.b_range (ve_sub (ve_len1 T.b_len (ve_name 7)) ve_int) (ve_sub ve_int ve_int) (ve_sub ve_int ve_int)) (vg_name (i := 9) sc_law.nd)
      (vss_cons (vs_if (PW.pt (vw_or (vt_neV hr (ve_meth mt_Table_drop (hr.mono (by decide)) (takes_of rfl rfl rfl rfl) (ve_name 8) (va_cons (ve_ixA hr (ve_name 7) (ve_name 9)) va_nil)) (ve_call v_piece_of (hr.mono (by decide)) (takes_of rfl rfl rfl rfl) (va_cons (ve_name 5) (va_cons (ve_ixA hr (ve_name 7) (ve_name 9)) va_nil)))) (vw_or1 (vt_neV hr (ve_prI pr_Table_rows_now (hr.mono (by decide)) (ve_name 8)) (VF.ve (vf_sorted T.b_sorted (ve_slA (ve_name 7) vo_none (vo_some (ve_name 9)))))))))
      (vss_one (vs_ret ve_bl))
      vss_nil)
      (vss_one (vs_if (PW.pt (vw_or (vt_not (vt_val (ve_meth0 mt_Table_undo (hr.mono (by decide)) (takes_of rfl rfl rfl rfl) (ve_name 8)))) (vw_or (vt_neV hr (ve_prI pr_Table_rows_now (hr.mono (by decide)) (ve_name 8)) (VF.ve (vf_sorted T.b_sorted (ve_slA (ve_name 7) vo_none (vo_some (ve_addA (ve_name 9) ve_int)))))) (vw_or1 (vt_not (vt_val (ve_meth0 mt_Table_redo (hr.mono (by decide)) (takes_of rfl rfl rfl rfl) (ve_name 8))))))))
      (vss_one (vs_ret ve_bl))
      vss_nil))))
      (vss_cons (vs_if (PW.pt (vw_or (vt_neV hr (ve_prI pr_Table_counts_now (hr.mono (by decide)) (ve_name 8)) (VF.ve (vf_lst va_nil))) (vw_or (vt_neV hr (ve_meth mt_Table_fetch (hr.mono (by decide)) (takes_of rfl rfl rfl rfl) (ve_name 8) (va_cons ve_str va_nil)) (ve_len1 T.b_len (ve_name 7))) (vw_or1 (vt_neO eq_Book (hr.mono (by decide)) (ve_prI pr_Table_book_now (hr.mono (by decide)) (ve_name 8)) (ve_name 5))))))
      (vss_one (vs_ret ve_bl))
      vss_nil)
      (vss_cons (vs_if (PW.pt (vw_or (vt_neV hr (ve_prI pr_Table_rows_now (hr.mono (by decide)) (ve_cmeth cm_Table_replay (hr.mono (by decide)) (takes_of rfl rfl rfl rfl) (va_cons (ve_name 5) (va_cons (ve_prI pr_Table_history (hr.mono (by decide)) (ve_name 8)) va_nil)))) (VF.ve (vf_sorted T.b_sorted (ve_name 7)))) (vw_or1 (vt_not (vt_val (ve_meth mt_Table_keep_as (hr.mono (by decide)) (takes_of rfl rfl rfl rfl) (ve_name 8) (va_cons ve_str va_nil)))))))
      (vss_one (vs_ret ve_bl))
      vss_nil)
      (vss_one (vs_if (vt_not (vt_val (ve_call v_law_are_undone (hr.mono (by decide)) (takes_of rfl rfl rfl rfl) (va_cons (ve_name 8) (va_cons (ve_name 7) (va_cons (ve_name 5) va_nil))))))
      (vss_one (vs_ret ve_bl))
      vss_nil))))))))))))))
      (vss_one (vs_ret ve_bl))))
end
end
end VP
namespace VP
local instance inst_SP1 : VE.VEnv := VE.VEnv.dummy
open PySem PySem.Spec PyProof.Rows L2 VE
open SX (S S_len S_cat S_inj)
section
variable {r : Rul} {b : Bok} {st : Sto} {n : Int} {k : Str}
@[simp] theorem sp_piece : m_Rule_piece [r.d] st = .ok (.str r.piece) st := by
  simp [m_Rule_piece, b_Rule_piece, toF_def, env0, Rul.d]
@[simp] theorem sp_low : m_Rule_low [r.d] st = .ok (.int r.low) st := by
  simp [m_Rule_low, b_Rule_low, toF_def, env0, Rul.d]
@[simp] theorem sp_high : m_Rule_high [r.d] st = .ok (.int r.high) st := by
  simp [m_Rule_high, b_Rule_high, toF_def, env0, Rul.d]
@[simp] theorem sp_modulus : m_Rule_modulus [r.d] st = .ok (.int r.modulus) st := by
  simp [m_Rule_modulus, b_Rule_modulus, toF_def, env0, Rul.d]
@[simp] theorem sp_rests : m_Rule_rests [r.d] st = .ok (.tup (r.rests.map .int)) st := by
  simp [m_Rule_rests, b_Rule_rests, toF_def, env0, Rul.d]
@[simp] theorem sp_kinds : m_Rule_kinds [r.d] st = .ok (.tup (r.kinds.map .str)) st := by
  simp [m_Rule_kinds, b_Rule_kinds, toF_def, env0, Rul.d]
@[simp] theorem sp_bkinds : m_Book_kinds [b.d] st = .ok (.tup (b.kinds.map .str)) st := by
  simp [m_Book_kinds, b_Book_kinds, toF_def, env0, Bok.d]
@[simp] theorem sp_brules : m_Book_rules [b.d] st = .ok (.tup (b.rules.map Rul.d)) st := by
  simp [m_Book_rules, b_Book_rules, toF_def, env0, Bok.d]

@[simp] theorem pr_rul {mf : FM} {env : EnvD} : prU "Rule" mf r.d env st = kPr3 (mf [r.d] st) env st := by
  unfold Rul.d; simp
@[simp] theorem pr_bok {mf : FM} {env : EnvD} : prU "Book" mf b.d env st = kPr3 (mf [b.d] st) env st := by
  unfold Bok.d; simp
@[simp] theorem callR_of {mf : FM} {ds : List D} {env : EnvD} : callR mf ds env st = ofRF (mf ds st) env st := x_callR
theorem sp_rest_of {m : Int} (h : 0 < m) : m_rest_of [.int n, .int m] st = .ok (.int (n % m)) st := by
  simp [m_rest_of, b_rest_of, toF_def, env0, modI, h]
theorem sp_fits (hr : RulOk r) (hk : PyData.strOk k = true) : m_fits [r.d, .int n, .str k] st = .ok (.bl (fitsB n k r)) st := by
  have h2 := @sp_rest_of st n r.modulus hr.mpos
  have h5 := in_strs (neg := false) hk hr.kinds.ok
  unfold fitsB
  simp [m_fits, b_fits, toF_def, env0]
  by_cases c1 : r.low ≤ n
  · by_cases c2 : n ≤ r.high
    · by_cases c3 : n % r.modulus ∈ r.rests
      · simp [c1, c2, c3, h2, h5]
      · simp [c1, c2, c3, h2, h5]
    · simp [c1, c2]
  · simp [c1]
/-- the places of all rules that fit -/
def Bok.fit (b : Bok) (n : Int) (k : Str) : List Nat := (b.rules.zipIdx.filter fun p => fitsB n k p.1).map (·.2)
theorem sp_fitting (hb : BokOk b) (hk : PyData.strOk k = true) : m_fitting [b.d, .int n, .str k] st = .ok (.lst ((b.fit n k).map fun i => .int (i : Nat))) st := by
  have hl := hb.rlen
  simp [m_fitting, b_fitting, toF_def, env0, enu_map]
  rw [comp_map (p := fun q : Rul × Nat => fitsB n k q.1) (f := fun q => .int (q.2 : Nat)) (by simp; omega)]
  · simp [Bok.fit, Function.comp_def]
  · intro q hq
    have hr := hb.rules _ (List.fst_mem_of_mem_zipIdx hq)
    simp [sp_fits hr hk]

theorem fit_find {p : Rul → Bool} : ∀ (xs : List Rul) (j : Nat), match ((xs.zipIdx j).filter fun q => p q.1).map (·.2) with
    | [] => xs.find? p = none
    | i :: _ => ∃ r m, i = j + m ∧ xs[m]? = some r ∧ xs.find? p = some r
  | [], j => by simp
  | x :: xs, j => by
    have ih := fit_find (p := p) xs (j + 1)
    rw [List.zipIdx_cons]
    cases hp : p x with
    | true =>
      rw [List.filter_cons_of_pos (by simpa using hp), List.map_cons]
      exact ⟨x, 0, rfl, rfl, by rw [List.find?_cons, hp]⟩
    | false =>
      rw [List.filter_cons_of_neg (by simp [hp]), List.find?_cons, hp]
      generalize ((xs.zipIdx (j + 1)).filter fun q => p q.1).map (·.2) = l at ih
      cases l with
      | nil => exact ih
      | cons i t =>
        obtain ⟨r, m, h1, h2, h3⟩ := ih
        exact ⟨r, m + 1, by omega, by simpa using h2, h3⟩
theorem sp_place_of (hb : BokOk b) (hk : PyData.strOk k = true) : m_place_of [b.d, .int n, .str k] st = .ok (optS (b.place n k)) st := by
  have h1 := @sp_fitting b st n k hb hk
  have h2 := fit_find (p := fitsB n k) b.rules 0
  unfold Bok.fit at h1
  unfold Bok.place
  simp only [m_place_of, b_place_of, toF_def, env0]
  generalize ((b.rules.zipIdx 0).filter fun q => fitsB n k q.1).map (·.2) = l at h1 h2
  cases l with
  | nil => simp [h1, h2, optS]
  | cons i t =>
    obtain ⟨r, m, e1, e2, e3⟩ := h2
    rw [Nat.zero_add] at e1
    subst e1
    have h4 : atI (b.rules.map Rul.d) (i : Int) = some r.d := atI_nat (by rw [List.getElem?_map, e2]; rfl)
    simp [h1, e3, optS, h4]

theorem sp_named {p : Option Str} : m_named [optS p] st = .ok (.str (p.getD ("" : Str))) st := by
  cases p <;> simp [m_named, b_named, toF_def, env0, optS, isN, isNone]
theorem sp_is_number {i lo hi : Int} : m_is_number [.int i, .int lo, .int hi] st = .ok (.bl (decide (lo ≤ i) && decide (i ≤ hi))) st := by
  simp only [m_is_number, b_is_number, toF_def, env0]
  by_cases h : lo ≤ i
  · simp [h]
  · simp [h]
/-- a row of the book -/
structure RowOk (b : Bok) (n : Int) (k : Str) : Prop where
  n0 : 0 ≤ n
  n1 : n ≤ LASTn
  k : k ∈ b.kinds
theorem sp_is_row (hb : BokOk b) (h : RowOk b n k) : m_is_row [b.d, .tup [.int n, .str k]] st = .ok (.bl true) st := by
  have h5 := in_strs (neg := false) (hb.kinds.ok k h.k) hb.kinds.ok
  have h1 := h.n1
  unfold LASTn at h1
  have h6 : (b.kinds.any fun z => decide (z = k)) = true := by simpa using h.k
  simp [m_is_row, b_is_row, toF_def, env0, k_LAST, sp_is_number, h5, h.n0, h1, h6]
theorem sp_check_books {b' : Bok} (hb : BokOk b) (hb' : BokOk b') (h : b.kinds = b'.kinds) : m_check_books [b.d, b'.d] st = .ok .non st := by
  simp [m_check_books, b_check_books, toF_def, env0, hb.kinds.pl, hb'.kinds.pl, eqs_strs, h]

theorem let_in {c : Nat} (h : 97 ≤ c ∧ c < 123) : inText (S [c]) "abcdefghijklmnopqrstuvwxyz" = true := by
  have : ∀ k < 26, inText (S [97 + k]) "abcdefghijklmnopqrstuvwxyz" = true := by decide +kernel
  have := this (c - 97) (by omega)
  rwa [show 97 + (c - 97) = c from by omega] at this
theorem sp_is_word {w : Str} (h : WOk w) : m_is_word [.str w] st = .ok (.bl true) st := by
  obtain ⟨L, rfl, h1, h8, hc⟩ := h
  have h2 : (1 : Int) ≤ L.length := by omega
  have h3 : (L.length : Int) ≤ 8 := by omega
  have h4 : L.length ≤ 16777216 := by omega
  simp [m_is_word, b_is_word, toF_def, env0, lenD, k_MAX_WORD, h2, h3, h4, signs_S, S_len]
  rw [comp_all (f := fun _ => .bl true) (by omega)]
  · simp [allD, blsF_map]
  · intro c hcm
    simp [k_LETTERS_books, let_in (hc c hcm)]
theorem ascI_zip : ∀ {xs : List Int}, ascI xs = true → ((xs.zip xs.tail).map fun p => decide (p.1 < p.2)).all id = true
  | [], _ => rfl
  | [x], _ => rfl
  | x :: y :: xs, h => by
    simp only [ascI, List.head?_cons, Option.all_some, Bool.and_eq_true] at h
    have ih := ascI_zip (xs := y :: xs) (by simp only [ascI, Bool.and_eq_true]; exact ⟨h.2.1, h.2.2⟩)
    simp only [List.tail_cons, List.zip_cons_cons, List.map_cons, List.all_cons, id, h.1, Bool.true_and] at ih ⊢
    exact ih
theorem ascS_zip : ∀ {xs : List Str}, ascS xs = true → ((xs.zip xs.tail).map fun p => ltS p.1 p.2).all id = true
  | [], _ => rfl
  | [x], _ => rfl
  | x :: y :: xs, h => by
    simp only [ascS, List.head?_cons, Option.all_some, Bool.and_eq_true] at h
    have ih := ascS_zip (xs := y :: xs) (by simp only [ascS, Bool.and_eq_true]; exact ⟨h.2.1, h.2.2⟩)
    simp only [List.tail_cons, List.zip_cons_cons, List.map_cons, List.all_cons, id, h.1, Bool.true_and] at ih ⊢
    exact ih
theorem cut1 {xs : List D} : VE.cutD xs (some 1) none = xs.tail := by
  unfold VE.cutD
  have h2 : HT.sIx xs.length xs.length none = xs.length := rfl
  rw [h2]
  have h1 : HT.sIx xs.length 0 (some 1) = min 1 xs.length := by simp only [HT.sIx]; split <;> omega
  rw [h1, List.take_of_length_le (by simp)]
  cases xs with
  | nil => rfl
  | cons x xs => simp
theorem sp_ascendI {xs : List Int} (h : ascI xs = true) (hl : xs.length < 1000) : m_ascend [.tup (xs.map .int)] st = .ok (.bl true) st := by
  have hz := ascI_zip h
  simp [m_ascend, b_ascend, toF_def, env0, cut1, ← List.map_tail, zip_map]
  rw [comp_all (f := fun p => .bl (decide (p.1 < p.2))) (by simp; omega)]
  · simp [allD, blsF_map]
    simpa using hz
  · rintro ⟨a, b⟩ _
    simp
theorem sp_ascendS {xs : List Str} (h : ascS xs = true) (hl : xs.length < 1000) : m_ascend [.tup (xs.map .str)] st = .ok (.bl true) st := by
  have hz := ascS_zip h
  simp [m_ascend, b_ascend, toF_def, env0, cut1, ← List.map_tail, zip_map]
  rw [comp_all (f := fun p => .bl (ltS p.1 p.2)) (by simp; omega)]
  · simp [allD, blsF_map]
    simpa using hz
  · rintro ⟨a, b⟩ _
    simp

theorem sp_are_kinds {ks : List Str} (h : KOk ks) : m_are_kinds [.tup (ks.map .str)] st = .ok (.bl true) st := by
  have hl := h.len
  have hne : ks.map D.str ≠ [] := by simpa using h.ne
  have e0 : eqDs (ks.map D.str) [] = false := by
    cases hk : ks with
    | nil => exact absurd hk h.ne
    | cons => simp
  simp [m_are_kinds, b_are_kinds, toF_def, env0, h.pl, e0]
  rw [comp_all (f := fun _ => .bl true) (by omega)]
  · simp [allD, blsF_map, sp_ascendS h.asc hl]
  · intro k hk
    simp [sp_is_word (h.w k hk)]
theorem sp_are_rests {m : Int} {xs : List Int} (hne : xs ≠ []) (hin : ∀ x ∈ xs, 0 ≤ x ∧ x < m) (hasc : ascI xs = true) (hl : xs.length < 1000) : m_are_rests [.int m, .tup (xs.map .int)] st = .ok (.bl true) st := by
  have e0 : eqDs (xs.map D.int) [] = false := by
    cases hk : xs with
    | nil => exact absurd hk hne
    | cons => simp
  simp [m_are_rests, b_are_rests, toF_def, env0, e0]
  rw [comp_all (f := fun _ => .bl true) (by omega)]
  · simp [allD, blsF_map, sp_ascendI hasc hl]
  · intro k hk
    have := hin k hk
    have h2 : k ≤ m - 1 := by omega
    simp [sp_is_number, this.1, h2, subI]
theorem ascS_at : ∀ {xs : List Str} {i : Nat} {a b : Str}, ascS xs = true → xs[i]? = some a → xs[i + 1]? = some b → ltS a b = true
  | [], i, a, b, _, h1, _ => by simp at h1
  | [x], 0, a, b, _, _, h2 => by simp at h2
  | [x], i + 1, a, b, _, h1, _ => by simp at h1
  | x :: y :: xs, 0, a, b, h, h1, h2 => by
    simp only [ascS, List.head?_cons, Option.all_some, Bool.and_eq_true] at h
    simp at h1 h2; subst h1; subst h2; exact h.1
  | x :: y :: xs, i + 1, a, b, h, h1, h2 => by
    simp only [ascS, List.head?_cons, Option.all_some, Bool.and_eq_true] at h
    exact ascS_at (xs := y :: xs) (i := i) (by simp only [ascS, Bool.and_eq_true]; exact ⟨h.2.1, h.2.2⟩) (by simpa using h1) (by simpa using h2)
theorem zip_mem {α : Type} {xs : List α} {p : α × Nat} (h : p ∈ xs.zipIdx) : xs[p.2]? = some p.1 := by
  obtain ⟨a, i⟩ := p
  have := List.mem_zipIdx h
  simp at this
  obtain ⟨h1, h2⟩ := this
  rw [List.getElem?_eq_getElem h1, h2]
theorem sp_check_kinds {ks : List Str} (h : KOk ks) (h4 : ks.length ≤ 4) : m_check_kinds [.tup (ks.map .str)] st = .ok .non st := by
  have e0 : eqDs (ks.map D.str) [] = false := by
    cases hk : ks with
    | nil => exact absurd hk h.ne
    | cons => simp
  simp [m_check_kinds, b_check_kinds, toF_def, env0, enu_map]
  rw [for_fold (E := fun (_ : Unit) => [.va (.tup (ks.map .str)), .no, .no]) (step := fun _ _ => ()) (s := ())]
  · simp [h.pl, e0]
  · rintro _ ⟨k, i⟩ hm
    have hk := zip_mem hm
    have hi := (List.getElem?_eq_some_iff.mp hk).1
    have hw := h.w k (List.mem_of_getElem? hk)
    have hn4 : ¬ ((i : Int) = 4) := by simp at hi ⊢; omega
    cases i with
    | zero => simp [k_MAX_KINDS, sp_is_word hw]
    | succ i =>
      simp only at hk hi
      obtain ⟨a, ha⟩ : ∃ a, ks[i]? = some a := ⟨_, List.getElem?_eq_getElem (by omega)⟩
      have hlt := ascS_at h.asc ha hk
      have hat : atI (ks.map D.str) (i : Int) = some (.str a) := atI_nat (by rw [List.getElem?_map, ha]; rfl)
      have hat' : atI (ks.map D.str) ((i : Int) + 1 - 1) = some (.str a) := by rw [show (i : Int) + 1 - 1 = i from by omega]; exact hat
      have hp : (0 : Int) < (i : Int) + 1 := by omega
      have hn4 : ¬ ((i : Int) + 1 = 4) := by omega
      simp [hat', k_MAX_KINDS, sp_is_word hw, subI, hn4, hp, hat, hlt]

theorem sp_Rule_init (h : RulOk r) : m_Rule_init [.ref st.length, .str r.piece, .int r.low, .int r.high, .int r.modulus, .tup (r.rests.map .int), .tup (r.kinds.map .str)] (st ++ [.slo "Rule" []]) =
    .ok .non (st ++ [.slo "Rule" [.tup [.str r.piece, .int r.low, .int r.high, .int r.modulus, .tup (r.rests.map .int), .tup (r.kinds.map .str)]]]) := by
  have h1 := h.low1
  have h2 := h.high1
  unfold LASTn at h1 h2
  have hm : inV true (.int r.modulus) k_MODULI = some (.bl false) := by
    have e : k_MODULI = .tup (([1, 2, 3, 4, 6, 12] : List Int).map .int) := rfl
    rw [e, in_ints, decide_eq_true h.mod]; rfl
  have hm' : inA true (.int r.modulus) k_MODULI = fun env st => VE.ret (inV true (.int r.modulus) k_MODULI) env st := rfl
  simp [m_Rule_init, b_Rule_init, toF_def, env0, sp_is_word h.piece, sp_is_number, k_LAST, h.low0, h1, h.high0, h2, hm, hm', sp_are_rests h.rne h.rin h.rasc h.rlen, sp_are_kinds h.kinds]
theorem mk_Rule (h : RulOk r) {env : EnvD} : frzS "Rule" env st (m_Rule_init [.ref st.length, .str r.piece, .int r.low, .int r.high, .int r.modulus, .tup (r.rests.map .int), .tup (r.kinds.map .str)] (st ++ [.slo "Rule" []])) = .ok r.d env st := by
  rw [sp_Rule_init h, frzS_ok]
  · rfl
  · have := @Rul.d_rf st.length r
    simpa [Rul.d] using this
theorem sp_Book_init (h : BokOk b) : m_Book_init [.ref st.length, .tup (b.kinds.map .str), .tup (b.rules.map Rul.d)] (st ++ [.slo "Book" []]) =
    .ok .non (st ++ [.slo "Book" [.tup [.tup (b.kinds.map .str), .tup (b.rules.map Rul.d)]]]) := by
  simp [m_Book_init, b_Book_init, toF_def, env0, sp_check_kinds h.kinds h.klen, enu_map]
  rw [for_fold (E := fun (_ : Unit) => [.va (.ref st.length), .va (.tup (b.kinds.map .str)), .va (.tup (b.rules.map Rul.d)), .no, .no, .no]) (step := fun _ _ => ()) (s := ())]
  · simp
  · rintro _ ⟨r, i⟩ hm
    have hk := zip_mem hm
    have hi := (List.getElem?_eq_some_iff.mp hk).1
    have hr := List.mem_of_getElem? hk
    have hn8 : ¬ ((i : Int) = 8) := by have := h.rlen; simp at hi; omega
    simp [k_MAX_RULES, hn8]
    rw [comp_all (f := fun _ => .bl true) (by have := (h.rules r hr).kinds.len; omega)]
    · simp [allD, blsF_map]
    · intro k hk
      have h5 := in_strs (neg := false) ((h.rules r hr).kinds.ok k hk) h.kinds.ok
      have h6 : (b.kinds.any fun z => decide (z = k)) = true := by simpa using h.sub r hr k hk
      simp [h5, h6]
theorem Bok.d_rf {n : Nat} : rfB n b.d = true := by
  have h1 : rfBs n (b.kinds.map D.str) = true := rfs_all fun x hx => by obtain ⟨y, _, rfl⟩ := List.mem_map.mp hx; exact rf_str
  have h2 : rfBs n (b.rules.map Rul.d) = true := rfs_all fun x hx => by obtain ⟨y, _, rfl⟩ := List.mem_map.mp hx; exact Rul.d_rf
  simp [Bok.d, h1, h2]
theorem mk_Book (h : BokOk b) {env : EnvD} : frzS "Book" env st (m_Book_init [.ref st.length, .tup (b.kinds.map .str), .tup (b.rules.map Rul.d)] (st ++ [.slo "Book" []])) = .ok b.d env st := by
  rw [sp_Book_init h, frzS_ok]
  · rfl
  · have := @Bok.d_rf b st.length
    simpa [Bok.d] using this
theorem mk_RuleC {p : Str} {l h m : Int} {rs : List Int} {ks : List Str} {c : Cell} (hr : RulOk ⟨p, l, h, m, rs, ks⟩) {env : EnvD} : frzS "Rule" env (c :: st) (m_Rule_init [.ref (st.length + 1), .str p, .int l, .int h, .int m, .tup (rs.map .int), .tup (ks.map .str)] (c :: (st ++ [.slo "Rule" []]))) = .ok (Rul.d ⟨p, l, h, m, rs, ks⟩) env (c :: st) := mk_Rule (st := c :: st) hr
theorem mk_BookC {ks : List Str} {rs : List Rul} {c : Cell} (hb : BokOk ⟨ks, rs⟩) {env : EnvD} : frzS "Book" env (c :: st) (m_Book_init [.ref (st.length + 1), .tup (ks.map .str), .tup (rs.map Rul.d)] (c :: (st ++ [.slo "Book" []]))) = .ok (Bok.d ⟨ks, rs⟩) env (c :: st) := mk_Book (st := c :: st) hb
end
end VP
namespace VP
local instance inst_SD1 : VE.VEnv := VE.VEnv.dummy
open PySem PySem.Spec PyProof.Rows L2 VE
open SX (S S_len S_cat S_inj)
/-- the law's row of draws: the script, where it is read, the seed, what is left -/
def drwC (ns : List Int) (p s l : Int) : Cell := .lst [.scr ns, .int p, .int s, .int l]
def DrawOk (ns : List Int) (c : Cell) : Prop := ∃ p s l, c = drwC ns p s l ∧ 0 ≤ p ∧ 0 ≤ s ∧ s < 2147483647
theorem taken {ns : List Int} {c : Cell} {rest : Sto} {many : Int} (hc : DrawOk ns c) (h0 : 0 < many) (h1 : many ≤ 10000000000000000000000000000000000000000) :
    ∃ r c', m_law_taken [.ref 0, .int many] (c :: rest) = .ok (.int r) (c' :: rest) ∧ 0 ≤ r ∧ r < many ∧ DrawOk ns c' := by
  obtain ⟨p, s, l, rfl, hp, hs0, hs1⟩ := hc
  have hd := divOk_ h0 h1
  by_cases hl : 0 < l
  · refine ⟨l % many, drwC ns p s (l / many), ?_, Int.emod_nonneg _ (by omega), Int.emod_lt_of_pos _ h0, ⟨p, s, _, rfl, hp, hs0, hs1⟩⟩
    simp [m_law_taken, b_law_taken, toF_def, env0, drwC, hl, h0, hd]
  · have hl' : ¬ (0 < l) := hl
    by_cases hq : (ns.length : Int) < p + 1
    · refine ⟨((s * 48271 + 11) % 2147483647 / 7) % many, drwC ns (p + 1) ((s * 48271 + 11) % 2147483647) l, ?_, Int.emod_nonneg _ (by omega), Int.emod_lt_of_pos _ h0, ⟨_, _, _, rfl, by omega, by omega, by omega⟩⟩
      have hm : mulOk s 48271 = true := mulOk_r (by decide)
      have hd7 : divOk 7 = true := divOk_ (by decide) (by decide)
      simp [m_law_taken, b_law_taken, toF_def, env0, drwC, hl', h0, hd, hq, hm, hd7]
    · obtain ⟨cell, hcell⟩ : ∃ cell, atI ns p = some cell := by
        rw [atI_pos hp (by omega)]
        exact ⟨ns[p.toNat]'(by omega), List.getElem?_eq_getElem (by omega)⟩
      have hm : mulOk s 48271 = true := mulOk_r (by decide)
      by_cases hbig : (1000000000000000000 : Int) ≤ cell
      · refine ⟨cell % many, drwC ns (p + 1) ((s * 48271 + cell + 11) % 2147483647) (cell / many), ?_, Int.emod_nonneg _ (by omega), Int.emod_lt_of_pos _ h0, ⟨_, _, _, rfl, by omega, by omega, by omega⟩⟩
        simp [m_law_taken, b_law_taken, toF_def, env0, drwC, hl', h0, hd, hq, hm, hcell, hbig]
      · refine ⟨cell % many, drwC ns (p + 1) ((s * 48271 + cell + 11) % 2147483647) l, ?_, Int.emod_nonneg _ (by omega), Int.emod_lt_of_pos _ h0, ⟨_, _, _, rfl, by omega, by omega, by omega⟩⟩
        simp [m_law_taken, b_law_taken, toF_def, env0, drwC, hl', h0, hd, hq, hm, hcell, hbig]
end VP
namespace VP
local instance inst_SD2 : VE.VEnv := VE.VEnv.dummy
open PySem PySem.Spec PyProof.Rows L2 VE
open SX (S S_len S_cat S_inj)
def Ka : List Str := ["a"]
def Kb : List Str := ["a", "b"]
def Kc : List Str := ["a", "b", "c"]
def KA (ks : List Str) : Prop := ks = Ka ∨ ks = Kb ∨ ks = Kc
theorem w1 {c : Nat} (h : 97 ≤ c ∧ c < 123) {x : Str} (e : x = S [c]) : WOk x := ⟨[c], e, by simp, by simp, by simpa using h⟩
theorem wa : WOk "a" := w1 (c := 97) (by decide) rfl
theorem wb : WOk "b" := w1 (c := 98) (by decide) rfl
theorem wc : WOk "c" := w1 (c := 99) (by decide) rfl
theorem wx : WOk "x" := w1 (c := 120) (by decide) rfl
theorem wy : WOk "y" := w1 (c := 121) (by decide) rfl
theorem wz : WOk "z" := w1 (c := 122) (by decide) rfl
theorem KA.ok {ks : List Str} (h : KA ks) : KOk ks := by
  rcases h with rfl | rfl | rfl
  · exact ⟨by simp [Ka], by simp [Ka]; exact wa, by decide, by decide⟩
  · exact ⟨by simp [Kb], by simp [Kb]; exact ⟨wa, wb⟩, by decide, by decide⟩
  · exact ⟨by simp [Kc], by simp [Kc]; exact ⟨wa, wb, wc⟩, by decide, by decide⟩
theorem KA.asc {ks : List Str} (h : KA ks) : ks.Pairwise fun x y => ltS x y = true := by
  rcases h with rfl | rfl | rfl <;> decide
theorem KA.len {ks : List Str} (h : KA ks) : ks.length ≤ 3 := by
  rcases h with rfl | rfl | rfl <;> decide
section
variable {ns : List Int} {c : Cell} {rest : Sto} {env : EnvD}
theorem atI3 {a b c : D} {r : Int} (h0 : 0 ≤ r) (h3 : r < 3) : atI [a, b, c] r = some (if r = 0 then a else if r = 1 then b else c) := by
  obtain ⟨n, rfl⟩ : ∃ n : Nat, r = n := ⟨r.toNat, by omega⟩
  match n, h3 with
  | 0, _ => rfl
  | 1, _ => rfl
  | 2, _ => rfl
theorem atI2 {a b : D} {r : Int} (h0 : 0 ≤ r) (h3 : r < 2) : atI [a, b] r = some (if r = 0 then a else b) := by
  obtain ⟨n, rfl⟩ : ∃ n : Nat, r = n := ⟨r.toNat, by omega⟩
  match n, h3 with
  | 0, _ => rfl
  | 1, _ => rfl
theorem law_kinds (hc : DrawOk ns c) : ∃ ks c', m_law_kinds [.ref 0] (c :: rest) = .ok (.tup (ks.map .str)) (c' :: rest) ∧ KA ks ∧ DrawOk ns c' := by
  obtain ⟨r, c', e, h0, h1, hc'⟩ := taken (rest := rest) (many := 3) hc (by decide) (by decide)
  refine ⟨if r = 0 then Ka else if r = 1 then Kb else Kc, c', ?_, ?_, hc'⟩
  · simp [m_law_kinds, b_law_kinds, toF_def, env0, e, atI3 h0 h1]
    split
    · rfl
    · split <;> rfl
  · unfold KA
    split
    · exact .inl rfl
    · split
      · exact .inr (.inl rfl)
      · exact .inr (.inr rfl)
def MD7 : List Int := [1, 1, 2, 3, 4, 6, 12]
theorem md7 {r : Int} (h0 : 0 ≤ r) (h7 : r < 7) : ∃ m, atI (MD7.map D.int) r = some (.int m) ∧ m ∈ [1, 2, 3, 4, 6, 12] := by
  obtain ⟨n, rfl⟩ : ∃ n : Nat, r = n := ⟨r.toNat, by omega⟩
  match n, h7 with
  | 0, _ => exact ⟨1, rfl, by decide⟩
  | 1, _ => exact ⟨1, rfl, by decide⟩
  | 2, _ => exact ⟨2, rfl, by decide⟩
  | 3, _ => exact ⟨3, rfl, by decide⟩
  | 4, _ => exact ⟨4, rfl, by decide⟩
  | 5, _ => exact ⟨6, rfl, by decide⟩
  | 6, _ => exact ⟨12, rfl, by decide⟩
end
end VP
namespace VP
local instance inst_SD3 : VE.VEnv := VE.VEnv.dummy
open PySem PySem.Spec PyProof.Rows L2 VE
open SX (S S_len S_cat S_inj)
section
variable {ns : List Int} {c : Cell} {rest : Sto} {env : EnvD}
/-- the rests that are drawn -/
theorem rests_drawn {m : Int} (hm : m ∈ [1, 2, 3, 4, 6, 12]) {e : EnvD} (he : e[9]? = some .no) (e0 : e[0]? = some (.va (.ref 0))) (hc : DrawOk ns c) :
    ∃ xs c', compL (gN 9) [9] (eT (eBin (sv2 eqP) (eCall m_law_taken 2 (eCons (eVar 0) (eCons (eC (.int 2)) (eNil)))) (eC (.int 0)))) (eVar 9) (rngD 0 m.toNat) [] e (c :: rest) = .ok (.lst (xs.map .int)) e (c' :: rest) ∧ DrawOk ns c' ∧ (∀ x ∈ xs, 0 ≤ x ∧ x < m) ∧ ascI xs = true ∧ xs.length < 1000 := by
  have hl : 9 < e.length := (List.getElem?_eq_some_iff.mp he).1
  have hw : e.set 9 .no = e := by
    apply List.ext_getElem?
    intro i
    by_cases q : 9 = i
    · subst q; rw [List.getElem?_set_self hl, he]
    · rw [List.getElem?_set_ne q]
  have hm12 : m.toNat ≤ 12 := by simp at hm; omega
  rw [rng_map]
  obtain ⟨ys, st', h1, ⟨c', rfl, hc'⟩, h3⟩ := comp_draw (t := gN 9) (ws := [9]) (tt := eT (eBin (sv2 eqP) (eCall m_law_taken 2 (eCons (eVar 0) (eCons (eC (.int 2)) (eNil)))) (eC (.int 0)))) (fe := eVar 9) (g := D.int) (E0 := e) (fun st => ∃ c', st = c' :: rest ∧ DrawOk ns c') ((List.range m.toNat).map fun i => 0 + ((i : Nat) : Int)) [] e (c :: rest) hw ⟨c, rfl, hc⟩ (by simp; omega) (by
    rintro x st hx ⟨c1, rfl, hc1⟩
    obtain ⟨r, c2, e1, _, _, hc2⟩ := taken (rest := rest) (many := 2) hc1 (by decide) (by decide)
    refine ⟨_, rfl, decide (r = 0), e.set 9 (.va (.int x)), c2 :: rest, ?_, ⟨c2, rfl, hc2⟩, ?_, e.set 9 (.va (.int x)), ?_, ?_⟩
    · simp [List.getElem?_set_ne, e0, e1]
    · simp [hw]
    · simp [hl]
    · simp [hw])
  refine ⟨ys, c', h3, hc', fun x hx => ?_, ascI_sub h1 rng_asc, ?_⟩
  · have := h1.subset hx
    simp at this
    obtain ⟨a, ha, rfl⟩ := this
    omega
  · have := h1.length_le
    simp at this
    omega
theorem kinds_drawn {ks : List Str} (hk : KA ks) {e : EnvD} (he : e[11]? = some .no) (e0 : e[0]? = some (.va (.ref 0))) (hc : DrawOk ns c) :
    ∃ (xs : List Str) (c' : Cell), compL (gN 11) [11] (eT (eBin gGtA (eCall m_law_taken 2 (eCons (eVar 0) (eCons (eC (.int 3)) (eNil)))) (eC (.int 0)))) (eVar 11) (ks.map .str) [] e (c :: rest) = .ok (.lst (xs.map .str)) e (c' :: rest) ∧ DrawOk ns c' ∧ xs.Sublist ks := by
  have hl : 11 < e.length := (List.getElem?_eq_some_iff.mp he).1
  have hw : e.set 11 .no = e := by
    apply List.ext_getElem?
    intro i
    by_cases q : 11 = i
    · subst q; rw [List.getElem?_set_self hl, he]
    · rw [List.getElem?_set_ne q]
  have hkl := hk.len
  obtain ⟨ys, st', h1, ⟨c', rfl, hc'⟩, h3⟩ := comp_draw (t := gN 11) (ws := [11]) (tt := eT (eBin gGtA (eCall m_law_taken 2 (eCons (eVar 0) (eCons (eC (.int 3)) (eNil)))) (eC (.int 0)))) (fe := eVar 11) (g := D.str) (E0 := e) (fun st => ∃ c', st = c' :: rest ∧ DrawOk ns c') ks [] e (c :: rest) hw ⟨c, rfl, hc⟩ (by simp; omega) (by
    rintro x st hx ⟨c1, rfl, hc1⟩
    obtain ⟨r, c2, e1, _, _, hc2⟩ := taken (rest := rest) (many := 3) hc1 (by decide) (by decide)
    refine ⟨_, rfl, decide (0 < r), e.set 11 (.va (.str x)), c2 :: rest, ?_, ⟨c2, rfl, hc2⟩, ?_, e.set 11 (.va (.str x)), ?_, ?_⟩
    · simp [List.getElem?_set_ne, e0, e1]
    · simp [hw]
    · simp [hl]
    · simp [hw])
  exact ⟨ys, c', h3, hc', h1⟩

theorem xyz {r : Int} (h0 : 0 ≤ r) (h3 : r < 3) : ∃ w, atI [D.str ("x" : Str), .str ("y" : Str), .str ("z" : Str)] r = some (.str w) ∧ WOk w ∧ (w = "x" ∨ w = "y" ∨ w = "z") := by
  rw [atI3 h0 h3]
  split
  · exact ⟨_, rfl, wx, .inl rfl⟩
  · split
    · exact ⟨_, rfl, wy, .inr (.inl rfl)⟩
    · exact ⟨_, rfl, wz, .inr (.inr rfl)⟩
structure RulA (ks : List Str) (r : Rul) : Prop where
  ok : RulOk r
  sub : ∀ k ∈ r.kinds, k ∈ ks
  pc : r.piece = "x" ∨ r.piece = "y" ∨ r.piece = "z"
theorem law_book {ks : List Str} {wide : Int} (hk : KA ks) (hc : DrawOk ns c) (w0 : 0 < wide) (w1 : wide ≤ 10000000000000000000000000000) :
    (m_law_book [.ref 0, .int wide, .tup (ks.map .str)] (c :: rest)).sat (fun d s => ∃ b c', d = Bok.d b ∧ s = c' :: rest ∧ DrawOk ns c' ∧ BokOk b ∧ b.kinds = ks ∧ b.rules.length ≤ 4 ∧ ∀ r ∈ b.rules, RulA ks r) nE := by
  unfold m_law_book; refine toF_sat ?_
  obtain ⟨r0, c0, e0, h00, h01, hc0⟩ := taken (rest := rest) (many := 5) hc (by decide) (by decide)
  simp [b_law_book, env0, e0, rOk_ (j := r0) (by omega) (by omega)]
  refine sat_for (fun i e s => ∃ rs c', e = [.va (.ref 0), .va (.int wide), .va (.tup (ks.map .str)), .ow (.lst (rs.map Rul.d)), .no, .no, .no, .no, .no, .no, .no, .no, .no] ∧ s = c' :: rest ∧ DrawOk ns c' ∧ rs.length = i ∧ ∀ r ∈ rs, RulA ks r) 0 ⟨[], c0, rfl, rfl, hc0, rfl, by simp⟩ ?_ ?_
  · rintro i d e s hd ⟨rs, c1, rfl, rfl, hc1, hlen, hrs⟩
    obtain ⟨rfl, hi⟩ := rng_at hd
    have wb : wide ≤ 10000000000000000000000000000000000000000 := by omega
    obtain ⟨low, c2, e2, l0, l1, hc2⟩ := taken (rest := rest) (many := wide) hc1 w0 wb
    obtain ⟨hi1, c3, e3, k0, k1, hc3⟩ := taken (rest := rest) (many := wide) hc2 w0 wb
    obtain ⟨q5, c4, e4, _, _, hc4⟩ := taken (rest := rest) (many := 5) hc3 (by decide) (by decide)
    obtain ⟨q7, c5, e5, q70, q71, hc5⟩ := taken (rest := rest) (many := 7) hc4 (by decide) (by decide)
    obtain ⟨m, em, hm⟩ := md7 q70 q71
    have hm0 : 0 < m := by simp at hm; omega
    have hm12 : m ≤ 12 := by simp at hm; omega
    simp [MD7] at em
    have rm := rOk_ (j := m) (by omega) (by omega)
    obtain ⟨xs, c6, e6, hc6, x6, a6, l6⟩ := rests_drawn (rest := rest) hm (e := [.va (.ref 0), .va (.int wide), .va (.tup (ks.map .str)), .ow (.lst (rs.map Rul.d)), .va (.int (i : Nat)), .va (.int low), .va (.int (if q5 = 0 then 999999999999999999999999999999 else low + hi1)), .va (.int m), .no, .no, .no, .no, .no]) rfl rfl hc5
    obtain ⟨kk1, c7, e7, hc7, s7⟩ := kinds_drawn (rest := rest) hk (e := [.va (.ref 0), .va (.int wide), .va (.tup (ks.map .str)), .ow (.lst (rs.map Rul.d)), .va (.int (i : Nat)), .va (.int low), .va (.int (if q5 = 0 then 999999999999999999999999999999 else low + hi1)), .va (.int m), .va (.tup (xs.map .int)), .no, .no, .no, .no]) rfl rfl hc6
    generalize hH : (if q5 = 0 then 999999999999999999999999999999 else low + hi1) = hh at e6 e7
    have hh0 : low ≤ hh := by rw [← hH]; split <;> omega
    have hh1 : hh ≤ LASTn := by rw [← hH]; unfold LASTn; split <;> omega
    -- the kinds
    obtain ⟨k2, hk2, hk2s, hkey⟩ : ∃ k2 : List Str, KOk k2 ∧ (∀ k ∈ k2, k ∈ ks) ∧ (if kk1 = [] then ks else kk1) = k2 := by
      refine ⟨_, ?_, ?_, rfl⟩
      · split
        · exact hk.ok
        · rename_i hne
          have hl := hk.len
          have hs := s7.length_le
          exact ⟨hne, fun k hk' => hk.ok.w k (s7.subset hk'), ascS_sub s7 hk.asc, by omega⟩
      · split
        · exact fun k h => h
        · exact fun k h => s7.subset h
    have fin : ∀ (w : Str) (ys : List Int), WOk w → (w = "x" ∨ w = "y" ∨ w = "z") → ys ≠ [] → (∀ x ∈ ys, 0 ≤ x ∧ x < m) → ascI ys = true → ys.length < 1000 → RulA ks ⟨w, low, hh, m, ys, k2⟩ := fun w ys q1 q2 q3 q4 q5 q6 =>
      ⟨⟨q1, l0, by show low ≤ LASTn; unfold LASTn; omega, hh0, hh1, hm, q3, q4, q5, q6, hk2⟩, hk2s, q2⟩
    have hrl : rs.length < 5 := by omega
    have hl : rs.length < 16777216 := by omega
    cases xs with
    | nil =>
      obtain ⟨y, c8, e8, y0, y1, hc8⟩ := taken (rest := rest) (many := m) hc7 hm0 (by omega)
      obtain ⟨q3, c9, e9, q0, q1, hc9⟩ := taken (rest := rest) (many := 3) hc8 (by decide) (by decide)
      obtain ⟨w, ew, hw, hw3⟩ := xyz q0 q1
      have F := fin w [y] hw hw3 (by simp) (by simp; omega) rfl (by simp)
      have mk := fun (st : Sto) (env : EnvD) (cc : Cell) => mk_RuleC (st := st) (env := env) (c := cc) F.ok
      simp at e6 e7
      cases kk1 with
      | nil =>
        simp at hkey e7
        subst hkey
        simp at mk
        simp [e2, e3, e4, e5, em, rm, e6, e7, hH, e8, e9, ew, mk, hl]
        refine ⟨rs ++ [_], by rw [List.map_append]; rfl, hc9, by simp; omega, by rintro r' hr'; rcases List.mem_append.mp hr' with hr' | hr'; exact hrs _ hr'; rw [List.mem_singleton.mp hr']; exact F⟩
      | cons kk kks =>
        have p1 : PyData.strOk kk = true := hk.ok.ok kk (s7.subset List.mem_cons_self)
        have p2 := fun m => (pl_strs (n := m) (ks := kks) fun k hk' => hk.ok.ok k (s7.subset (List.mem_cons_of_mem _ hk')))
        simp at hkey e7
        subst hkey
        simp at mk
        simp [e2, e3, e4, e5, em, rm, e6, e7, hH, e8, e9, ew, mk, p1, p2, hl]
        refine ⟨rs ++ [_], by rw [List.map_append]; rfl, hc9, by simp; omega, by rintro r' hr'; rcases List.mem_append.mp hr' with hr' | hr'; exact hrs _ hr'; rw [List.mem_singleton.mp hr']; exact F⟩
    | cons x xs =>
      obtain ⟨q3, c9, e9, q0, q1, hc9⟩ := taken (rest := rest) (many := 3) hc7 (by decide) (by decide)
      obtain ⟨w, ew, hw, hw3⟩ := xyz q0 q1
      have F := fin w (x :: xs) hw hw3 (by simp) x6 a6 l6
      have mk := fun (st : Sto) (env : EnvD) (cc : Cell) => mk_RuleC (st := st) (env := env) (c := cc) F.ok
      simp at e6 e7
      cases kk1 with
      | nil =>
        simp at hkey e7
        subst hkey
        simp at mk
        simp [e2, e3, e4, e5, em, rm, e6, e7, hH, e9, ew, mk, hl]
        refine ⟨rs ++ [_], by rw [List.map_append]; rfl, hc9, by simp; omega, by rintro r' hr'; rcases List.mem_append.mp hr' with hr' | hr'; exact hrs _ hr'; rw [List.mem_singleton.mp hr']; exact F⟩
      | cons kk kks =>
        have p1 : PyData.strOk kk = true := hk.ok.ok kk (s7.subset List.mem_cons_self)
        have p2 := fun m => (pl_strs (n := m) (ks := kks) fun k hk' => hk.ok.ok k (s7.subset (List.mem_cons_of_mem _ hk')))
        simp at hkey e7
        subst hkey
        simp at mk
        simp [e2, e3, e4, e5, em, rm, e6, e7, hH, e9, ew, mk, p1, p2, hl]
        refine ⟨rs ++ [_], by rw [List.map_append]; rfl, hc9, by simp; omega, by rintro r' hr'; rcases List.mem_append.mp hr' with hr' | hr'; exact hrs _ hr'; rw [List.mem_singleton.mp hr']; exact F⟩
  · rintro e s ⟨rs, c', rfl, rfl, hc', hlen, hrs⟩
    have hb : BokOk ⟨ks, rs⟩ := ⟨hk.ok, by have := hk.len; show ks.length ≤ 4; omega, fun r hr => (hrs r hr).ok, by simp at hlen; show rs.length ≤ 8; omega, fun r hr k hk' => (hrs r hr).sub k hk'⟩
    simp [mk_BookC hb]
    exact ⟨⟨ks, rs⟩, rfl, hc', hb, rfl, by simp at hlen; show rs.length ≤ 4; omega, hrs⟩
end
end VP
namespace VP
local instance inst_SD4 : VE.VEnv := VE.VEnv.dummy
open PySem PySem.Spec PyProof.Rows L2 VE
open SX (S S_len S_cat S_inj)
def rowD (p : Int × Str) : D := .tup [.int p.1, .str p.2]
@[simp] theorem eq_row {p q : Int × Str} : eqD (rowD p) (rowD q) = decide (p = q) := by
  obtain ⟨a, b⟩ := p
  obtain ⟨c, d⟩ := q
  simp [rowD]
theorem any_rows {q : Int × Str} : ∀ {rows : List (Int × Str)}, (rows.map rowD).any (fun z => eqD z (rowD q)) = decide (q ∈ rows)
  | [] => by simp
  | p :: ps => by
    rw [List.map_cons, List.any_cons, any_rows, eq_row]
    by_cases h : p = q
    · subst h; simp
    · have : ¬ q = p := fun z => h z.symm
      simp [h, this]
theorem pl_row {n : Nat} {q : Int × Str} (h : PyData.strOk q.2 = true) : plain (n + 1) (rowD q) = true := by
  have h1 : plain n (.int q.1) = true := pl_int
  have h2 : plain n (.str q.2) = true := by rw [pl_str]; exact h
  unfold rowD
  simp only [pl_tup, pls_cons, pls_nil, h1, h2]; rfl
theorem pl_rows {n : Nat} {rows : List (Int × Str)} (h : ∀ p ∈ rows, PyData.strOk p.2 = true) : plains (n + 1) (rows.map rowD) = true := pls_map fun p hp => pl_row (h p hp)
theorem in_rows {neg : Bool} {q : Int × Str} {rows : List (Int × Str)} (hq : PyData.strOk q.2 = true) (h : ∀ p ∈ rows, PyData.strOk p.2 = true) : inV neg (rowD q) (.lst (rows.map rowD)) = some (.bl (ng neg (decide (q ∈ rows)))) := by
  rw [inV_lst (pl_row hq) (by simpa using pl_rows h), any_rows]
theorem in_rowsT {neg : Bool} {q : Int × Str} {rows : List (Int × Str)} (hq : PyData.strOk q.2 = true) (h : ∀ p ∈ rows, PyData.strOk p.2 = true) : inV neg (rowD q) (.tup (rows.map rowD)) = some (.bl (ng neg (decide (q ∈ rows)))) := by
  rw [inV_tup (pl_row hq) (by simpa using pl_rows h), any_rows]
def kR (p : Int × Str) : List Key := [.inl p.1, .inr p.2]
/-- rows in order -/
def sortR (rows : List (Int × Str)) : List (Int × Str) := srtB kR rows
theorem insB_map {α β : Type} {f : α → β} {kA : α → List Key} {kB : β → List Key} (hk : ∀ x, kB (f x) = kA x) {p : α} : ∀ {xs : List α}, insB kB (f p) (xs.map f) = (insB kA p xs).map f
  | [] => rfl
  | q :: qs => by
    simp only [List.map_cons, insB]
    rw [insB_map hk]
    by_cases h : lexK (kA q) (kA p) = true
    · rw [if_pos (by rw [hk, hk]; exact h), if_pos h]; rfl
    · rw [if_neg (by rw [hk, hk]; exact h), if_neg h]; rfl
theorem srtB_map {α β : Type} {f : α → β} {kA : α → List Key} {kB : β → List Key} (hk : ∀ x, kB (f x) = kA x) : ∀ {xs : List α}, srtB kB (xs.map f) = (srtB kA xs).map f
  | [] => rfl
  | p :: ps => by
    simp only [List.map_cons, srtB]
    rw [srtB_map hk]
    exact insB_map hk
theorem srtB_rows {rows : List (Int × Str)} : srtB kD (rows.map rowD) = (sortR rows).map rowD := srtB_map fun _ => rfl
theorem sort_rows {rows : List (Int × Str)} : sortL (rows.map rowD) = some ((sortR rows).map rowD) := by
  unfold sortL
  rw [srtB_rows, if_pos]
  cases rows with
  | nil => rfl
  | cons p ps =>
    have : ∀ d ∈ (p :: ps).map rowD, isRow [true, false] d = true := by
      intro d hd
      obtain ⟨q, _, rfl⟩ := List.mem_map.mp hd
      rfl
    have h2 : ((p :: ps).map rowD).all (isRow [true, false]) = true := List.all_eq_true.mpr this
    have h3 : (((p :: ps).map rowD).head?.map fun d => shp (kD d)).getD [] = [true, false] := rfl
    rw [h3, h2]
    simp
@[simp] theorem sortedL_rows {rows : List (Int × Str)} : sortedD (.lst (rows.map rowD)) = some (.lst ((sortR rows).map rowD)) := by
  simp only [sortedD, sort_rows]; rfl
@[simp] theorem sortedT_rows {rows : List (Int × Str)} : sortedD (.tup (rows.map rowD)) = some (.lst ((sortR rows).map rowD)) := by
  simp only [sortedD, sort_rows]; rfl
theorem mem_sortR {rows : List (Int × Str)} {p : Int × Str} : p ∈ sortR rows ↔ p ∈ rows := (srtB_perm (k := kR) rows).mem_iff
section
variable {ns : List Int} {c : Cell} {st : Sto} {env : EnvD} {b : Bok} {n : Int} {k : Str}
end
end VP
namespace VP
local instance inst_SD5 : VE.VEnv := VE.VEnv.dummy
open PySem PySem.Spec PyProof.Rows L2 VE
open SX (S S_len S_cat S_inj)
section
variable {α : Type} {t : D → EnvD → Option EnvD} {ws : List Nat} {g : α → D} {st : Sto}
/-- a loop as a fold; a law holds from turn to turn -/
theorem for_foldP {σ : Type} {body : M Fl} (E : σ → EnvD) (step : σ → α → σ) (I : Nat → σ → Prop) : ∀ (xs : List α) (j : Nat) (s : σ), I j s → (∀ i s a, xs[i]? = some a → I (j + i) s → I (j + i + 1) (step s a) ∧ ∃ e1, t (g a) (E s) = some e1 ∧ ∃ e2, body e1 st = .ok .nx e2 st ∧ wipeD ws e2 = E (step s a)) →
    forL t ws body (xs.map g) (E s) st = .ok .nx (E (xs.foldl step s)) st ∧ I (j + xs.length) (xs.foldl step s)
  | [], j, s, h0, _ => ⟨rfl, h0⟩
  | a :: xs, j, s, h0, h => by
    obtain ⟨h4, e1, h1, e2, h2, h3⟩ := h 0 s a rfl h0
    obtain ⟨i1, i2⟩ := for_foldP E step I xs (j + 1) (step s a) h4 fun i s' b hb hI => by
      have := h (i + 1) s' b (by simpa using hb) (by rw [show j + (i + 1) = j + 1 + i from by omega]; exact hI)
      rwa [show j + (i + 1) = j + 1 + i from by omega] at this
    refine ⟨?_, by rw [show j + (a :: xs).length = j + 1 + xs.length from by simp only [List.length_cons]; omega]; exact i2⟩
    rw [List.map_cons]
    unfold forL
    rw [h1]
    dsimp only
    rw [h2, R.bind_ok]
    dsimp only
    rw [h3, i1]
    rfl
end
theorem fold_filter {α β : Type} (p : α → Bool) (f : α → β) : ∀ (xs : List α) (acc : List β), xs.foldl (fun acc x => if p x then acc ++ [f x] else acc) acc = acc ++ (xs.filter p).map f
  | [], acc => by simp
  | x :: xs, acc => by
    rw [List.foldl_cons, fold_filter p f xs]
    cases h : p x with
    | true => rw [List.filter_cons_of_pos h]; simp
    | false => rw [List.filter_cons_of_neg (by simp [h])]; simp
theorem cut0 {xs : List D} {i : Nat} (h : i ≤ xs.length) : VE.cutD xs none (some (i : Int)) = xs.take i := by
  unfold VE.cutD
  have h2 : HT.sIx xs.length 0 none = 0 := rfl
  have h1 : HT.sIx xs.length xs.length (some (i : Int)) = i := by simp only [HT.sIx]; split <;> omega
  rw [h1, h2]
  simp
/-- some rows of a book -/
structure RowsOk (b : Bok) (rows : List (Int × Str)) : Prop where
  r : ∀ p ∈ rows, RowOk b p.1 p.2
  nd : rows.Nodup
  len : rows.length ≤ 30
def nm (b : Bok) (p : Int × Str) : Str := (b.place p.1 p.2).getD ("" : Str)
def mvD (b b' : Bok) (p : Int × Str) : D := .tup [rowD p, .str (nm b p), .str (nm b' p)]
def movesR (b b' : Bok) (rows : List (Int × Str)) : List (Int × Str) := (sortR rows).filter fun p => !decide (nm b p = nm b' p)
section
variable {ns : List Int} {c : Cell} {rest st : Sto} {env : EnvD} {b b' : Bok} {n : Int} {k : Str} {rows : List (Int × Str)} {p : Int × Str}
theorem nm_ok (hb : BokOk b) : PyData.strOk (nm b p) = true := by
  unfold nm Bok.place
  cases h : b.rules.find? (fitsB p.1 p.2) with
  | none => show PyData.strOk (S []) = true; exact S_ok (by simp)
  | some r => exact (hb.rules r (List.mem_of_find?_eq_some h)).piece.ok
theorem RowsOk.ok (hb : BokOk b) (h : RowsOk b rows) : ∀ p ∈ rows, PyData.strOk p.2 = true := fun p hp => hb.kinds.ok _ (h.r p hp).k
theorem nodup_take {α : Type} : ∀ {xs : List α} {i : Nat} {x : α}, xs.Nodup → xs[i]? = some x → x ∉ xs.take i
  | [], i, x, _, h => by simp at h
  | y :: ys, 0, x, _, _ => by simp
  | y :: ys, i + 1, x, hn, h => by
    rw [List.take_succ_cons, List.mem_cons]
    rw [List.nodup_cons] at hn
    have h : ys[i]? = some x := by simpa using h
    rintro (rfl | h2)
    · exact hn.1 (List.mem_of_getElem? h)
    · exact nodup_take hn.2 h h2
theorem sp_check_rows (hb : BokOk b) (h : RowsOk b rows) : m_check_rows [b.d, .tup (rows.map rowD)] st = .ok .non st := by
  simp [m_check_rows, b_check_rows, toF_def, env0, enu_map]
  rw [for_fold (E := fun (_ : Unit) => [.va b.d, .va (.tup (rows.map rowD)), .no, .no]) (step := fun _ _ => ()) (s := ())]
  · simp
  · rintro _ ⟨q, i⟩ hm
    have hk := zip_mem hm
    simp only at hk
    have hi := (List.getElem?_eq_some_iff.mp hk).1
    have hq := List.mem_of_getElem? hk
    have h1 := sp_is_row (st := st) hb (h.r q hq)
    have h2 : VE.cutD (rows.map rowD) none (some (i : Int)) = (rows.take i).map rowD := by rw [cut0 (by simp; omega), List.map_take]
    have h3 := in_rowsT (neg := false) (q := q) (rows := rows.take i) (h.ok hb q hq) fun p hp => h.ok hb p (List.mem_of_mem_take hp)
    rw [List.map_take] at h2 h3
    have h4 := nodup_take h.nd hk
    have h5 : ¬ ((i : Int) = 30) := by have := h.len; omega
    have h6 : m_is_row [b.d, rowD q] st = .ok (.bl true) st := h1
    have h7 : vw st (rowD q) = rowD q := rfl
    simp [h5, k_MAX_ROWS, h6, h2, h3, h4, h7]
theorem sp_moves_of (hb : BokOk b) (hb' : BokOk b') (he : b.kinds = b'.kinds) (h : RowsOk b rows) : m_moves_of [b.d, b'.d, .tup (rows.map rowD)] st = .ok (.lst ((movesR b b' rows).map (mvD b b'))) st := by
  simp [m_moves_of, b_moves_of, toF_def, env0, sp_check_books hb hb' he, sp_check_rows hb h]
  have H := for_foldP (st := st) (t := gT 2 (gsC (gN 4) (gsC (gN 5) (gsN)))) (ws := [4, 5, 6]) (g := rowD) (body := (sSeq (sSet 6 (eTup (eCons (eCall m_named 1 (eCons (eCall m_place_of 3 (eCons (eVar 0) (eCons (eVar 4) (eCons (eVar 5) (eNil))))) (eNil))) (eCons (eCall m_named 1 (eCons (eCall m_place_of 3 (eCons (eVar 1) (eCons (eVar 4) (eCons (eVar 5) (eNil))))) (eNil))) (eNil)))))
    (sIf (eT (eBin (sv2 neP) (eBin ixA (eVar 6) (eC (.int 0))) (eBin ixA (eVar 6) (eC (.int 1)))))
    (sApp 3 appD (eTup (eCons (eTup (eCons (eVar 4) (eCons (eVar 5) (eNil)))) (eStar (eVar 6) (eNil)))))
    (sNx)))) (E := fun acc => [.va b.d, .va b'.d, .va (.tup (rows.map rowD)), .ow (.lst acc), .no, .no, .no])
    (fun acc p => if (!decide (nm b p = nm b' p)) then acc ++ [mvD b b' p] else acc) (fun j acc => acc.length ≤ j) (sortR rows) 0 [] (by simp) (by
      rintro i acc ⟨m, k⟩ hm hI
      have hi := (List.getElem?_eq_some_iff.mp hm).1
      have hr : (m, k) ∈ rows := mem_sortR.mp (List.mem_of_getElem? hm)
      have hk := h.ok hb _ hr
      simp only at hk
      have hl := h.len
      have hs := (srtB_perm (k := kR) rows).length_eq
      have hs' : (sortR rows).length = rows.length := hs
      have n1 : PyData.strOk ((b.place m k).getD ("" : Str)) = true := nm_ok (p := (m, k)) hb
      have n2 : PyData.strOk ((b'.place m k).getD ("" : Str)) = true := nm_ok (p := (m, k)) hb'
      have hacc : acc.length < 16777216 := by omega
      refine ⟨by split <;> simp <;> omega, _, rfl, ?_⟩
      by_cases q : nm b (m, k) = nm b' (m, k)
      · have q2 : (b.place m k).getD ("" : Str) = (b'.place m k).getD ("" : Str) := q
        simp [sp_place_of hb hk, sp_place_of hb' hk, sp_named, q, q2, n1, n2]
      · have q2 : ¬ (b.place m k).getD ("" : Str) = (b'.place m k).getD ("" : Str) := q
        simp [sp_place_of hb hk, sp_place_of hb' hk, sp_named, q, q2, n1, n2, hacc]
        rfl)
  rw [fold_filter, List.nil_append] at H
  rw [H.1]
  simp [movesR]
theorem law_rows {ks : List Str} {wide most : Int} (hk : KA ks) (hc : DrawOk ns c) (w0 : 0 < wide) (w1 : wide ≤ 10000000000000000000000000000) (m0 : 0 ≤ most) (m1 : most ≤ 30) :
    (m_law_rows [.ref 0, .tup (ks.map .str), .int wide, .int most] (c :: rest)).sat (fun d s => ∃ (rows : List (Int × Str)) (c' : Cell), d = .tup (rows.map rowD) ∧ s = c' :: rest ∧ DrawOk ns c' ∧ rows.Nodup ∧ (rows.length : Int) ≤ most ∧ ∀ p ∈ rows, 0 ≤ p.1 ∧ p.1 ≤ LASTn ∧ p.2 ∈ ks) nE := by
  unfold m_law_rows; refine toF_sat ?_
  obtain ⟨r0, c0, e0, h00, h01, hc0⟩ := taken (rest := rest) (many := most + 1) hc (by omega) (by omega)
  simp [b_law_rows, env0, e0, rOk_ (j := r0) (by omega) (by omega)]
  refine sat_for (fun i e s => ∃ (rs : List (Int × Str)) (c' : Cell), e = [.va (.ref 0), .va (.tup (ks.map .str)), .va (.int wide), .va (.int most), .va (.lst (rs.map rowD)), .no, .no, .no] ∧ s = c' :: rest ∧ DrawOk ns c' ∧ rs.Nodup ∧ rs.length ≤ i ∧ ∀ p ∈ rs, 0 ≤ p.1 ∧ p.1 ≤ LASTn ∧ p.2 ∈ ks) 0 ⟨[], c0, rfl, rfl, hc0, by simp, by simp, by simp⟩ ?_ ?_
  · rintro i d e s hd ⟨rs, c1, rfl, rfl, hc1, hnd, hlen, hrs⟩
    obtain ⟨rfl, hi⟩ := rng_at hd
    obtain ⟨q1, c2, e2, l0, l1, hc2⟩ := taken (rest := rest) (many := 2 * wide) hc1 (by omega) (by omega)
    obtain ⟨q2, c3, e3, k0, k1, hc3⟩ := taken (rest := rest) (many := 9) hc2 (by decide) (by decide)
    obtain ⟨q3, c4, e4, _, _, hc4⟩ := taken (rest := rest) (many := 8) hc3 (by decide) (by decide)
    have hkl := hk.len
    have hne := hk.ok.ne
    have hkp : 0 < ks.length := List.length_pos_iff.mpr hne
    obtain ⟨q4, c5, e5, g0, g1, hc5⟩ := taken (rest := rest) (many := (ks.length : Int)) hc4 (by omega) (by omega)
    obtain ⟨kd, hkd⟩ : ∃ kd, ks[q4.toNat]? = some kd := ⟨_, List.getElem?_eq_getElem (by omega)⟩
    have hat : atI (ks.map D.str) q4 = some (.str kd) := by
      rw [show q4 = (q4.toNat : Int) from by omega]
      exact atI_nat (by rw [List.getElem?_map, hkd]; rfl)
    have hkm := List.mem_of_getElem? hkd
    have hmul : mulOk 2 wide = true := mulOk_l (by decide)
    generalize hH : (if q3 = 0 then 999999999999999999999999999999 - q2 else q1) = num
    have hn0 : 0 ≤ num := by rw [← hH]; split <;> omega
    have hn1 : num ≤ LASTn := by rw [← hH]; unfold LASTn; split <;> omega
    have hin := in_rows (neg := false) (q := (num, kd)) (rows := rs) (hk.ok.ok _ hkm) fun p hp => hk.ok.ok _ (hrs p hp).2.2
    simp only [rowD] at hin
    by_cases hm : (num, kd) ∈ rs
    · simp [e2, e3, e4, e5, hat, hmul, hH, hin, hm]
      exact ⟨rs, rfl, hc5, hnd, by omega, fun a b h => hrs (a, b) h⟩
    · have hl : rs.length + 1 ≤ 16777216 := by omega
      simp [e2, e3, e4, e5, hat, hmul, hH, hin, hm, hl]
      refine ⟨rs ++ [(num, kd)], by rw [List.map_append]; rfl, hc5, ?_, by simp; omega, ?_⟩
      · rw [List.nodup_append]
        refine ⟨hnd, by simp, ?_⟩
        intro x hx y hy
        rw [List.mem_singleton.mp hy]
        rintro rfl
        exact hm hx
      · intro a b h
        rcases List.mem_append.mp h with h | h
        · exact hrs (a, b) h
        · have := List.mem_singleton.mp h
          obtain ⟨rfl, rfl⟩ := Prod.mk.inj this
          exact ⟨hn0, hn1, hkm⟩
  · rintro e s ⟨rs, c', rfl, rfl, hc', hnd, hlen, hrs⟩
    simp
    simp at hlen
    exact ⟨rs, rfl, hc', hnd, by omega, fun a b h => hrs (a, b) h⟩
end
end VP
namespace VP
local instance inst_SP2 : VE.VEnv := VE.VEnv.dummy
open PySem PySem.Spec PyProof.Rows L2 VE
open SX (S S_len S_cat S_inj)
section
variable {st cs : List Cell} {d d' x : Cell} {j : Nat}
theorem sg0 : (st ++ d :: cs)[st.length]? = some d := by rw [List.getElem?_append_right (by omega)]; simp
theorem sg : (st ++ d :: cs)[st.length + (j + 1)]? = cs[j]? := by
  rw [List.getElem?_append_right (by omega), show st.length + (j + 1) - st.length = j + 1 from by omega]; rfl
theorem ss0 : (st ++ d :: cs).set st.length d' = st ++ d' :: cs := by
  rw [List.set_append_right _ _ (by omega)]; simp
theorem ss1 : (st ++ d :: cs).set (st.length + (j + 1)) x = st ++ d :: cs.set j x := by
  rw [List.set_append_right _ _ (by omega), show st.length + (j + 1) - st.length = j + 1 from by omega]; rfl
end
def mx (ns : List Int) : Int := (mxI ns).getD 0
section
variable {fo fa : M D} {env : EnvD} {st : Sto} {r x : D} {ys : List D}
end
/-- the names met, the first time that each is met -/
def fk {α : Type} (f : α → Str) (xs : List α) : List Str := xs.foldl (fun ks p => if f p ∈ ks then ks else ks ++ [f p]) []
theorem fk_snoc {α : Type} {f : α → Str} {xs : List α} {p : α} : fk f (xs ++ [p]) = if f p ∈ fk f xs then fk f xs else fk f xs ++ [f p] := by
  unfold fk; rw [List.foldl_append]; rfl
theorem fk_go {α : Type} {f : α → Str} {k : Str} : ∀ (xs : List α) (acc : List Str), k ∈ xs.foldl (fun ks p => if f p ∈ ks then ks else ks ++ [f p]) acc ↔ k ∈ acc ∨ ∃ p ∈ xs, f p = k
  | [], acc => by simp
  | x :: xs, acc => by
    rw [List.foldl_cons, fk_go xs]
    split
    · rename_i h
      constructor
      · rintro (h1 | ⟨p, h1, h2⟩)
        · exact .inl h1
        · exact .inr ⟨p, List.mem_cons_of_mem _ h1, h2⟩
      · rintro (h1 | ⟨p, h1, h2⟩)
        · exact .inl h1
        · rcases List.mem_cons.mp h1 with rfl | h1
          · exact .inl (h2 ▸ h)
          · exact .inr ⟨p, h1, h2⟩
    · constructor
      · rintro (h1 | ⟨p, h1, h2⟩)
        · rcases List.mem_append.mp h1 with h1 | h1
          · exact .inl h1
          · exact .inr ⟨x, List.mem_cons_self, (List.mem_singleton.mp h1).symm⟩
        · exact .inr ⟨p, List.mem_cons_of_mem _ h1, h2⟩
      · rintro (h1 | ⟨p, h1, h2⟩)
        · exact .inl (List.mem_append_left _ h1)
        · rcases List.mem_cons.mp h1 with rfl | h1
          · exact .inl (List.mem_append_right _ (by simp [h2]))
          · exact .inr ⟨p, h1, h2⟩
theorem mem_fk {α : Type} {f : α → Str} {xs : List α} {k : Str} : k ∈ fk f xs ↔ ∃ p ∈ xs, f p = k := by
  unfold fk; rw [fk_go]; simp
theorem fk_len {α : Type} {f : α → Str} : ∀ (xs : List α) (acc : List Str), (xs.foldl (fun ks p => if f p ∈ ks then ks else ks ++ [f p]) acc).length ≤ acc.length + xs.length
  | [], acc => by simp
  | x :: xs, acc => by
    rw [List.foldl_cons]
    refine Nat.le_trans (fk_len xs _) ?_
    split <;> simp <;> omega
theorem fk_len' {α : Type} {f : α → Str} {xs : List α} : (fk f xs).length ≤ xs.length := by
  have := fk_len (f := f) xs []
  simpa [fk] using this
section
variable {f : Str → D} {k0 : Str} {y : D}
theorem lk_map : ∀ {ks : List Str}, lkK (.inr k0) (ks.map fun k => ((.inr k : Key), f k)) = if k0 ∈ ks then some (f k0) else none
  | [] => by simp [lkK]
  | k :: ks => by
    rw [List.map_cons, lkK, lk_map]
    by_cases h : k = k0
    · subst h; simp
    · have : ¬ k0 = k := fun z => h z.symm
      simp [h, this]
theorem has_map : ∀ {ks : List Str}, hasD (.inr k0) (ks.map fun k => ((.inr k : Key), f k)) = decide (k0 ∈ ks)
  | [] => by simp [hasD]
  | k :: ks => by
    rw [List.map_cons, hasD, has_map]
    by_cases h : k = k0
    · subst h; simp
    · have : ¬ k0 = k := fun z => h z.symm
      simp [h, this]
theorem ch_map : ∀ {ks : List Str}, chK (.inr k0) y (ks.map fun k => ((.inr k : Key), f k)) = ks.map fun k => (.inr k, if k = k0 then y else f k)
  | [] => rfl
  | k :: ks => by
    rw [List.map_cons, chK, ch_map, List.map_cons]
    by_cases h : k = k0
    · subst h; simp
    · simp [h]
theorem pt_map {ks : List Str} : ptK (ks.map fun k => ((.inr k : Key), f k)) (.inr k0) y = (if k0 ∈ ks then ks else ks ++ [k0]).map fun k => (.inr k, if k = k0 then y else f k) := by
  unfold ptK
  rw [has_map, ch_map]
  by_cases h : k0 ∈ ks
  · simp [h]
  · simp only [h, decide_false, Bool.false_eq_true, if_false, List.map_append]
    congr 1
    · refine List.map_congr_left fun k hk => ?_
      have : k ≠ k0 := fun z => h (z ▸ hk)
      simp [this]
    · simp
end
def kS (k : Str) : List Key := [.inr k]
def sortS (ks : List Str) : List Str := srtB kS ks
theorem mem_sortS {ks : List Str} {k : Str} : k ∈ sortS ks ↔ k ∈ ks := (srtB_perm (k := kS) ks).mem_iff
theorem len_sortS {ks : List Str} : (sortS ks).length = ks.length := (srtB_perm (k := kS) ks).length_eq
theorem kSK2_map {ks : List Str} {f : Str → D} {env : EnvD} {st : Sto} (h : ks.length < 64) : kSK2 (some (.dct (ks.map fun k => ((.inr k : Key), f k)))) env st = .ok (.lst ((sortS ks).map .str)) env st := by
  rw [x_kSK2, if_pos]
  · have e : (ks.map fun k => ((.inr k : Key), f k)).map (fun kv => keyD kv.1) = ks.map D.str := by rw [List.map_map]; rfl
    rw [e, srtB_map (f := D.str) (kA := kS) fun _ => rfl]; rfl
  · simp [h, keyD, isStr]
/-- the rows of one piece -/
def rowsAt (b : Bok) (ss : List (Int × Str)) (k : Str) : List (Int × Str) := ss.filter fun p => decide (nm b p = k)
theorem rowsAt_snoc {b : Bok} {ss : List (Int × Str)} {k : Str} {p : Int × Str} : rowsAt b (ss ++ [p]) k = if nm b p = k then rowsAt b ss k ++ [p] else rowsAt b ss k := by
  unfold rowsAt
  rw [List.filter_append]
  by_cases h : nm b p = k <;> simp [h]
section
variable {st : Sto} {env : EnvD} {b : Bok} {n : Int} {k : Str} {rows : List (Int × Str)} {p : Int × Str}
theorem sortR_len : (sortR rows).length = rows.length := (srtB_perm (k := kR) rows).length_eq
theorem take_snoc {α : Type} {xs : List α} {i : Nat} {x : α} (h : xs[i]? = some x) : xs.take (i + 1) = xs.take i ++ [x] := by
  rw [List.take_add_one, h]; rfl
/-- a dict of cells of rows, piece by piece -/
def ByP (b : Bok) (st : Sto) (ss : List (Int × Str)) (S : Sto) : Prop :=
  ∃ (ix : Str → Nat) (cells : List Cell), S = st ++ .dct ((fk (nm b) ss).map fun k => ((.inr k : Key), .ref (st.length + (ix k + 1)))) :: cells ∧ cells.length = ss.length ∧
    (∀ k ∈ fk (nm b) ss, cells[ix k]? = some (.lst ((rowsAt b ss k).map rowD))) ∧ ∀ k ∈ fk (nm b) ss, ∀ k' ∈ fk (nm b) ss, ix k = ix k' → k = k'
theorem sp_by_pieces (hb : BokOk b) (h : RowsOk b rows) : ∃ S, m_by_pieces [b.d, .tup (rows.map rowD)] st = .ok (.ref st.length) S ∧ ByP b st (sortR rows) S := by
  have hl := h.len
  have hs := sortR_len (rows := rows)
  obtain ⟨e', st', h1, h2⟩ := for_inv (t := gT 2 (gsC (gN 3) (gsC (gN 4) (gsN)))) (ws := [3, 4]) (body := (sAppC appD (eSetd (eVar 2) (eCall m_named 1 (eCons (eCall m_place_of 3 (eCons (eVar 0) (eCons (eVar 3) (eCons (eVar 4) (eNil))))) (eNil))) (eCellL (eNil))) (eTup (eCons (eVar 3) (eCons (eVar 4) (eNil))))))
    (fun i e s => e = [.va b.d, .va (.tup (rows.map rowD)), .va (.ref st.length), .no, .no] ∧ ByP b st ((sortR rows).take i) s) ((sortR rows).map rowD) 0 _ (st ++ [.dct []])
    ⟨rfl, fun _ => 0, [], by simp [fk], by simp, by simp [fk], by simp [fk]⟩ (by
      rintro i d e s hd ⟨rfl, ix, cells, rfl, hcl, hat, hinj⟩
      rw [List.getElem?_map] at hd
      obtain ⟨⟨m, k⟩, hm, rfl⟩ := Option.map_eq_some_iff.mp hd
      have hi := (List.getElem?_eq_some_iff.mp hm).1
      have hr : (m, k) ∈ rows := mem_sortR.mp (List.mem_of_getElem? hm)
      have hk := h.ok hb _ hr
      simp only at hk
      simp only [Nat.zero_add] at hcl hat hinj ⊢
      have e1 := fun st => sp_place_of (st := st) (n := m) (k := k) hb hk
      have e2 : ∀ st, m_named [optS (b.place m k)] st = .ok (.str (nm b (m, k))) st := fun st => sp_named
      rw [take_snoc hm]
      have hss : ((sortR rows).take i).length ≤ 30 := by simp; omega
      generalize (sortR rows).take i = ss at hcl hat hinj hss ⊢
      have hfl : (fk (nm b) ss).length ≤ ss.length := fk_len'
      have hsl : (fk (nm b) ss).length < 16777216 := by omega
      refine ⟨_, rfl, [.va b.d, .va (.tup (rows.map rowD)), .va (.ref st.length), .va (.int m), .va (.str k)], ?_⟩
      by_cases hmem : nm b (m, k) ∈ fk (nm b) ss
      · have hg := hat _ hmem
        have hix := (List.getElem?_eq_some_iff.mp hg).1
        have hg2 : (cells ++ [Cell.lst []])[ix (nm b (m, k))]? = some (.lst ((rowsAt b ss (nm b (m, k))).map rowD)) := by rw [List.getElem?_append_left hix]; exact hg
        have hrl : (rowsAt b ss (nm b (m, k))).length < 16777216 := by
          have : (rowsAt b ss (nm b (m, k))).length ≤ ss.length := List.length_filter_le _ _
          omega
        have hap : ∀ (env : EnvD) (S : Sto) (q : Nat), kAC4 appD q (.tup [.int m, .str k]) ((rowsAt b ss (nm b (m, k))).map rowD) env S = .ok .nx env (S.set q (.lst ((rowsAt b ss (nm b (m, k))).map rowD ++ [.tup [.int m, .str k]]))) := fun env S q => x_kAC4 (by simpa using hrl)
        refine ⟨st ++ .dct ((fk (nm b) ss).map fun k => ((.inr k : Key), .ref (st.length + (ix k + 1)))) :: (cells ++ [Cell.lst []]).set (ix (nm b (m, k))) (.lst ((rowsAt b (ss ++ [(m, k)]) (nm b (m, k))).map rowD)), ?_, rfl, ix, (cells ++ [Cell.lst []]).set (ix (nm b (m, k))) (.lst ((rowsAt b (ss ++ [(m, k)]) (nm b (m, k))).map rowD)), ?_, ?_, ?_, ?_⟩
        · simp [e1, e2, sg0, sg, lk_map, hmem, hsl, hg2, hap, ss1, rowsAt_snoc]
          rfl
        · rw [fk_snoc, if_pos hmem]
        · simp [hcl]
        · intro k' hk'
          rw [fk_snoc, if_pos hmem] at hk'
          by_cases hkk : nm b (m, k) = k'
          · subst hkk
            rw [List.getElem?_set_self (by simp; omega)]
          · have hne : ix (nm b (m, k)) ≠ ix k' := fun z => hkk (hinj _ hmem _ hk' z)
            rw [List.getElem?_set_ne hne, rowsAt_snoc, if_neg hkk, List.getElem?_append_left (List.getElem?_eq_some_iff.mp (hat _ hk')).1]
            exact hat _ hk'
        · rw [fk_snoc, if_pos hmem]; exact hinj
      · have hra : rowsAt b ss (nm b (m, k)) = [] := by
          unfold rowsAt
          rw [List.filter_eq_nil_iff]
          intro p hp hq
          exact hmem (mem_fk.mpr ⟨p, hp, by simpa using hq⟩)
        have hap : ∀ (env : EnvD) (S : Sto) (q : Nat), kAC4 appD q (.tup [.int m, .str k]) [] env S = .ok .nx env (S.set q (.lst ([] ++ [.tup [.int m, .str k]]))) := fun env S q => x_kAC4 (by simp)
        have hp2 := fun (y : D) => pt_map (f := fun k => .ref (st.length + (ix k + 1))) (k0 := nm b (m, k)) (y := y) (ks := fk (nm b) ss)
        simp only [if_neg hmem] at hp2
        refine ⟨st ++ .dct ((fk (nm b) ss ++ [nm b (m, k)]).map fun k' => ((.inr k' : Key), .ref (st.length + ((if k' = nm b (m, k) then cells.length else ix k') + 1)))) :: (cells ++ [.lst [rowD (m, k)]]), ?_, rfl, fun k' => if k' = nm b (m, k) then cells.length else ix k', cells ++ [.lst [rowD (m, k)]], ?_, ?_, ?_, ?_⟩
        · simp [e1, e2, sg0, sg, lk_map, hmem, hsl, hap, ss0, ss1, hp2]
          exact ⟨fun a ha => by split <;> rfl, rfl⟩
        · rw [fk_snoc, if_neg hmem]
        · simp [hcl]
        · intro k' hk'
          rw [fk_snoc, if_neg hmem] at hk'
          by_cases hkk : k' = nm b (m, k)
          · subst hkk
            dsimp only
            rw [if_pos rfl, rowsAt_snoc, if_pos rfl, hra]; simp
          · have hk' : k' ∈ fk (nm b) ss := by
              rcases List.mem_append.mp hk' with h | h
              · exact h
              · exact absurd (List.mem_singleton.mp h) hkk
            dsimp only
            rw [if_neg hkk, rowsAt_snoc, if_neg fun z => hkk z.symm, List.getElem?_append_left (List.getElem?_eq_some_iff.mp (hat _ hk')).1]
            exact hat _ hk'
        · rw [fk_snoc, if_neg hmem]
          have hlt : ∀ k' ∈ fk (nm b) ss, ix k' < cells.length := fun k' hk' => (List.getElem?_eq_some_iff.mp (hat _ hk')).1
          intro k1 h1 k2 h2 e
          dsimp only at e
          by_cases q1 : k1 = nm b (m, k)
          · by_cases q2 : k2 = nm b (m, k)
            · rw [q1, q2]
            · have h2 : k2 ∈ fk (nm b) ss := by
                rcases List.mem_append.mp h2 with h | h
                · exact h
                · exact absurd (List.mem_singleton.mp h) q2
              rw [if_pos q1, if_neg q2] at e
              have := hlt _ h2
              omega
          · have h1 : k1 ∈ fk (nm b) ss := by
              rcases List.mem_append.mp h1 with h | h
              · exact h
              · exact absurd (List.mem_singleton.mp h) q1
            by_cases q2 : k2 = nm b (m, k)
            · rw [if_neg q1, if_pos q2] at e
              have := hlt _ h1
              omega
            · have h2 : k2 ∈ fk (nm b) ss := by
                rcases List.mem_append.mp h2 with h | h
                · exact h
                · exact absurd (List.mem_singleton.mp h) q2
              rw [if_neg q1, if_neg q2] at e
              exact hinj _ h1 _ h2 e)
  obtain ⟨rfl, h3⟩ := h2
  refine ⟨st', ?_, ?_⟩
  · simp [m_by_pieces, b_by_pieces, toF_def, env0]
    rw [h1]
    simp
  · simpa using h3
theorem fk_sort_len (h : RowsOk b rows) : (fk (nm b) (sortR rows)).length ≤ 30 := by
  have h1 := fk_len' (f := nm b) (xs := sortR rows)
  have h2 := sortR_len (rows := rows)
  have := h.len
  omega
theorem rowsAt_len (h : RowsOk b rows) : (rowsAt b (sortR rows) k).length ≤ 30 := by
  have h1 : (rowsAt b (sortR rows) k).length ≤ (sortR rows).length := List.length_filter_le _ _
  have h2 := sortR_len (rows := rows)
  have := h.len
  omega
def laidL (b : Bok) (ss : List (Int × Str)) : List D := (sortS (fk (nm b) ss)).map fun k => .tup [.str k, .tup ((rowsAt b ss k).map rowD)]
theorem sp_laid (hb : BokOk b) (h : RowsOk b rows) : ∃ ext, m_laid [b.d, .tup (rows.map rowD)] st = .ok (.lst (laidL b (sortR rows))) (st ++ ext) := by
  obtain ⟨S, e1, ix, cells, rfl, hcl, hat, _⟩ := sp_by_pieces (st := st) hb h
  refine ⟨.dct ((fk (nm b) (sortR rows)).map fun k => ((.inr k : Key), .ref (st.length + (ix k + 1)))) :: cells, ?_⟩
  have hl := fk_sort_len h
  have hk2 := fun (env : EnvD) (S : Sto) => kSK2_map (env := env) (st := S) (ks := fk (nm b) (sortR rows)) (f := fun k => .ref (st.length + (ix k + 1))) (by omega)
  simp [-x_kSK2, m_laid, b_laid, toF_def, env0, sp_check_rows hb h, e1, sg0, hk2]
  rw [comp_all (f := fun k => .tup [.str k, .tup ((rowsAt b (sortR rows) k).map rowD)]) (by rw [len_sortS]; omega)]
  · simp [laidL]
  · intro k hk
    have hk := mem_sortS.mp hk
    have hrl := rowsAt_len (k := k) h
    simp [sg0, sg, lk_map, hk, hat k hk]
end
end VP
namespace VP
local instance inst_SP3 : VE.VEnv := VE.VEnv.dummy
open PySem PySem.Spec PyProof.Rows L2 VE
open SX (S S_len S_cat S_inj)
structure Cel where
  first : Int
  count : Int
  kind : Str
def Cel.d (c : Cel) : D := .ino "Cell" ["first", "count", "kind"] [.int c.first, .int c.count, .str c.kind]
section
variable {env : EnvD} {st : Sto} {c : Cel}
@[simp] theorem cel_first : flU "Cell" "first" c.d env st = .ok (.int c.first) env st := rfl
@[simp] theorem cel_count : flU "Cell" "count" c.d env st = .ok (.int c.count) env st := rfl
@[simp] theorem cel_kind : flU "Cell" "kind" c.d env st = .ok (.str c.kind) env st := rfl
end
section
variable {st : Sto} {env : EnvD} {b : Bok} {n : Int} {k : Str} {ks : List Str} {ends : List Int} {p : Int × Int}
end
end VP
namespace VP
local instance inst_SP4 : VE.VEnv := VE.VEnv.dummy
open PySem PySem.Spec PyProof.Rows L2 VE
open SX (S S_len S_cat S_inj)
section
variable {α : Type} {t : D → EnvD → Option EnvD} {ws : List Nat} {g : α → D} {st : Sto} {tt : M Bool} {fe : M D}
end
section
variable {st cs : List Cell} {x : Cell} {j : Nat}
end
section
variable {st : Sto} {env : EnvD} {b : Bok} {n : Int} {k : Str} {m : Int}
end
end VP
namespace VP
local instance inst_SP5 : VE.VEnv := VE.VEnv.dummy
open PySem PySem.Spec PyProof.Rows L2 VE
open SX (S S_len S_cat S_inj)
section
variable {b : Bok} {n m lo hi : Int} {k : Str} {p : Option Str}
end
end VP
namespace VP
local instance inst_SP6 : VE.VEnv := VE.VEnv.dummy
open PySem PySem.Spec PyProof.Rows L2 VE
open SX (S S_len S_cat S_inj)
section
variable {b : Bok} {n m lo hi : Int} {k : Str} {p : Option Str}
end
end VP
namespace VP
local instance inst_SP7 : VE.VEnv := VE.VEnv.dummy
open PySem PySem.Spec PyProof.Rows L2 VE
open SX (S S_len S_cat S_inj)
section
variable {b : Bok} {n m lo hi : Int} {k : Str} {p : Option Str}
end
end VP
namespace VP
local instance inst_SE3 : VE.VEnv := VE.VEnv.dummy
open PySem PySem.Spec PyProof.Rows L2 VE
open SX (S S_len S_cat S_inj)
section
variable {ns : List Int} {c : Cell} {rest st : Sto} {env : EnvD} {b : Bok} {r : Rul} {n : Int} {k : Str} {ks : List Str} {rs : List Rul}
theorem sp_check_row (hb : BokOk b) (h : RowOk b n k) : m_check_row [b.d, .tup [.int n, .str k]] st = .ok .non st := by
  have h5 := in_strs (neg := true) (hb.kinds.ok k h.k) hb.kinds.ok
  have h1 := h.n1
  unfold LASTn at h1
  have h6 : (b.kinds.any fun z => decide (z = k)) = true := by simpa using h.k
  simp [m_check_row, b_check_row, toF_def, env0, k_LAST, sp_is_number, h5, h.n0, h1, h6]
theorem sp_piece_of (hb : BokOk b) (h : RowOk b n k) : m_piece_of [b.d, .tup [.int n, .str k]] st = .ok (optS (b.place n k)) st := by
  simp [m_piece_of, b_piece_of, toF_def, env0, sp_check_row hb h, sp_place_of hb (hb.kinds.ok k h.k)]
end
end VP
namespace VP
local instance inst_SP8 : VE.VEnv := VE.VEnv.dummy
open PySem PySem.Spec PyProof.Rows L2 VE
open SX (S S_len S_cat S_inj)
section
variable {st : Sto} {env : EnvD} {b : Bok} {n lo hi : Int} {k : Str} {p : Option Str}
theorem optS_pl {n : Nat} (h : ∀ s, p = some s → PyData.strOk s = true) : plain n (optS p) = true := by
  cases p with
  | none => cases n <;> simp [optS, VE.plain]
  | some s => rw [optS, pl_str]; exact h s rfl
theorem place_pl (hb : BokOk b) {m : Nat} : plain m (optS (b.place n k)) = true := optS_pl fun s hs => by
  unfold Bok.place at hs
  obtain ⟨r, hr, rfl⟩ := Option.map_eq_some_iff.mp hs
  exact (hb.rules r (List.mem_of_find?_eq_some hr)).piece.ok
end
end VP
namespace VP
local instance inst_SP9 : VE.VEnv := VE.VEnv.dummy
open PySem PySem.Spec PyProof.Rows L2 VE
open SX (S S_len S_cat S_inj)
section
variable {t : D → EnvD → Option EnvD} {ws : List Nat} {body : M Fl} {E0 : EnvD}
end
theorem ltS_irr {x : Str} : ltS x x = false := by
  unfold ltS
  exact decide_eq_false (List.lt_irrefl _)
section
variable {ns : List Int} {c : Cell} {rest st : Sto} {env : EnvD} {b b' : Bok} {r : Rul} {n w : Int} {k : Str} {ks : List Str} {rs : List Rul} {p : Option Str}
/-- rows in order -/
def ltR (p q : Int × Str) : Bool := if p.1 = q.1 then ltS p.2 q.2 else decide (p.1 < q.1)
end
end VP
namespace VP
local instance inst_SC1 : VE.VEnv := VE.VEnv.dummy
open PySem PySem.Spec PyProof.Rows L2 VE
open SX (S S_len S_cat S_inj)
section
variable {α β : Type} {f g : α → Int} {xs ys : List α}
end
section
variable {ks : List Str} {P P' : Int → Str → Bool} {lo hi : Int} {ends : List Int} {b : Bok} {p : Option Str}
end
end VP
namespace VP
local instance inst_SC2 : VE.VEnv := VE.VEnv.dummy
open PySem PySem.Spec PyProof.Rows L2 VE
open SX (S S_len S_cat S_inj)
section
variable {st : Sto} {env : EnvD} {b : Bok} {n : Int} {k : Str} {ks : List Str} {ends : List Int} {P : Int → Str → Bool} {p : Option Str} {i : Nat} {cells : List (Str × Addr)} {vals : List (Str × D)}
end
end VP
namespace VP
local instance inst_SF1 : VE.VEnv := VE.VEnv.dummy
open PySem PySem.Spec PyProof.Rows L2 VE
open SX (S S_len S_cat S_inj)
section
variable {st : Sto} {env : EnvD} {b : Bok} {n m lo hi : Int} {k s : Str} {ks : List Str} {ends : List Int} {P : Int → Str → Bool} {p : Option Str}
end
end VP
namespace VP
local instance inst_SG1 : VE.VEnv := VE.VEnv.dummy
open PySem PySem.Spec PyProof.Rows L2 VE
open SX (S S_len S_cat S_inj)
theorem ltR_lex {p q : Int × Str} : ltR p q = lexK (kR p) (kR q) := by
  obtain ⟨a, x⟩ := p
  obtain ⟨c, y⟩ := q
  unfold ltR kR
  simp only [lexK]
  by_cases h : a = c
  · subst h
    by_cases h2 : x = y
    · subst h2
      simp [ltS_irr]
    · simp [h2]
      rfl
  · have : ¬ (Sum.inl a : Key) = Sum.inl c := fun z => h (Sum.inl.inj z)
    rw [if_neg h, if_neg this]; rfl
theorem kR_inj {p q : Int × Str} (h : kR p = kR q) : p = q := by
  obtain ⟨a, x⟩ := p
  obtain ⟨c, y⟩ := q
  unfold kR at h
  simp at h
  rw [h.1, h.2]
theorem ltR_irr {p : Int × Str} : ltR p p = false := by rw [ltR_lex]; exact lexK_irr _
theorem ltR_asym {p q : Int × Str} (h : ltR p q = true) : ltR q p = false := by rw [ltR_lex] at *; exact lexK_asym h
theorem ltR_tot {p q : Int × Str} (h : ltR p q = false) (h2 : ltR q p = false) : p = q := by rw [ltR_lex] at *; exact kR_inj (lexK_tot h h2)
section
variable {st : Sto} {env : EnvD} {b : Bok} {n m lo hi : Int} {k s : Str} {ks : List Str} {ends : List Int} {P Q : Int → Str → Bool} {p : Option Str} {o o' : Option (Int × Str)} {i : Nat} {cells : List (Str × Addr)} {vals : List (Str × D)}
def Cel.row (c : Cel) : Int × Str := (c.first, c.kind)
end
end VP
namespace VP
local instance inst_SM1 : VE.VEnv := VE.VEnv.dummy
open PySem PySem.Spec PyProof.Rows L2 VE
open SX (S S_len S_cat S_inj)
section
variable {st : Sto} {env : EnvD} {b b' : Bok} {n m lo hi : Int} {k s : Str} {ks : List Str} {P : Int → Str → Bool} {p : Option Str} {o : Option (Int × Str)}
end
end VP
namespace VP
local instance inst_SM2 : VE.VEnv := VE.VEnv.dummy
open PySem PySem.Spec PyProof.Rows L2 VE
open SX (S S_len S_cat S_inj)
section
variable {b b' : Bok} {n m lo hi : Int} {k s : Str} {ks : List Str} {P : Int → Str → Bool} {rows : List (Int × Str)}
/-- strictly ascending lists of the same rows are the same -/
theorem asc_uniq : ∀ {xs ys : List (Int × Str)}, xs.Pairwise (fun p q => ltR p q = true) → ys.Pairwise (fun p q => ltR p q = true) → (∀ q, q ∈ xs ↔ q ∈ ys) → xs = ys
  | [], [], _, _, _ => rfl
  | [], y :: ys, _, _, h => by have := (h y).mpr List.mem_cons_self; cases this
  | x :: xs, [], _, _, h => by have := (h x).mp List.mem_cons_self; cases this
  | x :: xs, y :: ys, h1, h2, h => by
    obtain ⟨a1, a2⟩ := List.pairwise_cons.mp h1
    obtain ⟨c1, c2⟩ := List.pairwise_cons.mp h2
    have e : x = y := by
      rcases List.mem_cons.mp ((h x).mp List.mem_cons_self) with e | hx
      · exact e
      · rcases List.mem_cons.mp ((h y).mpr List.mem_cons_self) with e | hy
        · exact e.symm
        · have := c1 x hx
          rw [ltR_asym (a1 y hy)] at this; cases this
    subst e
    congr 1
    refine asc_uniq a2 c2 fun q => ⟨fun hq => ?_, fun hq => ?_⟩
    · rcases List.mem_cons.mp ((h q).mp (List.mem_cons_of_mem _ hq)) with rfl | h
      · have := a1 q hq; rw [ltR_irr] at this; cases this
      · exact h
    · rcases List.mem_cons.mp ((h q).mpr (List.mem_cons_of_mem _ hq)) with rfl | h
      · have := c1 q hq; rw [ltR_irr] at this; cases this
      · exact h
theorem sortR_pw (nd : rows.Nodup) : (sortR rows).Pairwise fun p q => ltR p q = true := by
  have h1 := srtB_srt (k := kR) rows
  have h2 : (sortR rows).Nodup := (srtB_perm (k := kR) rows).nodup_iff.mpr nd
  have h3 := List.Pairwise.and h1 h2
  refine h3.imp fun {a c} hab => ?_
  obtain ⟨x1, x2⟩ := hab
  have x1 : lexK (kR c) (kR a) = false := x1
  rw [← ltR_lex] at x1
  cases q : ltR a c with
  | true => rfl
  | false => exact absurd (ltR_tot q x1) x2
theorem asc_nodup {xs : List (Int × Str)} (h : xs.Pairwise fun p q => ltR p q = true) : xs.Nodup := h.imp fun {a c} h e => by subst e; rw [ltR_irr] at h; cases h
theorem sortR_eq {xs ys : List (Int × Str)} (nd : xs.Nodup) (h : ys.Pairwise fun p q => ltR p q = true) (hm : ∀ q, q ∈ xs ↔ q ∈ ys) : sortR xs = ys :=
  asc_uniq (sortR_pw nd) h fun q => mem_sortR.trans (hm q)
theorem sortR_asc {xs : List (Int × Str)} (h : xs.Pairwise fun p q => ltR p q = true) : sortR xs = xs := sortR_eq (asc_nodup h) h fun _ => Iff.rfl
theorem sortR_same {xs ys : List (Int × Str)} (nd : xs.Nodup) (nd' : ys.Nodup) (hm : ∀ q, q ∈ xs ↔ q ∈ ys) : sortR xs = sortR ys := sortR_eq nd (sortR_pw nd') fun q => (hm q).trans mem_sortR.symm
end
end VP
namespace VP
local instance inst_TB1 : VE.VEnv := VE.VEnv.dummy
open PySem PySem.Spec PyProof.Rows L2 VE
open SX (S S_len S_cat S_inj)
def cntsT (b : Bok) (ss : List (Int × Str)) : List D := (sortS (fk (nm b) ss)).map fun k => .tup [.str k, .int ((rowsAt b ss k).length : Nat)]
def facD (b : Bok) (rows : List (Int × Str)) : D := .tup [b.d, .tup (rows.map rowD), .tup (cntsT b (sortR rows))]
def upF {α : Type} (f : Nat → α) (i : Nat) (v : α) : Nat → α := fun j => if j = i then v else f j
theorem upF_at {α : Type} {f : Nat → α} {i : Nat} {v : α} : upF f i v i = v := if_pos rfl
theorem upF_ne {α : Type} {f : Nat → α} {i j : Nat} {v : α} (h : j ≠ i) : upF f i v j = f j := if_neg h
/-- the operations in effect, those that were undone: n operations, p of them in effect -/
def pastL (op fs sh : Nat → D) (p : Nat) : List D := (List.range p).map fun i => .tup [op i, fs i, sh i]
def undL (op fs sh : Nat → D) (n p : Nat) : List D := (List.range (n - p)).map fun j => .tup [op (n - 1 - j), fs (n - j), sh (n - j)]
def hstC (op fs sh : Nat → D) (n p : Nat) : Cell := .slo "State" [fs p, .tup (pastL op fs sh p), sh p, .tup (undL op fs sh n p)]
@[reducible] def tabC (u : Nat) : Cell := .ins "Table" [("held", .ref u)]
structure Tb (st : Sto) (q u : Nat) (op fs sh : Nat → D) (n p : Nat) : Prop where
  tab : st[q]? = some (tabC u)
  sta : st[u]? = some (hstC op fs sh n p)
  ne : q ≠ u
  pn : p ≤ n
  nb : n < 1000
theorem pastL_succ {op fs sh : Nat → D} {p : Nat} : pastL op fs sh (p + 1) = pastL op fs sh p ++ [.tup [op p, fs p, sh p]] := by
  unfold pastL
  rw [List.range_succ, List.map_append]
  rfl
theorem pastL_len {op fs sh : Nat → D} {p : Nat} : (pastL op fs sh p).length = p := by unfold pastL; rw [List.length_map, List.length_range]
theorem undL_len {op fs sh : Nat → D} {n p : Nat} : (undL op fs sh n p).length = n - p := by unfold undL; rw [List.length_map, List.length_range]
theorem undL_pred {op fs sh : Nat → D} {n p : Nat} (h : p < n) : undL op fs sh n p = undL op fs sh n (p + 1) ++ [.tup [op p, fs (p + 1), sh (p + 1)]] := by
  unfold undL
  rw [show n - p = (n - (p + 1)) + 1 from by omega, List.range_succ, List.map_append]
  show _ ++ [D.tup [op (n - 1 - (n - (p + 1))), fs (n - (n - (p + 1))), sh (n - (n - (p + 1)))]] = _
  rw [show n - 1 - (n - (p + 1)) = p from by omega, show n - (n - (p + 1)) = p + 1 from by omega]
theorem undL_nil {op fs sh : Nat → D} {n : Nat} : undL op fs sh n n = [] := by unfold undL; rw [Nat.sub_self]; rfl
theorem pastL_up {op fs sh : Nat → D} {p : Nat} {o F s : D} : pastL (upF op p o) (upF fs (p + 1) F) (upF sh (p + 1) s) (p + 1) = pastL op fs sh p ++ [.tup [o, fs p, sh p]] := by
  rw [pastL_succ, upF_at, upF_ne (by omega), upF_ne (by omega)]
  congr 1
  unfold pastL
  apply List.map_congr_left
  intro i hi
  have := List.mem_range.mp hi
  rw [upF_ne (by omega), upF_ne (by omega), upF_ne (by omega)]
theorem atI_last {xs : List D} {x : D} : atI (xs ++ [x]) (-1) = some x := by
  have h : ixN (xs ++ [x]).length (-1) = some xs.length := by
    unfold ixN
    simp
    omega
  unfold atI
  rw [h]
  simp
theorem cut_last {xs : List D} {x : D} : VE.cutD (xs ++ [x]) none (some (-1)) = xs := by
  unfold VE.cutD
  have h1 : HT.sIx (xs ++ [x]).length 0 none = 0 := rfl
  have h2 : HT.sIx (xs ++ [x]).length (xs ++ [x]).length (some (-1)) = xs.length := by
    simp only [HT.sIx, List.length_append, List.length_singleton]
    split <;> omega
  rw [h1, h2]
  simp
section
variable {st : Sto} {env : EnvD} {b b' : Bok} {q u v n p : Nat} {k : Str} {rows : List (Int × Str)} {r : Int × Str} {F F2 o s : D} {op fs sh : Nat → D}
theorem sp_facts_of (hb : BokOk b) (h : RowsOk b rows) : ∃ ext, m_facts_of [b.d, .tup (rows.map rowD)] st = .ok (facD b rows) (st ++ ext) := by
  obtain ⟨S, e1, ix, cells, rfl, hcl, hat, _⟩ := sp_by_pieces (st := st) hb h
  refine ⟨.dct ((fk (nm b) (sortR rows)).map fun k => ((.inr k : Key), .ref (st.length + (ix k + 1)))) :: cells, ?_⟩
  have hl := fk_sort_len h
  have hk2 := fun (env : EnvD) (S : Sto) => kSK2_map (env := env) (st := S) (ks := fk (nm b) (sortR rows)) (f := fun k => .ref (st.length + (ix k + 1))) (by omega)
  simp [-x_kSK2, m_facts_of, b_facts_of, toF_def, env0, e1, sg0, hk2]
  rw [comp_all (f := fun k => .tup [.str k, .int ((rowsAt b (sortR rows) k).length : Nat)]) (by rw [len_sortS]; omega)]
  · have h16 : (sortS (fk (nm b) (sortR rows))).length ≤ 16777216 := by rw [len_sortS]; omega
    simp [facD, cntsT, h16]
  · intro k hk
    have hk := mem_sortS.mp hk
    have hrl := rowsAt_len (k := k) h
    simp [sg0, sg, lk_map, hk, hat k hk]
theorem Tb.lt (h : Tb st q u op fs sh n p) : u < st.length := (List.getElem?_eq_some_iff.mp h.sta).1
theorem Tb.to (h : Tb st q u op fs sh n p) {op' fs' sh' : Nat → D} {n' p' : Nat} (h1 : p' ≤ n') (h2 : n' < 1000) : Tb (st.set u (hstC op' fs' sh' n' p')) q u op' fs' sh' n' p' :=
  ⟨by rw [List.getElem?_set_ne (Ne.symm h.ne)]; exact h.tab, List.getElem?_set_self h.lt, h.ne, h1, h2⟩
theorem Tb.app (h : Tb st q u op fs sh n p) (ext : Sto) : Tb (st ++ ext) q u op fs sh n p :=
  ⟨by rw [List.getElem?_append_left (List.getElem?_eq_some_iff.mp h.tab).1]; exact h.tab, by rw [List.getElem?_append_left h.lt]; exact h.sta, h.ne, h.pn, h.nb⟩
theorem sp_go_on (h : st[u]? = some (hstC op fs sh n p)) (hp : p < 1000) : m_State_go_on [.ref u, o, F, s] st = .ok .non (st.set u (hstC (upF op p o) (upF fs (p + 1) F) (upF sh (p + 1) s) (p + 1) (p + 1))) := by
  have hul : u < st.length := (List.getElem?_eq_some_iff.mp h).1
  have h2 : ∀ c : Cell, (st.set u c)[u]? = some c := fun c => List.getElem?_set_self hul
  have hl : (pastL op fs sh p).length + 1 ≤ 16777216 := by rw [pastL_len]; omega
  unfold hstC at h
  simp [m_State_go_on, b_State_go_on, toF_def, env0, h, h2, hl, hstC, pastL_up, undL_nil, upF_at]
theorem sp_go_back (h : st[u]? = some (hstC op fs sh n (p + 1))) (hn : p + 1 ≤ n) (hb : n < 1000) : m_State_go_back [.ref u] st = .ok .non (st.set u (hstC op fs sh n p)) := by
  have hul : u < st.length := (List.getElem?_eq_some_iff.mp h).1
  have h2 : ∀ c : Cell, (st.set u c)[u]? = some c := fun c => List.getElem?_set_self hul
  have hl : (undL op fs sh n (p + 1)).length + 1 ≤ 16777216 := by rw [undL_len]; omega
  have hl2 : (pastL op fs sh p).length ≤ 16777216 := by rw [pastL_len]; omega
  unfold hstC at h
  rw [pastL_succ] at h
  simp [m_State_go_back, b_State_go_back, toF_def, env0, h, h2, hl, atI_last, cut_last, hstC, undL_pred (show p < n from hn)]
theorem sp_go_again (h : st[u]? = some (hstC op fs sh n p)) (hn : p < n) (hb : n < 1000) : m_State_go_again [.ref u] st = .ok .non (st.set u (hstC op fs sh n (p + 1))) := by
  have hul : u < st.length := (List.getElem?_eq_some_iff.mp h).1
  have h2 : ∀ c : Cell, (st.set u c)[u]? = some c := fun c => List.getElem?_set_self hul
  have hl : (pastL op fs sh p).length + 1 ≤ 16777216 := by rw [pastL_len]; omega
  unfold hstC at h
  rw [undL_pred hn] at h
  simp [m_State_go_again, b_State_go_again, toF_def, env0, h, h2, hl, atI_last, cut_last, hstC, pastL_succ]
theorem sp_undo (h : Tb st q u op fs sh n p) : m_Table_undo [.ref q] st = if p = 0 then .ok (.bl false) st else .ok (.bl true) (st.set u (hstC op fs sh n (p - 1))) := by
  have h1 := h.tab
  have h2 := h.sta
  have h3 := h.pn
  have h4 := h.nb
  have e : st[u]? = some (.slo "State" [fs p, .tup (pastL op fs sh p), sh p, .tup (undL op fs sh n p)]) := h2
  cases p with
  | zero =>
    have hp : pastL op fs sh 0 = [] := rfl
    rw [hp] at e
    simp [m_Table_undo, b_Table_undo, toF_def, env0, h1, e]
  | succ p =>
    have hg := sp_go_back h2 h3 h4
    have hne : (pastL op fs sh (p + 1)).isEmpty = false := by rw [pastL_succ]; simp
    simp [m_Table_undo, b_Table_undo, toF_def, env0, h1, e, hne, hg]
theorem sp_redo (h : Tb st q u op fs sh n p) : m_Table_redo [.ref q] st = if p = n then .ok (.bl false) st else .ok (.bl true) (st.set u (hstC op fs sh n (p + 1))) := by
  have h1 := h.tab
  have h2 := h.sta
  have h3 := h.pn
  have h4 := h.nb
  have e : st[u]? = some (.slo "State" [fs p, .tup (pastL op fs sh p), sh p, .tup (undL op fs sh n p)]) := h2
  by_cases hp : p = n
  · subst hp
    rw [undL_nil] at e
    simp [m_Table_redo, b_Table_redo, toF_def, env0, h1, e]
  · have hlt : p < n := by omega
    have hg := sp_go_again h2 hlt h4
    have hne : (undL op fs sh n p).isEmpty = false := by rw [undL_pred hlt]; simp
    simp [m_Table_redo, b_Table_redo, toF_def, env0, h1, e, hne, hg, hp]
theorem sp_book_now (h : Tb st q u op fs sh n p) (hf : fs p = facD b rows) : m_Table_book_now [.ref q] st = .ok b.d st := by
  have h1 := h.tab
  have e : st[u]? = some (.slo "State" [fs p, .tup (pastL op fs sh p), sh p, .tup (undL op fs sh n p)]) := h.sta
  rw [hf] at e
  simp [m_Table_book_now, b_Table_book_now, toF_def, env0, h1, e, facD]
theorem sp_rows_now (h : Tb st q u op fs sh n p) (hf : fs p = facD b rows) (hl : rows.length ≤ 1000) : m_Table_rows_now [.ref q] st = .ok (.lst (rows.map rowD)) st := by
  have h1 := h.tab
  have e : st[u]? = some (.slo "State" [fs p, .tup (pastL op fs sh p), sh p, .tup (undL op fs sh n p)]) := h.sta
  rw [hf] at e
  have hl2 : rows.length ≤ 16777216 := by omega
  simp [m_Table_rows_now, b_Table_rows_now, toF_def, env0, h1, e, facD, hl2]
theorem sp_counts_now (h : Tb st q u op fs sh n p) (hf : fs p = facD b rows) (hl : (cntsT b (sortR rows)).length ≤ 1000) : m_Table_counts_now [.ref q] st = .ok (.lst (cntsT b (sortR rows))) st := by
  have h1 := h.tab
  have e : st[u]? = some (.slo "State" [fs p, .tup (pastL op fs sh p), sh p, .tup (undL op fs sh n p)]) := h.sta
  rw [hf] at e
  have hl2 : (cntsT b (sortR rows)).length ≤ 16777216 := by omega
  simp [m_Table_counts_now, b_Table_counts_now, toF_def, env0, h1, e, facD, hl2]
theorem sp_history (h : Tb st q u op fs sh n p) : m_Table_history [.ref q] st = .ok (.lst ((List.range p).map op)) st := by
  have h1 := h.tab
  have e : st[u]? = some (.slo "State" [fs p, .tup (pastL op fs sh p), sh p, .tup (undL op fs sh n p)]) := h.sta
  have h3 := h.pn
  have h4 := h.nb
  simp [m_Table_history, b_Table_history, toF_def, env0, h1, e]
  unfold pastL
  rw [comp_all (f := fun i => op i) (by rw [List.length_range]; omega)]
  · simp
  · intro i hi
    simp
end
end VP
namespace VP
local instance inst_TB2 : VE.VEnv := VE.VEnv.dummy
open PySem PySem.Spec PyProof.Rows L2 VE
open SX (S S_len S_cat S_inj)
/-- but for u, what stood there stands there -/
def Grow (st st' : Sto) (u : Nat) : Prop := ∀ (i : Nat) (c : Cell), i ≠ u → st[i]? = some c → st'[i]? = some c
section
variable {st st' : Sto} {env : EnvD} {b b' : Bok} {q u v n p : Nat} {k : Str} {rows : List (Int × Str)} {r : Int × Str} {F F2 o s : D} {op fs sh : Nat → D}
theorem Grow.refl : Grow st st u := fun _ _ _ h => h
theorem Grow.set {c : Cell} : Grow st (st.set u c) u := fun i x h e => by rw [List.getElem?_set_ne (Ne.symm h)]; exact e
theorem Grow.app {ext : Sto} : Grow st (st ++ ext) u := fun i x h e => by rw [List.getElem?_append_left (List.getElem?_eq_some_iff.mp e).1]; exact e
theorem Grow.trans {st2 : Sto} (h : Grow st st' u) (h2 : Grow st' st2 u) : Grow st st2 u := fun i c hi e => h2 i c hi (h i c hi e)
theorem RowsOk.sorted (h : RowsOk b rows) : RowsOk b (sortR rows) := ⟨fun p hp => h.r p (mem_sortR.mp hp), (srtB_perm (k := kR) rows).nodup_iff.mpr h.nd, by rw [sortR_len]; exact h.len⟩
theorem RowsOk.snoc (h : RowsOk b rows) (hr : RowOk b r.1 r.2) (hn : r ∉ rows) (hl : rows.length < 30) : RowsOk b (rows ++ [r]) := by
  refine ⟨fun p hp => ?_, ?_, by simp; omega⟩
  · rcases List.mem_append.mp hp with h2 | h2
    · exact h.r p h2
    · rw [List.mem_singleton] at h2; subst h2; exact hr
  · rw [List.nodup_append]
    exact ⟨h.nd, by simp, fun a ha c hc => by rw [List.mem_singleton] at hc; rw [hc]; exact fun e => hn (e ▸ ha)⟩
theorem RowsOk.sub (h : RowsOk b rows) {P : Int × Str → Bool} : RowsOk b (rows.filter P) := ⟨fun p hp => h.r p (List.mem_filter.mp hp).1, h.nd.filter _, Nat.le_trans (List.length_filter_le _ _) h.len⟩
theorem RowsOk.kinds (h : RowsOk b rows) (e : b.kinds = b'.kinds) : RowsOk b' rows := ⟨fun p hp => ⟨(h.r p hp).n0, (h.r p hp).n1, by rw [← e]; exact (h.r p hp).k⟩, h.nd, h.len⟩
theorem sp_put (h : Tb st q u op fs sh n p) (hf : fs p = facD b rows) (hb : BokOk b) (hR : RowsOk b rows) (hr : RowOk b r.1 r.2) (hn : r ∉ rows) (hl : rows.length < 30) (hp : p < 999) :
    ∃ st', m_Table_put [.ref q, rowD r] st = .ok (optS (b.place r.1 r.2)) st' ∧ Tb st' q u (upF op p (.tup [.str "put", rowD r])) (upF fs (p + 1) (facD b (sortR (rows ++ [r])))) (upF sh (p + 1) (sh p)) (p + 1) (p + 1) ∧ Grow st st' u := by
  have h1 := h.tab
  have e : st[u]? = some (.slo "State" [fs p, .tup (pastL op fs sh p), sh p, .tup (undL op fs sh n p)]) := h.sta
  rw [hf] at e
  have hR2 := (hR.snoc hr hn hl).sorted
  obtain ⟨ext, hfa⟩ := sp_facts_of (st := st) hb hR2
  have hg := sp_go_on (o := .tup [.str "put", rowD r]) (F := facD b (sortR (rows ++ [r]))) (s := sh p) (h.app ext).sta (by omega)
  refine ⟨_, ?_, (h.app ext).to (Nat.le_refl _) (by omega), Grow.app.trans Grow.set⟩
  have hck := sp_check_row (st := st) hb hr
  have hin := in_rowsT (neg := false) (hb.kinds.ok r.2 hr.k) (fun p hp => hb.kinds.ok p.2 (hR.r p hp).k) (q := r) (rows := rows)
  rw [decide_eq_false hn] at hin
  have hne : ¬ ((rows.length : Int) = 30) := by omega
  have hl2 : rows.length + 1 ≤ 16777216 := by omega
  have e3 : (st ++ ext)[u]? = some (.slo "State" [facD b rows, .tup (pastL op fs sh p), sh p, .tup (undL op fs sh n p)]) := by
    have := (h.app ext).sta
    unfold hstC at this
    rw [hf] at this
    exact this
  have h3 := (h.app ext).tab
  have hpl := fun st => sp_place_of (st := st) (n := r.1) hb (hb.kinds.ok r.2 hr.k)
  have hso : sortedD (.lst (rows.map rowD ++ [rowD r])) = some (.lst ((sortR (rows ++ [r])).map rowD)) := by
    have := sortedL_rows (rows := rows ++ [r])
    rwa [List.map_append] at this
  have hsl : (sortR (rows ++ [r])).length ≤ 16777216 := by rw [sortR_len]; simp; omega
  have rd : rowD r = .tup [.int r.1, .str r.2] := rfl
  rw [← rd] at hck
  have hvw : ∀ st, vw st (rowD r) = rowD r := fun _ => rfl
  have e' : st[u]? = some (.slo "State" [.tup [b.d, .tup (rows.map rowD), .tup (cntsT b (sortR rows))], .tup (pastL op fs sh p), sh p, .tup (undL op fs sh n p)]) := e
  have ix0 : ∀ env st, ixA (rowD r) (.int 0) env st = .ok (.int r.1) env st := fun _ _ => rfl
  have ix1 : ∀ env st, ixA (rowD r) (.int 1) env st = .ok (.str r.2) env st := fun _ _ => rfl
  simp [m_Table_put, b_Table_put, toF_def, env0, h1, e', hck, hin, hne, k_MAX_ROWS, hl2, hso, hsl, hvw, hfa, h3, e3, hg, ix0, ix1, hpl]
theorem sp_drop (h : Tb st q u op fs sh n p) (hf : fs p = facD b rows) (hb : BokOk b) (hR : RowsOk b rows) (hm : r ∈ rows) (hp : p < 999) :
    ∃ st', m_Table_drop [.ref q, rowD r] st = .ok (optS (b.place r.1 r.2)) st' ∧ Tb st' q u (upF op p (.tup [.str "drop", rowD r])) (upF fs (p + 1) (facD b (rows.filter fun x => !decide (x = r)))) (upF sh (p + 1) (sh p)) (p + 1) (p + 1) ∧ Grow st st' u := by
  have h1 := h.tab
  have e : st[u]? = some (.slo "State" [fs p, .tup (pastL op fs sh p), sh p, .tup (undL op fs sh n p)]) := h.sta
  rw [hf] at e
  have hr := hR.r r hm
  have hR2 : RowsOk b (rows.filter fun x => !decide (x = r)) := hR.sub
  obtain ⟨ext, hfa⟩ := sp_facts_of (st := st) hb hR2
  have hg := sp_go_on (o := .tup [.str "drop", rowD r]) (F := facD b (rows.filter fun x => !decide (x = r))) (s := sh p) (h.app ext).sta (by omega)
  refine ⟨_, ?_, (h.app ext).to (Nat.le_refl _) (by omega), Grow.app.trans Grow.set⟩
  have hck := sp_check_row (st := st) hb hr
  have hin := in_rowsT (neg := true) (hb.kinds.ok r.2 hr.k) (fun p hp => hb.kinds.ok p.2 (hR.r p hp).k) (q := r) (rows := rows)
  rw [decide_eq_true hm] at hin
  have e3 : (st ++ ext)[u]? = some (.slo "State" [facD b rows, .tup (pastL op fs sh p), sh p, .tup (undL op fs sh n p)]) := by
    have := (h.app ext).sta
    unfold hstC at this
    rw [hf] at this
    exact this
  have h3 := (h.app ext).tab
  have hpl := fun st => sp_place_of (st := st) (n := r.1) hb (hb.kinds.ok r.2 hr.k)
  have rd : rowD r = .tup [.int r.1, .str r.2] := rfl
  rw [← rd] at hck
  have hvw : ∀ st, vw st (rowD r) = rowD r := fun _ => rfl
  have e' : st[u]? = some (.slo "State" [.tup [b.d, .tup (rows.map rowD), .tup (cntsT b (sortR rows))], .tup (pastL op fs sh p), sh p, .tup (undL op fs sh n p)]) := e
  have ix0 : ∀ env st, ixA (rowD r) (.int 0) env st = .ok (.int r.1) env st := fun _ _ => rfl
  have ix1 : ∀ env st, ixA (rowD r) (.int 1) env st = .ok (.str r.2) env st := fun _ _ => rfl
  have hlen := hR.len
  have hl2 : (rows.filter fun x => !decide (x = r)).length ≤ 16777216 := by have := hR2.len; omega
  simp [m_Table_drop, b_Table_drop, toF_def, env0, h1, e', hck, hin, hvw]
  rw [comp_map (p := fun x : Int × Str => !decide (x = r)) (f := rowD) (by omega)]
  · simp [hl2, hfa, h1, e', h3, e3, hg, ix0, ix1, hpl]
  · intro x hx
    have p1 := pl_row (n := 19) (hb.kinds.ok x.2 (hR.r x hx).k)
    have p2 := pl_row (n := 19) (hb.kinds.ok r.2 hr.k)
    have hne : neP (rowD x) (rowD r) = some (.bl (!decide (x = r))) := by rw [x_neP p1 p2, eq_row]
    have hvx : ∀ st, vw st (rowD x) = rowD x := fun _ => rfl
    simp [hne, hvx, hvw]
theorem sp_rebook (h : Tb st q u op fs sh n p) (hf : fs p = facD b rows) (hb : BokOk b) (hb' : BokOk b') (he : b.kinds = b'.kinds) (hR : RowsOk b rows) (hp : p < 999) :
    ∃ st', m_Table_rebook [.ref q, b'.d] st = .ok (.int ((movesR b b' rows).length : Nat)) st' ∧ Tb st' q u (upF op p (.tup [.str "rebook", b'.d])) (upF fs (p + 1) (facD b' rows)) (upF sh (p + 1) (sh p)) (p + 1) (p + 1) ∧ Grow st st' u := by
  have h1 := h.tab
  have e : st[u]? = some (.slo "State" [fs p, .tup (pastL op fs sh p), sh p, .tup (undL op fs sh n p)]) := h.sta
  rw [hf] at e
  obtain ⟨ext, hfa⟩ := sp_facts_of (st := st) hb' (hR.kinds he)
  have hg := sp_go_on (o := .tup [.str "rebook", b'.d]) (F := facD b' rows) (s := sh p) (h.app ext).sta (by omega)
  refine ⟨_, ?_, (h.app ext).to (Nat.le_refl _) (by omega), Grow.app.trans Grow.set⟩
  have hck := sp_check_books (st := st) hb hb' he
  have hmv := fun st => sp_moves_of (st := st) hb hb' he hR
  have e3 : (st ++ ext)[u]? = some (.slo "State" [facD b rows, .tup (pastL op fs sh p), sh p, .tup (undL op fs sh n p)]) := by
    have := (h.app ext).sta
    unfold hstC at this
    rw [hf] at this
    exact this
  have h3 := (h.app ext).tab
  have e' : st[u]? = some (.slo "State" [.tup [b.d, .tup (rows.map rowD), .tup (cntsT b (sortR rows))], .tup (pastL op fs sh p), sh p, .tup (undL op fs sh n p)]) := e
  have hml : (movesR b b' rows).length ≤ 16777216 := by
    have h5 : (movesR b b' rows).length ≤ (sortR rows).length := List.length_filter_le _ _
    rw [sortR_len] at h5
    have := hR.len
    omega
  simp [m_Table_rebook, b_Table_rebook, toF_def, env0, h1, e', hck, hfa, h3, e3, hg, hmv, lenD, hml]
theorem sp_keep (h : Tb st q u op fs sh n p) {m : Nat} {kvs : List (Key × D)} (hs : sh p = .ref m) (hm : st[m]? = some (.dct kvs)) (hmu : m ≠ u) (hk : kvs.length < 1000) (hw : ∀ st, m_is_name [.str k] st = .ok (.bl true) st) (hko : PyData.strOk k = true) (hp : p < 999) :
    ∃ st', m_Table_keep_as [.ref q, .str k] st = .ok (.bl (hasD (.inr k) kvs)) st' ∧ Tb st' q u (upF op p (.tup [.str "keep_as", .str k])) (upF fs (p + 1) (fs p)) (upF sh (p + 1) (.ref (st.length + 1))) (p + 1) (p + 1) ∧ Grow st st' u ∧ st'[st.length + 1]? = some (.dct (ptK kvs (.inr k) (fs p))) := by
  have h1 := h.tab
  have e : st[u]? = some (.slo "State" [fs p, .tup (pastL op fs sh p), sh p, .tup (undL op fs sh n p)]) := h.sta
  have hg := sp_go_on (o := .tup [.str "keep_as", .str k]) (F := fs p) (s := .ref (st.length + 1)) (h.app [.dct [(.inr k, fs p)], .dct (ptK kvs (.inr k) (fs p))]).sta (by omega)
  refine ⟨_, ?_, (h.app [.dct [(.inr k, fs p)], .dct (ptK kvs (.inr k) (fs p))]).to (Nat.le_refl _) (by omega), Grow.app.trans Grow.set, ?_⟩
  · have hq : q < st.length := (List.getElem?_eq_some_iff.mp h1).1
    have hu := h.lt
    have hml : m < st.length := (List.getElem?_eq_some_iff.mp hm).1
    have a1 : ∀ c : Cell, (st ++ [c])[u]? = st[u]? := fun c => List.getElem?_append_left hu
    have a2 : ∀ c : Cell, (st ++ [c])[m]? = st[m]? := fun c => List.getElem?_append_left hml
    rw [hs] at e
    have hk2 : kvs.length < 16777216 := by omega
    simp [m_Table_keep_as, b_Table_keep_as, toF_def, env0, h1, e, hw, hm, a1, a2, hk2, hg]
  · rw [List.getElem?_set_ne (by have := h.lt; omega)]
    simp
theorem sp_is_name {w : Str} (h : WOk w) : m_is_name [.str w] st = .ok (.bl true) st := by
  obtain ⟨L, rfl, h1, h8, hc⟩ := h
  have h2 : (1 : Int) ≤ L.length := by omega
  have h3 : (L.length : Int) ≤ 8 := by omega
  have h4 : L.length ≤ 16777216 := by omega
  simp [m_is_name, b_is_name, toF_def, env0, lenD, k_MAX_NAME, h2, h3, h4, signs_S, S_len]
  rw [comp_all (f := fun _ => .bl true) (by omega)]
  · simp [allD, blsF_map]
  · intro c hcm
    simp [k_LETTERS_tables, let_in (hc c hcm)]
theorem hasD_lk {ky : Key} {d : D} : ∀ {kvs : List (Key × D)}, lkK ky kvs = some d → hasD ky kvs = true
  | [], h => by cases h
  | (j, x) :: r, h => by
    unfold lkK at h
    unfold hasD
    by_cases e : j = ky
    · simp [e]
    · rw [if_neg e] at h
      simp [hasD_lk h]
theorem sp_fetch (h : Tb st q u op fs sh n p) {m : Nat} {kvs : List (Key × D)} (hs : sh p = .ref m) (hm : st[m]? = some (.dct kvs)) (hk : lkK (.inr k) kvs = some (facD b rows)) (hl : rows.length ≤ 1000) (hp : p < 999) :
    ∃ st', m_Table_fetch [.ref q, .str k] st = .ok (.int (rows.length : Nat)) st' ∧ Tb st' q u (upF op p (.tup [.str "fetch", .str k])) (upF fs (p + 1) (facD b rows)) (upF sh (p + 1) (.ref m)) (p + 1) (p + 1) ∧ Grow st st' u := by
  have h1 := h.tab
  have e : st[u]? = some (.slo "State" [fs p, .tup (pastL op fs sh p), sh p, .tup (undL op fs sh n p)]) := h.sta
  have hg := sp_go_on (o := .tup [.str "fetch", .str k]) (F := facD b rows) (s := .ref m) h.sta (by omega)
  have ht := h.to (op' := upF op p (.tup [.str "fetch", .str k])) (fs' := upF fs (p + 1) (facD b rows)) (sh' := upF sh (p + 1) (.ref m)) (Nat.le_refl (p + 1)) (by omega)
  refine ⟨_, ?_, ht, Grow.set⟩
  have t1 := ht.tab
  have t2 := ht.sta
  have t3 : (st.set u (hstC (upF op p (.tup [.str "fetch", .str k])) (upF fs (p + 1) (facD b rows)) (upF sh (p + 1) (.ref m)) (p + 1) (p + 1)))[u]? = some (.slo "State" [.tup [b.d, .tup (rows.map rowD), .tup (cntsT b (sortR rows))], .tup (pastL (upF op p (.tup [.str "fetch", .str k])) (upF fs (p + 1) (facD b rows)) (upF sh (p + 1) (.ref m)) (p + 1)), .ref m, .tup (undL (upF op p (.tup [.str "fetch", .str k])) (upF fs (p + 1) (facD b rows)) (upF sh (p + 1) (.ref m)) (p + 1) (p + 1))]) := by
    rw [t2]
    unfold hstC
    rw [upF_at, upF_at]
    rfl
  have hh : hasD (.inr k) kvs = true := by
    exact hasD_lk hk
  rw [hs] at e
  have hl2 : rows.length ≤ 16777216 := by omega
  simp [m_Table_fetch, b_Table_fetch, toF_def, env0, h1, e, hm, hh, hk, hg, t1, t3, lenD, hl2]
theorem sp_State_init {z1 z2 z3 z4 : D} : m_State_init [.ref st.length, z1, z2, z3, z4] (st ++ [.slo "State" []]) = .ok .non (st ++ [.slo "State" [z1, z3, z2, z4]]) := by
  have ss : ∀ c c' : Cell, (st ++ [c]).set st.length c' = st ++ [c'] := fun c c' => by simp
  have sg : ∀ c : Cell, (st ++ [c])[st.length]? = some c := fun c => by simp
  simp [m_State_init, b_State_init, toF_def, env0, ss, sg, reoS]
theorem sp_Table_init : m_Table_init [.ref st.length, b.d] (st ++ [.ins "Table" []]) = .ok .non (st ++ [tabC (st.length + 2), .dct [], hstC (fun _ => .non) (fun _ => facD b []) (fun _ => .ref (st.length + 1)) 0 0]) := by
  have hi := fun (z1 z2 z3 z4 : D) => sp_State_init (st := st ++ [.ins "Table" [], .dct []]) (z1 := z1) (z2 := z2) (z3 := z3) (z4 := z4)
  simp at hi
  have h0 : cntsT b (sortR []) = [] := rfl
  simp [m_Table_init, b_Table_init, toF_def, env0, hi]
  exact ⟨rfl, rfl⟩
theorem Tb.init (hq : q = st.length) : Tb (st ++ [tabC (st.length + 2), .dct [], hstC op fs sh 0 0]) q (st.length + 2) op fs sh 0 0 := by
  subst hq
  exact ⟨by simp, by simp, by omega, Nat.le_refl _, by omega⟩
def triF (a b c d : D) : List (Str × D) := [(("tested_table" : Str), a), (("origin" : Str), b), (("newest" : Str), c), (("chosen" : Str), d)]
@[simp] theorem tri_0 {a b c d : D} : (triF a b c d).lookup ("tested_table" : Str) = some a := rfl
@[simp] theorem tri_1 {a b c d : D} : (triF a b c d).lookup ("origin" : Str) = some b := rfl
@[simp] theorem tri_2 {a b c d : D} : (triF a b c d).lookup ("newest" : Str) = some c := rfl
@[simp] theorem tri_3 {a b c d : D} : (triF a b c d).lookup ("chosen" : Str) = some d := rfl
@[simp] theorem tri_h {a b c d : D} : (triF a b c d).lookup ("hold" : Str) = none := rfl
@[simp] theorem tri_p1 {a b c d x : D} : putD ("origin" : Str) x (triF a b c d) = triF a x c d := rfl
@[simp] theorem tri_p2 {a b c d x : D} : putD ("newest" : Str) x (triF a b c d) = triF a b x d := rfl
@[simp] theorem tri_p3 {a b c d x : D} : putD ("chosen" : Str) x (triF a b c d) = triF a b c x := rfl
@[simp] theorem tri_l {a b c d : D} : (triF a b c d).length = 4 := rfl
def triC (q a b c : Nat) : Cell := .ins "Trial" (triF (.ref q) (.ref a) (.ref b) (.ref c))
theorem sp_Trial_init (h : Tb st q u op fs sh n p) : m_Trial_init [.ref st.length, .ref q] (st ++ [.ins "Trial" []]) = .ok .non (st ++ [triC q u u u]) := by
  have h1 := (h.app [.ins "Trial" []]).tab
  have ss : ∀ c c' : Cell, (st ++ [c]).set st.length c' = st ++ [c'] := fun c c' => by simp
  have sg : ∀ c : Cell, (st ++ [c])[st.length]? = some c := fun c => by simp
  have hq : ∀ c : Cell, (st ++ [c])[q]? = some (tabC u) := fun c => (h.app [c]).tab
  have p1 : putD ("tested_table" : Str) (.ref q) [] = ([(("tested_table" : Str), .ref q)] : List (Str × D)) := rfl
  have p2 : putD ("origin" : Str) (.ref u) ([(("tested_table" : Str), .ref q)] : List (Str × D)) = [(("tested_table" : Str), .ref q), (("origin" : Str), .ref u)] := rfl
  have p3 : putD ("newest" : Str) (.ref u) ([(("tested_table" : Str), .ref q), (("origin" : Str), .ref u)] : List (Str × D)) = [(("tested_table" : Str), .ref q), (("origin" : Str), .ref u), (("newest" : Str), .ref u)] := rfl
  have p4 : putD ("chosen" : Str) (.ref u) ([(("tested_table" : Str), .ref q), (("origin" : Str), .ref u), (("newest" : Str), .ref u)] : List (Str × D)) = triF (.ref q) (.ref u) (.ref u) (.ref u) := rfl
  simp [m_Trial_init, b_Trial_init, toF_def, env0, ss, sg, hq, p1, p2, p3, p4, triC]
theorem sp_copied (h : st[u]? = some (hstC op fs sh n p)) : m_State_copied [.ref u] st = .ok (.ref st.length) (st ++ [hstC op fs sh n p]) := by
  have hi := fun (z1 z2 z3 z4 : D) => sp_State_init (st := st) (z1 := z1) (z2 := z2) (z3 := z3) (z4 := z4)
  have e : st[u]? = some (.slo "State" [fs p, .tup (pastL op fs sh p), sh p, .tup (undL op fs sh n p)]) := h
  simp [m_State_copied, b_State_copied, toF_def, env0, hi, e]
  rfl
/-- behind the entry: copies are made, one is the table's state -/
structure Ent (st st' : Sto) (q u t p n : Nat) (op fs sh : Nat → D) : Prop where
  tri : st'[t]? = some (triC q u (st.length + 1) st.length)
  tab : st'[q]? = some (tabC (st.length + 1))
  own : st'[u]? = some (hstC op fs sh n p)
  cho : st'[st.length]? = some (hstC op fs sh n p)
  new : st'[st.length + 1]? = some (hstC op fs sh n p)
  kp : ∀ (i : Nat) (c : Cell), i ≠ t → i ≠ q → st[i]? = some c → st'[i]? = some c
theorem sp_Trial_enter {t : Nat} (h : Tb st q u op fs sh n p) (ht : st[t]? = some (triC q u u u)) (htq : t ≠ q) (htu : t ≠ u) :
    ∃ st', m_Trial_enter [.ref t] st = .ok (.ref t) st' ∧ Ent st st' q u t p n op fs sh := by
  have htl : t < st.length := (List.getElem?_eq_some_iff.mp ht).1
  have hql : q < st.length := (List.getElem?_eq_some_iff.mp h.tab).1
  have hul := h.lt
  have hne := h.ne
  have hcp := fun (S : Sto) (e : S[u]? = some (hstC op fs sh n p)) => sp_copied (st := S) e
  have t1 : st[t]? = some (.ins "Trial" (triF (.ref q) (.ref u) (.ref u) (.ref u))) := ht
  have s0 : st.set t (.ins "Trial" (triF (.ref q) (.ref u) (.ref u) (.ref u))) = st := by
    apply List.ext_getElem?
    intro i
    by_cases e : t = i
    · subst e; rw [List.getElem?_set_self htl, t1]
    · rw [List.getElem?_set_ne e]
  have eS : ∀ {S : Sto}, S[u]? = some (hstC op fs sh n p) → S[u]? = some (.slo "State" [fs p, .tup (pastL op fs sh p), sh p, .tup (undL op fs sh n p)]) := fun h => h
  have c1 := hcp st h.sta
  have e0 : ∀ i c, st[i]? = some c → (st ++ [hstC op fs sh n p])[i]? = some c := fun i c hi => by
    rw [List.getElem?_append_left (List.getElem?_eq_some_iff.mp hi).1]; exact hi
  generalize hS1 : (st ++ [hstC op fs sh n p]).set t (.ins "Trial" (triF (.ref q) (.ref u) (.ref u) (.ref st.length))) = S1
  have l1 : S1.length = st.length + 1 := by rw [← hS1]; simp
  have k1 : ∀ i c, i ≠ t → st[i]? = some c → S1[i]? = some c := fun i c hi hc => by
    rw [← hS1, List.getElem?_set_ne (Ne.symm hi)]; exact e0 i c hc
  have k1t : S1[t]? = some (.ins "Trial" (triF (.ref q) (.ref u) (.ref u) (.ref st.length))) := by
    rw [← hS1]; exact List.getElem?_set_self (by simp; omega)
  have k1n : S1[st.length]? = some (hstC op fs sh n p) := by
    rw [← hS1, List.getElem?_set_ne (by omega)]; simp
  have e1u := k1 u _ (Ne.symm htu) h.sta
  have c2 := hcp S1 e1u
  have e2 : ∀ i c, S1[i]? = some c → (S1 ++ [hstC op fs sh n p])[i]? = some c := fun i c hi => by
    rw [List.getElem?_append_left (List.getElem?_eq_some_iff.mp hi).1]; exact hi
  generalize hS2 : (S1 ++ [hstC op fs sh n p]).set t (.ins "Trial" (triF (.ref q) (.ref u) (.ref (st.length + 1)) (.ref st.length))) = S2
  have k2 : ∀ i c, i ≠ t → S1[i]? = some c → S2[i]? = some c := fun i c hi hc => by
    rw [← hS2, List.getElem?_set_ne (Ne.symm hi)]; exact e2 i c hc
  have k2t : S2[t]? = some (.ins "Trial" (triF (.ref q) (.ref u) (.ref (st.length + 1)) (.ref st.length))) := by
    rw [← hS2]; exact List.getElem?_set_self (by simp; omega)
  have k2n : S2[st.length + 1]? = some (hstC op fs sh n p) := by
    rw [← hS2, List.getElem?_set_ne (by omega), ← l1]; simp
  have k2q : S2[q]? = some (tabC u) := k2 q _ (Ne.symm htq) (k1 q _ (Ne.symm htq) h.tab)
  have q2 : q < S2.length := (List.getElem?_eq_some_iff.mp k2q).1
  have pd : putD ("held" : Str) (.ref (st.length + 1)) ([(("held" : Str), .ref u)] : List (Str × D)) = [(("held" : Str), .ref (st.length + 1))] := rfl
  refine ⟨S2.set q (tabC (st.length + 1)), ?_, ⟨?_, List.getElem?_set_self q2, ?_, ?_, ?_, fun i c h1 h2 h3 => ?_⟩⟩
  · have x1 := e0 t _ t1
    simp [m_Trial_enter, b_Trial_enter, toF_def, env0, t1, h.tab, s0, c1, eS h.sta, x1, hS1, k1t, eS e1u, c2, l1, e2 t _ k1t, hS2, k2t, k2q, pd]
  · rw [List.getElem?_set_ne (Ne.symm htq)]; exact k2t
  · rw [List.getElem?_set_ne hne]; exact k2 u _ (Ne.symm htu) e1u
  · rw [List.getElem?_set_ne (by omega)]; exact k2 _ _ (by omega) k1n
  · rw [List.getElem?_set_ne (by omega)]; exact k2n
  · rw [List.getElem?_set_ne (Ne.symm h2)]; exact k2 i c h1 (k1 i c h1 h3)
theorem sp_hold {t a c d : Nat} (ht : st[t]? = some (triC q a c d)) : m_Trial_hold [.ref t] st = .ok .non (st.set t (triC q a c c)) := by
  have t1 : st[t]? = some (.ins "Trial" (triF (.ref q) (.ref a) (.ref c) (.ref d))) := ht
  simp [m_Trial_hold, b_Trial_hold, toF_def, env0, t1, triC]
/-- behind the exit: what was chosen is the old state's content, the old state is the table's again -/
theorem sp_Trial_exit {t a c d a' : Nat} {op' fs' sh' : Nat → D} {n' p' : Nat} (ht : st[t]? = some (triC q a c d)) (hq : st[q]? = some (tabC a')) (ha : st[a]? = some (hstC op fs sh n p)) (hd : st[d]? = some (hstC op' fs' sh' n' p')) (had : a ≠ d) (hat : a ≠ t) (haq : a ≠ q) (htq : t ≠ q) :
    m_Trial_exit [.ref t] st = .ok .non ((st.set a (hstC op' fs' sh' n' p')).set q (tabC a)) := by
  have t1 : st[t]? = some (.ins "Trial" (triF (.ref q) (.ref a) (.ref c) (.ref d))) := ht
  have ha1 : st[a]? = some (.slo "State" [fs p, .tup (pastL op fs sh p), sh p, .tup (undL op fs sh n p)]) := ha
  have hd1 : st[d]? = some (.slo "State" [fs' p', .tup (pastL op' fs' sh' p'), sh' p', .tup (undL op' fs' sh' n' p')]) := hd
  have hal : a < st.length := (List.getElem?_eq_some_iff.mp ha).1
  have sa : ∀ c : Cell, (st.set a c)[a]? = some c := fun c => List.getElem?_set_self hal
  have st' : ∀ c : Cell, (st.set a c)[t]? = st[t]? := fun c => List.getElem?_set_ne hat
  have sd : ∀ c : Cell, (st.set a c)[d]? = st[d]? := fun c => List.getElem?_set_ne had
  have sq : ∀ c : Cell, (st.set a c)[q]? = st[q]? := fun c => List.getElem?_set_ne haq
  have pd : putD ("held" : Str) (.ref a) ([(("held" : Str), .ref a')] : List (Str × D)) = [(("held" : Str), .ref a)] := rfl
  simp [m_Trial_exit, b_Trial_exit, toF_def, env0, t1, ha1, hd1, sa, st', sd, sq, hq, pd]
  rfl
end
end VP
namespace VP
local instance inst_TB3 : VE.VEnv := VE.VEnv.dummy
open PySem PySem.Spec PyProof.Rows L2 VE
open SX (S S_len S_cat S_inj)
abbrev KvE := Bok × List (Int × Str)
def hasS (k : Str) : List (Str × KvE) → Bool
  | [] => false
  | (j, _) :: r => decide (j = k) || hasS k r
def lkS (k : Str) : List (Str × KvE) → Option KvE
  | [] => none
  | (j, d) :: r => if j = k then some d else lkS k r
def chS (k : Str) (y : KvE) : List (Str × KvE) → List (Str × KvE)
  | [] => []
  | (j, d) :: r => (if j = k then (j, y) else (j, d)) :: chS k y r
def ptS (kv : List (Str × KvE)) (k : Str) (y : KvE) : List (Str × KvE) := if hasS k kv then chS k y kv else kv ++ [(k, y)]
def kvD (x : KvE) : D := facD x.1 x.2
def shD (kv : List (Str × KvE)) : List (Key × D) := kv.map fun x => (.inr x.1, kvD x.2)
theorem hasD_sh {k : Str} : ∀ {kv : List (Str × KvE)}, hasD (.inr k) (shD kv) = hasS k kv
  | [] => rfl
  | (j, d) :: r => by
    have ih := hasD_sh (k := k) (kv := r)
    show (decide ((.inr j : Key) = .inr k) || hasD (.inr k) (shD r)) = (decide (j = k) || hasS k r)
    rw [ih]
    simp
theorem lkK_sh {k : Str} : ∀ {kv : List (Str × KvE)}, lkK (.inr k) (shD kv) = (lkS k kv).map kvD
  | [] => rfl
  | (j, d) :: r => by
    have ih := lkK_sh (k := k) (kv := r)
    show (if (.inr j : Key) = .inr k then some (kvD d) else lkK (.inr k) (shD r)) = (if j = k then some d else lkS k r).map kvD
    rw [ih]
    by_cases e : j = k
    · simp [e]
    · rw [if_neg e, if_neg (fun h => e (Sum.inr.inj h))]
theorem chK_sh {k : Str} {y : KvE} : ∀ {kv : List (Str × KvE)}, chK (.inr k) (kvD y) (shD kv) = shD (chS k y kv)
  | [] => rfl
  | (j, d) :: r => by
    have ih := chK_sh (k := k) (y := y) (kv := r)
    show (if (.inr j : Key) = .inr k then ((.inr j : Key), kvD y) else (.inr j, kvD d)) :: chK (.inr k) (kvD y) (shD r) = _
    rw [ih]
    show _ = shD ((if j = k then (j, y) else (j, d)) :: chS k y r)
    by_cases e : j = k
    · rw [if_pos e, if_pos (congrArg Sum.inr e)]; rfl
    · rw [if_neg e, if_neg (fun h => e (Sum.inr.inj h))]; rfl
theorem ptK_sh {kv : List (Str × KvE)} {k : Str} {y : KvE} : ptK (shD kv) (.inr k) (kvD y) = shD (ptS kv k y) := by
  unfold ptK ptS
  rw [hasD_sh, chK_sh]
  split
  · rfl
  · unfold shD; rw [List.map_append]; rfl
theorem mem_chS {k : Str} {y : KvE} {x : Str × KvE} : ∀ {kv : List (Str × KvE)}, x ∈ chS k y kv → x ∈ kv ∨ x = (k, y)
  | [], h => by cases h
  | (j, d) :: r, h => by
    unfold chS at h
    rcases List.mem_cons.mp h with h2 | h2
    · by_cases e : j = k
      · rw [if_pos e] at h2; right; rw [h2, e]
      · rw [if_neg e] at h2; left; rw [h2]; exact List.mem_cons_self
    · rcases mem_chS h2 with h3 | h3
      · exact .inl (List.mem_cons_of_mem _ h3)
      · exact .inr h3
theorem mem_ptS {k : Str} {y : KvE} {x : Str × KvE} {kv : List (Str × KvE)} (h : x ∈ ptS kv k y) : x ∈ kv ∨ x = (k, y) := by
  unfold ptS at h
  split at h
  · exact mem_chS h
  · rcases List.mem_append.mp h with h2 | h2
    · exact .inl h2
    · exact .inr (List.mem_singleton.mp h2)
theorem len_chS {k : Str} {y : KvE} : ∀ {kv : List (Str × KvE)}, (chS k y kv).length = kv.length
  | [] => rfl
  | (j, d) :: r => by unfold chS; simp [len_chS (kv := r)]
theorem lkS_mem {k : Str} {y : KvE} : ∀ {kv : List (Str × KvE)}, lkS k kv = some y → (k, y) ∈ kv
  | [], h => by cases h
  | (j, d) :: r, h => by
    unfold lkS at h
    by_cases e : j = k
    · rw [if_pos e] at h; cases h; rw [e]; exact List.mem_cons_self
    · rw [if_neg e] at h; exact List.mem_cons_of_mem _ (lkS_mem h)
/-- what a table shows -/
structure Sc where
  b : Bok
  rows : List (Int × Str)
  kv : List (Str × KvE)
structure Sc.Ok (s : Sc) : Prop where
  b : BokOk s.b
  r : RowsOk s.b s.rows
  kb : ∀ x ∈ s.kv, BokOk x.2.1
  kr : ∀ x ∈ s.kv, RowsOk x.2.1 x.2.2
  kl : s.kv.length < 60
inductive Opn where
  | put (r : Int × Str)
  | drop (r : Int × Str)
  | rebook (b : Bok)
  | keep (k : Str)
  | fetch (k : Str)
def Opn.d : Opn → D
  | .put r => .tup [.str "put", rowD r]
  | .drop r => .tup [.str "drop", rowD r]
  | .rebook b => .tup [.str "rebook", b.d]
  | .keep k => .tup [.str "keep_as", .str k]
  | .fetch k => .tup [.str "fetch", .str k]
/-- an operation that can be: the scene behind it, its result -/
inductive Stp : Opn → Sc → Sc → D → Prop where
  | put {r : Int × Str} {s : Sc} : RowOk s.b r.1 r.2 → r ∉ s.rows → s.rows.length < 30 → Stp (.put r) s ⟨s.b, sortR (s.rows ++ [r]), s.kv⟩ (optS (s.b.place r.1 r.2))
  | drop {r : Int × Str} {s : Sc} : r ∈ s.rows → Stp (.drop r) s ⟨s.b, s.rows.filter fun x => !decide (x = r), s.kv⟩ (optS (s.b.place r.1 r.2))
  | rebook {b : Bok} {s : Sc} : BokOk b → s.b.kinds = b.kinds → Stp (.rebook b) s ⟨b, s.rows, s.kv⟩ (.int ((movesR s.b b s.rows).length : Nat))
  | keep {k : Str} {s : Sc} : WOk k → s.kv.length < 59 → Stp (.keep k) s ⟨s.b, s.rows, ptS s.kv k (s.b, s.rows)⟩ (.bl (hasS k s.kv))
  | fetch {k : Str} {s : Sc} {x : KvE} : PyData.strOk k = true → lkS k s.kv = some x → Stp (.fetch k) s ⟨x.1, x.2, s.kv⟩ (.int (x.2.length : Nat))
theorem Stp.ok {o : Opn} {s s' : Sc} {d : D} (h : Stp o s s' d) (hs : s.Ok) : s'.Ok := by
  cases h with
  | put h1 h2 h3 => exact ⟨hs.b, (hs.r.snoc h1 h2 h3).sorted, hs.kb, hs.kr, hs.kl⟩
  | drop h1 => exact ⟨hs.b, hs.r.sub, hs.kb, hs.kr, hs.kl⟩
  | rebook h1 h2 => exact ⟨h1, hs.r.kinds h2, hs.kb, hs.kr, hs.kl⟩
  | keep h1 h2 =>
    refine ⟨hs.b, hs.r, fun x hx => ?_, fun x hx => ?_, ?_⟩
    · rcases mem_ptS hx with h | h
      · exact hs.kb x h
      · rw [h]; exact hs.b
    · rcases mem_ptS hx with h | h
      · exact hs.kr x h
      · rw [h]; exact hs.r
    · show (ptS _ _ _).length < 60
      unfold ptS
      split
      · rw [len_chS]; omega
      · simp; omega
  | fetch h1 h2 =>
    have := lkS_mem h2
    exact ⟨hs.kb _ this, hs.kr _ this, hs.kb, hs.kr, hs.kl⟩
/-- the state behind the operations O, of which p are in effect, has the scenes sc -/
structure Hi (st : Sto) (q u : Nat) (O : Nat → Opn) (sc : Nat → Sc) (n p : Nat) (op fs sh : Nat → D) : Prop where
  tb : Tb st q u op fs sh n p
  op : ∀ i, i < n → op i = (O i).d
  fs : ∀ i, i ≤ n → fs i = facD (sc i).b (sc i).rows
  sh : ∀ i, i ≤ n → ∃ m, sh i = .ref m ∧ st[m]? = some (.dct (shD (sc i).kv))
  ok : ∀ i, i ≤ n → (sc i).Ok
def HiX (st : Sto) (q u : Nat) (O : Nat → Opn) (sc : Nat → Sc) (n p : Nat) : Prop := ∃ op fs sh, Hi st q u O sc n p op fs sh
section
variable {st st' : Sto} {env : EnvD} {q u v n p m : Nat} {O O' : Nat → Opn} {sc sc' : Nat → Sc} {op fs sh : Nat → D} {o : Opn} {d : D} {s' : Sc}
theorem Hi.mu (h : Hi st q u O sc n p op fs sh) {kvs : List (Key × D)} (hm : st[m]? = some (.dct kvs)) : m ≠ u := fun e => by
  subst e; rw [h.tb.sta] at hm; cases hm
theorem Hi.mq (h : Hi st q u O sc n p op fs sh) {kvs : List (Key × D)} (hm : st[m]? = some (.dct kvs)) : m ≠ q := fun e => by
  subst e; rw [h.tb.tab] at hm; cases hm
/-- a step behind the p-th scene -/
theorem Hi.snoc (h : Hi st q u O sc n p op fs sh) {F s : D} (hg : Grow st st' u) (hO : ∀ i, i < p → O' i = O i) (hs : ∀ i, i ≤ p → sc' i = sc i) (ho : (sc' (p + 1)).Ok)
    (ht : Tb st' q u (upF op p (O' p).d) (upF fs (p + 1) F) (upF sh (p + 1) s) (p + 1) (p + 1)) (hF : F = facD (sc' (p + 1)).b (sc' (p + 1)).rows) (hsh : ∃ m, s = .ref m ∧ st'[m]? = some (.dct (shD (sc' (p + 1)).kv))) :
    HiX st' q u O' sc' (p + 1) (p + 1) := by
  have hpn := h.tb.pn
  refine ⟨_, _, _, ht, fun i hi => ?_, fun i hi => ?_, fun i hi => ?_, fun i hi => ?_⟩
  · by_cases e : i = p
    · subst e; rw [upF_at]
    · rw [upF_ne e, hO i (by omega)]; exact h.op i (by omega)
  · by_cases e : i = p + 1
    · subst e; rw [upF_at, hF]
    · rw [upF_ne e, hs i (by omega)]; exact h.fs i (by omega)
  · by_cases e : i = p + 1
    · subst e; rw [upF_at]; exact hsh
    · rw [upF_ne e, hs i (by omega)]
      obtain ⟨m, h1, h2⟩ := h.sh i (by omega)
      exact ⟨m, h1, hg m _ (h.mu h2) h2⟩
  · by_cases e : i = p + 1
    · subst e; exact ho
    · rw [hs i (by omega)]; exact h.ok i (by omega)
def Opn.call (q : Nat) : Opn → FM
  | .put r => fun _ => m_Table_put [.ref q, rowD r]
  | .drop r => fun _ => m_Table_drop [.ref q, rowD r]
  | .rebook b => fun _ => m_Table_rebook [.ref q, b.d]
  | .keep k => fun _ => m_Table_keep_as [.ref q, .str k]
  | .fetch k => fun _ => m_Table_fetch [.ref q, .str k]
theorem hi_call (h : HiX st q u O sc n p) (hp : p < 999) (hO : ∀ i, i < p → O' i = O i) (hs : ∀ i, i ≤ p → sc' i = sc i) (hst : Stp (O' p) (sc' p) (sc' (p + 1)) d) :
    ∃ st', (O' p).call q [] st = .ok d st' ∧ HiX st' q u O' sc' (p + 1) (p + 1) ∧ Grow st st' u := by
  obtain ⟨op, fs, sh, h⟩ := h
  have hpn := h.tb.pn
  have ok := h.ok p hpn
  have hf := h.fs p hpn
  obtain ⟨m, hm1, hm2⟩ := h.sh p hpn
  have e := hs p (Nat.le_refl _)
  rw [e] at hst
  have ok' := hst.ok ok
  generalize hsp : sc p = s at *
  generalize hsn : sc' (p + 1) = s' at *
  generalize ho : O' p = o at *
  cases hst with
  | put h1 h2 h3 =>
    obtain ⟨st', a1, a2, a3⟩ := sp_put h.tb hf ok.b ok.r h1 h2 h3 hp
    exact ⟨st', a1, h.snoc a3 hO hs (by rw [hsn]; exact ok') (by rw [ho]; exact a2) (by rw [hsn]) ⟨m, hm1, by rw [hsn]; exact a3 m _ (h.mu hm2) hm2⟩, a3⟩
  | drop h1 =>
    obtain ⟨st', a1, a2, a3⟩ := sp_drop h.tb hf ok.b ok.r h1 hp
    exact ⟨st', a1, h.snoc a3 hO hs (by rw [hsn]; exact ok') (by rw [ho]; exact a2) (by rw [hsn]) ⟨m, hm1, by rw [hsn]; exact a3 m _ (h.mu hm2) hm2⟩, a3⟩
  | rebook h1 h2 =>
    obtain ⟨st', a1, a2, a3⟩ := sp_rebook h.tb hf ok.b h1 h2 ok.r hp
    exact ⟨st', a1, h.snoc a3 hO hs (by rw [hsn]; exact ok') (by rw [ho]; exact a2) (by rw [hsn]) ⟨m, hm1, by rw [hsn]; exact a3 m _ (h.mu hm2) hm2⟩, a3⟩
  | @keep k _ h1 h2 =>
    have hkl : (shD s.kv).length < 1000 := by unfold shD; rw [List.length_map]; omega
    obtain ⟨st', a1, a2, a3, a4⟩ := sp_keep h.tb hm1 hm2 (h.mu hm2) hkl (fun st => sp_is_name h1) h1.ok hp
    refine ⟨st', ?_, h.snoc a3 hO hs (by rw [hsn]; exact ok') (by rw [ho]; exact a2) (by rw [hsn]; exact hf) ⟨_, rfl, ?_⟩, a3⟩
    · rw [hasD_sh] at a1; exact a1
    · rw [hsn, a4, hf]; exact congrArg (fun x => some (Cell.dct x)) (ptK_sh (kv := s.kv) (k := k) (y := (s.b, s.rows)))
  | @fetch k _ x h1 h2 =>
    have hx := ok.kr _ (lkS_mem h2)
    have hl : lkK (.inr k) (shD s.kv) = some (facD x.1 x.2) := by rw [lkK_sh, h2]; rfl
    obtain ⟨st', a1, a2, a3⟩ := sp_fetch h.tb hm1 hm2 hl (Nat.le_trans hx.len (by omega)) hp
    exact ⟨st', a1, h.snoc a3 hO hs (by rw [hsn]; exact ok') (by rw [ho]; exact a2) (by rw [hsn]) ⟨m, rfl, by rw [hsn]; exact a3 m _ (h.mu hm2) hm2⟩, a3⟩
end
end VP
namespace VP
local instance inst_TB4 : VE.VEnv := VE.VEnv.dummy
open PySem PySem.Spec PyProof.Rows L2 VE
open SX (S S_len S_cat S_inj)
theorem ex_00 : eqP (.str "put") (.str "put") = some (.bl true) := by kernel_rfl
theorem ex_10 : eqP (.str "drop") (.str "put") = some (.bl false) := by kernel_rfl
theorem ex_11 : eqP (.str "drop") (.str "drop") = some (.bl true) := by kernel_rfl
theorem ex_20 : eqP (.str "rebook") (.str "put") = some (.bl false) := by kernel_rfl
theorem ex_21 : eqP (.str "rebook") (.str "drop") = some (.bl false) := by kernel_rfl
theorem ex_22 : eqP (.str "rebook") (.str "rebook") = some (.bl true) := by kernel_rfl
theorem ex_30 : eqP (.str "keep_as") (.str "put") = some (.bl false) := by kernel_rfl
theorem ex_31 : eqP (.str "keep_as") (.str "drop") = some (.bl false) := by kernel_rfl
theorem ex_32 : eqP (.str "keep_as") (.str "rebook") = some (.bl false) := by kernel_rfl
theorem ex_33 : eqP (.str "keep_as") (.str "keep_as") = some (.bl true) := by kernel_rfl
theorem ex_40 : eqP (.str "fetch") (.str "put") = some (.bl false) := by kernel_rfl
theorem ex_41 : eqP (.str "fetch") (.str "drop") = some (.bl false) := by kernel_rfl
theorem ex_42 : eqP (.str "fetch") (.str "rebook") = some (.bl false) := by kernel_rfl
theorem ex_43 : eqP (.str "fetch") (.str "keep_as") = some (.bl false) := by kernel_rfl
theorem ex_44 : eqP (.str "fetch") (.str "fetch") = some (.bl true) := by kernel_rfl
@[simp] theorem nh_0 : ((("put" : Str)) = ("held" : Str)) = False := eq_false (by decide)
@[simp] theorem nh_1 : ((("drop" : Str)) = ("held" : Str)) = False := eq_false (by decide)
@[simp] theorem nh_2 : ((("rebook" : Str)) = ("held" : Str)) = False := eq_false (by decide)
@[simp] theorem nh_3 : ((("keep_as" : Str)) = ("held" : Str)) = False := eq_false (by decide)
@[simp] theorem nh_4 : ((("fetch" : Str)) = ("held" : Str)) = False := eq_false (by decide)
@[simp] theorem nh_5 : ((("undo" : Str)) = ("held" : Str)) = False := eq_false (by decide)
@[simp] theorem nh_6 : ((("redo" : Str)) = ("held" : Str)) = False := eq_false (by decide)
@[simp] theorem nh_7 : ((("execute" : Str)) = ("held" : Str)) = False := eq_false (by decide)
@[simp] theorem nh_8 : ((("apply_all" : Str)) = ("held" : Str)) = False := eq_false (by decide)
@[simp] theorem isi_tu {ds : List D} : isiD "tuple" (.tup ds) = some (.bl true) := by simp only [isiD, tyD]; rfl
@[simp] theorem gz_0 : kd_SIZES.lookup ("put" : Str) = some (.int 2) := by kernel_rfl
@[simp] theorem gz_1 : kd_SIZES.lookup ("drop" : Str) = some (.int 2) := by kernel_rfl
@[simp] theorem gz_2 : kd_SIZES.lookup ("rebook" : Str) = some (.int 2) := by kernel_rfl
@[simp] theorem gz_3 : kd_SIZES.lookup ("keep_as" : Str) = some (.int 2) := by kernel_rfl
@[simp] theorem gz_4 : kd_SIZES.lookup ("fetch" : Str) = some (.int 2) := by kernel_rfl
section
variable {st st' : Sto} {env : EnvD} {q u v n p m : Nat} {O O' : Nat → Opn} {sc sc' : Nat → Sc} {op fs sh : Nat → D} {o : Opn} {d : D} {s' : Sc}
theorem sp_exec (ht : st[q]? = some (tabC u)) (h : o.call q [] st = .ok d st') : m_Table_execute [.ref q, o.d] st = .ok d st' := by
  cases o with
  | put r =>
    have h1 : m_Table_put [.ref q, rowD r] st = .ok d st' := h
    have hv : ∀ st, vw st (rowD r) = rowD r := fun _ => rfl
    simp [m_Table_execute, b_Table_execute, toF_def, env0, Opn.d, ht, h1, VE.cutD, HT.sIx, ex_00, ex_10, ex_11, ex_20, ex_21, ex_22, ex_30, ex_31, ex_32, ex_33, ex_40, ex_41, ex_42, ex_43, ex_44, hv]
  | drop r =>
    have h1 : m_Table_drop [.ref q, rowD r] st = .ok d st' := h
    have hv : ∀ st, vw st (rowD r) = rowD r := fun _ => rfl
    simp [m_Table_execute, b_Table_execute, toF_def, env0, Opn.d, ht, h1, VE.cutD, HT.sIx, ex_00, ex_10, ex_11, ex_20, ex_21, ex_22, ex_30, ex_31, ex_32, ex_33, ex_40, ex_41, ex_42, ex_43, ex_44, hv]
  | rebook b =>
    have h1 : m_Table_rebook [.ref q, b.d] st = .ok d st' := h
    simp [m_Table_execute, b_Table_execute, toF_def, env0, Opn.d, ht, h1, VE.cutD, HT.sIx, ex_00, ex_10, ex_11, ex_20, ex_21, ex_22, ex_30, ex_31, ex_32, ex_33, ex_40, ex_41, ex_42, ex_43, ex_44]
  | keep k =>
    have h1 : m_Table_keep_as [.ref q, .str k] st = .ok d st' := h
    simp [m_Table_execute, b_Table_execute, toF_def, env0, Opn.d, ht, h1, VE.cutD, HT.sIx, ex_00, ex_10, ex_11, ex_20, ex_21, ex_22, ex_30, ex_31, ex_32, ex_33, ex_40, ex_41, ex_42, ex_43, ex_44]
  | fetch k =>
    have h1 : m_Table_fetch [.ref q, .str k] st = .ok d st' := h
    simp [m_Table_execute, b_Table_execute, toF_def, env0, Opn.d, ht, h1, VE.cutD, HT.sIx, ex_00, ex_10, ex_11, ex_20, ex_21, ex_22, ex_30, ex_31, ex_32, ex_33, ex_40, ex_41, ex_42, ex_43, ex_44]
theorem sp_is_op : m_is_operation [o.d] st = .ok (.bl true) st := by
  cases o with
  | put r =>
    have hv : ∀ st, vw st (rowD r) = rowD r := fun _ => rfl
    simp [m_is_operation, b_is_operation, toF_def, env0, Opn.d, lenD, hv]
  | drop r =>
    have hv : ∀ st, vw st (rowD r) = rowD r := fun _ => rfl
    simp [m_is_operation, b_is_operation, toF_def, env0, Opn.d, lenD, hv]
  | rebook b => simp [m_is_operation, b_is_operation, toF_def, env0, Opn.d, lenD]
  | keep k => simp [m_is_operation, b_is_operation, toF_def, env0, Opn.d, lenD]
  | fetch k => simp [m_is_operation, b_is_operation, toF_def, env0, Opn.d, lenD]
theorem Hi.to (h : Hi st q u O sc n p op fs sh) {p' : Nat} (hp : p' ≤ n) : HiX (st.set u (hstC op fs sh n p')) q u O sc n p' := by
  have := h.tb.nb
  refine ⟨op, fs, sh, h.tb.to hp this, h.op, h.fs, fun i hi => ?_, h.ok⟩
  obtain ⟨m, h1, h2⟩ := h.sh i hi
  exact ⟨m, h1, by rw [List.getElem?_set_ne (Ne.symm (h.mu h2))]; exact h2⟩
theorem hi_undo (h : HiX st q u O sc n (p + 1)) : ∃ st', m_Table_undo [.ref q] st = .ok (.bl true) st' ∧ HiX st' q u O sc n p ∧ Grow st st' u := by
  obtain ⟨op, fs, sh, h⟩ := h
  have hpn := h.tb.pn
  have e := sp_undo h.tb
  rw [if_neg (by omega)] at e
  exact ⟨_, e, h.to (by omega), Grow.set⟩
theorem hi_undo0 (h : HiX st q u O sc n 0) : m_Table_undo [.ref q] st = .ok (.bl false) st := by
  obtain ⟨op, fs, sh, h⟩ := h
  exact (sp_undo h.tb).trans (if_pos rfl)
theorem hi_redo (h : HiX st q u O sc n p) (hp : p < n) : ∃ st', m_Table_redo [.ref q] st = .ok (.bl true) st' ∧ HiX st' q u O sc n (p + 1) ∧ Grow st st' u := by
  obtain ⟨op, fs, sh, h⟩ := h
  have e := sp_redo h.tb
  rw [if_neg (by omega)] at e
  exact ⟨_, e, h.to (by omega), Grow.set⟩
theorem hi_redo0 (h : HiX st q u O sc n n) : m_Table_redo [.ref q] st = .ok (.bl false) st := by
  obtain ⟨op, fs, sh, h⟩ := h
  exact (sp_redo h.tb).trans (if_pos rfl)
theorem hi_book (h : HiX st q u O sc n p) : m_Table_book_now [.ref q] st = .ok (sc p).b.d st := by
  obtain ⟨op, fs, sh, h⟩ := h
  exact sp_book_now h.tb (h.fs p h.tb.pn)
theorem hi_rows (h : HiX st q u O sc n p) : m_Table_rows_now [.ref q] st = .ok (.lst ((sc p).rows.map rowD)) st := by
  obtain ⟨op, fs, sh, h⟩ := h
  exact sp_rows_now h.tb (h.fs p h.tb.pn) (Nat.le_trans (h.ok p h.tb.pn).r.len (by omega))
theorem hi_counts (h : HiX st q u O sc n p) : m_Table_counts_now [.ref q] st = .ok (.lst (cntsT (sc p).b (sortR (sc p).rows))) st := by
  obtain ⟨op, fs, sh, h⟩ := h
  have ok := h.ok p h.tb.pn
  refine sp_counts_now h.tb (h.fs p h.tb.pn) ?_
  have := fk_sort_len ok.r
  unfold cntsT
  rw [List.length_map, len_sortS]
  omega
theorem hi_history (h : HiX st q u O sc n p) : m_Table_history [.ref q] st = .ok (.lst ((List.range p).map fun i => (O i).d)) st := by
  obtain ⟨op, fs, sh, h⟩ := h
  rw [sp_history h.tb]
  congr 2
  apply List.map_congr_left
  intro i hi
  have := List.mem_range.mp hi
  have := h.tb.pn
  exact h.op i (by omega)
theorem hi_kept (h : HiX st q u O sc n p) : m_Table_kept_under [.ref q] st = .ok (.lst ((sortS ((sc p).kv.map (·.1))).map .str)) st := by
  obtain ⟨op, fs, sh, h⟩ := h
  obtain ⟨m, h1, h2⟩ := h.sh p h.tb.pn
  have ok := h.ok p h.tb.pn
  have ht := h.tb.tab
  have e : st[u]? = some (.slo "State" [fs p, .tup (pastL op fs sh p), sh p, .tup (undL op fs sh n p)]) := h.tb.sta
  rw [h1] at e
  have hk := ok.kl
  have k3 : ∀ (env : EnvD) (S : Sto), kSK2 (some (.dct (shD (sc p).kv))) env S = .ok (.lst ((sortS ((sc p).kv.map (·.1))).map .str)) env S := fun env S => by
    rw [x_kSK2, if_pos]
    · have e : (shD (sc p).kv).map (fun kv => keyD kv.1) = ((sc p).kv.map (·.1)).map D.str := by unfold shD; rw [List.map_map, List.map_map]; rfl
      rw [e, srtB_map (f := D.str) (kA := kS) fun _ => rfl]; rfl
    · unfold shD
      have : (sc p).kv.length < 64 := by omega
      simp [this, keyD, isStr]
  simp [-x_kSK2, m_Table_kept_under, b_Table_kept_under, toF_def, env0, ht, e, h2, k3]
end
end VP
namespace VP
local instance inst_TB5 : VE.VEnv := VE.VEnv.dummy
open PySem PySem.Spec PyProof.Rows L2 VE
open SX (S S_len S_cat S_inj)
/-- a comprehension whose elements move the store on -/
theorem comp_ix {α : Type} {t : D → EnvD → Option EnvD} {ws : List Nat} {fe : M D} {g : α → D} {E0 : EnvD} (I : Nat → Sto → Prop) (f : Nat → D) : ∀ (xs : List α) (k : Nat) (acc : List D) (env : EnvD) (st : Sto), wipeD ws env = E0 → I k st → acc.length + xs.length < 16777216 →
    (∀ i a st, xs[i]? = some a → I (k + i) st → ∃ e1, t (g a) E0 = some e1 ∧ ∃ e3 st2, fe e1 st = .ok (f (k + i)) e3 st2 ∧ I (k + i + 1) st2 ∧ wipeD ws e3 = E0) →
    ∃ st', compL t ws bYes fe (xs.map g) acc env st = .ok (.lst (acc ++ (List.range' k xs.length).map f)) E0 st' ∧ I (k + xs.length) st'
  | [], k, acc, env, st, h0, hk, _, _ => ⟨st, by simp [compL, h0], hk⟩
  | a :: xs, k, acc, env, st, h0, hk, hl, h => by
    obtain ⟨e1, h1, e3, st2, h2, h3, h4⟩ := h 0 a st rfl hk
    simp only [List.length_cons] at hl
    have h' := fun i b st hb hi => h (i + 1) b st hb hi
    obtain ⟨st', i1, i2⟩ := comp_ix I f xs (k + 1) (acc ++ [f k]) e3 st2 h4 h3 (by simp; omega) fun i b S hb hi => by
      have := h' i b S (by simpa using hb) (by rw [show k + (i + 1) = k + 1 + i from by omega]; exact hi)
      rw [show k + (i + 1) = k + 1 + i from by omega] at this
      exact this
    refine ⟨st', ?_, by rw [List.length_cons, show k + (xs.length + 1) = k + 1 + xs.length from by omega]; exact i2⟩
    rw [List.map_cons]
    unfold compL
    rw [h0, h1]
    dsimp only
    have hy : bYes e1 st = .ok true e1 st := rfl
    rw [hy]
    dsimp only
    rw [Nat.add_zero] at h2
    rw [h2]
    dsimp only
    rw [if_pos (by omega), i1, List.length_cons, List.range'_succ]
    simp
section
variable {st st' : Sto} {env : EnvD} {q u v n p m : Nat} {O O' : Nat → Opn} {sc sc' : Nat → Sc} {op fs sh : Nat → D} {o : Opn} {d : D} {s' : Sc}
theorem ops_ok {A B : D} : ∀ (l : List Opn) (j : Nat), forL (gT 2 (gsC (gN 2) (gsC (gN 3) (gsN)))) [2, 3] b_Table_apply_all_L1 (enuD j (l.map Opn.d)) [.va A, .va B, .no, .no, .no, .no] st = .ok .nx [.va A, .va B, .no, .no, .no, .no] st
  | [], _ => rfl
  | o :: l, j => by
    have ih := ops_ok (A := A) (B := B) l (j + 1)
    have h1 := fun st => sp_is_op (st := st) (o := o)
    rw [List.map_cons, enuD]
    unfold b_Table_apply_all_L1 at *
    simp [forL, h1, ih]
theorem HiX.congr (h : HiX st q u O sc n p) (hO : ∀ i, i < n → O' i = O i) (hs : ∀ i, i ≤ n → sc' i = sc i) : HiX st q u O' sc' n p := by
  obtain ⟨op, fs, sh, h⟩ := h
  exact ⟨op, fs, sh, h.tb, fun i hi => by rw [hO i hi]; exact h.op i hi, fun i hi => by rw [hs i hi]; exact h.fs i hi, fun i hi => by rw [hs i hi]; exact h.sh i hi, fun i hi => by rw [hs i hi]; exact h.ok i hi⟩
/-- operations of which some or none were done -/
def Som (S : Sto) (q u : Nat) (O : Nat → Opn) (sc : Nat → Sc) (n p : Nat) (O' : Nat → Opn) (sc' : Nat → Sc) (i : Nat) : Prop := (i = p ∧ HiX S q u O sc n p) ∨ (p < i ∧ HiX S q u O' sc' i i)
theorem Som.ex {i : Nat} (h : Som st q u O sc n p O' sc' i) : ∃ A B C, HiX st q u A B C i := by
  rcases h with ⟨h1, h2⟩ | ⟨h1, h2⟩
  · subst h1; exact ⟨_, _, _, h2⟩
  · exact ⟨_, _, _, h2⟩
theorem Som.ex2 {i : Nat} (h : Som st q u O sc n p O' sc' i) : ∃ A B C op fs sh, Hi st q u A B C i op fs sh ∧ ((i = p ∧ A = O ∧ B = sc ∧ C = n) ∨ (p < i ∧ A = O' ∧ B = sc' ∧ C = i)) := by
  rcases h with ⟨h1, op, fs, sh, h2⟩ | ⟨h1, op, fs, sh, h2⟩
  · subst h1; exact ⟨_, _, _, _, _, _, h2, .inl ⟨rfl, rfl, rfl, rfl⟩⟩
  · exact ⟨_, _, _, _, _, _, h2, .inr ⟨h1, rfl, rfl, rfl⟩⟩
theorem Som.step {i : Nat} (h : Som st q u O sc n p O' sc' i) (hi : i < 999) (hO : ∀ i, i < p → O' i = O i) (hs : ∀ i, i ≤ p → sc' i = sc i) (hst : Stp (O' i) (sc' i) (sc' (i + 1)) d) :
    ∃ st', (O' i).call q [] st = .ok d st' ∧ Som st' q u O sc n p O' sc' (i + 1) ∧ Grow st st' u := by
  rcases h with ⟨h1, h2⟩ | ⟨h1, h2⟩
  · subst h1
    obtain ⟨S, a1, a2, a3⟩ := hi_call h2 hi hO hs hst
    exact ⟨S, a1, .inr ⟨by omega, a2⟩, a3⟩
  · obtain ⟨S, a1, a2, a3⟩ := hi_call h2 hi (fun _ _ => rfl) (fun _ _ => rfl) hst
    exact ⟨S, a1, .inr ⟨by omega, a2⟩, a3⟩
theorem HiX.tab (h : HiX st q u O sc n p) : st[q]? = some (tabC u) := by
  obtain ⟨_, _, _, h⟩ := h
  exact h.tb.tab
/-- another store, another state cell with the same -/
theorem hi_re {S : Sto} {a : Nat} (h : Hi st q u O sc n p op fs sh) (h1 : S[q]? = some (tabC a)) (h2 : S[a]? = some (hstC op fs sh n p)) (ha : q ≠ a) (h3 : ∀ (m : Nat) (kvs : List (Key × D)), st[m]? = some (.dct kvs) → S[m]? = some (.dct kvs)) : Hi S q a O sc n p op fs sh :=
  ⟨⟨h1, h2, ha, h.tb.pn, h.tb.nb⟩, h.op, h.fs, fun i hi => by obtain ⟨m, e1, e2⟩ := h.sh i hi; exact ⟨m, e1, h3 m _ e2⟩, h.ok⟩
theorem hi_apply (h : HiX st q u O sc n p) {L : Nat} {rs : Nat → D} (hL : p + L < 999) (hO : ∀ i, i < p → O' i = O i) (hs : ∀ i, i ≤ p → sc' i = sc i) (hst : ∀ i, p ≤ i → i < p + L → Stp (O' i) (sc' i) (sc' (i + 1)) (rs i)) :
    ∃ st', m_Table_apply_all [.ref q, .lst ((List.range' p L).map fun i => (O' i).d)] st = .ok (.lst ((List.range' p L).map rs)) st' ∧ Som st' q u O sc n p O' sc' (p + L) ∧ Grow st st' u := by
  obtain ⟨op, fs, sh, hh⟩ := h
  have hq : q < st.length := (List.getElem?_eq_some_iff.mp hh.tb.tab).1
  have hu := hh.tb.lt
  have hqu := hh.tb.ne
  have htr := sp_Trial_init hh.tb
  have hb1 := hh.tb.app [triC q u u u]
  have ht : (st ++ [triC q u u u])[st.length]? = some (triC q u u u) := by simp
  obtain ⟨S2, en1, en2⟩ := sp_Trial_enter (t := st.length) hb1 ht (by omega) (by omega)
  have l1 : (st ++ [triC q u u u]).length = st.length + 1 := by simp
  have kp2 : ∀ i c, i ≠ q → st[i]? = some c → S2[i]? = some c := fun i c h1 h2 => by
    have hi := (List.getElem?_eq_some_iff.mp h2).1
    exact en2.kp i c (by omega) h1 (by rw [List.getElem?_append_left hi]; exact h2)
  have h2 : HiX S2 q (st.length + 2) O sc n p := ⟨op, fs, sh, hi_re hh (by have := en2.tab; rw [l1] at this; exact this) (by have := en2.new; rw [l1] at this; exact this) (by omega) fun m kvs hm => kp2 m _ (hh.mq hm) hm⟩
  have tri2 : S2[st.length]? = some (triC q u (st.length + 2) (st.length + 1)) := by have := en2.tri; rw [l1] at this; exact this
  -- the operations
  have hc := comp_ix (t := gN 3) (ws := [3]) (fe := eMeth "Table" "execute" m_Table_execute 2 (eVar 0) (eCons (eVar 3) (eNil))) (g := fun i => (O' i).d)
    (E0 := [.va (.ref q), .va (.lst ((List.range' p L).map fun i => (O' i).d)), .no, .no, .va (.ref st.length), .no])
    (fun i S => Som S q (st.length + 2) O sc n p O' sc' i ∧ Grow S2 S (st.length + 2)) rs (List.range' p L) p [] [.va (.ref q), .va (.lst ((List.range' p L).map fun i => (O' i).d)), .no, .no, .va (.ref st.length), .no] S2 rfl ⟨.inl ⟨rfl, h2⟩, Grow.refl⟩ (by simp; omega)
    (fun i a S ha hi => by
      have hlt : i < L := by have := (List.getElem?_eq_some_iff.mp ha).1; simpa using this
      have he : a = p + i := by
        rw [List.getElem?_range' hlt] at ha
        have := Option.some.inj ha
        omega
      subst he
      obtain ⟨hi1, hi2⟩ := hi
      obtain ⟨S', c1, c2, c3⟩ := hi1.step (by omega) hO hs (hst (p + i) (by omega) (by omega))
      obtain ⟨A, B, C, hx⟩ := hi1.ex
      have htab := hx.tab
      have hex := sp_exec (o := O' (p + i)) htab c1
      refine ⟨_, rfl, [.va (.ref q), .va (.lst ((List.range' p L).map fun i => (O' i).d)), .no, .va (O' (p + i)).d, .va (.ref st.length), .no], S', ?_, ⟨c2, hi2.trans c3⟩, ?_⟩
      · simp [htab, hex]
      · rfl)
  obtain ⟨S3, c1, c2, c3⟩ := hc
  rw [List.length_range'] at c2
  have tri3 : S3[st.length]? = some (triC q u (st.length + 2) (st.length + 1)) := c3 _ _ (by omega) tri2
  have hho := sp_hold tri3
  obtain ⟨A, B, C, op', fs', sh', hx, hABC⟩ := c2.ex2
  have t3 : st.length < S3.length := (List.getElem?_eq_some_iff.mp tri3).1
  have u3 : S3[u]? = some (hstC op fs sh n p) := c3 _ _ (by omega) en2.own
  have hex := sp_Trial_exit (st := S3.set st.length (triC q u (st.length + 2) (st.length + 2))) (q := q) (t := st.length) (a := u) (c := st.length + 2) (d := st.length + 2) (a' := st.length + 2)
    (List.getElem?_set_self t3) (by rw [List.getElem?_set_ne (by omega)]; exact hx.tb.tab) (by rw [List.getElem?_set_ne (by omega)]; exact u3)
    (by rw [List.getElem?_set_ne (by omega)]; exact hx.tb.sta) (by omega) (by omega) (Ne.symm hqu) (by omega)
  generalize hS4 : S3.set st.length (triC q u (st.length + 2) (st.length + 2)) = S4 at *
  have u4l : u < S4.length := by rw [← hS4, List.length_set]; exact (List.getElem?_eq_some_iff.mp u3).1
  have q4l : q < S4.length := by rw [← hS4, List.length_set]; exact (List.getElem?_eq_some_iff.mp hx.tb.tab).1
  have k5 : ∀ i, i ≠ st.length → i ≠ u → i ≠ q → ((S4.set u (hstC op' fs' sh' C (p + L))).set q (tabC u))[i]? = S3[i]? := fun i a1 a2 a3 => by
    rw [List.getElem?_set_ne (Ne.symm a3), List.getElem?_set_ne (Ne.symm a2), ← hS4, List.getElem?_set_ne (Ne.symm a1)]
  refine ⟨(S4.set u (hstC op' fs' sh' C (p + L))).set q (tabC u), ?_, ?_, ?_⟩
  · have hio := fun A B st => ops_ok (st := st) (A := A) (B := B) ((List.range' p L).map O') 0
    rw [List.map_map] at hio
    have hio' : ∀ A B st, forL (gT 2 (gsC (gN 2) (gsC (gN 3) (gsN)))) [2, 3] b_Table_apply_all_L1 (enuD 0 ((List.range' p L).map fun i => (O' i).d)) [.va A, .va B, .no, .no, .no, .no] st = .ok .nx [.va A, .va B, .no, .no, .no, .no] st := hio
    have x1 : ∀ e, exitW m_Trial_exit st.length (.ok .nx e S4) = .ok .nx e ((S4.set u (hstC op' fs' sh' C (p + L))).set q (tabC u)) := fun e => x_exitW_ok hex
    have sg : ∀ c : Cell, (st ++ [c])[st.length]? = some c := fun c => by simp
    have en1' : m_Trial_enter [.ref st.length] (st ++ [.ins "Trial" (triF (.ref q) (.ref u) (.ref u) (.ref u))]) = .ok (.ref st.length) S2 := en1
    have htr' : m_Trial_init [.ref st.length, .ref q] (st ++ [.ins "Trial" []]) = .ok .non (st ++ [.ins "Trial" (triF (.ref q) (.ref u) (.ref u) (.ref u))]) := htr
    have tri3' : S3[st.length]? = some (.ins "Trial" (triF (.ref q) (.ref u) (.ref (st.length + 2)) (.ref (st.length + 1)))) := tri3
    simp [m_Table_apply_all, b_Table_apply_all, toF_def, env0, hio', htr', en1', sg, c1, tri3', hho, x1]
  · have hre := hi_re (S := (S4.set u (hstC op' fs' sh' C (p + L))).set q (tabC u)) (a := u) hx (List.getElem?_set_self (by rw [List.length_set]; exact q4l)) (by rw [List.getElem?_set_ne hqu]; exact List.getElem?_set_self u4l) hqu fun m kvs hm => by
      rw [k5 m (fun e => ?_) (fun e => ?_) (hx.mq hm)]
      · exact hm
      · subst e; rw [tri3] at hm; cases hm
      · subst e; rw [u3] at hm; cases hm
    rcases hABC with ⟨a1, a2, a3, a4⟩ | ⟨a1, a2, a3, a4⟩
    · subst a2 a3 a4; rw [a1] at hre ⊢; exact .inl ⟨rfl, _, _, _, hre⟩
    · subst a2 a3 a4; exact .inr ⟨a1, _, _, _, hre⟩
  · intro i c hi hc
    by_cases e : i = q
    · subst e
      rw [List.getElem?_set_self (by rw [List.length_set]; exact q4l), ← hc, hh.tb.tab]
    · have := (List.getElem?_eq_some_iff.mp hc).1
      rw [k5 i (by omega) hi e]
      exact c3 _ _ (by omega) (kp2 i c e hc)
end
end VP
namespace VP
local instance inst_TB6 : VE.VEnv := VE.VEnv.dummy
open PySem PySem.Spec PyProof.Rows L2 VE
open SX (S S_len S_cat S_inj)
section
variable {st st' : Sto} {env : EnvD} {q u v n p m : Nat} {b : Bok} {O O' : Nat → Opn} {sc sc' : Nat → Sc} {op fs sh : Nat → D} {o : Opn} {d : D} {s' : Sc}
theorem Som.full {i : Nat} (h : Som st q u O sc p p O' sc' i) (hO : ∀ i, i < p → O' i = O i) (hs : ∀ i, i ≤ p → sc' i = sc i) : HiX st q u O' sc' i i := by
  rcases h with ⟨h1, h2⟩ | ⟨h1, h2⟩
  · subst h1; exact h2.congr hO hs
  · exact h2
theorem RowsOk.nil : RowsOk b [] := ⟨by simp, List.nodup_nil, by simp⟩
theorem Sc.Ok.new (hb : BokOk b) : (Sc.mk b [] []).Ok := ⟨hb, .nil, by simp, by simp, by simp⟩
theorem hi_new (hb : BokOk b) (h0 : sc 0 = ⟨b, [], []⟩) : ∃ ext, m_Table_init [.ref st.length, b.d] (st ++ [.ins "Table" []]) = .ok .non (st ++ tabC (st.length + 2) :: ext) ∧ HiX (st ++ tabC (st.length + 2) :: ext) st.length (st.length + 2) O sc 0 0 := by
  refine ⟨_, sp_Table_init, _, _, _, Tb.init rfl, fun i hi => by omega, fun i hi => ?_, fun i hi => ?_, fun i hi => ?_⟩
  · have : i = 0 := by omega
    subst this; rw [h0]
  · have : i = 0 := by omega
    subst this
    refine ⟨_, rfl, ?_⟩
    rw [h0, List.getElem?_append_right (by omega), show st.length + 1 - st.length = 1 from by omega]
    rfl
  · have : i = 0 := by omega
    subst this; rw [h0]; exact .new hb
theorem hi_replay (hb : BokOk b) (h0 : sc 0 = ⟨b, [], []⟩) {L : Nat} {rs : Nat → D} (hL : L < 999) (hst : ∀ i, i < L → Stp (O i) (sc i) (sc (i + 1)) (rs i)) :
    ∃ st', m_Table_replay [.fn (.glb "Table"), b.d, .lst ((List.range L).map fun i => (O i).d)] st = .ok (.ref st.length) st' ∧ HiX st' st.length (st.length + 2) O sc L L ∧ ∀ (i : Nat) (c : Cell), st[i]? = some c → st'[i]? = some c := by
  obtain ⟨ext, e1, e2⟩ := hi_new (st := st) (O := O) hb h0
  obtain ⟨S', a1, a2, a3⟩ := hi_apply (O' := O) (sc' := sc) (L := L) (rs := rs) e2 (by omega) (fun _ _ => rfl) (fun _ _ => rfl) fun i h1 h2 => hst i (by omega)
  rw [Nat.zero_add] at a2
  rw [← List.range_eq_range'] at a1
  refine ⟨S', ?_, a2.full (fun _ _ => rfl) (fun _ _ => rfl), fun i c hi => a3 i c (by have := (List.getElem?_eq_some_iff.mp hi).1; omega) (by rw [List.getElem?_append_left (List.getElem?_eq_some_iff.mp hi).1]; exact hi)⟩
  have hq := e2.tab
  simp [m_Table_replay, b_Table_replay, toF_def, env0, e1, hq, a1]
end
end VP
namespace VP
local instance inst_TB7 : VE.VEnv := VE.VEnv.dummy
open PySem PySem.Spec PyProof.Rows L2 VE
open SX (S S_len S_cat S_inj)
section
variable {st st' : Sto} {env : EnvD} {b b' : Bok} {q u n p : Nat} {k : Str} {R rows : List (Int × Str)} {r : Int × Str} {O O' : Nat → Opn} {sc sc' : Nat → Sc}
@[simp] theorem x_isO {nm n' : Str} {xs : List D} : isO nm (.obj n' xs) = if n' = nm then some (.bl true) else none := rfl
theorem rul_pl {r : Rul} (h : RulOk r) : plains 20 [.tup [.str r.piece, .int r.low, .int r.high, .int r.modulus, .tup (r.rests.map .int), .tup (r.kinds.map .str)]] = true := by
  have h1 := h.piece.ok
  have h2 := h.kinds.pl (m := 18)
  simp [h1, h2]
theorem sp_Book_eq (hb : BokOk b) : m_Book_eq [b.d, b.d] st = .ok (.bl true) st := by
  have hkd : ∀ st, m_Book_kinds [b.d] st = .ok (.tup (b.kinds.map .str)) st := fun st => by simp [m_Book_kinds, b_Book_kinds, toF_def, env0, Bok.d]
  have hrd : ∀ st, m_Book_rules [b.d] st = .ok (.tup (b.rules.map Rul.d)) st := fun st => by simp [m_Book_rules, b_Book_rules, toF_def, env0, Bok.d]
  have hq : eqB "Rule" (.tup [.tup (b.kinds.map .str), .tup (b.rules.map Rul.d)]) (.tup [.tup (b.kinds.map .str), .tup (b.rules.map Rul.d)]) = some (.bl true) := by
    unfold eqB
    rw [if_pos]
    rw [eqOk_iff]
    refine ⟨rfl, _, _, rfl, fun k hk => ?_, fun r hr => ?_⟩
    · obtain ⟨s, _, rfl⟩ := List.mem_map.mp hk; exact ⟨s, rfl⟩
    · obtain ⟨q, hq, rfl⟩ := List.mem_map.mp hr
      exact ⟨_, rfl, by simp, rul_pl (hb.rules q hq)⟩
  have hbd : b.d = .obj "Book" [.tup [.tup (b.kinds.map .str), .tup (b.rules.map Rul.d)]] := rfl
  have hrd' := hrd
  have hkd' := hkd
  rw [hbd] at hrd' hkd'
  simp [m_Book_eq, b_Book_eq, toF_def, env0, hbd, hrd', hkd', hq]
theorem x_neO (hb : BokOk b) : neO "Book" m_Book_eq b.d b.d env st = .ok (.bl false) env st := by
  have h := sp_Book_eq (st := st) hb
  have hbd : b.d = .obj "Book" [.tup [.tup (b.kinds.map .str), .tup (b.rules.map Rul.d)]] := rfl
  rw [hbd] at h ⊢
  unfold neO
  dsimp only
  rw [if_pos ⟨rfl, rfl⟩, h]
theorem HiX.app (h : HiX st q u O sc n p) (ext : Sto) : HiX (st ++ ext) q u O sc n p := by
  obtain ⟨op, fs, sh, h⟩ := h
  refine ⟨op, fs, sh, h.tb.app ext, h.op, h.fs, fun i hi => ?_, h.ok⟩
  obtain ⟨m, h1, h2⟩ := h.sh i hi
  exact ⟨m, h1, by rw [List.getElem?_append_left (List.getElem?_eq_some_iff.mp h2).1]; exact h2⟩
theorem HiX.mono (h : HiX st q u O sc n p) (hg : ∀ (i : Nat) (c : Cell), st[i]? = some c → st'[i]? = some c) : HiX st' q u O sc n p := by
  obtain ⟨op, fs, sh, h⟩ := h
  exact ⟨op, fs, sh, ⟨hg _ _ h.tb.tab, hg _ _ h.tb.sta, h.tb.ne, h.tb.pn, h.tb.nb⟩, h.op, h.fs, fun i hi => by obtain ⟨m, h1, h2⟩ := h.sh i hi; exact ⟨m, h1, hg _ _ h2⟩, h.ok⟩
theorem sto_head {c : Cell} (h : st[0]? = some c) : ∃ rest, st = c :: rest := by
  cases st with
  | nil => cases h
  | cons x y => cases h; exact ⟨y, rfl⟩
theorem sortR_nd (nd : R.Nodup) : (sortR R).Nodup := (srtB_perm (k := kR) R).nodup_iff.mpr nd
theorem sortR_idem (nd : R.Nodup) : sortR (sortR R) = sortR R := sortR_asc (sortR_pw nd)
theorem sortR_put {i : Nat} (nd : R.Nodup) (h : R[i]? = some r) : sortR (sortR (R.take i) ++ [r]) = sortR (R.take (i + 1)) := by
  have nd1 : (R.take (i + 1)).Nodup := nd.sublist (List.take_sublist _ _)
  have e : R.take (i + 1) = R.take i ++ [r] := by
    have hi := (List.getElem?_eq_some_iff.mp h)
    rw [List.take_succ, h]; rfl
  refine sortR_same ?_ nd1 fun x => ?_
  · have h1 : (R.take i ++ [r]).Nodup := e ▸ nd1
    have h2 := List.nodup_append.mp h1
    rw [List.nodup_append]
    exact ⟨sortR_nd h2.1, h2.2.1, fun a ha c hc => h2.2.2 a (mem_sortR.mp ha) c hc⟩
  · rw [e, List.mem_append, List.mem_append, mem_sortR]
theorem sortR_drop {i : Nat} (nd : R.Nodup) (h : R[i]? = some r) : ((sortR (R.take (i + 1))).filter fun x => !decide (x = r)) = sortR (R.take i) := by
  have nd1 : (R.take (i + 1)).Nodup := nd.sublist (List.take_sublist _ _)
  have e : R.take (i + 1) = R.take i ++ [r] := by rw [List.take_succ, h]; rfl
  have h1 : (R.take i ++ [r]).Nodup := e ▸ nd1
  have h2 := List.nodup_append.mp h1
  refine (sortR_eq h2.1 ((sortR_pw nd1).filter _) fun x => ?_).symm
  rw [List.mem_filter, mem_sortR, e, List.mem_append, List.mem_singleton]
  constructor
  · intro hx
    refine ⟨.inl hx, ?_⟩
    have := h2.2.2 x hx r (by simp)
    simpa using this
  · rintro ⟨h3 | h3, h4⟩
    · exact h3
    · simp [h3] at h4
theorem moves_self (b : Bok) : movesR b b R = [] := by unfold movesR; simp
theorem moves_sym : (movesR b' b R).length = (movesR b b' R).length := by
  unfold movesR
  congr 2
  funext x
  simp [eq_comm]
theorem moves_sort (nd : R.Nodup) : movesR b b' (sortR R) = movesR b b' R := by unfold movesR; rw [sortR_idem nd]
theorem RowsOk.take (h : RowsOk b R) {i : Nat} : RowsOk b (R.take i) := ⟨fun p hp => h.r p (List.mem_of_mem_take hp), h.nd.sublist (List.take_sublist _ _), Nat.le_trans (by rw [List.length_take]; omega) h.len⟩
theorem cutS1 {xs : List D} {i : Nat} (h : i < xs.length) : VE.cutD xs none (some ((i : Int) + 1)) = xs.take (i + 1) := by
  have := cut0 (xs := xs) (i := i + 1) h
  rw [← this]
  congr 2
theorem cnts_pl (hb : BokOk b) (h : RowsOk b R) : plain 20 (.lst (cntsT b (sortR R))) = true := by
  rw [pl20l]
  refine pls_map fun k hk => ?_
  have hk := mem_sortS.mp hk
  obtain ⟨p, hp, rfl⟩ := mem_fk.mp hk
  simp [nm_ok hb]
theorem rows_pl (hb : BokOk b) (h : RowsOk b R) : plain 20 (.lst (R.map rowD)) = true := by
  rw [pl20l]
  exact pl_rows fun p hp => h.ok hb p hp
end
end VP
namespace VP
local instance inst_SL : VE.VEnv := VE.VEnv.dummy
open PySem PySem.Spec PyProof.Rows L2 VE
open SX (S S_len S_cat S_inj)
noncomputable section
def P0 : M Fl :=
  sPar 3 4 (eCons (eCall m_law_kinds 1 (eCons (eVar 1) (eNil))) (eCons (eBin ixA (eLst (eCons (eC (.int 20)) (eCons (eBin (sc2 powI) (eC (.int 10)) (eC (.int 28))) (eNil)))) (eCall m_law_taken 2 (eCons (eVar 1) (eCons (eC (.int 2)) (eNil))))) (eNil)))
def P1 : M Fl :=
  sPar 5 6 (eCons (eCall m_law_book 3 (eCons (eVar 1) (eCons (eVar 4) (eCons (eVar 3) (eNil))))) (eCons (eCall m_law_book 3 (eCons (eVar 1) (eCons (eVar 4) (eCons (eVar 3) (eNil))))) (eNil)))
def P2 : M Fl :=
  sPar 7 8 (eCons (eCall m_law_rows 4 (eCons (eVar 1) (eCons (eVar 3) (eCons (eVar 4) (eCons (eC (.int 15)) (eNil)))))) (eCons (eMake "Table" m_Table_init 2 (eCons (eVar 5) (eNil))) (eNil)))
def P3 : M Fl :=
  sFor (iR1 (eB1 lenD (eVar 7))) (gN 9) [9]
    (b_law_L1)
def P4 : M Fl :=
  sSet 12 (eB1 lenD (eCall m_moves_of 3 (eCons (eVar 5) (eCons (eVar 6) (eCons (eVar 7) (eNil))))))
def P5 : M Fl :=
  sIf (bOr (eT (eMeth "Table" "keep_as" m_Table_keep_as 2 (eVar 8) (eCons (eC (.str ("a" : Str))) (eNil)))) (bOr (eT (eBin (sv2 neP) (eMeth "Table" "rebook" m_Table_rebook 2 (eVar 8) (eCons (eVar 6) (eNil))) (eVar 12))) (eT (eBin (neO "Book" m_Book_eq) (ePrI "Table" m_Table_book_now (eVar 8)) (eVar 6)))))
    (sRet (eC (.bl false)))
    (sNx)
def P6 : M Fl :=
  sIf (eT (eBin (sv2 neP) (ePrI "Table" m_Table_counts_now (eVar 8)) (eComp (iQ (eCall m_laid 2 (eCons (eVar 6) (eCons (eVar 7) (eNil))))) (gT 2 (gsC (gN 10) (gsC (gN 11) (gsN)))) [10, 11] (bYes) (eTup (eCons (eVar 10) (eCons (eB1 lenD (eVar 11)) (eNil)))))))
    (sRet (eC (.bl false)))
    (sNx)
def P7 : M Fl :=
  sIf (bOr (eT (eBin (sv2 neP) (eMeth "Table" "rebook" m_Table_rebook 2 (eVar 8) (eCons (eVar 5) (eNil))) (eVar 12))) (bOr (eT (eBin (sv2 neP) (eMeth "Table" "rebook" m_Table_rebook 2 (eVar 8) (eCons (eVar 5) (eNil))) (eC (.int 0)))) (eT (eBin (sv2 neP) (ePrI "Table" m_Table_rows_now (eVar 8)) (eBlt (b1 sortedD) (eCons (eVar 7) eNil))))))
    (sRet (eC (.bl false)))
    (sNx)
def P8 : M Fl :=
  sFor (iR3 (eBin (sc2 subI) (eB1 lenD (eVar 7)) (eC (.int 1))) (eBin (sc2 subI) (eC (.int 0)) (eC (.int 1))) (eBin (sc2 subI) (eC (.int 0)) (eC (.int 1)))) (gN 9) [9]
    (b_law_L2)
def P9 : M Fl :=
  sIf (bOr (eT (eBin (sv2 neP) (ePrI "Table" m_Table_counts_now (eVar 8)) (eLst (eNil)))) (bOr (eT (eBin (sv2 neP) (eMeth "Table" "fetch" m_Table_fetch 2 (eVar 8) (eCons (eC (.str ("a" : Str))) (eNil))) (eB1 lenD (eVar 7)))) (eT (eBin (neO "Book" m_Book_eq) (ePrI "Table" m_Table_book_now (eVar 8)) (eVar 5)))))
    (sRet (eC (.bl false)))
    (sNx)
def P10 : M Fl :=
  sIf (bOr (eT (eBin (sv2 neP) (ePrI "Table" m_Table_rows_now (eCmeth "Table" m_Table_replay 3 (eCons (eVar 5) (eCons (ePrI "Table" m_Table_history (eVar 8)) (eNil))))) (eBlt (b1 sortedD) (eCons (eVar 7) eNil)))) (bNot (eT (eMeth "Table" "keep_as" m_Table_keep_as 2 (eVar 8) (eCons (eC (.str ("a" : Str))) (eNil))))))
    (sRet (eC (.bl false)))
    (sNx)
def P11 : M Fl :=
  sIf (bNot (eT (eCall m_law_are_undone 3 (eCons (eVar 8) (eCons (eVar 7) (eCons (eVar 5) (eNil)))))))
    (sRet (eC (.bl false)))
    (sNx)
theorem P_eq : b_law_L3  = sSeq P0 (sSeq P1 (sSeq P2 (sSeq P3 (sSeq P4 (sSeq P5 (sSeq P6 (sSeq P7 (sSeq P8 (sSeq P9 (sSeq P10 (P11))))))))))) := rfl
end
theorem seq_nx {g g' : M Fl} {e e' : EnvD} {s s' : Sto} (h : g e s = .ok .nx e' s') : sSeq g g' e s = g' e' s' := by
  rw [x_sSeq, h]
  rfl
abbrev Rw := Int × Str
def rwA (R : List Rw) (i : Nat) : Rw := R.getD i (0, "")
def Oo (b b2 : Bok) (R : List Rw) (i : Nat) : Opn :=
  if i < R.length then .put (rwA R i) else if i = R.length then .keep "a" else if i = R.length + 1 then .rebook b2 else if i < R.length + 4 then .rebook b
  else if i < 2 * R.length + 4 then .drop (rwA R (2 * R.length + 3 - i)) else if i = 2 * R.length + 4 then .fetch "a" else .keep "a"
def kvA (b : Bok) (R : List Rw) : List (Str × KvE) := [("a", (b, sortR R))]
def Ss (b b2 : Bok) (R : List Rw) (i : Nat) : Sc :=
  if i ≤ R.length then ⟨b, sortR (R.take i), []⟩ else if i = R.length + 2 then ⟨b2, sortR R, kvA b R⟩ else if i < R.length + 4 then ⟨b, sortR R, kvA b R⟩
  else if i ≤ 2 * R.length + 4 then ⟨b, sortR (R.take (2 * R.length + 4 - i)), kvA b R⟩ else ⟨b, sortR R, kvA b R⟩
noncomputable section
variable {ns : List Int} {c : Cell} {rest st : Sto} {env : EnvD} {b b2 : Bok} {R : List Rw} {i j q u n p t : Nat} {rows : List Rw} {r : Rw} {ks : List Str} {wide : Int} {s12 : Sl}
structure Cx (b b2 : Bok) (R : List Rw) : Prop where
  hb : BokOk b
  hb2 : BokOk b2
  he : b.kinds = b2.kinds
  hR : RowsOk b R
  hl : R.length ≤ 15
theorem Ss0 (h : i ≤ R.length) : Ss b b2 R i = ⟨b, sortR (R.take i), []⟩ := if_pos h
theorem Ss1 : Ss b b2 R (R.length + 1) = ⟨b, sortR R, kvA b R⟩ := by unfold Ss; rw [if_neg (by omega), if_neg (by omega), if_pos (by omega)]
theorem Ss2 : Ss b b2 R (R.length + 2) = ⟨b2, sortR R, kvA b R⟩ := by unfold Ss; rw [if_neg (by omega), if_pos rfl]
theorem Ss3 : Ss b b2 R (R.length + 3) = ⟨b, sortR R, kvA b R⟩ := by unfold Ss; rw [if_neg (by omega), if_neg (by omega), if_pos (by omega)]
theorem Ss4 (h : i ≤ R.length) : Ss b b2 R (R.length + 4 + (R.length - i)) = ⟨b, sortR (R.take i), kvA b R⟩ := by
  unfold Ss; rw [if_neg (by omega), if_neg (by omega), if_neg (by omega), if_pos (by omega), show 2 * R.length + 4 - (R.length + 4 + (R.length - i)) = i from by omega]
theorem Ss5 (h : 2 * R.length + 4 < i) : Ss b b2 R i = ⟨b, sortR R, kvA b R⟩ := by unfold Ss; rw [if_neg (by omega), if_neg (by omega), if_neg (by omega), if_neg (by omega)]
theorem Oo0 (h : R[i]? = some r) : Oo b b2 R i = .put r := by
  unfold Oo rwA; rw [if_pos (List.getElem?_eq_some_iff.mp h).1, List.getD_eq_getElem?_getD, h]; rfl
theorem Oo1 : Oo b b2 R R.length = .keep "a" := by unfold Oo; rw [if_neg (by omega), if_pos rfl]
theorem Oo2 : Oo b b2 R (R.length + 1) = .rebook b2 := by unfold Oo; rw [if_neg (by omega), if_neg (by omega), if_pos rfl]
theorem Oo3 : Oo b b2 R (R.length + 2) = .rebook b := by unfold Oo; rw [if_neg (by omega), if_neg (by omega), if_neg (by omega), if_pos (by omega)]
theorem Oo4 : Oo b b2 R (R.length + 3) = .rebook b := by unfold Oo; rw [if_neg (by omega), if_neg (by omega), if_neg (by omega), if_pos (by omega)]
theorem Oo5 (h : R[i]? = some r) : Oo b b2 R (R.length + 4 + (R.length - (i + 1))) = .drop r := by
  have hi := (List.getElem?_eq_some_iff.mp h).1
  unfold Oo rwA; rw [if_neg (by omega), if_neg (by omega), if_neg (by omega), if_neg (by omega), if_pos (by omega), show 2 * R.length + 3 - (R.length + 4 + (R.length - (i + 1))) = i from by omega, List.getD_eq_getElem?_getD, h]; rfl
theorem Oo6 : Oo b b2 R (2 * R.length + 4) = .fetch "a" := by unfold Oo; rw [if_neg (by omega), if_neg (by omega), if_neg (by omega), if_neg (by omega), if_neg (by omega), if_pos rfl]
theorem Oo7 : Oo b b2 R (2 * R.length + 5) = .keep "a" := by unfold Oo; rw [if_neg (by omega), if_neg (by omega), if_neg (by omega), if_neg (by omega), if_neg (by omega), if_neg (by omega)]
theorem stp_put (h : Cx b b2 R) (hi : R[i]? = some r) : Stp (Oo b b2 R i) (Ss b b2 R i) (Ss b b2 R (i + 1)) (optS (b.place r.1 r.2)) := by
  have hlt := (List.getElem?_eq_some_iff.mp hi).1
  have hl := h.hl
  rw [Oo0 hi, Ss0 (by omega), Ss0 (by omega), ← sortR_put h.hR.nd hi]
  exact .put (s := ⟨b, sortR (R.take i), []⟩) (h.hR.r r (List.mem_of_getElem? hi)) (fun hm => nodup_take h.hR.nd hi (mem_sortR.mp hm)) (by rw [sortR_len, List.length_take]; omega)
theorem stp_keep (h : Cx b b2 R) : Stp (Oo b b2 R R.length) (Ss b b2 R R.length) (Ss b b2 R (R.length + 1)) (.bl false) := by
  rw [Oo1, Ss0 (by omega), Ss1, List.take_length]
  exact .keep (s := ⟨b, sortR R, []⟩) wa (by simp)
theorem stp_rb1 (h : Cx b b2 R) : Stp (Oo b b2 R (R.length + 1)) (Ss b b2 R (R.length + 1)) (Ss b b2 R (R.length + 2)) (.int ((movesR b b2 R).length : Nat)) := by
  rw [Oo2, Ss1, Ss2, ← moves_sort h.hR.nd]
  exact .rebook (s := ⟨b, sortR R, kvA b R⟩) h.hb2 h.he
theorem stp_rb2 (h : Cx b b2 R) : Stp (Oo b b2 R (R.length + 2)) (Ss b b2 R (R.length + 2)) (Ss b b2 R (R.length + 3)) (.int ((movesR b b2 R).length : Nat)) := by
  rw [Oo3, Ss2, Ss3, ← moves_sym, ← moves_sort h.hR.nd]
  exact .rebook (s := ⟨b2, sortR R, kvA b R⟩) h.hb h.he.symm
theorem stp_rb3 (h : Cx b b2 R) : Stp (Oo b b2 R (R.length + 3)) (Ss b b2 R (R.length + 3)) (Ss b b2 R (R.length + 4)) (.int 0) := by
  have e := Ss4 (b := b) (b2 := b2) (R := R) (Nat.le_refl R.length)
  rw [Nat.sub_self, Nat.add_zero, List.take_length] at e
  rw [Oo4, Ss3, e]
  have := Stp.rebook (s := ⟨b, sortR R, kvA b R⟩) h.hb rfl
  rw [moves_self] at this
  exact this
theorem stp_drop (h : Cx b b2 R) (hi : R[i]? = some r) : Stp (Oo b b2 R (R.length + 4 + (R.length - (i + 1)))) (Ss b b2 R (R.length + 4 + (R.length - (i + 1)))) (Ss b b2 R (R.length + 4 + (R.length - (i + 1)) + 1)) (optS (b.place r.1 r.2)) := by
  have hlt := (List.getElem?_eq_some_iff.mp hi).1
  rw [Oo5 hi, Ss4 (by omega), show R.length + 4 + (R.length - (i + 1)) + 1 = R.length + 4 + (R.length - i) from by omega, Ss4 (by omega), ← sortR_drop h.hR.nd hi]
  refine .drop (s := ⟨b, sortR (R.take (i + 1)), kvA b R⟩) (mem_sortR.mpr ?_)
  rw [List.take_succ, hi]
  simp
theorem Ss40 : Ss b b2 R (2 * R.length + 4) = ⟨b, [], kvA b R⟩ := by
  have e := Ss4 (b := b) (b2 := b2) (R := R) (Nat.zero_le _)
  rw [show R.length + 4 + (R.length - 0) = 2 * R.length + 4 from by omega] at e
  rw [e]; rfl
theorem stp_fetch (h : Cx b b2 R) : Stp (Oo b b2 R (2 * R.length + 4)) (Ss b b2 R (2 * R.length + 4)) (Ss b b2 R (2 * R.length + 5)) (.int (R.length : Nat)) := by
  rw [Oo6, Ss40, Ss5 (by omega)]
  have := Stp.fetch (s := ⟨b, [], kvA b R⟩) (k := "a") (x := (b, sortR R)) wa.ok rfl
  rw [show ((b, sortR R) : KvE).2.length = R.length from sortR_len] at this
  exact this
theorem stp_keep2 (h : Cx b b2 R) : Stp (Oo b b2 R (2 * R.length + 5)) (Ss b b2 R (2 * R.length + 5)) (Ss b b2 R (2 * R.length + 6)) (.bl true) := by
  rw [Oo7, Ss5 (by omega), Ss5 (by omega)]
  exact .keep (s := ⟨b, sortR R, kvA b R⟩) wa (by simp [kvA])
theorem stp_all (h : Cx b b2 R) (hi : i < 2 * R.length + 5) : ∃ d, Stp (Oo b b2 R i) (Ss b b2 R i) (Ss b b2 R (i + 1)) d := by
  by_cases h1 : i < R.length
  · exact ⟨_, stp_put h (List.getElem?_eq_getElem h1)⟩
  · by_cases h2 : i < R.length + 4
    · rcases (by omega : i = R.length ∨ i = R.length + 1 ∨ i = R.length + 2 ∨ i = R.length + 3) with rfl | rfl | rfl | rfl
      · exact ⟨_, stp_keep h⟩
      · exact ⟨_, stp_rb1 h⟩
      · exact ⟨_, stp_rb2 h⟩
      · exact ⟨_, stp_rb3 h⟩
    · by_cases h3 : i = 2 * R.length + 4
      · subst h3; exact ⟨_, stp_fetch h⟩
      · have hj : 2 * R.length + 3 - i < R.length := by omega
        have := stp_drop h (List.getElem?_eq_getElem hj)
        rw [show R.length + 4 + (R.length - (2 * R.length + 3 - i + 1)) = i from by omega] at this
        exact ⟨_, this⟩
@[reducible] def EK (ns : List Int) (t : Nat) (ks : List Str) (wide : Int) (b b2 : Bok) (R : List Rw) (q : Nat) (s12 : Sl) : EnvD :=
  [.va (.scr ns), .va (.ref 0), .va (.int (t : Nat)), .va (.tup (ks.map .str)), .va (.int wide), .va b.d, .va b2.d, .va (.tup (R.map rowD)), .va (.ref q), .no, .no, .no, s12]
/-- the table that has gone through p operations, and the draws -/
@[reducible] def HK (st : Sto) (c : Cell) (q u : Nat) (b b2 : Bok) (R : List Rw) (n p : Nat) : Prop := HiX st q u (Oo b b2 R) (Ss b b2 R) n p ∧ st[0]? = some c ∧ u ≠ 0
theorem HK.call {d : D} (h : HK st c q u b b2 R n p) (hp : p < 900) (hst : Stp (Oo b b2 R p) (Ss b b2 R p) (Ss b b2 R (p + 1)) d) : ∃ st', (Oo b b2 R p).call q [] st = .ok d st' ∧ HK st' c q u b b2 R (p + 1) (p + 1) := by
  obtain ⟨h1, h2, h3⟩ := h
  obtain ⟨S', a1, a2, a3⟩ := hi_call h1 (by omega) (fun _ _ => rfl) (fun _ _ => rfl) hst
  exact ⟨S', a1, a2, a3 _ _ (Ne.symm h3) h2, h3⟩
theorem HK.app (h : HK st c q u b b2 R n p) (ext : Sto) : HK (st ++ ext) c q u b b2 R n p := ⟨h.1.app ext, by rw [List.getElem?_append_left (List.getElem?_eq_some_iff.mp h.2.1).1]; exact h.2.1, h.2.2⟩
theorem vw_opt {p : Option Str} : vw st (optS p) = optS p := by cases p <;> rfl
theorem laid_comp {B : Bok} (h : RowsOk B R) {E : EnvD} {e9 : Sl} (hE : EK ns t ks wide b b2 rows q s12 = E) :
    compL (gT 2 (gsC (gN 10) (gsC (gN 11) (gsN)))) [10, 11] (bYes) (eTup (eCons (eVar 10) (eCons (eB1 lenD (eVar 11)) (eNil)))) (laidL B (sortR R)) [] (E.set 9 e9) st = .ok (.lst (cntsT B (sortR R))) (E.set 9 e9) st := by
  have hfl := fk_sort_len h
  subst hE
  unfold laidL
  rw [comp_all (f := fun k => .tup [.str k, .int ((rowsAt B (sortR R) k).length : Nat)]) (by rw [len_sortS]; omega)]
  · rfl
  · intro k hk
    have hrl := rowsAt_len (k := k) h
    simp [lenD]
theorem opt_pl (hb : BokOk b) (n : Int) (k : Str) : plain 20 (optS (b.place n k)) = true := place_pl hb
theorem L1_ok (h : Cx b b2 R) (hi : R[i]? = some r) (hk : HK st c q u b b2 R i i) {E : EnvD} (hE : EK ns t ks wide b b2 R q s12 = E) : ∃ st' e', b_law_L1 (E.set 9 (.va (.int (i : Nat)))) st = .ok .nx e' st' ∧ wipeD [9] e' = E ∧ HK st' c q u b b2 R (i + 1) (i + 1) := by
  have hlt := (List.getElem?_eq_some_iff.mp hi).1
  have hl := h.hl
  obtain ⟨S1, a1, a2⟩ := hk.call (by omega) (stp_put h hi)
  rw [Oo0 hi] at a1
  have a1' : m_Table_put [.ref q, rowD r] st = .ok (optS (b.place r.1 r.2)) S1 := a1
  have t1 := hk.1.tab
  have t2 := a2.1.tab
  have r2 := hi_rows a2.1
  have c2 := hi_counts a2.1
  rw [Ss0 (by omega)] at r2 c2
  simp only [sortR_idem (h.hR.take (i := i + 1)).nd] at c2
  have hro := h.hR.r r (List.mem_of_getElem? hi)
  have hpo := fun st => sp_piece_of (st := st) h.hb hro
  have n1 := neP_same (opt_pl h.hb r.1 r.2)
  have n2 := neP_same (rows_pl h.hb (h.hR.take (i := i + 1)).sorted)
  have n3 := neP_same (cnts_pl h.hb (h.hR.take (i := i + 1)))
  have hat : atI (R.map rowD) (i : Int) = some (rowD r) := atI_nat (by rw [List.getElem?_map, hi]; rfl)
  have hcu : VE.cutD (R.map rowD) none (some ((i : Int) + 1)) = (R.map rowD).take (i + 1) := cutS1 (by rw [List.length_map]; exact hlt)
  have hso : sortedD (.tup ((R.map rowD).take (i + 1))) = some (.lst ((sortR (R.take (i + 1))).map rowD)) := by rw [← List.map_take]; exact sortedT_rows
  obtain ⟨ext, la⟩ := sp_laid (st := S1) h.hb (h.hR.take (i := i + 1))
  rw [List.map_take] at la
  have hrd : rowD r = .tup [.int r.1, .str r.2] := rfl
  have hvw : ∀ st, vw st (rowD r) = rowD r := fun _ => rfl
  have hpo' : ∀ st, m_piece_of [b.d, rowD r] st = .ok (optS (b.place r.1 r.2)) st := hpo
  have hfl := fk_sort_len (h.hR.take (i := i + 1))
  subst hE
  refine ⟨S1 ++ ext, EK ns t ks wide b b2 R q s12 |>.set 9 (.va (.int (i : Nat))), ?_, rfl, a2.app ext⟩
  have hc := laid_comp (st := S1 ++ ext) (ns := ns) (t := t) (ks := ks) (wide := wide) (b := b) (b2 := b2) (q := q) (s12 := s12) (rows := R) (e9 := .va (.int (i : Nat))) (h.hR.take (i := i + 1)) rfl
  simp only [EK, List.set_cons_succ, List.set_cons_zero] at hc
  simp [b_law_L1, EK, t1, hat, hvw, a1', hpo', n1, t2, r2, hcu, n2, c2, la, vw_opt, hc, n3, hso]
theorem HK.undo (h : HK st c q u b b2 R n (p + 1)) : ∃ st', m_Table_undo [.ref q] st = .ok (.bl true) st' ∧ HK st' c q u b b2 R n p := by
  obtain ⟨h1, h2, h3⟩ := h
  obtain ⟨S', a1, a2, a3⟩ := hi_undo h1
  exact ⟨S', a1, a2, a3 _ _ (Ne.symm h3) h2, h3⟩
theorem HK.redo (h : HK st c q u b b2 R n p) (hp : p < n) : ∃ st', m_Table_redo [.ref q] st = .ok (.bl true) st' ∧ HK st' c q u b b2 R n (p + 1) := by
  obtain ⟨h1, h2, h3⟩ := h
  obtain ⟨S', a1, a2, a3⟩ := hi_redo h1 hp
  exact ⟨S', a1, a2, a3 _ _ (Ne.symm h3) h2, h3⟩
theorem L2_ok (h : Cx b b2 R) (hi : R[i]? = some r) (hk : HK st c q u b b2 R (R.length + 4 + (R.length - (i + 1))) (R.length + 4 + (R.length - (i + 1)))) {E : EnvD} (hE : EK ns t ks wide b b2 R q s12 = E) : ∃ st' e', b_law_L2 (E.set 9 (.va (.int (i : Nat)))) st = .ok .nx e' st' ∧ wipeD [9] e' = E ∧ HK st' c q u b b2 R (R.length + 4 + (R.length - i)) (R.length + 4 + (R.length - i)) := by
  have hlt := (List.getElem?_eq_some_iff.mp hi).1
  have hl := h.hl
  obtain ⟨S1, a1, a2⟩ := hk.call (by omega) (stp_drop h hi)
  rw [Oo5 hi] at a1
  have a1' : m_Table_drop [.ref q, rowD r] st = .ok (optS (b.place r.1 r.2)) S1 := a1
  obtain ⟨S2, b1, b2'⟩ := a2.undo
  obtain ⟨S3, d1, d2⟩ := b2'.redo (by omega)
  have t1 := hk.1.tab
  have t2 := a2.1.tab
  have t3 := b2'.1.tab
  have r2 := hi_rows a2.1
  have r3 := hi_rows b2'.1
  rw [Ss4 (by omega)] at r3
  rw [show R.length + 4 + (R.length - (i + 1)) + 1 = R.length + 4 + (R.length - i) from by omega] at r2 d2
  rw [Ss4 (by omega)] at r2
  have hro := h.hR.r r (List.mem_of_getElem? hi)
  have hpo := fun st => sp_piece_of (st := st) h.hb hro
  have n1 := neP_same (opt_pl h.hb r.1 r.2)
  have n2 := neP_same (rows_pl h.hb (h.hR.take (i := i)).sorted)
  have n3 := neP_same (rows_pl h.hb (h.hR.take (i := i + 1)).sorted)
  have hat : atI (R.map rowD) (i : Int) = some (rowD r) := atI_nat (by rw [List.getElem?_map, hi]; rfl)
  have hcu : VE.cutD (R.map rowD) none (some ((i : Int) + 1)) = (R.map rowD).take (i + 1) := cutS1 (by rw [List.length_map]; exact hlt)
  have hc0 : VE.cutD (R.map rowD) none (some (i : Int)) = (R.map rowD).take i := cut0 (by rw [List.length_map]; omega)
  have hso : ∀ i, sortedD (.tup ((R.map rowD).take i)) = some (.lst ((sortR (R.take i)).map rowD)) := fun i => by rw [← List.map_take]; exact sortedT_rows
  have hrd : rowD r = .tup [.int r.1, .str r.2] := rfl
  have hvw : ∀ st, vw st (rowD r) = rowD r := fun _ => rfl
  have hpo' : ∀ st, m_piece_of [b.d, rowD r] st = .ok (optS (b.place r.1 r.2)) st := hpo
  subst hE
  refine ⟨S3, EK ns t ks wide b b2 R q s12 |>.set 9 (.va (.int (i : Nat))), ?_, rfl, d2⟩
  simp [b_law_L2, EK, t1, hat, hvw, a1', hpo', n1, t2, r2, hc0, hcu, n2, vw_opt, n3, hso, b1, t3, r3, d1]
theorem P3_ok (h : Cx b b2 R) (hk : HK st c q u b b2 R 0 0) : ∃ st', P3 (EK ns t ks wide b b2 R q s12) st = .ok .nx (EK ns t ks wide b b2 R q s12) st' ∧ HK st' c q u b b2 R R.length R.length := by
  have hl := h.hl
  obtain ⟨e', st', h1, h2, h3⟩ := for_inv (t := gN 9) (ws := [9]) (body := b_law_L1) (fun i e s => e = EK ns t ks wide b b2 R q s12 ∧ HK s c q u b b2 R i i) (rngD 0 R.length) 0 (EK ns t ks wide b b2 R q s12) st ⟨rfl, hk⟩ (by
    rintro i d e s hd ⟨rfl, hs⟩
    obtain ⟨rfl, hi⟩ := rng_at hd
    rw [Nat.zero_add] at hs ⊢
    obtain ⟨st', e', a1, a2, a3⟩ := L1_ok (ns := ns) (t := t) (ks := ks) (wide := wide) (s12 := s12) h (List.getElem?_eq_getElem hi) hs rfl
    exact ⟨_, rfl, e', st', by rw [Int.zero_add]; exact a1, a2, a3⟩)
  rw [Nat.zero_add, show (rngD 0 R.length).length = R.length from by simp [rngD]] at h3
  subst h2
  refine ⟨st', ?_, h3⟩
  simp [P3, EK, lenD, rOk_ (j := (R.length : Int)) (by omega) (by omega)]
  exact h1
theorem P4_ok (h : Cx b b2 R) : P4 (EK ns t ks wide b b2 R q .no) st = .ok .nx (EK ns t ks wide b b2 R q (.va (.int ((movesR b b2 R).length : Nat)))) st := by
  have hm := fun st => sp_moves_of (st := st) h.hb h.hb2 h.he h.hR
  have hml : (movesR b b2 R).length ≤ 16777216 := by
    have h5 : (movesR b b2 R).length ≤ (sortR R).length := List.length_filter_le _ _
    rw [sortR_len] at h5
    have := h.hl
    omega
  simp [P4, EK, hm, lenD, hml]
theorem P5_ok (h : Cx b b2 R) (hk : HK st c q u b b2 R R.length R.length) : ∃ st', P5 (EK ns t ks wide b b2 R q (.va (.int ((movesR b b2 R).length : Nat)))) st = .ok .nx (EK ns t ks wide b b2 R q (.va (.int ((movesR b b2 R).length : Nat)))) st' ∧ HK st' c q u b b2 R (R.length + 2) (R.length + 2) := by
  have hl := h.hl
  obtain ⟨S1, a1, a2⟩ := hk.call (by omega) (stp_keep h)
  obtain ⟨S2, b1, b2'⟩ := a2.call (by omega) (stp_rb1 h)
  rw [Oo1] at a1
  rw [Oo2] at b1
  have a1' : m_Table_keep_as [.ref q, .str "a"] st = .ok (.bl false) S1 := a1
  have b1' : m_Table_rebook [.ref q, b2.d] S1 = .ok (.int ((movesR b b2 R).length : Nat)) S2 := b1
  have t1 := hk.1.tab
  have t2 := a2.1.tab
  have t3 := b2'.1.tab
  have bk := hi_book b2'.1
  rw [Ss2] at bk
  have hn := fun env st => x_neO (env := env) (st := st) h.hb2
  refine ⟨S2, ?_, b2'⟩
  simp [P5, EK, t1, a1', t2, b1', t3, bk, hn]
theorem P6_ok (h : Cx b b2 R) (hk : HK st c q u b b2 R (R.length + 2) (R.length + 2)) : ∃ st', P6 (EK ns t ks wide b b2 R q s12) st = .ok .nx (EK ns t ks wide b b2 R q s12) st' ∧ HK st' c q u b b2 R (R.length + 2) (R.length + 2) := by
  have hR2 := h.hR.kinds h.he
  have t1 := hk.1.tab
  have c1 := hi_counts hk.1
  rw [Ss2] at c1
  simp only [sortR_idem h.hR.nd] at c1
  obtain ⟨ext, la⟩ := sp_laid (st := st) h.hb2 hR2
  have hc := laid_comp (st := st ++ ext) (ns := ns) (t := t) (ks := ks) (wide := wide) (b := b) (b2 := b2) (q := q) (s12 := s12) (rows := R) (e9 := .no) hR2 rfl
  simp only [EK, List.set_cons_succ, List.set_cons_zero] at hc
  have n3 := neP_same (cnts_pl h.hb2 hR2)
  refine ⟨st ++ ext, ?_, hk.app ext⟩
  simp [P6, EK, t1, c1, la, hc, n3]
theorem P7_ok (h : Cx b b2 R) (hk : HK st c q u b b2 R (R.length + 2) (R.length + 2)) : ∃ st', P7 (EK ns t ks wide b b2 R q (.va (.int ((movesR b b2 R).length : Nat)))) st = .ok .nx (EK ns t ks wide b b2 R q (.va (.int ((movesR b b2 R).length : Nat)))) st' ∧ HK st' c q u b b2 R (R.length + 4) (R.length + 4) := by
  have hl := h.hl
  obtain ⟨S1, a1, a2⟩ := hk.call (by omega) (stp_rb2 h)
  obtain ⟨S2, b1, b2'⟩ := a2.call (by omega) (stp_rb3 h)
  rw [Oo3] at a1
  rw [Oo4] at b1
  have a1' : m_Table_rebook [.ref q, b.d] st = .ok (.int ((movesR b b2 R).length : Nat)) S1 := a1
  have b1' : m_Table_rebook [.ref q, b.d] S1 = .ok (.int 0) S2 := b1
  have t1 := hk.1.tab
  have t2 := a2.1.tab
  have t3 := b2'.1.tab
  have r2 := hi_rows b2'.1
  have e := Ss4 (b := b) (b2 := b2) (R := R) (Nat.le_refl R.length)
  rw [Nat.sub_self, Nat.add_zero, List.take_length] at e
  rw [e] at r2
  have n2 := neP_same (rows_pl h.hb h.hR.sorted)
  refine ⟨S2, ?_, b2'⟩
  simp [P7, EK, t1, a1', t2, b1', t3, r2, n2]
theorem down15 {N : Nat} (h : N ≤ 15) : kR3c (.int ((N : Int) - 1)) (.int (-1)) (.int (-1)) env st = .ok (rngC ((N : Int) - 1) (-1) N) env st := by
  have hs : Builtin.Range.rangeSize ((N : Int) - 1) (-1) (-1) = (N : Int) := by
    unfold Builtin.Range.rangeSize
    rw [if_neg (by decide), show (-(-1) : Int) = 1 from rfl, Int.ediv_one]
    split <;> omega
  rw [x_kR3c, hs, Int.toNat_natCast]
  rw [hs]
  have h3 : Builtin.Range.small ((N : Int) - 1) (-1) (-1) = true := by
    unfold Builtin.Range.small
    simp [hs, Builtin.Range.rangeFitsLong]
    omega
  simp [h3]
theorem P8_ok (h : Cx b b2 R) (hk : HK st c q u b b2 R (R.length + 4) (R.length + 4)) : ∃ st', P8 (EK ns t ks wide b b2 R q s12) st = .ok .nx (EK ns t ks wide b b2 R q s12) st' ∧ HK st' c q u b b2 R (2 * R.length + 4) (2 * R.length + 4) := by
  have hl := h.hl
  obtain ⟨e', st', h1, h2, h3⟩ := for_inv (t := gN 9) (ws := [9]) (body := b_law_L2) (fun i e s => e = EK ns t ks wide b b2 R q s12 ∧ HK s c q u b b2 R (R.length + 4 + i) (R.length + 4 + i)) (rngC ((R.length : Int) - 1) (-1) R.length) 0 (EK ns t ks wide b b2 R q s12) st ⟨rfl, hk⟩ (by
    rintro i d e s hd ⟨rfl, hs⟩
    have hi : i < R.length := by have := (List.getElem?_eq_some_iff.mp hd).1; simpa [rngC] using this
    have hd2 : d = .int ((R.length - 1 - i : Nat) : Int) := by
      unfold rngC at hd
      rw [List.getElem?_map, List.getElem?_range hi] at hd
      have := Option.some.inj hd
      rw [← this]
      exact congrArg D.int (by omega)
    subst hd2
    rw [Nat.zero_add] at hs ⊢
    have hj : R.length - 1 - i < R.length := by omega
    obtain ⟨st', e', a1, a2, a3⟩ := L2_ok (i := R.length - 1 - i) (ns := ns) (t := t) (ks := ks) (wide := wide) (s12 := s12) h (List.getElem?_eq_getElem hj) (by rw [show R.length + 4 + (R.length - (R.length - 1 - i + 1)) = R.length + 4 + i from by omega]; exact hs) rfl
    rw [show R.length + 4 + (R.length - (R.length - 1 - i)) = R.length + 4 + (i + 1) from by omega] at a3
    exact ⟨_, rfl, e', st', a1, a2, a3⟩)
  rw [Nat.zero_add, show (rngC ((R.length : Int) - 1) (-1) R.length).length = R.length from by simp [rngC], show R.length + 4 + R.length = 2 * R.length + 4 from by omega] at h3
  subst h2
  refine ⟨st', ?_, h3⟩
  have hd := fun env st => down15 (env := env) (st := st) hl
  simp [P8, EK, lenD, hd]
  exact h1
theorem P9_ok (h : Cx b b2 R) (hk : HK st c q u b b2 R (2 * R.length + 4) (2 * R.length + 4)) : ∃ st', P9 (EK ns t ks wide b b2 R q s12) st = .ok .nx (EK ns t ks wide b b2 R q s12) st' ∧ HK st' c q u b b2 R (2 * R.length + 5) (2 * R.length + 5) := by
  have hl := h.hl
  obtain ⟨S1, a1, a2⟩ := hk.call (by omega) (stp_fetch h)
  rw [Oo6] at a1
  have a1' : m_Table_fetch [.ref q, .str "a"] st = .ok (.int (R.length : Nat)) S1 := a1
  have t1 := hk.1.tab
  have t2 := a2.1.tab
  have c1 := hi_counts hk.1
  rw [Ss40] at c1
  have e0 : cntsT b (sortR []) = [] := rfl
  simp only [e0] at c1
  have bk := hi_book a2.1
  rw [Ss5 (by omega)] at bk
  have hn := fun env st => x_neO (env := env) (st := st) h.hb
  have e1 : neP (.lst []) (.lst []) = some (.bl false) := rfl
  refine ⟨S1, ?_, a2⟩
  simp [P9, EK, t1, c1, a1', t2, bk, hn, lenD, e1]
theorem P10_ok (h : Cx b b2 R) (hk : HK st c q u b b2 R (2 * R.length + 5) (2 * R.length + 5)) : ∃ st', P10 (EK ns t ks wide b b2 R q s12) st = .ok .nx (EK ns t ks wide b b2 R q s12) st' ∧ HK st' c q u b b2 R (2 * R.length + 6) (2 * R.length + 6) := by
  have hl := h.hl
  have hh := hi_history hk.1
  have t1 := hk.1.tab
  obtain ⟨rs, hrs⟩ : ∃ rs : Nat → D, ∀ i, i < 2 * R.length + 5 → Stp (Oo b b2 R i) (Ss b b2 R i) (Ss b b2 R (i + 1)) (rs i) := by
    refine ⟨fun i => if hi : i < 2 * R.length + 5 then Classical.choose (stp_all h hi) else .non, fun i hi => ?_⟩
    dsimp only
    rw [dif_pos hi]
    exact Classical.choose_spec (stp_all h hi)
  obtain ⟨S1, a1, a2, a3⟩ := hi_replay (st := st) (O := Oo b b2 R) (sc := Ss b b2 R) h.hb (by rw [Ss0 (by omega)]; rfl) (L := 2 * R.length + 5) (rs := rs) (by omega) hrs
  have r2 := hi_rows a2
  rw [Ss5 (by omega)] at r2
  have t2 := a2.tab
  have hk1 : HK S1 c q u b b2 R (2 * R.length + 5) (2 * R.length + 5) := ⟨hk.1.mono a3, a3 _ _ hk.2.1, hk.2.2⟩
  obtain ⟨S2, b1, b2'⟩ := hk1.call (by omega) (stp_keep2 h)
  rw [Oo7] at b1
  have b1' : m_Table_keep_as [.ref q, .str "a"] S1 = .ok (.bl true) S2 := b1
  have t3 := hk1.1.tab
  have n2 := neP_same (rows_pl h.hb h.hR.sorted)
  refine ⟨S2, ?_, b2'⟩
  generalize (List.range (2 * R.length + 5)).map (fun i => (Oo b b2 R i).d) = OP at hh a1
  simp [P10, EK, t1, hh, callR, a1, t2, r2, n2, t3, b1']
/-- undone, all -/
theorem undo_loop {x1 x2 x3 : Sl} (hk : HK st c q u b b2 R n n) : ∃ st', forL (gN 4) [4] b_law_are_undone_L1 (rngD 0 n) [.va (.ref q), x1, x2, x3, .no] st = .ok .nx [.va (.ref q), x1, x2, x3, .no] st' ∧ HK st' c q u b b2 R n 0 := by
  obtain ⟨e', st', h1, h2, h3⟩ := for_inv (t := gN 4) (ws := [4]) (body := b_law_are_undone_L1) (fun i e s => e = [.va (.ref q), x1, x2, x3, .no] ∧ HK s c q u b b2 R n (n - i)) (rngD 0 n) 0 [.va (.ref q), x1, x2, x3, .no] st ⟨rfl, hk⟩ (by
    rintro i d e s hd ⟨rfl, hs⟩
    obtain ⟨rfl, hi⟩ := rng_at hd
    rw [Nat.zero_add] at hs ⊢
    rw [show n - i = n - (i + 1) + 1 from by omega] at hs
    have t1 := hs.1.tab
    obtain ⟨S', a1, a2⟩ := hs.undo
    refine ⟨_, rfl, [.va (.ref q), x1, x2, x3, .va (.int (0 + (i : Nat)))], S', ?_, rfl, a2⟩
    simp [b_law_are_undone_L1, t1, a1])
  rw [Nat.zero_add, show (rngD 0 n).length = n from by simp [rngD], Nat.sub_self] at h3
  subst h2
  exact ⟨st', h1, h3⟩
theorem redo_loop {x1 x2 : Sl} : ∀ (f k : Nat) (st : Sto), k < f → k ≤ n → k < 1000 → HK st c q u b b2 R n (n - k) →
    ∃ st', whileL [] (eT (eMeth0 "Table" "redo" m_Table_redo 1 (eVar 0))) (b_law_are_undone_L2) f [.va (.ref q), x1, x2, .va (.int (k : Nat)), .no] st = .ok .nx [.va (.ref q), x1, x2, .va (.int 0), .no] st' ∧ HK st' c q u b b2 R n n
  | 0, k, _, h, _, _, _ => by omega
  | f + 1, 0, st, _, _, _, hk => by
    have t1 := hk.1.tab
    have a1 := hi_redo0 hk.1
    refine ⟨st, ?_, hk⟩
    rw [whileL]
    simp [t1, a1]
  | f + 1, k + 1, st, hf, hn, hb, hk => by
    have t1 := hk.1.tab
    obtain ⟨S', a1, a2⟩ := hk.redo (by omega)
    rw [show n - (k + 1) + 1 = n - k from by omega] at a2
    obtain ⟨st', g1, g2⟩ := redo_loop f k S' (by omega) (by omega) (by omega) a2
    refine ⟨st', ?_, g2⟩
    rw [← g1, whileL]
    have htt : (eT (eMeth0 "Table" "redo" m_Table_redo 1 (eVar 0))) [.va (.ref q), x1, x2, .va (.int ((k + 1 : Nat) : Int)), .no] st = .ok true [.va (.ref q), x1, x2, .va (.int ((k + 1 : Nat) : Int)), .no] S' := by
      simp [t1, a1]
    have hbb : b_law_are_undone_L2 [.va (.ref q), x1, x2, .va (.int ((k + 1 : Nat) : Int)), .no] S' = .ok .nx [.va (.ref q), x1, x2, .va (.int (k : Nat)), .no] S' := by
      simp [b_law_are_undone_L2]
    simp only [htt, hbb, VE.R.bind_ok]
    rfl
theorem are_undone (h : Cx b b2 R) (hk : HK st c q u b b2 R (2 * R.length + 6) (2 * R.length + 6)) : ∃ st', m_law_are_undone [.ref q, .tup (R.map rowD), b.d] st = .ok (.bl true) st' ∧ HK st' c q u b b2 R (2 * R.length + 6) (2 * R.length + 6) := by
  have hl := h.hl
  have hh := hi_history hk.1
  have t1 := hk.1.tab
  obtain ⟨S1, a1, a2⟩ := undo_loop (x1 := .va (.tup (R.map rowD))) (x2 := .va b.d) (x3 := .va (.int ((2 * R.length + 6 : Nat) : Int))) hk
  have t2 := a2.1.tab
  have u1 := hi_undo0 a2.1
  have r1 := hi_rows a2.1
  have k1 := hi_kept a2.1
  have bk := hi_book a2.1
  rw [Ss0 (by omega)] at r1 k1 bk
  have r1 : m_Table_rows_now [.ref q] S1 = .ok (.lst []) S1 := r1
  have k1 : m_Table_kept_under [.ref q] S1 = .ok (.lst []) S1 := k1
  obtain ⟨S2, b1, b2'⟩ := redo_loop (x1 := .va (.tup (R.map rowD))) (x2 := .va b.d) 64 (2 * R.length + 6) S1 (by omega) (Nat.le_refl _) (by omega) (by rw [Nat.sub_self]; exact a2)
  have t3 := b2'.1.tab
  have r2 := hi_rows b2'.1
  have k2 := hi_kept b2'.1
  rw [Ss5 (by omega)] at r2 k2
  have z3 : sortS ((kvA b R).map (·.1)) = [("a" : Str)] := rfl
  simp only [z3, List.map_cons, List.map_nil] at k2
  have hn := fun env st => x_neO (env := env) (st := st) h.hb
  have e1 : neP (.lst []) (.lst []) = some (.bl false) := rfl
  have e2 : neP (.lst [.str "a"]) (.lst [.str "a"]) = some (.bl false) := neP_same (by simp [wa.ok])
  have n2 := neP_same (rows_pl h.hb h.hR.sorted)
  refine ⟨S2, ?_, b2'⟩
  have hln : ((List.range (2 * R.length + 6)).map (fun i => (Oo b b2 R i).d)).length = 2 * R.length + 6 := by simp
  generalize (List.range (2 * R.length + 6)).map (fun i => (Oo b b2 R i).d) = OP at hh hln
  generalize hN : 2 * R.length + 6 = N at *
  have hN2 : N ≤ 16777216 := by omega
  have hro := rOk_ (j := (N : Int)) (by omega) (by omega)
  simp [m_law_are_undone, b_law_are_undone, toF_def, env0, t1, hh, lenD, hln, hN2, hro, a1, t2, u1, r1, k1, bk, hn, e1, e2, b1, t3, r2, k2, n2]
theorem P11_ok (h : Cx b b2 R) (hk : HK st c q u b b2 R (2 * R.length + 6) (2 * R.length + 6)) : ∃ st', P11 (EK ns t ks wide b b2 R q s12) st = .ok .nx (EK ns t ks wide b b2 R q s12) st' ∧ HK st' c q u b b2 R (2 * R.length + 6) (2 * R.length + 6) := by
  obtain ⟨S', a1, a2⟩ := are_undone h hk
  refine ⟨S', ?_, a2⟩
  simp [P11, EK, a1]
theorem turn (hc : DrawOk ns c) : ∃ st' c' ks' wide' b' b2' R' q' s', b_law_L3 [.va (.scr ns), .va (.ref 0), .va (.int (t : Nat)), .no, .no, .no, .no, .no, .no, .no, .no, .no, .no] (c :: rest) = .ok .nx (EK ns t ks' wide' b' b2' R' q' s') st' ∧ st'[0]? = some c' ∧ DrawOk ns c' := by
  obtain ⟨ks, c1, e1, hk, hc1⟩ := law_kinds (rest := rest) hc
  obtain ⟨q2, c2, e2, g20, g21, hc2⟩ := taken (rest := rest) (many := 2) hc1 (by decide) (by decide)
  obtain ⟨wide, hw, hw0, hw1⟩ : ∃ wide, atI [D.int 20, D.int 10000000000000000000000000000] q2 = some (.int wide) ∧ 0 < wide ∧ wide ≤ 10000000000000000000000000000 := by
    rw [atI2 g20 g21]
    split
    · exact ⟨_, rfl, by decide, by decide⟩
    · exact ⟨_, rfl, by decide, by decide⟩
  obtain ⟨d3, s3, e3, b, c3, rfl, rfl, hc3, hb, hk1, hl1, ha1⟩ := sat_ex (law_book (rest := rest) hk hc2 hw0 hw1)
  obtain ⟨d4, s4, e4, b2, c4, rfl, rfl, hc4, hb2, hk2, hl2, ha2⟩ := sat_ex (law_book (rest := rest) hk hc3 hw0 hw1)
  obtain ⟨d6, s6, e6, R, c6, rfl, rfl, hc6, hnd, hrl, hrs⟩ := sat_ex (law_rows (rest := rest) (most := 15) hk hc4 hw0 hw1 (by decide) (by decide))
  have hR : RowsOk b R := ⟨fun p hp => by have := hrs p hp; exact ⟨this.1, this.2.1, by rw [hk1]; exact this.2.2⟩, hnd, by omega⟩
  have h : Cx b b2 R := ⟨hb, hb2, hk1.trans hk2.symm, hR, by omega⟩
  obtain ⟨ext, i1, i2⟩ := hi_new (st := c6 :: rest) (O := Oo b b2 R) (sc := Ss b b2 R) hb (by rw [Ss0 (by omega)]; rfl)
  have k0 : HK (c6 :: rest ++ tabC ((c6 :: rest).length + 2) :: ext) c6 (c6 :: rest).length ((c6 :: rest).length + 2) b b2 R 0 0 := ⟨i2, rfl, by omega⟩
  generalize hS0 : c6 :: rest ++ tabC ((c6 :: rest).length + 2) :: ext = S0 at *
  have tq : S0[(c6 :: rest).length]? = some (tabC ((c6 :: rest).length + 2)) := i2.tab
  generalize hq : (c6 :: rest).length = q at *
  obtain ⟨S3, j3, k3⟩ := P3_ok (ns := ns) (t := t) (ks := ks) (wide := wide) (s12 := .no) h k0
  obtain ⟨S5, j5, k5⟩ := P5_ok (ns := ns) (t := t) (ks := ks) (wide := wide) h k3
  obtain ⟨S6, j6, k6⟩ := P6_ok (ns := ns) (t := t) (ks := ks) (wide := wide) (s12 := .va (.int ((movesR b b2 R).length : Nat))) h k5
  obtain ⟨S7, j7, k7⟩ := P7_ok (ns := ns) (t := t) (ks := ks) (wide := wide) h k6
  obtain ⟨S8, j8, k8⟩ := P8_ok (ns := ns) (t := t) (ks := ks) (wide := wide) (s12 := .va (.int ((movesR b b2 R).length : Nat))) h k7
  obtain ⟨S9, j9, k9⟩ := P9_ok (ns := ns) (t := t) (ks := ks) (wide := wide) (s12 := .va (.int ((movesR b b2 R).length : Nat))) h k8
  obtain ⟨S10, j10, k10⟩ := P10_ok (ns := ns) (t := t) (ks := ks) (wide := wide) (s12 := .va (.int ((movesR b b2 R).length : Nat))) h k9
  obtain ⟨S11, j11, k11⟩ := P11_ok (ns := ns) (t := t) (ks := ks) (wide := wide) (s12 := .va (.int ((movesR b b2 R).length : Nat))) h k10
  refine ⟨S11, c6, ks, wide, b, b2, R, q, .va (.int ((movesR b b2 R).length : Nat)), ?_, k11.2.1, hc6⟩
  have p0 : P0 [.va (.scr ns), .va (.ref 0), .va (.int (t : Nat)), .no, .no, .no, .no, .no, .no, .no, .no, .no, .no] (c :: rest) = .ok .nx [.va (.scr ns), .va (.ref 0), .va (.int (t : Nat)), .va (.tup (ks.map .str)), .va (.int wide), .no, .no, .no, .no, .no, .no, .no, .no] (c2 :: rest) := by
    simp [P0, e1, e2, hw]
  have p1 : P1 [.va (.scr ns), .va (.ref 0), .va (.int (t : Nat)), .va (.tup (ks.map .str)), .va (.int wide), .no, .no, .no, .no, .no, .no, .no, .no] (c2 :: rest) = .ok .nx [.va (.scr ns), .va (.ref 0), .va (.int (t : Nat)), .va (.tup (ks.map .str)), .va (.int wide), .va b.d, .va b2.d, .no, .no, .no, .no, .no, .no] (c4 :: rest) := by
    simp [P1, e3, e4]
  have p2 : P2 [.va (.scr ns), .va (.ref 0), .va (.int (t : Nat)), .va (.tup (ks.map .str)), .va (.int wide), .va b.d, .va b2.d, .no, .no, .no, .no, .no, .no] (c4 :: rest) = .ok .nx (EK ns t ks wide b b2 R q .no) S0 := by
    simp at hq
    have i1' : m_Table_init [.ref q, b.d] (c6 :: (rest ++ [.ins "Table" []])) = .ok .non S0 := i1
    simp [P2, e6, EK, hq, i1']
  rw [P_eq, seq_nx p0, seq_nx p1, seq_nx p2, seq_nx j3, seq_nx (P4_ok h), seq_nx j5, seq_nx j6, seq_nx j7, seq_nx j8, seq_nx j9, seq_nx j10, j11]
theorem law_true : VE.LawTrue m_law := fun ns hl => by
  have hc0 : DrawOk ns (.lst [.scr ns, .int 0, .int 0, .int 0]) := ⟨0, 0, 0, rfl, by decide, by decide, by decide⟩
  obtain ⟨e', st', h1, h2, _⟩ := for_inv (t := gN 2) (ws := [2, 3, 4, 5, 6, 7, 8, 9, 10, 11, 12]) (body := b_law_L3) (fun i e s => e = [.va (.scr ns), .va (.ref 0), .no, .no, .no, .no, .no, .no, .no, .no, .no, .no, .no] ∧ ∃ c, s[0]? = some c ∧ DrawOk ns c) (rngD 0 3) 0 [.va (.scr ns), .va (.ref 0), .no, .no, .no, .no, .no, .no, .no, .no, .no, .no, .no] [.lst [.scr ns, .int 0, .int 0, .int 0]] ⟨rfl, _, rfl, hc0⟩ (by
    rintro i d e s hd ⟨rfl, c, hs, hc⟩
    obtain ⟨rfl, hi⟩ := rng_at hd
    obtain ⟨rest, rfl⟩ := sto_head hs
    obtain ⟨st', c', ks', wide', b', b2', R', q', s', a1, a2, a3⟩ := turn (rest := rest) (t := i) hc
    exact ⟨_, rfl, _, st', by rw [Int.zero_add]; exact a1, rfl, c', a2, a3⟩)
  subst h2
  refine ⟨st', ?_⟩
  have r3 := rOk_ (j := 3) (by decide) (by decide)
  simp [m_law, b_law, toF_def, env0, r3, h1]
end
end VP

namespace VP
open PySem PySem.Spec PyProof.Rows L2 VE
theorem all_mk {l : PySem.W.OpenLaw} {w : World} {K : PySem.W.Frag} {h : Heap} {mg : Str → Option Value} {fa : Addr} (X : K.In h) (G : h.Ns mainGlobals mg) (hfa : mg "law" = some (.ref fa))
    {C_Rule : Addr}
    {p_Rule_0 : Addr}
    {C_Book : Addr}
    {p_Book_0 : Addr}
    {C_State : Addr}
    {p_State_0 : Addr}
    {p_State_1 : Addr}
    {p_State_2 : Addr}
    {p_State_3 : Addr}
    {C_Table : Addr}
    {C_Trial : Addr}
    {f_is_number : Addr} {oc_is_number kV_is_number dc_is_number pm_is_number cd_is_number ct_is_number : Value} {od_is_number an_is_number : Option Addr} {sl_is_number : Array (Option Value)}
    {f_is_word : Addr} {oc_is_word kV_is_word dc_is_word pm_is_word cd_is_word ct_is_word : Value} {od_is_word an_is_word : Option Addr} {sl_is_word : Array (Option Value)}
    {f_ascend : Addr} {oc_ascend kV_ascend dc_ascend pm_ascend cd_ascend ct_ascend : Value} {od_ascend an_ascend : Option Addr} {sl_ascend : Array (Option Value)}
    {f_Rule_piece : Addr} {oc_Rule_piece kV_Rule_piece dc_Rule_piece pm_Rule_piece cd_Rule_piece ct_Rule_piece : Value} {od_Rule_piece an_Rule_piece : Option Addr} {sl_Rule_piece : Array (Option Value)}
    {p_Rule_piece : Addr} {r_Rule_piece : List Value}
    {f_Rule_low : Addr} {oc_Rule_low kV_Rule_low dc_Rule_low pm_Rule_low cd_Rule_low ct_Rule_low : Value} {od_Rule_low an_Rule_low : Option Addr} {sl_Rule_low : Array (Option Value)}
    {p_Rule_low : Addr} {r_Rule_low : List Value}
    {f_Rule_high : Addr} {oc_Rule_high kV_Rule_high dc_Rule_high pm_Rule_high cd_Rule_high ct_Rule_high : Value} {od_Rule_high an_Rule_high : Option Addr} {sl_Rule_high : Array (Option Value)}
    {p_Rule_high : Addr} {r_Rule_high : List Value}
    {f_Rule_modulus : Addr} {oc_Rule_modulus kV_Rule_modulus dc_Rule_modulus pm_Rule_modulus cd_Rule_modulus ct_Rule_modulus : Value} {od_Rule_modulus an_Rule_modulus : Option Addr} {sl_Rule_modulus : Array (Option Value)}
    {p_Rule_modulus : Addr} {r_Rule_modulus : List Value}
    {f_Rule_rests : Addr} {oc_Rule_rests kV_Rule_rests dc_Rule_rests pm_Rule_rests cd_Rule_rests ct_Rule_rests : Value} {od_Rule_rests an_Rule_rests : Option Addr} {sl_Rule_rests : Array (Option Value)}
    {p_Rule_rests : Addr} {r_Rule_rests : List Value}
    {f_Rule_kinds : Addr} {oc_Rule_kinds kV_Rule_kinds dc_Rule_kinds pm_Rule_kinds cd_Rule_kinds ct_Rule_kinds : Value} {od_Rule_kinds an_Rule_kinds : Option Addr} {sl_Rule_kinds : Array (Option Value)}
    {p_Rule_kinds : Addr} {r_Rule_kinds : List Value}
    {f_Rule_eq : Addr} {oc_Rule_eq kV_Rule_eq dc_Rule_eq pm_Rule_eq cd_Rule_eq ct_Rule_eq : Value} {od_Rule_eq an_Rule_eq : Option Addr} {sl_Rule_eq : Array (Option Value)}
    {f_Book_kinds : Addr} {oc_Book_kinds kV_Book_kinds dc_Book_kinds pm_Book_kinds cd_Book_kinds ct_Book_kinds : Value} {od_Book_kinds an_Book_kinds : Option Addr} {sl_Book_kinds : Array (Option Value)}
    {p_Book_kinds : Addr} {r_Book_kinds : List Value}
    {f_Book_rules : Addr} {oc_Book_rules kV_Book_rules dc_Book_rules pm_Book_rules cd_Book_rules ct_Book_rules : Value} {od_Book_rules an_Book_rules : Option Addr} {sl_Book_rules : Array (Option Value)}
    {p_Book_rules : Addr} {r_Book_rules : List Value}
    {f_rest_of : Addr} {oc_rest_of kV_rest_of dc_rest_of pm_rest_of cd_rest_of ct_rest_of : Value} {od_rest_of an_rest_of : Option Addr} {sl_rest_of : Array (Option Value)}
    {f_named : Addr} {oc_named kV_named dc_named pm_named cd_named ct_named : Value} {od_named an_named : Option Addr} {sl_named : Array (Option Value)}
    {f_is_operation : Addr} {oc_is_operation kV_is_operation dc_is_operation pm_is_operation cd_is_operation ct_is_operation : Value} {od_is_operation an_is_operation : Option Addr} {sl_is_operation : Array (Option Value)}
    {f_is_name : Addr} {oc_is_name kV_is_name dc_is_name pm_is_name cd_is_name ct_is_name : Value} {od_is_name an_is_name : Option Addr} {sl_is_name : Array (Option Value)}
    {f_State_init : Addr} {oc_State_init kV_State_init dc_State_init pm_State_init cd_State_init ct_State_init : Value} {od_State_init an_State_init : Option Addr} {sl_State_init : Array (Option Value)}
    {f_State_go_on : Addr} {oc_State_go_on kV_State_go_on dc_State_go_on pm_State_go_on cd_State_go_on ct_State_go_on : Value} {od_State_go_on an_State_go_on : Option Addr} {sl_State_go_on : Array (Option Value)}
    {f_State_go_back : Addr} {oc_State_go_back kV_State_go_back dc_State_go_back pm_State_go_back cd_State_go_back ct_State_go_back : Value} {od_State_go_back an_State_go_back : Option Addr} {sl_State_go_back : Array (Option Value)}
    {f_State_go_again : Addr} {oc_State_go_again kV_State_go_again dc_State_go_again pm_State_go_again cd_State_go_again ct_State_go_again : Value} {od_State_go_again an_State_go_again : Option Addr} {sl_State_go_again : Array (Option Value)}
    {f_Table_book_now : Addr} {oc_Table_book_now kV_Table_book_now dc_Table_book_now pm_Table_book_now cd_Table_book_now ct_Table_book_now : Value} {od_Table_book_now an_Table_book_now : Option Addr} {sl_Table_book_now : Array (Option Value)}
    {p_Table_book_now : Addr} {r_Table_book_now : List Value}
    {f_Table_rows_now : Addr} {oc_Table_rows_now kV_Table_rows_now dc_Table_rows_now pm_Table_rows_now cd_Table_rows_now ct_Table_rows_now : Value} {od_Table_rows_now an_Table_rows_now : Option Addr} {sl_Table_rows_now : Array (Option Value)}
    {p_Table_rows_now : Addr} {r_Table_rows_now : List Value}
    {f_Table_counts_now : Addr} {oc_Table_counts_now kV_Table_counts_now dc_Table_counts_now pm_Table_counts_now cd_Table_counts_now ct_Table_counts_now : Value} {od_Table_counts_now an_Table_counts_now : Option Addr} {sl_Table_counts_now : Array (Option Value)}
    {p_Table_counts_now : Addr} {r_Table_counts_now : List Value}
    {f_Table_kept_under : Addr} {oc_Table_kept_under kV_Table_kept_under dc_Table_kept_under pm_Table_kept_under cd_Table_kept_under ct_Table_kept_under : Value} {od_Table_kept_under an_Table_kept_under : Option Addr} {sl_Table_kept_under : Array (Option Value)}
    {p_Table_kept_under : Addr} {r_Table_kept_under : List Value}
    {f_Table_history : Addr} {oc_Table_history kV_Table_history dc_Table_history pm_Table_history cd_Table_history ct_Table_history : Value} {od_Table_history an_Table_history : Option Addr} {sl_Table_history : Array (Option Value)}
    {p_Table_history : Addr} {r_Table_history : List Value}
    {f_Trial_init : Addr} {oc_Trial_init kV_Trial_init dc_Trial_init pm_Trial_init cd_Trial_init ct_Trial_init : Value} {od_Trial_init an_Trial_init : Option Addr} {sl_Trial_init : Array (Option Value)}
    {f_Trial_hold : Addr} {oc_Trial_hold kV_Trial_hold dc_Trial_hold pm_Trial_hold cd_Trial_hold ct_Trial_hold : Value} {od_Trial_hold an_Trial_hold : Option Addr} {sl_Trial_hold : Array (Option Value)}
    {f_Trial_exit : Addr} {oc_Trial_exit kV_Trial_exit dc_Trial_exit pm_Trial_exit cd_Trial_exit ct_Trial_exit : Value} {od_Trial_exit an_Trial_exit : Option Addr} {sl_Trial_exit : Array (Option Value)}
    {f_law_taken : Addr} {oc_law_taken kV_law_taken dc_law_taken pm_law_taken cd_law_taken ct_law_taken : Value} {od_law_taken an_law_taken : Option Addr} {sl_law_taken : Array (Option Value)}
    {f_are_kinds : Addr} {oc_are_kinds kV_are_kinds dc_are_kinds pm_are_kinds cd_are_kinds ct_are_kinds : Value} {od_are_kinds an_are_kinds : Option Addr} {sl_are_kinds : Array (Option Value)}
    {f_are_rests : Addr} {oc_are_rests kV_are_rests dc_are_rests pm_are_rests cd_are_rests ct_are_rests : Value} {od_are_rests an_are_rests : Option Addr} {sl_are_rests : Array (Option Value)}
    {f_check_kinds : Addr} {oc_check_kinds kV_check_kinds dc_check_kinds pm_check_kinds cd_check_kinds ct_check_kinds : Value} {od_check_kinds an_check_kinds : Option Addr} {sl_check_kinds : Array (Option Value)}
    {f_Table_keep_as : Addr} {oc_Table_keep_as kV_Table_keep_as dc_Table_keep_as pm_Table_keep_as cd_Table_keep_as ct_Table_keep_as : Value} {od_Table_keep_as an_Table_keep_as : Option Addr} {sl_Table_keep_as : Array (Option Value)}
    {f_Table_fetch : Addr} {oc_Table_fetch kV_Table_fetch dc_Table_fetch pm_Table_fetch cd_Table_fetch ct_Table_fetch : Value} {od_Table_fetch an_Table_fetch : Option Addr} {sl_Table_fetch : Array (Option Value)}
    {f_Table_undo : Addr} {oc_Table_undo kV_Table_undo dc_Table_undo pm_Table_undo cd_Table_undo ct_Table_undo : Value} {od_Table_undo an_Table_undo : Option Addr} {sl_Table_undo : Array (Option Value)}
    {f_Table_redo : Addr} {oc_Table_redo kV_Table_redo dc_Table_redo pm_Table_redo cd_Table_redo ct_Table_redo : Value} {od_Table_redo an_Table_redo : Option Addr} {sl_Table_redo : Array (Option Value)}
    {f_law_kinds : Addr} {oc_law_kinds kV_law_kinds dc_law_kinds pm_law_kinds cd_law_kinds ct_law_kinds : Value} {od_law_kinds an_law_kinds : Option Addr} {sl_law_kinds : Array (Option Value)}
    {f_law_rows : Addr} {oc_law_rows kV_law_rows dc_law_rows pm_law_rows cd_law_rows ct_law_rows : Value} {od_law_rows an_law_rows : Option Addr} {sl_law_rows : Array (Option Value)}
    {f_Rule_init : Addr} {oc_Rule_init kV_Rule_init dc_Rule_init pm_Rule_init cd_Rule_init ct_Rule_init : Value} {od_Rule_init an_Rule_init : Option Addr} {sl_Rule_init : Array (Option Value)}
    {f_Book_init : Addr} {oc_Book_init kV_Book_init dc_Book_init pm_Book_init cd_Book_init ct_Book_init : Value} {od_Book_init an_Book_init : Option Addr} {sl_Book_init : Array (Option Value)}
    {f_fits : Addr} {oc_fits kV_fits dc_fits pm_fits cd_fits ct_fits : Value} {od_fits an_fits : Option Addr} {sl_fits : Array (Option Value)}
    {f_check_row : Addr} {oc_check_row kV_check_row dc_check_row pm_check_row cd_check_row ct_check_row : Value} {od_check_row an_check_row : Option Addr} {sl_check_row : Array (Option Value)}
    {f_check_books : Addr} {oc_check_books kV_check_books dc_check_books pm_check_books cd_check_books ct_check_books : Value} {od_check_books an_check_books : Option Addr} {sl_check_books : Array (Option Value)}
    {f_is_row : Addr} {oc_is_row kV_is_row dc_is_row pm_is_row cd_is_row ct_is_row : Value} {od_is_row an_is_row : Option Addr} {sl_is_row : Array (Option Value)}
    {f_State_copied : Addr} {oc_State_copied kV_State_copied dc_State_copied pm_State_copied cd_State_copied ct_State_copied : Value} {od_State_copied an_State_copied : Option Addr} {sl_State_copied : Array (Option Value)}
    {f_Table_init : Addr} {oc_Table_init kV_Table_init dc_Table_init pm_Table_init cd_Table_init ct_Table_init : Value} {od_Table_init an_Table_init : Option Addr} {sl_Table_init : Array (Option Value)}
    {f_Book_eq : Addr} {oc_Book_eq kV_Book_eq dc_Book_eq pm_Book_eq cd_Book_eq ct_Book_eq : Value} {od_Book_eq an_Book_eq : Option Addr} {sl_Book_eq : Array (Option Value)}
    {f_fitting : Addr} {oc_fitting kV_fitting dc_fitting pm_fitting cd_fitting ct_fitting : Value} {od_fitting an_fitting : Option Addr} {sl_fitting : Array (Option Value)}
    {f_check_rows : Addr} {oc_check_rows kV_check_rows dc_check_rows pm_check_rows cd_check_rows ct_check_rows : Value} {od_check_rows an_check_rows : Option Addr} {sl_check_rows : Array (Option Value)}
    {f_Trial_enter : Addr} {oc_Trial_enter kV_Trial_enter dc_Trial_enter pm_Trial_enter cd_Trial_enter ct_Trial_enter : Value} {od_Trial_enter an_Trial_enter : Option Addr} {sl_Trial_enter : Array (Option Value)}
    {f_place_of : Addr} {oc_place_of kV_place_of dc_place_of pm_place_of cd_place_of ct_place_of : Value} {od_place_of an_place_of : Option Addr} {sl_place_of : Array (Option Value)}
    {f_law_book : Addr} {oc_law_book kV_law_book dc_law_book pm_law_book cd_law_book ct_law_book : Value} {od_law_book an_law_book : Option Addr} {sl_law_book : Array (Option Value)}
    {f_piece_of : Addr} {oc_piece_of kV_piece_of dc_piece_of pm_piece_of cd_piece_of ct_piece_of : Value} {od_piece_of an_piece_of : Option Addr} {sl_piece_of : Array (Option Value)}
    {f_by_pieces : Addr} {oc_by_pieces kV_by_pieces dc_by_pieces pm_by_pieces cd_by_pieces ct_by_pieces : Value} {od_by_pieces an_by_pieces : Option Addr} {sl_by_pieces : Array (Option Value)}
    {f_moves_of : Addr} {oc_moves_of kV_moves_of dc_moves_of pm_moves_of cd_moves_of ct_moves_of : Value} {od_moves_of an_moves_of : Option Addr} {sl_moves_of : Array (Option Value)}
    {f_law_are_undone : Addr} {oc_law_are_undone kV_law_are_undone dc_law_are_undone pm_law_are_undone cd_law_are_undone ct_law_are_undone : Value} {od_law_are_undone an_law_are_undone : Option Addr} {sl_law_are_undone : Array (Option Value)}
    {f_laid : Addr} {oc_laid kV_laid dc_laid pm_laid cd_laid ct_laid : Value} {od_laid an_laid : Option Addr} {sl_laid : Array (Option Value)}
    {f_facts_of : Addr} {oc_facts_of kV_facts_of dc_facts_of pm_facts_of cd_facts_of ct_facts_of : Value} {od_facts_of an_facts_of : Option Addr} {sl_facts_of : Array (Option Value)}
    {f_Table_put : Addr} {oc_Table_put kV_Table_put dc_Table_put pm_Table_put cd_Table_put ct_Table_put : Value} {od_Table_put an_Table_put : Option Addr} {sl_Table_put : Array (Option Value)}
    {f_Table_drop : Addr} {oc_Table_drop kV_Table_drop dc_Table_drop pm_Table_drop cd_Table_drop ct_Table_drop : Value} {od_Table_drop an_Table_drop : Option Addr} {sl_Table_drop : Array (Option Value)}
    {f_Table_rebook : Addr} {oc_Table_rebook kV_Table_rebook dc_Table_rebook pm_Table_rebook cd_Table_rebook ct_Table_rebook : Value} {od_Table_rebook an_Table_rebook : Option Addr} {sl_Table_rebook : Array (Option Value)}
    {f_Table_execute : Addr} {oc_Table_execute kV_Table_execute dc_Table_execute pm_Table_execute cd_Table_execute ct_Table_execute : Value} {od_Table_execute an_Table_execute : Option Addr} {sl_Table_execute : Array (Option Value)}
    {f_Table_apply_all : Addr} {oc_Table_apply_all kV_Table_apply_all dc_Table_apply_all pm_Table_apply_all cd_Table_apply_all ct_Table_apply_all : Value} {od_Table_apply_all an_Table_apply_all : Option Addr} {sl_Table_apply_all : Array (Option Value)}
    {f_Table_replay : Addr} {oc_Table_replay kV_Table_replay dc_Table_replay pm_Table_replay cd_Table_replay ct_Table_replay : Value} {od_Table_replay an_Table_replay : Option Addr} {sl_Table_replay : Array (Option Value)}
    {p_Table_replay : Addr} {r_Table_replay : List Value}
    {f_law : Addr} {oc_law kV_law dc_law pm_law cd_law ct_law : Value} {od_law an_law : Option Addr} {sl_law : Array (Option Value)}
    {t_LAST : Tok}
    {t_LETTERS_books : Tok}
    {t_LETTERS_tables : Tok}
    {t_MAX_KINDS : Tok}
    {t_MAX_NAME : Tok}
    {t_MAX_ROWS : Tok}
    {t_MAX_RULES : Tok}
    {t_MAX_WORD : Tok}
    {a_MODULI : Addr} {dd_MODULI : Option Addr} {k_MODULI : Nat} {sl_MODULI : Array (Option Value)} {t_MODULI_0 : Tok} {t_MODULI_1 : Tok} {t_MODULI_2 : Tok} {t_MODULI_3 : Tok} {t_MODULI_4 : Tok} {t_MODULI_5 : Tok}
    {a_SIZES : Addr} {t_SIZES_0 : Tok} {t_SIZES_1 : Tok} {t_SIZES_2 : Tok} {t_SIZES_3 : Tok} {t_SIZES_4 : Tok} {t_SIZES_5 : Tok} {t_SIZES_6 : Tok}
    (aC_Rule : PySem.W.nsIn K mainGlobals "Rule" = some (some (.ref C_Rule)))
    (pg_Rule : PySem.W.plainGet K C_Rule Str.empty = true)
    (ic_Rule : PySem.W.isClsIn K C_Rule = true)
    (po_Rule : PySem.W.plainOver K C_Rule = true)
    (sa_Rule : PySem.W.findIn K (.ref C_Rule) "__setattr__" = some (some (.builtin "object.__setattr__")))
    (mk_Rule : PySem.W.makesIn K C_Rule = true)
    (kc_Rule : PySem.W.keepIn K (.ref C_Rule) = true)
    (da_Rule_0 : PySem.W.findIn K (.ref C_Rule) "parts" = some (some (.ref p_Rule_0)))
    (dg_Rule_0 : PySem.W.specialIn K (.ref p_Rule_0) "__get__" = some (some (.builtin "member_descriptor.__get__")))
    (dt_Rule_0 : PySem.W.takesIn K (.ref p_Rule_0) = some true)
    (di_Rule_0 : PySem.W.slotIn K p_Rule_0 C_Rule = some 0)
    (dy_Rule_0 : PySem.W.typeIn K (.ref p_Rule_0) = some (.type "member_descriptor"))
    (aC_Book : PySem.W.nsIn K mainGlobals "Book" = some (some (.ref C_Book)))
    (pg_Book : PySem.W.plainGet K C_Book Str.empty = true)
    (ic_Book : PySem.W.isClsIn K C_Book = true)
    (po_Book : PySem.W.plainOver K C_Book = true)
    (sa_Book : PySem.W.findIn K (.ref C_Book) "__setattr__" = some (some (.builtin "object.__setattr__")))
    (mk_Book : PySem.W.makesIn K C_Book = true)
    (kc_Book : PySem.W.keepIn K (.ref C_Book) = true)
    (da_Book_0 : PySem.W.findIn K (.ref C_Book) "lists" = some (some (.ref p_Book_0)))
    (dg_Book_0 : PySem.W.specialIn K (.ref p_Book_0) "__get__" = some (some (.builtin "member_descriptor.__get__")))
    (dt_Book_0 : PySem.W.takesIn K (.ref p_Book_0) = some true)
    (di_Book_0 : PySem.W.slotIn K p_Book_0 C_Book = some 0)
    (dy_Book_0 : PySem.W.typeIn K (.ref p_Book_0) = some (.type "member_descriptor"))
    (aC_State : PySem.W.nsIn K mainGlobals "State" = some (some (.ref C_State)))
    (pg_State : PySem.W.plainGet K C_State Str.empty = true)
    (ic_State : PySem.W.isClsIn K C_State = true)
    (po_State : PySem.W.plainOver K C_State = true)
    (sa_State : PySem.W.findIn K (.ref C_State) "__setattr__" = some (some (.builtin "object.__setattr__")))
    (mk_State : PySem.W.makesIn K C_State = true)
    (kc_State : PySem.W.keepIn K (.ref C_State) = true)
    (da_State_0 : PySem.W.findIn K (.ref C_State) "facts" = some (some (.ref p_State_0)))
    (dg_State_0 : PySem.W.specialIn K (.ref p_State_0) "__get__" = some (some (.builtin "member_descriptor.__get__")))
    (dt_State_0 : PySem.W.takesIn K (.ref p_State_0) = some true)
    (di_State_0 : PySem.W.slotIn K p_State_0 C_State = some 0)
    (dy_State_0 : PySem.W.typeIn K (.ref p_State_0) = some (.type "member_descriptor"))
    (da_State_1 : PySem.W.findIn K (.ref C_State) "past" = some (some (.ref p_State_1)))
    (dg_State_1 : PySem.W.specialIn K (.ref p_State_1) "__get__" = some (some (.builtin "member_descriptor.__get__")))
    (dt_State_1 : PySem.W.takesIn K (.ref p_State_1) = some true)
    (di_State_1 : PySem.W.slotIn K p_State_1 C_State = some 1)
    (dy_State_1 : PySem.W.typeIn K (.ref p_State_1) = some (.type "member_descriptor"))
    (da_State_2 : PySem.W.findIn K (.ref C_State) "shelf" = some (some (.ref p_State_2)))
    (dg_State_2 : PySem.W.specialIn K (.ref p_State_2) "__get__" = some (some (.builtin "member_descriptor.__get__")))
    (dt_State_2 : PySem.W.takesIn K (.ref p_State_2) = some true)
    (di_State_2 : PySem.W.slotIn K p_State_2 C_State = some 2)
    (dy_State_2 : PySem.W.typeIn K (.ref p_State_2) = some (.type "member_descriptor"))
    (da_State_3 : PySem.W.findIn K (.ref C_State) "undone" = some (some (.ref p_State_3)))
    (dg_State_3 : PySem.W.specialIn K (.ref p_State_3) "__get__" = some (some (.builtin "member_descriptor.__get__")))
    (dt_State_3 : PySem.W.takesIn K (.ref p_State_3) = some true)
    (di_State_3 : PySem.W.slotIn K p_State_3 C_State = some 3)
    (dy_State_3 : PySem.W.typeIn K (.ref p_State_3) = some (.type "member_descriptor"))
    (aC_Table : PySem.W.nsIn K mainGlobals "Table" = some (some (.ref C_Table)))
    (pg_Table : PySem.W.plainGet K C_Table Str.empty = true)
    (hd_Table : PySem.W.hasDictIn K C_Table = true)
    (po_Table : PySem.W.plainOver K C_Table = true)
    (sa_Table : PySem.W.findIn K (.ref C_Table) "__setattr__" = some (some (.builtin "object.__setattr__")))
    (mk_Table : PySem.W.makesIn K C_Table = true)
    (kc_Table : PySem.W.keepIn K (.ref C_Table) = true)
    (na_Table_0 : PySem.W.findIn K (.ref C_Table) "held" = some none)
    (aC_Trial : PySem.W.nsIn K mainGlobals "Trial" = some (some (.ref C_Trial)))
    (pg_Trial : PySem.W.plainGet K C_Trial Str.empty = true)
    (hd_Trial : PySem.W.hasDictIn K C_Trial = true)
    (po_Trial : PySem.W.plainOver K C_Trial = true)
    (sa_Trial : PySem.W.findIn K (.ref C_Trial) "__setattr__" = some (some (.builtin "object.__setattr__")))
    (mk_Trial : PySem.W.makesIn K C_Trial = true)
    (kc_Trial : PySem.W.keepIn K (.ref C_Trial) = true)
    (na_Trial_0 : PySem.W.findIn K (.ref C_Trial) "tested_table" = some none)
    (na_Trial_1 : PySem.W.findIn K (.ref C_Trial) "origin" = some none)
    (na_Trial_2 : PySem.W.findIn K (.ref C_Trial) "newest" = some none)
    (na_Trial_3 : PySem.W.findIn K (.ref C_Trial) "chosen" = some none)
    (ica_Book : PySem.W.findIn K (.ref C_Book) "__class__" = some (some (.builtin "object.__class__")))
    (icn_Book : PySem.W.specialIn K (.builtin "object.__class__") "__get__" = some (some (.builtin "getset_descriptor.__get__")))
    (ict_Book : PySem.W.takesIn K (.builtin "object.__class__") = some true)
    (icm_Book : PySem.W.mroIn K C_Book (.type "object") = some true)
    (iki_Book : PySem.W.kitOne K (.ref C_Book) (.ref C_Book) = some true)
    (ica_Rule : PySem.W.findIn K (.ref C_Rule) "__class__" = some (some (.builtin "object.__class__")))
    (icn_Rule : PySem.W.specialIn K (.builtin "object.__class__") "__get__" = some (some (.builtin "getset_descriptor.__get__")))
    (ict_Rule : PySem.W.takesIn K (.builtin "object.__class__") = some true)
    (icm_Rule : PySem.W.mroIn K C_Rule (.type "object") = some true)
    (iki_Rule : PySem.W.kitOne K (.ref C_Rule) (.ref C_Rule) = some true)
    (ene_Book : PySem.W.findIn K (.ref C_Book) "__ne__" = some (some (.builtin "object.__ne__")))
    (eso_Book : PySem.W.subIn K (.ref C_Book) (.type "object") = some true)
    (a_is_number : PySem.W.nsIn K mainGlobals "is_number" = some (some (.ref f_is_number)))
    (l_is_number : K.lookup f_is_number = some ⟨oc_is_number, od_is_number, .func (PySem.W.fnOf "is_number" "is_number" (defArgs s_is_number) (defBody s_is_number) (defScope s_is_number) .none kV_is_number dc_is_number pm_is_number an_is_number cd_is_number ct_is_number), sl_is_number⟩)
    (c_is_number : PySem.W.codeIn K cd_is_number "is_number" = true)
    (k_is_number : PySem.W.keepIn K (.ref f_is_number) = true)
    (a_is_word : PySem.W.nsIn K mainGlobals "is_word" = some (some (.ref f_is_word)))
    (l_is_word : K.lookup f_is_word = some ⟨oc_is_word, od_is_word, .func (PySem.W.fnOf "is_word" "is_word" (defArgs s_is_word) (defBody s_is_word) (defScope s_is_word) .none kV_is_word dc_is_word pm_is_word an_is_word cd_is_word ct_is_word), sl_is_word⟩)
    (c_is_word : PySem.W.codeIn K cd_is_word "is_word" = true)
    (k_is_word : PySem.W.keepIn K (.ref f_is_word) = true)
    (a_ascend : PySem.W.nsIn K mainGlobals "ascend" = some (some (.ref f_ascend)))
    (l_ascend : K.lookup f_ascend = some ⟨oc_ascend, od_ascend, .func (PySem.W.fnOf "ascend" "ascend" (defArgs s_ascend) (defBody s_ascend) (defScope s_ascend) .none kV_ascend dc_ascend pm_ascend an_ascend cd_ascend ct_ascend), sl_ascend⟩)
    (c_ascend : PySem.W.codeIn K cd_ascend "ascend" = true)
    (k_ascend : PySem.W.keepIn K (.ref f_ascend) = true)
    (a_Rule_piece : PySem.W.findIn K (.ref C_Rule) "piece" = some (some (.ref p_Rule_piece)))
    (pg2_Rule_piece : PySem.W.specialIn K (.ref p_Rule_piece) "__get__" = some (some (.builtin "property.__get__")))
    (pt_Rule_piece : PySem.W.takesIn K (.ref p_Rule_piece) = some true)
    (pr_Rule_piece : PySem.W.recIn K p_Rule_piece "property" = some (.ref f_Rule_piece :: r_Rule_piece))
    (l_Rule_piece : K.lookup f_Rule_piece = some ⟨oc_Rule_piece, od_Rule_piece, .func (PySem.W.fnOf "piece" "Rule.piece" (defArgs s_Rule_piece) (defBody s_Rule_piece) (defScope s_Rule_piece) .none kV_Rule_piece dc_Rule_piece pm_Rule_piece an_Rule_piece cd_Rule_piece ct_Rule_piece), sl_Rule_piece⟩)
    (c_Rule_piece : PySem.W.codeIn K cd_Rule_piece "Rule.piece" = true)
    (k_Rule_piece : PySem.W.keepIn K (.ref f_Rule_piece) = true)
    (a_Rule_low : PySem.W.findIn K (.ref C_Rule) "low" = some (some (.ref p_Rule_low)))
    (pg2_Rule_low : PySem.W.specialIn K (.ref p_Rule_low) "__get__" = some (some (.builtin "property.__get__")))
    (pt_Rule_low : PySem.W.takesIn K (.ref p_Rule_low) = some true)
    (pr_Rule_low : PySem.W.recIn K p_Rule_low "property" = some (.ref f_Rule_low :: r_Rule_low))
    (l_Rule_low : K.lookup f_Rule_low = some ⟨oc_Rule_low, od_Rule_low, .func (PySem.W.fnOf "low" "Rule.low" (defArgs s_Rule_low) (defBody s_Rule_low) (defScope s_Rule_low) .none kV_Rule_low dc_Rule_low pm_Rule_low an_Rule_low cd_Rule_low ct_Rule_low), sl_Rule_low⟩)
    (c_Rule_low : PySem.W.codeIn K cd_Rule_low "Rule.low" = true)
    (k_Rule_low : PySem.W.keepIn K (.ref f_Rule_low) = true)
    (a_Rule_high : PySem.W.findIn K (.ref C_Rule) "high" = some (some (.ref p_Rule_high)))
    (pg2_Rule_high : PySem.W.specialIn K (.ref p_Rule_high) "__get__" = some (some (.builtin "property.__get__")))
    (pt_Rule_high : PySem.W.takesIn K (.ref p_Rule_high) = some true)
    (pr_Rule_high : PySem.W.recIn K p_Rule_high "property" = some (.ref f_Rule_high :: r_Rule_high))
    (l_Rule_high : K.lookup f_Rule_high = some ⟨oc_Rule_high, od_Rule_high, .func (PySem.W.fnOf "high" "Rule.high" (defArgs s_Rule_high) (defBody s_Rule_high) (defScope s_Rule_high) .none kV_Rule_high dc_Rule_high pm_Rule_high an_Rule_high cd_Rule_high ct_Rule_high), sl_Rule_high⟩)
    (c_Rule_high : PySem.W.codeIn K cd_Rule_high "Rule.high" = true)
    (k_Rule_high : PySem.W.keepIn K (.ref f_Rule_high) = true)
    (a_Rule_modulus : PySem.W.findIn K (.ref C_Rule) "modulus" = some (some (.ref p_Rule_modulus)))
    (pg2_Rule_modulus : PySem.W.specialIn K (.ref p_Rule_modulus) "__get__" = some (some (.builtin "property.__get__")))
    (pt_Rule_modulus : PySem.W.takesIn K (.ref p_Rule_modulus) = some true)
    (pr_Rule_modulus : PySem.W.recIn K p_Rule_modulus "property" = some (.ref f_Rule_modulus :: r_Rule_modulus))
    (l_Rule_modulus : K.lookup f_Rule_modulus = some ⟨oc_Rule_modulus, od_Rule_modulus, .func (PySem.W.fnOf "modulus" "Rule.modulus" (defArgs s_Rule_modulus) (defBody s_Rule_modulus) (defScope s_Rule_modulus) .none kV_Rule_modulus dc_Rule_modulus pm_Rule_modulus an_Rule_modulus cd_Rule_modulus ct_Rule_modulus), sl_Rule_modulus⟩)
    (c_Rule_modulus : PySem.W.codeIn K cd_Rule_modulus "Rule.modulus" = true)
    (k_Rule_modulus : PySem.W.keepIn K (.ref f_Rule_modulus) = true)
    (a_Rule_rests : PySem.W.findIn K (.ref C_Rule) "rests" = some (some (.ref p_Rule_rests)))
    (pg2_Rule_rests : PySem.W.specialIn K (.ref p_Rule_rests) "__get__" = some (some (.builtin "property.__get__")))
    (pt_Rule_rests : PySem.W.takesIn K (.ref p_Rule_rests) = some true)
    (pr_Rule_rests : PySem.W.recIn K p_Rule_rests "property" = some (.ref f_Rule_rests :: r_Rule_rests))
    (l_Rule_rests : K.lookup f_Rule_rests = some ⟨oc_Rule_rests, od_Rule_rests, .func (PySem.W.fnOf "rests" "Rule.rests" (defArgs s_Rule_rests) (defBody s_Rule_rests) (defScope s_Rule_rests) .none kV_Rule_rests dc_Rule_rests pm_Rule_rests an_Rule_rests cd_Rule_rests ct_Rule_rests), sl_Rule_rests⟩)
    (c_Rule_rests : PySem.W.codeIn K cd_Rule_rests "Rule.rests" = true)
    (k_Rule_rests : PySem.W.keepIn K (.ref f_Rule_rests) = true)
    (a_Rule_kinds : PySem.W.findIn K (.ref C_Rule) "kinds" = some (some (.ref p_Rule_kinds)))
    (pg2_Rule_kinds : PySem.W.specialIn K (.ref p_Rule_kinds) "__get__" = some (some (.builtin "property.__get__")))
    (pt_Rule_kinds : PySem.W.takesIn K (.ref p_Rule_kinds) = some true)
    (pr_Rule_kinds : PySem.W.recIn K p_Rule_kinds "property" = some (.ref f_Rule_kinds :: r_Rule_kinds))
    (l_Rule_kinds : K.lookup f_Rule_kinds = some ⟨oc_Rule_kinds, od_Rule_kinds, .func (PySem.W.fnOf "kinds" "Rule.kinds" (defArgs s_Rule_kinds) (defBody s_Rule_kinds) (defScope s_Rule_kinds) .none kV_Rule_kinds dc_Rule_kinds pm_Rule_kinds an_Rule_kinds cd_Rule_kinds ct_Rule_kinds), sl_Rule_kinds⟩)
    (c_Rule_kinds : PySem.W.codeIn K cd_Rule_kinds "Rule.kinds" = true)
    (k_Rule_kinds : PySem.W.keepIn K (.ref f_Rule_kinds) = true)
    (a_Rule_eq : PySem.W.findIn K (.ref C_Rule) "__eq__" = some (some (.ref f_Rule_eq)))
    (i_Rule_eq : PySem.W.isFn K (.ref f_Rule_eq) = true)
    (l_Rule_eq : K.lookup f_Rule_eq = some ⟨oc_Rule_eq, od_Rule_eq, .func (PySem.W.fnOf "__eq__" "Rule.__eq__" (defArgs s_Rule_eq) (defBody s_Rule_eq) (defScope s_Rule_eq) .none kV_Rule_eq dc_Rule_eq pm_Rule_eq an_Rule_eq cd_Rule_eq ct_Rule_eq), sl_Rule_eq⟩)
    (c_Rule_eq : PySem.W.codeIn K cd_Rule_eq "Rule.__eq__" = true)
    (k_Rule_eq : PySem.W.keepIn K (.ref f_Rule_eq) = true)
    (a_Book_kinds : PySem.W.findIn K (.ref C_Book) "kinds" = some (some (.ref p_Book_kinds)))
    (pg2_Book_kinds : PySem.W.specialIn K (.ref p_Book_kinds) "__get__" = some (some (.builtin "property.__get__")))
    (pt_Book_kinds : PySem.W.takesIn K (.ref p_Book_kinds) = some true)
    (pr_Book_kinds : PySem.W.recIn K p_Book_kinds "property" = some (.ref f_Book_kinds :: r_Book_kinds))
    (l_Book_kinds : K.lookup f_Book_kinds = some ⟨oc_Book_kinds, od_Book_kinds, .func (PySem.W.fnOf "kinds" "Book.kinds" (defArgs s_Book_kinds) (defBody s_Book_kinds) (defScope s_Book_kinds) .none kV_Book_kinds dc_Book_kinds pm_Book_kinds an_Book_kinds cd_Book_kinds ct_Book_kinds), sl_Book_kinds⟩)
    (c_Book_kinds : PySem.W.codeIn K cd_Book_kinds "Book.kinds" = true)
    (k_Book_kinds : PySem.W.keepIn K (.ref f_Book_kinds) = true)
    (a_Book_rules : PySem.W.findIn K (.ref C_Book) "rules" = some (some (.ref p_Book_rules)))
    (pg2_Book_rules : PySem.W.specialIn K (.ref p_Book_rules) "__get__" = some (some (.builtin "property.__get__")))
    (pt_Book_rules : PySem.W.takesIn K (.ref p_Book_rules) = some true)
    (pr_Book_rules : PySem.W.recIn K p_Book_rules "property" = some (.ref f_Book_rules :: r_Book_rules))
    (l_Book_rules : K.lookup f_Book_rules = some ⟨oc_Book_rules, od_Book_rules, .func (PySem.W.fnOf "rules" "Book.rules" (defArgs s_Book_rules) (defBody s_Book_rules) (defScope s_Book_rules) .none kV_Book_rules dc_Book_rules pm_Book_rules an_Book_rules cd_Book_rules ct_Book_rules), sl_Book_rules⟩)
    (c_Book_rules : PySem.W.codeIn K cd_Book_rules "Book.rules" = true)
    (k_Book_rules : PySem.W.keepIn K (.ref f_Book_rules) = true)
    (a_rest_of : PySem.W.nsIn K mainGlobals "rest_of" = some (some (.ref f_rest_of)))
    (l_rest_of : K.lookup f_rest_of = some ⟨oc_rest_of, od_rest_of, .func (PySem.W.fnOf "rest_of" "rest_of" (defArgs s_rest_of) (defBody s_rest_of) (defScope s_rest_of) .none kV_rest_of dc_rest_of pm_rest_of an_rest_of cd_rest_of ct_rest_of), sl_rest_of⟩)
    (c_rest_of : PySem.W.codeIn K cd_rest_of "rest_of" = true)
    (k_rest_of : PySem.W.keepIn K (.ref f_rest_of) = true)
    (a_named : PySem.W.nsIn K mainGlobals "named" = some (some (.ref f_named)))
    (l_named : K.lookup f_named = some ⟨oc_named, od_named, .func (PySem.W.fnOf "named" "named" (defArgs s_named) (defBody s_named) (defScope s_named) .none kV_named dc_named pm_named an_named cd_named ct_named), sl_named⟩)
    (c_named : PySem.W.codeIn K cd_named "named" = true)
    (k_named : PySem.W.keepIn K (.ref f_named) = true)
    (a_is_operation : PySem.W.nsIn K mainGlobals "is_operation" = some (some (.ref f_is_operation)))
    (l_is_operation : K.lookup f_is_operation = some ⟨oc_is_operation, od_is_operation, .func (PySem.W.fnOf "is_operation" "is_operation" (defArgs s_is_operation) (defBody s_is_operation) (defScope s_is_operation) .none kV_is_operation dc_is_operation pm_is_operation an_is_operation cd_is_operation ct_is_operation), sl_is_operation⟩)
    (c_is_operation : PySem.W.codeIn K cd_is_operation "is_operation" = true)
    (k_is_operation : PySem.W.keepIn K (.ref f_is_operation) = true)
    (a_is_name : PySem.W.nsIn K mainGlobals "is_name" = some (some (.ref f_is_name)))
    (l_is_name : K.lookup f_is_name = some ⟨oc_is_name, od_is_name, .func (PySem.W.fnOf "is_name" "is_name" (defArgs s_is_name) (defBody s_is_name) (defScope s_is_name) .none kV_is_name dc_is_name pm_is_name an_is_name cd_is_name ct_is_name), sl_is_name⟩)
    (c_is_name : PySem.W.codeIn K cd_is_name "is_name" = true)
    (k_is_name : PySem.W.keepIn K (.ref f_is_name) = true)
    (a_State_init : PySem.W.findIn K (.ref C_State) "__init__" = some (some (.ref f_State_init)))
    (i_State_init : PySem.W.isFn K (.ref f_State_init) = true)
    (l_State_init : K.lookup f_State_init = some ⟨oc_State_init, od_State_init, .func (PySem.W.fnOf "__init__" "State.__init__" (defArgs s_State_init) (defBody s_State_init) (defScope s_State_init) .none kV_State_init dc_State_init pm_State_init an_State_init cd_State_init ct_State_init), sl_State_init⟩)
    (c_State_init : PySem.W.codeIn K cd_State_init "State.__init__" = true)
    (k_State_init : PySem.W.keepIn K (.ref f_State_init) = true)
    (a_State_go_on : PySem.W.findIn K (.ref C_State) "go_on" = some (some (.ref f_State_go_on)))
    (i_State_go_on : PySem.W.isFn K (.ref f_State_go_on) = true)
    (l_State_go_on : K.lookup f_State_go_on = some ⟨oc_State_go_on, od_State_go_on, .func (PySem.W.fnOf "go_on" "State.go_on" (defArgs s_State_go_on) (defBody s_State_go_on) (defScope s_State_go_on) .none kV_State_go_on dc_State_go_on pm_State_go_on an_State_go_on cd_State_go_on ct_State_go_on), sl_State_go_on⟩)
    (c_State_go_on : PySem.W.codeIn K cd_State_go_on "State.go_on" = true)
    (k_State_go_on : PySem.W.keepIn K (.ref f_State_go_on) = true)
    (a_State_go_back : PySem.W.findIn K (.ref C_State) "go_back" = some (some (.ref f_State_go_back)))
    (i_State_go_back : PySem.W.isFn K (.ref f_State_go_back) = true)
    (l_State_go_back : K.lookup f_State_go_back = some ⟨oc_State_go_back, od_State_go_back, .func (PySem.W.fnOf "go_back" "State.go_back" (defArgs s_State_go_back) (defBody s_State_go_back) (defScope s_State_go_back) .none kV_State_go_back dc_State_go_back pm_State_go_back an_State_go_back cd_State_go_back ct_State_go_back), sl_State_go_back⟩)
    (c_State_go_back : PySem.W.codeIn K cd_State_go_back "State.go_back" = true)
    (k_State_go_back : PySem.W.keepIn K (.ref f_State_go_back) = true)
    (a_State_go_again : PySem.W.findIn K (.ref C_State) "go_again" = some (some (.ref f_State_go_again)))
    (i_State_go_again : PySem.W.isFn K (.ref f_State_go_again) = true)
    (l_State_go_again : K.lookup f_State_go_again = some ⟨oc_State_go_again, od_State_go_again, .func (PySem.W.fnOf "go_again" "State.go_again" (defArgs s_State_go_again) (defBody s_State_go_again) (defScope s_State_go_again) .none kV_State_go_again dc_State_go_again pm_State_go_again an_State_go_again cd_State_go_again ct_State_go_again), sl_State_go_again⟩)
    (c_State_go_again : PySem.W.codeIn K cd_State_go_again "State.go_again" = true)
    (k_State_go_again : PySem.W.keepIn K (.ref f_State_go_again) = true)
    (a_Table_book_now : PySem.W.findIn K (.ref C_Table) "book_now" = some (some (.ref p_Table_book_now)))
    (pg2_Table_book_now : PySem.W.specialIn K (.ref p_Table_book_now) "__get__" = some (some (.builtin "property.__get__")))
    (pt_Table_book_now : PySem.W.takesIn K (.ref p_Table_book_now) = some true)
    (pr_Table_book_now : PySem.W.recIn K p_Table_book_now "property" = some (.ref f_Table_book_now :: r_Table_book_now))
    (l_Table_book_now : K.lookup f_Table_book_now = some ⟨oc_Table_book_now, od_Table_book_now, .func (PySem.W.fnOf "book_now" "Table.book_now" (defArgs s_Table_book_now) (defBody s_Table_book_now) (defScope s_Table_book_now) .none kV_Table_book_now dc_Table_book_now pm_Table_book_now an_Table_book_now cd_Table_book_now ct_Table_book_now), sl_Table_book_now⟩)
    (c_Table_book_now : PySem.W.codeIn K cd_Table_book_now "Table.book_now" = true)
    (k_Table_book_now : PySem.W.keepIn K (.ref f_Table_book_now) = true)
    (a_Table_rows_now : PySem.W.findIn K (.ref C_Table) "rows_now" = some (some (.ref p_Table_rows_now)))
    (pg2_Table_rows_now : PySem.W.specialIn K (.ref p_Table_rows_now) "__get__" = some (some (.builtin "property.__get__")))
    (pt_Table_rows_now : PySem.W.takesIn K (.ref p_Table_rows_now) = some true)
    (pr_Table_rows_now : PySem.W.recIn K p_Table_rows_now "property" = some (.ref f_Table_rows_now :: r_Table_rows_now))
    (l_Table_rows_now : K.lookup f_Table_rows_now = some ⟨oc_Table_rows_now, od_Table_rows_now, .func (PySem.W.fnOf "rows_now" "Table.rows_now" (defArgs s_Table_rows_now) (defBody s_Table_rows_now) (defScope s_Table_rows_now) .none kV_Table_rows_now dc_Table_rows_now pm_Table_rows_now an_Table_rows_now cd_Table_rows_now ct_Table_rows_now), sl_Table_rows_now⟩)
    (c_Table_rows_now : PySem.W.codeIn K cd_Table_rows_now "Table.rows_now" = true)
    (k_Table_rows_now : PySem.W.keepIn K (.ref f_Table_rows_now) = true)
    (a_Table_counts_now : PySem.W.findIn K (.ref C_Table) "counts_now" = some (some (.ref p_Table_counts_now)))
    (pg2_Table_counts_now : PySem.W.specialIn K (.ref p_Table_counts_now) "__get__" = some (some (.builtin "property.__get__")))
    (pt_Table_counts_now : PySem.W.takesIn K (.ref p_Table_counts_now) = some true)
    (pr_Table_counts_now : PySem.W.recIn K p_Table_counts_now "property" = some (.ref f_Table_counts_now :: r_Table_counts_now))
    (l_Table_counts_now : K.lookup f_Table_counts_now = some ⟨oc_Table_counts_now, od_Table_counts_now, .func (PySem.W.fnOf "counts_now" "Table.counts_now" (defArgs s_Table_counts_now) (defBody s_Table_counts_now) (defScope s_Table_counts_now) .none kV_Table_counts_now dc_Table_counts_now pm_Table_counts_now an_Table_counts_now cd_Table_counts_now ct_Table_counts_now), sl_Table_counts_now⟩)
    (c_Table_counts_now : PySem.W.codeIn K cd_Table_counts_now "Table.counts_now" = true)
    (k_Table_counts_now : PySem.W.keepIn K (.ref f_Table_counts_now) = true)
    (a_Table_kept_under : PySem.W.findIn K (.ref C_Table) "kept_under" = some (some (.ref p_Table_kept_under)))
    (pg2_Table_kept_under : PySem.W.specialIn K (.ref p_Table_kept_under) "__get__" = some (some (.builtin "property.__get__")))
    (pt_Table_kept_under : PySem.W.takesIn K (.ref p_Table_kept_under) = some true)
    (pr_Table_kept_under : PySem.W.recIn K p_Table_kept_under "property" = some (.ref f_Table_kept_under :: r_Table_kept_under))
    (l_Table_kept_under : K.lookup f_Table_kept_under = some ⟨oc_Table_kept_under, od_Table_kept_under, .func (PySem.W.fnOf "kept_under" "Table.kept_under" (defArgs s_Table_kept_under) (defBody s_Table_kept_under) (defScope s_Table_kept_under) .none kV_Table_kept_under dc_Table_kept_under pm_Table_kept_under an_Table_kept_under cd_Table_kept_under ct_Table_kept_under), sl_Table_kept_under⟩)
    (c_Table_kept_under : PySem.W.codeIn K cd_Table_kept_under "Table.kept_under" = true)
    (k_Table_kept_under : PySem.W.keepIn K (.ref f_Table_kept_under) = true)
    (a_Table_history : PySem.W.findIn K (.ref C_Table) "history" = some (some (.ref p_Table_history)))
    (pg2_Table_history : PySem.W.specialIn K (.ref p_Table_history) "__get__" = some (some (.builtin "property.__get__")))
    (pt_Table_history : PySem.W.takesIn K (.ref p_Table_history) = some true)
    (pr_Table_history : PySem.W.recIn K p_Table_history "property" = some (.ref f_Table_history :: r_Table_history))
    (l_Table_history : K.lookup f_Table_history = some ⟨oc_Table_history, od_Table_history, .func (PySem.W.fnOf "history" "Table.history" (defArgs s_Table_history) (defBody s_Table_history) (defScope s_Table_history) .none kV_Table_history dc_Table_history pm_Table_history an_Table_history cd_Table_history ct_Table_history), sl_Table_history⟩)
    (c_Table_history : PySem.W.codeIn K cd_Table_history "Table.history" = true)
    (k_Table_history : PySem.W.keepIn K (.ref f_Table_history) = true)
    (a_Trial_init : PySem.W.findIn K (.ref C_Trial) "__init__" = some (some (.ref f_Trial_init)))
    (i_Trial_init : PySem.W.isFn K (.ref f_Trial_init) = true)
    (l_Trial_init : K.lookup f_Trial_init = some ⟨oc_Trial_init, od_Trial_init, .func (PySem.W.fnOf "__init__" "Trial.__init__" (defArgs s_Trial_init) (defBody s_Trial_init) (defScope s_Trial_init) .none kV_Trial_init dc_Trial_init pm_Trial_init an_Trial_init cd_Trial_init ct_Trial_init), sl_Trial_init⟩)
    (c_Trial_init : PySem.W.codeIn K cd_Trial_init "Trial.__init__" = true)
    (k_Trial_init : PySem.W.keepIn K (.ref f_Trial_init) = true)
    (a_Trial_hold : PySem.W.findIn K (.ref C_Trial) "hold" = some (some (.ref f_Trial_hold)))
    (i_Trial_hold : PySem.W.isFn K (.ref f_Trial_hold) = true)
    (l_Trial_hold : K.lookup f_Trial_hold = some ⟨oc_Trial_hold, od_Trial_hold, .func (PySem.W.fnOf "hold" "Trial.hold" (defArgs s_Trial_hold) (defBody s_Trial_hold) (defScope s_Trial_hold) .none kV_Trial_hold dc_Trial_hold pm_Trial_hold an_Trial_hold cd_Trial_hold ct_Trial_hold), sl_Trial_hold⟩)
    (c_Trial_hold : PySem.W.codeIn K cd_Trial_hold "Trial.hold" = true)
    (k_Trial_hold : PySem.W.keepIn K (.ref f_Trial_hold) = true)
    (a_Trial_exit : PySem.W.findIn K (.ref C_Trial) "__exit__" = some (some (.ref f_Trial_exit)))
    (i_Trial_exit : PySem.W.isFn K (.ref f_Trial_exit) = true)
    (l_Trial_exit : K.lookup f_Trial_exit = some ⟨oc_Trial_exit, od_Trial_exit, .func (PySem.W.fnOf "__exit__" "Trial.__exit__" (defArgs s_Trial_exit) (defBody s_Trial_exit) (defScope s_Trial_exit) .none kV_Trial_exit dc_Trial_exit pm_Trial_exit an_Trial_exit cd_Trial_exit ct_Trial_exit), sl_Trial_exit⟩)
    (c_Trial_exit : PySem.W.codeIn K cd_Trial_exit "Trial.__exit__" = true)
    (k_Trial_exit : PySem.W.keepIn K (.ref f_Trial_exit) = true)
    (a_law_taken : PySem.W.nsIn K mainGlobals "_law_taken" = some (some (.ref f_law_taken)))
    (l_law_taken : K.lookup f_law_taken = some ⟨oc_law_taken, od_law_taken, .func (PySem.W.fnOf "_law_taken" "_law_taken" (defArgs s_law_taken) (defBody s_law_taken) (defScope s_law_taken) .none kV_law_taken dc_law_taken pm_law_taken an_law_taken cd_law_taken ct_law_taken), sl_law_taken⟩)
    (c_law_taken : PySem.W.codeIn K cd_law_taken "_law_taken" = true)
    (k_law_taken : PySem.W.keepIn K (.ref f_law_taken) = true)
    (a_are_kinds : PySem.W.nsIn K mainGlobals "are_kinds" = some (some (.ref f_are_kinds)))
    (l_are_kinds : K.lookup f_are_kinds = some ⟨oc_are_kinds, od_are_kinds, .func (PySem.W.fnOf "are_kinds" "are_kinds" (defArgs s_are_kinds) (defBody s_are_kinds) (defScope s_are_kinds) .none kV_are_kinds dc_are_kinds pm_are_kinds an_are_kinds cd_are_kinds ct_are_kinds), sl_are_kinds⟩)
    (c_are_kinds : PySem.W.codeIn K cd_are_kinds "are_kinds" = true)
    (k_are_kinds : PySem.W.keepIn K (.ref f_are_kinds) = true)
    (a_are_rests : PySem.W.nsIn K mainGlobals "are_rests" = some (some (.ref f_are_rests)))
    (l_are_rests : K.lookup f_are_rests = some ⟨oc_are_rests, od_are_rests, .func (PySem.W.fnOf "are_rests" "are_rests" (defArgs s_are_rests) (defBody s_are_rests) (defScope s_are_rests) .none kV_are_rests dc_are_rests pm_are_rests an_are_rests cd_are_rests ct_are_rests), sl_are_rests⟩)
    (c_are_rests : PySem.W.codeIn K cd_are_rests "are_rests" = true)
    (k_are_rests : PySem.W.keepIn K (.ref f_are_rests) = true)
    (a_check_kinds : PySem.W.nsIn K mainGlobals "check_kinds" = some (some (.ref f_check_kinds)))
    (l_check_kinds : K.lookup f_check_kinds = some ⟨oc_check_kinds, od_check_kinds, .func (PySem.W.fnOf "check_kinds" "check_kinds" (defArgs s_check_kinds) (defBody s_check_kinds) (defScope s_check_kinds) .none kV_check_kinds dc_check_kinds pm_check_kinds an_check_kinds cd_check_kinds ct_check_kinds), sl_check_kinds⟩)
    (c_check_kinds : PySem.W.codeIn K cd_check_kinds "check_kinds" = true)
    (k_check_kinds : PySem.W.keepIn K (.ref f_check_kinds) = true)
    (a_Table_keep_as : PySem.W.findIn K (.ref C_Table) "keep_as" = some (some (.ref f_Table_keep_as)))
    (i_Table_keep_as : PySem.W.isFn K (.ref f_Table_keep_as) = true)
    (l_Table_keep_as : K.lookup f_Table_keep_as = some ⟨oc_Table_keep_as, od_Table_keep_as, .func (PySem.W.fnOf "keep_as" "Table.keep_as" (defArgs s_Table_keep_as) (defBody s_Table_keep_as) (defScope s_Table_keep_as) .none kV_Table_keep_as dc_Table_keep_as pm_Table_keep_as an_Table_keep_as cd_Table_keep_as ct_Table_keep_as), sl_Table_keep_as⟩)
    (c_Table_keep_as : PySem.W.codeIn K cd_Table_keep_as "Table.keep_as" = true)
    (k_Table_keep_as : PySem.W.keepIn K (.ref f_Table_keep_as) = true)
    (a_Table_fetch : PySem.W.findIn K (.ref C_Table) "fetch" = some (some (.ref f_Table_fetch)))
    (i_Table_fetch : PySem.W.isFn K (.ref f_Table_fetch) = true)
    (l_Table_fetch : K.lookup f_Table_fetch = some ⟨oc_Table_fetch, od_Table_fetch, .func (PySem.W.fnOf "fetch" "Table.fetch" (defArgs s_Table_fetch) (defBody s_Table_fetch) (defScope s_Table_fetch) .none kV_Table_fetch dc_Table_fetch pm_Table_fetch an_Table_fetch cd_Table_fetch ct_Table_fetch), sl_Table_fetch⟩)
    (c_Table_fetch : PySem.W.codeIn K cd_Table_fetch "Table.fetch" = true)
    (k_Table_fetch : PySem.W.keepIn K (.ref f_Table_fetch) = true)
    (a_Table_undo : PySem.W.findIn K (.ref C_Table) "undo" = some (some (.ref f_Table_undo)))
    (i_Table_undo : PySem.W.isFn K (.ref f_Table_undo) = true)
    (l_Table_undo : K.lookup f_Table_undo = some ⟨oc_Table_undo, od_Table_undo, .func (PySem.W.fnOf "undo" "Table.undo" (defArgs s_Table_undo) (defBody s_Table_undo) (defScope s_Table_undo) .none kV_Table_undo dc_Table_undo pm_Table_undo an_Table_undo cd_Table_undo ct_Table_undo), sl_Table_undo⟩)
    (c_Table_undo : PySem.W.codeIn K cd_Table_undo "Table.undo" = true)
    (k_Table_undo : PySem.W.keepIn K (.ref f_Table_undo) = true)
    (a_Table_redo : PySem.W.findIn K (.ref C_Table) "redo" = some (some (.ref f_Table_redo)))
    (i_Table_redo : PySem.W.isFn K (.ref f_Table_redo) = true)
    (l_Table_redo : K.lookup f_Table_redo = some ⟨oc_Table_redo, od_Table_redo, .func (PySem.W.fnOf "redo" "Table.redo" (defArgs s_Table_redo) (defBody s_Table_redo) (defScope s_Table_redo) .none kV_Table_redo dc_Table_redo pm_Table_redo an_Table_redo cd_Table_redo ct_Table_redo), sl_Table_redo⟩)
    (c_Table_redo : PySem.W.codeIn K cd_Table_redo "Table.redo" = true)
    (k_Table_redo : PySem.W.keepIn K (.ref f_Table_redo) = true)
    (a_law_kinds : PySem.W.nsIn K mainGlobals "_law_kinds" = some (some (.ref f_law_kinds)))
    (l_law_kinds : K.lookup f_law_kinds = some ⟨oc_law_kinds, od_law_kinds, .func (PySem.W.fnOf "_law_kinds" "_law_kinds" (defArgs s_law_kinds) (defBody s_law_kinds) (defScope s_law_kinds) .none kV_law_kinds dc_law_kinds pm_law_kinds an_law_kinds cd_law_kinds ct_law_kinds), sl_law_kinds⟩)
    (c_law_kinds : PySem.W.codeIn K cd_law_kinds "_law_kinds" = true)
    (k_law_kinds : PySem.W.keepIn K (.ref f_law_kinds) = true)
    (a_law_rows : PySem.W.nsIn K mainGlobals "_law_rows" = some (some (.ref f_law_rows)))
    (l_law_rows : K.lookup f_law_rows = some ⟨oc_law_rows, od_law_rows, .func (PySem.W.fnOf "_law_rows" "_law_rows" (defArgs s_law_rows) (defBody s_law_rows) (defScope s_law_rows) .none kV_law_rows dc_law_rows pm_law_rows an_law_rows cd_law_rows ct_law_rows), sl_law_rows⟩)
    (c_law_rows : PySem.W.codeIn K cd_law_rows "_law_rows" = true)
    (k_law_rows : PySem.W.keepIn K (.ref f_law_rows) = true)
    (a_Rule_init : PySem.W.findIn K (.ref C_Rule) "__init__" = some (some (.ref f_Rule_init)))
    (i_Rule_init : PySem.W.isFn K (.ref f_Rule_init) = true)
    (l_Rule_init : K.lookup f_Rule_init = some ⟨oc_Rule_init, od_Rule_init, .func (PySem.W.fnOf "__init__" "Rule.__init__" (defArgs s_Rule_init) (defBody s_Rule_init) (defScope s_Rule_init) .none kV_Rule_init dc_Rule_init pm_Rule_init an_Rule_init cd_Rule_init ct_Rule_init), sl_Rule_init⟩)
    (c_Rule_init : PySem.W.codeIn K cd_Rule_init "Rule.__init__" = true)
    (k_Rule_init : PySem.W.keepIn K (.ref f_Rule_init) = true)
    (a_Book_init : PySem.W.findIn K (.ref C_Book) "__init__" = some (some (.ref f_Book_init)))
    (i_Book_init : PySem.W.isFn K (.ref f_Book_init) = true)
    (l_Book_init : K.lookup f_Book_init = some ⟨oc_Book_init, od_Book_init, .func (PySem.W.fnOf "__init__" "Book.__init__" (defArgs s_Book_init) (defBody s_Book_init) (defScope s_Book_init) .none kV_Book_init dc_Book_init pm_Book_init an_Book_init cd_Book_init ct_Book_init), sl_Book_init⟩)
    (c_Book_init : PySem.W.codeIn K cd_Book_init "Book.__init__" = true)
    (k_Book_init : PySem.W.keepIn K (.ref f_Book_init) = true)
    (a_fits : PySem.W.nsIn K mainGlobals "fits" = some (some (.ref f_fits)))
    (l_fits : K.lookup f_fits = some ⟨oc_fits, od_fits, .func (PySem.W.fnOf "fits" "fits" (defArgs s_fits) (defBody s_fits) (defScope s_fits) .none kV_fits dc_fits pm_fits an_fits cd_fits ct_fits), sl_fits⟩)
    (c_fits : PySem.W.codeIn K cd_fits "fits" = true)
    (k_fits : PySem.W.keepIn K (.ref f_fits) = true)
    (a_check_row : PySem.W.nsIn K mainGlobals "check_row" = some (some (.ref f_check_row)))
    (l_check_row : K.lookup f_check_row = some ⟨oc_check_row, od_check_row, .func (PySem.W.fnOf "check_row" "check_row" (defArgs s_check_row) (defBody s_check_row) (defScope s_check_row) .none kV_check_row dc_check_row pm_check_row an_check_row cd_check_row ct_check_row), sl_check_row⟩)
    (c_check_row : PySem.W.codeIn K cd_check_row "check_row" = true)
    (k_check_row : PySem.W.keepIn K (.ref f_check_row) = true)
    (a_check_books : PySem.W.nsIn K mainGlobals "check_books" = some (some (.ref f_check_books)))
    (l_check_books : K.lookup f_check_books = some ⟨oc_check_books, od_check_books, .func (PySem.W.fnOf "check_books" "check_books" (defArgs s_check_books) (defBody s_check_books) (defScope s_check_books) .none kV_check_books dc_check_books pm_check_books an_check_books cd_check_books ct_check_books), sl_check_books⟩)
    (c_check_books : PySem.W.codeIn K cd_check_books "check_books" = true)
    (k_check_books : PySem.W.keepIn K (.ref f_check_books) = true)
    (a_is_row : PySem.W.nsIn K mainGlobals "is_row" = some (some (.ref f_is_row)))
    (l_is_row : K.lookup f_is_row = some ⟨oc_is_row, od_is_row, .func (PySem.W.fnOf "is_row" "is_row" (defArgs s_is_row) (defBody s_is_row) (defScope s_is_row) .none kV_is_row dc_is_row pm_is_row an_is_row cd_is_row ct_is_row), sl_is_row⟩)
    (c_is_row : PySem.W.codeIn K cd_is_row "is_row" = true)
    (k_is_row : PySem.W.keepIn K (.ref f_is_row) = true)
    (a_State_copied : PySem.W.findIn K (.ref C_State) "copied" = some (some (.ref f_State_copied)))
    (i_State_copied : PySem.W.isFn K (.ref f_State_copied) = true)
    (l_State_copied : K.lookup f_State_copied = some ⟨oc_State_copied, od_State_copied, .func (PySem.W.fnOf "copied" "State.copied" (defArgs s_State_copied) (defBody s_State_copied) (defScope s_State_copied) .none kV_State_copied dc_State_copied pm_State_copied an_State_copied cd_State_copied ct_State_copied), sl_State_copied⟩)
    (c_State_copied : PySem.W.codeIn K cd_State_copied "State.copied" = true)
    (k_State_copied : PySem.W.keepIn K (.ref f_State_copied) = true)
    (a_Table_init : PySem.W.findIn K (.ref C_Table) "__init__" = some (some (.ref f_Table_init)))
    (i_Table_init : PySem.W.isFn K (.ref f_Table_init) = true)
    (l_Table_init : K.lookup f_Table_init = some ⟨oc_Table_init, od_Table_init, .func (PySem.W.fnOf "__init__" "Table.__init__" (defArgs s_Table_init) (defBody s_Table_init) (defScope s_Table_init) .none kV_Table_init dc_Table_init pm_Table_init an_Table_init cd_Table_init ct_Table_init), sl_Table_init⟩)
    (c_Table_init : PySem.W.codeIn K cd_Table_init "Table.__init__" = true)
    (k_Table_init : PySem.W.keepIn K (.ref f_Table_init) = true)
    (a_Book_eq : PySem.W.findIn K (.ref C_Book) "__eq__" = some (some (.ref f_Book_eq)))
    (i_Book_eq : PySem.W.isFn K (.ref f_Book_eq) = true)
    (l_Book_eq : K.lookup f_Book_eq = some ⟨oc_Book_eq, od_Book_eq, .func (PySem.W.fnOf "__eq__" "Book.__eq__" (defArgs s_Book_eq) (defBody s_Book_eq) (defScope s_Book_eq) .none kV_Book_eq dc_Book_eq pm_Book_eq an_Book_eq cd_Book_eq ct_Book_eq), sl_Book_eq⟩)
    (c_Book_eq : PySem.W.codeIn K cd_Book_eq "Book.__eq__" = true)
    (k_Book_eq : PySem.W.keepIn K (.ref f_Book_eq) = true)
    (a_fitting : PySem.W.nsIn K mainGlobals "fitting" = some (some (.ref f_fitting)))
    (l_fitting : K.lookup f_fitting = some ⟨oc_fitting, od_fitting, .func (PySem.W.fnOf "fitting" "fitting" (defArgs s_fitting) (defBody s_fitting) (defScope s_fitting) .none kV_fitting dc_fitting pm_fitting an_fitting cd_fitting ct_fitting), sl_fitting⟩)
    (c_fitting : PySem.W.codeIn K cd_fitting "fitting" = true)
    (k_fitting : PySem.W.keepIn K (.ref f_fitting) = true)
    (a_check_rows : PySem.W.nsIn K mainGlobals "check_rows" = some (some (.ref f_check_rows)))
    (l_check_rows : K.lookup f_check_rows = some ⟨oc_check_rows, od_check_rows, .func (PySem.W.fnOf "check_rows" "check_rows" (defArgs s_check_rows) (defBody s_check_rows) (defScope s_check_rows) .none kV_check_rows dc_check_rows pm_check_rows an_check_rows cd_check_rows ct_check_rows), sl_check_rows⟩)
    (c_check_rows : PySem.W.codeIn K cd_check_rows "check_rows" = true)
    (k_check_rows : PySem.W.keepIn K (.ref f_check_rows) = true)
    (a_Trial_enter : PySem.W.findIn K (.ref C_Trial) "__enter__" = some (some (.ref f_Trial_enter)))
    (i_Trial_enter : PySem.W.isFn K (.ref f_Trial_enter) = true)
    (l_Trial_enter : K.lookup f_Trial_enter = some ⟨oc_Trial_enter, od_Trial_enter, .func (PySem.W.fnOf "__enter__" "Trial.__enter__" (defArgs s_Trial_enter) (defBody s_Trial_enter) (defScope s_Trial_enter) .none kV_Trial_enter dc_Trial_enter pm_Trial_enter an_Trial_enter cd_Trial_enter ct_Trial_enter), sl_Trial_enter⟩)
    (c_Trial_enter : PySem.W.codeIn K cd_Trial_enter "Trial.__enter__" = true)
    (k_Trial_enter : PySem.W.keepIn K (.ref f_Trial_enter) = true)
    (a_place_of : PySem.W.nsIn K mainGlobals "place_of" = some (some (.ref f_place_of)))
    (l_place_of : K.lookup f_place_of = some ⟨oc_place_of, od_place_of, .func (PySem.W.fnOf "place_of" "place_of" (defArgs s_place_of) (defBody s_place_of) (defScope s_place_of) .none kV_place_of dc_place_of pm_place_of an_place_of cd_place_of ct_place_of), sl_place_of⟩)
    (c_place_of : PySem.W.codeIn K cd_place_of "place_of" = true)
    (k_place_of : PySem.W.keepIn K (.ref f_place_of) = true)
    (a_law_book : PySem.W.nsIn K mainGlobals "_law_book" = some (some (.ref f_law_book)))
    (l_law_book : K.lookup f_law_book = some ⟨oc_law_book, od_law_book, .func (PySem.W.fnOf "_law_book" "_law_book" (defArgs s_law_book) (defBody s_law_book) (defScope s_law_book) .none kV_law_book dc_law_book pm_law_book an_law_book cd_law_book ct_law_book), sl_law_book⟩)
    (c_law_book : PySem.W.codeIn K cd_law_book "_law_book" = true)
    (k_law_book : PySem.W.keepIn K (.ref f_law_book) = true)
    (a_piece_of : PySem.W.nsIn K mainGlobals "piece_of" = some (some (.ref f_piece_of)))
    (l_piece_of : K.lookup f_piece_of = some ⟨oc_piece_of, od_piece_of, .func (PySem.W.fnOf "piece_of" "piece_of" (defArgs s_piece_of) (defBody s_piece_of) (defScope s_piece_of) .none kV_piece_of dc_piece_of pm_piece_of an_piece_of cd_piece_of ct_piece_of), sl_piece_of⟩)
    (c_piece_of : PySem.W.codeIn K cd_piece_of "piece_of" = true)
    (k_piece_of : PySem.W.keepIn K (.ref f_piece_of) = true)
    (a_by_pieces : PySem.W.nsIn K mainGlobals "by_pieces" = some (some (.ref f_by_pieces)))
    (l_by_pieces : K.lookup f_by_pieces = some ⟨oc_by_pieces, od_by_pieces, .func (PySem.W.fnOf "by_pieces" "by_pieces" (defArgs s_by_pieces) (defBody s_by_pieces) (defScope s_by_pieces) .none kV_by_pieces dc_by_pieces pm_by_pieces an_by_pieces cd_by_pieces ct_by_pieces), sl_by_pieces⟩)
    (c_by_pieces : PySem.W.codeIn K cd_by_pieces "by_pieces" = true)
    (k_by_pieces : PySem.W.keepIn K (.ref f_by_pieces) = true)
    (a_moves_of : PySem.W.nsIn K mainGlobals "moves_of" = some (some (.ref f_moves_of)))
    (l_moves_of : K.lookup f_moves_of = some ⟨oc_moves_of, od_moves_of, .func (PySem.W.fnOf "moves_of" "moves_of" (defArgs s_moves_of) (defBody s_moves_of) (defScope s_moves_of) .none kV_moves_of dc_moves_of pm_moves_of an_moves_of cd_moves_of ct_moves_of), sl_moves_of⟩)
    (c_moves_of : PySem.W.codeIn K cd_moves_of "moves_of" = true)
    (k_moves_of : PySem.W.keepIn K (.ref f_moves_of) = true)
    (a_law_are_undone : PySem.W.nsIn K mainGlobals "_law_are_undone" = some (some (.ref f_law_are_undone)))
    (l_law_are_undone : K.lookup f_law_are_undone = some ⟨oc_law_are_undone, od_law_are_undone, .func (PySem.W.fnOf "_law_are_undone" "_law_are_undone" (defArgs s_law_are_undone) (defBody s_law_are_undone) (defScope s_law_are_undone) .none kV_law_are_undone dc_law_are_undone pm_law_are_undone an_law_are_undone cd_law_are_undone ct_law_are_undone), sl_law_are_undone⟩)
    (c_law_are_undone : PySem.W.codeIn K cd_law_are_undone "_law_are_undone" = true)
    (k_law_are_undone : PySem.W.keepIn K (.ref f_law_are_undone) = true)
    (a_laid : PySem.W.nsIn K mainGlobals "laid" = some (some (.ref f_laid)))
    (l_laid : K.lookup f_laid = some ⟨oc_laid, od_laid, .func (PySem.W.fnOf "laid" "laid" (defArgs s_laid) (defBody s_laid) (defScope s_laid) .none kV_laid dc_laid pm_laid an_laid cd_laid ct_laid), sl_laid⟩)
    (c_laid : PySem.W.codeIn K cd_laid "laid" = true)
    (k_laid : PySem.W.keepIn K (.ref f_laid) = true)
    (a_facts_of : PySem.W.nsIn K mainGlobals "facts_of" = some (some (.ref f_facts_of)))
    (l_facts_of : K.lookup f_facts_of = some ⟨oc_facts_of, od_facts_of, .func (PySem.W.fnOf "facts_of" "facts_of" (defArgs s_facts_of) (defBody s_facts_of) (defScope s_facts_of) .none kV_facts_of dc_facts_of pm_facts_of an_facts_of cd_facts_of ct_facts_of), sl_facts_of⟩)
    (c_facts_of : PySem.W.codeIn K cd_facts_of "facts_of" = true)
    (k_facts_of : PySem.W.keepIn K (.ref f_facts_of) = true)
    (a_Table_put : PySem.W.findIn K (.ref C_Table) "put" = some (some (.ref f_Table_put)))
    (i_Table_put : PySem.W.isFn K (.ref f_Table_put) = true)
    (l_Table_put : K.lookup f_Table_put = some ⟨oc_Table_put, od_Table_put, .func (PySem.W.fnOf "put" "Table.put" (defArgs s_Table_put) (defBody s_Table_put) (defScope s_Table_put) .none kV_Table_put dc_Table_put pm_Table_put an_Table_put cd_Table_put ct_Table_put), sl_Table_put⟩)
    (c_Table_put : PySem.W.codeIn K cd_Table_put "Table.put" = true)
    (k_Table_put : PySem.W.keepIn K (.ref f_Table_put) = true)
    (a_Table_drop : PySem.W.findIn K (.ref C_Table) "drop" = some (some (.ref f_Table_drop)))
    (i_Table_drop : PySem.W.isFn K (.ref f_Table_drop) = true)
    (l_Table_drop : K.lookup f_Table_drop = some ⟨oc_Table_drop, od_Table_drop, .func (PySem.W.fnOf "drop" "Table.drop" (defArgs s_Table_drop) (defBody s_Table_drop) (defScope s_Table_drop) .none kV_Table_drop dc_Table_drop pm_Table_drop an_Table_drop cd_Table_drop ct_Table_drop), sl_Table_drop⟩)
    (c_Table_drop : PySem.W.codeIn K cd_Table_drop "Table.drop" = true)
    (k_Table_drop : PySem.W.keepIn K (.ref f_Table_drop) = true)
    (a_Table_rebook : PySem.W.findIn K (.ref C_Table) "rebook" = some (some (.ref f_Table_rebook)))
    (i_Table_rebook : PySem.W.isFn K (.ref f_Table_rebook) = true)
    (l_Table_rebook : K.lookup f_Table_rebook = some ⟨oc_Table_rebook, od_Table_rebook, .func (PySem.W.fnOf "rebook" "Table.rebook" (defArgs s_Table_rebook) (defBody s_Table_rebook) (defScope s_Table_rebook) .none kV_Table_rebook dc_Table_rebook pm_Table_rebook an_Table_rebook cd_Table_rebook ct_Table_rebook), sl_Table_rebook⟩)
    (c_Table_rebook : PySem.W.codeIn K cd_Table_rebook "Table.rebook" = true)
    (k_Table_rebook : PySem.W.keepIn K (.ref f_Table_rebook) = true)
    (a_Table_execute : PySem.W.findIn K (.ref C_Table) "execute" = some (some (.ref f_Table_execute)))
    (i_Table_execute : PySem.W.isFn K (.ref f_Table_execute) = true)
    (l_Table_execute : K.lookup f_Table_execute = some ⟨oc_Table_execute, od_Table_execute, .func (PySem.W.fnOf "execute" "Table.execute" (defArgs s_Table_execute) (defBody s_Table_execute) (defScope s_Table_execute) .none kV_Table_execute dc_Table_execute pm_Table_execute an_Table_execute cd_Table_execute ct_Table_execute), sl_Table_execute⟩)
    (c_Table_execute : PySem.W.codeIn K cd_Table_execute "Table.execute" = true)
    (k_Table_execute : PySem.W.keepIn K (.ref f_Table_execute) = true)
    (a_Table_apply_all : PySem.W.findIn K (.ref C_Table) "apply_all" = some (some (.ref f_Table_apply_all)))
    (i_Table_apply_all : PySem.W.isFn K (.ref f_Table_apply_all) = true)
    (l_Table_apply_all : K.lookup f_Table_apply_all = some ⟨oc_Table_apply_all, od_Table_apply_all, .func (PySem.W.fnOf "apply_all" "Table.apply_all" (defArgs s_Table_apply_all) (defBody s_Table_apply_all) (defScope s_Table_apply_all) .none kV_Table_apply_all dc_Table_apply_all pm_Table_apply_all an_Table_apply_all cd_Table_apply_all ct_Table_apply_all), sl_Table_apply_all⟩)
    (c_Table_apply_all : PySem.W.codeIn K cd_Table_apply_all "Table.apply_all" = true)
    (k_Table_apply_all : PySem.W.keepIn K (.ref f_Table_apply_all) = true)
    (cmr_Table_replay : PySem.W.readsIn K C_Table (.type "type") = true)
    (cmg_Table_replay : PySem.W.specialIn K (.ref C_Table) "__getattribute__" = some (some (.builtin "type.__getattribute__")))
    (cmf_Table_replay : PySem.W.findCls K (.ref C_Table) (.type "type") "replay" = some (.get (.builtin "classmethod.__get__") (.ref p_Table_replay) .none (.ref C_Table)))
    (cmc_Table_replay : PySem.W.recIn K p_Table_replay "classmethod" = some (.ref f_Table_replay :: r_Table_replay))
    (cmi_Table_replay : PySem.W.fnIn K f_Table_replay = true)
    (l_Table_replay : K.lookup f_Table_replay = some ⟨oc_Table_replay, od_Table_replay, .func (PySem.W.fnOf "replay" "Table.replay" (defArgs s_Table_replay) (defBody s_Table_replay) (defScope s_Table_replay) .none kV_Table_replay dc_Table_replay pm_Table_replay an_Table_replay cd_Table_replay ct_Table_replay), sl_Table_replay⟩)
    (c_Table_replay : PySem.W.codeIn K cd_Table_replay "Table.replay" = true)
    (k_Table_replay : PySem.W.keepIn K (.ref f_Table_replay) = true)
    (a_law : PySem.W.nsIn K mainGlobals "law" = some (some (.ref f_law)))
    (l_law : K.lookup f_law = some ⟨oc_law, od_law, .func (PySem.W.fnOf "law" "law" (defArgs s_law) (defBody s_law) (defScope s_law) .none kV_law dc_law pm_law an_law cd_law ct_law), sl_law⟩)
    (c_law : PySem.W.codeIn K cd_law "law" = true)
    (k_law : PySem.W.keepIn K (.ref f_law) = true)
    (zb_all : PySem.W.nsIn K mainGlobals "all" = some none)
    (zb_bool : PySem.W.nsIn K mainGlobals "bool" = some none)
    (zb_enumerate : PySem.W.nsIn K mainGlobals "enumerate" = some none)
    (zb_int : PySem.W.nsIn K mainGlobals "int" = some none)
    (zb_isinstance : PySem.W.nsIn K mainGlobals "isinstance" = some none)
    (zb_len : PySem.W.nsIn K mainGlobals "len" = some none)
    (zb_list : PySem.W.nsIn K mainGlobals "list" = some none)
    (zb_range : PySem.W.nsIn K mainGlobals "range" = some none)
    (zb_sorted : PySem.W.nsIn K mainGlobals "sorted" = some none)
    (zb_str : PySem.W.nsIn K mainGlobals "str" = some none)
    (zb_tuple : PySem.W.nsIn K mainGlobals "tuple" = some none)
    (zb_zip : PySem.W.nsIn K mainGlobals "zip" = some none)
    (zc_LAST : PySem.W.nsIn K mainGlobals "LAST" = some (some (.int 999999999999999999999999999999 t_LAST)))
    (zc_LETTERS_books : PySem.W.nsIn K mainGlobals "LETTERS_books" = some (some (.str "abcdefghijklmnopqrstuvwxyz" t_LETTERS_books)))
    (zc_LETTERS_tables : PySem.W.nsIn K mainGlobals "LETTERS_tables" = some (some (.str "abcdefghijklmnopqrstuvwxyz" t_LETTERS_tables)))
    (zc_MAX_KINDS : PySem.W.nsIn K mainGlobals "MAX_KINDS" = some (some (.int 4 t_MAX_KINDS)))
    (zc_MAX_NAME : PySem.W.nsIn K mainGlobals "MAX_NAME" = some (some (.int 8 t_MAX_NAME)))
    (zc_MAX_ROWS : PySem.W.nsIn K mainGlobals "MAX_ROWS" = some (some (.int 30 t_MAX_ROWS)))
    (zc_MAX_RULES : PySem.W.nsIn K mainGlobals "MAX_RULES" = some (some (.int 8 t_MAX_RULES)))
    (zc_MAX_WORD : PySem.W.nsIn K mainGlobals "MAX_WORD" = some (some (.int 8 t_MAX_WORD)))
    (zc_MODULI : PySem.W.nsIn K mainGlobals "MODULI" = some (some (.ref a_MODULI)))
    (zl_MODULI : K.lookup a_MODULI = some ⟨.type "tuple", dd_MODULI, .seq #[.int 1 t_MODULI_0, .int 2 t_MODULI_1, .int 3 t_MODULI_2, .int 4 t_MODULI_3, .int 6 t_MODULI_4, .int 12 t_MODULI_5] k_MODULI, sl_MODULI⟩)
    (ka_SIZES : PySem.W.nsIn K mainGlobals "SIZES" = some (some (.ref a_SIZES)))
    (kd_SIZES : He.dicW K a_SIZES = some (He.keysIn w.params ["put", "drop", "rebook", "keep_as", "fetch", "undo", "redo"]))
    (kk_SIZES_0 : PySem.W.nsIn K a_SIZES "put" = some (some (.int 2 t_SIZES_0)))
    (kk_SIZES_1 : PySem.W.nsIn K a_SIZES "drop" = some (some (.int 2 t_SIZES_1)))
    (kk_SIZES_2 : PySem.W.nsIn K a_SIZES "rebook" = some (some (.int 2 t_SIZES_2)))
    (kk_SIZES_3 : PySem.W.nsIn K a_SIZES "keep_as" = some (some (.int 2 t_SIZES_3)))
    (kk_SIZES_4 : PySem.W.nsIn K a_SIZES "fetch" = some (some (.int 2 t_SIZES_4)))
    (kk_SIZES_5 : PySem.W.nsIn K a_SIZES "undo" = some (some (.int 1 t_SIZES_5)))
    (kk_SIZES_6 : PySem.W.nsIn K a_SIZES "redo" = some (some (.int 1 t_SIZES_6)))
    : ∃ fd : FuncData, (∀ (s : Shared) (v : Value), BindsTo s fd ⟨[v], []⟩ [("_law_script", v)]) ∧ ∀ base : Heap, K.In base → base.Ns mainGlobals mg → FnOk l.prog w K mg base (L2.CX l.prog w) 12 fa fd ["_law_script"] (@spV (VEnv.dummy) K mg false 1 m_law) := by
  have e := hfa.symm.trans (PySem.W.mg_of X G a_law)
  cases e
  letI : VEnv := VEnv.dummy
  have g_Rule : mg "Rule" = some (.ref C_Rule) := PySem.W.mg_of X G aC_Rule
  have e_Rule : ∀ C, mg "Rule" = some (.ref C) → C_Rule = C := fun C h => by rw [g_Rule] at h; cases h; rfl
  have g_Book : mg "Book" = some (.ref C_Book) := PySem.W.mg_of X G aC_Book
  have e_Book : ∀ C, mg "Book" = some (.ref C) → C_Book = C := fun C h => by rw [g_Book] at h; cases h; rfl
  have g_State : mg "State" = some (.ref C_State) := PySem.W.mg_of X G aC_State
  have e_State : ∀ C, mg "State" = some (.ref C) → C_State = C := fun C h => by rw [g_State] at h; cases h; rfl
  have g_Table : mg "Table" = some (.ref C_Table) := PySem.W.mg_of X G aC_Table
  have e_Table : ∀ C, mg "Table" = some (.ref C) → C_Table = C := fun C h => by rw [g_Table] at h; cases h; rfl
  have g_Trial : mg "Trial" = some (.ref C_Trial) := PySem.W.mg_of X G aC_Trial
  have e_Trial : ∀ C, mg "Trial" = some (.ref C) → C_Trial = C := fun C h => by rw [g_Trial] at h; cases h; rfl
  have T : Txt l.prog w K mg := ⟨PySem.W.mg_none_of X G zb_all,
    PySem.W.mg_none_of X G zb_bool,
    PySem.W.mg_none_of X G zb_enumerate,
    PySem.W.mg_none_of X G zb_int,
    PySem.W.mg_none_of X G zb_isinstance,
    PySem.W.mg_none_of X G zb_len,
    PySem.W.mg_none_of X G zb_list,
    PySem.W.mg_none_of X G zb_range,
    PySem.W.mg_none_of X G zb_sorted,
    PySem.W.mg_none_of X G zb_str,
    PySem.W.mg_none_of X G zb_tuple,
    PySem.W.mg_none_of X G zb_zip,
    ConstV.int (PySem.W.mg_of X G zc_LAST),
    ConstV.str (PySem.W.mg_of X G zc_LETTERS_books),
    ConstV.str (PySem.W.mg_of X G zc_LETTERS_tables),
    ConstV.int (PySem.W.mg_of X G zc_MAX_KINDS),
    ConstV.int (PySem.W.mg_of X G zc_MAX_NAME),
    ConstV.int (PySem.W.mg_of X G zc_MAX_ROWS),
    ConstV.int (PySem.W.mg_of X G zc_MAX_RULES),
    ConstV.int (PySem.W.mg_of X G zc_MAX_WORD),
    ConstV.tupI (ns := [1, 2, 3, 4, 6, 12]) (PySem.W.mg_of X G zc_MODULI) zl_MODULI (.cons _ _ (.cons _ _ (.cons _ _ (.cons _ _ (.cons _ _ (.cons _ _ .nil)))))) (by show 6 ≤ sizeLine; decide),
    ⟨let ⟨es, n, D⟩ := He.dicW_ok kd_SIZES; ⟨a_SIZES, es, n, PySem.W.mg_of X G ka_SIZES, D, (VE.kd_cons ⟨_, .int 2, kk_SIZES_0, ⟨_, rfl⟩, fun _ _ _ => .int 2⟩ (VE.kd_cons ⟨_, .int 2, kk_SIZES_1, ⟨_, rfl⟩, fun _ _ _ => .int 2⟩ (VE.kd_cons ⟨_, .int 2, kk_SIZES_2, ⟨_, rfl⟩, fun _ _ _ => .int 2⟩ (VE.kd_cons ⟨_, .int 2, kk_SIZES_3, ⟨_, rfl⟩, fun _ _ _ => .int 2⟩ (VE.kd_cons ⟨_, .int 2, kk_SIZES_4, ⟨_, rfl⟩, fun _ _ _ => .int 2⟩ (VE.kd_cons ⟨_, .int 1, kk_SIZES_5, ⟨_, rfl⟩, fun _ _ _ => .int 1⟩ (VE.kd_cons ⟨_, .int 1, kk_SIZES_6, ⟨_, rfl⟩, fun _ _ _ => .int 1⟩ VE.kd_nil)))))))⟩⟩,
    ⟨⟨_, g_Rule⟩, fun C h => (e_Rule C h) ▸ ⟨pg_Rule, ic_Rule, po_Rule, sa_Rule⟩, fun C i f h hf => (e_Rule C h) ▸ (match i, f, hf with | 0, _, hf => by cases hf; exact ⟨_, da_Rule_0, dg_Rule_0, dt_Rule_0, di_Rule_0, dy_Rule_0, by decide⟩ | _ + 1, _, hf => by simp at hf)⟩,
    ⟨⟨_, g_Book⟩, fun C h => (e_Book C h) ▸ ⟨pg_Book, ic_Book, po_Book, sa_Book⟩, fun C i f h hf => (e_Book C h) ▸ (match i, f, hf with | 0, _, hf => by cases hf; exact ⟨_, da_Book_0, dg_Book_0, dt_Book_0, di_Book_0, dy_Book_0, by decide⟩ | _ + 1, _, hf => by simp at hf)⟩,
    ⟨⟨_, g_State⟩, fun C h => (e_State C h) ▸ ⟨pg_State, ic_State, po_State, sa_State⟩, fun C i f h hf => (e_State C h) ▸ (match i, f, hf with | 0, _, hf => by cases hf; exact ⟨_, da_State_0, dg_State_0, dt_State_0, di_State_0, dy_State_0, by decide⟩ | 1, _, hf => by cases hf; exact ⟨_, da_State_1, dg_State_1, dt_State_1, di_State_1, dy_State_1, by decide⟩ | 2, _, hf => by cases hf; exact ⟨_, da_State_2, dg_State_2, dt_State_2, di_State_2, dy_State_2, by decide⟩ | 3, _, hf => by cases hf; exact ⟨_, da_State_3, dg_State_3, dt_State_3, di_State_3, dy_State_3, by decide⟩ | _ + 4, _, hf => by simp at hf)⟩,
    ⟨fun C h => (e_Table C h) ▸ ⟨pg_Table, hd_Table, po_Table, sa_Table⟩, fun C h => (e_Table C h) ▸ (List.forall_mem_cons.mpr ⟨na_Table_0, (fun _ h => nomatch h)⟩)⟩,
    ⟨fun C h => (e_Trial C h) ▸ ⟨pg_Trial, hd_Trial, po_Trial, sa_Trial⟩, fun C h => (e_Trial C h) ▸ (List.forall_mem_cons.mpr ⟨na_Trial_0, (List.forall_mem_cons.mpr ⟨na_Trial_1, (List.forall_mem_cons.mpr ⟨na_Trial_2, (List.forall_mem_cons.mpr ⟨na_Trial_3, (fun _ h => nomatch h)⟩)⟩)⟩)⟩)⟩,
    ⟨⟨_, g_Book⟩, fun C h => (e_Book C h) ▸ ⟨⟨pg_Book, ic_Book, po_Book, sa_Book⟩, ⟨ica_Book, icn_Book, ict_Book, icm_Book⟩, iki_Book⟩⟩,
    ⟨⟨_, g_Rule⟩, fun C h => (e_Rule C h) ▸ ⟨⟨pg_Rule, ic_Rule, po_Rule, sa_Rule⟩, ⟨ica_Rule, icn_Rule, ict_Rule, icm_Rule⟩, iki_Rule⟩⟩⟩
  have F_is_number := fun_mk (st := s_is_number) l_is_number c_is_number k_is_number
  have B_is_number := F_is_number.binds (ps := ["value", "smallest", "largest"]) fun _ _ _ _ _ _ us hl => match us, hl with | [_, _, _], _ => rfl
  have F_is_word := fun_mk (st := s_is_word) l_is_word c_is_word k_is_word
  have B_is_word := F_is_word.binds (ps := ["value"]) fun _ _ _ _ _ _ us hl => match us, hl with | [_], _ => rfl
  have F_ascend := fun_mk (st := s_ascend) l_ascend c_ascend k_ascend
  have B_ascend := F_ascend.binds (ps := ["values"]) fun _ _ _ _ _ _ us hl => match us, hl with | [_], _ => rfl
  have F_Rule_piece := fun_mk (st := s_Rule_piece) l_Rule_piece c_Rule_piece k_Rule_piece
  have B_Rule_piece := F_Rule_piece.binds (ps := ["self"]) fun _ _ _ _ _ _ us hl => match us, hl with | [_], _ => rfl
  have F_Rule_low := fun_mk (st := s_Rule_low) l_Rule_low c_Rule_low k_Rule_low
  have B_Rule_low := F_Rule_low.binds (ps := ["self"]) fun _ _ _ _ _ _ us hl => match us, hl with | [_], _ => rfl
  have F_Rule_high := fun_mk (st := s_Rule_high) l_Rule_high c_Rule_high k_Rule_high
  have B_Rule_high := F_Rule_high.binds (ps := ["self"]) fun _ _ _ _ _ _ us hl => match us, hl with | [_], _ => rfl
  have F_Rule_modulus := fun_mk (st := s_Rule_modulus) l_Rule_modulus c_Rule_modulus k_Rule_modulus
  have B_Rule_modulus := F_Rule_modulus.binds (ps := ["self"]) fun _ _ _ _ _ _ us hl => match us, hl with | [_], _ => rfl
  have F_Rule_rests := fun_mk (st := s_Rule_rests) l_Rule_rests c_Rule_rests k_Rule_rests
  have B_Rule_rests := F_Rule_rests.binds (ps := ["self"]) fun _ _ _ _ _ _ us hl => match us, hl with | [_], _ => rfl
  have F_Rule_kinds := fun_mk (st := s_Rule_kinds) l_Rule_kinds c_Rule_kinds k_Rule_kinds
  have B_Rule_kinds := F_Rule_kinds.binds (ps := ["self"]) fun _ _ _ _ _ _ us hl => match us, hl with | [_], _ => rfl
  have F_Rule_eq := fun_mk (st := s_Rule_eq) l_Rule_eq c_Rule_eq k_Rule_eq
  have B_Rule_eq := F_Rule_eq.binds (ps := ["self", "other"]) fun _ _ _ _ _ _ us hl => match us, hl with | [_, _], _ => rfl
  have F_Book_kinds := fun_mk (st := s_Book_kinds) l_Book_kinds c_Book_kinds k_Book_kinds
  have B_Book_kinds := F_Book_kinds.binds (ps := ["self"]) fun _ _ _ _ _ _ us hl => match us, hl with | [_], _ => rfl
  have F_Book_rules := fun_mk (st := s_Book_rules) l_Book_rules c_Book_rules k_Book_rules
  have B_Book_rules := F_Book_rules.binds (ps := ["self"]) fun _ _ _ _ _ _ us hl => match us, hl with | [_], _ => rfl
  have F_rest_of := fun_mk (st := s_rest_of) l_rest_of c_rest_of k_rest_of
  have B_rest_of := F_rest_of.binds (ps := ["number", "modulus"]) fun _ _ _ _ _ _ us hl => match us, hl with | [_, _], _ => rfl
  have F_named := fun_mk (st := s_named) l_named c_named k_named
  have B_named := F_named.binds (ps := ["piece"]) fun _ _ _ _ _ _ us hl => match us, hl with | [_], _ => rfl
  have F_is_operation := fun_mk (st := s_is_operation) l_is_operation c_is_operation k_is_operation
  have B_is_operation := F_is_operation.binds (ps := ["value"]) fun _ _ _ _ _ _ us hl => match us, hl with | [_], _ => rfl
  have F_is_name := fun_mk (st := s_is_name) l_is_name c_is_name k_is_name
  have B_is_name := F_is_name.binds (ps := ["value"]) fun _ _ _ _ _ _ us hl => match us, hl with | [_], _ => rfl
  have F_State_init := fun_mk (st := s_State_init) l_State_init c_State_init k_State_init
  have B_State_init := F_State_init.binds (ps := ["self", "facts", "shelf", "past", "undone"]) fun _ _ _ _ _ _ us hl => match us, hl with | [_, _, _, _, _], _ => rfl
  have F_State_go_on := fun_mk (st := s_State_go_on) l_State_go_on c_State_go_on k_State_go_on
  have B_State_go_on := F_State_go_on.binds (ps := ["self", "operation", "facts", "shelf"]) fun _ _ _ _ _ _ us hl => match us, hl with | [_, _, _, _], _ => rfl
  have F_State_go_back := fun_mk (st := s_State_go_back) l_State_go_back c_State_go_back k_State_go_back
  have B_State_go_back := F_State_go_back.binds (ps := ["self"]) fun _ _ _ _ _ _ us hl => match us, hl with | [_], _ => rfl
  have F_State_go_again := fun_mk (st := s_State_go_again) l_State_go_again c_State_go_again k_State_go_again
  have B_State_go_again := F_State_go_again.binds (ps := ["self"]) fun _ _ _ _ _ _ us hl => match us, hl with | [_], _ => rfl
  have F_Table_book_now := fun_mk (st := s_Table_book_now) l_Table_book_now c_Table_book_now k_Table_book_now
  have B_Table_book_now := F_Table_book_now.binds (ps := ["self"]) fun _ _ _ _ _ _ us hl => match us, hl with | [_], _ => rfl
  have F_Table_rows_now := fun_mk (st := s_Table_rows_now) l_Table_rows_now c_Table_rows_now k_Table_rows_now
  have B_Table_rows_now := F_Table_rows_now.binds (ps := ["self"]) fun _ _ _ _ _ _ us hl => match us, hl with | [_], _ => rfl
  have F_Table_counts_now := fun_mk (st := s_Table_counts_now) l_Table_counts_now c_Table_counts_now k_Table_counts_now
  have B_Table_counts_now := F_Table_counts_now.binds (ps := ["self"]) fun _ _ _ _ _ _ us hl => match us, hl with | [_], _ => rfl
  have F_Table_kept_under := fun_mk (st := s_Table_kept_under) l_Table_kept_under c_Table_kept_under k_Table_kept_under
  have B_Table_kept_under := F_Table_kept_under.binds (ps := ["self"]) fun _ _ _ _ _ _ us hl => match us, hl with | [_], _ => rfl
  have F_Table_history := fun_mk (st := s_Table_history) l_Table_history c_Table_history k_Table_history
  have B_Table_history := F_Table_history.binds (ps := ["self"]) fun _ _ _ _ _ _ us hl => match us, hl with | [_], _ => rfl
  have F_Trial_init := fun_mk (st := s_Trial_init) l_Trial_init c_Trial_init k_Trial_init
  have B_Trial_init := F_Trial_init.binds (ps := ["self", "table"]) fun _ _ _ _ _ _ us hl => match us, hl with | [_, _], _ => rfl
  have F_Trial_hold := fun_mk (st := s_Trial_hold) l_Trial_hold c_Trial_hold k_Trial_hold
  have B_Trial_hold := F_Trial_hold.binds (ps := ["self"]) fun _ _ _ _ _ _ us hl => match us, hl with | [_], _ => rfl
  have F_Trial_exit := fun_mk (st := s_Trial_exit) l_Trial_exit c_Trial_exit k_Trial_exit
  have B_Trial_exit := F_Trial_exit.binds (ps := ["self", "kind", "error", "trace"]) fun _ _ _ _ _ _ us hl => match us, hl with | [_, _, _, _], _ => rfl
  have F_law_taken := fun_mk (st := s_law_taken) l_law_taken c_law_taken k_law_taken
  have B_law_taken := F_law_taken.binds (ps := ["_law_row", "_law_many"]) fun _ _ _ _ _ _ us hl => match us, hl with | [_, _], _ => rfl
  have F_are_kinds := fun_mk (st := s_are_kinds) l_are_kinds c_are_kinds k_are_kinds
  have B_are_kinds := F_are_kinds.binds (ps := ["kinds"]) fun _ _ _ _ _ _ us hl => match us, hl with | [_], _ => rfl
  have F_are_rests := fun_mk (st := s_are_rests) l_are_rests c_are_rests k_are_rests
  have B_are_rests := F_are_rests.binds (ps := ["modulus", "rests"]) fun _ _ _ _ _ _ us hl => match us, hl with | [_, _], _ => rfl
  have F_check_kinds := fun_mk (st := s_check_kinds) l_check_kinds c_check_kinds k_check_kinds
  have B_check_kinds := F_check_kinds.binds (ps := ["kinds"]) fun _ _ _ _ _ _ us hl => match us, hl with | [_], _ => rfl
  have F_Table_keep_as := fun_mk (st := s_Table_keep_as) l_Table_keep_as c_Table_keep_as k_Table_keep_as
  have B_Table_keep_as := F_Table_keep_as.binds (ps := ["self", "name"]) fun _ _ _ _ _ _ us hl => match us, hl with | [_, _], _ => rfl
  have F_Table_fetch := fun_mk (st := s_Table_fetch) l_Table_fetch c_Table_fetch k_Table_fetch
  have B_Table_fetch := F_Table_fetch.binds (ps := ["self", "name"]) fun _ _ _ _ _ _ us hl => match us, hl with | [_, _], _ => rfl
  have F_Table_undo := fun_mk (st := s_Table_undo) l_Table_undo c_Table_undo k_Table_undo
  have B_Table_undo := F_Table_undo.binds (ps := ["self"]) fun _ _ _ _ _ _ us hl => match us, hl with | [_], _ => rfl
  have F_Table_redo := fun_mk (st := s_Table_redo) l_Table_redo c_Table_redo k_Table_redo
  have B_Table_redo := F_Table_redo.binds (ps := ["self"]) fun _ _ _ _ _ _ us hl => match us, hl with | [_], _ => rfl
  have F_law_kinds := fun_mk (st := s_law_kinds) l_law_kinds c_law_kinds k_law_kinds
  have B_law_kinds := F_law_kinds.binds (ps := ["_law_row"]) fun _ _ _ _ _ _ us hl => match us, hl with | [_], _ => rfl
  have F_law_rows := fun_mk (st := s_law_rows) l_law_rows c_law_rows k_law_rows
  have B_law_rows := F_law_rows.binds (ps := ["_law_row", "_law_kinds_here", "_law_wide", "_law_most"]) fun _ _ _ _ _ _ us hl => match us, hl with | [_, _, _, _], _ => rfl
  have F_Rule_init := fun_mk (st := s_Rule_init) l_Rule_init c_Rule_init k_Rule_init
  have B_Rule_init := F_Rule_init.binds (ps := ["self", "piece", "low", "high", "modulus", "rests", "kinds"]) fun _ _ _ _ _ _ us hl => match us, hl with | [_, _, _, _, _, _, _], _ => rfl
  have F_Book_init := fun_mk (st := s_Book_init) l_Book_init c_Book_init k_Book_init
  have B_Book_init := F_Book_init.binds (ps := ["self", "kinds", "rules"]) fun _ _ _ _ _ _ us hl => match us, hl with | [_, _, _], _ => rfl
  have F_fits := fun_mk (st := s_fits) l_fits c_fits k_fits
  have B_fits := F_fits.binds (ps := ["rule", "number", "kind"]) fun _ _ _ _ _ _ us hl => match us, hl with | [_, _, _], _ => rfl
  have F_check_row := fun_mk (st := s_check_row) l_check_row c_check_row k_check_row
  have B_check_row := F_check_row.binds (ps := ["book", "row"]) fun _ _ _ _ _ _ us hl => match us, hl with | [_, _], _ => rfl
  have F_check_books := fun_mk (st := s_check_books) l_check_books c_check_books k_check_books
  have B_check_books := F_check_books.binds (ps := ["one", "other"]) fun _ _ _ _ _ _ us hl => match us, hl with | [_, _], _ => rfl
  have F_is_row := fun_mk (st := s_is_row) l_is_row c_is_row k_is_row
  have B_is_row := F_is_row.binds (ps := ["book", "row"]) fun _ _ _ _ _ _ us hl => match us, hl with | [_, _], _ => rfl
  have F_State_copied := fun_mk (st := s_State_copied) l_State_copied c_State_copied k_State_copied
  have B_State_copied := F_State_copied.binds (ps := ["self"]) fun _ _ _ _ _ _ us hl => match us, hl with | [_], _ => rfl
  have F_Table_init := fun_mk (st := s_Table_init) l_Table_init c_Table_init k_Table_init
  have B_Table_init := F_Table_init.binds (ps := ["self", "book"]) fun _ _ _ _ _ _ us hl => match us, hl with | [_, _], _ => rfl
  have F_Book_eq := fun_mk (st := s_Book_eq) l_Book_eq c_Book_eq k_Book_eq
  have B_Book_eq := F_Book_eq.binds (ps := ["self", "other"]) fun _ _ _ _ _ _ us hl => match us, hl with | [_, _], _ => rfl
  have F_fitting := fun_mk (st := s_fitting) l_fitting c_fitting k_fitting
  have B_fitting := F_fitting.binds (ps := ["book", "number", "kind"]) fun _ _ _ _ _ _ us hl => match us, hl with | [_, _, _], _ => rfl
  have F_check_rows := fun_mk (st := s_check_rows) l_check_rows c_check_rows k_check_rows
  have B_check_rows := F_check_rows.binds (ps := ["book", "rows"]) fun _ _ _ _ _ _ us hl => match us, hl with | [_, _], _ => rfl
  have F_Trial_enter := fun_mk (st := s_Trial_enter) l_Trial_enter c_Trial_enter k_Trial_enter
  have B_Trial_enter := F_Trial_enter.binds (ps := ["self"]) fun _ _ _ _ _ _ us hl => match us, hl with | [_], _ => rfl
  have F_place_of := fun_mk (st := s_place_of) l_place_of c_place_of k_place_of
  have B_place_of := F_place_of.binds (ps := ["book", "number", "kind"]) fun _ _ _ _ _ _ us hl => match us, hl with | [_, _, _], _ => rfl
  have F_law_book := fun_mk (st := s_law_book) l_law_book c_law_book k_law_book
  have B_law_book := F_law_book.binds (ps := ["_law_row", "_law_wide", "_law_kinds_here"]) fun _ _ _ _ _ _ us hl => match us, hl with | [_, _, _], _ => rfl
  have F_piece_of := fun_mk (st := s_piece_of) l_piece_of c_piece_of k_piece_of
  have B_piece_of := F_piece_of.binds (ps := ["book", "row"]) fun _ _ _ _ _ _ us hl => match us, hl with | [_, _], _ => rfl
  have F_by_pieces := fun_mk (st := s_by_pieces) l_by_pieces c_by_pieces k_by_pieces
  have B_by_pieces := F_by_pieces.binds (ps := ["book", "rows"]) fun _ _ _ _ _ _ us hl => match us, hl with | [_, _], _ => rfl
  have F_moves_of := fun_mk (st := s_moves_of) l_moves_of c_moves_of k_moves_of
  have B_moves_of := F_moves_of.binds (ps := ["one", "other", "rows"]) fun _ _ _ _ _ _ us hl => match us, hl with | [_, _, _], _ => rfl
  have F_law_are_undone := fun_mk (st := s_law_are_undone) l_law_are_undone c_law_are_undone k_law_are_undone
  have B_law_are_undone := F_law_are_undone.binds (ps := ["_law_table", "_law_rows_here", "_law_book_here"]) fun _ _ _ _ _ _ us hl => match us, hl with | [_, _, _], _ => rfl
  have F_laid := fun_mk (st := s_laid) l_laid c_laid k_laid
  have B_laid := F_laid.binds (ps := ["book", "rows"]) fun _ _ _ _ _ _ us hl => match us, hl with | [_, _], _ => rfl
  have F_facts_of := fun_mk (st := s_facts_of) l_facts_of c_facts_of k_facts_of
  have B_facts_of := F_facts_of.binds (ps := ["book", "rows"]) fun _ _ _ _ _ _ us hl => match us, hl with | [_, _], _ => rfl
  have F_Table_put := fun_mk (st := s_Table_put) l_Table_put c_Table_put k_Table_put
  have B_Table_put := F_Table_put.binds (ps := ["self", "row"]) fun _ _ _ _ _ _ us hl => match us, hl with | [_, _], _ => rfl
  have F_Table_drop := fun_mk (st := s_Table_drop) l_Table_drop c_Table_drop k_Table_drop
  have B_Table_drop := F_Table_drop.binds (ps := ["self", "row"]) fun _ _ _ _ _ _ us hl => match us, hl with | [_, _], _ => rfl
  have F_Table_rebook := fun_mk (st := s_Table_rebook) l_Table_rebook c_Table_rebook k_Table_rebook
  have B_Table_rebook := F_Table_rebook.binds (ps := ["self", "book"]) fun _ _ _ _ _ _ us hl => match us, hl with | [_, _], _ => rfl
  have F_Table_execute := fun_mk (st := s_Table_execute) l_Table_execute c_Table_execute k_Table_execute
  have B_Table_execute := F_Table_execute.binds (ps := ["self", "operation"]) fun _ _ _ _ _ _ us hl => match us, hl with | [_, _], _ => rfl
  have F_Table_apply_all := fun_mk (st := s_Table_apply_all) l_Table_apply_all c_Table_apply_all k_Table_apply_all
  have B_Table_apply_all := F_Table_apply_all.binds (ps := ["self", "operations"]) fun _ _ _ _ _ _ us hl => match us, hl with | [_, _], _ => rfl
  have F_Table_replay := fun_mk (st := s_Table_replay) l_Table_replay c_Table_replay k_Table_replay
  have B_Table_replay := F_Table_replay.binds (ps := ["cls", "book", "operations"]) fun _ _ _ _ _ _ us hl => match us, hl with | [_, _, _], _ => rfl
  have F_law := fun_mk (st := s_law) l_law c_law k_law
  have B_law := F_law.binds (ps := ["_law_script"]) fun _ _ _ _ _ _ us hl => match us, hl with | [_], _ => rfl
  refine ⟨PySem.W.fnOf "law" "law" (defArgs s_law) (defBody s_law) (defScope s_law) .none kV_law dc_law pm_law an_law cd_law ct_law, fun s v => .of_eq rfl, fun base KB GB => ?_⟩
  have O_is_number := ok_is_number (P := l.prog) (w := w) (base := base) F_is_number T 
  have v_is_number : FnV l.prog w K mg base 1 "is_number" false 3 m_is_number := ⟨⟨f_is_number, _, _, O_is_number, PySem.W.mg_of X G a_is_number, k_is_number, B_is_number⟩⟩
  have O_is_word := ok_is_word (P := l.prog) (w := w) (base := base) F_is_word T 
  have v_is_word : FnV l.prog w K mg base 1 "is_word" false 1 m_is_word := ⟨⟨f_is_word, _, _, O_is_word, PySem.W.mg_of X G a_is_word, k_is_word, B_is_word⟩⟩
  have O_ascend := ok_ascend (P := l.prog) (w := w) (base := base) F_ascend T 
  have v_ascend : FnV l.prog w K mg base 1 "ascend" false 1 m_ascend := ⟨⟨f_ascend, _, _, O_ascend, PySem.W.mg_of X G a_ascend, k_ascend, B_ascend⟩⟩
  have O_Rule_piece := ok_Rule_piece (P := l.prog) (w := w) (base := base) F_Rule_piece T 
  have Pr_Rule_piece : PrV l.prog w K mg base 1 "Rule" "piece" m_Rule_piece := ⟨⟨C_Rule, p_Rule_piece, f_Rule_piece, _, _, g_Rule, ⟨pg_Rule, ic_Rule, po_Rule, sa_Rule⟩, ⟨a_Rule_piece, pg2_Rule_piece, pt_Rule_piece, ⟨_, pr_Rule_piece⟩⟩, O_Rule_piece, B_Rule_piece⟩⟩
  have O_Rule_low := ok_Rule_low (P := l.prog) (w := w) (base := base) F_Rule_low T 
  have Pr_Rule_low : PrV l.prog w K mg base 1 "Rule" "low" m_Rule_low := ⟨⟨C_Rule, p_Rule_low, f_Rule_low, _, _, g_Rule, ⟨pg_Rule, ic_Rule, po_Rule, sa_Rule⟩, ⟨a_Rule_low, pg2_Rule_low, pt_Rule_low, ⟨_, pr_Rule_low⟩⟩, O_Rule_low, B_Rule_low⟩⟩
  have O_Rule_high := ok_Rule_high (P := l.prog) (w := w) (base := base) F_Rule_high T 
  have Pr_Rule_high : PrV l.prog w K mg base 1 "Rule" "high" m_Rule_high := ⟨⟨C_Rule, p_Rule_high, f_Rule_high, _, _, g_Rule, ⟨pg_Rule, ic_Rule, po_Rule, sa_Rule⟩, ⟨a_Rule_high, pg2_Rule_high, pt_Rule_high, ⟨_, pr_Rule_high⟩⟩, O_Rule_high, B_Rule_high⟩⟩
  have O_Rule_modulus := ok_Rule_modulus (P := l.prog) (w := w) (base := base) F_Rule_modulus T 
  have Pr_Rule_modulus : PrV l.prog w K mg base 1 "Rule" "modulus" m_Rule_modulus := ⟨⟨C_Rule, p_Rule_modulus, f_Rule_modulus, _, _, g_Rule, ⟨pg_Rule, ic_Rule, po_Rule, sa_Rule⟩, ⟨a_Rule_modulus, pg2_Rule_modulus, pt_Rule_modulus, ⟨_, pr_Rule_modulus⟩⟩, O_Rule_modulus, B_Rule_modulus⟩⟩
  have O_Rule_rests := ok_Rule_rests (P := l.prog) (w := w) (base := base) F_Rule_rests T 
  have Pr_Rule_rests : PrV l.prog w K mg base 1 "Rule" "rests" m_Rule_rests := ⟨⟨C_Rule, p_Rule_rests, f_Rule_rests, _, _, g_Rule, ⟨pg_Rule, ic_Rule, po_Rule, sa_Rule⟩, ⟨a_Rule_rests, pg2_Rule_rests, pt_Rule_rests, ⟨_, pr_Rule_rests⟩⟩, O_Rule_rests, B_Rule_rests⟩⟩
  have O_Rule_kinds := ok_Rule_kinds (P := l.prog) (w := w) (base := base) F_Rule_kinds T 
  have Pr_Rule_kinds : PrV l.prog w K mg base 1 "Rule" "kinds" m_Rule_kinds := ⟨⟨C_Rule, p_Rule_kinds, f_Rule_kinds, _, _, g_Rule, ⟨pg_Rule, ic_Rule, po_Rule, sa_Rule⟩, ⟨a_Rule_kinds, pg2_Rule_kinds, pt_Rule_kinds, ⟨_, pr_Rule_kinds⟩⟩, O_Rule_kinds, B_Rule_kinds⟩⟩
  have O_Rule_eq := ok_Rule_eq (P := l.prog) (w := w) (base := base) F_Rule_eq T g_Rule
  have Er_Rule : EqR l.prog w K mg base "Rule" := ⟨⟨C_Rule, f_Rule_eq, _, _, g_Rule, a_Rule_eq, i_Rule_eq, O_Rule_eq, B_Rule_eq⟩⟩
  have O_Book_kinds := ok_Book_kinds (P := l.prog) (w := w) (base := base) F_Book_kinds T 
  have Pr_Book_kinds : PrV l.prog w K mg base 1 "Book" "kinds" m_Book_kinds := ⟨⟨C_Book, p_Book_kinds, f_Book_kinds, _, _, g_Book, ⟨pg_Book, ic_Book, po_Book, sa_Book⟩, ⟨a_Book_kinds, pg2_Book_kinds, pt_Book_kinds, ⟨_, pr_Book_kinds⟩⟩, O_Book_kinds, B_Book_kinds⟩⟩
  have O_Book_rules := ok_Book_rules (P := l.prog) (w := w) (base := base) F_Book_rules T 
  have Pr_Book_rules : PrV l.prog w K mg base 1 "Book" "rules" m_Book_rules := ⟨⟨C_Book, p_Book_rules, f_Book_rules, _, _, g_Book, ⟨pg_Book, ic_Book, po_Book, sa_Book⟩, ⟨a_Book_rules, pg2_Book_rules, pt_Book_rules, ⟨_, pr_Book_rules⟩⟩, O_Book_rules, B_Book_rules⟩⟩
  have O_rest_of := ok_rest_of (P := l.prog) (w := w) (base := base) F_rest_of T 
  have v_rest_of : FnV l.prog w K mg base 1 "rest_of" false 2 m_rest_of := ⟨⟨f_rest_of, _, _, O_rest_of, PySem.W.mg_of X G a_rest_of, k_rest_of, B_rest_of⟩⟩
  have O_named := ok_named (P := l.prog) (w := w) (base := base) F_named T 
  have v_named : FnV l.prog w K mg base 1 "named" false 1 m_named := ⟨⟨f_named, _, _, O_named, PySem.W.mg_of X G a_named, k_named, B_named⟩⟩
  have O_is_operation := ok_is_operation (P := l.prog) (w := w) (base := base) F_is_operation T 
  have v_is_operation : FnV l.prog w K mg base 1 "is_operation" false 1 m_is_operation := ⟨⟨f_is_operation, _, _, O_is_operation, PySem.W.mg_of X G a_is_operation, k_is_operation, B_is_operation⟩⟩
  have O_is_name := ok_is_name (P := l.prog) (w := w) (base := base) F_is_name T 
  have v_is_name : FnV l.prog w K mg base 1 "is_name" false 1 m_is_name := ⟨⟨f_is_name, _, _, O_is_name, PySem.W.mg_of X G a_is_name, k_is_name, B_is_name⟩⟩
  have O_State_init := ok_State_init (P := l.prog) (w := w) (base := base) F_State_init T 
  have Mk_State : MkV l.prog w K mg base 1 "State" 5 m_State_init := ⟨⟨C_State, f_State_init, _, _, g_State, ⟨mk_State, a_State_init, i_State_init, kc_State⟩, O_State_init, B_State_init⟩⟩
  have O_State_go_on := ok_State_go_on (P := l.prog) (w := w) (base := base) F_State_go_on T 
  have Mt_State_go_on : MtS l.prog w K mg base 1 "State" "go_on" false 4 m_State_go_on := ⟨⟨C_State, f_State_go_on, _, _, g_State, ⟨pg_State, ic_State, po_State, sa_State⟩, O_State_go_on, ⟨a_State_go_on, i_State_go_on, k_State_go_on⟩, B_State_go_on⟩⟩
  have O_State_go_back := ok_State_go_back (P := l.prog) (w := w) (base := base) F_State_go_back T 
  have Mt_State_go_back : MtS l.prog w K mg base 1 "State" "go_back" false 1 m_State_go_back := ⟨⟨C_State, f_State_go_back, _, _, g_State, ⟨pg_State, ic_State, po_State, sa_State⟩, O_State_go_back, ⟨a_State_go_back, i_State_go_back, k_State_go_back⟩, B_State_go_back⟩⟩
  have O_State_go_again := ok_State_go_again (P := l.prog) (w := w) (base := base) F_State_go_again T 
  have Mt_State_go_again : MtS l.prog w K mg base 1 "State" "go_again" false 1 m_State_go_again := ⟨⟨C_State, f_State_go_again, _, _, g_State, ⟨pg_State, ic_State, po_State, sa_State⟩, O_State_go_again, ⟨a_State_go_again, i_State_go_again, k_State_go_again⟩, B_State_go_again⟩⟩
  have O_Table_book_now := ok_Table_book_now (P := l.prog) (w := w) (base := base) F_Table_book_now T 
  have Pr_Table_book_now : PrI l.prog w K mg base 1 "Table" "book_now" m_Table_book_now := ⟨⟨C_Table, p_Table_book_now, f_Table_book_now, _, _, g_Table, ⟨pg_Table, hd_Table, po_Table, sa_Table⟩, ⟨a_Table_book_now, pg2_Table_book_now, pt_Table_book_now, ⟨_, pr_Table_book_now⟩⟩, O_Table_book_now, B_Table_book_now⟩⟩
  have O_Table_rows_now := ok_Table_rows_now (P := l.prog) (w := w) (base := base) F_Table_rows_now T 
  have Pr_Table_rows_now : PrI l.prog w K mg base 1 "Table" "rows_now" m_Table_rows_now := ⟨⟨C_Table, p_Table_rows_now, f_Table_rows_now, _, _, g_Table, ⟨pg_Table, hd_Table, po_Table, sa_Table⟩, ⟨a_Table_rows_now, pg2_Table_rows_now, pt_Table_rows_now, ⟨_, pr_Table_rows_now⟩⟩, O_Table_rows_now, B_Table_rows_now⟩⟩
  have O_Table_counts_now := ok_Table_counts_now (P := l.prog) (w := w) (base := base) F_Table_counts_now T 
  have Pr_Table_counts_now : PrI l.prog w K mg base 1 "Table" "counts_now" m_Table_counts_now := ⟨⟨C_Table, p_Table_counts_now, f_Table_counts_now, _, _, g_Table, ⟨pg_Table, hd_Table, po_Table, sa_Table⟩, ⟨a_Table_counts_now, pg2_Table_counts_now, pt_Table_counts_now, ⟨_, pr_Table_counts_now⟩⟩, O_Table_counts_now, B_Table_counts_now⟩⟩
  have O_Table_kept_under := ok_Table_kept_under (P := l.prog) (w := w) (base := base) F_Table_kept_under T 
  have Pr_Table_kept_under : PrI l.prog w K mg base 1 "Table" "kept_under" m_Table_kept_under := ⟨⟨C_Table, p_Table_kept_under, f_Table_kept_under, _, _, g_Table, ⟨pg_Table, hd_Table, po_Table, sa_Table⟩, ⟨a_Table_kept_under, pg2_Table_kept_under, pt_Table_kept_under, ⟨_, pr_Table_kept_under⟩⟩, O_Table_kept_under, B_Table_kept_under⟩⟩
  have O_Table_history := ok_Table_history (P := l.prog) (w := w) (base := base) F_Table_history T 
  have Pr_Table_history : PrI l.prog w K mg base 1 "Table" "history" m_Table_history := ⟨⟨C_Table, p_Table_history, f_Table_history, _, _, g_Table, ⟨pg_Table, hd_Table, po_Table, sa_Table⟩, ⟨a_Table_history, pg2_Table_history, pt_Table_history, ⟨_, pr_Table_history⟩⟩, O_Table_history, B_Table_history⟩⟩
  have O_Trial_init := ok_Trial_init (P := l.prog) (w := w) (base := base) F_Trial_init T 
  have Mk_Trial : MkV l.prog w K mg base 1 "Trial" 2 m_Trial_init := ⟨⟨C_Trial, f_Trial_init, _, _, g_Trial, ⟨mk_Trial, a_Trial_init, i_Trial_init, kc_Trial⟩, O_Trial_init, B_Trial_init⟩⟩
  have O_Trial_hold := ok_Trial_hold (P := l.prog) (w := w) (base := base) F_Trial_hold T 
  have Mt_Trial_hold : MtV l.prog w K mg base 1 "Trial" "hold" false 1 m_Trial_hold := ⟨⟨C_Trial, f_Trial_hold, _, _, g_Trial, ⟨pg_Trial, hd_Trial, po_Trial, sa_Trial⟩, O_Trial_hold, ⟨a_Trial_hold, i_Trial_hold, k_Trial_hold⟩, B_Trial_hold⟩⟩
  have O_Trial_exit := ok_Trial_exit (P := l.prog) (w := w) (base := base) F_Trial_exit T 
  have O_law_taken := ok_law_taken (P := l.prog) (w := w) (base := base) F_law_taken T 
  have v_law_taken : FnV l.prog w K mg base 1 "_law_taken" false 2 m_law_taken := ⟨⟨f_law_taken, _, _, O_law_taken, PySem.W.mg_of X G a_law_taken, k_law_taken, B_law_taken⟩⟩
  have O_are_kinds := ok_are_kinds (P := l.prog) (w := w) (base := base) F_are_kinds T v_ascend v_is_word
  have v_are_kinds : FnV l.prog w K mg base 2 "are_kinds" false 1 m_are_kinds := ⟨⟨f_are_kinds, _, _, O_are_kinds, PySem.W.mg_of X G a_are_kinds, k_are_kinds, B_are_kinds⟩⟩
  have O_are_rests := ok_are_rests (P := l.prog) (w := w) (base := base) F_are_rests T v_ascend v_is_number
  have v_are_rests : FnV l.prog w K mg base 2 "are_rests" false 2 m_are_rests := ⟨⟨f_are_rests, _, _, O_are_rests, PySem.W.mg_of X G a_are_rests, k_are_rests, B_are_rests⟩⟩
  have O_check_kinds := ok_check_kinds (P := l.prog) (w := w) (base := base) F_check_kinds T v_is_word
  have v_check_kinds : FnV l.prog w K mg base 2 "check_kinds" false 1 m_check_kinds := ⟨⟨f_check_kinds, _, _, O_check_kinds, PySem.W.mg_of X G a_check_kinds, k_check_kinds, B_check_kinds⟩⟩
  have O_Table_keep_as := ok_Table_keep_as (P := l.prog) (w := w) (base := base) F_Table_keep_as T v_is_name Mt_State_go_on
  have Mt_Table_keep_as : MtV l.prog w K mg base 2 "Table" "keep_as" false 2 m_Table_keep_as := ⟨⟨C_Table, f_Table_keep_as, _, _, g_Table, ⟨pg_Table, hd_Table, po_Table, sa_Table⟩, O_Table_keep_as, ⟨a_Table_keep_as, i_Table_keep_as, k_Table_keep_as⟩, B_Table_keep_as⟩⟩
  have O_Table_fetch := ok_Table_fetch (P := l.prog) (w := w) (base := base) F_Table_fetch T Mt_State_go_on
  have Mt_Table_fetch : MtV l.prog w K mg base 2 "Table" "fetch" false 2 m_Table_fetch := ⟨⟨C_Table, f_Table_fetch, _, _, g_Table, ⟨pg_Table, hd_Table, po_Table, sa_Table⟩, O_Table_fetch, ⟨a_Table_fetch, i_Table_fetch, k_Table_fetch⟩, B_Table_fetch⟩⟩
  have O_Table_undo := ok_Table_undo (P := l.prog) (w := w) (base := base) F_Table_undo T Mt_State_go_back
  have Mt_Table_undo : MtV l.prog w K mg base 2 "Table" "undo" false 1 m_Table_undo := ⟨⟨C_Table, f_Table_undo, _, _, g_Table, ⟨pg_Table, hd_Table, po_Table, sa_Table⟩, O_Table_undo, ⟨a_Table_undo, i_Table_undo, k_Table_undo⟩, B_Table_undo⟩⟩
  have O_Table_redo := ok_Table_redo (P := l.prog) (w := w) (base := base) F_Table_redo T Mt_State_go_again
  have Mt_Table_redo : MtV l.prog w K mg base 2 "Table" "redo" false 1 m_Table_redo := ⟨⟨C_Table, f_Table_redo, _, _, g_Table, ⟨pg_Table, hd_Table, po_Table, sa_Table⟩, O_Table_redo, ⟨a_Table_redo, i_Table_redo, k_Table_redo⟩, B_Table_redo⟩⟩
  have O_law_kinds := ok_law_kinds (P := l.prog) (w := w) (base := base) F_law_kinds T v_law_taken
  have v_law_kinds : FnV l.prog w K mg base 2 "_law_kinds" false 1 m_law_kinds := ⟨⟨f_law_kinds, _, _, O_law_kinds, PySem.W.mg_of X G a_law_kinds, k_law_kinds, B_law_kinds⟩⟩
  have O_law_rows := ok_law_rows (P := l.prog) (w := w) (base := base) F_law_rows T v_law_taken
  have v_law_rows : FnV l.prog w K mg base 2 "_law_rows" false 4 m_law_rows := ⟨⟨f_law_rows, _, _, O_law_rows, PySem.W.mg_of X G a_law_rows, k_law_rows, B_law_rows⟩⟩
  have O_Rule_init := ok_Rule_init (P := l.prog) (w := w) (base := base) F_Rule_init T v_are_kinds v_are_rests v_is_number v_is_word
  have Mk_Rule : MkV l.prog w K mg base 3 "Rule" 7 m_Rule_init := ⟨⟨C_Rule, f_Rule_init, _, _, g_Rule, ⟨mk_Rule, a_Rule_init, i_Rule_init, kc_Rule⟩, O_Rule_init, B_Rule_init⟩⟩
  have O_Book_init := ok_Book_init (P := l.prog) (w := w) (base := base) F_Book_init T v_check_kinds Pr_Rule_kinds
  have Mk_Book : MkV l.prog w K mg base 3 "Book" 3 m_Book_init := ⟨⟨C_Book, f_Book_init, _, _, g_Book, ⟨mk_Book, a_Book_init, i_Book_init, kc_Book⟩, O_Book_init, B_Book_init⟩⟩
  have O_fits := ok_fits (P := l.prog) (w := w) (base := base) F_fits T Pr_Rule_high Pr_Rule_kinds Pr_Rule_low Pr_Rule_modulus Pr_Rule_rests v_rest_of
  have v_fits : FnV l.prog w K mg base 3 "fits" false 3 m_fits := ⟨⟨f_fits, _, _, O_fits, PySem.W.mg_of X G a_fits, k_fits, B_fits⟩⟩
  have O_check_row := ok_check_row (P := l.prog) (w := w) (base := base) F_check_row T v_is_number Pr_Book_kinds
  have v_check_row : FnV l.prog w K mg base 3 "check_row" false 2 m_check_row := ⟨⟨f_check_row, _, _, O_check_row, PySem.W.mg_of X G a_check_row, k_check_row, B_check_row⟩⟩
  have O_check_books := ok_check_books (P := l.prog) (w := w) (base := base) F_check_books T Pr_Book_kinds
  have v_check_books : FnV l.prog w K mg base 3 "check_books" false 2 m_check_books := ⟨⟨f_check_books, _, _, O_check_books, PySem.W.mg_of X G a_check_books, k_check_books, B_check_books⟩⟩
  have O_is_row := ok_is_row (P := l.prog) (w := w) (base := base) F_is_row T v_is_number Pr_Book_kinds
  have v_is_row : FnV l.prog w K mg base 3 "is_row" false 2 m_is_row := ⟨⟨f_is_row, _, _, O_is_row, PySem.W.mg_of X G a_is_row, k_is_row, B_is_row⟩⟩
  have O_State_copied := ok_State_copied (P := l.prog) (w := w) (base := base) F_State_copied T Mk_State
  have Mt_State_copied : MtS l.prog w K mg base 3 "State" "copied" false 1 m_State_copied := ⟨⟨C_State, f_State_copied, _, _, g_State, ⟨pg_State, ic_State, po_State, sa_State⟩, O_State_copied, ⟨a_State_copied, i_State_copied, k_State_copied⟩, B_State_copied⟩⟩
  have O_Table_init := ok_Table_init (P := l.prog) (w := w) (base := base) F_Table_init T Mk_State
  have Mk_Table : MkV l.prog w K mg base 3 "Table" 2 m_Table_init := ⟨⟨C_Table, f_Table_init, _, _, g_Table, ⟨mk_Table, a_Table_init, i_Table_init, kc_Table⟩, O_Table_init, B_Table_init⟩⟩
  have O_Book_eq := ok_Book_eq (P := l.prog) (w := w) (base := base) F_Book_eq T Er_Rule Pr_Book_kinds Pr_Book_rules
  have Eq_Book : EqV l.prog w K mg base 4 "Book" m_Book_eq := ⟨⟨C_Book, f_Book_eq, _, _, g_Book, a_Book_eq, i_Book_eq, ene_Book, eso_Book, O_Book_eq, B_Book_eq⟩⟩
  have O_fitting := ok_fitting (P := l.prog) (w := w) (base := base) F_fitting T v_fits Pr_Book_rules
  have v_fitting : FnV l.prog w K mg base 4 "fitting" false 3 m_fitting := ⟨⟨f_fitting, _, _, O_fitting, PySem.W.mg_of X G a_fitting, k_fitting, B_fitting⟩⟩
  have O_check_rows := ok_check_rows (P := l.prog) (w := w) (base := base) F_check_rows T v_is_row
  have v_check_rows : FnV l.prog w K mg base 4 "check_rows" false 2 m_check_rows := ⟨⟨f_check_rows, _, _, O_check_rows, PySem.W.mg_of X G a_check_rows, k_check_rows, B_check_rows⟩⟩
  have O_Trial_enter := ok_Trial_enter (P := l.prog) (w := w) (base := base) F_Trial_enter T Mt_State_copied
  have Wt_Trial : WthV l.prog w K mg base 4 "Trial" m_Trial_enter m_Trial_exit := ⟨⟨C_Trial, f_Trial_enter, _, _, f_Trial_exit, _, _, g_Trial, ⟨a_Trial_enter, i_Trial_enter, k_Trial_enter⟩, O_Trial_enter.mono (by decide), B_Trial_enter, ⟨a_Trial_exit, i_Trial_exit, k_Trial_exit⟩, O_Trial_exit.mono (by decide), B_Trial_exit, rfl⟩⟩
  have O_place_of := ok_place_of (P := l.prog) (w := w) (base := base) F_place_of T v_fitting Pr_Book_rules Pr_Rule_piece
  have v_place_of : FnV l.prog w K mg base 5 "place_of" false 3 m_place_of := ⟨⟨f_place_of, _, _, O_place_of, PySem.W.mg_of X G a_place_of, k_place_of, B_place_of⟩⟩
  have O_law_book := ok_law_book (P := l.prog) (w := w) (base := base) F_law_book T v_law_taken Mk_Book Mk_Rule
  have v_law_book : FnV l.prog w K mg base 5 "_law_book" false 3 m_law_book := ⟨⟨f_law_book, _, _, O_law_book, PySem.W.mg_of X G a_law_book, k_law_book, B_law_book⟩⟩
  have O_piece_of := ok_piece_of (P := l.prog) (w := w) (base := base) F_piece_of T v_check_row v_place_of
  have v_piece_of : FnV l.prog w K mg base 6 "piece_of" false 2 m_piece_of := ⟨⟨f_piece_of, _, _, O_piece_of, PySem.W.mg_of X G a_piece_of, k_piece_of, B_piece_of⟩⟩
  have O_by_pieces := ok_by_pieces (P := l.prog) (w := w) (base := base) F_by_pieces T v_named v_place_of
  have v_by_pieces : FnV l.prog w K mg base 6 "by_pieces" false 2 m_by_pieces := ⟨⟨f_by_pieces, _, _, O_by_pieces, PySem.W.mg_of X G a_by_pieces, k_by_pieces, B_by_pieces⟩⟩
  have O_moves_of := ok_moves_of (P := l.prog) (w := w) (base := base) F_moves_of T v_check_books v_check_rows v_named v_place_of
  have v_moves_of : FnV l.prog w K mg base 6 "moves_of" false 3 m_moves_of := ⟨⟨f_moves_of, _, _, O_moves_of, PySem.W.mg_of X G a_moves_of, k_moves_of, B_moves_of⟩⟩
  have O_law_are_undone := ok_law_are_undone (P := l.prog) (w := w) (base := base) F_law_are_undone T Eq_Book Mt_Table_redo Mt_Table_undo Pr_Table_book_now Pr_Table_history Pr_Table_kept_under Pr_Table_rows_now
  have v_law_are_undone : FnV l.prog w K mg base 6 "_law_are_undone" false 3 m_law_are_undone := ⟨⟨f_law_are_undone, _, _, O_law_are_undone, PySem.W.mg_of X G a_law_are_undone, k_law_are_undone, B_law_are_undone⟩⟩
  have O_laid := ok_laid (P := l.prog) (w := w) (base := base) F_laid T v_by_pieces v_check_rows
  have v_laid : FnV l.prog w K mg base 7 "laid" false 2 m_laid := ⟨⟨f_laid, _, _, O_laid, PySem.W.mg_of X G a_laid, k_laid, B_laid⟩⟩
  have O_facts_of := ok_facts_of (P := l.prog) (w := w) (base := base) F_facts_of T v_by_pieces
  have v_facts_of : FnV l.prog w K mg base 7 "facts_of" false 2 m_facts_of := ⟨⟨f_facts_of, _, _, O_facts_of, PySem.W.mg_of X G a_facts_of, k_facts_of, B_facts_of⟩⟩
  have O_Table_put := ok_Table_put (P := l.prog) (w := w) (base := base) F_Table_put T v_check_row v_facts_of Mt_State_go_on v_place_of
  have Mt_Table_put : MtV l.prog w K mg base 8 "Table" "put" false 2 m_Table_put := ⟨⟨C_Table, f_Table_put, _, _, g_Table, ⟨pg_Table, hd_Table, po_Table, sa_Table⟩, O_Table_put, ⟨a_Table_put, i_Table_put, k_Table_put⟩, B_Table_put⟩⟩
  have O_Table_drop := ok_Table_drop (P := l.prog) (w := w) (base := base) F_Table_drop T v_check_row v_facts_of Mt_State_go_on v_place_of
  have Mt_Table_drop : MtV l.prog w K mg base 8 "Table" "drop" false 2 m_Table_drop := ⟨⟨C_Table, f_Table_drop, _, _, g_Table, ⟨pg_Table, hd_Table, po_Table, sa_Table⟩, O_Table_drop, ⟨a_Table_drop, i_Table_drop, k_Table_drop⟩, B_Table_drop⟩⟩
  have O_Table_rebook := ok_Table_rebook (P := l.prog) (w := w) (base := base) F_Table_rebook T v_check_books v_facts_of v_moves_of Mt_State_go_on
  have Mt_Table_rebook : MtV l.prog w K mg base 8 "Table" "rebook" false 2 m_Table_rebook := ⟨⟨C_Table, f_Table_rebook, _, _, g_Table, ⟨pg_Table, hd_Table, po_Table, sa_Table⟩, O_Table_rebook, ⟨a_Table_rebook, i_Table_rebook, k_Table_rebook⟩, B_Table_rebook⟩⟩
  have O_Table_execute := ok_Table_execute (P := l.prog) (w := w) (base := base) F_Table_execute T Mt_Table_drop Mt_Table_fetch Mt_Table_keep_as Mt_Table_put Mt_Table_rebook Mt_Table_redo Mt_Table_undo
  have Mt_Table_execute : MtV l.prog w K mg base 9 "Table" "execute" false 2 m_Table_execute := ⟨⟨C_Table, f_Table_execute, _, _, g_Table, ⟨pg_Table, hd_Table, po_Table, sa_Table⟩, O_Table_execute, ⟨a_Table_execute, i_Table_execute, k_Table_execute⟩, B_Table_execute⟩⟩
  have O_Table_apply_all := ok_Table_apply_all (P := l.prog) (w := w) (base := base) F_Table_apply_all T v_is_operation Mk_Trial Mt_Table_execute Mt_Trial_hold Wt_Trial
  have Mt_Table_apply_all : MtV l.prog w K mg base 10 "Table" "apply_all" false 2 m_Table_apply_all := ⟨⟨C_Table, f_Table_apply_all, _, _, g_Table, ⟨pg_Table, hd_Table, po_Table, sa_Table⟩, O_Table_apply_all, ⟨a_Table_apply_all, i_Table_apply_all, k_Table_apply_all⟩, B_Table_apply_all⟩⟩
  have O_Table_replay := ok_Table_replay (P := l.prog) (w := w) (base := base) F_Table_replay T Mk_Table Mt_Table_apply_all
  have Cm_Table_replay : CmV l.prog w K mg base 11 "Table" "replay" false 3 m_Table_replay := ⟨⟨C_Table, .type "type", p_Table_replay, f_Table_replay, _, _, g_Table, ⟨cmr_Table_replay, cmg_Table_replay⟩, ⟨cmf_Table_replay, ⟨_, cmc_Table_replay⟩, cmi_Table_replay⟩, O_Table_replay, B_Table_replay⟩⟩
  have O_law := ok_law (P := l.prog) (w := w) (base := base) F_law T Cm_Table_replay Eq_Book v_laid v_law_are_undone v_law_book v_law_kinds v_law_rows v_law_taken Mk_Table v_moves_of Mt_Table_drop Mt_Table_fetch Mt_Table_keep_as Mt_Table_put Mt_Table_rebook Mt_Table_redo Mt_Table_undo v_piece_of Pr_Table_book_now Pr_Table_counts_now Pr_Table_history Pr_Table_rows_now
  exact O_law
end VP
open PySem PySem.W PyProof.Rows
theorem PySem.Challenge.cw_ruledpieces_k54_whole_tables_and_rows_holds : PySem.Challenge.rw_ruledpieces_k54_whole_tables_and_rows.Holds := by
  w_on; o_law; k_head; (case hw => w_witness2)
  k_fill
  refine L2.walk_of (l := PySem.Challenge.rw_ruledpieces_k54_whole_tables_and_rows) (n := 63) (k := 12) (x := "_law_script") (CX := fun w => L2.CX PySem.Challenge.rw_ruledpieces_k54_whole_tables_and_rows.prog w) (sp := fun w => @VE.spLaw (VE.VEnv.dummy) _) rfl (by decide) rfl ⟨rfl, by decide, by decide⟩ (fun w h Y => PySem.W.kIn_of Y) ?F (fun _ _ a ns hl _ hS => ⟨a, ns, rfl, hS, hl, (fun p h => nomatch h), fun _ => rfl⟩) (fun w H s e s' h => VE.cx_none h)
  case F =>
    intro w mg fa h KX G hmg
    refine @VE.law_end (VE.VEnv.dummy) _ _ _ _ _ _ _ _ VP.law_true ?FF
    refine' VP.all_mk KX G hmg ?aC_Rule ?pg_Rule ?ic_Rule ?po_Rule ?sa_Rule ?mk_Rule ?kc_Rule ?da_Rule_0 ?dg_Rule_0 ?dt_Rule_0 ?di_Rule_0 ?dy_Rule_0 ?aC_Book ?pg_Book ?ic_Book ?po_Book ?sa_Book ?mk_Book ?kc_Book ?da_Book_0 ?dg_Book_0 ?dt_Book_0 ?di_Book_0 ?dy_Book_0 ?aC_State ?pg_State ?ic_State ?po_State ?sa_State ?mk_State ?kc_State ?da_State_0 ?dg_State_0 ?dt_State_0 ?di_State_0 ?dy_State_0 ?da_State_1 ?dg_State_1 ?dt_State_1 ?di_State_1 ?dy_State_1 ?da_State_2 ?dg_State_2 ?dt_State_2 ?di_State_2 ?dy_State_2 ?da_State_3 ?dg_State_3 ?dt_State_3 ?di_State_3 ?dy_State_3 ?aC_Table ?pg_Table ?hd_Table ?po_Table ?sa_Table ?mk_Table ?kc_Table ?na_Table_0 ?aC_Trial ?pg_Trial ?hd_Trial ?po_Trial ?sa_Trial ?mk_Trial ?kc_Trial ?na_Trial_0 ?na_Trial_1 ?na_Trial_2 ?na_Trial_3 ?ica_Book ?icn_Book ?ict_Book ?icm_Book ?iki_Book ?ica_Rule ?icn_Rule ?ict_Rule ?icm_Rule ?iki_Rule ?ene_Book ?eso_Book ?a_is_number ?l_is_number ?c_is_number ?k_is_number ?a_is_word ?l_is_word ?c_is_word ?k_is_word ?a_ascend ?l_ascend ?c_ascend ?k_ascend ?a_Rule_piece ?pg2_Rule_piece ?pt_Rule_piece ?pr_Rule_piece ?l_Rule_piece ?c_Rule_piece ?k_Rule_piece ?a_Rule_low ?pg2_Rule_low ?pt_Rule_low ?pr_Rule_low ?l_Rule_low ?c_Rule_low ?k_Rule_low ?a_Rule_high ?pg2_Rule_high ?pt_Rule_high ?pr_Rule_high ?l_Rule_high ?c_Rule_high ?k_Rule_high ?a_Rule_modulus ?pg2_Rule_modulus ?pt_Rule_modulus ?pr_Rule_modulus ?l_Rule_modulus ?c_Rule_modulus ?k_Rule_modulus ?a_Rule_rests ?pg2_Rule_rests ?pt_Rule_rests ?pr_Rule_rests ?l_Rule_rests ?c_Rule_rests ?k_Rule_rests ?a_Rule_kinds ?pg2_Rule_kinds ?pt_Rule_kinds ?pr_Rule_kinds ?l_Rule_kinds ?c_Rule_kinds ?k_Rule_kinds ?a_Rule_eq ?i_Rule_eq ?l_Rule_eq ?c_Rule_eq ?k_Rule_eq ?a_Book_kinds ?pg2_Book_kinds ?pt_Book_kinds ?pr_Book_kinds ?l_Book_kinds ?c_Book_kinds ?k_Book_kinds ?a_Book_rules ?pg2_Book_rules ?pt_Book_rules ?pr_Book_rules ?l_Book_rules ?c_Book_rules ?k_Book_rules ?a_rest_of ?l_rest_of ?c_rest_of ?k_rest_of ?a_named ?l_named ?c_named ?k_named ?a_is_operation ?l_is_operation ?c_is_operation ?k_is_operation ?a_is_name ?l_is_name ?c_is_name ?k_is_name ?a_State_init ?i_State_init ?l_State_init ?c_State_init ?k_State_init ?a_State_go_on ?i_State_go_on ?l_State_go_on ?c_State_go_on ?k_State_go_on ?a_State_go_back ?i_State_go_back ?l_State_go_back ?c_State_go_back ?k_State_go_back ?a_State_go_again ?i_State_go_again ?l_State_go_again ?c_State_go_again ?k_State_go_again ?a_Table_book_now ?pg2_Table_book_now ?pt_Table_book_now ?pr_Table_book_now ?l_Table_book_now ?c_Table_book_now ?k_Table_book_now ?a_Table_rows_now ?pg2_Table_rows_now ?pt_Table_rows_now ?pr_Table_rows_now ?l_Table_rows_now ?c_Table_rows_now ?k_Table_rows_now ?a_Table_counts_now ?pg2_Table_counts_now ?pt_Table_counts_now ?pr_Table_counts_now ?l_Table_counts_now ?c_Table_counts_now ?k_Table_counts_now ?a_Table_kept_under ?pg2_Table_kept_under ?pt_Table_kept_under ?pr_Table_kept_under ?l_Table_kept_under ?c_Table_kept_under ?k_Table_kept_under ?a_Table_history ?pg2_Table_history ?pt_Table_history ?pr_Table_history ?l_Table_history ?c_Table_history ?k_Table_history ?a_Trial_init ?i_Trial_init ?l_Trial_init ?c_Trial_init ?k_Trial_init ?a_Trial_hold ?i_Trial_hold ?l_Trial_hold ?c_Trial_hold ?k_Trial_hold ?a_Trial_exit ?i_Trial_exit ?l_Trial_exit ?c_Trial_exit ?k_Trial_exit ?a_law_taken ?l_law_taken ?c_law_taken ?k_law_taken ?a_are_kinds ?l_are_kinds ?c_are_kinds ?k_are_kinds ?a_are_rests ?l_are_rests ?c_are_rests ?k_are_rests ?a_check_kinds ?l_check_kinds ?c_check_kinds ?k_check_kinds ?a_Table_keep_as ?i_Table_keep_as ?l_Table_keep_as ?c_Table_keep_as ?k_Table_keep_as ?a_Table_fetch ?i_Table_fetch ?l_Table_fetch ?c_Table_fetch ?k_Table_fetch ?a_Table_undo ?i_Table_undo ?l_Table_undo ?c_Table_undo ?k_Table_undo ?a_Table_redo ?i_Table_redo ?l_Table_redo ?c_Table_redo ?k_Table_redo ?a_law_kinds ?l_law_kinds ?c_law_kinds ?k_law_kinds ?a_law_rows ?l_law_rows ?c_law_rows ?k_law_rows ?a_Rule_init ?i_Rule_init ?l_Rule_init ?c_Rule_init ?k_Rule_init ?a_Book_init ?i_Book_init ?l_Book_init ?c_Book_init ?k_Book_init ?a_fits ?l_fits ?c_fits ?k_fits ?a_check_row ?l_check_row ?c_check_row ?k_check_row ?a_check_books ?l_check_books ?c_check_books ?k_check_books ?a_is_row ?l_is_row ?c_is_row ?k_is_row ?a_State_copied ?i_State_copied ?l_State_copied ?c_State_copied ?k_State_copied ?a_Table_init ?i_Table_init ?l_Table_init ?c_Table_init ?k_Table_init ?a_Book_eq ?i_Book_eq ?l_Book_eq ?c_Book_eq ?k_Book_eq ?a_fitting ?l_fitting ?c_fitting ?k_fitting ?a_check_rows ?l_check_rows ?c_check_rows ?k_check_rows ?a_Trial_enter ?i_Trial_enter ?l_Trial_enter ?c_Trial_enter ?k_Trial_enter ?a_place_of ?l_place_of ?c_place_of ?k_place_of ?a_law_book ?l_law_book ?c_law_book ?k_law_book ?a_piece_of ?l_piece_of ?c_piece_of ?k_piece_of ?a_by_pieces ?l_by_pieces ?c_by_pieces ?k_by_pieces ?a_moves_of ?l_moves_of ?c_moves_of ?k_moves_of ?a_law_are_undone ?l_law_are_undone ?c_law_are_undone ?k_law_are_undone ?a_laid ?l_laid ?c_laid ?k_laid ?a_facts_of ?l_facts_of ?c_facts_of ?k_facts_of ?a_Table_put ?i_Table_put ?l_Table_put ?c_Table_put ?k_Table_put ?a_Table_drop ?i_Table_drop ?l_Table_drop ?c_Table_drop ?k_Table_drop ?a_Table_rebook ?i_Table_rebook ?l_Table_rebook ?c_Table_rebook ?k_Table_rebook ?a_Table_execute ?i_Table_execute ?l_Table_execute ?c_Table_execute ?k_Table_execute ?a_Table_apply_all ?i_Table_apply_all ?l_Table_apply_all ?c_Table_apply_all ?k_Table_apply_all ?cmr_Table_replay ?cmg_Table_replay ?cmf_Table_replay ?cmc_Table_replay ?cmi_Table_replay ?l_Table_replay ?c_Table_replay ?k_Table_replay ?a_law ?l_law ?c_law ?k_law ?zb_all ?zb_bool ?zb_enumerate ?zb_int ?zb_isinstance ?zb_len ?zb_list ?zb_range ?zb_sorted ?zb_str ?zb_tuple ?zb_zip ?zc_LAST ?zc_LETTERS_books ?zc_LETTERS_tables ?zc_MAX_KINDS ?zc_MAX_NAME ?zc_MAX_ROWS ?zc_MAX_RULES ?zc_MAX_WORD ?zc_MODULI ?zl_MODULI ?ka_SIZES ?kd_SIZES ?kk_SIZES_0 ?kk_SIZES_1 ?kk_SIZES_2 ?kk_SIZES_3 ?kk_SIZES_4 ?kk_SIZES_5 ?kk_SIZES_6
    (case aC_Rule => k_is); (case pg_Rule => k_is); (case ic_Rule => k_is); (case po_Rule => k_is); (case sa_Rule => k_is); (case mk_Rule => k_is)
    (case kc_Rule => k_is); (case da_Rule_0 => k_is); (case dg_Rule_0 => k_is); (case dt_Rule_0 => k_is); (case di_Rule_0 => k_is); (case dy_Rule_0 => k_is)
    (case aC_Book => k_is); (case pg_Book => k_is); (case ic_Book => k_is); (case po_Book => k_is); (case sa_Book => k_is); (case mk_Book => k_is)
    (case kc_Book => k_is); (case da_Book_0 => k_is); (case dg_Book_0 => k_is); (case dt_Book_0 => k_is); (case di_Book_0 => k_is); (case dy_Book_0 => k_is)
    (case aC_State => k_is); (case pg_State => k_is); (case ic_State => k_is); (case po_State => k_is); (case sa_State => k_is); (case mk_State => k_is)
    (case kc_State => k_is); (case da_State_0 => k_is); (case dg_State_0 => k_is); (case dt_State_0 => k_is); (case di_State_0 => k_is); (case dy_State_0 => k_is)
    (case da_State_1 => k_is); (case dg_State_1 => k_is); (case dt_State_1 => k_is); (case di_State_1 => k_is); (case dy_State_1 => k_is); (case da_State_2 => k_is)
    (case dg_State_2 => k_is); (case dt_State_2 => k_is); (case di_State_2 => k_is); (case dy_State_2 => k_is); (case da_State_3 => k_is); (case dg_State_3 => k_is)
    (case dt_State_3 => k_is); (case di_State_3 => k_is); (case dy_State_3 => k_is); (case aC_Table => k_is); (case pg_Table => k_is); (case hd_Table => k_is)
    (case po_Table => k_is); (case sa_Table => k_is); (case mk_Table => k_is); (case kc_Table => k_is); (case na_Table_0 => k_is); (case aC_Trial => k_is)
    (case pg_Trial => k_is); (case hd_Trial => k_is); (case po_Trial => k_is); (case sa_Trial => k_is); (case mk_Trial => k_is); (case kc_Trial => k_is)
    (case na_Trial_0 => k_is); (case na_Trial_1 => k_is); (case na_Trial_2 => k_is); (case na_Trial_3 => k_is); (case ica_Book => k_is); (case icn_Book => k_is)
    (case ict_Book => k_is); (case icm_Book => k_is); (case iki_Book => first | k_is | rfl | kernel_rfl); (case ica_Rule => k_is); (case icn_Rule => k_is); (case ict_Rule => k_is)
    (case icm_Rule => k_is); (case iki_Rule => first | k_is | rfl | kernel_rfl); (case ene_Book => k_is); (case eso_Book => k_is); (case a_is_number => k_is); (case l_is_number => k_is)
    (case c_is_number => k_is); (case k_is_number => k_is); (case a_is_word => k_is); (case l_is_word => k_is); (case c_is_word => k_is); (case k_is_word => k_is)
    (case a_ascend => k_is); (case l_ascend => k_is); (case c_ascend => k_is); (case k_ascend => k_is); (case a_Rule_piece => k_is); (case pg2_Rule_piece => k_is)
    (case pt_Rule_piece => k_is); (case pr_Rule_piece => k_is); (case l_Rule_piece => k_is); (case c_Rule_piece => k_is); (case k_Rule_piece => k_is); (case a_Rule_low => k_is)
    (case pg2_Rule_low => k_is); (case pt_Rule_low => k_is); (case pr_Rule_low => k_is); (case l_Rule_low => k_is); (case c_Rule_low => k_is); (case k_Rule_low => k_is)
    (case a_Rule_high => k_is); (case pg2_Rule_high => k_is); (case pt_Rule_high => k_is); (case pr_Rule_high => k_is); (case l_Rule_high => k_is); (case c_Rule_high => k_is)
    (case k_Rule_high => k_is); (case a_Rule_modulus => k_is); (case pg2_Rule_modulus => k_is); (case pt_Rule_modulus => k_is); (case pr_Rule_modulus => k_is); (case l_Rule_modulus => k_is)
    (case c_Rule_modulus => k_is); (case k_Rule_modulus => k_is); (case a_Rule_rests => k_is); (case pg2_Rule_rests => k_is); (case pt_Rule_rests => k_is); (case pr_Rule_rests => k_is)
    (case l_Rule_rests => k_is); (case c_Rule_rests => k_is); (case k_Rule_rests => k_is); (case a_Rule_kinds => k_is); (case pg2_Rule_kinds => k_is); (case pt_Rule_kinds => k_is)
    (case pr_Rule_kinds => k_is); (case l_Rule_kinds => k_is); (case c_Rule_kinds => k_is); (case k_Rule_kinds => k_is); (case a_Rule_eq => k_is); (case i_Rule_eq => k_is)
    (case l_Rule_eq => k_is); (case c_Rule_eq => k_is); (case k_Rule_eq => k_is); (case a_Book_kinds => k_is); (case pg2_Book_kinds => k_is); (case pt_Book_kinds => k_is)
    (case pr_Book_kinds => k_is); (case l_Book_kinds => k_is); (case c_Book_kinds => k_is); (case k_Book_kinds => k_is); (case a_Book_rules => k_is); (case pg2_Book_rules => k_is)
    (case pt_Book_rules => k_is); (case pr_Book_rules => k_is); (case l_Book_rules => k_is); (case c_Book_rules => k_is); (case k_Book_rules => k_is); (case a_rest_of => k_is)
    (case l_rest_of => k_is); (case c_rest_of => k_is); (case k_rest_of => k_is); (case a_named => k_is); (case l_named => k_is); (case c_named => k_is)
    (case k_named => k_is); (case a_is_operation => k_is); (case l_is_operation => k_is); (case c_is_operation => k_is); (case k_is_operation => k_is); (case a_is_name => k_is)
    (case l_is_name => k_is); (case c_is_name => k_is); (case k_is_name => k_is); (case a_State_init => k_is); (case i_State_init => k_is); (case l_State_init => k_is)
    (case c_State_init => k_is); (case k_State_init => k_is); (case a_State_go_on => k_is); (case i_State_go_on => k_is); (case l_State_go_on => k_is); (case c_State_go_on => k_is)
    (case k_State_go_on => k_is); (case a_State_go_back => k_is); (case i_State_go_back => k_is); (case l_State_go_back => k_is); (case c_State_go_back => k_is); (case k_State_go_back => k_is)
    (case a_State_go_again => k_is); (case i_State_go_again => k_is); (case l_State_go_again => k_is); (case c_State_go_again => k_is); (case k_State_go_again => k_is); (case a_Table_book_now => k_is)
    (case pg2_Table_book_now => k_is); (case pt_Table_book_now => k_is); (case pr_Table_book_now => k_is); (case l_Table_book_now => k_is); (case c_Table_book_now => k_is); (case k_Table_book_now => k_is)
    (case a_Table_rows_now => k_is); (case pg2_Table_rows_now => k_is); (case pt_Table_rows_now => k_is); (case pr_Table_rows_now => k_is); (case l_Table_rows_now => k_is); (case c_Table_rows_now => k_is)
    (case k_Table_rows_now => k_is); (case a_Table_counts_now => k_is); (case pg2_Table_counts_now => k_is); (case pt_Table_counts_now => k_is); (case pr_Table_counts_now => k_is); (case l_Table_counts_now => k_is)
    (case c_Table_counts_now => k_is); (case k_Table_counts_now => k_is); (case a_Table_kept_under => k_is); (case pg2_Table_kept_under => k_is); (case pt_Table_kept_under => k_is); (case pr_Table_kept_under => k_is)
    (case l_Table_kept_under => k_is); (case c_Table_kept_under => k_is); (case k_Table_kept_under => k_is); (case a_Table_history => k_is); (case pg2_Table_history => k_is); (case pt_Table_history => k_is)
    (case pr_Table_history => k_is); (case l_Table_history => k_is); (case c_Table_history => k_is); (case k_Table_history => k_is); (case a_Trial_init => k_is); (case i_Trial_init => k_is)
    (case l_Trial_init => k_is); (case c_Trial_init => k_is); (case k_Trial_init => k_is); (case a_Trial_hold => k_is); (case i_Trial_hold => k_is); (case l_Trial_hold => k_is)
    (case c_Trial_hold => k_is); (case k_Trial_hold => k_is); (case a_Trial_exit => k_is); (case i_Trial_exit => k_is); (case l_Trial_exit => k_is); (case c_Trial_exit => k_is)
    (case k_Trial_exit => k_is); (case a_law_taken => k_is); (case l_law_taken => k_is); (case c_law_taken => k_is); (case k_law_taken => k_is); (case a_are_kinds => k_is)
    (case l_are_kinds => k_is); (case c_are_kinds => k_is); (case k_are_kinds => k_is); (case a_are_rests => k_is); (case l_are_rests => k_is); (case c_are_rests => k_is)
    (case k_are_rests => k_is); (case a_check_kinds => k_is); (case l_check_kinds => k_is); (case c_check_kinds => k_is); (case k_check_kinds => k_is); (case a_Table_keep_as => k_is)
    (case i_Table_keep_as => k_is); (case l_Table_keep_as => k_is); (case c_Table_keep_as => k_is); (case k_Table_keep_as => k_is); (case a_Table_fetch => k_is); (case i_Table_fetch => k_is)
    (case l_Table_fetch => k_is); (case c_Table_fetch => k_is); (case k_Table_fetch => k_is); (case a_Table_undo => k_is); (case i_Table_undo => k_is); (case l_Table_undo => k_is)
    (case c_Table_undo => k_is); (case k_Table_undo => k_is); (case a_Table_redo => k_is); (case i_Table_redo => k_is); (case l_Table_redo => k_is); (case c_Table_redo => k_is)
    (case k_Table_redo => k_is); (case a_law_kinds => k_is); (case l_law_kinds => k_is); (case c_law_kinds => k_is); (case k_law_kinds => k_is); (case a_law_rows => k_is)
    (case l_law_rows => k_is); (case c_law_rows => k_is); (case k_law_rows => k_is); (case a_Rule_init => k_is); (case i_Rule_init => k_is); (case l_Rule_init => k_is)
    (case c_Rule_init => k_is); (case k_Rule_init => k_is); (case a_Book_init => k_is); (case i_Book_init => k_is); (case l_Book_init => k_is); (case c_Book_init => k_is)
    (case k_Book_init => k_is); (case a_fits => k_is); (case l_fits => k_is); (case c_fits => k_is); (case k_fits => k_is); (case a_check_row => k_is)
    (case l_check_row => k_is); (case c_check_row => k_is); (case k_check_row => k_is); (case a_check_books => k_is); (case l_check_books => k_is); (case c_check_books => k_is)
    (case k_check_books => k_is); (case a_is_row => k_is); (case l_is_row => k_is); (case c_is_row => k_is); (case k_is_row => k_is); (case a_State_copied => k_is)
    (case i_State_copied => k_is); (case l_State_copied => k_is); (case c_State_copied => k_is); (case k_State_copied => k_is); (case a_Table_init => k_is); (case i_Table_init => k_is)
    (case l_Table_init => k_is); (case c_Table_init => k_is); (case k_Table_init => k_is); (case a_Book_eq => k_is); (case i_Book_eq => k_is); (case l_Book_eq => k_is)
    (case c_Book_eq => k_is); (case k_Book_eq => k_is); (case a_fitting => k_is); (case l_fitting => k_is); (case c_fitting => k_is); (case k_fitting => k_is)
    (case a_check_rows => k_is); (case l_check_rows => k_is); (case c_check_rows => k_is); (case k_check_rows => k_is); (case a_Trial_enter => k_is); (case i_Trial_enter => k_is)
    (case l_Trial_enter => k_is); (case c_Trial_enter => k_is); (case k_Trial_enter => k_is); (case a_place_of => k_is); (case l_place_of => k_is); (case c_place_of => k_is)
    (case k_place_of => k_is); (case a_law_book => k_is); (case l_law_book => k_is); (case c_law_book => k_is); (case k_law_book => k_is); (case a_piece_of => k_is)
    (case l_piece_of => k_is); (case c_piece_of => k_is); (case k_piece_of => k_is); (case a_by_pieces => k_is); (case l_by_pieces => k_is); (case c_by_pieces => k_is)
    (case k_by_pieces => k_is); (case a_moves_of => k_is); (case l_moves_of => k_is); (case c_moves_of => k_is); (case k_moves_of => k_is); (case a_law_are_undone => k_is)
    (case l_law_are_undone => k_is); (case c_law_are_undone => k_is); (case k_law_are_undone => k_is); (case a_laid => k_is); (case l_laid => k_is); (case c_laid => k_is)
    (case k_laid => k_is); (case a_facts_of => k_is); (case l_facts_of => k_is); (case c_facts_of => k_is); (case k_facts_of => k_is); (case a_Table_put => k_is)
    (case i_Table_put => k_is); (case l_Table_put => k_is); (case c_Table_put => k_is); (case k_Table_put => k_is); (case a_Table_drop => k_is); (case i_Table_drop => k_is)
    (case l_Table_drop => k_is); (case c_Table_drop => k_is); (case k_Table_drop => k_is); (case a_Table_rebook => k_is); (case i_Table_rebook => k_is); (case l_Table_rebook => k_is)
    (case c_Table_rebook => k_is); (case k_Table_rebook => k_is); (case a_Table_execute => k_is); (case i_Table_execute => k_is); (case l_Table_execute => k_is); (case c_Table_execute => k_is)
    (case k_Table_execute => k_is); (case a_Table_apply_all => k_is); (case i_Table_apply_all => k_is); (case l_Table_apply_all => k_is); (case c_Table_apply_all => k_is); (case k_Table_apply_all => k_is)
    (case cmr_Table_replay => k_is); (case cmg_Table_replay => k_is); (case cmf_Table_replay => k_is); (case cmc_Table_replay => k_is); (case cmi_Table_replay => k_is); (case l_Table_replay => k_is)
    (case c_Table_replay => k_is); (case k_Table_replay => k_is); (case a_law => k_is); (case l_law => k_is); (case c_law => k_is); (case k_law => k_is)
    (case zb_all => k_is); (case zb_bool => k_is); (case zb_enumerate => k_is); (case zb_int => k_is); (case zb_isinstance => k_is); (case zb_len => k_is)
    (case zb_list => k_is); (case zb_range => k_is); (case zb_sorted => k_is); (case zb_str => k_is); (case zb_tuple => k_is); (case zb_zip => k_is)
    (case zc_LAST => k_is); (case zc_LETTERS_books => k_is); (case zc_LETTERS_tables => k_is); (case zc_MAX_KINDS => k_is); (case zc_MAX_NAME => k_is); (case zc_MAX_ROWS => k_is)
    (case zc_MAX_RULES => k_is); (case zc_MAX_WORD => k_is); (case zc_MODULI => k_is); (case zl_MODULI => k_is); (case ka_SIZES => k_is); (case kd_SIZES => first | k_is | rfl | kernel_rfl)
    (case kk_SIZES_0 => k_is); (case kk_SIZES_1 => k_is); (case kk_SIZES_2 => k_is); (case kk_SIZES_3 => k_is); (case kk_SIZES_4 => k_is); (case kk_SIZES_5 => k_is)
    (case kk_SIZES_6 => k_is)
