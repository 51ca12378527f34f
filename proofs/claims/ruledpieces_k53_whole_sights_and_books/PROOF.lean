import PyProof.Rows.All
import Wide.All
import OpenK.AllK
import Wide.FinOn
import HandS.Base
import HandS.Call
import HandS.List
import HandS.Comp
import HandS.Ends
import HandS.Exc
import HandS.Text
import HandS.More
import HandS.Slots
import HandS.SlotsVar
import HandS.SlotsOwn
import HandS.Lambda
import HandS.Nested
import HandS.Deep
import HandS.Wide
import HandS.WideMore
import HandS.Star
import HandS.Words
import HandS.WordsExc
import HandS.ExcOwn
import HandS.Iter
import HandS.IsInst
import HandS.Style
import HandS.Replace
import HandS.Property
import HandS.Zip
import KE.GoesEnum
import KE.GoesMore
import HandS.TupAny
import HandS.Conv
import HandS.Codes
import HandS.SetKeys
import HandS.Set
import HandS.Strs
import HandS.SortInts
import HandS.SortKw
import HandS.WideBits
import HandS.TupMul
import KE.KDictZip
import HandS.ExcValue
import PyProof.LongRange
import KE.DataMinMax
import KE.DataCmp
import KE.Datum
import KE.KLam
import HandS.Flow
import HandS.EndTab
import KE.KNestM
import PySem.Challenge.RW_ruledpieces_k53_whole_sights_and_books
set_option Elab.async false
set_option linter.all false
set_option maxRecDepth 100000
set_option maxHeartbeats 4000000
/-! VE: values as pure data, statements as functions of data, tied once to the hand layer's judgements. -/
namespace VE
open PySem PySem.Spec PyProof.Rows L2

/-- a lambda, an inner def: its names, its text; fr: what it captures, in order -/
structure LamCode where
  name : Str
  qual : Str
  params : Arguments
  body : FuncBody
  scope : Scope
  ps : List Str
  fr : List Str
/-- the tables of code objects, the texts of all lambdas and inner defs, by number -/
class VEnv where
  T : List (Addr × Str)
  code : Nat → LamCode
/-- for a law without lambdas -/
@[reducible] def VEnv.dummy : VEnv := ⟨[], fun _ => ⟨"", "", ⟨[], [], none, [], [], none, []⟩, .stmts [], default, [], []⟩⟩
/-- a function as a value: of the module, by its name; a lambda or inner def, by its number, with the cells of the frame that made it -/
inductive Clo where
  | glb (x : Str)
  | lam (id : Nat) (cells : List (Str × Addr))
  deriving Inhabited
/-- pure data that a value stands for -/
inductive D where
  | non
  | bl (b : Bool)
  | int (i : Int)
  | str (x : Str)
  | lst (xs : List D)
  | tup (xs : List D)
  | scr (xs : List Int)
  | ino (c : Str) (ns : List Str) (xs : List D)
  | obj (c : Str) (xs : List D)
  | ref (n : Nat)
  | fn (x : Clo)
  deriving Inhabited

/-- a slot: nothing known; a value; a list or dict that this slot alone holds -/
inductive Sl where
  | no
  | va (d : D)
  | ow (d : D)
  | gh (cells : List (Str × Addr)) (vals : List (Str × D))
/-- an object that may be changed: a list, an instance with its attributes -/
inductive Cell where
  | lst (xs : List D)
  | ins (c : Str) (fs : List (Str × D))
  | slo (c : Str) (ds : List D)
  | dct (kvs : List (L2.Key × D))
abbrev EnvD := List Sl
abbrev Sto := List Cell
/-- an exception: its class's name, its attributes -/
structure Exn where
  cls : Str
  fs : List (Str × D)
inductive R (α : Type) where
  | ok (a : α) (e : EnvD) (st : Sto)
  | ex (x : Exn) (e : EnvD) (st : Sto)
  | bad
@[reducible] def M (α : Type) := EnvD → Sto → R α
def R.bind {α β : Type} (r : R α) (k : α → M β) : R β := match r with
  | .ok a e st => k a e st
  | .ex x e st => .ex x e st
  | .bad => .bad
@[simp] theorem R.bind_ok {α β : Type} (a : α) (e : EnvD) (st : Sto) (k : α → M β) : (R.ok a e st).bind k = k a e st := rfl
@[simp] theorem R.bind_ex {α β : Type} (x : Exn) (e : EnvD) (st : Sto) (k : α → M β) : (R.ex x e st).bind k = .ex x e st := rfl
@[simp] theorem R.bind_bad {α β : Type} (k : α → M β) : (R.bad : R α).bind k = .bad := rfl

/-- the function object of a lambda or inner def -/
def FnL (f : Addr) (L : LamCode) (cells : List (Str × Addr)) (c' : Addr) : HO := .ext fun h => ∃ (od : Option Addr) (sl : Array (Option Value)) (doc pm ctv : Value),
  h.get? f = some (⟨.type "function", od, .func { name := L.name, qualname := L.qual, params := L.params, body := L.body, scope := L.scope, globals := mainGlobals, closure := cloFrom cells L.scope.names [], defaults := .none, kwdefaults := .none, doc, pyModule := pm, annotations := none, code := .ref c', closureTuple := ctv, builtins := builtinsNs }, sl⟩ : Obj)
/-- a known cell of a frame that waits -/
def cellT : HO := .ext fun _ => True
def CelO (o : Obj) : HO := .frz o cellT
section
variable [VEnv]
variable (K : PySem.W.Frag) (mg : Str → Option Value)
def FqL (F : Addr → Prop) (H : Hp) (a : Addr) (xs : List V) : Prop :=
  (F a ∧ Rd H a (.lst xs)) ∨ ∃ (o : Obj) (its : Array Value) (n : Nat), K.lookup a = some o ∧ o.cls = .type "list" ∧ o.dict = none ∧ o.data = .seq its n ∧ its.size ≤ sizeLine ∧ Vals xs its.toList
def FqT (F : Addr → Prop) (H : Hp) (a : Addr) (xs : List V) : Prop :=
  (F a ∧ Rd H a (.tup xs)) ∨ ∃ (o : Obj) (its : Array Value) (n : Nat), K.lookup a = some o ∧ o.cls = .type "tuple" ∧ o.data = .seq its n ∧ its.size ≤ sizeLine ∧ Vals xs its.toList
mutual
inductive Rp (F : Addr → Prop) (c : List Addr) (H : Hp) : V → D → Prop
  | non : Rp F c H .non .non
  | bl (b : Bool) : Rp F c H (.bl b) (.bl b)
  | int (i : Int) : Rp F c H (.int i) (.int i)
  | str (x : Str) : Rp F c H (.str x) (.str x)
  | lst {a : Addr} {xs : List V} {ds : List D} : F a → H a = some (.lst xs) → Rps F c H xs ds → Rp F c H (.ref a) (.lst ds)
  | scr {a : Addr} {ns : List Int} : FqL K F H a (ns.map V.int) → Rp F c H (.ref a) (.scr ns)
  | tup {a : Addr} {xs : List V} {ds : List D} : FqT K F H a xs → Rps F c H xs ds → Rp F c H (.ref a) (.tup ds)
  | obj {a C dx : Addr} {n : Str} {xs : List V} {ds : List D} : mg n = some (.ref C) → F a → L2.SlAt H a C dx (xs.map some) → Rps F c H xs ds → Rp F c H (.ref a) (.obj n ds)
  | ino {a C dx : Addr} {n : Str} {vfs : List (Str × V)} {ns : List Str} {ds : List D} : mg n = some (.ref C) → F a → H a = some (.ins C dx vfs) → vfs.map (·.1) = ns → Rps F c H (vfs.map (·.2)) ds → Rp F c H (.ref a) (.ino n ns ds)
  | ref {a : Addr} {n : Nat} : c[n]? = some a → Rp F c H (.ref a) (.ref n)
  | glb {x : Str} {f : Addr} : mg x = some (.ref f) → Rp F c H (.ref f) (.fn (.glb x))
  | lam {f c' : Addr} {i : Nat} {cells : List (Str × Addr)} : F f → H f = some (FnL f (VEnv.code i) cells c') → F c' → H c' = some (LamX.CodeO c' (VEnv.code i).qual) → (∀ y ∈ (VEnv.code i).scope.names, y.2 = .free → ∃ a, cells.lookup y.1 = some a) → Rp F c H (.ref f) (.fn (.lam i cells))
inductive Rps (F : Addr → Prop) (c : List Addr) (H : Hp) : List V → List D → Prop
  | nil : Rps F c H [] []
  | cons {v : V} {vs : List V} {d : D} {ds : List D} : Rp F c H v d → Rps F c H vs ds → Rps F c H (v :: vs) (d :: ds)
end
end

/-- what stood there stands there still; a table of code objects may have grown -/
def Kept (H' : Hp) (a : Addr) (o : HO) : Prop := H' a = some o ∨ ((∃ ps, o = .tbl ps) ∧ ∃ ps', H' a = some (.tbl ps'))
theorem Kept.there {H' : Hp} {a : Addr} {o : HO} (k : Kept H' a o) : ∃ o', H' a = some o' := k.elim (fun h => ⟨_, h⟩) fun ⟨_, _, h⟩ => ⟨_, h⟩
theorem Kept.same {H' : Hp} {a : Addr} {o : HO} (k : Kept H' a o) (n : ∀ ps, o ≠ .tbl ps) : H' a = some o := k.elim id fun ⟨⟨ps, e⟩, _⟩ => absurd e (n ps)
theorem Kept.up {H H' : Hp} {a : Addr} {o : HO} (k : Kept H a o) (h : ∀ o, H a = some o → Kept H' a o) : Kept H' a o := by
  rcases k with k | ⟨⟨ps, e⟩, ps', k⟩
  · exact h o k
  · refine .inr ⟨⟨ps, e⟩, ?_⟩
    rcases h _ k with q | ⟨_, q⟩
    · exact ⟨_, q⟩
    · exact q
/-- what is frozen stays -/
structure Stp (F : Addr → Prop) (c : List Addr) (H : Hp) (F' : Addr → Prop) (c' : List Addr) (H' : Hp) : Prop where
  inc : ∀ a, F a → F' a
  keep : ∀ a o, F a → H a = some o → H' a = some o
  cs : ∃ l, c' = c ++ l
  own : ∀ d x, H d = some (.own x) → H' d = some (.own x)
section
variable [VEnv]
variable {K : PySem.W.Frag} {mg : Str → Option Value} {F F' F2 : Addr → Prop} {c c' c2 : List Addr} {H H' H2 : Hp}
theorem Stp.refl : Stp F c H F c H := ⟨fun _ h => h, fun _ _ _ h => h, ⟨[], (List.append_nil c).symm⟩, fun _ _ h => h⟩
theorem Stp.trans (s : Stp F c H F' c' H') (t : Stp F' c' H' F2 c2 H2) : Stp F c H F2 c2 H2 := by
  obtain ⟨l, e⟩ := s.cs
  obtain ⟨l', e'⟩ := t.cs
  exact ⟨fun a h => t.inc a (s.inc a h), fun a o h e => t.keep a o (s.inc a h) (s.keep a o h e), ⟨l ++ l', by rw [e', e, List.append_assoc]⟩, fun d x h => t.own d x (s.own d x h)⟩
theorem FqL.stp {a : Addr} {xs : List V} (h : FqL K F H a xs) (s : Stp F c H F' c' H') : FqL K F' H' a xs := by
  rcases h with ⟨f, h | ⟨o, h⟩⟩ | h
  · exact .inl ⟨s.inc a f, .inl (s.keep a _ f h)⟩
  · exact .inl ⟨s.inc a f, .inr ⟨o, s.keep a _ f h⟩⟩
  · exact .inr h
theorem FqL.sq {a : Addr} {xs : List V} (h : FqL K F H a xs) : SqL K H a xs := h.elim (fun h => .inl h.2) .inr
theorem FqT.stp {a : Addr} {xs : List V} (h : FqT K F H a xs) (s : Stp F c H F' c' H') : FqT K F' H' a xs := by
  rcases h with ⟨f, h | ⟨o, h⟩⟩ | h
  · exact .inl ⟨s.inc a f, .inl (s.keep a _ f h)⟩
  · exact .inl ⟨s.inc a f, .inr ⟨o, s.keep a _ f h⟩⟩
  · exact .inr h
theorem FqT.sq {a : Addr} {xs : List V} (h : FqT K F H a xs) : SqT K H a xs := h.elim (fun h => .inl h.2) .inr
theorem slAt_stp {a C dx : Addr} {vs : List (Option V)} (s : Stp F c H F' c' H') (f : F a) (h : L2.SlAt H a C dx vs) : L2.SlAt H' a C dx vs :=
  ⟨s.own _ _ h.1, h.2.1, h.2.2.elim (fun h => .inl (s.keep _ _ f h)) fun h => .inr ⟨h.1, s.keep _ _ f h.2⟩⟩
mutual
theorem Rp.stp (s : Stp F c H F' c' H') : ∀ {v : V} {d : D}, Rp K mg F c H v d → Rp K mg F' c' H' v d
  | _, _, .non => .non
  | _, _, .bl b => .bl b
  | _, _, .int i => .int i
  | _, _, .str x => .str x
  | _, _, .lst f h r => .lst (s.inc _ f) (s.keep _ _ f h) (Rps.stp s r)
  | _, _, .scr h => .scr (h.stp s)
  | _, _, .tup h r => .tup (h.stp s) (Rps.stp s r)
  | _, _, .obj m f h r => .obj m (s.inc _ f) (slAt_stp s f h) (Rps.stp s r)
  | _, _, .ino m f h e r => .ino m (s.inc _ f) (s.keep _ _ f h) e (Rps.stp s r)
  | _, _, .ref h => .ref (by
      obtain ⟨l, e⟩ := s.cs
      rw [e, List.getElem?_append_left]
      · exact h
      · exact (List.getElem?_eq_some_iff.mp h).1)
  | _, _, .glb h => .glb h
  | _, _, .lam f h g k z => .lam (s.inc _ f) (s.keep _ _ f h) (s.inc _ g) (s.keep _ _ g k) z
theorem Rps.stp (s : Stp F c H F' c' H') : ∀ {vs : List V} {ds : List D}, Rps K mg F c H vs ds → Rps K mg F' c' H' vs ds
  | _, _, .nil => .nil
  | _, _, .cons h r => .cons (Rp.stp s h) (Rps.stp s r)
end
theorem Rps.length : ∀ {vs : List V} {ds : List D}, Rps K mg F c H vs ds → vs.length = ds.length
  | _, _, .nil => rfl
  | _, _, .cons _ r => by rw [List.length_cons, List.length_cons, Rps.length r]
theorem Rps.append : ∀ {vs : List V} {ds : List D} {ws : List V} {es : List D}, Rps K mg F c H vs ds → Rps K mg F c H ws es → Rps K mg F c H (vs ++ ws) (ds ++ es)
  | _, _, _, _, .nil, h => h
  | _, _, _, _, .cons h r, q => .cons h (Rps.append r q)
theorem Rps.get : ∀ {vs : List V} {ds : List D} {i : Nat} {v : V}, Rps K mg F c H vs ds → vs[i]? = some v → ∃ d, ds[i]? = some d ∧ Rp K mg F c H v d
  | _, _, _, _, .nil, e => by simp at e
  | _, _, 0, _, .cons h _, e => by simp at e; subst e; exact ⟨_, rfl, h⟩
  | _, _, i + 1, v, .cons _ r, e => by
    obtain ⟨d, h1, h2⟩ := Rps.get (i := i) (v := v) r (by simpa using e)
    exact ⟨d, by simpa using h1, h2⟩
theorem Rps.get' : ∀ {vs : List V} {ds : List D} {i : Nat} {d : D}, Rps K mg F c H vs ds → ds[i]? = some d → ∃ v, vs[i]? = some v ∧ Rp K mg F c H v d
  | _, _, _, _, .nil, e => by simp at e
  | _, _, 0, _, .cons h _, e => by simp at e; subst e; exact ⟨_, rfl, h⟩
  | _, _, i + 1, d, .cons _ r, e => by
    obtain ⟨v, h1, h2⟩ := Rps.get' (i := i) (d := d) r (by simpa using e)
    exact ⟨v, by simpa using h1, h2⟩
theorem Rps.take : ∀ {vs : List V} {ds : List D} (n : Nat), Rps K mg F c H vs ds → Rps K mg F c H (vs.take n) (ds.take n)
  | _, _, 0, _ => .nil
  | _, _, _ + 1, .nil => .nil
  | _, _, n + 1, .cons h r => .cons h (Rps.take n r)
theorem Rps.drop : ∀ {vs : List V} {ds : List D} (n : Nat), Rps K mg F c H vs ds → Rps K mg F c H (vs.drop n) (ds.drop n)
  | _, _, 0, r => r
  | _, _, _ + 1, .nil => .nil
  | _, _, n + 1, .cons _ r => Rps.drop n r
theorem Rps.set {x : V} {d : D} (r : Rp K mg F c H x d) : ∀ {vs : List V} {ds : List D} (i : Nat), Rps K mg F c H vs ds → Rps K mg F c H (vs.set i x) (ds.set i d)
  | _, _, _, .nil => .nil
  | _, _, 0, .cons _ t => .cons r t
  | _, _, i + 1, .cons q t => .cons q (Rps.set r i t)
theorem Rps.reverse : ∀ {vs : List V} {ds : List D}, Rps K mg F c H vs ds → Rps K mg F c H vs.reverse ds.reverse
  | _, _, .nil => .nil
  | _, _, .cons h r => by
    rw [List.reverse_cons, List.reverse_cons]
    exact Rps.append (Rps.reverse r) (.cons h .nil)
end

/-- the fixed things of a def's run: the written part, the module's names, the heap, the frozen and the changeable objects at its entry -/
structure Bs where
  K : PySem.W.Frag
  mg : Str → Option Value
  H0 : Hp
  F0 : Addr → Prop
  c0 : List Addr

section
variable [VEnv]
def OwnAt (K : PySem.W.Frag) (mg : Str → Option Value) (F : Addr → Prop) (c : List Addr) (H : Hp) (a : Addr) : D → Prop
  | .lst ds => ∃ vs, H a = some (.lst vs) ∧ Rps K mg F c H vs ds
  | _ => False
def CellOk (K : PySem.W.Frag) (mg : Str → Option Value) (F : Addr → Prop) (c : List Addr) (H : Hp) (a : Addr) : Cell → Prop
  | .lst ds => ∃ vs, H a = some (.lst vs) ∧ Rps K mg F c H vs ds
  | .ins n fs => ∃ C dx vfs, mg n = some (.ref C) ∧ H a = some (.ins C dx vfs) ∧ vfs.map (·.1) = fs.map (·.1) ∧ Rps K mg F c H (vfs.map (·.2)) (fs.map (·.2))
  | .slo n ds => ∃ C dx vs, mg n = some (.ref C) ∧ L2.SlAt H a C dx (vs.map some) ∧ Rps K mg F c H vs ds
  | .dct kvs => ∃ vk : List (L2.Key × V), H a = some (.dK vk) ∧ vk.map (·.1) = kvs.map (·.1) ∧ Rps K mg F c H (vk.map (·.2)) (kvs.map (·.2))
/-- no dict of an instance's own: such stay as they are -/
def NotOwn (o : HO) : Prop := ∀ x, o ≠ .own x
theorem CellOk.notOwn {K : PySem.W.Frag} {mg : Str → Option Value} {F : Addr → Prop} {c : List Addr} {H : Hp} {a : Addr} {x : Cell} (h : CellOk K mg F c H a x) : ∃ o, H a = some o ∧ NotOwn o := by
  cases x with
  | lst ds => obtain ⟨vs, h, _⟩ := h; exact ⟨_, h, fun x z => by cases z⟩
  | ins n fs => obtain ⟨_, _, _, _, h, _⟩ := h; exact ⟨_, h, fun x z => by cases z⟩
  | slo n ds =>
    obtain ⟨C, dx, vs, _, ⟨_, _, h | ⟨_, h⟩⟩, _⟩ := h
    · exact ⟨_, h, fun x z => by cases z⟩
    · exact ⟨_, h, fun x z => by cases z⟩
  | dct kvs => obtain ⟨vk, h, _⟩ := h; exact ⟨_, h, fun x z => by cases z⟩
/-- a table of code objects; what it tells is frozen -/
def TabF (F : Addr → Prop) (c : List Addr) (H : Hp) (p : Addr × Str) : Prop := ¬ F p.1 ∧ p.1 ∉ c ∧ ∃ ps : Array Value, H p.1 = some (.tbl ps) ∧ TriplesOk ps.toList ∧ ∀ (pos : Pos) (cv : Value), codeAmong pos ps.toList = some cv → ∃ c', cv = .ref c' ∧ F c' ∧ H c' = some (LamX.CodeO c' p.2)
theorem TabF.stp {F F' : Addr → Prop} {c c' : List Addr} {H H' : Hp} {p : Addr × Str} (t : TabF F c H p) (s : Stp F c H F' c' H') (h5 : ∀ ps, H p.1 = some (.tbl ps) → H' p.1 = some (.tbl ps)) (h6 : ∀ ps, H p.1 = some (.tbl ps) → F' p.1 → F p.1) (h7 : ∀ ps, H p.1 = some (.tbl ps) → p.1 ∈ c' → p.1 ∈ c) : TabF F' c' H' p := by
  obtain ⟨t1, t2, ps, t3, t4, t5⟩ := t
  exact ⟨fun h => t1 (h6 _ t3 h), fun h => t2 (h7 _ t3 h), ps, h5 _ t3, t4, fun pos cv h => by obtain ⟨c', e, f, k⟩ := t5 pos cv h; exact ⟨c', e, s.inc _ f, s.keep _ _ f k⟩⟩
structure RelC (K : PySem.W.Frag) (mg : Str → Option Value) (F : Addr → Prop) (c : List Addr) (st : Sto) (H : Hp) : Prop where
  trk : ∀ a, F a → ∃ o, H a = some o
  len : st.length = c.length
  nd : c.Nodup
  cl : ∀ (n : Nat) (a : Addr) (x : Cell), c[n]? = some a → st[n]? = some x → CellOk K mg F c H a x
  nf : ∀ a ∈ c, ¬ F a
  tab : ∀ p ∈ VEnv.T, TabF F c H p
/-- the cells of a frame that waits; what some of them hold -/
structure GhOk (K : PySem.W.Frag) (mg : Str → Option Value) (F : Addr → Prop) (c : List Addr) (H : Hp) (cells : List (Str × Addr)) (vals : List (Str × D)) : Prop where
  cel : ∀ y a, cells.lookup y = some a → F a ∧ ∃ o v, H a = some (CelO o) ∧ o.data = .cell v
  inj : ∀ x y a, cells.lookup x = some a → cells.lookup y = some a → x = y
  val : ∀ y d, vals.lookup y = some d → ∃ a o u v, cells.lookup y = some a ∧ H a = some (CelO o) ∧ o.data = .cell (some u) ∧ L2.RelV v u ∧ Rp K mg F c H v d
def SlOk (b : Bs) (F : Addr → Prop) (c : List Addr) (H : Hp) (σ : L2.St) (i : Nat) : Sl → Prop
  | .no => True
  | .va d => ∃ v, σ[i]? = some (some v) ∧ Rp b.K b.mg F c H v d
  | .ow d => ∃ a, σ[i]? = some (some (.ref a)) ∧ ¬ F a ∧ a ∉ c ∧ b.H0 a = none ∧ OwnAt b.K b.mg F c H a d
  | .gh cells vals => GhOk b.K b.mg F c H cells vals
def OwnA (env : EnvD) (σ : L2.St) (i : Nat) (a : Addr) : Prop := ∃ d, env[i]? = some (.ow d) ∧ σ[i]? = some (some (.ref a))
theorem CellOk.notTbl {K : PySem.W.Frag} {mg : Str → Option Value} {F : Addr → Prop} {c : List Addr} {H : Hp} {a : Addr} {x : Cell} (h : CellOk K mg F c H a x) : ∀ ps, H a ≠ some (.tbl ps) := by
  intro ps z
  cases x with
  | lst ds => obtain ⟨vs, h, _⟩ := h; rw [z] at h; cases h
  | ins n fs => obtain ⟨_, _, _, _, h, _⟩ := h; rw [z] at h; cases h
  | slo n ds =>
    obtain ⟨C, dx, vs, _, ⟨_, _, h | ⟨_, h⟩⟩, _⟩ := h
    · rw [z] at h; cases h
    · rw [z] at h; cases h
  | dct kvs => obtain ⟨vk, h, _⟩ := h; rw [z] at h; cases h
structure Rel (b : Bs) (F : Addr → Prop) (c : List Addr) (env : EnvD) (st : Sto) (σ : L2.St) (H : Hp) : Prop where
  rc : RelC b.K b.mg F c st H
  len : env.length = σ.length
  sl : ∀ (i : Nat) (s : Sl), env[i]? = some s → SlOk b F c H σ i s
  ds : ∀ i j a, OwnA env σ i a → OwnA env σ j a → i = j
  old : ∀ a o, b.H0 a = some o → a ∉ c → Kept H a o
  new : ∀ a, F a → b.F0 a ∨ b.H0 a = none
  nwc : ∀ a ∈ c, a ∈ b.c0 ∨ b.H0 a = none
  f0 : ∀ a, b.F0 a → ∃ o, b.H0 a = some o
  k0 : ∀ a ∈ b.c0, ∃ o, b.H0 a = some o
end

section
variable [VEnv]
variable {K : PySem.W.Frag} {mg : Str → Option Value} {b : Bs} {F F' F2 : Addr → Prop} {c c' c2 : List Addr} {H H' H2 : Hp} {env : EnvD} {st : Sto} {σ : L2.St}
theorem RelC.ctrk (r : RelC K mg F c st H) {a : Addr} (h : a ∈ c) : ∃ o, H a = some o := by
  obtain ⟨n, hn⟩ := List.getElem?_of_mem h
  have hl : n < st.length := by rw [r.len]; exact (List.getElem?_eq_some_iff.mp hn).1
  have hc := r.cl n a _ hn (List.getElem?_eq_getElem hl)
  obtain ⟨o, h, _⟩ := hc.notOwn
  exact ⟨o, h⟩
/-- a slotted instance's cell, where neither it nor its dict changed -/
theorem slAt_keep {a C dx : Addr} {vs : List (Option V)} (h : L2.SlAt H a C dx vs) (h1 : H' a = H a) (h2 : ∀ d x, H d = some (.own x) → H' d = some (.own x)) : L2.SlAt H' a C dx vs := ⟨h2 _ _ h.1, h.2.1, by rw [h1]; exact h.2.2⟩
theorem Rel.own (r : Rel b F c env st σ H) {i : Nat} {a : Addr} (h : OwnA env σ i a) : ¬ F a ∧ a ∉ c ∧ b.H0 a = none ∧ ∃ o, H a = some o := by
  obtain ⟨d, he, hs⟩ := h
  obtain ⟨a', e', h1, h2, h3, h4⟩ := r.sl i _ he
  rw [hs] at e'; cases e'
  refine ⟨h1, h2, h3, ?_⟩
  cases d with
  | lst ds => obtain ⟨vs, h, _⟩ := h4; exact ⟨_, h⟩
  | _ => exact h4.elim
/-- an exception's form -/
def RpX (K : PySem.W.Frag) (mg : Str → Option Value) (F : Addr → Prop) (c : List Addr) (H : Hp) (cls : Value) (d : Option Addr) (x : Exn) : Prop :=
  mg x.cls = some cls ∧ (x.fs = [] ∨ ∃ d' vfs, d = some d' ∧ F d' ∧ H d' = some (.xd vfs) ∧ vfs.map (·.1) = x.fs.map (·.1) ∧ Rps K mg F c H (vfs.map (·.2)) (x.fs.map (·.2)))

/-- what is wanted behind a run that gives r -/
def Post {α : Type} (b : Bs) (W : WX) (F : Addr → Prop) (c : List Addr) (σ : L2.St) (H : Hp) (P : α → EnvD → Sto → (Addr → Prop) → List Addr → Hp → Prop) : R α → Prop
  | .ok x env st => ∀ F' c' H', Stp F c H F' c' H' → Rel b F' c' env st σ H' → P x env st F' c' H'
  | .ex x env st => ∀ F' c' H' cls d, Stp F c H F' c' H' → Rel b F' c' env st σ H' → RpX b.K b.mg F' c' H' cls d x → W cls d σ H'
  | .bad => False
theorem Post.mono {α : Type} {W : WX} {P P' : α → EnvD → Sto → (Addr → Prop) → List Addr → Hp → Prop} {r : R α} (h : Post b W F c σ H P r)
    (k : ∀ x env st F' c' H', Stp F c H F' c' H' → Rel b F' c' env st σ H' → P x env st F' c' H' → P' x env st F' c' H') : Post b W F c σ H P' r := by
  cases r with
  | ok x env st => exact fun F' c' H' s r => k _ _ _ _ _ _ s r (h F' c' H' s r)
  | ex x env st => exact h
  | bad => exact h
theorem Post.stp {α : Type} {W : WX} {P : α → EnvD → Sto → (Addr → Prop) → List Addr → Hp → Prop} {r : R α} (s : Stp F c H F' c' H') (h : Post b W F c σ H P r) : Post b W F' c' σ H' P r := by
  cases r with
  | ok x env st => exact fun F2 c2 H2 t r => h F2 c2 H2 (s.trans t) r
  | ex x env st => exact fun F2 c2 H2 cls d t r => h F2 c2 H2 cls d (s.trans t) r
  | bad => exact h
theorem Post.bind {α β : Type} {W : WX} {P : β → EnvD → Sto → (Addr → Prop) → List Addr → Hp → Prop} {r : R α} {k : α → M β} (h : Post b W F c σ H P (r.bind k)) :
    Post b W F c σ H (fun x env st F1 c1 H1 => Post b W F1 c1 σ H1 P (k x env st)) r := by
  cases r with
  | ok x env st => exact fun F' c' H' s r => Post.stp s h
  | ex x env st => exact h
  | bad => exact h
/-- at once -/
theorem Post.here {α : Type} {W : WX} {P : α → EnvD → Sto → (Addr → Prop) → List Addr → Hp → Prop} {x : α} (r : Rel b F c env st σ H) (h : Post b W F c σ H P (.ok x env st)) : P x env st F c H := h F c H .refl r
end

section
variable [VEnv]
variable {X : Cx} {W : WX}
/-- the state that the data tell -/
def At (X : Cx) (W : WX) {α : Type} (f : M α) (σ : L2.St) (H : Hp) (P : Bs → α → EnvD → Sto → (Addr → Prop) → List Addr → Hp → Prop) : Prop :=
  ∃ b F c env st, b.K = X.K ∧ b.mg = X.mg ∧ Rel b F c env st σ H ∧ Post b W F c σ H (P b) (f env st)
def tE (X : Cx) (W : WX) (f : M D) : TE := fun σ H Q => At X W f σ H fun b d _ _ F c H' => ∀ v, Rp b.K b.mg F c H' v d → Q v H'
def tT (X : Cx) (W : WX) (f : M Bool) : TT := fun σ H Q => At X W f σ H fun _ t _ _ _ _ H' => Q t H'
def tA (X : Cx) (W : WX) (f : M (List D)) : TA := fun σ H Q => At X W f σ H fun b ds _ _ F c H' => ∀ vs, Rps b.K b.mg F c H' vs ds → Q vs H'
/-- the value is new and held by none -/
def tF (X : Cx) (W : WX) (f : M D) : TE := fun σ H Q => At X W f σ H fun b d env _ F c H' => ∀ a, ¬ F a → a ∉ c → b.H0 a = none → (∀ i, ¬ OwnA env σ i a) → OwnAt b.K b.mg F c H' a d → Q (.ref a) H'
@[reducible] def VE (X : Cx) (W : WX) (e : Expr) (f : M D) : Prop := PE X e (tE X W f)
@[reducible] def VF (X : Cx) (W : WX) (e : Expr) (f : M D) : Prop := PE X e (tF X W f)
@[reducible] def VT (X : Cx) (W : WX) (e : Expr) (f : M Bool) : Prop := PT X e (tT X W f)
@[reducible] def VA (X : Cx) (W : WX) (es : List Expr) (f : M (List D)) : Prop := PA X es (tA X W f)
end
end VE

namespace VE
open PySem PySem.Spec PyProof.Rows L2
variable [VEnv]
section
variable {X : Cx} {W : WX} {b : Bs} {F : Addr → Prop} {c : List Addr} {env : EnvD} {st : Sto} {σ : L2.St} {H : Hp}
theorem PEof {e : Expr} {t t' : TE} (h : PE X e t) (k : ∀ σ H Q, t' σ H Q → t σ H Q) : PE X e t' := ⟨fun pins s σ H Q I q => h.run pins s σ H Q I (k σ H Q q)⟩
theorem PTof {e : Expr} {t t' : TT} (h : PT X e t) (k : ∀ σ H Q, t' σ H Q → t σ H Q) : PT X e t' := ⟨fun pins s σ H Q I q => h.run pins s σ H Q I (k σ H Q q)⟩
theorem PWof {e : Expr} {t t' : TT} (h : PW X e t) (k : ∀ σ H Q, t' σ H Q → t σ H Q) : PW X e t' := ⟨fun wh pins s σ H Q I q => h.run wh pins s σ H Q I (k σ H Q q)⟩
theorem PAof {e : List Expr} {t t' : TA} (h : PA X e t) (k : ∀ σ H Q, t' σ H Q → t σ H Q) : PA X e t' := ⟨fun pos pins s σ H Q I q => h.run pos pins s σ H Q I (k σ H Q q)⟩
theorem PSof {e : Stmt} {t t' : TS} (h : PS X e t) (k : ∀ D σ H, t' D σ H → t D σ H) : PS X e t' := ⟨fun pins s σ H D I q => h.run pins s σ H D I (k D σ H q)⟩
theorem PSsof {e : List Stmt} {t t' : TS} (h : PSs X e t) (k : ∀ D σ H, t' D σ H → t D σ H) : PSs X e t' := ⟨fun pins s σ H D I q => h.run pins s σ H D I (k D σ H q)⟩

/-! ### from a run of data to a reading -/
section
variable {α β : Type} {P : β → EnvD → Sto → (Addr → Prop) → List Addr → Hp → Prop}
theorem tE_at {f : M D} {k : D → M β} {Q : VK} (e1 : b.K = X.K) (e2 : b.mg = X.mg) (r : Rel b F c env st σ H) (p : Post b W F c σ H P ((f env st).bind k))
    (hq : ∀ v d env' st' F' c' H', Stp F c H F' c' H' → Rel b F' c' env' st' σ H' → Rp b.K b.mg F' c' H' v d → Post b W F' c' σ H' P (k d env' st') → Q v H') : tE X W f σ H Q :=
  ⟨b, F, c, env, st, e1, e2, r, (Post.bind p).mono fun d env' st' F' c' H' s r' q v rp => hq v d env' st' F' c' H' s r' rp q⟩
theorem tT_at {f : M Bool} {k : Bool → M β} {Q : Bool → Hp → Prop} (e1 : b.K = X.K) (e2 : b.mg = X.mg) (r : Rel b F c env st σ H) (p : Post b W F c σ H P ((f env st).bind k))
    (hq : ∀ t env' st' F' c' H', Stp F c H F' c' H' → Rel b F' c' env' st' σ H' → Post b W F' c' σ H' P (k t env' st') → Q t H') : tT X W f σ H Q :=
  ⟨b, F, c, env, st, e1, e2, r, (Post.bind p).mono fun t env' st' F' c' H' s r' q => hq t env' st' F' c' H' s r' q⟩
theorem tA_at {f : M (List D)} {k : List D → M β} {Q : List V → Hp → Prop} (e1 : b.K = X.K) (e2 : b.mg = X.mg) (r : Rel b F c env st σ H) (p : Post b W F c σ H P ((f env st).bind k))
    (hq : ∀ vs ds env' st' F' c' H', Stp F c H F' c' H' → Rel b F' c' env' st' σ H' → Rps b.K b.mg F' c' H' vs ds → Post b W F' c' σ H' P (k ds env' st') → Q vs H') : tA X W f σ H Q :=
  ⟨b, F, c, env, st, e1, e2, r, (Post.bind p).mono fun ds env' st' F' c' H' s r' q v rp => hq v ds env' st' F' c' H' s r' rp q⟩
theorem tF_at {f : M D} {k : D → M β} {Q : VK} (e1 : b.K = X.K) (e2 : b.mg = X.mg) (r : Rel b F c env st σ H) (p : Post b W F c σ H P ((f env st).bind k))
    (hq : ∀ a d env' st' F' c' H', Stp F c H F' c' H' → Rel b F' c' env' st' σ H' → ¬ F' a → a ∉ c' → b.H0 a = none → (∀ i, ¬ OwnA env' σ i a) → OwnAt b.K b.mg F' c' H' a d → Post b W F' c' σ H' P (k d env' st') → Q (.ref a) H') : tF X W f σ H Q :=
  ⟨b, F, c, env, st, e1, e2, r, (Post.bind p).mono fun d env' st' F' c' H' s r' q a h1 h2 h3 h4 h5 => hq a d env' st' F' c' H' s r' h1 h2 h3 h4 h5 q⟩
end

/-! ### changes of the state -/
@[reducible] def FAdd (F : Addr → Prop) (p : Addr) : Addr → Prop := fun a => F a ∨ a = p
theorem RelC.stp {K : PySem.W.Frag} {mg : Str → Option Value} {F' : Addr → Prop} {H' : Hp} (r : RelC K mg F c st H) (s : Stp F c H F' c H') (h1 : ∀ a, F' a → ∃ o, H' a = some o) (h2 : ∀ a ∈ c, H' a = H a) (h3 : ∀ a ∈ c, ¬ F' a) (h4 : ∀ d x, H d = some (.own x) → H' d = some (.own x))
    (h5 : ∀ d ps, H d = some (.tbl ps) → H' d = some (.tbl ps)) (h6 : ∀ d ps, H d = some (.tbl ps) → F' d → F d) : RelC K mg F' c st H' := by
  refine ⟨h1, r.len, r.nd, fun n a x hn hx => ?_, h3, fun p hp => ?_⟩
  rotate_left
  · obtain ⟨t1, t2, ps, t3, t4, t5⟩ := r.tab p hp
    exact ⟨fun h => t1 (h6 _ _ t3 h), t2, ps, h5 _ _ t3, t4, fun pos cv h => by obtain ⟨c', e, f, k⟩ := t5 pos cv h; exact ⟨c', e, s.inc _ f, s.keep _ _ f k⟩⟩
  have hm : a ∈ c := List.mem_of_getElem? hn
  have q := r.cl n a x hn hx
  cases x with
  | lst ds => obtain ⟨vs, e, p⟩ := q; exact ⟨vs, by rw [h2 a hm]; exact e, p.stp s⟩
  | ins m fs => obtain ⟨C, dx, vfs, e1, e2, e3, p⟩ := q; exact ⟨C, dx, vfs, e1, by rw [h2 a hm]; exact e2, e3, p.stp s⟩
  | slo m ds => obtain ⟨C, dx, vs, e1, e2, p⟩ := q; exact ⟨C, dx, vs, e1, slAt_keep e2 (h2 a hm) h4, p.stp s⟩
  | dct kvs => obtain ⟨vk, e, e2, p⟩ := q; exact ⟨vk, by rw [h2 a hm]; exact e, e2, p.stp s⟩
theorem OwnAt.stp {K : PySem.W.Frag} {mg : Str → Option Value} {F' : Addr → Prop} {c' : List Addr} {H' : Hp} {a : Addr} {d : D} (s : Stp F c H F' c' H') (h : H' a = H a) (o : OwnAt K mg F c H a d) : OwnAt K mg F' c' H' a d := by
  cases d with
  | lst ds => obtain ⟨vs, e, p⟩ := o; exact ⟨vs, by rw [h]; exact e, p.stp s⟩
  | _ => exact o.elim
theorem GhOk.stp {K : PySem.W.Frag} {mg : Str → Option Value} {F' : Addr → Prop} {c' : List Addr} {H' : Hp} {cells : List (Str × Addr)} {vals : List (Str × D)} (g : GhOk K mg F c H cells vals) (s : Stp F c H F' c' H') : GhOk K mg F' c' H' cells vals :=
  ⟨fun y a e => by obtain ⟨f, o, v, h, k⟩ := g.cel y a e; exact ⟨s.inc _ f, o, v, s.keep _ _ f h, k⟩, g.inj, fun y d e => by
    obtain ⟨a, o, u, v, h1, h2, h3, h4, h5⟩ := g.val y d e
    exact ⟨a, o, u, v, h1, s.keep _ _ (g.cel y a h1).1 h2, h3, h4, h5.stp s⟩⟩
theorem Rel.H0none (r : Rel b F c env st σ H) {p : Addr} (hp : H p = none) : b.H0 p = none := by
  cases e : b.H0 p with
  | none => rfl
  | some o =>
    by_cases hc : p ∈ c
    · obtain ⟨o', e'⟩ := r.rc.ctrk hc
      rw [hp] at e'; cases e'
    · obtain ⟨o', q⟩ := (r.old p o e hc).there
      rw [hp] at q; cases q
/-- heap and frozen set grow; the slots, the changeable objects stay -/
theorem Rel.grow {F' : Addr → Prop} {H' : Hp} (r : Rel b F c env st σ H) (s : Stp F c H F' c H') (hk : ∀ a o, H a = some o → H' a = some o) (h1 : ∀ a, F' a → ∃ o, H' a = some o) (h2 : ∀ a, F' a → F a ∨ (b.H0 a = none ∧ a ∉ c ∧ (∀ i, ¬ OwnA env σ i a) ∧ ∀ ps, H a ≠ some (.tbl ps))) : Rel b F' c env st σ H' := by
  have hcs : ∀ a ∈ c, H' a = H a := fun a ha => by
    obtain ⟨o, e⟩ := r.rc.ctrk ha
    rw [e]; exact hk a o e
  refine ⟨r.rc.stp s h1 hcs (fun a ha hf => ?_) (fun d x e => hk d _ e) (fun d x e => hk d _ e) (fun d ps e hf => (h2 d hf).elim id fun z => absurd e (z.2.2.2 ps)), r.len, fun i sl he => ?_, r.ds, fun a o e hc => (r.old a o e hc).up fun o h => .inl (hk a o h), fun a hf => ?_, r.nwc, r.f0, r.k0⟩
  · rcases h2 a hf with h | h
    · exact r.rc.nf a ha h
    · exact h.2.1 ha
  · have q := r.sl i sl he
    cases sl with
    | no => trivial
    | va d => obtain ⟨v, e, p⟩ := q; exact ⟨v, e, p.stp s⟩
    | gh cells vals => exact GhOk.stp q s
    | ow d =>
      obtain ⟨a, e, p1, p2, p3, p4⟩ := q
      refine ⟨a, e, fun hf => ?_, p2, p3, p4.stp s ?_⟩
      · rcases h2 a hf with h | h
        · exact p1 h
        · exact h.2.2.1 i ⟨d, he, e⟩
      · obtain ⟨_, _, _, o, e⟩ := r.own (i := i) ⟨d, he, e⟩
        rw [e]; exact hk a o e
  · rcases h2 a hf with h | h
    · exact r.new a h
    · exact .inr h.1
theorem own_new {H : Hp} {p : Addr} (hp : H p = none) {o : HO} : ∀ d x, H d = some (.own x) → upd H p o d = some (.own x) := fun d x e => by rw [upd_ne (ne_of_none e hp)]; exact e
theorem own_upd {H : Hp} {p : Addr} (no : ∀ x, H p ≠ some (.own x)) {o : HO} : ∀ d x, H d = some (.own x) → upd H p o d = some (.own x) := fun d x e => by rw [upd_ne (fun z : d = p => no x (z ▸ e))]; exact e
theorem stp_add {p : Addr} (hp : ¬ F p) (hn : H p = none) {o : HO} : Stp F c H (FAdd F p) c (upd H p o) := ⟨fun _ h => .inl h, fun a o f h => by
  rw [upd_ne (fun e : a = p => hp (e ▸ f))]; exact h, ⟨[], (List.append_nil c).symm⟩, own_new hn⟩
theorem Rel.nF (r : Rel b F c env st σ H) {p : Addr} (hp : H p = none) : ¬ F p := fun hf => by
  obtain ⟨o, e⟩ := r.rc.trk p hf
  rw [hp] at e; cases e
theorem Rel.nO (r : Rel b F c env st σ H) {p : Addr} (hp : H p = none) (i : Nat) : ¬ OwnA env σ i p := fun hf => by
  obtain ⟨_, _, _, o, e⟩ := r.own hf
  rw [hp] at e; cases e
theorem Rel.nC (r : Rel b F c env st σ H) {p : Addr} (hp : H p = none) : p ∉ c := fun hf => by
  obtain ⟨o, e⟩ := r.rc.ctrk hf
  rw [hp] at e; cases e
/-- a new object, frozen at once -/
theorem Rel.newF (r : Rel b F c env st σ H) {p : Addr} (hp : H p = none) (o : HO) : Stp F c H (FAdd F p) c (upd H p o) ∧ Rel b (FAdd F p) c env st σ (upd H p o) := by
  have s : Stp F c H (FAdd F p) c (upd H p o) := stp_add (r.nF hp) hp
  refine ⟨s, r.grow s (fun a x e => ?_) (fun a hf => ?_) (fun a hf => ?_)⟩
  · rw [upd_ne (ne_of_none e hp)]; exact e
  · rcases hf with hf | rfl
    · obtain ⟨x, e⟩ := r.rc.trk a hf
      exact ⟨x, s.keep a x hf e⟩
    · exact ⟨o, upd_same⟩
  · rcases hf with hf | rfl
    · exact .inl hf
    · exact .inr ⟨r.H0none hp, r.nC hp, r.nO hp, fun ps e => by rw [hp] at e; cases e⟩
/-- a new object, not frozen -/
theorem Rel.newO (r : Rel b F c env st σ H) {p : Addr} (hp : H p = none) (o : HO) : Stp F c H F c (upd H p o) ∧ Rel b F c env st σ (upd H p o) := by
  have hk : ∀ a x, H a = some x → upd H p o a = some x := fun a x e => by rw [upd_ne (ne_of_none e hp)]; exact e
  have s : Stp F c H F c (upd H p o) := ⟨fun _ h => h, fun a x _ e => hk a x e, ⟨[], (List.append_nil c).symm⟩, own_new hp⟩
  exact ⟨s, r.grow s hk (fun a hf => by obtain ⟨x, e⟩ := r.rc.trk a hf; exact ⟨x, hk a x e⟩) fun a hf => .inl hf⟩
/-- what none holds is frozen -/
theorem Rel.frz (r : Rel b F c env st σ H) {a : Addr} (h2 : a ∉ c) (h3 : b.H0 a = none) (h4 : ∀ i, ¬ OwnA env σ i a) (h5 : ∃ o, H a = some o) (h6 : ∀ ps, H a ≠ some (.tbl ps)) : Stp F c H (FAdd F a) c H ∧ Rel b (FAdd F a) c env st σ H := by
  have s : Stp F c H (FAdd F a) c H := ⟨fun _ h => .inl h, fun _ _ _ h => h, ⟨[], (List.append_nil c).symm⟩, fun _ _ h => h⟩
  refine ⟨s, r.grow s (fun _ _ e => e) (fun x hf => ?_) fun x hf => ?_⟩
  · rcases hf with hf | rfl
    · exact r.rc.trk x hf
    · exact h5
  · rcases hf with hf | rfl
    · exact .inl hf
    · exact .inr ⟨h3, h2, h4, h6⟩
theorem OwnAt.rp {K : PySem.W.Frag} {mg : Str → Option Value} {a : Addr} {d : D} (o : OwnAt K mg F c H a d) : Rp K mg (FAdd F a) c H (.ref a) d := by
  cases d with
  | lst ds =>
    obtain ⟨vs, e, p⟩ := o
    have s : Stp F c H (FAdd F a) c H := ⟨fun _ h => .inl h, fun _ _ _ h => h, ⟨[], (List.append_nil c).symm⟩, fun _ _ h => h⟩
    exact .lst (.inr rfl) e (p.stp s)
  | _ => exact o.elim
theorem OwnAt.trk {K : PySem.W.Frag} {mg : Str → Option Value} {a : Addr} {d : D} (o : OwnAt K mg F c H a d) : ∃ x, H a = some x := by
  cases d with
  | lst ds => obtain ⟨vs, e, p⟩ := o; exact ⟨_, e⟩
  | _ => exact o.elim
theorem OwnAt.ntbl {K : PySem.W.Frag} {mg : Str → Option Value} {a : Addr} {d : D} (o : OwnAt K mg F c H a d) : ∀ ps, H a ≠ some (.tbl ps) := by
  cases d with
  | lst ds => obtain ⟨vs, e, p⟩ := o; intro ps z; rw [e] at z; cases z
  | _ => exact o.elim
/-- a fresh value is a value -/
theorem VF.ve {e : Expr} {f : M D} (h : VF X W e f) : VE X W e f := PEof h fun σ H Q ⟨b, F, c, env, st, e1, e2, r, p⟩ => ⟨b, F, c, env, st, e1, e2, r, by
  generalize f env st = y at p
  cases y with
  | ok d env' st' =>
    intro F' c' H' s r' a h1 h2 h3 h4 h5
    obtain ⟨s2, r2⟩ := r'.frz h2 h3 h4 h5.trk h5.ntbl
    exact p _ c' H' (s.trans s2) r2 _ h5.rp
  | ex x env' st' => exact p
  | bad => exact p⟩

/-! ### slots -/
theorem ownA_set {i j : Nat} {x : Sl} {a : Addr} (h : OwnA (env.set i x) σ j a) (hx : ∀ d, x ≠ .ow d) : OwnA env σ j a := by
  obtain ⟨d, e, e'⟩ := h
  by_cases q : i = j
  · subst q
    by_cases hl : i < env.length
    · rw [List.getElem?_set_self hl] at e; cases e; exact absurd rfl (hx d)
    · rw [List.getElem?_eq_none (by simpa using hl)] at e; cases e
  · rw [List.getElem?_set_ne q] at e; exact ⟨d, e, e'⟩
/-- a slot is forgotten -/
theorem Rel.forget (r : Rel b F c env st σ H) (i : Nat) : Rel b F c (env.set i .no) st σ H := by
  refine ⟨r.rc, by rw [List.length_set]; exact r.len, fun j s e => ?_, fun j k a h h' => r.ds j k a (ownA_set h fun _ => nofun) (ownA_set h' fun _ => nofun), r.old, r.new, r.nwc, r.f0, r.k0⟩
  by_cases q : i = j
  · subst q
    by_cases hl : i < env.length
    · rw [List.getElem?_set_self hl] at e; cases e; trivial
    · rw [List.getElem?_eq_none (by simpa using hl)] at e; cases e
  · rw [List.getElem?_set_ne q] at e; exact r.sl j s e
/-- a name's value is stored -/
theorem Rel.put (r : Rel b F c env st σ H) {i : Nat} {v : V} {d : D} (h : Rp b.K b.mg F c H v d) : Rel b F c (env.set i (.va d)) st (σ.set i (some v)) H := by
  have own : ∀ {j a}, OwnA (env.set i (.va d)) (σ.set i (some v)) j a → OwnA env σ j a := fun {j a} h => by
    obtain ⟨d', e, e'⟩ := h
    by_cases q : i = j
    · subst q
      by_cases hl : i < env.length
      · rw [List.getElem?_set_self hl] at e; cases e
      · rw [List.getElem?_eq_none (by simpa using hl)] at e; cases e
    · rw [List.getElem?_set_ne q] at e e'; exact ⟨d', e, e'⟩
  refine ⟨r.rc, by rw [List.length_set, List.length_set]; exact r.len, fun j s e => ?_, fun j k a h h' => r.ds j k a (own h) (own h'), r.old, r.new, r.nwc, r.f0, r.k0⟩
  by_cases q : i = j
  · subst q
    by_cases hl : i < env.length
    · rw [List.getElem?_set_self hl] at e; cases e
      exact ⟨v, List.getElem?_set_self (by rw [← r.len]; exact hl), h⟩
    · rw [List.getElem?_eq_none (by simpa using hl)] at e; cases e
  · rw [List.getElem?_set_ne q] at e
    have z := r.sl j s e
    cases s with
    | no => trivial
    | va d' => obtain ⟨v', e', p⟩ := z; exact ⟨v', by rw [List.getElem?_set_ne q]; exact e', p⟩
    | ow d' => obtain ⟨a, e', p⟩ := z; exact ⟨a, by rw [List.getElem?_set_ne q]; exact e', p⟩
    | gh cells vals => exact z
/-- a name takes what none holds -/
theorem Rel.take (r : Rel b F c env st σ H) {i : Nat} {a : Addr} {d : D} (h1 : ¬ F a) (h2 : a ∉ c) (h3 : b.H0 a = none) (h4 : ∀ i, ¬ OwnA env σ i a) (h5 : OwnAt b.K b.mg F c H a d) : Rel b F c (env.set i (.ow d)) st (σ.set i (some (.ref a))) H := by
  have own : ∀ {j a'}, OwnA (env.set i (.ow d)) (σ.set i (some (.ref a))) j a' → (j = i ∧ a' = a) ∨ OwnA env σ j a' := fun {j a'} h => by
    obtain ⟨d', e, e'⟩ := h
    by_cases q : i = j
    · subst q
      by_cases hl : i < σ.length
      · rw [List.getElem?_set_self hl] at e'; cases e'; exact .inl ⟨rfl, rfl⟩
      · rw [List.getElem?_eq_none (by simpa using hl)] at e'; cases e'
    · rw [List.getElem?_set_ne q] at e e'; exact .inr ⟨d', e, e'⟩
  refine ⟨r.rc, by rw [List.length_set, List.length_set]; exact r.len, fun j s e => ?_, fun j k a' h h' => ?_, r.old, r.new, r.nwc, r.f0, r.k0⟩
  · by_cases q : i = j
    · subst q
      by_cases hl : i < env.length
      · rw [List.getElem?_set_self hl] at e; cases e
        exact ⟨a, List.getElem?_set_self (by rw [← r.len]; exact hl), h1, h2, h3, h5⟩
      · rw [List.getElem?_eq_none (by simpa using hl)] at e; cases e
    · rw [List.getElem?_set_ne q] at e
      have z := r.sl j s e
      cases s with
      | no => trivial
      | va d' => obtain ⟨v', e', p⟩ := z; exact ⟨v', by rw [List.getElem?_set_ne q]; exact e', p⟩
      | ow d' => obtain ⟨a', e', p⟩ := z; exact ⟨a', by rw [List.getElem?_set_ne q]; exact e', p⟩
      | gh cells vals => exact z
  · rcases own h with ⟨rfl, rfl⟩ | g <;> rcases own h' with ⟨e1, e2⟩ | g'
    · exact e1.symm
    · exact absurd g' (h4 k)
    · subst e1 e2; exact absurd g (h4 j)
    · exact r.ds j k a' g g'
/-- what a slot alone held is frozen: the slot keeps it as a value -/
theorem Rel.freeze (r : Rel b F c env st σ H) {i : Nat} {d : D} (e : env[i]? = some (.ow d)) : ∃ a, σ[i]? = some (some (.ref a)) ∧ Stp F c H (FAdd F a) c H ∧ Rel b (FAdd F a) c (env.set i (.va d)) st σ H ∧ Rp b.K b.mg (FAdd F a) c H (.ref a) d := by
  obtain ⟨a, e', h1, h2, h3, h5⟩ := r.sl i _ e
  have hσ : i < σ.length := (List.getElem?_eq_some_iff.mp e').1
  have r1 := r.forget i
  have no : ∀ j, ¬ OwnA (env.set i .no) σ j a := fun j h => by
    have g := ownA_set h fun _ => nofun
    have ej : j = i := r.ds j i a g ⟨d, e, e'⟩
    subst ej
    obtain ⟨d', e2, _⟩ := h
    rw [List.getElem?_set_self (by rw [r.len]; exact hσ)] at e2; cases e2
  obtain ⟨s, r2⟩ := r1.frz h2 h3 no h5.trk h5.ntbl
  have rp := h5.rp
  have r3 := r2.put (i := i) rp
  have es : σ.set i (some (.ref a)) = σ := by
    apply List.ext_getElem?
    intro j
    by_cases q : i = j
    · subst q; rw [List.getElem?_set_self hσ, e']
    · rw [List.getElem?_set_ne q]
  rw [es, List.set_set] at r3
  exact ⟨a, e', s, r3, rp⟩

/-! ### names and constants -/
def eVar (i : Nat) : M D := fun env st => match env[i]? with
  | some (.va d) => .ok d env st
  | some (.ow d) => .ok d (env.set i (.va d)) st
  | _ => .bad
def eC (d : D) : M D := fun env st => .ok d env st
theorem ve_name (i : Nat) {x : Str} {pos : Pos} (hN : X.N[i]? = some x := by rfl) (hv : Vis X.env.scope x := by first | exact Or.inl rfl | exact Or.inr (Or.inl rfl) | exact Or.inr (Or.inr rfl)) (hd : (x == ("__debug__" : Str)) = false := by decide)
    (hcd : (x == ("__classdict__" : Str)) = false := by decide) : VE X W (.Name x pos) (eVar i) := PEof (pe_var hN hv hd hcd) fun σ H Q ⟨b, F, c, env, st, e1, e2, r, p⟩ => by
  unfold eVar at p
  split at p
  · rename_i d e
    obtain ⟨v, ev, rp⟩ := r.sl i _ e
    exact ⟨v, ev, Post.here r p v rp⟩
  · rename_i d e
    obtain ⟨a, ea, s, r2, rp⟩ := r.freeze e
    exact ⟨_, ea, p _ c H s r2 _ rp⟩
  · exact p.elim
theorem ve_c {e : Expr} {v : V} {d : D} (h : PE X e (tC v)) (k : ∀ F c H, Rp X.K X.mg F c H v d) : VE X W e (eC d) := PEof h fun σ H Q ⟨b, F, c, env, st, e1, e2, r, p⟩ => Post.here r p v (by rw [e1, e2]; exact k F c H)
theorem ve_int {i : Int} {j : Nat} {pos : Pos} : VE X W (.Constant (.int i) j pos) (eC (.int i)) := ve_c pe_int fun _ _ _ => .int i
theorem ve_bl {i : Bool} {j : Nat} {pos : Pos} : VE X W (.Constant (.bool i) j pos) (eC (.bl i)) := ve_c pe_bl fun _ _ _ => .bl i
theorem ve_non {j : Nat} {pos : Pos} : VE X W (.Constant .none j pos) (eC .non) := ve_c pe_non fun _ _ _ => .non
theorem ve_str {i : Str} {j : Nat} {pos : Pos} : VE X W (.Constant (.str i) j pos) (eC (.str i)) := ve_c pe_str fun _ _ _ => .str i
end
end VE

namespace VE
open PySem PySem.Spec PyProof.Rows L2
variable [VEnv]
/-! ### data as the library's own data -/
mutual
def toPy : D → PyData
  | .non => .none
  | .bl b => .bool b
  | .int i => .int i
  | .str x => .str x
  | .lst xs => .list (toPys xs)
  | .tup xs => .tuple (toPys xs)
  | _ => .none
def toPys : List D → List PyData
  | [] => []
  | x :: xs => toPy x :: toPys xs
end
mutual
/-- data of none, bools, ints, texts, lists, tuples, at most n deep -/
def plain : Nat → D → Bool
  | _, .non => true
  | _, .bl _ => true
  | _, .int _ => true
  | _, .str x => PyData.strOk x
  | n + 1, .lst xs => plains n xs
  | n + 1, .tup xs => plains n xs
  | _, _ => false
def plains : Nat → List D → Bool
  | _, [] => true
  | n, x :: xs => plain n x && plains n xs
end
/-- equality, as == has it -/
def eqD (x y : D) : Bool := PyData.eqv (toPy x) (toPy y)
def eqDs (x y : List D) : Bool := PyData.eqvAll (toPys x) (toPys y)
mutual
theorem canLay_of : ∀ (n : Nat) (d : D), plain n d = true → PyData.canLay0 (toPy d) = true
  | _, .non, _ => by simp only [toPy, PyData.canLay0]
  | _, .bl _, _ => by simp only [toPy, PyData.canLay0]
  | _, .int _, _ => by simp only [toPy, PyData.canLay0]
  | _, .str x, h => by simpa [toPy, PyData.canLay0, plain] using h
  | n + 1, .lst xs, h => by simp only [toPy, PyData.canLay0]; exact canLays_of n xs (by simpa [plain] using h)
  | n + 1, .tup xs, h => by simp only [toPy, PyData.canLay0]; exact canLays_of n xs (by simpa [plain] using h)
  | 0, .lst xs, h => by simp [plain] at h
  | 0, .tup xs, h => by simp [plain] at h
  | 0, .scr xs, h => by simp [plain] at h
  | 0, .ino _ _ xs, h => by simp [plain] at h
  | 0, .obj _ xs, h => by simp [plain] at h
  | 0, .ref xs, h => by simp [plain] at h
  | 0, .fn xs, h => by simp [plain] at h
  | _ + 1, .scr xs, h => by simp [plain] at h
  | _ + 1, .ino _ _ xs, h => by simp [plain] at h
  | _ + 1, .obj _ xs, h => by simp [plain] at h
  | _ + 1, .ref xs, h => by simp [plain] at h
  | _ + 1, .fn xs, h => by simp [plain] at h
theorem canLays_of : ∀ (n : Nat) (d : List D), plains n d = true → PyData.canLayAll0 (toPys d) = true
  | _, [], _ => by simp only [toPys, PyData.canLayAll0]
  | n, x :: xs, h => by
    have h' : plain n x = true ∧ plains n xs = true := by simpa [plains] using h
    simp only [toPys, PyData.canLayAll0, canLay_of n x h'.1, canLays_of n xs h'.2, Bool.and_self]
end
mutual
theorem depth_of : ∀ (n : Nat) (d : D), plain n d = true → PyData.depth (toPy d) ≤ n
  | _, .non, _ => by simp [toPy, PyData.depth]
  | _, .bl _, _ => by simp [toPy, PyData.depth]
  | _, .int _, _ => by simp [toPy, PyData.depth]
  | _, .str x, h => by simp [toPy, PyData.depth]
  | n + 1, .lst xs, h => by simp only [toPy, PyData.depth]; have := depths_of n xs (by simpa [plain] using h); omega
  | n + 1, .tup xs, h => by simp only [toPy, PyData.depth]; have := depths_of n xs (by simpa [plain] using h); omega
  | 0, .lst xs, h => by simp [plain] at h
  | 0, .tup xs, h => by simp [plain] at h
  | 0, .scr xs, h => by simp [plain] at h
  | 0, .ino _ _ xs, h => by simp [plain] at h
  | 0, .obj _ xs, h => by simp [plain] at h
  | 0, .ref xs, h => by simp [plain] at h
  | 0, .fn xs, h => by simp [plain] at h
  | _ + 1, .scr xs, h => by simp [plain] at h
  | _ + 1, .ino _ _ xs, h => by simp [plain] at h
  | _ + 1, .obj _ xs, h => by simp [plain] at h
  | _ + 1, .ref xs, h => by simp [plain] at h
  | _ + 1, .fn xs, h => by simp [plain] at h
theorem depths_of : ∀ (n : Nat) (d : List D), plains n d = true → PyData.depthAll (toPys d) ≤ n
  | _, [], _ => by simp [toPys, PyData.depthAll]
  | n, x :: xs, h => by
    have h' : plain n x = true ∧ plains n xs = true := by simpa [plains] using h
    have h1 := depth_of n x h'.1
    have h2 := depths_of n xs h'.2
    simp only [toPys, PyData.depthAll]
    omega
end
theorem shaped_of {n : Nat} {d : D} (hn : n ≤ 64) (h : plain n d = true) : SeqAt.shaped (toPy d) = true := by
  have h1 := depth_of n d h
  show (PyData.canLay0 (toPy d) && decide (PyData.depth (toPy d) ≤ 64)) = true
  rw [Bool.and_eq_true]
  exact ⟨canLay_of n d h, decide_eq_true (by omega)⟩
section
variable {K : PySem.W.Frag} {mg : Str → Option Value} {F : Addr → Prop} {c : List Addr} {H : Hp}
mutual
theorem Rp.dp : ∀ {v : V} {d : D} (n : Nat), Rp K mg F c H v d → plain n d = true → Dp K H v (toPy d)
  | _, _, _, .non, _ => by simp only [toPy]; exact .non
  | _, _, _, .bl b, _ => by simp only [toPy]; exact .bl b
  | _, _, _, .int b, _ => by simp only [toPy]; exact .int b
  | _, _, _, .str b, _ => by simp only [toPy]; exact .str b
  | _, _, n + 1, .lst f h r, p => by simp only [toPy]; exact .lst (SqL.of h) (Rps.dp n r (by simpa [plain] using p))
  | _, _, n + 1, .tup h r, p => by simp only [toPy]; exact .tup h.sq (Rps.dp n r (by simpa [plain] using p))
  | _, _, 0, .lst f h r, p => by simp [plain] at p
  | _, _, 0, .tup h r, p => by simp [plain] at p
  | _, _, 0, .scr _, p => by simp [plain] at p
  | _, _, 0, .obj _ _ _ _, p => by simp [plain] at p
  | _, _, 0, .ino _ _ _ _ _, p => by simp [plain] at p
  | _, _, 0, .ref _, p => by simp [plain] at p
  | _, _, _ + 1, .scr _, p => by simp [plain] at p
  | _, _, _ + 1, .obj _ _ _ _, p => by simp [plain] at p
  | _, _, _ + 1, .ino _ _ _ _ _, p => by simp [plain] at p
  | _, _, _ + 1, .ref _, p => by simp [plain] at p
theorem Rps.dp : ∀ {v : List V} {d : List D} (n : Nat), Rps K mg F c H v d → plains n d = true → DpAll K H v (toPys d)
  | _, _, _, .nil, _ => by simp only [toPys]; exact .nil
  | _, _, n, .cons h r, p => by
    have h' := by simpa [plains] using p
    simp only [toPys]; exact .cons (Rp.dp n h h'.1) (Rps.dp n r h'.2)
end
end

section
variable {X : Cx} {W : WX} {e a d : Expr} {pos : Pos} {fa fb fc : M D}
/-! ### operators -/
def ret (o : Option D) : M D := fun env st => match o with
  | some d => .ok d env st
  | none => .bad
def eBin (g : D → D → M D) (fa fb : M D) : M D := fun env st => (fa env st).bind fun x e s => (fb e s).bind fun y e s => g x y e s
def OpOk (X : Cx) (W : WX) (r : R2) (g : D → D → M D) : Prop := ∀ (b : Bs) (F : Addr → Prop) (c : List Addr) (env : EnvD) (st : Sto) (σ : L2.St) (H : Hp) (x y : V) (dx dy : D) (Q : VK), b.K = X.K → b.mg = X.mg → Rel b F c env st σ H →
  Rp b.K b.mg F c H x dx → Rp b.K b.mg F c H y dy → Post b W F c σ H (fun d _ _ F' c' H' => ∀ v, Rp b.K b.mg F' c' H' v d → Q v H') (g dx dy env st) → r x y H Q
theorem tOp_of {r : R2} {g : D → D → M D} (hg : OpOk X W r g) : ∀ σ H Q, tE X W (eBin g fa fb) σ H Q → tOp r (tE X W fa) (tE X W fb) σ H Q := fun σ H Q ⟨b, F, c, env, st, e1, e2, r0, p⟩ =>
  tE_at e1 e2 r0 p fun v dx env1 st1 F1 c1 H1 s1 r1 rp1 p1 => tE_at e1 e2 r1 p1 fun u dy env2 st2 F2 c2 H2 s2 r2 rp2 p2 => hg b F2 c2 env2 st2 σ H2 v u dx dy Q e1 e2 r2 (rp1.stp s2) rp2 p2
theorem ve_op {op : Operator} {r : R2} {g : D → D → M D} (ho : OpR X (binaryOp op) r) (hg : OpOk X W r g) (ha : VE X W e fa) (hb : VE X W a fb) : VE X W (.BinOp e op a pos) (eBin g fa fb) := PEof (pe_op ho ha hb) (tOp_of hg)
/-- a total operator upon scalars -/
def sc2 (g : D → D → Option D) : D → D → M D := fun x y => ret (g x y)
theorem opOk_sc {r : R2} {g : D → D → Option D} (h : ∀ (F : Addr → Prop) (c : List Addr) (H : Hp) (x y : V) (dx dy d : D) (Q : VK), Rp X.K X.mg F c H x dx → Rp X.K X.mg F c H y dy → g dx dy = some d → (∀ v, Rp X.K X.mg F c H v d → Q v H) → r x y H Q) : OpOk X W r (sc2 g) := by
  intro b F c env st σ H x y dx dy Q e1 e2 r0 hx hy p
  unfold sc2 ret at p
  split at p
  · rename_i d e
    rw [e1, e2] at hx hy
    exact h F c H x y dx dy d Q hx hy e fun v hv => Post.here r0 p v (by rw [e1, e2]; exact hv)
  · exact p.elim
def addI : D → D → Option D
  | .int i, .int j => some (.int (i + j))
  | .str i, .str j => if i.length + j.length ≤ sizeLine then some (.str (i ++ j)) else none
  | _, _ => none
def subI : D → D → Option D
  | .int i, .int j => some (.int (i - j))
  | _, _ => none
/-- shut: the kernel would reckon such bounds in unary -/
noncomputable def mulOk (i j : Int) : Bool := @decide ((-(2 ^ 64) < i ∧ i < 2 ^ 64) ∨ (-(2 ^ 64) < j ∧ j < 2 ^ 64)) (Classical.propDecidable _)
omit [VEnv] in
theorem mulOk_iff {i j : Int} : mulOk i j = true ↔ (-(2 ^ 64) < i ∧ i < 2 ^ 64) ∨ (-(2 ^ 64) < j ∧ j < 2 ^ 64) := by unfold mulOk; exact @decide_eq_true_iff _ (Classical.propDecidable _)
noncomputable def mulI : D → D → Option D
  | .int i, .int j => if mulOk i j then some (.int (i * j)) else none
  | _, _ => none
noncomputable def divOk (j : Int) : Bool := @decide (0 < j ∧ j ≤ 10000000000000000000000000000000000000000) (Classical.propDecidable _)
omit [VEnv] in
theorem divOk_iff {j : Int} : divOk j = true ↔ 0 < j ∧ j ≤ 10000000000000000000000000000000000000000 := by unfold divOk; exact @decide_eq_true_iff _ (Classical.propDecidable _)
noncomputable def fdivI : D → D → Option D
  | .int i, .int j => if divOk j then some (.int (i / j)) else none
  | _, _ => none
def modI : D → D → Option D
  | .int i, .int j => if 0 < j then some (.int (i % j)) else none
  | _, _ => none
def powI : D → D → Option D
  | .int i, .int j => if decide (0 ≤ j) && decide (j ≤ 1000) && decide (i.natAbs < 2 ^ 64) then some (.int (i ^ j.toNat)) else none
  | _, _ => none
theorem divOk_w {i j : Int} (h : divOk j = true) : CDivW i j := by
  rw [divOk_iff] at h
  refine wide_div h.1 (b := 134) ?_ (by decide) (by decide)
  have h2 := h.2
  have e : (2 : Nat) ^ 134 = 21778071482940061661655974875633165533184 := by decide +kernel
  rw [e]
  omega
theorem mulOk_w {i j : Int} (h : mulOk i j = true) : CMul i j := by
  exact mulOk_iff.mp h
theorem op_addR : OpR X (binaryOp .Add) (fun x y H Q => (∃ i j, x = .int i ∧ y = .int j ∧ Q (.int (i + j)) H) ∨ (∃ i j, x = .str i ∧ y = .str j ∧ i.length + j.length ≤ sizeLine ∧ Q (.str (i ++ j)) H)) := OpR.or op_add op_add_str
theorem ok_add : OpOk X W (fun x y H Q => (∃ i j, x = .int i ∧ y = .int j ∧ Q (.int (i + j)) H) ∨ (∃ i j, x = .str i ∧ y = .str j ∧ i.length + j.length ≤ sizeLine ∧ Q (.str (i ++ j)) H)) (sc2 addI) := opOk_sc fun F c H x y dx dy d Q hx hy e q => by
  unfold addI at e
  split at e
  · cases hx; cases hy; cases e; exact .inl ⟨_, _, rfl, rfl, q _ (.int _)⟩
  · cases hx; cases hy
    split at e
    · cases e; exact .inr ⟨_, _, rfl, rfl, by assumption, q _ (.str _)⟩
    · cases e
  · cases e
theorem ok_sub : OpOk X W (rI0 fun i j => .int (i - j)) (sc2 subI) := opOk_sc fun F c H x y dx dy d Q hx hy e q => by
  unfold subI at e
  split at e
  · cases hx; cases hy; cases e; exact ⟨_, _, rfl, rfl, q _ (.int _)⟩
  · cases e
theorem ok_mul : OpOk X W (rI CMul fun i j => .int (i * j)) (sc2 mulI) := opOk_sc fun F c H x y dx dy d Q hx hy e q => by
  unfold mulI at e
  split at e
  · cases hx; cases hy
    split at e
    · cases e; exact ⟨_, _, rfl, rfl, mulOk_w (by assumption), q _ (.int _)⟩
    · cases e
  · cases e
theorem ok_fdiv : OpOk X W (rI CDivW fun i j => .int (i / j)) (sc2 fdivI) := opOk_sc fun F c H x y dx dy d Q hx hy e q => by
  unfold fdivI at e
  split at e
  · cases hx; cases hy
    split at e
    · cases e; exact ⟨_, _, rfl, rfl, divOk_w (by assumption), q _ (.int _)⟩
    · cases e
  · cases e
theorem ok_mod : OpOk X W (rI (fun _ j => 0 < j) fun i j => .int (i % j)) (sc2 modI) := opOk_sc fun F c H x y dx dy d Q hx hy e q => by
  unfold modI at e
  split at e
  · cases hx; cases hy
    split at e
    · cases e; exact ⟨_, _, rfl, rfl, by assumption, q _ (.int _)⟩
    · cases e
  · cases e
theorem ok_pow : OpOk X W (rI CPow fun i j => .int (i ^ j.toNat)) (sc2 powI) := opOk_sc fun F c H x y dx dy d Q hx hy e q => by
  unfold powI at e
  split at e
  · cases hx; cases hy
    split at e
    · rename_i h
      simp only [Bool.and_eq_true, decide_eq_true_eq] at h
      cases e; exact ⟨_, _, rfl, rfl, ⟨h.1.1, by omega, h.2⟩, q _ (.int _)⟩
    · cases e
  · cases e
theorem ve_add (ha : VE X W e fa) (hb : VE X W a fb) : VE X W (.BinOp e .Add a pos) (eBin (sc2 addI) fa fb) := ve_op op_addR ok_add ha hb
theorem ve_sub (ha : VE X W e fa) (hb : VE X W a fb) : VE X W (.BinOp e .Sub a pos) (eBin (sc2 subI) fa fb) := ve_op op_sub ok_sub ha hb
theorem ve_mul (ha : VE X W e fa) (hb : VE X W a fb) : VE X W (.BinOp e .Mult a pos) (eBin (sc2 mulI) fa fb) := ve_op op_mul ok_mul ha hb
theorem ve_fdiv (ha : VE X W e fa) (hb : VE X W a fb) : VE X W (.BinOp e .FloorDiv a pos) (eBin (sc2 fdivI) fa fb) := ve_op op_fdivW ok_fdiv ha hb
theorem ve_mod (ha : VE X W e fa) (hb : VE X W a fb) : VE X W (.BinOp e .Mod a pos) (eBin (sc2 modI) fa fb) := ve_op op_mod ok_mod ha hb
theorem ve_pow (ha : VE X W e fa) (hb : VE X W a fb) : VE X W (.BinOp e .Pow a pos) (eBin (sc2 powI) fa fb) := ve_op op_pow ok_pow ha hb
def negI : D → Option D
  | .int i => some (.int (-i))
  | _ => none
def eUn (g : D → Option D) (fa : M D) : M D := fun env st => (fa env st).bind fun x e s => ret (g x) e s
theorem ve_neg (ha : VE X W e fa) : VE X W (.UnaryOp .USub e pos) (eUn negI fa) := PEof (pe_un un_neg ha) fun σ H Q ⟨b, F, c, env, st, e1, e2, r0, p⟩ =>
  tE_at e1 e2 r0 p fun v dx env1 st1 F1 c1 H1 s1 r1 rp1 p1 => by
    unfold ret negI at p1
    split at p1
    · rename_i d e
      split at e
      · cases rp1; cases e; exact ⟨_, rfl, Post.here r1 p1 _ (.int _)⟩
      · cases e
    · exact p1.elim

/-! ### comparisons -/
theorem ve_cmp {op : CmpOp} {r : R2} {g : D → D → M D} (ho : OpR X (compareOp op) r) (hg : OpOk X W r g) (ha : VE X W e fa) (hb : VE X W a fb) (hm : behindInMarks op a = false) : VE X W (.Compare e [op] [a] pos) (eBin g fa fb) := PEof (pe_cmpR ho ha hb hm) (tOp_of hg)
/-- a value that is a bool, as a test -/
def eT (f : M D) : M Bool := fun env st => (f env st).bind fun x e s => match x with
  | .bl t => .ok t e s
  | _ => .bad
theorem tTest_of {f : M D} : ∀ σ H Q, tT X W (eT f) σ H Q → tTest (tE X W f) σ H Q := fun σ H Q ⟨b, F, c, env, st, e1, e2, r0, p⟩ => tE_at e1 e2 r0 p fun v dx env1 st1 F1 c1 H1 s1 r1 rp1 p1 => by
    split at p1
    · cases rp1; exact ⟨_, rfl, Post.here r1 p1⟩
    · exact p1.elim
theorem vt_cmp {op : CmpOp} {r : R2} {g : D → D → M D} (ho : OpR X (compareOp op) r) (hg : OpOk X W r g) (ha : VE X W e fa) (hb : VE X W a fb) (hm : behindInMarks op a = false) : VT X W (.Compare e [op] [a] pos) (eT (eBin g fa fb)) :=
  PTof (pt_cmpR ho ha hb hm) fun σ H Q h => by
    have h2 := tTest_of σ H Q h
    exact tOp_of (fa := fa) (fb := fb) hg σ H _ h2
theorem vt_val (ha : VE X W e fa) (he : ∀ whole, isTrue e X.env whole = (do let v ← whole; standAt e.pos; holding [v] (truthy v)) := by intro _; rfl) : VT X W e (eT fa) := PTof (pt_val ha he) fun σ H Q h => tTest_of σ H Q h
def cmpI (p : Int → Int → Bool) : D → D → Option D
  | .int i, .int j => some (.bl (p i j))
  | _, _ => none
theorem ok_cmpI (p : Int → Int → Bool) : OpOk X W (rI0 fun i j => .bl (p i j)) (sc2 (cmpI p)) := opOk_sc fun F c H x y dx dy d Q hx hy e q => by
  unfold cmpI at e
  split at e
  · cases hx; cases hy; cases e; exact ⟨_, _, rfl, rfl, q _ (.bl _)⟩
  · cases e
@[reducible] def gLt : D → D → M D := sc2 (cmpI fun i j => decide (i < j))
@[reducible] def gLe : D → D → M D := sc2 (cmpI fun i j => decide (i ≤ j))
@[reducible] def gGt : D → D → M D := sc2 (cmpI fun i j => decide (j < i))
@[reducible] def gGe : D → D → M D := sc2 (cmpI fun i j => decide (j ≤ i))
theorem ve_lt (ha : VE X W e fa) (hb : VE X W a fb) : VE X W (.Compare e [.Lt] [a] pos) (eBin gLt fa fb) := ve_cmp op_lt (ok_cmpI _) ha hb (nomark _)
theorem ve_le (ha : VE X W e fa) (hb : VE X W a fb) : VE X W (.Compare e [.LtE] [a] pos) (eBin gLe fa fb) := ve_cmp op_le (ok_cmpI _) ha hb (nomark _)
theorem ve_gt (ha : VE X W e fa) (hb : VE X W a fb) : VE X W (.Compare e [.Gt] [a] pos) (eBin gGt fa fb) := ve_cmp op_gt (ok_cmpI _) ha hb (nomark _)
theorem ve_ge (ha : VE X W e fa) (hb : VE X W a fb) : VE X W (.Compare e [.GtE] [a] pos) (eBin gGe fa fb) := ve_cmp op_ge (ok_cmpI _) ha hb (nomark _)
theorem vt_lt (ha : VE X W e fa) (hb : VE X W a fb) : VT X W (.Compare e [.Lt] [a] pos) (eT (eBin gLt fa fb)) := vt_cmp op_lt (ok_cmpI _) ha hb (nomark _)
theorem vt_le (ha : VE X W e fa) (hb : VE X W a fb) : VT X W (.Compare e [.LtE] [a] pos) (eT (eBin gLe fa fb)) := vt_cmp op_le (ok_cmpI _) ha hb (nomark _)
theorem vt_gt (ha : VE X W e fa) (hb : VE X W a fb) : VT X W (.Compare e [.Gt] [a] pos) (eT (eBin gGt fa fb)) := vt_cmp op_gt (ok_cmpI _) ha hb (nomark _)
theorem vt_ge (ha : VE X W e fa) (hb : VE X W a fb) : VT X W (.Compare e [.GtE] [a] pos) (eT (eBin gGe fa fb)) := vt_cmp op_ge (ok_cmpI _) ha hb (nomark _)
/-- == and != of plain data -/
def eqP (x y : D) : Option D := if plain 20 x && plain 20 y then some (.bl (eqD x y)) else none
def neP (x y : D) : Option D := if plain 20 x && plain 20 y then some (.bl (!eqD x y)) else none
theorem ok_eqP : OpOk X W (rEqD X.K) (sc2 eqP) := opOk_sc fun F c H x y dx dy d Q hx hy e q => by
  unfold eqP at e
  split at e
  · rename_i h
    rw [Bool.and_eq_true] at h
    cases e
    exact ⟨_, _, hx.dp 20 h.1, hy.dp 20 h.2, shaped_of (by decide) h.1, shaped_of (by decide) h.2, q _ (.bl _)⟩
  · cases e
theorem ok_neP : OpOk X W (rNeD X.K) (sc2 neP) := opOk_sc fun F c H x y dx dy d Q hx hy e q => by
  unfold neP at e
  split at e
  · rename_i h
    rw [Bool.and_eq_true] at h
    cases e
    exact ⟨_, _, hx.dp 20 h.1, hy.dp 20 h.2, shaped_of (by decide) h.1, shaped_of (by decide) h.2, q _ (.bl _)⟩
  · cases e
variable {k : Nat}
theorem huOf (hr : Room k X.A) : X.A.units + 64 < cLine := by have := hr.un; omega
theorem huOf1 (hr : Room k X.A) : X.A.units + 65 < cLine := by have := hr.un; omega
theorem ve_eq (hr : Room k X.A) (ha : VE X W e fa) (hb : VE X W a fb) : VE X W (.Compare e [.Eq] [a] pos) (eBin (sc2 eqP) fa fb) := ve_cmp (op_eqD (huOf hr)) ok_eqP ha hb (nomark _)
theorem ve_ne (hr : Room k X.A) (ha : VE X W e fa) (hb : VE X W a fb) : VE X W (.Compare e [.NotEq] [a] pos) (eBin (sc2 neP) fa fb) := ve_cmp (op_neD (huOf hr)) ok_neP ha hb (nomark _)
theorem vt_eq (hr : Room k X.A) (ha : VE X W e fa) (hb : VE X W a fb) : VT X W (.Compare e [.Eq] [a] pos) (eT (eBin (sc2 eqP) fa fb)) := vt_cmp (op_eqD (huOf hr)) ok_eqP ha hb (nomark _)
theorem vt_ne (hr : Room k X.A) (ha : VE X W e fa) (hb : VE X W a fb) : VT X W (.Compare e [.NotEq] [a] pos) (eT (eBin (sc2 neP) fa fb)) := vt_cmp (op_neD (huOf hr)) ok_neP ha hb (nomark _)
/-- is None -/
def isNone : D → Bool
  | .non => true
  | _ => false
theorem Rp.isNon {K : PySem.W.Frag} {mg : Str → Option Value} {F : Addr → Prop} {c : List Addr} {H : Hp} {v : V} {d : D} (h : Rp K mg F c H v d) : decide (v = .non) = isNone d := by cases h <;> rfl
def isN (neg : Bool) : D → D → Option D
  | x, .non => some (.bl (if neg then !isNone x else isNone x))
  | _, _ => none
theorem ok_isN : OpOk X W (fun x y H Q => y = .non ∧ Q (.bl (decide (x = .non))) H) (sc2 (isN false)) := opOk_sc fun F c H x y dx dy d Q hx hy e q => by
  unfold isN at e
  split at e
  · cases hy; cases e; exact ⟨rfl, q _ (by rw [hx.isNon]; exact .bl _)⟩
  · cases e
theorem ok_notN : OpOk X W (fun x y H Q => y = .non ∧ Q (.bl (!decide (x = .non))) H) (sc2 (isN true)) := opOk_sc fun F c H x y dx dy d Q hx hy e q => by
  unfold isN at e
  split at e
  · cases hy; cases e; exact ⟨rfl, q _ (by rw [hx.isNon]; exact .bl _)⟩
  · cases e
theorem ve_isN (ha : VE X W e fa) (hb : VE X W a fb) : VE X W (.Compare e [.Is] [a] pos) (eBin (sc2 (isN false)) fa fb) := ve_cmp op_isN ok_isN ha hb (nomark _)
theorem ve_notN (ha : VE X W e fa) (hb : VE X W a fb) : VE X W (.Compare e [.IsNot] [a] pos) (eBin (sc2 (isN true)) fa fb) := ve_cmp op_notN ok_notN ha hb (nomark _)
theorem vt_isN (ha : VE X W e fa) (hb : VE X W a fb) : VT X W (.Compare e [.Is] [a] pos) (eT (eBin (sc2 (isN false)) fa fb)) := vt_cmp op_isN ok_isN ha hb (nomark _)
theorem vt_notN (ha : VE X W e fa) (hb : VE X W a fb) : VT X W (.Compare e [.IsNot] [a] pos) (eT (eBin (sc2 (isN true)) fa fb)) := vt_cmp op_notN ok_notN ha hb (nomark _)
/-- in: a text in a text; plain data in a list or a tuple -/
def inText (i j : Str) : Bool := !(Builtin.Str.occurrences j i 0 j.length 1).isEmpty
def inP (neg : Bool) : D → D → Option D
  | .str i, .str j => some (.bl (if neg then !inText i j else inText i j))
  | x, .lst ys => if plain 20 x && plain 20 (.lst ys) then some (.bl (if neg then !(ys.any fun z => eqD z x) else ys.any fun z => eqD z x)) else none
  | _, _ => none
theorem any_toPys (x : D) : ∀ ys : List D, (toPys ys).any (fun z => PyData.eqv z (toPy x)) = ys.any fun z => eqD z x
  | [] => by simp [toPys]
  | y :: ys => by simp only [toPys, List.any_cons, any_toPys x ys]; rfl
theorem op_inR (hu : X.A.units + 65 < cLine) : OpR X (compareOp .In) (fun x y H Q => (∃ i j, x = .str i ∧ y = .str j ∧ Q (.bl (!(Builtin.Str.occurrences j i 0 j.length 1).isEmpty)) H) ∨ rInD X.K x y H Q) := OpR.or op_in_str (op_inD hu)
theorem op_notinR (hu : X.A.units + 65 < cLine) : OpR X (compareOp .NotIn) (fun x y H Q => (∃ i j, x = .str i ∧ y = .str j ∧ Q (.bl (!(!(Builtin.Str.occurrences j i 0 j.length 1).isEmpty))) H) ∨ rNotInD X.K x y H Q) := OpR.or L2.op_notin_str (op_notInD hu)
theorem ok_in : OpOk X W (fun x y H Q => (∃ i j, x = .str i ∧ y = .str j ∧ Q (.bl (!(Builtin.Str.occurrences j i 0 j.length 1).isEmpty)) H) ∨ rInD X.K x y H Q) (sc2 (inP false)) := opOk_sc fun F c H x y dx dy d Q hx hy e q => by
  unfold inP at e
  split at e
  · cases hx; cases hy; cases e; exact .inl ⟨_, _, rfl, rfl, q _ (.bl _)⟩
  · split at e
    · rename_i h
      rw [Bool.and_eq_true] at h
      cases e
      have h2 := hy.dp 20 h.2
      have h3 := shaped_of (by decide) h.2
      simp only [toPy] at h2 h3
      exact .inr ⟨_, _, hx.dp 20 h.1, h2, shaped_of (by decide) h.1, h3, q _ (by rw [any_toPys]; exact .bl _)⟩
    · cases e
  · cases e
theorem ok_notin : OpOk X W (fun x y H Q => (∃ i j, x = .str i ∧ y = .str j ∧ Q (.bl (!(!(Builtin.Str.occurrences j i 0 j.length 1).isEmpty))) H) ∨ rNotInD X.K x y H Q) (sc2 (inP true)) := opOk_sc fun F c H x y dx dy d Q hx hy e q => by
  unfold inP at e
  split at e
  · cases hx; cases hy; cases e; exact .inl ⟨_, _, rfl, rfl, q _ (.bl _)⟩
  · split at e
    · rename_i h
      rw [Bool.and_eq_true] at h
      cases e
      have h2 := hy.dp 20 h.2
      have h3 := shaped_of (by decide) h.2
      simp only [toPy] at h2 h3
      exact .inr ⟨_, _, hx.dp 20 h.1, h2, shaped_of (by decide) h.1, h3, q _ (by rw [any_toPys]; exact .bl _)⟩
    · cases e
  · cases e
theorem ve_in (hr : Room k X.A) (ha : VE X W e fa) (hb : VE X W a fb) (hm : behindInMarks .In a = false := by rfl) : VE X W (.Compare e [.In] [a] pos) (eBin (sc2 (inP false)) fa fb) := ve_cmp (op_inR (huOf1 hr)) ok_in ha hb hm
theorem vt_in (hr : Room k X.A) (ha : VE X W e fa) (hb : VE X W a fb) (hm : behindInMarks .In a = false := by rfl) : VT X W (.Compare e [.In] [a] pos) (eT (eBin (sc2 (inP false)) fa fb)) := vt_cmp (op_inR (huOf1 hr)) ok_in ha hb hm
theorem ve_notin (hr : Room k X.A) (ha : VE X W e fa) (hb : VE X W a fb) (hm : behindInMarks .NotIn a = false := by rfl) : VE X W (.Compare e [.NotIn] [a] pos) (eBin (sc2 (inP true)) fa fb) := ve_cmp (op_notinR (huOf1 hr)) ok_notin ha hb hm
theorem vt_notin (hr : Room k X.A) (ha : VE X W e fa) (hb : VE X W a fb) (hm : behindInMarks .NotIn a = false := by rfl) : VT X W (.Compare e [.NotIn] [a] pos) (eT (eBin (sc2 (inP true)) fa fb)) := vt_cmp (op_notinR (huOf1 hr)) ok_notin ha hb hm
/-- a <= b <= c, of ints -/
def eChain (p q : Int → Int → Bool) (fa fb fc : M D) : M D := fun env st => (fa env st).bind fun x e s => (fb e s).bind fun y e s => match x, y with
  | .int i, .int j => if p i j then (fc e s).bind fun z e s => match z with
      | .int l => .ok (.bl (q j l)) e s
      | _ => .bad
    else .ok (.bl false) e s
  | _, _ => .bad
end
end VE

namespace VE
open PySem PySem.Spec PyProof.Rows L2
variable [VEnv]
section
variable {X : Cx} {W : WX} {e a d : Expr} {rest : List Expr} {pos : Pos} {fa fb fc : M D} {ta tb tc : M Bool}
/-! ### chains, tests -/
theorem chain_of {p q : Int → Int → Bool} : ∀ σ H Q, tE X W (eChain p q fa fb fc) σ H Q → tChain (rI0 fun i j => .bl (p i j)) (rI0 fun i j => .bl (q i j)) (tE X W fa) (tE X W fb) (tE X W fc) σ H Q := fun σ H Q ⟨b, F, c, env, st, e1, e2, r0, h⟩ =>
  tE_at e1 e2 r0 h fun v dx env1 st1 F1 c1 H1 s1 r1 rp1 p1 => tE_at e1 e2 r1 p1 fun u dy env2 st2 F2 c2 H2 s2 r2 rp2 p2 => by
    split at p2
    · rename_i i j
      cases rp1; cases rp2
      refine ⟨_, _, rfl, rfl, _, rfl, ?_⟩
      cases hp : p i j with
      | true =>
        rw [hp, if_pos rfl] at p2
        rw [if_pos rfl]
        exact tE_at e1 e2 r2 p2 fun w dz env3 st3 F3 c3 H3 s3 r3 rp3 p3 => by
          split at p3
          · cases rp3; exact ⟨_, _, rfl, rfl, Post.here r3 p3 _ (.bl _)⟩
          · exact p3.elim
      | false =>
        rw [hp, if_neg Bool.false_ne_true] at p2
        rw [if_neg Bool.false_ne_true]
        exact Post.here r2 p2 _ (.bl _)
    · exact p2.elim
theorem ve_chain {op op' : CmpOp} {p q : Int → Int → Bool} (ho : OpR X (compareOp op) (rI0 fun i j => .bl (p i j))) (ho' : OpR X (compareOp op') (rI0 fun i j => .bl (q i j))) (ha : VE X W e fa) (hb : VE X W a fb) (hc : VE X W d fc)
    (hm : lastMarks [op, op'] [a, d] = false := by with_unfolding_all rfl) : VE X W (.Compare e [op, op'] [a, d] pos) (eChain p q fa fb fc) := PEof (pe_chain ho ho' ha hb hc hm) chain_of
theorem vt_chain {op op' : CmpOp} {p q : Int → Int → Bool} (ho : OpR X (compareOp op) (rI0 fun i j => .bl (p i j))) (ho' : OpR X (compareOp op') (rI0 fun i j => .bl (q i j))) (ha : VE X W e fa) (hb : VE X W a fb) (hc : VE X W d fc)
    (hm : lastMarks [op, op'] [a, d] = false := by with_unfolding_all rfl) : VT X W (.Compare e [op, op'] [a, d] pos) (eT (eChain p q fa fb fc)) := PTof (pt_chain ho ho' ha hb hc hm) fun σ H Q h => chain_of σ H _ (tTest_of σ H Q h)
@[reducible] def VW (X : Cx) (W : WX) (e : Expr) (f : M Bool) : Prop := PW X e (tT X W f)
def bAnd (ta tb : M Bool) : M Bool := fun env st => (ta env st).bind fun t env st => if t then tb env st else .ok false env st
def bOr (ta tb : M Bool) : M Bool := fun env st => (ta env st).bind fun t env st => if t then .ok true env st else tb env st
def bNot (ta : M Bool) : M Bool := fun env st => (ta env st).bind fun t env st => .ok (!t) env st
theorem vw_and1 (h : VT X W e ta) : VW X W (.BoolOp .And [e] pos) ta := pw_and1 h
theorem vw_or1 (h : VT X W e ta) : VW X W (.BoolOp .Or [e] pos) ta := pw_or1 h
theorem vw_and (h : VT X W e ta) (h2 : VW X W (.BoolOp .And (a :: rest) pos) tb) : VW X W (.BoolOp .And (e :: a :: rest) pos) (bAnd ta tb) := PWof (pw_and h h2) fun σ H Q ⟨b, F, c, env, st, e1, e2, r0, h⟩ =>
  tT_at e1 e2 r0 h fun t env1 st1 F1 c1 H1 s1 r1 p1 => by
    cases t with
    | true => rw [if_pos rfl] at p1 ⊢; exact ⟨b, F1, c1, env1, st1, e1, e2, r1, p1⟩
    | false => rw [if_neg Bool.false_ne_true] at p1 ⊢; exact Post.here r1 p1
theorem vw_or (h : VT X W e ta) (h2 : VW X W (.BoolOp .Or (a :: rest) pos) tb) : VW X W (.BoolOp .Or (e :: a :: rest) pos) (bOr ta tb) := PWof (pw_or h h2) fun σ H Q ⟨b, F, c, env, st, e1, e2, r0, h⟩ =>
  tT_at e1 e2 r0 h fun t env1 st1 F1 c1 H1 s1 r1 p1 => by
    cases t with
    | false => rw [if_neg Bool.false_ne_true] at p1 ⊢; exact ⟨b, F1, c1, env1, st1, e1, e2, r1, p1⟩
    | true => rw [if_pos rfl] at p1 ⊢; exact Post.here r1 p1
theorem vt_not (h : VT X W e ta) : VT X W (.UnaryOp .Not e pos) (bNot ta) := PTof (pt_not h) fun σ H Q ⟨b, F, c, env, st, e1, e2, r0, h⟩ => tT_at e1 e2 r0 h fun t env1 st1 F1 c1 H1 s1 r1 p1 => Post.here r1 p1
/-! .. as values -/
def eAnd (fa fb : M D) : M D := fun env st => (fa env st).bind fun x env st => match x with
  | .bl true => fb env st
  | .bl false => .ok (.bl false) env st
  | _ => .bad
def eOr (fa fb : M D) : M D := fun env st => (fa env st).bind fun x env st => match x with
  | .bl true => .ok (.bl true) env st
  | .bl false => fb env st
  | _ => .bad
def eNot (fa : M D) : M D := fun env st => (fa env st).bind fun x env st => match x with
  | .bl t => .ok (.bl (!t)) env st
  | _ => .bad
theorem ve_one {op : BoolOp} (h : VE X W e fa) : VE X W (.BoolOp op [e] pos) fa := pe_one h
theorem ve_and (h : VE X W e fa) (h2 : VE X W (.BoolOp .And (a :: rest) pos) fb) : VE X W (.BoolOp .And (e :: a :: rest) pos) (eAnd fa fb) := PEof (pe_and h h2) fun σ H Q ⟨b, F, c, env, st, e1, e2, r0, h⟩ =>
  tE_at e1 e2 r0 h fun v dx env1 st1 F1 c1 H1 s1 r1 rp1 p1 => by
    split at p1
    · cases rp1; exact ⟨true, rfl, by rw [if_pos rfl]; exact ⟨b, F1, c1, env1, st1, e1, e2, r1, p1⟩⟩
    · cases rp1; exact ⟨false, rfl, by rw [if_neg Bool.false_ne_true]; exact Post.here r1 p1 _ (.bl _)⟩
    · exact p1.elim
theorem ve_or (h : VE X W e fa) (h2 : VE X W (.BoolOp .Or (a :: rest) pos) fb) : VE X W (.BoolOp .Or (e :: a :: rest) pos) (eOr fa fb) := PEof (pe_or h h2) fun σ H Q ⟨b, F, c, env, st, e1, e2, r0, h⟩ =>
  tE_at e1 e2 r0 h fun v dx env1 st1 F1 c1 H1 s1 r1 rp1 p1 => by
    split at p1
    · cases rp1; exact ⟨true, rfl, by rw [if_pos rfl]; exact Post.here r1 p1 _ (.bl _)⟩
    · cases rp1; exact ⟨false, rfl, by rw [if_neg Bool.false_ne_true]; exact ⟨b, F1, c1, env1, st1, e1, e2, r1, p1⟩⟩
    · exact p1.elim
theorem ve_not (h : VE X W e fa) : VE X W (.UnaryOp .Not e pos) (eNot fa) := PEof (pe_not h) fun σ H Q ⟨b, F, c, env, st, e1, e2, r0, h⟩ =>
  tE_at e1 e2 r0 h fun v dx env1 st1 F1 c1 H1 s1 r1 rp1 p1 => by
    split at p1
    · cases rp1; exact ⟨_, rfl, Post.here r1 p1 _ (.bl _)⟩
    · exact p1.elim
def eIf (t : M Bool) (fa fb : M D) : M D := fun env st => (t env st).bind fun t env st => if t then fa env st else fb env st
theorem ve_if (h : VT X W d tc) (ha : VE X W e fa) (hb : VE X W a fb) : VE X W (.IfExp d e a pos) (eIf tc fa fb) := PEof (pe_ifExp h ha hb) fun σ H Q ⟨b, F, c, env, st, e1, e2, r0, h⟩ =>
  tT_at e1 e2 r0 h fun t env1 st1 F1 c1 H1 s1 r1 p1 => by
    cases t with
    | true => rw [if_pos rfl] at p1 ⊢; exact ⟨b, F1, c1, env1, st1, e1, e2, r1, p1⟩
    | false => rw [if_neg Bool.false_ne_true] at p1 ⊢; exact ⟨b, F1, c1, env1, st1, e1, e2, r1, p1⟩

/-! ### arguments, displays -/
variable {es : List Expr} {fs : M (List D)}
def eNil : M (List D) := fun env st => .ok [] env st
def eCons (fa : M D) (fs : M (List D)) : M (List D) := fun env st => (fa env st).bind fun d env st => (fs env st).bind fun ds env st => .ok (d :: ds) env st
def itemsOf : D → Option (List D)
  | .lst xs => some xs
  | .tup xs => some xs
  | _ => none
def eStar (fa : M D) (fs : M (List D)) : M (List D) := fun env st => (fa env st).bind fun d env st => match itemsOf d with
  | some xs => (fs env st).bind fun ds env st => .ok (xs ++ ds) env st
  | none => .bad
theorem va_nil : VA X W [] eNil := PAof pa_nil fun σ H Q ⟨b, F, c, env, st, e1, e2, r0, h⟩ => Post.here r0 h _ .nil
theorem va_cons (h : VE X W e fa) (h2 : VA X W es fs) (hs : starEach (e :: es) X.env = (false, eval e X.env) :: starEach es X.env := by rfl) : VA X W (e :: es) (eCons fa fs) := PAof (pa_cons h h2 hs) fun σ H Q ⟨b, F, c, env, st, e1, e2, r0, h⟩ =>
  tE_at e1 e2 r0 h fun v dx env1 st1 F1 c1 H1 s1 r1 rp1 p1 => tA_at e1 e2 r1 p1 fun vs ds env2 st2 F2 c2 H2 s2 r2 rp2 p2 => Post.here r2 p2 _ (.cons (rp1.stp s2) rp2)
theorem Rp.items {K : PySem.W.Frag} {mg : Str → Option Value} {F : Addr → Prop} {c : List Addr} {H : Hp} {v : V} {d : D} {ds : List D} (h : Rp K mg F c H v d) (e : itemsOf d = some ds) : ∃ a vs, v = .ref a ∧ (SqT K H a vs ∨ SqL K H a vs) ∧ Rps K mg F c H vs ds := by
  cases h with
  | lst f h r => cases e; exact ⟨_, _, rfl, .inr (SqL.of h), r⟩
  | tup h r => cases e; exact ⟨_, _, rfl, .inl h.sq, r⟩
  | _ => cases e
theorem va_star {p : Pos} (h : VE X W e fa) (h2 : VA X W es fs) (hs : starEach (.Starred e p :: es) X.env = (true, eval e X.env) :: starEach es X.env := by rfl) : VA X W (.Starred e p :: es) (eStar fa fs) := PAof (StX.pa_star h h2 hs) fun σ H Q ⟨b, F, c, env, st, e1, e2, r0, h⟩ =>
  tE_at e1 e2 r0 h fun v dx env1 st1 F1 c1 H1 s1 r1 rp1 p1 => by
    split at p1
    · rename_i ds ed
      obtain ⟨a, vs, rfl, hq, rps⟩ := rp1.items ed
      rw [e1] at hq
      exact ⟨a, vs, rfl, hq, tA_at e1 e2 r1 p1 fun ws es env2 st2 F2 c2 H2 s2 r2 rp2 p2 => Post.here r2 p2 _ ((rps.stp s2).append rp2)⟩
    · exact p1.elim
def eTup (fs : M (List D)) : M D := fun env st => (fs env st).bind fun ds env st => if ds.length ≤ 16777216 then .ok (.tup ds) env st else .bad
def eLst (fs : M (List D)) : M D := fun env st => (fs env st).bind fun ds env st => if ds.length ≤ 16777216 then .ok (.lst ds) env st else .bad
theorem ve_tup {x1 : Nat} (h : VA X W es fs) : VE X W (.Tuple es x1 pos) (eTup fs) := PEof (pe_tup h) fun σ H Q ⟨b, F, c, env, st, e1, e2, r0, h⟩ =>
  tA_at e1 e2 r0 h fun vs ds env1 st1 F1 c1 H1 s1 r1 rp1 p1 => by
    split at p1
    · rename_i hl
      refine ⟨by rw [rp1.length, sizeLine_eq]; exact hl, fun p hp => ?_⟩
      obtain ⟨s2, r2⟩ := r1.newF hp (.tup vs)
      exact p1 _ _ _ s2 r2 _ (.tup (.inl ⟨.inr rfl, .inl upd_same⟩) (rp1.stp s2))
    · exact p1.elim
theorem vf_lst (h : VA X W es fs) : VF X W (.List es pos) (eLst fs) := PEof (pe_lst h) fun σ H Q ⟨b, F, c, env, st, e1, e2, r0, h⟩ =>
  tA_at e1 e2 r0 h fun vs ds env1 st1 F1 c1 H1 s1 r1 rp1 p1 => by
    split at p1
    · rename_i hl
      refine ⟨by rw [rp1.length, sizeLine_eq]; exact hl, fun p hp => ?_⟩
      obtain ⟨s2, r2⟩ := r1.newO hp (.lst vs)
      exact p1 _ _ _ s2 r2 p (r1.nF hp) (r1.nC hp) (r1.H0none hp) (r1.nO hp) ⟨vs, upd_same, rp1.stp s2⟩
    · exact p1.elim

/-! ### operators and calls by values that give something new -/
/-- a rule that hands on a fresh thing -/
def OpOkF (X : Cx) (W : WX) (r : R2) (g : D → D → Option D) : Prop := ∀ (F : Addr → Prop) (c : List Addr) (H : Hp) (x y : V) (dx dy d : D) (Q : VK), Rp X.K X.mg F c H x dx → Rp X.K X.mg F c H y dy → g dx dy = some d →
  (∀ p o, H p = none → (∀ F' : Addr → Prop, Stp F c H F' c (upd H p o) → OwnAt X.K X.mg F' c (upd H p o) p d) → Q (.ref p) (upd H p o)) → r x y H Q
theorem fresh_of {b : Bs} {F : Addr → Prop} {c : List Addr} {env : EnvD} {st : Sto} {σ : L2.St} {H : Hp} {d : D} {Q : VK} (r1 : Rel b F c env st σ H)
    (p1 : Post b W F c σ H (fun d env _ F c H' => ∀ a, ¬ F a → a ∉ c → b.H0 a = none → (∀ i, ¬ OwnA env σ i a) → OwnAt b.K b.mg F c H' a d → Q (.ref a) H') (.ok d env st))
    (p : Addr) (o : HO) (hp : H p = none) (ho : ∀ F' : Addr → Prop, Stp F c H F' c (upd H p o) → OwnAt b.K b.mg F' c (upd H p o) p d) : Q (.ref p) (upd H p o) := by
  obtain ⟨s2, r2⟩ := r1.newO hp o
  exact p1 _ _ _ s2 r2 p (r1.nF hp) (r1.nC hp) (r1.H0none hp) (r1.nO hp) (ho _ s2)
theorem vf_op {op : Operator} {r : R2} {g : D → D → Option D} (ho : OpR X (binaryOp op) r) (hg : OpOkF X W r g) (ha : VE X W e fa) (hb : VE X W a fb) : VF X W (.BinOp e op a pos) (eBin (sc2 g) fa fb) := PEof (pe_op ho ha hb) fun σ H Q ⟨b, F, c, env, st, e1, e2, r0, h⟩ =>
  tE_at e1 e2 r0 h fun v dx env1 st1 F1 c1 H1 s1 r1 rp1 p1 => tE_at e1 e2 r1 p1 fun u dy env2 st2 F2 c2 H2 s2 r2 rp2 p2 => by
    unfold sc2 ret at p2
    split at p2
    · rename_i d ed
      rw [e1, e2] at rp1 rp2
      exact hg F2 c2 H2 v u dx dy d Q (rp1.stp s2) rp2 ed fun p o hp ho => fresh_of r2 p2 p o hp (by rw [e1, e2]; exact ho)
    · exact p2.elim
def catL : D → D → Option D
  | .lst xs, .lst ys => if xs.length + ys.length ≤ 16777216 then some (.lst (xs ++ ys)) else none
  | _, _ => none
theorem ok_cat : OpOkF X W rCat catL := fun F c H x y dx dy d Q hx hy e q => by
  unfold catL at e
  split at e
  · split at e
    · rename_i hl
      cases e
      cases hx with
      | lst f h r =>
        cases hy with
        | lst f' h' r' =>
          refine ⟨_, _, _, _, rfl, rfl, h, h', by rw [r.length, r'.length, sizeLine_eq]; exact hl, fun p hp => q p _ hp fun F' s => ⟨_, upd_same, (r.stp s).append (r'.stp s)⟩⟩
    · cases e
  · cases e
theorem vf_cat (ha : VE X W e fa) (hb : VE X W a fb) : VF X W (.BinOp e .Add a pos) (eBin (sc2 catL) fa fb) := vf_op op_cat ok_cat ha hb

/-! ### subscripts -/
def ixD : D → D → Option D
  | .lst xs, .int i => atI xs i
  | .tup xs, .int i => atI xs i
  | .scr xs, .int i => (atI xs i).map .int
  | .str z, .int i => if z.length ≤ 16777216 then (atI z.cps.toList i).map fun c => .str ⟨#[c]⟩ else none
  | _, _ => none
theorem ixN_lt {n : Nat} {i : Int} {j : Nat} (h : ixN n i = some j) : j < n := (ixN_seq h).2.1
theorem Rps.atI {K : PySem.W.Frag} {mg : Str → Option Value} {F : Addr → Prop} {c : List Addr} {H : Hp} {vs : List V} {ds : List D} {i : Int} {d : D} (r : Rps K mg F c H vs ds) (e : L2.atI ds i = some d) : ∃ v, L2.atI vs i = some v ∧ Rp K mg F c H v d := by
  unfold L2.atI at e ⊢
  rw [r.length]
  cases h : ixN ds.length i with
  | none => rw [h] at e; cases e
  | some j => rw [h] at e; exact r.get' e
theorem atI_map {α β : Type} (f : α → β) (xs : List α) (i : Int) : L2.atI (xs.map f) i = (L2.atI xs i).map f := by
  unfold L2.atI
  rw [List.length_map]
  cases ixN xs.length i with
  | none => rfl
  | some j => simp
theorem ok_ix : OpOk X W (rIx X.K) (sc2 ixD) := opOk_sc fun F c H x y dx dy d Q hx hy e q => by
  unfold ixD at e
  split at e
  · cases hy
    cases hx with
    | lst f h r => obtain ⟨v, hv, rp⟩ := r.atI e; exact .inl ⟨_, _, _, v, rfl, rfl, SqL.of h, hv, q v rp⟩
  · cases hy
    cases hx with
    | tup h r => obtain ⟨v, hv, rp⟩ := r.atI e; exact .inr (.inl ⟨_, _, _, v, rfl, rfl, h.sq, hv, q v rp⟩)
  · rename_i xs i
    cases hy
    cases hx with
    | scr h =>
      cases hz : L2.atI xs i with
      | none => rw [hz] at e; cases e
      | some z =>
        rw [hz] at e; cases e
        exact .inl ⟨_, _, _, .int z, rfl, rfl, h.sq, by rw [atI_map, hz]; rfl, q _ (.int z)⟩
  · rename_i z i
    cases hy; cases hx
    split at e
    · rename_i hl
      cases hz : L2.atI z.cps.toList i with
      | none => rw [hz] at e; cases e
      | some ch =>
        rw [hz] at e; cases e
        exact .inr (.inr ⟨_, _, _, rfl, rfl, by rw [sizeLine_eq]; exact hl, hz, q _ (.str _)⟩)
    · cases e
  · cases e
theorem ve_ix (ha : VE X W e fa) (hb : VE X W a fb) (hs : PlainIx a := by exact fun _ _ => rfl) : VE X W (.Subscript e a pos) (eBin (sc2 ixD) fa fb) := PEof (pe_ix ix_seq ha hb hs) (tOp_of ok_ix)
end
end VE

namespace VE
open PySem PySem.Spec PyProof.Rows L2
variable [VEnv]
/-- how a statement ends: on; back with a value; back with a thing that is new; break; continue -/
inductive Fl where
  | nx
  | rt (d : D)
  | rf (d : D)
  | bk
  | ct
section
variable {X : Cx} {W : WX} {b : Bs} {F F' : Addr → Prop} {c c' : List Addr} {env : EnvD} {st : Sto} {σ : L2.St} {H H' : Hp} {D₀ : Ends}
def FlOk (b : Bs) (D₀ : Ends) (F : Addr → Prop) (c : List Addr) (σ : L2.St) (H : Hp) : Fl → Prop
  | .nx => D₀.nx σ H
  | .bk => D₀.bk σ H
  | .ct => D₀.ct σ H
  | .rt d => ∀ v, Rp b.K b.mg F c H v d → D₀.rt v H
  | .rf d => ∀ a, ¬ F a → a ∉ c → b.H0 a = none → OwnAt b.K b.mg F c H a d → D₀.rt (.ref a) H
def PostS (b : Bs) (W : WX) (F : Addr → Prop) (c : List Addr) (H : Hp) (P : Fl → EnvD → Sto → (Addr → Prop) → List Addr → L2.St → Hp → Prop) : R Fl → Prop
  | .ok fl env st => ∀ σ' F' c' H', Stp F c H F' c' H' → Rel b F' c' env st σ' H' → P fl env st F' c' σ' H'
  | .ex x env st => ∀ σ' F' c' H' cls d, Stp F c H F' c' H' → Rel b F' c' env st σ' H' → RpX b.K b.mg F' c' H' cls d x → W cls d σ' H'
  | .bad => False
theorem PostS.mono {P P' : Fl → EnvD → Sto → (Addr → Prop) → List Addr → L2.St → Hp → Prop} {r : R Fl} (h : PostS b W F c H P r)
    (k : ∀ x env st F' c' σ' H', Stp F c H F' c' H' → Rel b F' c' env st σ' H' → P x env st F' c' σ' H' → P' x env st F' c' σ' H') : PostS b W F c H P' r := by
  cases r with
  | ok x env st => exact fun σ' F' c' H' s r => k _ _ _ _ _ _ _ s r (h σ' F' c' H' s r)
  | ex x env st => exact h
  | bad => exact h
theorem PostS.stp {P : Fl → EnvD → Sto → (Addr → Prop) → List Addr → L2.St → Hp → Prop} {r : R Fl} (s : Stp F c H F' c' H') (h : PostS b W F c H P r) : PostS b W F' c' H' P r := by
  cases r with
  | ok x env st => exact fun σ' F2 c2 H2 t r => h σ' F2 c2 H2 (s.trans t) r
  | ex x env st => exact fun σ' F2 c2 H2 cls d t r => h σ' F2 c2 H2 cls d (s.trans t) r
  | bad => exact h
/-- a statement behind a run that leaves the slots -/
theorem PostS.of {α : Type} {P : Fl → EnvD → Sto → (Addr → Prop) → List Addr → L2.St → Hp → Prop} {r : R α} {k : α → M Fl} (h : PostS b W F c H P (r.bind k)) :
    Post b W F c σ H (fun x env st F1 c1 H1 => PostS b W F1 c1 H1 P (k x env st)) r := by
  cases r with
  | ok x env st => exact fun F' c' H' s r => PostS.stp s h
  | ex x env st => exact fun F' c' H' cls d s r q => h σ F' c' H' cls d s r q
  | bad => exact h
theorem PostS.bind {P : Fl → EnvD → Sto → (Addr → Prop) → List Addr → L2.St → Hp → Prop} {r : R Fl} {k : Fl → M Fl} (h : PostS b W F c H P (r.bind k)) :
    PostS b W F c H (fun x env st F1 c1 σ1 H1 => PostS b W F1 c1 H1 P (k x env st)) r := by
  cases r with
  | ok x env st => exact fun σ' F' c' H' s r => PostS.stp s h
  | ex x env st => exact h
  | bad => exact h
theorem PostS.here {P : Fl → EnvD → Sto → (Addr → Prop) → List Addr → L2.St → Hp → Prop} {x : Fl} (r : Rel b F c env st σ H) (h : PostS b W F c H P (.ok x env st)) : P x env st F c σ H := h σ F c H .refl r
def tS (X : Cx) (W : WX) (g : M Fl) : TS := fun D₀ σ H => ∃ b F c env st, b.K = X.K ∧ b.mg = X.mg ∧ Rel b F c env st σ H ∧ PostS b W F c H (fun fl _ _ F c σ H => FlOk b D₀ F c σ H fl) (g env st)
@[reducible] def VS (X : Cx) (W : WX) (s : Stmt) (g : M Fl) : Prop := PS X s (tS X W g)
@[reducible] def VSs (X : Cx) (W : WX) (s : List Stmt) (g : M Fl) : Prop := PSs X s (tS X W g)
section
variable {β : Type} {P : Fl → EnvD → Sto → (Addr → Prop) → List Addr → L2.St → Hp → Prop}
theorem sE_at {f : M D} {k : D → M Fl} {Q : VK} (e1 : b.K = X.K) (e2 : b.mg = X.mg) (r : Rel b F c env st σ H) (p : PostS b W F c H P ((f env st).bind k))
    (hq : ∀ v d env' st' F' c' H', Stp F c H F' c' H' → Rel b F' c' env' st' σ H' → Rp b.K b.mg F' c' H' v d → PostS b W F' c' H' P (k d env' st') → Q v H') : tE X W f σ H Q :=
  ⟨b, F, c, env, st, e1, e2, r, (PostS.of p).mono fun d env' st' F' c' H' s r' q v rp => hq v d env' st' F' c' H' s r' rp q⟩
theorem sT_at {f : M Bool} {k : Bool → M Fl} {Q : Bool → Hp → Prop} (e1 : b.K = X.K) (e2 : b.mg = X.mg) (r : Rel b F c env st σ H) (p : PostS b W F c H P ((f env st).bind k))
    (hq : ∀ t env' st' F' c' H', Stp F c H F' c' H' → Rel b F' c' env' st' σ H' → PostS b W F' c' H' P (k t env' st') → Q t H') : tT X W f σ H Q :=
  ⟨b, F, c, env, st, e1, e2, r, (PostS.of p).mono fun t env' st' F' c' H' s r' q => hq t env' st' F' c' H' s r' q⟩
theorem sA_at {f : M (List D)} {k : List D → M Fl} {Q : List V → Hp → Prop} (e1 : b.K = X.K) (e2 : b.mg = X.mg) (r : Rel b F c env st σ H) (p : PostS b W F c H P ((f env st).bind k))
    (hq : ∀ vs ds env' st' F' c' H', Stp F c H F' c' H' → Rel b F' c' env' st' σ H' → Rps b.K b.mg F' c' H' vs ds → PostS b W F' c' H' P (k ds env' st') → Q vs H') : tA X W f σ H Q :=
  ⟨b, F, c, env, st, e1, e2, r, (PostS.of p).mono fun ds env' st' F' c' H' s r' q v rp => hq v ds env' st' F' c' H' s r' rp q⟩
theorem sF_at {f : M D} {k : D → M Fl} {Q : VK} (e1 : b.K = X.K) (e2 : b.mg = X.mg) (r : Rel b F c env st σ H) (p : PostS b W F c H P ((f env st).bind k))
    (hq : ∀ a d env' st' F' c' H', Stp F c H F' c' H' → Rel b F' c' env' st' σ H' → ¬ F' a → a ∉ c' → b.H0 a = none → (∀ i, ¬ OwnA env' σ i a) → OwnAt b.K b.mg F' c' H' a d → PostS b W F' c' H' P (k d env' st') → Q (.ref a) H') : tF X W f σ H Q :=
  ⟨b, F, c, env, st, e1, e2, r, (PostS.of p).mono fun d env' st' F' c' H' s r' q a h1 h2 h3 h4 h5 => hq a d env' st' F' c' H' s r' h1 h2 h3 h4 h5 q⟩
end
end
section
variable {X : Cx} {W : WX} {e a : Expr} {s : Stmt} {ss : List Stmt} {pos : Pos} {fa fb : M D} {ta : M Bool} {g g' : M Fl}
/-! ### blocks, small statements -/
def sNx : M Fl := fun env st => .ok .nx env st
def sBk : M Fl := fun env st => .ok .bk env st
def sCt : M Fl := fun env st => .ok .ct env st
def sSeq (g g' : M Fl) : M Fl := fun env st => (g env st).bind fun fl env st => match fl with
  | .nx => g' env st
  | fl => .ok fl env st
theorem vss_nil : VSs X W [] sNx := PSsof pss_nil fun D₀ σ H ⟨b, F, c, env, st, e1, e2, r, p⟩ => PostS.here r p
theorem vss_cons (h : VS X W s g) (h2 : VSs X W ss g') : VSs X W (s :: ss) (sSeq g g') := PSsof (pss_cons h h2) fun D₀ σ H ⟨b, F, c, env, st, e1, e2, r, p⟩ =>
  ⟨b, F, c, env, st, e1, e2, r, (PostS.bind p).mono fun fl env' st' F' c' σ' H' s' r' q => by
    cases fl with
    | nx => exact ⟨b, F', c', env', st', e1, e2, r', q⟩
    | _ => exact PostS.here r' q⟩
theorem vss_one (h : VS X W s g) : VSs X W [s] g := pss_one h
theorem vs_pass : VS X W (.Pass pos) sNx := PSof ps_pass fun D₀ σ H ⟨b, F, c, env, st, e1, e2, r, p⟩ => PostS.here r p
theorem vs_break : VS X W (.Break pos) sBk := PSof ps_break fun D₀ σ H ⟨b, F, c, env, st, e1, e2, r, p⟩ => PostS.here r p
theorem vs_cont : VS X W (.Continue pos) sCt := PSof ps_continue fun D₀ σ H ⟨b, F, c, env, st, e1, e2, r, p⟩ => PostS.here r p
theorem vs_doc {x j pos pos'} : VS X W (.Expr (.Constant (.str x) j pos) pos') sNx := PSof ps_doc fun D₀ σ H ⟨b, F, c, env, st, e1, e2, r, p⟩ => PostS.here r p
def sExpr (fa : M D) : M Fl := fun env st => (fa env st).bind fun _ env st => .ok .nx env st
theorem vs_expr (h : VE X W e fa) (hs : swapsWith e none pos.line X.env = pure false := by rfl) : VS X W (.Expr e pos) (sExpr fa) := PSof (ps_expr h hs) fun D₀ σ H ⟨b, F, c, env, st, e1, e2, r, p⟩ =>
  sE_at e1 e2 r p fun v d env1 st1 F1 c1 H1 s1 r1 rp1 p1 => PostS.here r1 p1
def sRet (fa : M D) : M Fl := fun env st => (fa env st).bind fun d env st => .ok (.rt d) env st
def sRetF (fa : M D) : M Fl := fun env st => (fa env st).bind fun d env st => .ok (.rf d) env st
theorem vs_ret (h : VE X W e fa) : VS X W (.Return (some e) pos) (sRet fa) := PSof (ps_ret h) fun D₀ σ H ⟨b, F, c, env, st, e1, e2, r, p⟩ =>
  sE_at e1 e2 r p fun v d env1 st1 F1 c1 H1 s1 r1 rp1 p1 => PostS.here r1 p1 v rp1
theorem vs_retF (h : VF X W e fa) : VS X W (.Return (some e) pos) (sRetF fa) := PSof (ps_ret h) fun D₀ σ H ⟨b, F, c, env, st, e1, e2, r, p⟩ =>
  sF_at e1 e2 r p fun a d env1 st1 F1 c1 H1 s1 r1 h1 h2 h3 h4 h5 p1 => PostS.here r1 p1 a h1 h2 h3 h5
def sRetN : M Fl := fun env st => .ok (.rt .non) env st
theorem vs_retN : VS X W (.Return none pos) sRetN := PSof ps_retN fun D₀ σ H ⟨b, F, c, env, st, e1, e2, r, p⟩ => PostS.here r p _ .non
/-- return x, where x alone holds a list: it is handed on as new -/
def sRetO (i : Nat) : M Fl := fun env st => match env[i]? with
  | some (.ow d) => .ok (.rf d) (env.set i .no) st
  | _ => .bad
theorem vs_retO (i : Nat) {x : Str} {pos' : Pos} (hN : X.N[i]? = some x := by rfl) (hv : Vis X.env.scope x := by first | exact Or.inl rfl | exact Or.inr (Or.inl rfl) | exact Or.inr (Or.inr rfl)) (hd : (x == ("__debug__" : Str)) = false := by decide)
    (hcd : (x == ("__classdict__" : Str)) = false := by decide) : VS X W (.Return (some (.Name x pos')) pos) (sRetO i) := PSof (ps_ret (pe_var hN hv hd hcd)) fun D₀ σ H ⟨b, F, c, env, st, e1, e2, r, p⟩ => by
  unfold sRetO at p
  split at p
  · rename_i d e
    obtain ⟨a, ea, h1, h2, h3, h4⟩ := r.sl i _ e
    exact ⟨_, ea, PostS.here (r.forget i) p a h1 h2 h3 h4⟩
  · exact p.elim
def sIf (t : M Bool) (g g' : M Fl) : M Fl := fun env st => (t env st).bind fun t env st => if t then g env st else g' env st
theorem vs_if {ss' : List Stmt} (h : VT X W e ta) (h1 : VSs X W ss g) (h2 : VSs X W ss' g') : VS X W (.If e ss ss' pos) (sIf ta g g') := PSof (ps_if h h1 h2) fun D₀ σ H ⟨b, F, c, env, st, e1, e2, r, p⟩ =>
  sT_at e1 e2 r p fun t env1 st1 F1 c1 H1 s1 r1 p1 => by
    cases t with
    | true => rw [if_pos rfl] at p1 ⊢; exact ⟨b, F1, c1, env1, st1, e1, e2, r1, p1⟩
    | false => rw [if_neg Bool.false_ne_true] at p1 ⊢; exact ⟨b, F1, c1, env1, st1, e1, e2, r1, p1⟩
/-! ### stores to names -/
def sSet (i : Nat) (fa : M D) : M Fl := fun env st => (fa env st).bind fun d env st => .ok .nx (env.set i (.va d)) st
def sSetF (i : Nat) (fa : M D) : M Fl := fun env st => (fa env st).bind fun d env st => .ok .nx (env.set i (.ow d)) st
theorem vs_set {i : Nat} {x : Str} {pos' : Pos} (hN : X.N.Nodup) (h : VE X W e fa) (hi : X.N[i]? = some x := by rfl) (hx : Loc X.env.scope x := by first | exact Or.inl rfl | exact Or.inr rfl) (hs : swapsWith e (some (.Name x pos')) pos.line X.env = pure false := by rfl)
    (hf : X.fn x = true ∨ X.env.scope.names.lookup x = some .local := by first | exact .inl rfl | exact .inr rfl | assumption) : VS X W (.Assign [.Name x pos'] e pos) (sSet i fa) := PSof (ps_set hN hi hx h hs hf) fun D₀ σ H ⟨b, F, c, env, st, e1, e2, r, p⟩ =>
  sE_at e1 e2 r p fun v d env1 st1 F1 c1 H1 s1 r1 rp1 p1 => PostS.here (r1.put rp1) p1
theorem vs_setF {i : Nat} {x : Str} {pos' : Pos} (hN : X.N.Nodup) (h : VF X W e fa) (hi : X.N[i]? = some x := by rfl) (hx : Loc X.env.scope x := by first | exact Or.inl rfl | exact Or.inr rfl) (hs : swapsWith e (some (.Name x pos')) pos.line X.env = pure false := by rfl)
    (hf : X.fn x = true ∨ X.env.scope.names.lookup x = some .local := by first | exact .inl rfl | exact .inr rfl | assumption) : VS X W (.Assign [.Name x pos'] e pos) (sSetF i fa) := PSof (ps_set hN hi hx h hs hf) fun D₀ σ H ⟨b, F, c, env, st, e1, e2, r, p⟩ =>
  sF_at e1 e2 r p fun a d env1 st1 F1 c1 H1 s1 r1 h1 h2 h3 h4 h5 p1 => PostS.here (r1.take h1 h2 h3 h4 h5) p1
/-- targets: what a value is stored to -/
def GSem (X : Cx) (g : TG) (is : List Nat) (t : D → EnvD → Option EnvD) : Prop := ∀ (b : Bs) (F : Addr → Prop) (c : List Addr) (env : EnvD) (st : Sto) (σ : L2.St) (H : Hp) (v : V) (d : D) (env' : EnvD) (Q : L2.St → Hp → Prop), b.K = X.K → b.mg = X.mg → Rel b F c env st σ H → Rp b.K b.mg F c H v d → t d env = some env' →
  (∀ σ', Rel b F c env' st σ' H → σ'.length = σ.length → (∀ i, i ∉ is → σ'[i]? = σ[i]?) → Q σ' H) → g v σ H Q
def VG (X : Cx) (tg : Expr) (g : TG) (is : List Nat) (t : D → EnvD → Option EnvD) : Prop := PG X tg g ∧ GSem X g is t
def gN (i : Nat) : D → EnvD → Option EnvD := fun d env => some (env.set i (.va d))
theorem vg_name {i : Nat} {x : Str} (hN : X.N.Nodup) (hi : X.N[i]? = some x := by rfl) (hx : Loc X.env.scope x := by first | exact Or.inl rfl | exact Or.inr rfl) (hf : X.fn x = true ∨ X.env.scope.names.lookup x = some .local := by first | exact .inl rfl | exact .inr rfl | assumption) : VG X (.Name x pos) (gName i) [i] (gN i) :=
  ⟨pg_name hN hi hx hf, fun b F c env st σ H v d env' Q _ _ r rp e q => by cases e; exact q _ (r.put rp) (List.length_set ..) fun j hj => List.getElem?_set_ne (fun e => hj (by rw [e]; exact List.mem_singleton.mpr rfl))⟩
def VGs (X : Cx) (ts : List Expr) (g : TGs) (is : List Nat) (t : List D → EnvD → Option EnvD) : Prop := PGs X ts g ∧ ∀ (b : Bs) (F : Addr → Prop) (c : List Addr) (env : EnvD) (st : Sto) (σ : L2.St) (H : Hp) (vs : List V) (ds : List D) (env' : EnvD) (Q : L2.St → Hp → Prop), b.K = X.K → b.mg = X.mg → Rel b F c env st σ H → Rps b.K b.mg F c H vs ds → t ds env = some env' →
  (∀ σ', Rel b F c env' st σ' H → σ'.length = σ.length → (∀ i, i ∉ is → σ'[i]? = σ[i]?) → Q σ' H) → g vs σ H Q
def gsN : List D → EnvD → Option EnvD
  | [], env => some env
  | _, _ => none
def gsC (t : D → EnvD → Option EnvD) (u : List D → EnvD → Option EnvD) : List D → EnvD → Option EnvD
  | d :: ds, env => (t d env).bind (u ds)
  | _, _ => none
theorem vgs_nil : VGs X [] gNil [] gsN := ⟨pgs_nil, fun b F c env st σ H vs ds env' Q _ _ r rp e q => by
  unfold gsN at e
  split at e
  · cases rp; cases e; exact ⟨rfl, q _ r rfl fun _ _ => rfl⟩
  · cases e⟩
theorem vgs_cons {es : List Expr} {t : D → EnvD → Option EnvD} {u : List D → EnvD → Option EnvD} {is js : List Nat} {g : TG} {g2 : TGs} (h : VG X e g is t) (h2 : VGs X es g2 js u) (hs : (assignEach (e :: es) X.env).map (·.2) = assign e X.env :: (assignEach es X.env).map (·.2) := by rfl) : VGs X (e :: es) (gCons g g2) (is ++ js) (gsC t u) := by
  obtain ⟨hg, kg⟩ := h
  obtain ⟨hg2, kg2⟩ := h2
  refine ⟨pgs_cons hg hg2 hs, fun b F c env st σ H vs ds env' Q e1 e2 r rp e q => ?_⟩
  cases rp with
  | nil => cases e
  | cons h hs' =>
    rename_i v vs d ds
    obtain ⟨env1, ea, eb⟩ := Option.bind_eq_some_iff.mp (show (t d env).bind (u ds) = some env' from e)
    exact ⟨_, _, rfl, kg b F c env st σ H _ d env1 _ e1 e2 r h ea fun σ' r' l1 k1 => kg2 b F c env1 st σ' H _ ds env' Q e1 e2 r' hs' eb fun σ2 r2 l2 k2 => q σ2 r2 (l2.trans l1) fun i hi => by
      simp only [List.mem_append, not_or] at hi
      rw [k2 i hi.2, k1 i hi.1]⟩
def gT (n : Nat) (t : List D → EnvD → Option EnvD) : D → EnvD → Option EnvD
  | .tup ds, env => if ds.length = n then t ds env else none
  | _, _ => none
theorem vg_tup {es : List Expr} {k n : Nat} {is : List Nat} {t : List D → EnvD → Option EnvD} {g : TGs} (hc : X.calm = true) (h : VGs X es g is t) (hn : (assignEach es X.env).length = n := by rfl) (hst : (assignEach es X.env).findIdx? (·.1) = none := by rfl) : VG X (.Tuple es k pos) (gTup X.K n g) is (gT n t) := by
  obtain ⟨hg, kg⟩ := h
  refine ⟨pg_tup hc hg hn hst, fun b F c env st σ H v d env' Q e1 e2 r rp e q => ?_⟩
  unfold gT at e
  split at e
  · split at e
    · rename_i hl
      cases rp with
      | tup h hs => exact ⟨_, _, rfl, e1 ▸ h.sq, by rw [hs.length]; exact hl, kg b F c env st σ H _ _ env' Q e1 e2 r hs e q⟩
    · cases e
  · cases e
def sAsg (t : D → EnvD → Option EnvD) (fa : M D) : M Fl := fun env st => (fa env st).bind fun d env st => match t d env with
  | some env => .ok .nx env st
  | none => .bad
theorem vs_asg {tg : Expr} {is : List Nat} {t : D → EnvD → Option EnvD} {gg : TG} (h : VE X W e fa) (hg : VG X tg gg is t) (hs : swapsWithSole [tg] e pos.line X.env = pure false := by rfl) (hw : swappedStores [tg] e X.env = pure none := by rfl)
    (h1 : (assignEach [tg] X.env).map (·.2) = [assign tg X.env] := by rfl) : VS X W (.Assign [tg] e pos) (sAsg t fa) := by
  obtain ⟨hg, kg⟩ := hg
  refine PSof (ps_asg h hg hs hw h1) fun D₀ σ H ⟨b, F, c, env, st, e1, e2, r, p⟩ => sE_at e1 e2 r p fun v d env1 st1 F1 c1 H1 s1 r1 rp1 p1 => ?_
  split at p1
  · rename_i env' e
    exact kg b F1 c1 env1 st1 σ H1 v d env' _ e1 e2 r1 rp1 e fun σ' r' _ _ => PostS.here (P := fun fl _ _ F c σ H => FlOk b D₀ F c σ H fl) r' p1
  · exact p1.elim
/-- a, b = x, y -/
def sPar (i j : Nat) (fs : M (List D)) : M Fl := fun env st => (fs env st).bind fun ds env st => match ds with
  | [d, d'] => .ok .nx ((env.set i (.va d)).set j (.va d')) st
  | _ => .bad
theorem vs_par {i j : Nat} {x y : Str} {fs : M (List D)} {px py pt : Pos} {kt k2 : Nat} {pt2 : Pos} (hc : X.calm = true) (hN : X.N.Nodup) (ha : VA X W [e, a] fs) (hi : X.N[i]? = some x := by rfl) (hj : X.N[j]? = some y := by rfl) (hij : i ≠ j := by decide)
    (hx : X.env.scope.names.lookup x = some .local := by rfl) (hy : X.env.scope.names.lookup y = some .local := by rfl)
    (hw : swappedStores [.Tuple [.Name x px, .Name y py] kt pt] (.Tuple [e, a] k2 pt2) X.env = pure (some [x, y]) := by rfl)
    (hs : swapsWithSole [.Tuple [.Name x px, .Name y py] kt pt] (.Tuple [e, a] k2 pt2) pos.line X.env = pure false := by rfl) :
    VS X W (.Assign [.Tuple [.Name x px, .Name y py] kt pt] (.Tuple [e, a] k2 pt2) pos) (sPar i j fs) := PSof (ps_par hc hN hi hj hij hx hy ha hw hs) fun D₀ σ H ⟨b, F, c, env, st, e1, e2, r, p⟩ =>
  sA_at e1 e2 r p fun vs ds env1 st1 F1 c1 H1 s1 r1 rp1 p1 => by
    split at p1
    · cases rp1 with
      | cons h t =>
        cases t with
        | cons h' t' =>
          cases t'
          exact ⟨_, _, rfl, PostS.here (P := fun fl _ _ F c σ H => FlOk b D₀ F c σ H fl) ((r1.put h).put h') p1⟩
    · exact p1.elim
/-- x op= e, ints -/
def sAug (i : Nat) (g : D → D → Option D) (fa : M D) : M Fl := fun env st => match env[i]? with
  | some (.va x) => (fa env st).bind fun y env st => match g x y with
    | some z => .ok .nx (env.set i (.va z)) st
    | none => .bad
  | _ => .bad
def AugOk (X : Cx) (W : WX) (ti : TIp) (g : D → D → Option D) : Prop := ∀ (F : Addr → Prop) (c : List Addr) (H : Hp) (x y : V) (dx dy d : D) (Q : VK), Rp X.K X.mg F c H x dx → Rp X.K X.mg F c H y dy → g dx dy = some d → (∀ v, Rp X.K X.mg F c H v d → Q v H) → ti x y H Q
theorem vs_aug {i : Nat} {x : Str} {op : Operator} {ti : TIp} {gg : D → D → Option D} {pos' : Pos} (ho : PIp X op ti) (hg : AugOk X W ti gg) (hN : X.N.Nodup) (h : VE X W e fa) (hi : X.N[i]? = some x := by rfl) (hx : Loc X.env.scope x := by first | exact Or.inl rfl | exact Or.inr rfl)
    (hf : X.fn x = true ∨ X.env.scope.names.lookup x = some .local := by first | exact .inl rfl | exact .inr rfl | assumption) : VS X W (.AugAssign (.Name x pos') op e pos) (sAug i gg fa) := PSof (ps_aug hN hi hx h ho hf) fun D₀ σ H ⟨b, F, c, env, st, e1, e2, r, p⟩ => by
  unfold sAug at p
  split at p
  · rename_i dx ex
    obtain ⟨v, ev, rp⟩ := r.sl i _ ex
    refine ⟨v, ev, sE_at e1 e2 r p fun u dy env1 st1 F1 c1 H1 s1 r1 rp1 p1 => ?_⟩
    split at p1
    · rename_i z ez
      rw [e1, e2] at rp rp1
      exact hg F1 c1 H1 v u dx dy z _ (rp.stp s1) rp1 ez fun w rw_ => PostS.here (P := fun fl _ _ F c σ H => FlOk b D₀ F c σ H fl) (r1.put (by rw [e1, e2]; exact rw_)) p1
    · exact p1.elim
  · exact p.elim
def addII : D → D → Option D
  | .int i, .int j => some (.int (i + j))
  | _, _ => none
theorem aug_add : AugOk X W (ipI fun i j => i + j) addII := fun F c H x y dx dy d Q hx hy e q => by
  unfold addII at e
  split at e
  · cases hx; cases hy; cases e; exact ⟨_, _, rfl, rfl, q _ (.int _)⟩
  · cases e
theorem aug_sub : AugOk X W (ipI fun i j => i - j) subI := fun F c H x y dx dy d Q hx hy e q => by
  unfold subI at e
  split at e
  · cases hx; cases hy; cases e; exact ⟨_, _, rfl, rfl, q _ (.int _)⟩
  · cases e
theorem aug_fdiv : AugOk X W (rI CDivW fun i j => .int (i / j)) fdivI := fun F c H x y dx dy d Q hx hy e q => by
  unfold fdivI at e
  split at e
  · cases hx; cases hy
    split at e
    · cases e; exact ⟨_, _, rfl, rfl, divOk_w (by assumption), q _ (.int _)⟩
    · cases e
  · cases e
end
end VE

namespace VE
open PySem PySem.Spec PyProof.Rows L2
variable [VEnv]
/-! ### a def as a function of data -/
inductive RF where
  | ok (d : D) (st : Sto)
  | ex (x : Exn) (st : Sto)
  | bad
@[reducible] def FM := List D → Sto → RF
def env0 (n : Nat) (ds : List D) : EnvD := ds.map .va ++ List.replicate (n - ds.length) .no
def toRF (fr : Bool) : R Fl → RF
  | .ok .nx _ st => if fr then .bad else .ok .non st
  | .ok (.rt d) _ st => if fr then .bad else .ok d st
  | .ok (.rf d) _ st => .ok d st
  | .ok _ _ _ => .bad
  | .ex x _ st => .ex x st
  | .bad => .bad
def toF (fr : Bool) (n : Nat) (g : M Fl) : FM := fun ds st => toRF fr (g (env0 n ds) st)
section
variable (K : PySem.W.Frag) (mg : Str → Option Value)
structure Old (F : Addr → Prop) (c : List Addr) (H : Hp) (F' : Addr → Prop) (c' : List Addr) (H' : Hp) : Prop where
  keep : ∀ a o, H a = some o → a ∉ c → Kept H' a o
  new : ∀ a, F' a → F a ∨ H a = none
  nwc : ∀ a ∈ c', a ∈ c ∨ H a = none
def RetOk (fr : Bool) (F' : Addr → Prop) (c' : List Addr) (H H' : Hp) (v : V) (d : D) : Prop :=
  if fr then ∃ a, v = .ref a ∧ ¬ F' a ∧ a ∉ c' ∧ H a = none ∧ OwnAt K mg F' c' H' a d else Rp K mg F' c' H' v d
def PostF (fr : Bool) (F : Addr → Prop) (c : List Addr) (H : Hp) (Q : VK) (E : XK) : RF → Prop
  | .ok d st => ∀ v F' c' H', Stp F c H F' c' H' → RelC K mg F' c' st H' → Old F c H F' c' H' → RetOk K mg fr F' c' H H' v d → Q v H'
  | .ex x st => ∀ cls dx F' c' H', Stp F c H F' c' H' → RelC K mg F' c' st H' → Old F c H F' c' H' → RpX K mg F' c' H' cls dx x → E cls dx H'
  | .bad => False
def spV (fr : Bool) (n : Nat) (m : FM) : Sp := fun vs H Q E => ∃ F c ds st, RelC K mg F c st H ∧ Rps K mg F c H vs ds ∧ ds.length = n ∧ PostF K mg fr F c H Q E (m ds st)
end
section
variable {P : Program} {w : World} {K : PySem.W.Frag} {mg : Str → Option Value} {base : Heap} {b : Bs} {F F' : Addr → Prop} {c c' : List Addr} {env : EnvD} {st st' : Sto} {σ : L2.St} {H H' : Hp}
theorem Rel.oldOf (r : Rel b F' c' env st σ H') : (∀ a ∈ b.c0, a ∈ c') → Old b.F0 b.c0 b.H0 F' c' H' := fun hc => by
  refine ⟨fun a o e hn => r.old a o e fun hm => ?_, r.new, r.nwc⟩
  rcases r.nwc a hm with h | h
  · exact hn h
  · rw [e] at h; cases h
/-- the state at a def's entry -/
theorem rel_start {n : Nat} {vs : List V} {ds : List D} (rc : RelC K mg F c st H) (rp : Rps K mg F c H vs ds) (N : List Str) (hn : n = N.length) : Rel ⟨K, mg, H, F, c⟩ F c (env0 n ds) st (L2.start N vs) H := by
  refine ⟨rc, ?_, fun i s e => ?_, fun i j a h => ?_, fun a o e _ => .inl e, fun a h => .inl h, fun a h => .inl h, rc.trk, fun a h => rc.ctrk h⟩
  · unfold env0 L2.start
    simp only [List.length_append, List.length_map, List.length_replicate, rp.length, hn]
  · unfold env0 at e
    by_cases hi : i < ds.length
    · rw [List.getElem?_append_left (by simpa using hi), List.getElem?_map] at e
      cases hd : ds[i]? with
      | none => rw [hd] at e; cases e
      | some d =>
        rw [hd] at e; cases e
        obtain ⟨v, hv, h⟩ := rp.get' hd
        refine ⟨v, ?_, h⟩
        unfold L2.start
        rw [List.getElem?_append_left (by rw [List.length_map, rp.length]; exact hi), List.getElem?_map, hv]
        rfl
    · rw [List.getElem?_append_right (by simpa using hi), List.getElem?_replicate] at e
      split at e
      · cases e; trivial
      · cases e
  · obtain ⟨d, e, _⟩ := h
    unfold env0 at e
    by_cases hi : i < ds.length
    · rw [List.getElem?_append_left (by simpa using hi), List.getElem?_map] at e
      cases hd : ds[i]? with
      | none => rw [hd] at e; cases e
      | some d => rw [hd] at e; cases e
    · rw [List.getElem?_append_right (by simpa using hi), List.getElem?_replicate] at e
      split at e <;> cases e
/-- from what a def wants to what its body must give -/
theorem okV_post {fr : Bool} {F : Addr → Prop} {c : List Addr} {H : Hp} {Q : VK} {E : XK} {y : R Fl} (p : PostF K mg fr F c H Q E (toRF fr y)) : PostS ⟨K, mg, H, F, c⟩ (fun cls d _ H => E cls d H) F c H (fun fl _ _ F' c' σ' H' => FlOk ⟨K, mg, H, F, c⟩ { nx := fun _ H' => Q .non H', rt := Q } F' c' σ' H' fl) y := by
  cases y with
  | bad => exact p
  | ex x env' st' => exact fun σ' F' c' H' cls d s r q => p cls d F' c' H' s r.rc (r.oldOf fun a ha => by obtain ⟨l, e⟩ := s.cs; rw [e]; exact List.mem_append_left _ ha) q
  | ok fl env' st' =>
    intro σ' F' c' H' s r
    have old : Old F c H F' c' H' := r.oldOf fun a ha => by obtain ⟨l, e⟩ := s.cs; rw [e]; exact List.mem_append_left _ ha
    cases fl with
    | nx =>
      cases fr with
      | true => exact p.elim
      | false => exact p .non F' c' H' s r.rc old .non
    | rt d =>
      cases fr with
      | true => exact p.elim
      | false => exact fun v rv => p v F' c' H' s r.rc old rv
    | rf d =>
      intro a h1 h2 h3 h4
      cases fr with
      | true => exact p _ F' c' H' s r.rc old ⟨a, rfl, h1, h2, h3, h4⟩
      | false =>
        have s2 : Stp F' c' H' (FAdd F' a) c' H' := ⟨fun _ h => .inl h, fun _ _ _ h => h, ⟨[], (List.append_nil c').symm⟩, fun _ _ h => h⟩
        refine p _ (FAdd F' a) c' H' (s.trans s2) (r.rc.stp s2 (fun x hf => ?_) (fun _ _ => rfl) (fun x hx hf => ?_) (fun _ _ h => h) (fun _ _ h => h) fun d ps e hf => hf.elim id fun z => absurd (z ▸ e) (h4.ntbl ps)) ⟨old.keep, fun x hf => ?_, old.nwc⟩ h4.rp
        · rcases hf with hf | rfl
          · exact r.rc.trk x hf
          · exact h4.trk
        · rcases hf with hf | rfl
          · exact r.rc.nf x hx hf
          · exact h2 hx
        · rcases hf with hf | rfl
          · exact old.new x hf
          · exact .inr h3
    | bk => exact p.elim
    | ct => exact p.elim
/-- a def keeps what its body tells -/
theorem okV {x qual : Str} {stm : Stmt} {f : Addr} {fd : FuncData} {N ps : List Str} {k n np : Nat} {g : M Fl} (fr : Bool) (Fn : Fun K x qual stm f fd) (S : FnScope N ps (defScope stm)) (hn : n = N.length) (hp : np = ps.length)
    (hb : ∀ (cdv : Value) (A : Around) (outer : List Env) (s : Shared) (H : Hp) (E : XK), Room k (A.deeper (envOfC qual (defScope stm) s.heap.objs.size f cdv)) →
      VSs (cxOf (L2.CX P w) P w K mg base N qual (defScope stm) f cdv A outer s H E) (fun cls d _ H => E cls d H) (defBody stm) g) : FnOk P w K mg base (L2.CX P w) (k + 1) f fd ps (spV K mg fr np (toF fr n g)) := by
  refine Fn.okX S (fun vs H Q E h => ?_) (fun cdv A outer s H vs Q E hr h => ?_)
  · obtain ⟨F, c, ds, st, _, rp, hl, _⟩ := h
    rw [rp.length, hl, hp]
  · obtain ⟨F, c, ds, st, rc, rp, hl, p⟩ := h
    refine ⟨_, hb cdv A outer s H E hr, ⟨K, mg, H, F, c⟩, F, c, env0 n ds, st, rfl, rfl, rel_start rc rp N hn, ?_⟩
    unfold toF at p
    generalize g (env0 n ds) st = y at p
    exact okV_post p
/-- a def of the module by its name -/
structure FnV (P : Program) (w : World) (K : PySem.W.Frag) (mg : Str → Option Value) (base : Heap) (k : Nat) (x : Str) (fr : Bool) (n : Nat) (m : FM) : Prop where
  ex : ∃ f fd ps, FnOk P w K mg base (L2.CX P w) k f fd ps (spV K mg fr n m) ∧ mg x = some (.ref f) ∧ PySem.W.keepIn K (.ref f) = true ∧ Binds K fd ps []
theorem FnV.mono {k j : Nat} {x : Str} {fr : Bool} {n : Nat} {m : FM} (h : FnV P w K mg base k x fr n m) (hk : k ≤ j) : FnV P w K mg base j x fr n m := by
  obtain ⟨f, fd, ps, F, a⟩ := h.ex
  exact ⟨f, fd, ps, F.mono hk, a⟩
theorem FnV.imp {k : Nat} {x : Str} {fr : Bool} {n : Nat} {m m' : FM} (h : FnV P w K mg base k x fr n m) (hm : ∀ ds st, m' ds st = .bad ∨ m' ds st = m ds st) : FnV P w K mg base k x fr n m' := by
  obtain ⟨f, fd, ps, F, a⟩ := h.ex
  refine ⟨f, fd, ps, F.imp fun vs H Q E q => ?_, a⟩
  obtain ⟨F, c, ds, st, rc, rp, hl, p⟩ := q
  refine ⟨F, c, ds, st, rc, rp, hl, ?_⟩
  rcases hm ds st with e | e
  · rw [e] at p; exact p.elim
  · rw [e] at p; exact p
/-- behind a call -/
theorem Rel.call (r : Rel b F c env st σ H) (s : Stp F c H F' c' H') (rc : RelC b.K b.mg F' c' st' H') (o : Old F c H F' c' H') : Rel b F' c' env st' σ H' := by
  refine ⟨rc, r.len, fun i sl he => ?_, r.ds, fun a x e hc => ?_, fun a hf => ?_, fun a ha => ?_, r.f0, r.k0⟩
  · have q := r.sl i sl he
    cases sl with
    | no => trivial
    | va d => obtain ⟨v, e, p⟩ := q; exact ⟨v, e, p.stp s⟩
    | gh cells vals => exact GhOk.stp q s
    | ow d =>
      obtain ⟨a, e, p1, p2, p3, p4⟩ := q
      obtain ⟨_, _, _, x, ex⟩ := r.own (i := i) ⟨d, he, e⟩
      refine ⟨a, e, fun hf => ?_, fun hc => ?_, p3, p4.stp s ?_⟩
      · rcases o.new a hf with h | h
        · exact p1 h
        · rw [ex] at h; cases h
      · rcases o.nwc a hc with h | h
        · exact p2 h
        · rw [ex] at h; cases h
      · rw [ex]; exact (o.keep a x ex p2).same fun ps z => p4.ntbl ps (z ▸ ex)
  · have hc' : a ∉ c := fun h => hc (by obtain ⟨l, e⟩ := s.cs; rw [e]; exact List.mem_append_left _ h)
    exact (r.old a x e hc').up fun y h => o.keep a y h hc'
  · rcases o.new a hf with h | h
    · exact r.new a h
    · exact .inr (r.H0none h)
  · rcases o.nwc a ha with h | h
    · exact r.nwc a h
    · exact .inr (r.H0none h)
end
section
variable {X : Cx} {W : WX} {e a : Expr} {es : List Expr} {pos p : Pos} {fs : M (List D)} {x : Str} {k j n : Nat} {m : FM}
def callR (m : FM) (ds : List D) : M D := fun env st => match m ds st with
  | .ok d st => .ok d env st
  | .ex x st => .ex x env st
  | .bad => .bad
def eCall (m : FM) (n : Nat) (fs : M (List D)) : M D := fun env st => (fs env st).bind fun ds env st => if ds.length = n then callR m ds env st else .bad
theorem call_of {fr : Bool} {b : Bs} {F : Addr → Prop} {c : List Addr} {env : EnvD} {st : Sto} {σ : L2.St} {H : Hp} {vs : List V} {ds : List D} {Q : VK} {Pk : D → EnvD → Sto → (Addr → Prop) → List Addr → Hp → Prop} (e1 : b.K = X.K) (e2 : b.mg = X.mg) (r : Rel b F c env st σ H) (rp : Rps b.K b.mg F c H vs ds) (hl : ds.length = n)
    (p : Post b W F c σ H Pk (callR m ds env st)) (hq : ∀ v d st F' c' H', Stp F c H F' c' H' → Rel b F' c' env st σ H' → RetOk b.K b.mg fr F' c' H H' v d → Pk d env st F' c' H' → Q v H') : spV X.K X.mg fr n m vs H Q (WE W σ) := by
  rw [← e1, ← e2]
  refine ⟨F, c, ds, st, r.rc, rp, hl, ?_⟩
  unfold callR at p
  generalize m ds st = y at p
  cases y with
  | ok d st' => exact fun v F' c' H' s rc o rv => hq v d st' F' c' H' s (r.call s rc o) rv (p F' c' H' s (r.call s rc o))
  | ex x st' => exact fun cls dx F' c' H' s rc o rx => p F' c' H' cls dx s (r.call s rc o) rx
  | bad => exact p
theorem ve_call (Fv : FnV X.prog X.w X.K X.mg X.base k x false n m) (hr : Room k X.A) (tk : Takes X W) (ha : VA X W (e :: es) fs) (hg : Gl X x := by rfl) (hdb : (x == ("__debug__" : Str)) = false := by decide)
    (he : starEach (e :: es) X.env = (false, eval e X.env) :: starEach es X.env := by rfl) (hpl : (backTo pos (starEach es X.env)).any (·.1) = false := by rfl) : VE X W (.Call (.Name x p) (e :: es) [] pos) (eCall m n fs) := by
  obtain ⟨f, fd, ps, Fo, hm, hk, hb⟩ := Fv.ex
  refine PEof (pe_callS Fo hr hg hm hk hb (passAt tk) ha hdb he hpl) fun σ H Q ⟨b, F, c, env, st, e1, e2, r, pp⟩ => tA_at e1 e2 r pp fun vs ds env1 st1 F1 c1 H1 s1 r1 rp1 p1 => ?_
  split at p1
  · rename_i hl
    exact call_of e1 e2 r1 rp1 hl p1 fun v d st F' c' H' s r rv q => q v rv
  · exact p1.elim
theorem vf_call (Fv : FnV X.prog X.w X.K X.mg X.base k x true n m) (hr : Room k X.A) (tk : Takes X W) (ha : VA X W (e :: es) fs) (hg : Gl X x := by rfl) (hdb : (x == ("__debug__" : Str)) = false := by decide)
    (he : starEach (e :: es) X.env = (false, eval e X.env) :: starEach es X.env := by rfl) (hpl : (backTo pos (starEach es X.env)).any (·.1) = false := by rfl) : VF X W (.Call (.Name x p) (e :: es) [] pos) (eCall m n fs) := by
  obtain ⟨f, fd, ps, Fo, hm, hk, hb⟩ := Fv.ex
  refine PEof (pe_callS Fo hr hg hm hk hb (passAt tk) ha hdb he hpl) fun σ H Q ⟨b, F, c, env, st, e1, e2, r, pp⟩ => tA_at e1 e2 r pp fun vs ds env1 st1 F1 c1 H1 s1 r1 rp1 p1 => ?_
  split at p1
  · rename_i hl
    exact call_of e1 e2 r1 rp1 hl p1 fun v d st F' c' H' s r rv q => by
      obtain ⟨a, rfl, h1, h2, h3, h4⟩ := rv
      exact q a h1 h2 (r1.H0none h3) (r1.nO h3) h4
  · exact p1.elim
end
end VE

namespace VE
open PySem PySem.Spec PyProof.Rows L2
variable [VEnv]
def wipeD (ws : List Nat) (env : EnvD) : EnvD := ws.foldl (fun e i => e.set i .no) env
theorem wipeD_length : ∀ (ws : List Nat) (env : EnvD), (wipeD ws env).length = env.length
  | [], _ => rfl
  | i :: ws, env => by
    show (wipeD ws (env.set i .no)).length = _
    rw [wipeD_length ws, List.length_set]
theorem wipeD_get : ∀ (ws : List Nat) (env : EnvD) (i : Nat) (s : Sl), (wipeD ws env)[i]? = some s → (s = .no) ∨ (i ∉ ws ∧ env[i]? = some s)
  | [], env, i, s, h => .inr ⟨by simp, h⟩
  | j :: ws, env, i, s, h => by
    have h' : (wipeD ws (env.set j .no))[i]? = some s := h
    rcases wipeD_get ws (env.set j .no) i s h' with q | ⟨h1, h2⟩
    · exact .inl q
    · by_cases q : j = i
      · subst q
        by_cases hl : j < env.length
        · rw [List.getElem?_set_self hl] at h2; cases h2; exact .inl rfl
        · rw [List.getElem?_eq_none (by simpa using hl)] at h2; cases h2
      · rw [List.getElem?_set_ne q] at h2
        exact .inr ⟨by simp only [List.mem_cons, not_or]; exact ⟨fun e => q e.symm, h1⟩, h2⟩
section
variable {X : Cx} {W : WX} {b : Bs} {F F' : Addr → Prop} {c c' : List Addr} {env : EnvD} {st st' : Sto} {σ : L2.St} {H H' : Hp}
theorem Rel.wipe (r : Rel b F c env st σ H) : ∀ ws : List Nat, Rel b F c (wipeD ws env) st σ H := by
  intro ws
  induction ws generalizing env with
  | nil => exact r
  | cons i ws ih => exact ih (r.forget i)
/-- the state over the slots with those of vs wiped, and over all -/
theorem wipe_at : ∀ (vs : List Nat) (σ : L2.St) (i : Nat), i ∉ vs → (wipe σ vs)[i]? = σ[i]?
  | [], _, _, _ => rfl
  | j :: vs, σ, i, h => by
    simp only [List.mem_cons, not_or] at h
    show ((wipe σ vs).set j none)[i]? = _
    rw [List.getElem?_set_ne (fun e => h.1 e.symm)]
    exact wipe_at vs σ i h.2
theorem Rel.reslot {σ' : L2.St} (r : Rel b F c env st σ H) (hl : σ'.length = σ.length) (h : ∀ (i : Nat) (s : Sl), env[i]? = some s → s = .no ∨ σ'[i]? = σ[i]?) : Rel b F c env st σ' H := by
  have own : ∀ {i a}, OwnA env σ' i a → OwnA env σ i a := fun {i a} ⟨d, e, e'⟩ => by
    rcases h i _ e with q | q
    · cases q
    · exact ⟨d, e, by rw [← q]; exact e'⟩
  refine ⟨r.rc, by rw [hl]; exact r.len, fun i s e => ?_, fun i j a h1 h2 => r.ds i j a (own h1) (own h2), r.old, r.new, r.nwc, r.f0, r.k0⟩
  have q := r.sl i s e
  rcases h i s e with z | z
  · rw [z]; trivial
  · cases s with
    | no => trivial
    | va d => obtain ⟨v, e', p⟩ := q; exact ⟨v, by rw [z]; exact e', p⟩
    | ow d => obtain ⟨a, e', p⟩ := q; exact ⟨a, by rw [z]; exact e', p⟩
    | gh cells vals => exact q
theorem Rel.toWipe (r : Rel b F c env st σ H) (vs : List Nat) : Rel b F c (wipeD vs env) st (L2.wipe σ vs) H :=
  (r.wipe vs).reslot (wipe_length σ vs) fun i s e => by
    rcases wipeD_get vs env i s e with q | ⟨q, _⟩
    · exact .inl q
    · exact .inr (wipe_at vs σ i q)
theorem Rel.ofWipe {vs : List Nat} (r : Rel b F c env st (L2.wipe σ vs) H) : Rel b F c (wipeD vs env) st σ H :=
  (r.wipe vs).reslot (wipe_length σ vs).symm fun i s e => by
    rcases wipeD_get vs env i s e with q | ⟨q, _⟩
    · exact .inl q
    · exact .inr (wipe_at vs σ i q).symm

/-! ### what a loop walks -/
/-- what a turn yields: data as it stands, or a tuple that is made for it -/
def YOk (b : Bs) (F : Addr → Prop) (c : List Addr) (H H2 : Hp) (x : V) (d : D) : Prop :=
  (H2 = H ∧ Rp b.K b.mg F c H x d) ∨ ∃ T xs es, x = .ref T ∧ H T = none ∧ H2 = upd H T (.tup xs) ∧ d = .tup es ∧ Rps b.K b.mg F c H xs es
def Walks (b : Bs) (J : It) (ds : List D) (F : Addr → Prop) (c : List Addr) (H : Hp) : Prop :=
  ∀ F' c' H', Stp F c H F' c' H' → ∀ i, (∀ d, ds[i]? = some d → J.go i H' ∧ ∀ x H2, J.yld i H' x H2 → YOk b F' c' H' H2 x d) ∧ (ds.length ≤ i → J.stop i H')
def VI (X : Cx) (W : WX) (tg iter : Expr) (f : M (List D)) : Prop := ∃ wi : TI, PI X tg iter wi ∧ ∀ σ H R, At X W f σ H (fun b ds _ _ F c H' => ∀ J, Walks b J ds F c H' → R J H') → wi σ H R
theorem Rel.yield (r : Rel b F c env st σ H) {x : V} {d : D} {H2 : Hp} (y : YOk b F c H H2 x d) : ∃ F2, Stp F c H F2 c H2 ∧ Rel b F2 c env st σ H2 ∧ Rp b.K b.mg F2 c H2 x d := by
  rcases y with ⟨rfl, rp⟩ | ⟨T, xs, es, rfl, hT, rfl, rfl, rps⟩
  · exact ⟨F, .refl, r, rp⟩
  · obtain ⟨s, r2⟩ := r.newF hT (.tup xs)
    exact ⟨_, s, r2, .tup (.inl ⟨.inr rfl, .inl upd_same⟩) (rps.stp s)⟩
theorem walks_list {a : Addr} {xs : List V} {ds : List D} (hF : F a) (hx : H a = some (.lst xs)) (r : Rps b.K b.mg F c H xs ds) : Walks b (Itl b.K a) ds F c H := by
  intro F' c' H' s i
  have h' := s.keep a _ hF hx
  have r' := r.stp s
  refine ⟨fun d hd => ?_, fun hi => ⟨xs, SqL.of h', by rw [r.length]; exact hi⟩⟩
  obtain ⟨v, hv, rp⟩ := r'.get' hd
  refine ⟨⟨xs, v, SqL.of h', hv⟩, fun x H2 y => ?_⟩
  obtain ⟨rfl, y⟩ := y
  have e := y xs (SqL.of h')
  rw [hv] at e; cases e
  exact .inl ⟨rfl, rp⟩
theorem walks_tup {a : Addr} {xs : List V} {ds : List D} (hx : FqT b.K F H a xs) (r : Rps b.K b.mg F c H xs ds) : Walks b (Itt b.K a) ds F c H := by
  intro F' c' H' s i
  have h' := hx.stp s
  have r' := r.stp s
  refine ⟨fun d hd => ?_, fun hi => ⟨xs, h'.sq, by rw [r.length]; exact hi⟩⟩
  obtain ⟨v, hv, rp⟩ := r'.get' hd
  refine ⟨⟨xs, v, h'.sq, hv⟩, fun x H2 y => ?_⟩
  obtain ⟨rfl, y⟩ := y
  have e := y xs h'.sq
  rw [hv] at e; cases e
  exact .inl ⟨rfl, rp⟩
def rngD (lo : Int) (n : Nat) : List D := (List.range n).map fun i => .int (lo + (i : Nat))
theorem walks_rng {lo : Int} {n : Nat} : Walks b (Itr lo n) (rngD lo n) F c H := by
  intro F' c' H' s i
  unfold rngD
  refine ⟨fun d hd => ?_, fun hi => by show n ≤ i; simpa using hi⟩
  rw [List.getElem?_map] at hd
  by_cases hi : i < n
  · rw [List.getElem?_range hi] at hd; cases hd
    refine ⟨hi, fun x H2 y => ?_⟩
    obtain ⟨rfl, rfl⟩ := y
    exact .inl ⟨rfl, .int _⟩
  · rw [List.getElem?_eq_none (by simpa using hi)] at hd; cases hd
def signsD (x : Str) : List D := x.cps.toList.map fun ch => .str ⟨#[ch]⟩
theorem walks_str {x : Str} : Walks b (Its x) (signsD x) F c H := by
  intro F' c' H' s i
  unfold signsD
  refine ⟨fun d hd => ?_, fun hi => by show x.cps.size ≤ i; simpa using hi⟩
  rw [List.getElem?_map] at hd
  by_cases hi : i < x.cps.size
  · have e : x.cps.toList[i]? = some x.cps[i] := by simp [hi]
    rw [e] at hd; cases hd
    refine ⟨hi, fun v H2 y => ?_⟩
    obtain ⟨rfl, ch, hc, rfl⟩ := y
    have e2 : x.cps[i]? = some x.cps[i] := by simp [hi]
    rw [e2] at hc; cases hc
    exact .inl ⟨rfl, .str _⟩
  · rw [List.getElem?_eq_none (by simpa using hi)] at hd; cases hd
variable {e a tg iter : Expr} {pos p : Pos} {fa : M D} {fs : M (List D)}
/-- over a list, a tuple, a text -/
def iL (fa : M D) : M (List D) := fun env st => (fa env st).bind fun d env st => match d with
  | .lst xs => .ok xs env st
  | _ => .bad
def iT (fa : M D) : M (List D) := fun env st => (fa env st).bind fun d env st => match d with
  | .tup xs => .ok xs env st
  | _ => .bad
def iS (fa : M D) : M (List D) := fun env st => (fa env st).bind fun d env st => match d with
  | .str x => .ok (signsD x) env st
  | _ => .bad
theorem vi_list (h : VE X W iter fa) : VI X W tg iter (iL fa) := ⟨_, pi_list h, fun σ H R ⟨b, F, c, env, st, e1, e2, r, p⟩ => tE_at e1 e2 r p fun v d env1 st1 F1 c1 H1 s1 r1 rp1 p1 => by
    split at p1
    · cases rp1 with
      | lst f hx hr => exact ⟨_, rfl, ⟨_, SqL.of hx⟩, Post.here r1 p1 _ (e1 ▸ walks_list f hx hr)⟩
    · exact p1.elim⟩
theorem vi_tup (h : VE X W iter fa) : VI X W tg iter (iT fa) := ⟨_, pi_tup h, fun σ H R ⟨b, F, c, env, st, e1, e2, r, p⟩ => tE_at e1 e2 r p fun v d env1 st1 F1 c1 H1 s1 r1 rp1 p1 => by
    split at p1
    · cases rp1 with
      | tup hx hr => exact ⟨_, rfl, ⟨_, e1 ▸ hx.sq⟩, Post.here r1 p1 _ (e1 ▸ walks_tup hx hr)⟩
    · exact p1.elim⟩
theorem vi_str (h : VE X W iter fa) : VI X W tg iter (iS fa) := ⟨_, pi_str h, fun σ H R ⟨b, F, c, env, st, e1, e2, r, p⟩ => tE_at e1 e2 r p fun v d env1 st1 F1 c1 H1 s1 r1 rp1 p1 => by
    split at p1
    · cases rp1 with
      | str x => exact ⟨_, rfl, Post.here r1 p1 _ walks_str⟩
    · exact p1.elim⟩
/-- a bound that range takes: kept shut, so that the kernel does not reckon it -/
noncomputable def rOk (j : Int) : Bool := @decide (-(2 ^ 62) ≤ j ∧ j < 2 ^ 62) (Classical.propDecidable _)
omit [VEnv] in
theorem rOk_iff {j : Int} : rOk j = true ↔ -(2 ^ 62) ≤ j ∧ j < 2 ^ 62 := by unfold rOk; exact @decide_eq_true_iff _ (Classical.propDecidable _)
noncomputable def iR1 (fa : M D) : M (List D) := fun env st => (fa env st).bind fun d env st => match d with
  | .int j => if rOk j then .ok (rngD 0 j.toNat) env st else .bad
  | _ => .bad
noncomputable def iR2 (fa fb : M D) : M (List D) := fun env st => (fa env st).bind fun d env st => (fb env st).bind fun d' env st => match d, d' with
  | .int i, .int j => if rOk i && rOk j then .ok (rngD i (j - i).toNat) env st else .bad
  | _, _ => .bad
theorem vi_r1 (hm : X.mg "range" = none) (h : VE X W e fa) (hg : Gl X "range" := by rfl) (hs : starEach [e] X.env = [(false, eval e X.env)] := by rfl) : VI X W tg (.Call (.Name "range" p) [e] [] pos) (iR1 fa) :=
  ⟨_, pi_range1 hg hm (pa_cons h pa_nil (by rw [hs]; rfl)) hs, fun σ H R ⟨b, F, c, env, st, e1, e2, r, p⟩ => tE_at e1 e2 r p fun v d env1 st1 F1 c1 H1 s1 r1 rp1 p1 => by
    split at p1
    · cases rp1
      split at p1
      · rename_i j hj
        rw [rOk_iff] at hj
        exact ⟨_, rfl, hj.1, hj.2, Post.here r1 p1 _ walks_rng⟩
      · exact p1.elim
    · exact p1.elim⟩
theorem vi_r2 {fb : M D} (hm : X.mg "range" = none) (h : VE X W e fa) (h2 : VE X W a fb) (hg : Gl X "range" := by rfl) (hs : starEach [e, a] X.env = [(false, eval e X.env), (false, eval a X.env)] := by rfl) (hs2 : starEach [a] X.env = [(false, eval a X.env)] := by rfl) : VI X W tg (.Call (.Name "range" p) [e, a] [] pos) (iR2 fa fb) :=
  ⟨_, pi_range2 hg hm (pa_cons h (pa_cons h2 pa_nil (by rw [hs2]; rfl)) (by rw [hs, hs2])) hs hs2, fun σ H R ⟨b, F, c, env, st, e1, e2, r, p⟩ => tE_at e1 e2 r p fun v d env1 st1 F1 c1 H1 s1 r1 rp1 p1 => tE_at e1 e2 r1 p1 fun v' d' env2 st2 F2 c2 H2 s2 r2 rp2 p2 => by
    split at p2
    · cases rp1; cases rp2
      split at p2
      · rename_i i j hj
        simp only [Bool.and_eq_true, rOk_iff] at hj
        exact ⟨_, _, rfl, ⟨hj.1.1, hj.1.2, hj.2.1, hj.2.2⟩, Post.here r2 p2 _ walks_rng⟩
      · exact p2.elim
    · exact p2.elim⟩
/-! ### for -/
def forL (t : D → EnvD → Option EnvD) (ws : List Nat) (g : M Fl) : List D → M Fl
  | [], env, st => .ok .nx env st
  | d :: ds, env, st => match t d env with
    | none => .bad
    | some env => (g env st).bind fun fl env st => match fl with
      | .nx => forL t ws g ds (wipeD ws env) st
      | .ct => forL t ws g ds (wipeD ws env) st
      | .bk => .ok .nx env st
      | .rt d => .ok (.rt d) env st
      | .rf d => .ok (.rf d) env st
def sFor (fi : M (List D)) (t : D → EnvD → Option EnvD) (ws : List Nat) (g : M Fl) : M Fl := fun env st => (fi env st).bind fun ds env st => forL t ws g ds env st
theorem vs_for {body : List Stmt} {is : List Nat} {gg : TG} {fi : M (List D)} {t : D → EnvD → Option EnvD} {g : M Fl} (ws : List Nat) (hp : PassesOwn (model X.prog X.w) X.A X.env X.xe) (hc : X.calm = true) (hi : VI X W tg iter fi) (hg : VG X tg gg is t) (hb : VSs X W body g)
    (hs : ∀ x, foldedSetIterable iter X.env x = pure x := by intro _; rfl) : VS X W (.For tg iter body [] pos) (sFor fi t ws g) := by
  obtain ⟨wi, pi, ki⟩ := hi
  obtain ⟨pg, kg⟩ := hg
  refine PSof (ps_for hp hc pi pg hb hs) fun D₀ σ H ⟨b, F, c, env, st, e1, e2, r, p⟩ => ?_
  refine ki σ H _ ⟨b, F, c, env, st, e1, e2, r, (PostS.of p).mono fun ds env1 st1 F1 c1 H1 s1 r1 p1 J wk => ?_⟩
  refine ⟨fun i m σ' H' => m = ds.length - i ∧ i ≤ ds.length ∧ ∃ F' c' env' st', Stp F1 c1 H1 F' c' H' ∧ Rel b F' c' env' st' σ' H' ∧ PostS b W F' c' H' (fun fl _ _ F c σ H => FlOk b D₀ F c σ H fl) (forL t ws g (ds.drop i) env' st'),
    ⟨ds.length, by simp, Nat.zero_le _, F1, c1, env1, st1, .refl, r1, p1⟩, fun i m σ' H' hw => ?_⟩
  obtain ⟨rfl, hi, F', c', env', st', s', r', p'⟩ := hw
  obtain ⟨wgo, wstop⟩ := wk F' c' H' s' i
  by_cases hlt : i < ds.length
  · refine .inr ?_
    obtain ⟨go, yl⟩ := wgo ds[i] (List.getElem?_eq_getElem hlt)
    refine ⟨go, _, fun σ2 H2 n => ⟨ds.length - (i + 1), by omega, n⟩, fun x H2 y => ?_⟩
    obtain ⟨F2, s2, r2, rp⟩ := r'.yield (yl x H2 y)
    rw [List.drop_eq_getElem_cons hlt] at p'
    unfold forL at p'
    split at p'
    · exact p'.elim
    · rename_i env2 et
      refine kg b F2 c' env' st' σ' H2 x _ env2 _ e1 e2 r2 rp et fun σ3 r3 _ _ => ?_
      refine ⟨b, F2, c', env2, st', e1, e2, r3, (PostS.bind (p'.stp s2)).mono fun fl env4 st4 F4 c4 σ4 H4 s4 r4 q => ?_⟩
      cases fl with
      | nx => exact ⟨rfl, by omega, F4, c4, _, st4, s'.trans (s2.trans s4), r4.wipe ws, q⟩
      | ct => exact ⟨rfl, by omega, F4, c4, _, st4, s'.trans (s2.trans s4), r4.wipe ws, q⟩
      | bk => exact PostS.here r4 q
      | rt d => exact PostS.here r4 q
      | rf d => exact PostS.here r4 q
  · have e : i = ds.length := by omega
    subst e
    rw [List.drop_length] at p'
    exact .inl ⟨wstop (Nat.le_refl _), PostS.here r' p'⟩

/-! ### comprehensions -/
def compL (t : D → EnvD → Option EnvD) (ws : List Nat) (tt : M Bool) (fe : M D) : List D → List D → M D
  | [], acc, env, st => .ok (.lst acc) (wipeD ws env) st
  | d :: ds, acc, env, st => match t d (wipeD ws env) with
    | none => .bad
    | some env => match tt env st with
      | .ok true env st => (match fe env st with
        | .ok y env st => if acc.length < 16777216 then compL t ws tt fe ds (acc ++ [y]) env st else .bad
        | _ => .bad)
      | .ok false env st => compL t ws tt fe ds acc env st
      | _ => .bad
def eComp (fi : M (List D)) (t : D → EnvD → Option EnvD) (ws : List Nat) (tt : M Bool) (fe : M D) : M D := fun env st => (fi env st).bind fun ds env st => compL t ws tt fe ds [] env st
@[reducible] def W0 : WX := fun _ _ _ _ => False
theorem wipe_same {σ σ' : L2.St} {is vs : List Nat} (hl : σ'.length = σ.length) (h : ∀ i, i ∉ is → σ'[i]? = (L2.wipe σ vs)[i]?) (hs : ∀ i ∈ is, i ∈ vs) : L2.wipe σ' vs = L2.wipe σ vs := by
  apply List.ext_getElem?
  intro i
  by_cases hi : i ∈ vs
  · have key : ∀ (τ : L2.St) (vs : List Nat), i ∈ vs → (L2.wipe τ vs)[i]? = if i < τ.length then some none else none := by
      intro τ vs
      induction vs with
      | nil => intro h; cases h
      | cons j vs ih =>
        intro h
        show ((L2.wipe τ vs).set j none)[i]? = _
        by_cases q : j = i
        · subst q
          by_cases hlt : j < τ.length
          · rw [if_pos hlt, List.getElem?_set_self (by rw [wipe_length]; exact hlt)]
          · rw [if_neg hlt, List.getElem?_eq_none (by rw [List.length_set, wipe_length]; omega)]
        · rw [List.getElem?_set_ne q]
          exact ih (by rcases List.mem_cons.mp h with e | e; exact absurd e.symm q; exact e)
    rw [key σ' vs hi, key σ vs hi, hl]
  · rw [wipe_at vs σ' i hi, h i fun hm => hi (hs i hm)]
/-- the new list of a comprehension is set aside while an element is made -/
def Bs.aside (b : Bs) (a : Addr) (o : HO) : Bs := { b with H0 := upd b.H0 a o }
theorem Rel.aside {a : Addr} {o : HO} (r : Rel b F c env st σ H) (h1 : ¬ F a) (h2 : a ∉ c) (h4 : ∀ i, ¬ OwnA env σ i a) (ho : H a = some o) : Rel (b.aside a o) F c env st σ H := by
  have up : ∀ x, x ≠ a → (b.aside a o).H0 x = b.H0 x := fun x hx => upd_ne hx
  have tr : ∀ x, (∃ y, b.H0 x = some y) → ∃ y, (b.aside a o).H0 x = some y := fun x ⟨y, e⟩ => by
    by_cases hx : x = a
    · exact ⟨o, by rw [hx]; exact upd_same⟩
    · exact ⟨y, by rw [up x hx]; exact e⟩
  refine ⟨r.rc, r.len, fun i s e => ?_, r.ds, fun x y e hc => ?_, fun x hx => ?_, fun x hx => ?_, fun x hx => tr x (r.f0 x hx), fun x hx => tr x (r.k0 x hx)⟩
  · have q := r.sl i s e
    cases s with
    | no => trivial
    | va d => exact q
    | gh cells vals => exact q
    | ow d =>
      obtain ⟨a', e', p1, p2, p3, p4⟩ := q
      refine ⟨a', e', p1, p2, ?_, p4⟩
      rw [up a' fun z => h4 i ⟨d, e, by rw [← z]; exact e'⟩]
      exact p3
  · by_cases hx : x = a
    · subst hx
      have : upd b.H0 x o x = some y := e
      rw [upd_same] at this; cases this; exact .inl ho
    · rw [up x hx] at e; exact r.old x y e hc
  · rcases r.new x hx with h | h
    · exact .inl h
    · exact .inr (by rw [up x fun z => h1 (z ▸ hx)]; exact h)
  · rcases r.nwc x hx with h | h
    · exact .inl h
    · exact .inr (by rw [up x fun z => h2 (z ▸ hx)]; exact h)
theorem Rel.unaside {a : Addr} {o o' : HO} (r : Rel (b.aside a o) F c env st σ H) (ho : NotOwn o) (hot : ∀ ps, o ≠ .tbl ps) (h0 : b.H0 a = none) (f0 : ∀ a, b.F0 a → ∃ o, b.H0 a = some o) (k0 : ∀ a ∈ b.c0, ∃ o, b.H0 a = some o) : (¬ F a ∧ a ∉ c ∧ (∀ i, ¬ OwnA env σ i a) ∧ H a = some o) ∧ Stp F c H F c (upd H a o') ∧ Rel b F c env st σ (upd H a o') := by
  have ha : (b.aside a o).H0 a = some o := upd_same
  have hf : ¬ b.F0 a := fun h => by
    obtain ⟨o, e⟩ := f0 a h
    rw [h0] at e; cases e
  have hc0 : a ∉ b.c0 := fun h => by
    obtain ⟨o, e⟩ := k0 a h
    rw [h0] at e; cases e
  have up : ∀ x, x ≠ a → (b.aside a o).H0 x = b.H0 x := fun x hx => upd_ne hx
  have nF : ¬ F a := fun h => by
    rcases r.new a h with q | q
    · exact hf q
    · rw [ha] at q; cases q
  have nc : a ∉ c := fun h => by
    rcases r.nwc a h with q | q
    · exact hc0 q
    · rw [ha] at q; cases q
  have nO : ∀ i, ¬ OwnA env σ i a := fun i h => by
    obtain ⟨_, _, q, _⟩ := r.own h
    rw [ha] at q; cases q
  have s : Stp F c H F c (upd H a o') := ⟨fun _ h => h, fun x y f e => by rw [upd_ne (fun z : x = a => nF (z ▸ f))]; exact e, ⟨[], (List.append_nil c).symm⟩, own_upd fun x z => by rw [(r.old a o ha nc).same hot] at z; exact ho x (Option.some.inj z)⟩
  have ne : ∀ x, x ≠ a → upd H a o' x = H x := fun x h => upd_ne h
  refine ⟨⟨nF, nc, nO, (r.old a o ha nc).same hot⟩, s, r.rc.stp s (fun x hx => ?_) (fun x hx => ne x fun z => nc (z ▸ hx)) r.rc.nf (fun d x e => by rw [ne d fun z => by rw [z, (r.old a o ha nc).same hot] at e; exact ho x (Option.some.inj e)]; exact e) (fun d ps e => by rw [ne d fun z => by rw [z, (r.old a o ha nc).same hot] at e; exact hot ps (Option.some.inj e)]; exact e) (fun _ _ _ h => h), r.len, fun i sl e => ?_, r.ds, fun x y e hc => ?_, fun x hx => ?_, fun x hx => ?_, f0, k0⟩
  · obtain ⟨y, e⟩ := r.rc.trk x hx
    exact ⟨y, s.keep x y hx e⟩
  · have q := r.sl i sl e
    cases sl with
    | no => trivial
    | va d => obtain ⟨v, e', p⟩ := q; exact ⟨v, e', p.stp s⟩
    | gh cells vals => exact GhOk.stp q s
    | ow d =>
      obtain ⟨a', e', p1, p2, p3, p4⟩ := q
      have hne : a' ≠ a := fun z => nO i ⟨d, e, by rw [← z]; exact e'⟩
      exact ⟨a', e', p1, p2, by rw [← up a' hne]; exact p3, p4.stp s (ne a' hne)⟩
  · have hne : x ≠ a := fun z => by rw [z, h0] at e; cases e
    exact (r.old x y (by rw [up x hne]; exact e) hc).up fun w h => .inl (by rw [ne x hne]; exact h)
  · rcases r.new x hx with h | h
    · exact .inl h
    · exact .inr (by rw [← up x fun z => nF (z ▸ hx)]; exact h)
  · rcases r.nwc x hx with h | h
    · exact .inl h
    · exact .inr (by rw [← up x fun z => nc (z ▸ hx)]; exact h)
theorem wipeD_in : ∀ (ws : List Nat) (env : EnvD) (i : Nat), i ∈ ws → i < env.length → (wipeD ws env)[i]? = some .no
  | j :: ws, env, i, h, hl => by
    show (wipeD ws (env.set j .no))[i]? = _
    by_cases hi : i ∈ ws
    · exact wipeD_in ws _ i hi (by rw [List.length_set]; exact hl)
    · have e : i = j := by rcases List.mem_cons.mp h with e | e; exact e; exact absurd e hi
      subst e
      have key : ∀ (ws : List Nat) (env : EnvD), i ∉ ws → (wipeD ws env)[i]? = env[i]? := by
        intro ws
        induction ws with
        | nil => intro _ _; rfl
        | cons k ws ih =>
          intro env h
          simp only [List.mem_cons, not_or] at h
          show (wipeD ws (env.set k .no))[i]? = _
          rw [ih _ h.2, List.getElem?_set_ne (fun e => h.1 e.symm)]
      rw [key ws _ hi, List.getElem?_set_self hl]
theorem wipeD_out : ∀ (ws : List Nat) (env : EnvD) (i : Nat), i ∉ ws → (wipeD ws env)[i]? = env[i]?
  | [], _, _, _ => rfl
  | k :: ws, env, i, h => by
    simp only [List.mem_cons, not_or] at h
    show (wipeD ws (env.set k .no))[i]? = _
    rw [wipeD_out ws _ i h.2, List.getElem?_set_ne (fun e => h.1 e.symm)]
theorem wipeD_twice (ws : List Nat) (env : EnvD) : wipeD ws (wipeD ws env) = wipeD ws env := by
  apply List.ext_getElem?
  intro i
  by_cases hi : i ∈ ws
  · by_cases hl : i < env.length
    · rw [wipeD_in ws _ i hi (by rw [wipeD_length]; exact hl), wipeD_in ws _ i hi hl]
    · rw [List.getElem?_eq_none (by rw [wipeD_length, wipeD_length]; omega), List.getElem?_eq_none (by rw [wipeD_length]; omega)]
  · rw [wipeD_out ws _ i hi]
theorem comp_of {is : List Nat} {gg : TG} {wi : TI} {fi : M (List D)} {t : D → EnvD → Option EnvD} {tt : M Bool} {fe : M D} {ws : List Nat} (ki : ∀ σ H R, At X W fi σ H (fun b ds _ _ F c H' => ∀ J, Walks b J ds F c H' → R J H') → wi σ H R) (his : ∀ i ∈ is, i ∈ ws) (kg : GSem X gg is t) :
    ∀ σ H Q, tF X W (eComp fi t ws tt fe) σ H Q → tLc wi gg (tT X W0 tt) (tE X W0 fe) ws σ H Q := fun σ H Q ⟨b, F, c, env, st, e1, e2, r, p⟩ => by
  refine ki σ H _ ⟨b, F, c, env, st, e1, e2, r, (Post.bind p).mono fun ds env1 st1 F1 c1 H1 s1 r1 p1 J wk D hD => ?_⟩
  obtain ⟨sD, rD⟩ := r1.newO hD (.lst [])
  have h0 : b.H0 D = none := r1.H0none hD
  refine ⟨fun i m H' => m = ds.length - i ∧ i ≤ ds.length ∧ ∃ F' c' env' st' acc accD, Stp F1 c1 H1 F' c' H' ∧ Rel b F' c' (wipeD ws env') st' (L2.wipe σ ws) H' ∧ (¬ F' D ∧ D ∉ c' ∧ (∀ i, ¬ OwnA (wipeD ws env') (L2.wipe σ ws) i D) ∧ H' D = some (.lst acc)) ∧ Rps b.K b.mg F' c' H' acc accD ∧
    Post b W F' c' σ H' (fun d env _ F c H' => ∀ a, ¬ F a → a ∉ c → b.H0 a = none → (∀ i, ¬ OwnA env σ i a) → OwnAt b.K b.mg F c H' a d → Q (.ref a) H') (compL t ws tt fe (ds.drop i) accD env' st'),
    ⟨ds.length, by simp, Nat.zero_le _, F1, c1, env1, st1, [], [], sD, rD.toWipe ws, ⟨r1.nF hD, r1.nC hD, fun i h => (r1.toWipe ws).nO hD i h, upd_same⟩, .nil, p1.stp sD⟩, fun i m H' hw => ?_⟩
  obtain ⟨rfl, hi, F', c', env', st', acc, accD, s', r', ⟨nF, nc, nO, hH⟩, rps, p'⟩ := hw
  obtain ⟨wgo, wstop⟩ := wk F' c' H' s' i
  by_cases hlt : i < ds.length
  · refine .inr ?_
    obtain ⟨go, yl⟩ := wgo ds[i] (List.getElem?_eq_getElem hlt)
    refine ⟨go, _, fun H2 n => ⟨ds.length - (i + 1), by omega, n⟩, fun x H2 y => ?_⟩
    have ra := r'.aside nF nc nO hH
    obtain ⟨F2, s2, r2, rp⟩ := ra.yield (b := b.aside D (.lst acc)) (yl x H2 y)
    rw [List.drop_eq_getElem_cons hlt] at p'
    unfold compL at p'
    split at p'
    · exact p'.elim
    · rename_i env2 et
      refine kg (b.aside D (.lst acc)) F2 c' _ st' _ H2 x _ env2 _ e1 e2 r2 rp et fun σ3 r3 hl3 hk3 => ?_
      have hw3 : L2.wipe σ3 ws = L2.wipe σ ws := by
        have q := wipe_same (σ := σ) (σ' := σ3) (is := is) (vs := ws) (by rw [hl3, wipe_length]) hk3 his
        exact q
      refine ⟨hw3, b.aside D (.lst acc), F2, c', env2, st', e1, e2, r3, ?_⟩
      generalize tt env2 st' = yt at p' ⊢
      cases yt with
      | bad => exact p'.elim
      | ex x env st => exact p'.elim
      | ok tv env3 st3 =>
        intro F3 c3 H3 s3 r3'
        cases tv with
        | true =>
          rw [if_pos rfl]
          refine ⟨b.aside D (.lst acc), F3, c3, env3, st3, e1, e2, r3', ?_⟩
          dsimp only at p'
          generalize fe env3 st3 = ye at p' ⊢
          cases ye with
          | bad => exact p'.elim
          | ex x env st => exact p'.elim
          | ok yv env4 st4 =>
            intro F4 c4 H4 s4 r4 v rv
            dsimp only at p'
            split at p'
            · rename_i hz
              obtain ⟨⟨nF4, nc4, nO4, hH4⟩, s5, r5⟩ := r4.unaside (o' := .lst (acc ++ [v])) (fun x z => by cases z) (fun x z => by cases z) h0 r1.f0 r1.k0
              have sAll : Stp F' c' H' F4 c4 (upd H4 D (.lst (acc ++ [v]))) := s2.trans (s3.trans (s4.trans s5))
              refine ⟨acc, hH4, by rw [rps.length, sizeLine_eq]; exact hz, rfl, by omega, F4, c4, env4, st4, acc ++ [v], accD ++ [yv], s'.trans sAll, ?_, ⟨nF4, nc4, fun i h => ?_, upd_same⟩, (rps.stp sAll).append (.cons (rv.stp s5) .nil), p'.stp sAll⟩
              · rw [← hw3]; exact r5.toWipe ws
              · rw [← hw3] at h
                have r6 := r4.toWipe ws
                obtain ⟨_, _, q, _⟩ := r6.own h
                have z : (b.aside D (.lst acc)).H0 D = some (.lst acc) := upd_same
                rw [z] at q; cases q
            · exact p'.elim
        | false =>
          rw [if_neg Bool.false_ne_true]
          dsimp only at p'
          obtain ⟨⟨nF4, nc4, nO4, hH4⟩, s5, r5⟩ := r3'.unaside (o' := .lst acc) (fun x z => by cases z) (fun x z => by cases z) h0 r1.f0 r1.k0
          have eH : upd H3 D (.lst acc) = H3 := by
            funext z
            by_cases hz : z = D
            · rw [hz, upd_same, hH4]
            · rw [upd_ne hz]
          rw [eH] at s5 r5
          have sAll : Stp F' c' H' F3 c3 H3 := s2.trans s3
          refine ⟨rfl, by omega, F3, c3, env3, st3, acc, accD, s'.trans sAll, ?_, ⟨nF4, nc4, fun i h => ?_, hH4⟩, rps.stp sAll, p'.stp sAll⟩
          · rw [← hw3]; exact r5.toWipe ws
          · rw [← hw3] at h
            have r6 := r3'.toWipe ws
            obtain ⟨_, _, q, _⟩ := r6.own h
            have z : (b.aside D (.lst acc)).H0 D = some (.lst acc) := upd_same
            rw [z] at q; cases q
  · have e : i = ds.length := by omega
    subst e
    rw [List.drop_length] at p'
    unfold compL at p'
    have r9 := r'.ofWipe
    rw [wipeD_twice] at r9
    exact .inl ⟨wstop (Nat.le_refl _), p' F' c' H' .refl r9 D nF nc h0 (fun i h => by
      have q := r9.own h
      exact nO i (by
        obtain ⟨d, h1, h2⟩ := h
        refine ⟨d, h1, ?_⟩
        rcases wipeD_get ws env' i _ h1 with z | ⟨z, _⟩
        · cases z
        · rw [wipe_at ws σ i z]; exact h2)) ⟨acc, hH, rps⟩⟩
theorem vf_comp {elt : Expr} {ifs : List Expr} {scope : Scope} {own : List (Str × Nat)} {is : List Nat} {gg : TG} {fi : M (List D)} {t : D → EnvD → Option EnvD} {tt : M Bool} {fe : M D} (hc : X.calm = true) (hN : X.N.Nodup) (hi : VI X W tg iter fi) (ok : BlkOk X.N X.env.scope scope own)
    (his : ∀ i ∈ is, i ∈ own.map (·.2)) (hg : ∀ (s : Shared) (H : Hp) (C : Addr) (cl : List (Str × Addr)) (fp : List Addr), VG (X.blk s H scope (compEnvC scope cl C X.env) fp) tg gg is t)
    (ht : ∀ (s : Shared) (H : Hp) (C : Addr) (cl : List (Str × Addr)) (fp : List Addr), PTs (X.blk s H scope (compEnvC scope cl C X.env) fp) ifs (tT X W0 tt))
    (he : ∀ (s : Shared) (H : Hp) (C : Addr) (cl : List (Str × Addr)) (fp : List Addr), VE (X.blk s H scope (compEnvC scope cl C X.env) fp) W0 elt fe) (hs : ∀ x, foldedSetIterable iter X.env x = pure x := by intro _; rfl) :
    VF X W (.ListComp elt [⟨tg, iter, ifs, 0⟩] scope pos) (eComp fi t (own.map (·.2)) tt fe) := by
  obtain ⟨wi, pi, ki⟩ := hi
  exact ⟨fun pins s0 σ H Q I h => (pe_lc (te := tE X W0 fe) hc hN pi ok (fun s H C cl fp => (hg s H C cl fp).1) ht he hs).run pins s0 σ H Q I (comp_of ki his (hg s0 H 0 [] []).2 σ H Q h)⟩
/-- x = [.. for ..] on one line, x a local -/
theorem vs_setComp {elt : Expr} {ifs : List Expr} {scope : Scope} {own : List (Str × Nat)} {is : List Nat} {gg : TG} {fi : M (List D)} {t : D → EnvD → Option EnvD} {tt : M Bool} {fe : M D} {i : Nat} {x : Str} {py sp : Pos} (hc : X.calm = true) (hN : X.N.Nodup) (hi : VI X W tg iter fi) (ok : BlkOk X.N X.env.scope scope own)
    (his : ∀ i ∈ is, i ∈ own.map (·.2)) (hg : ∀ (s : Shared) (H : Hp) (C : Addr) (cl : List (Str × Addr)) (fp : List Addr), VG (X.blk s H scope (compEnvC scope cl C X.env) fp) tg gg is t)
    (ht : ∀ (s : Shared) (H : Hp) (C : Addr) (cl : List (Str × Addr)) (fp : List Addr), PTs (X.blk s H scope (compEnvC scope cl C X.env) fp) ifs (tT X W0 tt))
    (he : ∀ (s : Shared) (H : Hp) (C : Addr) (cl : List (Str × Addr)) (fp : List Addr), VE (X.blk s H scope (compEnvC scope cl C X.env) fp) W0 elt fe) (hy : X.N[i]? = some x := by rfl) (hyl : X.env.scope.names.lookup x = some .local := by rfl)
    (hsw : swapsWith (.ListComp elt [⟨tg, iter, ifs, 0⟩] scope pos) (some (.Name x py)) sp.line X.env = pure true := by exact sw_true rfl rfl rfl (by decide +kernel)) (hs : ∀ x, foldedSetIterable iter X.env x = pure x := by intro _; rfl) :
    VS X W (.Assign [.Name x py] (.ListComp elt [⟨tg, iter, ifs, 0⟩] scope pos) sp) (sSetF i (eComp fi t (own.map (·.2)) tt fe)) := by
  obtain ⟨wi, pi, ki⟩ := hi
  refine ⟨fun pins s0 σ H D₀ I ⟨b, F, c, env, st, e1, e2, r, p⟩ => (ps_setLc (te := tE X W0 fe) hc hN hy hyl hsw pi ok (fun s H C cl fp => (hg s H C cl fp).1) ht he hs).run pins s0 σ H D₀ I ?_⟩
  refine comp_of (W := W) ki his (hg s0 H 0 [] []).2 σ H _ (sF_at e1 e2 r p fun a d env1 st1 F1 c1 H1 s1 r1 h1 h2 h3 h4 h5 p1 => ?_)
  exact PostS.here (P := fun fl _ _ F c σ H => FlOk b D₀ F c σ H fl) (r1.take h1 h2 h3 h4 h5) p1
def bYes : M Bool := fun env st => .ok true env st
theorem vts_nil : PTs X [] (tT X W bYes) := ⟨fun pins s σ H Q I ⟨b, F, c, env, st, e1, e2, r, p⟩ => pts_nil.run pins s σ H Q I (Post.here r p)⟩
theorem vts_one {Y : Cx} {tt : M Bool} (h : PT Y e (tT X W tt)) : PTs Y [e] (tT X W tt) := pts_one h
end
end VE

namespace VE
open PySem PySem.Spec PyProof.Rows L2
variable [VEnv]
/-! ### objects that change: lists and instances in the store -/
def putD (f : Str) (v : D) : List (Str × D) → List (Str × D)
  | [] => [(f, v)]
  | (g, x) :: r => if g = f then (g, v) :: r else (g, x) :: putD f v r
section
variable {K : PySem.W.Frag} {mg : Str → Option Value} {b : Bs} {F F' : Addr → Prop} {c c' : List Addr} {env : EnvD} {st st' : Sto} {σ : L2.St} {H H' : Hp}
theorem fst_put (f : Str) (v : V) (d : D) : ∀ (vs : List (Str × V)) (ds : List (Str × D)), vs.map (·.1) = ds.map (·.1) → (putF f v vs).map (·.1) = (putD f d ds).map (·.1)
  | [], [], _ => rfl
  | (g, x) :: vs, (g', x') :: ds, h => by
    have h1 : g = g' := (List.cons.inj h).1
    have h2 := (List.cons.inj h).2
    subst h1
    show (if g = f then (g, v) :: vs else (g, x) :: putF f v vs).map (·.1) = (if g = f then (g, d) :: ds else (g, x') :: putD f d ds).map (·.1)
    by_cases e : g = f
    · rw [if_pos e, if_pos e]; exact h
    · rw [if_neg e, if_neg e, List.map_cons, List.map_cons, fst_put f v d vs ds h2]
  | [], _ :: _, h => by cases h
  | _ :: _, [], h => by cases h
theorem snd_put {f : Str} {v : V} {d : D} (r : Rp K mg F c H v d) : ∀ (vs : List (Str × V)) (ds : List (Str × D)), vs.map (·.1) = ds.map (·.1) → Rps K mg F c H (vs.map (·.2)) (ds.map (·.2)) → Rps K mg F c H ((putF f v vs).map (·.2)) ((putD f d ds).map (·.2))
  | [], [], _, _ => .cons r .nil
  | (g, x) :: vs, (g', x') :: ds, h, q => by
    have h1 : g = g' := (List.cons.inj h).1
    have h2 := (List.cons.inj h).2
    subst h1
    cases q with
    | cons q1 q2 =>
      show Rps K mg F c H ((if g = f then (g, v) :: vs else (g, x) :: putF f v vs).map (·.2)) ((if g = f then (g, d) :: ds else (g, x') :: putD f d ds).map (·.2))
      by_cases e : g = f
      · rw [if_pos e, if_pos e]; exact .cons r q2
      · rw [if_neg e, if_neg e]; exact .cons q1 (snd_put r vs ds h2 q2)
  | [], _ :: _, h, _ => by cases h
  | _ :: _, [], h, _ => by cases h
theorem look_of {f : Str} : ∀ (vs : List (Str × V)) (ds : List (Str × D)), vs.map (·.1) = ds.map (·.1) → Rps K mg F c H (vs.map (·.2)) (ds.map (·.2)) →
    (∀ d, ds.lookup f = some d → ∃ v, vs.lookup f = some v ∧ Rp K mg F c H v d) ∧ (ds.lookup f = none → vs.lookup f = none)
  | [], [], _, _ => ⟨(fun d h => (nomatch h)), fun _ => rfl⟩
  | (g, x) :: vs, (g', x') :: ds, h, q => by
    have h1 : g = g' := (List.cons.inj h).1
    have h2 := (List.cons.inj h).2
    subst h1
    cases q with
    | cons q1 q2 =>
      obtain ⟨k1, k2⟩ := look_of (f := f) vs ds h2 q2
      rw [List.lookup_cons, List.lookup_cons]
      cases e : f == g with
      | true =>
        refine ⟨fun d z => ?_, fun z => ?_⟩
        · cases z
          exact ⟨_, rfl, q1⟩
        · cases z
      | false => exact ⟨k1, k2⟩
  | [], _ :: _, h, _ => by cases h
  | _ :: _, [], h, _ => by cases h
/-- what a reference points to -/
theorem Rel.cell (r : Rel b F c env st σ H) {v : V} {n : Nat} {x : Cell} (h : Rp b.K b.mg F c H v (.ref n)) (e : st[n]? = some x) : ∃ a, v = .ref a ∧ c[n]? = some a ∧ CellOk b.K b.mg F c H a x := by
  cases h with
  | ref h => exact ⟨_, rfl, h, r.rc.cl n _ x h e⟩
/-- the object that a reference points to changes -/
theorem Rel.cellUpd (r : Rel b F c env st σ H) {a : Addr} {n : Nat} {x : Cell} {o : HO} (hn : c[n]? = some a) (hx : Stp F c H F c (upd H a o) → CellOk b.K b.mg F c (upd H a o) a x) : Stp F c H F c (upd H a o) ∧ Rel b F c env (st.set n x) σ (upd H a o) := by
  have ha : a ∈ c := List.mem_of_getElem? hn
  have nF : ¬ F a := r.rc.nf a ha
  have hno : ∀ x, H a ≠ some (.own x) := fun x z => by
    have hl : n < st.length := by rw [r.rc.len]; exact (List.getElem?_eq_some_iff.mp hn).1
    obtain ⟨o', e, no⟩ := (r.rc.cl n a _ hn (List.getElem?_eq_getElem hl)).notOwn
    rw [z] at e; cases e
    exact no x rfl
  have htb : ∀ ps, H a ≠ some (.tbl ps) := by
    have hl : n < st.length := by rw [r.rc.len]; exact (List.getElem?_eq_some_iff.mp hn).1
    exact (r.rc.cl n a _ hn (List.getElem?_eq_getElem hl)).notTbl
  have ne : ∀ y, y ≠ a → upd H a o y = H y := fun y h => upd_ne h
  have s : Stp F c H F c (upd H a o) := ⟨fun _ h => h, fun y o' f e => by rw [ne y (fun z => nF (z ▸ f))]; exact e, ⟨[], (List.append_nil c).symm⟩, own_upd hno⟩
  refine ⟨s, ⟨fun y hf => ?_, by rw [List.length_set]; exact r.rc.len, r.rc.nd, fun m y z hm hz => ?_, r.rc.nf, fun p hp => (r.rc.tab p hp).stp s (fun ps e => by rw [ne p.1 fun z => htb ps (z ▸ e)]; exact e) (fun _ _ h => h) fun _ _ h => h⟩, r.len, fun i sl e => ?_, r.ds, fun y o' e hc => (r.old y o' e hc).up fun z h => .inl (by rw [ne y fun z => hc (z ▸ ha)]; exact h), r.new, r.nwc, r.f0, r.k0⟩
  · obtain ⟨o', e⟩ := r.rc.trk y hf
    exact ⟨o', s.keep y o' hf e⟩
  · by_cases q : n = m
    · subst q
      rw [hn] at hm; cases hm
      have hl : n < st.length := by rw [r.rc.len]; exact (List.getElem?_eq_some_iff.mp hn).1
      rw [List.getElem?_set_self hl] at hz; cases hz
      exact hx s
    · rw [List.getElem?_set_ne q] at hz
      have hy : y ≠ a := fun z => by
        subst z
        exact q ((List.getElem?_inj (List.getElem?_eq_some_iff.mp hn).1 r.rc.nd).mp (hn.trans hm.symm))
      have k := r.rc.cl m y z hm hz
      cases z with
      | lst ds => obtain ⟨vs, e, p⟩ := k; exact ⟨vs, by rw [ne y hy]; exact e, p.stp s⟩
      | ins nm fs => obtain ⟨C, dx, vfs, k1, k2, k3, p⟩ := k; exact ⟨C, dx, vfs, k1, by rw [ne y hy]; exact k2, k3, p.stp s⟩
      | slo nm fs => obtain ⟨C, dx, vs, k1, k2, p⟩ := k; exact ⟨C, dx, vs, k1, slAt_keep k2 (ne y hy) (fun d x e => by rw [ne d fun z => hno x (z ▸ e)]; exact e), p.stp s⟩
      | dct kvs => obtain ⟨vk, e, e2, p⟩ := k; exact ⟨vk, by rw [ne y hy]; exact e, e2, p.stp s⟩
  · have q := r.sl i sl e
    cases sl with
    | no => trivial
    | va d => obtain ⟨v, e', p⟩ := q; exact ⟨v, e', p.stp s⟩
    | gh cells vals => exact GhOk.stp q s
    | ow d =>
      obtain ⟨y, e', p1, p2, p3, p4⟩ := q
      exact ⟨y, e', p1, p2, p3, p4.stp s (ne y fun z => p2 (z ▸ ha))⟩
/-- a new object that may be changed -/
theorem Rel.cellNew (r : Rel b F c env st σ H) {p : Addr} {x : Cell} {o : HO} (hp : H p = none) (hx : Stp F c H F (c ++ [p]) (upd H p o) → CellOk b.K b.mg F (c ++ [p]) (upd H p o) p x) : Stp F c H F (c ++ [p]) (upd H p o) ∧ Rel b F (c ++ [p]) env (st ++ [x]) σ (upd H p o) ∧ Rp b.K b.mg F (c ++ [p]) (upd H p o) (.ref p) (.ref st.length) := by
  have nF := r.nF hp
  have nc := r.nC hp
  have ne : ∀ y, y ≠ p → upd H p o y = H y := fun y h => upd_ne h
  have hk : ∀ y o', H y = some o' → upd H p o y = some o' := fun y o' e => by rw [ne y (ne_of_none e hp)]; exact e
  have s : Stp F c H F (c ++ [p]) (upd H p o) := ⟨fun _ h => h, fun y o' f e => hk y o' e, ⟨[p], rfl⟩, own_new hp⟩
  have ec : (c ++ [p])[st.length]? = some p := by rw [r.rc.len]; simp
  refine ⟨s, ⟨⟨fun y hf => ?_, by rw [List.length_append, List.length_append, r.rc.len]; rfl, ?_, fun m y z hm hz => ?_, fun y hy => ?_, fun q hq => (r.rc.tab q hq).stp s (fun ps e => hk _ _ e) (fun _ _ h => h) fun ps e h => (List.mem_append.mp h).elim id fun z => by rw [List.mem_singleton] at z; rw [z, hp] at e; cases e⟩, r.len, fun i sl e => ?_, r.ds, fun y o' e hc => ?_, r.new, fun y hy => ?_, r.f0, r.k0⟩, .ref ec⟩
  · obtain ⟨o', e⟩ := r.rc.trk y hf
    exact ⟨o', hk y o' e⟩
  · rw [List.nodup_append]
    exact ⟨r.rc.nd, by simp, fun x1 hx1 y hy => by rw [List.mem_singleton] at hy; exact fun z => nc (hy ▸ z ▸ hx1)⟩
  · by_cases hl : m < st.length
    · rw [List.getElem?_append_left (by rw [← r.rc.len]; exact hl)] at hm
      rw [List.getElem?_append_left hl] at hz
      have hy : y ≠ p := fun e => nc (e ▸ List.mem_of_getElem? hm)
      have k := r.rc.cl m y z hm hz
      cases z with
      | lst ds => obtain ⟨vs, e, p⟩ := k; exact ⟨vs, by rw [ne y hy]; exact e, p.stp s⟩
      | ins nm fs => obtain ⟨C, dx, vfs, k1, k2, k3, p⟩ := k; exact ⟨C, dx, vfs, k1, by rw [ne y hy]; exact k2, k3, p.stp s⟩
      | slo nm fs => obtain ⟨C, dx, vs, k1, k2, p⟩ := k; exact ⟨C, dx, vs, k1, slAt_keep k2 (ne y hy) (fun d x e => hk d _ e), p.stp s⟩
      | dct kvs => obtain ⟨vk, e, e2, p⟩ := k; exact ⟨vk, by rw [ne y hy]; exact e, e2, p.stp s⟩
    · have hm' : m = st.length := by
        have := (List.getElem?_eq_some_iff.mp hz).1
        rw [List.length_append, List.length_singleton] at this
        omega
      subst hm'
      rw [ec] at hm; cases hm
      have : (st ++ [x])[st.length]? = some x := by simp
      rw [this] at hz; cases hz
      exact hx s
  · rcases List.mem_append.mp hy with h | h
    · exact r.rc.nf y h
    · rw [List.mem_singleton] at h; subst h; exact nF
  · have q := r.sl i sl e
    cases sl with
    | no => trivial
    | va d => obtain ⟨v, e', p⟩ := q; exact ⟨v, e', p.stp s⟩
    | gh cells vals => exact GhOk.stp q s
    | ow d =>
      obtain ⟨y, e', p1, p2, p3, p4⟩ := q
      have hy : y ≠ p := fun z => r.nO hp i ⟨d, e, by rw [← z]; exact e'⟩
      refine ⟨y, e', p1, fun h => ?_, p3, p4.stp s (ne y hy)⟩
      rcases List.mem_append.mp h with h | h
      · exact p2 h
      · exact hy (List.mem_singleton.mp h)
  · exact (r.old y o' e fun h => hc (List.mem_append_left _ h)).up fun z h => .inl (hk y z h)
  · rcases List.mem_append.mp hy with h | h
    · exact r.nwc y h
    · rw [List.mem_singleton] at h; subst h; exact .inr (r.H0none hp)
end
section
variable {X : Cx} {W : WX} {e a o : Expr} {es : List Expr} {pos pos' : Pos} {fa fb fo fi : M D} {fs : M (List D)} {x : Str}
/-- x = [..], a list that defs may change -/
def sCell (i : Nat) (fs : M (List D)) : M Fl := fun env st => (fs env st).bind fun ds env st => if ds.length ≤ 16777216 then .ok .nx (env.set i (.va (.ref st.length))) (st ++ [.lst ds]) else .bad
theorem vs_cell {i : Nat} (hN : X.N.Nodup) (h : VA X W es fs) (hi : X.N[i]? = some x := by rfl) (hx : Loc X.env.scope x := by first | exact Or.inl rfl | exact Or.inr rfl) (hs : swapsWith (.List es pos) (some (.Name x pos')) pos.line X.env = pure false := by rfl)
    (hf : X.fn x = true ∨ X.env.scope.names.lookup x = some .local := by first | exact .inl rfl | exact .inr rfl | assumption) {p2 : Pos} (hs : swapsWith (.List es p2) (some (.Name x pos')) pos.line X.env = pure false := by rfl) : VS X W (.Assign [.Name x pos'] (.List es p2) pos) (sCell i fs) := PSof (ps_set hN hi hx (pe_lst h) hs hf) fun D₀ σ H ⟨b, F, c, env, st, e1, e2, r, p⟩ =>
  sA_at e1 e2 r p fun vs ds env1 st1 F1 c1 H1 s1 r1 rp1 p1 => by
    split at p1
    · rename_i hl
      refine ⟨by rw [rp1.length, sizeLine_eq]; exact hl, fun q hq => ?_⟩
      obtain ⟨s2, r2, rp⟩ := r1.cellNew (x := .lst ds) hq fun s => ⟨vs, upd_same, rp1.stp s⟩
      exact PostS.here (P := fun fl _ _ F c σ H => FlOk b D₀ F c σ H fl) (r2.put (i := i) rp) (p1.stp s2)
    · exact p1.elim
/-- a[b], a list of the store or a value -/
def ixC : D → D → M D := fun x y env st => match x, y with
  | .ref n, .int i => (match st[n]? with
    | some (.lst ds) => ret (atI ds i) env st
    | _ => .bad)
  | x, y => ret (ixD x y) env st
theorem ok_ixC : OpOk X W (rIx X.K) ixC := fun b F c env st σ H x y dx dy Q e1 e2 r hx hy p => by
  unfold ixC at p
  split at p
  · rename_i n i
    split at p
    · rename_i ds es
      obtain ⟨a, rfl, hc, vs, ha, rps⟩ := r.cell hx es
      unfold ret at p
      split at p
      · rename_i d ed
        obtain ⟨v, hv, rp⟩ := rps.atI ed
        cases hy
        exact .inl ⟨a, vs, i, v, rfl, rfl, SqL.of ha, hv, Post.here r p v rp⟩
      · exact p.elim
    · exact p.elim
  · exact ok_ix b F c env st σ H x y _ _ Q e1 e2 r hx hy p
theorem ve_ixc (ha : VE X W e fa) (hb : VE X W a fb) (hs : PlainIx a := by exact fun _ _ => rfl) : VE X W (.Subscript e a pos) (eBin ixC fa fb) := PEof (pe_ix ix_seq ha hb hs) (tOp_of ok_ixC)
/-- o[i] = e, o a list of the store -/
def sItemC (fo fi fe : M D) : M Fl := fun env st => (fe env st).bind fun d env st => (fo env st).bind fun r env st => (fi env st).bind fun k env st => match r, k with
  | .ref n, .int k => (match st[n]? with
    | some (.lst ds) => (match ixN ds.length k with
      | some j => .ok .nx env (st.set n (.lst (ds.set j d)))
      | none => .bad)
    | _ => .bad)
  | _, _ => .bad
theorem vs_itemC {tp : Pos} {fe : M D} (he : VE X W e fe) (ho : VE X W o fo) (hi : VE X W a fi) (ha : ∀ v, assign (.Subscript o a tp) X.env v = (do
      let ov ← holding [v] (eval o X.env)
      let iv ← holding [v, ov] (eval a X.env)
      standAt tp
      holding [v, ov, iv] (setItem ov iv v)
      release [v, ov, iv] []) := by intro _; rfl)
    (hs : swapsWithSole [.Subscript o a tp] e pos.line X.env = pure false := by rfl) (hw : swappedStores [.Subscript o a tp] e X.env = pure none := by rfl)
    (h1 : (assignEach [.Subscript o a tp] X.env).map (·.2) = [assign (.Subscript o a tp) X.env] := by rfl) : VS X W (.Assign [.Subscript o a tp] e pos) (sItemC fo fi fe) := PSof (ps_asg he (pg_sub ho hi set_list ha) hs hw h1) fun D₀ σ H ⟨b, F, c, env, st, e1, e2, r, p⟩ =>
  sE_at e1 e2 r p fun v d env1 st1 F1 c1 H1 s1 r1 rp1 p1 => sE_at e1 e2 r1 p1 fun u r_ env2 st2 F2 c2 H2 s2 r2 rp2 p2 => sE_at e1 e2 r2 p2 fun w k env3 st3 F3 c3 H3 s3 r3 rp3 p3 => by
    split at p3
    · rename_i n k
      split at p3
      · rename_i ds es
        split at p3
        · rename_i j ej
          have rp2' := rp2.stp s3
          obtain ⟨q, rfl, hc, vs, hq, rps⟩ := r3.cell rp2' es
          cases rp3
          refine ⟨q, vs, k, j, rfl, rfl, hq, by rw [rps.length]; exact ej, ?_⟩
          obtain ⟨s4, r4⟩ := r3.cellUpd (o := .lst (vs.set j v)) (x := .lst (ds.set j d)) hc fun s => ⟨_, upd_same, Rps.set ((rp1.stp (s2.trans s3)).stp s) j (rps.stp s)⟩
          exact PostS.here (P := fun fl _ _ F c σ H => FlOk b D₀ F c σ H fl) r4 (p3.stp s4)
        · exact p3.elim
      · exact p3.elim
    · exact p3.elim
/-! ### attributes -/
/-- what is to be known of a class -/
structure ClsV (K : PySem.W.Frag) (mg : Str → Option Value) (n : Str) (fs : List Str) : Prop where
  cl : ∀ C, mg n = some (.ref C) → Cls K C
  no : ∀ C, mg n = some (.ref C) → ∀ f ∈ fs, NoAttr K C f
def eFld (n f : Str) (fa : M D) : M D := fun env st => (fa env st).bind fun r env st => match r with
  | .ref m => (match st[m]? with
    | some (.ins n' fs) => if n' = n then ret (fs.lookup f) env st else .bad
    | _ => .bad)
  | _ => .bad
theorem ve_fld {n f : Str} {fl : List Str} (cv : ClsV X.K X.mg n fl) (h : VE X W e fa) (hf : f ∈ fl := by decide +kernel) (hb : attributeBase e f X.env (eval e X.env) = eval e X.env := by rfl) : VE X W (.Attribute e f pos) (eFld n f fa) := PEof (pe_fld h hb) fun σ H Q ⟨b, F, c, env, st, e1, e2, r, p⟩ =>
  tE_at e1 e2 r p fun v d env1 st1 F1 c1 H1 s1 r1 rp1 p1 => by
    split at p1
    · split at p1
      · rename_i n' fs es
        split at p1
        · rename_i en
          subst en
          obtain ⟨q, rfl, hc, C, dx, vfs, k1, k2, k3, rps⟩ := r1.cell rp1 es
          unfold ret at p1
          split at p1
          · rename_i d ed
            obtain ⟨v, hv, rp⟩ := (look_of (f := f) vfs fs k3 rps).1 d ed
            rw [e2] at k1
            exact ⟨q, C, dx, vfs, v, rfl, k2, cv.cl C k1, cv.no C k1 f hf, hv, Post.here r1 p1 v rp⟩
          · exact p1.elim
        · exact p1.elim
      · exact p1.elim
    · exact p1.elim
def sFldS (n f : Str) (fo fe : M D) : M Fl := fun env st => (fe env st).bind fun d env st => (fo env st).bind fun r env st => match r with
  | .ref m => (match st[m]? with
    | some (.ins n' fs) => if n' = n ∧ fs.length < 1000 then .ok .nx env (st.set m (.ins n (putD f d fs))) else .bad
    | _ => .bad)
  | _ => .bad
theorem len_of {K : PySem.W.Frag} {mg : Str → Option Value} {F : Addr → Prop} {c : List Addr} {H : Hp} {vfs : List (Str × V)} {fs : List (Str × D)} (h : vfs.map (·.1) = fs.map (·.1)) : vfs.length = fs.length := by
  have := congrArg List.length h
  simpa using this
theorem vs_fld {n f : Str} {fl : List Str} {fe : M D} (cv : ClsV X.K X.mg n fl) (ho : VE X W o fo) (he : VE X W e fe) (hf : f ∈ fl := by decide +kernel) (hs : swapsWith e (some (.Attribute o f pos')) pos.line X.env = pure false := by rfl) : VS X W (.Assign [.Attribute o f pos'] e pos) (sFldS n f fo fe) := PSof (ps_fld ho he hs) fun D₀ σ H ⟨b, F, c, env, st, e1, e2, r, p⟩ =>
  sE_at e1 e2 r p fun v d env1 st1 F1 c1 H1 s1 r1 rp1 p1 => sE_at e1 e2 r1 p1 fun u r_ env2 st2 F2 c2 H2 s2 r2 rp2 p2 => by
    split at p2
    · rename_i m
      split at p2
      · rename_i n' fs es
        split at p2
        · rename_i hn
          obtain ⟨en, hl⟩ := hn
          subst en
          obtain ⟨q, rfl, hc, C, dx, vfs, k1, k2, k3, rps⟩ := r2.cell rp2 es
          have k1' := k1
          rw [e2] at k1'
          refine ⟨q, C, dx, vfs, rfl, k2, cv.cl C k1', cv.no C k1' f hf, by rw [len_of (K := X.K) (mg := X.mg) (F := F) (c := c) (H := H) k3]; exact hl, ?_⟩
          obtain ⟨s4, r4⟩ := r2.cellUpd (o := .ins C dx (putF f v vfs)) (x := .ins n' (putD f d fs)) hc fun s => ⟨C, dx, _, k1, upd_same, fst_put f v d vfs fs k3, snd_put ((rp1.stp s2).stp s) vfs fs k3 (rps.stp s)⟩
          exact PostS.here (P := fun fl _ _ F c σ H => FlOk b D₀ F c σ H fl) r4 (p2.stp s4)
        · exact p2.elim
      · exact p2.elim
    · exact p2.elim
/-- o.f op= e, ints -/
def sFldA (n f : Str) (g : D → D → Option D) (fo fe : M D) : M Fl := fun env st => (fo env st).bind fun r env st => match r with
  | .ref m => (match st[m]? with
    | some (.ins n' fs) => if n' = n then (match fs.lookup f with
        | some x => (fe env st).bind fun y env st => match g x y with
          | some z => (match st[m]? with
            | some (.ins n2 fs) => if n2 = n ∧ fs.length < 1000 then .ok .nx env (st.set m (.ins n (putD f z fs))) else .bad
            | _ => .bad)
          | none => .bad
        | none => .bad) else .bad
    | _ => .bad)
  | _ => .bad
theorem vs_fldA {op : Operator} {rd : V → V → Hp → VK → Prop} {gg : D → D → Option D} {n f : Str} {fl : List Str} {fe : M D} (hop : InOp X op rd) (hg : AugOk X W rd gg) (cv : ClsV X.K X.mg n fl) (ho : VE X W o fo) (he : VE X W e fe) (hf : f ∈ fl := by decide +kernel) : VS X W (.AugAssign (.Attribute o f pos') op e pos) (sFldA n f gg fo fe) := PSof (ps_fldaug ho he hop) fun D₀ σ H ⟨b, F, c, env, st, e1, e2, r, p⟩ =>
  sE_at e1 e2 r p fun v d env1 st1 F1 c1 H1 s1 r1 rp1 p1 => by
    split at p1
    · rename_i m
      split at p1
      · rename_i n' fs es
        split at p1
        · rename_i en
          subst en
          split at p1
          · rename_i x ex
            obtain ⟨q, rfl, hc, C, dx, vfs, k1, k2, k3, rps⟩ := r1.cell rp1 es
            have k1' := k1
            rw [e2] at k1'
            obtain ⟨xv, hxv, rpx⟩ := (look_of (f := f) vfs fs k3 rps).1 x ex
            refine ⟨q, C, dx, vfs, xv, rfl, k2, cv.cl C k1', cv.no C k1' f hf, hxv, sE_at e1 e2 r1 p1 fun u y env2 st2 F2 c2 H2 s2 r2 rp2 p2 => ?_⟩
            split at p2
            · rename_i z ez
              split at p2
              · rename_i n2 fs2 es2
                split at p2
                · rename_i hn
                  obtain ⟨en2, hl⟩ := hn
                  subst en2
                  have rr := (rp1.stp s2)
                  obtain ⟨q2, eq2, hc2, C2, dx2, vfs2, l1, l2, l3, rps2⟩ := r2.cell rr es2
                  cases eq2
                  have eC : C2 = C := by rw [k1] at l1; cases l1; rfl
                  subst eC
                  have rpx2 := rpx.stp s2
                  rw [e1, e2] at rpx2 rp2
                  refine hg F2 c2 H2 xv u x y z _ rpx2 rp2 ez fun w rw_ => ⟨dx2, vfs2, l2, by rw [len_of (K := X.K) (mg := X.mg) (F := F) (c := c) (H := H) l3]; exact hl, ?_⟩
                  obtain ⟨s4, r4⟩ := r2.cellUpd (o := .ins C2 dx2 (putF f w vfs2)) (x := .ins n2 (putD f z fs2)) hc2 fun s => ⟨C2, dx2, _, l1, upd_same, fst_put f w z vfs2 fs2 l3, snd_put (Rp.stp s (by rw [e1, e2]; exact rw_)) vfs2 fs2 l3 (rps2.stp s)⟩
                  exact PostS.here (P := fun fl _ _ F c σ H => FlOk b D₀ F c σ H fl) r4 (p2.stp s4)
                · exact p2.elim
              · exact p2.elim
            · exact p2.elim
          · exact p1.elim
        · exact p1.elim
      · exact p1.elim
    · exact p1.elim
/-! ### methods, instances -/
/-- a method m of the class n -/
structure MtV (P : Program) (w : World) (K : PySem.W.Frag) (mg : Str → Option Value) (base : Heap) (k : Nat) (n m : Str) (fr : Bool) (np : Nat) (mf : FM) : Prop where
  ex : ∃ C f fd ps, mg n = some (.ref C) ∧ Cls K C ∧ FnOk P w K mg base (L2.CX P w) k f fd ps (spV K mg fr np mf) ∧ Meth K C m f ∧ Binds K fd ps []
def eMeth (n m : Str) (mf : FM) (np : Nat) (fo : M D) (fs : M (List D)) : M D := fun env st => (fo env st).bind fun r env st => match r with
  | .ref q => (match st[q]? with
    | some (.ins n' fl) => if n' = n ∧ fl.lookup m = none then (fs env st).bind fun ds env st => if ds.length + 1 = np then callR mf (.ref q :: ds) env st else .bad else .bad
    | _ => .bad)
  | _ => .bad
theorem ve_meth {k np : Nat} {n m : Str} {mf : FM} {apos : Pos} {pl : Sem Bool} (Mv : MtV X.prog X.w X.K X.mg X.base k n m false np mf) (hr : Room k X.A) (tk : Takes X W) (ho : VE X W o fo) (ha : VA X W (e :: es) fs)
    (hst : starEach (e :: es) X.env = (false, eval e X.env) :: starEach es X.env := by rfl) (hpl : (backTo pos (starEach es X.env)).any (·.1) = false := by rfl)
    (ht : eval (.Call (.Attribute o m apos) (e :: es) [] pos) X.env = (do
      let ov ← eval o X.env
      standAt apos.atName
      let (f, first) ← holding [ov] (getMethod ov m pl)
      callWith pos f first (backTo pos (starEach (e :: es) X.env)) (backToKw pos (keywordEach [] X.env))) := by rfl) : VE X W (.Call (.Attribute o m apos) (e :: es) [] pos) (eMeth n m mf np fo fs) := by
  obtain ⟨C, f, fd, ps, hC, cl, Fo, hm, hb⟩ := Mv.ex
  refine ⟨fun pins s σ H Q I ⟨b, F, c, env, st, e1, e2, r, p⟩ => ?_⟩
  refine PySem.W.methodCall_KW (pl := pl) (thn (ho.run pins s σ H _ I (tE_at e1 e2 r p (Q := fun x H1 => ∃ a dx vfs, x = .ref a ∧ H1 a = some (.ins C dx vfs) ∧ vfs.lookup m = none ∧ tA X W fs σ H1 fun vs H2 => spV X.K X.mg false np mf (x :: vs) H2 Q (WE W σ)) fun v d env1 st1 F1 c1 H1 s1 r1 rp1 p1 => ?_)) fun u s1 ⟨x, H1, I1, rx, a, dx, vfs, ex, ea, l, q⟩ => ?_) ht
  · split at p1
    · rename_i q
      split at p1
      · rename_i n' fl es
        split at p1
        · rename_i hn
          obtain ⟨en, hl⟩ := hn
          subst en
          obtain ⟨a, rfl, hc, C', dx, vfs, k1, k2, k3, rps⟩ := r1.cell rp1 es
          rw [e2, hC] at k1; cases k1
          refine ⟨a, dx, vfs, rfl, k2, (look_of (f := m) vfs fl k3 rps).2 hl, tA_at e1 e2 r1 p1 fun vs ds env2 st2 F2 c2 H2 s2 r2 rp2 p2 => ?_⟩
          split at p2
          · rename_i hnp
            exact call_of e1 e2 r2 (.cons (rp1.stp s2) rp2) (by simpa using hnp) p2 fun v d st F' c' H' s r rv q => q v rv
          · exact p2.elim
        · exact p1.elim
      · exact p1.elim
    · exact p1.elim
  · subst ex
    obtain rfl : u = Value.ref a := rx
    refine getmeth_ok I1 ea cl hm l ?_
    refine PySem.W.callWith_K (first := [.ref a]) (h₀ := X.base) I.ok.mod.kin hm.kp (thn (ha.run pos pins s1 σ H1 _ I1 q) fun us s2 ⟨vs, H2, I2, r, q2⟩ => ⟨I2.kIn, ?_⟩) hst hpl
    exact run_fnS (E := WE W) (us := .ref a :: us) (vs := .ref a :: vs) Fo hr hb (passAt tk σ) I2 (.cons rfl r) q2
def eMeth0 (n m : Str) (mf : FM) (np : Nat) (fo : M D) : M D := fun env st => (fo env st).bind fun r env st => match r with
  | .ref q => (match st[q]? with
    | some (.ins n' fl) => if n' = n ∧ fl.lookup m = none ∧ np = 1 then callR mf [.ref q] env st else .bad
    | _ => .bad)
  | _ => .bad
theorem ve_meth0 {k np : Nat} {n m : Str} {mf : FM} {apos : Pos} {pl : Sem Bool} (Mv : MtV X.prog X.w X.K X.mg X.base k n m false np mf) (hr : Room k X.A) (tk : Takes X W) (ho : VE X W o fo)
    (ht : eval (.Call (.Attribute o m apos) [] [] pos) X.env = (do
      let ov ← eval o X.env
      standAt apos.atName
      let (f, first) ← holding [ov] (getMethod ov m pl)
      callWith pos f first (backTo pos (starEach [] X.env)) (backToKw pos (keywordEach [] X.env))) := by rfl) : VE X W (.Call (.Attribute o m apos) [] [] pos) (eMeth0 n m mf np fo) := by
  obtain ⟨C, f, fd, ps, hC, cl, Fo, hm, hb⟩ := Mv.ex
  refine ⟨fun pins s σ H Q I ⟨b, F, c, env, st, e1, e2, r, p⟩ => ?_⟩
  refine PySem.W.methodCall_KW (pl := pl) (thn (ho.run pins s σ H _ I (tE_at e1 e2 r p (Q := fun x H1 => ∃ a dx vfs, x = .ref a ∧ H1 a = some (.ins C dx vfs) ∧ vfs.lookup m = none ∧ spV X.K X.mg false np mf [x] H1 Q (WE W σ)) fun v d env1 st1 F1 c1 H1 s1 r1 rp1 p1 => ?_)) fun u s1 ⟨x, H1, I1, rx, a, dx, vfs, ex, ea, l, q⟩ => ?_) ht
  · split at p1
    · rename_i q
      split at p1
      · rename_i n' fl es
        split at p1
        · rename_i hn
          obtain ⟨en, hl, hnp⟩ := hn
          subst en
          obtain ⟨a, rfl, hc, C', dx, vfs, k1, k2, k3, rps⟩ := r1.cell rp1 es
          rw [e2, hC] at k1; cases k1
          refine ⟨a, dx, vfs, rfl, k2, (look_of (f := m) vfs fl k3 rps).2 hl, ?_⟩
          exact call_of e1 e2 r1 (.cons rp1 .nil) (by simp [hnp]) p1 fun v d st F' c' H' s r rv q => q v rv
        · exact p1.elim
      · exact p1.elim
    · exact p1.elim
  · subst ex
    obtain rfl : u = Value.ref a := rx
    refine getmeth_ok I1 ea cl hm l ?_
    exact PySem.W.callWith_K0 (first := [.ref a]) I1.kIn hm.kp (run_fnS (E := WE W) (us := [.ref a]) (vs := [.ref a]) Fo hr hb (passAt tk σ) I1 (.cons rfl .nil) q)
/-- a class whose instances are made by its __init__ -/
structure MkV (P : Program) (w : World) (K : PySem.W.Frag) (mg : Str → Option Value) (base : Heap) (k : Nat) (n : Str) (np : Nat) (mf : FM) : Prop where
  ex : ∃ C f fd ps, mg n = some (.ref C) ∧ Mk K C f ∧ FnOk P w K mg base (L2.CX P w) k f fd ps (spV K mg false np mf) ∧ Binds K fd ps []
def eMake (n : Str) (mf : FM) (np : Nat) (fs : M (List D)) : M D := fun env st => (fs env st).bind fun ds env st => if ds.length + 1 = np then (callR mf (.ref st.length :: ds) env (st ++ [.ins n []])).bind fun d env st' => match d with
  | .non => .ok (.ref st.length) env st'
  | _ => .bad else .bad
theorem run_makeS {k : Nat} {f C : Addr} {fd : FuncData} {ps : List Str} {sp : Sp} {E : L2.St → XK} {pins : List (Addr × Obj)} {σ : L2.St} {H : Hp} {s : Shared} {Q : VK} {us : List Value} {vs : List V} (M : Mk X.K C f) (F : FnOk X.prog X.w X.K X.mg X.base (L2.CX X.prog X.w) k f fd ps sp) (hr : Room (k + 1) X.A) (hb : Binds X.K fd ps [])
    (hx : PassesAt (L2.CX X.prog X.w) X σ (E σ)) (I : Inv X pins σ H s) (r : Vals vs us)
    (h : ∀ x dx, H x = none → H dx = none → dx ≠ x → sp (.ref x :: vs) (upd (upd H dx (.own x)) x (.ins C dx [])) (fun v H2 => v = .non ∧ Q (.ref x) H2) (E σ)) :
    wpAny (model X.prog X.w) X.A (call (.ref C) us) (EP X pins σ Q) X.xe s := by
  have hq := h (s.heap.objs.size + 1) s.heap.objs.size (I.hok.fresh (Nat.le_succ _)) (I.hok.fresh (Nat.le_refl _)) (Nat.ne_of_lt (Nat.lt_succ_self _))
  have I2 := Inv.made (C := C) I
  have r2 : Vals (V.ref (s.heap.objs.size + 1) :: vs) (Value.ref (s.heap.objs.size + 1) :: us) := .cons rfl r
  have hl : (Value.ref (s.heap.objs.size + 1) :: us).length = ps.length := by
    have e := r2.length
    rw [F.len _ _ _ _ hq] at e
    exact e.symm
  have bb := hb _ (Value.ref (s.heap.objs.size + 1) :: us) I2.kIn (by rw [List.append_nil]; exact hl)
  rw [List.append_nil] at bb
  refine wpAny_call (make_map (f := f) I.kIn M.makes M.init (beq_iff_eq.mp M.fn) (codeAny_mono (F.run _ X.stack _ _ ⟨Value.ref (s.heap.objs.size + 1) :: us, []⟩ (Value.ref (s.heap.objs.size + 1) :: us) _ _ (E σ) (hr.make C us [])
    (I2.env0.make C us []) bb r2 hq) fun r s' hq' => ?_))
  cases r with
  | error e => exact hx pins _ _ e s' I2 hq'
  | ok fl =>
    cases fl with
    | ret u =>
      obtain ⟨v, H', I3, rv, ev, q3⟩ := I2.after hq'
      subst ev
      exact ⟨rv, ⟨V.ref (s.heap.objs.size + 1), H', I3, rfl, q3⟩⟩
    | next => exact False.elim hq'
    | brk => exact False.elim hq'
    | cont => exact False.elim hq'
theorem ve_make {k np : Nat} {n : Str} {mf : FM} {p : Pos} (Mv : MkV X.prog X.w X.K X.mg X.base k n np mf) (hr : Room (k + 1) X.A) (tk : Takes X W) (ha : VA X W (e :: es) fs) (hg : Gl X n := by rfl) (hdb : (n == ("__debug__" : Str)) = false := by decide)
    (he : starEach (e :: es) X.env = (false, eval e X.env) :: starEach es X.env := by rfl) (hpl : (backTo pos (starEach es X.env)).any (·.1) = false := by rfl) : VE X W (.Call (.Name n p) (e :: es) [] pos) (eMake n mf np fs) := by
  obtain ⟨C, f, fd, ps, hC, mk, Fo, hb⟩ := Mv.ex
  refine ⟨fun pins s σ H Q I ⟨b, F, c, env, st, e1, e2, r, p⟩ => ?_⟩
  refine wpAny_Call_Name_kw (ld_glob I hg hC ?_ hdb)
  refine PySem.W.callWith_K (h₀ := X.base) I.ok.mod.kin mk.kp (thn (ha.run pos pins s σ H _ I (tA_at e1 e2 r p (Q := fun vs H1 => ∀ x dx, H1 x = none → H1 dx = none → dx ≠ x → spV X.K X.mg false np mf (.ref x :: vs) (upd (upd H1 dx (.own x)) x (.ins C dx [])) (fun v H2 => v = .non ∧ Q (.ref x) H2) (WE W σ))
    fun vs ds env1 st1 F1 c1 H1 s1 r1 rp1 p1 x dx hx hdx hne => ?_)) fun us s1 ⟨vs, H1, I1, r, q⟩ => ⟨I1.kIn, run_makeS (E := WE W) mk Fo hr hb (passAt tk σ) I1 r q⟩) he hpl
  split at p1
  · rename_i hnp
    obtain ⟨s2, r2⟩ := r1.newO hdx (.own x)
    have hx2 : upd H1 dx (.own x) x = none := by rw [upd_ne (Ne.symm hne)]; exact hx
    obtain ⟨s3, r3, rp3⟩ := r2.cellNew (x := .ins n []) (o := .ins C dx []) hx2 fun s => ⟨C, dx, [], by rw [e2]; exact hC, upd_same, rfl, .nil⟩
    exact call_of e1 e2 r3 (.cons rp3 (rp1.stp (s2.trans s3))) (by simpa using hnp) (Post.bind (Post.stp (s2.trans s3) p1)) fun v d st F' c' H' s r rv q => by
      dsimp only at q
      split at q
      · cases rv
        exact ⟨rfl, Post.here r q _ (rp3.stp s)⟩
      · exact q.elim
  · exact p1.elim
end
end VE

namespace VE
open PySem PySem.Spec PyProof.Rows L2
variable [VEnv]
section
variable {X : Cx} {W : WX} {e a o : Expr} {es : List Expr} {pos pos' p : Pos} {fa fb fo fi : M D} {fs : M (List D)} {x : Str}
/-! ### built-in functions by their values -/
def eBlt (g : List D → M D) (fs : M (List D)) : M D := fun env st => (fs env st).bind fun ds env st => g ds env st
def CallOk (X : Cx) (W : WX) (r : List V → Hp → VK → Prop) (g : List D → M D) : Prop := ∀ (b : Bs) (F : Addr → Prop) (c : List Addr) (env : EnvD) (st : Sto) (σ : L2.St) (H : Hp) (vs : List V) (ds : List D) (Q : VK), b.K = X.K → b.mg = X.mg → Rel b F c env st σ H →
  Rps b.K b.mg F c H vs ds → Post b W F c σ H (fun d _ _ F' c' H' => ∀ v, Rp b.K b.mg F' c' H' v d → Q v H') (g ds env st) → r vs H Q
def CallOkF (X : Cx) (W : WX) (r : List V → Hp → VK → Prop) (g : List D → M D) : Prop := ∀ (b : Bs) (F : Addr → Prop) (c : List Addr) (env : EnvD) (st : Sto) (σ : L2.St) (H : Hp) (vs : List V) (ds : List D) (Q : VK), b.K = X.K → b.mg = X.mg → Rel b F c env st σ H →
  Rps b.K b.mg F c H vs ds → Post b W F c σ H (fun d env _ F c H' => ∀ a, ¬ F a → a ∉ c → b.H0 a = none → (∀ i, ¬ OwnA env σ i a) → OwnAt b.K b.mg F c H' a d → Q (.ref a) H') (g ds env st) → r vs H Q
theorem tCB_of {r : List V → Hp → VK → Prop} {g : List D → M D} (hg : CallOk X W r g) : ∀ σ H Q, tE X W (eBlt g fs) σ H Q → tCB r (tA X W fs) σ H Q := fun σ H Q ⟨b, F, c, env, st, e1, e2, r0, p⟩ =>
  tA_at e1 e2 r0 p fun vs ds env1 st1 F1 c1 H1 s1 r1 rp1 p1 => hg b F1 c1 env1 st1 σ H1 vs ds Q e1 e2 r1 rp1 p1
theorem tCB_ofF {r : List V → Hp → VK → Prop} {g : List D → M D} (hg : CallOkF X W r g) : ∀ σ H Q, tF X W (eBlt g fs) σ H Q → tCB r (tA X W fs) σ H Q := fun σ H Q ⟨b, F, c, env, st, e1, e2, r0, p⟩ =>
  tA_at e1 e2 r0 p fun vs ds env1 st1 F1 c1 H1 s1 r1 rp1 p1 => hg b F1 c1 env1 st1 σ H1 vs ds Q e1 e2 r1 rp1 p1
theorem ve_blt {id : String} {r : List V → Hp → VK → Prop} {g : List D → M D} (hc : CallR X (.builtin id) r) (hg : CallOk X W r g) (hm : X.mg x = none) (hv : bootBuiltins x = some (.builtin id)) (ha : VA X W (e :: es) fs) (hgl : Gl X x := by rfl) (hn : x ≠ "__name__" := by decide) (hdb : (x == ("__debug__" : Str)) = false := by decide)
    (he : starEach (e :: es) X.env = (false, eval e X.env) :: starEach es X.env := by rfl) (hpl : (backTo pos (starEach es X.env)).any (·.1) = false := by rfl) : VE X W (.Call (.Name x p) (e :: es) [] pos) (eBlt g fs) := PEof (pe_callB hc hgl hm hv ha hn hdb he hpl) (tCB_of hg)
theorem ve_ty {T : String} {r : List V → Hp → VK → Prop} {g : List D → M D} (hc : CallR X (.type T) r) (hg : CallOk X W r g) (hm : X.mg x = none) (hv : bootBuiltins x = some (.type T)) (ha : VA X W (e :: es) fs) (hgl : Gl X x := by rfl) (hn : x ≠ "__name__" := by decide) (hdb : (x == ("__debug__" : Str)) = false := by decide)
    (he : starEach (e :: es) X.env = (false, eval e X.env) :: starEach es X.env := by rfl) (hpl : (backTo pos (starEach es X.env)).any (·.1) = false := by rfl) : VE X W (.Call (.Name x p) (e :: es) [] pos) (eBlt g fs) := PEof (pe_callTy hc hgl hm hv ha hn hdb he hpl) (tCB_of hg)
theorem vf_blt {id : String} {r : List V → Hp → VK → Prop} {g : List D → M D} (hc : CallR X (.builtin id) r) (hg : CallOkF X W r g) (hm : X.mg x = none) (hv : bootBuiltins x = some (.builtin id)) (ha : VA X W (e :: es) fs) (hgl : Gl X x := by rfl) (hn : x ≠ "__name__" := by decide) (hdb : (x == ("__debug__" : Str)) = false := by decide)
    (he : starEach (e :: es) X.env = (false, eval e X.env) :: starEach es X.env := by rfl) (hpl : (backTo pos (starEach es X.env)).any (·.1) = false := by rfl) : VF X W (.Call (.Name x p) (e :: es) [] pos) (eBlt g fs) := PEof (pe_callB hc hgl hm hv ha hn hdb he hpl) (tCB_ofF hg)
theorem vf_ty {T : String} {r : List V → Hp → VK → Prop} {g : List D → M D} (hc : CallR X (.type T) r) (hg : CallOkF X W r g) (hm : X.mg x = none) (hv : bootBuiltins x = some (.type T)) (ha : VA X W (e :: es) fs) (hgl : Gl X x := by rfl) (hn : x ≠ "__name__" := by decide) (hdb : (x == ("__debug__" : Str)) = false := by decide)
    (he : starEach (e :: es) X.env = (false, eval e X.env) :: starEach es X.env := by rfl) (hpl : (backTo pos (starEach es X.env)).any (·.1) = false := by rfl) : VF X W (.Call (.Name x p) (e :: es) [] pos) (eBlt g fs) := PEof (pe_callTy hc hgl hm hv ha hn hdb he hpl) (tCB_ofF hg)
/-- a function of the values alone -/
def b1 (g : D → Option D) : List D → M D := fun ds => match ds with
  | [d] => ret (g d)
  | _ => fun _ _ => .bad
theorem callOk_1 {r : List V → Hp → VK → Prop} {g : D → Option D} (h : ∀ (F : Addr → Prop) (c : List Addr) (H : Hp) (x : V) (dx d : D) (Q : VK), Rp X.K X.mg F c H x dx → g dx = some d → (∀ v, Rp X.K X.mg F c H v d → Q v H) → r [x] H Q) : CallOk X W r (b1 g) := by
  intro b F c env st σ H vs ds Q e1 e2 r0 rp p
  unfold b1 at p
  split at p
  · cases rp with
    | cons hx t =>
      cases t
      unfold ret at p
      split at p
      · rename_i d ed
        rw [e1, e2] at hx
        exact h F c H _ _ d Q hx ed fun v hv => Post.here r0 p v (by rw [e1, e2]; exact hv)
      · exact p.elim
  · exact p.elim
theorem callOkF_1 {r : List V → Hp → VK → Prop} {g : D → Option D} (h : ∀ (F : Addr → Prop) (c : List Addr) (H : Hp) (x : V) (dx d : D) (Q : VK), Rp X.K X.mg F c H x dx → g dx = some d →
    (∀ p o, H p = none → (∀ F' : Addr → Prop, Stp F c H F' c (upd H p o) → OwnAt X.K X.mg F' c (upd H p o) p d) → Q (.ref p) (upd H p o)) → r [x] H Q) : CallOkF X W r (b1 g) := by
  intro b F c env st σ H vs ds Q e1 e2 r0 rp p
  unfold b1 at p
  split at p
  · cases rp with
    | cons hx t =>
      cases t
      unfold ret at p
      split at p
      · rename_i d ed
        rw [e1, e2] at hx
        exact h F c H _ _ d Q hx ed fun q o hq ho => fresh_of r0 p q o hq (by rw [e1, e2]; exact ho)
      · exact p.elim
  · exact p.elim
/-- len -/
def lenD : D → Option D
  | .lst xs => some (.int xs.length)
  | .tup xs => some (.int xs.length)
  | .scr xs => some (.int xs.length)
  | .str z => if z.length ≤ 16777216 then some (.int z.length) else none
  | _ => none
theorem lenR : CallR X (.builtin "len") (fun xs H Q => (∃ p ys, xs = [.ref p] ∧ (SqL X.K H p ys ∨ SqT X.K H p ys) ∧ Q (.int ys.length) H) ∨ (∃ z, xs = [.str z] ∧ z.length ≤ sizeLine ∧ Q (.int z.length) H)) := CallR.or call_len_seq call_len_str
theorem ok_len : CallOk X W (fun xs H Q => (∃ p ys, xs = [.ref p] ∧ (SqL X.K H p ys ∨ SqT X.K H p ys) ∧ Q (.int ys.length) H) ∨ (∃ z, xs = [.str z] ∧ z.length ≤ sizeLine ∧ Q (.int z.length) H)) (b1 lenD) := callOk_1 fun F c H x dx d Q hx e q => by
  unfold lenD at e
  split at e
  · cases e
    cases hx with
    | lst f h r => exact .inl ⟨_, _, rfl, .inl (SqL.of h), q _ (by rw [r.length]; exact .int _)⟩
  · cases e
    cases hx with
    | tup h r => exact .inl ⟨_, _, rfl, .inr h.sq, q _ (by rw [r.length]; exact .int _)⟩
  · cases e
    cases hx with
    | scr h => exact .inl ⟨_, _, rfl, .inl h.sq, q _ (by rw [List.length_map]; exact .int _)⟩
  · cases hx
    split at e
    · cases e; exact .inr ⟨_, rfl, by rw [sizeLine_eq]; assumption, q _ (.int _)⟩
    · cases e
  · cases e
theorem ve_len (hm : X.mg "len" = none) (ha : VE X W e fa) (hgl : Gl X "len" := by rfl) (hs : starEach [e] X.env = (false, eval e X.env) :: starEach [] X.env := by rfl) : VE X W (.Call (.Name "len" p) [e] [] pos) (eBlt (b1 lenD) (eCons fa eNil)) := ve_blt lenR ok_len hm PySem.boot_len (va_cons ha va_nil hs) hgl (by decide) (by decide) hs
/-- int -/
def intD : D → Option D
  | .int i => some (.int i)
  | .bl k => some (.int (if k then 1 else 0))
  | .str z => if z.length ≤ 640 then (PySem.intText? z).map .int else none
  | _ => none
theorem intR : CallR X (.type "int") (fun xs H Q => ((∃ i, xs = [.int i] ∧ Q (.int i) H) ∨ ∃ k, xs = [.bl k] ∧ Q (.int (if k then 1 else 0)) H) ∨ (∃ a n, xs = [.str a] ∧ PySem.intText? a = some n ∧ a.length ≤ 640 ∧ Q (.int n) H)) := CallR.or call_int1 call_int_str
theorem ok_int : CallOk X W (fun xs H Q => ((∃ i, xs = [.int i] ∧ Q (.int i) H) ∨ ∃ k, xs = [.bl k] ∧ Q (.int (if k then 1 else 0)) H) ∨ (∃ a n, xs = [.str a] ∧ PySem.intText? a = some n ∧ a.length ≤ 640 ∧ Q (.int n) H)) (b1 intD) := callOk_1 fun F c H x dx d Q hx e q => by
  unfold intD at e
  split at e
  · cases hx; cases e; exact .inl (.inl ⟨_, rfl, q _ (.int _)⟩)
  · cases hx; cases e; exact .inl (.inr ⟨_, rfl, q _ (.int _)⟩)
  · rename_i z
    cases hx
    split at e
    · cases hz : PySem.intText? z with
      | none => rw [hz] at e; cases e
      | some n => rw [hz] at e; cases e; exact .inr ⟨_, _, rfl, hz, by assumption, q _ (.int _)⟩
    · cases e
  · cases e
theorem ve_intc (hm : X.mg "int" = none) (ha : VE X W e fa) (hgl : Gl X "int" := by rfl) (hs : starEach [e] X.env = (false, eval e X.env) :: starEach [] X.env := by rfl) : VE X W (.Call (.Name "int" p) [e] [] pos) (eBlt (b1 intD) (eCons fa eNil)) := ve_ty intR ok_int hm (by decide +kernel) (va_cons ha va_nil hs) hgl (by decide) (by decide) hs
/-- str of an int -/
def strD : D → Option D
  | .int i => if i.natAbs.log2 < 1920 then some (.str (toString i)) else none
  | _ => none
theorem ok_str : CallOk X W (fun xs H Q => ∃ i, xs = [.int i] ∧ i.natAbs.log2 < 1920 ∧ Q (.str (toString i)) H) (b1 strD) := callOk_1 fun F c H x dx d Q hx e q => by
  unfold strD at e
  split at e
  · cases hx
    split at e
    · cases e; exact ⟨_, rfl, by assumption, q _ (.str _)⟩
    · cases e
  · cases e
theorem ve_strc (hm : X.mg "str" = none) (ha : VE X W e fa) (hgl : Gl X "str" := by rfl) (hs : starEach [e] X.env = (false, eval e X.env) :: starEach [] X.env := by rfl) : VE X W (.Call (.Name "str" p) [e] [] pos) (eBlt (b1 strD) (eCons fa eNil)) := ve_ty call_str_int ok_str hm (by decide +kernel) (va_cons ha va_nil hs) hgl (by decide) (by decide) hs
/-! lists of one kind -/
def intsOf : List D → Option (List Int)
  | [] => some []
  | .int i :: ds => (intsOf ds).map (i :: ·)
  | _ => none
def strsOf : List D → Option (List Str)
  | [] => some []
  | .str i :: ds => (strsOf ds).map (i :: ·)
  | _ => none
def blsOf : List D → Option (List Bool)
  | [] => some []
  | .bl i :: ds => (blsOf ds).map (i :: ·)
  | _ => none
section
variable {K : PySem.W.Frag} {mg : Str → Option Value} {F : Addr → Prop} {c : List Addr} {H : Hp}
theorem Rps.ints : ∀ {vs : List V} {ds : List D} {ns : List Int}, Rps K mg F c H vs ds → intsOf ds = some ns → vs = ns.map V.int
  | _, _, _, .nil, e => by cases e; rfl
  | _, _, _, .cons h t, e => by
    cases h with
    | int i =>
      obtain ⟨ms, hm, rfl⟩ := Option.map_eq_some_iff.mp (show (intsOf _).map (i :: ·) = some _ from e)
      rw [Rps.ints t hm]; rfl
    | _ => cases e
theorem Rps.strs : ∀ {vs : List V} {ds : List D} {ns : List Str}, Rps K mg F c H vs ds → strsOf ds = some ns → vs = ns.map V.str
  | _, _, _, .nil, e => by cases e; rfl
  | _, _, _, .cons h t, e => by
    cases h with
    | str i =>
      obtain ⟨ms, hm, rfl⟩ := Option.map_eq_some_iff.mp (show (strsOf _).map (i :: ·) = some _ from e)
      rw [Rps.strs t hm]; rfl
    | _ => cases e
theorem Rps.bls : ∀ {vs : List V} {ds : List D} {ns : List Bool}, Rps K mg F c H vs ds → blsOf ds = some ns → vs = ns.map V.bl
  | _, _, _, .nil, e => by cases e; rfl
  | _, _, _, .cons h t, e => by
    cases h with
    | bl i =>
      obtain ⟨ms, hm, rfl⟩ := Option.map_eq_some_iff.mp (show (blsOf _).map (i :: ·) = some _ from e)
      rw [Rps.bls t hm]; rfl
    | _ => cases e
end
@[simp] theorem intsOf_map : ∀ ns : List Int, intsOf (ns.map D.int) = some ns
  | [] => rfl
  | n :: ns => by show (intsOf (ns.map D.int)).map (n :: ·) = _; rw [intsOf_map ns]; rfl
@[simp] theorem strsOf_map : ∀ ns : List Str, strsOf (ns.map D.str) = some ns
  | [] => rfl
  | n :: ns => by show (strsOf (ns.map D.str)).map (n :: ·) = _; rw [strsOf_map ns]; rfl
@[simp] theorem blsOf_map : ∀ ns : List Bool, blsOf (ns.map D.bl) = some ns
  | [] => rfl
  | n :: ns => by show (blsOf (ns.map D.bl)).map (n :: ·) = _; rw [blsOf_map ns]; rfl
/-- all, any, sum of a list -/
def allD : D → Option D
  | .lst xs => (blsOf xs).map fun bs => .bl (bs.all id)
  | _ => none
def anyD : D → Option D
  | .lst xs => (blsOf xs).map fun bs => .bl (bs.any id)
  | _ => none
def sumD : D → Option D
  | .lst xs => (intsOf xs).map fun bs => .int bs.sum
  | _ => none
theorem ok_all : CallOk X W (rAll X.K) (b1 allD) := callOk_1 fun F c H x dx d Q hx e q => by
  unfold allD at e
  split at e
  · cases hx with
    | lst f h r =>
      obtain ⟨bs, hb, rfl⟩ := Option.map_eq_some_iff.mp e
      rw [r.bls hb] at h
      exact ⟨_, bs, rfl, SqL.of h, q _ (.bl _)⟩
  · cases e
theorem ok_any : CallOk X W (rAny X.K) (b1 anyD) := callOk_1 fun F c H x dx d Q hx e q => by
  unfold anyD at e
  split at e
  · cases hx with
    | lst f h r =>
      obtain ⟨bs, hb, rfl⟩ := Option.map_eq_some_iff.mp e
      rw [r.bls hb] at h
      exact ⟨_, bs, rfl, SqL.of h, q _ (.bl _)⟩
  · cases e
theorem ok_sum : CallOk X W (rSum X.K) (b1 sumD) := callOk_1 fun F c H x dx d Q hx e q => by
  unfold sumD at e
  split at e
  · cases hx with
    | lst f h r =>
      obtain ⟨bs, hb, rfl⟩ := Option.map_eq_some_iff.mp e
      rw [r.ints hb] at h
      exact ⟨_, bs, rfl, SqL.of h, q _ (.int _)⟩
  · cases e
theorem ve_all (hc : X.calm = true) (hm : X.mg "all" = none) (ha : VE X W e fa) (hgl : Gl X "all" := by rfl) (hs : starEach [e] X.env = (false, eval e X.env) :: starEach [] X.env := by rfl) : VE X W (.Call (.Name "all" p) [e] [] pos) (eBlt (b1 allD) (eCons fa eNil)) := ve_blt (cr_all hc) ok_all hm PyProof.Rows.boot_all (va_cons ha va_nil hs) hgl (by decide) (by decide) hs
theorem ve_any (hc : X.calm = true) (hm : X.mg "any" = none) (ha : VE X W e fa) (hgl : Gl X "any" := by rfl) (hs : starEach [e] X.env = (false, eval e X.env) :: starEach [] X.env := by rfl) : VE X W (.Call (.Name "any" p) [e] [] pos) (eBlt (b1 anyD) (eCons fa eNil)) := ve_blt (cr_any hc) ok_any hm PyProof.Rows.boot_any (va_cons ha va_nil hs) hgl (by decide) (by decide) hs
theorem ve_sum (hc : X.calm = true) (hm : X.mg "sum" = none) (ha : VE X W e fa) (hgl : Gl X "sum" := by rfl) (hs : starEach [e] X.env = (false, eval e X.env) :: starEach [] X.env := by rfl) : VE X W (.Call (.Name "sum" p) [e] [] pos) (eBlt (b1 sumD) (eCons fa eNil)) := ve_blt (cr_sum hc) ok_sum hm PyProof.Rows.boot_sum (va_cons ha va_nil hs) hgl (by decide) (by decide) hs
/-! list(..), tuple(..) -/
def listD : D → Option D
  | .lst xs => some (.lst xs)
  | .tup xs => some (.lst xs)
  | _ => none
def tupD : D → Option D
  | .lst xs => some (.tup xs)
  | .tup xs => some (.tup xs)
  | _ => none
theorem ok_list : CallOkF X W (fun xs H Q => ∃ p ys, xs = [.ref p] ∧ (SqL X.K H p ys ∨ SqT X.K H p ys) ∧ ∀ l, H l = none → Q (.ref l) (upd H l (.lst ys))) (b1 listD) := callOkF_1 fun F c H x dx d Q hx e q => by
  unfold listD at e
  split at e
  · cases e
    cases hx with
    | lst f h r => exact ⟨_, _, rfl, .inl (SqL.of h), fun l hl => q l _ hl fun F' s => ⟨_, upd_same, r.stp s⟩⟩
  · cases e
    cases hx with
    | tup h r => exact ⟨_, _, rfl, .inr h.sq, fun l hl => q l _ hl fun F' s => ⟨_, upd_same, r.stp s⟩⟩
  · cases e
theorem vf_list (hm : X.mg "list" = none) (ha : VE X W e fa) (hgl : Gl X "list" := by rfl) (hs : starEach [e] X.env = (false, eval e X.env) :: starEach [] X.env := by rfl) : VF X W (.Call (.Name "list" p) [e] [] pos) (eBlt (b1 listD) (eCons fa eNil)) := vf_ty call_list_of ok_list hm (by decide +kernel) (va_cons ha va_nil hs) hgl (by decide) (by decide) hs
theorem ok_tuple : CallOk X W (fun xs H Q => ∃ p ys, xs = [.ref p] ∧ ((SqL X.K H p ys ∧ ∀ l, H l = none → Q (.ref l) (upd H l (.tup ys))) ∨ (SqT X.K H p ys ∧ Q (.ref p) H))) (b1 tupD) := by
  intro b F c env st σ H vs ds Q e1 e2 r0 rp p
  unfold b1 at p
  split at p
  · cases rp with
    | cons hx t =>
      cases t
      unfold ret tupD at p
      split at p
      · rename_i d ed
        split at ed
        · cases ed
          cases hx with
          | lst f h r => exact ⟨_, _, rfl, .inl ⟨SqL.of h, fun l hl => by
              obtain ⟨s2, r2⟩ := r0.newF hl (.tup _)
              exact p _ _ _ s2 r2 _ (.tup (.inl ⟨.inr rfl, .inl upd_same⟩) (r.stp s2))⟩⟩
        · cases ed
          cases hx with
          | tup h r => exact ⟨_, _, rfl, .inr ⟨e1 ▸ h.sq, Post.here r0 p _ (.tup h r)⟩⟩
        · cases ed
      · exact p.elim
  · exact p.elim
theorem ve_tuple (hm : X.mg "tuple" = none) (ha : VE X W e fa) (hgl : Gl X "tuple" := by rfl) (hs : starEach [e] X.env = (false, eval e X.env) :: starEach [] X.env := by rfl) : VE X W (.Call (.Name "tuple" p) [e] [] pos) (eBlt (b1 tupD) (eCons fa eNil)) := ve_ty call_tuple_of ok_tuple hm (by decide +kernel) (va_cons ha va_nil hs) hgl (by decide) (by decide) hs
/-! isinstance of plain values and built-in types -/
def tyD : D → Option String
  | .non => some "NoneType"
  | .bl _ => some "bool"
  | .int _ => some "int"
  | .str _ => some "str"
  | .lst _ => some "list"
  | .tup _ => some "tuple"
  | _ => none
def isiD (T : String) (d : D) : Option D := (tyD d).bind fun t => (kitB t T).map .bl
theorem Rp.tyx {K : PySem.W.Frag} {mg : Str → Option Value} {F : Addr → Prop} {c : List Addr} {H : Hp} {v : V} {d : D} {t : String} (h : Rp K mg F c H v d) (e : tyD d = some t) : TyX K H v (.type t) := by
  cases h with
  | non => cases e; exact .base .non
  | bl b => cases e; exact .base (.bl b)
  | int b => cases e; exact .base (.int b)
  | str b => cases e; exact .base (.str b)
  | lst f h r => cases e; exact .base (.lst h)
  | tup h r =>
    cases e
    rcases h with ⟨_, h | ⟨o, h⟩⟩ | ⟨o, its, n, h1, h2, _⟩
    · exact .base (.tup h)
    · exact .fTuple h
    · exact .kTuple h1 h2
  | scr => cases e
  | obj => cases e
  | ino => cases e
  | ref => cases e
  | glb => cases e
  | lam => cases e
theorem ve_isi {T : Str} {t : String} {p2 : Pos} (hm : X.mg "isinstance" = none) (hmT : X.mg T = none) (hvT : bootBuiltins T = some (.type t)) (ha : VE X W e fa) (hgl : Gl X "isinstance" := by rfl) (hglT : Gl X T := by rfl) (hn : T ≠ "__name__" := by decide) (hdb : (T == ("__debug__" : Str)) = false := by decide)
    (hs : starEach [e, .Name T p2] X.env = (false, eval e X.env) :: starEach [.Name T p2] X.env := by rfl) (hs2 : starEach [.Name T p2] X.env = (false, eval (.Name T p2) X.env) :: starEach [] X.env := by rfl) (hpl : (backTo pos (starEach [.Name T p2] X.env)).any (·.1) = false := by rfl) : VE X W (.Call (.Name "isinstance" p) [e, .Name T p2] [] pos) (eUn (isiD t) fa) := by
  refine PEof (pe_callB call_isi hgl hm PyProof.Rows.boot_isinstance (pa_cons ha (pa_cons (pe_bltn (v := .ty t) hglT hmT hvT rfl hn hdb) pa_nil hs2) hs) (by decide) (by decide) hs hpl) fun σ H Q ⟨b, F, c, env, st, e1, e2, r, pp⟩ => tE_at e1 e2 r pp fun v d env1 st1 F1 c1 H1 s1 r1 rp1 p1 => ?_
  unfold ret isiD at p1
  split at p1
  · rename_i d' ed
    obtain ⟨t', ht, h2⟩ := Option.bind_eq_some_iff.mp ed
    obtain ⟨k, hk, rfl⟩ := Option.map_eq_some_iff.mp h2
    exact ⟨v, .ty t, .type t', .type t, k, rfl, .ty t, e1 ▸ rp1.tyx ht, kit_ty hk, Post.here r1 p1 _ (.bl _)⟩
  · exact p1.elim
/-! ### slices -/
def cutD (xs : List D) (lo hi : Option Int) : List D := (xs.drop (HT.sIx xs.length 0 lo)).take (HT.sIx xs.length xs.length hi - HT.sIx xs.length 0 lo)
theorem Rps.cut {K : PySem.W.Frag} {mg : Str → Option Value} {F : Addr → Prop} {c : List Addr} {H : Hp} {vs : List V} {ds : List D} (r : Rps K mg F c H vs ds) (lo hi : Option Int) : Rps K mg F c H (cutV vs lo hi) (cutD ds lo hi) := by
  unfold cutV cutD
  rw [r.length]
  exact (r.drop _).take _
/-- a slice's bounds -/
def VO (X : Cx) (W : WX) (e : Option Expr) (f : M (Option Int)) : Prop := PO X e (fun σ H Q => At X W f σ H fun _ t _ _ _ _ H' => Q t H')
def oNone : M (Option Int) := fun env st => .ok none env st
def oSome (fa : M D) : M (Option Int) := fun env st => (fa env st).bind fun d env st => match d with
  | .int i => .ok (some i) env st
  | _ => .bad
theorem vo_none : VO X W none oNone := ⟨fun pins s σ H Q I ⟨b, F, c, env, st, e1, e2, r, p⟩ => po_none.run pins s σ H Q I (Post.here r p)⟩
theorem vo_some (h : VE X W e fa) : VO X W (some e) (oSome fa) := ⟨fun pins s σ H Q I ⟨b, F, c, env, st, e1, e2, r, p⟩ => (po_some h).run pins s σ H Q I (tE_at e1 e2 r p fun v d env1 st1 F1 c1 H1 s1 r1 rp1 p1 => by
  split at p1
  · cases rp1; exact ⟨_, rfl, Post.here r1 p1⟩
  · exact p1.elim)⟩
def eSl (g : D → Option Int → Option Int → Option D) (fa : M D) (fl fh : M (Option Int)) : M D := fun env st => (fa env st).bind fun d env st => (fl env st).bind fun l env st => (fh env st).bind fun h env st => ret (g d l h) env st
theorem tO_at {β : Type} {b : Bs} {F : Addr → Prop} {c : List Addr} {env : EnvD} {st : Sto} {σ : L2.St} {H : Hp} {P : β → EnvD → Sto → (Addr → Prop) → List Addr → Hp → Prop} {f : M (Option Int)} {k : Option Int → M β} {Q : Option Int → Hp → Prop} (e1 : b.K = X.K) (e2 : b.mg = X.mg) (r : Rel b F c env st σ H) (p : Post b W F c σ H P ((f env st).bind k))
    (hq : ∀ t env' st' F' c' H', Stp F c H F' c' H' → Rel b F' c' env' st' σ H' → Post b W F' c' σ H' P (k t env' st') → Q t H') : At X W f σ H (fun _ t _ _ _ _ H' => Q t H') :=
  ⟨b, F, c, env, st, e1, e2, r, (Post.bind p).mono fun t env' st' F' c' H' s r' q => hq t env' st' F' c' H' s r' q⟩
def slL : D → Option Int → Option Int → Option D
  | .lst xs, lo, hi => some (.lst (cutD xs lo hi))
  | _, _, _ => none
theorem vf_slL {lo hi : Option Expr} {fl fh : M (Option Int)} {p2 : Pos} (ha : VE X W e fa) (hl : VO X W lo fl) (hh : VO X W hi fh) : VF X W (.Subscript e (.Slice lo hi none p2) pos) (eSl slL fa fl fh) := PEof (pe_slice sl_list ha hl hh) fun σ H Q ⟨b, F, c, env, st, e1, e2, r, p⟩ =>
  tE_at e1 e2 r p fun v d env1 st1 F1 c1 H1 s1 r1 rp1 p1 => tO_at e1 e2 r1 p1 fun l env2 st2 F2 c2 H2 s2 r2 p2 => tO_at e1 e2 r2 p2 fun h env3 st3 F3 c3 H3 s3 r3 p3 => by
    unfold ret slL at p3
    split at p3
    · rename_i d' ed
      split at ed
      · cases ed
        cases rp1.stp (s2.trans s3) with
        | lst f hx rs => exact ⟨_, _, rfl, SqL.of hx, fun q hq => fresh_of r3 p3 q _ hq fun F' s => ⟨_, upd_same, (rs.cut l h).stp s⟩⟩
      · cases ed
    · exact p3.elim
def slT : D → Option Int → Option Int → Option D
  | .tup xs, lo, hi => if HT.sIx xs.length 0 lo = 0 ∧ HT.sIx xs.length xs.length hi = xs.length then none else some (.tup (cutD xs lo hi))
  | .str z, lo, hi => if z.length ≤ 16777216 then some (.str (cutS z lo hi)) else none
  | _, _, _ => none
theorem ve_slT {lo hi : Option Expr} {fl fh : M (Option Int)} {p2 : Pos} (ha : VE X W e fa) (hl : VO X W lo fl) (hh : VO X W hi fh) : VE X W (.Subscript e (.Slice lo hi none p2) pos) (eSl slT fa fl fh) := PEof (pe_slice (SlR.or sl_tup sl_str) ha hl hh) fun σ H Q ⟨b, F, c, env, st, e1, e2, r, p⟩ =>
  tE_at e1 e2 r p fun v d env1 st1 F1 c1 H1 s1 r1 rp1 p1 => tO_at e1 e2 r1 p1 fun l env2 st2 F2 c2 H2 s2 r2 p2 => tO_at e1 e2 r2 p2 fun h env3 st3 F3 c3 H3 s3 r3 p3 => by
    unfold ret slT at p3
    split at p3
    · rename_i d' ed
      split at ed
      · split at ed
        · cases ed
        · rename_i hn
          cases ed
          cases rp1.stp (s2.trans s3) with
          | tup hx rs => exact .inl ⟨_, _, rfl, e1 ▸ hx.sq, by rw [rs.length]; exact hn, fun q hq => by
              obtain ⟨s4, r4⟩ := r3.newF hq (.tup (cutV _ l h))
              exact p3 _ _ _ s4 r4 _ (.tup (.inl ⟨.inr rfl, .inl upd_same⟩) ((rs.cut l h).stp s4))⟩
      · split at ed
        · cases ed
          cases rp1
          exact .inr ⟨_, rfl, by rw [sizeLine_eq]; assumption, Post.here r3 p3 _ (.str _)⟩
        · cases ed
      · cases ed
    · exact p3.elim
/-- xs[::-1] -/
def revD : D → Option D
  | .lst xs => some (.lst xs.reverse)
  | _ => none
theorem vf_rev {k : Nat} {p1 p2 p3 : Pos} (ha : VE X W e fa) : VF X W (.Subscript e (.Slice none none (some (.UnaryOp .USub (.Constant (.int 1) k p1) p2)) p3) pos) (eUn revD fa) := PEof (pe_revL ha) fun σ H Q ⟨b, F, c, env, st, e1, e2, r, p⟩ =>
  tE_at e1 e2 r p fun v d env1 st1 F1 c1 H1 s1 r1 rp1 p1 => by
    unfold ret revD at p1
    split at p1
    · rename_i d' ed
      split at ed
      · cases ed
        cases rp1 with
        | lst f hx rs => exact ⟨_, _, rfl, SqL.of hx, fun q hq => fresh_of r1 p1 q _ hq fun F' s => ⟨_, upd_same, rs.reverse.stp s⟩⟩
      · cases ed
    · exact p1.elim
/-! ### methods of texts and lists -/
def eMs (g : Str → D → Option D) (fo fa : M D) : M D := fun env st => (fo env st).bind fun x env st => match x with
  | .str z => (fa env st).bind fun y env st => ret (g z y) env st
  | _ => .bad
def sIndexD (z : Str) : D → Option D
  | .str y => (Builtin.Str.occurrences z y 0 z.length 1).head?.map fun i => .int (i : Nat)
  | _ => none
theorem ve_sindex {apos : Pos} (ho : VE X W o fo) (ha : VE X W a fa) (hbase : attributeBase o "index" X.env (eval o X.env) = eval o X.env := by rfl)
    (hfew : ((backTo pos (starEach [a] X.env)).all (fun x => !x.1) && (backToKw pos (keywordEach [] X.env)).all (fun x => x.1.isSome)
      && decide (([a] : List Expr).length + ([] : List Keyword).length + (if ([] : List Keyword).isEmpty then 0 else 1) < 30)) = true := by rfl)
    (hline : (apos.endLine == pos.line) = true := by rfl) (hs : starEach [a] X.env = (false, eval a X.env) :: starEach [] X.env := by rfl) (hplain : (backTo pos (starEach [] X.env)).any (·.1) = false := by rfl) :
    VE X W (.Call (.Attribute o "index" apos) [a] [] pos) (eMs sIndexD fo fa) := PEof (pe_bm PySem.F.plainAttrs_str PySem.F.slot_str_index PySem.F.type_str_index mt_sindex ho (pa_cons ha pa_nil hs) hbase hfew hline hs hplain) fun σ H Q ⟨b, F, c, env, st, e1, e2, r, p⟩ =>
  tE_at e1 e2 r p fun v d env1 st1 F1 c1 H1 s1 r1 rp1 p1 => by
    split at p1
    · rename_i z
      cases rp1
      refine ⟨rfl, tE_at e1 e2 r1 p1 fun u y env2 st2 F2 c2 H2 s2 r2 rp2 p2 => ?_⟩
      unfold ret sIndexD at p2
      split at p2
      · rename_i d' ed
        split at ed
        · rename_i yy
          cases rp2
          cases hl : Builtin.Str.occurrences z yy 0 z.length 1 with
          | nil => rw [hl] at ed; cases ed
          | cons i rest => rw [hl] at ed; cases ed; exact ⟨z, yy, i, rest, rfl, rfl, hl, Post.here r2 p2 _ (.int _)⟩
        · cases ed
      · exact p2.elim
    · exact p1.elim
def joinD (z : Str) : D → Option D
  | .lst ys => (strsOf ys).bind fun ys => if (ys.map (·.length)).sum + ys.length * z.length ≤ 16777216 then some (.str (Txt.join z ys)) else none
  | _ => none
theorem ve_join {apos : Pos} (ho : VE X W o fo) (ha : VE X W a fa) (hs : starEach [a] X.env = [(false, eval a X.env)] := by rfl) (hbase : attributeBase o "join" X.env (eval o X.env) = eval o X.env := by rfl) (hline : (apos.endLine == pos.line) = true := by rfl) :
    VE X W (.Call (.Attribute o "join" apos) [a] [] pos) (eMs joinD fo fa) := PEof (pe_join ho ha hs hbase hline) fun σ H Q ⟨b, F, c, env, st, e1, e2, r, p⟩ =>
  tE_at e1 e2 r p fun v d env1 st1 F1 c1 H1 s1 r1 rp1 p1 => by
    split at p1
    · rename_i z
      cases rp1
      refine ⟨⟨z, rfl⟩, tE_at e1 e2 r1 p1 fun u y env2 st2 F2 c2 H2 s2 r2 rp2 p2 => ?_⟩
      unfold ret joinD at p2
      split at p2
      · rename_i d' ed
        split at ed
        · obtain ⟨ys, hy, h2⟩ := Option.bind_eq_some_iff.mp ed
          split at h2
          · rename_i hz
            cases h2
            cases rp2 with
            | lst f hx rs =>
              rw [rs.strs hy] at hx
              exact ⟨z, _, ys, rfl, rfl, .inl (SqL.of hx), hz, Post.here r2 p2 _ (.str _)⟩
          · cases h2
        · cases ed
      · exact p2.elim
    · exact p1.elim
/-! ### a list that a name alone holds: append, extend, x[i] = v, len -/
theorem Rel.ownUpd {b : Bs} {F : Addr → Prop} {c : List Addr} {env : EnvD} {st : Sto} {σ : L2.St} {H : Hp} (r : Rel b F c env st σ H) {i : Nat} {d d' : D} {ad : Addr} {o' : HO} (he : env[i]? = some (.ow d)) (hσ : σ[i]? = some (some (.ref ad))) (hx : Stp F c H F c (upd H ad o') → OwnAt b.K b.mg F c (upd H ad o') ad d') :
    Stp F c H F c (upd H ad o') ∧ Rel b F c (env.set i (.ow d')) st σ (upd H ad o') := by
  obtain ⟨nF, nc, n0, o, ho⟩ := r.own (i := i) ⟨d, he, hσ⟩
  have ne : ∀ y, y ≠ ad → upd H ad o' y = H y := fun y h => upd_ne h
  have hno : ∀ x, H ad ≠ some (.own x) := fun x z => by
    obtain ⟨a2, e2, _, _, _, q4⟩ := r.sl i _ he
    rw [hσ] at e2; cases e2
    cases d with
    | lst ds => obtain ⟨vs, h, _⟩ := q4; rw [z] at h; cases h
    | _ => exact q4.elim
  have htb : ∀ ps, H ad ≠ some (.tbl ps) := by
    obtain ⟨a2, e2, _, _, _, q4⟩ := r.sl i _ he
    rw [hσ] at e2; cases e2
    exact q4.ntbl
  have s : Stp F c H F c (upd H ad o') := ⟨fun _ h => h, fun y z f e => by rw [ne y (fun q => nF (q ▸ f))]; exact e, ⟨[], (List.append_nil c).symm⟩, own_upd hno⟩
  have il : i < env.length := (List.getElem?_eq_some_iff.mp he).1
  have own : ∀ {j y}, OwnA (env.set i (.ow d')) σ j y → OwnA env σ j y := fun {j y} ⟨dd, e, e'⟩ => by
    by_cases q : i = j
    · subst q; exact ⟨d, he, e'⟩
    · rw [List.getElem?_set_ne q] at e; exact ⟨dd, e, e'⟩
  refine ⟨s, r.rc.stp s (fun y hf => ?_) (fun y hy => ne y fun q => nc (q ▸ hy)) r.rc.nf (fun y x e => by rw [ne y fun q => hno x (q ▸ e)]; exact e) (fun y x e => by rw [ne y fun q => htb x (q ▸ e)]; exact e) (fun _ _ _ h => h), by rw [List.length_set]; exact r.len, fun j sl e => ?_, fun j k y h1 h2 => r.ds j k y (own h1) (own h2), fun y z e hc => (r.old y z e hc).up fun w h => .inl (by rw [ne y fun q => by rw [q, n0] at e; cases e]; exact h), r.new, r.nwc, r.f0, r.k0⟩
  · obtain ⟨z, e⟩ := r.rc.trk y hf
    exact ⟨z, s.keep y z hf e⟩
  · by_cases q : i = j
    · subst q
      rw [List.getElem?_set_self il] at e; cases e
      exact ⟨ad, hσ, nF, nc, n0, hx s⟩
    · rw [List.getElem?_set_ne q] at e
      have z := r.sl j sl e
      cases sl with
      | no => trivial
      | va d => obtain ⟨v, e', p⟩ := z; exact ⟨v, e', p.stp s⟩
      | gh cells vals => exact GhOk.stp z s
      | ow d2 =>
        obtain ⟨y, e', p1, p2, p3, p4⟩ := z
        have hy : y ≠ ad := fun w => q (r.ds i j ad ⟨d, he, hσ⟩ ⟨d2, e, by rw [← w]; exact e'⟩)
        exact ⟨y, e', p1, p2, p3, p4.stp s (ne y hy)⟩
/-- x.append(e), x.extend(e) -/
def sApp (i : Nat) (g : List D → D → Option (List D)) (fa : M D) : M Fl := fun env st => match env[i]? with
  | some (.ow (.lst _)) => (fa env st).bind fun d env st => (match env[i]? with
    | some (.ow (.lst xs)) => (match g xs d with
      | some ys => .ok .nx (env.set i (.ow (.lst ys))) st
      | none => .bad)
    | _ => .bad)
  | _ => .bad
def appD (xs : List D) (d : D) : Option (List D) := if xs.length < 16777216 then some (xs ++ [d]) else none
def extD (xs : List D) : D → Option (List D)
  | .lst ys => if xs.length + ys.length ≤ 16777216 then some (xs ++ ys) else none
  | _ => none
theorem vs_app {i : Nat} {m : Str} {id : String} {r : V → List V → Hp → VK → Prop} {g : List D → D → Option (List D)} {apos p2 : Pos} (hslot : Slot "list" m id) (hty : typeOf (.builtin id) = pure (.type "method_descriptor")) (hm : MtR X id r)
    (hg : ∀ (F : Addr → Prop) (c : List Addr) (H : Hp) (ad : Addr) (vs : List V) (xs ys : List D) (v : V) (d : D) (Q : VK), H ad = some (.lst vs) → Rps X.K X.mg F c H vs xs → Rp X.K X.mg F c H v d → g xs d = some ys → (∀ ws, (∀ F' : Addr → Prop, Stp F c H F' c (upd H ad (.lst ws)) → Rps X.K X.mg F' c (upd H ad (.lst ws)) ws ys) → Q .non (upd H ad (.lst ws))) → r (.ref ad) [v] H Q)
    (ha : VE X W a fa) (hN : X.N[i]? = some x := by rfl) (hv : Vis X.env.scope x := by first | exact Or.inl rfl | exact Or.inr (Or.inl rfl) | exact Or.inr (Or.inr rfl)) (hd : (x == ("__debug__" : Str)) = false := by decide) (hcd : (x == ("__classdict__" : Str)) = false := by decide)
    (hbase : attributeBase (.Name x p) m X.env (eval (.Name x p) X.env) = eval (.Name x p) X.env := by rfl)
    (hfew : ((backTo p2 (starEach [a] X.env)).all (fun x => !x.1) && (backToKw p2 (keywordEach [] X.env)).all (fun x => x.1.isSome)
      && decide (([a] : List Expr).length + ([] : List Keyword).length + (if ([] : List Keyword).isEmpty then 0 else 1) < 30)) = true := by rfl)
    (hline : (apos.endLine == p2.line) = true := by rfl) (hs : starEach [a] X.env = (false, eval a X.env) :: starEach [] X.env := by rfl) (hplain : (backTo p2 (starEach [] X.env)).any (·.1) = false := by rfl)
    (hsw : swapsWith (.Call (.Attribute (.Name x p) m apos) [a] [] p2) none pos.line X.env = pure false := by rfl) : VS X W (.Expr (.Call (.Attribute (.Name x p) m apos) [a] [] p2) pos) (sApp i g fa) :=
  PSof (ps_expr (pe_bm PySem.F.plainAttrs_list hslot hty hm (pe_var hN hv hd hcd) (pa_cons ha pa_nil hs) hbase hfew hline hs hplain) hsw) fun D₀ σ H ⟨b, F, c, env, st, e1, e2, r0, p⟩ => by
    unfold sApp at p
    split at p
    · rename_i xs0 he0
      obtain ⟨ad, had, h1, h2, h3, vs0, h4, h5⟩ := r0.sl i _ he0
      refine ⟨_, had, .inl ⟨rfl, _, SqL.of h4⟩, sE_at e1 e2 r0 p fun v d env1 st1 F1 c1 H1 s1 r1 rp1 p1 => ?_⟩
      split at p1
      · rename_i xs he
        split at p1
        · rename_i ys hys
          obtain ⟨ad', had', k1, k2, k3, vs, k4, k5⟩ := r1.sl i _ he
          rw [had] at had'; cases had'
          rw [e1, e2] at k5 rp1
          refine hg F1 c1 H1 ad vs xs ys v d _ k4 k5 rp1 hys fun ws hw => ?_
          obtain ⟨s2, r2⟩ := r1.ownUpd (d' := .lst ys) (o' := .lst ws) he had fun s => ⟨ws, upd_same, by rw [e1, e2]; exact hw _ s⟩
          exact PostS.here (P := fun fl _ _ F c σ H => FlOk b D₀ F c σ H fl) r2 (p1.stp s2)
        · exact p1.elim
      · exact p1.elim
    · exact p.elim
theorem vs_append {i : Nat} {apos p2 : Pos} (ha : VE X W a fa) (hN : X.N[i]? = some x := by rfl) (hv : Vis X.env.scope x := by first | exact Or.inl rfl | exact Or.inr (Or.inl rfl) | exact Or.inr (Or.inr rfl)) (hd : (x == ("__debug__" : Str)) = false := by decide) (hcd : (x == ("__classdict__" : Str)) = false := by decide)
    (hbase : attributeBase (.Name x p) "append" X.env (eval (.Name x p) X.env) = eval (.Name x p) X.env := by rfl)
    (hfew : ((backTo p2 (starEach [a] X.env)).all (fun x => !x.1) && (backToKw p2 (keywordEach [] X.env)).all (fun x => x.1.isSome)
      && decide (([a] : List Expr).length + ([] : List Keyword).length + (if ([] : List Keyword).isEmpty then 0 else 1) < 30)) = true := by rfl)
    (hline : (apos.endLine == p2.line) = true := by rfl) (hs : starEach [a] X.env = (false, eval a X.env) :: starEach [] X.env := by rfl) (hplain : (backTo p2 (starEach [] X.env)).any (·.1) = false := by rfl)
    (hsw : swapsWith (.Call (.Attribute (.Name x p) "append" apos) [a] [] p2) none pos.line X.env = pure false := by rfl) : VS X W (.Expr (.Call (.Attribute (.Name x p) "append" apos) [a] [] p2) pos) (sApp i appD fa) :=
  vs_app PySem.F.slot_list_append PySem.F.type_list_append mt_append (fun F c H ad vs xs ys v d Q h1 h2 h3 h4 q => by
    unfold appD at h4
    split at h4
    · rename_i hl
      cases h4
      exact ⟨ad, vs, v, rfl, rfl, h1, by rw [h2.length, sizeLine_eq]; exact hl, q _ fun F' s => (h2.stp s).append (.cons (h3.stp s) .nil)⟩
    · cases h4) ha hN hv hd hcd hbase hfew hline hs hplain hsw
theorem vs_extend {i : Nat} {apos p2 : Pos} (ha : VE X W a fa) (hN : X.N[i]? = some x := by rfl) (hv : Vis X.env.scope x := by first | exact Or.inl rfl | exact Or.inr (Or.inl rfl) | exact Or.inr (Or.inr rfl)) (hd : (x == ("__debug__" : Str)) = false := by decide) (hcd : (x == ("__classdict__" : Str)) = false := by decide)
    (hbase : attributeBase (.Name x p) "extend" X.env (eval (.Name x p) X.env) = eval (.Name x p) X.env := by rfl)
    (hfew : ((backTo p2 (starEach [a] X.env)).all (fun x => !x.1) && (backToKw p2 (keywordEach [] X.env)).all (fun x => x.1.isSome)
      && decide (([a] : List Expr).length + ([] : List Keyword).length + (if ([] : List Keyword).isEmpty then 0 else 1) < 30)) = true := by rfl)
    (hline : (apos.endLine == p2.line) = true := by rfl) (hs : starEach [a] X.env = (false, eval a X.env) :: starEach [] X.env := by rfl) (hplain : (backTo p2 (starEach [] X.env)).any (·.1) = false := by rfl)
    (hsw : swapsWith (.Call (.Attribute (.Name x p) "extend" apos) [a] [] p2) none pos.line X.env = pure false := by rfl) : VS X W (.Expr (.Call (.Attribute (.Name x p) "extend" apos) [a] [] p2) pos) (sApp i extD fa) :=
  vs_app PySem.F.slot_list_extend PySem.F.type_list_extend mt_extend (fun F c H ad vs xs ys v d Q h1 h2 h3 h4 q => by
    unfold extD at h4
    split at h4
    · split at h4
      · rename_i hl
        cases h4
        cases h3 with
        | lst f hx rs => exact ⟨ad, _, vs, _, rfl, rfl, h1, hx, by rw [h2.length, rs.length, sizeLine_eq]; exact hl, q _ fun F' s => (h2.stp s).append (rs.stp s)⟩
      · cases h4
    · cases h4) ha hN hv hd hcd hbase hfew hline hs hplain hsw
/-- len(x), x alone holds the list: it stays its own -/
def eLenO (i : Nat) : M D := fun env st => match env[i]? with
  | some (.ow (.lst xs)) => .ok (.int xs.length) env st
  | some (.va d) => ret (lenD d) env st
  | _ => .bad
/-! ### raise -/
def sRaise (n : Str) : M Fl := fun env st => .ex ⟨n, []⟩ env st
/-- a class of errors without its own __init__ -/
structure ErrV (K : PySem.W.Frag) (mg : Str → Option Value) (n : Str) : Prop where
  ex : ∃ C, mg n = some (.ref C) ∧ PySem.W.excIn K C [.type "ValueError", .type "Exception", .type "BaseException", .type "object"] "ValueError.__new__" = true ∧ PySem.W.keepIn K (.ref C) = true ∧
    PySem.W.subIn K (.ref C) (.type "BaseException") = some true ∧ PySem.W.typeIn K (.ref C) = some (.type "type")
theorem vs_raise {n m : Str} {j : Nat} {p1 p2 p3 : Pos} (hc : X.calm = true) (tk : Takes X W) (ev : ErrV X.K X.mg n) (hg : Gl X n := by rfl) (hdb : (n == ("__debug__" : Str)) = false := by decide) : VS X W (.Raise (some (.Call (.Name n p1) [.Constant (.str m) j p2] [] p3)) none pos) (sRaise n) := by
  obtain ⟨C, gC, xC, kC, bC, tC⟩ := ev.ex
  exact PSof (ps_raise hc tk (pmk_own PySem.F.excBase_ValueError xC gC kC (raises_own bC tC) hg hdb)) fun D₀ σ H ⟨b, F, c, env, st, e1, e2, r, p⟩ => p σ F c H _ _ .refl r ⟨by rw [e2]; exact gC, .inl rfl⟩
end
end VE

namespace VE
open PySem PySem.Spec PyProof.Rows L2
variable [VEnv]
/-- a constant of the module -/
structure ConstV (K : PySem.W.Frag) (mg : Str → Option Value) (n : Str) (d : D) : Prop where
  ex : ∃ u v, mg n = some u ∧ RelV v u ∧ ∀ F c H, Rp K mg F c H v d
theorem ConstV.int {K : PySem.W.Frag} {mg : Str → Option Value} {n : Str} {i : Int} {t : Tok} (h : mg n = some (.int i t)) : ConstV K mg n (.int i) := ⟨_, .int i, h, ⟨t, rfl⟩, fun _ _ _ => .int i⟩
theorem ConstV.str {K : PySem.W.Frag} {mg : Str → Option Value} {n : Str} {i : Str} {t : Tok} (h : mg n = some (.str i t)) : ConstV K mg n (.str i) := ⟨_, .str i, h, ⟨t, rfl⟩, fun _ _ _ => .str i⟩
section
variable {X : Cx} {W : WX} {e a o : Expr} {es : List Expr} {pos pos' p : Pos} {fa fb fo fi : M D} {fs : M (List D)} {x : Str}
theorem ve_gc {d : D} (cv : ConstV X.K X.mg x d) (hg : Gl X x := by rfl) (hd : (x == ("__debug__" : Str)) = false := by decide) : VE X W (.Name x pos) (eC d) := by
  obtain ⟨u, v, hm, r, rp⟩ := cv.ex
  exact ve_c (pe_glob hg hm r hd) rp
def sBad : M Fl := fun _ _ => .bad
theorem vs_never {s : Stmt} : VS X W s sBad := PSof ps_never fun D₀ σ H ⟨b, F, c, env, st, e1, e2, r, p⟩ => p
theorem vss_never {s : List Stmt} : VSs X W s sBad := PSsof pss_never fun D₀ σ H ⟨b, F, c, env, st, e1, e2, r, p⟩ => p
theorem ip_fdivW : PIp X .FloorDiv (rI CDivW fun i j => .int (i / j)) := iop_fdivW
theorem augIn_add : AugOk X W rAdd addII := fun F c H x y dx dy d Q hx hy e q => by
  unfold addII at e
  split at e
  · cases hx; cases hy; cases e; exact ⟨_, _, rfl, rfl, q _ (.int _)⟩
  · cases e
theorem augIn_sub : AugOk X W rSub subI := fun F c H x y dx dy d Q hx hy e q => by
  unfold subI at e
  split at e
  · cases hx; cases hy; cases e; exact ⟨_, _, rfl, rfl, q _ (.int _)⟩
  · cases e
/-- a, b = x, [..] -/
def sParF (i j : Nat) (fa fb : M D) : M Fl := fun env st => (fa env st).bind fun d env st => (fb env st).bind fun d' env st => .ok .nx ((env.set i (.va d)).set j (.ow d')) st
theorem vs_parF {i j : Nat} {x y : Str} {px py pt : Pos} {kt k2 : Nat} {pt2 : Pos} (hc : X.calm = true) (hN : X.N.Nodup) (ha : VE X W e fa) (hb : VF X W a fb) (hi : X.N[i]? = some x := by rfl) (hj : X.N[j]? = some y := by rfl) (hij : i ≠ j := by decide)
    (hx : X.env.scope.names.lookup x = some .local := by rfl) (hy : X.env.scope.names.lookup y = some .local := by rfl)
    (hw : swappedStores [.Tuple [.Name x px, .Name y py] kt pt] (.Tuple [e, a] k2 pt2) X.env = pure (some [x, y]) := by rfl)
    (hs : swapsWithSole [.Tuple [.Name x px, .Name y py] kt pt] (.Tuple [e, a] k2 pt2) pos.line X.env = pure false := by rfl)
    (hs1 : starEach [e, a] X.env = (false, eval e X.env) :: starEach [a] X.env := by rfl) (hs2 : starEach [a] X.env = (false, eval a X.env) :: starEach [] X.env := by rfl) :
    VS X W (.Assign [.Tuple [.Name x px, .Name y py] kt pt] (.Tuple [e, a] k2 pt2) pos) (sParF i j fa fb) := PSof (ps_par hc hN hi hj hij hx hy (pa_cons ha (pa_cons hb pa_nil hs2) hs1) hw hs) fun D₀ σ H ⟨b, F, c, env, st, e1, e2, r, p⟩ =>
  sE_at e1 e2 r p fun v d env1 st1 F1 c1 H1 s1 r1 rp1 p1 => sF_at e1 e2 r1 p1 fun q d' env2 st2 F2 c2 H2 s2 r2 h1 h2 h3 h4 h5 p2 => by
    refine ⟨_, _, rfl, PostS.here (P := fun fl _ _ F c σ H => FlOk b D₀ F c σ H fl) ((r2.put (rp1.stp s2)).take h1 h2 h3 (fun k hk => ?_) h5) p2⟩
    obtain ⟨dd, k1, k2⟩ := hk
    by_cases q2 : i = k
    · subst q2
      by_cases hl : i < env2.length
      · rw [List.getElem?_set_self hl] at k1; cases k1
      · rw [List.getElem?_eq_none (by simpa using hl)] at k1; cases k1
    · rw [List.getElem?_set_ne q2] at k1 k2
      exact h4 k ⟨dd, k1, k2⟩
end
end VE

/-! how the mirrors are reckoned: each continuation has a name, so that simp goes from the left -/
namespace VE
open PySem PySem.Spec PyProof.Rows L2
section
variable {fa fb fc fo fi fe : M D} {fs : M (List D)} {ff : M (List D)} {ta tb tc : M Bool} {g g' : M Fl} {env : EnvD} {st : Sto} {i j n np : Nat} {d d' x y z : D} {ds : List D} {s m : Str} {t : Bool} {mf : FM}
@[simp] theorem x_ret_some : ret (some d) env st = .ok d env st := rfl
@[simp] theorem x_ret_none : ret none env st = .bad := rfl
def kVar (i : Nat) (s : Option Sl) : M D := fun env st => match s with
  | some (.va d) => .ok d env st
  | some (.ow d) => .ok d (env.set i (.va d)) st
  | _ => .bad
@[simp] theorem x_eVar : eVar i env st = kVar i env[i]? env st := rfl
@[simp] theorem x_kVar1 : kVar i (some (.va d)) env st = .ok d env st := rfl
@[simp] theorem x_kVar2 : kVar i (some (.ow d)) env st = .ok d (env.set i (.va d)) st := rfl
@[simp] theorem x_eC : eC d env st = .ok d env st := rfl
def kBin2 (h : D → D → M D) (x : D) : D → M D := fun y e s => h x y e s
def kBin1 (h : D → D → M D) (fb : M D) : D → M D := fun x e s => (fb e s).bind (kBin2 h x)
@[simp] theorem x_eBin {h : D → D → M D} : eBin h fa fb env st = (fa env st).bind (kBin1 h fb) := rfl

@[simp] theorem x_kBin1 {h : D → D → M D} : kBin1 h fb x env st = (fb env st).bind (kBin2 h x) := rfl
@[simp] theorem x_kBin2 {h : D → D → M D} : kBin2 h x y env st = h x y env st := rfl
@[simp] theorem x_sc2 {h : D → D → Option D} : sc2 h x y env st = ret (h x y) env st := rfl
def kUn (h : D → Option D) : D → M D := fun x e s => ret (h x) e s
@[simp] theorem x_eUn {h : D → Option D} : eUn h fa env st = (fa env st).bind (kUn h) := rfl
@[simp] theorem x_kUn {h : D → Option D} : kUn h x env st = ret (h x) env st := rfl
def kT : D → M Bool := fun x e s => match x with
  | .bl t => .ok t e s
  | _ => .bad
@[simp] theorem x_eT : eT fa env st = (fa env st).bind kT := rfl
@[simp] theorem x_kT : kT (.bl t) env st = .ok t env st := rfl
def kCh3 (q : Int → Int → Bool) (j : Int) : D → M D := fun z e s => match z with
  | .int l => .ok (.bl (q j l)) e s
  | _ => .bad
def kCh2 (p q : Int → Int → Bool) (fc : M D) (x : D) : D → M D := fun y e s => match x, y with
  | .int i, .int j => if p i j then (fc e s).bind (kCh3 q j) else .ok (.bl false) e s
  | _, _ => .bad
def kCh1 (p q : Int → Int → Bool) (fb fc : M D) : D → M D := fun x e s => (fb e s).bind (kCh2 p q fc x)
@[simp] theorem x_eChain {p q : Int → Int → Bool} : eChain p q fa fb fc env st = (fa env st).bind (kCh1 p q fb fc) := rfl
@[simp] theorem x_kCh1 {p q : Int → Int → Bool} : kCh1 p q fb fc x env st = (fb env st).bind (kCh2 p q fc x) := rfl
@[simp] theorem x_kCh2 {p q : Int → Int → Bool} {i j : Int} : kCh2 p q fc (.int i) (.int j) env st = if p i j then (fc env st).bind (kCh3 q j) else .ok (.bl false) env st := rfl
@[simp] theorem x_kCh3 {q : Int → Int → Bool} {j l : Int} : kCh3 q j (.int l) env st = .ok (.bl (q j l)) env st := rfl
def kBA (tb : M Bool) : Bool → M Bool := fun t env st => if t then tb env st else .ok false env st
def kBO (tb : M Bool) : Bool → M Bool := fun t env st => if t then .ok true env st else tb env st
def kBN : Bool → M Bool := fun t env st => .ok (!t) env st
@[simp] theorem x_bAnd : bAnd ta tb env st = (ta env st).bind (kBA tb) := rfl
@[simp] theorem x_kBA1 : kBA tb true env st = tb env st := rfl
@[simp] theorem x_kBA0 : kBA tb false env st = .ok false env st := rfl
@[simp] theorem x_bOr : bOr ta tb env st = (ta env st).bind (kBO tb) := rfl
@[simp] theorem x_kBO1 : kBO tb true env st = .ok true env st := rfl
@[simp] theorem x_kBO0 : kBO tb false env st = tb env st := rfl
@[simp] theorem x_bNot : bNot ta env st = (ta env st).bind kBN := rfl
@[simp] theorem x_kBN : kBN t env st = .ok (!t) env st := rfl
@[simp] theorem x_bYes : bYes env st = .ok true env st := rfl
def kEA (fb : M D) : D → M D := fun x env st => match x with
  | .bl true => fb env st
  | .bl false => .ok (.bl false) env st
  | _ => .bad
def kEO (fb : M D) : D → M D := fun x env st => match x with
  | .bl true => .ok (.bl true) env st
  | .bl false => fb env st
  | _ => .bad
def kEN : D → M D := fun x env st => match x with
  | .bl t => .ok (.bl (!t)) env st
  | _ => .bad
@[simp] theorem x_eAnd : eAnd fa fb env st = (fa env st).bind (kEA fb) := rfl
@[simp] theorem x_kEA1 : kEA fb (.bl true) env st = fb env st := rfl
@[simp] theorem x_kEA0 : kEA fb (.bl false) env st = .ok (.bl false) env st := rfl
@[simp] theorem x_eOr : eOr fa fb env st = (fa env st).bind (kEO fb) := rfl
@[simp] theorem x_kEO1 : kEO fb (.bl true) env st = .ok (.bl true) env st := rfl
@[simp] theorem x_kEO0 : kEO fb (.bl false) env st = fb env st := rfl
@[simp] theorem x_eNot : eNot fa env st = (fa env st).bind kEN := rfl
@[simp] theorem x_kEN : kEN (.bl t) env st = .ok (.bl (!t)) env st := rfl
def kIf (fa fb : M D) : Bool → M D := fun t env st => if t then fa env st else fb env st
@[simp] theorem x_eIf : eIf ta fa fb env st = (ta env st).bind (kIf fa fb) := rfl
@[simp] theorem x_kIf1 : kIf fa fb true env st = fa env st := rfl
@[simp] theorem x_kIf0 : kIf fa fb false env st = fb env st := rfl
@[simp] theorem x_eNil : eNil env st = .ok [] env st := rfl
def kCons2 (d : D) : List D → M (List D) := fun ds env st => .ok (d :: ds) env st
def kCons1 (fs : M (List D)) : D → M (List D) := fun d env st => (fs env st).bind (kCons2 d)
@[simp] theorem x_eCons : eCons fa fs env st = (fa env st).bind (kCons1 fs) := rfl
@[simp] theorem x_kCons1 : kCons1 fs d env st = (fs env st).bind (kCons2 d) := rfl
@[simp] theorem x_kCons2 : kCons2 d ds env st = .ok (d :: ds) env st := rfl
def kStar2 (xs : List D) : List D → M (List D) := fun ds env st => .ok (xs ++ ds) env st
def kStar1 (fs : M (List D)) : D → M (List D) := fun d env st => match itemsOf d with
  | some xs => (fs env st).bind (kStar2 xs)
  | none => .bad
@[simp] theorem x_eStar : eStar fa fs env st = (fa env st).bind (kStar1 fs) := rfl
@[simp] theorem x_kStarL : kStar1 fs (.lst ds) env st = (fs env st).bind (kStar2 ds) := rfl
@[simp] theorem x_kStarT : kStar1 fs (.tup ds) env st = (fs env st).bind (kStar2 ds) := rfl
@[simp] theorem x_kStar2 {xs : List D} : kStar2 xs ds env st = .ok (xs ++ ds) env st := rfl
def kTup : List D → M D := fun ds env st => if ds.length ≤ 16777216 then .ok (.tup ds) env st else .bad
def kLst : List D → M D := fun ds env st => if ds.length ≤ 16777216 then .ok (.lst ds) env st else .bad
@[simp] theorem x_eTup : eTup fs env st = (fs env st).bind kTup := rfl
@[simp] theorem x_kTup : kTup ds env st = if ds.length ≤ 16777216 then .ok (.tup ds) env st else .bad := rfl
@[simp] theorem x_eLst : eLst fs env st = (fs env st).bind kLst := rfl
@[simp] theorem x_kLst : kLst ds env st = if ds.length ≤ 16777216 then .ok (.lst ds) env st else .bad := rfl
@[simp] theorem x_eBlt {h : List D → M D} : eBlt h fs env st = (fs env st).bind h := rfl
@[simp] theorem x_b1 {h : D → Option D} : b1 h [d] env st = ret (h d) env st := rfl
@[simp] theorem x_sNx : sNx env st = .ok .nx env st := rfl
@[simp] theorem x_sBk : sBk env st = .ok .bk env st := rfl
@[simp] theorem x_sCt : sCt env st = .ok .ct env st := rfl
@[simp] theorem x_sBad : sBad env st = .bad := rfl
def kSeq (g : M Fl) : Fl → M Fl := fun fl env st => match fl with
  | .nx => g env st
  | fl => .ok fl env st
@[simp] theorem x_sSeq : sSeq g g' env st = (g env st).bind (kSeq g') := rfl
@[simp] theorem x_kSeq1 : kSeq g .nx env st = g env st := id rfl
@[simp] theorem x_kSeq2 : kSeq g (.rt d) env st = .ok (.rt d) env st := rfl
@[simp] theorem x_kSeq3 : kSeq g (.rf d) env st = .ok (.rf d) env st := rfl
@[simp] theorem x_kSeq4 : kSeq g .bk env st = .ok .bk env st := rfl
@[simp] theorem x_kSeq5 : kSeq g .ct env st = .ok .ct env st := rfl
def kExpr : D → M Fl := fun _ env st => .ok .nx env st
@[simp] theorem x_sExpr : sExpr fa env st = (fa env st).bind kExpr := rfl
@[simp] theorem x_kExpr : kExpr d env st = .ok .nx env st := rfl
def kRet : D → M Fl := fun d env st => .ok (.rt d) env st
def kRetF : D → M Fl := fun d env st => .ok (.rf d) env st
@[simp] theorem x_sRet : sRet fa env st = (fa env st).bind kRet := rfl
@[simp] theorem x_kRet : kRet d env st = .ok (.rt d) env st := rfl
@[simp] theorem x_sRetF : sRetF fa env st = (fa env st).bind kRetF := rfl
@[simp] theorem x_kRetF : kRetF d env st = .ok (.rf d) env st := rfl
@[simp] theorem x_sRetN : sRetN env st = .ok (.rt .non) env st := rfl
def kRetO (i : Nat) (s : Option Sl) : M Fl := fun env st => match s with
  | some (.ow d) => .ok (.rf d) (env.set i .no) st
  | _ => .bad
@[simp] theorem x_sRetO : sRetO i env st = kRetO i env[i]? env st := rfl
@[simp] theorem x_kRetO : kRetO i (some (.ow d)) env st = .ok (.rf d) (env.set i .no) st := rfl
def kSIf (g g' : M Fl) : Bool → M Fl := fun t env st => if t then g env st else g' env st
@[simp] theorem x_sIf : sIf ta g g' env st = (ta env st).bind (kSIf g g') := rfl
@[simp] theorem x_kSIf1 : kSIf g g' true env st = g env st := rfl
@[simp] theorem x_kSIf0 : kSIf g g' false env st = g' env st := rfl
def kSet (i : Nat) : D → M Fl := fun d env st => .ok .nx (env.set i (.va d)) st
def kSetF (i : Nat) : D → M Fl := fun d env st => .ok .nx (env.set i (.ow d)) st
@[simp] theorem x_sSet : sSet i fa env st = (fa env st).bind (kSet i) := rfl
@[simp] theorem x_kSet : kSet i d env st = .ok .nx (env.set i (.va d)) st := rfl
@[simp] theorem x_sSetF : sSetF i fa env st = (fa env st).bind (kSetF i) := rfl
@[simp] theorem x_kSetF : kSetF i d env st = .ok .nx (env.set i (.ow d)) st := rfl
def kAsg2 : Option EnvD → M Fl := fun o _ st => match o with
  | some env => .ok .nx env st
  | none => .bad
def kAsg (t : D → EnvD → Option EnvD) : D → M Fl := fun d env st => kAsg2 (t d env) env st
@[simp] theorem x_sAsg {t : D → EnvD → Option EnvD} : sAsg t fa env st = (fa env st).bind (kAsg t) := rfl
@[simp] theorem x_kAsg {t : D → EnvD → Option EnvD} : kAsg t d env st = kAsg2 (t d env) env st := rfl
@[simp] theorem x_kAsg2 {env' : EnvD} : kAsg2 (some env') env st = .ok .nx env' st := rfl
@[simp] theorem x_gN : gN i d env = some (env.set i (.va d)) := rfl
@[simp] theorem x_gsN : gsN [] env = some env := rfl
@[simp] theorem x_gsC {t : D → EnvD → Option EnvD} {u : List D → EnvD → Option EnvD} : gsC t u (d :: ds) env = (t d env).bind (u ds) := rfl
@[simp] theorem x_gT {t : List D → EnvD → Option EnvD} : gT n t (.tup ds) env = if ds.length = n then t ds env else none := rfl
def kPar (i j : Nat) : List D → M Fl := fun ds env st => match ds with
  | [d, d'] => .ok .nx ((env.set i (.va d)).set j (.va d')) st
  | _ => .bad
@[simp] theorem x_sPar : sPar i j fs env st = (fs env st).bind (kPar i j) := rfl
@[simp] theorem x_kPar : kPar i j [d, d'] env st = .ok .nx ((env.set i (.va d)).set j (.va d')) st := rfl
def kParF2 (i j : Nat) (d : D) : D → M Fl := fun d' env st => .ok .nx ((env.set i (.va d)).set j (.ow d')) st
def kParF1 (i j : Nat) (fb : M D) : D → M Fl := fun d env st => (fb env st).bind (kParF2 i j d)
@[simp] theorem x_sParF : sParF i j fa fb env st = (fa env st).bind (kParF1 i j fb) := rfl
@[simp] theorem x_kParF1 : kParF1 i j fb d env st = (fb env st).bind (kParF2 i j d) := rfl
@[simp] theorem x_kParF2 : kParF2 i j d d' env st = .ok .nx ((env.set i (.va d)).set j (.ow d')) st := rfl
def kAug3 (i : Nat) : Option D → M Fl := fun o env st => match o with
  | some z => .ok .nx (env.set i (.va z)) st
  | none => .bad
def kAug2 (i : Nat) (h : D → D → Option D) (x : D) : D → M Fl := fun y env st => kAug3 i (h x y) env st
def kAug1 (i : Nat) (h : D → D → Option D) (fa : M D) (s : Option Sl) : M Fl := fun env st => match s with
  | some (.va x) => (fa env st).bind (kAug2 i h x)
  | _ => .bad
@[simp] theorem x_sAug {h : D → D → Option D} : sAug i h fa env st = kAug1 i h fa env[i]? env st := rfl
@[simp] theorem x_kAug1 {h : D → D → Option D} : kAug1 i h fa (some (.va x)) env st = (fa env st).bind (kAug2 i h x) := rfl
@[simp] theorem x_kAug2 {h : D → D → Option D} : kAug2 i h x y env st = kAug3 i (h x y) env st := rfl
@[simp] theorem x_kAug3 : kAug3 i (some z) env st = .ok .nx (env.set i (.va z)) st := rfl
def kCall (mf : FM) (n : Nat) : List D → M D := fun ds env st => if ds.length = n then callR mf ds env st else .bad
@[simp] theorem x_eCall : eCall mf n fs env st = (fs env st).bind (kCall mf n) := rfl
@[simp] theorem x_kCall : kCall mf n ds env st = if ds.length = n then callR mf ds env st else .bad := rfl
def ofRF : RF → M D := fun r env st => match r with
  | .ok d st => .ok d env st
  | .ex x st => .ex x env st
  | .bad => .bad
theorem x_callR : callR mf ds env st = ofRF (mf ds st) env st := rfl
@[simp] theorem x_ofRF1 {st' : Sto} : ofRF (.ok d st') env st = .ok d env st' := rfl
@[simp] theorem x_ofRF2 {e : Exn} {st' : Sto} : ofRF (.ex e st') env st = .ex e env st' := rfl
theorem callR_ok {st2 : Sto} (h : mf ds st = .ok d st2) : callR mf ds env st = .ok d env st2 := by rw [x_callR, h]; rfl
theorem callR_ex {e : Exn} {st2 : Sto} (h : mf ds st = .ex e st2) : callR mf ds env st = .ex e env st2 := by rw [x_callR, h]; rfl
def kFor (t : D → EnvD → Option EnvD) (ws : List Nat) (g : M Fl) : List D → M Fl := fun ds env st => forL t ws g ds env st
@[simp] theorem x_sFor {t : D → EnvD → Option EnvD} {ws : List Nat} : sFor ff t ws g env st = (ff env st).bind (kFor t ws g) := rfl
@[simp] theorem x_kFor {t : D → EnvD → Option EnvD} {ws : List Nat} : kFor t ws g ds env st = forL t ws g ds env st := rfl
def kComp (t : D → EnvD → Option EnvD) (ws : List Nat) (ta : M Bool) (fe : M D) : List D → M D := fun ds env st => compL t ws ta fe ds [] env st
@[simp] theorem x_eComp {t : D → EnvD → Option EnvD} {ws : List Nat} : eComp ff t ws ta fe env st = (ff env st).bind (kComp t ws ta fe) := rfl
@[simp] theorem x_kComp {t : D → EnvD → Option EnvD} {ws : List Nat} : kComp t ws ta fe ds env st = compL t ws ta fe ds [] env st := rfl
def kIL : D → M (List D) := fun d env st => match d with
  | .lst xs => .ok xs env st
  | _ => .bad
def kIT : D → M (List D) := fun d env st => match d with
  | .tup xs => .ok xs env st
  | _ => .bad
def kIS : D → M (List D) := fun d env st => match d with
  | .str x => .ok (signsD x) env st
  | _ => .bad
@[simp] theorem x_iL : iL fa env st = (fa env st).bind kIL := rfl
@[simp] theorem x_kIL : kIL (.lst ds) env st = .ok ds env st := rfl
@[simp] theorem x_iT : iT fa env st = (fa env st).bind kIT := rfl
@[simp] theorem x_kIT : kIT (.tup ds) env st = .ok ds env st := rfl
@[simp] theorem x_iS : iS fa env st = (fa env st).bind kIS := rfl
@[simp] theorem x_kIS : kIS (.str s) env st = .ok (signsD s) env st := rfl
@[simp] theorem rOk_ {j : Int} (h : -1000000 ≤ j) (h2 : j ≤ 1000000) : rOk j = true := by
  rw [rOk_iff]
  exact ⟨by omega, by omega⟩
noncomputable def kR1 : D → M (List D) := fun d env st => match d with
  | .int j => if rOk j then .ok (rngD 0 j.toNat) env st else .bad
  | _ => .bad
@[simp] theorem x_iR1 : iR1 fa env st = (fa env st).bind kR1 := rfl
@[simp] theorem x_kR1 {j : Int} : kR1 (.int j) env st = if rOk j then .ok (rngD 0 j.toNat) env st else .bad := rfl
noncomputable def kR22 (d : D) : D → M (List D) := fun d' env st => match d, d' with
  | .int i, .int j => if rOk i && rOk j then .ok (rngD i (j - i).toNat) env st else .bad
  | _, _ => .bad
noncomputable def kR21 (fb : M D) : D → M (List D) := fun d env st => (fb env st).bind (kR22 d)
@[simp] theorem x_iR2 : iR2 fa fb env st = (fa env st).bind (kR21 fb) := rfl
@[simp] theorem x_kR21 : kR21 fb d env st = (fb env st).bind (kR22 d) := rfl
@[simp] theorem x_kR22 {i j : Int} : kR22 (.int i) (.int j) env st = if rOk i && rOk j then .ok (rngD i (j - i).toNat) env st else .bad := rfl
def kCell (i : Nat) : List D → M Fl := fun ds env st => if ds.length ≤ 16777216 then .ok .nx (env.set i (.va (.ref st.length))) (st ++ [.lst ds]) else .bad
@[simp] theorem x_sCell : sCell i fs env st = (fs env st).bind (kCell i) := rfl
@[simp] theorem x_kCell : kCell i ds env st = if ds.length ≤ 16777216 then .ok .nx (env.set i (.va (.ref st.length))) (st ++ [.lst ds]) else .bad := rfl
def kIxC (k : Int) (c : Option Cell) : M D := fun env st => match c with
  | some (.lst ds) => ret (atI ds k) env st
  | _ => .bad
@[simp] theorem x_ixC {k : Int} : ixC (.ref n) (.int k) env st = kIxC k st[n]? env st := rfl
@[simp] theorem x_kIxC {k : Int} : kIxC k (some (.lst ds)) env st = ret (atI ds k) env st := rfl
def kItC5 (n : Nat) (ds : List D) (d : D) (o : Option Nat) : M Fl := fun env st => match o with
  | some j => .ok .nx env (st.set n (.lst (ds.set j d)))
  | none => .bad
def kItC4 (n : Nat) (k : Int) (d : D) (c : Option Cell) : M Fl := fun env st => match c with
  | some (.lst ds) => kItC5 n ds d (ixN ds.length k) env st
  | _ => .bad
def kItC3 (d r : D) : D → M Fl := fun k env st => match r, k with
  | .ref n, .int k => kItC4 n k d st[n]? env st
  | _, _ => .bad
def kItC2 (fi : M D) (d : D) : D → M Fl := fun r env st => (fi env st).bind (kItC3 d r)
def kItC1 (fo fi : M D) : D → M Fl := fun d env st => (fo env st).bind (kItC2 fi d)
@[simp] theorem x_sItemC : sItemC fo fi fe env st = (fe env st).bind (kItC1 fo fi) := rfl
@[simp] theorem x_kItC1 : kItC1 fo fi d env st = (fo env st).bind (kItC2 fi d) := rfl
@[simp] theorem x_kItC2 : kItC2 fi d x env st = (fi env st).bind (kItC3 d x) := rfl
@[simp] theorem x_kItC3 {k : Int} : kItC3 d (.ref n) (.int k) env st = kItC4 n k d st[n]? env st := rfl
@[simp] theorem x_kItC4 {k : Int} : kItC4 n k d (some (.lst ds)) env st = kItC5 n ds d (ixN ds.length k) env st := rfl
@[simp] theorem x_kItC5 : kItC5 n ds d (some j) env st = .ok .nx env (st.set n (.lst (ds.set j d))) := rfl
def kFld2 (n f : Str) (c : Option Cell) : M D := fun env st => match c with
  | some (.ins n' fs) => if n' = n then ret (fs.lookup f) env st else .bad
  | _ => .bad
def kFld (n f : Str) : D → M D := fun r env st => match r with
  | .ref m => kFld2 n f st[m]? env st
  | _ => .bad
@[simp] theorem x_eFld {n f : Str} : eFld n f fa env st = (fa env st).bind (kFld n f) := rfl
@[simp] theorem x_kFld {n f : Str} {q : Nat} : kFld n f (.ref q) env st = kFld2 n f st[q]? env st := rfl
@[simp] theorem x_kFld2 {n n' f : Str} {fl : List (Str × D)} : kFld2 n f (some (.ins n' fl)) env st = if n' = n then ret (fl.lookup f) env st else .bad := rfl
def kFS3 (n f : Str) (d : D) (m : Nat) (c : Option Cell) : M Fl := fun env st => match c with
  | some (.ins n' fs) => if n' = n ∧ fs.length < 1000 then .ok .nx env (st.set m (.ins n (putD f d fs))) else .bad
  | _ => .bad
def kFS2 (n f : Str) (d : D) : D → M Fl := fun r env st => match r with
  | .ref m => kFS3 n f d m st[m]? env st
  | _ => .bad
def kFS1 (n f : Str) (fo : M D) : D → M Fl := fun d env st => (fo env st).bind (kFS2 n f d)
@[simp] theorem x_sFldS {n f : Str} : sFldS n f fo fe env st = (fe env st).bind (kFS1 n f fo) := rfl
@[simp] theorem x_kFS1 {n f : Str} : kFS1 n f fo d env st = (fo env st).bind (kFS2 n f d) := rfl
@[simp] theorem x_kFS2 {n f : Str} {q : Nat} : kFS2 n f d (.ref q) env st = kFS3 n f d q st[q]? env st := rfl
@[simp] theorem x_kFS3 {n n' f : Str} {q : Nat} {fl : List (Str × D)} : kFS3 n f d q (some (.ins n' fl)) env st = if n' = n ∧ fl.length < 1000 then .ok .nx env (st.set q (.ins n (putD f d fl))) else .bad := rfl
def kFA5 (n f : Str) (z : D) (m : Nat) (c : Option Cell) : M Fl := fun env st => match c with
  | some (.ins n2 fs) => if n2 = n ∧ fs.length < 1000 then .ok .nx env (st.set m (.ins n (putD f z fs))) else .bad
  | _ => .bad
def kFA4 (n f : Str) (m : Nat) (o : Option D) : M Fl := fun env st => match o with
  | some z => kFA5 n f z m st[m]? env st
  | none => .bad
def kFA3 (n f : Str) (h : D → D → Option D) (m : Nat) (x : D) : D → M Fl := fun y env st => kFA4 n f m (h x y) env st
def kFA2b (n f : Str) (h : D → D → Option D) (fe : M D) (m : Nat) (o : Option D) : M Fl := fun env st => match o with
  | some x => (fe env st).bind (kFA3 n f h m x)
  | none => .bad
def kFA2 (n f : Str) (h : D → D → Option D) (fe : M D) (m : Nat) (c : Option Cell) : M Fl := fun env st => match c with
  | some (.ins n' fs) => if n' = n then kFA2b n f h fe m (fs.lookup f) env st else .bad
  | _ => .bad
def kFA1 (n f : Str) (h : D → D → Option D) (fe : M D) : D → M Fl := fun r env st => match r with
  | .ref m => kFA2 n f h fe m st[m]? env st
  | _ => .bad
@[simp] theorem x_sFldA {n f : Str} {h : D → D → Option D} : sFldA n f h fo fe env st = (fo env st).bind (kFA1 n f h fe) := rfl
@[simp] theorem x_kFA1 {n f : Str} {h : D → D → Option D} {q : Nat} : kFA1 n f h fe (.ref q) env st = kFA2 n f h fe q st[q]? env st := rfl
@[simp] theorem x_kFA2 {n n' f : Str} {h : D → D → Option D} {q : Nat} {fl : List (Str × D)} : kFA2 n f h fe q (some (.ins n' fl)) env st = if n' = n then kFA2b n f h fe q (fl.lookup f) env st else .bad := rfl
@[simp] theorem x_kFA2b {n f : Str} {h : D → D → Option D} {q : Nat} : kFA2b n f h fe q (some x) env st = (fe env st).bind (kFA3 n f h q x) := rfl
@[simp] theorem x_kFA3 {n f : Str} {h : D → D → Option D} {q : Nat} : kFA3 n f h q x y env st = kFA4 n f q (h x y) env st := rfl
@[simp] theorem x_kFA4 {n f : Str} {q : Nat} : kFA4 n f q (some z) env st = kFA5 n f z q st[q]? env st := rfl
@[simp] theorem x_kFA5 {n n2 f : Str} {q : Nat} {fl : List (Str × D)} : kFA5 n f z q (some (.ins n2 fl)) env st = if n2 = n ∧ fl.length < 1000 then .ok .nx env (st.set q (.ins n (putD f z fl))) else .bad := rfl
def kM3 (mf : FM) (np q : Nat) : List D → M D := fun ds env st => if ds.length + 1 = np then callR mf (.ref q :: ds) env st else .bad
def kM2 (n m : Str) (mf : FM) (np q : Nat) (fs : M (List D)) (c : Option Cell) : M D := fun env st => match c with
  | some (.ins n' fl) => if n' = n ∧ fl.lookup m = none then (fs env st).bind (kM3 mf np q) else .bad
  | _ => .bad
def kM1 (n m : Str) (mf : FM) (np : Nat) (fs : M (List D)) : D → M D := fun r env st => match r with
  | .ref q => kM2 n m mf np q fs st[q]? env st
  | _ => .bad
@[simp] theorem x_eMeth {n m : Str} : eMeth n m mf np fo fs env st = (fo env st).bind (kM1 n m mf np fs) := rfl
@[simp] theorem x_kM1 {n m : Str} {q : Nat} : kM1 n m mf np fs (.ref q) env st = kM2 n m mf np q fs st[q]? env st := rfl
@[simp] theorem x_kM2 {n n' m : Str} {q : Nat} {fl : List (Str × D)} : kM2 n m mf np q fs (some (.ins n' fl)) env st = if n' = n ∧ fl.lookup m = none then (fs env st).bind (kM3 mf np q) else .bad := rfl
@[simp] theorem x_kM3 {q : Nat} : kM3 mf np q ds env st = if ds.length + 1 = np then callR mf (.ref q :: ds) env st else .bad := rfl
def kMz2 (n m : Str) (mf : FM) (np q : Nat) (c : Option Cell) : M D := fun env st => match c with
  | some (.ins n' fl) => if n' = n ∧ fl.lookup m = none ∧ np = 1 then callR mf [.ref q] env st else .bad
  | _ => .bad
def kMz1 (n m : Str) (mf : FM) (np : Nat) : D → M D := fun r env st => match r with
  | .ref q => kMz2 n m mf np q st[q]? env st
  | _ => .bad
@[simp] theorem x_eMeth0 {n m : Str} : eMeth0 n m mf np fo env st = (fo env st).bind (kMz1 n m mf np) := rfl
@[simp] theorem x_kMz1 {n m : Str} {q : Nat} : kMz1 n m mf np (.ref q) env st = kMz2 n m mf np q st[q]? env st := rfl
@[simp] theorem x_kMz2 {n n' m : Str} {q : Nat} {fl : List (Str × D)} : kMz2 n m mf np q (some (.ins n' fl)) env st = if n' = n ∧ fl.lookup m = none ∧ np = 1 then callR mf [.ref q] env st else .bad := rfl
def kMk2 (q : Nat) : D → M D := fun d env st => match d with
  | .non => .ok (.ref q) env st
  | _ => .bad
def kMk1 (n : Str) (mf : FM) (np : Nat) : List D → M D := fun ds env st => if ds.length + 1 = np then (callR mf (.ref st.length :: ds) env (st ++ [.ins n []])).bind (kMk2 st.length) else .bad
@[simp] theorem x_eMake {n : Str} : eMake n mf np fs env st = (fs env st).bind (kMk1 n mf np) := rfl
@[simp] theorem x_kMk1 {n : Str} : kMk1 n mf np ds env st = if ds.length + 1 = np then (callR mf (.ref st.length :: ds) env (st ++ [.ins n []])).bind (kMk2 st.length) else .bad := rfl
@[simp] theorem x_kMk2 {q : Nat} : kMk2 q .non env st = .ok (.ref q) env st := rfl
def kSl3 (h : D → Option Int → Option Int → Option D) (d : D) (l : Option Int) : Option Int → M D := fun u env st => ret (h d l u) env st
def kSl2 (h : D → Option Int → Option Int → Option D) (fh : M (Option Int)) (d : D) : Option Int → M D := fun l env st => (fh env st).bind (kSl3 h d l)
def kSl1 (h : D → Option Int → Option Int → Option D) (fl fh : M (Option Int)) : D → M D := fun d env st => (fl env st).bind (kSl2 h fh d)
@[simp] theorem x_eSl {h : D → Option Int → Option Int → Option D} {fl fh : M (Option Int)} : eSl h fa fl fh env st = (fa env st).bind (kSl1 h fl fh) := rfl
@[simp] theorem x_kSl1 {h : D → Option Int → Option Int → Option D} {fl fh : M (Option Int)} : kSl1 h fl fh d env st = (fl env st).bind (kSl2 h fh d) := rfl
@[simp] theorem x_kSl2 {h : D → Option Int → Option Int → Option D} {fh : M (Option Int)} {l : Option Int} : kSl2 h fh d l env st = (fh env st).bind (kSl3 h d l) := rfl
@[simp] theorem x_kSl3 {h : D → Option Int → Option Int → Option D} {l u : Option Int} : kSl3 h d l u env st = ret (h d l u) env st := rfl
@[simp] theorem x_oNone : oNone env st = .ok none env st := rfl
def kO : D → M (Option Int) := fun d env st => match d with
  | .int i => .ok (some i) env st
  | _ => .bad
@[simp] theorem x_oSome : oSome fa env st = (fa env st).bind kO := rfl
@[simp] theorem x_kO {i : Int} : kO (.int i) env st = .ok (some i) env st := rfl
def kMs2 (h : Str → D → Option D) (z : Str) : D → M D := fun y env st => ret (h z y) env st
def kMs1 (h : Str → D → Option D) (fa : M D) : D → M D := fun x env st => match x with
  | .str z => (fa env st).bind (kMs2 h z)
  | _ => .bad
@[simp] theorem x_eMs {h : Str → D → Option D} : eMs h fo fa env st = (fo env st).bind (kMs1 h fa) := rfl
@[simp] theorem x_kMs1 {h : Str → D → Option D} : kMs1 h fa (.str s) env st = (fa env st).bind (kMs2 h s) := rfl
@[simp] theorem x_kMs2 {h : Str → D → Option D} : kMs2 h s d env st = ret (h s d) env st := rfl
def kApp3 (i : Nat) : Option (List D) → M Fl := fun o env st => match o with
  | some ys => .ok .nx (env.set i (.ow (.lst ys))) st
  | none => .bad
def kApp2b (i : Nat) (h : List D → D → Option (List D)) (d : D) (s : Option Sl) : M Fl := fun env st => match s with
  | some (.ow (.lst xs)) => kApp3 i (h xs d) env st
  | _ => .bad
def kApp2 (i : Nat) (h : List D → D → Option (List D)) : D → M Fl := fun d env st => kApp2b i h d env[i]? env st
def kApp1 (i : Nat) (h : List D → D → Option (List D)) (fa : M D) (s : Option Sl) : M Fl := fun env st => match s with
  | some (.ow (.lst _)) => (fa env st).bind (kApp2 i h)
  | _ => .bad
@[simp] theorem x_sApp {h : List D → D → Option (List D)} : sApp i h fa env st = kApp1 i h fa env[i]? env st := rfl
@[simp] theorem x_kApp1 {h : List D → D → Option (List D)} : kApp1 i h fa (some (.ow (.lst ds))) env st = (fa env st).bind (kApp2 i h) := rfl
@[simp] theorem x_kApp2 {h : List D → D → Option (List D)} : kApp2 i h d env st = kApp2b i h d env[i]? env st := rfl
@[simp] theorem x_kApp2b {h : List D → D → Option (List D)} : kApp2b i h d (some (.ow (.lst ds))) env st = kApp3 i (h ds d) env st := rfl
@[simp] theorem x_kApp3 : kApp3 i (some ds) env st = .ok .nx (env.set i (.ow (.lst ds))) st := rfl
@[simp] theorem x_appD : appD ds d = if ds.length < 16777216 then some (ds ++ [d]) else none := rfl
@[simp] theorem x_extD {es : List D} : extD ds (.lst es) = if ds.length + es.length ≤ 16777216 then some (ds ++ es) else none := rfl
@[simp] theorem x_sRaise : sRaise s env st = .ex ⟨s, []⟩ env st := rfl
/-! the operators -/
@[simp] theorem x_add {i j : Int} : addI (.int i) (.int j) = some (.int (i + j)) := rfl
@[simp] theorem x_addS {i j : Str} : addI (.str i) (.str j) = if i.length + j.length ≤ sizeLine then some (.str (i ++ j)) else none := rfl
@[simp] theorem x_addII {i j : Int} : addII (.int i) (.int j) = some (.int (i + j)) := rfl
@[simp] theorem x_sub {i j : Int} : subI (.int i) (.int j) = some (.int (i - j)) := rfl
@[simp] theorem x_mul {i j : Int} : mulI (.int i) (.int j) = if mulOk i j then some (.int (i * j)) else none := rfl
@[simp] theorem x_fdiv {i j : Int} : fdivI (.int i) (.int j) = if divOk j then some (.int (i / j)) else none := rfl
@[simp] theorem x_mod {i j : Int} : modI (.int i) (.int j) = if 0 < j then some (.int (i % j)) else none := rfl
@[simp] theorem x_pow {i j : Int} : powI (.int i) (.int j) = if decide (0 ≤ j) && decide (j ≤ 1000) && decide (i.natAbs < 2 ^ 64) then some (.int (i ^ j.toNat)) else none := rfl
@[simp] theorem x_neg {i : Int} : negI (.int i) = some (.int (-i)) := rfl
@[simp] theorem x_cmpI {p : Int → Int → Bool} {i j : Int} : cmpI p (.int i) (.int j) = some (.bl (p i j)) := rfl
@[simp] theorem x_isN {b : Bool} : isN b x .non = some (.bl (if b then !isNone x else isNone x)) := rfl
@[simp] theorem x_ixL {xs : List D} {k : Int} : ixD (.lst xs) (.int k) = atI xs k := rfl
@[simp] theorem x_ixT {xs : List D} {k : Int} : ixD (.tup xs) (.int k) = atI xs k := rfl
@[simp] theorem x_ixR {xs : List Int} {k : Int} : ixD (.scr xs) (.int k) = (atI xs k).map .int := rfl
@[simp] theorem x_len1 {xs : List D} : lenD (.lst xs) = some (.int xs.length) := rfl
@[simp] theorem x_len2 {xs : List D} : lenD (.tup xs) = some (.int xs.length) := rfl
@[simp] theorem x_len3 {xs : List Int} : lenD (.scr xs) = some (.int xs.length) := rfl
@[simp] theorem x_len4 {z : Str} : lenD (.str z) = if z.length ≤ 16777216 then some (.int z.length) else none := rfl
@[simp] theorem x_int1 {i : Int} : intD (.int i) = some (.int i) := rfl
@[simp] theorem x_int2 {i : Bool} : intD (.bl i) = some (.int (if i then 1 else 0)) := rfl
@[simp] theorem x_tup1 {xs : List D} : tupD (.lst xs) = some (.tup xs) := rfl
@[simp] theorem x_tup2 {xs : List D} : tupD (.tup xs) = some (.tup xs) := rfl
@[simp] theorem x_list1 {xs : List D} : listD (.lst xs) = some (.lst xs) := rfl
@[simp] theorem x_list2 {xs : List D} : listD (.tup xs) = some (.lst xs) := rfl
@[simp] theorem x_rev {xs : List D} : revD (.lst xs) = some (.lst xs.reverse) := rfl
@[simp] theorem x_slL {xs : List D} {lo hi : Option Int} : slL (.lst xs) lo hi = some (.lst (cutD xs lo hi)) := rfl
@[simp] theorem x_cat {xs ys : List D} : catL (.lst xs) (.lst ys) = if xs.length + ys.length ≤ 16777216 then some (.lst (xs ++ ys)) else none := rfl
@[simp] theorem x_ii1 {i : Int} : isiD "int" (.int i) = some (.bl true) := by simp only [isiD, tyD]; rfl
@[simp] theorem x_ii2 {i : Bool} : isiD "int" (.bl i) = some (.bl true) := by simp only [isiD, tyD]; rfl
@[simp] theorem x_ii3 {i : Str} : isiD "int" (.str i) = some (.bl false) := by simp only [isiD, tyD]; rfl
@[simp] theorem x_ii4 : isiD "int" .non = some (.bl false) := by simp only [isiD, tyD]; rfl
@[simp] theorem x_ib1 {i : Int} : isiD "bool" (.int i) = some (.bl false) := by simp only [isiD, tyD]; rfl
@[simp] theorem x_ib2 {i : Bool} : isiD "bool" (.bl i) = some (.bl true) := by simp only [isiD, tyD]; rfl
@[simp] theorem x_is1 {i : Str} : isiD "str" (.str i) = some (.bl true) := by simp only [isiD, tyD]; rfl
@[simp] theorem x_is2 {i : Int} : isiD "str" (.int i) = some (.bl false) := by simp only [isiD, tyD]; rfl
@[simp] theorem x_is3 : isiD "str" .non = some (.bl false) := by simp only [isiD, tyD]; rfl
@[simp] theorem x_is4 {i : Bool} : isiD "str" (.bl i) = some (.bl false) := by simp only [isiD, tyD]; rfl
@[simp] theorem x_toRF1 {fr : Bool} : toRF fr (.ok .nx env st) = if fr then .bad else .ok .non st := rfl
@[simp] theorem x_toRF2 {fr : Bool} : toRF fr (.ok (.rt d) env st) = if fr then .bad else .ok d st := rfl
@[simp] theorem x_toRF3 {fr : Bool} : toRF fr (.ok (.rf d) env st) = .ok d st := rfl
@[simp] theorem x_toRF4 {fr : Bool} {e : Exn} : toRF fr (.ex e env st) = .ex e st := rfl
@[simp] theorem x_isNone : isNone .non = true := rfl
@[simp] theorem x_isNone1 {i : Int} : isNone (.int i) = false := rfl
@[simp] theorem x_isNone2 {i : Str} : isNone (.str i) = false := rfl
end
/-- items at written places -/
@[simp] theorem at0 {α : Type} {x : α} {xs : List α} : atI (x :: xs) 0 = some x := atI_nat (j := 0) rfl
@[simp] theorem at1 {α : Type} {x y : α} {xs : List α} : atI (x :: y :: xs) 1 = some y := atI_nat (j := 1) rfl
@[simp] theorem at2 {α : Type} {x y z : α} {xs : List α} : atI (x :: y :: z :: xs) 2 = some z := atI_nat (j := 2) rfl
@[simp] theorem at3 {α : Type} {x y z u : α} {xs : List α} : atI (x :: y :: z :: u :: xs) 3 = some u := atI_nat (j := 3) rfl
@[simp] theorem at4 {α : Type} {x y z u v : α} {xs : List α} : atI (x :: y :: z :: u :: v :: xs) 4 = some v := atI_nat (j := 4) rfl
@[simp] theorem at5 {α : Type} {x y z u v w : α} {xs : List α} : atI (x :: y :: z :: u :: v :: w :: xs) 5 = some w := atI_nat (j := 5) rfl
theorem ixN_nat {n : Nat} {i : Int} (h0 : 0 ≤ i) (h1 : i < n) : ixN n i = some i.toNat := by unfold ixN; rw [if_pos h0, if_pos h1]
theorem atI_pos {α : Type} {xs : List α} {i : Int} (h0 : 0 ≤ i) (h1 : i < xs.length) : atI xs i = xs[i.toNat]? := by unfold atI; rw [ixN_nat h0 h1]; rfl
@[simp] theorem ixN_4_0 : ixN 4 0 = some 0 := by decide
@[simp] theorem ixN_4_1 : ixN 4 1 = some 1 := by decide
@[simp] theorem ixN_4_2 : ixN 4 2 = some 2 := by decide
@[simp] theorem ixN_4_3 : ixN 4 3 = some 3 := by decide
theorem mulOk_r {i j : Int} (h : -(2 ^ 64) < j ∧ j < 2 ^ 64) : mulOk i j = true := by
  exact mulOk_iff.mpr (.inr h)
theorem mulOk_l {i j : Int} (h : -(2 ^ 64) < i ∧ i < 2 ^ 64) : mulOk i j = true := by
  exact mulOk_iff.mpr (.inl h)
theorem divOk_ {j : Int} (h : 0 < j) (h2 : j ≤ 10000000000000000000000000000000000000000) : divOk j = true := by
  exact divOk_iff.mpr ⟨h, h2⟩
end VE

/-! instances with slots, as changeable objects of the store -/
namespace VE
open PySem PySem.Spec PyProof.Rows L2
variable [VEnv]
section
variable {X : Cx} {W : WX} {e a o : Expr} {es : List Expr} {pos pos' : Pos} {fa fb fo fi : M D} {fs : M (List D)} {x : Str}
/-- a class with slots: its instances' variables, in order -/
structure SlV (K : PySem.W.Frag) (mg : Str → Option Value) (n : Str) (fl : List Str) : Prop where
  ex : ∃ C, mg n = some (.ref C)
  cl : ∀ C, mg n = some (.ref C) → L2.SCls K C
  at_ : ∀ C i f, mg n = some (.ref C) → fl[i]? = some f → ∃ p, L2.Slt K C f i p
def eSlot (n : Str) (i : Nat) (fo : M D) : M D := fun env st => (fo env st).bind fun r env st => match r with
  | .ref q => (match st[q]? with
    | some (.slo n' ds) => if n' = n then ret ds[i]? env st else .bad
    | _ => .bad)
  | _ => .bad
theorem Rps.at {K : PySem.W.Frag} {mg : Str → Option Value} {F : Addr → Prop} {c : List Addr} {H : Hp} {vs : List V} {ds : List D} {i : Nat} {d : D} (r : Rps K mg F c H vs ds) (h : ds[i]? = some d) : ∃ v, (vs.map some)[i]? = some (some v) ∧ Rp K mg F c H v d := by
  obtain ⟨v, hv, rp⟩ := r.get' h
  exact ⟨v, by rw [List.getElem?_map, hv]; rfl, rp⟩
theorem ve_slot {n f : Str} {fl : List Str} (i : Nat) (cv : SlV X.K X.mg n fl) (h : VE X W e fa) (hf : fl[i]? = some f := by rfl) (hb : attributeBase e f X.env (eval e X.env) = eval e X.env := by rfl) : VE X W (.Attribute e f pos) (eSlot n i fa) := by
  obtain ⟨C, hC⟩ := cv.ex
  obtain ⟨p, sl⟩ := cv.at_ C i f hC hf
  refine PEof (pe_slot (cv.cl C hC) sl h hb) fun σ H Q ⟨b, F, c, env, st, e1, e2, r, p⟩ =>
    tE_at e1 e2 r p fun v d env1 st1 F1 c1 H1 s1 r1 rp1 p1 => ?_
  split at p1
  · split at p1
    · rename_i n' ds es
      split at p1
      · rename_i en
        subst en
        obtain ⟨q, rfl, hc, C', dx, vs, k1, k2, rps⟩ := r1.cell rp1 es
        rw [e2, hC] at k1; cases k1
        unfold ret at p1
        split at p1
        · rename_i d ed
          obtain ⟨v, hv, rp⟩ := rps.at ed
          exact ⟨q, dx, vs.map some, v, rfl, k2, hv, Post.here r1 p1 v rp⟩
        · exact p1.elim
      · exact p1.elim
    · exact p1.elim
  · exact p1.elim
/-- o.f = e, the next slot is filled -/
def sSlot (n : Str) (i : Nat) (fo fe : M D) : M Fl := fun env st => (fe env st).bind fun d env st => (fo env st).bind fun r env st => match r with
  | .ref q => (match st[q]? with
    | some (.slo n' ds) => if n' = n ∧ ds.length = i then .ok .nx env (st.set q (.slo n (ds ++ [d]))) else .bad
    | _ => .bad)
  | _ => .bad
theorem putS_end (vs : List V) (v : V) : L2.putS vs.length v (vs.map some) = (vs ++ [v]).map some := by
  unfold L2.putS
  rw [List.length_map, show vs.length + 1 - vs.length = 1 from by omega, List.map_append]
  show ((vs.map some) ++ [none]).set vs.length (some v) = _
  rw [List.set_append_right _ _ (by simp)]
  simp
theorem vs_slot {n f : Str} {fl : List Str} {fe : M D} (i : Nat) (cv : SlV X.K X.mg n fl) (ho : VE X W o fo) (he : VE X W e fe) (hf : fl[i]? = some f := by rfl) (hs : swapsWith e (some (.Attribute o f pos')) pos.line X.env = pure false := by rfl) : VS X W (.Assign [.Attribute o f pos'] e pos) (sSlot n i fo fe) := by
  obtain ⟨C, hC⟩ := cv.ex
  obtain ⟨p, sl⟩ := cv.at_ C i f hC hf
  refine PSof (ps_slot (cv.cl C hC) sl ho he hs) fun D₀ σ H ⟨b, F, c, env, st, e1, e2, r, p⟩ =>
    sE_at e1 e2 r p fun v d env1 st1 F1 c1 H1 s1 r1 rp1 p1 => sE_at e1 e2 r1 p1 fun u r_ env2 st2 F2 c2 H2 s2 r2 rp2 p2 => ?_
  split at p2
  · rename_i m
    split at p2
    · rename_i n' ds es
      split at p2
      · rename_i hn
        obtain ⟨en, hl⟩ := hn
        subst en
        obtain ⟨q, rfl, hc, C', dx, vs, k1, k2, rps⟩ := r2.cell rp2 es
        have k1' := k1
        rw [e2, hC] at k1'; cases k1'
        refine ⟨q, dx, vs.map some, rfl, k2, ?_⟩
        have hvl : vs.length = i := by rw [rps.length]; exact hl
        rw [← hvl, putS_end]
        obtain ⟨s4, r4⟩ := r2.cellUpd (o := L2.SlO C dx q ((vs ++ [v]).map some)) (x := .slo n' (ds ++ [d])) hc fun s => ⟨C, dx, vs ++ [v], k1, k2.here, (rps.stp s).append (.cons ((rp1.stp s2).stp s) .nil)⟩
        exact PostS.here (P := fun fl _ _ F c σ H => FlOk b D₀ F c σ H fl) r4 (p2.stp s4)
      · exact p2.elim
    · exact p2.elim
  · exact p2.elim
/-- an instance with slots is made -/
def eMakeS (n : Str) (mf : FM) (np : Nat) (fs : M (List D)) : M D := fun env st => (fs env st).bind fun ds env st => if ds.length + 1 = np then (callR mf (.ref st.length :: ds) env (st ++ [.slo n []])).bind fun d env st' => match d with
  | .non => .ok (.ref st.length) env st'
  | _ => .bad else .bad
theorem ve_makeS {k np : Nat} {n : Str} {mf : FM} {p : Pos} (Mv : MkV X.prog X.w X.K X.mg X.base k n np mf) (hr : Room (k + 1) X.A) (tk : Takes X W) (ha : VA X W (e :: es) fs) (hg : Gl X n := by rfl) (hdb : (n == ("__debug__" : Str)) = false := by decide)
    (he : starEach (e :: es) X.env = (false, eval e X.env) :: starEach es X.env := by rfl) (hpl : (backTo pos (starEach es X.env)).any (·.1) = false := by rfl) : VE X W (.Call (.Name n p) (e :: es) [] pos) (eMakeS n mf np fs) := by
  obtain ⟨C, f, fd, ps, hC, mk, Fo, hb⟩ := Mv.ex
  refine ⟨fun pins s σ H Q I ⟨b, F, c, env, st, e1, e2, r, p⟩ => ?_⟩
  refine wpAny_Call_Name_kw (ld_glob I hg hC ?_ hdb)
  refine PySem.W.callWith_K (h₀ := X.base) I.ok.mod.kin mk.kp (thn (ha.run pos pins s σ H _ I (tA_at e1 e2 r p (Q := fun vs H1 => ∀ x dx, H1 x = none → H1 dx = none → dx ≠ x → spV X.K X.mg false np mf (.ref x :: vs) (upd (upd H1 dx (.own x)) x (.ins C dx [])) (fun v H2 => v = .non ∧ Q (.ref x) H2) (WE W σ))
    fun vs ds env1 st1 F1 c1 H1 s1 r1 rp1 p1 x dx hx hdx hne => ?_)) fun us s1 ⟨vs, H1, I1, r, q⟩ => ⟨I1.kIn, run_makeS (E := WE W) mk Fo hr hb (passAt tk σ) I1 r q⟩) he hpl
  split at p1
  · rename_i hnp
    obtain ⟨s2, r2⟩ := r1.newO hdx (.own x)
    have hx2 : upd H1 dx (.own x) x = none := by rw [upd_ne (Ne.symm hne)]; exact hx
    obtain ⟨s3, r3, rp3⟩ := r2.cellNew (x := .slo n []) (o := .ins C dx []) hx2 fun s => ⟨C, dx, [], by rw [e2]; exact hC, L2.SlAt.made hne, .nil⟩
    exact call_of e1 e2 r3 (.cons rp3 (rp1.stp (s2.trans s3))) (by simpa using hnp) (Post.bind (Post.stp (s2.trans s3) p1)) fun v d st F' c' H' s r rv q => by
      dsimp only at q
      split at q
      · cases rv
        exact ⟨rfl, Post.here r q _ (rp3.stp s)⟩
      · exact q.elim
  · exact p1.elim
/-- a property of a class with slots -/
structure PrV (P : Program) (w : World) (K : PySem.W.Frag) (mg : Str → Option Value) (base : Heap) (k : Nat) (n f : Str) (mf : FM) : Prop where
  ex : ∃ C p g fd ps, mg n = some (.ref C) ∧ L2.SCls K C ∧ PropOf K C f p g ∧ FnOk P w K mg base (L2.CX P w) k g fd ps (spV K mg false 1 mf) ∧ Binds K fd ps []
def eProp (n : Str) (mf : FM) (fo : M D) : M D := fun env st => (fo env st).bind fun r env st => match r with
  | .ref q => (match st[q]? with
    | some (.slo n' _) => if n' = n then (match mf [.ref q] st with
      | .ok d st => .ok d env st
      | _ => .bad) else .bad
    | _ => .bad)
  | _ => .bad
theorem getprop_at {k : Nat} {C p g a dx : Addr} {vs : List (Option V)} {f : Str} {fd : FuncData} {ps : List Str} {sp : Sp} {pins : List (Addr × Obj)} {σ : L2.St} {H : Hp} {s : Shared} {Q : VK} {b : Bool} {E' : Value → Shared → Prop} (I : Inv X pins σ H s) (ea : L2.SlAt H a C dx vs) (c : L2.SCls X.K C) (hp : PropOf X.K C f p g)
    (F : FnOk X.prog X.w X.K X.mg X.base (L2.CX X.prog X.w) k g fd ps sp) (hr : Room (k + 1) X.A) (hb : Binds X.K fd ps []) (h : sp [.ref a] H Q (fun _ _ _ => False)) :
    wpAny (model X.prog X.w) X.A (getAttr (.ref a) f b) (EP X pins σ Q) E' s := by
  obtain ⟨us, od, _, _, J⟩ := L2.slAt_get I ea
  obtain ⟨rest, hrec⟩ := hp.rec_
  have I1 := I.tok (s.toks + 1)
  have hl : ([Value.ref a] ++ ([] : List Value)).length = ps.length := by
    rw [← F.len _ _ _ _ h]; rfl
  have cg : PySem.W.plainGet X.K C f = true := c.pg
  refine PySem.W.get_bind I.kIn J (PySem.W.plainGet_of cg).1 (PySem.W.findObj_data c.ic hp.at_ hp.get hp.tak) (PySem.W.plainGet_of cg).2 (wpAny_call (PySem.W.prop_get (s := { s with toks := s.toks + 1 }) I.kIn hrec ?_))
  refine codeAny_mono (F.run X.A.in1 X.stack { s with toks := s.toks + 1 } H ⟨[.ref a], []⟩ (.ref a :: []) (.ref a :: []) Q (fun _ _ _ => False) hr.in1 I1.env0.in1 (hb _ [.ref a] I1.kIn hl) (.cons rfl .nil) h) fun r s' hq => ?_
  cases r with
  | error er => exact False.elim (by obtain ⟨_, _, _, _, _, _, _, _, _, _, _, _, z⟩ := hq; exact z)
  | ok fl =>
    cases fl with
    | ret u =>
      obtain ⟨v, H', I3, rv, q3⟩ := I1.after hq
      show wpAny _ _ (handedOut u) _ _ _
      rw [PySem.W.handedOut_of (handed_of rv)]
      exact wpAny_pure ⟨v, H', I3, rv, q3⟩
    | next => exact False.elim hq
    | brk => exact False.elim hq
    | cont => exact False.elim hq
theorem ve_prop {n f : Str} {mf : FM} {k : Nat} (Pv : PrV X.prog X.w X.K X.mg X.base k n f mf) (hr : Room (k + 1) X.A) (h : VE X W e fa) (hb : attributeBase e f X.env (eval e X.env) = eval e X.env := by rfl) : VE X W (.Attribute e f pos) (eProp n mf fa) := by
  obtain ⟨C, p, g, fd, ps, hC, cl, hp, Fo, hbi⟩ := Pv.ex
  refine ⟨fun pins s σ H Q I ⟨b, F, c, env, st, e1, e2, r, p⟩ => ?_⟩
  refine attr_of hb (thn (h.run pins s σ H _ I (tE_at e1 e2 r p (Q := fun x H1 => ∃ a dx vs, x = .ref a ∧ L2.SlAt H1 a C dx vs ∧ spV X.K X.mg false 1 mf [.ref a] H1 Q (fun _ _ _ => False)) fun v d env1 st1 F1 c1 H1 s1 r1 rp1 p1 => ?_)) fun u s1 ⟨x, H1, I1, rx, a, dx, vs, ex, ea, q⟩ => ?_)
  · split at p1
    · rename_i q
      split at p1
      · rename_i n' ds es
        split at p1
        · rename_i en
          subst en
          obtain ⟨a, rfl, hc, C', dx, vs, k1, k2, rps⟩ := r1.cell rp1 es
          rw [e2, hC] at k1; cases k1
          refine ⟨a, dx, vs.map some, rfl, k2, ?_⟩
          rw [← e1, ← e2]
          refine ⟨F1, c1, [.ref q], st1, r1.rc, .cons rp1 .nil, rfl, ?_⟩
          generalize mf [.ref q] st1 = y at p1
          cases y with
          | ok d st' => exact fun v F' c' H' s rc o rv => p1 F' c' H' s (r1.call s rc o) v rv
          | ex x st' => exact p1.elim
          | bad => exact p1.elim
        · exact p1.elim
      · exact p1.elim
    · exact p1.elim
  · subst ex
    obtain rfl : u = Value.ref a := rx
    exact getprop_at I1 ea cl hp Fo hr hbi q
end
end VE

/-! loops over zip, enumerate -/
namespace VE
open PySem PySem.Spec PyProof.Rows L2
variable [VEnv]
section
variable {X : Cx} {W : WX} {b : Bs} {F : Addr → Prop} {c : List Addr} {H : Hp} {e e2 : Expr} {pos p tpos : Pos} {elts : List Expr} {kk : Nat} {fa : M D} {fs : M (List D)}
def zipD (xs ys : List D) : List D := List.zipWith (fun x y => .tup [x, y]) xs ys
theorem zipD_at {xs ys : List D} {i : Nat} {d : D} (h : (zipD xs ys)[i]? = some d) : ∃ x y, xs[i]? = some x ∧ ys[i]? = some y ∧ d = .tup [x, y] := by
  unfold zipD at h
  rw [List.getElem?_zipWith] at h
  split at h
  · rename_i x y ex ey; cases h; exact ⟨x, y, ex, ey, rfl⟩
  · cases h
theorem zipD_end {xs ys : List D} {i : Nat} (h : (zipD xs ys).length ≤ i) : xs.length ≤ i ∨ ys.length ≤ i := by
  unfold zipD at h
  rw [List.length_zipWith] at h
  omega
theorem walks_zipL {a a2 : Addr} {xs xs2 : List V} {ds ds2 : List D} (hF : F a) (hx : H a = some (.lst xs)) (r : Rps b.K b.mg F c H xs ds) (hF2 : F a2) (hx2 : H a2 = some (.lst xs2)) (r2 : Rps b.K b.mg F c H xs2 ds2) : Walks b (Itz b.K a a2) (zipD ds ds2) F c H := by
  intro F' c' H' s i
  have q1 := SqL.of (K := b.K) (s.keep a _ hF hx)
  have q2 := SqL.of (K := b.K) (s.keep a2 _ hF2 hx2)
  have r' := r.stp s
  have r2' := r2.stp s
  refine ⟨fun d hd => ?_, fun hi => ⟨xs, xs2, q1, q2, by rw [r.length, r2.length]; exact zipD_end hi⟩⟩
  obtain ⟨x, y, ex, ey, rfl⟩ := zipD_at hd
  obtain ⟨v, hv, rp⟩ := r'.get' ex
  obtain ⟨v2, hv2, rp2⟩ := r2'.get' ey
  refine ⟨⟨xs, xs2, v, v2, q1, q2, hv, hv2⟩, fun z H2 yl => ?_⟩
  obtain ⟨T, x', y', rfl, hT, rfl, k1, k2⟩ := yl
  have z1 := k1 xs q1
  have z2 := k2 xs2 q2
  rw [hv] at z1; cases z1
  rw [hv2] at z2; cases z2
  exact .inr ⟨T, [v, v2], _, rfl, hT, rfl, rfl, .cons rp (.cons rp2 .nil)⟩
theorem walks_zipT {a a2 : Addr} {xs xs2 : List V} {ds ds2 : List D} (hx : FqT b.K F H a xs) (r : Rps b.K b.mg F c H xs ds) (hx2 : FqT b.K F H a2 xs2) (r2 : Rps b.K b.mg F c H xs2 ds2) : Walks b (RZ.ItzT b.K a a2) (zipD ds ds2) F c H := by
  intro F' c' H' s i
  have q1 := (hx.stp s).sq
  have q2 := (hx2.stp s).sq
  have r' := r.stp s
  have r2' := r2.stp s
  refine ⟨fun d hd => ?_, fun hi => ⟨xs, xs2, q1, q2, by rw [r.length, r2.length]; exact zipD_end hi⟩⟩
  obtain ⟨x, y, ex, ey, rfl⟩ := zipD_at hd
  obtain ⟨v, hv, rp⟩ := r'.get' ex
  obtain ⟨v2, hv2, rp2⟩ := r2'.get' ey
  refine ⟨⟨xs, xs2, v, v2, q1, q2, hv, hv2⟩, fun z H2 yl => ?_⟩
  obtain ⟨T, x', y', rfl, hT, rfl, k1, k2⟩ := yl
  have z1 := k1 xs q1
  have z2 := k2 xs2 q2
  rw [hv] at z1; cases z1
  rw [hv2] at z2; cases z2
  exact .inr ⟨T, [v, v2], _, rfl, hT, rfl, rfl, .cons rp (.cons rp2 .nil)⟩
def iZip (fs : M (List D)) : M (List D) := fun env st => (fs env st).bind fun ds env st => match ds with
  | [.lst xs, .lst ys] => .ok (zipD xs ys) env st
  | [.tup xs, .tup ys] => .ok (zipD xs ys) env st
  | _ => .bad
theorem vi_zip (hm : X.mg "zip" = none) (h : VA X W [e, e2] fs) (hg : Gl X "zip" := by rfl) (hs : starEach [e, e2] X.env = (false, eval e X.env) :: starEach [e2] X.env := by rfl) (hpl : (backTo pos (starEach [e2] X.env)).any (·.1) = false := by rfl) :
    VI X W (.Tuple elts kk tpos) (.Call (.Name "zip" p) [e, e2] [] pos) (iZip fs) :=
  ⟨_, RZ.pi_zipA hg hm h hs hpl, fun σ H R ⟨b, F, c, env, st, e1, e2, r, p⟩ => tA_at e1 e2 r p fun vs ds env1 st1 F1 c1 H1 s1 r1 rp1 p1 => by
    split at p1
    · rename_i xs ys
      cases rp1 with
      | cons a1 t1 => cases t1 with
        | cons a2 t2 => cases t2; cases a1 with
          | lst f hx hr => cases a2 with
            | lst f2 hx2 hr2 => exact ⟨_, _, _, _, rfl, .inl ⟨SqL.of hx, SqL.of hx2, Post.here r1 p1 _ (e1 ▸ walks_zipL f hx hr f2 hx2 hr2)⟩⟩
    · rename_i xs ys
      cases rp1 with
      | cons a1 t1 => cases t1 with
        | cons a2 t2 => cases t2; cases a1 with
          | tup hx hr => cases a2 with
            | tup hx2 hr2 => exact ⟨_, _, _, _, rfl, .inr ⟨e1 ▸ hx.sq, e1 ▸ hx2.sq, Post.here r1 p1 _ (e1 ▸ walks_zipT hx hr hx2 hr2)⟩⟩
    · exact p1.elim⟩
/-- enumerate -/
def enuD : Nat → List D → List D
  | _, [] => []
  | i, d :: ds => .tup [.int (i : Nat), d] :: enuD (i + 1) ds
theorem enuD_len : ∀ (i : Nat) (ds : List D), (enuD i ds).length = ds.length
  | _, [] => rfl
  | i, d :: ds => by simp [enuD, enuD_len (i + 1) ds]
theorem enuD_at : ∀ (j : Nat) (ds : List D) (i : Nat) (d : D), (enuD j ds)[i]? = some d → ∃ x, ds[i]? = some x ∧ d = .tup [.int ((j + i : Nat) : Int), x]
  | _, [], i, d, h => by simp [enuD] at h
  | j, x :: ds, 0, d, h => by simp [enuD] at h; exact ⟨x, rfl, by rw [← h]; rfl⟩
  | j, x :: ds, i + 1, d, h => by
    obtain ⟨y, e, q⟩ := enuD_at (j + 1) ds i d (by simpa [enuD] using h)
    exact ⟨y, by simpa using e, by rw [q]; congr 4; omega⟩
theorem walks_enL {a : Addr} {xs : List V} {ds : List D} (hF : F a) (hx : H a = some (.lst xs)) (r : Rps b.K b.mg F c H xs ds) : Walks b (Ite b.K a) (enuD 0 ds) F c H := by
  intro F' c' H' s i
  have q1 := SqL.of (K := b.K) (s.keep a _ hF hx)
  have r' := r.stp s
  refine ⟨fun d hd => ?_, fun hi => ⟨xs, q1, by rw [r.length, ← enuD_len 0 ds]; exact hi⟩⟩
  obtain ⟨x, ex, rfl⟩ := enuD_at 0 ds i d hd
  obtain ⟨v, hv, rp⟩ := r'.get' ex
  refine ⟨⟨xs, v, q1, hv⟩, fun z H2 yl => ?_⟩
  obtain ⟨T, x', rfl, hT, rfl, k1⟩ := yl
  have z1 := k1 xs q1
  rw [hv] at z1; cases z1
  exact .inr ⟨T, [.int (i : Nat), v], _, rfl, hT, rfl, rfl, .cons (by rw [Nat.zero_add]; exact .int _) (.cons rp .nil)⟩
def iEnL (fs : M (List D)) : M (List D) := fun env st => (fs env st).bind fun ds env st => match ds with
  | [.lst xs] => .ok (enuD 0 xs) env st
  | _ => .bad
theorem vi_enL (hm : X.mg "enumerate" = none) (h : VA X W [e] fs) (hg : Gl X "enumerate" := by rfl) (hs : starEach [e] X.env = [(false, eval e X.env)] := by rfl) :
    VI X W (.Tuple elts kk tpos) (.Call (.Name "enumerate" p) [e] [] pos) (iEnL fs) :=
  ⟨_, pi_enum hg hm h hs, fun σ H R ⟨b, F, c, env, st, e1, e2, r, p⟩ => tA_at e1 e2 r p fun vs ds env1 st1 F1 c1 H1 s1 r1 rp1 p1 => by
    split at p1
    · rename_i xs
      cases rp1 with
      | cons a1 t1 => cases t1; cases a1 with
        | lst f hx hr => exact ⟨_, _, rfl, SqL.of hx, Post.here r1 p1 _ (e1 ▸ walks_enL f hx hr)⟩
    · exact p1.elim⟩
end
end VE

/-! enumerate over a tuple -/
namespace VE
open PySem PySem.Spec PyProof.Rows L2
variable [VEnv]
theorem meets_enum1 {v : Value} {o : Obj} {H : Heap → Prop} (B : Begins v o H) :
    Meets (Builtin.«enumerate.__new__» ⟨[.type "enumerate", v], []⟩) (fun _ R s => H s.heap ∧
      R (.ok (.ret (.ref (s.heap.push o).objs.size))) { s with heap := (s.heap.push o).push { cls := .type "enumerate", data := .fields #[.none, .bool false, .ref s.heap.objs.size, rawInt 0, .none, .none] } }) :=
  .of_wp fun prog w A R s h => by
    obtain ⟨hp, g, d, tk, os⟩ := s; obtain ⟨h1, h⟩ := h
    have hsub := sub_enumerate
    have q1 : ∀ {A' : Around} {E : Value → Shared → Prop} {Q : Value → Shared → Prop}, Q (.ref hp.objs.size) ⟨hp.push o, g, d, tk, os⟩ → wpAny (model prog w) A' (pyIter v) Q E ⟨hp, g, d, tk, os⟩ :=
      fun q => B.iter prog w _ _ ⟨hp, g, d, tk, os⟩ _ h1 q
    wp_walk using q1
    refine wpAny_stack_any fun st => wpAny_pure ?_
    split
    · rename_i c _ _ _ _ _
      cases (c == Value.type "enumerate")
      · wp_walk using q1
        exact ⟨_, rfl, h⟩
      · wp_walk using q1
        exact ⟨_, rfl, h⟩
    · wp_walk using q1
      exact ⟨_, rfl, h⟩
theorem enum1_begins {prog : Program} {w : World} {A : Around} {E : Value → Shared → Prop} {s : Shared} {v : Value} {o : Obj} {H : Heap → Prop} {Q : Value → Shared → Prop} (B : Begins v o H) (h1 : H s.heap)
    (h : ∀ h', IsEnum h' (s.heap.objs.size + 1) s.heap.objs.size 0 .none → h'.get? s.heap.objs.size = some o → h'.objs.size = s.heap.objs.size + 2 →
      (∀ b o, s.heap.get? b = some o → h'.get? b = some o) → Q (.ref (s.heap.objs.size + 1)) { s with heap := h' }) :
    wpAny (model prog w) A (call (.type "enumerate") [v]) Q E s := by
  refine callType_new F.called_enumerate (by decide) (F.typeCall_enumerate_1 _) (F.newCall_enumerate_1 _) (fun obj => F.args_object_init_2 obj _) F.entry_enumerate_new
    (meets_enum1 B) ⟨h1, ?_⟩
  have hz : (s.heap.push o).objs.size = s.heap.objs.size + 1 := Heap.size_push ..
  show _ ∧ _
  rw [hz]
  have he : IsEnum ((s.heap.push o).push { cls := .type "enumerate", data := .fields #[.none, .bool false, .ref s.heap.objs.size, rawInt 0, .none, .none] }) (s.heap.objs.size + 1) s.heap.objs.size 0 .none := by
    have := Heap.get?_push_size (s.heap.push o) (o := { cls := .type "enumerate", data := .fields #[.none, .bool false, .ref s.heap.objs.size, rawInt 0, .none, .none] }) rfl
    rw [hz] at this; exact this
  refine ⟨⟨_, he, rfl⟩, h _ he (Heap.get?_push_of_some _ (Heap.get?_push_size _ B.free)) (by rw [Heap.size_push, hz]) fun b o x => Heap.get?_push_of_some _ (Heap.get?_push_of_some _ x)⟩
theorem enumT_end {prog : Program} {w : World} {A : Around} {E : Value → Shared → Prop} {s : Shared} {e it t : Addr} {i : Nat} {items : Array Value} {old : Value} {k : Int} {Q : Option Value → Shared → Prop} (hh : A.in1.handled = none) (he : IsEnum s.heap e it k old) (hit : s.heap.IsTupleIter it t i) (ht : s.heap.IsTuple t items) (hx : items[i]? = none)
    (hQ : ∀ h', Heap.ExtBut it s.heap h' → Q none { s with heap := h' }) : wpAny (model prog w) A (pyNext (.ref e)) Q E s := by
  have hT : s.TypeIs (.ref e) "enumerate" := ⟨_, he, rfl⟩
  unfold pyNext
  refine wpAny_bind (wpAny_attempt (wpAny_callSpecial?_slot (name := Str.ofString "__next__") hT F.slot_enumerate_next
    (wpAny_call_entry F.slot_enumerate_next hT F.entry_enumerate_next ?_ (F.args_enumerate_next_1 _))))
  show wpAny _ _ (field (.ref e) 2 >>= _) _ _ _
  refine wpAny_bind (wpAny_field he rfl (x := .ref it) rfl ?_)
  refine wpAny_bind (wpAny_nextOf_tuple_end hh hit ht hx fun h' x he' hx' => ?_)
  obtain ⟨o, ho, hc⟩ := hx'
  refine wpAny_bind (wpAny_isInstance (T := "StopIteration") (b := true) ⟨o, ho, hc⟩ isSubtype_stop ?_)
  exact wpAny_pure (hQ _ he')
/-- the tuple at a as it stands at each turn, its items with their places in new pairs -/
def IteT (K : PySem.W.Frag) (a : Addr) : It :=
  ⟨fun i H => ∃ (xs : List V) (x : V), SqT K H a xs ∧ xs[i]? = some x, fun i H v H' => ∃ T x, v = .ref T ∧ H T = none ∧ H' = upd H T (.tup [.int (i : Nat), x]) ∧ ∀ xs, SqT K H a xs → xs[i]? = some x, fun i H => ∃ xs : List V, SqT K H a xs ∧ xs.length ≤ i⟩
theorem turn_enumT {P : Program} {w : World} {K : PySem.W.Frag} {elts : List Expr} {kk : Nat} {tpos : Pos} (a e it : Addr) :
    Turn P w K (.Tuple elts kk tpos) (IteT K a) [e, it] e (fun i h => (∃ old, IsEnum h e it ((i : Nat) : Int) old) ∧ h.IsTupleIter it a i ∧ e ≠ it ∧ a ≠ it ∧ a ≠ e) where
  mem := by simp
  obj := fun i h st b hb => by
    obtain ⟨⟨old, he⟩, ⟨o, ho, hc, hd⟩, _⟩ := st
    have e' : b = e ∨ b = it := by simpa using hb
    rcases e' with z | z
    · rw [z]; exact ⟨_, he, fun v q => nomatch q⟩
    · rw [z]; exact ⟨o, ho, fun v q => by rw [hd] at q; cases q⟩
  keep := fun i h h' st k => let ⟨⟨old, he⟩, hi, hne⟩ := st; ⟨⟨old, k e (by simp) _ he⟩, hi.at fun o q => k it (by simp) o q, hne⟩
  item := by
    intro X hP hw hK hc i pins s σ H E I hf st hg
    subst hP hw hK
    obtain ⟨⟨old, he⟩, hit, hne, hai, hae⟩ := st
    obtain ⟨xs, x, hq, hx⟩ := hg
    obtain ⟨its, rv, p, hz⟩ := I.tuple hq
    obtain ⟨u, hu, ru⟩ := rv.get hx
    have hel : e < s.heap.objs.size := Heap.lt_size he
    have hil : it < s.heap.objs.size := by obtain ⟨_, q, _⟩ := hit; exact Heap.lt_size q
    have p' : s.heap.IsTuple a its.toArray := p
    have hlt : i < its.toArray.size := by
      have := (List.getElem?_eq_some_iff.mp hu).1
      simpa using this
    refine wpAny_pyNext_enum_itemD (Draws.tuple (A := X.A.in1) (I.ok.hd hc) it a hai its.toArray) he ⟨hit, p'⟩ hlt hne (by simp; exact ⟨hne, Ne.symm hae⟩) fun x2 h' tk Px ho hst' hT hsz hk => ?_
    have ex : x2 = u := by
      have Px' : its.toArray[i]? = some x2 := Px
      rw [List.getElem?_toArray, hu] at Px'
      exact (Option.some.inj Px').symm
    subst ex
    refine ⟨_, rfl, wpAny_letOwnedTupleGo_enum (s := { s with heap := h', toks := tk + 1 }) ho fun h'' he' sb => ?_⟩
    have hT2 : h''.get? s.heap.objs.size = some { cls := .type "tuple", data := .seq #[.int i tk, x2] } := (sb.2 _ (Nat.ne_of_gt hel)).trans hT
    have new : ObjOk X.prog X.w (upd H s.heap.objs.size (.tup [.int (i : Nat), x])) h'' s.heap.objs.size (.tup [.int (i : Nat), x]) :=
      ⟨by show 2 ≤ sizeLine; decide, [.int i tk, x2], .cons ⟨_, rfl⟩ (.cons ru .nil), ⟨_, hT2, rfl, _, rfl⟩⟩
    have I1 : Inv X pins σ (upd H s.heap.objs.size (.tup [.int (i : Nat), x])) { s with heap := h'', toks := tk + 1 } :=
      I.turnedNew (ch := [e, it]) (fun b ob hb q => (sb.2 b (fun z => hb (by simp [z]))).trans (hk b ob (fun z => hb (by simp [z])) (fun z => hb (by simp [z])) q)) hf (Nat.le_refl _) new
    refine ⟨.ref s.heap.objs.size, _, I1, rfl, ⟨_, x, rfl, I.hok.fresh (Nat.le_refl _), rfl, fun ys hy => by rw [I.tuple_inj hy hq]; exact hx⟩, ⟨⟨x2, ?_⟩, hst'.1.at fun o q => (sb.2 it (Ne.symm hne)).trans q, hne, hai, hae⟩, fun b hb => ?_⟩
    · have e1 : ((i + 1 : Nat) : Int) = (i : Int) + 1 := by omega
      rw [e1]; exact he'
    · have hb' : b < s.heap.objs.size := by
        have e' : b = e ∨ b = it := by simpa using hb
        rcases e' with z | z
        · rw [z]; exact hel
        · rw [z]; exact hil
      rw [upd_ne (Nat.ne_of_lt hb')]
      exact (hf b hb).1
  done := by
    intro X hP hw hK hc i pins s σ H E I hf st hg
    subst hP hw hK
    obtain ⟨⟨old, he⟩, hit, hne, hai, hae⟩ := st
    obtain ⟨xs, hq, hx⟩ := hg
    obtain ⟨its, rv, p, hz⟩ := I.tuple hq
    obtain ⟨f0, f1, f2, f3, f4, f5⟩ := hf it (by simp)
    have hl := rv.length
    have p' : s.heap.IsTuple a its.toArray := p
    exact enumT_end (I.ok.hd hc) he hit p' (by simp; omega) fun h' eb => ⟨rfl, I.turned (t' := s.toks) (fun b o hb q => eb b o hb q) f0 f1 f3 f4 f5⟩
  self := fun A i s Q E st h => let ⟨⟨_, he⟩, _⟩ := st; wpAny_pyIter_enum he h
def iEnumT (K : PySem.W.Frag) (ta : TA) : TI := fun σ H R => ta σ H fun vs H1 => ∃ a xs, vs = [.ref a] ∧ SqT K H1 a xs ∧ R (IteT K a) H1
theorem pi_enumT {X : Cx} {e : Expr} {ta : TA} {p pos tpos : Pos} {elts : List Expr} {kk : Nat} (hg : Gl X "enumerate") (hm : X.mg "enumerate" = none) (ha : PA X [e] ta) (hs : starEach [e] X.env = [(false, eval e X.env)] := by rfl) :
    PI X (.Tuple elts kk tpos) (.Call (.Name "enumerate" p) [e] [] pos) (iEnumT X.K ta) := by
  refine ⟨fun pins s σ H R I h => ?_⟩
  refine Call_ (ld_blt I hg hm boot_enumerate (PyProof.Rows.callWith_type1 (thn (ha.run pos pins s σ H _ I h) fun us s1 ⟨vs, H1, I1, r1, q1⟩ => ?_) hs rfl))
  obtain ⟨a, xs, ex, hq, q⟩ := q1
  subst ex
  cases r1 with
  | cons r rr =>
    cases rr
    cases r
    obtain ⟨its, rv, p', hz⟩ := I1.tuple hq
    have p2 : s1.heap.IsTuple a its.toArray := p'
    have hal : a < s1.heap.objs.size := by obtain ⟨o, ho, _⟩ := id p2; exact Heap.lt_size ho
    refine enum1_begins (begins_tuple a its.toArray) p2 fun h' he hit hsz hk => wpAny_pyIter_enum he ?_
    have I2 : Inv X pins σ H1 { s1 with heap := h' } := I1.kept (t' := s1.toks) hk
    refine ⟨s1.heap.objs.size + 1, [s1.heap.objs.size + 1, s1.heap.objs.size], _, _, H1, rfl, I2, turn_enumT a (s1.heap.objs.size + 1) s1.heap.objs.size, ⟨⟨.none, he⟩, ⟨_, hit, rfl, rfl⟩, Nat.succ_ne_self _, Nat.ne_of_lt hal, Nat.ne_of_lt (Nat.lt_succ_of_lt hal)⟩, fun b hb => ?_, q⟩
    have e' : b = s1.heap.objs.size + 1 ∨ b = s1.heap.objs.size := by simpa using hb
    have hle : s1.heap.objs.size ≤ b := by
      rcases e' with z | z
      · rw [z]; exact Nat.le_add_right _ _
      · rw [z]; exact Nat.le_refl _
    exact I1.fpOk hle (I1.hok.fresh hle)
section
variable {X : Cx} {W : WX} {b : Bs} {F : Addr → Prop} {c : List Addr} {H : Hp} {e : Expr} {pos p tpos : Pos} {elts : List Expr} {kk : Nat} {fs : M (List D)}
theorem walks_enT {a : Addr} {xs : List V} {ds : List D} (hx : FqT b.K F H a xs) (r : Rps b.K b.mg F c H xs ds) : Walks b (IteT b.K a) (enuD 0 ds) F c H := by
  intro F' c' H' s i
  have q1 := (hx.stp s).sq
  have r' := r.stp s
  refine ⟨fun d hd => ?_, fun hi => ⟨xs, q1, by rw [r.length, ← enuD_len 0 ds]; exact hi⟩⟩
  obtain ⟨x, ex, rfl⟩ := enuD_at 0 ds i d hd
  obtain ⟨v, hv, rp⟩ := r'.get' ex
  refine ⟨⟨xs, v, q1, hv⟩, fun z H2 yl => ?_⟩
  obtain ⟨T, x', rfl, hT, rfl, k1⟩ := yl
  have z1 := k1 xs q1
  rw [hv] at z1; cases z1
  exact .inr ⟨T, [.int (i : Nat), v], _, rfl, hT, rfl, rfl, .cons (by rw [Nat.zero_add]; exact .int _) (.cons rp .nil)⟩
def iEnT (fs : M (List D)) : M (List D) := fun env st => (fs env st).bind fun ds env st => match ds with
  | [.tup xs] => .ok (enuD 0 xs) env st
  | _ => .bad
theorem vi_enT (hm : X.mg "enumerate" = none) (h : VA X W [e] fs) (hg : Gl X "enumerate" := by rfl) (hs : starEach [e] X.env = [(false, eval e X.env)] := by rfl) :
    VI X W (.Tuple elts kk tpos) (.Call (.Name "enumerate" p) [e] [] pos) (iEnT fs) :=
  ⟨_, pi_enumT hg hm h hs, fun σ H R ⟨b, F, c, env, st, e1, e2, r, p⟩ => tA_at e1 e2 r p fun vs ds env1 st1 F1 c1 H1 s1 r1 rp1 p1 => by
    split at p1
    · rename_i xs
      cases rp1 with
      | cons a1 t1 => cases t1; cases a1 with
        | tup hx hr => exact ⟨_, _, rfl, e1 ▸ hx.sq, Post.here r1 p1 _ (e1 ▸ walks_enT hx hr)⟩
    · exact p1.elim⟩
end
end VE

/-! more operators: in a tuple, tuples put together, order of texts, list(range) -/
namespace VE
open PySem PySem.Spec PyProof.Rows L2
variable [VEnv]
section
variable {X : Cx} {W : WX} {e a : Expr} {pos : Pos} {fa fb : M D} {k : Nat}
def rInTD (K : PySem.W.Frag) : R2 := fun x y H Q => ∃ d ds, Dp K H x d ∧ Dp K H y (.tuple ds) ∧ SeqAt.shaped d = true ∧ SeqAt.shaped (.tuple ds) = true ∧ Q (.bl (ds.any fun z => PyData.eqv z d)) H
def rNotInTD (K : PySem.W.Frag) : R2 := fun x y H Q => ∃ d ds, Dp K H x d ∧ Dp K H y (.tuple ds) ∧ SeqAt.shaped d = true ∧ SeqAt.shaped (.tuple ds) = true ∧ Q (.bl (!ds.any fun z => PyData.eqv z d)) H
theorem op_inTD (hu : X.A.units + 65 < cLine) : OpR X (compareOp .In) (rInTD X.K) := by
  intro pins s σ H x y v u Q I rx ry h
  obtain ⟨d, ds, hd, he, sd, se, q⟩ := h
  obtain ⟨as, r1⟩ := Dp.reads I d x v hd rx
  obtain ⟨bs, r2⟩ := Dp.reads I (.tuple ds) y u he ry
  exact SeqAt.in_tuple_reads r2 r1 (SeqAt.canLay_of_shaped se) (SeqAt.canLay_of_shaped sd) (room_in_shaped sd hu) ⟨.bl _, H, I, rfl, q⟩
theorem op_notInTD (hu : X.A.units + 65 < cLine) : OpR X (compareOp .NotIn) (rNotInTD X.K) := by
  intro pins s σ H x y v u Q I rx ry h
  obtain ⟨d, ds, hd, he, sd, se, q⟩ := h
  obtain ⟨as, r1⟩ := Dp.reads I d x v hd rx
  obtain ⟨bs, r2⟩ := Dp.reads I (.tuple ds) y u he ry
  exact SeqAt.notIn_tuple_reads r2 r1 (SeqAt.canLay_of_shaped se) (SeqAt.canLay_of_shaped sd) (room_in_shaped sd hu) ⟨.bl _, H, I, rfl, q⟩
def inT (neg : Bool) : D → D → Option D
  | x, .tup ys => if plain 20 x && plain 20 (.tup ys) then some (.bl (if neg then !(ys.any fun z => eqD z x) else ys.any fun z => eqD z x)) else none
  | _, _ => none
theorem ok_inT : OpOk X W (rInTD X.K) (sc2 (inT false)) := opOk_sc fun F c H x y dx dy d Q hx hy e q => by
  unfold inT at e
  split at e
  · split at e
    · rename_i h
      rw [Bool.and_eq_true] at h
      cases e
      have h2 := hy.dp 20 h.2
      have h3 := shaped_of (by decide) h.2
      simp only [toPy] at h2 h3
      exact ⟨_, _, hx.dp 20 h.1, h2, shaped_of (by decide) h.1, h3, q _ (by rw [any_toPys]; exact .bl _)⟩
    · cases e
  · cases e
theorem ok_notinT : OpOk X W (rNotInTD X.K) (sc2 (inT true)) := opOk_sc fun F c H x y dx dy d Q hx hy e q => by
  unfold inT at e
  split at e
  · split at e
    · rename_i h
      rw [Bool.and_eq_true] at h
      cases e
      have h2 := hy.dp 20 h.2
      have h3 := shaped_of (by decide) h.2
      simp only [toPy] at h2 h3
      exact ⟨_, _, hx.dp 20 h.1, h2, shaped_of (by decide) h.1, h3, q _ (by rw [any_toPys]; exact .bl _)⟩
    · cases e
  · cases e
theorem ve_inT (hr : Room k X.A) (ha : VE X W e fa) (hb : VE X W a fb) (hm : behindInMarks .In a = false := by rfl) : VE X W (.Compare e [.In] [a] pos) (eBin (sc2 (inT false)) fa fb) := ve_cmp (op_inTD (huOf1 hr)) ok_inT ha hb hm
theorem vt_inT (hr : Room k X.A) (ha : VE X W e fa) (hb : VE X W a fb) (hm : behindInMarks .In a = false := by rfl) : VT X W (.Compare e [.In] [a] pos) (eT (eBin (sc2 (inT false)) fa fb)) := vt_cmp (op_inTD (huOf1 hr)) ok_inT ha hb hm
theorem ve_notinT (hr : Room k X.A) (ha : VE X W e fa) (hb : VE X W a fb) (hm : behindInMarks .NotIn a = false := by rfl) : VE X W (.Compare e [.NotIn] [a] pos) (eBin (sc2 (inT true)) fa fb) := ve_cmp (op_notInTD (huOf1 hr)) ok_notinT ha hb hm
theorem vt_notinT (hr : Room k X.A) (ha : VE X W e fa) (hb : VE X W a fb) (hm : behindInMarks .NotIn a = false := by rfl) : VT X W (.Compare e [.NotIn] [a] pos) (eT (eBin (sc2 (inT true)) fa fb)) := vt_cmp (op_notInTD (huOf1 hr)) ok_notinT ha hb hm
/-- texts in order -/
def ltS (x y : Str) : Bool := decide (x.cps.toList < y.cps.toList)
def cmpS (p : Str → Str → Bool) : D → D → Option D
  | .str x, .str y => some (.bl (p x y))
  | _, _ => none
theorem ok_ltS : OpOk X W (fun x y H Q => ∃ i j, x = .str i ∧ y = .str j ∧ Q (.bl (decide (i.cps.toList < j.cps.toList))) H) (sc2 (cmpS ltS)) := opOk_sc fun F c H x y dx dy d Q hx hy e q => by
  unfold cmpS at e
  split at e
  · cases hx; cases hy; cases e; exact ⟨_, _, rfl, rfl, q _ (.bl _)⟩
  · cases e
theorem ok_leS : OpOk X W (fun x y H Q => ∃ i j, x = .str i ∧ y = .str j ∧ Q (.bl (!decide (j.cps.toList < i.cps.toList))) H) (sc2 (cmpS fun x y => !ltS y x)) := opOk_sc fun F c H x y dx dy d Q hx hy e q => by
  unfold cmpS at e
  split at e
  · cases hx; cases hy; cases e; exact ⟨_, _, rfl, rfl, q _ (.bl _)⟩
  · cases e
@[reducible] def gLtS : D → D → M D := sc2 (cmpS ltS)
@[reducible] def gLeS : D → D → M D := sc2 (cmpS fun x y => !ltS y x)
theorem ve_ltS (ha : VE X W e fa) (hb : VE X W a fb) : VE X W (.Compare e [.Lt] [a] pos) (eBin gLtS fa fb) := ve_cmp op_lt_str ok_ltS ha hb (nomark _)
theorem ve_leS (ha : VE X W e fa) (hb : VE X W a fb) : VE X W (.Compare e [.LtE] [a] pos) (eBin gLeS fa fb) := ve_cmp op_le_str ok_leS ha hb (nomark _)
theorem vt_ltS (ha : VE X W e fa) (hb : VE X W a fb) : VT X W (.Compare e [.Lt] [a] pos) (eT (eBin gLtS fa fb)) := vt_cmp op_lt_str ok_ltS ha hb (nomark _)
theorem vt_leS (ha : VE X W e fa) (hb : VE X W a fb) : VT X W (.Compare e [.LtE] [a] pos) (eT (eBin gLeS fa fb)) := vt_cmp op_le_str ok_leS ha hb (nomark _)
/-- ints or texts in order -/
def ltA : D → D → Option D
  | .int i, .int j => some (.bl (decide (i < j)))
  | .str x, .str y => some (.bl (ltS x y))
  | _, _ => none
theorem ok_ltA : OpOk X W (fun x y H Q => (∃ i j, x = .int i ∧ y = .int j ∧ Q (.bl (decide (i < j))) H) ∨ (∃ i j, x = .str i ∧ y = .str j ∧ Q (.bl (decide (i.cps.toList < j.cps.toList))) H)) (sc2 ltA) := opOk_sc fun F c H x y dx dy d Q hx hy e q => by
  unfold ltA at e
  split at e
  · cases hx; cases hy; cases e; exact .inl ⟨_, _, rfl, rfl, q _ (.bl _)⟩
  · cases hx; cases hy; cases e; exact .inr ⟨_, _, rfl, rfl, q _ (.bl _)⟩
  · cases e
theorem op_ltA : OpR X (compareOp .Lt) (fun x y H Q => (∃ i j, x = .int i ∧ y = .int j ∧ Q (.bl (decide (i < j))) H) ∨ (∃ i j, x = .str i ∧ y = .str j ∧ Q (.bl (decide (i.cps.toList < j.cps.toList))) H)) := by
  intro pins s σ H x y v u Q I rx ry q
  rcases q with ⟨i, j, h1, h2, q⟩ | q
  · exact op_lt pins s σ H x y v u Q I rx ry ⟨i, j, h1, h2, q⟩
  · exact op_lt_str pins s σ H x y v u Q I rx ry q
theorem ve_ltA (ha : VE X W e fa) (hb : VE X W a fb) : VE X W (.Compare e [.Lt] [a] pos) (eBin (sc2 ltA) fa fb) := ve_cmp op_ltA ok_ltA ha hb (nomark _)
theorem vt_ltA (ha : VE X W e fa) (hb : VE X W a fb) : VT X W (.Compare e [.Lt] [a] pos) (eT (eBin (sc2 ltA) fa fb)) := vt_cmp op_ltA ok_ltA ha hb (nomark _)
/-- tuples put together -/
def catT : D → D → M D := fun x y env st => match x, y with
  | .tup xs, .tup ys => if xs.length + ys.length ≤ 16777216 then .ok (.tup (xs ++ ys)) env st else .bad
  | _, _ => .bad
theorem ok_catT : OpOk X W (rCatA X.K) catT := by
  intro b F c env st σ H x y dx dy Q e1 e2 r hx hy p
  unfold catT at p
  split at p
  · rename_i xs ys
    split at p
    · rename_i hl
      cases hx with
      | tup hx hrx => cases hy with
        | tup hy hry =>
          rename_i a vs b2 ws
          refine ⟨_, _, vs, ws, rfl, rfl, e1 ▸ hx.sq, e1 ▸ hy.sq, by rw [hrx.length, hry.length, sizeLine_eq]; exact hl, fun z => ?_, fun _ z => ?_, fun _ _ q hq => ?_⟩
          · subst z; cases hrx
            exact Post.here r p _ (.tup hy (by simpa using hry))
          · subst z; cases hry
            exact Post.here r p _ (.tup hx (by simpa using hrx))
          · obtain ⟨s, r2⟩ := r.newF hq (.tup (vs ++ ws))
            exact Post.here r2 (p.stp s) _ (.tup (.inl ⟨.inr rfl, .inl upd_same⟩) ((hrx.append hry).stp s))
    · exact p.elim
  · exact p.elim
theorem ve_catT (ha : VE X W e fa) (hb : VE X W a fb) : VE X W (.BinOp e .Add a pos) (eBin catT fa fb) := ve_op op_catA ok_catT ha hb
end
end VE

/-! plain laws about the mirrors: what a run gives (sat), loops by invariants, equal data, texts by their signs -/
namespace VE
open PySem PySem.Spec PyProof.Rows L2
open SX (S S_len S_cat S_inj)
/-- the run ends well and P holds, or raises and E holds -/
@[irreducible] def R.sat {α : Type} (r : R α) (P : α → EnvD → Sto → Prop) (E : Exn → Sto → Prop) : Prop := match r with
  | .ok a e st => P a e st
  | .ex x _ st => E x st
  | .bad => False
@[irreducible] def RF.sat (r : RF) (P : D → Sto → Prop) (E : Exn → Sto → Prop) : Prop := match r with
  | .ok d st => P d st
  | .ex x st => E x st
  | .bad => False
@[reducible] def nE : Exn → Sto → Prop := fun _ _ => False
section
variable {α β : Type} {P : α → EnvD → Sto → Prop} {E : Exn → Sto → Prop} {e env : EnvD} {st : Sto}
@[simp] theorem sat_ok {a : α} : (R.ok a e st).sat P E = P a e st := by unfold R.sat; rfl
@[simp] theorem sat_ex {x : Exn} : (R.ex x e st : R α).sat P E = E x st := by unfold R.sat; rfl
@[simp] theorem sat_bad : (R.bad : R α).sat P E = False := by unfold R.sat; rfl
@[simp] theorem fsat_ok {d : D} {P : D → Sto → Prop} : (RF.ok d st).sat P E = P d st := by unfold RF.sat; rfl
@[simp] theorem fsat_ex {x : Exn} {P : D → Sto → Prop} : (RF.ex x st).sat P E = E x st := by unfold RF.sat; rfl
@[simp] theorem fsat_bad {P : D → Sto → Prop} : RF.bad.sat P E = False := by unfold RF.sat; rfl
theorem sat_bind {r : R β} {k : β → M α} (h : r.sat (fun b e s => (k b e s).sat P E) E) : (r.bind k).sat P E := by
  unfold R.sat at *; cases r <;> exact h
theorem R.sat.mono {r : R α} {P' : α → EnvD → Sto → Prop} {E' : Exn → Sto → Prop} (h : r.sat P E) (hp : ∀ a e s, P a e s → P' a e s) (he : ∀ x s, E x s → E' x s) : r.sat P' E' := by
  unfold R.sat at *
  cases r with
  | ok => exact hp _ _ _ h
  | ex => exact he _ _ h
  | bad => exact h
theorem RF.sat.mono {r : RF} {P P' : D → Sto → Prop} {E' : Exn → Sto → Prop} (h : r.sat P E) (hp : ∀ a s, P a s → P' a s) (he : ∀ x s, E x s → E' x s) : r.sat P' E' := by
  unfold RF.sat at *
  cases r with
  | ok => exact hp _ _ h
  | ex => exact he _ _ h
  | bad => exact h
def kk {α β γ : Type} (k : α → M β) (l : β → M γ) : α → M γ := fun a e s => (k a e s).bind l
@[simp] theorem x_kk {α β γ : Type} {k : α → M β} {l : β → M γ} {a : α} : kk k l a env st = (k a env st).bind l := rfl
@[simp] theorem bind_assoc {α β γ : Type} {r : R α} {k : α → M β} {l : β → M γ} : (r.bind k).bind l = r.bind (kk k l) := by cases r <;> rfl
theorem toRF_sat {fr : Bool} {r : R Fl} {P : D → Sto → Prop} (h : r.sat (fun fl _ s => match fl with | .rt d => fr = false ∧ P d s | .rf d => P d s | .nx => fr = false ∧ P .non s | _ => False) E) : (toRF fr r).sat P E := by
  unfold R.sat at h; unfold RF.sat
  cases r with
  | ok fl e s =>
    cases fl with
    | nx => obtain ⟨rfl, h⟩ := h; exact h
    | rt d => obtain ⟨rfl, h⟩ := h; exact h
    | rf d => exact h
    | bk => exact h.elim
    | ct => exact h.elim
  | ex => exact h
  | bad => exact h
theorem toF_sat {fr : Bool} {n : Nat} {g : M Fl} {ds : List D} {P : D → Sto → Prop} (h : (g (env0 n ds) st).sat (fun fl _ s => match fl with | .rt d => fr = false ∧ P d s | .rf d => P d s | .nx => fr = false ∧ P .non s | _ => False) E) : (toF fr n g ds st).sat P E := toRF_sat h
/-- a call, from what the called gives -/
theorem sat_call {mf : FM} {ds : List D} {k : D → M α} {Q : D → Sto → Prop} {E2 : Exn → Sto → Prop} (h : (mf ds st).sat Q E2) (hk : ∀ d s, Q d s → (k d env s).sat P E) (he : ∀ x s, E2 x s → E x s := by intro _ _ h; exact h.elim) : ((callR mf ds env st).bind k).sat P E := by
  rw [x_callR]
  cases hm : mf ds st with
  | ok d s => rw [hm] at h; exact hk d s (by simpa using h)
  | ex x s => rw [hm] at h; show (R.ex x env s).sat P E; simpa using he x s (by simpa using h)
  | bad => rw [hm] at h; simp at h
/-- a loop, by an invariant -/
theorem sat_for (I : Nat → EnvD → Sto → Prop) {t : D → EnvD → Option EnvD} {ws : List Nat} {g : M Fl} : ∀ {ds : List D} {k : Fl → M α} (j : Nat) {env : EnvD} {st : Sto}, I j env st →
    (∀ i d env st, ds[i]? = some d → I (j + i) env st → ∃ e1, t d env = some e1 ∧ (g e1 st).sat (fun fl e s => match fl with | .nx => I (j + i + 1) (wipeD ws e) s | .ct => I (j + i + 1) (wipeD ws e) s | .bk => (k .nx e s).sat P E | .rt d => (k (.rt d) e s).sat P E | .rf d => (k (.rf d) e s).sat P E) E) →
    (∀ e s, I (j + ds.length) e s → (k .nx e s).sat P E) → ((forL t ws g ds env st).bind k).sat P E
  | [], k, j, env, st, h0, _, hk => hk _ _ h0
  | d :: ds, k, j, env, st, h0, hs, hk => by
    obtain ⟨e1, et, hg⟩ := hs 0 d env st rfl h0
    unfold forL
    rw [et]
    show (((g e1 st).bind _).bind k).sat P E
    cases hr : g e1 st with
    | bad => rw [hr, sat_bad] at hg; exact hg.elim
    | ex x e s => rw [hr, sat_ex] at hg; show (R.ex x e s).sat P E; rw [sat_ex]; exact hg
    | ok fl e s =>
      rw [hr, sat_ok] at hg
      have go : I (j + 0 + 1) (wipeD ws e) s → ((forL t ws g ds (wipeD ws e) s).bind k).sat P E := fun hI => by
        refine sat_for I (j + 1) hI (fun i d' env st hd hI' => ?_) fun e s hI' => hk e s (by rw [show j + (d :: ds).length = j + 1 + ds.length from by simp only [List.length_cons]; omega]; exact hI')
        have := hs (i + 1) d' env st (by simpa using hd) (by rw [show j + (i + 1) = j + 1 + i from by omega]; exact hI')
        rw [show j + (i + 1) = j + 1 + i from by omega] at this
        exact this
      cases fl with
      | nx => exact go hg
      | ct => exact go hg
      | bk => exact hg
      | rt d => exact hg
      | rf d => exact hg
/-- a list by comprehension, by an invariant on what was made -/
theorem sat_comp (I : Nat → List D → EnvD → Sto → Prop) {t : D → EnvD → Option EnvD} {ws : List Nat} {tt : M Bool} {fe : M D} : ∀ {ds : List D} {k : D → M α} (j : Nat) {acc : List D} {env : EnvD} {st : Sto}, I j acc env st →
    (∀ i d acc env st, ds[i]? = some d → I (j + i) acc env st → ∃ e1, t d (wipeD ws env) = some e1 ∧ (tt e1 st).sat (fun b e s => if b then (fe e s).sat (fun y e s => acc.length < 16777216 ∧ I (j + i + 1) (acc ++ [y]) e s) nE else I (j + i + 1) acc e s) nE) →
    (∀ acc e s, I (j + ds.length) acc e s → (k (.lst acc) (wipeD ws e) s).sat P E) → ((compL t ws tt fe ds acc env st).bind k).sat P E
  | [], k, j, acc, env, st, h0, _, hk => hk _ _ _ h0
  | d :: ds, k, j, acc, env, st, h0, hs, hk => by
    obtain ⟨e1, et, hg⟩ := hs 0 d acc env st rfl h0
    unfold compL
    rw [et]
    have go : ∀ acc e s, I (j + 0 + 1) acc e s → ((compL t ws tt fe ds acc e s).bind k).sat P E := fun acc e s hI => by
      refine sat_comp I (j + 1) hI (fun i d' acc env st hd hI' => ?_) fun acc e s hI' => hk acc e s (by rw [show j + (d :: ds).length = j + 1 + ds.length from by simp only [List.length_cons]; omega]; exact hI')
      have := hs (i + 1) d' acc env st (by simpa using hd) (by rw [show j + (i + 1) = j + 1 + i from by omega]; exact hI')
      rw [show j + (i + 1) = j + 1 + i from by omega] at this
      exact this
    cases hr : tt e1 st with
    | bad => rw [hr, sat_bad] at hg; exact hg.elim
    | ex x e s => rw [hr, sat_ex] at hg; exact hg.elim
    | ok b e s =>
      rw [hr, sat_ok] at hg
      cases b with
      | false => simp only [hr]; exact go _ _ _ (by simpa using hg)
      | true =>
        simp only [↓reduceIte] at hg
        simp only [hr]
        cases hf : fe e s with
        | bad => rw [hf, sat_bad] at hg; exact hg.elim
        | ex x e s => rw [hf, sat_ex] at hg; exact hg.elim
        | ok y e s =>
          rw [hf, sat_ok] at hg
          obtain ⟨hl, hI⟩ := hg
          simp only [hf, hl, ↓reduceIte]
          exact go _ _ _ hI
end
/-! equal data -/
section
variable {i j : Int} {x y : Str} {xs ys : List D} {b b' : Bool} {d d' : D} {n : Nat}
@[simp] theorem eq_int : eqD (.int i) (.int j) = decide (i = j) := by simp only [eqD, toPy, PyData.eqv]; exact rfl
@[simp] theorem eq_str : eqD (.str x) (.str y) = decide (x = y) := by simp only [eqD, toPy, PyData.eqv]; exact rfl
@[simp] theorem eq_lst : eqD (.lst xs) (.lst ys) = eqDs xs ys := by simp only [eqD, toPy, PyData.eqv, eqDs]
@[simp] theorem eq_tup : eqD (.tup xs) (.tup ys) = eqDs xs ys := by simp only [eqD, toPy, PyData.eqv, eqDs]
@[simp] theorem eqs_nil : eqDs [] [] = true := by simp only [eqDs, toPys, PyData.eqvAll]
@[simp] theorem eqs_cons : eqDs (d :: xs) (d' :: ys) = (eqD d d' && eqDs xs ys) := by simp only [eqDs, toPys, PyData.eqvAll, eqD]
@[simp] theorem eqs_nc : eqDs [] (d' :: ys) = false := by simp only [eqDs, toPys, PyData.eqvAll]
@[simp] theorem eqs_cn : eqDs (d :: xs) [] = false := by simp only [eqDs, toPys, PyData.eqvAll]
@[simp] theorem eq_lt : eqD (.lst xs) (.tup ys) = false := by simp only [eqD, toPy, PyData.eqv]
@[simp] theorem eq_tl : eqD (.tup xs) (.lst ys) = false := by simp only [eqD, toPy, PyData.eqv]
@[simp] theorem eq_non : eqD .non .non = true := by simp only [eqD, toPy, PyData.eqv]
@[simp] theorem eq_bl : eqD (.bl b) (.bl b') = (b == b') := by simp only [eqD, toPy, PyData.eqv]
mutual
theorem eqD_refl : ∀ (n : Nat) (d : D), plain n d = true → eqD d d = true
  | _, .non, _ => eq_non
  | _, .bl b, _ => by simp
  | _, .int i, _ => by simp
  | _, .str x, _ => by simp
  | n + 1, .lst xs, h => by rw [eq_lst]; exact eqDs_refl n xs (by simpa [plain] using h)
  | n + 1, .tup xs, h => by rw [eq_tup]; exact eqDs_refl n xs (by simpa [plain] using h)
  | 0, .lst xs, h => by simp [plain] at h
  | 0, .tup xs, h => by simp [plain] at h
  | n, .scr xs, h => by cases n <;> simp [plain] at h
  | n, .ino _ _ xs, h => by cases n <;> simp [plain] at h
  | n, .obj _ xs, h => by cases n <;> simp [plain] at h
  | n, .ref _, h => by cases n <;> simp [plain] at h
  | n, .fn _, h => by cases n <;> simp [plain] at h
theorem eqDs_refl : ∀ (n : Nat) (xs : List D), plains n xs = true → eqDs xs xs = true
  | _, [], _ => eqs_nil
  | n, x :: xs, h => by
    simp only [plains, Bool.and_eq_true] at h
    rw [eqs_cons, eqD_refl n x h.1, eqDs_refl n xs h.2]; rfl
end
@[simp] theorem pl_non : plain n .non = true := by cases n <;> simp only [plain]
@[simp] theorem pl_bl : plain n (.bl b) = true := by cases n <;> simp only [plain]
@[simp] theorem pl_int : plain n (.int i) = true := by cases n <;> simp only [plain]
@[simp] theorem pl_str : plain n (.str x) = PyData.strOk x := by cases n <;> simp only [plain]
theorem pl_lst : plain (n + 1) (.lst xs) = plains n xs := by simp only [plain]
theorem pl_tup : plain (n + 1) (.tup xs) = plains n xs := by simp only [plain]
@[simp] theorem pls_nil : plains n [] = true := by cases n <;> simp only [plains]
@[simp] theorem pls_cons : plains n (d :: xs) = (plain n d && plains n xs) := by cases n <;> simp only [plains]
@[simp] theorem pls_app : ∀ {xs ys : List D}, plains n (xs ++ ys) = (plains n xs && plains n ys)
  | [], _ => by simp
  | x :: xs, ys => by rw [List.cons_append, pls_cons, pls_app, pls_cons, Bool.and_assoc]
@[simp] theorem pl20l : plain 20 (.lst xs) = plains 19 xs := pl_lst
@[simp] theorem pl20t : plain 20 (.tup xs) = plains 19 xs := pl_tup
@[simp] theorem pl19l : plain 19 (.lst xs) = plains 18 xs := pl_lst
@[simp] theorem pl19t : plain 19 (.tup xs) = plains 18 xs := pl_tup
@[simp] theorem pl18l : plain 18 (.lst xs) = plains 17 xs := pl_lst
@[simp] theorem pl18t : plain 18 (.tup xs) = plains 17 xs := pl_tup
@[simp] theorem pl17l : plain 17 (.lst xs) = plains 16 xs := pl_lst
@[simp] theorem pl17t : plain 17 (.tup xs) = plains 16 xs := pl_tup
@[simp] theorem pls_ints : ∀ {xs : List Int}, plains n (xs.map .int) = true
  | [] => by simp
  | x :: xs => by rw [List.map_cons, pls_cons, pls_ints]; simp
theorem eqs_ints : ∀ {xs ys : List Int}, eqDs (xs.map .int) (ys.map .int) = decide (xs = ys)
  | [], [] => by simp
  | [], y :: ys => by simp
  | x :: xs, [] => by simp
  | x :: xs, y :: ys => by simp [eqs_ints]
theorem eqP_same (h : plain 20 d = true) : eqP d d = some (.bl true) := by unfold eqP; rw [h, eqD_refl 20 d h]; rfl
theorem neP_same (h : plain 20 d = true) : neP d d = some (.bl false) := by unfold neP; rw [h, eqD_refl 20 d h]; rfl
@[simp] theorem x_eqP (h : plain 20 d = true) (h' : plain 20 d' = true) : eqP d d' = some (.bl (eqD d d')) := by unfold eqP; rw [h, h']; rfl
@[simp] theorem x_neP (h : plain 20 d = true) (h' : plain 20 d' = true) : neP d d' = some (.bl (!eqD d d')) := by unfold neP; rw [h, h']; rfl
end
/-! ranges -/
@[simp] theorem rng_len {lo : Int} {n : Nat} : (rngD lo n).length = n := by simp [rngD]
theorem rng_at {lo : Int} {n i : Nat} {d : D} (h : (rngD lo n)[i]? = some d) : d = .int (lo + i) ∧ i < n := by
  unfold rngD at h
  rw [List.getElem?_map] at h
  by_cases hi : i < n
  · rw [List.getElem?_range hi] at h; cases h; exact ⟨rfl, hi⟩
  · rw [List.getElem?_eq_none (by simpa using hi)] at h; cases h
theorem rng_zero {lo : Int} : rngD lo 0 = [] := rfl
theorem rng_succ {lo : Int} {n : Nat} : rngD lo (n + 1) = .int lo :: rngD (lo + 1) n := by
  unfold rngD
  rw [List.range_succ_eq_map, List.map_cons, List.map_map]
  simp only [Int.natCast_zero, Int.add_zero]
  congr 1
  apply List.map_congr_left
  intro i _
  simp only [Function.comp, Nat.succ_eq_add_one, Int.natCast_add, Int.natCast_one]
  congr 1; omega
theorem rng_concat {lo : Int} {n : Nat} : rngD lo (n + 1) = rngD lo n ++ [.int (lo + n)] := by
  unfold rngD
  rw [List.range_succ, List.map_append]; rfl
/-! texts by their signs -/
theorem signs_S (a : List Nat) : signsD (S a) = a.map fun c => .str (S [c]) := by simp [signsD]
theorem ok_S {a : List Nat} (h : ∀ c ∈ a, c < 1114112) : PyData.strOk (S a) = true := by
  unfold PyData.strOk
  rw [Array.all_eq_true_iff_forall_mem]
  intro c hc
  exact decide_eq_true (h c (by simpa using hc))
@[simp] theorem wipe_nil {env : EnvD} : wipeD [] env = env := rfl
@[simp] theorem wipe_cons {i : Nat} {ws : List Nat} {env : EnvD} : wipeD (i :: ws) env = wipeD ws (env.set i .no) := rfl
/-- cells -/
@[simp] theorem put_cell {c : Cell} {rest : Sto} {ds : List D} {k : Int} {env : EnvD} : ixC (.ref 0) (.int k) env (.lst ds :: rest) = ret (atI ds k) env (.lst ds :: rest) := rfl
theorem divOk_n {j : Int} (h : 0 < j ∧ j ≤ 10000000000000000000000000000000000000000) : divOk j = true := divOk_ h.1 h.2
@[simp] theorem div256 : divOk 256 = true := divOk_ (by decide) (by decide)
theorem blsF_map {α : Type} (f : α → Bool) : ∀ xs : List α, blsOf (xs.map fun x => .bl (f x)) = some (xs.map f)
  | [] => rfl
  | x :: xs => by simp [blsOf, blsF_map f xs]
theorem intsF_map {α : Type} (f : α → Int) : ∀ xs : List α, intsOf (xs.map fun x => .int (f x)) = some (xs.map f)
  | [] => rfl
  | x :: xs => by simp [intsOf, intsF_map f xs]
theorem strsF_map {α : Type} (f : α → Str) : ∀ xs : List α, strsOf (xs.map fun x => .str (f x)) = some (xs.map f)
  | [] => rfl
  | x :: xs => by simp [strsOf, strsF_map f xs]
end VE

/-! how the later mirrors are reckoned -/
namespace VE
open PySem PySem.Spec PyProof.Rows L2
section
variable {fa fb fo fe : M D} {fs : M (List D)} {env : EnvD} {st : Sto} {i np q : Nat} {d x y : D} {ds : List D} {n n' : Str} {mf : FM}
def kSlot2 (n : Str) (i : Nat) (c : Option Cell) : M D := fun env st => match c with
  | some (.slo n' ds) => if n' = n then ret ds[i]? env st else .bad
  | _ => .bad
def kSlot (n : Str) (i : Nat) : D → M D := fun r env st => match r with
  | .ref q => kSlot2 n i st[q]? env st
  | _ => .bad
@[simp] theorem x_eSlot : eSlot n i fo env st = (fo env st).bind (kSlot n i) := rfl
@[simp] theorem x_kSlot : kSlot n i (.ref q) env st = kSlot2 n i st[q]? env st := rfl
@[simp] theorem x_kSlot2 : kSlot2 n i (some (.slo n' ds)) env st = if n' = n then ret ds[i]? env st else .bad := rfl
def kSS3 (n : Str) (i : Nat) (d : D) (q : Nat) (c : Option Cell) : M Fl := fun env st => match c with
  | some (.slo n' ds) => if n' = n ∧ ds.length = i then .ok .nx env (st.set q (.slo n (ds ++ [d]))) else .bad
  | _ => .bad
def kSS2 (n : Str) (i : Nat) (d : D) : D → M Fl := fun r env st => match r with
  | .ref q => kSS3 n i d q st[q]? env st
  | _ => .bad
def kSS1 (n : Str) (i : Nat) (fo : M D) : D → M Fl := fun d env st => (fo env st).bind (kSS2 n i d)
@[simp] theorem x_sSlot : sSlot n i fo fe env st = (fe env st).bind (kSS1 n i fo) := rfl
@[simp] theorem x_kSS1 : kSS1 n i fo d env st = (fo env st).bind (kSS2 n i d) := rfl
@[simp] theorem x_kSS2 : kSS2 n i d (.ref q) env st = kSS3 n i d q st[q]? env st := rfl
@[simp] theorem x_kSS3 : kSS3 n i d q (some (.slo n' ds)) env st = if n' = n ∧ ds.length = i then .ok .nx env (st.set q (.slo n (ds ++ [d]))) else .bad := rfl
def kMkS (n : Str) (mf : FM) (np : Nat) : List D → M D := fun ds env st => if ds.length + 1 = np then (callR mf (.ref st.length :: ds) env (st ++ [.slo n []])).bind (kMk2 st.length) else .bad
@[simp] theorem x_eMakeS : eMakeS n mf np fs env st = (fs env st).bind (kMkS n mf np) := rfl
@[simp] theorem x_kMkS : kMkS n mf np ds env st = if ds.length + 1 = np then (callR mf (.ref st.length :: ds) env (st ++ [.slo n []])).bind (kMk2 st.length) else .bad := rfl
def kPr3 : RF → M D := fun r env _ => match r with
  | .ok d st => .ok d env st
  | _ => .bad
def kPr2 (n : Str) (mf : FM) (q : Nat) (c : Option Cell) : M D := fun env st => match c with
  | some (.slo n' _) => if n' = n then kPr3 (mf [.ref q] st) env st else .bad
  | _ => .bad
def kPr (n : Str) (mf : FM) : D → M D := fun r env st => match r with
  | .ref q => kPr2 n mf q st[q]? env st
  | _ => .bad
@[simp] theorem x_eProp : eProp n mf fo env st = (fo env st).bind (kPr n mf) := rfl
@[simp] theorem x_kPr : kPr n mf (.ref q) env st = kPr2 n mf q st[q]? env st := rfl
@[simp] theorem x_kPr2 : kPr2 n mf q (some (.slo n' ds)) env st = if n' = n then kPr3 (mf [.ref q] st) env st else .bad := rfl
@[simp] theorem x_kPr3 {st' : Sto} : kPr3 (.ok d st') env st = .ok d env st' := rfl
def kZip : List D → M (List D) := fun ds env st => match ds with
  | [.lst xs, .lst ys] => .ok (zipD xs ys) env st
  | [.tup xs, .tup ys] => .ok (zipD xs ys) env st
  | _ => .bad
@[simp] theorem x_iZip : iZip fs env st = (fs env st).bind kZip := rfl
@[simp] theorem x_kZip1 {xs ys : List D} : kZip [.lst xs, .lst ys] env st = .ok (zipD xs ys) env st := rfl
@[simp] theorem x_kZip2 {xs ys : List D} : kZip [.tup xs, .tup ys] env st = .ok (zipD xs ys) env st := rfl
def kEnL : List D → M (List D) := fun ds env st => match ds with
  | [.lst xs] => .ok (enuD 0 xs) env st
  | _ => .bad
def kEnT : List D → M (List D) := fun ds env st => match ds with
  | [.tup xs] => .ok (enuD 0 xs) env st
  | _ => .bad
@[simp] theorem x_iEnL : iEnL fs env st = (fs env st).bind kEnL := rfl
@[simp] theorem x_kEnL {xs : List D} : kEnL [.lst xs] env st = .ok (enuD 0 xs) env st := rfl
@[simp] theorem x_iEnT : iEnT fs env st = (fs env st).bind kEnT := rfl
@[simp] theorem x_kEnT {xs : List D} : kEnT [.tup xs] env st = .ok (enuD 0 xs) env st := rfl
@[simp] theorem x_catT {xs ys : List D} : catT (.tup xs) (.tup ys) env st = if xs.length + ys.length ≤ 16777216 then .ok (.tup (xs ++ ys)) env st else .bad := rfl
@[simp] theorem x_ltA1 {i j : Int} : ltA (.int i) (.int j) = some (.bl (decide (i < j))) := rfl
@[simp] theorem x_ltA2 {x y : Str} : ltA (.str x) (.str y) = some (.bl (ltS x y)) := rfl
@[simp] theorem x_cmpS {p : Str → Str → Bool} {x y : Str} : cmpS p (.str x) (.str y) = some (.bl (p x y)) := rfl
@[simp] theorem x_inT {b : Bool} {ys : List D} (h : plain 20 x = true) (h' : plain 20 (.tup ys) = true) : inT b x (.tup ys) = some (.bl (if b then !(ys.any fun z => eqD z x) else ys.any fun z => eqD z x)) := by
  show (if (plain 20 x && plain 20 (D.tup ys)) = true then _ else _) = _
  rw [h, h']; rfl
end
end VE

/-! instances that never change behind their making: pure data -/
namespace VE
open PySem PySem.Spec PyProof.Rows L2
variable [VEnv]
mutual
/-- all references are below n -/
def rfB (n : Nat) : D → Bool
  | .ref m => decide (m < n)
  | .lst xs => rfBs n xs
  | .tup xs => rfBs n xs
  | .obj _ xs => rfBs n xs
  | .ino _ _ xs => rfBs n xs
  | .non => true
  | .bl _ => true
  | .int _ => true
  | .str _ => true
  | .scr _ => true
  | .fn _ => true
def rfBs (n : Nat) : List D → Bool
  | [] => true
  | x :: xs => rfB n x && rfBs n xs
end
section
variable {K : PySem.W.Frag} {mg : Str → Option Value} {F : Addr → Prop} {c l : List Addr} {H : Hp}
mutual
theorem Rp.rf : ∀ {v : V} {d : D}, Rp K mg F c H v d → rfB c.length d = true
  | _, _, .non => by simp only [rfB]
  | _, _, .bl b => by simp only [rfB]
  | _, _, .int i => by simp only [rfB]
  | _, _, .str x => by simp only [rfB]
  | _, _, .scr _ => by simp only [rfB]
  | _, _, .lst _ _ r => by simp only [rfB]; exact Rps.rf r
  | _, _, .tup _ r => by simp only [rfB]; exact Rps.rf r
  | _, _, .obj _ _ _ r => by simp only [rfB]; exact Rps.rf r
  | _, _, .ino _ _ _ _ r => by simp only [rfB]; exact Rps.rf r
  | _, _, .ref h => by simp only [rfB]; exact decide_eq_true (List.getElem?_eq_some_iff.mp h).1
  | _, _, .glb _ => by simp only [rfB]
  | _, _, .lam _ _ _ _ _ => by simp only [rfB]
theorem Rps.rf : ∀ {vs : List V} {ds : List D}, Rps K mg F c H vs ds → rfBs c.length ds = true
  | _, _, .nil => by simp only [rfBs]
  | _, _, .cons h r => by simp only [rfBs, Rp.rf h, Rps.rf r, Bool.and_self]
end
mutual
theorem Rp.cut : ∀ {v : V} {d : D}, Rp K mg F (c ++ l) H v d → rfB c.length d = true → Rp K mg F c H v d
  | _, _, .non, _ => .non
  | _, _, .bl b, _ => .bl b
  | _, _, .int i, _ => .int i
  | _, _, .str x, _ => .str x
  | _, _, .scr h, _ => .scr h
  | _, _, .lst f h r, e => .lst f h (Rps.cutR r (by simpa only [rfB] using e))
  | _, _, .tup h r, e => .tup h (Rps.cutR r (by simpa only [rfB] using e))
  | _, _, .obj m f h r, e => .obj m f h (Rps.cutR r (by simpa only [rfB] using e))
  | _, _, .ino m f h z r, e => .ino m f h z (Rps.cutR r (by simpa only [rfB] using e))
  | _, _, .ref h, e => .ref (by
      simp only [rfB, decide_eq_true_eq] at e
      rw [List.getElem?_append_left e] at h; exact h)
  | _, _, .glb h, _ => .glb h
  | _, _, .lam h1 h2 h3 h4 h5, _ => .lam h1 h2 h3 h4 h5
theorem Rps.cutR : ∀ {vs : List V} {ds : List D}, Rps K mg F (c ++ l) H vs ds → rfBs c.length ds = true → Rps K mg F c H vs ds
  | _, _, .nil, _ => .nil
  | _, _, .cons h r, e => by
    simp only [rfBs, Bool.and_eq_true] at e
    exact .cons (Rp.cut h e.1) (Rps.cutR r e.2)
end
def rfC (n : Nat) : Cell → Bool
  | .lst ds => rfBs n ds
  | .ins _ fs => rfBs n (fs.map (·.2))
  | .slo _ ds => rfBs n ds
  | .dct kvs => rfBs n (kvs.map (·.2))
theorem CellOk.rf {a : Addr} {x : Cell} (h : CellOk K mg F c H a x) : rfC c.length x = true := by
  cases x with
  | lst ds => obtain ⟨_, _, r⟩ := h; exact r.rf
  | ins n fs => obtain ⟨_, _, _, _, _, _, r⟩ := h; exact r.rf
  | slo n ds => obtain ⟨_, _, _, _, _, r⟩ := h; exact r.rf
  | dct kvs => obtain ⟨_, _, _, r⟩ := h; exact r.rf
theorem CellOk.cut {a : Addr} {x : Cell} (h : CellOk K mg F (c ++ l) H a x) (e : rfC c.length x = true) : CellOk K mg F c H a x := by
  cases x with
  | lst ds => obtain ⟨vs, h1, r⟩ := h; exact ⟨vs, h1, r.cutR e⟩
  | ins n fs => obtain ⟨C, dx, vfs, h1, h2, h3, r⟩ := h; exact ⟨C, dx, vfs, h1, h2, h3, r.cutR e⟩
  | slo n ds => obtain ⟨C, dx, vs, h1, h2, r⟩ := h; exact ⟨C, dx, vs, h1, h2, r.cutR e⟩
  | dct kvs => obtain ⟨vk, h1, h2, r⟩ := h; exact ⟨vk, h1, h2, r.cutR e⟩
theorem CellOk.stp {F' : Addr → Prop} {c' : List Addr} {a : Addr} {x : Cell} (s : Stp F c H F' c' H) (h : CellOk K mg F c H a x) : CellOk K mg F' c' H a x := by
  cases x with
  | lst ds => obtain ⟨vs, h1, r⟩ := h; exact ⟨vs, h1, r.stp s⟩
  | ins n fs => obtain ⟨C, dx, vfs, h1, h2, h3, r⟩ := h; exact ⟨C, dx, vfs, h1, h2, h3, r.stp s⟩
  | slo n ds => obtain ⟨C, dx, vs, h1, h2, r⟩ := h; exact ⟨C, dx, vs, h1, h2, r.stp s⟩
  | dct kvs => obtain ⟨vk, h1, h2, r⟩ := h; exact ⟨vk, h1, h2, r.stp s⟩
end
section
variable {b : Bs} {F F' : Addr → Prop} {c : List Addr} {env : EnvD} {st : Sto} {σ : L2.St} {H H' : Hp} {p : Addr} {x : Cell}
/-- the last cell is no cell any more: it is frozen -/
theorem Rel.unmake (r0 : Rel b F c env st σ H) (hp : H p = none) (s : Stp F c H F' (c ++ [p]) H') (r : Rel b F' (c ++ [p]) env (st ++ [x]) σ H') :
    Stp F c H (FAdd F' p) c H' ∧ Stp F' c H' (FAdd F' p) c H' ∧ Rel b (FAdd F' p) c env st σ H' ∧ CellOk b.K b.mg F' (c ++ [p]) H' p x := by
  have nc := r0.nC hp
  have t : Stp F' c H' (FAdd F' p) c H' := ⟨fun _ h => .inl h, fun _ _ _ h => h, ⟨[], (List.append_nil c).symm⟩, fun _ _ h => h⟩
  have hcp : CellOk b.K b.mg F' (c ++ [p]) H' p x := r.rc.cl c.length p x (by simp) (by rw [← r0.rc.len]; simp)
  refine ⟨⟨fun a h => .inl (s.inc a h), s.keep, ⟨[], (List.append_nil c).symm⟩, s.own⟩, t, ⟨⟨fun a h => ?_, r0.rc.len, r0.rc.nd, fun n a y hn hy => ?_, fun a ha h => ?_, fun q hq => ?_⟩, r.len, fun i sl he => ?_, r.ds, fun a o e hc => ?_, fun a h => ?_, r0.nwc, r.f0, r.k0⟩, hcp⟩
  · rcases h with h | rfl
    · exact r.rc.trk a h
    · exact r.rc.ctrk (by simp)
  · have h1 := r0.rc.cl n a y hn hy
    have hlt : n < c.length := (List.getElem?_eq_some_iff.mp hn).1
    have h2 := r.rc.cl n a y (by rw [List.getElem?_append_left hlt]; exact hn) (by rw [List.getElem?_append_left (by rw [r0.rc.len]; exact hlt)]; exact hy)
    exact (h2.cut h1.rf).stp t
  · rcases h with h | rfl
    · exact r.rc.nf a (List.mem_append_left _ ha) h
    · exact nc ha
  · obtain ⟨t1, t2, ps, t3, t4, t5⟩ := r.rc.tab q hq
    exact ⟨fun h => h.elim t1 fun z => t2 (by simp [z]), fun h => t2 (List.mem_append_left _ h), ps, t3, t4, fun pos cv h => by obtain ⟨c', e, f, k⟩ := t5 pos cv h; exact ⟨c', e, .inl f, k⟩⟩
  · have q0 := r0.sl i sl he
    have q := r.sl i sl he
    cases sl with
    | no => trivial
    | va d =>
      obtain ⟨v0, _, p0⟩ := q0
      obtain ⟨v, e, p1⟩ := q
      exact ⟨v, e, (p1.cut p0.rf).stp t⟩
    | gh cells vals =>
      refine ⟨fun y a e => by obtain ⟨f, z⟩ := q.cel y a e; exact ⟨.inl f, z⟩, q.inj, fun y d e => ?_⟩
      obtain ⟨a0, _, _, _, _, _, _, _, p0⟩ := q0.val y d e
      obtain ⟨a, o, u, v, h1, h2, h3, h4, h5⟩ := q.val y d e
      exact ⟨a, o, u, v, h1, h2, h3, h4, (h5.cut p0.rf).stp t⟩
    | ow d =>
      obtain ⟨a0, _, _, _, _, p0⟩ := q0
      obtain ⟨a, e, h1, h2, h3, h4⟩ := q
      have h2' : a ∉ c ∧ a ≠ p := by simpa using h2
      refine ⟨a, e, fun h => ?_, h2'.1, h3, ?_⟩
      · rcases h with h | h
        · exact h1 h
        · exact h2'.2 h
      · cases d with
        | lst ds =>
          obtain ⟨_, _, r9⟩ := p0
          obtain ⟨vs, e9, r8⟩ := h4
          exact ⟨vs, e9, (r8.cutR r9.rf).stp t⟩
        | _ => exact h4.elim
  · refine r.old a o e fun h => ?_
    rcases List.mem_append.mp h with h | h
    · exact hc h
    · rw [List.mem_singleton] at h
      rw [h, r0.H0none hp] at e; cases e
  · rcases h with h | rfl
    · exact r.new a h
    · exact .inr (r0.H0none hp)
theorem RpX.cut {K : PySem.W.Frag} {mg : Str → Option Value} {F' : Addr → Prop} {l : List Addr} {cls : Value} {d : Option Addr} {x : Exn} (t : Stp F c H F' c H) (h : RpX K mg F (c ++ l) H cls d x) (e : rfBs c.length (x.fs.map (·.2)) = true) : RpX K mg F' c H cls d x := by
  obtain ⟨h1, h⟩ := h
  refine ⟨h1, ?_⟩
  rcases h with h | ⟨d', vfs, h2, h3, h4, h5, h6⟩
  · exact .inl h
  · exact .inr ⟨d', vfs, h2, t.inc _ h3, h4, h5, (h6.cutR e).stp t⟩
end
/-- what is left behind a making: the new one is frozen, no other cell has changed -/
noncomputable def frzX (env : EnvD) (st st' : Sto) (x : Exn) : R D := match st'[st.length]? with
  | some c => @ite _ (st' = st ++ [c] ∧ rfBs st.length (x.fs.map (·.2)) = true) (Classical.propDecidable _) (.ex x env st) .bad
  | none => .bad
noncomputable def frzS (n : Str) (env : EnvD) (st : Sto) : RF → R D
  | .ok .non st' => (match st'[st.length]? with
    | some (.slo n' xs) => @ite _ (n' = n ∧ st' = st ++ [.slo n' xs] ∧ rfBs st.length xs = true) (Classical.propDecidable _) (.ok (.obj n xs) env st) .bad
    | _ => .bad)
  | .ex x st' => frzX env st st' x
  | _ => .bad
noncomputable def frzI (n : Str) (env : EnvD) (st : Sto) : RF → R D
  | .ok .non st' => (match st'[st.length]? with
    | some (.ins n' fs) => @ite _ (n' = n ∧ st' = st ++ [.ins n' fs] ∧ rfBs st.length (fs.map (·.2)) = true) (Classical.propDecidable _) (.ok (.ino n (fs.map (·.1)) (fs.map (·.2))) env st) .bad
    | _ => .bad)
  | .ex x st' => frzX env st st' x
  | _ => .bad
@[simp] theorem frzS_ok {n : Str} {env : EnvD} {st : Sto} {xs : List D} (h : rfBs st.length xs = true) : frzS n env st (.ok .non (st ++ [.slo n xs])) = .ok (.obj n xs) env st := by
  unfold frzS
  have e : (st ++ [Cell.slo n xs])[st.length]? = some (.slo n xs) := by simp
  dsimp only
  rw [e]
  exact if_pos ⟨rfl, rfl, h⟩
@[simp] theorem frzI_ok {n : Str} {env : EnvD} {st : Sto} {fs : List (Str × D)} (h : rfBs st.length (fs.map (·.2)) = true) : frzI n env st (.ok .non (st ++ [.ins n fs])) = .ok (.ino n (fs.map (·.1)) (fs.map (·.2))) env st := by
  unfold frzI
  have e : (st ++ [Cell.ins n fs])[st.length]? = some (.ins n fs) := by simp
  dsimp only
  rw [e]
  exact if_pos ⟨rfl, rfl, h⟩
@[simp] theorem frzS_ex {n : Str} {env : EnvD} {st : Sto} {x : Exn} {c : Cell} (h : rfBs st.length (x.fs.map (·.2)) = true) : frzS n env st (.ex x (st ++ [c])) = .ex x env st := by
  unfold frzS frzX
  have e : (st ++ [c])[st.length]? = some c := by simp
  dsimp only
  rw [e]
  exact if_pos ⟨rfl, h⟩
@[simp] theorem frzI_ex {n : Str} {env : EnvD} {st : Sto} {x : Exn} {c : Cell} (h : rfBs st.length (x.fs.map (·.2)) = true) : frzI n env st (.ex x (st ++ [c])) = .ex x env st := by
  unfold frzI frzX
  have e : (st ++ [c])[st.length]? = some c := by simp
  dsimp only
  rw [e]
  exact if_pos ⟨rfl, h⟩
@[simp] theorem frzS_bad {n : Str} {env : EnvD} {st : Sto} : frzS n env st .bad = .bad := rfl
@[simp] theorem frzI_bad {n : Str} {env : EnvD} {st : Sto} : frzI n env st .bad = .bad := rfl
noncomputable def eMakeZ (n : Str) (mf : FM) (np : Nat) (fs : M (List D)) : M D := fun env st => (fs env st).bind fun ds env st => if ds.length + 1 = np then frzS n env st (mf (.ref st.length :: ds) (st ++ [.slo n []])) else .bad
noncomputable def eMakeI (n : Str) (mf : FM) (np : Nat) (fs : M (List D)) : M D := fun env st => (fs env st).bind fun ds env st => if ds.length + 1 = np then frzI n env st (mf (.ref st.length :: ds) (st ++ [.ins n []])) else .bad
section
variable {X : Cx} {W : WX} {e a o : Expr} {es : List Expr} {pos pos' : Pos} {fa fb fo fi : M D} {fs : M (List D)} {x : Str}
theorem len_one {c c' : List Addr} {p : Addr} {st' : Sto} {n : Nat} (cs : ∃ l, c' = (c ++ [p]) ++ l) (h1 : st'.length = c'.length) (h2 : st'.length = n + 1) (h3 : n = c.length) : c' = c ++ [p] := by
  obtain ⟨l, e⟩ := cs
  have : l = [] := by
    apply List.eq_nil_of_length_eq_zero
    rw [e, List.length_append, List.length_append, List.length_singleton] at h1
    omega
  rw [e, this, List.append_nil]
theorem frzX_post {b : Bs} {F F' : Addr → Prop} {c c' : List Addr} {env : EnvD} {st st' : Sto} {σ : L2.St} {H H' : Hp} {p : Addr} {x : Exn} {Pk : D → EnvD → Sto → (Addr → Prop) → List Addr → Hp → Prop} {cls : Value} {dx : Option Addr}
    (r0 : Rel b F c env st σ H) (hp : H p = none) (s : Stp F c H F' c' H') (cs : ∃ l, c' = (c ++ [p]) ++ l) (r : Rel b F' c' env st' σ H') (rx : RpX b.K b.mg F' c' H' cls dx x) (q : Post b W F c σ H Pk (frzX env st st' x)) : W cls dx σ H' := by
  unfold frzX at q
  split at q
  · rename_i cc ec
    split at q
    · rename_i hh
      obtain ⟨rfl, hrf⟩ := hh
      have ec' := len_one cs r.rc.len (n := st.length) (by simp) r0.rc.len
      subst ec'
      obtain ⟨t1, t2, r2, _⟩ := r0.unmake hp s r
      exact q _ c H' cls dx t1 r2 (rx.cut t2 (by rw [← r0.rc.len]; exact hrf))
    · exact q.elim
  · exact q.elim
theorem ve_makeZ {k np : Nat} {n : Str} {mf : FM} {p : Pos} (Mv : MkV X.prog X.w X.K X.mg X.base k n np mf) (hr : Room (k + 1) X.A) (tk : Takes X W) (ha : VA X W (e :: es) fs) (hg : Gl X n := by rfl) (hdb : (n == ("__debug__" : Str)) = false := by decide)
    (he : starEach (e :: es) X.env = (false, eval e X.env) :: starEach es X.env := by rfl) (hpl : (backTo pos (starEach es X.env)).any (·.1) = false := by rfl) : VE X W (.Call (.Name n p) (e :: es) [] pos) (eMakeZ n mf np fs) := by
  obtain ⟨C, f, fd, ps, hC, mk, Fo, hb⟩ := Mv.ex
  refine ⟨fun pins s σ H Q I ⟨b, F, c, env, st, e1, e2, r, p⟩ => ?_⟩
  refine wpAny_Call_Name_kw (ld_glob I hg hC ?_ hdb)
  refine PySem.W.callWith_K (h₀ := X.base) I.ok.mod.kin mk.kp (thn (ha.run pos pins s σ H _ I (tA_at e1 e2 r p (Q := fun vs H1 => ∀ x dx, H1 x = none → H1 dx = none → dx ≠ x → spV X.K X.mg false np mf (.ref x :: vs) (upd (upd H1 dx (.own x)) x (.ins C dx [])) (fun v H2 => v = .non ∧ Q (.ref x) H2) (WE W σ))
    fun vs ds env1 st1 F1 c1 H1 s1 r1 rp1 p1 x dx hx hdx hne => ?_)) fun us s1 ⟨vs, H1, I1, r, q⟩ => ⟨I1.kIn, run_makeS (E := WE W) mk Fo hr hb (passAt tk σ) I1 r q⟩) he hpl
  split at p1
  · rename_i hnp
    obtain ⟨s2, r2⟩ := r1.newO hdx (.own x)
    have hx2 : upd H1 dx (.own x) x = none := by rw [upd_ne (Ne.symm hne)]; exact hx
    obtain ⟨s3, r3, rp3⟩ := r2.cellNew (x := .slo n []) (o := .ins C dx []) hx2 fun s => ⟨C, dx, [], by rw [e2]; exact hC, L2.SlAt.made hne, .nil⟩
    rw [← e1, ← e2]
    refine ⟨F1, c1 ++ [x], .ref st1.length :: ds, st1 ++ [.slo n []], r3.rc, .cons rp3 (rp1.stp (s2.trans s3)), by simpa using hnp, ?_⟩
    have hx1 : H1 x = none := hx
    generalize mf (.ref st1.length :: ds) (st1 ++ [.slo n []]) = y at p1
    cases y with
    | bad => exact p1.elim
    | ok d st' =>
      intro v F' c' H' s rc o rv
      have r4 := r3.call s rc o
      have sAll : Stp F1 c1 H1 F' c' H' := (s2.trans s3).trans s
      unfold frzS at p1
      split at p1
      · rename_i st'' he
        cases he
        cases rv
        refine ⟨rfl, ?_⟩
        split at p1
        · rename_i n' xs ex
          split at p1
          · rename_i hh
            obtain ⟨rfl, rfl, hrf⟩ := hh
            have ec' := len_one s.cs r4.rc.len (n := st1.length) (by simp) r1.rc.len
            subst ec'
            obtain ⟨t1, t2, r5, C', dx', vs', m1, m2, m3⟩ := r1.unmake hx1 sAll r4
            exact p1 _ c1 H' t1 r5 _ (.obj m1 (.inr rfl) m2 ((m3.cutR (by rw [← r1.rc.len]; exact hrf)).stp t2))
          · exact p1.elim
        · exact p1.elim
      · rename_i he; cases he
      · exact p1.elim
    | ex xx st' =>
      intro cls dxx F' c' H' s rc o rx
      have r4 := r3.call s rc o
      have sAll : Stp F1 c1 H1 F' c' H' := (s2.trans s3).trans s
      exact frzX_post r1 hx1 sAll s.cs r4 rx p1
  · exact p1.elim
theorem ve_makeI {k np : Nat} {n : Str} {mf : FM} {p : Pos} (Mv : MkV X.prog X.w X.K X.mg X.base k n np mf) (hr : Room (k + 1) X.A) (tk : Takes X W) (ha : VA X W (e :: es) fs) (hg : Gl X n := by rfl) (hdb : (n == ("__debug__" : Str)) = false := by decide)
    (he : starEach (e :: es) X.env = (false, eval e X.env) :: starEach es X.env := by rfl) (hpl : (backTo pos (starEach es X.env)).any (·.1) = false := by rfl) : VE X W (.Call (.Name n p) (e :: es) [] pos) (eMakeI n mf np fs) := by
  obtain ⟨C, f, fd, ps, hC, mk, Fo, hb⟩ := Mv.ex
  refine ⟨fun pins s σ H Q I ⟨b, F, c, env, st, e1, e2, r, p⟩ => ?_⟩
  refine wpAny_Call_Name_kw (ld_glob I hg hC ?_ hdb)
  refine PySem.W.callWith_K (h₀ := X.base) I.ok.mod.kin mk.kp (thn (ha.run pos pins s σ H _ I (tA_at e1 e2 r p (Q := fun vs H1 => ∀ x dx, H1 x = none → H1 dx = none → dx ≠ x → spV X.K X.mg false np mf (.ref x :: vs) (upd (upd H1 dx (.own x)) x (.ins C dx [])) (fun v H2 => v = .non ∧ Q (.ref x) H2) (WE W σ))
    fun vs ds env1 st1 F1 c1 H1 s1 r1 rp1 p1 x dx hx hdx hne => ?_)) fun us s1 ⟨vs, H1, I1, r, q⟩ => ⟨I1.kIn, run_makeS (E := WE W) mk Fo hr hb (passAt tk σ) I1 r q⟩) he hpl
  split at p1
  · rename_i hnp
    obtain ⟨s2, r2⟩ := r1.newO hdx (.own x)
    have hx2 : upd H1 dx (.own x) x = none := by rw [upd_ne (Ne.symm hne)]; exact hx
    obtain ⟨s3, r3, rp3⟩ := r2.cellNew (x := .ins n []) (o := .ins C dx []) hx2 fun s => ⟨C, dx, [], by rw [e2]; exact hC, upd_same, rfl, .nil⟩
    rw [← e1, ← e2]
    refine ⟨F1, c1 ++ [x], .ref st1.length :: ds, st1 ++ [.ins n []], r3.rc, .cons rp3 (rp1.stp (s2.trans s3)), by simpa using hnp, ?_⟩
    have hx1 : H1 x = none := hx
    generalize mf (.ref st1.length :: ds) (st1 ++ [.ins n []]) = y at p1
    cases y with
    | bad => exact p1.elim
    | ok d st' =>
      intro v F' c' H' s rc o rv
      have r4 := r3.call s rc o
      have sAll : Stp F1 c1 H1 F' c' H' := (s2.trans s3).trans s
      unfold frzI at p1
      split at p1
      · rename_i st'' he
        cases he
        cases rv
        refine ⟨rfl, ?_⟩
        split at p1
        · rename_i n' xs ex
          split at p1
          · rename_i hh
            obtain ⟨rfl, rfl, hrf⟩ := hh
            have ec' := len_one s.cs r4.rc.len (n := st1.length) (by simp) r1.rc.len
            subst ec'
            obtain ⟨t1, t2, r5, C', dx', vfs, m1, m2, m3, m4⟩ := r1.unmake hx1 sAll r4
            exact p1 _ c1 H' t1 r5 _ (.ino m1 (.inr rfl) m2 m3 ((m4.cutR (by rw [← r1.rc.len]; exact hrf)).stp t2))
          · exact p1.elim
        · exact p1.elim
      · rename_i he; cases he
      · exact p1.elim
    | ex xx st' =>
      intro cls dxx F' c' H' s rc o rx
      have r4 := r3.call s rc o
      have sAll : Stp F1 c1 H1 F' c' H' := (s2.trans s3).trans s
      exact frzX_post r1 hx1 sAll s.cs r4 rx p1
  · exact p1.elim
/-! ### reading them -/
def slU (n : Str) (i : Nat) : D → M D := fun r env st => match r with
  | .ref q => (match st[q]? with
    | some (.slo n' ds) => if n' = n then ret ds[i]? env st else .bad
    | _ => .bad)
  | .obj n' ds => if n' = n then ret ds[i]? env st else .bad
  | _ => .bad
def eSlU (n : Str) (i : Nat) (fo : M D) : M D := fun env st => (fo env st).bind (slU n i)
theorem ve_slU {n f : Str} {fl : List Str} (i : Nat) (cv : SlV X.K X.mg n fl) (h : VE X W e fa) (hf : fl[i]? = some f := by rfl) (hb : attributeBase e f X.env (eval e X.env) = eval e X.env := by rfl) : VE X W (.Attribute e f pos) (eSlU n i fa) := by
  obtain ⟨C, hC⟩ := cv.ex
  obtain ⟨p, sl⟩ := cv.at_ C i f hC hf
  refine PEof (pe_slot (cv.cl C hC) sl h hb) fun σ H Q ⟨b, F, c, env, st, e1, e2, r, p⟩ =>
    tE_at e1 e2 r p fun v d env1 st1 F1 c1 H1 s1 r1 rp1 p1 => ?_
  unfold slU at p1
  split at p1
  · split at p1
    · rename_i n' ds es
      split at p1
      · rename_i en
        subst en
        obtain ⟨q, rfl, hc, C', dx, vs, k1, k2, rps⟩ := r1.cell rp1 es
        rw [e2, hC] at k1; cases k1
        unfold ret at p1
        split at p1
        · rename_i d ed
          obtain ⟨v, hv, rp⟩ := rps.at ed
          exact ⟨q, dx, vs.map some, v, rfl, k2, hv, Post.here r1 p1 v rp⟩
        · exact p1.elim
      · exact p1.elim
    · exact p1.elim
  · rename_i n' ds
    split at p1
    · rename_i en
      subst en
      cases rp1 with
      | obj m1 m2 m3 m4 =>
        rw [e2, hC] at m1; cases m1
        unfold ret at p1
        split at p1
        · rename_i d ed
          obtain ⟨v, hv, rp⟩ := m4.at ed
          exact ⟨_, _, _, v, rfl, m3, hv, Post.here r1 p1 v rp⟩
        · exact p1.elim
    · exact p1.elim
  · exact p1.elim
/-- a property -/
def prU (n : Str) (mf : FM) : D → M D := fun r env st => match r with
  | .ref q => (match st[q]? with
    | some (.slo n' _) => if n' = n then (match mf [.ref q] st with
      | .ok d st => .ok d env st
      | _ => .bad) else .bad
    | _ => .bad)
  | .obj n' ds => if n' = n then (match mf [.obj n' ds] st with
      | .ok d st => .ok d env st
      | _ => .bad) else .bad
  | _ => .bad
def ePrU (n : Str) (mf : FM) (fo : M D) : M D := fun env st => (fo env st).bind (prU n mf)
theorem ve_prU {n f : Str} {mf : FM} {k : Nat} (Pv : PrV X.prog X.w X.K X.mg X.base k n f mf) (hr : Room (k + 1) X.A) (h : VE X W e fa) (hb : attributeBase e f X.env (eval e X.env) = eval e X.env := by rfl) : VE X W (.Attribute e f pos) (ePrU n mf fa) := by
  obtain ⟨C, p, g, fd, ps, hC, cl, hp, Fo, hbi⟩ := Pv.ex
  refine ⟨fun pins s σ H Q I ⟨b, F, c, env, st, e1, e2, r, p⟩ => ?_⟩
  refine attr_of hb (thn (h.run pins s σ H _ I (tE_at e1 e2 r p (Q := fun x H1 => ∃ a dx vs, x = .ref a ∧ L2.SlAt H1 a C dx vs ∧ spV X.K X.mg false 1 mf [.ref a] H1 Q (fun _ _ _ => False)) fun v d env1 st1 F1 c1 H1 s1 r1 rp1 p1 => ?_)) fun u s1 ⟨x, H1, I1, rx, a, dx, vs, ex, ea, q⟩ => ?_)
  · unfold prU at p1
    split at p1
    · rename_i q
      split at p1
      · rename_i n' ds es
        split at p1
        · rename_i en
          subst en
          obtain ⟨a, rfl, hc, C', dx, vs, k1, k2, rps⟩ := r1.cell rp1 es
          rw [e2, hC] at k1; cases k1
          refine ⟨a, dx, vs.map some, rfl, k2, ?_⟩
          rw [← e1, ← e2]
          refine ⟨F1, c1, [.ref q], st1, r1.rc, .cons rp1 .nil, rfl, ?_⟩
          generalize mf [.ref q] st1 = y at p1
          cases y with
          | ok d st' => exact fun v F' c' H' s rc o rv => p1 F' c' H' s (r1.call s rc o) v rv
          | ex x st' => exact p1.elim
          | bad => exact p1.elim
        · exact p1.elim
      · exact p1.elim
    · rename_i n' ds
      split at p1
      · rename_i en
        subst en
        have rp0 := rp1
        cases rp1 with
        | obj m1 m2 m3 m4 =>
          rw [e2, hC] at m1; cases m1
          refine ⟨_, _, _, rfl, m3, ?_⟩
          rw [← e1, ← e2]
          refine ⟨F1, c1, [.obj n' ds], st1, r1.rc, .cons rp0 .nil, rfl, ?_⟩
          generalize mf [.obj n' ds] st1 = y at p1
          cases y with
          | ok d st' => exact fun v F' c' H' s rc o rv => p1 F' c' H' s (r1.call s rc o) v rv
          | ex x st' => exact p1.elim
          | bad => exact p1.elim
      · exact p1.elim
    · exact p1.elim
  · subst ex
    obtain rfl : u = Value.ref a := rx
    exact getprop_at I1 ea cl hp Fo hr hbi q
/-- an attribute -/
def lkD (f : Str) : List Str → List D → Option D
  | g :: gs, d :: ds => if f == g then some d else lkD f gs ds
  | _, _ => none
theorem lkD_look {K : PySem.W.Frag} {mg : Str → Option Value} {F : Addr → Prop} {c : List Addr} {H : Hp} {f : Str} {d : D} : ∀ {vfs : List (Str × V)} {ns : List Str} {ds : List D}, vfs.map (·.1) = ns → Rps K mg F c H (vfs.map (·.2)) ds → lkD f ns ds = some d → ∃ v, vfs.lookup f = some v ∧ Rp K mg F c H v d
  | [], _, _, e, r, h => by subst e; simp [lkD] at h
  | (g, v) :: vfs, _, _, e, r, h => by
    subst e
    cases r with
    | cons r1 r2 =>
      simp only [List.map_cons, lkD] at h
      rw [List.lookup_cons]
      cases q : f == g with
      | true => rw [q, if_pos rfl] at h; cases h; exact ⟨v, rfl, r1⟩
      | false => rw [q, if_neg Bool.false_ne_true] at h; exact lkD_look rfl r2 h
def flU (n f : Str) : D → M D := fun r env st => match r with
  | .ref m => (match st[m]? with
    | some (.ins n' fs) => if n' = n then ret (fs.lookup f) env st else .bad
    | _ => .bad)
  | .ino n' ns ds => if n' = n then ret (lkD f ns ds) env st else .bad
  | _ => .bad
def eFlU (n f : Str) (fa : M D) : M D := fun env st => (fa env st).bind (flU n f)
theorem ve_flU {n f : Str} {fl : List Str} (cv : ClsV X.K X.mg n fl) (h : VE X W e fa) (hf : f ∈ fl := by decide +kernel) (hb : attributeBase e f X.env (eval e X.env) = eval e X.env := by rfl) : VE X W (.Attribute e f pos) (eFlU n f fa) := PEof (pe_fld h hb) fun σ H Q ⟨b, F, c, env, st, e1, e2, r, p⟩ =>
  tE_at e1 e2 r p fun v d env1 st1 F1 c1 H1 s1 r1 rp1 p1 => by
    unfold flU at p1
    split at p1
    · split at p1
      · rename_i n' fs es
        split at p1
        · rename_i en
          subst en
          obtain ⟨q, rfl, hc, C, dx, vfs, k1, k2, k3, rps⟩ := r1.cell rp1 es
          unfold ret at p1
          split at p1
          · rename_i d ed
            obtain ⟨v, hv, rp⟩ := (look_of (f := f) vfs fs k3 rps).1 d ed
            rw [e2] at k1
            exact ⟨q, C, dx, vfs, v, rfl, k2, cv.cl C k1, cv.no C k1 f hf, hv, Post.here r1 p1 v rp⟩
          · exact p1.elim
        · exact p1.elim
      · exact p1.elim
    · rename_i n' ns ds
      split at p1
      · rename_i en
        subst en
        cases rp1 with
        | ino m1 m2 m3 m4 m5 =>
          unfold ret at p1
          split at p1
          · rename_i d ed
            obtain ⟨v, hv, rp⟩ := lkD_look m4 m5 ed
            rw [e2] at m1
            exact ⟨_, _, _, _, v, rfl, m3, cv.cl _ m1, cv.no _ m1 f hf, hv, Post.here r1 p1 v rp⟩
          · exact p1.elim
      · exact p1.elim
    · exact p1.elim
end
end VE

/-! sets of ints and texts: made from a list, walked, sorted -/
namespace VE
open PySem PySem.Spec PyProof.Rows L2
variable [VEnv]
def kOf : Value → Key
  | .int i _ => .inl i
  | .str z _ => .inr z
  | _ => .inl 0
def MemE (w : World) (e : Int × Value) : Prop := ∃ k, keyIs k e.2 = true ∧ e.1 = keyH w k
theorem kOf_is {k : Key} {v : Value} (q : keyIs k v = true) : kOf v = k := by
  rcases keyIs_shape q with ⟨i, t, rfl, rfl⟩ | ⟨z, t, rfl, rfl⟩ <;> rfl
theorem is_kOf {w : World} {e : Int × Value} (g : MemE w e) (k : Key) : keyIs k e.2 = true ↔ kOf e.2 = k := by
  obtain ⟨k0, q, _⟩ := g
  have e0 := kOf_is q
  exact ⟨fun z => kOf_is z, fun z => by rw [e0] at z; rw [← z]; exact q⟩
/-- the members S of the set at a, n of them, none twice; its order of walk is known to rise -/
def KSet (w : World) (h : Heap) (a : Addr) (S : Key → Bool) (n : Nat) : Prop :=
  ∃ ob es ep tb, h.get? a = some ob ∧ ob.ExactSet ∧ ob.data = .set es ep tb ∧ (∀ e ∈ es.toList, MemE w e) ∧ (es.toList.map fun e => kOf e.2).Nodup ∧ (∀ k, S k = true ↔ k ∈ es.toList.map fun e => kOf e.2) ∧
    es.size < scanBound ∧ tb.fits es.size = true ∧ es.size = n ∧ Ris tb.place.toList ∧ (w.params.followText "set-order" = true ∨ tb.led = true)
section
variable {P : Program} {w : World} {h h' : Heap} {a : Addr} {S : Key → Bool} {n : Nat}
theorem KSet.at (R : KSet w h a S n) (k : ∀ o, h.get? a = some o → h'.get? a = some o) : KSet w h' a S n := by
  obtain ⟨ob, es, ep, tb, g, r⟩ := R
  exact ⟨ob, es, ep, tb, k ob g, r⟩
theorem mem_elems {l : List (Int × Value)} (g : ∀ e ∈ l, MemE w e) : ElemsOf (mixKind P w) l := fun e he => by
  obtain ⟨k, q1, q2⟩ := g e he
  refine ⟨⟨k, q1, q2⟩, ?_⟩
  rcases keyIs_shape q1 with ⟨i, t, rfl, z⟩ | ⟨x, t, rfl, z⟩ <;> rw [z] <;> rfl
theorem mem_mem {l : List (Int × Value)} (g : ∀ e ∈ l, MemE w e) (k : Key) : k ∈ (l.map fun e => kOf e.2) ↔ ∃ e ∈ l, keyIs k e.2 = true := by
  rw [List.mem_map]
  exact ⟨fun ⟨e, he, q⟩ => ⟨e, he, (is_kOf (g e he) k).2 q⟩, fun ⟨e, he, q⟩ => ⟨e, he, (is_kOf (g e he) k).1 q⟩⟩
theorem key_scn {k : Key} {v : Value} (q : keyIs k v = true) : v.scannable = true := by
  rcases keyIs_shape q with ⟨i, t, rfl, z⟩ | ⟨x, t, rfl, z⟩ <;> rw [z] <;> rfl
end
section
variable {P : Program} {w : World} {A : Around} {E : Value → Shared → Prop} {s : Shared} {a : Addr} {S : Key → Bool} {n : Nat}
theorem kset_tail {gv : Bool → Sem Unit} (hgv : ∀ (b : Bool) (z : Shared) (Z : Unit → Shared → Prop), Z () z → wpAny (model P w) A (gv b) Z E z)
    {ob : Obj} {es : Array (Int × Value)} {ep : Nat} {tb : SetTable} (go : s.heap.get? a = some ob) (gx : ob.ExactSet) (gd : ob.data = .set es ep tb)
    {fs : Array (Int × Value)} {tc : SetTable} {S' : Key → Bool} (m0 : ∀ e ∈ fs.toList, MemE w e) (m1 : (fs.toList.map fun e => kOf e.2).Nodup) (m2 : ∀ k, S' k = true ↔ k ∈ fs.toList.map fun e => kOf e.2)
    (bd : fs.size < scanBound) (ft : tc.fits fs.size = true) (rs : Ris tc.place.toList) (ld : w.params.followText "set-order" = true ∨ tc.led = true) {was : Bool} {Z : Option Bool → Shared → Prop}
    (fin : ∀ h', Heap.SameBut a s.heap h' → KSet w h' a S' fs.size → Z (some true) { s with heap := h' }) :
    wpAny (model P w) A (do
        storeSet a fs tc
        if (!was && tc.tooFull) = true then do
            gv (relayAll tc fs (SetTable.grown fs.size)).2.2
            storeSet a (relayAll tc fs (SetTable.grown fs.size)).1 (relayAll tc fs (SetTable.grown fs.size)).2.1
            pure (some true)
          else pure (some true)) Z E s := by
  refine wpAny_bind (wpAny_storeSet_of go gd ?_ (fits_of_scanBound bd))
  have go1 := store_at (es' := fs) (t' := tc) go gd
  have sm := Heap.SameBut.update s.heap a (Obj.putSet fs tc)
  split
  · have q1 := relayAll_perm tc fs (SetTable.grown fs.size)
    have q2 := relayAll_fits tc fs (SetTable.grown fs.size)
    have q3 := relayAll_ris tc fs (SetTable.grown fs.size)
    have q4 := relayAll_led tc fs (SetTable.grown fs.size)
    generalize relayAll tc fs (SetTable.grown fs.size) = T at q1 q2 q3 q4 ⊢
    obtain ⟨gs, td, gave⟩ := T
    dsimp only at q1 q2 q3 q4 ⊢
    have sz : gs.size = fs.size := by rw [← Array.length_toList, q1.length_eq, Array.length_toList]
    have bd2 : gs.size < scanBound := by rw [sz]; exact bd
    refine wpAny_bind (hgv _ _ _ ?_)
    refine wpAny_bind (wpAny_storeSet_of go1 rfl ?_ (fits_of_scanBound bd2))
    have go2 := store_at (es' := gs) (t' := td) go1 rfl
    refine wpAny_pure (fin _ (sm.trans (Heap.SameBut.update _ a _)) ?_)
    exact ⟨_, gs, _, td, go2, gx, rfl, fun e he => m0 e (q1.mem_iff.mp he), (q1.map fun e => kOf e.2).nodup_iff.mpr m1, fun k => (m2 k).trans (q1.map fun e => kOf e.2).mem_iff.symm, bd2, q2, sz, q3,
      ld.imp id fun z => by rw [q4]; exact z⟩
  · exact wpAny_pure (fin _ sm ⟨_, fs, _, tc, go1, gx, rfl, m0, m1, m2, bd, ft, rfl, rs, ld⟩)
theorem kset_add {k : Key} {x : Value} {Q : Bool → Shared → Prop} (kx : keyIs k x = true) (R : KSet w s.heap a S n) (room : n + 1 < scanBound)
    (hQ : ∀ h', Heap.SameBut a s.heap h' → KSet w h' a (fun j => S j || decide (j = k)) (if S k = true then n else n + 1) → Q (!S k) { s with heap := h' }) :
    wpAny (model P w) A (setAddHashed a x ((mixKind P w).hash k)) Q E s := by
  obtain ⟨ob, es, ep, tb, go, gx, gd, gm, nd, mm, bd, ft, sz, rs, ld⟩ := R
  have hkey : (mixKind P w).is k x = true := kx
  have sc : x.scannable = true := key_scn kx
  have els : ElemsOf (mixKind P w) es.toList := mem_elems gm
  unfold setAddHashed setAddHashedIn
  refine wpAny_holding (wpAny_bind (wpAny_setState_of go gd ft ?_))
  dsimp only
  rw [byScan_of sc bd els]
  simp only [↓reduceIte]
  unfold setAddByScan
  refine wpAny_bind ?_
  refine wpAny_bind (wpAny_rule ?_)
  refine wpAny_bind (wpAny_setScan_of hkey go gd ft els ?_)
  cases fi : List.findIdx? (fun e => (mixKind P w).is k e.2) es.toList with
  | some j =>
    dsimp only
    obtain ⟨hj, pj, _⟩ := List.findIdx?_eq_some_iff_getElem.mp fi
    have Sk : S k = true := (mm k).2 ((mem_mem gm k).2 ⟨es.toList[j], List.getElem_mem hj, pj⟩)
    refine wpAny_pure (wpAny_pure ?_)
    have q := hQ s.heap (Heap.SameBut.refl a s.heap) ⟨ob, es, ep, tb, go, gx, gd, gm, nd, fun i => by
      rw [Bool.or_eq_true, decide_eq_true_eq, ← mm i]
      exact ⟨fun z => z.elim id (fun e => e ▸ Sk), .inl⟩, bd, ft, by rw [if_pos Sk]; exact sz, rs, ld⟩
    rw [Sk] at q
    exact q
  | none =>
    dsimp only
    have nk : k ∉ es.toList.map fun e => kOf e.2 := fun z => by
      obtain ⟨e, he, q⟩ := (mem_mem gm k).1 z
      have c : keyIs k e.2 = false := List.findIdx?_eq_none_iff.mp fi e he
      rw [q] at c; cases c
    have Sk : S k = false := by
      cases q : S k with
      | false => rfl
      | true => exact absurd ((mm k).1 q) nk
    have gw : ∀ (b : Bool) {z : Shared} {Z : Unit → Shared → Prop}, Z () z → wpAny (model P w) A (match b with | true => rule "set.scan.the-table-gave-way" | false => pure ()) Z E z :=
      fun b z Z q => by cases b <;> first | exact wpAny_pure q | exact wpAny_rule q
    have l1 := layNew_perm tb es ((mixKind P w).hash k) x
    have l2 := layNew_fits tb es ((mixKind P w).hash k) x
    have l3 := layNew_ris tb es ((mixKind P w).hash k) x rs
    have l4 := layNew_led tb es ((mixKind P w).hash k) x
    generalize layNew tb es ((mixKind P w).hash k) x = T at l1 l2 l3 l4 ⊢
    obtain ⟨fs, tc, was, gave⟩ := T
    dsimp only at l1 l2 l3 l4 ⊢
    rw [Array.toList_push] at l1
    have pc : fs.toList.Perm (((mixKind P w).hash k, x) :: es.toList) := l1.trans (List.perm_append_singleton _ _)
    have pk : (fs.toList.map fun e => kOf e.2).Perm (k :: es.toList.map fun e => kOf e.2) := by
      have z := pc.map fun e => kOf e.2
      rw [List.map_cons] at z
      rw [kOf_is kx] at z
      exact z
    have g1 : ∀ e ∈ fs.toList, MemE w e := fun e he => by
      rcases List.mem_cons.mp (pc.mem_iff.mp he) with z | z
      · rw [z]; exact ⟨k, kx, rfl⟩
      · exact gm e z
    have g2 : (fs.toList.map fun e => kOf e.2).Nodup := pk.nodup_iff.mpr (List.nodup_cons.mpr ⟨nk, nd⟩)
    have g3 : ∀ i, (S i || decide (i = k)) = true ↔ i ∈ fs.toList.map fun e => kOf e.2 := fun i => by
      rw [Bool.or_eq_true, decide_eq_true_eq, mm i, pk.mem_iff, List.mem_cons]
      exact Or.comm
    have sz1 : fs.size = n + 1 := by rw [← Array.length_toList, pc.length_eq, List.length_cons, Array.length_toList, sz]
    have bd1 : fs.size < scanBound := by rw [sz1]; exact room
    have ld1 : w.params.followText "set-order" = true ∨ tc.led = true := ld.imp id fun z => by rw [l4]; exact z
    have fin : ∀ h', Heap.SameBut a s.heap h' → KSet w h' a (fun j => S j || decide (j = k)) fs.size → Q true { s with heap := h' } := fun h' sb r => by
      have q := hQ h' sb
      rw [Sk] at q
      rw [sz1] at r
      exact q r
    refine wpAny_bind (gw _ ?_)
    split
    · refine wpAny_bind ?_
      rw [hashByValue_scannable 8 sc]
      refine wpAny_pure ?_
      refine kset_tail ?_ go gx gd g1 g2 g3 bd1 ?_ ?_ ?_ ?_
      · intro b z Z q; cases b <;> first | exact wpAny_pure q | exact wpAny_rule q
      · first | (split <;> first | exact l2 | exact SetTable.fits_plain_off l2) | exact l2
      · first | (split <;> exact l3) | exact l3
      · first | (split <;> exact ld1) | exact ld1
      · intro h' sb r; dsimp only; exact wpAny_pure (fin h' sb r)
    · refine wpAny_bind (wpAny_pure ?_)
      simp only [↓reduceIte]
      refine kset_tail ?_ go gx gd g1 g2 g3 bd1 l2 l3 ld1 ?_
      · intro b z Z q; cases b <;> first | exact wpAny_pure q | exact wpAny_rule q
      · intro h' sb r; dsimp only; exact wpAny_pure (fin h' sb r)
theorem kset_fresh {h : Heap} (w : World) : KSet w (h.push { cls := .type "set", dict := none, data := .set #[] 0 (.fresh 0 0 (!w.params.followText "set-order")) }) h.objs.size (fun _ => false) 0 :=
  ⟨_, #[], 0, _, Heap.get?_push_size _ rfl, ⟨rfl, rfl, rfl⟩, rfl, (fun e he => by simp at he), (by simp), (fun k => by simp), (by decide), (by rfl), rfl, List.Pairwise.nil, by
    show _ ∨ (!w.params.followText "set-order") = true
    cases w.params.followText "set-order"
    · exact .inr rfl
    · exact .inl rfl⟩
end
/-! ### filled from what is walked -/
section
variable {P : Program} {w : World} {A : Around} {R : Result → Shared → Prop} {I : Addr} {fp wr : List Addr} {G : Array GenState → Array GenState → Prop} {n : Nat} {Pv : Nat → Value → Prop} {St : Nat → Shared → Prop}
theorem kset_loop (W : WalksS P w A.in1 I fp wr G n Pv St) (T : Addr) (hT : T ∉ fp) (ks : List Key) (hsz : ks.length = n) (hn1 : n + 1 < scanBound)
    (hval : ∀ i v, Pv i v → ∃ k, ks[i]? = some k ∧ keyIs k v = true) :
    ∀ (k i : Nat) (s : Shared) (m : Nat), n - i = k → i ≤ n → m ≤ i → St i s → KSet w s.heap T (fun j => (ks.take i).any fun z => decide (z = j)) m →
      (∀ s' m', Moved (T :: wr) G s s' → m' ≤ n → KSet w s'.heap T (fun j => ks.any fun z => decide (z = j)) m' → R (.ok (.ret .none)) s') →
      codeAny (model P w) A (.builtin "set.update.loop" ⟨[.ref T, .ref I], []⟩) R s := by
  have hTw : T ∉ wr := fun h => hT (W.sub _ h)
  have hsub : ∀ b ∈ wr, b ∈ T :: wr := fun b hb => List.mem_cons_of_mem _ hb
  intro k
  induction k with
  | zero =>
    intro i s m hk hi hm hst hS hR
    have ein : i = n := by omega
    subst ein
    refine codeAny_builtin PyProof.Rows.F.entry_set_update_loop ?_
    rw [Around.under_plainId PyProof.Rows.F.plain_set_update_loop _]
    show wpAny _ A.in1 (pyNext (.ref I) >>= _) _ _ s
    refine wpAny_bind (W.done s _ _ hst fun s' mv => ?_)
    show wpAny _ A.in1 (PySem.ret Value.none) _ _ s'
    refine wpAny_pure (hR s' m (mv.mono hsub) hm ?_)
    rw [← hsz, List.take_length] at hS
    exact hS.at fun o e => mv.heap T o hTw e
  | succ k ih =>
    intro i s m hk hi hm hst hS hR
    have hlt : i < n := by omega
    refine codeAny_builtin PyProof.Rows.F.entry_set_update_loop ?_
    rw [Around.under_plainId PyProof.Rows.F.plain_set_update_loop _]
    show wpAny _ A.in1 (pyNext (.ref I) >>= _) _ _ s
    refine wpAny_bind (W.item i s _ _ hlt hst fun v s' hP hst' mv => ?_)
    obtain ⟨ky, hky, kv⟩ := hval i v hP
    have hS' := hS.at fun o e => mv.heap T o hTw e
    show wpAny _ A.in1 (holding [v] (setAdd T v) >>= _) _ _ s'
    refine wpAny_bind (wpAny_holding ?_)
    unfold setAdd
    refine wpAny_holding ?_
    refine wpAny_bind ((mixKind P w).pyHash (k := ky) kv ?_)
    refine kset_add (s := { s' with toks := s'.toks + 1 }) kv hS' (by omega) fun h' hsb hS2 => ?_
    have hS3 : KSet w h' T (fun j => (ks.take (i + 1)).any fun z => decide (z = j)) (if ((ks.take i).any fun z => decide (z = ky)) = true then m else m + 1) := by
      have e0 : (fun j => (ks.take (i + 1)).any fun z => decide (z = j)) = fun j => ((ks.take i).any fun z => decide (z = j)) || decide (j = ky) := by
        funext j
        rw [List.take_add_one, hky]
        simp [eq_comm]
      rw [e0]; exact hS2
    refine wpAny_pure ⟨plainId_quiet PyProof.Rows.F.plain_set_update_loop _, ih (i + 1) _ _ (by omega) hlt (by split <;> omega) (W.frame _ s' _ _ hst' (Nat.le_succ _) fun b hb o e => ?_) hS3 fun s'' m' mv' hm' hS'' => ?_⟩
    · rw [hsb.2 b (fun h : b = T => hT (by rw [← h]; exact hb))]; exact e
    · refine hR s'' m' (Moved.trans W.gtrans ((mv.mono hsub).then_heap (Nat.le_succ _) fun b o hb e => ?_) mv') hm' hS''
      rw [hsb.2 b (fun h : b = T => hb (by rw [h]; exact List.mem_cons_self))]; exact e
end
end VE

/-! sorted, of ints, texts, tuples of them, and sets -/
namespace VE
open PySem PySem.Spec PyProof.Rows L2
variable [VEnv]
/-! ### the order -/
def ltK : Key → Key → Bool
  | .inl i, .inl j => decide (i < j)
  | .inr x, .inr y => decide (x.cps.toList < y.cps.toList)
  | .inl _, .inr _ => true
  | .inr _, .inl _ => false
def lexK : List Key → List Key → Bool
  | [], [] => false
  | [], _ :: _ => true
  | _ :: _, [] => false
  | x :: xs, y :: ys => if x = y then lexK xs ys else ltK x y
theorem str_of_list {x y : Str} (h : x.cps.toList = y.cps.toList) : x = y := by
  cases x; cases y; simp at h; rw [h]
theorem ltK_irr : ∀ x : Key, ltK x x = false
  | .inl i => by simp [ltK]
  | .inr x => by simp [ltK]
theorem ltK_asym : ∀ {x y : Key}, ltK x y = true → ltK y x = false
  | .inl i, .inl j, h => by simp [ltK] at *; omega
  | .inr x, .inr y, h => by
    simp only [ltK, decide_eq_true_eq, decide_eq_false_iff_not] at *
    exact fun h2 => List.lt_irrefl _ (List.lt_trans h h2)
  | .inl i, .inr j, h => rfl
  | .inr i, .inl j, h => by simp [ltK] at h
theorem ltK_tot : ∀ {x y : Key}, ltK x y = false → ltK y x = false → x = y
  | .inl i, .inl j, h, h2 => by simp [ltK] at *; omega
  | .inr x, .inr y, h, h2 => by
    simp only [ltK, decide_eq_false_iff_not] at *
    rw [str_of_list (List.le_antisymm (List.not_lt.mp h2) (List.not_lt.mp h))]
  | .inl i, .inr j, h, _ => by simp [ltK] at h
  | .inr i, .inl j, _, h => by simp [ltK] at h
theorem ltK_trans : ∀ {x y z : Key}, ltK x y = true → ltK y z = true → ltK x z = true
  | .inl i, .inl j, .inl k, h, h2 => by simp [ltK] at *; omega
  | .inr x, .inr y, .inr z, h, h2 => by
    simp only [ltK, decide_eq_true_eq] at *
    exact List.lt_trans h h2
  | .inl i, .inr j, .inr k, h, h2 => rfl
  | .inl i, .inl j, .inr k, h, h2 => rfl
  | .inl i, .inr j, .inl k, h, h2 => by simp [ltK] at h2
  | .inr i, .inl j, _, h, h2 => by simp [ltK] at h
  | .inr i, .inr j, .inl k, h, h2 => by simp [ltK] at h2
theorem lexK_irr : ∀ xs, lexK xs xs = false
  | [] => rfl
  | x :: xs => by simp [lexK, lexK_irr xs]
theorem lexK_asym : ∀ {xs ys}, lexK xs ys = true → lexK ys xs = false
  | [], [], h => by simp [lexK] at h
  | [], _ :: _, _ => rfl
  | _ :: _, [], h => by simp [lexK] at h
  | x :: xs, y :: ys, h => by
    simp only [lexK] at *
    by_cases e : x = y
    · subst e; simp only [↓reduceIte] at *; exact lexK_asym h
    · rw [if_neg e] at h; rw [if_neg (Ne.symm e)]; exact ltK_asym h
theorem lexK_tot : ∀ {xs ys}, lexK xs ys = false → lexK ys xs = false → xs = ys
  | [], [], _, _ => rfl
  | [], _ :: _, h, _ => by simp [lexK] at h
  | _ :: _, [], _, h => by simp [lexK] at h
  | x :: xs, y :: ys, h, h2 => by
    simp only [lexK] at *
    by_cases e : x = y
    · subst e; simp only [↓reduceIte] at *; rw [lexK_tot h h2]
    · rw [if_neg e] at h; rw [if_neg (Ne.symm e)] at h2; exact absurd (ltK_tot h h2) e
theorem lexK_trans : ∀ {xs ys zs}, lexK xs ys = true → lexK ys zs = true → lexK xs zs = true
  | [], [], _, h, _ => by simp [lexK] at h
  | [], _ :: _, [], _, h => by simp [lexK] at h
  | [], _ :: _, _ :: _, _, _ => rfl
  | _ :: _, [], _, h, _ => by simp [lexK] at h
  | _ :: _, _ :: _, [], _, h => by simp [lexK] at h
  | x :: xs, y :: ys, z :: zs, h, h2 => by
    simp only [lexK] at *
    by_cases e : x = y
    · subst e
      simp only [↓reduceIte] at h
      by_cases e2 : x = z
      · subst e2; simp only [↓reduceIte] at *; exact lexK_trans h h2
      · rw [if_neg e2] at *; exact h2
    · rw [if_neg e] at h
      by_cases e2 : y = z
      · subst e2; rw [if_neg e]; exact h
      · rw [if_neg e2] at h2
        have h3 := ltK_trans h h2
        by_cases e3 : x = z
        · subst e3; rw [ltK_irr] at h3; cases h3
        · rw [if_neg e3]; exact h3
theorem swo_lexK {α : Type} (k : α → List Key) : SrtO.Swo fun x y => lexK (k x) (k y) := by
  refine ⟨fun x y h => lexK_asym h, fun x y z h1 h2 => ?_⟩
  cases q : lexK (k z) (k x) with
  | false => rfl
  | true =>
    cases q1 : lexK (k x) (k y) with
    | true => rw [lexK_trans q q1] at h2; cases h2
    | false => rw [lexK_tot q1 h1, h2] at q; cases q
/-! ### a list in order -/
section
variable {α : Type} (k : α → List Key)
def insB (x : α) : List α → List α
  | [] => [x]
  | y :: ys => if lexK (k y) (k x) then y :: insB x ys else x :: y :: ys
/-- in order; equal ones as they stood -/
def srtB : List α → List α
  | [] => []
  | x :: xs => insB k x (srtB xs)
variable {k}
theorem insB_perm (x : α) : ∀ ys, (insB k x ys).Perm (x :: ys)
  | [] => .refl _
  | y :: ys => by
    unfold insB
    split
    · exact ((insB_perm x ys).cons y).trans (.swap x y ys)
    · exact .refl _
theorem srtB_perm : ∀ xs : List α, (srtB k xs).Perm xs
  | [] => .refl _
  | x :: xs => (insB_perm x _).trans ((srtB_perm xs).cons x)
theorem insB_srt (x : α) : ∀ ys, SrtO.Srtd (fun a b => lexK (k a) (k b)) ys → SrtO.Srtd (fun a b => lexK (k a) (k b)) (insB k x ys)
  | [], _ => List.pairwise_singleton _ _
  | y :: ys, h => by
    have ⟨h1, h2⟩ := List.pairwise_cons.mp h
    unfold insB
    split
    · rename_i q
      refine List.pairwise_cons.mpr ⟨fun z hz => ?_, insB_srt x ys h2⟩
      rcases List.mem_cons.mp ((insB_perm x ys).mem_iff.mp hz) with e | e
      · subst e; exact lexK_asym q
      · exact h1 z e
    · rename_i q
      have q' : lexK (k y) (k x) = false := by simpa using q
      refine List.pairwise_cons.mpr ⟨fun z hz => ?_, h⟩
      rcases List.mem_cons.mp hz with e | e
      · subst e; exact q'
      · exact (swo_lexK k).tr x y z q' (h1 z e)
theorem srtB_srt : ∀ xs : List α, SrtO.Srtd (fun a b => lexK (k a) (k b)) (srtB k xs)
  | [] => List.Pairwise.nil
  | x :: xs => insB_srt x _ (srtB_srt xs)
/-- two sorted arrangements by the same keys have the same keys -/
theorem srt_keys : ∀ {xs ys : List α}, SrtO.Srtd (fun a b => lexK (k a) (k b)) xs → SrtO.Srtd (fun a b => lexK (k a) (k b)) ys → (xs.map k).Perm (ys.map k) → xs.map k = ys.map k
  | [], ys, _, _, p => by simpa using p.symm.length_eq
  | x :: xs, [], _, _, p => by simpa using p.length_eq
  | x :: xs, y :: ys, hx, hy, p => by
    have ⟨x1, x2⟩ := List.pairwise_cons.mp hx
    have ⟨y1, y2⟩ := List.pairwise_cons.mp hy
    have e : k x = k y := by
      have m1 : k x ∈ (y :: ys).map k := p.mem_iff.mp List.mem_cons_self
      have m2 : k y ∈ (x :: xs).map k := p.mem_iff.mpr List.mem_cons_self
      rcases List.mem_cons.mp m1 with h | h
      · exact h
      · rcases List.mem_cons.mp m2 with h' | h'
        · exact h'.symm
        · obtain ⟨z, hz, ez⟩ := List.mem_map.mp h
          obtain ⟨u, hu, eu⟩ := List.mem_map.mp h'
          have a1 : lexK (k z) (k y) = false := y1 z hz
          have a2 : lexK (k u) (k x) = false := x1 u hu
          rw [ez] at a1; rw [eu] at a2
          exact lexK_tot a1 a2
    simp only [List.map_cons] at p ⊢
    rw [e] at p ⊢
    rw [srt_keys x2 y2 ((List.perm_cons _).mp p)]
end
/-! ### what the machine asks -/
section
variable {P : Program} {w : World} {A : Around} {E : Value → Shared → Prop} {s : Shared}
/-- ints, or texts -/
def AllSc (vs : List Value) : Prop := (∃ ns, IntsAre vs ns) ∨ ∃ xs, StrsAre vs xs
theorem kOf_int {i : Int} {t : Tok} : kOf (.int i t) = .inl i := rfl
theorem kOf_str {i : Str} {t : Tok} : kOf (.str i t) = .inr i := rfl
theorem lex1 {x y : Key} : lexK [x] [y] = if x = y then false else ltK x y := by simp [lexK]
theorem lex1' {x y : Key} : lexK [x] [y] = ltK x y := by
  rw [lex1]
  split
  · rename_i e; subst e; exact (ltK_irr _).symm
  · rfl
theorem sortable_sc {a : Addr} {vs : List Value} (h : AllSc vs) (h2 : 2 ≤ vs.length) : SrtO.SortableO P w A s a vs fun v u => lexK [kOf v] [kOf u] := by
  intro h' _
  rcases h with ⟨ns, hi⟩ | ⟨xs, hx⟩
  · refine ⟨oneType', fun Q E hq => ?_, fun p q hm hm' => ?_⟩
    · match vs, hi, h2 with
      | v1 :: v2 :: rest, hi, _ => rw [keyKind_ints hi]; exact wpAny_pure hq
      | [], _, h => exact absurd h (by decide)
      | [v], _, h => exact absurd h (by simp)
    · obtain ⟨i, t, e⟩ := SrtO.ints_mem hi _ hm
      obtain ⟨j, u, e'⟩ := SrtO.ints_mem hi _ hm'
      show wpAny _ A (keyLt' oneType' p.1 q.1) _ _ _
      rw [e, e', keyLt'_oneType]
      refine oneLt_int ⟨rfl, ?_⟩
      show _ = lexK [kOf p.1] [kOf q.1]
      rw [e, e', lex1', kOf_int, kOf_int]; rfl
  · refine ⟨oneType', fun Q E hq => ?_, fun p q hm hm' => ?_⟩
    · match vs, hx, h2 with
      | v1 :: v2 :: rest, hx, _ => rw [keyKind_strs hx]; exact wpAny_pure hq
      | [], _, h => exact absurd h (by decide)
      | [v], _, h => exact absurd h (by simp)
    · obtain ⟨i, t, e⟩ := hx.all _ hm
      obtain ⟨j, u, e'⟩ := hx.all _ hm'
      show wpAny _ A (keyLt' oneType' p.1 q.1) _ _ _
      rw [e, e', keyLt'_oneType]
      refine oneLt_str ⟨rfl, ?_⟩
      show _ = lexK [kOf p.1] [kOf q.1]
      rw [e, e', lex1', kOf_str, kOf_str]; rfl
/-- a tuple of these keys -/
def TupK (h : Heap) (v : Value) (ks : List Key) : Prop := ∃ a o its n, v = .ref a ∧ h.get? a = some o ∧ o.cls = .type "tuple" ∧ o.data = .seq its n ∧ Paired keyIs' ks its.toList
where keyIs' (k : Key) (v : Value) : Prop := keyIs k v = true
theorem TupK.keeps {h h' : Heap} {v : Value} {ks : List Key} (t : TupK h v ks) (k : ∀ a o, v = .ref a → o.cls = .type "tuple" → h.get? a = some o → h'.get? a = some o) : TupK h' v ks := by
  obtain ⟨a, o, its, n, e, g, c, r⟩ := t
  exact ⟨a, o, its, n, e, k a o e c g, c, r⟩
def shp (ks : List Key) : List Bool := ks.map fun | .inl _ => true | .inr _ => false
theorem lt_keys {x y : Key} {u v : Value} {b : Bool} {Q : Bool → Shared → Prop} (hx : keyIs x u = true) (hy : keyIs y v = true) (hs : shp [x] = shp [y]) (q : Q (ltK x y) s) : wpAny (model P w) A (oneLt' b u v) Q E s := by
  rcases keyIs_shape hx with ⟨i, t, rfl, rfl⟩ | ⟨i, t, rfl, rfl⟩ <;> rcases keyIs_shape hy with ⟨j, t', rfl, rfl⟩ | ⟨j, t', rfl, rfl⟩
  · cases b with
    | true => exact oneLt_int q
    | false => exact PySem.W.kat_one _ _ (PyProof.Rows.lt_int q)
  · simp [shp] at hs
  · simp [shp] at hs
  · cases b with
    | true => exact oneLt_str q
    | false => exact PySem.W.kat_one _ _ (PyProof.Rows.lt_str q)
theorem katlex {Q : Bool → Shared → Prop} : ∀ {ks js : List Key} {us vs : List Value} (i : Nat), Paired TupK.keyIs' ks us → Paired TupK.keyIs' js vs → shp ks = shp js → Q (lexK ks js) s → PySem.W.KatLex P w A true false Q (us.zip vs) i s
  | _, _, _, _, i, .nil, .nil, _, q => PySem.W.kat_nil q
  | _, _, _, _, _, .nil, .cons _ _, h, _ => by simp [shp] at h
  | _, _, _, _, _, .cons _ _, .nil, h, _ => by simp [shp] at h
  | x :: ks, y :: js, u :: us, v :: vs, i, .cons hx hr, .cons hy hr', h, q => by
    simp only [shp, List.map_cons, List.cons.injEq] at h
    refine PySem.W.kat_cons ((mixKind P w).eqBool hx hy ?_)
    simp only [lexK] at q
    refine PySem.W.kat_go (fun e => ?_) fun e => ?_
    · rw [if_pos (of_decide_eq_true e)] at q
      exact PySem.W.kat_yes (katlex (i + 1) hr hr' h.2 q)
    · rw [if_neg (of_decide_eq_false e)] at q
      exact PySem.W.kat_no (lt_keys hx hy (by simp only [shp, List.map_cons, List.map_nil, h.1]) q)
theorem tupK_firsts {h : Heap} {kf : Value → List Key} : ∀ {vs : List Value}, (∀ v ∈ vs, TupK h v (kf v)) → (∀ v ∈ vs, kf v ≠ []) → ∃ fs, PySem.W.KatTups h vs fs ∧ fs.length = vs.length ∧ ∀ f ∈ fs, ∃ v ∈ vs, ∃ k, (kf v).head? = some k ∧ keyIs k f = true
  | [], _, _ => ⟨[], PySem.W.KatTups.nil, rfl, by simp⟩
  | v :: vs, hv, hn => by
    obtain ⟨fs, h1, h2, h3⟩ := tupK_firsts (vs := vs) (fun u hu => hv u (List.mem_cons_of_mem _ hu)) (fun u hu => hn u (List.mem_cons_of_mem _ hu))
    obtain ⟨a, o, its, n, e, g, c, d, r⟩ := hv v List.mem_cons_self
    have hne := hn v List.mem_cons_self
    generalize hk : kf v = ks at r hne
    generalize hl : its.toList = il at r
    have key : ∃ k f, ks.head? = some k ∧ il[0]? = some f ∧ keyIs k f = true := by
      cases r with
      | nil => exact absurd rfl hne
      | cons hx hr =>
        exact ⟨_, _, rfl, rfl, hx⟩
    obtain ⟨k, f, k1, k2, k3⟩ := key
    refine ⟨f :: fs, ?_, by simp [h2], fun g' hg => ?_⟩
    · rw [e]
      exact PySem.W.KatTups.cons g c d (by rw [← Array.getElem?_toList, hl]; exact k2) h1
    · rcases List.mem_cons.mp hg with z | z
      · exact ⟨v, List.mem_cons_self, k, by rw [hk]; exact k1, by rw [z]; exact k3⟩
      · obtain ⟨u, hu, r⟩ := h3 g' z
        exact ⟨u, List.mem_cons_of_mem _ hu, r⟩
theorem sortable_tup {a : Addr} {vs : List Value} {kf : Value → List Key} {sh : List Bool} (h2 : 2 ≤ vs.length) (hsh : sh ≠ []) (hv : ∀ v ∈ vs, TupK s.heap v (kf v)) (hs : ∀ v ∈ vs, shp (kf v) = sh) (ha : ∀ o, s.heap.get? a = some o → o.cls ≠ .type "tuple") :
    SrtO.SortableO P w A s a vs fun v u => lexK (kf v) (kf u) := by
  intro h' keep
  have hv' : ∀ v ∈ vs, TupK h' v (kf v) := fun v hm => (hv v hm).keeps fun b o e c g => keep b o (fun z => ha o (z ▸ g) c) g
  have hne : ∀ v ∈ vs, kf v ≠ [] := fun v hm z => by
    have := hs v hm
    rw [z] at this; exact hsh this.symm
  obtain ⟨fs, f1, f2, f3⟩ := tupK_firsts hv' hne
  refine ⟨tuples' true, fun Q E hq => ?_, fun p q hm hm' => ?_⟩
  · cases hb : sh with
    | nil => exact absurd hb hsh
    | cons b0 rest =>
      have typ : ∀ f ∈ fs, ∃ k, keyIs k f = true ∧ shp [k] = [b0] := fun f hf => by
        obtain ⟨v, hvm, k, k1, k2⟩ := f3 f hf
        refine ⟨k, k2, ?_⟩
        have := hs v hvm
        rw [hb] at this
        cases hkv : kf v with
        | nil => rw [hkv] at k1; cases k1
        | cons k' ks =>
          rw [hkv] at k1 this
          cases k1
          simp only [shp, List.map_cons, List.cons.injEq] at this ⊢
          exact ⟨this.1, rfl⟩
      cases b0 with
      | true =>
        refine PySem.W.kat_kind (T := .type "int") f1 (by omega) (fun f hm => ?_) (by rfl) ?_
        · obtain ⟨k, k1, k2⟩ := typ f hm
          rcases keyIs_shape k1 with ⟨i, t, rfl, rfl⟩ | ⟨i, t, rfl, rfl⟩
          · exact PySem.W.Looks.now
          · simp [shp] at k2
        · have e : (Value.type "int" != Value.type "tuple") = true := by first | decide +kernel | rfl | decide
          rw [e]
          exact hq
      | false =>
        refine PySem.W.kat_kind (T := .type "str") f1 (by omega) (fun f hm => ?_) (by rfl) ?_
        · obtain ⟨k, k1, k2⟩ := typ f hm
          rcases keyIs_shape k1 with ⟨i, t, rfl, rfl⟩ | ⟨i, t, rfl, rfl⟩
          · simp [shp] at k2
          · exact PySem.W.Looks.now
        · have e : (Value.type "str" != Value.type "tuple") = true := by first | decide +kernel | rfl | decide
          rw [e]
          exact hq
  · obtain ⟨b, o, its, n, e, g, c, d, r⟩ := hv' _ hm
    obtain ⟨b', o', its', n', e', g', c', d', r'⟩ := hv' _ hm'
    show wpAny _ A (keyLt' (tuples' true) p.1 q.1) _ _ _
    rw [e, e']
    have hsz : its.size = its'.size := by
      have l1 := r.length
      have l2 := r'.length
      have l3 : (kf p.1).length = (kf q.1).length := by
        have := (hs _ hm).trans (hs _ hm').symm
        simpa [shp] using congrArg List.length this
      rw [l3, l2] at l1
      simpa using l1.symm
    refine PySem.W.kat_lt g d g' d' ?_
    rw [hsz, show decide (its'.size < its'.size) = false from by simp]
    exact katlex 0 r r' ((hs _ hm).trans (hs _ hm').symm) ⟨rfl, rfl⟩
theorem get_fresh {h h' : Heap} (k : ∀ b o, h.get? b = some o → h'.get? b = some o) : h.get? h'.objs.size = none := by
  cases e : h.get? h'.objs.size with
  | none => rfl
  | some o => exact absurd (Heap.lt_size (k _ _ e)) (Nat.lt_irrefl _)
/-- sorted(v), v a list, a tuple or a set that gathers to items of which Pp holds -/
theorem sorted_any {v : Value} {Pp : List Value → Prop} {ltv : Value → Value → Bool} {Q : Value → Shared → Prop} (O : SrtO.Swo ltv)
    (hcol : ∀ Z : List Value → Shared → Prop, (∀ s1 out, (∀ b o, s.heap.get? b = some o → s1.heap.get? b = some o) → s1.gens = s.gens → s1.os = s.os → Pp out → Z out s1) → wpAny (model P w) A.in1 (collect v) Z E s)
    (hz : ∀ out, Pp out → out.length ≤ sizeLine)
    (hS : ∀ (out : List Value) (s1 : Shared) (a : Addr), Pp out → 2 ≤ out.length → (∀ b o, s.heap.get? b = some o → s1.heap.get? b = some o) → s1.heap.get? a = some (seqObj "list" out.toArray 0) → SrtO.SortableO P w A.in1.in1 s1 a out ltv)
    (h : ∀ s' p (out out' : List Value) (c : Nat), (∀ b o, s.heap.get? b = some o → s'.heap.get? b = some o) → s'.gens = s.gens → s'.os = s.os → s.heap.get? p = none → s'.heap.get? p = some (seqObj "list" out'.toArray c) →
      Pp out → SrtO.Srtd ltv out' → SrtO.Stb ltv out' out → Q (.ref p) s') :
    wpAny (model P w) A (call (.builtin "sorted") [v]) Q E s := by
  refine Calls.call_function_entry kind_sorted plain_sorted entry_sorted (args_sorted1 _) ?_
  unfold Builtin.«sorted»
  refine wpAny_bind (m := checkCount "sorted" 1 1 _) (wpAny_pure ?_)
  refine wpAny_bind (hcol _ fun s1 out k1 g1 o1 pp => ?_)
  refine wpAny_bind (wpAny_newList ?_ (hz out pp))
  have gL : (s1.heap.push (seqObj "list" out.toArray 0)).get? s1.heap.objs.size = some (seqObj "list" out.toArray 0) := Heap.get?_push_size _ rfl
  refine wpAny_bind (wpAny_holding (wpAny_call_entry slot_list_sort ⟨_, gL, rfl⟩ entry_list_sort (SrtO.list_sort_ord O gL (hz out pp) (fun h2 => hS out _ _ pp h2 (fun b o e => Heap.get?_push_of_some _ (k1 b o e)) gL) fun out' a1 a2 => ⟨_, rfl, ?_⟩) (args_list_sort _)))
  obtain ⟨c, hc⟩ := sortedHeap_at (vs := out) (out := out'.toArray) gL
  refine wpAny_pure ⟨_, rfl, h _ s1.heap.objs.size out out' c (fun b u e => ?_) g1 o1 (get_fresh k1) hc pp a1 a2⟩
  have q := k1 b u e
  have lt := Heap.lt_size q
  show (sortedHeap (s1.heap.push (seqObj "list" out.toArray 0)) s1.heap.objs.size out out'.toArray).get? b = some u
  rw [sortedHeap_old (Nat.ne_of_lt lt) (by rw [size_push']; exact Nat.lt_succ_of_lt lt)]
  exact Heap.get?_push_of_some _ q
end
end VE

/-! sorted(..) of data; sorted(set(..)), len(set(..)) -/
namespace VE
open PySem PySem.Spec PyProof.Rows L2
variable [VEnv]
def kDs : List D → List Key
  | .int i :: ds => .inl i :: kDs ds
  | .str x :: ds => .inr x :: kDs ds
  | _ => []
def kD : D → List Key
  | .tup ds => kDs ds
  | .int i => [.inl i]
  | .str x => [.inr x]
  | _ => []
def isInt : D → Bool
  | .int _ => true
  | _ => false
def isStr : D → Bool
  | .str _ => true
  | _ => false
def isKs : List D → Bool
  | [] => true
  | .int _ :: ds => isKs ds
  | .str _ :: ds => isKs ds
  | _ => false
def isRow (sh : List Bool) : D → Bool
  | .tup ds => isKs ds && (shp (kDs ds) == sh)
  | _ => false
/-- ints, or texts, or tuples of both of one shape -/
def sortL (ds : List D) : Option (List D) :=
  if ds.all isInt || ds.all isStr || (ds.all (isRow ((ds.head?.map fun d => shp (kD d)).getD [])) && ((ds.head?.map fun d => shp (kD d)).getD [] != [])) then some (srtB kD ds) else none
def sortedD : D → Option D
  | .lst ds => (sortL ds).map .lst
  | .tup ds => (sortL ds).map .lst
  | _ => none
theorem kDs_inj : ∀ {xs ys : List D}, isKs xs = true → isKs ys = true → kDs xs = kDs ys → xs = ys
  | [], [], _, _, _ => rfl
  | [], .int i :: ys, _, _, e => by simp [kDs] at e
  | [], .str i :: ys, _, _, e => by simp [kDs] at e
  | .int i :: xs, [], _, _, e => by simp [kDs] at e
  | .str i :: xs, [], _, _, e => by simp [kDs] at e
  | .int i :: xs, .int j :: ys, h, h2, e => by
    simp only [kDs, List.cons.injEq, Sum.inl.injEq] at e
    rw [e.1, kDs_inj (by simpa [isKs] using h) (by simpa [isKs] using h2) e.2]
  | .str i :: xs, .str j :: ys, h, h2, e => by
    simp only [kDs, List.cons.injEq, Sum.inr.injEq] at e
    rw [e.1, kDs_inj (by simpa [isKs] using h) (by simpa [isKs] using h2) e.2]
  | .int i :: xs, .str j :: ys, h, h2, e => by simp [kDs] at e
  | .str i :: xs, .int j :: ys, h, h2, e => by simp [kDs] at e
  | .non :: _, _, h, _, _ => by simp [isKs] at h
  | .bl _ :: _, _, h, _, _ => by simp [isKs] at h
  | .lst _ :: _, _, h, _, _ => by simp [isKs] at h
  | .tup _ :: _, _, h, _, _ => by simp [isKs] at h
  | .scr _ :: _, _, h, _, _ => by simp [isKs] at h
  | .ino _ _ _ :: _, _, h, _, _ => by simp [isKs] at h
  | .obj _ _ :: _, _, h, _, _ => by simp [isKs] at h
  | .ref _ :: _, _, h, _, _ => by simp [isKs] at h
  | .fn _ :: _, _, h, _, _ => by simp [isKs] at h
  | _, .non :: _, _, h, _ => by simp [isKs] at h
  | _, .bl _ :: _, _, h, _ => by simp [isKs] at h
  | _, .lst _ :: _, _, h, _ => by simp [isKs] at h
  | _, .tup _ :: _, _, h, _ => by simp [isKs] at h
  | _, .scr _ :: _, _, h, _ => by simp [isKs] at h
  | _, .ino _ _ _ :: _, _, h, _ => by simp [isKs] at h
  | _, .obj _ _ :: _, _, h, _ => by simp [isKs] at h
  | _, .ref _ :: _, _, h, _ => by simp [isKs] at h
  | _, .fn _ :: _, _, h, _ => by simp [isKs] at h
theorem map_inj {α β : Type} {f : α → β} {p : α → Prop} (hi : ∀ x y, p x → p y → f x = f y → x = y) : ∀ {xs ys : List α}, (∀ x ∈ xs, p x) → (∀ x ∈ ys, p x) → xs.map f = ys.map f → xs = ys
  | [], [], _, _, _ => rfl
  | [], _ :: _, _, _, e => by simp at e
  | _ :: _, [], _, _, e => by simp at e
  | x :: xs, y :: ys, h, h2, e => by
    simp only [List.map_cons, List.cons.injEq] at e
    rw [hi x y (h x List.mem_cons_self) (h2 y List.mem_cons_self) e.1, map_inj hi (fun z hz => h z (List.mem_cons_of_mem _ hz)) (fun z hz => h2 z (List.mem_cons_of_mem _ hz)) e.2]
/-- a sorted arrangement of ds is the one -/
theorem srtB_uniq {ds es : List D} {p : D → Prop} (hi : ∀ x y, p x → p y → kD x = kD y → x = y) (hp : ∀ x ∈ ds, p x) (hs : SrtO.Srtd (fun a b => lexK (kD a) (kD b)) es) (h : es.Perm ds) : es = srtB kD ds := by
  have e := srt_keys (k := kD) hs (srtB_srt ds) ((h.trans (srtB_perm ds).symm).map kD)
  exact map_inj hi (fun x hx => hp x (h.mem_iff.mp hx)) (fun x hx => hp x ((srtB_perm ds).mem_iff.mp hx)) e
section
variable {K : PySem.W.Frag} {mg : Str → Option Value} {F : Addr → Prop} {c : List Addr} {H : Hp}
/-- a value that stands for d -/
def Is (K : PySem.W.Frag) (mg : Str → Option Value) (F : Addr → Prop) (c : List Addr) (H : Hp) (u : Value) (d : D) : Prop := ∃ v, RelV v u ∧ Rp K mg F c H v d
theorem is_of : ∀ {xs : List V} {us : List Value} {ds : List D}, Vals xs us → Rps K mg F c H xs ds → Paired (Is K mg F c H) us ds
  | _, _, _, .nil, .nil => .nil
  | _, _, _, .cons r t, .cons h q => .cons ⟨_, r, h⟩ (is_of t q)
theorem of_is : ∀ {us : List Value} {ds : List D}, Paired (Is K mg F c H) us ds → ∃ xs, Vals xs us ∧ Rps K mg F c H xs ds
  | _, _, .nil => ⟨[], .nil, .nil⟩
  | _, _, .cons ⟨v, r, h⟩ t => by
    obtain ⟨xs, h1, h2⟩ := of_is t
    exact ⟨v :: xs, .cons r h1, .cons h h2⟩
theorem paired_perm {α β : Type} {R : α → β → Prop} {l l' : List α} (p : l'.Perm l) : ∀ {m : List β}, Paired R l m → ∃ m', m'.Perm m ∧ Paired R l' m' := by
  induction p with
  | nil => intro m h; cases h; exact ⟨[], .refl _, .nil⟩
  | cons x p ih =>
    intro m h
    cases h with
    | cons r t =>
      obtain ⟨m', h1, h2⟩ := ih t
      exact ⟨_ :: m', h1.cons _, .cons r h2⟩
  | swap x y l =>
    intro m h
    cases h with
    | cons r t => cases t with
      | cons r' t' => exact ⟨_ :: _ :: _, .swap _ _ _, .cons r' (.cons r t')⟩
  | trans p q ih1 ih2 =>
    intro m h
    obtain ⟨m1, h1, h2⟩ := ih2 h
    obtain ⟨m2, h3, h4⟩ := ih1 h2
    exact ⟨m2, h3.trans h1, h4⟩
theorem paired_map {α β γ : Type} {R : α → β → Prop} {f : α → γ} {g : β → γ} : ∀ {l : List α} {m : List β}, Paired R l m → (∀ a ∈ l, ∀ b ∈ m, R a b → f a = g b) → l.map f = m.map g
  | _, _, .nil, _ => rfl
  | _, _, .cons r t, h => by
    rw [List.map_cons, List.map_cons, h _ List.mem_cons_self _ List.mem_cons_self r, paired_map t fun a ha b hb => h a (List.mem_cons_of_mem _ ha) b (List.mem_cons_of_mem _ hb)]
end
theorem ok_get {P : Program} {w : World} {H : Hp} {h : Heap} {a : Addr} {o : HO} (z : ObjOk P w H h a o) : ∃ u, h.get? a = some u := by
  cases o with
  | lst xs => obtain ⟨_, _, _, _, e⟩ := z; exact ⟨_, e⟩
  | tup xs => obtain ⟨_, _, _, o, e, _⟩ := z; exact ⟨_, e⟩
  | dK kvs => obtain ⟨_, _, _, _, o, _, _, e, _⟩ := z; exact ⟨_, e⟩
  | dT kvs => obtain ⟨_, _, _, _, o, _, _, e, _⟩ := z; exact ⟨_, e⟩
  | set S n => obtain ⟨o, _, _, _, e, _⟩ := z; exact ⟨_, e⟩
  | ins C dx fs => obtain ⟨_, _, _, e, _⟩ := z; exact ⟨_, e⟩
  | own y => exact z
  | xd fs => obtain ⟨_, ⟨_, _, _, e, _⟩, _⟩ := z; exact ⟨_, e⟩
  | rng lo hi => obtain ⟨_, _, _, e⟩ := z; exact ⟨_, e⟩
  | frz ob u => obtain ⟨e, _⟩ := z; exact ⟨_, e⟩
  | tbl ps => exact ⟨_, (show h.get? a = some _ from z)⟩
  | met f y => exact ⟨_, (show h.get? a = some _ from z)⟩
  | ext φ => exact z.2.1
theorem ok_none {P : Program} {w : World} {H : Hp} {h : Heap} {a : Addr} (x : HOk P w H h) (e : h.get? a = none) : H a = none := by
  cases q : H a with
  | none => rfl
  | some o =>
    obtain ⟨u, hu⟩ := ok_get (x a o q)
    rw [e] at hu; cases hu
theorem ok_laid {P : Program} {w : World} {H : Hp} {h h' : Heap} {a : Addr} {o : HO} (x : HOk P w H h) (k : ∀ b u, h.get? b = some u → h'.get? b = some u) (hn : H a = none) (new : ObjOk P w (upd H a o) h' a o) : HOk P w (upd H a o) h' := fun b u e => by
  by_cases hb : b = a
  · subst hb; rw [upd_same] at e; cases e; exact new
  · rw [upd_ne hb] at e
    exact (x b u e).stay (fun c v _ q => k c v q) (fun d q => own_new hn d _ q) fun c xs q => by rw [upd_ne (ne_of_none q hn)]; exact q
theorem un_laid {H : Hp} {h h' : Heap} {a : Addr} {o : HO} {fs ex : List Addr} (k : ∀ b u, h.get? b = some u → h'.get? b = some u) (e : h.get? a = none) (hn : H a = none) : Un fs ex H (upd H a o) h h' where
  keep := fun b u q _ _ _ => k b u q
  slot := fun b u q _ _ _ => ⟨u.slots, k b u q⟩
  free := fun b u q n _ => by rw [upd_ne fun z => by rw [z, e] at q; cases q]; exact n
  there := fun b u q _ => ⟨u, k b u q⟩
  tups := fun b xs q => by rw [upd_ne (ne_of_none q hn)]; exact q
  frzs := fun b u xs q => by rw [upd_ne (ne_of_none q hn)]; exact q
  tbls := fun b ps q => ⟨#[], by rw [upd_ne (ne_of_none q hn), q]; simp⟩
/-- the keys of a value -/
def kV1 (h : Heap) : Value → List Key
  | .ref a => match h.get? a with
    | some o => match o.data with
      | .seq its _ => its.toList.map kOf
      | _ => []
    | none => []
  | v => [kOf v]
theorem tupK_keys {h : Heap} {v : Value} {ks : List Key} (t : TupK h v ks) : kV1 h v = ks := by
  obtain ⟨a, o, its, n, rfl, g, c, d, r⟩ := t
  unfold kV1
  dsimp only
  rw [g]
  dsimp only
  rw [d]
  dsimp only
  generalize its.toList = l at r
  clear g d
  induction r with
  | nil => rfl
  | cons q t ih => rw [List.map_cons, ih, kOf_is q]
section
variable {X : Cx} {F : Addr → Prop} {c : List Addr} {H : Hp} {pins : List (Addr × Obj)} {σ : L2.St} {s : Shared}
theorem is_row (I : Inv X pins σ H s) {u : Value} {sh : List Bool} {d : D} (h : Is X.K X.mg F c H u d) (e : isRow sh d = true) : TupK s.heap u (kD d) ∧ shp (kD d) = sh := by
  obtain ⟨v, r, h⟩ := h
  unfold isRow at e
  split at e
  · rename_i ds
    rw [Bool.and_eq_true, beq_iff_eq] at e
    cases h with
    | tup hq hr =>
      obtain ⟨its, rv, it, hz⟩ := I.tuple hq.sq
      cases r
      obtain ⟨o, g, cc, n, d⟩ := it
      refine ⟨⟨_, o, _, n, rfl, g, cc, d, ?_⟩, e.2⟩
      show Paired TupK.keyIs' (kDs ds) its
      have go : ∀ {xs : List V} {us : List Value} {ds : List D}, Vals xs us → Rps X.K X.mg F c H xs ds → isKs ds = true → Paired TupK.keyIs' (kDs ds) us := by
        intro xs us ds rv hr
        induction rv generalizing ds with
        | nil => intro _; cases hr; exact .nil
        | cons q t ih =>
          intro e
          cases hr with
          | cons h1 h2 =>
            cases h1 with
            | int i =>
              obtain ⟨tk, rfl⟩ := q
              exact .cons (keyIs_int i tk) (ih h2 (by simpa [isKs] using e))
            | str i =>
              obtain ⟨tk, rfl⟩ := q
              exact .cons (keyIs_str i tk) (ih h2 (by simpa [isKs] using e))
            | _ => simp [isKs] at e
      exact go rv hr e.1
  · cases e
/-- sorted(xs) -/
def rSorted (K : PySem.W.Frag) (mg : Str → Option Value) : List V → Hp → VK → Prop := fun vs H Q => ∃ a xs F c ds es, vs = [V.ref a] ∧ (SqL K H a xs ∨ SqT K H a xs) ∧ Rps K mg F c H xs ds ∧ sortL ds = some es ∧
  ∀ p ys, H p = none → Rps K mg F c H ys es → Q (.ref p) (upd H p (.lst ys))
theorem srt_out (I : Inv X pins σ H s) {us out' : List Value} {ds : List D} {p : D → Prop} {ltv : Value → Value → Bool} {kf : Value → List Key} (hl : ∀ u ∈ us, ∀ v ∈ us, ltv u v = lexK (kf u) (kf v)) (hk : ∀ u ∈ us, ∀ d ∈ ds, Is X.K X.mg F c H u d → kf u = kD d) (hi : ∀ x y, p x → p y → kD x = kD y → x = y) (hp : ∀ x ∈ ds, p x)
    (h1 : SrtO.Srtd ltv out') (h2 : out'.Perm us) (h3 : Paired (Is X.K X.mg F c H) us ds) : Paired (Is X.K X.mg F c H) out' (srtB kD ds) := by
  obtain ⟨es, q1, q2⟩ := paired_perm h2 h3
  have e := paired_map (f := kf) (g := kD) q2 fun a ha b hb r => hk a (h2.mem_iff.mp ha) b (q1.mem_iff.mp hb) r
  have hs : SrtO.Srtd (fun a b => lexK (kD a) (kD b)) es := by
    have z : (out'.map kf).Pairwise fun x y => lexK y x = false := by
      rw [List.pairwise_map]
      exact h1.imp_of_mem fun {a b} ha hb q => by
        rw [← hl b (h2.mem_iff.mp hb) a (h2.mem_iff.mp ha)]; exact q
    rw [e, List.pairwise_map] at z
    exact z
  rw [← srtB_uniq hi hp hs q1]
  exact q2
theorem cr_sorted : CallR X (.builtin "sorted") (rSorted X.K X.mg) := by
  intro pins s σ H vs us Q I r h
  obtain ⟨a, xs, F, c, ds, es, rfl, hq, rps, hes, q⟩ := h
  rw [Vals.ref1 r]
  obtain ⟨its, rv, T, o, hT, ho, hc, n, hd, hz⟩ : ∃ its, Vals xs its ∧ ∃ (T : String) (o : Obj), (T = "list" ∨ T = "tuple") ∧ s.heap.get? a = some o ∧ o.cls = .type T ∧ ∃ n, o.data = .seq its.toArray n ∧ xs.length ≤ sizeLine := by
    rcases hq with hq | hq
    · obtain ⟨its, rv, hl, hz⟩ := I.list hq
      obtain ⟨o, g, cc, n, d⟩ := hl.isList
      exact ⟨its, rv, _, o, .inl rfl, g, cc, n, d, hz⟩
    · obtain ⟨its, rv, ⟨o, g, cc, n, d⟩, hz⟩ := I.tuple hq
      exact ⟨its, rv, _, o, .inr rfl, g, cc, n, d, hz⟩
  have hzi : its.length ≤ sizeLine := by rw [← rv.length]; exact hz
  have pr := is_of rv rps
  have fin : ∀ (ltv : Value → Value → Bool) (kf : Value → List Key) (p : D → Prop), SrtO.Swo ltv → (∀ u ∈ its, ∀ v ∈ its, ltv u v = lexK (kf u) (kf v)) → (∀ u ∈ its, ∀ d ∈ ds, Is X.K X.mg F c H u d → kf u = kD d) → (∀ x y, p x → p y → kD x = kD y → x = y) → (∀ x ∈ ds, p x) → es = srtB kD ds →
      (∀ (s1 : Shared) (a : Addr), 2 ≤ its.length → (∀ b o, s.heap.get? b = some o → s1.heap.get? b = some o) → s1.heap.get? a = some (seqObj "list" its.toArray 0) → SrtO.SortableO X.prog X.w X.A.in1.in1 s1 a its ltv) →
      wpAny (model X.prog X.w) X.A (call (.builtin "sorted") [.ref a]) (EP X pins σ Q) X.xe s := by
    intro ltv kf p O hl hk hi hp ees hS
    refine sorted_any (Pp := fun out => out = its) O (fun Z hZ => ?_) (fun out e => by rw [e]; exact hzi) (fun out s1 a e h2 k g => by subst e; exact hS s1 a h2 k g) fun s' pa out out' cc k g e2 hp' hg eo a1 a2 => ?_
    · exact wpAny_collect_seq a hT ho hc hd (fun h' hk' => hZ _ _ hk' rfl rfl rfl) (by simpa using hzi)
    · subst eo
      have pz := srt_out (F := F) (c := c) I hl hk hi hp a1 a2.perm pr
      obtain ⟨ys, y1, y2⟩ := of_is pz
      have hlen : ys.length ≤ sizeLine := by rw [y1.length, a2.perm.length_eq]; exact hzi
      have hn : H pa = none := ok_none I.hok hp'
      have J : Inv X pins σ (upd H pa (.lst ys)) s' := I.call' (ch := []) e2 (un_laid k hp' hn) (ok_laid I.hok k hn ⟨hlen, _, cc, y1, hg⟩) (by rw [g]; exact I.bare) (fun _ z => nomatch z)
      exact ⟨.ref pa, _, J, rfl, q pa ys hn (by rw [ees]; exact y2)⟩
  unfold sortL at hes
  split at hes
  · rename_i hh
    cases hes
    simp only [Bool.or_eq_true, Bool.and_eq_true, List.all_eq_true] at hh
    have isInt' : ∀ (u : Value) (d : D), Is X.K X.mg F c H u d → isInt d = true → ∃ i t, u = .int i t ∧ d = .int i := by
      rintro u d ⟨v, r, h⟩ e
      cases h with
      | int i => obtain ⟨t, rfl⟩ := r; exact ⟨i, t, rfl, rfl⟩
      | _ => cases e
    have isStr' : ∀ (u : Value) (d : D), Is X.K X.mg F c H u d → isStr d = true → ∃ i t, u = .str i t ∧ d = .str i := by
      rintro u d ⟨v, r, h⟩ e
      cases h with
      | str i => obtain ⟨t, rfl⟩ := r; exact ⟨i, t, rfl, rfl⟩
      | _ => cases e
    rcases hh with (hh | hh) | ⟨hh, hne⟩
    · have al : ∀ {us : List Value} {ds : List D}, Paired (Is X.K X.mg F c H) us ds → (∀ d ∈ ds, isInt d = true) → ∃ ns, IntsAre us ns := by
        intro us ds pr
        induction pr with
        | nil => intro _; exact ⟨[], .nil⟩
        | cons r t ih =>
          intro hh
          obtain ⟨i, tk, rfl, rfl⟩ := isInt' _ _ r (hh _ List.mem_cons_self)
          obtain ⟨ns, hn⟩ := ih fun d hd => hh d (List.mem_cons_of_mem _ hd)
          exact ⟨i :: ns, .cons i tk hn⟩
      refine fin (fun v u => lexK [kOf v] [kOf u]) (fun v => [kOf v]) (fun d => isInt d = true) (swo_lexK _) (fun _ _ _ _ => rfl) (fun u _ d hd h => ?_) (fun x y hx hy e => ?_) hh rfl fun s1 a h2 k g => sortable_sc (.inl (al pr hh)) h2
      · obtain ⟨i, tk, rfl, rfl⟩ := isInt' _ _ h (hh _ hd)
        rfl
      · cases x <;> simp [isInt] at hx
        cases y <;> simp [isInt] at hy
        simpa [kD] using e
    · have al : ∀ {us : List Value} {ds : List D}, Paired (Is X.K X.mg F c H) us ds → (∀ d ∈ ds, isStr d = true) → ∃ ns, StrsAre us ns := by
        intro us ds pr
        induction pr with
        | nil => intro _; exact ⟨[], .nil⟩
        | cons r t ih =>
          intro hh
          obtain ⟨i, tk, rfl, rfl⟩ := isStr' _ _ r (hh _ List.mem_cons_self)
          obtain ⟨ns, hn⟩ := ih fun d hd => hh d (List.mem_cons_of_mem _ hd)
          exact ⟨i :: ns, .cons i tk hn⟩
      refine fin (fun v u => lexK [kOf v] [kOf u]) (fun v => [kOf v]) (fun d => isStr d = true) (swo_lexK _) (fun _ _ _ _ => rfl) (fun u _ d hd h => ?_) (fun x y hx hy e => ?_) hh rfl fun s1 a h2 k g => sortable_sc (.inr (al pr hh)) h2
      · obtain ⟨i, tk, rfl, rfl⟩ := isStr' _ _ h (hh _ hd)
        rfl
      · cases x <;> simp [isStr] at hx
        cases y <;> simp [isStr] at hy
        simpa [kD] using e
    · generalize ((ds.head?.map fun d => shp (kD d)).getD []) = sh at hh hne
      have mem : ∀ {us : List Value} {ds : List D}, Paired (Is X.K X.mg F c H) us ds → ∀ u ∈ us, ∃ d ∈ ds, Is X.K X.mg F c H u d := by
        intro us ds pr
        induction pr with
        | nil => intro u hu; cases hu
        | cons r t ih =>
          intro u hu
          rcases List.mem_cons.mp hu with e | e
          · subst e; exact ⟨_, List.mem_cons_self, r⟩
          · obtain ⟨d, hd, r⟩ := ih u e
            exact ⟨d, List.mem_cons_of_mem _ hd, r⟩
      have row : ∀ u ∈ its, TupK s.heap u (kV1 s.heap u) ∧ shp (kV1 s.heap u) = sh := fun u hu => by
        obtain ⟨d, hd, r⟩ := mem pr u hu
        obtain ⟨t1, t2⟩ := is_row I r (hh d hd)
        rw [tupK_keys t1]
        exact ⟨t1, t2⟩
      refine fin (fun v u => lexK (kV1 s.heap v) (kV1 s.heap u)) (kV1 s.heap) (fun d => isRow sh d = true) (swo_lexK _) (fun _ _ _ _ => rfl) (fun u _ d hd h => tupK_keys (is_row I h (hh d hd)).1) (fun x y hx hy e => ?_) hh rfl fun s1 a h2 k g => ?_
      · unfold isRow at hx hy
        split at hx
        · split at hy
          · rw [Bool.and_eq_true] at hx hy
            rw [kDs_inj hx.1 hy.1 e]
          · cases hy
        · cases hx
      · refine sortable_tup h2 (by simpa using hne) (fun v hv => (row v hv).1.keeps fun b o _ _ e => k b o e) (fun v hv => (row v hv).2) fun o e z => ?_
        rw [g] at e
        cases e
        exact absurd (Value.type.inj z) (by decide)
  · cases hes
end
end VE

/-! set(list): a set is made and filled -/
namespace VE
open PySem PySem.Spec PyProof.Rows L2
variable [VEnv]
theorem paired_at {α β : Type} {R : α → β → Prop} : ∀ {l : List α} {m : List β}, Paired R l m → ∀ (i : Nat) (b : β), m[i]? = some b → ∃ a, l[i]? = some a ∧ R a b
  | _, _, .nil, i, b, h => by simp at h
  | _, _, .cons r t, 0, b, h => by simp at h; subst h; exact ⟨_, rfl, r⟩
  | _, _, .cons r t, i + 1, b, h => by
    obtain ⟨a, h1, h2⟩ := paired_at t i b (by simpa using h)
    exact ⟨a, by simpa using h1, h2⟩
/-! ### set(list) -/
def KSetO (w : World) (a : Addr) (S : Key → Bool) (n : Nat) : HO := .ext fun h => KSet w h a S n
section
variable {P : Program} {w : World} {A : Around} {E : Value → Shared → Prop} {s : Shared}
theorem code_set1 {arg : Value} {Z : Value → Shared → Prop}
    (h : Z (.ref s.heap.objs.size) { s with heap := s.heap.push { cls := .type "set", dict := none, data := .set #[] 0 (.fresh 0 0 (!w.params.followText "set-order")) } }) :
    codeAny (model P w) A (.call (.builtin "set.__new__") ⟨[.type "set", arg], []⟩) (wants Z E) s := by
  refine codeAny_of_tree ?_
  show wpAny _ A.in1 (do checkBuiltinCall "set.__new__" ⟨[.type "set", arg], []⟩; again (.builtin "set.__new__" ⟨[.type "set", arg], []⟩)) _ _ s
  refine wpAny_bind (wpAny_of_eq (F.newCall_set_1 _) (wpAny_pure ⟨plainId_quiet F.plain_set_new _, codeAny_builtin F.entry_set_new ?_⟩))
  rw [Around.under_plainId F.plain_set_new _]
  unfold Builtin.«set.__new__» Builtin.Frozenset.newClass
  have sb := sub_set_self
  obtain ⟨hp, g, d, tk, os⟩ := s
  dsimp only
  wp_walk
  refine wpAny_askSetting (wpAny_pure ?_)
  dsimp only
  simp only [newObj]
  refine wpAny_bind (wpAny_alloc (wpAny_pure ?_))
  exact wpAny_pure h
theorem kset_list {l : Addr} {its : Array Value} {ks : List Key} {Q : Value → Shared → Prop} (hh : A.handled = none) (hl : s.heap.IsList l its) (hk : Paired TupK.keyIs' ks its.toList) (hb : ks.length + 1 < scanBound)
    (fin : ∀ (h' : Heap) (tk m : Nat), m ≤ ks.length → KSet w h' s.heap.objs.size (fun j => ks.any fun z => decide (z = j)) m → (∀ b o, b < s.heap.objs.size → s.heap.get? b = some o → h'.get? b = some o) → Q (.ref s.heap.objs.size) { s with heap := h', toks := tk }) :
    wpAny (model P w) A (call (.type "set") [.ref l]) Q E s := by
  obtain ⟨c, tl, mro⟩ := PySem.F.called_set.mro
  have made := PySem.F.called_set.made
  have sub := PySem.F.called_set.sub
  refine wpAny_call (codeAny_of_tree ?_)
  show wpAny _ _ (callAny (.type "set") _) _ _ _
  refine wpAny_pure ⟨Code.quiet_builtin _ (by decide +kernel), codeAny_builtin PySem.F.entry_type_call ?_⟩
  rw [Around.under_plain (weight_type_call_type "set" [.ref l] []) rfl]
  have n1 := PySem.F.called_set.notType
  have n2 := PySem.F.called_set.canCreate
  have n3 := PySem.F.typeCall_set_1 (.ref l)
  repeat (any_goals (first | assumption | wp_step))
  refine codeAny_mono (code_set1 (E := E) (Z := fun obj s₁ => obj = .ref s.heap.objs.size ∧ s₁ = { s with heap := s.heap.push { cls := .type "set", dict := none, data := .set #[] 0 (.fresh 0 0 (!w.params.followText "set-order")) } }) ⟨rfl, rfl⟩) fun r s₁ hr => ?_
  cases r with
  | error e => exact hr
  | ok fl =>
    cases fl with
    | ret obj =>
      obtain ⟨rfl, rfl⟩ := hr
      have fr := kset_fresh (h := s.heap) w
      generalize hled : (!w.params.followText "set-order") = led at fr ⊢
      have gS : (s.heap.push { cls := .type "set", dict := none, data := .set #[] 0 (.fresh 0 0 led) }).get? s.heap.objs.size = some { cls := .type "set", dict := none, data := .set #[] 0 (.fresh 0 0 led) } := Heap.get?_push_size _ rfl
      have hT : Shared.TypeIs { s with heap := s.heap.push { cls := .type "set", dict := none, data := .set #[] 0 (.fresh 0 0 led) } } (.ref s.heap.objs.size) "set" := ⟨_, gS, rfl⟩
      have hli := PySem.F.called_set.init.lookup
      have hbi := PySem.F.called_set.init.bind (.ref s.heap.objs.size)
      repeat (any_goals (first | assumption | wp_step))
      refine codeAny_mono (codeAny_call_builtin (R := wants (fun r s₂ => r = .none ∧ ∃ h' tk m, s₂ = { s with heap := h', toks := tk } ∧ m ≤ ks.length ∧ KSet w h' s.heap.objs.size (fun j => ks.any fun z => decide (z = j)) m ∧
          (∀ b o, b < s.heap.objs.size → s.heap.get? b = some o → h'.get? b = some o)) E) PySem.F.called_set.init.plain PySem.F.entry_set_init (check_set_init_1 hT ?_)) fun r₂ s₂ hr₂ => ?_
      · obtain ⟨ol, gol, cl, nl, dl⟩ := hl
        obtain ⟨ocls, odict, odata, oslots⟩ := ol
        simp only at cl dl
        subst cl; subst dl
        have gol' : (s.heap.push { cls := .type "set", dict := none, data := .set #[] 0 (.fresh 0 0 led) }).get? l = some { cls := .type "list", dict := odict, data := .seq its nl, slots := oslots } := Heap.get?_push_of_some _ gol
        have f1 := PySem.F.sub_list_set
        have f2 := PySem.F.sub_list_frozenset
        have f3 : (Value.type "list" == Value.type "dict") = false := by decide
        have hl1 : (s.heap.push { cls := .type "set", dict := none, data := .set #[] 0 (.fresh 0 0 led) }).IsList l its := ⟨_, gol', rfl, nl, rfl⟩
        unfold Builtin.«set.__init__» noKeywords Builtin.Frozenset.updateFrom
        generalize hPI : pyIter = PI
        wp_walk
        subst hPI
        refine wpAny_pyIter_list hl1 ?_
        refine wpAny_bind (wpAny_runValue ?_)
        have ltl : l < s.heap.objs.size := Heap.lt_size gol
        have hh3 : A.in1.in1.in1.handled = none := by simp [hh]
        have ne1 : l ≠ (s.heap.push { cls := .type "set", dict := none, data := .set #[] 0 (.fresh 0 0 led) }).objs.size := by
          rw [Heap.size_push]; exact Nat.ne_of_lt (Nat.lt_succ_of_lt ltl)
        have nf : s.heap.objs.size ∉ [(s.heap.push { cls := .type "set", dict := none, data := .set #[] 0 (.fresh 0 0 led) }).objs.size, l] := by
          rw [Heap.size_push]; simp only [List.mem_cons, List.mem_singleton, List.not_mem_nil, or_false, not_or]
          exact ⟨Nat.ne_of_lt (Nat.lt_succ_self _), Nat.ne_of_gt ltl⟩
        have lk : ks.length = its.size := by rw [hk.length, Array.length_toList]
        have vl : ∀ (i : Nat) (v : Value), its[i]? = some v → ∃ k, ks[i]? = some k ∧ keyIs k v = true := fun i v hv => by
          rw [← Array.getElem?_toList] at hv
          exact paired_at hk i v hv
        refine kset_loop ((Walks.list hh3 _ l ne1 its).toS) s.heap.objs.size nf ks lk (by rw [← lk]; exact hb) vl (its.size - 0) 0 _ 0 (by omega) (Nat.zero_le _) (Nat.le_refl _)
          ⟨⟨_, Heap.get?_push_size _ rfl, rfl, rfl⟩, (hl1.push _)⟩ ?ha ?hr
        case ha =>
          refine (fr.at fun o e => Heap.get?_push_of_some _ e)
        case hr =>
          intro s' m' mv hm hS'
          obtain ⟨h', g', d', tk', os'⟩ := s'
          have eg : g' = s.gens := mv.gens
          have ed : d' = s.drawn := mv.drawn
          have eo : os' = s.os := mv.os
          subst eg; subst ed; subst eo
          show wpAny _ _ _ _ _ _
          refine wpAny_pure ?_
          show wpAny _ _ (PySem.ret Value.none) _ _ _
          refine wpAny_pure ⟨rfl, h', tk', m', rfl, by rw [lk]; exact hm, hS', fun b o hb e => ?_⟩
          have nb1 : b ≠ s.heap.objs.size := Nat.ne_of_lt hb
          have nb2 : b ≠ (s.heap.push { cls := .type "set", dict := none, data := .set #[] 0 (.fresh 0 0 led) }).objs.size := by
            rw [Heap.size_push]; exact Nat.ne_of_lt (Nat.lt_succ_of_lt hb)
          exact mv.heap b o (by simp only [List.mem_cons, List.mem_singleton, List.not_mem_nil, or_false, not_or]; exact ⟨nb1, nb2⟩) (Heap.get?_push_of_some _ (Heap.get?_push_of_some _ e))
      · cases r₂ with
        | error e => exact hr₂
        | ok fl₂ =>
          cases fl₂ with
          | ret r =>
            obtain ⟨rfl, h', tk, m, rfl, hm, hS', hk'⟩ := hr₂
            repeat (any_goals (first | assumption | wp_step))
            exact fin _ _ _ hm hS' hk'
          | _ => exact hr₂.elim
    | _ => exact hr.elim
end
end VE

/-! sorted(..), sorted(set(..)), len(set(..)) as expressions -/
namespace VE
open PySem PySem.Spec PyProof.Rows L2
variable [VEnv]
section
variable {X : Cx} {W : WX} {e a : Expr} {pos p p2 q : Pos} {fa : M D}
theorem ok_sorted : CallOkF X W (rSorted X.K X.mg) (b1 sortedD) := callOkF_1 fun F c H x dx d Q hx e q => by
  unfold sortedD at e
  split at e
  · obtain ⟨es, h1, rfl⟩ := Option.map_eq_some_iff.mp e
    cases hx with
    | lst f h r => exact ⟨_, _, F, c, _, es, rfl, .inl (SqL.of h), r, h1, fun p ys hp ry => q p _ hp fun F' s => ⟨_, upd_same, ry.stp s⟩⟩
  · obtain ⟨es, h1, rfl⟩ := Option.map_eq_some_iff.mp e
    cases hx with
    | tup h r => exact ⟨_, _, F, c, _, es, rfl, .inr h.sq, r, h1, fun p ys hp ry => q p _ hp fun F' s => ⟨_, upd_same, ry.stp s⟩⟩
  · cases e
theorem vf_sorted (hm : X.mg "sorted" = none) (ha : VE X W e fa) (hgl : Gl X "sorted" := by rfl) (hs : starEach [e] X.env = (false, eval e X.env) :: starEach [] X.env := by rfl) : VF X W (.Call (.Name "sorted" p) [e] [] pos) (eBlt (b1 sortedD) (eCons fa eNil)) := vf_blt cr_sorted ok_sorted hm PyProof.Rows.boot_sorted (va_cons ha va_nil hs) hgl (by decide) (by decide) hs
end
/-! ### keys, none twice, in order -/
def insU (x : Key) : List Key → List Key
  | [] => [x]
  | y :: ys => if x = y then y :: ys else if ltK x y then x :: y :: ys else y :: insU x ys
def uK : List Key → List Key
  | [] => []
  | x :: xs => insU x (uK xs)
theorem insU_mem {x k : Key} : ∀ {ys : List Key}, k ∈ insU x ys ↔ k = x ∨ k ∈ ys
  | [] => by simp [insU]
  | y :: ys => by
    unfold insU
    split
    · rename_i e; subst e; simp
    · split
      · simp
      · simp only [List.mem_cons, insU_mem]
        constructor
        · rintro (h | h | h)
          · exact .inr (.inl h)
          · exact .inl h
          · exact .inr (.inr h)
        · rintro (h | h | h)
          · exact .inr (.inl h)
          · exact .inl h
          · exact .inr (.inr h)
theorem uK_mem {k : Key} : ∀ {xs : List Key}, k ∈ uK xs ↔ k ∈ xs
  | [] => by simp [uK]
  | x :: xs => by rw [uK, insU_mem, uK_mem, List.mem_cons]
@[reducible] def SrtK (l : List Key) : Prop := l.Pairwise fun x y => ltK x y = true
theorem insU_srt {x : Key} : ∀ {ys : List Key}, SrtK ys → SrtK (insU x ys)
  | [], _ => List.pairwise_singleton _ _
  | y :: ys, h => by
    have ⟨h1, h2⟩ := List.pairwise_cons.mp h
    unfold insU
    split
    · exact h
    · rename_i ne
      split
      · rename_i q
        refine List.pairwise_cons.mpr ⟨fun z hz => ?_, h⟩
        rcases List.mem_cons.mp hz with e | e
        · subst e; exact q
        · exact ltK_trans q (h1 z e)
      · rename_i q
        have q' : ltK y x = true := by
          cases e : ltK y x with
          | true => rfl
          | false => exact absurd (ltK_tot (by simpa using q) e) ne
        refine List.pairwise_cons.mpr ⟨fun z hz => ?_, insU_srt h2⟩
        rcases insU_mem.mp hz with e | e
        · subst e; exact q'
        · exact h1 z e
theorem uK_srt : ∀ {xs : List Key}, SrtK (uK xs)
  | [] => List.Pairwise.nil
  | x :: xs => insU_srt uK_srt
theorem srtK_uniq : ∀ {xs ys : List Key}, SrtK xs → SrtK ys → (∀ k, k ∈ xs ↔ k ∈ ys) → xs = ys
  | [], [], _, _, _ => rfl
  | [], y :: ys, _, _, h => by have := (h y).mpr List.mem_cons_self; cases this
  | x :: xs, [], _, _, h => by have := (h x).mp List.mem_cons_self; cases this
  | x :: xs, y :: ys, hx, hy, h => by
    have ⟨x1, x2⟩ := List.pairwise_cons.mp hx
    have ⟨y1, y2⟩ := List.pairwise_cons.mp hy
    have nx : x ∉ xs := fun z => by have := x1 x z; rw [ltK_irr] at this; cases this
    have ny : y ∉ ys := fun z => by have := y1 y z; rw [ltK_irr] at this; cases this
    have e : x = y := by
      rcases List.mem_cons.mp ((h x).mp List.mem_cons_self) with e | e
      · exact e
      · rcases List.mem_cons.mp ((h y).mpr List.mem_cons_self) with e' | e'
        · exact e'.symm
        · have a := ltK_asym (y1 x e)
          rw [x1 y e'] at a; cases a
    subst e
    rw [srtK_uniq x2 y2 fun k => ?_]
    have hk := h k
    simp only [List.mem_cons] at hk
    constructor
    · intro z
      rcases hk.mp (.inr z) with e | e
      · subst e; exact absurd z nx
      · exact e
    · intro z
      rcases hk.mpr (.inr z) with e | e
      · subst e; exact absurd z ny
      · exact e
/-! ### the rules -/
section
variable {X : Cx}
theorem ksetO_ok {P : Program} {w : World} {H : Hp} {h : Heap} {a : Addr} {S : Key → Bool} {n : Nat} (R : KSet w h a S n) : ObjOk P w H h a (KSetO w a S n) := by
  have ⟨ob, _, _, _, g, _⟩ := R
  exact ⟨R, ⟨ob, g⟩, fun h1 h2 p k => KSet.at p k⟩
theorem vals_keys : ∀ {ks : List Key} {us : List Value}, Vals (ks.map kV) us → Paired TupK.keyIs' ks us
  | [], us, r => by rw [List.map_nil] at r; cases r; exact .nil
  | .inl i :: ks, us, r => by
    rw [List.map_cons] at r
    cases r with
    | cons h q => obtain ⟨t, rfl⟩ := h; exact .cons (keyIs_int i t) (vals_keys q)
  | .inr i :: ks, us, r => by
    rw [List.map_cons] at r
    cases r with
    | cons h q => obtain ⟨t, rfl⟩ := h; exact .cons (keyIs_str i t) (vals_keys q)
theorem keys_vals : ∀ {ks : List Key} {us : List Value}, Paired TupK.keyIs' ks us → Vals (ks.map kV) us
  | _, _, .nil => .nil
  | k :: ks, _, .cons h q => by
    refine .cons ?_ (keys_vals q)
    rcases keyIs_shape h with ⟨i, t, rfl, rfl⟩ | ⟨i, t, rfl, rfl⟩
    · exact ⟨t, rfl⟩
    · exact ⟨t, rfl⟩
def rSetOf (K : PySem.W.Frag) (w : World) : List V → Hp → VK → Prop := fun vs H Q => ∃ (a : Addr) (ks : List Key), vs = [V.ref a] ∧ SqL K H a (ks.map kV) ∧ ks.length + 1 < scanBound ∧
  ∀ p m, H p = none → m ≤ ks.length → Q (.ref p) (upd H p (KSetO w p (fun j => ks.any fun z => decide (z = j)) m))
theorem cr_setOf (hc : X.calm = true) : CallR X (.type "set") (rSetOf X.K X.w) := by
  intro pins s σ H vs us Q I r h
  obtain ⟨a, ks, rfl, hs, hb, q⟩ := h
  rw [Vals.ref1 r]
  obtain ⟨its, rv, hl, hz⟩ := I.list hs
  refine kset_list (I.ok.hd hc) hl.isList (by simpa using vals_keys rv) hb fun h' tk m hm R hk => ?_
  have hn : H s.heap.objs.size = none := I.hok.fresh (Nat.le_refl _)
  exact ⟨.ref _, _, I.laid (t' := tk) (fun b o e => hk b o (Heap.lt_size e) e) (Nat.le_refl _) (ksetO_ok R), rfl, q _ m hn hm⟩
def rSortedK (w : World) : List V → Hp → VK → Prop := fun vs H Q => ∃ (a : Addr) (ks : List Key) (m : Nat), vs = [V.ref a] ∧ H a = some (KSetO w a (fun j => ks.any fun z => decide (z = j)) m) ∧ ((∀ k ∈ ks, ∃ i, k = .inl i) ∨ ∀ k ∈ ks, ∃ x, k = .inr x) ∧
  ∀ p, H p = none → Q (.ref p) (upd H p (.lst ((uK ks).map kV)))
theorem allSc_of : ∀ {us : List Value} {ks : List Key}, Paired TupK.keyIs' ks us → ((∀ k ∈ ks, ∃ i, k = .inl i) → ∃ ns, IntsAre us ns) ∧ ((∀ k ∈ ks, ∃ i, k = .inr i) → ∃ ns, StrsAre us ns)
  | _, _, .nil => ⟨fun _ => ⟨[], .nil⟩, fun _ => ⟨[], .nil⟩⟩
  | _, _, .cons h t => by
    obtain ⟨q1, q2⟩ := allSc_of t
    refine ⟨fun z => ?_, fun z => ?_⟩
    · obtain ⟨i, rfl⟩ := z _ List.mem_cons_self
      obtain ⟨ns, hn⟩ := q1 fun k hk => z k (List.mem_cons_of_mem _ hk)
      obtain ⟨_, tk, e, rfl⟩ | ⟨_, _, e, _⟩ := keyIs_shape h
      · exact ⟨_, .cons _ tk hn⟩
      · cases e
    · obtain ⟨i, rfl⟩ := z _ List.mem_cons_self
      obtain ⟨ns, hn⟩ := q2 fun k hk => z k (List.mem_cons_of_mem _ hk)
      obtain ⟨_, _, e, _⟩ | ⟨_, tk, e, rfl⟩ := keyIs_shape h
      · cases e
      · exact ⟨_, .cons _ tk hn⟩
theorem paired_self {R : Key → Value → Prop} : ∀ (us : List Value), (∀ u ∈ us, R (kOf u) u) → Paired R (us.map kOf) us
  | [], _ => .nil
  | u :: us, h => .cons (h u List.mem_cons_self) (paired_self us fun v hv => h v (List.mem_cons_of_mem _ hv))
theorem cr_sortedK (hc : X.calm = true) : CallR X (.builtin "sorted") (rSortedK X.w) := by
  intro pins s σ H vs us Q I r h
  obtain ⟨a, ks, m, rfl, ha, hk, q⟩ := h
  rw [Vals.ref1 r]
  obtain ⟨ob, es, ep, tb, go, gx, gd, gm, nd, mm, bd, ft, sz, rs, ld⟩ : KSet X.w s.heap a _ m := (I.hok a _ ha).1
  have mm' : ∀ k, k ∈ ks ↔ k ∈ es.toList.map fun e => kOf e.2 := fun k => by
    rw [← mm k]; simp
  have kin : ∀ {out : List Value}, out.Perm (es.toList.map (·.2)) → Paired TupK.keyIs' (out.map kOf) out ∧ ∀ k ∈ out.map kOf, k ∈ ks := fun {out} p => by
    refine ⟨paired_self out fun u hu => ?_, fun k hk' => ?_⟩
    · obtain ⟨e, he, z⟩ := List.mem_map.mp (p.mem_iff.mp hu)
      obtain ⟨k, z1, _⟩ := gm e he
      rw [← z]
      show keyIs (kOf e.2) e.2 = true
      rw [kOf_is z1]; exact z1
    · obtain ⟨u, hu, rfl⟩ := List.mem_map.mp hk'
      obtain ⟨e, he, z⟩ := List.mem_map.mp (p.mem_iff.mp hu)
      exact (mm' _).mpr (List.mem_map.mpr ⟨e, he, by rw [← z]⟩)
  refine sorted_any (Pp := fun out => out.Perm (es.toList.map (·.2))) (ltv := fun v u => lexK [kOf v] [kOf u]) (swo_lexK fun v => [kOf v]) (fun Z hZ => ?_) (fun out p => ?_) (fun out s1 a p h2 k g => ?_) fun s' pa out out' cc k g e2 hp' hg p a1 a2 => ?_
  · exact collect_set (I.ok.hd hc) ⟨ob, go, gx.1, gd⟩ ft bd rs ld fun s' out k _ g o p => hZ s' out k g o p
  · rw [p.length_eq, List.length_map, Array.length_toList]
    exact fits_of_scanBound bd
  · obtain ⟨k1, k2⟩ := kin p
    obtain ⟨q1, q2⟩ := allSc_of k1
    refine sortable_sc ?_ h2
    rcases hk with hk | hk
    · exact .inl (q1 fun k hk' => hk k (k2 k hk'))
    · exact .inr (q2 fun k hk' => hk k (k2 k hk'))
  · have p' : out'.Perm (es.toList.map (·.2)) := a2.perm.trans p
    obtain ⟨k1, k2⟩ := kin p'
    have pk : (out'.map kOf).Perm (es.toList.map fun e => kOf e.2) := by
      have z := p'.map kOf
      rw [List.map_map] at z
      exact z
    have hsrt : SrtK (out'.map kOf) := by
      have nd' : (out'.map kOf).Nodup := pk.nodup_iff.mpr nd
      have le : (out'.map kOf).Pairwise fun x y => ltK y x = false := by
        rw [List.pairwise_map]
        exact a1.imp fun {x y} z => by have z2 : lexK [kOf y] [kOf x] = false := z; rw [lex1'] at z2; exact z2
      refine (List.pairwise_and_iff.mpr ⟨le, nd'⟩).imp fun {x y} z => ?_
      cases e : ltK x y with
      | true => rfl
      | false => exact absurd (ltK_tot e z.1) z.2
    have eu : out'.map kOf = uK ks := srtK_uniq hsrt uK_srt fun k => by rw [uK_mem, mm' k, pk.mem_iff]
    rw [eu] at k1
    have y1 := keys_vals k1
    have hlen : ((uK ks).map kV).length ≤ sizeLine := by
      rw [y1.length, p'.length_eq, List.length_map, Array.length_toList]
      exact fits_of_scanBound bd
    have hn : H pa = none := ok_none I.hok hp'
    have J : Inv X pins σ (upd H pa (.lst ((uK ks).map kV))) s' := I.call' (ch := []) e2 (un_laid k hp' hn) (ok_laid I.hok k hn ⟨hlen, _, cc, y1, hg⟩) (by rw [g]; exact I.bare) (fun _ z => nomatch z)
    exact ⟨.ref pa, _, J, rfl, q pa hn⟩
def rLenK (w : World) : List V → Hp → VK → Prop := fun vs H Q => ∃ (a : Addr) (ks : List Key) (m : Nat), vs = [V.ref a] ∧ H a = some (KSetO w a (fun j => ks.any fun z => decide (z = j)) m) ∧ Q (.int (uK ks).length) H
theorem cr_lenK : CallR X (.builtin "len") (rLenK X.w) := by
  intro pins s σ H vs us Q I r h
  obtain ⟨a, ks, m, rfl, ha, q⟩ := h
  rw [Vals.ref1 r]
  obtain ⟨ob, es, ep, tb, go, gx, gd, gm, nd, mm, bd, ft, sz, rs, ld⟩ : KSet X.w s.heap a _ m := (I.hok a _ ha).1
  have e : es.size = (uK ks).length := by
    have nu : (uK ks).Nodup := (uK_srt (xs := ks)).imp fun {x y} z e => by subst e; rw [ltK_irr] at z; cases z
    have p : (es.toList.map fun e => kOf e.2).Perm (uK ks) := by
      rw [List.perm_ext_iff_of_nodup nd nu]
      intro k
      rw [uK_mem, ← mm k]; simp
    have := p.length_eq
    rwa [List.length_map, Array.length_toList] at this
  refine call_len_set go gx gd ft (by unfold scanBound at bd; omega) ⟨.int (uK ks).length, H, I.tok _, ⟨_, by rw [e]⟩, q⟩
end
def key1 : D → Key
  | .int i => .inl i
  | .str x => .inr x
  | _ => .inl 0
def keyD : Key → D
  | .inl i => .int i
  | .inr x => .str x
def ssetD : D → Option D
  | .lst ds => if (ds.all isInt || ds.all isStr) && decide (ds.length < 4000) then some (.lst ((uK (ds.map key1)).map keyD)) else none
  | _ => none
def lsetD : D → Option D
  | .lst ds => if (ds.all isInt || ds.all isStr) && decide (ds.length < 4000) then some (.int (uK (ds.map key1)).length) else none
  | _ => none
section
variable {K : PySem.W.Frag} {mg : Str → Option Value} {F : Addr → Prop} {c : List Addr} {H : Hp}
theorem rps_keys : ∀ {vs : List V} {ds : List D}, Rps K mg F c H vs ds → (∀ d ∈ ds, isInt d = true ∨ isStr d = true) → vs = (ds.map key1).map kV
  | _, _, .nil, _ => rfl
  | _, _, .cons h t, hd => by
    rw [List.map_cons, List.map_cons, ← rps_keys t fun d hd' => hd d (List.mem_cons_of_mem _ hd')]
    have := hd _ List.mem_cons_self
    cases h <;> simp [isInt, isStr] at this <;> rfl
theorem keys_rps : ∀ (ks : List Key), Rps K mg F c H (ks.map kV) (ks.map keyD)
  | [] => .nil
  | .inl i :: ks => .cons (.int i) (keys_rps ks)
  | .inr i :: ks => .cons (.str i) (keys_rps ks)
end
section
variable {X : Cx} {W : WX} {e a : Expr} {pos p p2 q : Pos} {fa : M D}
theorem set_is {K : PySem.W.Frag} {mg : Str → Option Value} {F : Addr → Prop} {c : List Addr} {H : Hp} {ds : List D} {v : V} (h : Rp K mg F c H v (.lst ds)) (hk : ((ds.all isInt || ds.all isStr) && decide (ds.length < 4000)) = true) :
    ∃ a, v = .ref a ∧ SqL K H a ((ds.map key1).map kV) ∧ (ds.map key1).length + 1 < scanBound ∧ ((∀ k ∈ ds.map key1, ∃ i, k = .inl i) ∨ ∀ k ∈ ds.map key1, ∃ x, k = .inr x) := by
  simp only [Bool.and_eq_true, Bool.or_eq_true, List.all_eq_true, decide_eq_true_eq] at hk
  cases h with
  | lst f h r =>
    have e := rps_keys r fun d hd => hk.1.imp (fun z => z d hd) fun z => z d hd
    rw [e] at h
    refine ⟨_, rfl, SqL.of h, by rw [List.length_map]; unfold scanBound; omega, ?_⟩
    refine hk.1.imp (fun z k hk' => ?_) fun z k hk' => ?_
    · obtain ⟨d, hd, rfl⟩ := List.mem_map.mp hk'
      have := z d hd
      cases d <;> simp [isInt] at this
      exact ⟨_, rfl⟩
    · obtain ⟨d, hd, rfl⟩ := List.mem_map.mp hk'
      have := z d hd
      cases d <;> simp [isStr] at this
      exact ⟨_, rfl⟩
theorem vf_sset (hc : X.calm = true) (hm : X.mg "sorted" = none) (hm2 : X.mg "set" = none) (ha : VE X W e fa) (hgl : Gl X "sorted" := by rfl) (hgl2 : Gl X "set" := by rfl)
    (hs : starEach [e] X.env = (false, eval e X.env) :: starEach [] X.env := by rfl) (hs2 : starEach [.Call (.Name "set" p2) [e] [] q] X.env = (false, eval (.Call (.Name "set" p2) [e] [] q) X.env) :: starEach [] X.env := by rfl) :
    VF X W (.Call (.Name "sorted" p) [.Call (.Name "set" p2) [e] [] q] [] pos) (eBlt (b1 ssetD) (eCons fa eNil)) :=
  PEof (pe_callB (cr_sortedK hc) hgl hm PyProof.Rows.boot_sorted (pa_cons (pe_callTy (cr_setOf hc) hgl2 hm2 PyProof.Rows.boot_set (pa_cons ha pa_nil hs) (by decide) (by decide) hs) pa_nil hs2) (by decide) (by decide) hs2) fun σ H Q ⟨b, F, c, env, st, e1, e2, r, pp⟩ =>
  tE_at e1 e2 r (k := fun d env st => ret (ssetD d) env st) (by
    show Post b W F c σ H _ _
    have : ((fa env st).bind fun d env st => ret (ssetD d) env st) = eBlt (b1 ssetD) (eCons fa eNil) env st := by
      unfold eBlt eCons eNil b1
      cases fa env st <;> rfl
    rw [this]; exact pp) fun v d env1 st1 F1 c1 H1 s1 r1 rp1 p1 => by
    unfold ret ssetD at p1
    split at p1
    · rename_i d' ed
      split at ed
      · split at ed
        · rename_i ds hk
          cases ed
          obtain ⟨a, rfl, h1, h2, h3⟩ := set_is rp1 hk
          refine ⟨a, _, rfl, by rw [← e1]; exact h1, h2, fun pq m hpq hm => ?_⟩
          refine ⟨pq, _, m, rfl, upd_same, h3, fun pr hpr => ?_⟩
          obtain ⟨s2, r2⟩ := r1.newO hpq (KSetO X.w pq (fun j => (ds.map key1).any fun z => decide (z = j)) m)
          exact fresh_of r2 (Post.stp s2 p1) pr _ hpr fun F' s => ⟨_, upd_same, keys_rps _⟩
        · cases ed
      · cases ed
    · exact p1.elim
theorem ve_lset (hc : X.calm = true) (hm : X.mg "len" = none) (hm2 : X.mg "set" = none) (ha : VE X W e fa) (hgl : Gl X "len" := by rfl) (hgl2 : Gl X "set" := by rfl)
    (hs : starEach [e] X.env = (false, eval e X.env) :: starEach [] X.env := by rfl) (hs2 : starEach [.Call (.Name "set" p2) [e] [] q] X.env = (false, eval (.Call (.Name "set" p2) [e] [] q) X.env) :: starEach [] X.env := by rfl) :
    VE X W (.Call (.Name "len" p) [.Call (.Name "set" p2) [e] [] q] [] pos) (eBlt (b1 lsetD) (eCons fa eNil)) :=
  PEof (pe_callB cr_lenK hgl hm PySem.boot_len (pa_cons (pe_callTy (cr_setOf hc) hgl2 hm2 PyProof.Rows.boot_set (pa_cons ha pa_nil hs) (by decide) (by decide) hs) pa_nil hs2) (by decide) (by decide) hs2) fun σ H Q ⟨b, F, c, env, st, e1, e2, r, pp⟩ =>
  tE_at e1 e2 r (k := fun d env st => ret (lsetD d) env st) (by
    show Post b W F c σ H _ _
    have : ((fa env st).bind fun d env st => ret (lsetD d) env st) = eBlt (b1 lsetD) (eCons fa eNil) env st := by
      unfold eBlt eCons eNil b1
      cases fa env st <;> rfl
    rw [this]; exact pp) fun v d env1 st1 F1 c1 H1 s1 r1 rp1 p1 => by
    unfold ret lsetD at p1
    split at p1
    · rename_i d' ed
      split at ed
      · split at ed
        · rename_i ds hk
          cases ed
          obtain ⟨a, rfl, h1, h2, h3⟩ := set_is rp1 hk
          refine ⟨a, _, rfl, by rw [← e1]; exact h1, h2, fun pq m hpq hm => ?_⟩
          obtain ⟨s2, r2⟩ := r1.newO hpq (KSetO X.w pq (fun j => (ds.map key1).any fun z => decide (z = j)) m)
          exact ⟨pq, _, m, rfl, upd_same, Post.here r2 (Post.stp s2 p1) _ (.int _)⟩
        · cases ed
      · cases ed
    · exact p1.elim
end
end VE

/-! operators that ask what stands there: ints, texts, tuples, lists, lists of the store -/
namespace VE
open PySem PySem.Spec PyProof.Rows L2
variable [VEnv]
/-- what is seen of a value: a list of the store as it stands now -/
def vw (st : Sto) : D → D
  | .ref n => match st[n]? with
    | some (.lst ds) => .lst ds
    | _ => .ref n
  | d => d
def LV (K : PySem.W.Frag) (mg : Str → Option Value) (F : Addr → Prop) (c : List Addr) (H : Hp) (v : V) : D → Prop
  | .lst ds => ∃ a vs, v = .ref a ∧ H a = some (.lst vs) ∧ Rps K mg F c H vs ds
  | d => Rp K mg F c H v d
section
variable {K : PySem.W.Frag} {mg : Str → Option Value} {F : Addr → Prop} {c : List Addr} {H : Hp} {v : V} {d : D} {b : Bs} {env : EnvD} {st : Sto} {σ : L2.St}
theorem Rp.lv (h : Rp K mg F c H v d) : LV K mg F c H v d := by
  cases d with
  | lst ds => cases h with
    | lst f e r => exact ⟨_, _, rfl, e, r⟩
  | _ => exact h
theorem Rel.lv (r : Rel b F c env st σ H) (h : Rp b.K b.mg F c H v d) : LV b.K b.mg F c H v (vw st d) := by
  unfold vw
  split
  · rename_i n
    split
    · rename_i ds es
      obtain ⟨a, rfl, _, vs, e, q⟩ := r.cell h es
      exact ⟨a, vs, rfl, e, q⟩
    · exact h.lv
  · exact h.lv
theorem LV.dp (h : LV K mg F c H v d) (p : plain 20 d = true) : Dp K H v (toPy d) := by
  cases d with
  | lst ds =>
    obtain ⟨a, vs, rfl, e, q⟩ := h
    simp only [toPy]
    exact .lst (SqL.of e) (Rps.dp 19 q (by simpa [plain] using p))
  | _ => exact Rp.dp 20 h p
end
section
variable {X : Cx} {W : WX} {e a d : Expr} {es : List Expr} {pos p : Pos} {fa fb fc : M D} {fs : M (List D)} {x : Str} {k : Nat}
def sv2 (g : D → D → Option D) : D → D → M D := fun x y env st => ret (g (vw st x) (vw st y)) env st
theorem opOk_sv {r : R2} {g : D → D → Option D} (h : ∀ (F : Addr → Prop) (c : List Addr) (H : Hp) (x y : V) (dx dy d : D) (Q : VK), LV X.K X.mg F c H x dx → LV X.K X.mg F c H y dy → g dx dy = some d → (∀ v, Rp X.K X.mg F c H v d → Q v H) →
    (∀ p o, H p = none → (∀ ps, o ≠ .tbl ps) → (∀ F' : Addr → Prop, Stp F c H F' c (upd H p o) → Rp X.K X.mg (FAdd F' p) c (upd H p o) (.ref p) d) → Q (.ref p) (upd H p o)) → r x y H Q) : OpOk X W r (sv2 g) := by
  intro b F c env st σ H x y dx dy Q e1 e2 r0 hx hy p
  unfold sv2 ret at p
  split at p
  · rename_i d e
    have h1 := r0.lv hx
    have h2 := r0.lv hy
    rw [e1, e2] at h1 h2
    refine h F c H x y _ _ d Q h1 h2 e (fun v hv => Post.here r0 p v (by rw [e1, e2]; exact hv)) fun q o hq hot ho => ?_
    obtain ⟨s2, r2⟩ := r0.newO hq o
    obtain ⟨s3, r3⟩ := r2.frz (r0.nC hq) (r0.H0none hq) (fun i h => r0.nO hq i h) ⟨o, upd_same⟩ (fun ps z => hot ps (by rw [upd_same] at z; exact Option.some.inj z))
    exact p _ _ _ (s2.trans s3) r3 _ (by rw [e1, e2]; exact ho F s2)
  · exact p.elim
/-! + -/
def addA : D → D → Option D
  | .int i, .int j => some (.int (i + j))
  | .str i, .str j => if i.length + j.length ≤ sizeLine then some (.str (i ++ j)) else none
  | .tup xs, .tup ys => if xs.length + ys.length ≤ 16777216 then some (.tup (xs ++ ys)) else none
  | .lst xs, .lst ys => if xs.length + ys.length ≤ 16777216 then some (.lst (xs ++ ys)) else none
  | _, _ => none
@[reducible] def rAddA (K : PySem.W.Frag) : R2 := fun x y H Q => ((∃ i j, x = .int i ∧ y = .int j ∧ Q (.int (i + j)) H) ∨ (∃ i j, x = .str i ∧ y = .str j ∧ i.length + j.length ≤ sizeLine ∧ Q (.str (i ++ j)) H)) ∨ (rCatA K x y H Q ∨ rCat x y H Q)
theorem op_addA : OpR X (binaryOp .Add) (rAddA X.K) := OpR.or op_addR (OpR.or op_catA op_cat)
theorem ok_addA : OpOk X W (rAddA X.K) (sv2 addA) := opOk_sv fun F c H x y dx dy d Q hx hy e q qn => by
  unfold addA at e
  split at e
  · cases hx; cases hy; cases e; exact .inl (.inl ⟨_, _, rfl, rfl, q _ (.int _)⟩)
  · split at e
    · cases hx; cases hy; cases e; exact .inl (.inr ⟨_, _, rfl, rfl, by assumption, q _ (.str _)⟩)
    · cases e
  · split at e
    · rename_i hl
      cases e
      cases hx with
      | tup hx hrx => cases hy with
        | tup hy hry =>
          rename_i a vs b2 ws
          refine .inr (.inl ⟨_, _, vs, ws, rfl, rfl, hx.sq, hy.sq, by rw [hrx.length, hry.length, sizeLine_eq]; exact hl, fun z => ?_, fun _ z => ?_, fun _ _ p hp => ?_⟩)
          · subst z; cases hrx
            exact q _ (.tup hy (by simpa using hry))
          · subst z; cases hry
            exact q _ (.tup hx (by simpa using hrx))
          · exact qn p _ hp (fun _ z => by cases z) fun F' s => .tup (.inl ⟨.inr rfl, .inl upd_same⟩) (((hrx.append hry).stp s).stp ⟨fun _ h => .inl h, fun _ _ _ h => h, ⟨[], (List.append_nil c).symm⟩, fun _ _ h => h⟩)
    · cases e
  · split at e
    · rename_i hl
      cases e
      obtain ⟨a, vs, rfl, h, r⟩ := hx
      obtain ⟨a', vs', rfl, h', r'⟩ := hy
      refine .inr (.inr ⟨_, _, _, _, rfl, rfl, h, h', by rw [r.length, r'.length, sizeLine_eq]; exact hl, fun p hp => ?_⟩)
      exact qn p _ hp (fun _ z => by cases z) fun F' s => .lst (.inr rfl) upd_same (((r.append r').stp s).stp ⟨fun _ h => .inl h, fun _ _ _ h => h, ⟨[], (List.append_nil c).symm⟩, fun _ _ h => h⟩)
    · cases e
  · cases e
theorem ve_addA (ha : VE X W e fa) (hb : VE X W a fb) : VE X W (.BinOp e .Add a pos) (eBin (sv2 addA) fa fb) := ve_op op_addA ok_addA ha hb
/-! == -/
theorem ok_eqV : OpOk X W (rEqD X.K) (sv2 eqP) := opOk_sv fun F c H x y dx dy d Q hx hy e q _ => by
  unfold eqP at e
  split at e
  · rename_i h
    rw [Bool.and_eq_true] at h
    cases e
    exact ⟨_, _, hx.dp h.1, hy.dp h.2, shaped_of (by decide) h.1, shaped_of (by decide) h.2, q _ (.bl _)⟩
  · cases e
theorem ok_neV : OpOk X W (rNeD X.K) (sv2 neP) := opOk_sv fun F c H x y dx dy d Q hx hy e q _ => by
  unfold neP at e
  split at e
  · rename_i h
    rw [Bool.and_eq_true] at h
    cases e
    exact ⟨_, _, hx.dp h.1, hy.dp h.2, shaped_of (by decide) h.1, shaped_of (by decide) h.2, q _ (.bl _)⟩
  · cases e
theorem ve_eqV (hr : Room k X.A) (ha : VE X W e fa) (hb : VE X W a fb) : VE X W (.Compare e [.Eq] [a] pos) (eBin (sv2 eqP) fa fb) := ve_cmp (op_eqD (huOf hr)) ok_eqV ha hb (nomark _)
theorem ve_neV (hr : Room k X.A) (ha : VE X W e fa) (hb : VE X W a fb) : VE X W (.Compare e [.NotEq] [a] pos) (eBin (sv2 neP) fa fb) := ve_cmp (op_neD (huOf hr)) ok_neV ha hb (nomark _)
theorem vt_eqV (hr : Room k X.A) (ha : VE X W e fa) (hb : VE X W a fb) : VT X W (.Compare e [.Eq] [a] pos) (eT (eBin (sv2 eqP) fa fb)) := vt_cmp (op_eqD (huOf hr)) ok_eqV ha hb (nomark _)
theorem vt_neV (hr : Room k X.A) (ha : VE X W e fa) (hb : VE X W a fb) : VT X W (.Compare e [.NotEq] [a] pos) (eT (eBin (sv2 neP) fa fb)) := vt_cmp (op_neD (huOf hr)) ok_neV ha hb (nomark _)
/-! in -/
def ng (neg t : Bool) : Bool := if neg then !t else t
/-- plain data within plain data, a text within a text -/
def inV (neg : Bool) : D → D → Option D
  | .str i, .str j => some (.bl (ng neg (inText i j)))
  | x, .lst ys => if plain 20 x && plain 20 (.lst ys) then some (.bl (ng neg (ys.any fun z => eqD z x))) else none
  | x, .tup ys => if plain 20 x && plain 20 (.tup ys) then some (.bl (ng neg (ys.any fun z => eqD z x))) else none
  | _, _ => none
def hasD (ky : Key) : List (Key × D) → Bool
  | [] => false
  | (j, _) :: r => decide (j = ky) || hasD ky r
def inA (neg : Bool) : D → D → M D := fun x y env st => match y with
  | .ref n => (match st[n]? with
    | some (.dct kvs) => (match x with
      | .int i => .ok (.bl (ng neg (hasD (.inl i) kvs))) env st
      | .str i => .ok (.bl (ng neg (hasD (.inr i) kvs))) env st
      | _ => .bad)
    | _ => sv2 (inV neg) x y env st)
  | y => sv2 (inV neg) x y env st
theorem valV_has {ky : Key} : ∀ {vk : List (Key × V)} {kvs : List (Key × D)}, vk.map (·.1) = kvs.map (·.1) → (valV vk ky).isSome = hasD ky kvs
  | [], [], _ => rfl
  | (j, v) :: vk, (j', d) :: kvs, h => by
    simp only [List.map_cons, List.cons.injEq] at h
    obtain ⟨rfl, h⟩ := h
    unfold hasD
    by_cases e : j = ky
    · rw [valV_pos (p := (j, v)) e, decide_eq_true e]; rfl
    · rw [valV_neg (p := (j, v)) e, decide_eq_false e, valV_has h]; rfl
  | [], _ :: _, h => by simp at h
  | _ :: _, [], h => by simp at h

theorem op_inDt (hu : X.A.units + 1 < cLine) : OpR X (compareOp .In) (fun y x H Q => ∃ a o, x = .ref a ∧ DGet H a y o ∧ Q (.bl o.isSome) H) := by
  intro pins s σ H y x u v Q I ry rx ⟨a, o, ex, g, q⟩
  subst ex
  obtain rfl : v = Value.ref a := rx
  exact d_in hu I g ry fun s' I' => ⟨.bl o.isSome, H, I', rfl, q⟩
theorem op_notinDt (hu : X.A.units + 1 < cLine) : OpR X (compareOp .NotIn) (fun y x H Q => ∃ a o, x = .ref a ∧ DGet H a y o ∧ Q (.bl (!o.isSome)) H) := by
  intro pins s σ H y x u v Q I ry rx ⟨a, o, ex, g, q⟩
  subst ex
  obtain rfl : v = Value.ref a := rx
  exact d_notIn hu I g ry fun s' I' => ⟨.bl (!o.isSome), H, I', rfl, q⟩
@[reducible] def rInA (K : PySem.W.Frag) : R2 := fun x y H Q => ((∃ i j, x = .str i ∧ y = .str j ∧ Q (.bl (!(Builtin.Str.occurrences j i 0 j.length 1).isEmpty)) H) ∨ rInD K x y H Q) ∨ (rInTD K x y H Q ∨ ∃ a o, y = .ref a ∧ DGet H a x o ∧ Q (.bl o.isSome) H)
@[reducible] def rNotInA (K : PySem.W.Frag) : R2 := fun x y H Q => ((∃ i j, x = .str i ∧ y = .str j ∧ Q (.bl (!(!(Builtin.Str.occurrences j i 0 j.length 1).isEmpty))) H) ∨ rNotInD K x y H Q) ∨ (rNotInTD K x y H Q ∨ ∃ a o, y = .ref a ∧ DGet H a x o ∧ Q (.bl (!o.isSome)) H)
theorem Rel.dget {b : Bs} {F : Addr → Prop} {c : List Addr} {env : EnvD} {st : Sto} {σ : L2.St} {H : Hp} (r : Rel b F c env st σ H) {v : V} {n : Nat} {kvs : List (Key × D)} (h : Rp b.K b.mg F c H v (.ref n)) (e : st[n]? = some (.dct kvs)) (k : Key) :
    ∃ a vk, v = .ref a ∧ c[n]? = some a ∧ H a = some (.dK vk) ∧ vk.map (·.1) = kvs.map (·.1) ∧ Rps b.K b.mg F c H (vk.map (·.2)) (kvs.map (·.2)) := by
  obtain ⟨a, rfl, hc, vk, h1, h2, h3⟩ := r.cell h e
  exact ⟨a, vk, rfl, hc, h1, h2, h3⟩
theorem ok_inA : OpOk X W (rInA X.K) (inA false) := fun b F c env st σ H x y dx dy Q e1 e2 r hx hy p => by
  have gen : Post b W F c σ H (fun d _ _ F' c' H' => ∀ v, Rp b.K b.mg F' c' H' v d → Q v H') (sv2 (inV false) dx dy env st) → rInA X.K x y H Q := fun p => by
    unfold sv2 ret at p
    split at p
    · rename_i d e
      have h1 := r.lv hx
      have h2 := r.lv hy
      unfold inV ng at e
      split at e
      · rename_i i j ei ej
        rw [ei] at h1; rw [ej] at h2
        cases h1; cases h2; cases e
        exact .inl (.inl ⟨_, _, rfl, rfl, Post.here r p _ (.bl _)⟩)
      · rename_i x2 ys nx ex ey
        split at e
        · rename_i h
          rw [Bool.and_eq_true] at h
          cases e
          rw [ey] at h2
          have k2 := LV.dp h2 h.2
          have k3 := shaped_of (by decide) h.2
          simp only [toPy] at k2 k3
          rw [e1] at h1 k2
          exact .inl (.inr ⟨_, _, h1.dp h.1, k2, shaped_of (by decide) h.1, k3, Post.here r p _ (by rw [any_toPys]; exact .bl _)⟩)
        · cases e
      · rename_i x2 ys nx ex ey
        split at e
        · rename_i h
          rw [Bool.and_eq_true] at h
          cases e
          rw [ey] at h2
          have k2 := LV.dp h2 h.2
          have k3 := shaped_of (by decide) h.2
          simp only [toPy] at k2 k3
          rw [e1] at h1 k2
          exact .inr (.inl ⟨_, _, h1.dp h.1, k2, shaped_of (by decide) h.1, k3, Post.here r p _ (by rw [any_toPys]; exact .bl _)⟩)
        · cases e
      · cases e
    · exact p.elim
  unfold inA at p
  split at p
  · rename_i n
    split at p
    · rename_i kvs es
      split at p
      · cases hx
        obtain ⟨a, vk, rfl, hc, h1, h2, h3⟩ := r.dget hy es (.inl 0)
        exact .inr (.inr ⟨a, _, rfl, DGet.k (k := .inl _) h1, by rw [valV_has h2]; exact Post.here r p _ (.bl _)⟩)
      · cases hx
        obtain ⟨a, vk, rfl, hc, h1, h2, h3⟩ := r.dget hy es (.inl 0)
        exact .inr (.inr ⟨a, _, rfl, DGet.k (k := .inr _) h1, by rw [valV_has h2]; exact Post.here r p _ (.bl _)⟩)
      · exact p.elim
    · exact gen p
  · exact gen p
theorem ok_notinA : OpOk X W (rNotInA X.K) (inA true) := fun b F c env st σ H x y dx dy Q e1 e2 r hx hy p => by
  have gen : Post b W F c σ H (fun d _ _ F' c' H' => ∀ v, Rp b.K b.mg F' c' H' v d → Q v H') (sv2 (inV true) dx dy env st) → rNotInA X.K x y H Q := fun p => by
    unfold sv2 ret at p
    split at p
    · rename_i d e
      have h1 := r.lv hx
      have h2 := r.lv hy
      unfold inV ng at e
      split at e
      · rename_i i j ei ej
        rw [ei] at h1; rw [ej] at h2
        cases h1; cases h2; cases e
        exact .inl (.inl ⟨_, _, rfl, rfl, Post.here r p _ (.bl _)⟩)
      · rename_i x2 ys nx ex ey
        split at e
        · rename_i h
          rw [Bool.and_eq_true] at h
          cases e
          rw [ey] at h2
          have k2 := LV.dp h2 h.2
          have k3 := shaped_of (by decide) h.2
          simp only [toPy] at k2 k3
          rw [e1] at h1 k2
          exact .inl (.inr ⟨_, _, h1.dp h.1, k2, shaped_of (by decide) h.1, k3, Post.here r p _ (by rw [any_toPys]; exact .bl _)⟩)
        · cases e
      · rename_i x2 ys nx ex ey
        split at e
        · rename_i h
          rw [Bool.and_eq_true] at h
          cases e
          rw [ey] at h2
          have k2 := LV.dp h2 h.2
          have k3 := shaped_of (by decide) h.2
          simp only [toPy] at k2 k3
          rw [e1] at h1 k2
          exact .inr (.inl ⟨_, _, h1.dp h.1, k2, shaped_of (by decide) h.1, k3, Post.here r p _ (by rw [any_toPys]; exact .bl _)⟩)
        · cases e
      · cases e
    · exact p.elim
  unfold inA at p
  split at p
  · rename_i n
    split at p
    · rename_i kvs es
      split at p
      · cases hx
        obtain ⟨a, vk, rfl, hc, h1, h2, h3⟩ := r.dget hy es (.inl 0)
        exact .inr (.inr ⟨a, _, rfl, DGet.k (k := .inl _) h1, by rw [valV_has h2]; exact Post.here r p _ (.bl _)⟩)
      · cases hx
        obtain ⟨a, vk, rfl, hc, h1, h2, h3⟩ := r.dget hy es (.inl 0)
        exact .inr (.inr ⟨a, _, rfl, DGet.k (k := .inr _) h1, by rw [valV_has h2]; exact Post.here r p _ (.bl _)⟩)
      · exact p.elim
    · exact gen p
  · exact gen p
theorem op_inAll (hu : X.A.units + 65 < cLine) : OpR X (compareOp .In) (rInA X.K) := OpR.or (op_inR hu) (OpR.or (op_inTD hu) (op_inDt (by omega)))
theorem op_notinAll (hu : X.A.units + 65 < cLine) : OpR X (compareOp .NotIn) (rNotInA X.K) := OpR.or (op_notinR hu) (OpR.or (op_notInTD hu) (op_notinDt (by omega)))
theorem ve_inA (hr : Room k X.A) (ha : VE X W e fa) (hb : VE X W a fb) (hm : behindInMarks .In a = false := by rfl) : VE X W (.Compare e [.In] [a] pos) (eBin (inA false) fa fb) := ve_cmp (op_inAll (huOf1 hr)) ok_inA ha hb hm
theorem vt_inA (hr : Room k X.A) (ha : VE X W e fa) (hb : VE X W a fb) (hm : behindInMarks .In a = false := by rfl) : VT X W (.Compare e [.In] [a] pos) (eT (eBin (inA false) fa fb)) := vt_cmp (op_inAll (huOf1 hr)) ok_inA ha hb hm
theorem ve_notinA (hr : Room k X.A) (ha : VE X W e fa) (hb : VE X W a fb) (hm : behindInMarks .NotIn a = false := by rfl) : VE X W (.Compare e [.NotIn] [a] pos) (eBin (inA true) fa fb) := ve_cmp (op_notinAll (huOf1 hr)) ok_notinA ha hb hm
theorem vt_notinA (hr : Room k X.A) (ha : VE X W e fa) (hb : VE X W a fb) (hm : behindInMarks .NotIn a = false := by rfl) : VT X W (.Compare e [.NotIn] [a] pos) (eT (eBin (inA true) fa fb)) := vt_cmp (op_notinAll (huOf1 hr)) ok_notinA ha hb hm
/-! order -/
def ordA (p : Int → Int → Bool) (q : Str → Str → Bool) : D → D → Option D
  | .int i, .int j => some (.bl (p i j))
  | .str x, .str y => some (.bl (q x y))
  | _, _ => none
@[reducible] def gLtA : D → D → M D := sc2 (ordA (fun i j => decide (i < j)) fun x y => ltS x y)
@[reducible] def gLeA : D → D → M D := sc2 (ordA (fun i j => decide (i ≤ j)) fun x y => !ltS y x)
@[reducible] def gGtA : D → D → M D := sc2 (ordA (fun i j => decide (j < i)) fun x y => ltS y x)
@[reducible] def gGeA : D → D → M D := sc2 (ordA (fun i j => decide (j ≤ i)) fun x y => !ltS x y)
@[reducible] def rOrd (p : Int → Int → Bool) (q : Str → Str → Bool) : R2 := fun x y H Q => rI0 (fun i j => .bl (p i j)) x y H Q ∨ ∃ i j, x = .str i ∧ y = .str j ∧ Q (.bl (q i j)) H
theorem ok_ord (p : Int → Int → Bool) (q : Str → Str → Bool) : OpOk X W (rOrd p q) (sc2 (ordA p q)) := opOk_sc fun F c H x y dx dy d Q hx hy e qq => by
  unfold ordA at e
  split at e
  · cases hx; cases hy; cases e; exact .inl ⟨_, _, rfl, rfl, qq _ (.bl _)⟩
  · cases hx; cases hy; cases e; exact .inr ⟨_, _, rfl, rfl, qq _ (.bl _)⟩
  · cases e
theorem op_ltAll : OpR X (compareOp .Lt) (rOrd (fun i j => decide (i < j)) fun x y => ltS x y) := OpR.or op_lt op_lt_str
theorem op_leAll : OpR X (compareOp .LtE) (rOrd (fun i j => decide (i ≤ j)) fun x y => !ltS y x) := OpR.or op_le op_le_str
theorem op_gtAll : OpR X (compareOp .Gt) (rOrd (fun i j => decide (j < i)) fun x y => ltS y x) := OpR.or op_gt op_gt_str
theorem op_geAll : OpR X (compareOp .GtE) (rOrd (fun i j => decide (j ≤ i)) fun x y => !ltS x y) := OpR.or op_ge op_ge_str
theorem ve_oLt (ha : VE X W e fa) (hb : VE X W a fb) : VE X W (.Compare e [.Lt] [a] pos) (eBin gLtA fa fb) := ve_cmp op_ltAll (ok_ord _ _) ha hb (nomark _)
theorem vt_oLt (ha : VE X W e fa) (hb : VE X W a fb) : VT X W (.Compare e [.Lt] [a] pos) (eT (eBin gLtA fa fb)) := vt_cmp op_ltAll (ok_ord _ _) ha hb (nomark _)
theorem ve_oLe (ha : VE X W e fa) (hb : VE X W a fb) : VE X W (.Compare e [.LtE] [a] pos) (eBin gLeA fa fb) := ve_cmp op_leAll (ok_ord _ _) ha hb (nomark _)
theorem vt_oLe (ha : VE X W e fa) (hb : VE X W a fb) : VT X W (.Compare e [.LtE] [a] pos) (eT (eBin gLeA fa fb)) := vt_cmp op_leAll (ok_ord _ _) ha hb (nomark _)
theorem ve_oGt (ha : VE X W e fa) (hb : VE X W a fb) : VE X W (.Compare e [.Gt] [a] pos) (eBin gGtA fa fb) := ve_cmp op_gtAll (ok_ord _ _) ha hb (nomark _)
theorem vt_oGt (ha : VE X W e fa) (hb : VE X W a fb) : VT X W (.Compare e [.Gt] [a] pos) (eT (eBin gGtA fa fb)) := vt_cmp op_gtAll (ok_ord _ _) ha hb (nomark _)
theorem ve_oGe (ha : VE X W e fa) (hb : VE X W a fb) : VE X W (.Compare e [.GtE] [a] pos) (eBin gGeA fa fb) := ve_cmp op_geAll (ok_ord _ _) ha hb (nomark _)
theorem vt_oGe (ha : VE X W e fa) (hb : VE X W a fb) : VT X W (.Compare e [.GtE] [a] pos) (eT (eBin gGeA fa fb)) := vt_cmp op_geAll (ok_ord _ _) ha hb (nomark _)
/-! ### what is walked: a list, a tuple, a text -/
theorem PI.or {tg l : Expr} {w1 w2 : TI} (h : PI X tg l w1) (h2 : PI X tg l w2) : PI X tg l (fun σ H R => w1 σ H R ∨ w2 σ H R) := ⟨fun pins s σ H R I q => q.elim (h.run pins s σ H R I) (h2.run pins s σ H R I)⟩
def walkD (st : Sto) : D → Option (List D)
  | .lst xs => some xs
  | .tup xs => some xs
  | .scr xs => some (xs.map .int)
  | .str x => some (signsD x)
  | _ => none
def iQ (fa : M D) : M (List D) := fun env st => (fa env st).bind fun d env st => match walkD st d with
  | some xs => .ok xs env st
  | none => .bad
theorem walks_scr {b : Bs} {F : Addr → Prop} {c : List Addr} {H : Hp} {a : Addr} {ns : List Int} (hx : FqL b.K F H a (ns.map V.int)) : Walks b (Itl b.K a) (ns.map .int) F c H := by
  intro F' c' H' s i
  have h' := (hx.stp s).sq
  refine ⟨fun d hd => ?_, fun hi => ⟨_, h', by simpa using hi⟩⟩
  rw [List.getElem?_map] at hd
  cases hn : ns[i]? with
  | none => rw [hn] at hd; cases hd
  | some n =>
    rw [hn] at hd; cases hd
    have hv : (ns.map V.int)[i]? = some (.int n) := by rw [List.getElem?_map, hn]; rfl
    refine ⟨⟨_, _, h', hv⟩, fun x H2 y => ?_⟩
    obtain ⟨rfl, y⟩ := y
    have e := y _ h'
    rw [hv] at e; cases e
    exact .inl ⟨rfl, .int _⟩
theorem vi_q {tg iter : Expr} (h : VE X W iter fa) : VI X W tg iter (iQ fa) := ⟨_, PI.or (pi_list h) (PI.or (pi_tup h) (pi_str h)), fun σ H R ⟨b, F, c, env, st, e1, e2, r, p⟩ => by
  have key : ∀ {w : TI}, (∀ v d env1 st1 F1 c1 H1, Rel b F1 c1 env1 st1 σ H1 → Rp b.K b.mg F1 c1 H1 v d → True) → True := fun _ => trivial
  unfold iQ at p
  cases hf : fa env st with
  | bad => rw [hf] at p; exact p.elim
  | ex x env1 st1 =>
    rw [hf] at p
    exact .inl ⟨b, F, c, env, st, e1, e2, r, by rw [hf]; exact p⟩
  | ok d env1 st1 =>
    rw [hf] at p
    simp only [VE.R.bind_ok] at p
    cases d with
    | lst xs => exact .inl ⟨b, F, c, env, st, e1, e2, r, by
        rw [hf]
        intro F1 c1 H1 s1 r1 v rp
        cases rp with
        | lst f hx hr => exact ⟨_, rfl, ⟨_, SqL.of hx⟩, p F1 c1 H1 s1 r1 _ (e1 ▸ walks_list f hx hr)⟩⟩
    | scr xs => exact .inl ⟨b, F, c, env, st, e1, e2, r, by
        rw [hf]
        intro F1 c1 H1 s1 r1 v rp
        cases rp with
        | scr hx => exact ⟨_, rfl, ⟨_, e1 ▸ hx.sq⟩, p F1 c1 H1 s1 r1 _ (e1 ▸ walks_scr hx)⟩⟩
    | tup xs => exact .inr (.inl ⟨b, F, c, env, st, e1, e2, r, by
        rw [hf]
        intro F1 c1 H1 s1 r1 v rp
        cases rp with
        | tup hx hr => exact ⟨_, rfl, ⟨_, e1 ▸ hx.sq⟩, p F1 c1 H1 s1 r1 _ (e1 ▸ walks_tup hx hr)⟩⟩)
    | str x => exact .inr (.inr ⟨b, F, c, env, st, e1, e2, r, by
        rw [hf]
        intro F1 c1 H1 s1 r1 v rp
        cases rp with
        | str x => exact ⟨_, rfl, p F1 c1 H1 s1 r1 _ walks_str⟩⟩)
    | _ => exact p.elim⟩
end
end VE

/-! lists and dicts of the store: made, read, changed -/
namespace VE
open PySem PySem.Spec PyProof.Rows L2
variable [VEnv]
def lkK (k : Key) : List (Key × D) → Option D
  | [] => none
  | (j, d) :: r => if j = k then some d else lkK k r
def chK (k : Key) (y : D) : List (Key × D) → List (Key × D)
  | [] => []
  | (j, d) :: r => (if j = k then (j, y) else (j, d)) :: chK k y r
/-- d[k] = y -/
def ptK (kvs : List (Key × D)) (k : Key) (y : D) : List (Key × D) := if hasD k kvs then chK k y kvs else kvs ++ [(k, y)]
def dKey : D → Option Key
  | .int i => some (.inl i)
  | .str x => some (.inr x)
  | _ => none
section
variable {K : PySem.W.Frag} {mg : Str → Option Value} {F : Addr → Prop} {c : List Addr} {H : Hp} {k : Key}
theorem valV_lk : ∀ {vk : List (Key × V)} {kvs : List (Key × D)}, vk.map (·.1) = kvs.map (·.1) → Rps K mg F c H (vk.map (·.2)) (kvs.map (·.2)) → (∀ d, lkK k kvs = some d → ∃ v, valV vk k = some v ∧ Rp K mg F c H v d) ∧ (lkK k kvs = none → valV vk k = none)
  | [], [], _, _ => ⟨(fun d h => by simp [lkK] at h), fun _ => rfl⟩
  | (j, v) :: vk, (j', d) :: kvs, h, r => by
    simp only [List.map_cons, List.cons.injEq] at h
    obtain ⟨rfl, h⟩ := h
    cases r with
    | cons r1 r2 =>
      obtain ⟨k1, k2⟩ := valV_lk h r2
      unfold lkK
      by_cases e : j = k
      · rw [if_pos e, valV_pos (p := (j, v)) e]
        exact ⟨fun d' z => by cases z; exact ⟨v, rfl, r1⟩, fun z => by cases z⟩
      · rw [if_neg e, valV_neg (p := (j, v)) e]
        exact ⟨k1, k2⟩
  | [], _ :: _, h, _ => by simp at h
  | _ :: _, [], h, _ => by simp at h
theorem any_has : ∀ {vk : List (Key × V)} {kvs : List (Key × D)}, vk.map (·.1) = kvs.map (·.1) → (vk.any fun kv => decide (kv.1 = k)) = hasD k kvs := fun {vk kvs} h => by rw [valV_any, valV_has h]
theorem map_ch (y : V) (d : D) : ∀ {vk : List (Key × V)} {kvs : List (Key × D)}, vk.map (·.1) = kvs.map (·.1) → (vk.map fun kv => if kv.1 = k then (kv.1, y) else kv).map (·.1) = (chK k d kvs).map (·.1)
  | [], [], _ => rfl
  | (j, v) :: vk, (j', d') :: kvs, h => by
    simp only [List.map_cons, List.cons.injEq] at h
    obtain ⟨rfl, h⟩ := h
    have := map_ch y d h
    simp only [chK, List.map_cons]
    rw [this]
    by_cases e : j = k
    · rw [if_pos e, if_pos e]
    · rw [if_neg e, if_neg e]
  | [], _ :: _, h => by simp at h
  | _ :: _, [], h => by simp at h
theorem map_ch2 {y : V} {d : D} (hy : Rp K mg F c H y d) : ∀ {vk : List (Key × V)} {kvs : List (Key × D)}, vk.map (·.1) = kvs.map (·.1) → Rps K mg F c H (vk.map (·.2)) (kvs.map (·.2)) → Rps K mg F c H ((vk.map fun kv => if kv.1 = k then (kv.1, y) else kv).map (·.2)) ((chK k d kvs).map (·.2))
  | [], [], _, _ => .nil
  | (j, v) :: vk, (j', d') :: kvs, h, r => by
    simp only [List.map_cons, List.cons.injEq] at h
    obtain ⟨rfl, h⟩ := h
    cases r with
    | cons r1 r2 =>
      have := map_ch2 hy h r2
      simp only [chK, List.map_cons]
      by_cases e : j = k
      · rw [if_pos e, if_pos e]; exact .cons hy this
      · rw [if_neg e, if_neg e]; exact .cons r1 this
  | [], _ :: _, h, _ => by simp at h
  | _ :: _, [], h, _ => by simp at h
theorem put_pt {y : V} {d : D} {vk : List (Key × V)} {kvs : List (Key × D)} (h : vk.map (·.1) = kvs.map (·.1)) : (putK vk k y).map (·.1) = (ptK kvs k d).map (·.1) := by
  unfold putK ptK
  rw [any_has h]
  split
  · exact map_ch y d h
  · rw [List.map_append, List.map_append, h]; rfl
theorem put_pt2 {y : V} {d : D} (hy : Rp K mg F c H y d) {vk : List (Key × V)} {kvs : List (Key × D)} (h : vk.map (·.1) = kvs.map (·.1)) (r : Rps K mg F c H (vk.map (·.2)) (kvs.map (·.2))) : Rps K mg F c H ((putK vk k y).map (·.2)) ((ptK kvs k d).map (·.2)) := by
  unfold putK ptK
  rw [any_has h]
  split
  · exact map_ch2 hy h r
  · rw [List.map_append, List.map_append]; exact r.append (.cons hy .nil)
theorem len_kv {vk : List (Key × V)} {kvs : List (Key × D)} (h : vk.map (·.1) = kvs.map (·.1)) : vk.length = kvs.length := by simpa using congrArg List.length h
theorem dKey_of {v : V} {d : D} (h : Rp K mg F c H v d) (e : dKey d = some k) : v = kV k := by
  cases h <;> simp [dKey] at e <;> subst e <;> rfl
end
section
variable {X : Cx} {W : WX} {e a o d : Expr} {es : List Expr} {pos p pos' : Pos} {fa fb fo fi : M D} {fs : M (List D)} {x : Str} {k : Nat}
/-! made -/
def eCellL (fs : M (List D)) : M D := fun env st => (fs env st).bind fun ds env st => if ds.length ≤ 16777216 then .ok (.ref st.length) env (st ++ [.lst ds]) else .bad
theorem ve_cellL (h : VA X W es fs) : VE X W (.List es pos) (eCellL fs) := PEof (pe_lst h) fun σ H Q ⟨b, F, c, env, st, e1, e2, r0, h⟩ =>
  tA_at e1 e2 r0 h fun vs ds env1 st1 F1 c1 H1 s1 r1 rp1 p1 => by
    split at p1
    · rename_i hl
      refine ⟨by rw [rp1.length, sizeLine_eq]; exact hl, fun q hq => ?_⟩
      obtain ⟨s2, r2, rp⟩ := r1.cellNew (x := .lst ds) hq fun s => ⟨vs, upd_same, rp1.stp s⟩
      exact p1 _ _ _ s2 r2 _ rp
    · exact p1.elim
def eCellD : M D := fun env st => .ok (.ref st.length) env (st ++ [.dct []])
theorem ve_cellD : VE X W (.Dict [] [] pos) eCellD := PEof pe_dnewK fun σ H Q ⟨b, F, c, env, st, e1, e2, r0, h⟩ q hq => by
  obtain ⟨s2, r2, rp⟩ := r0.cellNew (x := .dct []) (o := .dK []) hq fun s => ⟨[], upd_same, rfl, .nil⟩
  exact h _ _ _ s2 r2 _ rp
/-! read -/
def ixA : D → D → M D := fun x y env st => match x with
  | .ref n => (match st[n]? with
    | some (.dct kvs) => (match dKey y with
      | some ky => ret (lkK ky kvs) env st
      | none => .bad)
    | _ => ixC (.ref n) y env st)
  | x => ixC x y env st
theorem subTail {prog : Program} {w : World} {A : Around} {E : Value → Shared → Prop} {s : Shared} {value slice : Expr} {v u : Value} {T id : String} {Q : Value → Shared → Prop} (hT : s.TypeIs v T) (hl : typeLookup (.type T) "__getitem__" = pure (some (.builtin id)))
    (h : wpAny (model prog w) A (getItem v u) Q E s) (hs : subscripted slice false v u = operate [v, u] (getItem v u)) : wpAny (model prog w) A (subscriptTail value slice v u) Q E s := by
  unfold subscriptTail
  refine wpAny_bind ?_
  rw [getitemInPython_of_ne hT.not_modules]
  refine wpAny_bind (wpAny_specialOf hT hl ?_)
  have fin : wpAny (model prog w) A (subscripted slice false v u) (fun r s₃ => wpAny (model prog w) A (letTemporaryGo value v r >>= fun _ => pure r) Q E s₃) E s := by
    rw [hs]
    exact wpAny_operating (wpAny_mono h (fun r s₃ h₃ => wpAny_bind (wpAny_letTemporaryGo (wpAny_pure h₃))) fun _ _ x => x)
  first
    | exact wpAny_pure (wpAny_bind fin)
    | exact wpAny_bind (wpAny_pure (wpAny_bind fin))
    | exact wpAny_pure fin
theorem ix_dict (hu : X.A.units + 1 < cLine) : IxR X (fun x y H Q => ∃ a v, x = .ref a ∧ DGet H a y (some v) ∧ Q v H) := by
  intro value slice pins s σ H x y v u Q I rx ry ⟨a, w, ex, g, q⟩ hs
  subst ex
  obtain rfl : v = Value.ref a := rx
  exact subTail (dict_typeIs I g) PySem.F.slot_dict_getitem.lookup (d_getItem hu I g ry fun w' s' I' rw' => ⟨w, H, I', rw', q⟩) hs
theorem ok_ixA : OpOk X W (fun x y H Q => rIx X.K x y H Q ∨ ∃ a v, x = .ref a ∧ DGet H a y (some v) ∧ Q v H) ixA := fun b F c env st σ H x y dx dy Q e1 e2 r hx hy p => by
  unfold ixA at p
  split at p
  · rename_i n
    split at p
    · rename_i kvs es
      split at p
      · rename_i ky eky
        unfold ret at p
        split at p
        · rename_i d ed
          obtain ⟨a, vk, rfl, hc, h1, h2, h3⟩ := r.dget hx es ky
          obtain ⟨v, hv, rp⟩ := (valV_lk h2 h3).1 d ed
          rw [dKey_of hy eky]
          exact .inr ⟨a, v, rfl, by rw [← hv]; exact DGet.k h1, Post.here r p v rp⟩
        · exact p.elim
      · exact p.elim
    · exact .inl (ok_ixC b F c env st σ H x y _ _ Q e1 e2 r hx hy p)
  · exact .inl (ok_ixC b F c env st σ H x y _ _ Q e1 e2 r hx hy p)
theorem ve_ixA (hr : Room k X.A) (ha : VE X W e fa) (hb : VE X W a fb) (hs : PlainIx a := by exact fun _ _ => rfl) : VE X W (.Subscript e a pos) (eBin ixA fa fb) := PEof (pe_ix (IxR.or ix_seq (ix_dict (by have := hr.un; omega))) ha hb hs) (tOp_of ok_ixA)
/-! changed -/
def sItemA (fo fi fe : M D) : M Fl := fun env st => (fe env st).bind fun d env st => (fo env st).bind fun r env st => (fi env st).bind fun k env st => match r with
  | .ref n => (match st[n]? with
    | some (.lst ds) => (match k with
      | .int k => (match ixN ds.length k with
        | some j => .ok .nx env (st.set n (.lst (ds.set j d)))
        | none => .bad)
      | _ => .bad)
    | some (.dct kvs) => (match dKey k with
      | some ky => if kvs.length < 16777216 then .ok .nx env (st.set n (.dct (ptK kvs ky d))) else .bad
      | none => .bad)
    | _ => .bad)
  | _ => .bad
theorem set_dict (hu : X.A.units + 1 < cLine) : PSet X (fun o i v H Q => ∃ a H4, o = .ref a ∧ DPut H a i v H4 ∧ Q H4) := by
  intro pins s σ H o i v ov iv u Q I ro ri rv ⟨a, H4, eo, g, q⟩
  subst eo
  obtain rfl : ov = Value.ref a := ro
  exact d_setItem hu I g ri rv fun s' I' => ⟨H4, I', q⟩
theorem PSet.or {t1 t2 : TSet} (h : PSet X t1) (h2 : PSet X t2) : PSet X (fun o i v H Q => t1 o i v H Q ∨ t2 o i v H Q) := fun pins s σ H o i v ov iv u Q I ro ri rv q => q.elim (h pins s σ H o i v ov iv u Q I ro ri rv) (h2 pins s σ H o i v ov iv u Q I ro ri rv)
theorem vs_itemA {tp : Pos} {fe : M D} (hr : Room k X.A) (he : VE X W e fe) (ho : VE X W o fo) (hi : VE X W a fi) (ha : ∀ v, assign (.Subscript o a tp) X.env v = (do
      let ov ← holding [v] (eval o X.env)
      let iv ← holding [v, ov] (eval a X.env)
      standAt tp
      holding [v, ov, iv] (setItem ov iv v)
      release [v, ov, iv] []) := by intro _; rfl)
    (hs : swapsWithSole [.Subscript o a tp] e pos.line X.env = pure false := by rfl) (hw : swappedStores [.Subscript o a tp] e X.env = pure none := by rfl)
    (h1 : (assignEach [.Subscript o a tp] X.env).map (·.2) = [assign (.Subscript o a tp) X.env] := by rfl) : VS X W (.Assign [.Subscript o a tp] e pos) (sItemA fo fi fe) := PSof (ps_asg he (pg_sub ho hi (PSet.or set_list (set_dict (by have := hr.un; omega))) ha) hs hw h1) fun D₀ σ H ⟨b, F, c, env, st, e1, e2, r, p⟩ =>
  sE_at e1 e2 r p fun v d env1 st1 F1 c1 H1 s1 r1 rp1 p1 => sE_at e1 e2 r1 p1 fun u r_ env2 st2 F2 c2 H2 s2 r2 rp2 p2 => sE_at e1 e2 r2 p2 fun w k env3 st3 F3 c3 H3 s3 r3 rp3 p3 => by
    split at p3
    · rename_i n
      have rp2' := rp2.stp s3
      split at p3
      · rename_i ds es
        split at p3
        · rename_i k
          split at p3
          · rename_i j ej
            obtain ⟨q, rfl, hc, vs, hq, rps⟩ := r3.cell rp2' es
            cases rp3
            refine .inl ⟨q, vs, k, j, rfl, rfl, hq, by rw [rps.length]; exact ej, ?_⟩
            obtain ⟨s4, r4⟩ := r3.cellUpd (o := .lst (vs.set j v)) (x := .lst (ds.set j d)) hc fun s => ⟨_, upd_same, Rps.set ((rp1.stp (s2.trans s3)).stp s) j (rps.stp s)⟩
            exact PostS.here (P := fun fl _ _ F c σ H => FlOk b D₀ F c σ H fl) r4 (p3.stp s4)
          · exact p3.elim
        · exact p3.elim
      · rename_i kvs es
        split at p3
        · rename_i ky eky
          split at p3
          · rename_i hl
            obtain ⟨q, vk, rfl, hc, h1, h2, h3⟩ := r3.dget rp2' es ky
            rw [dKey_of rp3 eky]
            refine .inr ⟨q, _, rfl, DPut.k h1 (by rw [len_kv h2, sizeLine_eq]; exact hl), ?_⟩
            obtain ⟨s4, r4⟩ := r3.cellUpd (o := .dK (putK vk ky v)) (x := .dct (ptK kvs ky d)) hc fun s => ⟨_, upd_same, put_pt h2, put_pt2 ((rp1.stp (s2.trans s3)).stp s) h2 (h3.stp s)⟩
            exact PostS.here (P := fun fl _ _ F c σ H => FlOk b D₀ F c σ H fl) r4 (p3.stp s4)
          · exact p3.elim
        · exact p3.elim
      · exact p3.elim
    · exact p3.elim
/-- o.append(e), o a list of the store -/
def sAppC (g : List D → D → Option (List D)) (fo fa : M D) : M Fl := fun env st => (fo env st).bind fun r env st => match r with
  | .ref n => (match st[n]? with
    | some (.lst _) => (fa env st).bind fun d env st => (match st[n]? with
      | some (.lst ds) => (match g ds d with
        | some es => .ok .nx env (st.set n (.lst es))
        | none => .bad)
      | _ => .bad)
    | _ => .bad)
  | _ => .bad
theorem vs_appC {apos p2 : Pos} (ho : VE X W o fo) (ha : VE X W a fa) (hbase : attributeBase o "append" X.env (eval o X.env) = eval o X.env := by rfl)
    (hfew : ((backTo p2 (starEach [a] X.env)).all (fun x => !x.1) && (backToKw p2 (keywordEach [] X.env)).all (fun x => x.1.isSome)
      && decide (([a] : List Expr).length + ([] : List Keyword).length + (if ([] : List Keyword).isEmpty then 0 else 1) < 30)) = true := by rfl)
    (hline : (apos.endLine == p2.line) = true := by rfl) (hs : starEach [a] X.env = (false, eval a X.env) :: starEach [] X.env := by rfl) (hplain : (backTo p2 (starEach [] X.env)).any (·.1) = false := by rfl)
    (hsw : swapsWith (.Call (.Attribute o "append" apos) [a] [] p2) none pos.line X.env = pure false := by rfl) : VS X W (.Expr (.Call (.Attribute o "append" apos) [a] [] p2) pos) (sAppC appD fo fa) :=
  PSof (ps_expr (pe_bm PySem.F.plainAttrs_list PySem.F.slot_list_append PySem.F.type_list_append mt_append ho (pa_cons ha pa_nil hs) hbase hfew hline hs hplain) hsw) fun D₀ σ H ⟨b, F, c, env, st, e1, e2, r0, p⟩ =>
  sE_at e1 e2 r0 p fun u r_ env1 st1 F1 c1 H1 s1 r1 rp1 p1 => by
    split at p1
    · rename_i n
      split at p1
      · rename_i ds0 es0
        obtain ⟨q, rfl, hc, vs0, hq0, rps0⟩ := r1.cell rp1 es0
        refine ⟨.inl ⟨rfl, _, SqL.of hq0⟩, sE_at e1 e2 r1 p1 fun v d env2 st2 F2 c2 H2 s2 r2 rp2 p2 => ?_⟩
        split at p2
        · rename_i ds es
          obtain ⟨q', eq', hc', vs, hq, rps⟩ := r2.cell (rp1.stp s2) es
          cases eq'
          split at p2
          · rename_i ys hys
            unfold appD at hys
            split at hys
            · rename_i hl
              cases hys
              refine ⟨q, vs, v, rfl, rfl, hq, by rw [rps.length, sizeLine_eq]; exact hl, ?_⟩
              obtain ⟨s4, r4⟩ := r2.cellUpd (o := .lst (vs ++ [v])) (x := .lst (ds ++ [d])) hc' fun s => ⟨_, upd_same, (rps.stp s).append (.cons (rp2.stp s) .nil)⟩
              exact PostS.here (P := fun fl _ _ F c σ H => FlOk b D₀ F c σ H fl) r4 (p2.stp s4)
            · cases hys
          · exact p2.elim
        · exact p2.elim
      · exact p1.elim
    · exact p1.elim
/-- o.get(k, d) -/
def eGet2 (fo fi fd : M D) : M D := fun env st => (fo env st).bind fun r env st => match r with
  | .ref n => (match st[n]? with
    | some (.dct _) => (fi env st).bind fun k env st => (fd env st).bind fun d env st => (match st[n]?, dKey k with
      | some (.dct kvs), some ky => .ok ((lkK ky kvs).getD d) env st
      | _, _ => .bad)
    | _ => .bad)
  | _ => .bad
theorem ve_get2 {apos : Pos} {fd : M D} (hr : Room k X.A) (ho : VE X W o fo) (hi : VE X W a fi) (hd : VE X W d fd) (m : M2 X o "get" apos a d pos := by exact ⟨rfl, rfl, rfl, rfl⟩) : VE X W (.Call (.Attribute o "get" apos) [a, d] [] pos) (eGet2 fo fi fd) :=
  PEof (pe_dget2 (by have := hr.un; omega) ho hi hd m) fun σ H Q ⟨b, F, c, env, st, e1, e2, r, p⟩ => tE_at e1 e2 r p fun u r_ env1 st1 F1 c1 H1 s1 r1 rp1 p1 => by
    split at p1
    · rename_i n
      split at p1
      · rename_i kv0 es0
        obtain ⟨q, vk0, rfl, hc, h10, h20, h30⟩ := r1.dget rp1 es0 (.inl 0)
        refine ⟨q, rfl, .inl ⟨_, .inl h10⟩, tE_at e1 e2 r1 p1 fun w k env2 st2 F2 c2 H2 s2 r2 rp2 p2 => tE_at e1 e2 r2 p2 fun z d env3 st3 F3 c3 H3 s3 r3 rp3 p3 => ?_⟩
        split at p3
        · rename_i kvs ky es eky
          obtain ⟨q', vk, eq', hc', h1, h2, h3⟩ := r3.dget (rp1.stp (s2.trans s3)) es ky
          cases eq'
          have ew := dKey_of rp2 eky
          subst ew
          refine ⟨_, DGet.k h1, ?_⟩
          obtain ⟨k1, k2⟩ := valV_lk (k := ky) h2 h3
          cases hl : lkK ky kvs with
          | none =>
            rw [k2 hl]
            rw [hl] at p3
            exact Post.here r3 p3 _ rp3
          | some dd =>
            obtain ⟨v, hv, rp⟩ := k1 dd hl
            rw [hv]
            rw [hl] at p3
            exact Post.here r3 p3 _ rp
        · exact p3.elim
      · exact p1.elim
    · exact p1.elim
/-- o.setdefault(k, d) -/
def eSetd (fo fi fd : M D) : M D := fun env st => (fo env st).bind fun r env st => match r with
  | .ref n => (match st[n]? with
    | some (.dct _) => (fi env st).bind fun k env st => (fd env st).bind fun d env st => (match st[n]?, dKey k with
      | some (.dct kvs), some ky => if kvs.length < 16777216 then (match lkK ky kvs with
        | some x => .ok x env st
        | none => .ok d env (st.set n (.dct (ptK kvs ky d)))) else .bad
      | _, _ => .bad)
    | _ => .bad)
  | _ => .bad
theorem ve_setd {apos : Pos} {fd : M D} (ho : VE X W o fo) (hi : VE X W a fi) (hd : VE X W d fd) (m : M2 X o "setdefault" apos a d pos := by exact ⟨rfl, rfl, rfl, rfl⟩) : VE X W (.Call (.Attribute o "setdefault" apos) [a, d] [] pos) (eSetd fo fi fd) :=
  PEof (pe_dsetd ho hi hd m) fun σ H Q ⟨b, F, c, env, st, e1, e2, r, p⟩ => tE_at e1 e2 r p fun u r_ env1 st1 F1 c1 H1 s1 r1 rp1 p1 => by
    split at p1
    · rename_i n
      split at p1
      · rename_i kv0 es0
        obtain ⟨q, vk0, rfl, hc, h10, h20, h30⟩ := r1.dget rp1 es0 (.inl 0)
        refine ⟨q, rfl, .inl ⟨_, .inl h10⟩, tE_at e1 e2 r1 p1 fun w k env2 st2 F2 c2 H2 s2 r2 rp2 p2 => tE_at e1 e2 r2 p2 fun z d env3 st3 F3 c3 H3 s3 r3 rp3 p3 => ?_⟩
        split at p3
        · rename_i kvs ky es eky
          obtain ⟨q', vk, eq', hc', h1, h2, h3⟩ := r3.dget (rp1.stp (s2.trans s3)) es ky
          cases eq'
          have ew := dKey_of rp2 eky
          subst ew
          obtain ⟨k1, k2⟩ := valV_lk (k := ky) h2 h3
          split at p3
          · rename_i hlen
            have hz : vk.length < sizeLine := by rw [len_kv h2, sizeLine_eq]; exact hlen
            cases hl : lkK ky kvs with
            | none =>
              simp only [hl] at p3
              refine ⟨vk, ky, h1, rfl, hz, (fun v hv => by rw [k2 hl] at hv; cases hv), fun _ => ?_⟩
              obtain ⟨s4, r4⟩ := r3.cellUpd (o := .dK (putK vk ky z)) (x := .dct (ptK kvs ky d)) hc' fun s => ⟨_, upd_same, put_pt h2, put_pt2 (rp3.stp s) h2 (h3.stp s)⟩
              exact Post.here r4 (Post.stp s4 p3) _ (rp3.stp s4)
            | some dd =>
              simp only [hl] at p3
              obtain ⟨v, hv, rp⟩ := k1 dd hl
              refine ⟨vk, ky, h1, rfl, hz, (fun v' hv' => ?_), fun hn => by rw [hv] at hn; cases hn⟩
              rw [hv] at hv'; cases hv'
              exact Post.here r3 p3 _ rp
          · exact p3.elim
        · exact p3.elim
      · exact p1.elim
    · exact p1.elim
end
end VE

/-! built-ins over what is seen -/
namespace VE
open PySem PySem.Spec PyProof.Rows L2
variable [VEnv]
section
variable {X : Cx} {W : WX} {e a o d : Expr} {es : List Expr} {pos p pos' : Pos} {fa fb fo fi : M D} {fs : M (List D)} {x : Str} {k : Nat}
def eB1 (g : D → Option D) (fa : M D) : M D := fun env st => (fa env st).bind fun d env st => ret (g (vw st d)) env st
def C1Ok (X : Cx) (r : List V → Hp → VK → Prop) (g : D → Option D) : Prop := ∀ (F : Addr → Prop) (c : List Addr) (H : Hp) (x : V) (dx d : D) (Q : VK), LV X.K X.mg F c H x dx → g dx = some d → (∀ v, Rp X.K X.mg F c H v d → Q v H) →
    (∀ p o, H p = none → (∀ ps, o ≠ .tbl ps) → (∀ F' : Addr → Prop, Stp F c H F' c (upd H p o) → Rp X.K X.mg (FAdd F' p) c (upd H p o) (.ref p) d) → Q (.ref p) (upd H p o)) → r [x] H Q
theorem tB1_of {r : List V → Hp → VK → Prop} {g : D → Option D} (h : C1Ok X r g) : ∀ σ H Q, tE X W (eB1 g fa) σ H Q → tCB r (tCons (tE X W fa) tNil) σ H Q := fun σ H Q ⟨b, F, c, env, st, e1, e2, r0, p⟩ =>
  tE_at e1 e2 r0 p fun v d env1 st1 F1 c1 H1 s1 r1 rp1 p1 => by
    unfold ret at p1
    split at p1
    · rename_i d' ed
      have h1 := r1.lv rp1
      rw [e1, e2] at h1
      refine h F1 c1 H1 v _ d' Q h1 ed (fun v hv => Post.here r1 p1 v (by rw [e1, e2]; exact hv)) fun q o hq hot ho => ?_
      obtain ⟨s2, r2⟩ := r1.newO hq o
      obtain ⟨s3, r3⟩ := r2.frz (r1.nC hq) (r1.H0none hq) (fun i h => r1.nO hq i h) ⟨o, upd_same⟩ (fun ps z => hot ps (by rw [upd_same] at z; exact Option.some.inj z))
      exact p1 _ _ _ (s2.trans s3) r3 _ (by rw [e1, e2]; exact ho F1 s2)
    · exact p1.elim
theorem ve_b1 {id : String} {r : List V → Hp → VK → Prop} {g : D → Option D} (hc : CallR X (.builtin id) r) (hg : C1Ok X r g) (hm : X.mg x = none) (hv : bootBuiltins x = some (.builtin id)) (ha : VE X W e fa) (hgl : Gl X x := by rfl) (hn : x ≠ "__name__" := by decide) (hdb : (x == ("__debug__" : Str)) = false := by decide)
    (hs : starEach [e] X.env = (false, eval e X.env) :: starEach [] X.env := by rfl) (hpl : (backTo pos (starEach [] X.env)).any (·.1) = false := by rfl) : VE X W (.Call (.Name x p) [e] [] pos) (eB1 g fa) := PEof (pe_callB hc hgl hm hv (pa_cons ha pa_nil hs) hn hdb hs hpl) (tB1_of hg)
theorem ve_t1 {T : String} {r : List V → Hp → VK → Prop} {g : D → Option D} (hc : CallR X (.type T) r) (hg : C1Ok X r g) (hm : X.mg x = none) (hv : bootBuiltins x = some (.type T)) (ha : VE X W e fa) (hgl : Gl X x := by rfl) (hn : x ≠ "__name__" := by decide) (hdb : (x == ("__debug__" : Str)) = false := by decide)
    (hs : starEach [e] X.env = (false, eval e X.env) :: starEach [] X.env := by rfl) (hpl : (backTo pos (starEach [] X.env)).any (·.1) = false := by rfl) : VE X W (.Call (.Name x p) [e] [] pos) (eB1 g fa) := PEof (pe_callTy hc hgl hm hv (pa_cons ha pa_nil hs) hn hdb hs hpl) (tB1_of hg)
theorem one_len : C1Ok X (fun xs H Q => (∃ p ys, xs = [.ref p] ∧ (SqL X.K H p ys ∨ SqT X.K H p ys) ∧ Q (.int ys.length) H) ∨ (∃ z, xs = [.str z] ∧ z.length ≤ sizeLine ∧ Q (.int z.length) H)) lenD := fun F c H x dx d Q hx e q _ => by
  unfold lenD at e
  split at e
  · cases e
    obtain ⟨a, vs, rfl, h, r⟩ := hx
    exact .inl ⟨_, _, rfl, .inl (SqL.of h), q _ (by rw [r.length]; exact .int _)⟩
  · cases e
    cases hx with
    | tup h r => exact .inl ⟨_, _, rfl, .inr h.sq, q _ (by rw [r.length]; exact .int _)⟩
  · cases e
    cases hx with
    | scr h => exact .inl ⟨_, _, rfl, .inl h.sq, q _ (by rw [List.length_map]; exact .int _)⟩
  · split at e
    · cases hx; cases e; exact .inr ⟨_, rfl, by rw [sizeLine_eq]; assumption, q _ (.int _)⟩
    · cases e
  · cases e
theorem ve_len1 (hm : X.mg "len" = none) (ha : VE X W e fa) (hgl : Gl X "len" := by rfl) (hs : starEach [e] X.env = (false, eval e X.env) :: starEach [] X.env := by rfl) : VE X W (.Call (.Name "len" p) [e] [] pos) (eB1 lenD fa) := ve_b1 lenR one_len hm PySem.boot_len ha hgl (by decide) (by decide) hs
theorem one_tuple : C1Ok X (fun xs H Q => ∃ p ys, xs = [.ref p] ∧ ((SqL X.K H p ys ∧ ∀ l, H l = none → Q (.ref l) (upd H l (.tup ys))) ∨ (SqT X.K H p ys ∧ Q (.ref p) H))) tupD := fun F c H x dx d Q hx e q qn => by
  unfold tupD at e
  split at e
  · cases e
    obtain ⟨a, vs, rfl, h, r⟩ := hx
    exact ⟨_, _, rfl, .inl ⟨SqL.of h, fun l hl => qn l _ hl (fun _ z => by cases z) fun F' s => .tup (.inl ⟨.inr rfl, .inl upd_same⟩) ((r.stp s).stp ⟨fun _ h => .inl h, fun _ _ _ h => h, ⟨[], (List.append_nil c).symm⟩, fun _ _ h => h⟩)⟩⟩
  · cases e
    cases hx with
    | tup h r => exact ⟨_, _, rfl, .inr ⟨h.sq, q _ (.tup h r)⟩⟩
  · cases e
theorem ve_tuple1 (hm : X.mg "tuple" = none) (ha : VE X W e fa) (hgl : Gl X "tuple" := by rfl) (hs : starEach [e] X.env = (false, eval e X.env) :: starEach [] X.env := by rfl) : VE X W (.Call (.Name "tuple" p) [e] [] pos) (eB1 tupD fa) := ve_t1 call_tuple_of one_tuple hm (by decide +kernel) ha hgl (by decide) (by decide) hs
def mxI : List Int → Option Int
  | [] => none
  | x :: xs => some (xs.foldl (fun m y => if m < y then y else m) x)
def mnI : List Int → Option Int
  | [] => none
  | x :: xs => some (xs.foldl (fun m y => if y < m then y else m) x)
def maxD : D → Option D
  | .lst ds => (intsOf ds).bind fun ns => (mxI ns).map .int
  | _ => none
def minD : D → Option D
  | .lst ds => (intsOf ds).bind fun ns => (mnI ns).map .int
  | _ => none
theorem mx_fold : ∀ (xs : List Int) (x : Int), (∀ y ∈ x :: xs, y ≤ xs.foldl (fun m y => if m < y then y else m) x) ∧ xs.foldl (fun m y => if m < y then y else m) x ∈ x :: xs
  | [], x => by simp
  | y :: xs, x => by
    obtain ⟨h1, h2⟩ := mx_fold xs (if x < y then y else x)
    have hx : x ≤ (if x < y then y else x) := by split <;> omega
    have hy : y ≤ (if x < y then y else x) := by split <;> omega
    have h3 := h1 _ List.mem_cons_self
    rw [List.foldl_cons]
    refine ⟨fun z hz => ?_, ?_⟩
    · rcases List.mem_cons.mp hz with e | e
      · subst e; exact Int.le_trans hx h3
      · rcases List.mem_cons.mp e with e | e
        · subst e; exact Int.le_trans hy h3
        · exact h1 z (List.mem_cons_of_mem _ e)
    · rcases List.mem_cons.mp h2 with e | e
      · rw [e]; split <;> simp
      · exact List.mem_cons_of_mem _ (List.mem_cons_of_mem _ e)
theorem mn_fold : ∀ (xs : List Int) (x : Int), (∀ y ∈ x :: xs, xs.foldl (fun m y => if y < m then y else m) x ≤ y) ∧ xs.foldl (fun m y => if y < m then y else m) x ∈ x :: xs
  | [], x => by simp
  | y :: xs, x => by
    obtain ⟨h1, h2⟩ := mn_fold xs (if y < x then y else x)
    have hx : (if y < x then y else x) ≤ x := by split <;> omega
    have hy : (if y < x then y else x) ≤ y := by split <;> omega
    have h3 := h1 _ List.mem_cons_self
    rw [List.foldl_cons]
    refine ⟨fun z hz => ?_, ?_⟩
    · rcases List.mem_cons.mp hz with e | e
      · subst e; exact Int.le_trans h3 hx
      · rcases List.mem_cons.mp e with e | e
        · subst e; exact Int.le_trans h3 hy
        · exact h1 z (List.mem_cons_of_mem _ e)
    · rcases List.mem_cons.mp h2 with e | e
      · rw [e]; split <;> simp
      · exact List.mem_cons_of_mem _ (List.mem_cons_of_mem _ e)
theorem mxI_spec {ns : List Int} {m : Int} (h : mxI ns = some m) : m ∈ ns ∧ ∀ y ∈ ns, y ≤ m := by
  cases ns with
  | nil => cases h
  | cons x xs => cases h; exact ⟨(mx_fold xs x).2, (mx_fold xs x).1⟩
theorem mnI_spec {ns : List Int} {m : Int} (h : mnI ns = some m) : m ∈ ns ∧ ∀ y ∈ ns, m ≤ y := by
  cases ns with
  | nil => cases h
  | cons x xs => cases h; exact ⟨(mn_fold xs x).2, (mn_fold xs x).1⟩
theorem one_max : C1Ok X (rMax X.K) maxD := fun F c H x dx d Q hx e q _ => by
  unfold maxD at e
  split at e
  · obtain ⟨ns, h1, h2⟩ := Option.bind_eq_some_iff.mp e
    obtain ⟨m, h3, rfl⟩ := Option.map_eq_some_iff.mp h2
    obtain ⟨a, vs, rfl, h, r⟩ := hx
    rw [r.ints h1] at h
    obtain ⟨k1, k2⟩ := mxI_spec h3
    refine ⟨_, ns, rfl, SqL.of h, List.length_pos_of_mem k1, fun m' g1 g2 => ?_⟩
    have : m' = m := by have := g2 m k1; have := k2 m' g1; omega
    rw [this]; exact q _ (.int _)
  · cases e
theorem one_min : C1Ok X (rMin X.K) minD := fun F c H x dx d Q hx e q _ => by
  unfold minD at e
  split at e
  · obtain ⟨ns, h1, h2⟩ := Option.bind_eq_some_iff.mp e
    obtain ⟨m, h3, rfl⟩ := Option.map_eq_some_iff.mp h2
    obtain ⟨a, vs, rfl, h, r⟩ := hx
    rw [r.ints h1] at h
    obtain ⟨k1, k2⟩ := mnI_spec h3
    refine ⟨_, ns, rfl, SqL.of h, List.length_pos_of_mem k1, fun m' g1 g2 => ?_⟩
    have : m' = m := by have := g2 m k1; have := k2 m' g1; omega
    rw [this]; exact q _ (.int _)
  · cases e
theorem ve_max1 (hc : X.calm = true) (hm : X.mg "max" = none) (ha : VE X W e fa) (hgl : Gl X "max" := by rfl) (hs : starEach [e] X.env = (false, eval e X.env) :: starEach [] X.env := by rfl) : VE X W (.Call (.Name "max" p) [e] [] pos) (eB1 maxD fa) := ve_b1 (cr_max hc) one_max hm (by decide +kernel) ha hgl (by decide) (by decide) hs
theorem ve_min1 (hc : X.calm = true) (hm : X.mg "min" = none) (ha : VE X W e fa) (hgl : Gl X "min" := by rfl) (hs : starEach [e] X.env = (false, eval e X.env) :: starEach [] X.env := by rfl) : VE X W (.Call (.Name "min" p) [e] [] pos) (eB1 minD fa) := ve_b1 (cr_min hc) one_min hm (by decide +kernel) ha hgl (by decide) (by decide) hs
/-! two ints -/
def eB2 (g : D → D → Option D) (fa fb : M D) : M D := fun env st => (fa env st).bind fun x env st => (fb env st).bind fun y env st => ret (g x y) env st
def C2Ok (X : Cx) (r : List V → Hp → VK → Prop) (g : D → D → Option D) : Prop := ∀ (F : Addr → Prop) (c : List Addr) (H : Hp) (x y : V) (dx dy d : D) (Q : VK), Rp X.K X.mg F c H x dx → Rp X.K X.mg F c H y dy → g dx dy = some d → (∀ v, Rp X.K X.mg F c H v d → Q v H) →
    (∀ p o, H p = none → (∀ ps, o ≠ .tbl ps) → (∀ F' : Addr → Prop, Stp F c H F' c (upd H p o) → Rp X.K X.mg (FAdd F' p) c (upd H p o) (.ref p) d) → Q (.ref p) (upd H p o)) → r [x, y] H Q
theorem ve_b2 {id : String} {r : List V → Hp → VK → Prop} {g : D → D → Option D} (hc : CallR X (.builtin id) r) (hg : C2Ok X r g) (hm : X.mg x = none) (hv : bootBuiltins x = some (.builtin id)) (ha : VE X W e fa) (hb : VE X W a fb) (hgl : Gl X x := by rfl) (hn : x ≠ "__name__" := by decide) (hdb : (x == ("__debug__" : Str)) = false := by decide)
    (hs : starEach [e, a] X.env = (false, eval e X.env) :: starEach [a] X.env := by rfl) (hs2 : starEach [a] X.env = (false, eval a X.env) :: starEach [] X.env := by rfl) (hpl : (backTo pos (starEach [a] X.env)).any (·.1) = false := by rfl) : VE X W (.Call (.Name x p) [e, a] [] pos) (eB2 g fa fb) :=
  PEof (pe_callB hc hgl hm hv (pa_cons ha (pa_cons hb pa_nil hs2) hs) hn hdb hs hpl) fun σ H Q ⟨b, F, c, env, st, e1, e2, r0, p⟩ =>
  tE_at e1 e2 r0 p fun v d env1 st1 F1 c1 H1 s1 r1 rp1 p1 => tE_at e1 e2 r1 p1 fun u d2 env2 st2 F2 c2 H2 s2 r2 rp2 p2 => by
    unfold ret at p2
    split at p2
    · rename_i d' ed
      have k1 := rp1.stp s2
      rw [e1, e2] at k1 rp2
      refine hg F2 c2 H2 v u d d2 d' Q k1 rp2 ed (fun v hv => Post.here r2 p2 v (by rw [e1, e2]; exact hv)) fun q o hq hot ho => ?_
      obtain ⟨s3, r3⟩ := r2.newO hq o
      obtain ⟨s4, r4⟩ := r3.frz (r2.nC hq) (r2.H0none hq) (fun i h => r2.nO hq i h) ⟨o, upd_same⟩ (fun ps z => hot ps (by rw [upd_same] at z; exact Option.some.inj z))
      exact p2 _ _ _ (s3.trans s4) r4 _ (by rw [e1, e2]; exact ho F2 s3)
    · exact p2.elim
def max2D : D → D → Option D
  | .int i, .int j => some (.int (if j > i then j else i))
  | _, _ => none
def min2D : D → D → Option D
  | .int i, .int j => some (.int (if j < i then j else i))
  | _, _ => none
noncomputable def dvmD : D → D → Option D
  | .int i, .int j => if divOk j then some (.tup [.int (i / j), .int (i % j)]) else none
  | _, _ => none
theorem ve_max2 (hc : X.calm = true) (hm : X.mg "max" = none) (ha : VE X W e fa) (hb : VE X W a fb) (hgl : Gl X "max" := by rfl) (hs : starEach [e, a] X.env = (false, eval e X.env) :: starEach [a] X.env := by rfl) (hs2 : starEach [a] X.env = (false, eval a X.env) :: starEach [] X.env := by rfl) (hpl : (backTo pos (starEach [a] X.env)).any (·.1) = false := by rfl) : VE X W (.Call (.Name "max" p) [e, a] [] pos) (eB2 max2D fa fb) :=
  ve_b2 (call_max2 hc) (fun F c H x y dx dy d Q hx hy e q _ => by
    unfold max2D at e
    split at e
    · cases hx; cases hy; cases e; exact ⟨_, _, rfl, q _ (.int _)⟩
    · cases e) hm (by decide +kernel) ha hb hgl (by decide) (by decide) hs hs2 hpl
theorem ve_min2 (hc : X.calm = true) (hm : X.mg "min" = none) (ha : VE X W e fa) (hb : VE X W a fb) (hgl : Gl X "min" := by rfl) (hs : starEach [e, a] X.env = (false, eval e X.env) :: starEach [a] X.env := by rfl) (hs2 : starEach [a] X.env = (false, eval a X.env) :: starEach [] X.env := by rfl) (hpl : (backTo pos (starEach [a] X.env)).any (·.1) = false := by rfl) : VE X W (.Call (.Name "min" p) [e, a] [] pos) (eB2 min2D fa fb) :=
  ve_b2 (call_min2 hc) (fun F c H x y dx dy d Q hx hy e q _ => by
    unfold min2D at e
    split at e
    · cases hx; cases hy; cases e; exact ⟨_, _, rfl, q _ (.int _)⟩
    · cases e) hm (by decide +kernel) ha hb hgl (by decide) (by decide) hs hs2 hpl
/-! slices of any kind -/
def slA (d : D) (lo hi : Option Int) : Option D := match d with
  | .tup xs => some (.tup (cutD xs lo hi))
  | .lst xs => some (.lst (cutD xs lo hi))
  | .str z => if z.length ≤ 16777216 then some (.str (cutS z lo hi)) else none
  | _ => none
def eSlA (fa : M D) (fl fh : M (Option Int)) : M D := fun env st => (fa env st).bind fun d env st => (fl env st).bind fun l env st => (fh env st).bind fun h env st => ret (slA (vw st d) l h) env st
theorem ve_slA {lo hi : Option Expr} {fl fh : M (Option Int)} {p2 : Pos} (ha : VE X W e fa) (hl : VO X W lo fl) (hh : VO X W hi fh) : VE X W (.Subscript e (.Slice lo hi none p2) pos) (eSlA fa fl fh) := PEof (pe_slice (SlR.or sl_tupA (SlR.or sl_list sl_str)) ha hl hh) fun σ H Q ⟨b, F, c, env, st, e1, e2, r, p⟩ =>
  tE_at e1 e2 r p fun v d env1 st1 F1 c1 H1 s1 r1 rp1 p1 => tO_at e1 e2 r1 p1 fun l env2 st2 F2 c2 H2 s2 r2 p2 => tO_at e1 e2 r2 p2 fun h env3 st3 F3 c3 H3 s3 r3 p3 => by
    have lv := r3.lv (rp1.stp (s2.trans s3))
    have nw : ∀ {d' : D} {o : HO} {q : Addr}, H3 q = none → (∀ ps, o ≠ .tbl ps) → Post b W F3 c3 σ H3 (fun d _ _ F' c' H' => ∀ v, Rp b.K b.mg F' c' H' v d → Q v H') (.ok d' env3 st3) → (∀ F' : Addr → Prop, Stp F3 c3 H3 F' c3 (upd H3 q o) → Rp b.K b.mg (FAdd F' q) c3 (upd H3 q o) (.ref q) d') → Q (.ref q) (upd H3 q o) := fun {d' o q} hq hot p ho => by
      obtain ⟨s4, r4⟩ := r3.newO hq o
      obtain ⟨s5, r5⟩ := r4.frz (r3.nC hq) (r3.H0none hq) (fun i h => r3.nO hq i h) ⟨o, upd_same⟩ (fun ps z => hot ps (by rw [upd_same] at z; exact Option.some.inj z))
      exact p _ _ _ (s4.trans s5) r5 _ (ho F3 s4)
    unfold ret slA at p3
    split at p3
    · rename_i d' ed
      split at ed
      · rename_i xs ex
        rw [ex] at lv
        cases ed
        cases lv with
        | tup hx rs =>
          refine .inl ⟨_, _, rfl, e1 ▸ hx.sq, fun z => ?_, fun _ q hq => nw hq (fun _ z => by cases z) p3 fun F' s => .tup (.inl ⟨.inr rfl, .inl upd_same⟩) (((rs.cut l h).stp s).stp ⟨fun _ h => .inl h, fun _ _ _ h => h, ⟨[], (List.append_nil c3).symm⟩, fun _ _ h => h⟩)⟩
          refine Post.here r3 p3 _ (.tup hx ?_)
          rw [rs.length] at z
          have ec : cutD xs l h = xs := by unfold cutD; rw [z.1, z.2]; simp
          rw [ec]; exact rs
      · rename_i xs ex
        rw [ex] at lv
        cases ed
        obtain ⟨a, vs, rfl, hx, rs⟩ := lv
        exact .inr (.inl ⟨_, _, rfl, SqL.of hx, fun q hq => nw hq (fun _ z => by cases z) p3 fun F' s => .lst (.inr rfl) upd_same (((rs.cut l h).stp s).stp ⟨fun _ h => .inl h, fun _ _ _ h => h, ⟨[], (List.append_nil c3).symm⟩, fun _ _ h => h⟩)⟩)
      · rename_i z ex
        rw [ex] at lv
        split at ed
        · cases ed
          cases lv
          exact .inr (.inr ⟨_, rfl, by rw [sizeLine_eq]; assumption, Post.here r3 p3 _ (.str _)⟩)
        · cases ed
      · cases ed
    · exact p3.elim
/-! sorted(d), d a dict -/
def eSortK (fa : M D) : M D := fun env st => (fa env st).bind fun d env st => match d with
  | .ref n => (match st[n]? with
    | some (.dct kvs) => if kvs.all (fun kv => isStr (keyD kv.1)) && decide (kvs.length < 64) then .ok (.lst (srtB kD (kvs.map fun kv => keyD kv.1))) env st else .bad
    | _ => .bad)
  | _ => .bad
theorem rise_srt : ∀ (l : List Str) (p : Str), risingS p l = true → (p :: l).Pairwise fun a b => ltS b a = false
  | [], p, _ => List.pairwise_singleton _ _
  | x :: r, p, h => by
    have h' : (!ltCps x.cps.toList p.cps.toList && risingS x r) = true := h
    rw [Bool.and_eq_true, Bool.not_eq_true', ltCps_eq] at h'
    have ih := rise_srt r x h'.2
    have hx : ltS x p = false := h'.1
    refine List.pairwise_cons.mpr ⟨fun z hz => ?_, ih⟩
    rcases List.mem_cons.mp hz with e | e
    · subst e; exact hx
    · have hz' := (List.pairwise_cons.mp ih).1 z e
      unfold ltS at *
      simp only [decide_eq_false_iff_not] at *
      exact fun hzp => hx (List.lt_of_le_of_lt (List.not_lt.mp hz') hzp)
theorem sortedS_srt {ys : List Str} (h : sortedS ys = true) : SrtO.Srtd (fun a b => lexK (kD a) (kD b)) (ys.map D.str) := by
  have key : ys.Pairwise fun a b => ltS b a = false := by
    cases ys with
    | nil => exact List.Pairwise.nil
    | cons x r => exact rise_srt r x h
  refine List.pairwise_map.mpr (key.imp fun {a b} q => ?_)
  show lexK [.inr b] [.inr a] = false
  rw [lex1']
  exact q
theorem strs_of_keys : ∀ {kvs : List (Key × D)}, kvs.all (fun kv => isStr (keyD kv.1)) = true → ∃ ks : List Str, kvs.map (·.1) = ks.map Sum.inr ∧ (kvs.map fun kv => keyD kv.1) = ks.map D.str
  | [], _ => ⟨[], rfl, rfl⟩
  | (k, d) :: kvs, h => by
    simp only [List.all_cons, Bool.and_eq_true] at h
    obtain ⟨ks, h1, h2⟩ := strs_of_keys h.2
    cases k with
    | inl i => simp [keyD, isStr] at h
    | inr x => exact ⟨x :: ks, by simp [h1], by rw [List.map_cons, List.map_cons, h2]; rfl⟩
theorem ve_sortK (hc : X.calm = true) (hm : X.mg "sorted" = none) (ha : VE X W e fa) (hgl : Gl X "sorted" := by rfl) (hs : starEach [e] X.env = (false, eval e X.env) :: starEach [] X.env := by rfl) (hpl : (backTo pos (starEach [] X.env)).any (·.1) = false := by rfl) : VE X W (.Call (.Name "sorted" p) [e] [] pos) (eSortK fa) :=
  PEof (pe_callB (call_sortedD hc) hgl hm PyProof.Rows.boot_sorted (pa_cons ha pa_nil hs) (by decide) (by decide) hs hpl) fun σ H Q ⟨b, F, c, env, st, e1, e2, r0, p⟩ => tE_at e1 e2 r0 p fun v d env1 st1 F1 c1 H1 s1 r1 rp1 p1 => by
    split at p1
    · rename_i n
      split at p1
      · rename_i kvs es
        split at p1
        · rename_i hh
          rw [Bool.and_eq_true, decide_eq_true_eq] at hh
          obtain ⟨a, vk, rfl, hc', h1, h2, h3⟩ := r1.dget rp1 es (.inl 0)
          obtain ⟨ks, k1, k2⟩ := strs_of_keys hh.1
          have kl : ks.length = kvs.length := by simpa using (congrArg List.length k1).symm
          refine ⟨a, vk, ks, rfl, .inl h1, h2.trans k1, by omega, fun ys q pm so hq => ?_⟩
          have e9 : ys.map D.str = srtB kD (kvs.map fun kv => keyD kv.1) := by
            rw [k2]
            refine srtB_uniq (p := fun d => isStr d = true) (fun x y hx hy e => ?_) (fun x hx => ?_) (sortedS_srt so) (pm.map _)
            · cases x <;> simp [isStr] at hx
              cases y <;> simp [isStr] at hy
              simpa [kD] using e
            · obtain ⟨z, _, rfl⟩ := List.mem_map.mp hx; rfl
          rw [← e9] at p1
          obtain ⟨s2, r2⟩ := r1.newO hq (.lst (ys.map V.str))
          obtain ⟨s3, r3⟩ := r2.frz (r1.nC hq) (r1.H0none hq) (fun i h => r1.nO hq i h) ⟨_, upd_same⟩ (fun ps z => by rw [upd_same] at z; cases z)
          have rr : ∀ ys : List Str, Rps b.K b.mg (FAdd F1 q) c1 (upd H1 q (.lst (ys.map V.str))) (ys.map V.str) (ys.map D.str) → True := fun _ _ => trivial
          have go : ∀ (H' : Hp) (F' : Addr → Prop) (zs : List Str), Rps b.K b.mg F' c1 H' (zs.map V.str) (zs.map D.str) := fun H' F' zs => by
            induction zs with
            | nil => exact .nil
            | cons z zs ih => exact .cons (.str z) ih
          exact p1 _ _ _ (s2.trans s3) r3 _ (.lst (.inr rfl) upd_same (go _ _ ys))
        · exact p1.elim
      · exact p1.elim
    · exact p1.elim
/-! o.index(x), o a list -/
def idxD (x : D) : List D → Nat → Option Nat
  | [], _ => none
  | y :: ys, i => if eqD y x then some i else idxD x ys (i + 1)
def eIdx (fo fa : M D) : M D := fun env st => (fo env st).bind fun r env st => match vw st r with
  | .lst _ => (fa env st).bind fun x env st => (match vw st r with
    | .lst ys => if plain 20 x && plain 20 (.lst ys) then (match idxD x ys 0 with
      | some j => .ok (.int (j : Nat)) env st
      | none => .bad) else .bad
    | _ => .bad)
  | _ => .bad
theorem idxD_spec {x : D} : ∀ {ys : List D} {i j : Nat}, idxD x ys i = some j → ∃ m z, j = i + m ∧ ys[m]? = some z ∧ eqD z x = true ∧ ∀ m' z', m' < m → ys[m']? = some z' → eqD z' x = false
  | [], _, _, h => by simp [idxD] at h
  | y :: ys, i, j, h => by
    unfold idxD at h
    split at h
    · rename_i e
      cases h
      exact ⟨0, y, rfl, rfl, e, fun m' z' h => by omega⟩
    · rename_i e
      obtain ⟨m, z, h1, h2, h3, h4⟩ := idxD_spec h
      refine ⟨m + 1, z, by omega, by simpa using h2, h3, fun m' z' hm hz => ?_⟩
      cases m' with
      | zero => simp at hz; subst hz; simpa using e
      | succ m' => exact h4 m' z' (by omega) (by simpa using hz)
theorem toPys_at : ∀ {ys : List D} {m : Nat} {z : D}, ys[m]? = some z → (toPys ys)[m]? = some (toPy z)
  | [], m, z, h => by simp at h
  | y :: ys, 0, z, h => by simp at h; subst h; simp [toPys]
  | y :: ys, m + 1, z, h => by simp only [toPys]; simpa using toPys_at (ys := ys) (by simpa using h)
theorem toPys_at' : ∀ {ys : List D} {m : Nat} {q : PyData}, (toPys ys)[m]? = some q → ∃ z, ys[m]? = some z ∧ q = toPy z
  | [], m, z, h => by simp [toPys] at h
  | y :: ys, 0, q, h => by simp [toPys] at h; exact ⟨y, rfl, h.symm⟩
  | y :: ys, m + 1, q, h => by
    simp only [toPys] at h
    obtain ⟨z, h1, h2⟩ := toPys_at' (ys := ys) (m := m) (by simpa using h)
    exact ⟨z, by simpa using h1, h2⟩
theorem ve_idx {apos : Pos} (hr : Room k X.A) (ho : VE X W o fo) (ha : VE X W a fa) (hbase : attributeBase o "index" X.env (eval o X.env) = eval o X.env := by rfl)
    (hfew : ((backTo pos (starEach [a] X.env)).all (fun x => !x.1) && (backToKw pos (keywordEach [] X.env)).all (fun x => x.1.isSome)
      && decide (([a] : List Expr).length + ([] : List Keyword).length + (if ([] : List Keyword).isEmpty then 0 else 1) < 30)) = true := by rfl)
    (hline : (apos.endLine == pos.line) = true := by rfl) (hs : starEach [a] X.env = (false, eval a X.env) :: starEach [] X.env := by rfl) (hplain : (backTo pos (starEach [] X.env)).any (·.1) = false := by rfl) :
    VE X W (.Call (.Attribute o "index" apos) [a] [] pos) (eIdx fo fa) := PEof (pe_bm PySem.F.plainAttrs_list PySem.F.slot_list_index PySem.F.type_list_index (mt_indexD (huOf1 hr)) ho (pa_cons ha pa_nil hs) hbase hfew hline hs hplain) fun σ H Q ⟨b, F, c, env, st, e1, e2, r, p⟩ =>
  tE_at e1 e2 r p fun v d env1 st1 F1 c1 H1 s1 r1 rp1 p1 => by
    split at p1
    · rename_i ds0 ev0
      have lv0 := r1.lv rp1
      rw [ev0] at lv0
      obtain ⟨q, vs0, rfl, hq0, _⟩ := lv0
      refine ⟨.inl ⟨rfl, _, SqL.of hq0⟩, tE_at e1 e2 r1 p1 fun u y env2 st2 F2 c2 H2 s2 r2 rp2 p2 => ?_⟩
      split at p2
      · rename_i ys ev
        have lv := r2.lv (rp1.stp s2)
        rw [ev] at lv
        split at p2
        · rename_i hp
          rw [Bool.and_eq_true] at hp
          split at p2
          · rename_i j ej
            have k1 := LV.dp lv hp.2
            have k2 := rp2.dp 20 hp.1
            have k3 := shaped_of (by decide) hp.2
            simp only [toPy] at k1 k3
            rw [e1] at k1 k2
            obtain ⟨m, z, h1, h2, h3, h4⟩ := idxD_spec ej
            rw [Nat.zero_add] at h1
            subst h1
            refine ⟨q, u, _, _, j, _, rfl, rfl, k1, k2, k3, shaped_of (by decide) hp.1, toPys_at h2, h3, fun m' z' hm hz => ?_, Post.here r2 p2 _ (.int _)⟩
            obtain ⟨z2, g1, rfl⟩ := toPys_at' hz
            exact h4 m' z2 hm g1
          · exact p2.elim
        · exact p2.elim
      · exact p2.elim
    · exact p1.elim
end
end VE

namespace VE
open PySem PySem.Spec PyProof.Rows L2
variable [VEnv]
section
variable {X : Cx} {W : WX} {e a o d tg iter : Expr} {es : List Expr} {pos p pos' : Pos} {fa fb fo fi : M D} {fs : M (List D)} {x : Str} {k : Nat}
/-- x = [.. for ..], x a local, the list never changed -/
theorem vs_setCompV {elt : Expr} {ifs : List Expr} {scope : Scope} {own : List (Str × Nat)} {is : List Nat} {gg : TG} {fi : M (List D)} {t : D → EnvD → Option EnvD} {tt : M Bool} {fe : M D} {i : Nat} {x : Str} {py sp : Pos} (hc : X.calm = true) (hN : X.N.Nodup) (hi : VI X W tg iter fi) (ok : BlkOk X.N X.env.scope scope own)
    (his : ∀ i ∈ is, i ∈ own.map (·.2)) (hg : ∀ (s : Shared) (H : Hp) (C : Addr) (cl : List (Str × Addr)) (fp : List Addr), VG (X.blk s H scope (compEnvC scope cl C X.env) fp) tg gg is t)
    (ht : ∀ (s : Shared) (H : Hp) (C : Addr) (cl : List (Str × Addr)) (fp : List Addr), PTs (X.blk s H scope (compEnvC scope cl C X.env) fp) ifs (tT X W0 tt))
    (he : ∀ (s : Shared) (H : Hp) (C : Addr) (cl : List (Str × Addr)) (fp : List Addr), VE (X.blk s H scope (compEnvC scope cl C X.env) fp) W0 elt fe) (hy : X.N[i]? = some x := by rfl) (hyl : X.env.scope.names.lookup x = some .local := by rfl)
    (hsw : swapsWith (.ListComp elt [⟨tg, iter, ifs, 0⟩] scope pos) (some (.Name x py)) sp.line X.env = pure true := by exact sw_true rfl rfl rfl (by decide +kernel)) (hs : ∀ x, foldedSetIterable iter X.env x = pure x := by intro _; rfl) :
    VS X W (.Assign [.Name x py] (.ListComp elt [⟨tg, iter, ifs, 0⟩] scope pos) sp) (sSet i (eComp fi t (own.map (·.2)) tt fe)) := by
  obtain ⟨wi, pi, ki⟩ := hi
  refine ⟨fun pins s0 σ H D₀ I ⟨b, F, c, env, st, e1, e2, r, p⟩ => (ps_setLc (te := tE X W0 fe) hc hN hy hyl hsw pi ok (fun s H C cl fp => (hg s H C cl fp).1) ht he hs).run pins s0 σ H D₀ I ?_⟩
  refine comp_of (W := W) ki his (hg s0 H 0 [] []).2 σ H _ (sF_at e1 e2 r p fun a d env1 st1 F1 c1 H1 s1 r1 h1 h2 h3 h4 h5 p1 => ?_)
  obtain ⟨s2, r2⟩ := r1.frz h2 h3 h4 h5.trk h5.ntbl
  exact PostS.here (P := fun fl _ _ F c σ H => FlOk b D₀ F c σ H fl) (r2.put h5.rp) (p1.stp s2)
end
end VE
namespace VE
open PySem PySem.Spec PyProof.Rows L2
variable [VEnv]
section
variable {X : Cx} {W : WX} {e : Expr} {pos p tpos : Pos} {elts : List Expr} {kk : Nat} {fa : M D}
/-- enumerate of a list or a tuple -/
def iEnA (fa : M D) : M (List D) := fun env st => (fa env st).bind fun d env st => match d with
  | .lst xs => .ok (enuD 0 xs) env st
  | .tup xs => .ok (enuD 0 xs) env st
  | _ => .bad
theorem vi_enA (hm : X.mg "enumerate" = none) (h : VE X W e fa) (hg : Gl X "enumerate" := by rfl) (hs : starEach [e] X.env = [(false, eval e X.env)] := by rfl) :
    VI X W (.Tuple elts kk tpos) (.Call (.Name "enumerate" p) [e] [] pos) (iEnA fa) := by
  have va := va_cons h va_nil hs
  obtain ⟨w1, p1, k1⟩ := vi_enL (elts := elts) (kk := kk) (tpos := tpos) (p := p) (pos := pos) hm va hg hs
  obtain ⟨w2, p2, k2⟩ := vi_enT (elts := elts) (kk := kk) (tpos := tpos) (p := p) (pos := pos) hm va hg hs
  refine ⟨_, PI.or p1 p2, fun σ H R ⟨b, F, c, env, st, e1, e2, r, q⟩ => ?_⟩
  unfold iEnA at q
  cases hf : fa env st with
  | bad => rw [hf] at q; exact q.elim
  | ex x env1 st1 =>
    rw [hf] at q
    exact .inl (k1 σ H R ⟨b, F, c, env, st, e1, e2, r, by unfold iEnL eCons; rw [hf]; exact q⟩)
  | ok d env1 st1 =>
    rw [hf] at q
    cases d with
    | lst xs => exact .inl (k1 σ H R ⟨b, F, c, env, st, e1, e2, r, by unfold iEnL eCons; rw [hf]; exact q⟩)
    | tup xs => exact .inr (k2 σ H R ⟨b, F, c, env, st, e1, e2, r, by unfold iEnT eCons; rw [hf]; exact q⟩)
    | _ => exact q.elim
end
end VE

/-! list(zip(xs, ys)): the tuples stay -/
namespace VE
open PySem PySem.Spec PyProof.Rows L2
variable [VEnv]
namespace ZL
theorem nolen : typeLookup (.type "zip") "__len__" = pure none := by rw [typeLookup_type, builtinLookup_eq_fast]; kernel_rfl
theorem nohint : typeLookup (.type "zip") "__length_hint__" = pure none := by rw [typeLookup_type, builtinLookup_eq_fast]; kernel_rfl
abbrev LObj (acc : Array Value) (c : Nat) : Obj := { cls := .type "list", dict := none, data := .seq acc c, slots := #[] }
section
variable {prog : Program} {w : World} {A : Around} {z TI TO i1 i2 l1 l2 S : Addr} {xs ys : Array Value} {h0 : Heap}
/-- the walk's state, i pairs told; the list that grows at S -/
structure ZSt (z TI TO i1 i2 l1 l2 S : Addr) (xs ys : Array Value) (h0 : Heap) (i : Nat) (acc : Array Value) (h : Heap) : Prop where
  ti : PySem.IsPair h TI (.ref i1) (.ref i2)
  it1 : h.IsListIter i1 l1 i
  it2 : h.IsListIter i2 l2 i
  lx : h.IsList l1 xs
  ly : h.IsList l2 ys
  zz : (IsZip h z TI TO .none ∧ ∃ a b, PySem.IsPair h TO a b) ∨ ∃ T f oT, IsZipHeld h z TI TO T f ∧ h.get? T = some oT ∧ T ≠ z ∧ T ≠ i1 ∧ T ≠ i2 ∧ T ≠ S
  sl : ∃ c, h.get? S = some (LObj acc c)
  nn : acc.size = i
  tt : ∀ (j : Nat) v, acc[j]? = some v → ∃ T x y, v = .ref T ∧ xs[j]? = some x ∧ ys[j]? = some y ∧ PySem.IsPair h T x y ∧ h0.objs.size ≤ T ∧ T ≠ S ∧ T ≠ z ∧ T ≠ TO ∧ T ≠ i1 ∧ T ≠ i2
  dd : ∀ (j k : Nat) v, acc[j]? = some v → acc[k]? = some v → j = k
  kk : ∀ b o, h0.get? b = some o → b ≠ S → b ≠ z → b ≠ TO → b ≠ i1 → b ≠ i2 → h.get? b = some o
/-- at the end -/
structure ZEnd (z TO i1 i2 S : Addr) (xs ys : Array Value) (h0 : Heap) (acc : Array Value) (h : Heap) : Prop where
  sl : ∃ c, h.get? S = some (LObj acc c)
  nn : acc.size = min xs.size ys.size
  tt : ∀ (j : Nat) v, acc[j]? = some v → ∃ T x y, v = .ref T ∧ xs[j]? = some x ∧ ys[j]? = some y ∧ PySem.IsPair h T x y ∧ h0.objs.size ≤ T ∧ T ≠ S
  dd : ∀ (j k : Nat) v, acc[j]? = some v → acc[k]? = some v → j = k
  kk : ∀ b o, h0.get? b = some o → b ≠ S → b ≠ z → b ≠ TO → b ≠ i1 → b ≠ i2 → h.get? b = some o
theorem ZSt.fin {acc : Array Value} {h h' : Heap} (st : ZSt z TI TO i1 i2 l1 l2 S xs ys h0 (min xs.size ys.size) acc h) (hz : S ≠ z) (hTO : S ≠ TO) (h1 : S ≠ i1) (h2 : S ≠ i2)
    (k : ∀ c o, c ≠ z → c ≠ TO → c ≠ i1 → c ≠ i2 → h.get? c = some o → h'.get? c = some o) : ZEnd z TO i1 i2 S xs ys h0 acc h' where
  sl := let ⟨c, e⟩ := st.sl; ⟨c, k _ _ hz hTO h1 h2 e⟩
  nn := st.nn
  tt := fun j v hv => by
    obtain ⟨T, x, y, r1, r2, r3, r4, r5, r6, r7, r8, r9, r10⟩ := st.tt j v hv
    exact ⟨T, x, y, r1, r2, r3, k _ _ r7 r8 r9 r10 r4, r5, r6⟩
  dd := st.dd
  kk := fun b o e q0 q1 q2 q3 q4 => k _ _ q1 q2 q3 q4 (st.kk b o e q0 q1 q2 q3 q4)
theorem loop {R : Result → Shared → Prop} (D : ZipApart z TI TO i1 i2 l1 l2) (hh : A.handled = none) (hTI : TI ≠ S) (hl1 : l1 ≠ S) (hl2 : l2 ≠ S) (hz : S ≠ z) (hTO : S ≠ TO) (h1 : S ≠ i1) (h2 : S ≠ i2) (hn : min xs.size ys.size ≤ sizeLine) (res : Value) :
    ∀ (k i : Nat) (s : Shared) (acc : Array Value), min xs.size ys.size - i = k → i ≤ min xs.size ys.size → ZSt z TI TO i1 i2 l1 l2 S xs ys h0 i acc s.heap → (∀ b o, h0.get? b = some o → ∃ u, s.heap.get? b = some u) → (∃ u, s.heap.get? TO = some u) → h0.objs.size ≤ s.heap.objs.size →
    (∀ h' acc', ZEnd z TO i1 i2 S xs ys h0 acc' h' → R (.ok (.ret res)) { s with heap := h' }) →
    codeAny (model prog w) A (.builtin "list.extend.loop" ⟨[.ref S, .ref z, res], []⟩) R s := by
  intro k
  induction k with
  | zero =>
    intro i s acc hk hi st hb hto hsz hR
    have hin : i = min xs.size ys.size := by omega
    subst hin
    refine codeAny_builtin F.entry_extend_loop ?_
    rw [Around.under_plainId F.plain_extend_loop _]
    show wpAny _ A.in1 (pyNext (.ref z) >>= _) _ _ s
    have hend : xs[min xs.size ys.size]? = none ∨ ys[min xs.size ys.size]? = none := by
      rcases Nat.le_total xs.size ys.size with h | h
      · exact .inl (Array.getElem?_eq_none (by omega))
      · exact .inr (Array.getElem?_eq_none (by omega))
    rcases st.zz with ⟨hzz, a, b, hTOo⟩ | ⟨T, f, oT, hzz, hT, r1, r2, r3, r4⟩
    · refine wpAny_bind (wpAny_pyNext_zip_end (by simpa using hh) D hzz st.ti hTOo st.it1 st.it2 st.lx st.ly hend fun h' hk' => ?_)
      exact wpAny_pure (hR h' acc (st.fin hz hTO h1 h2 hk'))
    · refine wpAny_bind (wpAny_pyNext_zip_end_held (by simpa using hh) D hzz hT st.ti st.it1 st.it2 st.lx st.ly hend fun h' hk' => ?_)
      exact wpAny_pure (hR h' acc (st.fin hz hTO h1 h2 fun c o q1 q2 q3 q4 e => hk' c o q1 q3 q4 e))
  | succ k ih =>
    intro i s acc hk hi st hb hto hsz hR
    have hlt : i < min xs.size ys.size := by omega
    refine codeAny_builtin F.entry_extend_loop ?_
    rw [Around.under_plainId F.plain_extend_loop _]
    show wpAny _ A.in1 (pyNext (.ref z) >>= _) _ _ s
    have hix : i < xs.size := by omega
    have hiy : i < ys.size := by omega
    have ex := Array.getElem?_eq_getElem hix
    have ey := Array.getElem?_eq_getElem hiy
    have lt : ∀ {c o}, s.heap.get? c = some o → s.heap.objs.size ≠ c := fun e => Nat.ne_of_gt (Heap.lt_size e)
    have n1 : s.heap.objs.size ≠ i1 := let ⟨_, e, _⟩ := st.it1; lt e
    have n2 : s.heap.objs.size ≠ i2 := let ⟨_, e, _⟩ := st.it2; lt e
    have nTO : s.heap.objs.size ≠ TO := let ⟨_, e⟩ := hto; lt e
    obtain ⟨c, hS⟩ := st.sl
    have nS : s.heap.objs.size ≠ S := lt hS
    have nz : s.heap.objs.size ≠ z := by
      rcases st.zz with ⟨hz, _⟩ | ⟨T, f, oT, hz, _⟩
      · exact lt hz
      · exact lt hz
    -- one pair: T is new
    have step : ∀ (h' : Heap), PySem.IsPair h' s.heap.objs.size xs[i] ys[i] → h'.IsListIter i1 l1 (i + 1) → h'.IsListIter i2 l2 (i + 1) → h'.objs.size = s.heap.objs.size + 1 →
        ((IsZip h' z TI TO .none ∧ ∃ a b, PySem.IsPair h' TO a b) ∨ ∃ T f oT, IsZipHeld h' z TI TO T f ∧ h'.get? T = some oT ∧ T ≠ z ∧ T ≠ i1 ∧ T ≠ i2 ∧ T ≠ S) → (∃ u, h'.get? TO = some u) →
        (∀ c o, c ≠ z → c ≠ TO → c ≠ i1 → c ≠ i2 → s.heap.get? c = some o → h'.get? c = some o) →
        (∀ b o, h0.get? b = some o → ∃ u, h'.get? b = some u) →
        wpAny (model prog w) A.in1 (updateSeq S (·.push (.ref s.heap.objs.size)) >>= fun _ => again (.builtin "list.extend.loop" ⟨[.ref S, .ref z, res], []⟩))
          (fun fin s' => match fin with | .done f => R (.ok f) s' | .again c' => c'.quiet = true ∧ codeAny (model prog w) A c' R s') (fun e s' => R (.error e) s') { s with heap := h' } := by
      intro h' g1 g2 g3 g4 g5 g6 gk gb
      have hS' := gk _ _ hz hTO h1 h2 hS
      have pz : (acc.push (.ref s.heap.objs.size)).size ≤ sizeLine + 1 := by rw [Array.size_push, st.nn]; omega
      refine wpAny_bind ?_
      refine wpAny_updateSeq hS' rfl (wpAny_pure ⟨plainId_quiet F.plain_extend_loop _, ?_⟩) (by rw [st.nn]; omega) pz
      have oth : ∀ b o, b ≠ S → h'.get? b = some o → (h'.update S (Obj.mapSeq (·.push (.ref s.heap.objs.size)))).get? b = some o := fun b o hb e => (Heap.get?_update_other _ _ (Ne.symm hb)).trans e
      have hSS := Heap.get?_update_self (Obj.mapSeq (·.push (Value.ref s.heap.objs.size))) hS' rfl
      refine ih (i + 1) _ (acc.push (.ref s.heap.objs.size)) (by omega) hlt ?_ (fun b o e => ?_) ?_ (by show h0.objs.size ≤ (h'.update _ _).objs.size; rw [Heap.size_update]; omega) hR
      · refine ⟨oth _ _ hTI (gk _ _ D.TIz D.TITO D.TIi1 D.TIi2 st.ti), g2.at fun o e => oth _ o (Ne.symm h1) e, g3.at fun o e => oth _ o (Ne.symm h2) e,
          (st.lx.at fun o e => oth _ o hl1 (gk _ _ D.l1z D.l1TO D.l1i1 D.l1i2 e)), (st.ly.at fun o e => oth _ o hl2 (gk _ _ D.l2z D.l2TO D.l2i1 D.l2i2 e)), ?_, ⟨_, hSS⟩, by rw [Array.size_push, st.nn], ?_, ?_, ?_⟩
        · rcases g5 with ⟨q1, a, b, q2⟩ | ⟨T, f, oT, q1, q2, r1, r2, r3, r4⟩
          · exact .inl ⟨oth _ _ (Ne.symm hz) q1, a, b, oth _ _ (Ne.symm hTO) q2⟩
          · exact .inr ⟨T, f, oT, oth _ _ (Ne.symm hz) q1, oth _ _ r4 q2, r1, r2, r3, r4⟩
        · intro j v hv
          rw [Array.getElem?_push] at hv
          split at hv
          · rename_i e
            cases hv
            rw [st.nn] at e
            subst e
            exact ⟨_, _, _, rfl, ex, ey, oth _ _ nS g1, hsz, nS, nz, nTO, n1, n2⟩
          · obtain ⟨T, x, y, r1, r2, r3, r4, r5, r6, r7, r8, r9, r10⟩ := st.tt j v hv
            exact ⟨T, x, y, r1, r2, r3, oth _ _ r6 (gk _ _ r7 r8 r9 r10 r4), r5, r6, r7, r8, r9, r10⟩
        · have old : ∀ (j : Nat) v, acc[j]? = some v → v ≠ .ref s.heap.objs.size := fun j v hv e => by
            obtain ⟨T, x, y, r1, r2, r3, r4, _⟩ := st.tt j v hv
            rw [r1] at e
            cases e
            exact absurd rfl (lt r4)
          intro j k v hj hk
          rw [Array.getElem?_push] at hj hk
          split at hj
          · rename_i ej
            cases hj
            split at hk
            · rename_i ek; omega
            · exact absurd rfl (old k _ hk)
          · split at hk
            · cases hk; exact absurd rfl (old j _ hj)
            · exact st.dd j k v hj hk
        · exact fun b o e q0 q1 q2 q3 q4 => oth _ _ q0 (gk _ _ q1 q2 q3 q4 (st.kk b o e q0 q1 q2 q3 q4))
      · obtain ⟨u, hu⟩ := gb b o e
        by_cases q : b = S
        · subst q; exact ⟨_, hSS⟩
        · exact ⟨u, oth _ _ q hu⟩
      · obtain ⟨u, hu⟩ := g6
        exact ⟨u, oth _ _ (Ne.symm hTO) hu⟩
    have gbb : ∀ (h' : Heap), (∀ c o, c ≠ z → c ≠ TO → c ≠ i1 → c ≠ i2 → s.heap.get? c = some o → h'.get? c = some o) → (∃ u, h'.get? z = some u) → (∃ u, h'.get? TO = some u) → (∃ u, h'.get? i1 = some u) → (∃ u, h'.get? i2 = some u) → ∀ b o, h0.get? b = some o → ∃ u, h'.get? b = some u := by
      intro h' gk e1 e2 e3 e4 b o e
      obtain ⟨u, hu⟩ := hb b o e
      by_cases q1 : b = z
      · subst q1; exact e1
      by_cases q2 : b = TO
      · subst q2; exact e2
      by_cases q3 : b = i1
      · subst q3; exact e3
      by_cases q4 : b = i2
      · subst q4; exact e4
      exact ⟨u, gk _ _ q1 q2 q3 q4 hu⟩
    rcases st.zz with ⟨hzz, a, b, hTOo⟩ | ⟨T, f, oT, hzz, hT, r1, r2, r3, r4⟩
    · refine wpAny_bind (wpAny_pyNext_zip_item D hzz st.ti hTOo st.it1 st.it2 st.lx st.ly ex ey fun h' a1 a2 a3 a4 a5 a6 hk' => ?_)
      exact step h' a5 a3 a4 a6 (.inr ⟨s.heap.objs.size, false, _, a1, a5, nz, n1, n2, nS⟩) ⟨_, a2⟩ hk' (gbb h' hk' ⟨_, a1⟩ ⟨_, a2⟩ (let ⟨_, e, _⟩ := a3; ⟨_, e⟩) (let ⟨_, e, _⟩ := a4; ⟨_, e⟩))
    · refine wpAny_bind (wpAny_pyNext_zip_item_held D hzz hT st.ti st.it1 st.it2 st.lx st.ly ex ey fun h' a1 a3 a4 a5 a6 hk' => ?_)
      have hk2 : ∀ c o, c ≠ z → c ≠ TO → c ≠ i1 → c ≠ i2 → s.heap.get? c = some o → h'.get? c = some o := fun c o q1 q2 q3 q4 e => hk' c o q1 q3 q4 e
      have hto' : ∃ u, h'.get? TO = some u := let ⟨u, e⟩ := hto; ⟨u, hk' _ _ D.TOz D.TOi1 D.TOi2 e⟩
      exact step h' a5 a3 a4 a6 (.inr ⟨T, true, oT, a1, hk' _ _ r1 r2 r3 hT, r1, r2, r3, r4⟩) hto' hk2 (gbb h' hk2 ⟨_, a1⟩ hto' (let ⟨_, e, _⟩ := a3; ⟨_, e⟩) (let ⟨_, e, _⟩ := a4; ⟨_, e⟩))
/-- list(zip), the call -/
theorem call_list_zip {E : Value → Shared → Prop} {s : Shared} {Q : Value → Shared → Prop} (D : ZipApart z TI TO i1 i2 l1 l2) (hh : A.handled = none) (hn : min xs.size ys.size ≤ sizeLine)
    (hz : IsZip s.heap z TI TO .none) (hTI : PySem.IsPair s.heap TI (.ref i1) (.ref i2)) (hTO : ∃ a b, PySem.IsPair s.heap TO a b) (h1 : s.heap.IsListIter i1 l1 0) (h2 : s.heap.IsListIter i2 l2 0) (hl1 : s.heap.IsList l1 xs) (hl2 : s.heap.IsList l2 ys)
    (hQ : ∀ h' acc', ZEnd z TO i1 i2 s.heap.objs.size xs ys s.heap acc' h' → Q (.ref s.heap.objs.size) { s with heap := h' }) :
    wpAny (model prog w) A (call (.type "list") [.ref z]) Q E s := by
  have lt : ∀ {c o}, s.heap.get? c = some o → s.heap.objs.size ≠ c := fun e => Nat.ne_of_gt (Heap.lt_size e)
  have nz := lt hz
  have nTI := lt hTI
  have nTO : s.heap.objs.size ≠ TO := let ⟨_, _, e⟩ := hTO; lt e
  have n1 : s.heap.objs.size ≠ i1 := let ⟨_, e, _⟩ := h1; lt e
  have n2 : s.heap.objs.size ≠ i2 := let ⟨_, e, _⟩ := h2; lt e
  have m1 : s.heap.objs.size ≠ l1 := let ⟨_, e, _⟩ := hl1; lt e
  have m2 : s.heap.objs.size ≠ l2 := let ⟨_, e, _⟩ := hl2; lt e
  refine callType_codes (Q₁ := fun obj s₁ => obj = .ref s.heap.objs.size ∧ s₁ = { s with heap := s.heap.push { cls := .type "list", data := .seq #[] } }) F.called_list (F.typeCall_list_1 _) F.entry_list_init
    (code_list_new _ ⟨rfl, rfl⟩) fun obj s₁ h₁ => ?_
  obtain ⟨rfl, rfl⟩ := h₁
  have hS : (s.heap.push { cls := .type "list", data := .seq #[] }).get? s.heap.objs.size = some { cls := .type "list", data := .seq #[] } := Heap.get?_push_size _ rfl
  have kp : ∀ b o, s.heap.get? b = some o → (s.heap.push { cls := .type "list", data := .seq #[] }).get? b = some o := fun b o e => Heap.get?_push_of_some _ e
  refine ⟨⟨_, hS, rfl⟩, F.args_list_init_2 _ _, ?_⟩
  show wpAny _ A.in1.in1 (do let old ← Builtin.List.listItems (.ref s.heap.objs.size); Builtin.List.listUpdate (.ref s.heap.objs.size) (fun _ => #[]); letGo old.toList.reverse; Builtin.List.listExtendWith (.ref s.heap.objs.size) (.ref z) .none) _ _ _
  refine wpAny_bind ?_
  unfold Builtin.List.listItems
  refine wpAny_bind (wpAny_seqItems hS rfl (wpAny_pure ?_))
  show wpAny _ A.in1.in1 (updateSeq s.heap.objs.size (fun _ => #[]) >>= fun _ => letGo (#[] : Array Value).toList.reverse >>= fun _ => Builtin.List.listExtendWith (.ref s.heap.objs.size) (.ref z) .none) _ _ _
  refine wpAny_bind (wpAny_updateSeq hS rfl ?_)
  have hS2 := Heap.get?_update_self (Obj.mapSeq (fun _ => (#[] : Array Value))) hS rfl
  have oth : ∀ b o, b ≠ s.heap.objs.size → (s.heap.push { cls := .type "list", data := .seq #[] }).get? b = some o → ((s.heap.push { cls := .type "list", data := .seq #[] }).update s.heap.objs.size (Obj.mapSeq (fun _ => (#[] : Array Value)))).get? b = some o :=
    fun b o hb e => (Heap.get?_update_other _ _ (Ne.symm hb)).trans e
  refine wpAny_bind (wpAny_letGo ?_)
  unfold Builtin.List.listExtendWith
  have hzz := oth _ _ (Ne.symm nz) (kp _ _ hz)
  refine wpAny_bind (wpAny_typeOf (T := "zip") ⟨_, hzz, rfl⟩ ?_)
  have g1 : Builtin.List.listSameRef (.ref s.heap.objs.size) (.ref z) = false := by simp [Builtin.List.listSameRef, nz]
  have g2 : (Value.type "zip" == Value.type "list") = false := by decide
  have g3 : (Value.type "zip" == Value.type "tuple") = false := by decide
  simp only [g1, g2, g3, Bool.or_false, Bool.false_eq_true, if_false]
  refine wpAny_bind (wpAny_pyIter_zip hzz ?_)
  refine wpAny_bind (wpAny_holding ?_)
  unfold Builtin.List.listLengthHint
  refine wpAny_bind (wpAny_specialOf (T := "zip") ⟨_, hzz, rfl⟩ nolen ?_)
  show wpAny _ A.in1.in1 (specialOf (Value.ref z) (Str.ofString "__length_hint__") >>= _) _ _ _
  refine wpAny_bind (wpAny_specialOf (T := "zip") ⟨_, hzz, rfl⟩ nohint ?_)
  refine wpAny_pure ?_
  show wpAny _ A.in1.in1 (rule "list.extend.makes-room" >>= fun _ => Builtin.List.listTouch (.ref s.heap.objs.size) >>= fun _ =>
    again (.builtin "list.extend.loop" ⟨[.ref s.heap.objs.size, .ref z, .none], []⟩)) _ _ _
  refine wpAny_bind (wpAny_rule ?_)
  refine wpAny_bind ?_
  show wpAny _ A.in1.in1 (updateSeq s.heap.objs.size (·.push .none) >>= fun _ => updateSeq s.heap.objs.size (·.pop)) _ _ _
  refine wpAny_bind (wpAny_updateSeq hS2 rfl ?_)
  have hS3 := Heap.get?_update_self (Obj.mapSeq (·.push Value.none)) hS2 rfl
  refine wpAny_updateSeq (hz := by seq_fits) hS3 rfl ?_
  have hS4 := Heap.get?_update_self (Obj.mapSeq (·.pop)) hS3 rfl
  refine wpAny_pure ⟨plainId_quiet F.plain_extend_loop _, ?_⟩
  have all : ∀ b o, b ≠ s.heap.objs.size → s.heap.get? b = some o → ((((s.heap.push { cls := .type "list", data := .seq #[] }).update s.heap.objs.size (Obj.mapSeq (fun _ => (#[] : Array Value)))).update s.heap.objs.size (Obj.mapSeq (·.push Value.none))).update s.heap.objs.size (Obj.mapSeq (·.pop))).get? b = some o :=
    fun b o hb e => (Heap.get?_update_other _ _ (Ne.symm hb)).trans ((Heap.get?_update_other _ _ (Ne.symm hb)).trans (oth _ _ hb (kp _ _ e)))
  have ne : ∀ {b o}, s.heap.get? b = some o → b ≠ s.heap.objs.size := fun e => Ne.symm (lt e)
  have allk : ∀ b o, s.heap.get? b = some o → _ := fun b o e => all b o (ne e) e
  refine loop (h0 := s.heap) D (by simpa using hh) (Ne.symm nTI) (Ne.symm m1) (Ne.symm m2) nz nTO n1 n2 hn .none _ 0 _ #[] rfl (Nat.zero_le _) ?_ (fun b o e => ⟨o, allk b o e⟩) (let ⟨_, _, e⟩ := hTO; ⟨_, allk _ _ e⟩) (by simp only [Heap.size_update, Heap.size_push]; omega) fun h' acc' fin => ⟨rfl, hQ h' acc' fin⟩
  refine ⟨allk _ _ hTI, h1.at fun o e => allk _ o e, h2.at fun o e => allk _ o e, hl1.at fun o e => allk _ o e, hl2.at fun o e => allk _ o e, .inl ⟨allk _ _ hz, let ⟨a, b, e⟩ := hTO; ⟨a, b, allk _ _ e⟩⟩, ⟨_, hS4⟩, rfl, by simp, by simp, fun b o e q _ _ _ _ => all b o q e⟩
end
inductive LT (h : Heap) : List Addr → List (V × V) → Prop
  | nil : LT h [] []
  | cons {T : Addr} {Ts : List Addr} {v u : V} {ps : List (V × V)} {x y : Value} : PySem.IsPair h T x y → RelV v x → RelV u y → LT h Ts ps → LT h (T :: Ts) ((v, u) :: ps)
theorem lt_of {h : Heap} {B : Nat} {S : Addr} : ∀ (acc ix iy : List Value) (xs ys : List V), Vals xs ix → Vals ys iy → acc.length = min ix.length iy.length →
    (∀ (j : Nat) v, acc[j]? = some v → ∃ T x y, v = .ref T ∧ ix[j]? = some x ∧ iy[j]? = some y ∧ PySem.IsPair h T x y ∧ B ≤ T ∧ T ≠ S) → ∃ Ts, acc = Ts.map Value.ref ∧ LT h Ts (xs.zip ys) ∧ ∀ T ∈ Ts, B ≤ T ∧ T ≠ S
  | [], ix, iy, xs, ys, rx, ry, hl, _ => by
    refine ⟨[], rfl, ?_, by simp⟩
    cases rx with
    | nil => exact .nil
    | cons a b => cases ry with
      | nil => exact .nil
      | cons c d => simp at hl
  | a :: acc, ix, iy, xs, ys, rx, ry, hl, ht => by
    cases rx with
    | nil => simp at hl
    | cons r1 rx => cases ry with
      | nil => simp at hl
      | cons r2 ry =>
        obtain ⟨T, x, y, rfl, e1, e2, p, q1, q2⟩ := ht 0 a rfl
        simp at e1 e2
        subst e1; subst e2
        obtain ⟨Ts, rfl, h1, h2⟩ := lt_of acc _ _ _ _ rx ry (by simp at hl; omega) fun j v hv => ht (j + 1) v (by simpa using hv)
        exact ⟨T :: Ts, rfl, .cons p r1 r2 h1, fun T' hT' => by
          rcases List.mem_cons.mp hT' with rfl | hT'
          · exact ⟨q1, q2⟩
          · exact h2 T' hT'⟩
theorem nodup_of {α : Type} : ∀ {acc : List α}, (∀ (j k : Nat) v, acc[j]? = some v → acc[k]? = some v → j = k) → acc.Nodup
  | [], _ => List.nodup_nil
  | a :: acc, h => by
    rw [List.nodup_cons]
    refine ⟨fun hm => ?_, nodup_of fun j k v hj hk => ?_⟩
    · obtain ⟨k, hk⟩ := List.getElem?_of_mem hm
      have := h 0 (k + 1) a rfl (by simpa using hk)
      omega
    · have := h (j + 1) (k + 1) v (by simpa using hj) (by simpa using hk)
      omega
/-- new tuples, one by one -/
def LaidT : Hp → List Addr → List (V × V) → Hp → Prop
  | H, [], [], H2 => H2 = H
  | H, T :: Ts, (v, u) :: ps, H2 => H T = none ∧ LaidT (upd H T (.tup [v, u])) Ts ps H2
  | _, _, _, _ => False
section
variable {X : Cx} {pins : List (Addr × Obj)} {σ : L2.St} {s : Shared} {h' : Heap} {B : Nat} {S : Addr}
theorem lay : ∀ {Ts : List Addr} {ps : List (V × V)} {H : Hp} {G : Heap}, LT h' Ts ps → Ts.Nodup → (∀ T ∈ Ts, G.get? T = none ∧ H T = none ∧ T ≠ S) → G.get? S = none → H S = none →
    Inv X pins σ H { s with heap := G } → (∀ b o, G.get? b = some o → h'.get? b = some o) →
    ∃ H2 G2, LaidT H Ts ps H2 ∧ Inv X pins σ H2 { s with heap := G2 } ∧ (∀ b o, G2.get? b = some o → h'.get? b = some o) ∧ (∀ b o, G.get? b = some o → G2.get? b = some o) ∧ G2.get? S = none ∧ H2 S = none
  | _, _, H, G, .nil, _, _, gs, hs, I, gk => ⟨H, G, rfl, I, gk, fun _ _ e => e, gs, hs⟩
  | T :: Ts, (v, u) :: ps, H, G, .cons (x := x) (y := y) p r1 r2 t, nd, ht, gs, hs, I, gk => by
    obtain ⟨nd1, nd2⟩ := List.nodup_cons.mp nd
    obtain ⟨t1, t2, t3⟩ := ht T List.mem_cons_self
    obtain ⟨G1, g1, g2⟩ := restrict h' fun b => decide (b = T) || (G.get? b).isSome
    have k1 : ∀ b o, G.get? b = some o → G1.get? b = some o := fun b o e => by
      rw [g1 b (by rw [e]; simp)]; exact gk b o e
    have k2 : ∀ b o, G1.get? b = some o → h'.get? b = some o := fun b o e => by
      cases q : (decide (b = T) || (G.get? b).isSome) with
      | true => rw [← g1 b q]; exact e
      | false => rw [g2 b q] at e; cases e
    have k3 : ∀ b, b ≠ T → G.get? b = none → G1.get? b = none := fun b n e => g2 b (by simp [n, e])
    have hT : G1.get? T = some { cls := .type "tuple", data := .seq #[x, y] } := by rw [g1 T (by simp)]; exact p
    have I1 : Inv X pins σ (upd H T (.tup [v, u])) { s with heap := G1 } := I.laidN (t' := s.toks) k1 t1 t2 ⟨by show 2 ≤ sizeLine; decide, [x, y], .cons r1 (.cons r2 .nil), _, hT, rfl, 0, rfl⟩
    obtain ⟨H2, G2, a1, a2, a3, a4, a5, a6⟩ := lay t nd2 (fun T' hT' => by
      obtain ⟨z1, z2, z3⟩ := ht T' (List.mem_cons_of_mem _ hT')
      have ne : T' ≠ T := fun e => nd1 (e ▸ hT')
      exact ⟨k3 _ ne z1, by rw [upd_ne ne]; exact z2, z3⟩) (k3 _ (Ne.symm t3) gs) (by rw [upd_ne (Ne.symm t3)]; exact hs) I1 k2
    exact ⟨H2, G2, ⟨t2, a1⟩, a2, a3, fun b o e => a4 b o (k1 b o e), a5, a6⟩
end
def tLZ (K : PySem.W.Frag) (ta : TA) : TE := fun σ H Q => ta σ H fun vs H1 => ∃ a b xs ys, vs = [V.ref a, V.ref b] ∧ SqL K H1 a xs ∧ SqL K H1 b ys ∧
  ∀ Ts H2 S, LaidT H1 Ts (xs.zip ys) H2 → H2 S = none → Q (.ref S) (upd H2 S (.lst (Ts.map V.ref)))
theorem vals_refs : ∀ {Ts : List Addr}, Vals (Ts.map V.ref) (Ts.map Value.ref)
  | [] => .nil
  | T :: Ts => .cons rfl vals_refs
theorem LT.len {h : Heap} : ∀ {Ts : List Addr} {ps : List (V × V)}, LT h Ts ps → Ts.length = ps.length
  | _, _, .nil => rfl
  | _, _, .cons _ _ _ t => by simp [t.len]
theorem pe_listZip {X : Cx} {e e2 : Expr} {ta : TA} {p p2 pos q : Pos} (hc : X.calm = true) (hg : Gl X "list") (hm : X.mg "list" = none) (hg2 : Gl X "zip") (hm2 : X.mg "zip" = none) (ha : PA X [e, e2] ta)
    (hs : starEach [e, e2] X.env = (false, eval e X.env) :: starEach [e2] X.env := by rfl) (hpl : (backTo q (starEach [e2] X.env)).any (·.1) = false := by rfl)
    (hs2 : starEach [.Call (.Name "zip" p2) [e, e2] [] q] X.env = (false, eval (.Call (.Name "zip" p2) [e, e2] [] q) X.env) :: starEach [] X.env := by rfl) :
    PE X (.Call (.Name "list" p) [.Call (.Name "zip" p2) [e, e2] [] q] [] pos) (tLZ X.K ta) := by
  refine ⟨fun pins s σ H R I h => ?_⟩
  refine wpAny_Call_Name_kw (ld_blt I hg hm PyProof.Rows.boot_list ?_)
  refine PyProof.Rows.callWith_type1 ?_ hs2 (by rfl)
  rw [hs2]
  refine Calls.spliced_cons ?_
  refine wpAny_Call_Name_kw (ld_blt I hg2 hm2 PyProof.Rows.boot_zip (PyProof.Rows.callWith_type1 (thn (ha.run q pins s σ H _ I h) fun us s1 ⟨vs, H1, I1, r1, q1⟩ => ?_) hs hpl))
  obtain ⟨a, b, xs, ys, ex, hqx, hqy, q0⟩ := q1
  subst ex
  cases r1 with
  | cons r rr =>
    cases rr with
    | cons r' rr =>
      cases rr
      cases r
      cases r'
      obtain ⟨its, rv, p1, zl⟩ := I1.list hqx
      obtain ⟨its2, rv2, p2, zl2⟩ := I1.list hqy
      have la : a < s1.heap.objs.size := p1.lt
      have lb : b < s1.heap.objs.size := p2.lt
      have lx := rv.length
      have ly := rv2.length
      refine call_zip_2 p1.isList p2.isList fun h' hz hTI hTO h1 h2 hsz hk => Calls.spliced_nil ?_
      have hl1 : h'.IsList a its.toArray := p1.isList.at fun o e => hk _ o e
      have hl2 : h'.IsList b its2.toArray := p2.isList.at fun o e => hk _ o e
      refine ZL.call_list_zip (s := { s1 with heap := h' }) (PySem.W.ktu_apart s1.heap.objs.size a b la lb) (I.ok.hd hc) (by simp; omega) hz hTI ⟨_, _, hTO⟩ h1 h2 hl1 hl2 fun h2 acc fin => ?_
      obtain ⟨cS, hS⟩ := fin.sl
      obtain ⟨Ts, eT, lt, hT⟩ := lt_of acc.toList its its2 xs ys rv rv2 (by have := fin.nn; simpa using this) fun j v hv => by
        obtain ⟨T, x, y, e1, e2, e3, e4, e5, e6⟩ := fin.tt j v (by simpa using hv)
        exact ⟨T, x, y, e1, by simpa using e2, by simpa using e3, e4, e5, e6⟩
      have nd : Ts.Nodup := by
        have h0 : acc.toList.Nodup := nodup_of fun j k v hj hk => fin.dd j k v (by simpa using hj) (by simpa using hk)
        rw [eT] at h0
        exact List.Pairwise.of_map _ (fun x y h e => h (e ▸ rfl)) h0
      have big : ∀ T, h'.objs.size ≤ T → s1.heap.get? T = none ∧ H1 T = none := fun T hT => by
        have h3 : s1.heap.objs.size ≤ T := by omega
        refine ⟨?_, I1.hok.fresh h3⟩
        cases e : s1.heap.get? T with
        | none => rfl
        | some o => exact absurd (Heap.lt_size e) (Nat.not_lt.mpr h3)
      have kk : ∀ b o, s1.heap.get? b = some o → h2.get? b = some o := fun b o e => by
        have l := Heap.lt_size e
        exact fin.kk b o (hk _ _ e) (Nat.ne_of_lt (Nat.lt_of_lt_of_le l (by show s1.heap.objs.size ≤ h'.objs.size; omega))) (Nat.ne_of_lt (Nat.lt_add_right 4 l)) (Nat.ne_of_lt (Nat.lt_add_right 3 l)) (Nat.ne_of_lt l) (Nat.ne_of_lt (Nat.lt_add_right 1 l))
      obtain ⟨H2, G2, a1, a2, a3, a4, a5, a6⟩ := lay (s := s1) (S := h'.objs.size) lt nd (fun T hT' => ⟨(big T (hT T hT').1).1, (big T (hT T hT').1).2, (hT T hT').2⟩) (big _ (Nat.le_refl _)).1 (big _ (Nat.le_refl _)).2 I1 kk
      have ll : Ts.length ≤ sizeLine := by rw [lt.len, List.length_zip]; omega
      have I3 : Inv X pins σ (upd H2 h'.objs.size (.lst (Ts.map V.ref))) { s1 with heap := h2 } := a2.laidN (t' := s1.toks) a3 a5 a6 ⟨by simpa using ll, Ts.map Value.ref, cS, vals_refs, by rw [← eT]; exact hS⟩
      exact ⟨.ref h'.objs.size, _, I3, rfl, q0 Ts H2 _ a1 a6⟩
end ZL
section
variable {X : Cx} {W : WX} {e e2 : Expr} {pos p p2 q : Pos} {fs : M (List D)}
theorem laidT_rel {b : Bs} {c : List Addr} {env : EnvD} {st : Sto} {σ : L2.St} : ∀ {Ts : List Addr} {ds ds2 : List D} {xs ys : List V} {F : Addr → Prop} {H H2 : Hp}, ZL.LaidT H Ts (xs.zip ys) H2 → Rel b F c env st σ H → Rps b.K b.mg F c H xs ds → Rps b.K b.mg F c H ys ds2 →
    ∃ F2, Stp F c H F2 c H2 ∧ Rel b F2 c env st σ H2 ∧ Rps b.K b.mg F2 c H2 (Ts.map V.ref) (zipD ds ds2)
  | [], _, _, _, _, F, H, H2, l, r, rx, ry => by
    cases rx with
    | nil =>
      cases (show H2 = H from l)
      exact ⟨F, ⟨fun _ h => h, fun _ _ _ h => h, ⟨[], (List.append_nil c).symm⟩, fun _ _ h => h⟩, r, .nil⟩
    | cons a t => cases ry with
      | nil =>
        cases (show H2 = H from l)
        exact ⟨F, ⟨fun _ h => h, fun _ _ _ h => h, ⟨[], (List.append_nil c).symm⟩, fun _ _ h => h⟩, r, .nil⟩
      | cons a2 t2 => exact (show False from l).elim
  | T :: Ts, _, _, _, _, F, H, H2, l, r, rx, ry => by
    cases rx with
    | nil => exact (show False from l).elim
    | cons a t => cases ry with
      | nil => exact (show False from l).elim
      | cons a2 t2 =>
        obtain ⟨hT, l⟩ := l
        obtain ⟨s2, r2⟩ := r.newF hT (.tup _)
        obtain ⟨F2, s3, r3, rp⟩ := laidT_rel l r2 (t.stp s2) (t2.stp s2)
        exact ⟨F2, s2.trans s3, r3, .cons ((Rp.tup (.inl ⟨.inr rfl, .inl upd_same⟩) (.cons (a.stp s2) (.cons (a2.stp s2) .nil))).stp s3) rp⟩
def eLZ (fs : M (List D)) : M D := fun env st => (fs env st).bind fun ds env st => match ds with
  | [.lst xs, .lst ys] => .ok (.lst (zipD xs ys)) env st
  | _ => .bad
theorem vf_listZip (hc : X.calm = true) (hm : X.mg "list" = none) (hm2 : X.mg "zip" = none) (h : VA X W [e, e2] fs) (hg : Gl X "list" := by rfl) (hg2 : Gl X "zip" := by rfl)
    (hs : starEach [e, e2] X.env = (false, eval e X.env) :: starEach [e2] X.env := by rfl) (hpl : (backTo q (starEach [e2] X.env)).any (·.1) = false := by rfl)
    (hs2 : starEach [.Call (.Name "zip" p2) [e, e2] [] q] X.env = (false, eval (.Call (.Name "zip" p2) [e, e2] [] q) X.env) :: starEach [] X.env := by rfl) :
    VF X W (.Call (.Name "list" p) [.Call (.Name "zip" p2) [e, e2] [] q] [] pos) (eLZ fs) := PEof (ZL.pe_listZip hc hg hm hg2 hm2 h hs hpl hs2) fun σ H Q ⟨b, F, c, env, st, e1, e2, r0, h⟩ =>
  tA_at e1 e2 r0 h fun vs ds env1 st1 F1 c1 H1 s1 r1 rp1 p1 => by
    split at p1
    · rename_i xs ys
      cases rp1 with
      | cons a1 t1 => cases t1 with
        | cons a2 t2 => cases t2; cases a1 with
          | lst f hx hr => cases a2 with
            | lst f2 hx2 hr2 =>
              refine ⟨_, _, _, _, rfl, SqL.of hx, SqL.of hx2, fun Ts H2 S hl hS => ?_⟩
              obtain ⟨F2, s2, r2, rp⟩ := laidT_rel hl r1 hr hr2
              obtain ⟨s3, r3⟩ := r2.newO hS (.lst (Ts.map V.ref))
              exact p1 _ _ _ (s2.trans s3) r3 S (r2.nF hS) (r2.nC hS) (r2.H0none hS) (r2.nO hS) ⟨_, upd_same, rp.stp s3⟩
    · exact p1.elim
end
end VE

/-! tuple * int, sorted(set(x)) of what is seen, divmod -/
namespace VE
open PySem PySem.Spec PyProof.Rows L2
variable [VEnv]
namespace TM
theorem mulSame (l : Addr) (items : Array Value) (n : Nat) (dd : Option Addr) (sl : Array (Option Value)) (x : Int) (u : Tok) (c0 : (decide (x < -(2 ^ 63)) || decide (x ≥ 2 ^ 63)) = false) (c1 : (items.isEmpty || x == 1) = true) :
    Meets (Builtin.«tuple.__mul__» ⟨[.ref l, .int x u], []⟩) (fun _ R s => s.heap.get? l = some { cls := .type "tuple", dict := dd, data := .seq items n, slots := sl } ∧ R (.ok (.ret (Value.ref l))) s) :=
  .of_wp fun prog w A R s h => by
    obtain ⟨hp, g, d, tk, os⟩ := s
    obtain ⟨hl, h⟩ := h
    have f1 := AutoSeq1.idx_int
    wp_walk using wpAny_loadPart' hl
    repeat (first
      | (refine wpAny_ite_false (decide_eq_false (by rw [c0]; exact Bool.false_ne_true)) ?_; wp_walk using wpAny_loadPart' hl)
      | (refine wpAny_ite_true (decide_eq_true c1) ?_; wp_walk using wpAny_loadPart' hl))
    exact ⟨_, rfl, h⟩
theorem mulNone (l : Addr) (items : Array Value) (n : Nat) (dd : Option Addr) (sl : Array (Option Value)) (x : Int) (u : Tok) (c0 : (decide (x < -(2 ^ 63)) || decide (x ≥ 2 ^ 63)) = false) (c1 : (items.isEmpty || x == 1) = false) (c2 : (decide (x ≤ 0) || items.isEmpty) = true) :
    Meets (Builtin.«tuple.__mul__» ⟨[.ref l, .int x u], []⟩) (fun _ R s => s.heap.get? l = some { cls := .type "tuple", dict := dd, data := .seq items n, slots := sl } ∧
      R (.ok (.ret (Value.ref s.heap.objs.size))) { s with heap := s.heap.push { cls := Value.type "tuple", data := Data.seq #[] }, toks := s.toks }) :=
  .of_wp fun prog w A R s h => by
    obtain ⟨hp, g, d, tk, os⟩ := s
    obtain ⟨hl, h⟩ := h
    have f1 := AutoSeq1.idx_int
    wp_walk using wpAny_loadPart' hl
    repeat (first
      | (refine wpAny_ite_false (decide_eq_false (by rw [c0]; exact Bool.false_ne_true)) ?_; wp_walk using wpAny_loadPart' hl)
      | (refine wpAny_ite_false (decide_eq_false (by rw [c1]; exact Bool.false_ne_true)) ?_; wp_walk using wpAny_loadPart' hl)
      | (refine wpAny_ite_true (decide_eq_true c2) ?_; wp_walk using wpAny_loadPart' hl))
    exact ⟨_, rfl, h⟩
def rRep0 (K : PySem.W.Frag) : R2 := fun x y H Q => ∃ l k xs, x = .ref l ∧ y = .int k ∧ SqT K H l xs ∧ -1000 ≤ k ∧ k ≤ 1000 ∧ (((xs = [] ∨ k = 1) ∧ Q (.ref l) H) ∨ (xs ≠ [] ∧ k ≤ 0 ∧ ∀ p, H p = none → Q (.ref p) (upd H p (.tup []))))
theorem op_rep0 {X : Cx} : OpR X (binaryOp .Mult) (rRep0 X.K) := by
  intro pins s σ H x y v u Q I rx ry h
  obtain ⟨l, k, xs, rfl, rfl, hT, h1, h2, q⟩ := h
  cases rx
  obtain ⟨t, rfl⟩ := ry
  obtain ⟨its, r, ⟨⟨cls, dd, data, sl⟩, ho, hc, n, hd⟩, hs⟩ := I.tuple hT
  simp only at hc hd
  subst hc hd
  have hle : its.length = xs.length := r.length.symm
  have c0 : (decide (k < -(2 ^ 63)) || decide (k ≥ 2 ^ 63)) = false := by
    rw [decide_eq_false (by omega), decide_eq_false (by omega)] <;> rfl
  refine wpAny_binaryOp_repeat_ref (T := "tuple") (U := "int") (by decide) ⟨_, ho, rfl⟩ (fun s' => typeIs_int s' k t) noFill_tuple_mul F.fills_int_mul F.slot_int_rmul repeat_tuple F.slot_int_index.lookup
    (call_meets F.slot_int_rmul (typeIs_int s k t) F.entry_int_rmul (F.args_int_rmul_2 _ _) (int_rmul_tuple k t l its.toArray n dd sl)
      ⟨ho, rfl, ⟨_, ho, rfl⟩, ?_⟩)
  rcases q with ⟨hx, q⟩ | ⟨hx, hk, q⟩
  · have c1 : (its.toArray.isEmpty || k == 1) = true := by
      rcases hx with rfl | rfl
      · have : its = [] := List.eq_nil_of_length_eq_zero hle
        subst this; rfl
      · simp
    exact call_meets F.slot_tuple_mul ⟨_, ho, rfl⟩ F.entry_tuple_mul (F.args_tuple_mul_2 _ _) (mulSame l its.toArray n dd sl k t c0 c1) ⟨ho, ⟨.ref l, H, I, rfl, q⟩⟩
  · have hi : its.toArray.isEmpty = false := by
      cases its with
      | nil => exact absurd (List.eq_nil_of_length_eq_zero hle.symm) hx
      | cons a b => rfl
    have c1 : (its.toArray.isEmpty || k == 1) = false := by
      rw [hi, Bool.false_or]
      exact beq_eq_false_iff_ne.mpr (by omega)
    have c2 : (decide (k ≤ 0) || its.toArray.isEmpty) = true := by simp [hk]
    refine call_meets F.slot_tuple_mul ⟨_, ho, rfl⟩ F.entry_tuple_mul (F.args_tuple_mul_2 _ _) (mulNone l its.toArray n dd sl k t c0 c1 c2) ⟨ho, ?_⟩
    refine ⟨.ref s.heap.objs.size, _, I.laid (t' := s.toks) (o := .tup []) (fun b ob q => Heap.get?_push_of_some _ q) (Nat.le_refl _) ?_, rfl, q _ (I.hok.fresh (Nat.le_refl _))⟩
    exact ⟨by decide, [], .nil, IsTup.new _ _⟩
def rRepA (K : PySem.W.Frag) : R2 := fun x y H Q => rRepT K x y H Q ∨ rRep0 K x y H Q
theorem op_repA {X : Cx} : OpR X (binaryOp .Mult) (rRepA X.K) := fun pins s σ H x y v u Q I rx ry h => h.elim (op_repT pins s σ H x y v u Q I rx ry) (op_rep0 pins s σ H x y v u Q I rx ry)
end TM
def tmulA : D → D → Option D
  | .tup xs, .int k => if (decide (-1000 ≤ k) && decide (k ≤ 1000) && decide (xs.length ≤ 1000)) then some (.tup (List.replicate k.toNat xs).flatten) else none
  | _, _ => none
section
variable {X : Cx} {W : WX} {e a o d : Expr} {es : List Expr} {pos p p2 q pos' : Pos} {fa fb fo fi : M D} {fs : M (List D)} {x : Str} {k : Nat}
theorem rps_rep {K : PySem.W.Frag} {mg : Str → Option Value} {F : Addr → Prop} {c : List Addr} {H : Hp} {vs : List V} {ds : List D} (r : Rps K mg F c H vs ds) : ∀ m : Nat, Rps K mg F c H (List.replicate m vs).flatten (List.replicate m ds).flatten
  | 0 => .nil
  | m + 1 => by
    rw [List.replicate_succ, List.replicate_succ, List.flatten_cons, List.flatten_cons]
    exact r.append (rps_rep r m)
theorem ok_tmul : OpOk X W (TM.rRepA X.K) (sv2 tmulA) := opOk_sv fun F c H x y dx dy d Q hx hy e q qn => by
  unfold tmulA at e
  split at e
  · rename_i xs k
    split at e
    · rename_i h
      simp only [Bool.and_eq_true, decide_eq_true_eq] at h
      obtain ⟨⟨h1, h2⟩, h3⟩ := h
      cases e
      cases hy
      cases hx with
      | tup hf r =>
        have hl := r.length
        by_cases h4 : xs = [] ∨ k = 1
        · refine .inr ⟨_, _, _, rfl, rfl, hf.sq, h1, h2, .inl ⟨?_, q _ ?_⟩⟩
          · rcases h4 with h4 | h4
            · exact .inl (List.eq_nil_of_length_eq_zero (by rw [hl, h4]; rfl))
            · exact .inr h4
          · have : (List.replicate k.toNat xs).flatten = xs := by
              rcases h4 with rfl | rfl
              · simp
              · simp
            rw [this]
            exact .tup hf r
        · by_cases h5 : k ≤ 0
          · refine .inr ⟨_, _, _, rfl, rfl, hf.sq, h1, h2, .inr ⟨fun z => h4 (.inl ?_), h5, fun p hp => qn p _ hp (fun _ z => by cases z) fun F' s => ?_⟩⟩
            · rw [z] at hl; exact List.eq_nil_of_length_eq_zero hl.symm
            · have : k.toNat = 0 := by omega
              rw [this]
              exact .tup (.inl ⟨.inr rfl, .inl upd_same⟩) .nil
          · refine .inl ⟨_, _, _, rfl, rfl, hf.sq, fun z => h4 (.inl ?_), by omega, h2, by omega, fun p hp => qn p _ hp (fun _ z => by cases z) fun F' s => ?_⟩
            · rw [z] at hl; exact List.eq_nil_of_length_eq_zero hl.symm
            · exact .tup (.inl ⟨.inr rfl, .inl upd_same⟩) (((rps_rep r k.toNat).stp s).stp ⟨fun _ h => .inl h, fun _ _ _ h => h, ⟨[], (List.append_nil c).symm⟩, fun _ _ h => h⟩)
    · cases e
  · cases e
theorem ve_tmul (ha : VE X W e fa) (hb : VE X W a fb) : VE X W (.BinOp e .Mult a pos) (eBin (sv2 tmulA) fa fb) := ve_op TM.op_repA ok_tmul ha hb
@[simp] theorem x_tmulA {xs : List D} {k : Int} (h1 : -1000 ≤ k) (h2 : k ≤ 1000) (h3 : xs.length ≤ 1000) : tmulA (.tup xs) (.int k) = some (.tup (List.replicate k.toNat xs).flatten) := by
  simp [tmulA, h1, h2, h3]
theorem set_isV {K : PySem.W.Frag} {mg : Str → Option Value} {F : Addr → Prop} {c : List Addr} {H : Hp} {ds : List D} {v : V} (h : LV K mg F c H v (.lst ds)) (hk : ((ds.all isInt || ds.all isStr) && decide (ds.length < 4000)) = true) :
    ∃ a, v = .ref a ∧ SqL K H a ((ds.map key1).map kV) ∧ (ds.map key1).length + 1 < scanBound ∧ ((∀ k ∈ ds.map key1, ∃ i, k = .inl i) ∨ ∀ k ∈ ds.map key1, ∃ x, k = .inr x) := by
  obtain ⟨a, vs, rfl, h, r⟩ := h
  exact set_is (Rp.lst (F := FAdd F a) (.inr rfl) h (r.stp ⟨fun _ h => .inl h, fun _ _ _ h => h, ⟨[], (List.append_nil c).symm⟩, fun _ _ h => h⟩)) hk
/-- sorted(set(x)), x a list or a cell of one -/
theorem vf_sset1 (hc : X.calm = true) (hm : X.mg "sorted" = none) (hm2 : X.mg "set" = none) (ha : VE X W e fa) (hgl : Gl X "sorted" := by rfl) (hgl2 : Gl X "set" := by rfl)
    (hs : starEach [e] X.env = (false, eval e X.env) :: starEach [] X.env := by rfl) (hs2 : starEach [.Call (.Name "set" p2) [e] [] q] X.env = (false, eval (.Call (.Name "set" p2) [e] [] q) X.env) :: starEach [] X.env := by rfl) :
    VF X W (.Call (.Name "sorted" p) [.Call (.Name "set" p2) [e] [] q] [] pos) (eB1 ssetD fa) :=
  PEof (pe_callB (cr_sortedK hc) hgl hm PyProof.Rows.boot_sorted (pa_cons (pe_callTy (cr_setOf hc) hgl2 hm2 PyProof.Rows.boot_set (pa_cons ha pa_nil hs) (by decide) (by decide) hs) pa_nil hs2) (by decide) (by decide) hs2) fun σ H Q ⟨b, F, c, env, st, e1, e2, r, pp⟩ =>
  tE_at e1 e2 r pp fun v d env1 st1 F1 c1 H1 s1 r1 rp1 p1 => by
    have lv := r1.lv rp1
    unfold ret ssetD at p1
    split at p1
    · rename_i d' ed
      split at ed
      · rename_i ds hd
        rw [hd] at lv
        split at ed
        · rename_i hk
          cases ed
          obtain ⟨a, rfl, h1, h2, h3⟩ := set_isV lv hk
          refine ⟨a, _, rfl, by rw [← e1]; exact h1, h2, fun pq m hpq hm => ?_⟩
          refine ⟨pq, _, m, rfl, upd_same, h3, fun pr hpr => ?_⟩
          obtain ⟨s2, r2⟩ := r1.newO hpq (KSetO X.w pq (fun j => (ds.map key1).any fun z => decide (z = j)) m)
          exact fresh_of r2 (Post.stp s2 p1) pr _ hpr fun F' s => ⟨_, upd_same, keys_rps _⟩
        · cases ed
      · cases ed
    · exact p1.elim
end
end VE

/-! range(a, b) of ints of any size -/
namespace VE
open PySem PySem.Spec PyProof.Rows L2
variable [VEnv]
namespace LG
theorem turn_long {P : Program} {w : World} {K : PySem.W.Frag} {tg : Expr} (it : Addr) (lo : Int) (n : Nat) : Turn P w K tg (Itr lo n) [it] it (fun i h => IsLongIter h it (lo + (i : Nat) * 1) ((n : Int) - (i : Nat)) 1) where
  mem := by simp
  obj := fun i h st b hb => by
    have e : b = it := by simpa using hb
    subst e
    exact ⟨_, st, fun v z => by
      have z' : Data.fields _ = Data.cell v := z
      cases z'⟩
  keep := fun i h h' st k => k it (by simp) _ st
  item := by
    intro X hP hw hK hc i pins s σ H E I hf st hg
    subst hP hw hK
    obtain ⟨f0, f1, f2, f3, f4, f5⟩ := hf it (by simp)
    have W := Walks.longrange (prog := X.prog) (w := X.w) (I.ok.hd hc) it lo 1 n
    refine W.item i s _ _ hg st fun v h' tk hv st' kk => ?_
    obtain ⟨t, rfl⟩ := hv
    have I1 : Inv X pins σ H { s with heap := h', toks := tk } := I.turned (fun b o hb e => kk b o (by simpa using hb) e) f0 f1 f3 f4 f5
    refine ⟨_, rfl, go_of (s := { s with heap := h', toks := tk }) (n := "longrange_iterator") st' rfl rfl (by decide) ⟨.int (lo + i), H, I1, ⟨t, ?_⟩, ⟨rfl, rfl⟩, st', fun b hb => (hf b hb).1⟩⟩
    rw [Int.mul_one]
  done := by
    intro X hP hw hK hc i pins s σ H E I hf st hg
    subst hP hw hK
    obtain ⟨f0, f1, f2, f3, f4, f5⟩ := hf it (by simp)
    exact wpAny_pyNext_long_end (I.ok.hd hc) st (by have : n ≤ i := hg; omega) fun h' eb => ⟨rfl, I.turned (t' := s.toks) (fun b o hb e => eb b o hb e) f0 f1 f3 f4 f5⟩
  self := fun _ _ _ _ _ st h => wpAny_pyIter_longiter st h
section
variable {X : Cx} {tg : Expr}
theorem range_itA {pins : List (Addr × Obj)} {σ : L2.St} {H : Hp} {s : Shared} {R : It → Hp → Prop} {E : Value → Shared → Prop} {lo hi : Int} {t u v : Tok} {tk : Nat} (I : Inv X pins σ H s)
    (q : R (Itr lo (hi - lo).toNat) H) : wpAny (model X.prog X.w) X.A (pyIter (.ref s.heap.objs.size)) (PIE X pins σ tg R) E { s with heap := s.heap.push { cls := .type "range", data := .fields #[.int lo t, .int hi u, .int 1 v] }, toks := tk } := by
  have I1 : Inv X pins σ H { s with heap := s.heap.push { cls := .type "range", data := .fields #[.int lo t, .int hi u, .int 1 v] }, toks := tk } := I.kept fun b o e => Heap.get?_push_of_some _ e
  have e1 : lo + ((0 : Nat) : Int) * 1 = lo := by simp
  have e2 : (((hi - lo).toNat : Nat) : Int) - ((0 : Nat) : Int) = Builtin.Range.rangeSize lo hi 1 := by rw [rangeSize_one]; split <;> omega
  have fp : ∀ b ∈ [(s.heap.push { cls := .type "range", data := .fields #[.int lo t, .int hi u, .int 1 v] }).objs.size], FpOk X pins H b := fun b hb => by
    have e : b = (s.heap.push { cls := .type "range", data := .fields #[.int lo t, .int hi u, .int 1 v] }).objs.size := by simpa using hb
    subst e
    exact I1.fpOk (Nat.le_refl _) (I1.hok.fresh (Nat.le_refl _))
  cases hs : Builtin.Range.small lo hi 1 with
  | true =>
    refine wpAny_pyIter_range (IsRange.new ..) hs ?_
    refine ⟨(s.heap.push { cls := .type "range", data := .fields #[.int lo t, .int hi u, .int 1 v] }).objs.size, [(s.heap.push { cls := .type "range", data := .fields #[.int lo t, .int hi u, .int 1 v] }).objs.size], _, _, H, rfl,
      I1.kept (t' := tk) fun b o e => Heap.get?_push_of_some _ e, turn_range _ lo (hi - lo).toNat, ?_, fp, q⟩
    show IsRangeIter _ _ (lo + ((0 : Nat) : Int) * 1) ((((hi - lo).toNat : Nat) : Int) - ((0 : Nat) : Int)) 1
    rw [e1, e2]
    exact Heap.get?_push_size _ rfl
  | false =>
    refine wpAny_pyIter_longrange (IsRange.new ..) hs ?_
    refine ⟨(s.heap.push { cls := .type "range", data := .fields #[.int lo t, .int hi u, .int 1 v] }).objs.size, [(s.heap.push { cls := .type "range", data := .fields #[.int lo t, .int hi u, .int 1 v] }).objs.size], _, _, H, rfl,
      I1.kept (t' := tk) fun b o e => Heap.get?_push_of_some _ e, turn_long _ lo (hi - lo).toNat, ?_, fp, q⟩
    show IsLongIter _ _ (lo + ((0 : Nat) : Int) * 1) ((((hi - lo).toNat : Nat) : Int) - ((0 : Nat) : Int)) 1
    rw [e1, e2]
    exact Heap.get?_push_size _ rfl
def iRngA (ta : TA) : TI := fun σ H R => ta σ H fun vs H1 => ∃ i j : Int, vs = [.int i, .int j] ∧ R (Itr i (j - i).toNat) H1
theorem pi_rangeA {a b : Expr} {ta : TA} {p pos : Pos} (hg : Gl X "range") (hm : X.mg "range" = none) (ha : PA X [a, b] ta) (hs : starEach [a, b] X.env = [(false, eval a X.env), (false, eval b X.env)] := by rfl) (hs2 : starEach [b] X.env = [(false, eval b X.env)] := by rfl) :
    PI X tg (.Call (.Name "range" p) [a, b] [] pos) (iRngA ta) := by
  refine ⟨fun pins s σ H R I h => ?_⟩
  refine Call_ (ld_blt I hg hm boot_range (PyProof.Rows.callWith_type1 (thn (ha.run pos pins s σ H _ I h) fun us s1 ⟨vs, H1, I1, r1, q1⟩ => ?_) (by rw [hs, hs2]) (by rw [hs2]; rfl)))
  obtain ⟨i, j, e, q⟩ := q1
  subst e
  cases r1 with
  | cons r rr =>
    cases rr with
    | cons r' rr =>
      cases rr
      obtain ⟨t, rfl⟩ := r
      obtain ⟨t', rfl⟩ := r'
      exact call_range_2 (range_itA I1 q)
end
end LG
section
variable {X : Cx} {W : WX} {e a tg : Expr} {pos p : Pos} {fa fb : M D}
def iR2W (fa fb : M D) : M (List D) := fun env st => (fa env st).bind fun d env st => (fb env st).bind fun d' env st => match d, d' with
  | .int i, .int j => .ok (rngD i (j - i).toNat) env st
  | _, _ => .bad
theorem vi_r2W (hm : X.mg "range" = none) (h : VE X W e fa) (h2 : VE X W a fb) (hg : Gl X "range" := by rfl) (hs : starEach [e, a] X.env = [(false, eval e X.env), (false, eval a X.env)] := by rfl) (hs2 : starEach [a] X.env = [(false, eval a X.env)] := by rfl) : VI X W tg (.Call (.Name "range" p) [e, a] [] pos) (iR2W fa fb) :=
  ⟨_, LG.pi_rangeA hg hm (pa_cons h (pa_cons h2 pa_nil (by rw [hs2]; rfl)) (by rw [hs, hs2])) hs hs2, fun σ H R ⟨b, F, c, env, st, e1, e2, r, p⟩ => tE_at e1 e2 r p fun v d env1 st1 F1 c1 H1 s1 r1 rp1 p1 => tE_at e1 e2 r1 p1 fun v' d' env2 st2 F2 c2 H2 s2 r2 rp2 p2 => by
    split at p2
    · cases rp1; cases rp2
      exact ⟨_, _, rfl, Post.here r2 p2 _ walks_rng⟩
    · exact p2.elim⟩
end
end VE

/-! min(x, default=None) of ints or rows -/
namespace VE
open PySem PySem.Spec PyProof.Rows L2
variable [VEnv]
namespace MN
def rMinD (K : PySem.W.Frag) : List V → List V → Hp → VK → Prop := fun vs zs H Q => ∃ (a : Addr) (ys : List V) (ds : List PyData) (v0 : V), vs = [V.ref a] ∧ zs = [v0] ∧ SqL K H a ys ∧ DpAll K H ys ds ∧ PyData.canLayAll0 ds = true ∧ PySem.W.AlikeAll ds ∧ PyData.depthAll ds ≤ 40 ∧
  (ds = [] → Q v0 H) ∧ ∀ y ys' (i : Nat) v, ds = y :: ys' → ys[i]? = some v → ds[i]? = some (PySem.W.minD y ys') → Q v H
theorem canLay_mem : ∀ {ds : List PyData} {d : PyData}, PyData.canLayAll0 ds = true → d ∈ ds → PyData.canLay0 d = true
  | x :: xs, d, h, hm => by
    simp only [PyData.canLayAll0, Bool.and_eq_true] at h
    rcases List.mem_cons.mp hm with rfl | hm
    · exact h.1
    · exact canLay_mem h.2 hm
theorem min_mem : ∀ (ys : List PyData) (y : PyData), PySem.W.minD y ys ∈ y :: ys
  | [], y => by simp [PySem.W.minD]
  | z :: ys, y => by
    unfold PySem.W.minD
    rw [List.foldl_cons]
    have := min_mem ys (if PySem.W.dataLt z y then z else y)
    unfold PySem.W.minD at this
    rcases List.mem_cons.mp this with e | e
    · rw [e]
      split
      · simp
      · simp
    · exact List.mem_cons_of_mem _ (List.mem_cons_of_mem _ e)
theorem cr_minD {X : Cx} (hc : X.calm = true) (hu : X.A.units + 64 < cLine) : CallRK X (.builtin "min") [Str.ofString "default"] (rMinD X.K) := by
  intro pins s σ H xs zs us ws Q I r rz h
  obtain ⟨a, ys, ds, v0, rfl, rfl, hs, hd, hcl, hal, hdp, q0, q⟩ := h
  rw [Vals.ref1 r]
  cases rz with
  | cons r0 rt =>
    rename_i u0 ut
    cases rt
    obtain ⟨its, rv, p, hz⟩ := I.list hs
    obtain ⟨as, hr⟩ := Dp.readsAll I ds _ its hd rv
    show wpAny _ _ (call (.builtin "min") [.ref a] [(Str.ofString "default", u0)]) _ _ _
    refine PySem.W.min_list_default (vs := its.toArray) (xs := ds) (as := as) (I.ok.hd hc) p.isList hr hal (by omega) (fun e h' tk k => ⟨v0, H, I.kept k, r0, q0 e⟩) fun y ys' i v h' tk bs e hi hrd k => ?_
    have hiL : its[i]? = some v := by simpa using hi
    have hl := rv.length
    have hil : i < ys.length := by
      have := (List.getElem?_eq_some_iff.mp hiL).1
      omega
    obtain ⟨V0, hV⟩ : ∃ V0, ys[i]? = some V0 := ⟨_, List.getElem?_eq_getElem hil⟩
    have hmap := SeqAt.readsAll_map ds its as hcl hr
    have hmin : y ∈ ds ∧ True := ⟨by rw [e]; exact List.mem_cons_self, trivial⟩
    obtain ⟨bs', hr', hlt, hmem, _⟩ := PySem.W.readsAll_at hr i v hiL
    have hget : ds[i]? = some (ds.getD i .none) := by rw [List.getD_eq_getElem?_getD, List.getElem?_eq_getElem hlt]; rfl
    have c1 : PyData.canLay0 (ds.getD i .none) = true := canLay_mem hcl hmem
    have e1 : SeqAt.readOf h' v = ds.getD i .none := SeqAt.readOf_eq c1 (PySem.W.reads_keeps k hr')
    have c2 : PyData.canLay0 (PySem.W.minD y ys') = true := canLay_mem hcl (by rw [e]; exact min_mem ys' y)
    have e2 : SeqAt.readOf h' v = PySem.W.minD y ys' := SeqAt.readOf_eq c2 hrd
    obtain ⟨u, hu', ru⟩ := rv.get hV
    rw [hiL] at hu'
    cases hu'
    exact ⟨V0, H, I.kept k, ru, q y ys' i V0 e hV (by rw [hget, ← e1, e2])⟩
end MN
def ltY (x y : D) : Bool := PySem.W.dataLt (toPy x) (toPy y)
def minF (d : D) (ds : List D) : D := ds.foldl (fun a y => if ltY y a then y else a) d
theorem minF_py : ∀ (ds : List D) (d : D), PySem.W.minD (toPy d) (toPys ds) = toPy (minF d ds)
  | [], d => rfl
  | x :: ds, d => by
    have := minF_py ds (if ltY x d then x else d)
    unfold minF
    rw [List.foldl_cons]
    unfold minF at this
    rw [← this]
    simp only [toPys]
    unfold PySem.W.minD ltY
    rw [List.foldl_cons]
    split <;> rfl
theorem minF_mem : ∀ (ds : List D) (d : D), minF d ds ∈ d :: ds
  | [], d => by simp [minF]
  | x :: ds, d => by
    unfold minF
    rw [List.foldl_cons]
    have := minF_mem ds (if ltY x d then x else d)
    unfold minF at this
    rcases List.mem_cons.mp this with e | e
    · rw [e]
      split <;> simp
    · exact List.mem_cons_of_mem _ (List.mem_cons_of_mem _ e)
def alkD (ds : List D) : Bool := ds.all isInt || ds.all (isRow ((ds.head?.map fun d => shp (kD d)).getD []))
def minN (d0 : D) : D → Option D
  | .lst [] => some d0
  | .lst (d :: ds) => if plain 20 (.lst (d :: ds)) && alkD (d :: ds) then some (minF d ds) else none
  | _ => none
theorem toPys_map : ∀ ds : List D, toPys ds = ds.map toPy
  | [] => by simp [toPys]
  | d :: ds => by simp [toPys, toPys_map ds]
theorem alk_keys : ∀ {xs ys : List D}, isKs xs = true → isKs ys = true → shp (kDs xs) = shp (kDs ys) → PySem.W.alikeAll (toPys xs) (toPys ys) = true
  | [], _, _, _, _ => by simp [toPys, PySem.W.alikeAll]
  | _ :: _, [], _, _, _ => by simp [toPys, PySem.W.alikeAll]
  | .int i :: xs, .int j :: ys, h1, h2, e => by
    simp only [toPys, toPy, PySem.W.alikeAll, PySem.W.alike, Bool.true_and]
    exact alk_keys (by simpa [isKs] using h1) (by simpa [isKs] using h2) (by simpa [kDs, shp] using e)
  | .str i :: xs, .str j :: ys, h1, h2, e => by
    simp only [toPys, toPy, PySem.W.alikeAll, PySem.W.alike, Bool.true_and]
    exact alk_keys (by simpa [isKs] using h1) (by simpa [isKs] using h2) (by simpa [kDs, shp] using e)
  | .int i :: xs, .str j :: ys, _, _, e => by simp [kDs, shp] at e
  | .str i :: xs, .int j :: ys, _, _, e => by simp [kDs, shp] at e
  | .int _ :: _, .non :: _, _, h, _ => by simp [isKs] at h
  | .int _ :: _, .bl _ :: _, _, h, _ => by simp [isKs] at h
  | .int _ :: _, .lst _ :: _, _, h, _ => by simp [isKs] at h
  | .int _ :: _, .tup _ :: _, _, h, _ => by simp [isKs] at h
  | .int _ :: _, .scr _ :: _, _, h, _ => by simp [isKs] at h
  | .int _ :: _, .ino _ _ _ :: _, _, h, _ => by simp [isKs] at h
  | .int _ :: _, .obj _ _ :: _, _, h, _ => by simp [isKs] at h
  | .int _ :: _, .ref _ :: _, _, h, _ => by simp [isKs] at h
  | .int _ :: _, .fn _ :: _, _, h, _ => by simp [isKs] at h
  | .str _ :: _, .non :: _, _, h, _ => by simp [isKs] at h
  | .str _ :: _, .bl _ :: _, _, h, _ => by simp [isKs] at h
  | .str _ :: _, .lst _ :: _, _, h, _ => by simp [isKs] at h
  | .str _ :: _, .tup _ :: _, _, h, _ => by simp [isKs] at h
  | .str _ :: _, .scr _ :: _, _, h, _ => by simp [isKs] at h
  | .str _ :: _, .ino _ _ _ :: _, _, h, _ => by simp [isKs] at h
  | .str _ :: _, .obj _ _ :: _, _, h, _ => by simp [isKs] at h
  | .str _ :: _, .ref _ :: _, _, h, _ => by simp [isKs] at h
  | .str _ :: _, .fn _ :: _, _, h, _ => by simp [isKs] at h
  | .non :: _, _ :: _, h, _, _ => by simp [isKs] at h
  | .bl _ :: _, _ :: _, h, _, _ => by simp [isKs] at h
  | .lst _ :: _, _ :: _, h, _, _ => by simp [isKs] at h
  | .tup _ :: _, _ :: _, h, _, _ => by simp [isKs] at h
  | .scr _ :: _, _ :: _, h, _, _ => by simp [isKs] at h
  | .ino _ _ _ :: _, _ :: _, h, _, _ => by simp [isKs] at h
  | .obj _ _ :: _, _ :: _, h, _, _ => by simp [isKs] at h
  | .ref _ :: _, _ :: _, h, _, _ => by simp [isKs] at h
  | .fn _ :: _, _ :: _, h, _, _ => by simp [isKs] at h
theorem row_is {sh : List Bool} {d : D} (h : isRow sh d = true) : ∃ ds, d = .tup ds ∧ isKs ds = true ∧ shp (kDs ds) = sh := by
  unfold isRow at h
  split at h
  · rename_i ds
    rw [Bool.and_eq_true, beq_iff_eq] at h
    exact ⟨ds, rfl, h.1, h.2⟩
  · cases h
theorem ks_inj : ∀ {xs ys : List D}, isKs xs = true → isKs ys = true → toPys xs = toPys ys → xs = ys
  | [], [], _, _, _ => rfl
  | [], _ :: _, _, _, e => by simp [toPys] at e
  | _ :: _, [], _, _, e => by simp [toPys] at e
  | x :: xs, y :: ys, h1, h2, e => by
    simp only [toPys, List.cons.injEq] at e
    have e1 : isKs xs = true ∧ ((∃ i, x = .int i) ∨ ∃ s, x = .str s) := by cases x <;> simp_all [isKs]
    have e2 : isKs ys = true ∧ ((∃ i, y = .int i) ∨ ∃ s, y = .str s) := by cases y <;> simp_all [isKs]
    rw [ks_inj e1.1 e2.1 e.2]
    have e3 := e.1
    rcases e1.2 with ⟨i, rfl⟩ | ⟨i, rfl⟩ <;> rcases e2.2 with ⟨j, rfl⟩ | ⟨j, rfl⟩ <;> simp [toPy] at e3 <;> rw [e3]
theorem alk_inj {ds : List D} (h : alkD ds = true) {a b : D} (ha : a ∈ ds) (hb : b ∈ ds) (e : toPy a = toPy b) : a = b := by
  unfold alkD at h
  rw [Bool.or_eq_true, List.all_eq_true, List.all_eq_true] at h
  rcases h with h | h
  · have h1 := h a ha
    have h2 := h b hb
    cases a <;> simp [VE.isInt] at h1
    cases b <;> simp [VE.isInt] at h2
    simp [toPy] at e
    rw [e]
  · obtain ⟨xs, rfl, h1, h2⟩ := row_is (h a ha)
    obtain ⟨ys, rfl, h3, h4⟩ := row_is (h b hb)
    simp only [toPy, PyData.tuple.injEq] at e
    rw [ks_inj h1 h3 e]
theorem alk_all {ds : List D} (h : alkD ds = true) : PySem.W.AlikeAll (toPys ds) := by
  rw [toPys_map]
  unfold alkD at h
  rw [Bool.or_eq_true, List.all_eq_true, List.all_eq_true] at h
  rcases h with h | h
  · constructor
    · intro x hx y hy
      obtain ⟨a, ha, rfl⟩ := List.mem_map.mp hx
      obtain ⟨b, hb, rfl⟩ := List.mem_map.mp hy
      have h1 := h a ha
      have h2 := h b hb
      cases a <;> simp [VE.isInt] at h1
      cases b <;> simp [VE.isInt] at h2
      simp only [toPy, PySem.W.alike]
    · intro x hx
      obtain ⟨a, ha, rfl⟩ := List.mem_map.mp hx
      have h1 := h a ha
      cases a <;> simp [VE.isInt] at h1
      simp [toPy]
  · constructor
    · intro x hx y hy
      obtain ⟨a, ha, rfl⟩ := List.mem_map.mp hx
      obtain ⟨b, hb, rfl⟩ := List.mem_map.mp hy
      obtain ⟨xs, rfl, h1, h2⟩ := row_is (h a ha)
      obtain ⟨ys, rfl, h3, h4⟩ := row_is (h b hb)
      simp only [toPy, PySem.W.alike]
      exact alk_keys h1 h3 (h2.trans h4.symm)
    · intro x hx
      obtain ⟨a, ha, rfl⟩ := List.mem_map.mp hx
      obtain ⟨xs, rfl, h1, h2⟩ := row_is (h a ha)
      simp [toPy]
def eMinN (fa fb : M D) : M D := fun env st => (fa env st).bind fun d env st => (fb env st).bind fun d0 env st => ret (minN d0 (vw st d)) env st
section
variable {X : Cx} {W : WX} {e a : Expr} {pos p kpos : Pos} {fa fb : M D} {k : Nat}
theorem ve_minN (hr : Room k X.A) (hc : X.calm = true) (hm : X.mg "min" = none) (ha : VE X W e fa) (hb : VE X W a fb) (hgl : Gl X "min" := by rfl)
    (he : backTo pos (starEach [e] X.env) = (false, eval e X.env) :: backTo pos (starEach [] X.env) := by rfl) (hpl : (backTo pos (starEach [e] X.env)).any (·.1) = false := by rfl)
    (hall : (backToKw pos (keywordEach [⟨some "default", a, kpos⟩] X.env)).all (·.1.isSome) = true := by rfl) (hnone : (backToKw pos (keywordEach [⟨some "default", a, kpos⟩] X.env)).any (·.1.isNone) = false := by rfl) (hks : (backToKw pos (keywordEach [⟨some "default", a, kpos⟩] X.env)).filterMap (·.1) = [Str.ofString "default"] := by rfl)
    (hs : starEach [e] X.env = (false, eval e X.env) :: starEach [] X.env := by rfl) :
    VE X W (.Call (.Name "min" p) [e] [⟨some "default", a, kpos⟩] pos) (eMinN fa fb) := PEof (pe_callBK (MN.cr_minD hc (huOf hr)) hgl hm (by decide +kernel) (pa_cons ha pa_nil hs) (pk_cons hb pk_nil) (by decide) (by decide) he hpl hall hnone hks) fun σ H Q ⟨b, F, c, env, st, e1, e2, r0, p⟩ =>
  tE_at e1 e2 r0 p fun v d env1 st1 F1 c1 H1 s1 r1 rp1 p1 => tE_at e1 e2 r1 p1 fun v' d' env2 st2 F2 c2 H2 s2 r2 rp2 p2 => by
    unfold ret at p2
    split at p2
    · rename_i dr ed
      have lv := r2.lv (rp1.stp s2)
      unfold minN at ed
      split at ed
      · rename_i hv
        rw [hv] at lv
        cases ed
        obtain ⟨a, vs, rfl, h, r⟩ := lv
        cases r
        refine ⟨a, [], [], v', rfl, rfl, by rw [← e1]; exact SqL.of h, .nil, rfl, ⟨by simp, by simp⟩, by simp [PyData.depthAll], fun _ => ?_, fun y ys i v e => by cases e⟩
        exact Post.here r2 p2 _ rp2
      · rename_i d0 ds hv
        rw [hv] at lv
        split at ed
        · rename_i hh
          rw [Bool.and_eq_true] at hh
          cases ed
          obtain ⟨a, vs, rfl, h, r⟩ := lv
          have hpl2 : plains 19 (d0 :: ds) = true := by simpa [plain] using hh.1
          refine ⟨a, vs, toPys (d0 :: ds), v', rfl, rfl, by rw [← e1]; exact SqL.of h, by rw [← e1]; exact Rps.dp 19 r hpl2, canLays_of 19 _ hpl2, alk_all hh.2, ?_, fun e => by simp [toPys] at e, fun y ys i V e hV hi => ?_⟩
          · exact Nat.le_trans (depths_of 19 _ hpl2) (by decide)
          · simp only [toPys, List.cons.injEq] at e
            obtain ⟨rfl, rfl⟩ := e
            rw [minF_py] at hi
            obtain ⟨z, hz, rp⟩ := r.get hV
            rw [toPys_map, List.getElem?_map, hz] at hi
            have hz2 := alk_inj hh.2 (List.mem_of_getElem? hz) (minF_mem ds d0) (by simpa using hi)
            rw [hz2] at rp
            exact Post.here r2 p2 _ rp
        · cases ed
      · cases ed
    · exact p2.elim
theorem ve_divmod (hm : X.mg "divmod" = none) (ha : VE X W e fa) (hb : VE X W a fb) (hgl : Gl X "divmod" := by rfl) (hs : starEach [e, a] X.env = (false, eval e X.env) :: starEach [a] X.env := by rfl) (hs2 : starEach [a] X.env = (false, eval a X.env) :: starEach [] X.env := by rfl) (hpl : (backTo pos (starEach [a] X.env)).any (·.1) = false := by rfl) : VE X W (.Call (.Name "divmod" p) [e, a] [] pos) (eB2 dvmD fa fb) :=
  ve_b2 call_divmodW (fun F c H x y dx dy d Q hx hy e q qn => by
    unfold dvmD at e
    split at e
    · rename_i i j
      split at e
      · rename_i hd
        cases hx; cases hy; cases e
        refine ⟨_, _, rfl, ?_, fun p hp => qn p _ hp (fun _ z => by cases z) fun F' s => .tup (.inl ⟨.inr rfl, .inl upd_same⟩) (.cons (.int _) (.cons (.int _) .nil))⟩
        obtain ⟨d1, d2⟩ := divOk_w (i := i) hd
        refine ⟨d1, ?_⟩
        have hj : (j == 0) = false := by rw [beq_eq_false_iff_ne]; omega
        unfold Builtin.divisionGoesByPylong
        simp only [hj, Bool.false_eq_true, if_false]
        rw [Bool.and_eq_false_iff]
        left
        have : j.natAbs.log2 / 30 + 1 ≤ 300 := by omega
        simp only [decide_eq_false_iff_not]
        omega
      · cases e
    · cases e) hm (by decide +kernel) ha hb hgl (by decide) (by decide) hs hs2 hpl
end
end VE

/-! list(range(n)) -/
namespace VE
open PySem PySem.Spec PyProof.Rows L2
variable [VEnv]
section
variable {X : Cx} {W : WX} {e a : Expr} {pos p p2 q : Pos} {fa fb : M D}
def eListR (fa : M D) : M D := fun env st => (fa env st).bind fun d env st => match d with
  | .int j => if decide (0 ≤ j) && decide (j ≤ 16777216) then .ok (.lst (rngD 0 j.toNat)) env st else .bad
  | _ => .bad
theorem vf_listR (hc : X.calm = true) (hm : X.mg "list" = none) (hm2 : X.mg "range" = none) (ha : VE X W e fa) (hg : Gl X "list" := by rfl) (hg2 : Gl X "range" := by rfl)
    (na : starEach [e] X.env = (false, eval e X.env) :: starEach [] X.env := by rfl) (na2 : starEach [.Call (.Name "range" p2) [e] [] q] X.env = (false, eval (.Call (.Name "range" p2) [e] [] q) X.env) :: starEach [] X.env := by rfl) :
    VF X W (.Call (.Name "list" p) [.Call (.Name "range" p2) [e] [] q] [] pos) (eListR fa) := PEof (pe_listRg hc hg hm (prg_1 hg2 hm2 ha na) na2) fun σ H Q ⟨b, F, c, env, st, e1, e2, r0, h⟩ =>
  tE_at e1 e2 r0 h fun v d env1 st1 F1 c1 H1 s1 r1 rp1 p1 => by
    split at p1
    · rename_i j
      split at p1
      · rename_i hj
        simp only [Bool.and_eq_true, decide_eq_true_eq] at hj
        cases rp1
        refine ⟨_, rfl, RgOk.of_le (by decide) hj.2 (by decide) hj.1, fun pq hq => ?_⟩
        obtain ⟨s2, r2⟩ := r1.newO hq (.lst (rgV 0 j))
        refine p1 _ _ _ s2 r2 pq (r1.nF hq) (r1.nC hq) (r1.H0none hq) (r1.nO hq) ⟨_, upd_same, ?_⟩
        unfold rgV rngD
        rw [Int.sub_zero]
        have go : ∀ (H' : Hp) (l : List Nat), Rps b.K b.mg F1 c1 H' (l.map fun i => V.int (0 + (i : Nat))) (l.map fun i => D.int (0 + (i : Nat))) := fun H' l => by
          induction l with
          | nil => exact .nil
          | cons x l ih => exact .cons (.int _) ih
        exact go _ _
      · exact p1.elim
    · exact p1.elim
/-- x, y, z = a, b, c -/
def sPar3 (i j l : Nat) (fs : M (List D)) : M Fl := fun env st => (fs env st).bind fun ds env st => match ds with
  | [d, d', d''] => .ok .nx (((env.set i (.va d)).set j (.va d')).set l (.va d'')) st
  | _ => .bad
theorem vs_par3 {i j l : Nat} {x y z : Str} {o : Expr} {fs : M (List D)} {px py pz pt : Pos} {kt k2 : Nat} {pt2 : Pos} (hc : X.calm = true) (hN : X.N.Nodup) (ha : VA X W [e, a, o] fs) (hi : X.N[i]? = some x := by rfl) (hj : X.N[j]? = some y := by rfl) (hl : X.N[l]? = some z := by rfl) (hij : i ≠ j := by decide) (hil : i ≠ l := by decide) (hjl : j ≠ l := by decide)
    (hx : X.env.scope.names.lookup x = some .local := by rfl) (hy : X.env.scope.names.lookup y = some .local := by rfl) (hz : X.env.scope.names.lookup z = some .local := by rfl)
    (hw : swappedStores [.Tuple [.Name x px, .Name y py, .Name z pz] kt pt] (.Tuple [e, a, o] k2 pt2) X.env = pure (some [x, y, z]) := by rfl)
    (hs : swapsWithSole [.Tuple [.Name x px, .Name y py, .Name z pz] kt pt] (.Tuple [e, a, o] k2 pt2) pos.line X.env = pure false := by rfl) :
    VS X W (.Assign [.Tuple [.Name x px, .Name y py, .Name z pz] kt pt] (.Tuple [e, a, o] k2 pt2) pos) (sPar3 i j l fs) := PSof (ps_par3 hc hN hi hj hl hij hil hjl hx hy hz ha hw hs) fun D₀ σ H ⟨b, F, c, env, st, e1, e2, r, p⟩ =>
  sA_at e1 e2 r p fun vs ds env1 st1 F1 c1 H1 s1 r1 rp1 p1 => by
    split at p1
    · cases rp1 with
      | cons h t =>
        cases t with
        | cons h' t' =>
          cases t' with
          | cons h'' t'' =>
            cases t''
            exact ⟨_, _, _, rfl, PostS.here (P := fun fl _ _ F c σ H => FlOk b D₀ F c σ H fl) (((r1.put h).put h').put h'') p1⟩
    · exact p1.elim
end
end VE

/-! <, <=, >, >= of rows -/
namespace VE
open PySem PySem.Spec PyProof.Rows L2
variable [VEnv]
namespace CM
def rCmpD (K : PySem.W.Frag) (g : PyData → PyData → Bool) : R2 := fun x y H Q => ∃ d e, Dp K H x d ∧ Dp K H y e ∧ PySem.W.alike d e = true ∧ d ≠ .none ∧ d.depth ≤ 40 ∧ Q (.bl (g d e)) H
section
variable {X : Cx}
theorem op_leT (hu : X.A.units + 64 < cLine) : OpR X (compareOp .LtE) (rCmpD X.K fun d e => !PySem.W.dataLt e d) := by
  intro pins s σ H x y v u Q I rx ry h
  obtain ⟨d, e, hd, he, ha, hn, hdp, q⟩ := h
  obtain ⟨as, r1⟩ := Dp.reads I d x v hd rx
  obtain ⟨bs, r2⟩ := Dp.reads I e y u he ry
  exact PySem.W.le_data r1 r2 ha hn (PySem.W.room_datum hdp (by omega)) ⟨.bl _, H, I, rfl, q⟩
theorem op_ltT (hu : X.A.units + 64 < cLine) : OpR X (compareOp .Lt) (rCmpD X.K fun d e => PySem.W.dataLt d e) := by
  intro pins s σ H x y v u Q I rx ry h
  obtain ⟨d, e, hd, he, ha, hn, hdp, q⟩ := h
  obtain ⟨as, r1⟩ := Dp.reads I d x v hd rx
  obtain ⟨bs, r2⟩ := Dp.reads I e y u he ry
  exact PySem.W.lt_data r1 r2 ha hn (PySem.W.room_datum hdp (by omega)) ⟨.bl _, H, I, rfl, q⟩
end
end CM
def leP (x y : D) : Option D := if plain 20 x && plain 20 y && alkD [x, y] then some (.bl (!ltY y x)) else none
def ltP (x y : D) : Option D := if plain 20 x && plain 20 y && alkD [x, y] then some (.bl (ltY x y)) else none
section
variable {X : Cx} {W : WX} {e a : Expr} {pos : Pos} {fa fb : M D} {k : Nat}
theorem ok_leP : OpOk X W (CM.rCmpD X.K fun d e => !PySem.W.dataLt e d) (sc2 leP) := opOk_sc fun F c H x y dx dy d Q hx hy e q => by
  unfold leP at e
  split at e
  · rename_i h
    simp only [Bool.and_eq_true] at h
    cases e
    have al := alk_all h.2
    rw [toPys_map] at al
    exact ⟨_, _, hx.dp 20 h.1.1, hy.dp 20 h.1.2, al.1 _ (by simp) _ (by simp), al.2 _ (by simp), Nat.le_trans (depth_of 20 _ h.1.1) (by decide), q _ (.bl _)⟩
  · cases e
theorem ok_ltP : OpOk X W (CM.rCmpD X.K fun d e => PySem.W.dataLt d e) (sc2 ltP) := opOk_sc fun F c H x y dx dy d Q hx hy e q => by
  unfold ltP at e
  split at e
  · rename_i h
    simp only [Bool.and_eq_true] at h
    cases e
    have al := alk_all h.2
    rw [toPys_map] at al
    exact ⟨_, _, hx.dp 20 h.1.1, hy.dp 20 h.1.2, al.1 _ (by simp) _ (by simp), al.2 _ (by simp), Nat.le_trans (depth_of 20 _ h.1.1) (by decide), q _ (.bl _)⟩
  · cases e
theorem ve_leP (hr : Room k X.A) (ha : VE X W e fa) (hb : VE X W a fb) : VE X W (.Compare e [.LtE] [a] pos) (eBin (sc2 leP) fa fb) := ve_cmp (CM.op_leT (huOf hr)) ok_leP ha hb (nomark _)
theorem vt_leP (hr : Room k X.A) (ha : VE X W e fa) (hb : VE X W a fb) : VT X W (.Compare e [.LtE] [a] pos) (eT (eBin (sc2 leP) fa fb)) := vt_cmp (CM.op_leT (huOf hr)) ok_leP ha hb (nomark _)
theorem ve_ltP (hr : Room k X.A) (ha : VE X W e fa) (hb : VE X W a fb) : VE X W (.Compare e [.Lt] [a] pos) (eBin (sc2 ltP) fa fb) := ve_cmp (CM.op_ltT (huOf hr)) ok_ltP ha hb (nomark _)
theorem vt_ltP (hr : Room k X.A) (ha : VE X W e fa) (hb : VE X W a fb) : VT X W (.Compare e [.Lt] [a] pos) (eT (eBin (sc2 ltP) fa fb)) := vt_cmp (CM.op_ltT (huOf hr)) ok_ltP ha hb (nomark _)
end
end VE

/-! functions as values: lambdas, inner defs; defs that get one and call it -/
namespace VE
open PySem PySem.Spec PyProof.Rows L2
variable [VEnv]
/-! ### where lambdas and inner defs stand in a text -/
def noX : Expr := .Constant .none 0 ⟨0, 0, 0, 0⟩
def noS : Stmt := .Pass ⟨0, 0, 0, 0⟩
def pX : Expr → Nat → Expr
  | .Call f _ _ _, 0 => f
  | .Call _ es _ _, n + 1 => es.getD n noX
  | .List es _, n => es.getD n noX
  | .Tuple es _ _, n => es.getD n noX
  | .BoolOp _ es _, n => es.getD n noX
  | .Compare l _ _ _, 0 => l
  | .Compare _ _ es _, n + 1 => es.getD n noX
  | .UnaryOp _ e _, _ => e
  | .BinOp l _ _ _, 0 => l
  | .BinOp _ _ r _, _ => r
  | .IfExp t _ _ _, 0 => t
  | .IfExp _ b _ _, 1 => b
  | .IfExp _ _ o _, _ => o
  | .Subscript v _ _, 0 => v
  | .Subscript _ s _, _ => s
  | .Starred v _, _ => v
  | .Attribute v _ _, _ => v
  | .ListComp e _ _ _, _ => e
  | _, _ => noX
def pE : Stmt → Expr
  | .Return (some e) _ => e
  | .Assign _ e _ => e
  | .Expr e _ => e
  | .If e _ _ _ => e
  | .For _ e _ _ _ => e
  | .While e _ _ _ => e
  | .AugAssign _ _ e _ => e
  | _ => noX
def pS : Stmt → Nat → Stmt
  | .If _ b o _, n => (b ++ o).getD n noS
  | .For _ _ b o _, n => (b ++ o).getD n noS
  | .While _ b o _, n => (b ++ o).getD n noS
  | .With _ b _, n => b.getD n noS
  | .Try b _ _ _ _, n => b.getD n noS
  | _, _ => noS
def lamA : Expr → Arguments
  | .Lambda a _ _ _ => a
  | _ => ⟨[], [], none, [], [], none, []⟩
def lamB : Expr → Expr
  | .Lambda _ b _ _ => b
  | _ => noX
def lamS : Expr → Scope
  | .Lambda _ _ s _ => s
  | _ => default
/-! ### known cells taken off, put on -/
def CelsAt (C : List Addr) (H : Hp) : Prop := ∀ a ∈ C, ∃ o, H a = some (CelO o)
def offH (C : List Addr) (H : Hp) : Hp := fun a => if a ∈ C then none else H a
def onH (C : List Addr) (H₀ H : Hp) : Hp := fun a => if a ∈ C then H₀ a else H a
def offF (C : List Addr) (F : Addr → Prop) : Addr → Prop := fun a => F a ∧ a ∉ C
def onF (C : List Addr) (F : Addr → Prop) : Addr → Prop := fun a => F a ∨ a ∈ C
section
variable {K : PySem.W.Frag} {mg : Str → Option Value} {F F' : Addr → Prop} {c c' : List Addr} {st st' : Sto} {H H' H₀ : Hp} {C : List Addr} {a : Addr} {u : HO}
omit [VEnv] in
theorem offH_in (h : a ∈ C) : offH C H a = none := if_pos h
omit [VEnv] in
theorem offH_out (h : a ∉ C) : offH C H a = H a := if_neg h
omit [VEnv] in
theorem onH_in (h : a ∈ C) : onH C H₀ H a = H₀ a := if_pos h
omit [VEnv] in
theorem onH_out (h : a ∉ C) : onH C H₀ H a = H a := if_neg h
omit [VEnv] in
theorem CelsAt.out (hC : CelsAt C H) (h : H a = some u) (n : ∀ o, u ≠ CelO o) : a ∉ C := fun m => by
  obtain ⟨o, e⟩ := hC a m
  rw [h] at e
  exact n o (Option.some.inj e)
omit [VEnv] in
theorem CelsAt.off (hC : CelsAt C H) (h : H a = some u) (n : ∀ o, u ≠ CelO o) : offH C H a = some u := by
  rw [offH_out (hC.out h n)]; exact h
omit [VEnv] in
theorem off_some (h : offH C H a = some u) : a ∉ C ∧ H a = some u := by
  unfold offH at h
  split at h
  · cases h
  · exact ⟨by assumption, h⟩
omit [VEnv] in
theorem CelsAt.rd (hC : CelsAt C H) (h : Rd H a u) (n : u ≠ cellT) (n2 : ∀ o, u ≠ CelO o) : a ∉ C ∧ Rd (offH C H) a u := by
  rcases h with h | ⟨o, h⟩
  · exact ⟨hC.out h n2, .inl (hC.off h n2)⟩
  · have n3 : ∀ o', HO.frz o u ≠ CelO o' := fun o' z => by unfold CelO at z; injection z with _ z; exact n z
    exact ⟨hC.out h n3, .inr ⟨o, hC.off h n3⟩⟩
omit [VEnv] in
theorem SlAt.offC {x Cc dx : Addr} {vs : List (Option V)} (hC : CelsAt C H) (h : L2.SlAt H x Cc dx vs) : x ∉ C ∧ L2.SlAt (offH C H) x Cc dx vs := by
  obtain ⟨h1, h2, h3⟩ := h
  have n1 : ∀ o, HO.own x ≠ CelO o := fun o z => by unfold CelO at z; cases z
  rcases h3 with h3 | ⟨e, h3⟩
  · have n2 : ∀ o, L2.SlO Cc dx x vs ≠ CelO o := fun o z => by unfold CelO L2.SlO at z; cases z
    exact ⟨hC.out h3 n2, hC.off h1 n1, h2, .inl (hC.off h3 n2)⟩
  · have n2 : ∀ o, HO.ins Cc dx [] ≠ CelO o := fun o z => by unfold CelO at z; cases z
    exact ⟨hC.out h3 n2, hC.off h1 n1, h2, .inr ⟨e, hC.off h3 n2⟩⟩
mutual
theorem Rp.off (hC : CelsAt C H) : ∀ {v : V} {d : D}, Rp K mg F c H v d → Rp K mg (offF C F) c (offH C H) v d
  | _, _, .non => .non
  | _, _, .bl b => .bl b
  | _, _, .int i => .int i
  | _, _, .str x => .str x
  | _, _, .lst f h r => .lst ⟨f, hC.out h fun o z => by unfold CelO at z; cases z⟩ (hC.off h fun o z => by unfold CelO at z; cases z) (Rps.off hC r)
  | _, _, .scr (ns := ns) h => .scr (by
      rcases h with ⟨f, h⟩ | h
      · obtain ⟨n, r⟩ := hC.rd h (fun z => by unfold cellT at z; cases z) fun o z => by unfold CelO at z; cases z
        exact .inl ⟨⟨f, n⟩, r⟩
      · exact .inr h)
  | _, _, .tup h r => .tup (by
      rcases h with ⟨f, h⟩ | h
      · obtain ⟨n, r⟩ := hC.rd h (fun z => by unfold cellT at z; cases z) fun o z => by unfold CelO at z; cases z
        exact .inl ⟨⟨f, n⟩, r⟩
      · exact .inr h) (Rps.off hC r)
  | _, _, .obj m f h r => .obj m ⟨f, (SlAt.offC hC h).1⟩ (SlAt.offC hC h).2 (Rps.off hC r)
  | _, _, .ino m f h e r => .ino m ⟨f, hC.out h fun o z => by unfold CelO at z; cases z⟩ (hC.off h fun o z => by unfold CelO at z; cases z) e (Rps.off hC r)
  | _, _, .ref h => .ref h
  | _, _, .glb h => .glb h
  | _, _, .lam f h g k z => .lam ⟨f, hC.out h fun o z => by unfold CelO FnL at z; cases z⟩ (hC.off h fun o z => by unfold CelO FnL at z; cases z) ⟨g, hC.out k fun o z => by unfold CelO LamX.CodeO at z; cases z⟩ (hC.off k fun o z => by unfold CelO LamX.CodeO at z; cases z) z
theorem Rps.off (hC : CelsAt C H) : ∀ {vs : List V} {ds : List D}, Rps K mg F c H vs ds → Rps K mg (offF C F) c (offH C H) vs ds
  | _, _, .nil => .nil
  | _, _, .cons h r => .cons (Rp.off hC h) (Rps.off hC r)
end
theorem CellOk.offC {x : Cell} (hC : CelsAt C H) (h : CellOk K mg F c H a x) : a ∉ C ∧ CellOk K mg (offF C F) c (offH C H) a x := by
  cases x with
  | lst ds =>
    obtain ⟨vs, e, p⟩ := h
    have n : ∀ o, HO.lst vs ≠ CelO o := fun o z => by unfold CelO at z; cases z
    exact ⟨hC.out e n, vs, hC.off e n, p.off hC⟩
  | ins nm fs =>
    obtain ⟨Cc, dx, vfs, k1, k2, k3, p⟩ := h
    have n : ∀ o, HO.ins Cc dx vfs ≠ CelO o := fun o z => by unfold CelO at z; cases z
    exact ⟨hC.out k2 n, Cc, dx, vfs, k1, hC.off k2 n, k3, p.off hC⟩
  | slo nm fs =>
    obtain ⟨Cc, dx, vs, k1, k2, p⟩ := h
    obtain ⟨n, k3⟩ := SlAt.offC hC k2
    exact ⟨n, Cc, dx, vs, k1, k3, p.off hC⟩
  | dct kvs =>
    obtain ⟨vk, e, e2, p⟩ := h
    have n : ∀ o, HO.dK vk ≠ CelO o := fun o z => by unfold CelO at z; cases z
    exact ⟨hC.out e n, vk, hC.off e n, e2, p.off hC⟩
theorem RelC.off (hC : CelsAt C H) (r : RelC K mg F c st H) : RelC K mg (offF C F) c st (offH C H) := by
  refine ⟨fun a h => by obtain ⟨o, e⟩ := r.trk a h.1; exact ⟨o, by rw [offH_out h.2]; exact e⟩, r.len, r.nd, fun n a x hn hx => (CellOk.offC hC (r.cl n a x hn hx)).2, fun a ha h => r.nf a ha h.1, fun p hp => ?_⟩
  obtain ⟨t1, t2, ps, t3, t4, t5⟩ := r.tab p hp
  have n : ∀ o, HO.tbl ps ≠ CelO o := fun o z => by unfold CelO at z; cases z
  refine ⟨fun h => t1 h.1, t2, ps, hC.off t3 n, t4, fun pos cv h => ?_⟩
  obtain ⟨c', e, f, k⟩ := t5 pos cv h
  have n2 : ∀ o, LamX.CodeO c' p.2 ≠ CelO o := fun o z => by unfold CelO LamX.CodeO at z; cases z
  exact ⟨c', e, ⟨f, hC.out k n2⟩, hC.off k n2⟩
omit [VEnv] in
/-- cells put on where there are none -/
theorem stp_on (h0 : ∀ a ∈ C, H a = none) : Stp F c H (onF C F) c (onH C H₀ H) :=
  ⟨fun _ h => .inl h, fun a o _ h => by rw [onH_out fun m => by rw [h0 a m] at h; cases h]; exact h, ⟨[], (List.append_nil c).symm⟩, fun d x h => by rw [onH_out fun m => by rw [h0 d m] at h; cases h]; exact h⟩
theorem RelC.on (h0 : ∀ a ∈ C, H a = none) (hC : CelsAt C H₀) (r : RelC K mg F c st H) : RelC K mg (onF C F) c st (onH C H₀ H) := by
  have nc : ∀ a ∈ c, a ∉ C := fun a ha m => by
    obtain ⟨o, e⟩ := r.ctrk ha
    rw [h0 a m] at e; cases e
  refine r.stp (stp_on h0) (fun a h => ?_) (fun a ha => onH_out (nc a ha)) (fun a ha h => h.elim (r.nf a ha) (nc a ha)) (fun d x h => by rw [onH_out fun m => by rw [h0 d m] at h; cases h]; exact h) (fun d x h => by rw [onH_out fun m => by rw [h0 d m] at h; cases h]; exact h) fun d ps h hf => hf.elim id fun m => by rw [h0 d m] at h; cases h
  by_cases m : a ∈ C
  · obtain ⟨o, e⟩ := hC a m
    exact ⟨_, by rw [onH_in m]; exact e⟩
  · obtain ⟨o, e⟩ := r.trk a (h.elim id fun z => absurd z m)
    exact ⟨o, by rw [onH_out m]; exact e⟩
end
section
variable {P : Program} {w : World} {K : PySem.W.Frag} {mg : Str → Option Value} {base B h h' : Heap} {A : Around} {outer : List Env} {s s' : Shared} {H H' H₀ : Hp} {C fs : List Addr} {Q Q' : VK} {E E' : XK} {a : Addr} {u : Value}
omit [VEnv] in
theorem celT_ok (e : ∃ o, h.get? a = some o) : ObjOk P w H h a cellT := ⟨True.intro, e, fun _ _ _ _ => True.intro⟩
omit [VEnv] in
theorem cel_ok {o : Obj} (e : h.get? a = some o) : ObjOk P w H h a (CelO o) := ⟨e, celT_ok ⟨o, e⟩⟩
omit [VEnv] in
theorem cel_get (ok : HOk P w H h) {o : Obj} (e : H a = some (CelO o)) : h.get? a = some o := (ok a _ e).1
omit [VEnv] in
theorem own_ne {x : Addr} : ∀ o, HO.own x ≠ CelO o := fun o z => by unfold CelO at z; cases z
omit [VEnv] in
theorem tup_ne {xs : List V} : ∀ o, HO.tup xs ≠ CelO o := fun o z => by unfold CelO at z; cases z
omit [VEnv] in
theorem tbl_ne {ps : Array Value} : ∀ o, HO.tbl ps ≠ CelO o := fun o z => by unfold CelO at z; cases z
omit [VEnv] in
theorem HOk.offC (ok : HOk P w H h) (hC : CelsAt C H) : HOk P w (offH C H) h := fun b o q => by
  obtain ⟨n, q⟩ := off_some q
  exact (ok b o q).stay (fun _ _ _ z => z) (fun d z => hC.off z own_ne) fun d xs z => hC.off z tup_ne
omit [VEnv] in
theorem HOk.onC (ok : HOk P w H h) (h0 : ∀ a ∈ C, H a = none) (hO : ∀ a ∈ C, ∃ o, H₀ a = some (CelO o) ∧ h.get? a = some o) : HOk P w (onH C H₀ H) h := fun b o q => by
  by_cases m : b ∈ C
  · rw [onH_in m] at q
    obtain ⟨o', e, g⟩ := hO b m
    rw [e] at q; cases q
    exact cel_ok g
  · rw [onH_out m] at q
    have up : ∀ d v, H d = some v → onH C H₀ H d = some v := fun d v z => by rw [onH_out fun m => by rw [h0 d m] at z; cases z]; exact z
    exact (ok b o q).stay (fun _ _ _ z => z) (fun d z => up d _ z) fun d xs z => up d _ z
theorem Env0.offC (e : Env0 P w K mg base A outer s H) (hC : CelsAt C H) : Env0 P w K mg base A outer s (offH C H) := by
  have z : ∀ b, H b = none → offH C H b = none := fun b n => by unfold offH; split <;> first | rfl | exact n
  exact ⟨e.frames, e.mod, fun b o h => ⟨(e.bs b o h).1, z b (e.bs b o h).2⟩, e.bsz, e.funs, fun b hb => z b (e.frf b hb), HOk.offC e.hok hC, e.bare⟩
theorem Env0.onC (e : Env0 P w K mg base A outer s H) (h0 : ∀ a ∈ C, H a = none) (hO : ∀ a ∈ C, ∃ o, H₀ a = some (CelO o) ∧ s.heap.get? a = some o) (hf : ∀ a ∈ C, a ∉ frs outer) (hb : ∀ a ∈ C, base.get? a = none) : Env0 P w K mg base A outer s (onH C H₀ H) := by
  refine ⟨e.frames, e.mod, fun b o h => ⟨(e.bs b o h).1, ?_⟩, e.bsz, e.funs, fun b hb' => ?_, HOk.onC e.hok h0 hO, e.bare⟩
  · rw [onH_out fun m => by rw [hb b m] at h; cases h]; exact (e.bs b o h).2
  · rw [onH_out fun m => hf b m hb']; exact e.frf b hb'
omit [VEnv] in
theorem un_on (un : Un fs [] (offH C H) H' h h') (hC : CelsAt C H) (h0 : ∀ a ∈ C, H' a = none) : Un fs [] H (onH C H H') h h' := by
  have z : ∀ b, H b = none → offH C H b = none := fun b n => by unfold offH; split <;> first | rfl | exact n
  have nc : ∀ b, H b = none → b ∉ C := fun b n m => by obtain ⟨o, e⟩ := hC b m; rw [n] at e; cases e
  refine ⟨fun b o q n => un.keep b o q (z b n), fun b o q n => un.slot b o q (z b n), fun b o q n hx => ?_, un.there, fun b xs q => ?_, fun b o x q => ?_, fun b ps q => ?_⟩
  · rw [onH_out (nc b n)]; exact un.free b o q (z b n) hx
  · rw [onH_out (hC.out q tup_ne)]; exact un.tups b xs (hC.off q tup_ne)
  · by_cases m : b ∈ C
    · rw [onH_in m]; exact q
    · rw [onH_out m]; exact un.frzs b o x (by rw [offH_out m]; exact q)
  · rw [onH_out (hC.out q tbl_ne)]; exact un.tbls b ps (hC.off q tbl_ne)
omit [VEnv] in
theorem un_off (un : Un fs [] (onH C H₀ H) H' h h') (hC : CelsAt C H₀) (h0 : ∀ a ∈ C, H a = none) (hk : ∀ a ∈ C, ∀ o, h.get? a = some o → h'.get? a = some o) : Un fs [] H (offH C H') h h' := by
  have up : ∀ d v, H d = some v → d ∉ C ∧ onH C H₀ H d = some v := fun d v z => by
    have m : d ∉ C := fun m => by rw [h0 d m] at z; cases z
    exact ⟨m, by rw [onH_out m]; exact z⟩
  refine ⟨fun b o q n hb hx => ?_, fun b o q n hb hx => ?_, fun b o q n hx => ?_, un.there, fun b xs q => ?_, fun b o x q => ?_, fun b ps q => ?_⟩
  · by_cases m : b ∈ C
    · exact hk b m o q
    · exact un.keep b o q (by rw [onH_out m]; exact n) hb hx
  · by_cases m : b ∈ C
    · exact ⟨o.slots, hk b m o q⟩
    · exact un.slot b o q (by rw [onH_out m]; exact n) hb hx
  · by_cases m : b ∈ C
    · exact offH_in m
    · rw [offH_out m]; exact un.free b o q (by rw [onH_out m]; exact n) hx
  · obtain ⟨m, k⟩ := up b _ q
    rw [offH_out m]; exact un.tups b xs k
  · obtain ⟨m, k⟩ := up b _ q
    rw [offH_out m]; exact un.frzs b o x k
  · obtain ⟨m, k⟩ := up b _ q
    rw [offH_out m]; exact un.tbls b ps k
/-- a run without the cells, told with them -/
theorem cr_on {r : Result} (hr : CR (L2.CX P w) outer P w (offH C H) s Q' E' r s') (hC : CelsAt C H) (ok : HOk P w H s.heap) (hf : ∀ a ∈ C, a ∉ frs outer)
    (hq : ∀ v H', (∀ a ∈ C, H' a = none) → Q' v H' → Q v (onH C H H')) (he : ∀ cls d H', (∀ a ∈ C, H' a = none) → E' cls d H' → E cls d (onH C H H')) : CR (L2.CX P w) outer P w H s Q E r s' := by
  have fr : ∀ {H' : Hp}, (∀ b o, s.heap.get? b = some o → offH C H b = none → H' b = none) → ∀ a ∈ C, H' a = none := fun {H'} f a m => by
    obtain ⟨o, e⟩ := hC a m
    exact f a o (cel_get ok e) (offH_in m)
  cases r with
  | ok fl =>
    cases fl with
    | ret u =>
      obtain ⟨v, H', os, bare, un, hok, rv, q⟩ := hr
      have h0 := fr fun b o q n => un.free b o q n (by simp)
      refine ⟨v, onH C H H', os, bare, un_on un hC h0, HOk.onC hok h0 fun a m => ?_, rv, hq v H' h0 q⟩
      obtain ⟨o, e⟩ := hC a m
      exact ⟨o, e, un.keep a o (cel_get ok e) (offH_in m) (hf a m) (by simp)⟩
    | next => exact hr
    | brk => exact hr
    | cont => exact hr
  | error e =>
    obtain ⟨a, B, H', cls, d, e1, fl, hok, ub, na, os, bare, q⟩ := hr
    have z : ∀ b, H b = none → offH C H b = none := fun b n => by unfold offH; split <;> first | rfl | exact n
    have nc : ∀ b, H b = none → b ∉ C := fun b n m => by obtain ⟨o, e⟩ := hC b m; rw [n] at e; cases e
    have h0 := fr ub.free
    have inB : ∀ b ∈ C, ∃ o, H b = some (CelO o) ∧ B.get? b = some o := fun b m => by
      obtain ⟨o, e⟩ := hC b m
      exact ⟨o, e, ub.keep b o (cel_get ok e) (offH_in m) (hf b m)⟩
    refine ⟨a, B, onH C H H', cls, d, e1, fl, HOk.onC hok h0 inB, ⟨fun b o q n => ub.keep b o q (z b n), ub.slot, fun b o q n => ?_, ub.there, fun b xs q => ?_, fun b o x q => ?_, fun b ps q => ?_⟩, ?_, os, bare, he cls d H' h0 q⟩
    · rw [onH_out (nc b n)]; exact ub.free b o q (z b n)
    · rw [onH_out (hC.out q tup_ne)]; exact ub.tups b xs (hC.off q tup_ne)
    · by_cases m : b ∈ C
      · rw [onH_in m]; exact q
      · rw [onH_out m]; exact ub.frzs b o x (by rw [offH_out m]; exact q)
    · rw [onH_out (hC.out q tbl_ne)]; exact ub.tbls b ps (hC.off q tbl_ne)
    · by_cases m : a ∈ C
      · obtain ⟨o, _, e⟩ := inB a m
        rw [fl.2.1] at e; cases e
      · rw [onH_out m]; exact na
/-- a run with the cells, told without them -/
theorem cr_off {r : Result} (hr : CR (L2.CX P w) outer P w (onH C H₀ H) s Q' E' r s') (hC : CelsAt C H₀) (h0 : ∀ a ∈ C, H a = none) (hO : ∀ a ∈ C, ∀ o, H₀ a = some (CelO o) → s.heap.get? a = some o)
    (hq : ∀ v H', CelsAt C H' → Q' v H' → Q v (offH C H')) (he : ∀ cls d H', CelsAt C H' → E' cls d H' → E cls d (offH C H')) : CR (L2.CX P w) outer P w H s Q E r s' := by
  have up : ∀ d v, H d = some v → d ∉ C ∧ onH C H₀ H d = some v := fun d v z => by
    have m : d ∉ C := fun m => by rw [h0 d m] at z; cases z
    exact ⟨m, by rw [onH_out m]; exact z⟩
  have cel : ∀ {H' : Hp}, (∀ b o x, onH C H₀ H b = some (.frz o x) → H' b = some (.frz o x)) → ∀ a ∈ C, ∃ o, H₀ a = some (CelO o) ∧ H' a = some (CelO o) := fun {H'} f a m => by
    obtain ⟨o, e⟩ := hC a m
    exact ⟨o, e, f a o cellT (by rw [onH_in m]; exact e)⟩
  cases r with
  | ok fl =>
    cases fl with
    | ret u =>
      obtain ⟨v, H', os, bare, un, hok, rv, q⟩ := hr
      have hc := cel un.frzs
      have hC' : CelsAt C H' := fun a m => by obtain ⟨o, _, e⟩ := hc a m; exact ⟨o, e⟩
      refine ⟨v, offH C H', os, bare, un_off un hC h0 (fun a m o q => ?_), HOk.offC hok hC', rv, hq v H' hC' q⟩
      obtain ⟨o', e1, e2⟩ := hc a m
      rw [hO a m o' e1] at q; cases q
      exact cel_get hok e2
    | next => exact hr
    | brk => exact hr
    | cont => exact hr
  | error e =>
    obtain ⟨a, B, H', cls, d, e1, fl, hok, ub, na, os, bare, q⟩ := hr
    have hc := cel ub.frzs
    have hC' : CelsAt C H' := fun a m => by obtain ⟨o, _, e⟩ := hc a m; exact ⟨o, e⟩
    refine ⟨a, B, offH C H', cls, d, e1, fl, HOk.offC hok hC', ⟨fun b o q n hb => ?_, ub.slot, fun b o q n => ?_, ub.there, fun b xs q => ?_, fun b o x q => ?_, fun b ps q => ?_⟩, ?_, os, bare, he cls d H' hC' q⟩
    · by_cases m : b ∈ C
      · obtain ⟨o', e1, e2⟩ := hc b m
        rw [hO b m o' e1] at q; cases q
        exact cel_get hok e2
      · exact ub.keep b o q (by rw [onH_out m]; exact n) hb
    · by_cases m : b ∈ C
      · exact offH_in m
      · rw [offH_out m]; exact ub.free b o q (by rw [onH_out m]; exact n)
    · obtain ⟨m, k⟩ := up b _ q
      rw [offH_out m]; exact ub.tups b xs k
    · obtain ⟨m, k⟩ := up b _ q
      rw [offH_out m]; exact ub.frzs b o x k
    · obtain ⟨m, k⟩ := up b _ q
      rw [offH_out m]; exact ub.tbls b ps k
    · unfold offH; split <;> first | rfl | exact na
end
section
variable {K : PySem.W.Frag} {mg : Str → Option Value} {F F' : Addr → Prop} {c c' : List Addr} {st st' : Sto} {H H' H₀ : Hp} {C : List Addr} {Q : VK} {E : XK} {cls : Value} {dx : Option Addr} {x : Exn}
theorem RpX.stpC (h : RpX K mg F c H cls dx x) (s : Stp F c H F' c' H') : RpX K mg F' c' H' cls dx x := by
  obtain ⟨m, h⟩ := h
  refine ⟨m, h.elim .inl fun ⟨d', vfs, e, f, k, e2, r⟩ => .inr ⟨d', vfs, e, s.inc _ f, s.keep _ _ f k, e2, r.stp s⟩⟩
theorem RpX.off (hC : CelsAt C H) (h : RpX K mg F c H cls dx x) : RpX K mg (offF C F) c (offH C H) cls dx x := by
  obtain ⟨m, h⟩ := h
  refine ⟨m, h.elim .inl fun ⟨d', vfs, e, f, k, e2, r⟩ => .inr ⟨d', vfs, e, ?_, ?_, e2, r.off hC⟩⟩
  · exact ⟨f, hC.out k fun o z => by unfold CelO at z; cases z⟩
  · exact hC.off k fun o z => by unfold CelO at z; cases z
/-- for a call without the cells -/
theorem postF_off {r : RF} (hC : CelsAt C H) (hF : ∀ a ∈ C, F a) (p : PostF K mg false F c H Q E r) :
    PostF K mg false (offF C F) c (offH C H) (fun v H' => (∀ a ∈ C, H' a = none) → Q v (onH C H H')) (fun cls d H' => (∀ a ∈ C, H' a = none) → E cls d (onH C H H')) r := by
  have stp : ∀ {F' : Addr → Prop} {c' : List Addr} {H' : Hp}, (∀ a ∈ C, H' a = none) → Stp (offF C F) c (offH C H) F' c' H' → Stp F c H (onF C F') c' (onH C H H') := fun {F' c' H'} h0 s => by
    refine ⟨fun a f => ?_, fun a o f h => ?_, s.cs, fun d x h => ?_⟩
    · by_cases m : a ∈ C
      · exact .inr m
      · exact .inl (s.inc a ⟨f, m⟩)
    · by_cases m : a ∈ C
      · rw [onH_in m]; exact h
      · rw [onH_out m]; exact s.keep a o ⟨f, m⟩ (by rw [offH_out m]; exact h)
    · have m := hC.out h own_ne
      rw [onH_out m]; exact s.own d x (hC.off h own_ne)
  have old : ∀ {F' : Addr → Prop} {c' : List Addr} {H' : Hp} {st' : Sto}, (∀ a ∈ C, H' a = none) → RelC K mg F' c' st' H' → Old (offF C F) c (offH C H) F' c' H' → Old F c H (onF C F') c' (onH C H H') := fun {F' c' H' st'} h0 rc o => by
    refine ⟨fun a u h hn => ?_, fun a h => ?_, fun a h => ?_⟩
    · by_cases m : a ∈ C
      · exact .inl (by rw [onH_in m]; exact h)
      · exact (o.keep a u (by rw [offH_out m]; exact h) hn).up fun u h => .inl (by rw [onH_out m]; exact h)
    · by_cases m : a ∈ C
      · exact .inl (hF a m)
      · rcases o.new a (h.elim id fun z => absurd z m) with z | z
        · exact .inl z.1
        · exact .inr (by rw [offH_out m] at z; exact z)
    · have m : a ∉ C := fun m => by
        obtain ⟨u, e⟩ := rc.ctrk h
        rw [h0 a m] at e; cases e
      exact (o.nwc a h).imp id fun z => by rw [offH_out m] at z; exact z
  cases r with
  | ok d st' => exact fun v F' c' H' s rc o rv h0 => p v _ c' _ (stp h0 s) (rc.on h0 hC) (old h0 rc o) (show Rp K mg _ c' _ v d from (show Rp K mg F' c' H' v d from rv).stp (stp_on h0))
  | ex x st' => exact fun cls dx F' c' H' s rc o rx h0 => p cls dx _ c' _ (stp h0 s) (rc.on h0 hC) (old h0 rc o) (rx.stpC (stp_on h0))
  | bad => exact p
/-- for a call with the cells -/
theorem postF_on {fr : Bool} {r : RF} (hC : CelsAt C H₀) (h0 : ∀ a ∈ C, H a = none) (hF : ∀ a, F a → a ∉ C) (p : PostF K mg fr F c H Q E r) :
    PostF K mg fr (onF C F) c (onH C H₀ H) (fun v H' => CelsAt C H' → Q v (offH C H')) (fun cls d H' => CelsAt C H' → E cls d (offH C H')) r := by
  have up : ∀ {d : Addr} {v : HO}, H d = some v → d ∉ C ∧ onH C H₀ H d = some v := fun {d v} z => by
    have m : d ∉ C := fun m => by rw [h0 d m] at z; cases z
    exact ⟨m, by rw [onH_out m]; exact z⟩
  have nn : ∀ {a : Addr}, onH C H₀ H a = none → a ∉ C ∧ H a = none := fun {a} z => by
    by_cases m : a ∈ C
    · obtain ⟨o, e⟩ := hC a m
      rw [onH_in m, e] at z; cases z
    · exact ⟨m, by rw [onH_out m] at z; exact z⟩
  have stp : ∀ {F' : Addr → Prop} {c' : List Addr} {H' : Hp}, CelsAt C H' → Stp (onF C F) c (onH C H₀ H) F' c' H' → Stp F c H (offF C F') c' (offH C H') := fun {F' c' H'} hC' s => by
    refine ⟨fun a f => ⟨s.inc a (.inl f), hF a f⟩, fun a o f h => ?_, s.cs, fun d x h => ?_⟩
    · rw [offH_out (hF a f)]; exact s.keep a o (.inl f) (up h).2
    · obtain ⟨m, k⟩ := up h
      rw [offH_out m]; exact s.own d x k
  have old : ∀ {F' : Addr → Prop} {c' : List Addr} {H' : Hp}, Old (onF C F) c (onH C H₀ H) F' c' H' → Old F c H (offF C F') c' (offH C H') := fun {F' c' H'} o => by
    refine ⟨fun a u h hn => ?_, fun a h => ?_, fun a h => ?_⟩
    · obtain ⟨m, k⟩ := up h
      exact (o.keep a u k hn).up fun u h => .inl (by rw [offH_out m]; exact h)
    · rcases o.new a h.1 with z | z
      · exact .inl (z.elim id fun z => absurd z h.2)
      · exact .inr (nn z).2
    · exact (o.nwc a h).imp id fun z => (nn z).2
  have ret : ∀ {F' : Addr → Prop} {c' : List Addr} {H' : Hp} {v : V} {d : D}, CelsAt C H' → RetOk K mg fr F' c' (onH C H₀ H) H' v d → RetOk K mg fr (offF C F') c' H (offH C H') v d := fun {F' c' H' v d} hC' rv => by
    cases fr with
    | false => exact (show Rp K mg F' c' H' v d from rv).off hC'
    | true =>
      obtain ⟨a, rfl, h1, h2, h3, h4⟩ := rv
      refine ⟨a, rfl, fun z => h1 z.1, h2, (nn h3).2, ?_⟩
      cases d with
      | lst ds => obtain ⟨vs, e, r⟩ := h4; exact ⟨vs, hC'.off e (fun o z => by unfold CelO at z; cases z), r.off hC'⟩
      | _ => exact h4.elim
  cases r with
  | ok d st' => exact fun v F' c' H' s rc o rv hC' => p v _ c' _ (stp hC' s) (rc.off hC') (old o) (ret hC' rv)
  | ex x st' => exact fun cls dx F' c' H' s rc o rx hC' => p cls dx _ c' _ (stp hC' s) (rc.off hC') (old o) (rx.off hC')
  | bad => exact p
end
/-! ### lambdas, inner defs: what they promise -/
/-- what is captured, where it is known -/
def CapOk (K : PySem.W.Frag) (mg : Str → Option Value) (F : Addr → Prop) (c : List Addr) (H : Hp) (ws : List (Option V)) (caps : List (Option D)) : Prop := ws.length = caps.length ∧ ∀ (j : Nat) (d : D), caps[j]? = some (some d) → ∃ v, ws[j]? = some (some v) ∧ Rp K mg F c H v d
structure LamOk (P : Program) (w : World) (K : PySem.W.Frag) (mg : Str → Option Value) (base : Heap) (k i : Nat) (m : List (Option D) → FM) : Prop where
  run : ∀ (A : Around) (outer : List Env) (s : Shared) (H : Hp) (us : List Value) (vs : List V) (ws : List (Option V)) (caps : List (Option D)) (Q : VK) (E : XK) (f c' : Addr) (cells : List (Str × Addr)) (F : Addr → Prop) (c : List Addr) (ds : List D) (st : Sto),
    Room k A → Env0 P w K mg base A outer s H → H f = some (FnL f (VEnv.code i) cells c') → H c' = some (LamX.CodeO c' (VEnv.code i).qual) → NdefX.CellsAt (cloFrom cells (VEnv.code i).scope.names []) (VEnv.code i).fr ws s.heap H → Vals vs us →
    RelC K mg F c st H → Rps K mg F c H vs ds → CapOk K mg F c H ws caps → ds.length = (VEnv.code i).ps.length → PostF K mg false F c H Q E (m caps ds st) → codeAny (model P w) A (.call (.ref f) ⟨us, []⟩) (CR (L2.CX P w) outer P w H s Q E) s
theorem LamOk.mono {P : Program} {w : World} {K : PySem.W.Frag} {mg : Str → Option Value} {base : Heap} {j k i : Nat} {m : List (Option D) → FM} (o : LamOk P w K mg base j i m) (h : j ≤ k) : LamOk P w K mg base k i m :=
  ⟨fun A outer s H us vs ws caps Q E f c' cells F c ds st hr => o.run A outer s H us vs ws caps Q E f c' cells F c ds st (hr.mono h)⟩
theorem LamOk.none {P : Program} {w : World} {K : PySem.W.Frag} {mg : Str → Option Value} {base : Heap} {k i : Nat} : LamOk P w K mg base k i (fun _ _ _ => .bad) :=
  ⟨fun A outer s H us vs ws caps Q E f c' cells F c ds st _ _ _ _ _ _ _ _ _ _ h => h.elim⟩
def capS : Option D → Sl
  | some d => .va d
  | none => .no
/-- the names at a lambda's entry: parameters, captured ones, its own -/
def envL (n : Nat) (ds : List D) (caps : List (Option D)) : EnvD := ds.map .va ++ (caps.map capS ++ List.replicate (n - ds.length - caps.length) .no)
def toRFe : R D → RF
  | .ok d _ st => .ok d st
  | .ex x _ st => .ex x st
  | .bad => .bad
def toLam (n : Nat) (g : M D) : List (Option D) → FM := fun caps ds st => toRFe (g (envL n ds caps) st)
def toLamS (n : Nat) (g : M Fl) : List (Option D) → FM := fun caps ds st => toRF false (g (envL n ds caps) st)
section
variable {P : Program} {w : World} {K : PySem.W.Frag} {mg : Str → Option Value} {base : Heap} {F F' : Addr → Prop} {c c' : List Addr} {st st' : Sto} {H H' H₀ : Hp} {C : List Addr} {Q : VK} {E : XK} {N : List Str} {vs : List V} {ds : List D} {ws : List (Option V)} {caps : List (Option D)}
theorem rel_startF {n : Nat} (rc : RelC K mg F c st H) (rp : Rps K mg F c H vs ds) (cp : CapOk K mg F c H ws caps) (hn : n = N.length) : Rel ⟨K, mg, H, F, c⟩ F c (envL n ds caps) st (NdefX.startF N vs ws) H := by
  have hl := rp.length
  have hw := cp.1
  refine ⟨rc, ?_, fun i s e => ?_, fun i j a h => ?_, fun a o e _ => .inl e, fun a h => .inl h, fun a h => .inl h, rc.trk, fun a h => rc.ctrk h⟩
  · unfold envL NdefX.startF
    simp only [List.length_append, List.length_map, List.length_replicate, hl, hw, hn]
  · unfold envL at e
    unfold NdefX.startF
    by_cases hi : i < ds.length
    · rw [List.getElem?_append_left (by simpa using hi), List.getElem?_map] at e
      cases hd : ds[i]? with
      | none => rw [hd] at e; cases e
      | some d =>
        rw [hd] at e; cases e
        obtain ⟨v, hv, h⟩ := rp.get' hd
        refine ⟨v, ?_, h⟩
        rw [List.getElem?_append_left (by rw [List.length_map, hl]; exact hi), List.getElem?_map, hv]
        rfl
    · rw [List.getElem?_append_right (by simpa using hi), List.length_map] at e
      by_cases hj : i - ds.length < caps.length
      · rw [List.getElem?_append_left (by simpa using hj), List.getElem?_map] at e
        cases hd : caps[i - ds.length]? with
        | none => rw [hd] at e; cases e
        | some d =>
          rw [hd] at e; cases e
          cases d with
          | none => trivial
          | some d =>
            obtain ⟨v, hv, h⟩ := cp.2 _ d hd
            refine ⟨v, ?_, h⟩
            rw [List.getElem?_append_right (by rw [List.length_map]; omega), List.length_map, hl, List.getElem?_append_left (by omega), hv]
      · rw [List.getElem?_append_right (by simpa using hj), List.getElem?_replicate] at e
        split at e
        · cases e; trivial
        · cases e
  · obtain ⟨d, e, _⟩ := h
    have : (Sl.ow d) ∈ envL n ds caps := List.mem_of_getElem? e
    unfold envL at this
    simp only [List.mem_append, List.mem_map, List.mem_replicate] at this
    rcases this with ⟨x, _, e⟩ | ⟨x, _, e⟩ | ⟨_, e⟩
    · cases e
    · cases x <;> cases e
    · cases e
end
section
variable {P : Program} {w : World} {K : PySem.W.Frag} {mg : Str → Option Value} {base : Heap} {N : List Str} {k i : Nat} {H : Hp} {f c' : Addr} {cells : List (Str × Addr)} {L : LamCode} {h : Heap}
/-- a function of ours, in the library's words (its body apart) -/
def nfL (L : LamCode) (cells : List (Str × Addr)) (c' : Addr) : NdefX.NF := ⟨L.name, L.qual, L.params, [], L.scope, cloFrom cells L.scope.names [], c'⟩
abbrev lamX (P : Program) (w : World) (K : PySem.W.Frag) (mg : Str → Option Value) (base : Heap) (N : List Str) (L : LamCode) (cells : List (Str × Addr)) (c' f : Addr) (A : Around) (outer : List Env) (s : Shared) (H : Hp) (E : XK) : Cx :=
  NdefX.ncx (L2.CX P w) P w K mg base N (nfL L cells c') f A outer s H E
/-- how arguments are bound -/
def Bnd (L : LamCode) : Prop := ∀ fd : FuncData, fd.params = L.params → fd.defaults = .none → fd.kwdefaults = .none → ∀ us : List Value, us.length = L.ps.length → bindArgs fd ⟨us, []⟩ = pure (L.ps.zip us)
omit [VEnv] in
theorem fnL_at (ok : HOk P w H h) (e : H f = some (FnL f L cells c')) : ∃ (od : Option Addr) (sl : Array (Option Value)) (doc pm ctv : Value),
    h.get? f = some (⟨.type "function", od, .func { name := L.name, qualname := L.qual, params := L.params, body := L.body, scope := L.scope, globals := mainGlobals, closure := cloFrom cells L.scope.names [], defaults := .none, kwdefaults := .none, doc, pyModule := pm, annotations := none, code := .ref c', closureTuple := ctv, builtins := builtinsNs }, sl⟩ : Obj) :=
  (ok f _ e).1
theorem Rel.oldOf' {b : Bs} {F' : Addr → Prop} {c'' : List Addr} {env : EnvD} {st : Sto} {σ : L2.St} {H' : Hp} (r : Rel b F' c'' env st σ H') (s : Stp b.F0 b.c0 b.H0 F' c'' H') : Old b.F0 b.c0 b.H0 F' c'' H' :=
  r.oldOf fun a ha => by obtain ⟨l, e⟩ := s.cs; rw [e]; exact List.mem_append_left _ ha
/-- a lambda keeps what its body tells -/
theorem lam_of {e : Expr} {g : M D} (hL : VEnv.code i = L) (S : NdefX.NScope N L.ps L.fr L.scope) (hb : L.body = .expr e) (bd : Bnd L)
    (he : ∀ (A : Around) (outer : List Env) (s : Shared) (H : Hp) (E : XK) (f c' : Addr) (cells : List (Str × Addr)), Room k (A.deeper (NdefX.envF (nfL L cells c') f s.heap.objs.size)) → VE (lamX P w K mg base N L cells c' f A outer s H E) (fun cls d _ H => E cls d H) e g) :
    LamOk P w K mg base (k + 1) i (toLam N.length g) := by
  subst hL
  refine ⟨fun A outer s H us vs ws caps Q E f c' cells F c ds st hr e0 hf hc C r rc rp cp hl p => ?_⟩
  obtain ⟨od, sl, doc, pm, ctv, ho⟩ := fnL_at e0.hok hf
  have hlv : vs.length = (VEnv.code i).ps.length := by rw [rp.length]; exact hl
  have nolim : s.heap.NoLimit := e0.mod.nolimit.keeps fun b o e => (e0.bs b o e).1
  refine PySem.W.kla_callFunE hr.depth ho rfl S.co S.gen hb (NdefX.codeO_at e0.hok hc) ?_
  rw [bd _ rfl rfl rfl us (by rw [← r.length]; exact hlv)]
  refine wpAny_pure (wpAny_newFunctionEnv S.nocell (fun ⟨n, _⟩ hy => S.par n (List.of_mem_zip hy).1) (fun h₁ hns hsb => ⟨nolim.fresh _ hsb, ?_⟩) S.kind)
  show codeAny _ _ (.expr e (NdefX.envF (nfL (VEnv.code i) cells c') f s.heap.objs.size)) _ _
  have kept : ∀ b o, s.heap.get? b = some o → h₁.get? b = some o := fun b o q => hsb.extBut b o (Nat.ne_of_lt (Heap.lt_size q)) (Heap.get?_push_of_some _ q)
  have I0 := NdefX.inv_startN (CX := L2.CX P w) (N := N) (F := nfL (VEnv.code i) cells c') (f := f) (E := E) (tk := s.toks + ((VEnv.code i).ps.zip us).length) S hr.hd e0 hlv r C hns kept
  refine PySem.W.kla_codeExpr (wpAny_mono ((he A outer s H E f c' cells (hr.deeper _)).run [] _ (NdefX.startF N vs ws) H Q I0 ?_) (fun v s' hq => ?_) fun e s' hq => hq)
  · refine ⟨⟨K, mg, H, F, c⟩, F, c, envL N.length ds caps, st, rfl, rfl, rel_startF rc rp cp rfl, ?_⟩
    unfold toLam at p
    generalize g (envL N.length ds caps) st = y at p
    cases y with
    | bad => exact p
    | ex x env' st' => exact fun F' c2 H' cls d s2 r2 q => p cls d F' c2 H' s2 r2.rc (r2.oldOf' s2) q
    | ok d env' st' => exact fun F' c2 H' s2 r2 v rv => p v F' c2 H' s2 r2.rc (r2.oldOf' s2) rv
  · obtain ⟨v', H', J, rv, q⟩ := hq
    exact ⟨v', H', J.os, J.bare, J.base, J.hok, rv, q⟩
/-- an inner def keeps what its body tells -/
theorem ndef_of {b : List Stmt} {g : M Fl} (hL : VEnv.code i = L) (S : NdefX.NScope N L.ps L.fr L.scope) (hb : L.body = .stmts b) (bd : Bnd L)
    (he : ∀ (A : Around) (outer : List Env) (s : Shared) (H : Hp) (E : XK) (f c' : Addr) (cells : List (Str × Addr)), Room k (A.deeper (NdefX.envF (nfL L cells c') f s.heap.objs.size)) → VSs (lamX P w K mg base N L cells c' f A outer s H E) (fun cls d _ H => E cls d H) b g) :
    LamOk P w K mg base (k + 1) i (toLamS N.length g) := by
  subst hL
  refine ⟨fun A outer s H us vs ws caps Q E f c' cells F c ds st hr e0 hf hc C r rc rp cp hl p => ?_⟩
  obtain ⟨od, sl, doc, pm, ctv, ho⟩ := fnL_at e0.hok hf
  have hlv : vs.length = (VEnv.code i).ps.length := by rw [rp.length]; exact hl
  have nolim : s.heap.NoLimit := e0.mod.nolimit.keeps fun b o e => (e0.bs b o e).1
  refine codeAny_call_function hr.depth ho rfl S.co S.gen hb (NdefX.codeO_at e0.hok hc) ?_
  rw [bd _ rfl rfl rfl us (by rw [← r.length]; exact hlv)]
  refine wpAny_pure (wpAny_newFunctionEnv S.nocell (fun ⟨n, _⟩ hy => S.par n (List.of_mem_zip hy).1) (fun h₁ hns hsb => ⟨nolim.fresh _ hsb, ?_⟩) S.kind)
  show codeAny _ _ (.func b (NdefX.envF (nfL (VEnv.code i) cells c') f s.heap.objs.size)) _ _
  refine codeAny_func ?_
  have kept : ∀ b o, s.heap.get? b = some o → h₁.get? b = some o := fun b o q => hsb.extBut b o (Nat.ne_of_lt (Heap.lt_size q)) (Heap.get?_push_of_some _ q)
  have I0 := NdefX.inv_startN (CX := L2.CX P w) (N := N) (F := nfL (VEnv.code i) cells c') (f := f) (E := E) (tk := s.toks + ((VEnv.code i).ps.zip us).length) S hr.hd e0 hlv r C hns kept
  refine wpAny_mono ((he A outer s H E f c' cells (hr.deeper _)).run [] _ (NdefX.startF N vs ws) H { nx := fun _ H' => Q .non H', rt := Q } I0 ?_) (fun fl s' hs => ?_) fun e s' hs => hs
  · refine ⟨⟨K, mg, H, F, c⟩, F, c, envL N.length ds caps, st, rfl, rfl, rel_startF rc rp cp rfl, ?_⟩
    unfold toLamS at p
    generalize g (envL N.length ds caps) st = y at p
    cases y with
    | bad => exact p
    | ex x env' st' => exact fun σ' F' c2 H' cls d s2 r2 q => p cls d F' c2 H' s2 r2.rc (r2.oldOf' s2) q
    | ok fl env' st' =>
      intro σ' F' c2 H' s2 r2
      cases fl with
      | nx => exact p .non F' c2 H' s2 r2.rc (r2.oldOf' s2) .non
      | rt d => exact fun v rv => p v F' c2 H' s2 r2.rc (r2.oldOf' s2) rv
      | rf d =>
        intro a h1 h2 h3 h4
        have s3 : Stp F' c2 H' (FAdd F' a) c2 H' := ⟨fun _ h => .inl h, fun _ _ _ h => h, ⟨[], (List.append_nil c2).symm⟩, fun _ _ h => h⟩
        refine p _ (FAdd F' a) c2 H' (s2.trans s3) (r2.rc.stp s3 (fun x hf => ?_) (fun _ _ => rfl) (fun x hx hf => ?_) (fun _ _ h => h) (fun _ _ h => h) fun d ps e hf => hf.elim id fun z => absurd (z ▸ e) (h4.ntbl ps)) ⟨(r2.oldOf' s2).keep, fun x hf => ?_, (r2.oldOf' s2).nwc⟩ h4.rp
        · rcases hf with hf | rfl
          · exact r2.rc.trk x hf
          · exact h4.trk
        · rcases hf with hf | rfl
          · exact r2.rc.nf x hx hf
          · exact h2 hx
        · rcases hf with hf | rfl
          · exact (r2.oldOf' s2).new x hf
          · exact .inr h3
      | bk => exact p.elim
      | ct => exact p.elim
  · have fin : ∀ {σ' : L2.St} {H' : Hp} {v : V} {u : Value}, Inv (lamX P w K mg base N (VEnv.code i) cells c' f A outer s H E) [] σ' H' s' → L2.RelV v u → Q v H' → CE outer P w H s Q u s' :=
      fun {σ' H' v u} J rv q => ⟨v, H', J.os, J.bare, J.base, J.hok, rv, q⟩
    cases fl with
    | ret u =>
      obtain ⟨v, σ', H', J, rv, q⟩ := hs
      exact fin J rv q
    | next =>
      obtain ⟨σ', H', J, q⟩ := hs
      exact fin (v := V.non) (u := Value.none) J rfl q
    | brk =>
      obtain ⟨_, _, _, q⟩ := hs
      exact q.elim
    | cont =>
      obtain ⟨_, _, _, q⟩ := hs
      exact q.elim
end
/-! ### the making of one -/
/-- a table was asked, or written; the function's object at f is new, its code object at c' is known -/
structure Mk (G : Addr → Prop) (H H1 : Hp) (P f c' : Addr) (ps' : Array Value) (q : Str) (o : HO) : Prop where
  tab : H1 P = some (.tbl ps')
  ok : TriplesOk ps'.toList
  all : ∀ (pos : Pos) (cv : Value), codeAmong pos ps'.toList = some cv → ∃ c0, cv = .ref c0 ∧ H1 c0 = some (LamX.CodeO c0 q) ∧ (c0 = c' ∨ G c0)
  f0 : H f = none
  f1 : H1 f = some o
  c0 : H c' = none ∨ G c'
  c1 : H1 c' = some (LamX.CodeO c' q)
  kp : ∀ u, H c' = some u → H1 c' = some u
  rest : ∀ b, b ≠ P → b ≠ f → b ≠ c' → H1 b = H b
/-- the object that is made -/
def IsFnL (L : LamCode) (cells : List (Str × Addr)) (c' : Addr) (fo : Obj) : Prop := ∃ (od : Option Addr) (sl : Array (Option Value)) (doc pm ctv : Value), fo = (⟨.type "function", od, .func { name := L.name, qualname := L.qual, params := L.params, body := L.body, scope := L.scope, globals := mainGlobals, closure := cloFrom cells L.scope.names [], defaults := .none, kwdefaults := .none, doc, pyModule := pm, annotations := none, code := .ref c', closureTuple := ctv, builtins := builtinsNs }, sl⟩ : Obj)
section
variable {G : Addr → Prop} {X : Cx} {pins : List (Addr × Obj)} {σ : L2.St} {H : Hp} {s : Shared} {P c' : Addr} {L : LamCode} {ps : Array Value} {h' : Heap} {fo : Obj} {tk : Nat} {pos : Pos} {q : Str}
omit [VEnv] in
theorem laid_fn {H1 : Hp} {h2 : Heap} (I : Inv X pins σ H1 { s with heap := h2, toks := tk }) (hfo : IsFnL L X.env.cells c' fo) : Inv X pins σ (upd H1 h2.objs.size (FnL h2.objs.size L X.env.cells c')) { s with heap := h2.push fo, toks := tk } := by
  refine I.laid (t' := tk) (a := h2.objs.size) (fun b u e => Heap.get?_push_of_some _ e) (Nat.le_refl _) ?_
  obtain ⟨od, sl, doc, pm, ctv, rfl⟩ := hfo
  refine ⟨⟨od, sl, doc, pm, ctv, Heap.get?_push_size _ rfl⟩, ⟨_, Heap.get?_push_size _ rfl⟩, fun h1 h3 ⟨od, sl, d, p, t, z⟩ st => ⟨od, sl, d, p, t, st _ z⟩⟩
omit [VEnv] in
theorem mk_hit (I : Inv X pins σ H s) (hP : H P = some (.tbl ps)) (ht : TriplesOk ps.toList) (ha : ∀ (pos : Pos) (cv : Value), codeAmong pos ps.toList = some cv → ∃ c0, cv = .ref c0 ∧ G c0 ∧ H c0 = some (LamX.CodeO c0 q)) (hc : codeAmong pos ps.toList = some (.ref c'))
    (hx : ∀ b o, s.heap.get? b = some o → h'.get? b = some o) (hfo : IsFnL L X.env.cells c' fo) : Inv X pins σ (upd H h'.objs.size (FnL h'.objs.size L X.env.cells c')) { s with heap := h'.push fo, toks := tk } ∧ Mk G H (upd H h'.objs.size (FnL h'.objs.size L X.env.cells c')) P h'.objs.size c' ps q (FnL h'.objs.size L X.env.cells c') := by
  have I1 : Inv X pins σ H { s with heap := h', toks := tk } := I.kept hx
  have n0 : H h'.objs.size = none := I1.hok.fresh (Nat.le_refl _)
  have up : ∀ b o, H b = some o → upd H h'.objs.size (FnL h'.objs.size L X.env.cells c') b = some o := fun b o e => by rw [upd_ne (ne_of_none e n0)]; exact e
  obtain ⟨c0, e, hg, hco⟩ := ha pos _ hc
  cases e
  refine ⟨laid_fn I1 hfo, up _ _ hP, ht, fun pos cv h => ?_, n0, upd_same, .inr hg, up _ _ hco, fun u e => up _ u e, fun b _ h _ => upd_ne h⟩
  obtain ⟨c0, e, hg, k⟩ := ha pos cv h
  exact ⟨c0, e, up _ _ k, .inr hg⟩
omit [VEnv] in
theorem mk_new (I : Inv X pins σ H s) (hP : H P = some (.tbl ps)) (ht : TriplesOk ps.toList) (ha : ∀ (pos : Pos) (cv : Value), codeAmong pos ps.toList = some cv → ∃ c0, cv = .ref c0 ∧ G c0 ∧ H c0 = some (LamX.CodeO c0 q))
    (hx : Heap.ExtBut P s.heap h') (hge : s.heap.objs.size ≤ c') (hlt : c' < h'.objs.size) (hrec : h'.CodeRec (.ref c') q) (htb : h'.get? P = some { cls := .none, data := .fields (ps ++ #[rawInt pos.line, rawInt pos.col, .ref c']) }) (hfo : IsFnL L X.env.cells c' fo) :
    ∃ H1, Inv X pins σ H1 { s with heap := h'.push fo, toks := tk } ∧ Mk G H H1 P h'.objs.size c' (ps ++ #[rawInt pos.line, rawInt pos.col, .ref c']) q (FnL h'.objs.size L X.env.cells c') := by
  obtain ⟨c2, oc, vs, t, e2, hoc, hd, hv⟩ := hrec
  cases e2
  have n1 : H c' = none := I.hok.fresh hge
  have I1 := LamX.inv_table (t' := tk) (more := #[rawInt pos.line, rawInt pos.col, .ref c']) (h' := h') (q := q) I hP (fun b o hb e => hx b o hb e) htb hge ⟨oc, vs, t, hoc, hd, hv⟩
  generalize hH1 : upd (upd H P (.tbl (ps ++ #[rawInt pos.line, rawInt pos.col, .ref c']))) c' (LamX.CodeO c' q) = H1 at I1
  have hPc : P ≠ c' := ne_of_none hP n1
  have a1 : ∀ b, b ≠ P → b ≠ c' → H1 b = H b := fun b h1 h2 => by rw [← hH1, upd_ne h2, upd_ne h1]
  have aP : H1 P = some (.tbl (ps ++ #[rawInt pos.line, rawInt pos.col, .ref c'])) := by rw [← hH1, upd_ne hPc, upd_same]
  have ac : H1 c' = some (LamX.CodeO c' q) := by rw [← hH1, upd_same]
  have n0 : H1 h'.objs.size = none := I1.hok.fresh (Nat.le_refl _)
  have fP : h'.objs.size ≠ P := fun z => by rw [z, aP] at n0; cases n0
  have fc : h'.objs.size ≠ c' := Nat.ne_of_gt hlt
  have up : ∀ b o, H1 b = some o → upd H1 h'.objs.size (FnL h'.objs.size L X.env.cells c') b = some o := fun b o e => by rw [upd_ne (ne_of_none e n0)]; exact e
  have eL : (ps ++ #[rawInt pos.line, rawInt pos.col, .ref c']).toList = ps.toList ++ [rawInt pos.line, rawInt pos.col, .ref c'] := by simp
  refine ⟨_, laid_fn I1 hfo, up _ _ aP, by rw [eL]; exact PySem.TriplesOk_snoc _ _ _ _ ht, fun p2 cv h => ?_, (a1 _ fP fc).symm.trans n0, upd_same, .inl n1, up _ _ ac, fun u e => (by rw [n1] at e; cases e), fun b h1 h2 h3 => by rw [upd_ne h2]; exact a1 b h1 h3⟩
  rw [eL] at h
  rcases LamX.among_app _ ht h with z | z
  · obtain ⟨c0, e1, hg, k⟩ := ha p2 cv z
    have hc0 : c0 ≠ P := fun z => by rw [z, hP] at k; exact LamX.codeO_ne _ (Option.some.inj k).symm
    exact ⟨c0, e1, up _ _ ((a1 c0 hc0 (ne_of_none k n1)).trans k), .inr hg⟩
  · exact ⟨c', z, up _ _ ac, .inl rfl⟩
/-- a lambda's value -/
theorem lam_mk {c : Addr} {params : Arguments} {body : Expr} {scope : Scope} {E : Value → Shared → Prop} {Q : Value → Shared → Prop} (I : Inv X pins σ H s) (TB : LamX.TabB X.base X.mg c P) (hcode : X.env.code = .ref c) (hP : H P = some (.tbl ps)) (ht : TriplesOk ps.toList)
    (ha : ∀ (pos : Pos) (cv : Value), codeAmong pos ps.toList = some cv → ∃ c0, cv = .ref c0 ∧ G c0 ∧ H c0 = some (LamX.CodeO c0 (X.env.qual ++ "<lambda>"))) (hdef : defaultsOf params X.env = ([], [])) (hfree : ∀ y ∈ scope.names, y.2 = .free → ∃ c, X.env.cells.lookup y.1 = some c)
    (hL : L = ⟨"<lambda>", X.env.qual ++ "<lambda>", params, .expr body, scope, L.ps, L.fr⟩)
    (h : ∀ (f c' : Addr) (ps' : Array Value) (H1 : Hp) (s' : Shared), Inv X pins σ H1 s' → Mk G H H1 P f c' ps' (X.env.qual ++ "<lambda>") (FnL f L X.env.cells c') → Q (.ref f) s') : wpAny (model X.prog X.w) X.A (eval (.Lambda params body scope pos) X.env) Q E s := by
  refine PySem.W.kla_eval hdef ?_
  have bP : s.heap.BuiltinsAt X.mg P := TB.bm.keeps I.bk
  have hP' : s.heap.get? P = some { cls := .none, data := .fields ps } := I.hok P _ hP
  cases hc : codeAmong pos ps.toList with
  | none =>
    refine PySem.W.kla_makeFunction (closure_ok hfree) I.ok.glob (I.mod.glob.keeps I.bk) hcode (TB.code.keeps I.bk) hP' ht hc TB.gP bP fun c' ctv h' tk hx hge hlt hrec htb => ?_
    obtain ⟨H1, I1, m⟩ := mk_new (tk := tk) (pos := pos) (L := L) I hP ht ha hx hge hlt hrec htb ⟨none, _, _, _, _, by rw [hL]⟩
    exact h _ _ _ _ _ I1 m
  | some cv =>
    obtain ⟨c', e, _, _⟩ := ha pos cv hc
    subst e
    refine PySem.W.kla_makeFunctionHit (closure_ok hfree) I.ok.glob (I.mod.glob.keeps I.bk) hcode (TB.code.keeps I.bk) hP' ht hc bP fun ctv h' tk hx hsz => ?_
    obtain ⟨I1, m⟩ := mk_hit (tk := tk) (L := L) I hP ht ha hc hx ⟨none, _, _, _, _, by rw [hL]⟩
    exact h _ _ _ _ _ I1 m
/-- an inner def's value -/
theorem ndef_mk {c : Addr} {name : Str} {params : Arguments} {body : List Stmt} {scope : Scope} {E : Value → Shared → Prop} {Q : Value → Shared → Prop} (I : Inv X pins σ H s) (TB : LamX.TabB X.base X.mg c P) (hcode : X.env.code = .ref c) (hP : H P = some (.tbl ps)) (ht : TriplesOk ps.toList)
    (ha : ∀ (pos : Pos) (cv : Value), codeAmong pos ps.toList = some cv → ∃ c0, cv = .ref c0 ∧ G c0 ∧ H c0 = some (LamX.CodeO c0 (X.env.qual ++ name))) (hfree : ∀ y ∈ scope.names, y.2 = .free → ∃ c, X.env.cells.lookup y.1 = some c)
    (hL : L = ⟨name, X.env.qual ++ name, params, .stmts body, scope, L.ps, L.fr⟩)
    (h : ∀ (f c' : Addr) (ps' : Array Value) (H1 : Hp) (s' : Shared), Inv X pins σ H1 s' → Mk G H H1 P f c' ps' (X.env.qual ++ name) (FnL f L X.env.cells c') → Q (.ref f) s') : wpAny (model X.prog X.w) X.A (makeFunction name (X.env.qual ++ name) params (.stmts body) scope X.env [] [] [] pos pos.line) Q E s := by
  have bP : s.heap.BuiltinsAt X.mg P := TB.bm.keeps I.bk
  have hP' : s.heap.get? P = some { cls := .none, data := .fields ps } := I.hok P _ hP
  cases hc : codeAmong pos ps.toList with
  | none =>
    refine PySem.W.makeFunction_K (closure_ok hfree) I.ok.glob (I.mod.glob.keeps I.bk) hcode (TB.code.keeps I.bk) hP' ht hc TB.gP bP fun c' ctv doc h' tk hx hge hlt hrec htb => ?_
    obtain ⟨H1, I1, m⟩ := mk_new (tk := tk) (pos := pos) (L := L) I hP ht ha hx hge hlt hrec htb ⟨none, _, _, _, _, by rw [hL]⟩
    exact h _ _ _ _ _ I1 m
  | some cv =>
    obtain ⟨c', e, _, _⟩ := ha pos cv hc
    subst e
    refine PySem.W.makeFunction_hit (closure_ok hfree) I.ok.glob (I.mod.glob.keeps I.bk) hcode (TB.code.keeps I.bk) hP' ht hc bP fun ctv doc h' tk hx hsz => ?_
    obtain ⟨I1, m⟩ := mk_hit (tk := tk) (L := L) I hP ht ha hc hx ⟨none, _, _, _, _, by rw [hL]⟩
    exact h _ _ _ _ _ I1 m
end
section
variable {b : Bs} {F : Addr → Prop} {c : List Addr} {env : EnvD} {st : Sto} {σ : L2.St} {H H1 : Hp} {P f c' : Addr} {ps' : Array Value} {q : Str} {o : HO}
/-- the state behind the making -/
theorem Rel.mk_fn (r : Rel b F c env st σ H) (hT : (P, q) ∈ VEnv.T) (hu : ∀ p ∈ VEnv.T, p.1 = P → p.2 = q) (m : Mk F H H1 P f c' ps' q o) : Stp F c H (fun a => F a ∨ a = f ∨ a = c') c H1 ∧ Rel b (fun a => F a ∨ a = f ∨ a = c') c env st σ H1 := by
  obtain ⟨tF, tc, ps, tP, _, tcs⟩ := r.rc.tab _ hT
  simp only at tF tc tP
  have nf := r.nC m.f0
  have nfF := r.nF m.f0
  -- what is tracked stays but the table
  have keep : ∀ a u, H a = some u → a ≠ P → H1 a = some u := fun a u e hP => by
    by_cases hc : a = c'
    · subst hc
      rcases m.c0 with z | z
      · rw [z] at e; cases e
      · exact m.kp _ e
    · rw [m.rest a hP (ne_of_none e m.f0) hc]; exact e
  have neP : ∀ a u, H a = some u → (∀ ps, u ≠ .tbl ps) → a ≠ P := fun a u e n z => by rw [z, tP] at e; exact n _ (Option.some.inj e).symm
  have s : Stp F c H (fun a => F a ∨ a = f ∨ a = c') c H1 := ⟨fun _ h => .inl h, fun a u f e => keep a u e fun z => tF (z ▸ f), ⟨[], (List.append_nil c).symm⟩, fun d x e => keep d _ e (neP d _ e fun ps z => by cases z)⟩
  have kt : ∀ a u, H a = some u → Kept H1 a u := fun a u e => by
    by_cases hP : a = P
    · subst hP
      rw [tP] at e; cases e
      exact .inr ⟨⟨_, rfl⟩, _, m.tab⟩
    · exact .inl (keep a u e hP)
  have same : ∀ a, (∃ u, H a = some u) → a ≠ P → H1 a = H a := fun a ⟨u, e⟩ h => by rw [e]; exact keep a u e h
  have neC : ∀ a ∈ c, a ≠ P := fun a ha z => tc (z ▸ ha)
  have hPf : P ≠ f := ne_of_none tP m.f0
  have hPc : P ≠ c' := fun z => by
    rcases m.c0 with q | q
    · rw [← z, tP] at q; cases q
    · exact tF (z ▸ q)
  have csplit : ∀ a, (F a ∨ a = f ∨ a = c') → F a ∨ (a = f ∧ H a = none) ∨ (a = c' ∧ H a = none) := fun a h => by
    rcases h with h | h | h
    · exact .inl h
    · exact .inr (.inl ⟨h, h ▸ m.f0⟩)
    · rcases m.c0 with z | z
      · exact .inr (.inr ⟨h, h ▸ z⟩)
      · exact .inl (h ▸ z)
  have cnone : ∀ a, (F a ∨ a = f ∨ a = c') → F a ∨ H a = none := fun a h => (csplit a h).imp id fun z => z.elim (·.2) (·.2)
  refine ⟨s, ⟨⟨fun a h => ?_, r.rc.len, r.rc.nd, fun n a x hn hx => ?_, fun a ha h => ?_, fun p hp => ?_⟩, r.len, fun i sl he => ?_, r.ds, fun a u e hc => (r.old a u e hc).up (kt a), fun a h => ?_, r.nwc, r.f0, r.k0⟩⟩
  · rcases h with h | rfl | rfl
    · obtain ⟨u, e⟩ := r.rc.trk a h
      exact ⟨u, s.keep a u h e⟩
    · exact ⟨_, m.f1⟩
    · exact ⟨_, m.c1⟩
  · have ha : a ∈ c := List.mem_of_getElem? hn
    have e0 := same a (r.rc.ctrk ha) (neC a ha)
    have k := r.rc.cl n a x hn hx
    cases x with
    | lst ds => obtain ⟨vs, e, p⟩ := k; exact ⟨vs, by rw [e0]; exact e, p.stp s⟩
    | ins nm fs => obtain ⟨C, dx, vfs, k1, k2, k3, p⟩ := k; exact ⟨C, dx, vfs, k1, by rw [e0]; exact k2, k3, p.stp s⟩
    | slo nm fs => obtain ⟨C, dx, vs, k1, k2, p⟩ := k; exact ⟨C, dx, vs, k1, slAt_keep k2 e0 s.own, p.stp s⟩
    | dct kvs => obtain ⟨vk, e, e2, p⟩ := k; exact ⟨vk, by rw [e0]; exact e, e2, p.stp s⟩
  · rcases cnone a h with z | z
    · exact r.rc.nf a ha z
    · obtain ⟨u, e⟩ := r.rc.ctrk ha
      rw [z] at e; cases e
  · by_cases hpP : p.1 = P
    · have hq := hu p hp hpP
      refine ⟨fun h => ?_, fun h => tc (hpP ▸ h), ps', hpP ▸ m.tab, m.ok, fun pos cv h => ?_⟩
      · rw [hpP] at h
        rcases h with h | h | h
        · exact tF h
        · exact hPf h
        · exact hPc h
      · obtain ⟨c0, e, k, z⟩ := m.all pos cv h
        exact ⟨c0, e, z.elim (fun z => .inr (.inr z)) .inl, by rw [hq]; exact k⟩
    · exact (r.rc.tab p hp).stp s (fun ps e => keep _ _ e hpP) (fun ps e h => (cnone _ h).elim id fun z => by rw [z] at e; cases e) fun _ _ h => h
  · have q := r.sl i sl he
    cases sl with
    | no => trivial
    | va d => obtain ⟨v, e, p⟩ := q; exact ⟨v, e, p.stp s⟩
    | gh cells vals => exact GhOk.stp q s
    | ow d =>
      obtain ⟨a, e, p1, p2, p3, p4⟩ := q
      obtain ⟨_, _, _, u, eu⟩ := r.own (i := i) ⟨d, he, e⟩
      refine ⟨a, e, fun h => ?_, p2, p3, p4.stp s (same a ⟨u, eu⟩ fun z => p4.ntbl ps (z ▸ tP))⟩
      rcases cnone a h with z | z
      · exact p1 z
      · rw [z] at eu; cases eu
  · rcases cnone a h with z | z
    · exact r.new a z
    · exact .inr (r.H0none z)
end
/-! ### the rules -/
/-- the table of the running def's code -/
def TabV (base : Heap) (mg : Str → Option Value) (cd : Value) (q : Str) : Prop := ∃ c P, cd = .ref c ∧ LamX.TabB base mg c P ∧ (P, q) ∈ VEnv.T ∧ ∀ p ∈ VEnv.T, p.1 = P → p.2 = q
def freeB (sc scope : Scope) : Bool := scope.names.all fun y => !decide (y.2 = .free) || decide (sc.names.lookup y.1 = some .cell) || decide (sc.names.lookup y.1 = some .free)
def eFn (i : Nat) (cells : List (Str × Addr)) : M D := fun env st => .ok (.fn (.lam i cells)) env st
noncomputable def allEq {α : Type} [Inhabited α] (f : α → RF) : RF := by
  classical
  exact if ∀ a, f a = f default then f default else .bad
omit [VEnv] in
theorem allEq_of {α : Type} [Inhabited α] {f : α → RF} {r : RF} (h : ∀ a, f a = r) : allEq f = r := by
  unfold allEq
  rw [if_pos fun a => by rw [h, h]]
  exact h _
omit [VEnv] in
theorem allEq_at {α : Type} [Inhabited α] {f : α → RF} : allEq f = .bad ∨ ∀ a, allEq f = f a := by
  unfold allEq
  split
  · rename_i h
    exact .inr fun a => (h a).symm
  · exact .inl rfl
noncomputable def toFL (fr : Bool) (n : Nat) (g : List (Str × Addr) → M Fl) : FM := fun ds st => allEq fun cells => toRF fr (g cells (env0 n ds) st)
section
variable {X : Cx} {W : WX} {pos : Pos} {i : Nat}
theorem free_has {scope : Scope} (h : freeB X.env.scope scope = true) (ok : X.Ok) : ∀ y ∈ scope.names, y.2 = .free → ∃ c, X.env.cells.lookup y.1 = some c := fun y hy e => by
  unfold freeB at h
  have := List.all_eq_true.mp h y hy
  simp only [Bool.or_eq_true, Bool.not_eq_true', decide_eq_true_eq, decide_eq_false_iff_not] at this
  rcases this with (z | z) | z
  · exact absurd e z
  · exact ok.has _ (.inl z)
  · exact ok.has _ (.inr z)
theorem ve_lam (i : Nat) {params : Arguments} {body : Expr} {scope : Scope} {q : Str} {ps fr : List Str} (T : TabV X.base X.mg X.env.code q) (hq : q = X.env.qual ++ "<lambda>") (hL : VEnv.code i = ⟨"<lambda>", X.env.qual ++ "<lambda>", params, .expr body, scope, ps, fr⟩)
    (hfree : freeB X.env.scope scope = true) (hdef : defaultsOf params X.env = ([], []) := by rfl) : VE X W (.Lambda params body scope pos) (eFn i X.env.cells) := by
  refine ⟨fun pins s σ H Q I ⟨b, F, c, env, st, e1, e2, r, p⟩ => ?_⟩
  obtain ⟨cc, P, hcode, TB, hT, hu⟩ := T
  obtain ⟨_, _, ps, hP, ht, ha⟩ := r.rc.tab _ hT
  simp only at hP ha
  subst hq
  refine lam_mk (G := F) (L := VEnv.code i) I TB hcode hP ht ha hdef (free_has hfree I.ok) (by rw [hL]) fun f c' ps' H1 s' I1 m => ?_
  obtain ⟨s2, r2⟩ := r.mk_fn hT hu m
  refine ⟨.ref f, H1, I1, rfl, ?_⟩
  exact p _ c H1 s2 r2 _ (.lam (.inr (.inl rfl)) m.f1 (.inr (.inr rfl)) (by rw [m.c1, show (VEnv.code i).qual = X.env.qual ++ "<lambda>" from by rw [hL]]) (by rw [hL]; exact free_has hfree I.ok))
/-- def x(..): .. within a def -/
def sDef (j i : Nat) (cells : List (Str × Addr)) : M Fl := fun env st => .ok .nx (env.set j (.va (.fn (.lam i cells)))) st
theorem vs_ndef (j i : Nat) {name : Str} {params : Arguments} {body : List Stmt} {scope : Scope} {q : Str} {ps fr : List Str} (T : TabV X.base X.mg X.env.code q) (hq : q = X.env.qual ++ name) (hL : VEnv.code i = ⟨name, X.env.qual ++ name, params, .stmts body, scope, ps, fr⟩)
    (hfree : freeB X.env.scope scope = true) (hN : X.N.Nodup) (hi : X.N[j]? = some name := by rfl) (hx : Loc X.env.scope name := by first | exact Or.inl rfl | exact Or.inr rfl) (hf : X.fn name = true ∨ X.env.scope.names.lookup name = some .local := by first | exact .inl rfl | exact .inr rfl | assumption)
    (hd0 : params.defaults = [] := by rfl) (hk0 : params.kw_defaults = [] := by rfl) (ha' : annTrees params none X.env = [] := by rfl) : VS X W (.FunctionDef name params body [] none [] scope none name pos) (sDef j i X.env.cells) := by
  refine ⟨fun pins s σ H D₀ I ⟨b, F, c, env, st, e1, e2, r, p⟩ => ?_⟩
  obtain ⟨cc, P, hcode, TB, hT, hu⟩ := T
  obtain ⟨_, _, ps, hP, ht, ha⟩ := r.rc.tab _ hT
  simp only at hP ha
  subst hq
  have hq2 : qualnameIn X.env name name = X.env.qual ++ name := by
    have hk : X.env.kindOf name = some .local ∨ X.env.kindOf name = some .cell := hx
    unfold qualnameIn
    rcases hk with k | k <;> rw [k] <;> exact if_neg (by decide)
  refine PySem.W.nestDef_K hd0 hk0 ha' ?_
  rw [hq2]
  refine ndef_mk (G := F) (L := VEnv.code i) I TB hcode hP ht ha (free_has hfree I.ok) (by rw [hL]) fun f c' ps' H1 s' I1 m => ?_
  obtain ⟨s2, r2⟩ := r.mk_fn hT hu m
  refine store_ok I1 hN hi hx (v := .ref f) rfl (fun s'' J => ⟨_, H1, J, ?_⟩) hf
  have rp : Rp b.K b.mg (fun a => F a ∨ a = f ∨ a = c') c H1 (.ref f) (.fn (.lam i X.env.cells)) := .lam (.inr (.inl rfl)) m.f1 (.inr (.inr rfl)) (by rw [m.c1, show (VEnv.code i).qual = X.env.qual ++ name from by rw [hL]]) (by rw [hL]; exact free_has hfree I.ok)
  exact p _ _ c H1 s2 (r2.put rp)
end
section
variable {P : Program} {w : World} {K : PySem.W.Frag} {mg : Str → Option Value} {base : Heap}
theorem PostF.allEq {fr : Bool} {F : Addr → Prop} {c : List Addr} {H : Hp} {Q : VK} {E : XK} {α : Type} [Inhabited α] {f : α → RF} (p : PostF K mg fr F c H Q E (allEq f)) (a : α) : PostF K mg fr F c H Q E (f a) := by
  rcases allEq_at (f := f) with h | h
  · rw [h] at p; exact p.elim
  · rw [h a] at p; exact p
/-- a def that makes lambdas or inner defs -/
theorem okVL {x qual : Str} {stm : Stmt} {f : Addr} {fd : FuncData} {N ps : List Str} {k n np : Nat} {q : Str} {g : List (Str × Addr) → M Fl} (fr : Bool) (Fn : Fun K x qual stm f fd) (S : FnScope N ps (defScope stm)) (hT : TabV base mg fd.code q) (hn : n = N.length) (hp : np = ps.length)
    (hb : ∀ (cdv : Value) (A : Around) (outer : List Env) (s : Shared) (H : Hp) (E : XK), TabV base mg cdv q → Room k (A.deeper (envOfC qual (defScope stm) s.heap.objs.size f cdv)) →
      VSs (cxOf (L2.CX P w) P w K mg base N qual (defScope stm) f cdv A outer s H E) (fun cls d _ H => E cls d H) (defBody stm) (g (cellsFrom (s.heap.objs.size + 1) (defScope stm).names []))) : FnOk P w K mg base (L2.CX P w) (k + 1) f fd ps (spV K mg fr np (toFL fr n g)) := by
  obtain ⟨oc, od, kV, doc, pm, an, cdv, ct, osl, rfl, lk, hcd⟩ := Fn.ex
  have hT' : TabV base mg cdv q := hT
  refine fn_of lk hcd S (fun vs H Q E h => ?_) fun A outer s H vs Q E hr h => ?_
  · obtain ⟨F, c, ds, st, _, rp, hl, _⟩ := h
    rw [rp.length, hl, hp]
  · obtain ⟨F, c, ds, st, rc, rp, hl, p⟩ := h
    refine ⟨_, hb cdv A outer s H E hT' hr, ⟨K, mg, H, F, c⟩, F, c, env0 n ds, st, rfl, rfl, rel_start rc rp N hn, ?_⟩
    have p := PostF.allEq p (cellsFrom (s.heap.objs.size + 1) (defScope stm).names [])
    generalize g (cellsFrom (s.heap.objs.size + 1) (defScope stm).names []) (env0 n ds) st = y at p
    exact okV_post p
end
/-! ### defs that get a function and call it -/
def envG (n : Nat) (ds : List D) (cells : List (Str × Addr)) (vals : List (Str × D)) : EnvD := ds.map .va ++ (List.replicate (n - ds.length - 1) .no ++ [.gh cells vals])
@[reducible] def FMG := List (Str × Addr) → List (Str × D) → FM
def toFG (fr : Bool) (n : Nat) (g : M Fl) : FMG := fun cells vals ds st => toRF fr (g (envG n ds cells vals) st)
section
variable {P : Program} {w : World} {K : PySem.W.Frag} {mg : Str → Option Value} {base : Heap} {F : Addr → Prop} {c : List Addr} {st : Sto} {H : Hp} {vs : List V} {ds : List D} {cells : List (Str × Addr)} {vals : List (Str × D)}
def spG (K : PySem.W.Frag) (mg : Str → Option Value) (fr : Bool) (n : Nat) (m : FMG) : Sp := fun vs H Q E => ∃ F c ds cells vals st, RelC K mg F c st H ∧ Rps K mg F c H vs ds ∧ ds.length = n ∧ GhOk K mg F c H cells vals ∧ PostF K mg fr F c H Q E (m cells vals ds st)
theorem rel_startG {n : Nat} (rc : RelC K mg F c st H) (rp : Rps K mg F c H vs ds) (gh : GhOk K mg F c H cells vals) (N : List Str) (hn : n = N.length) (hl : ds.length < n) : Rel ⟨K, mg, H, F, c⟩ F c (envG n ds cells vals) st (L2.start N vs) H := by
  have hlen := rp.length
  refine ⟨rc, ?_, fun i s e => ?_, fun i j a h => ?_, fun a o e _ => .inl e, fun a h => .inl h, fun a h => .inl h, rc.trk, fun a h => rc.ctrk h⟩
  · unfold envG L2.start
    simp only [List.length_append, List.length_map, List.length_replicate, List.length_singleton, hlen, ← hn]
    omega
  · unfold envG at e
    by_cases hi : i < ds.length
    · rw [List.getElem?_append_left (by simpa using hi), List.getElem?_map] at e
      cases hd : ds[i]? with
      | none => rw [hd] at e; cases e
      | some d =>
        rw [hd] at e; cases e
        obtain ⟨v, hv, h⟩ := rp.get' hd
        refine ⟨v, ?_, h⟩
        unfold L2.start
        rw [List.getElem?_append_left (by rw [List.length_map, hlen]; exact hi), List.getElem?_map, hv]
        rfl
    · have hm := List.mem_of_getElem? e
      rw [List.getElem?_append_right (by simpa using hi)] at e
      have hm := List.mem_of_getElem? e
      simp only [List.mem_append, List.mem_replicate, List.mem_singleton] at hm
      rcases hm with ⟨_, rfl⟩ | rfl
      · trivial
      · exact gh
  · obtain ⟨d, e, _⟩ := h
    have hm := List.mem_of_getElem? e
    unfold envG at hm
    simp only [List.mem_append, List.mem_map, List.mem_replicate, List.mem_singleton] at hm
    rcases hm with ⟨x, _, e⟩ | ⟨_, e⟩ | e <;> cases e
theorem okVG {x qual : Str} {stm : Stmt} {f : Addr} {fd : FuncData} {N ps : List Str} {k n np : Nat} {g : M Fl} (fr : Bool) (Fn : Fun K x qual stm f fd) (S : FnScope N ps (defScope stm)) (hn : n = N.length) (hp : np = ps.length) (hlt : np < n)
    (hb : ∀ (cdv : Value) (A : Around) (outer : List Env) (s : Shared) (H : Hp) (E : XK), Room k (A.deeper (envOfC qual (defScope stm) s.heap.objs.size f cdv)) →
      VSs (cxOf (L2.CX P w) P w K mg base N qual (defScope stm) f cdv A outer s H E) (fun cls d _ H => E cls d H) (defBody stm) g) : FnOk P w K mg base (L2.CX P w) (k + 1) f fd ps (spG K mg fr np (toFG fr n g)) := by
  refine Fn.okX S (fun vs H Q E h => ?_) (fun cdv A outer s H vs Q E hr h => ?_)
  · obtain ⟨F, c, ds, cells, vals, st, _, rp, hl, _⟩ := h
    rw [rp.length, hl, hp]
  · obtain ⟨F, c, ds, cells, vals, st, rc, rp, hl, gh, p⟩ := h
    refine ⟨_, hb cdv A outer s H E hr, ⟨K, mg, H, F, c⟩, F, c, envG n ds cells vals, st, rfl, rfl, rel_startG rc rp gh N hn (by rw [hl]; exact hlt), ?_⟩
    unfold toFG at p
    generalize g (envG n ds cells vals) st = y at p
    exact okV_post p
structure FnG (P : Program) (w : World) (K : PySem.W.Frag) (mg : Str → Option Value) (base : Heap) (k : Nat) (x : Str) (fr : Bool) (n : Nat) (m : FMG) : Prop where
  ex : ∃ f fd ps, FnOk P w K mg base (L2.CX P w) k f fd ps (spG K mg fr n m) ∧ mg x = some (.ref f) ∧ PySem.W.keepIn K (.ref f) = true ∧ Binds K fd ps []
end
/-- the mirrors of the functions that may be handed in: what they capture, what they do -/
structure LamM where
  fr : List Str
  n : Nat
  run : List (Option D) → FM
def LamM.bad : LamM := ⟨[], 0, fun _ _ _ => .bad⟩
def LamsOk (P : Program) (w : World) (K : PySem.W.Frag) (mg : Str → Option Value) (base : Heap) (k : Nat) (G : Nat → LamM) : Prop := ∀ i, (∀ caps ds st, (G i).run caps ds st = .bad) ∨ ((VEnv.code i).fr = (G i).fr ∧ (∀ x ∈ (VEnv.code i).fr, (x, NameKind.free) ∈ (VEnv.code i).scope.names) ∧ (VEnv.code i).ps.length = (G i).n ∧ LamOk P w K mg base k i (G i).run)
def callP (G : Nat → LamM) (i gi : Nat) (fs : M (List D)) : M D := fun env st => match env[i]? with
  | some (.va (.fn (.lam id cells))) => (fs env st).bind fun ds env st => (match env[gi]? with
    | some (.gh cells' vals) => if cells = cells' ∧ ds.length = (G id).n then callR ((G id).run ((G id).fr.map fun y => vals.lookup y)) ds env st else .bad
    | _ => .bad)
  | _ => .bad
/-- what a waiting frame's cells hold, by names -/
theorem caps_ex {K : PySem.W.Frag} {mg : Str → Option Value} {F : Addr → Prop} {c : List Addr} {H : Hp} {cells : List (Str × Addr)} {vals : List (Str × D)} (gh : GhOk K mg F c H cells vals) : ∀ fr : List Str, ∃ ws : List (Option V), ws.length = fr.length ∧
    ∀ (j : Nat) (y : Str), fr[j]? = some y → (∀ d, vals.lookup y = some d → ∃ v, ws[j]? = some (some v) ∧ Rp K mg F c H v d) ∧ ∀ v, ws[j]? = some (some v) → ∃ a o u, cells.lookup y = some a ∧ H a = some (CelO o) ∧ o.data = .cell (some u) ∧ L2.RelV v u
  | [] => ⟨[], rfl, fun j y h => by simp at h⟩
  | y :: fr => by
    obtain ⟨ws, hl, hw⟩ := caps_ex gh fr
    cases hy : vals.lookup y with
    | none =>
      refine ⟨none :: ws, by simp [hl], fun j z h => ?_⟩
      cases j with
      | zero =>
        simp at h; subst h
        exact ⟨fun d h => (by rw [hy] at h; cases h), fun v h => (by simp at h)⟩
      | succ j => simpa using hw j z (by simpa using h)
    | some d =>
      obtain ⟨a, o, u, v, h1, h2, h3, h4, h5⟩ := gh.val y d hy
      refine ⟨some v :: ws, by simp [hl], fun j z h => ?_⟩
      cases j with
      | zero =>
        simp at h; subst h
        exact ⟨fun d' h => (by rw [hy] at h; cases h; exact ⟨v, rfl, h5⟩), fun v' h => (by simp at h; subst h; exact ⟨a, o, u, h1, h2, h3, h4⟩)⟩
      | succ j => simpa using hw j z (by simpa using h)
section
variable {X : Cx} {W : WX} {e a : Expr} {es : List Expr} {pos p : Pos} {fs : M (List D)} {x : Str} {k j i gi : Nat} {G : Nat → LamM}
theorem postF_call {m : FM} {b : Bs} {F : Addr → Prop} {c : List Addr} {env : EnvD} {st : Sto} {σ : L2.St} {H : Hp} {ds : List D} {Q : VK} {Pk : D → EnvD → Sto → (Addr → Prop) → List Addr → Hp → Prop} {fr : Bool} (r : Rel b F c env st σ H)
    (p : Post b W F c σ H Pk (callR m ds env st)) (hq : ∀ v d st F' c' H', Stp F c H F' c' H' → Rel b F' c' env st σ H' → RetOk b.K b.mg fr F' c' H H' v d → Pk d env st F' c' H' → Q v H') : PostF b.K b.mg fr F c H Q (WE W σ) (m ds st) := by
  unfold callR at p
  generalize m ds st = y at p
  cases y with
  | ok d st' => exact fun v F' c' H' s rc o rv => hq v d st' F' c' H' s (r.call s rc o) rv (p F' c' H' s (r.call s rc o))
  | ex x st' => exact fun cls dx F' c' H' s rc o rx => p F' c' H' cls dx s (r.call s rc o) rx
  | bad => exact p
/-- behind a call of a function that was handed in -/
theorem run_p {pins : List (Addr × Obj)} {σ : L2.St} {H : Hp} {s : Shared} {Q : VK} {f : Addr} {us : List Value} {vs : List V} {ds : List D} {b : Bs} {F : Addr → Prop} {c : List Addr} {env : EnvD} {st : Sto} {id : Nat} {cells : List (Str × Addr)} {vals : List (Str × D)}
    (Fn : LamsOk X.prog X.w X.K X.mg X.base k G) (hr : Room k X.A) (tk : Takes X W) (I : Inv X pins σ H s) (e1 : b.K = X.K) (e2 : b.mg = X.mg) (r : Rel b F c env st σ H) (rf : Rp b.K b.mg F c H (.ref f) (.fn (.lam id cells))) (hg : env[gi]? = some (.gh cells vals)) (rv : Vals vs us) (rp : Rps b.K b.mg F c H vs ds) (hl : ds.length = (G id).n)
    (p : PostF b.K b.mg false F c H Q (WE W σ) ((G id).run ((G id).fr.map fun y => vals.lookup y) ds st)) :
    wpAny (model X.prog X.w) X.A (call (.ref f) us) (EP X pins σ Q) X.xe s := by
  rcases Fn id with hbad | ⟨hfr, hfk, hn, Lo⟩
  · rw [hbad] at p
    exact p.elim
  have gh : GhOk b.K b.mg F c H cells vals := r.sl gi _ hg
  obtain ⟨C, hCdef⟩ : ∃ C : List Addr, C = cells.filterMap fun q => cells.lookup q.1 := ⟨_, rfl⟩
  have inC : ∀ y a, cells.lookup y = some a → a ∈ C := fun y a h => by
    rw [hCdef, List.mem_filterMap]
    exact ⟨(y, a), PySem.mem_of_lookup h, h⟩
  have ofC : ∀ a ∈ C, ∃ y, cells.lookup y = some a := fun a h => by
    rw [hCdef, List.mem_filterMap] at h
    obtain ⟨q, _, e⟩ := h
    exact ⟨_, e⟩
  have hF : ∀ a ∈ C, F a := fun a h => by obtain ⟨y, e⟩ := ofC a h; exact (gh.cel y a e).1
  have hC : CelsAt C H := fun a h => by
    obtain ⟨y, e⟩ := ofC a h
    obtain ⟨_, o, _, q, _⟩ := gh.cel y a e
    exact ⟨o, q⟩
  have e0 := I.env0
  have hfrs : ∀ a ∈ C, a ∉ frs X.stack := fun a m z => by
    obtain ⟨o, q⟩ := hC a m
    rw [e0.frf a z] at q; cases q
  rw [e1, e2] at rf rp gh p
  have rc := r.rc
  rw [e1, e2] at rc
  obtain ⟨ws, hwl, hws⟩ := caps_ex gh (VEnv.code id).fr
  cases rf with
  | lam f1 f2 f3 f4 f5 =>
    rename_i c'
    have cs : NdefX.CellsAt (cloFrom cells (VEnv.code id).scope.names []) (VEnv.code id).fr ws s.heap (offH C H) := by
      refine ⟨hwl, fun y a h => ?_, fun y z a h1 h2 => gh.inj y z a (NdefX.clo_cm f5 h1) (NdefX.clo_cm f5 h2), fun n y h => ?_⟩
      · have h := NdefX.clo_cm f5 h
        refine ⟨offH_in (inC y a h), ?_⟩
        obtain ⟨_, o, v, q, d⟩ := gh.cel y a h
        exact ⟨v, o, cel_get I.hok q, d⟩
      · have hy := hfk y (List.mem_of_getElem? h)
        obtain ⟨a, ha⟩ := f5 _ hy rfl
        refine ⟨a, NdefX.clo_has f5 hy ha, fun v hv => ?_⟩
        obtain ⟨a', o, u, h1, h2, h3, h4⟩ := (hws n y h).2 v hv
        rw [ha] at h1; cases h1
        exact ⟨u, h4, o, cel_get I.hok h2, h3⟩
    have cp : CapOk X.K X.mg (offF C F) c (offH C H) ws ((G id).fr.map fun y => vals.lookup y) := by
      refine ⟨by rw [List.length_map, ← hfr]; exact hwl, fun n d h => ?_⟩
      rw [List.getElem?_map, ← hfr] at h
      cases hy : (VEnv.code id).fr[n]? with
      | none => rw [hy] at h; cases h
      | some y =>
        rw [hy] at h
        obtain ⟨v, h1, h2⟩ := (hws n y hy).1 d (Option.some.inj h)
        exact ⟨v, h1, h2.off hC⟩
    have go := Lo.run X.A X.stack s (offH C H) us vs ws _ _ _ f c' cells (offF C F) c ds st hr (Env0.offC e0 hC) (hC.off f2 fun o z => by unfold CelO FnL at z; cases z) (hC.off f4 fun o z => by unfold CelO LamX.CodeO at z; cases z) cs rv (rc.off hC) (rp.off hC) cp (by rw [hn]; exact hl) (postF_off hC hF p)
    refine wpAny_call (codeAny_mono go fun y s' hy => ?_)
    have hy : CR (L2.CX X.prog X.w) X.stack X.prog X.w H s Q (WE W σ) y s' := cr_on hy hC I.hok hfrs (fun v H' h0 q => q h0) fun cls d H' h0 q => q h0
    cases y with
    | error er => exact passAt tk σ pins H s er s' I hy
    | ok fl =>
      cases fl with
      | ret u => exact I.after hy
      | next => exact hy.elim
      | brk => exact hy.elim
      | cont => exact hy.elim
omit [VEnv] in
theorem fnAt_L {f : Addr} {L : LamCode} {cells : List (Str × Addr)} {c' : Addr} {pins : List (Addr × Obj)} {σ : L2.St} {H : Hp} {s : Shared} (I : Inv X pins σ H s) (h : H f = some (FnL f L cells c')) : PySem.W.FnAt f s.heap := by
  obtain ⟨od, sl, doc, pm, ctv, ho⟩ := fnL_at I.hok h
  exact ⟨_, od, _, sl, ho⟩
/-- what stands behind the arguments -/
def PQ (X : Cx) (W : WX) (f : Addr) (id : Nat) (cells : List (Str × Addr)) (G : Nat → LamM) (gi : Nat) (σ : L2.St) (Q : VK) (vs : List V) (H : Hp) : Prop :=
  ∃ b F c env st ds vals, b.K = X.K ∧ b.mg = X.mg ∧ Rel b F c env st σ H ∧ Rps b.K b.mg F c H vs ds ∧ Rp b.K b.mg F c H (.ref f) (.fn (.lam id cells)) ∧ env[gi]? = some (.gh cells vals) ∧ ds.length = (G id).n ∧ PostF b.K b.mg false F c H Q (WE W σ) ((G id).run ((G id).fr.map fun y => vals.lookup y) ds st)
theorem pq_of {f : Addr} {id : Nat} {cells : List (Str × Addr)} {σ : L2.St} {H : Hp} {Q : VK} {b : Bs} {F : Addr → Prop} {c : List Addr} {env : EnvD} {st : Sto} {ds : List D} {vs : List V} (e1 : b.K = X.K) (e2 : b.mg = X.mg) (r : Rel b F c env st σ H) (rp : Rps b.K b.mg F c H vs ds) (rf : Rp b.K b.mg F c H (.ref f) (.fn (.lam id cells)))
    (p : Post b W F c σ H (fun d _ _ F' c' H' => ∀ v, Rp b.K b.mg F' c' H' v d → Q v H') (match env[gi]? with
    | some (.gh cells' vals) => if cells = cells' ∧ ds.length = (G id).n then callR ((G id).run ((G id).fr.map fun y => vals.lookup y)) ds env st else .bad
    | _ => .bad)) : PQ X W f id cells G gi σ Q vs H := by
  split at p
  · rename_i cells' vals hg
    split at p
    · rename_i hh
      obtain ⟨rfl, hl⟩ := hh
      exact ⟨b, F, c, env, st, ds, vals, e1, e2, r, rp, rf, hg, hl, postF_call r p fun v d st F' c' H' s r' rv q => q v rv⟩
    · exact p.elim
  · exact p.elim
theorem ve_callP (i gi : Nat) (Fn : LamsOk X.prog X.w X.K X.mg X.base k G) (hr : Room k X.A) (tk : Takes X W) (ha : VA X W (e :: es) fs) (hN : X.N[i]? = some x := by rfl) (hv : Vis X.env.scope x := by first | exact Or.inl rfl | exact Or.inr (Or.inl rfl) | exact Or.inr (Or.inr rfl)) (hd : (x == ("__debug__" : Str)) = false := by decide)
    (hcd : (x == ("__classdict__" : Str)) = false := by decide) (he : starEach (e :: es) X.env = (false, eval e X.env) :: starEach es X.env := by rfl) (hpl : (backTo pos (starEach es X.env)).any (·.1) = false := by rfl) : VE X W (.Call (.Name x p) (e :: es) [] pos) (callP G i gi fs) := by
  refine ⟨fun pins s σ H Q I ⟨b, F, c, env, st, e1, e2, r, pp⟩ => ?_⟩
  unfold callP at pp
  split at pp
  · rename_i id cells hi
    obtain ⟨v, ev, rf⟩ := r.sl i _ hi
    obtain ⟨f, c', rfl, hf⟩ : ∃ f c', v = .ref f ∧ H f = some (FnL f (VEnv.code id) cells c') := by cases rf with | lam f1 f2 f3 f4 f5 => exact ⟨_, _, rfl, f2⟩
    refine wpAny_Call_Name_kw (thn ((pe_var (pos := p) hN hv hd hcd).run pins s σ H (fun v H1 => v = .ref f ∧ H1 = H) I ⟨.ref f, ev, rfl, rfl⟩) fun u s1 ⟨v, H1, I1, r1, q1⟩ => ?_)
    obtain ⟨rfl, rfl⟩ := q1
    obtain rfl : u = Value.ref f := r1
    refine PySem.W.callWith_F (first := []) (fnAt_L I1 hf) (thn (ha.run pos pins s1 σ _ (PQ X W f id cells G gi σ Q) I1 (tA_at e1 e2 r pp fun vs ds env1 st1 F1 c1 H1 s1 r1 rp1 p1 => pq_of e1 e2 r1 rp1 (rf.stp s1) p1)) fun us s2 ⟨vs, H2, I2, rv, hq⟩ => ?_) he hpl
    obtain ⟨b2, F2, c2, env2, st2, ds, vals, d1, d2, r2, rp2, rf2, hg, hl, pf⟩ := hq
    obtain ⟨c2', hf2⟩ : ∃ c', H2 f = some (FnL f (VEnv.code id) cells c') := by cases rf2 with | lam f1 f2 f3 f4 f5 => exact ⟨_, f2⟩
    exact ⟨fnAt_L I2 hf2, run_p Fn hr tk I2 d1 d2 r2 rf2 hg rv rp2 hl pf⟩
  · exact pp.elim
theorem ve_callP0 (i gi : Nat) (Fn : LamsOk X.prog X.w X.K X.mg X.base k G) (hr : Room k X.A) (tk : Takes X W) (hN : X.N[i]? = some x := by rfl) (hv : Vis X.env.scope x := by first | exact Or.inl rfl | exact Or.inr (Or.inl rfl) | exact Or.inr (Or.inr rfl)) (hd : (x == ("__debug__" : Str)) = false := by decide)
    (hcd : (x == ("__classdict__" : Str)) = false := by decide) : VE X W (.Call (.Name x p) [] [] pos) (callP G i gi eNil) := by
  refine ⟨fun pins s σ H Q I ⟨b, F, c, env, st, e1, e2, r, pp⟩ => ?_⟩
  unfold callP at pp
  split at pp
  · rename_i id cells hi
    obtain ⟨v, ev, rf⟩ := r.sl i _ hi
    obtain ⟨f, c', rfl, hf⟩ : ∃ f c', v = .ref f ∧ H f = some (FnL f (VEnv.code id) cells c') := by cases rf with | lam f1 f2 f3 f4 f5 => exact ⟨_, _, rfl, f2⟩
    refine wpAny_Call_Name_kw (thn ((pe_var (pos := p) hN hv hd hcd).run pins s σ H (fun v H1 => v = .ref f ∧ H1 = H) I ⟨.ref f, ev, rfl, rfl⟩) fun u s1 ⟨v, H1, I1, r1, q1⟩ => ?_)
    obtain ⟨rfl, rfl⟩ := q1
    obtain rfl : u = Value.ref f := r1
    refine PySem.W.callWith_F0 (first := []) (fnAt_L I1 hf) ?_
    obtain ⟨b2, F2, c2, env2, st2, ds, vals, d1, d2, r2, rp2, rf2, hg, hl, pf⟩ := pq_of (G := G) (gi := gi) (vs := []) e1 e2 r .nil rf pp
    exact run_p Fn hr tk I1 d1 d2 r2 rf2 hg .nil rp2 hl pf
  · exact pp.elim
end
/-! ### a function is handed to a def -/
def ghv (js : List (Str × Nat)) (env : EnvD) : List (Str × D) := js.filterMap fun (p : Str × Nat) => match (env[p.2]? : Option Sl) with
  | some (.va d) => some (p.1, d)
  | _ => none
def eCallH (m : FMG) (n : Nat) (cells : List (Str × Addr)) (js : List (Str × Nat)) (fs : M (List D)) : M D := fun env st => (fs env st).bind fun ds env st => if ds.length = n then callR (m cells (ghv js env)) ds env st else .bad
section
variable {X : Cx} {W : WX} {e a : Expr} {es : List Expr} {pos p : Pos} {fs : M (List D)} {x : Str} {k n : Nat} {m : FMG} {js : List (Str × Nat)}
omit [VEnv] in
theorem ghv_at {env : EnvD} {y : Str} {d : D} (h : (ghv js env).lookup y = some d) : ∃ j, (y, j) ∈ js ∧ env[j]? = some (.va d) := by
  have h := PySem.mem_of_lookup h
  unfold ghv at h
  rw [List.mem_filterMap] at h
  obtain ⟨q, hq, e⟩ := h
  split at e
  · rename_i d' he
    cases e
    exact ⟨q.2, hq, he⟩
  · cases e
/-- the captured names: where they stand -/
def JsOk (X : Cx) (js : List (Str × Nat)) : Prop := ∀ q ∈ js, X.N[q.2]? = some q.1 ∧ X.env.scope.names.lookup q.1 = some .cell
omit [VEnv] in
theorem jsOk_nil : JsOk X [] := fun _ h => nomatch h
omit [VEnv] in
theorem jsOk_cons {y : Str} {j : Nat} (h1 : X.N[j]? = some y) (h2 : X.env.scope.names.lookup y = some .cell) (h : JsOk X js) : JsOk X ((y, j) :: js) := fun q hq => (List.mem_cons.mp hq).elim (fun e => e ▸ ⟨h1, h2⟩) (h q)
theorem run_h {fr : Bool} {pins : List (Addr × Obj)} {σ : L2.St} {H : Hp} {s : Shared} {Q : VK} {f : Addr} {fd : FuncData} {ps : List Str} {us : List Value} {vs : List V} {ds : List D} {b : Bs} {F : Addr → Prop} {c : List Addr} {env : EnvD} {st : Sto}
    (Fo : FnOk X.prog X.w X.K X.mg X.base (L2.CX X.prog X.w) k f fd ps (spG X.K X.mg fr n m)) (hb : Binds X.K fd ps []) (hr : Room k X.A) (tk : Takes X W) (hfn : ∀ x, X.fn x = true) (hjs : JsOk X js) (I : Inv X pins σ H s) (e1 : b.K = X.K) (e2 : b.mg = X.mg) (r : Rel b F c env st σ H) (rv : Vals vs us) (rp : Rps b.K b.mg F c H vs ds) (hl : ds.length = n)
    (p : PostF b.K b.mg fr F c H Q (WE W σ) (m X.env.cells (ghv js env) ds st)) : wpAny (model X.prog X.w) X.A (call (.ref f) us) (EP X pins σ Q) X.xe s := by
  obtain ⟨C, hCdef⟩ : ∃ C : List Addr, C = X.env.cells.filterMap fun q => X.env.cells.lookup q.1 := ⟨_, rfl⟩
  obtain ⟨H₀, hH0⟩ : ∃ H₀ : Hp, H₀ = fun a => (s.heap.get? a).map CelO := ⟨_, rfl⟩
  have inC : ∀ y a, X.env.cells.lookup y = some a → a ∈ C := fun y a h => by
    rw [hCdef, List.mem_filterMap]
    exact ⟨(y, a), PySem.mem_of_lookup h, h⟩
  have ofC : ∀ a ∈ C, ∃ y, X.env.cells.lookup y = some a := fun a h => by
    rw [hCdef, List.mem_filterMap] at h
    obtain ⟨q, _, e⟩ := h
    exact ⟨_, e⟩
  have h0 : ∀ a ∈ C, H a = none := fun a m => by obtain ⟨y, e⟩ := ofC a m; exact I.freeC y a e
  have hO : ∀ a ∈ C, ∃ o, H₀ a = some (CelO o) ∧ s.heap.get? a = some o := fun a m => by
    obtain ⟨y, e⟩ := ofC a m
    obtain ⟨v, o, ho, _⟩ := I.cell y a e
    exact ⟨o, by rw [hH0]; simp [ho], ho⟩
  have hC : CelsAt C H₀ := fun a m => by obtain ⟨o, e, _⟩ := hO a m; exact ⟨o, e⟩
  have young : ∀ a ∈ C, X.s_0.heap.objs.size ≤ a := fun a m => by obtain ⟨y, e⟩ := ofC a m; exact I.ok.cab y a (hfn y) e
  have hfr : ∀ a ∈ C, a ∉ frs X.stack := fun a m z => by
    obtain ⟨y, e⟩ := ofC a m
    rcases List.mem_cons.mp (I.stkSub a z) with q | q
    · exact I.cne y a e q
    · obtain ⟨_, o, ho, _⟩ := I.ok.funs.mem q
      exact absurd (Nat.lt_of_lt_of_le (Heap.lt_size ho) (young a m)) (Nat.lt_irrefl _)
  have hbs : ∀ a ∈ C, X.base.get? a = none := fun a m => by
    cases q : X.base.get? a with
    | none => rfl
    | some o => exact absurd (Nat.lt_of_lt_of_le (Heap.lt_size q) (Nat.le_trans I.ok.bsz (young a m))) (Nat.lt_irrefl _)
  have hFC : ∀ a, F a → a ∉ C := fun a f m => by
    obtain ⟨o, e⟩ := r.rc.trk a f
    rw [h0 a m] at e; cases e
  have rc := r.rc
  rw [e1, e2] at rc rp p
  have gh : GhOk X.K X.mg (onF C F) c (onH C H₀ H) X.env.cells (ghv js env) := by
    refine ⟨fun y a h => ⟨.inr (inC y a h), ?_⟩, I.ok.inj, fun y d h => ?_⟩
    · obtain ⟨v, o, ho, hd⟩ := I.cell y a h
      exact ⟨o, v, by rw [onH_in (inC y a h), hH0]; simp [ho], hd⟩
    · obtain ⟨j, hj, he⟩ := ghv_at h
      obtain ⟨hN, hk⟩ := hjs _ hj
      obtain ⟨v, ev, rp⟩ := r.sl j _ he
      rw [e1, e2] at rp
      obtain ⟨mm, _, hlk⟩ := I.loc
      obtain ⟨u, ru, look⟩ := hlk j y v hN ev (.inr (.inl hk))
      rcases look with ⟨z, _⟩ | ⟨_, a, ha, o, ho, hd⟩
      · have z : X.env.scope.names.lookup y = some .local := z
        rw [hk] at z; cases z
      · exact ⟨a, o, u, v, ha, by rw [onH_in (inC y a ha), hH0]; simp [ho], hd, ru, rp.stp (stp_on h0)⟩
  have hlen : us.length = ps.length := by
    rw [← rv.length]
    exact Fo.len _ _ _ _ ⟨_, _, _, _, _, _, rc.on h0 hC, rp.stp (stp_on h0), hl, gh, postF_on hC h0 hFC p⟩
  have bd := hb s us I.kIn (by rw [List.append_nil]; exact hlen)
  rw [List.append_nil] at bd
  have go := Fo.run X.A X.stack s (onH C H₀ H) ⟨us, []⟩ us vs _ _ hr (Env0.onC I.env0 h0 hO hfr hbs) bd rv ⟨_, _, _, _, _, _, rc.on h0 hC, rp.stp (stp_on h0), hl, gh, postF_on hC h0 hFC p⟩
  refine wpAny_call (codeAny_mono go fun y s' hy => ?_)
  have hy : CR (L2.CX X.prog X.w) X.stack X.prog X.w H s Q (WE W σ) y s' := cr_off hy hC h0 (fun a m o e => by obtain ⟨o', e', g⟩ := hO a m; rw [e'] at e; injection e with e; unfold CelO at e; injection e with e _; rw [← e]; exact g) (fun v H' hc q => q hc) fun cls d H' hc q => q hc
  cases y with
  | error er => exact passAt tk σ pins H s er s' I hy
  | ok fl =>
    cases fl with
    | ret u => exact I.after hy
    | next => exact hy.elim
    | brk => exact hy.elim
    | cont => exact hy.elim
/-- what stands behind the arguments of such a call -/
def HQ (X : Cx) (W : WX) (m : FMG) (n : Nat) (fr : Bool) (js : List (Str × Nat)) (σ : L2.St) (Q : VK) (vs : List V) (H : Hp) : Prop :=
  ∃ b F c env st ds, b.K = X.K ∧ b.mg = X.mg ∧ Rel b F c env st σ H ∧ Rps b.K b.mg F c H vs ds ∧ ds.length = n ∧ PostF b.K b.mg fr F c H Q (WE W σ) (m X.env.cells (ghv js env) ds st)
theorem ve_callH (Fv : FnG X.prog X.w X.K X.mg X.base k x false n m) (hr : Room k X.A) (tk : Takes X W) (ha : VA X W (e :: es) fs) (hjs : JsOk X js) (hfn : ∀ x, X.fn x = true := by intro _; rfl) (hg : Gl X x := by rfl) (hdb : (x == ("__debug__" : Str)) = false := by decide)
    (he : starEach (e :: es) X.env = (false, eval e X.env) :: starEach es X.env := by rfl) (hpl : (backTo pos (starEach es X.env)).any (·.1) = false := by rfl) : VE X W (.Call (.Name x p) (e :: es) [] pos) (eCallH m n X.env.cells js fs) := by
  obtain ⟨f, fd, ps, Fo, hm, hk, hb⟩ := Fv.ex
  refine ⟨fun pins s σ H Q I ⟨b, F, c, env, st, e1, e2, r, pp⟩ => ?_⟩
  refine wpAny_Call_Name_kw (ld_glob I hg hm ?_ hdb)
  refine PySem.W.callWith_K (h₀ := X.base) I.ok.mod.kin hk (thn (ha.run pos pins s σ H (HQ X W m n false js σ Q) I (tA_at e1 e2 r pp fun vs ds env1 st1 F1 c1 H1 s1 r1 rp1 p1 => ?_)) fun us s1 ⟨vs, H1, I1, rv, hq⟩ => ⟨I1.kIn, ?_⟩) he hpl
  · split at p1
    · rename_i hl
      exact ⟨b, F1, c1, env1, st1, ds, e1, e2, r1, rp1, hl, postF_call r1 p1 fun v d st F' c' H' s r' rv q => q v rv⟩
    · exact p1.elim
  · obtain ⟨b2, F2, c2, env2, st2, ds, d1, d2, r2, rp2, hl, pf⟩ := hq
    exact run_h Fo hb hr tk hfn hjs I1 d1 d2 r2 rv rp2 hl pf
theorem vf_callH (Fv : FnG X.prog X.w X.K X.mg X.base k x true n m) (hr : Room k X.A) (tk : Takes X W) (ha : VA X W (e :: es) fs) (hjs : JsOk X js) (hfn : ∀ x, X.fn x = true := by intro _; rfl) (hg : Gl X x := by rfl) (hdb : (x == ("__debug__" : Str)) = false := by decide)
    (he : starEach (e :: es) X.env = (false, eval e X.env) :: starEach es X.env := by rfl) (hpl : (backTo pos (starEach es X.env)).any (·.1) = false := by rfl) : VF X W (.Call (.Name x p) (e :: es) [] pos) (eCallH m n X.env.cells js fs) := by
  obtain ⟨f, fd, ps, Fo, hm, hk, hb⟩ := Fv.ex
  refine ⟨fun pins s σ H Q I ⟨b, F, c, env, st, e1, e2, r, pp⟩ => ?_⟩
  refine wpAny_Call_Name_kw (ld_glob I hg hm ?_ hdb)
  refine PySem.W.callWith_K (h₀ := X.base) I.ok.mod.kin hk (thn (ha.run pos pins s σ H (HQ X W m n true js σ Q) I (tA_at e1 e2 r pp fun vs ds env1 st1 F1 c1 H1 s1 r1 rp1 p1 => ?_)) fun us s1 ⟨vs, H1, I1, rv, hq⟩ => ⟨I1.kIn, ?_⟩) he hpl
  · split at p1
    · rename_i hl
      refine ⟨b, F1, c1, env1, st1, ds, e1, e2, r1, rp1, hl, postF_call r1 p1 fun v d st F' c' H' s r' rv q => ?_⟩
      obtain ⟨a, rfl, h1, h2, h3, h4⟩ := rv
      exact q a h1 h2 (r1.H0none h3) (r1.nO h3) h4
    · exact p1.elim
  · obtain ⟨b2, F2, c2, env2, st2, ds, d1, d2, r2, rp2, hl, pf⟩ := hq
    exact run_h Fo hb hr tk hfn hjs I1 d1 d2 r2 rv rp2 hl pf
end
end VE

/-! list.count over plain data -/
namespace VE
open PySem PySem.Spec PyProof.Rows L2
variable [VEnv]
section
variable {X : Cx} {W : WX} {o a : Expr} {pos : Pos} {fo fa : M D} {k : Nat}
def rCountD (K : PySem.W.Frag) : V → List V → Hp → VK → Prop := fun x xs H Q => ∃ (a : Addr) (y : V) (d : PyData) (ds : List PyData), x = V.ref a ∧ xs = [y] ∧ Dp K H (V.ref a) (.list ds) ∧ Dp K H y d ∧
  SeqAt.shaped (.list ds) = true ∧ SeqAt.shaped d = true ∧ Q (.int ((ds.countP fun z => PyData.eqv z d : Nat))) H
omit [VEnv] in
theorem mt_countD (hu : X.A.units + 65 < cLine) : MtR X "list.count" (rCountD X.K) := by
  intro pins s σ H x xs v us Q I rx rxs h
  obtain ⟨a, y, d, ds, rfl, rfl, hl, hy, sl, sd, q⟩ := h
  cases rx
  cases rxs with
  | cons ry rt =>
    rename_i uy ut
    cases rt
    obtain ⟨bs, r1⟩ := Dp.reads I d y uy hy ry
    have hxs : PyData.canLayAll0 ds = true := SeqAt.canLay_of_shaped sl
    have hroom : X.A.units + 1 + min (PyData.depthAll ds) d.depth < cLine := room_in_shaped sd hu
    cases hl with
    | lst hs ha =>
      obtain ⟨its, rv, ⟨⟨cls, dd, data, sls⟩, n, ho, hc, hdn, hdt⟩, hlen⟩ := I.list hs
      simp only at hc hdt
      subst hc hdt
      obtain ⟨as, h4⟩ := Dp.readsAll I ds _ its ha rv
      have hmap : its.map (SeqAt.readOf s.heap) = ds := SeqAt.readsAll_map ds its as hxs h4
      refine call_meets PySem.F.slot_list_count ⟨_, ho, rfl⟩ PySem.F.entry_list_count (PySem.F.args_list_count_2 _ _)
        (SeqAt.list_countAt a its.toArray n dd sls uy (fun u => PyData.eqv (SeqAt.readOf s.heap u) d)) ⟨ho, SeqAt.items_eqAt (vs := its.toArray) (show ReadsAll s.heap its.toArray.toList ds as from h4) r1 hxs (SeqAt.canLay_of_shaped sd) hroom, ?_⟩
      refine ⟨.int ((ds.countP fun z => PyData.eqv z d : Nat)), H, I.tok _, ⟨s.toks, ?_⟩, q⟩
      rw [← hmap, List.countP_map]
      rfl
def cntD (x : D) (ys : List D) : Nat := ys.countP fun z => eqD z x
omit [VEnv] in
theorem cntD_py (x : D) : ∀ ys : List D, (toPys ys).countP (fun z => PyData.eqv z (toPy x)) = cntD x ys
  | [] => rfl
  | y :: ys => by
    have ih := cntD_py x ys
    simp only [toPys, List.countP_cons, ih, cntD]
    rfl
def eCnt (fo fa : M D) : M D := fun env st => (fo env st).bind fun r env st => match vw st r with
  | .lst _ => (fa env st).bind fun x env st => (match vw st r with
    | .lst ys => if plain 20 x && plain 20 (.lst ys) then .ok (.int (cntD x ys : Nat)) env st else .bad
    | _ => .bad)
  | _ => .bad
theorem ve_cnt {apos : Pos} (hr : Room k X.A) (ho : VE X W o fo) (ha : VE X W a fa) (hbase : attributeBase o "count" X.env (eval o X.env) = eval o X.env := by rfl)
    (hfew : ((backTo pos (starEach [a] X.env)).all (fun x => !x.1) && (backToKw pos (keywordEach [] X.env)).all (fun x => x.1.isSome)
      && decide (([a] : List Expr).length + ([] : List Keyword).length + (if ([] : List Keyword).isEmpty then 0 else 1) < 30)) = true := by rfl)
    (hline : (apos.endLine == pos.line) = true := by rfl) (hs : starEach [a] X.env = (false, eval a X.env) :: starEach [] X.env := by rfl) (hplain : (backTo pos (starEach [] X.env)).any (·.1) = false := by rfl) :
    VE X W (.Call (.Attribute o "count" apos) [a] [] pos) (eCnt fo fa) := PEof (pe_bm PySem.F.plainAttrs_list PySem.F.slot_list_count PySem.F.type_list_count (mt_countD (huOf1 hr)) ho (pa_cons ha pa_nil hs) hbase hfew hline hs hplain) fun σ H Q ⟨b, F, c, env, st, e1, e2, r, p⟩ =>
  tE_at e1 e2 r p fun v d env1 st1 F1 c1 H1 s1 r1 rp1 p1 => by
    split at p1
    · rename_i ds0 ev0
      have lv0 := r1.lv rp1
      rw [ev0] at lv0
      obtain ⟨q, vs0, rfl, hq0, _⟩ := lv0
      refine ⟨.inl ⟨rfl, _, SqL.of hq0⟩, tE_at e1 e2 r1 p1 fun u y env2 st2 F2 c2 H2 s2 r2 rp2 p2 => ?_⟩
      split at p2
      · rename_i ys ev
        have lv := r2.lv (rp1.stp s2)
        rw [ev] at lv
        split at p2
        · rename_i hp
          rw [Bool.and_eq_true] at hp
          have k1 := LV.dp lv hp.2
          have k2 := rp2.dp 20 hp.1
          have k3 := shaped_of (by decide) hp.2
          simp only [toPy] at k1 k3
          rw [e1] at k1 k2
          refine ⟨q, u, _, _, rfl, rfl, k1, k2, k3, shaped_of (by decide) hp.1, ?_⟩
          rw [cntD_py]
          exact Post.here r2 p2 _ (.int _)
        · exact p2.elim
      · exact p2.elim
    · exact p1.elim
/-- a, b = x, [..], where a name is a cell -/
theorem vs_asgF {e : Expr} {fb : M D} {i j : Nat} {x y : Str} {px py pt : Pos} {kt k2 : Nat} {pt2 : Pos} (hc : X.calm = true) (hN : X.N.Nodup) (ha : VE X W e fa) (hb : VF X W a fb) (hi : X.N[i]? = some x := by rfl) (hj : X.N[j]? = some y := by rfl) (hij : i ≠ j := by decide)
    (hx : Loc X.env.scope x := by first | exact Or.inl rfl | exact Or.inr rfl) (hy : Loc X.env.scope y := by first | exact Or.inl rfl | exact Or.inr rfl)
    (hfx : X.fn x = true ∨ X.env.scope.names.lookup x = some .local := by first | exact .inl rfl | exact .inr rfl | assumption) (hfy : X.fn y = true ∨ X.env.scope.names.lookup y = some .local := by first | exact .inl rfl | exact .inr rfl | assumption)
    (hs : swapsWithSole [.Tuple [.Name x px, .Name y py] kt pt] (.Tuple [e, a] k2 pt2) pos.line X.env = pure false := by rfl) (hw : swappedStores [.Tuple [.Name x px, .Name y py] kt pt] (.Tuple [e, a] k2 pt2) X.env = pure none := by rfl)
    (hs1 : starEach [e, a] X.env = (false, eval e X.env) :: starEach [a] X.env := by rfl) (hs2 : starEach [a] X.env = (false, eval a X.env) :: starEach [] X.env := by rfl)
    (h1 : (assignEach [.Tuple [.Name x px, .Name y py] kt pt] X.env).map (·.2) = [assign (.Tuple [.Name x px, .Name y py] kt pt) X.env] := by rfl)
    (hn : (assignEach [.Name x px, .Name y py] X.env).length = 2 := by rfl) (hst : (assignEach [.Name x px, .Name y py] X.env).findIdx? (·.1) = none := by rfl)
    (ht1 : (assignEach [.Name x px, .Name y py] X.env).map (·.2) = assign (.Name x px) X.env :: (assignEach [.Name y py] X.env).map (·.2) := by rfl) (ht2 : (assignEach [.Name y py] X.env).map (·.2) = assign (.Name y py) X.env :: (assignEach [] X.env).map (·.2) := by rfl) :
    VS X W (.Assign [.Tuple [.Name x px, .Name y py] kt pt] (.Tuple [e, a] k2 pt2) pos) (sParF i j fa fb) := PSof (ps_asg (pe_tup (pa_cons ha (pa_cons hb pa_nil hs2) hs1)) (pg_tup hc (pgs_cons (pg_name hN hi hx hfx) (pgs_cons (pg_name hN hj hy hfy) pgs_nil ht2) ht1) hn hst) hs hw h1) fun D₀ σ H ⟨b, F, c, env, st, e1, e2, r, p⟩ =>
  sE_at e1 e2 r p fun v d env1 st1 F1 c1 H1 s1 r1 rp1 p1 => sF_at e1 e2 r1 p1 fun q d' env2 st2 F2 c2 H2 s2 r2 h1 h2 h3 h4 h5 p2 => by
    refine ⟨by rw [sizeLine_eq]; simp, fun t ht => ?_⟩
    obtain ⟨s3, r3⟩ := r2.newO ht (.tup [v, .ref q])
    have hq : upd H2 t (.tup [v, .ref q]) q = H2 q := by
      refine upd_ne fun z => ?_
      subst z
      have := h5.trk
      obtain ⟨o, z⟩ := this
      rw [ht] at z; cases z
    refine ⟨t, _, rfl, .inl (.inl upd_same), rfl, _, _, rfl, _, _, rfl, rfl, PostS.here (P := fun fl _ _ F c σ H => FlOk b D₀ F c σ H fl) ((r3.put ((rp1.stp s2).stp s3)).take h1 h2 h3 (fun k hk => ?_) (h5.stp s3 hq)) (p2.stp s3)⟩
    obtain ⟨dd, k1, k2⟩ := hk
    by_cases q2 : i = k
    · subst q2
      by_cases hl : i < env2.length
      · rw [List.getElem?_set_self hl] at k1; cases k1
      · rw [List.getElem?_eq_none (by simpa using hl)] at k1; cases k1
    · rw [List.getElem?_set_ne q2] at k1 k2
      exact h4 k ⟨dd, k1, k2⟩
/-- x or y of None, truths, texts -/
def truD : D → Option Bool
  | .non => some false
  | .bl b => some b
  | .str y => if y.length ≤ sizeLine then some ((y.length : Int) != 0) else none
  | _ => none
def kOrT (fb : M D) : D → M D := fun x env st => match truD x with
  | some true => .ok x env st
  | some false => fb env st
  | none => .bad
def eOrT (fa fb : M D) : M D := fun env st => (fa env st).bind (kOrT fb)
theorem tru_of {K : PySem.W.Frag} {mg : Str → Option Value} {F : Addr → Prop} {c : List Addr} {H : Hp} {v : V} {d : D} {k : Bool} (h : Rp K mg F c H v d) (e : truD d = some k) : TruV K v H k := by
  cases d with
  | non => cases h; cases e; rfl
  | bl b => cases h; cases e; rfl
  | str y =>
    cases h
    simp only [truD] at e
    split at e
    · cases e; exact ⟨by assumption, rfl⟩
    · cases e
  | _ => cases e
theorem ve_orT {e a : Expr} {rest : List Expr} (h : VE X W e fa) (h2 : VE X W (.BoolOp .Or (a :: rest) pos) fo) : VE X W (.BoolOp .Or (e :: a :: rest) pos) (eOrT fa fo) := PEof (pe_orT h h2) fun σ H Q ⟨b, F, c, env, st, e1, e2, r0, h⟩ =>
  tE_at e1 e2 r0 h fun v dx env1 st1 F1 c1 H1 s1 r1 rp1 p1 => by
    unfold kOrT at p1
    split at p1
    · rename_i ht
      exact ⟨true, e1 ▸ tru_of rp1 ht, by rw [if_pos rfl]; exact Post.here r1 p1 _ rp1⟩
    · rename_i ht
      exact ⟨false, e1 ▸ tru_of rp1 ht, by rw [if_neg Bool.false_ne_true]; exact ⟨b, F1, c1, env1, st1, e1, e2, r1, p1⟩⟩
    · exact p1.elim
end
end VE

/-! how the mirrors over frozen instances, cells, sets are reckoned -/
namespace VE
open PySem PySem.Spec PyProof.Rows L2
section
variable {fa fb fc fo fi fe fd : M D} {fs : M (List D)} {env : EnvD} {st : Sto} {i n np q : Nat} {d x y z : D} {ds xs : List D} {c c' f : Str} {mf : FM} {kvs : List (Key × D)} {ky : Key}
/-! seen -/
def vwC (n : Nat) : Option Cell → D
  | some (.lst ds) => .lst ds
  | _ => .ref n
@[simp] theorem vw_non : vw st .non = .non := rfl
@[simp] theorem vw_bl {b : Bool} : vw st (.bl b) = .bl b := rfl
@[simp] theorem vw_int {i : Int} : vw st (.int i) = .int i := rfl
@[simp] theorem vw_str {s : Str} : vw st (.str s) = .str s := rfl
@[simp] theorem vw_lst : vw st (.lst xs) = .lst xs := rfl
@[simp] theorem vw_tup : vw st (.tup xs) = .tup xs := rfl
@[simp] theorem vw_scr {ns : List Int} : vw st (.scr ns) = .scr ns := rfl
@[simp] theorem vw_obj : vw st (.obj c xs) = .obj c xs := rfl
@[simp] theorem vw_ino {ns : List Str} : vw st (.ino c ns xs) = .ino c ns xs := rfl
@[simp] theorem vw_ref : vw st (.ref n) = vwC n st[n]? := by
  unfold vw vwC
  rfl
@[simp] theorem vwC_lst : vwC n (some (.lst ds)) = .lst ds := rfl
@[simp] theorem vwC_dct : vwC n (some (.dct kvs)) = .ref n := rfl
@[simp] theorem x_sv2 {g : D → D → Option D} : sv2 g x y env st = ret (g (vw st x) (vw st y)) env st := rfl
@[simp] theorem x_addA1 {i j : Int} : addA (.int i) (.int j) = some (.int (i + j)) := rfl
@[simp] theorem x_addA2 {i j : Str} : addA (.str i) (.str j) = if i.length + j.length ≤ sizeLine then some (.str (i ++ j)) else none := rfl
@[simp] theorem x_addA3 {xs ys : List D} : addA (.tup xs) (.tup ys) = if xs.length + ys.length ≤ 16777216 then some (.tup (xs ++ ys)) else none := rfl
@[simp] theorem x_addA4 {xs ys : List D} : addA (.lst xs) (.lst ys) = if xs.length + ys.length ≤ 16777216 then some (.lst (xs ++ ys)) else none := rfl
@[simp] theorem ng_f {t : Bool} : ng false t = t := rfl
@[simp] theorem ng_t {t : Bool} : ng true t = !t := rfl
def kInC (neg : Bool) (x : D) (n : Nat) : Option Cell → M D := fun o env st => match o with
  | some (.dct kvs) => (match x with
      | .int i => .ok (.bl (ng neg (hasD (.inl i) kvs))) env st
      | .str i => .ok (.bl (ng neg (hasD (.inr i) kvs))) env st
      | _ => .bad)
  | _ => sv2 (inV neg) x (.ref n) env st
@[simp] theorem x_inA_lst {neg : Bool} : inA neg x (.lst ds) env st = ret (inV neg (vw st x) (.lst ds)) env st := rfl
@[simp] theorem x_inA_tup {neg : Bool} : inA neg x (.tup ds) env st = ret (inV neg (vw st x) (.tup ds)) env st := rfl
@[simp] theorem x_inA_str {neg : Bool} {s : Str} : inA neg x (.str s) env st = ret (inV neg (vw st x) (.str s)) env st := rfl
@[simp] theorem x_inA_ref {neg : Bool} : inA neg x (.ref n) env st = kInC neg x n st[n]? env st := rfl
@[simp] theorem x_kInC1 {neg : Bool} {i : Int} : kInC neg (.int i) n (some (.dct kvs)) env st = .ok (.bl (ng neg (hasD (.inl i) kvs))) env st := rfl
@[simp] theorem x_kInC2 {neg : Bool} {i : Str} : kInC neg (.str i) n (some (.dct kvs)) env st = .ok (.bl (ng neg (hasD (.inr i) kvs))) env st := rfl
@[simp] theorem x_kInC3 {neg : Bool} : kInC neg x n (some (.lst ds)) env st = ret (inV neg (vw st x) (vw st (.ref n))) env st := rfl
@[simp] theorem inV_str {neg : Bool} {i j : Str} : inV neg (.str i) (.str j) = some (.bl (ng neg (inText i j))) := rfl
theorem inV_lst {neg : Bool} (h : plain 20 x = true) (h2 : plain 20 (.lst ds) = true) : inV neg x (.lst ds) = some (.bl (ng neg (ds.any fun z => eqD z x))) := by
  cases x <;> first | (show (if (plain 20 _ && plain 20 _) = true then _ else _) = _; rw [h, h2]; rfl) | (simp [plain] at h)
theorem inV_tup {neg : Bool} (h : plain 20 x = true) (h2 : plain 20 (.tup ds) = true) : inV neg x (.tup ds) = some (.bl (ng neg (ds.any fun z => eqD z x))) := by
  cases x <;> first | (show (if (plain 20 _ && plain 20 _) = true then _ else _) = _; rw [h, h2]; rfl) | (simp [plain] at h)
@[simp] theorem x_ord1 {p : Int → Int → Bool} {r : Str → Str → Bool} {i j : Int} : ordA p r (.int i) (.int j) = some (.bl (p i j)) := rfl
@[simp] theorem x_ord2 {p : Int → Int → Bool} {r : Str → Str → Bool} {i j : Str} : ordA p r (.str i) (.str j) = some (.bl (r i j)) := rfl
/-! walked -/
def kQ : D → M (List D) := fun d env st => match walkD st d with
  | some xs => .ok xs env st
  | none => .bad
@[simp] theorem x_iQ : iQ fa env st = (fa env st).bind kQ := rfl
@[simp] theorem x_kQ1 : kQ (.lst ds) env st = .ok ds env st := rfl
@[simp] theorem x_kQ2 : kQ (.tup ds) env st = .ok ds env st := rfl
@[simp] theorem x_kQ3 {s : Str} : kQ (.str s) env st = .ok (signsD s) env st := rfl
@[simp] theorem x_kQ4 {ns : List Int} : kQ (.scr ns) env st = .ok (ns.map .int) env st := rfl
/-! frozen instances -/
def kSU (c : Str) (i : Nat) (o : Option Cell) : M D := fun env st => match o with
  | some (.slo n' ds) => if n' = c then ret ds[i]? env st else .bad
  | _ => .bad
@[simp] theorem x_eSlU : eSlU c i fo env st = (fo env st).bind (slU c i) := rfl
@[simp] theorem x_slU1 : slU c i (.obj c' ds) env st = if c' = c then ret ds[i]? env st else .bad := rfl
@[simp] theorem x_slU2 : slU c i (.ref q) env st = kSU c i st[q]? env st := rfl
@[simp] theorem x_kSU : kSU c i (some (.slo c' ds)) env st = if c' = c then ret ds[i]? env st else .bad := rfl
@[simp] theorem x_ePrU : ePrU c mf fo env st = (fo env st).bind (prU c mf) := rfl
@[simp] theorem x_prU1 : prU c mf (.obj c' ds) env st = if c' = c then kPr3 (mf [.obj c' ds] st) env st else .bad := rfl
def kFU (c f : Str) (o : Option Cell) : M D := fun env st => match o with
  | some (.ins n' fs) => if n' = c then ret (fs.lookup f) env st else .bad
  | _ => .bad
@[simp] theorem x_eFlU : eFlU c f fo env st = (fo env st).bind (flU c f) := rfl
@[simp] theorem x_flU1 {ns : List Str} : flU c f (.ino c' ns ds) env st = if c' = c then ret (lkD f ns ds) env st else .bad := rfl
@[simp] theorem x_flU2 : flU c f (.ref q) env st = kFU c f st[q]? env st := rfl
@[simp] theorem x_kFU {fs : List (Str × D)} : kFU c f (some (.ins c' fs)) env st = if c' = c then ret (fs.lookup f) env st else .bad := rfl
noncomputable def kMZ (c : Str) (mf : FM) (np : Nat) : List D → M D := fun ds env st => if ds.length + 1 = np then frzS c env st (mf (.ref st.length :: ds) (st ++ [.slo c []])) else .bad
noncomputable def kMI (c : Str) (mf : FM) (np : Nat) : List D → M D := fun ds env st => if ds.length + 1 = np then frzI c env st (mf (.ref st.length :: ds) (st ++ [.ins c []])) else .bad
@[simp] theorem x_eMakeZ : eMakeZ c mf np fs env st = (fs env st).bind (kMZ c mf np) := rfl
@[simp] theorem x_eMakeI : eMakeI c mf np fs env st = (fs env st).bind (kMI c mf np) := rfl
@[simp] theorem x_kMZ : kMZ c mf np ds env st = if ds.length + 1 = np then frzS c env st (mf (.ref st.length :: ds) (st ++ [.slo c []])) else .bad := rfl
@[simp] theorem x_kMI : kMI c mf np ds env st = if ds.length + 1 = np then frzI c env st (mf (.ref st.length :: ds) (st ++ [.ins c []])) else .bad := rfl
@[simp] theorem rf_int {i : Int} : rfB n (.int i) = true := by simp only [rfB]
@[simp] theorem rf_str {s : Str} : rfB n (.str s) = true := by simp only [rfB]
@[simp] theorem rf_bl {s : Bool} : rfB n (.bl s) = true := by simp only [rfB]
@[simp] theorem rf_non : rfB n .non = true := by simp only [rfB]
@[simp] theorem rf_tup : rfB n (.tup xs) = rfBs n xs := by simp only [rfB]
@[simp] theorem rf_lst : rfB n (.lst xs) = rfBs n xs := by simp only [rfB]
@[simp] theorem rf_obj : rfB n (.obj c xs) = rfBs n xs := by simp only [rfB]
@[simp] theorem rf_ino {ns : List Str} : rfB n (.ino c ns xs) = rfBs n xs := by simp only [rfB]
@[simp] theorem rfs_nil : rfBs n [] = true := by simp only [rfBs]
@[simp] theorem rfs_cons : rfBs n (x :: xs) = (rfB n x && rfBs n xs) := by simp only [rfBs]
theorem rfs_all : ∀ {xs : List D}, (∀ x ∈ xs, rfB n x = true) → rfBs n xs = true
  | [], _ => rfs_nil
  | x :: xs, h => by rw [rfs_cons, h x List.mem_cons_self, rfs_all fun y hy => h y (List.mem_cons_of_mem _ hy)]; rfl
/-! built-ins -/
def kB1 (g : D → Option D) : D → M D := fun d env st => ret (g (vw st d)) env st
@[simp] theorem x_eB1 {g : D → Option D} : eB1 g fa env st = (fa env st).bind (kB1 g) := rfl
@[simp] theorem x_kB1 {g : D → Option D} : kB1 g d env st = ret (g (vw st d)) env st := rfl
def kB22 (g : D → D → Option D) (x : D) : D → M D := fun y env st => ret (g x y) env st
def kB21 (g : D → D → Option D) (fb : M D) : D → M D := fun x env st => (fb env st).bind (kB22 g x)
@[simp] theorem x_eB2 {g : D → D → Option D} : eB2 g fa fb env st = (fa env st).bind (kB21 g fb) := rfl
@[simp] theorem x_kB21 {g : D → D → Option D} : kB21 g fb x env st = (fb env st).bind (kB22 g x) := rfl
@[simp] theorem x_kB22 {g : D → D → Option D} : kB22 g x y env st = ret (g x y) env st := rfl
@[simp] theorem x_max2 {i j : Int} : max2D (.int i) (.int j) = some (.int (if j > i then j else i)) := rfl
@[simp] theorem x_min2 {i j : Int} : min2D (.int i) (.int j) = some (.int (if j < i then j else i)) := rfl
def kSA3 (d : D) (l : Option Int) : Option Int → M D := fun h env st => ret (slA (vw st d) l h) env st
def kSA2 (fh : M (Option Int)) (d : D) : Option Int → M D := fun l env st => (fh env st).bind (kSA3 d l)
def kSA1 (fl fh : M (Option Int)) : D → M D := fun d env st => (fl env st).bind (kSA2 fh d)
@[simp] theorem x_eSlA {fl fh : M (Option Int)} : eSlA fa fl fh env st = (fa env st).bind (kSA1 fl fh) := rfl
@[simp] theorem x_kSA1 {fl fh : M (Option Int)} : kSA1 fl fh d env st = (fl env st).bind (kSA2 fh d) := rfl
@[simp] theorem x_kSA2 {fh : M (Option Int)} {l : Option Int} : kSA2 fh d l env st = (fh env st).bind (kSA3 d l) := rfl
@[simp] theorem x_kSA3 {l h : Option Int} : kSA3 d l h env st = ret (slA (vw st d) l h) env st := rfl
@[simp] theorem x_slA1 {l h : Option Int} : slA (.tup xs) l h = some (.tup (cutD xs l h)) := rfl
@[simp] theorem x_slA2 {l h : Option Int} : slA (.lst xs) l h = some (.lst (cutD xs l h)) := rfl
/-! cells -/
def kIxA (y : D) (n : Nat) : Option Cell → M D := fun o env st => match o with
  | some (.dct kvs) => (match dKey y with
      | some ky => ret (lkK ky kvs) env st
      | none => .bad)
  | _ => ixC (.ref n) y env st
@[simp] theorem x_ixA_ref : ixA (.ref n) y env st = kIxA y n st[n]? env st := rfl
@[simp] theorem x_kIxA1 {i : Int} : kIxA (.int i) n (some (.dct kvs)) env st = ret (lkK (.inl i) kvs) env st := rfl
@[simp] theorem x_kIxA2 {s : Str} : kIxA (.str s) n (some (.dct kvs)) env st = ret (lkK (.inr s) kvs) env st := rfl
@[simp] theorem x_kIxA3 : kIxA y n (some (.lst ds)) env st = ixC (.ref n) y env st := rfl
@[simp] theorem x_ixA_lst {i : Int} : ixA (.lst xs) (.int i) env st = ret (atI xs i) env st := rfl
@[simp] theorem x_ixA_tup {i : Int} : ixA (.tup xs) (.int i) env st = ret (atI xs i) env st := rfl
@[simp] theorem x_ixA_scr {i : Int} {ns : List Int} : ixA (.scr ns) (.int i) env st = ret ((atI ns i).map .int) env st := rfl
@[simp] theorem x_ixA_str {i : Int} {s : Str} : ixA (.str s) (.int i) env st = ret (ixD (.str s) (.int i)) env st := rfl
def kIA4 (n : Nat) (d k : D) : Option Cell → M Fl := fun o env st => match o with
    | some (.lst ds) => (match k with
      | .int k => (match ixN ds.length k with
        | some j => .ok .nx env (st.set n (.lst (ds.set j d)))
        | none => .bad)
      | _ => .bad)
    | some (.dct kvs) => (match dKey k with
      | some ky => if kvs.length < 16777216 then .ok .nx env (st.set n (.dct (ptK kvs ky d))) else .bad
      | none => .bad)
    | _ => .bad
def kIA3 (d r : D) : D → M Fl := fun k env st => match r with
  | .ref n => kIA4 n d k st[n]? env st
  | _ => .bad
def kIA2 (fi : M D) (d : D) : D → M Fl := fun r env st => (fi env st).bind (kIA3 d r)
def kIA1 (fo fi : M D) : D → M Fl := fun d env st => (fo env st).bind (kIA2 fi d)
@[simp] theorem x_sItemA : sItemA fo fi fe env st = (fe env st).bind (kIA1 fo fi) := rfl
@[simp] theorem x_kIA1 : kIA1 fo fi d env st = (fo env st).bind (kIA2 fi d) := rfl
@[simp] theorem x_kIA2 : kIA2 fi d x env st = (fi env st).bind (kIA3 d x) := rfl
@[simp] theorem x_kIA3 : kIA3 d (.ref n) y env st = kIA4 n d y st[n]? env st := rfl
def kIA5 (n : Nat) (ds : List D) (d : D) (o : Option Nat) : M Fl := fun env st => match o with
  | some j => .ok .nx env (st.set n (.lst (ds.set j d)))
  | none => .bad
@[simp] theorem x_kIA4 {k : Int} : kIA4 n d (.int k) (some (.lst ds)) env st = kIA5 n ds d (ixN ds.length k) env st := rfl
@[simp] theorem x_kIA4b {k : Int} : kIA4 n d (.int k) (some (.dct kvs)) env st = if kvs.length < 16777216 then .ok .nx env (st.set n (.dct (ptK kvs (.inl k) d))) else .bad := rfl
@[simp] theorem x_kIA4c {k : Str} : kIA4 n d (.str k) (some (.dct kvs)) env st = if kvs.length < 16777216 then .ok .nx env (st.set n (.dct (ptK kvs (.inr k) d))) else .bad := rfl
@[simp] theorem x_kIA5 {j : Nat} : kIA5 n ds d (some j) env st = .ok .nx env (st.set n (.lst (ds.set j d))) := rfl
def kCL : List D → M D := fun ds env st => if ds.length ≤ 16777216 then .ok (.ref st.length) env (st ++ [.lst ds]) else .bad
@[simp] theorem x_eCellL : eCellL fs env st = (fs env st).bind kCL := rfl
@[simp] theorem x_kCL : kCL ds env st = if ds.length ≤ 16777216 then .ok (.ref st.length) env (st ++ [.lst ds]) else .bad := rfl
@[simp] theorem x_eCellD : eCellD env st = .ok (.ref st.length) env (st ++ [.dct []]) := rfl
def kAC4 (g : List D → D → Option (List D)) (n : Nat) (d : D) (ds : List D) : M Fl := fun env st => match g ds d with
        | some es => .ok .nx env (st.set n (.lst es))
        | none => .bad
def kAC3 (g : List D → D → Option (List D)) (n : Nat) (d : D) (o : Option Cell) : M Fl := fun env st => match o with
  | some (.lst ds) => kAC4 g n d ds env st
  | _ => .bad
def kAC2 (g : List D → D → Option (List D)) (n : Nat) : D → M Fl := fun d env st => kAC3 g n d st[n]? env st
def kAC1b (g : List D → D → Option (List D)) (fa : M D) (n : Nat) (o : Option Cell) : M Fl := fun env st => match o with
  | some (.lst _) => (fa env st).bind (kAC2 g n)
  | _ => .bad
def kAC1 (g : List D → D → Option (List D)) (fa : M D) : D → M Fl := fun r env st => match r with
  | .ref n => kAC1b g fa n st[n]? env st
  | _ => .bad
@[simp] theorem x_sAppC {g : List D → D → Option (List D)} : sAppC g fo fa env st = (fo env st).bind (kAC1 g fa) := rfl
@[simp] theorem x_kAC1 {g : List D → D → Option (List D)} : kAC1 g fa (.ref n) env st = kAC1b g fa n st[n]? env st := rfl
@[simp] theorem x_kAC1b {g : List D → D → Option (List D)} : kAC1b g fa n (some (.lst ds)) env st = (fa env st).bind (kAC2 g n) := rfl
@[simp] theorem x_kAC2 {g : List D → D → Option (List D)} : kAC2 g n d env st = kAC3 g n d st[n]? env st := rfl
@[simp] theorem x_kAC3 {g : List D → D → Option (List D)} : kAC3 g n d (some (.lst ds)) env st = kAC4 g n d ds env st := rfl
theorem x_kAC4 (h : ds.length < 16777216) : kAC4 appD n d ds env st = .ok .nx env (st.set n (.lst (ds ++ [d]))) := by
  unfold kAC4 appD
  rw [if_pos h]
def kG3 (n : Nat) (k d : D) (o : Option Cell) : M D := fun env st => match o, dKey k with
      | some (.dct kvs), some ky => .ok ((lkK ky kvs).getD d) env st
      | _, _ => .bad
def kG2b (n : Nat) (k : D) : D → M D := fun d env st => kG3 n k d st[n]? env st
def kG2 (fd : M D) (n : Nat) : D → M D := fun k env st => (fd env st).bind (kG2b n k)
def kG1b (fi fd : M D) (n : Nat) (o : Option Cell) : M D := fun env st => match o with
  | some (.dct _) => (fi env st).bind (kG2 fd n)
  | _ => .bad
def kG1 (fi fd : M D) : D → M D := fun r env st => match r with
  | .ref n => kG1b fi fd n st[n]? env st
  | _ => .bad
@[simp] theorem x_eGet2 : eGet2 fo fi fd env st = (fo env st).bind (kG1 fi fd) := rfl
@[simp] theorem x_kG1 : kG1 fi fd (.ref n) env st = kG1b fi fd n st[n]? env st := rfl
@[simp] theorem x_kG1b : kG1b fi fd n (some (.dct kvs)) env st = (fi env st).bind (kG2 fd n) := rfl
@[simp] theorem x_kG2 : kG2 fd n x env st = (fd env st).bind (kG2b n x) := rfl
@[simp] theorem x_kG2b : kG2b n x d env st = kG3 n x d st[n]? env st := rfl
@[simp] theorem x_kG3 {s : Str} : kG3 n (.str s) d (some (.dct kvs)) env st = .ok ((lkK (.inr s) kvs).getD d) env st := rfl
@[simp] theorem x_kG3b {i : Int} : kG3 n (.int i) d (some (.dct kvs)) env st = .ok ((lkK (.inl i) kvs).getD d) env st := rfl
def kD4 (n : Nat) (ky : Key) (d : D) (kvs : List (Key × D)) (o : Option D) : M D := fun env st => match o with
        | some x => .ok x env st
        | none => .ok d env (st.set n (.dct (ptK kvs ky d)))
def kD3 (n : Nat) (k d : D) (o : Option Cell) : M D := fun env st => match o, dKey k with
      | some (.dct kvs), some ky => if kvs.length < 16777216 then kD4 n ky d kvs (lkK ky kvs) env st else .bad
      | _, _ => .bad
def kD2b (n : Nat) (k : D) : D → M D := fun d env st => kD3 n k d st[n]? env st
def kD2 (fd : M D) (n : Nat) : D → M D := fun k env st => (fd env st).bind (kD2b n k)
def kD1b (fi fd : M D) (n : Nat) (o : Option Cell) : M D := fun env st => match o with
  | some (.dct _) => (fi env st).bind (kD2 fd n)
  | _ => .bad
def kD1 (fi fd : M D) : D → M D := fun r env st => match r with
  | .ref n => kD1b fi fd n st[n]? env st
  | _ => .bad
@[simp] theorem x_eSetd : eSetd fo fi fd env st = (fo env st).bind (kD1 fi fd) := rfl
@[simp] theorem x_kD1 : kD1 fi fd (.ref n) env st = kD1b fi fd n st[n]? env st := rfl
@[simp] theorem x_kD1b : kD1b fi fd n (some (.dct kvs)) env st = (fi env st).bind (kD2 fd n) := rfl
@[simp] theorem x_kD2 : kD2 fd n x env st = (fd env st).bind (kD2b n x) := rfl
@[simp] theorem x_kD2b : kD2b n x d env st = kD3 n x d st[n]? env st := rfl
@[simp] theorem x_kD3 {s : Str} : kD3 n (.str s) d (some (.dct kvs)) env st = if kvs.length < 16777216 then kD4 n (.inr s) d kvs (lkK (.inr s) kvs) env st else .bad := rfl
@[simp] theorem x_kD4s : kD4 n ky d kvs (some x) env st = .ok x env st := rfl
@[simp] theorem x_kD4n : kD4 n ky d kvs none env st = .ok d env (st.set n (.dct (ptK kvs ky d))) := rfl
def kSK2 (o : Option Cell) : M D := fun env st => match o with
  | some (.dct kvs) => if kvs.all (fun kv => isStr (keyD kv.1)) && decide (kvs.length < 64) then .ok (.lst (srtB kD (kvs.map fun kv => keyD kv.1))) env st else .bad
  | _ => .bad
def kSK : D → M D := fun d env st => match d with
  | .ref n => kSK2 st[n]? env st
  | _ => .bad
@[simp] theorem x_eSortK : eSortK fa env st = (fa env st).bind kSK := rfl
@[simp] theorem x_kSK : kSK (.ref n) env st = kSK2 st[n]? env st := rfl
@[simp] theorem x_kSK2 : kSK2 (some (.dct kvs)) env st = if kvs.all (fun kv => isStr (keyD kv.1)) && decide (kvs.length < 64) then .ok (.lst (srtB kD (kvs.map fun kv => keyD kv.1))) env st else .bad := rfl
end
end VE
namespace VE
open PySem PySem.Spec PyProof.Rows L2
section
variable {fa : M D} {env : EnvD} {st : Sto} {ds : List D}
def kEnA : D → M (List D) := fun d env st => match d with
  | .lst xs => .ok (enuD 0 xs) env st
  | .tup xs => .ok (enuD 0 xs) env st
  | _ => .bad
@[simp] theorem x_iEnA : iEnA fa env st = (fa env st).bind kEnA := rfl
@[simp] theorem x_kEnA1 : kEnA (.lst ds) env st = .ok (enuD 0 ds) env st := rfl
@[simp] theorem x_kEnA2 : kEnA (.tup ds) env st = .ok (enuD 0 ds) env st := rfl
end
/-! ### a list by comprehension, a loop: as functions of the items -/
section
variable {α β : Type} {t : D → EnvD → Option EnvD} {ws : List Nat} {tt : M Bool} {fe : M D} {g : α → D} {st : Sto}
theorem comp_go {p : α → Bool} {f : α → D} {E0 : EnvD} : ∀ (xs : List α) (acc : List D) (env : EnvD), wipeD ws env = E0 → (∀ a ∈ xs, ∃ e1, t (g a) E0 = some e1 ∧ ∃ e2, tt e1 st = .ok (p a) e2 st ∧ wipeD ws e2 = E0 ∧ (p a = true → ∃ e3, fe e2 st = .ok (f a) e3 st ∧ wipeD ws e3 = E0)) → acc.length + xs.length < 16777216 →
    compL t ws tt fe (xs.map g) acc env st = .ok (.lst (acc ++ (xs.filter p).map f)) E0 st
  | [], acc, env, h0, _, _ => by simp [compL, h0]
  | a :: xs, acc, env, h0, h, hl => by
    obtain ⟨e1, h1, e2, h2, h3, h4⟩ := h a List.mem_cons_self
    have h' := fun b hb => h b (List.mem_cons_of_mem a hb)
    simp only [List.length_cons] at hl
    rw [List.map_cons]
    unfold compL
    rw [h0, h1]
    dsimp only
    rw [h2]
    cases hp : p a with
    | false =>
      dsimp only
      rw [comp_go xs acc e2 h3 h' (by omega), List.filter_cons_of_neg (by rw [hp]; decide)]
    | true =>
      obtain ⟨e3, h5, h6⟩ := h4 hp
      dsimp only
      rw [h5]
      dsimp only
      rw [if_pos (by omega), comp_go xs (acc ++ [f a]) e3 h6 h' (by simp; omega), List.filter_cons_of_pos hp]
      simp
theorem comp_map (p : α → Bool) (f : α → D) {xs : List α} {env : EnvD} (hl : xs.length < 16777216) (h : ∀ a ∈ xs, ∃ e1, t (g a) (wipeD ws env) = some e1 ∧ ∃ e2, tt e1 st = .ok (p a) e2 st ∧ wipeD ws e2 = wipeD ws env ∧ (p a = true → ∃ e3, fe e2 st = .ok (f a) e3 st ∧ wipeD ws e3 = wipeD ws env)) :
    compL t ws tt fe (xs.map g) [] env st = .ok (.lst ((xs.filter p).map f)) (wipeD ws env) st := by
  rw [comp_go (p := p) (f := f) xs [] env rfl h (by simpa using hl)]; rfl
theorem comp_all (f : α → D) {xs : List α} {env : EnvD} (hl : xs.length < 16777216) (h : ∀ a ∈ xs, ∃ e1, t (g a) (wipeD ws env) = some e1 ∧ ∃ e3, fe e1 st = .ok (f a) e3 st ∧ wipeD ws e1 = wipeD ws env ∧ wipeD ws e3 = wipeD ws env) :
    compL t ws bYes fe (xs.map g) [] env st = .ok (.lst (xs.map f)) (wipeD ws env) st := by
  rw [comp_map (p := fun _ => true) (f := f) hl]
  · rw [List.filter_eq_self.mpr fun _ _ => rfl]
  · intro a ha
    obtain ⟨e1, h1, e3, h2, h3, h4⟩ := h a ha
    exact ⟨e1, h1, e1, rfl, h3, fun _ => ⟨e3, h2, h4⟩⟩
/-- a loop that folds a state -/
theorem for_fold {σ : Type} {body : M Fl} (E : σ → EnvD) (step : σ → α → σ) : ∀ (xs : List α) (s : σ), (∀ s, ∀ a ∈ xs, ∃ e1, t (g a) (E s) = some e1 ∧ ∃ e2, body e1 st = .ok .nx e2 st ∧ wipeD ws e2 = E (step s a)) →
    forL t ws body (xs.map g) (E s) st = .ok .nx (E (xs.foldl step s)) st
  | [], s, _ => rfl
  | a :: xs, s, h => by
    obtain ⟨e1, h1, e2, h2, h3⟩ := h s a List.mem_cons_self
    rw [List.map_cons]
    unfold forL
    rw [h1]
    dsimp only
    rw [h2, R.bind_ok]
    dsimp only
    rw [h3, for_fold E step xs (step s a) fun s b hb => h s b (List.mem_cons_of_mem a hb)]
    rfl
/-- a loop that looks for an item to return at -/
theorem for_find {body : M Fl} {E0 : EnvD} (p : α → Option D) : ∀ (xs : List α), (∀ a ∈ xs, ∃ e1, t (g a) E0 = some e1 ∧ ∃ e2, body e1 st = (match p a with | none => .ok .nx e2 st | some d => .ok (.rt d) e2 st) ∧ (p a = none → wipeD ws e2 = E0)) →
    ∃ e', forL t ws body (xs.map g) E0 st = (match xs.findSome? p with | none => .ok .nx E0 st | some d => .ok (.rt d) e' st)
  | [], _ => ⟨E0, rfl⟩
  | a :: xs, h => by
    obtain ⟨e1, h1, e2, h2, h3⟩ := h a List.mem_cons_self
    obtain ⟨e', ih⟩ := for_find p xs fun b hb => h b (List.mem_cons_of_mem a hb)
    rw [List.map_cons, List.findSome?_cons]
    unfold forL
    rw [h1]
    dsimp only
    rw [h2]
    cases hp : p a with
    | none =>
      dsimp only
      rw [R.bind_ok]
      dsimp only
      rw [h3 hp]
      exact ⟨e', ih⟩
    | some d => exact ⟨e2, rfl⟩
theorem enu_map : ∀ (i : Nat) (xs : List α), enuD i (xs.map g) = (xs.zipIdx i).map fun p => .tup [.int (p.2 : Nat), g p.1]
  | _, [] => rfl
  | i, x :: xs => by simp [enuD, enu_map (i + 1) xs]
theorem zip_map {β : Type} {h : β → D} : ∀ (xs : List α) (ys : List β), zipD (xs.map g) (ys.map h) = (xs.zip ys).map fun p => .tup [g p.1, h p.2]
  | [], _ => by simp [zipD]
  | _ :: _, [] => by simp [zipD]
  | x :: xs, y :: ys => by
    have := zip_map (h := h) xs ys
    simp only [zipD, List.map_cons, List.zipWith_cons_cons, List.zip_cons_cons] at this ⊢
    rw [this]
end
end VE

namespace VE
open PySem PySem.Spec PyProof.Rows L2
section
variable {env : EnvD} {st : Sto} {xs ys : List D} {fs : M (List D)}
def kLZ : List D → M D := fun ds env st => match ds with
  | [.lst xs, .lst ys] => .ok (.lst (zipD xs ys)) env st
  | _ => .bad
def kMN2 (d : D) : D → M D := fun d0 env st => ret (minN d0 (vw st d)) env st
def kMN1 (fb : M D) : D → M D := fun d env st => (fb env st).bind (kMN2 d)
@[simp] theorem x_eMinN {fa fb : M D} : eMinN fa fb env st = (fa env st).bind (kMN1 fb) := rfl
@[simp] theorem x_kMN1 {d : D} {fb : M D} : kMN1 fb d env st = (fb env st).bind (kMN2 d) := rfl
@[simp] theorem x_kMN2 {d d0 : D} : kMN2 d d0 env st = ret (minN d0 (vw st d)) env st := rfl
@[simp] theorem x_dvm {i j : Int} : dvmD (.int i) (.int j) = if divOk j then some (.tup [.int (i / j), .int (i % j)]) else none := rfl
@[simp] theorem x_minN0 {d0 : D} : minN d0 (.lst []) = some d0 := rfl
def kLR (d : D) : M D := fun env st => match d with
  | .int j => if decide (0 ≤ j) && decide (j ≤ 16777216) then .ok (.lst (rngD 0 j.toNat)) env st else .bad
  | _ => .bad
@[simp] theorem x_eListR {fa : M D} : eListR fa env st = (fa env st).bind kLR := rfl
@[simp] theorem x_kLR {j : Int} : kLR (.int j) env st = if decide (0 ≤ j) && decide (j ≤ 16777216) then .ok (.lst (rngD 0 j.toNat)) env st else .bad := rfl
def kPar3 (i j l : Nat) : List D → M Fl := fun ds env st => match ds with
  | [d, d', d''] => .ok .nx (((env.set i (.va d)).set j (.va d')).set l (.va d'')) st
  | _ => .bad
@[simp] theorem x_sPar3 {i j l : Nat} {fs : M (List D)} : sPar3 i j l fs env st = (fs env st).bind (kPar3 i j l) := rfl
@[simp] theorem x_kPar3 {i j l : Nat} {d d' d'' : D} : kPar3 i j l [d, d', d''] env st = .ok .nx (((env.set i (.va d)).set j (.va d')).set l (.va d'')) st := rfl
def kRW2 (d : D) : D → M (List D) := fun d' env st => match d, d' with
  | .int i, .int j => .ok (rngD i (j - i).toNat) env st
  | _, _ => .bad
def kRW1 (fb : M D) : D → M (List D) := fun d env st => (fb env st).bind (kRW2 d)
@[simp] theorem x_iR2W {fa fb : M D} : iR2W fa fb env st = (fa env st).bind (kRW1 fb) := rfl
@[simp] theorem x_kRW1 {d : D} {fb : M D} : kRW1 fb d env st = (fb env st).bind (kRW2 d) := rfl
@[simp] theorem x_kRW2 {i j : Int} : kRW2 (.int i) (.int j) env st = .ok (rngD i (j - i).toNat) env st := rfl
@[simp] theorem x_eLZ : eLZ fs env st = (fs env st).bind kLZ := rfl
@[simp] theorem x_kLZ : kLZ [.lst xs, .lst ys] env st = .ok (.lst (zipD xs ys)) env st := rfl
end
end VE

namespace VE
open PySem PySem.Spec PyProof.Rows L2
variable [VEnv]
/-- a constant that is a tuple of ints, of texts -/
theorem ConstV.tupI {K : PySem.W.Frag} {mg : Str → Option Value} {n : Str} {a : Addr} {dd : Option Addr} {its : Array Value} {k : Nat} {sl : Array (Option Value)} {ns : List Int} (h : mg n = some (.ref a)) (hl : K.lookup a = some ⟨.type "tuple", dd, .seq its k, sl⟩) (hv : IntsAre its.toList ns) (hz : its.size ≤ sizeLine) : ConstV K mg n (.tup (ns.map .int)) :=
  ⟨_, .ref a, h, rfl, fun F c H => .tup (xs := ns.map V.int) (.inr ⟨_, its, k, hl, rfl, rfl, hz, vals_of_ints hv⟩) (by
    clear hv
    induction ns with
    | nil => exact .nil
    | cons x ns ih => exact .cons (.int x) ih)⟩
theorem ConstV.tupS {K : PySem.W.Frag} {mg : Str → Option Value} {n : Str} {a : Addr} {dd : Option Addr} {its : Array Value} {k : Nat} {sl : Array (Option Value)} {ns : List Str} (h : mg n = some (.ref a)) (hl : K.lookup a = some ⟨.type "tuple", dd, .seq its k, sl⟩) (hv : Vals (ns.map V.str) its.toList) (hz : its.size ≤ sizeLine) : ConstV K mg n (.tup (ns.map .str)) :=
  ⟨_, .ref a, h, rfl, fun F c H => .tup (xs := ns.map V.str) (.inr ⟨_, its, k, hl, rfl, rfl, hz, hv⟩) (by
    clear hv
    induction ns with
    | nil => exact .nil
    | cons x ns ih => exact .cons (.str x) ih)⟩
/-- the law's promise: a list of ints is handed in, True comes out -/
def spLaw (K : PySem.W.Frag) : Sp := fun vs H Q _ => ∃ (a : Addr) (ns : List Int), vs = [.ref a] ∧ SqL K H a (ns.map V.int) ∧ ns.length ≤ 63 ∧ (∀ p ∈ VEnv.T, H p.1 = some (.tbl #[])) ∧ ∀ H', Q (.bl true) H'
omit [VEnv] in
theorem cx_none {P : Program} {w : World} {H : Hp} {s : Shared} {e : Value} {s' : Shared} (h : L2.CX P w [] H s (fun _ _ _ => False) e s') : False := by
  obtain ⟨_, _, _, _, _, _, _, _, _, _, _, _, z⟩ := h
  exact z
/-- the law's mirror gives True -/
def LawTrue (m : FM) : Prop := ∀ ns : List Int, ns.length ≤ 63 → ∃ st, m [.scr ns] [] = .ok (.bl true) st
theorem law_end {P : Program} {w : World} {K : PySem.W.Frag} {mg : Str → Option Value} {fa : Addr} {k : Nat} {x : Str} {m : FM} (hm : LawTrue m)
    (h : ∃ fd : FuncData, (∀ (s : Shared) (v : Value), BindsTo s fd ⟨[v], []⟩ [(x, v)]) ∧ ∀ base : Heap, K.In base → base.Ns mainGlobals mg → FnOk P w K mg base (L2.CX P w) k fa fd [x] (spV K mg false 1 m)) :
    ∃ fd : FuncData, (∀ (s : Shared) (v : Value), BindsTo s fd ⟨[v], []⟩ [(x, v)]) ∧ ∀ base : Heap, K.In base → base.Ns mainGlobals mg → FnOk P w K mg base (L2.CX P w) k fa fd [x] (spLaw K) := by
  obtain ⟨fd, h1, h2⟩ := h
  refine ⟨fd, h1, fun base KB GB => (h2 base KB GB).imp fun vs H Q E q => ?_⟩
  obtain ⟨a, ns, rfl, hS, hl, hT, k⟩ := q
  obtain ⟨st, e⟩ := hm ns hl
  refine ⟨fun b => (∃ o, H b = some o) ∧ ∀ ps, H b ≠ some (.tbl ps), [], [.scr ns], [], ⟨fun _ h => h.1, rfl, List.nodup_nil, fun n _ _ h => by simp at h, (fun _ h => nomatch h), fun p hp => ⟨fun h => h.2 _ (hT p hp), fun h => (by simp at h), #[], hT p hp, True.intro, fun pos cv h => ?_⟩⟩, .cons (.scr ?_) .nil, rfl, ?_⟩
  · have z : codeAmong pos [] = some cv := h
    simp [codeAmong] at z
  · rcases hS with h | h
    · refine .inl ⟨?_, h⟩
      rcases h with h | ⟨o, h⟩
      · exact ⟨⟨_, h⟩, fun ps z => by rw [h] at z; cases z⟩
      · exact ⟨⟨_, h⟩, fun ps z => by rw [h] at z; cases z⟩
    · exact .inr h
  · rw [e]
    intro v F' c' H' _ _ _ rv
    cases (show Rp K mg F' c' H' v (.bl true) from rv)
    exact k H'
end VE

namespace VE
open PySem PySem.Spec PyProof.Rows L2
/-- the table of a code object -/
def tabP (o : Obj) : Option Addr := match o.data with
  | .fields vs => (match (vs[11]? : Option Value) with
    | some (.ref P) => some P
    | _ => none)
  | _ => none
theorem uniq_of {T : List (Addr × Str)} {P : Addr} {q : Str} (h : (T.map (·.1)).Nodup) (hm : (P, q) ∈ T) : ∀ p ∈ T, p.1 = P → p.2 = q := by
  induction T with
  | nil => cases hm
  | cons x T ih =>
    rw [List.map_cons, List.nodup_cons] at h
    intro p hp e
    rcases List.mem_cons.mp hp with rfl | hp2
    · rcases List.mem_cons.mp hm with z | z
      · rw [← z]
      · exact absurd (List.mem_map.mpr ⟨_, z, e.symm⟩) h.1
    · rcases List.mem_cons.mp hm with z | z
      · subst z
        exact absurd (List.mem_map.mpr ⟨p, hp2, e⟩ : P ∈ T.map (·.1)) h.1
      · exact ih h.2 z p hp2 e
theorem law_endT [VEnv] {l : PySem.W.OpenLaw} {w : World} {K : PySem.W.Frag} {mg : Str → Option Value} {fa : Addr} {k : Nat} {x : Str} {m : FM} {h : Heap} (cs : List (Addr × Addr)) (hm : LawTrue m) (hcs : ∀ p ∈ VEnv.T, ∃ q ∈ cs, q.2 = p.1)
    (hT : ∀ p ∈ cs, h.get? p.2 = some { cls := .none, data := .fields #[] }) (nT : ∀ p ∈ cs, K.lookup p.2 = none) (C : ∀ p ∈ cs, PySem.W.CodeHd h p.1 p.2)
    (hF : ∃ fd : FuncData, (∀ (s : Shared) (v : Value), BindsTo s fd ⟨[v], []⟩ [(x, v)]) ∧ ∀ base : Heap, K.In base → base.Ns mainGlobals mg → (∀ p ∈ cs, LamX.TabB base mg p.1 p.2) → FnOk l.prog w K mg base (L2.CX l.prog w) k fa fd [x] (spV K mg false 1 m)) :
    LamX.LawAtS l w K (L2.CX l.prog w) k 63 x mg fa h := by
  obtain ⟨fd, h1, h2⟩ := hF
  refine ⟨fd, cs, spLaw K, hT, nT, C, h1, fun H a ns hl _ hc hS => ⟨a, ns, rfl, hS, hl, fun p hp => ?_, fun _ => rfl⟩, fun base KB GB TB => (h2 base KB GB TB).imp fun vs H Q E q => ?_⟩
  · obtain ⟨q, hq, e⟩ := hcs p hp
    rw [← e]; exact hc q hq
  · obtain ⟨a, ns, rfl, hS, hl, hT, k⟩ := q
    obtain ⟨st, e⟩ := hm ns hl
    refine ⟨fun b => (∃ o, H b = some o) ∧ ∀ ps, H b ≠ some (.tbl ps), [], [.scr ns], [], ⟨fun _ h => h.1, rfl, List.nodup_nil, fun n _ _ h => by simp at h, (fun _ h => nomatch h), fun p hp => ⟨fun h => h.2 _ (hT p hp), fun h => (by simp at h), #[], hT p hp, True.intro, fun pos cv h => ?_⟩⟩, .cons (.scr ?_) .nil, rfl, ?_⟩
    · have z : codeAmong pos [] = some cv := h
      simp [codeAmong] at z
    · rcases hS with h | h
      · refine .inl ⟨?_, h⟩
        rcases h with h | ⟨o, h⟩
        · exact ⟨⟨_, h⟩, fun ps z => by rw [h] at z; cases z⟩
        · exact ⟨⟨_, h⟩, fun ps z => by rw [h] at z; cases z⟩
      · exact .inr h
    · rw [e]
      intro v F' c' H' _ _ _ rv
      cases (show Rp K mg F' c' H' v (.bl true) from rv)
      exact k H'
end VE

/-! rules and books as plain structures -/
namespace VP
open PySem PySem.Spec PyProof.Rows L2 VE
open SX (S S_len S_cat S_inj)
structure Rul where
  piece : Str
  low : Int
  high : Int
  modulus : Int
  rests : List Int
  kinds : List Str
structure Bok where
  kinds : List Str
  rules : List Rul
def Rul.d (r : Rul) : D := .obj "Rule" [.tup [.str r.piece, .int r.low, .int r.high, .int r.modulus, .tup (r.rests.map .int), .tup (r.kinds.map .str)]]
def Bok.d (b : Bok) : D := .obj "Book" [.tup [.tup (b.kinds.map .str), .tup (b.rules.map Rul.d)]]
def LASTn : Int := 999999999999999999999999999999
/-- a word: one to eight letters a to z -/
def WOk (w : Str) : Prop := ∃ L : List Nat, w = S L ∧ 1 ≤ L.length ∧ L.length ≤ 8 ∧ ∀ c ∈ L, 97 ≤ c ∧ c < 123
def ascI : List Int → Bool
  | [] => true
  | x :: xs => (xs.head?.all fun y => decide (x < y)) && ascI xs
def ascS : List Str → Bool
  | [] => true
  | x :: xs => (xs.head?.all fun y => ltS x y) && ascS xs
structure KOk (ks : List Str) : Prop where
  ne : ks ≠ []
  w : ∀ k ∈ ks, WOk k
  asc : ascS ks = true
  len : ks.length < 1000
structure RulOk (r : Rul) : Prop where
  piece : WOk r.piece
  low0 : 0 ≤ r.low
  low1 : r.low ≤ LASTn
  high0 : r.low ≤ r.high
  high1 : r.high ≤ LASTn
  mod : r.modulus ∈ [1, 2, 3, 4, 6, 12]
  rne : r.rests ≠ []
  rin : ∀ x ∈ r.rests, 0 ≤ x ∧ x < r.modulus
  rasc : ascI r.rests = true
  rlen : r.rests.length < 1000
  kinds : KOk r.kinds
structure BokOk (b : Bok) : Prop where
  kinds : KOk b.kinds
  klen : b.kinds.length ≤ 4
  rules : ∀ r ∈ b.rules, RulOk r
  rlen : b.rules.length ≤ 8
  sub : ∀ r ∈ b.rules, ∀ k ∈ r.kinds, k ∈ b.kinds
def fitsB (n : Int) (k : Str) (r : Rul) : Bool := decide (r.low ≤ n) && decide (n ≤ r.high) && decide (n % r.modulus ∈ r.rests) && r.kinds.any fun z => decide (z = k)
/-- the piece in which a row lies -/
def Bok.place (b : Bok) (n : Int) (k : Str) : Option Str := (b.rules.find? (fitsB n k)).map (·.piece)
def optS : Option Str → D
  | none => .non
  | some x => .str x
theorem Rul.d_rf {n : Nat} {r : Rul} : rfB n r.d = true := by
  have h1 : rfBs n (r.rests.map D.int) = true := rfs_all fun x hx => by obtain ⟨y, _, rfl⟩ := List.mem_map.mp hx; exact rf_int
  have h2 : rfBs n (r.kinds.map D.str) = true := rfs_all fun x hx => by obtain ⟨y, _, rfl⟩ := List.mem_map.mp hx; exact rf_str
  simp [Rul.d, h1, h2]
theorem S_ok {L : List Nat} (h : ∀ c ∈ L, 97 ≤ c ∧ c < 123) : PyData.strOk (S L) = true := ok_S fun c hc => by have := h c hc; omega
theorem WOk.ok {w : Str} (h : WOk w) : PyData.strOk w = true := by
  obtain ⟨L, rfl, _, _, h⟩ := h
  exact S_ok h
theorem pl_strs {n : Nat} {ks : List Str} (h : ∀ k ∈ ks, PyData.strOk k = true) : plains n (ks.map .str) = true := by
  induction ks with
  | nil => simp
  | cons k ks ih => rw [List.map_cons, pls_cons, pl_str, h k List.mem_cons_self, ih fun k hk => h k (List.mem_cons_of_mem _ hk)]; rfl
theorem any_strs {x : Str} : ∀ {ks : List Str}, (ks.map D.str).any (fun z => eqD z (.str x)) = ks.any fun z => decide (z = x)
  | [] => rfl
  | k :: ks => by simp [any_strs]
theorem any_ints {x : Int} : ∀ {ks : List Int}, (ks.map D.int).any (fun z => eqD z (.int x)) = decide (x ∈ ks)
  | [] => by simp
  | k :: ks => by
    rw [List.map_cons, List.any_cons, any_ints, VE.eq_int]
    by_cases h : k = x
    · subst h; simp
    · have : ¬ x = k := fun z => h z.symm
      simp [h, this]
@[simp] theorem in_ints {neg : Bool} {x : Int} {ks : List Int} : inV neg (.int x) (.tup (ks.map .int)) = some (.bl (ng neg (decide (x ∈ ks)))) := by
  rw [inV_tup pl_int (by simp), any_ints]
@[simp] theorem in_intsL {neg : Bool} {x : Int} {ks : List Int} : inV neg (.int x) (.lst (ks.map .int)) = some (.bl (ng neg (decide (x ∈ ks)))) := by
  rw [inV_lst pl_int (by simp), any_ints]
theorem in_strs {neg : Bool} {x : Str} {ks : List Str} (hx : PyData.strOk x = true) (hk : ∀ k ∈ ks, PyData.strOk k = true) : inV neg (.str x) (.tup (ks.map .str)) = some (.bl (ng neg (ks.any fun z => decide (z = x)))) := by
  rw [inV_tup (by simpa using hx) (by simpa using pl_strs hk), any_strs]
theorem in_strsL {neg : Bool} {x : Str} {ks : List Str} (hx : PyData.strOk x = true) (hk : ∀ k ∈ ks, PyData.strOk k = true) : inV neg (.str x) (.lst (ks.map .str)) = some (.bl (ng neg (ks.any fun z => decide (z = x)))) := by
  rw [inV_lst (by simpa using hx) (by simpa using pl_strs hk), any_strs]
/-! a def's answer -/
def mkRF (fr : Bool) : R Fl → RF := toRF fr
@[simp] theorem toRF_nx {e : EnvD} {st : Sto} : toRF false (.ok .nx e st) = .ok .non st := rfl
@[simp] theorem toRF_rt {d : D} {e : EnvD} {st : Sto} : toRF false (.ok (.rt d) e st) = .ok d st := rfl
@[simp] theorem toRF_rf {fr : Bool} {d : D} {e : EnvD} {st : Sto} : toRF fr (.ok (.rf d) e st) = .ok d st := rfl
@[simp] theorem toRF_ex {fr : Bool} {x : Exn} {e : EnvD} {st : Sto} : toRF fr (.ex x e st) = .ex x st := rfl
@[simp] theorem toRF_bad {fr : Bool} : toRF fr .bad = .bad := rfl
theorem toF_def {fr : Bool} {n : Nat} {g : M Fl} {ds : List D} {st : Sto} : toF fr n g ds st = toRF fr (g (env0 n ds) st) := rfl
/-- a row's kind, a book's kinds -/
theorem KOk.ok {ks : List Str} (h : KOk ks) : ∀ k ∈ ks, PyData.strOk k = true := fun k hk => (h.w k hk).ok
theorem KOk.pl {ks : List Str} (h : KOk ks) {m : Nat} : plains m (ks.map .str) = true := pl_strs h.ok
theorem RulOk.mpos {r : Rul} (h : RulOk r) : 0 < r.modulus := by
  have := h.mod; simp at this; omega
theorem pls_map {α : Type} {f : α → D} {n : Nat} : ∀ {xs : List α}, (∀ x ∈ xs, plain n (f x) = true) → plains n (xs.map f) = true
  | [], _ => by simp
  | x :: xs, h => by rw [List.map_cons, pls_cons, h x List.mem_cons_self, pls_map fun y hy => h y (List.mem_cons_of_mem _ hy)]; rfl
@[simp] theorem pls_mapI {α : Type} {f : α → Int} {n : Nat} {xs : List α} : plains n (xs.map fun x => .int (f x)) = true := pls_map fun _ _ => pl_int
theorem eqs_strs : ∀ {xs ys : List Str}, eqDs (xs.map .str) (ys.map .str) = decide (xs = ys)
  | [], [] => by simp
  | [], y :: ys => by simp
  | x :: xs, [] => by simp
  | x :: xs, y :: ys => by simp [eqs_strs]
theorem atI_nat {α : Type} {xs : List α} {i : Nat} {x : α} (h : xs[i]? = some x) : atI xs (i : Int) = some x := by
  have hl := (List.getElem?_eq_some_iff.mp h).1
  rw [atI_pos (by omega) (by omega)]
  simpa using h
@[simp] theorem all_tt {α : Type} {xs : List α} : (xs.all fun _ => true) = true := by simp
section
variable {α : Type} {t : D → EnvD → Option EnvD} {ws : List Nat} {tt : M Bool} {fe : M D} {g : α → D}
/-- a loop, by an invariant; it goes through -/
theorem for_inv {body : M Fl} (Inv : Nat → EnvD → Sto → Prop) : ∀ (ds : List D) (j : Nat) (env : EnvD) (st : Sto), Inv j env st →
    (∀ i d env st, ds[i]? = some d → Inv (j + i) env st → ∃ e1, t d env = some e1 ∧ ∃ e2 st2, body e1 st = .ok .nx e2 st2 ∧ Inv (j + i + 1) (wipeD ws e2) st2) →
    ∃ e' st', forL t ws body ds env st = .ok .nx e' st' ∧ Inv (j + ds.length) e' st'
  | [], j, env, st, h0, _ => ⟨env, st, rfl, h0⟩
  | d :: ds, j, env, st, h0, hs => by
    obtain ⟨e1, h1, e2, st2, h2, h3⟩ := hs 0 d env st rfl h0
    obtain ⟨e', st', h4, h5⟩ := for_inv Inv ds (j + 1) (wipeD ws e2) st2 h3 fun i d' env st hd hI => by
      have := hs (i + 1) d' env st (by simpa using hd) (by rw [show j + (i + 1) = j + 1 + i from by omega]; exact hI)
      rw [show j + (i + 1) = j + 1 + i from by omega] at this
      exact this
    refine ⟨e', st', ?_, by rw [show j + (d :: ds).length = j + 1 + ds.length from by simp only [List.length_cons]; omega]; exact h5⟩
    unfold forL
    rw [h1]
    dsimp only
    rw [h2]
    exact h4
/-- a comprehension of items that are drawn or not -/
theorem comp_draw {E0 : EnvD} (Ok : Sto → Prop) : ∀ (xs : List α) (acc : List D) (env : EnvD) (st : Sto), wipeD ws env = E0 → Ok st → acc.length + xs.length < 16777216 →
    (∀ a st, a ∈ xs → Ok st → ∃ e1, t (g a) E0 = some e1 ∧ ∃ b e2 st2, tt e1 st = .ok b e2 st2 ∧ Ok st2 ∧ wipeD ws e2 = E0 ∧ ∃ e3, fe e2 st2 = .ok (g a) e3 st2 ∧ wipeD ws e3 = E0) →
    ∃ (ys : List α) (st' : Sto), ys.Sublist xs ∧ Ok st' ∧ compL t ws tt fe (xs.map g) acc env st = .ok (.lst (acc ++ ys.map g)) E0 st'
  | [], acc, env, st, h0, hk, _, _ => ⟨[], st, .slnil, hk, by simp [compL, h0]⟩
  | a :: xs, acc, env, st, h0, hk, hl, h => by
    obtain ⟨e1, h1, b, e2, st2, h2, h3, h4, e3, h5, h6⟩ := h a st List.mem_cons_self hk
    have h' := fun b st hb => h b st (List.mem_cons_of_mem a hb)
    simp only [List.length_cons] at hl
    rw [List.map_cons]
    unfold compL
    rw [h0, h1]
    dsimp only
    rw [h2]
    cases b with
    | false =>
      obtain ⟨ys, st', k1, k2, k3⟩ := comp_draw Ok xs acc e2 st2 h4 h3 (by omega) h'
      exact ⟨ys, st', k1.cons _, k2, k3⟩
    | true =>
      obtain ⟨ys, st', k1, k2, k3⟩ := comp_draw Ok xs (acc ++ [g a]) e3 st2 h6 h3 (by simp; omega) h'
      refine ⟨a :: ys, st', k1.cons_cons _, k2, ?_⟩
      dsimp only
      rw [h5]
      dsimp only
      rw [if_pos (by omega), k3]
      simp
end
theorem ascI_sub : ∀ {xs ys : List Int}, ys.Sublist xs → xs.Pairwise (· < ·) → ascI ys = true := by
  have key : ∀ {ys : List Int}, ys.Pairwise (· < ·) → ascI ys = true := by
    intro ys h
    induction h with
    | nil => rfl
    | cons h t ih =>
      rename_i x xs
      simp only [ascI, ih, Bool.and_true]
      cases xs with
      | nil => rfl
      | cons y ys => simpa using h y List.mem_cons_self
  exact fun {_ _} s p => key (List.Pairwise.sublist s p)
theorem ascS_sub : ∀ {xs ys : List Str}, ys.Sublist xs → xs.Pairwise (fun x y => ltS x y = true) → ascS ys = true := by
  have key : ∀ {ys : List Str}, ys.Pairwise (fun x y => ltS x y = true) → ascS ys = true := by
    intro ys h
    induction h with
    | nil => rfl
    | cons h t ih =>
      rename_i x xs
      simp only [ascS, ih, Bool.and_true]
      cases xs with
      | nil => rfl
      | cons y ys => simpa using h y List.mem_cons_self
  exact fun {_ _} s p => key (List.Pairwise.sublist s p)
theorem rng_map {lo : Int} {n : Nat} : rngD lo n = ((List.range n).map fun i => lo + (i : Nat)).map .int := by
  unfold rngD; rw [List.map_map]; rfl
theorem rng_asc {lo : Int} {n : Nat} : ((List.range n).map fun i => lo + ((i : Nat) : Int)).Pairwise (· < ·) := by
  rw [List.pairwise_map]
  exact (List.pairwise_lt_range (n := n)).imp fun h => by omega
theorem sat_ex {r : RF} {P : D → Sto → Prop} (h : r.sat P nE) : ∃ d s, r = .ok d s ∧ P d s := by
  cases r with
  | ok d s => exact ⟨d, s, rfl, by simpa using h⟩
  | ex x s => exact (show False by simpa using h).elim
  | bad => simp at h
theorem sat_of_eq {r : RF} {d : D} {s : Sto} {P : D → Sto → Prop} {E : Exn → Sto → Prop} (h : r = .ok d s) (hp : P d s) : r.sat P E := by rw [h]; simpa using hp
@[simp] theorem at01 {p : Prop} [Decidable p] {a b : Int} : atI [D.int a, D.int b] (if p then 1 else 0) = some (.int (if p then b else a)) := by
  by_cases h : p
  · rw [if_pos h, if_pos h]; rfl
  · rw [if_neg h, if_neg h]; rfl
end VP

namespace VP
open PySem PySem.Spec PyProof.Rows L2 VE
noncomputable section
/-! the values of the constants, the defs as functions of data -/
def k_LAST : D := .int 999999999999999999999999999999
def k_LETTERS : D := .str ("abcdefghijklmnopqrstuvwxyz" : Str)
def k_MAX_KINDS : D := .int 4
def k_MAX_RULES : D := .int 8
def k_MAX_SIGHTS : D := .int 20
def k_MAX_WORD : D := .int 8
def k_MODULI : D := .tup [(.int 1), (.int 2), (.int 3), (.int 4), (.int 6), (.int 12)]
def b_is_number : M Fl :=
  sRet (eAnd (eUn (isiD "int") (eVar 0)) (eAnd (eNot (eUn (isiD "bool") (eVar 0))) (eChain (fun i j => decide (i ≤ j)) (fun i j => decide (i ≤ j)) (eVar 1) (eVar 0) (eVar 2))))
def m_is_number : FM := toF false 3 b_is_number
def b_is_word : M Fl :=
  sRet (eAnd (eUn (isiD "str") (eVar 0)) (eAnd (eChain (fun i j => decide (i ≤ j)) (fun i j => decide (i ≤ j)) (eC (.int 1)) (eB1 lenD (eVar 0)) (eC k_MAX_WORD)) (eBlt (b1 allD) (eCons (eComp (iQ (eVar 0)) (gN 1) [1] (bYes) (eBin (inA false) (eVar 1) (eC k_LETTERS))) eNil))))
def m_is_word : FM := toF false 2 b_is_word
def b_ascend : M Fl :=
  sRet (eBlt (b1 allD) (eCons (eComp (iZip (eCons (eVar 0) (eCons (eSlA (eVar 0) (oSome (eC (.int 1))) (oNone)) eNil))) (gT 2 (gsC (gN 1) (gsC (gN 2) (gsN)))) [1, 2] (bYes) (eBin gLtA (eVar 1) (eVar 2))) eNil))
def m_ascend : FM := toF false 3 b_ascend
def b_Rule_piece : M Fl :=
  sRet (eBin ixA (eSlU "Rule" 0 (eVar 0)) (eC (.int 0)))
def m_Rule_piece : FM := toF false 1 b_Rule_piece
def b_Rule_low : M Fl :=
  sRet (eBin ixA (eSlU "Rule" 0 (eVar 0)) (eC (.int 1)))
def m_Rule_low : FM := toF false 1 b_Rule_low
def b_Rule_high : M Fl :=
  sRet (eBin ixA (eSlU "Rule" 0 (eVar 0)) (eC (.int 2)))
def m_Rule_high : FM := toF false 1 b_Rule_high
def b_Rule_modulus : M Fl :=
  sRet (eBin ixA (eSlU "Rule" 0 (eVar 0)) (eC (.int 3)))
def m_Rule_modulus : FM := toF false 1 b_Rule_modulus
def b_Rule_rests : M Fl :=
  sRet (eBin ixA (eSlU "Rule" 0 (eVar 0)) (eC (.int 4)))
def m_Rule_rests : FM := toF false 1 b_Rule_rests
def b_Rule_kinds : M Fl :=
  sRet (eBin ixA (eSlU "Rule" 0 (eVar 0)) (eC (.int 5)))
def m_Rule_kinds : FM := toF false 1 b_Rule_kinds
def b_Book_kinds : M Fl :=
  sRet (eBin ixA (eSlU "Book" 0 (eVar 0)) (eC (.int 0)))
def m_Book_kinds : FM := toF false 1 b_Book_kinds
def b_Book_rules : M Fl :=
  sRet (eBin ixA (eSlU "Book" 0 (eVar 0)) (eC (.int 1)))
def m_Book_rules : FM := toF false 1 b_Book_rules
def b_rest_of : M Fl :=
  sRet (eBin (sc2 modI) (eBlt (b1 intD) (eCons (eVar 0) eNil)) (eVar 1))
def m_rest_of : FM := toF false 2 b_rest_of
def b_check_modulus : M Fl :=
  sIf (bOr (eT (eUn (isiD "bool") (eVar 0))) (eT (eBin (inA true) (eVar 0) (eC k_MODULI))))
    (sBad)
    (sNx)
def m_check_modulus : FM := toF false 1 b_check_modulus
def b_law_taken : M Fl :=
  sSeq (sIf (eT (eBin gGtA (eBin ixA (eVar 0) (eC (.int 3))) (eC (.int 0))))
    (sSeq (sSet 2 (eBin (sc2 modI) (eBlt (b1 intD) (eCons (eBin ixA (eVar 0) (eC (.int 3))) eNil)) (eVar 1)))
    (sSeq (sItemA (eVar 0) (eC (.int 3)) (eBin (sc2 fdivI) (eBin ixA (eVar 0) (eC (.int 3))) (eVar 1)))
    (sRet (eVar 2))))
    (sNx))
    (sSeq (sItemA (eVar 0) (eC (.int 1)) (eBin (sv2 addA) (eBin ixA (eVar 0) (eC (.int 1))) (eC (.int 1))))
    (sSeq (sIf (eT (eBin gGtA (eBin ixA (eVar 0) (eC (.int 1))) (eB1 lenD (eBin ixA (eVar 0) (eC (.int 0))))))
    (sSeq (sItemA (eVar 0) (eC (.int 2)) (eBin (sc2 modI) (eBlt (b1 intD) (eCons (eBin (sv2 addA) (eBin (sc2 mulI) (eBin ixA (eVar 0) (eC (.int 2))) (eC (.int 48271))) (eC (.int 11))) eNil)) (eC (.int 2147483647))))
    (sRet (eBin (sc2 modI) (eBlt (b1 intD) (eCons (eBin (sc2 fdivI) (eBin ixA (eVar 0) (eC (.int 2))) (eC (.int 7))) eNil)) (eVar 1))))
    (sNx))
    (sSeq (sSet 3 (eBin ixA (eBin ixA (eVar 0) (eC (.int 0))) (eBin (sc2 subI) (eBin ixA (eVar 0) (eC (.int 1))) (eC (.int 1)))))
    (sSeq (sItemA (eVar 0) (eC (.int 2)) (eBin (sc2 modI) (eBlt (b1 intD) (eCons (eBin (sv2 addA) (eBin (sv2 addA) (eBin (sc2 mulI) (eBin ixA (eVar 0) (eC (.int 2))) (eC (.int 48271))) (eVar 3)) (eC (.int 11))) eNil)) (eC (.int 2147483647))))
    (sSeq (sIf (eT (eBin gGeA (eVar 3) (eBin (sc2 powI) (eC (.int 10)) (eC (.int 18)))))
    (sItemA (eVar 0) (eC (.int 3)) (eBin (sc2 fdivI) (eVar 3) (eVar 1)))
    (sNx))
    (sRet (eBin (sc2 modI) (eBlt (b1 intD) (eCons (eVar 3) eNil)) (eVar 1))))))))
def m_law_taken : FM := toF false 4 b_law_taken
def b_are_kinds : M Fl :=
  sRet (eAnd (eBin (sv2 neP) (eVar 0) (eTup (eNil))) (eAnd (eBlt (b1 allD) (eCons (eComp (iQ (eVar 0)) (gN 1) [1] (bYes) (eCall m_is_word 1 (eCons (eVar 1) (eNil)))) eNil)) (eCall m_ascend 1 (eCons (eVar 0) (eNil)))))
def m_are_kinds : FM := toF false 2 b_are_kinds
def b_are_rests : M Fl :=
  sRet (eAnd (eBin (sv2 neP) (eVar 1) (eTup (eNil))) (eAnd (eBlt (b1 allD) (eCons (eComp (iQ (eVar 1)) (gN 2) [2] (bYes) (eCall m_is_number 3 (eCons (eVar 2) (eCons (eC (.int 0)) (eCons (eBin (sc2 subI) (eVar 0) (eC (.int 1))) (eNil)))))) eNil)) (eCall m_ascend 1 (eCons (eVar 1) (eNil)))))
def m_are_rests : FM := toF false 3 b_are_rests
def b_check_kinds : M Fl :=
  sSeq (sFor (iEnA (eVar 0)) (gT 2 (gsC (gN 1) (gsC (gN 2) (gsN)))) [1, 2]
    (sIf (bOr (eT (eBin (sv2 eqP) (eVar 1) (eC k_MAX_KINDS))) (bOr (bNot (eT (eCall m_is_word 1 (eCons (eVar 2) (eNil))))) (bAnd (eT (eBin gGtA (eVar 1) (eC (.int 0)))) (eT (eBin gLeA (eVar 2) (eBin ixA (eVar 0) (eBin (sc2 subI) (eVar 1) (eC (.int 1)))))))))
    (sBad)
    (sNx)))
    (sIf (eT (eBin (sv2 eqP) (eVar 0) (eTup (eNil))))
    (sBad)
    (sNx))
def m_check_kinds : FM := toF false 3 b_check_kinds
def b_rests_seen : M Fl :=
  sSeq (sSet 3 (eBlt (b1 ssetD) (eCons (eComp (iQ (eVar 0)) (gT 2 (gsC (gN 4) (gsC (gN 5) (gsN)))) [4, 5] (eT (eBin (sv2 eqP) (eVar 5) (eVar 1))) (eCall m_rest_of 2 (eCons (eBin ixA (eVar 4) (eC (.int 0))) (eCons (eVar 2) (eNil))))) eNil)))
    (sRet (eTup (eCons (eVar 3) (eCons (eBlt (b1 ssetD) (eCons (eComp (iQ (eVar 0)) (gT 2 (gsC (gN 4) (gsC (gN 5) (gsN)))) [4, 5] (eT (eBin (sv2 neP) (eVar 5) (eVar 1))) (eCall m_rest_of 2 (eCons (eBin ixA (eVar 4) (eC (.int 0))) (eCons (eVar 2) (eNil))))) eNil)) (eNil)))))
def m_rests_seen : FM := toF false 6 b_rests_seen
def b_law_kinds : M Fl :=
  sRet (eBin ixA (eLst (eCons (eTup (eCons (eC (.str ("a" : Str))) (eNil))) (eCons (eTup (eCons (eC (.str ("a" : Str))) (eCons (eC (.str ("b" : Str))) (eNil)))) (eCons (eTup (eCons (eC (.str ("a" : Str))) (eCons (eC (.str ("b" : Str))) (eCons (eC (.str ("c" : Str))) (eNil))))) (eNil))))) (eCall m_law_taken 2 (eCons (eVar 0) (eCons (eC (.int 3)) (eNil)))))
def m_law_kinds : FM := toF false 1 b_law_kinds
def b_law_rows : M Fl :=
  sSeq (sSet 4 (eLst (eNil)))
    (sSeq (sFor (iR1 (eCall m_law_taken 2 (eCons (eVar 0) (eCons (eBin (sv2 addA) (eVar 3) (eC (.int 1))) (eNil))))) (gN 5) [5, 6, 7]
    (sSeq (sSet 6 (eBin ixA (eLst (eCons (eCall m_law_taken 2 (eCons (eVar 0) (eCons (eBin (sc2 mulI) (eC (.int 2)) (eVar 2)) (eNil)))) (eCons (eBin (sc2 subI) (eBin (sc2 subI) (eBin (sc2 powI) (eC (.int 10)) (eC (.int 30))) (eC (.int 1))) (eCall m_law_taken 2 (eCons (eVar 0) (eCons (eC (.int 9)) (eNil))))) (eNil)))) (eBlt (b1 intD) (eCons (eBin (sv2 eqP) (eCall m_law_taken 2 (eCons (eVar 0) (eCons (eC (.int 8)) (eNil)))) (eC (.int 0))) eNil))))
    (sSeq (sSet 7 (eTup (eCons (eVar 6) (eCons (eBin ixA (eVar 1) (eCall m_law_taken 2 (eCons (eVar 0) (eCons (eB1 lenD (eVar 1)) (eNil))))) (eNil)))))
    (sSet 4 (eIf (eT (eBin (inA false) (eVar 7) (eVar 4))) (eVar 4) (eBin (sv2 addA) (eVar 4) (eLst (eCons (eVar 7) (eNil)))))))))
    (sRet (eB1 tupD (eVar 4))))
def m_law_rows : FM := toF false 8 b_law_rows
abbrev i_lam_check_seen_0 : Nat := 1
def b_lam_check_seen_0 : M D :=
  eAnd (eCall m_is_number 3 (eCons (eBin ixA (eVar 0) (eC (.int 0))) (eCons (eC (.int 0)) (eCons (eC k_LAST) (eNil))))) (eCall m_is_word 1 (eCons (eBin ixA (eVar 0) (eC (.int 1))) (eNil)))
def m_lam_check_seen_0 : List (Option D) → FM := toLam 1 b_lam_check_seen_0
def b_Rule_init : M Fl :=
  sSeq (sIf (bNot (eT (eCall m_is_word 1 (eCons (eVar 1) (eNil)))))
    (sBad)
    (sNx))
    (sSeq (sIf (bNot (eT (eCall m_is_number 3 (eCons (eVar 2) (eCons (eC (.int 0)) (eCons (eC k_LAST) (eNil)))))))
    (sBad)
    (sNx))
    (sSeq (sIf (bNot (eT (eCall m_is_number 3 (eCons (eVar 3) (eCons (eVar 2) (eCons (eC k_LAST) (eNil)))))))
    (sBad)
    (sNx))
    (sSeq (sIf (bOr (eT (eUn (isiD "bool") (eVar 4))) (eT (eBin (inA true) (eVar 4) (eC k_MODULI))))
    (sBad)
    (sNx))
    (sSeq (sIf (bNot (eT (eCall m_are_rests 2 (eCons (eVar 4) (eCons (eVar 5) (eNil))))))
    (sBad)
    (sNx))
    (sSeq (sIf (bNot (eT (eCall m_are_kinds 1 (eCons (eVar 6) (eNil)))))
    (sBad)
    (sNx))
    (sSlot "Rule" 0 (eVar 0) (eTup (eCons (eVar 1) (eCons (eVar 2) (eCons (eVar 3) (eCons (eVar 4) (eCons (eVar 5) (eCons (eVar 6) (eNil))))))))))))))
def m_Rule_init : FM := toF false 7 b_Rule_init
def b_Book_init : M Fl :=
  sSeq (sExpr (eCall m_check_kinds 1 (eCons (eVar 1) (eNil))))
    (sSeq (sFor (iEnA (eVar 2)) (gT 2 (gsC (gN 3) (gsC (gN 4) (gsN)))) [3, 4, 5]
    (sIf (bOr (eT (eBin (sv2 eqP) (eVar 3) (eC k_MAX_RULES))) (bNot (eT (eBlt (b1 allD) (eCons (eComp (iQ (ePrU "Rule" m_Rule_kinds (eVar 4))) (gN 5) [5] (bYes) (eBin (inA false) (eVar 5) (eVar 1))) eNil)))))
    (sBad)
    (sNx)))
    (sSlot "Book" 0 (eVar 0) (eTup (eCons (eVar 1) (eCons (eVar 2) (eNil))))))
def m_Book_init : FM := toF false 6 b_Book_init
def b_fits : M Fl :=
  sRet (eAnd (eChain (fun i j => decide (i ≤ j)) (fun i j => decide (i ≤ j)) (ePrU "Rule" m_Rule_low (eVar 0)) (eVar 1) (ePrU "Rule" m_Rule_high (eVar 0))) (eAnd (eBin (inA false) (eCall m_rest_of 2 (eCons (eVar 1) (eCons (ePrU "Rule" m_Rule_modulus (eVar 0)) (eNil)))) (ePrU "Rule" m_Rule_rests (eVar 0))) (eBin (inA false) (eVar 2) (ePrU "Rule" m_Rule_kinds (eVar 0)))))
def m_fits : FM := toF false 3 b_fits
def b_check_row : M Fl :=
  sIf (bOr (bNot (eT (eCall m_is_number 3 (eCons (eBin ixA (eVar 1) (eC (.int 0))) (eCons (eC (.int 0)) (eCons (eC k_LAST) (eNil))))))) (eT (eBin (inA true) (eBin ixA (eVar 1) (eC (.int 1))) (ePrU "Book" m_Book_kinds (eVar 0)))))
    (sBad)
    (sNx)
def m_check_row : FM := toF false 2 b_check_row
def b_is_row : M Fl :=
  sRet (eAnd (eCall m_is_number 3 (eCons (eBin ixA (eVar 1) (eC (.int 0))) (eCons (eC (.int 0)) (eCons (eC k_LAST) (eNil))))) (eBin (inA false) (eBin ixA (eVar 1) (eC (.int 1))) (ePrU "Book" m_Book_kinds (eVar 0))))
def m_is_row : FM := toF false 2 b_is_row
def b_can_tell : M Fl :=
  sSeq (sAsg (gT 2 (gsC (gN 3) (gsC (gN 4) (gsN)))) (eCall m_rests_seen 3 (eCons (eVar 0) (eCons (eVar 1) (eCons (eVar 2) (eNil))))))
    (sRet (eNot (eBlt (b1 anyD) (eCons (eComp (iQ (eVar 3)) (gN 5) [5] (bYes) (eBin (inA false) (eVar 5) (eVar 4))) eNil))))
def m_can_tell : FM := toF false 6 b_can_tell
def b_fitting : M Fl :=
  sRet (eComp (iEnA (ePrU "Book" m_Book_rules (eVar 0))) (gT 2 (gsC (gN 3) (gsC (gN 4) (gsN)))) [3, 4] (eT (eCall m_fits 3 (eCons (eVar 4) (eCons (eVar 1) (eCons (eVar 2) (eNil)))))) (eVar 3))
def m_fitting : FM := toF false 5 b_fitting
abbrev i_lam_first_unlike_0 : Nat := 0
def b_lam_first_unlike_0 : M D :=
  eCall m_is_row 2 (eCons (eVar 1) (eCons (eVar 0) (eNil)))
def m_lam_first_unlike_0 : List (Option D) → FM := toLam 2 b_lam_first_unlike_0
def b_place_of : M Fl :=
  sSeq (sSet 3 (eCall m_fitting 3 (eCons (eVar 0) (eCons (eVar 1) (eCons (eVar 2) (eNil))))))
    (sRet (eIf (eT (eBin (sv2 neP) (eVar 3) (eLst (eNil)))) (ePrU "Rule" m_Rule_piece (eBin ixA (ePrU "Book" m_Book_rules (eVar 0)) (eBin ixA (eVar 3) (eC (.int 0))))) (eC .non)))
def m_place_of : FM := toF false 4 b_place_of
def G_check_sights : Nat → LamM
  | 0 => ⟨["book"], 1, m_lam_first_unlike_0⟩
  | 1 => ⟨[], 1, m_lam_check_seen_0⟩
  | _ => LamM.bad
def b_check_sights : M Fl :=
  sFor (iEnA (eVar 0)) (gT 2 (gsC (gN 2) (gsC (gT 2 (gsC (gN 3) (gsC (gN 4) (gsN)))) (gsN)))) [2, 3, 4]
    (sIf (bOr (eT (eBin (sv2 eqP) (eVar 2) (eC k_MAX_SIGHTS))) (bOr (bNot (eT (callP G_check_sights 1 5 (eCons (eVar 3) (eNil))))) (bAnd (eT (eBin (sc2 (isN true)) (eVar 4) (eC .non))) (bNot (eT (eCall m_is_word 1 (eCons (eVar 4) (eNil))))))))
    (sBad)
    (sNx))
def m_check_sights : FMG := toFG false 6 b_check_sights
def b_law_book : M Fl :=
  sSeq (sSetF 3 (eLst (eNil)))
    (sSeq (sFor (iR1 (eCall m_law_taken 2 (eCons (eVar 0) (eCons (eC (.int 5)) (eNil))))) (gN 4) [4, 5, 6, 7, 8, 10, 12]
    (sSeq (sSet 5 (eCall m_law_taken 2 (eCons (eVar 0) (eCons (eVar 1) (eNil)))))
    (sSeq (sSet 6 (eBin ixA (eLst (eCons (eBin (sv2 addA) (eVar 5) (eCall m_law_taken 2 (eCons (eVar 0) (eCons (eVar 1) (eNil))))) (eCons (eBin (sc2 subI) (eBin (sc2 powI) (eC (.int 10)) (eC (.int 30))) (eC (.int 1))) (eNil)))) (eBlt (b1 intD) (eCons (eBin (sv2 eqP) (eCall m_law_taken 2 (eCons (eVar 0) (eCons (eC (.int 5)) (eNil)))) (eC (.int 0))) eNil))))
    (sSeq (sSet 7 (eBin ixA (eLst (eCons (eC (.int 1)) (eCons (eC (.int 1)) (eCons (eC (.int 2)) (eCons (eC (.int 3)) (eCons (eC (.int 4)) (eCons (eC (.int 6)) (eCons (eC (.int 12)) (eNil))))))))) (eCall m_law_taken 2 (eCons (eVar 0) (eCons (eC (.int 7)) (eNil))))))
    (sSeq (sSet 8 (eB1 tupD (eComp (iR1 (eVar 7)) (gN 9) [9] (eT (eBin (sv2 eqP) (eCall m_law_taken 2 (eCons (eVar 0) (eCons (eC (.int 2)) (eNil)))) (eC (.int 0)))) (eVar 9))))
    (sSeq (sSet 10 (eB1 tupD (eComp (iQ (eVar 2)) (gN 11) [11] (eT (eBin gGtA (eCall m_law_taken 2 (eCons (eVar 0) (eCons (eC (.int 3)) (eNil)))) (eC (.int 0)))) (eVar 11))))
    (sSeq (sSet 8 (eIf (eT (eBin (sv2 neP) (eVar 8) (eTup (eNil)))) (eVar 8) (eTup (eCons (eCall m_law_taken 2 (eCons (eVar 0) (eCons (eVar 7) (eNil)))) (eNil)))))
    (sSeq (sSet 12 (eBin ixA (eLst (eCons (eC (.str ("x" : Str))) (eCons (eC (.str ("y" : Str))) (eCons (eC (.str ("z" : Str))) (eNil))))) (eCall m_law_taken 2 (eCons (eVar 0) (eCons (eC (.int 3)) (eNil))))))
    (sApp 3 appD (eMakeZ "Rule" m_Rule_init 7 (eCons (eVar 12) (eCons (eVar 5) (eCons (eVar 6) (eCons (eVar 7) (eCons (eVar 8) (eCons (eIf (eT (eBin (sv2 neP) (eVar 10) (eTup (eNil)))) (eVar 10) (eVar 2)) (eNil)))))))))))))))))
    (sRet (eMakeZ "Book" m_Book_init 3 (eCons (eVar 2) (eCons (eB1 tupD (eVar 3)) (eNil))))))
def m_law_book : FM := toF false 13 b_law_book
def b_piece_of : M Fl :=
  sSeq (sExpr (eCall m_check_row 2 (eCons (eVar 0) (eCons (eVar 1) (eNil)))))
    (sRet (eCall m_place_of 3 (eCons (eVar 0) (eCons (eBin ixA (eVar 1) (eC (.int 0))) (eCons (eBin ixA (eVar 1) (eC (.int 1))) (eNil))))))
def m_piece_of : FM := toF false 2 b_piece_of
def b_first_unlike (cells : List (Str × Addr)) : M Fl :=
  sSeq (sExpr (eCallH m_check_sights 2 cells [(("book" : Str), 0)] (eCons (eVar 1) (eCons (eFn 0 cells) (eNil)))))
    (sSeq (sFor (iEnA (eVar 1)) (gT 2 (gsC (gN 2) (gsC (gT 2 (gsC (gN 3) (gsC (gN 4) (gsN)))) (gsN)))) [2, 3, 4]
    (sIf (eT (eBin (sv2 neP) (eCall m_place_of 3 (eCons (eVar 0) (eCons (eBin ixA (eVar 3) (eC (.int 0))) (eCons (eBin ixA (eVar 3) (eC (.int 1))) (eNil))))) (eVar 4)))
    (sRet (eVar 2))
    (sNx)))
    (sRet (eC .non)))
def m_first_unlike : FM := toFL false 5 b_first_unlike
def b_check_seen (cells : List (Str × Addr)) : M Fl :=
  sSeq (sExpr (eCallH m_check_sights 2 cells [] (eCons (eVar 0) (eCons (eFn 1 cells) (eNil)))))
    (sIf (bNot (eT (eCall m_is_word 1 (eCons (eVar 1) (eNil)))))
    (sBad)
    (sNx))
def m_check_seen : FM := toFL false 2 b_check_seen
def b_moduli_for : M Fl :=
  sSeq (sExpr (eCall m_check_seen 2 (eCons (eVar 0) (eCons (eVar 1) (eNil)))))
    (sRet (eComp (iQ (eC k_MODULI)) (gN 2) [2] (eT (eCall m_can_tell 3 (eCons (eVar 0) (eCons (eVar 1) (eCons (eVar 2) (eNil)))))) (eVar 2)))
def m_moduli_for : FM := toF false 3 b_moduli_for
def b_rests_for : M Fl :=
  sSeq (sExpr (eCall m_check_seen 2 (eCons (eVar 0) (eCons (eVar 1) (eNil)))))
    (sSeq (sExpr (eCall m_check_modulus 1 (eCons (eVar 2) (eNil))))
    (sSeq (sIf (bNot (eT (eCall m_can_tell 3 (eCons (eVar 0) (eCons (eVar 1) (eCons (eVar 2) (eNil)))))))
    (sRet (eC .non))
    (sNx))
    (sSeq (sAsg (gT 2 (gsC (gN 3) (gsC (gN 4) (gsN)))) (eCall m_rests_seen 3 (eCons (eVar 0) (eCons (eVar 1) (eCons (eVar 2) (eNil))))))
    (sRet (eTup (eCons (eB1 tupD (eVar 3)) (eCons (eB1 tupD (eComp (iR1 (eVar 2)) (gN 5) [5] (bAnd (eT (eBin (inA true) (eVar 5) (eVar 3))) (eT (eBin (inA true) (eVar 5) (eVar 4)))) (eVar 5))) (eNil))))))))
def m_rests_for : FM := toF false 6 b_rests_for
def b_law_are_fewer_T4 : M Fl :=
  sRet (eC (.bl true))
def b_law_are_fewer_T3 : M Fl :=
  sSeq (sIf (eT (eBin (sv2 neP) (eCall m_rests_for 3 (eCons (eTup (eNil)) (eCons (eVar 1) (eCons (eC (.int 4)) (eNil))))) (eTup (eCons (eTup (eNil)) (eCons (eTup (eCons (eC (.int 0)) (eCons (eC (.int 1)) (eCons (eC (.int 2)) (eCons (eC (.int 3)) (eNil)))))) (eNil))))))
    (sRet (eC (.bl false)))
    (sNx))
    b_law_are_fewer_T4
def b_law_are_fewer_T2 : M Fl :=
  sSeq (sIf (bOr (eT (eBin (sv2 neP) (eCall m_moduli_for 2 (eCons (eBin (sv2 addA) (eVar 0) (eSlA (eVar 0) (oNone) (oSome (eC (.int 3))))) (eCons (eVar 1) (eNil)))) (eVar 2))) (eT (eBin (sv2 neP) (eCall m_moduli_for 2 (eCons (eTup (eNil)) (eCons (eVar 1) (eNil)))) (eLst (eCons (eC (.int 1)) (eCons (eC (.int 2)) (eCons (eC (.int 3)) (eCons (eC (.int 4)) (eCons (eC (.int 6)) (eCons (eC (.int 12)) (eNil)))))))))))
    (sRet (eC (.bl false)))
    (sNx))
    b_law_are_fewer_T3
def b_law_are_fewer_T1 : M Fl :=
  sSeq (sIf (bOr (bAnd (eT (eBin (inA false) (eC (.int 2)) (eVar 2))) (eT (eBin (inA true) (eC (.int 4)) (eVar 2)))) (bOr (bAnd (eT (eBin (inA false) (eC (.int 3)) (eVar 2))) (eT (eBin (inA true) (eC (.int 6)) (eVar 2)))) (bAnd (eT (eBin (inA false) (eC (.int 1)) (eVar 2))) (eT (eBin (sv2 neP) (eB1 lenD (eVar 2)) (eC (.int 6)))))))
    (sRet (eC (.bl false)))
    (sNx))
    b_law_are_fewer_T2
def b_law_are_fewer : M Fl :=
  sSeq (sIf (eT (eBin (sv2 neP) (eComp (iQ (eVar 2)) (gN 3) [3] (eT (eBin (inA true) (eVar 3) (eCall m_moduli_for 2 (eCons (eSlA (eVar 0) (oNone) (oSome (eUn negI (eC (.int 1))))) (eCons (eVar 1) (eNil)))))) (eVar 3)) (eLst (eNil))))
    (sRet (eC (.bl false)))
    (sNx))
    b_law_are_fewer_T1
def m_law_are_fewer : FM := toF false 4 b_law_are_fewer
def b_law_L1 : M Fl :=
  sSeq (sSet 10 (eIf (eT (eBin (sc2 (isN false)) (eBin ixA (eBin ixA (eVar 7) (eVar 9)) (eC (.int 1))) (eC .non))) (eC (.str ("w" : Str))) (eC .non)))
    (sIf (eT (eBin (sv2 neP) (eCall m_first_unlike 2 (eCons (eVar 5) (eCons (eBin (sv2 addA) (eBin (sv2 addA) (eSlA (eVar 7) (oNone) (oSome (eVar 9))) (eTup (eCons (eTup (eCons (eBin ixA (eVar 6) (eVar 9)) (eCons (eVar 10) (eNil)))) (eNil)))) (eSlA (eVar 7) (oSome (eBin (sv2 addA) (eVar 9) (eC (.int 1)))) (oNone))) (eNil)))) (eVar 9)))
    (sRet (eC (.bl false)))
    (sNx))
def b_law_L2 : M Fl :=
  sIf (eT (eBin (sv2 neP) (eBin (sv2 eqP) (eCall m_piece_of 2 (eCons (eVar 18) (eCons (eVar 8) (eNil)))) (eVar 11)) (eBin (sv2 eqP) (eVar 19) (eVar 11))))
    (sRet (eC (.bl false)))
    (sNx)
def b_law_L3 : M Fl :=
  sSeq (sSet 14 (eCall m_rests_for 3 (eCons (eVar 7) (eCons (eVar 11) (eCons (eVar 13) (eNil))))))
    (sSeq (sIf (eT (eBin (sv2 neP) (eBin (sc2 (isN false)) (eVar 14) (eC .non)) (eBin (inA true) (eVar 13) (eVar 12))))
    (sRet (eC (.bl false)))
    (sNx))
    (sIf (eT (eBin (sc2 (isN true)) (eVar 14) (eC .non)))
    (sSeq (sAsg (gT 2 (gsC (gN 15) (gsC (gN 16) (gsN)))) (eVar 14))
    (sSeq (sIf (bOr (eT (eBin (sv2 neP) (eComp (iQ (eVar 15)) (gN 17) [17] (eT (eBin (inA false) (eVar 17) (eVar 16))) (eVar 17)) (eLst (eNil)))) (eT (eBin (sv2 neP) (eBlt (b1 listD) (eCons (eVar 15) eNil)) (eBlt (b1 sortedD) (eCons (eVar 15) eNil)))))
    (sRet (eC (.bl false)))
    (sNx))
    (sIf (eT (eBin (sv2 neP) (eVar 15) (eTup (eNil))))
    (sSeq (sSet 18 (eMakeZ "Book" m_Book_init 3 (eCons (eVar 3) (eCons (eTup (eCons (eMakeZ "Rule" m_Rule_init 7 (eCons (eVar 11) (eCons (eC (.int 0)) (eCons (eBin (sc2 subI) (eBin (sc2 powI) (eC (.int 10)) (eC (.int 30))) (eC (.int 1))) (eCons (eVar 13) (eCons (eVar 15) (eCons (eVar 3) (eNil)))))))) (eNil))) (eNil)))))
    (sFor (iQ (eVar 7)) (gT 2 (gsC (gN 8) (gsC (gN 19) (gsN)))) [8, 19]
    (b_law_L2)))
    (sIf (eT (eBin (sv2 neP) (eComp (iQ (eVar 7)) (gT 2 (gsC (gN 8) (gsC (gN 19) (gsN)))) [8, 19] (eT (eBin (sv2 eqP) (eVar 19) (eVar 11))) (eVar 19)) (eLst (eNil))))
    (sRet (eC (.bl false)))
    (sNx)))))
    (sNx)))
def b_law_L4 : M Fl :=
  sSeq (sPar 3 4 (eCons (eCall m_law_kinds 1 (eCons (eVar 1) (eNil))) (eCons (eBin ixA (eLst (eCons (eC (.int 30)) (eCons (eBin (sc2 powI) (eC (.int 10)) (eC (.int 28))) (eNil)))) (eCall m_law_taken 2 (eCons (eVar 1) (eCons (eC (.int 2)) (eNil))))) (eNil))))
    (sSeq (sSet 5 (eCall m_law_book 3 (eCons (eVar 1) (eCons (eVar 4) (eCons (eVar 3) (eNil))))))
    (sSeq (sSet 6 (eCall m_law_rows 4 (eCons (eVar 1) (eCons (eVar 3) (eCons (eVar 4) (eCons (eC (.int 15)) (eNil)))))))
    (sSeq (sSet 7 (eB1 tupD (eComp (iQ (eVar 6)) (gN 8) [8] (bYes) (eTup (eCons (eVar 8) (eCons (eCall m_piece_of 2 (eCons (eVar 5) (eCons (eVar 8) (eNil)))) (eNil)))))))
    (sSeq (sIf (bOr (eT (eBin (sc2 (isN true)) (eCall m_first_unlike 2 (eCons (eVar 5) (eCons (eVar 7) (eNil)))) (eC .non))) (eT (eBin (sc2 (isN true)) (eCall m_first_unlike 2 (eCons (eVar 5) (eCons (eBin (sv2 addA) (eVar 7) (eSlA (eVar 7) (oNone) (oSome (eC (.int 2))))) (eNil)))) (eC .non))))
    (sRet (eC (.bl false)))
    (sNx))
    (sSeq (sFor (iR1 (eB1 lenD (eVar 7))) (gN 9) [9, 10]
    (b_law_L1))
    (sSeq (sSet 11 (eBin ixA (eLst (eCons (eC (.str ("x" : Str))) (eCons (eC (.str ("y" : Str))) (eCons (eC (.str ("w" : Str))) (eNil))))) (eCall m_law_taken 2 (eCons (eVar 1) (eCons (eC (.int 3)) (eNil))))))
    (sSeq (sSet 12 (eCall m_moduli_for 2 (eCons (eVar 7) (eCons (eVar 11) (eNil)))))
    (sSeq (sFor (iQ (eTup (eCons (eC (.int 1)) (eCons (eC (.int 2)) (eCons (eC (.int 3)) (eCons (eC (.int 4)) (eCons (eC (.int 6)) (eCons (eC (.int 12)) (eNil))))))))) (gN 13) [13, 14, 15, 16, 17, 18, 19]
    (b_law_L3))
    (sIf (bNot (eT (eCall m_law_are_fewer 3 (eCons (eVar 7) (eCons (eVar 11) (eCons (eVar 12) (eNil)))))))
    (sRet (eC (.bl false)))
    (sNx))))))))))
def b_law : M Fl :=
  sSeq (sCell 1 (eCons (eVar 0) (eCons (eC (.int 0)) (eCons (eC (.int 0)) (eCons (eC (.int 0)) (eNil))))))
    (sSeq (sFor (iR1 (eC (.int 4))) (gN 2) [2, 3, 4, 5, 6, 7, 9, 10, 11, 12, 13, 14, 15, 16, 17, 18, 19]
    (b_law_L4))
    (sRet (eC (.bl true))))
def m_law : FM := toF false 20 b_law
end
end VP

namespace VP
open PySem PySem.Spec PyProof.Rows L2 VE
def top (i : Nat) : Stmt := PySem.Challenge.pw_ruledpieces_k53_whole_sights_and_books.main.body.getD i (.Pass ⟨0, 0, 0, 0⟩)
abbrev s_is_number : Stmt := top 16
abbrev s_is_word : Stmt := top 17
abbrev s_ascend : Stmt := top 18
abbrev s_Rule_piece : Stmt := inClass (top 21) 2
abbrev s_Rule_low : Stmt := inClass (top 21) 3
abbrev s_Rule_high : Stmt := inClass (top 21) 4
abbrev s_Rule_modulus : Stmt := inClass (top 21) 5
abbrev s_Rule_rests : Stmt := inClass (top 21) 6
abbrev s_Rule_kinds : Stmt := inClass (top 21) 7
abbrev s_Book_kinds : Stmt := inClass (top 23) 2
abbrev s_Book_rules : Stmt := inClass (top 23) 3
abbrev s_rest_of : Stmt := top 24
abbrev s_check_modulus : Stmt := top 33
abbrev s_law_taken : Stmt := top 44
abbrev s_are_kinds : Stmt := top 19
abbrev s_are_rests : Stmt := top 20
abbrev s_check_kinds : Stmt := top 22
abbrev s_rests_seen : Stmt := top 39
abbrev s_law_kinds : Stmt := top 45
abbrev s_law_rows : Stmt := top 47
abbrev s_Rule_init : Stmt := inClass (top 21) 1
abbrev s_Book_init : Stmt := inClass (top 23) 1
abbrev s_fits : Stmt := top 25
abbrev s_check_row : Stmt := top 27
abbrev s_is_row : Stmt := top 31
abbrev s_can_tell : Stmt := top 40
abbrev s_fitting : Stmt := top 26
abbrev s_place_of : Stmt := top 28
abbrev s_check_sights : Stmt := top 36
abbrev s_law_book : Stmt := top 46
abbrev s_piece_of : Stmt := top 29
abbrev s_first_unlike : Stmt := top 37
abbrev s_check_seen : Stmt := top 38
abbrev s_moduli_for : Stmt := top 41
abbrev s_rests_for : Stmt := top 42
abbrev s_law_are_fewer : Stmt := top 48
abbrev s_law : Stmt := top 49
abbrev s_lam_first_unlike_0 : Expr := pX (pE ((defBody s_first_unlike).getD 0 noS)) 2
abbrev lc_0 : LamCode := ⟨"<lambda>", ("first_unlike" : Str) ++ ".<locals>." ++ "<lambda>", lamA s_lam_first_unlike_0, .expr (lamB s_lam_first_unlike_0), lamS s_lam_first_unlike_0, ["row"], ["book"]⟩
abbrev N_lam_first_unlike_0 : List Str := ["row", "book"]
theorem sc_lam_first_unlike_0 : NdefX.NScope N_lam_first_unlike_0 lc_0.ps lc_0.fr lc_0.scope := NdefX.nscope_by (by decide +kernel)
theorem fr_lam_first_unlike_0 : freeB (defScope s_first_unlike) (lamS s_lam_first_unlike_0) = true := by decide +kernel
theorem bd_lam_first_unlike_0 : Bnd lc_0 := fun ⟨_, _, _, _, _, _, _, _, _, _, _, _, _, _, _⟩ h1 h2 h3 us hl => by
  dsimp only at h1 h2 h3; subst h1; subst h2; subst h3; exact match us, hl with | [u0], _ => rfl
abbrev s_lam_check_seen_0 : Expr := pX (pE ((defBody s_check_seen).getD 0 noS)) 2
abbrev lc_1 : LamCode := ⟨"<lambda>", ("check_seen" : Str) ++ ".<locals>." ++ "<lambda>", lamA s_lam_check_seen_0, .expr (lamB s_lam_check_seen_0), lamS s_lam_check_seen_0, ["row"], []⟩
abbrev N_lam_check_seen_0 : List Str := ["row"]
theorem sc_lam_check_seen_0 : NdefX.NScope N_lam_check_seen_0 lc_1.ps lc_1.fr lc_1.scope := NdefX.nscope_by (by decide +kernel)
theorem fr_lam_check_seen_0 : freeB (defScope s_check_seen) (lamS s_lam_check_seen_0) = true := by decide +kernel
theorem bd_lam_check_seen_0 : Bnd lc_1 := fun ⟨_, _, _, _, _, _, _, _, _, _, _, _, _, _, _⟩ h1 h2 h3 us hl => by
  dsimp only at h1 h2 h3; subst h1; subst h2; subst h3; exact match us, hl with | [u0], _ => rfl
def lamCode : Nat → LamCode
  | 0 => lc_0
  | 1 => lc_1
  | _ => lc_0
abbrev N_is_number : List Str := ["value", "smallest", "largest"]
theorem sc_is_number : FnScope N_is_number ["value", "smallest", "largest"] (defScope s_is_number) := ⟨rfl, rfl, rfl, by decide +kernel, rfl, by decide +kernel, by decide +kernel⟩
abbrev N_is_word : List Str := ["value", "sign"]
theorem sc_is_word : FnScope N_is_word ["value"] (defScope s_is_word) := ⟨rfl, rfl, rfl, by decide +kernel, rfl, by decide +kernel, by decide +kernel⟩
abbrev N_ascend : List Str := ["values", "one", "other"]
theorem sc_ascend : FnScope N_ascend ["values"] (defScope s_ascend) := ⟨rfl, rfl, rfl, by decide +kernel, rfl, by decide +kernel, by decide +kernel⟩
abbrev N_Rule_piece : List Str := ["self"]
theorem sc_Rule_piece : FnScope N_Rule_piece ["self"] (defScope s_Rule_piece) := ⟨rfl, rfl, rfl, by decide +kernel, rfl, by decide +kernel, by decide +kernel⟩
abbrev N_Rule_low : List Str := ["self"]
theorem sc_Rule_low : FnScope N_Rule_low ["self"] (defScope s_Rule_low) := ⟨rfl, rfl, rfl, by decide +kernel, rfl, by decide +kernel, by decide +kernel⟩
abbrev N_Rule_high : List Str := ["self"]
theorem sc_Rule_high : FnScope N_Rule_high ["self"] (defScope s_Rule_high) := ⟨rfl, rfl, rfl, by decide +kernel, rfl, by decide +kernel, by decide +kernel⟩
abbrev N_Rule_modulus : List Str := ["self"]
theorem sc_Rule_modulus : FnScope N_Rule_modulus ["self"] (defScope s_Rule_modulus) := ⟨rfl, rfl, rfl, by decide +kernel, rfl, by decide +kernel, by decide +kernel⟩
abbrev N_Rule_rests : List Str := ["self"]
theorem sc_Rule_rests : FnScope N_Rule_rests ["self"] (defScope s_Rule_rests) := ⟨rfl, rfl, rfl, by decide +kernel, rfl, by decide +kernel, by decide +kernel⟩
abbrev N_Rule_kinds : List Str := ["self"]
theorem sc_Rule_kinds : FnScope N_Rule_kinds ["self"] (defScope s_Rule_kinds) := ⟨rfl, rfl, rfl, by decide +kernel, rfl, by decide +kernel, by decide +kernel⟩
abbrev N_Book_kinds : List Str := ["self"]
theorem sc_Book_kinds : FnScope N_Book_kinds ["self"] (defScope s_Book_kinds) := ⟨rfl, rfl, rfl, by decide +kernel, rfl, by decide +kernel, by decide +kernel⟩
abbrev N_Book_rules : List Str := ["self"]
theorem sc_Book_rules : FnScope N_Book_rules ["self"] (defScope s_Book_rules) := ⟨rfl, rfl, rfl, by decide +kernel, rfl, by decide +kernel, by decide +kernel⟩
abbrev N_rest_of : List Str := ["number", "modulus"]
theorem sc_rest_of : FnScope N_rest_of ["number", "modulus"] (defScope s_rest_of) := ⟨rfl, rfl, rfl, by decide +kernel, rfl, by decide +kernel, by decide +kernel⟩
abbrev N_check_modulus : List Str := ["modulus"]
theorem sc_check_modulus : FnScope N_check_modulus ["modulus"] (defScope s_check_modulus) := ⟨rfl, rfl, rfl, by decide +kernel, rfl, by decide +kernel, by decide +kernel⟩
abbrev N_law_taken : List Str := ["_law_row", "_law_many", "_law_found", "_law_cell"]
theorem sc_law_taken : FnScope N_law_taken ["_law_row", "_law_many"] (defScope s_law_taken) := ⟨rfl, rfl, rfl, by decide +kernel, rfl, by decide +kernel, by decide +kernel⟩
abbrev N_are_kinds : List Str := ["kinds", "kind"]
theorem sc_are_kinds : FnScope N_are_kinds ["kinds"] (defScope s_are_kinds) := ⟨rfl, rfl, rfl, by decide +kernel, rfl, by decide +kernel, by decide +kernel⟩
abbrev N_are_rests : List Str := ["modulus", "rests", "rest"]
theorem sc_are_rests : FnScope N_are_rests ["modulus", "rests"] (defScope s_are_rests) := ⟨rfl, rfl, rfl, by decide +kernel, rfl, by decide +kernel, by decide +kernel⟩
abbrev N_check_kinds : List Str := ["kinds", "index", "kind"]
theorem sc_check_kinds : FnScope N_check_kinds ["kinds"] (defScope s_check_kinds) := ⟨rfl, rfl, rfl, by decide +kernel, rfl, by decide +kernel, by decide +kernel⟩
abbrev N_rests_seen : List Str := ["sights", "piece", "modulus", "inside", "row", "where"]
theorem sc_rests_seen : FnScope N_rests_seen ["sights", "piece", "modulus"] (defScope s_rests_seen) := ⟨rfl, rfl, rfl, by decide +kernel, rfl, by decide +kernel, by decide +kernel⟩
abbrev N_law_kinds : List Str := ["_law_row"]
theorem sc_law_kinds : FnScope N_law_kinds ["_law_row"] (defScope s_law_kinds) := ⟨rfl, rfl, rfl, by decide +kernel, rfl, by decide +kernel, by decide +kernel⟩
abbrev N_law_rows : List Str := ["_law_row", "_law_kinds_here", "_law_wide", "_law_most", "_law_found", "_law_k", "_law_number", "_law_one"]
theorem sc_law_rows : FnScope N_law_rows ["_law_row", "_law_kinds_here", "_law_wide", "_law_most"] (defScope s_law_rows) := ⟨rfl, rfl, rfl, by decide +kernel, rfl, by decide +kernel, by decide +kernel⟩
abbrev N_Rule_init : List Str := ["self", "piece", "low", "high", "modulus", "rests", "kinds"]
theorem sc_Rule_init : FnScope N_Rule_init ["self", "piece", "low", "high", "modulus", "rests", "kinds"] (defScope s_Rule_init) := ⟨rfl, rfl, rfl, by decide +kernel, rfl, by decide +kernel, by decide +kernel⟩
abbrev N_Book_init : List Str := ["self", "kinds", "rules", "index", "rule", "kind"]
theorem sc_Book_init : FnScope N_Book_init ["self", "kinds", "rules"] (defScope s_Book_init) := ⟨rfl, rfl, rfl, by decide +kernel, rfl, by decide +kernel, by decide +kernel⟩
abbrev N_fits : List Str := ["rule", "number", "kind"]
theorem sc_fits : FnScope N_fits ["rule", "number", "kind"] (defScope s_fits) := ⟨rfl, rfl, rfl, by decide +kernel, rfl, by decide +kernel, by decide +kernel⟩
abbrev N_check_row : List Str := ["book", "row"]
theorem sc_check_row : FnScope N_check_row ["book", "row"] (defScope s_check_row) := ⟨rfl, rfl, rfl, by decide +kernel, rfl, by decide +kernel, by decide +kernel⟩
abbrev N_is_row : List Str := ["book", "row"]
theorem sc_is_row : FnScope N_is_row ["book", "row"] (defScope s_is_row) := ⟨rfl, rfl, rfl, by decide +kernel, rfl, by decide +kernel, by decide +kernel⟩
abbrev N_can_tell : List Str := ["sights", "piece", "modulus", "inside", "outside", "rest"]
theorem sc_can_tell : FnScope N_can_tell ["sights", "piece", "modulus"] (defScope s_can_tell) := ⟨rfl, rfl, rfl, by decide +kernel, rfl, by decide +kernel, by decide +kernel⟩
abbrev N_fitting : List Str := ["book", "number", "kind", "index", "rule"]
theorem sc_fitting : FnScope N_fitting ["book", "number", "kind"] (defScope s_fitting) := ⟨rfl, rfl, rfl, by decide +kernel, rfl, by decide +kernel, by decide +kernel⟩
abbrev N_place_of : List Str := ["book", "number", "kind", "found"]
theorem sc_place_of : FnScope N_place_of ["book", "number", "kind"] (defScope s_place_of) := ⟨rfl, rfl, rfl, by decide +kernel, rfl, by decide +kernel, by decide +kernel⟩
abbrev N_check_sights : List Str := ["sights", "is_good", "index", "row", "piece", "?"]
theorem sc_check_sights : FnScope N_check_sights ["sights", "is_good"] (defScope s_check_sights) := ⟨rfl, rfl, rfl, by decide +kernel, rfl, by decide +kernel, by decide +kernel⟩
abbrev N_law_book : List Str := ["_law_row", "_law_wide", "_law_kinds_here", "_law_rules", "_law_k", "_law_low", "_law_high", "_law_modulus", "_law_rests", "_law_rest", "_law_some", "_law_kind", "_law_piece"]
theorem sc_law_book : FnScope N_law_book ["_law_row", "_law_wide", "_law_kinds_here"] (defScope s_law_book) := ⟨rfl, rfl, rfl, by decide +kernel, rfl, by decide +kernel, by decide +kernel⟩
abbrev N_piece_of : List Str := ["book", "row"]
theorem sc_piece_of : FnScope N_piece_of ["book", "row"] (defScope s_piece_of) := ⟨rfl, rfl, rfl, by decide +kernel, rfl, by decide +kernel, by decide +kernel⟩
abbrev N_first_unlike : List Str := ["book", "sights", "index", "row", "piece"]
theorem sc_first_unlike : FnScope N_first_unlike ["book", "sights"] (defScope s_first_unlike) := ⟨rfl, rfl, rfl, by decide +kernel, rfl, by decide +kernel, by decide +kernel⟩
abbrev N_check_seen : List Str := ["sights", "piece"]
theorem sc_check_seen : FnScope N_check_seen ["sights", "piece"] (defScope s_check_seen) := ⟨rfl, rfl, rfl, by decide +kernel, rfl, by decide +kernel, by decide +kernel⟩
abbrev N_moduli_for : List Str := ["sights", "piece", "modulus"]
theorem sc_moduli_for : FnScope N_moduli_for ["sights", "piece"] (defScope s_moduli_for) := ⟨rfl, rfl, rfl, by decide +kernel, rfl, by decide +kernel, by decide +kernel⟩
abbrev N_rests_for : List Str := ["sights", "piece", "modulus", "inside", "outside", "rest"]
theorem sc_rests_for : FnScope N_rests_for ["sights", "piece", "modulus"] (defScope s_rests_for) := ⟨rfl, rfl, rfl, by decide +kernel, rfl, by decide +kernel, by decide +kernel⟩
abbrev N_law_are_fewer : List Str := ["_law_sights", "_law_piece", "_law_found", "_law_modulus"]
theorem sc_law_are_fewer : FnScope N_law_are_fewer ["_law_sights", "_law_piece", "_law_found"] (defScope s_law_are_fewer) := ⟨rfl, rfl, rfl, by decide +kernel, rfl, by decide +kernel, by decide +kernel⟩
abbrev N_law : List Str := ["_law_script", "_law_row", "_law_turn", "_law_kinds_here", "_law_wide", "_law_book_here", "_law_rows_here", "_law_sights", "_law_one", "_law_k", "_law_wrong", "_law_piece", "_law_found", "_law_modulus", "_law_told_rests", "_law_inside", "_law_free", "_law_rest", "_law_other", "_law_where"]
theorem sc_law : FnScope N_law ["_law_script"] (defScope s_law) := ⟨rfl, rfl, rfl, by decide +kernel, rfl, by decide +kernel, by decide +kernel⟩
section
variable [VEnv]
structure Txt (K : PySem.W.Frag) (mg : Str → Option Value) : Prop where
  b_all : mg "all" = none
  b_any : mg "any" = none
  b_bool : mg "bool" = none
  b_enumerate : mg "enumerate" = none
  b_int : mg "int" = none
  b_isinstance : mg "isinstance" = none
  b_len : mg "len" = none
  b_list : mg "list" = none
  b_range : mg "range" = none
  b_set : mg "set" = none
  b_sorted : mg "sorted" = none
  b_str : mg "str" = none
  b_tuple : mg "tuple" = none
  b_zip : mg "zip" = none
  c_LAST : ConstV K mg "LAST" k_LAST
  c_LETTERS : ConstV K mg "LETTERS" k_LETTERS
  c_MAX_KINDS : ConstV K mg "MAX_KINDS" k_MAX_KINDS
  c_MAX_RULES : ConstV K mg "MAX_RULES" k_MAX_RULES
  c_MAX_SIGHTS : ConstV K mg "MAX_SIGHTS" k_MAX_SIGHTS
  c_MAX_WORD : ConstV K mg "MAX_WORD" k_MAX_WORD
  c_MODULI : ConstV K mg "MODULI" k_MODULI
  s_Rule : SlV K mg "Rule" ["parts"]
  s_Book : SlV K mg "Book" ["lists"]
  lam_0 : VEnv.code 0 = lc_0
  lam_1 : VEnv.code 1 = lc_1
section
variable {P : Program} {w : World} {K : PySem.W.Frag} {mg : Str → Option Value} {base : Heap}
theorem ok_is_number {f : Addr} {fd : FuncData} (F : Fun K "is_number" "is_number" s_is_number f fd) (T : Txt K mg)  :
    FnOk P w K mg base (L2.CX P w) 1 f fd ["value", "smallest", "largest"] (spV K mg false 3 m_is_number) :=
  okV false F sc_is_number rfl rfl fun cdv A outer s H E hr =>
    (vss_one (vs_ret (ve_and (ve_isi T.b_isinstance T.b_int boot_int (ve_name 0)) (ve_and (ve_not (ve_isi T.b_isinstance T.b_bool boot_bool (ve_name 0))) (ve_one (ve_chain op_le op_le (ve_name 1) (ve_name 0) (ve_name 2)))))))
theorem ok_is_word {f : Addr} {fd : FuncData} (F : Fun K "is_word" "is_word" s_is_word f fd) (T : Txt K mg)  :
    FnOk P w K mg base (L2.CX P w) 1 f fd ["value"] (spV K mg false 1 m_is_word) :=
  okV false F sc_is_word rfl rfl fun cdv A outer s H E hr =>
    (vss_one (vs_ret (ve_and (ve_isi T.b_isinstance T.b_str boot_str (ve_name 0)) (ve_and (ve_chain op_le op_le ve_int (ve_len1 T.b_len (ve_name 0)) (ve_gc T.c_MAX_WORD)) (ve_one (ve_all rfl T.b_all (VF.ve (vf_comp (own := [(("sign" : Str), 1)]) rfl sc_is_word.nd (vi_q (ve_name 0)) (blkOk_by (N := N_is_word) (sc := defScope s_is_word) (by decide +kernel)) (by decide) (fun _ _ _ _ _ => (vg_name (i := 1) sc_is_word.nd)) (fun _ _ _ _ _ => vts_nil) (fun _ _ _ _ _ => (ve_inA hr (ve_name 1) (ve_gc T.c_LETTERS)))))))))))
theorem ok_ascend {f : Addr} {fd : FuncData} (F : Fun K "ascend" "ascend" s_ascend f fd) (T : Txt K mg)  :
    FnOk P w K mg base (L2.CX P w) 1 f fd ["values"] (spV K mg false 1 m_ascend) :=
  okV false F sc_ascend rfl rfl fun cdv A outer s H E hr =>
    (vss_one (vs_ret (ve_all rfl T.b_all (VF.ve (vf_comp (gg := gTup K 2 (gCons (gName 1) (gCons (gName 2) (gNil)))) (own := [(("one" : Str), 1), (("other" : Str), 2)]) rfl sc_ascend.nd (vi_zip T.b_zip (va_cons (ve_name 0) (va_cons (ve_slA (ve_name 0) (vo_some ve_int) vo_none) va_nil))) (blkOk_by (N := N_ascend) (sc := defScope s_ascend) (by decide +kernel)) (by decide) (fun _ _ _ _ _ => (vg_tup rfl (vgs_cons (vg_name (i := 1) sc_ascend.nd) (vgs_cons (vg_name (i := 2) sc_ascend.nd) vgs_nil)))) (fun _ _ _ _ _ => vts_nil) (fun _ _ _ _ _ => (ve_oLt (ve_name 1) (ve_name 2))))))))
theorem ok_Rule_piece {f : Addr} {fd : FuncData} (F : Fun K "piece" "Rule.piece" s_Rule_piece f fd) (T : Txt K mg)  :
    FnOk P w K mg base (L2.CX P w) 1 f fd ["self"] (spV K mg false 1 m_Rule_piece) :=
  okV false F sc_Rule_piece rfl rfl fun cdv A outer s H E hr =>
    (vss_one (vs_ret (ve_ixA hr (ve_slU 0 T.s_Rule (ve_name 0)) ve_int)))
theorem ok_Rule_low {f : Addr} {fd : FuncData} (F : Fun K "low" "Rule.low" s_Rule_low f fd) (T : Txt K mg)  :
    FnOk P w K mg base (L2.CX P w) 1 f fd ["self"] (spV K mg false 1 m_Rule_low) :=
  okV false F sc_Rule_low rfl rfl fun cdv A outer s H E hr =>
    (vss_one (vs_ret (ve_ixA hr (ve_slU 0 T.s_Rule (ve_name 0)) ve_int)))
theorem ok_Rule_high {f : Addr} {fd : FuncData} (F : Fun K "high" "Rule.high" s_Rule_high f fd) (T : Txt K mg)  :
    FnOk P w K mg base (L2.CX P w) 1 f fd ["self"] (spV K mg false 1 m_Rule_high) :=
  okV false F sc_Rule_high rfl rfl fun cdv A outer s H E hr =>
    (vss_one (vs_ret (ve_ixA hr (ve_slU 0 T.s_Rule (ve_name 0)) ve_int)))
theorem ok_Rule_modulus {f : Addr} {fd : FuncData} (F : Fun K "modulus" "Rule.modulus" s_Rule_modulus f fd) (T : Txt K mg)  :
    FnOk P w K mg base (L2.CX P w) 1 f fd ["self"] (spV K mg false 1 m_Rule_modulus) :=
  okV false F sc_Rule_modulus rfl rfl fun cdv A outer s H E hr =>
    (vss_one (vs_ret (ve_ixA hr (ve_slU 0 T.s_Rule (ve_name 0)) ve_int)))
theorem ok_Rule_rests {f : Addr} {fd : FuncData} (F : Fun K "rests" "Rule.rests" s_Rule_rests f fd) (T : Txt K mg)  :
    FnOk P w K mg base (L2.CX P w) 1 f fd ["self"] (spV K mg false 1 m_Rule_rests) :=
  okV false F sc_Rule_rests rfl rfl fun cdv A outer s H E hr =>
    (vss_one (vs_ret (ve_ixA hr (ve_slU 0 T.s_Rule (ve_name 0)) ve_int)))
theorem ok_Rule_kinds {f : Addr} {fd : FuncData} (F : Fun K "kinds" "Rule.kinds" s_Rule_kinds f fd) (T : Txt K mg)  :
    FnOk P w K mg base (L2.CX P w) 1 f fd ["self"] (spV K mg false 1 m_Rule_kinds) :=
  okV false F sc_Rule_kinds rfl rfl fun cdv A outer s H E hr =>
    (vss_one (vs_ret (ve_ixA hr (ve_slU 0 T.s_Rule (ve_name 0)) ve_int)))
theorem ok_Book_kinds {f : Addr} {fd : FuncData} (F : Fun K "kinds" "Book.kinds" s_Book_kinds f fd) (T : Txt K mg)  :
    FnOk P w K mg base (L2.CX P w) 1 f fd ["self"] (spV K mg false 1 m_Book_kinds) :=
  okV false F sc_Book_kinds rfl rfl fun cdv A outer s H E hr =>
    (vss_one (vs_ret (ve_ixA hr (ve_slU 0 T.s_Book (ve_name 0)) ve_int)))
theorem ok_Book_rules {f : Addr} {fd : FuncData} (F : Fun K "rules" "Book.rules" s_Book_rules f fd) (T : Txt K mg)  :
    FnOk P w K mg base (L2.CX P w) 1 f fd ["self"] (spV K mg false 1 m_Book_rules) :=
  okV false F sc_Book_rules rfl rfl fun cdv A outer s H E hr =>
    (vss_one (vs_ret (ve_ixA hr (ve_slU 0 T.s_Book (ve_name 0)) ve_int)))
theorem ok_rest_of {f : Addr} {fd : FuncData} (F : Fun K "rest_of" "rest_of" s_rest_of f fd) (T : Txt K mg)  :
    FnOk P w K mg base (L2.CX P w) 1 f fd ["number", "modulus"] (spV K mg false 2 m_rest_of) :=
  okV false F sc_rest_of rfl rfl fun cdv A outer s H E hr =>
    (vss_one (vs_ret (ve_mod (ve_intc T.b_int (ve_name 0)) (ve_name 1))))
theorem ok_check_modulus {f : Addr} {fd : FuncData} (F : Fun K "check_modulus" "check_modulus" s_check_modulus f fd) (T : Txt K mg)  :
    FnOk P w K mg base (L2.CX P w) 1 f fd ["modulus"] (spV K mg false 1 m_check_modulus) :=
  okV false F sc_check_modulus rfl rfl fun cdv A outer s H E hr =>
    (vss_one (vs_if (PW.pt (vw_or (vt_val (ve_isi T.b_isinstance T.b_bool boot_bool (ve_name 0))) (vw_or1 (vt_notinA hr (ve_name 0) (ve_gc T.c_MODULI)))))
      (vss_one vs_never)
      vss_nil))
theorem ok_law_taken {f : Addr} {fd : FuncData} (F : Fun K "_law_taken" "_law_taken" s_law_taken f fd) (T : Txt K mg)  :
    FnOk P w K mg base (L2.CX P w) 1 f fd ["_law_row", "_law_many"] (spV K mg false 2 m_law_taken) :=
  okV false F sc_law_taken rfl rfl fun cdv A outer s H E hr =>
    (vss_cons (vs_if (vt_oGt (ve_ixA hr (ve_name 0) ve_int) ve_int)
      (vss_cons (vs_set (i := 2) sc_law_taken.nd (ve_mod (ve_intc T.b_int (ve_ixA hr (ve_name 0) ve_int)) (ve_name 1)))
      (vss_cons (vs_itemA hr (ve_fdiv (ve_ixA hr (ve_name 0) ve_int) (ve_name 1)) (ve_name 0) ve_int)
      (vss_one (vs_ret (ve_name 2)))))
      vss_nil)
      (vss_cons (vs_itemA hr (ve_addA (ve_ixA hr (ve_name 0) ve_int) ve_int) (ve_name 0) ve_int)
      (vss_cons (vs_if (vt_oGt (ve_ixA hr (ve_name 0) ve_int) (ve_len1 T.b_len (ve_ixA hr (ve_name 0) ve_int)))
      (vss_cons (vs_itemA hr (ve_mod (ve_intc T.b_int (ve_addA (ve_mul (ve_ixA hr (ve_name 0) ve_int) ve_int) ve_int)) ve_int) (ve_name 0) ve_int)
      (vss_one (vs_ret (ve_mod (ve_intc T.b_int (ve_fdiv (ve_ixA hr (ve_name 0) ve_int) ve_int)) (ve_name 1)))))
      vss_nil)
      (vss_cons (vs_set (i := 3) sc_law_taken.nd (ve_ixA hr (ve_ixA hr (ve_name 0) ve_int) (ve_sub (ve_ixA hr (ve_name 0) ve_int) ve_int)))
      (vss_cons (vs_itemA hr (ve_mod (ve_intc T.b_int (ve_addA (ve_addA (ve_mul (ve_ixA hr (ve_name 0) ve_int) ve_int) (ve_name 3)) ve_int)) ve_int) (ve_name 0) ve_int)
      (vss_cons (vs_if (vt_oGe (ve_name 3) (ve_pow ve_int ve_int))
      (vss_one (vs_itemA hr (ve_fdiv (ve_name 3) (ve_name 1)) (ve_name 0) ve_int))
      vss_nil)
      (vss_one (vs_ret (ve_mod (ve_intc T.b_int (ve_name 3)) (ve_name 1))))))))))
theorem ok_are_kinds {f : Addr} {fd : FuncData} (F : Fun K "are_kinds" "are_kinds" s_are_kinds f fd) (T : Txt K mg) (v_ascend : FnV P w K mg base 1 "ascend" false 1 m_ascend) (v_is_word : FnV P w K mg base 1 "is_word" false 1 m_is_word) :
    FnOk P w K mg base (L2.CX P w) 2 f fd ["kinds"] (spV K mg false 1 m_are_kinds) :=
  okV false F sc_are_kinds rfl rfl fun cdv A outer s H E hr =>
    (vss_one (vs_ret (ve_and (ve_neV hr (ve_name 0) (ve_tup va_nil)) (ve_and (ve_all rfl T.b_all (VF.ve (vf_comp (own := [(("kind" : Str), 1)]) rfl sc_are_kinds.nd (vi_q (ve_name 0)) (blkOk_by (N := N_are_kinds) (sc := defScope s_are_kinds) (by decide +kernel)) (by decide) (fun _ _ _ _ _ => (vg_name (i := 1) sc_are_kinds.nd)) (fun _ _ _ _ _ => vts_nil) (fun _ _ _ _ _ => (ve_call v_is_word (hr.mono (by decide)) takes0 (va_cons (ve_name 1) va_nil)))))) (ve_one (ve_call v_ascend (hr.mono (by decide)) (takes_of rfl rfl rfl rfl) (va_cons (ve_name 0) va_nil)))))))
theorem ok_are_rests {f : Addr} {fd : FuncData} (F : Fun K "are_rests" "are_rests" s_are_rests f fd) (T : Txt K mg) (v_ascend : FnV P w K mg base 1 "ascend" false 1 m_ascend) (v_is_number : FnV P w K mg base 1 "is_number" false 3 m_is_number) :
    FnOk P w K mg base (L2.CX P w) 2 f fd ["modulus", "rests"] (spV K mg false 2 m_are_rests) :=
  okV false F sc_are_rests rfl rfl fun cdv A outer s H E hr =>
    (vss_one (vs_ret (ve_and (ve_neV hr (ve_name 1) (ve_tup va_nil)) (ve_and (ve_all rfl T.b_all (VF.ve (vf_comp (own := [(("rest" : Str), 2)]) rfl sc_are_rests.nd (vi_q (ve_name 1)) (blkOk_by (N := N_are_rests) (sc := defScope s_are_rests) (by decide +kernel)) (by decide) (fun _ _ _ _ _ => (vg_name (i := 2) sc_are_rests.nd)) (fun _ _ _ _ _ => vts_nil) (fun _ _ _ _ _ => (ve_call v_is_number (hr.mono (by decide)) takes0 (va_cons (ve_name 2) (va_cons ve_int (va_cons (ve_sub (ve_name 0) ve_int) va_nil)))))))) (ve_one (ve_call v_ascend (hr.mono (by decide)) (takes_of rfl rfl rfl rfl) (va_cons (ve_name 1) va_nil)))))))
theorem ok_check_kinds {f : Addr} {fd : FuncData} (F : Fun K "check_kinds" "check_kinds" s_check_kinds f fd) (T : Txt K mg) (v_is_word : FnV P w K mg base 1 "is_word" false 1 m_is_word) :
    FnOk P w K mg base (L2.CX P w) 2 f fd ["kinds"] (spV K mg false 1 m_check_kinds) :=
  okV false F sc_check_kinds rfl rfl fun cdv A outer s H E hr =>
    (vss_cons (vs_for [1, 2] (passes_of rfl) rfl (vi_enA T.b_enumerate (ve_name 0)) (vg_tup rfl (vgs_cons (vg_name (i := 1) sc_check_kinds.nd) (vgs_cons (vg_name (i := 2) sc_check_kinds.nd) vgs_nil)))
      (vss_one (vs_if (PW.pt (vw_or (vt_eqV hr (ve_name 1) (ve_gc T.c_MAX_KINDS)) (vw_or (vt_not (vt_val (ve_call v_is_word (hr.mono (by decide)) (takes_of rfl rfl rfl rfl) (va_cons (ve_name 2) va_nil)))) (vw_or1 (PW.pt (vw_and (vt_oGt (ve_name 1) ve_int) (vw_and1 (vt_oLe (ve_name 2) (ve_ixA hr (ve_name 0) (ve_sub (ve_name 1) ve_int))))))))))
      (vss_one vs_never)
      vss_nil)))
      (vss_one (vs_if (vt_eqV hr (ve_name 0) (ve_tup va_nil))
      (vss_one vs_never)
      vss_nil)))
theorem ok_rests_seen {f : Addr} {fd : FuncData} (F : Fun K "rests_seen" "rests_seen" s_rests_seen f fd) (T : Txt K mg) (v_rest_of : FnV P w K mg base 1 "rest_of" false 2 m_rest_of) :
    FnOk P w K mg base (L2.CX P w) 2 f fd ["sights", "piece", "modulus"] (spV K mg false 3 m_rests_seen) :=
  okV false F sc_rests_seen rfl rfl fun cdv A outer s H E hr =>
    (vss_cons (vs_set (i := 3) sc_rests_seen.nd (VF.ve (vf_sset rfl T.b_sorted T.b_set (VF.ve (vf_comp (gg := gTup K 2 (gCons (gName 4) (gCons (gName 5) (gNil)))) (own := [(("row" : Str), 4), (("where" : Str), 5)]) rfl sc_rests_seen.nd (vi_q (ve_name 0)) (blkOk_by (N := N_rests_seen) (sc := defScope s_rests_seen) (by decide +kernel)) (by decide) (fun _ _ _ _ _ => (vg_tup rfl (vgs_cons (vg_name (i := 4) sc_rests_seen.nd) (vgs_cons (vg_name (i := 5) sc_rests_seen.nd) vgs_nil)))) (fun _ _ _ _ _ => (vts_one (vt_eqV hr (ve_name 5) (ve_name 1)))) (fun _ _ _ _ _ => (ve_call v_rest_of (hr.mono (by decide)) takes0 (va_cons (ve_ixA hr (ve_name 4) ve_int) (va_cons (ve_name 2) va_nil)))))))))
      (vss_one (vs_ret (ve_tup (va_cons (ve_name 3) (va_cons (VF.ve (vf_sset rfl T.b_sorted T.b_set (VF.ve (vf_comp (gg := gTup K 2 (gCons (gName 4) (gCons (gName 5) (gNil)))) (own := [(("row" : Str), 4), (("where" : Str), 5)]) rfl sc_rests_seen.nd (vi_q (ve_name 0)) (blkOk_by (N := N_rests_seen) (sc := defScope s_rests_seen) (by decide +kernel)) (by decide) (fun _ _ _ _ _ => (vg_tup rfl (vgs_cons (vg_name (i := 4) sc_rests_seen.nd) (vgs_cons (vg_name (i := 5) sc_rests_seen.nd) vgs_nil)))) (fun _ _ _ _ _ => (vts_one (vt_neV hr (ve_name 5) (ve_name 1)))) (fun _ _ _ _ _ => (ve_call v_rest_of (hr.mono (by decide)) takes0 (va_cons (ve_ixA hr (ve_name 4) ve_int) (va_cons (ve_name 2) va_nil)))))))) va_nil))))))
theorem ok_law_kinds {f : Addr} {fd : FuncData} (F : Fun K "_law_kinds" "_law_kinds" s_law_kinds f fd) (T : Txt K mg) (v_law_taken : FnV P w K mg base 1 "_law_taken" false 2 m_law_taken) :
    FnOk P w K mg base (L2.CX P w) 2 f fd ["_law_row"] (spV K mg false 1 m_law_kinds) :=
  okV false F sc_law_kinds rfl rfl fun cdv A outer s H E hr =>
    (vss_one (vs_ret (ve_ixA hr (VF.ve (vf_lst (va_cons (ve_tup (va_cons ve_str va_nil)) (va_cons (ve_tup (va_cons ve_str (va_cons ve_str va_nil))) (va_cons (ve_tup (va_cons ve_str (va_cons ve_str (va_cons ve_str va_nil)))) va_nil))))) (ve_call v_law_taken (hr.mono (by decide)) (takes_of rfl rfl rfl rfl) (va_cons (ve_name 0) (va_cons ve_int va_nil))))))
theorem ok_law_rows {f : Addr} {fd : FuncData} (F : Fun K "_law_rows" "_law_rows" s_law_rows f fd) (T : Txt K mg) (v_law_taken : FnV P w K mg base 1 "_law_taken" false 2 m_law_taken) :
    FnOk P w K mg base (L2.CX P w) 2 f fd ["_law_row", "_law_kinds_here", "_law_wide", "_law_most"] (spV K mg false 4 m_law_rows) :=
  okV false F sc_law_rows rfl rfl fun cdv A outer s H E hr =>
    (vss_cons (vs_set (i := 4) sc_law_rows.nd (VF.ve (vf_lst va_nil)))
      (vss_cons (vs_for [5, 6, 7] (passes_of rfl) rfl (vi_r1 T.b_range (ve_call v_law_taken (hr.mono (by decide)) (takes_of rfl rfl rfl rfl) (va_cons (ve_name 0) (va_cons (ve_addA (ve_name 3) ve_int) va_nil)))) (vg_name (i := 5) sc_law_rows.nd)
      (vss_cons (vs_set (i := 6) sc_law_rows.nd (ve_ixA hr (VF.ve (vf_lst (va_cons (ve_call v_law_taken (hr.mono (by decide)) (takes_of rfl rfl rfl rfl) (va_cons (ve_name 0) (va_cons (ve_mul ve_int (ve_name 2)) va_nil))) (va_cons (ve_sub (ve_sub (ve_pow ve_int ve_int) ve_int) (ve_call v_law_taken (hr.mono (by decide)) (takes_of rfl rfl rfl rfl) (va_cons (ve_name 0) (va_cons ve_int va_nil)))) va_nil)))) (ve_intc T.b_int (ve_eqV hr (ve_call v_law_taken (hr.mono (by decide)) (takes_of rfl rfl rfl rfl) (va_cons (ve_name 0) (va_cons ve_int va_nil))) ve_int))))
      (vss_cons (vs_set (i := 7) sc_law_rows.nd (ve_tup (va_cons (ve_name 6) (va_cons (ve_ixA hr (ve_name 1) (ve_call v_law_taken (hr.mono (by decide)) (takes_of rfl rfl rfl rfl) (va_cons (ve_name 0) (va_cons (ve_len1 T.b_len (ve_name 1)) va_nil)))) va_nil))))
      (vss_one (vs_set (i := 4) sc_law_rows.nd (ve_if (vt_inA hr (ve_name 7) (ve_name 4)) (ve_name 4) (ve_addA (ve_name 4) (VF.ve (vf_lst (va_cons (ve_name 7) va_nil))))))))))
      (vss_one (vs_ret (ve_tuple1 T.b_tuple (ve_name 4))))))
theorem ok_lam_check_seen_0 (T : Txt K mg) (v_is_number : FnV P w K mg base 1 "is_number" false 3 m_is_number) (v_is_word : FnV P w K mg base 1 "is_word" false 1 m_is_word) :
    LamOk P w K mg base 2 1 m_lam_check_seen_0 :=
  lam_of (L := lc_1) T.lam_1 sc_lam_check_seen_0 rfl bd_lam_check_seen_0 fun A outer s H E f c' cells hr =>
    (ve_and (ve_call v_is_number (hr.mono (by decide)) (takes_of rfl rfl rfl rfl) (va_cons (ve_ixA hr (ve_name 0) ve_int) (va_cons ve_int (va_cons (ve_gc T.c_LAST) va_nil)))) (ve_one (ve_call v_is_word (hr.mono (by decide)) (takes_of rfl rfl rfl rfl) (va_cons (ve_ixA hr (ve_name 0) ve_int) va_nil))))
theorem ok_Rule_init {f : Addr} {fd : FuncData} (F : Fun K "__init__" "Rule.__init__" s_Rule_init f fd) (T : Txt K mg) (v_are_kinds : FnV P w K mg base 2 "are_kinds" false 1 m_are_kinds) (v_are_rests : FnV P w K mg base 2 "are_rests" false 2 m_are_rests) (v_is_number : FnV P w K mg base 1 "is_number" false 3 m_is_number) (v_is_word : FnV P w K mg base 1 "is_word" false 1 m_is_word) :
    FnOk P w K mg base (L2.CX P w) 3 f fd ["self", "piece", "low", "high", "modulus", "rests", "kinds"] (spV K mg false 7 m_Rule_init) :=
  okV false F sc_Rule_init rfl rfl fun cdv A outer s H E hr =>
    (vss_cons (vs_if (vt_not (vt_val (ve_call v_is_word (hr.mono (by decide)) (takes_of rfl rfl rfl rfl) (va_cons (ve_name 1) va_nil))))
      (vss_one vs_never)
      vss_nil)
      (vss_cons (vs_if (vt_not (vt_val (ve_call v_is_number (hr.mono (by decide)) (takes_of rfl rfl rfl rfl) (va_cons (ve_name 2) (va_cons ve_int (va_cons (ve_gc T.c_LAST) va_nil))))))
      (vss_one vs_never)
      vss_nil)
      (vss_cons (vs_if (vt_not (vt_val (ve_call v_is_number (hr.mono (by decide)) (takes_of rfl rfl rfl rfl) (va_cons (ve_name 3) (va_cons (ve_name 2) (va_cons (ve_gc T.c_LAST) va_nil))))))
      (vss_one vs_never)
      vss_nil)
      (vss_cons (vs_if (PW.pt (vw_or (vt_val (ve_isi T.b_isinstance T.b_bool boot_bool (ve_name 4))) (vw_or1 (vt_notinA hr (ve_name 4) (ve_gc T.c_MODULI)))))
      (vss_one vs_never)
      vss_nil)
      (vss_cons (vs_if (vt_not (vt_val (ve_call v_are_rests (hr.mono (by decide)) (takes_of rfl rfl rfl rfl) (va_cons (ve_name 4) (va_cons (ve_name 5) va_nil)))))
      (vss_one vs_never)
      vss_nil)
      (vss_cons (vs_if (vt_not (vt_val (ve_call v_are_kinds (hr.mono (by decide)) (takes_of rfl rfl rfl rfl) (va_cons (ve_name 6) va_nil))))
      (vss_one vs_never)
      vss_nil)
      (vss_one (vs_slot 0 T.s_Rule (ve_name 0) (ve_tup (va_cons (ve_name 1) (va_cons (ve_name 2) (va_cons (ve_name 3) (va_cons (ve_name 4) (va_cons (ve_name 5) (va_cons (ve_name 6) va_nil)))))))))))))))
theorem ok_Book_init {f : Addr} {fd : FuncData} (F : Fun K "__init__" "Book.__init__" s_Book_init f fd) (T : Txt K mg) (v_check_kinds : FnV P w K mg base 2 "check_kinds" false 1 m_check_kinds) (pr_Rule_kinds : PrV P w K mg base 1 "Rule" "kinds" m_Rule_kinds) :
    FnOk P w K mg base (L2.CX P w) 3 f fd ["self", "kinds", "rules"] (spV K mg false 3 m_Book_init) :=
  okV false F sc_Book_init rfl rfl fun cdv A outer s H E hr =>
    (vss_cons (vs_expr (ve_call v_check_kinds (hr.mono (by decide)) (takes_of rfl rfl rfl rfl) (va_cons (ve_name 1) va_nil)))
      (vss_cons (vs_for [3, 4, 5] (passes_of rfl) rfl (vi_enA T.b_enumerate (ve_name 2)) (vg_tup rfl (vgs_cons (vg_name (i := 3) sc_Book_init.nd) (vgs_cons (vg_name (i := 4) sc_Book_init.nd) vgs_nil)))
      (vss_one (vs_if (PW.pt (vw_or (vt_eqV hr (ve_name 3) (ve_gc T.c_MAX_RULES)) (vw_or1 (vt_not (vt_val (ve_all rfl T.b_all (VF.ve (vf_comp (own := [(("kind" : Str), 5)]) rfl sc_Book_init.nd (vi_q (ve_prU pr_Rule_kinds (hr.mono (by decide)) (ve_name 4))) (blkOk_by (N := N_Book_init) (sc := defScope s_Book_init) (by decide +kernel)) (by decide) (fun _ _ _ _ _ => (vg_name (i := 5) sc_Book_init.nd)) (fun _ _ _ _ _ => vts_nil) (fun _ _ _ _ _ => (ve_inA hr (ve_name 5) (ve_name 1)))))))))))
      (vss_one vs_never)
      vss_nil)))
      (vss_one (vs_slot 0 T.s_Book (ve_name 0) (ve_tup (va_cons (ve_name 1) (va_cons (ve_name 2) va_nil)))))))
theorem ok_fits {f : Addr} {fd : FuncData} (F : Fun K "fits" "fits" s_fits f fd) (T : Txt K mg) (pr_Rule_high : PrV P w K mg base 1 "Rule" "high" m_Rule_high) (pr_Rule_kinds : PrV P w K mg base 1 "Rule" "kinds" m_Rule_kinds) (pr_Rule_low : PrV P w K mg base 1 "Rule" "low" m_Rule_low) (pr_Rule_modulus : PrV P w K mg base 1 "Rule" "modulus" m_Rule_modulus) (pr_Rule_rests : PrV P w K mg base 1 "Rule" "rests" m_Rule_rests) (v_rest_of : FnV P w K mg base 1 "rest_of" false 2 m_rest_of) :
    FnOk P w K mg base (L2.CX P w) 3 f fd ["rule", "number", "kind"] (spV K mg false 3 m_fits) :=
  okV false F sc_fits rfl rfl fun cdv A outer s H E hr =>
    (vss_one (vs_ret (ve_and (ve_chain op_le op_le (ve_prU pr_Rule_low (hr.mono (by decide)) (ve_name 0)) (ve_name 1) (ve_prU pr_Rule_high (hr.mono (by decide)) (ve_name 0))) (ve_and (ve_inA hr (ve_call v_rest_of (hr.mono (by decide)) (takes_of rfl rfl rfl rfl) (va_cons (ve_name 1) (va_cons (ve_prU pr_Rule_modulus (hr.mono (by decide)) (ve_name 0)) va_nil))) (ve_prU pr_Rule_rests (hr.mono (by decide)) (ve_name 0))) (ve_one (ve_inA hr (ve_name 2) (ve_prU pr_Rule_kinds (hr.mono (by decide)) (ve_name 0))))))))
theorem ok_check_row {f : Addr} {fd : FuncData} (F : Fun K "check_row" "check_row" s_check_row f fd) (T : Txt K mg) (v_is_number : FnV P w K mg base 1 "is_number" false 3 m_is_number) (pr_Book_kinds : PrV P w K mg base 1 "Book" "kinds" m_Book_kinds) :
    FnOk P w K mg base (L2.CX P w) 3 f fd ["book", "row"] (spV K mg false 2 m_check_row) :=
  okV false F sc_check_row rfl rfl fun cdv A outer s H E hr =>
    (vss_one (vs_if (PW.pt (vw_or (vt_not (vt_val (ve_call v_is_number (hr.mono (by decide)) (takes_of rfl rfl rfl rfl) (va_cons (ve_ixA hr (ve_name 1) ve_int) (va_cons ve_int (va_cons (ve_gc T.c_LAST) va_nil)))))) (vw_or1 (vt_notinA hr (ve_ixA hr (ve_name 1) ve_int) (ve_prU pr_Book_kinds (hr.mono (by decide)) (ve_name 0))))))
      (vss_one vs_never)
      vss_nil))
theorem ok_is_row {f : Addr} {fd : FuncData} (F : Fun K "is_row" "is_row" s_is_row f fd) (T : Txt K mg) (v_is_number : FnV P w K mg base 1 "is_number" false 3 m_is_number) (pr_Book_kinds : PrV P w K mg base 1 "Book" "kinds" m_Book_kinds) :
    FnOk P w K mg base (L2.CX P w) 3 f fd ["book", "row"] (spV K mg false 2 m_is_row) :=
  okV false F sc_is_row rfl rfl fun cdv A outer s H E hr =>
    (vss_one (vs_ret (ve_and (ve_call v_is_number (hr.mono (by decide)) (takes_of rfl rfl rfl rfl) (va_cons (ve_ixA hr (ve_name 1) ve_int) (va_cons ve_int (va_cons (ve_gc T.c_LAST) va_nil)))) (ve_one (ve_inA hr (ve_ixA hr (ve_name 1) ve_int) (ve_prU pr_Book_kinds (hr.mono (by decide)) (ve_name 0)))))))
theorem ok_can_tell {f : Addr} {fd : FuncData} (F : Fun K "can_tell" "can_tell" s_can_tell f fd) (T : Txt K mg) (v_rests_seen : FnV P w K mg base 2 "rests_seen" false 3 m_rests_seen) :
    FnOk P w K mg base (L2.CX P w) 3 f fd ["sights", "piece", "modulus"] (spV K mg false 3 m_can_tell) :=
  okV false F sc_can_tell rfl rfl fun cdv A outer s H E hr =>
    (vss_cons (vs_asg (ve_call v_rests_seen (hr.mono (by decide)) (takes_of rfl rfl rfl rfl) (va_cons (ve_name 0) (va_cons (ve_name 1) (va_cons (ve_name 2) va_nil)))) (vg_tup rfl (vgs_cons (vg_name (i := 3) sc_can_tell.nd) (vgs_cons (vg_name (i := 4) sc_can_tell.nd) vgs_nil))))
      (vss_one (vs_ret (ve_not (ve_any rfl T.b_any (VF.ve (vf_comp (own := [(("rest" : Str), 5)]) rfl sc_can_tell.nd (vi_q (ve_name 3)) (blkOk_by (N := N_can_tell) (sc := defScope s_can_tell) (by decide +kernel)) (by decide) (fun _ _ _ _ _ => (vg_name (i := 5) sc_can_tell.nd)) (fun _ _ _ _ _ => vts_nil) (fun _ _ _ _ _ => (ve_inA hr (ve_name 5) (ve_name 4))))))))))
theorem ok_fitting {f : Addr} {fd : FuncData} (F : Fun K "fitting" "fitting" s_fitting f fd) (T : Txt K mg) (v_fits : FnV P w K mg base 3 "fits" false 3 m_fits) (pr_Book_rules : PrV P w K mg base 1 "Book" "rules" m_Book_rules) :
    FnOk P w K mg base (L2.CX P w) 4 f fd ["book", "number", "kind"] (spV K mg false 3 m_fitting) :=
  okV false F sc_fitting rfl rfl fun cdv A outer s H E hr =>
    (vss_one (vs_ret (VF.ve (vf_comp (gg := gTup K 2 (gCons (gName 3) (gCons (gName 4) (gNil)))) (own := [(("index" : Str), 3), (("rule" : Str), 4)]) rfl sc_fitting.nd (vi_enA T.b_enumerate (ve_prU pr_Book_rules (hr.mono (by decide)) (ve_name 0))) (blkOk_by (N := N_fitting) (sc := defScope s_fitting) (by decide +kernel)) (by decide) (fun _ _ _ _ _ => (vg_tup rfl (vgs_cons (vg_name (i := 3) sc_fitting.nd) (vgs_cons (vg_name (i := 4) sc_fitting.nd) vgs_nil)))) (fun _ _ _ _ _ => (vts_one (vt_val (ve_call v_fits (hr.mono (by decide)) takes0 (va_cons (ve_name 4) (va_cons (ve_name 1) (va_cons (ve_name 2) va_nil))))))) (fun _ _ _ _ _ => (ve_name 3))))))
theorem ok_lam_first_unlike_0 (T : Txt K mg) (v_is_row : FnV P w K mg base 3 "is_row" false 2 m_is_row) :
    LamOk P w K mg base 4 0 m_lam_first_unlike_0 :=
  lam_of (L := lc_0) T.lam_0 sc_lam_first_unlike_0 rfl bd_lam_first_unlike_0 fun A outer s H E f c' cells hr =>
    (ve_call v_is_row (hr.mono (by decide)) (takes_of rfl rfl rfl rfl) (va_cons (ve_name 1) (va_cons (ve_name 0) va_nil)))
theorem ok_place_of {f : Addr} {fd : FuncData} (F : Fun K "place_of" "place_of" s_place_of f fd) (T : Txt K mg) (v_fitting : FnV P w K mg base 4 "fitting" false 3 m_fitting) (pr_Book_rules : PrV P w K mg base 1 "Book" "rules" m_Book_rules) (pr_Rule_piece : PrV P w K mg base 1 "Rule" "piece" m_Rule_piece) :
    FnOk P w K mg base (L2.CX P w) 5 f fd ["book", "number", "kind"] (spV K mg false 3 m_place_of) :=
  okV false F sc_place_of rfl rfl fun cdv A outer s H E hr =>
    (vss_cons (vs_set (i := 3) sc_place_of.nd (ve_call v_fitting (hr.mono (by decide)) (takes_of rfl rfl rfl rfl) (va_cons (ve_name 0) (va_cons (ve_name 1) (va_cons (ve_name 2) va_nil)))))
      (vss_one (vs_ret (ve_if (vt_neV hr (ve_name 3) (VF.ve (vf_lst va_nil))) (ve_prU pr_Rule_piece (hr.mono (by decide)) (ve_ixA hr (ve_prU pr_Book_rules (hr.mono (by decide)) (ve_name 0)) (ve_ixA hr (ve_name 3) ve_int))) ve_non))))
theorem gs_check_sights (T : Txt K mg) (l_0 : LamOk P w K mg base 4 0 m_lam_first_unlike_0) (l_1 : LamOk P w K mg base 2 1 m_lam_check_seen_0) : LamsOk P w K mg base 4 G_check_sights := fun i => match i with
  | 0 => .inr ⟨by rw [T.lam_0]; rfl, by rw [T.lam_0]; decide +kernel, by rw [T.lam_0]; rfl, l_0.mono (by decide)⟩
  | 1 => .inr ⟨by rw [T.lam_1]; rfl, by rw [T.lam_1]; decide +kernel, by rw [T.lam_1]; rfl, l_1.mono (by decide)⟩
  | _ + 2 => .inl fun _ _ _ => rfl
theorem ok_check_sights {f : Addr} {fd : FuncData} (F : Fun K "check_sights" "check_sights" s_check_sights f fd) (T : Txt K mg) (v_is_word : FnV P w K mg base 1 "is_word" false 1 m_is_word) (gs_check_sights : LamsOk P w K mg base 4 G_check_sights) :
    FnOk P w K mg base (L2.CX P w) 5 f fd ["sights", "is_good"] (spG K mg false 2 m_check_sights) :=
  okVG false F sc_check_sights rfl rfl (by decide) fun cdv A outer s H E hr =>
    (vss_one (vs_for [2, 3, 4] (passes_of rfl) rfl (vi_enA T.b_enumerate (ve_name 0)) (vg_tup rfl (vgs_cons (vg_name (i := 2) sc_check_sights.nd) (vgs_cons (vg_tup rfl (vgs_cons (vg_name (i := 3) sc_check_sights.nd) (vgs_cons (vg_name (i := 4) sc_check_sights.nd) vgs_nil))) vgs_nil)))
      (vss_one (vs_if (PW.pt (vw_or (vt_eqV hr (ve_name 2) (ve_gc T.c_MAX_SIGHTS)) (vw_or (vt_not (vt_val (ve_callP 1 5 gs_check_sights (hr.mono (by decide)) (takes_of rfl rfl rfl rfl) (va_cons (ve_name 3) va_nil)))) (vw_or1 (PW.pt (vw_and (vt_notN (ve_name 4) ve_non) (vw_and1 (vt_not (vt_val (ve_call v_is_word (hr.mono (by decide)) (takes_of rfl rfl rfl rfl) (va_cons (ve_name 4) va_nil)))))))))))
      (vss_one vs_never)
      vss_nil))))
theorem ok_law_book {f : Addr} {fd : FuncData} (F : Fun K "_law_book" "_law_book" s_law_book f fd) (T : Txt K mg) (v_law_taken : FnV P w K mg base 1 "_law_taken" false 2 m_law_taken) (mk_Book : MkV P w K mg base 3 "Book" 3 m_Book_init) (mk_Rule : MkV P w K mg base 3 "Rule" 7 m_Rule_init) :
    FnOk P w K mg base (L2.CX P w) 5 f fd ["_law_row", "_law_wide", "_law_kinds_here"] (spV K mg false 3 m_law_book) :=
  okV false F sc_law_book rfl rfl fun cdv A outer s H E hr =>
    (vss_cons (vs_setF (i := 3) sc_law_book.nd (vf_lst va_nil))
      (vss_cons (vs_for [4, 5, 6, 7, 8, 10, 12] (passes_of rfl) rfl (vi_r1 T.b_range (ve_call v_law_taken (hr.mono (by decide)) (takes_of rfl rfl rfl rfl) (va_cons (ve_name 0) (va_cons ve_int va_nil)))) (vg_name (i := 4) sc_law_book.nd)
      (vss_cons (vs_set (i := 5) sc_law_book.nd (ve_call v_law_taken (hr.mono (by decide)) (takes_of rfl rfl rfl rfl) (va_cons (ve_name 0) (va_cons (ve_name 1) va_nil))))
      (vss_cons (vs_set (i := 6) sc_law_book.nd (ve_ixA hr (VF.ve (vf_lst (va_cons (ve_addA (ve_name 5) (ve_call v_law_taken (hr.mono (by decide)) (takes_of rfl rfl rfl rfl) (va_cons (ve_name 0) (va_cons (ve_name 1) va_nil)))) (va_cons (ve_sub (ve_pow ve_int ve_int) ve_int) va_nil)))) (ve_intc T.b_int (ve_eqV hr (ve_call v_law_taken (hr.mono (by decide)) (takes_of rfl rfl rfl rfl) (va_cons (ve_name 0) (va_cons ve_int va_nil))) ve_int))))
      (vss_cons (vs_set (i := 7) sc_law_book.nd (ve_ixA hr (VF.ve (vf_lst (va_cons ve_int (va_cons ve_int (va_cons ve_int (va_cons ve_int (va_cons ve_int (va_cons ve_int (va_cons ve_int va_nil))))))))) (ve_call v_law_taken (hr.mono (by decide)) (takes_of rfl rfl rfl rfl) (va_cons (ve_name 0) (va_cons ve_int va_nil)))))
      (vss_cons (vs_set (i := 8) sc_law_book.nd (ve_tuple1 T.b_tuple (VF.ve (vf_comp (own := [(("_law_rest" : Str), 9)]) rfl sc_law_book.nd (vi_r1 T.b_range (ve_name 7)) (blkOk_by (N := N_law_book) (sc := defScope s_law_book) (by decide +kernel)) (by decide) (fun _ _ _ _ _ => (vg_name (i := 9) sc_law_book.nd)) (fun _ _ _ _ _ => (vts_one (vt_eqV hr (ve_call v_law_taken (hr.mono (by decide)) takes0 (va_cons (ve_name 0) (va_cons ve_int va_nil))) ve_int))) (fun _ _ _ _ _ => (ve_name 9))))))
      (vss_cons (vs_set (i := 10) sc_law_book.nd (ve_tuple1 T.b_tuple (VF.ve (vf_comp (own := [(("_law_kind" : Str), 11)]) rfl sc_law_book.nd (vi_q (ve_name 2)) (blkOk_by (N := N_law_book) (sc := defScope s_law_book) (by decide +kernel)) (by decide) (fun _ _ _ _ _ => (vg_name (i := 11) sc_law_book.nd)) (fun _ _ _ _ _ => (vts_one (vt_oGt (ve_call v_law_taken (hr.mono (by decide)) takes0 (va_cons (ve_name 0) (va_cons ve_int va_nil))) ve_int))) (fun _ _ _ _ _ => (ve_name 11))))))
      (vss_cons (vs_set (i := 8) sc_law_book.nd (ve_if (vt_neV hr (ve_name 8) (ve_tup va_nil)) (ve_name 8) (ve_tup (va_cons (ve_call v_law_taken (hr.mono (by decide)) (takes_of rfl rfl rfl rfl) (va_cons (ve_name 0) (va_cons (ve_name 7) va_nil))) va_nil))))
      (vss_cons (vs_set (i := 12) sc_law_book.nd (ve_ixA hr (VF.ve (vf_lst (va_cons ve_str (va_cons ve_str (va_cons ve_str va_nil))))) (ve_call v_law_taken (hr.mono (by decide)) (takes_of rfl rfl rfl rfl) (va_cons (ve_name 0) (va_cons ve_int va_nil)))))
      (vss_one (vs_append (i := 3) (ve_makeZ mk_Rule (hr.mono (by decide)) (takes_of rfl rfl rfl rfl) (va_cons (ve_name 12) (va_cons (ve_name 5) (va_cons (ve_name 6) (va_cons (ve_name 7) (va_cons (ve_name 8) (va_cons (ve_if (vt_neV hr (ve_name 10) (ve_tup va_nil)) (ve_name 10) (ve_name 2)) va_nil)))))))))))))))))
      (vss_one (vs_ret (ve_makeZ mk_Book (hr.mono (by decide)) (takes_of rfl rfl rfl rfl) (va_cons (ve_name 2) (va_cons (ve_tuple1 T.b_tuple (ve_name 3)) va_nil)))))))
theorem ok_piece_of {f : Addr} {fd : FuncData} (F : Fun K "piece_of" "piece_of" s_piece_of f fd) (T : Txt K mg) (v_check_row : FnV P w K mg base 3 "check_row" false 2 m_check_row) (v_place_of : FnV P w K mg base 5 "place_of" false 3 m_place_of) :
    FnOk P w K mg base (L2.CX P w) 6 f fd ["book", "row"] (spV K mg false 2 m_piece_of) :=
  okV false F sc_piece_of rfl rfl fun cdv A outer s H E hr =>
    (vss_cons (vs_expr (ve_call v_check_row (hr.mono (by decide)) (takes_of rfl rfl rfl rfl) (va_cons (ve_name 0) (va_cons (ve_name 1) va_nil))))
      (vss_one (vs_ret (ve_call v_place_of (hr.mono (by decide)) (takes_of rfl rfl rfl rfl) (va_cons (ve_name 0) (va_cons (ve_ixA hr (ve_name 1) ve_int) (va_cons (ve_ixA hr (ve_name 1) ve_int) va_nil)))))))
theorem ok_first_unlike {f : Addr} {fd : FuncData} (F : Fun K "first_unlike" "first_unlike" s_first_unlike f fd) (T : Txt K mg) (hT : TabV base mg fd.code (("first_unlike" : Str) ++ ".<locals>." ++ "<lambda>")) (v_check_sights : FnG P w K mg base 5 "check_sights" false 2 m_check_sights) (v_place_of : FnV P w K mg base 5 "place_of" false 3 m_place_of) :
    FnOk P w K mg base (L2.CX P w) 6 f fd ["book", "sights"] (spV K mg false 2 m_first_unlike) :=
  okVL false F sc_first_unlike hT rfl rfl fun cdv A outer s H E hT hr =>
    (vss_cons (vs_expr (ve_callH v_check_sights (hr.mono (by decide)) (takes_of rfl rfl rfl rfl) (va_cons (ve_name 1) (va_cons (ve_lam 0 hT rfl T.lam_0 fr_lam_first_unlike_0) va_nil)) (jsOk_cons rfl rfl jsOk_nil)))
      (vss_cons (vs_for [2, 3, 4] (passes_of rfl) rfl (vi_enA T.b_enumerate (ve_name 1)) (vg_tup rfl (vgs_cons (vg_name (i := 2) sc_first_unlike.nd) (vgs_cons (vg_tup rfl (vgs_cons (vg_name (i := 3) sc_first_unlike.nd) (vgs_cons (vg_name (i := 4) sc_first_unlike.nd) vgs_nil))) vgs_nil)))
      (vss_one (vs_if (vt_neV hr (ve_call v_place_of (hr.mono (by decide)) (takes_of rfl rfl rfl rfl) (va_cons (ve_name 0) (va_cons (ve_ixA hr (ve_name 3) ve_int) (va_cons (ve_ixA hr (ve_name 3) ve_int) va_nil)))) (ve_name 4))
      (vss_one (vs_ret (ve_name 2)))
      vss_nil)))
      (vss_one (vs_ret ve_non))))
theorem ok_check_seen {f : Addr} {fd : FuncData} (F : Fun K "check_seen" "check_seen" s_check_seen f fd) (T : Txt K mg) (hT : TabV base mg fd.code (("check_seen" : Str) ++ ".<locals>." ++ "<lambda>")) (v_check_sights : FnG P w K mg base 5 "check_sights" false 2 m_check_sights) (v_is_word : FnV P w K mg base 1 "is_word" false 1 m_is_word) :
    FnOk P w K mg base (L2.CX P w) 6 f fd ["sights", "piece"] (spV K mg false 2 m_check_seen) :=
  okVL false F sc_check_seen hT rfl rfl fun cdv A outer s H E hT hr =>
    (vss_cons (vs_expr (ve_callH v_check_sights (hr.mono (by decide)) (takes_of rfl rfl rfl rfl) (va_cons (ve_name 0) (va_cons (ve_lam 1 hT rfl T.lam_1 fr_lam_check_seen_0) va_nil)) jsOk_nil))
      (vss_one (vs_if (vt_not (vt_val (ve_call v_is_word (hr.mono (by decide)) (takes_of rfl rfl rfl rfl) (va_cons (ve_name 1) va_nil))))
      (vss_one vs_never)
      vss_nil)))
theorem ok_moduli_for {f : Addr} {fd : FuncData} (F : Fun K "moduli_for" "moduli_for" s_moduli_for f fd) (T : Txt K mg) (v_can_tell : FnV P w K mg base 3 "can_tell" false 3 m_can_tell) (v_check_seen : FnV P w K mg base 6 "check_seen" false 2 m_check_seen) :
    FnOk P w K mg base (L2.CX P w) 7 f fd ["sights", "piece"] (spV K mg false 2 m_moduli_for) :=
  okV false F sc_moduli_for rfl rfl fun cdv A outer s H E hr =>
    (vss_cons (vs_expr (ve_call v_check_seen (hr.mono (by decide)) (takes_of rfl rfl rfl rfl) (va_cons (ve_name 0) (va_cons (ve_name 1) va_nil))))
      (vss_one (vs_ret (VF.ve (vf_comp (own := [(("modulus" : Str), 2)]) rfl sc_moduli_for.nd (vi_q (ve_gc T.c_MODULI)) (blkOk_by (N := N_moduli_for) (sc := defScope s_moduli_for) (by decide +kernel)) (by decide) (fun _ _ _ _ _ => (vg_name (i := 2) sc_moduli_for.nd)) (fun _ _ _ _ _ => (vts_one (vt_val (ve_call v_can_tell (hr.mono (by decide)) takes0 (va_cons (ve_name 0) (va_cons (ve_name 1) (va_cons (ve_name 2) va_nil))))))) (fun _ _ _ _ _ => (ve_name 2)))))))
theorem ok_rests_for {f : Addr} {fd : FuncData} (F : Fun K "rests_for" "rests_for" s_rests_for f fd) (T : Txt K mg) (v_can_tell : FnV P w K mg base 3 "can_tell" false 3 m_can_tell) (v_check_modulus : FnV P w K mg base 1 "check_modulus" false 1 m_check_modulus) (v_check_seen : FnV P w K mg base 6 "check_seen" false 2 m_check_seen) (v_rests_seen : FnV P w K mg base 2 "rests_seen" false 3 m_rests_seen) :
    FnOk P w K mg base (L2.CX P w) 7 f fd ["sights", "piece", "modulus"] (spV K mg false 3 m_rests_for) :=
  okV false F sc_rests_for rfl rfl fun cdv A outer s H E hr =>
    (vss_cons (vs_expr (ve_call v_check_seen (hr.mono (by decide)) (takes_of rfl rfl rfl rfl) (va_cons (ve_name 0) (va_cons (ve_name 1) va_nil))))
      (vss_cons (vs_expr (ve_call v_check_modulus (hr.mono (by decide)) (takes_of rfl rfl rfl rfl) (va_cons (ve_name 2) va_nil)))
      (vss_cons (vs_if (vt_not (vt_val (ve_call v_can_tell (hr.mono (by decide)) (takes_of rfl rfl rfl rfl) (va_cons (ve_name 0) (va_cons (ve_name 1) (va_cons (ve_name 2) va_nil))))))
      (vss_one (vs_ret ve_non))
      vss_nil)
      (vss_cons (vs_asg (ve_call v_rests_seen (hr.mono (by decide)) (takes_of rfl rfl rfl rfl) (va_cons (ve_name 0) (va_cons (ve_name 1) (va_cons (ve_name 2) va_nil)))) (vg_tup rfl (vgs_cons (vg_name (i := 3) sc_rests_for.nd) (vgs_cons (vg_name (i := 4) sc_rests_for.nd) vgs_nil))))
      (vss_one (vs_ret (ve_tup (va_cons (ve_tuple1 T.b_tuple (ve_name 3)) (va_cons (ve_tuple1 T.b_tuple (VF.ve (vf_comp (own := [(("rest" : Str), 5)]) rfl sc_rests_for.nd (vi_r1 T.b_range (ve_name 2)) (blkOk_by (N := N_rests_for) (sc := defScope s_rests_for) (by decide +kernel)) (by decide) (fun _ _ _ _ _ => (vg_name (i := 5) sc_rests_for.nd)) (fun _ _ _ _ _ => (vts_one (PW.pt (vw_and (vt_notinA hr (ve_name 5) (ve_name 3)) (vw_and1 (vt_notinA hr (ve_name 5) (ve_name 4))))))) (fun _ _ _ _ _ => (ve_name 5))))) va_nil)))))))))
theorem ok_law_are_fewer {f : Addr} {fd : FuncData} (F : Fun K "_law_are_fewer" "_law_are_fewer" s_law_are_fewer f fd) (T : Txt K mg) (v_moduli_for : FnV P w K mg base 7 "moduli_for" false 2 m_moduli_for) (v_rests_for : FnV P w K mg base 7 "rests_for" false 3 m_rests_for) :
    FnOk P w K mg base (L2.CX P w) 8 f fd ["_law_sights", "_law_piece", "_law_found"] (spV K mg false 3 m_law_are_fewer) :=
  okV false F sc_law_are_fewer rfl rfl fun cdv A outer s H E hr =>
    (vss_cons (vs_if (vt_neV hr (VF.ve (vf_comp (own := [(("_law_modulus" : Str), 3)]) rfl sc_law_are_fewer.nd (vi_q (ve_name 2)) (blkOk_by (N := N_law_are_fewer) (sc := defScope s_law_are_fewer) (by decide +kernel)) (by decide) (fun _ _ _ _ _ => (vg_name (i := 3) sc_law_are_fewer.nd)) (fun _ _ _ _ _ => (vts_one (vt_notinA hr (ve_name 3) (ve_call v_moduli_for (hr.mono (by decide)) takes0 (va_cons (ve_slA (ve_name 0) vo_none (vo_some (ve_neg ve_int))) (va_cons (ve_name 1) va_nil)))))) (fun _ _ _ _ _ => (ve_name 3)))) (VF.ve (vf_lst va_nil)))
      (vss_one (vs_ret ve_bl))
      vss_nil)
      (vss_cons (vs_if (PW.pt (vw_or (PW.pt (vw_and (vt_inA hr ve_int (ve_name 2)) (vw_and1 (vt_notinA hr ve_int (ve_name 2))))) (vw_or (PW.pt (vw_and (vt_inA hr ve_int (ve_name 2)) (vw_and1 (vt_notinA hr ve_int (ve_name 2))))) (vw_or1 (PW.pt (vw_and (vt_inA hr ve_int (ve_name 2)) (vw_and1 (vt_neV hr (ve_len1 T.b_len (ve_name 2)) ve_int))))))))
      (vss_one (vs_ret ve_bl))
      vss_nil)
      (vss_cons (vs_if (PW.pt (vw_or (vt_neV hr (ve_call v_moduli_for (hr.mono (by decide)) (takes_of rfl rfl rfl rfl) (va_cons (ve_addA (ve_name 0) (ve_slA (ve_name 0) vo_none (vo_some ve_int))) (va_cons (ve_name 1) va_nil))) (ve_name 2)) (vw_or1 (vt_neV hr (ve_call v_moduli_for (hr.mono (by decide)) (takes_of rfl rfl rfl rfl) (va_cons (ve_tup va_nil) (va_cons (ve_name 1) va_nil))) (VF.ve (vf_lst (va_cons ve_int (va_cons ve_int (va_cons ve_int (va_cons ve_int (va_cons ve_int (va_cons ve_int va_nil))))))))))))
      (vss_one (vs_ret ve_bl))
      vss_nil)
      (vss_cons (vs_if (vt_neV hr (ve_call v_rests_for (hr.mono (by decide)) (takes_of rfl rfl rfl rfl) (va_cons (ve_tup va_nil) (va_cons (ve_name 1) (va_cons ve_int va_nil)))) (ve_tup (va_cons (ve_tup va_nil) (va_cons (ve_tup (va_cons ve_int (va_cons ve_int (va_cons ve_int (va_cons ve_int va_nil))))) va_nil))))
      (vss_one (vs_ret ve_bl))
      vss_nil)
      (vss_one (vs_ret ve_bl))))))
theorem ok_law {f : Addr} {fd : FuncData} (F : Fun K "law" "law" s_law f fd) (T : Txt K mg) (v_first_unlike : FnV P w K mg base 6 "first_unlike" false 2 m_first_unlike) (v_law_are_fewer : FnV P w K mg base 8 "_law_are_fewer" false 3 m_law_are_fewer) (v_law_book : FnV P w K mg base 5 "_law_book" false 3 m_law_book) (v_law_kinds : FnV P w K mg base 2 "_law_kinds" false 1 m_law_kinds) (v_law_rows : FnV P w K mg base 2 "_law_rows" false 4 m_law_rows) (v_law_taken : FnV P w K mg base 1 "_law_taken" false 2 m_law_taken) (mk_Book : MkV P w K mg base 3 "Book" 3 m_Book_init) (mk_Rule : MkV P w K mg base 3 "Rule" 7 m_Rule_init) (v_moduli_for : FnV P w K mg base 7 "moduli_for" false 2 m_moduli_for) (v_piece_of : FnV P w K mg base 6 "piece_of" false 2 m_piece_of) (v_rests_for : FnV P w K mg base 7 "rests_for" false 3 m_rests_for) :
    FnOk P w K mg base (L2.CX P w) 9 f fd ["_law_script"] (spV K mg false 1 m_law) :=
  okV false F sc_law rfl rfl fun cdv A outer s H E hr =>
    (vss_cons (vs_cell (i := 1) sc_law.nd (va_cons (ve_name 0) (va_cons ve_int (va_cons ve_int (va_cons ve_int va_nil)))))
      (vss_cons (vs_for [2, 3, 4, 5, 6, 7, 9, 10, 11, 12, 13, 14, 15, 16, 17, 18, 19] (passes_of rfl) rfl (vi_r1 T.b_range ve_int) (vg_name (i := 2) sc_law.nd)
      (vss_cons (vs_par (i := 3) (j := 4) rfl sc_law.nd (va_cons (ve_call v_law_kinds (hr.mono (by decide)) (takes_of rfl rfl rfl rfl) (va_cons (ve_name 1) va_nil)) (va_cons (ve_ixA hr (VF.ve (vf_lst (va_cons ve_int (va_cons (ve_pow ve_int ve_int) va_nil)))) (ve_call v_law_taken (hr.mono (by decide)) (takes_of rfl rfl rfl rfl) (va_cons (ve_name 1) (va_cons ve_int va_nil)))) va_nil)))
      (vss_cons (vs_set (i := 5) sc_law.nd (ve_call v_law_book (hr.mono (by decide)) (takes_of rfl rfl rfl rfl) (va_cons (ve_name 1) (va_cons (ve_name 4) (va_cons (ve_name 3) va_nil)))))
      (vss_cons (vs_set (i := 6) sc_law.nd (ve_call v_law_rows (hr.mono (by decide)) (takes_of rfl rfl rfl rfl) (va_cons (ve_name 1) (va_cons (ve_name 3) (va_cons (ve_name 4) (va_cons ve_int va_nil))))))
      (vss_cons (vs_set (i := 7) sc_law.nd (ve_tuple1 T.b_tuple (VF.ve (vf_comp (own := [(("_law_one" : Str), 8)]) rfl sc_law.nd (vi_q (ve_name 6)) (blkOk_by (N := N_law) (sc := defScope s_law) (by decide +kernel)) (by decide) (fun _ _ _ _ _ => (vg_name (i := 8) sc_law.nd)) (fun _ _ _ _ _ => vts_nil) (fun _ _ _ _ _ => (ve_tup (va_cons (ve_name 8) (va_cons (ve_call v_piece_of (hr.mono (by decide)) takes0 (va_cons (ve_name 5) (va_cons (ve_name 8) va_nil))) va_nil))))))))
      (vss_cons (vs_if (PW.pt (vw_or (vt_notN (ve_call v_first_unlike (hr.mono (by decide)) (takes_of rfl rfl rfl rfl) (va_cons (ve_name 5) (va_cons (ve_name 7) va_nil))) ve_non) (vw_or1 (vt_notN (ve_call v_first_unlike (hr.mono (by decide)) (takes_of rfl rfl rfl rfl) (va_cons (ve_name 5) (va_cons (ve_addA (ve_name 7) (ve_slA (ve_name 7) vo_none (vo_some ve_int))) va_nil))) ve_non))))
      (vss_one (vs_ret ve_bl))
      vss_nil)
      (vss_cons (vs_for [9, 10] (passes_of rfl) rfl (vi_r1 T.b_range (ve_len1 T.b_len (ve_name 7))) (vg_name (i := 9) sc_law.nd)
      (vss_cons (vs_set (i := 10) sc_law.nd (ve_if (vt_isN (ve_ixA hr (ve_ixA hr (ve_name 7) (ve_name 9)) ve_int) ve_non) ve_str ve_non))
      (vss_one (vs_if (vt_neV hr (ve_call v_first_unlike (hr.mono (by decide)) (takes_of rfl rfl rfl rfl) (va_cons (ve_name 5) (va_cons (ve_addA (ve_addA (ve_slA (ve_name 7) vo_none (vo_some (ve_name 9))) (ve_tup (va_cons (ve_tup (va_cons (ve_ixA hr (ve_name 6) (ve_name 9)) (va_cons (ve_name 10) va_nil))) va_nil))) (ve_slA (ve_name 7) (vo_some (ve_addA (ve_name 9) ve_int)) vo_none)) va_nil))) (ve_name 9))
      (vss_one (vs_ret ve_bl))
      vss_nil))))
      (vss_cons (vs_set (i := 11) sc_law.nd (ve_ixA hr (VF.ve (vf_lst (va_cons ve_str (va_cons ve_str (va_cons ve_str va_nil))))) (ve_call v_law_taken (hr.mono (by decide)) (takes_of rfl rfl rfl rfl) (va_cons (ve_name 1) (va_cons ve_int va_nil)))))
      (vss_cons (vs_set (i := 12) sc_law.nd (ve_call v_moduli_for (hr.mono (by decide)) (takes_of rfl rfl rfl rfl) (va_cons (ve_name 7) (va_cons (ve_name 11) va_nil))))
      (vss_cons (vs_for [13, 14, 15, 16, 17, 18, 19] (passes_of rfl) rfl (vi_q (ve_tup (va_cons ve_int (va_cons ve_int (va_cons ve_int (va_cons ve_int (va_cons ve_int (va_cons ve_int va_nil)))))))) (vg_name (i := 13) sc_law.nd)
      (vss_cons (vs_set (i := 14) sc_law.nd (ve_call v_rests_for (hr.mono (by decide)) (takes_of rfl rfl rfl rfl) (va_cons (ve_name 7) (va_cons (ve_name 11) (va_cons (ve_name 13) va_nil)))))
      (vss_cons (vs_if (vt_neV hr (ve_isN (ve_name 14) ve_non) (ve_notinA hr (ve_name 13) (ve_name 12)))
      (vss_one (vs_ret ve_bl))
      vss_nil)
      (vss_one (vs_if (vt_notN (ve_name 14) ve_non)
      (vss_cons (vs_asg (ve_name 14) (vg_tup rfl (vgs_cons (vg_name (i := 15) sc_law.nd) (vgs_cons (vg_name (i := 16) sc_law.nd) vgs_nil))))
      (vss_cons (vs_if (PW.pt (vw_or (vt_neV hr (VF.ve (vf_comp (own := [(("_law_rest" : Str), 17)]) rfl sc_law.nd (vi_q (ve_name 15)) (blkOk_by (N := N_law) (sc := defScope s_law) (by decide +kernel)) (by decide) (fun _ _ _ _ _ => (vg_name (i := 17) sc_law.nd)) (fun _ _ _ _ _ => (vts_one (vt_inA hr (ve_name 17) (ve_name 16)))) (fun _ _ _ _ _ => (ve_name 17)))) (VF.ve (vf_lst va_nil))) (vw_or1 (vt_neV hr (VF.ve (vf_list T.b_list (ve_name 15))) (VF.ve (vf_sorted T.b_sorted (ve_name 15)))))))
      (vss_one (vs_ret ve_bl))
      vss_nil)
      (vss_one (vs_if (vt_neV hr (ve_name 15) (ve_tup va_nil))
      (vss_cons (vs_set (i := 18) sc_law.nd (ve_makeZ mk_Book (hr.mono (by decide)) (takes_of rfl rfl rfl rfl) (va_cons (ve_name 3) (va_cons (ve_tup (va_cons (ve_makeZ mk_Rule (hr.mono (by decide)) (takes_of rfl rfl rfl rfl) (va_cons (ve_name 11) (va_cons ve_int (va_cons (ve_sub (ve_pow ve_int ve_int) ve_int) (va_cons (ve_name 13) (va_cons (ve_name 15) (va_cons (ve_name 3) va_nil))))))) va_nil)) va_nil))))
      (vss_one (vs_for [8, 19] (passes_of rfl) rfl (vi_q (ve_name 7)) (vg_tup rfl (vgs_cons (vg_name (i := 8) sc_law.nd) (vgs_cons (vg_name (i := 19) sc_law.nd) vgs_nil)))
      (vss_one (vs_if (vt_neV hr (ve_eqV hr (ve_call v_piece_of (hr.mono (by decide)) (takes_of rfl rfl rfl rfl) (va_cons (ve_name 18) (va_cons (ve_name 8) va_nil))) (ve_name 11)) (ve_eqV hr (ve_name 19) (ve_name 11)))
      (vss_one (vs_ret ve_bl))
      vss_nil)))))
      (vss_one (vs_if (vt_neV hr (VF.ve (vf_comp (gg := gTup K 2 (gCons (gName 8) (gCons (gName 19) (gNil)))) (own := [(("_law_one" : Str), 8), (("_law_where" : Str), 19)]) rfl sc_law.nd (vi_q (ve_name 7)) (blkOk_by (N := N_law) (sc := defScope s_law) (by decide +kernel)) (by decide) (fun _ _ _ _ _ => (vg_tup rfl (vgs_cons (vg_name (i := 8) sc_law.nd) (vgs_cons (vg_name (i := 19) sc_law.nd) vgs_nil)))) (fun _ _ _ _ _ => (vts_one (vt_eqV hr (ve_name 19) (ve_name 11)))) (fun _ _ _ _ _ => (ve_name 19)))) (VF.ve (vf_lst va_nil)))
      (vss_one (vs_ret ve_bl))
      vss_nil))))))
      vss_nil)))))
      (vss_one (vs_if (vt_not (vt_val (ve_call v_law_are_fewer (hr.mono (by decide)) (takes_of rfl rfl rfl rfl) (va_cons (ve_name 7) (va_cons (ve_name 11) (va_cons (ve_name 12) va_nil))))))
      (vss_one (vs_ret ve_bl))
      vss_nil))))))))))))
      (vss_one (vs_ret ve_bl))))
end
end
end VP

namespace VP
local instance inst_SP1 : VE.VEnv := VE.VEnv.dummy
open PySem PySem.Spec PyProof.Rows L2 VE
open SX (S S_len S_cat S_inj)
section
variable {r : Rul} {b : Bok} {st : Sto} {n : Int} {k : Str}
@[simp] theorem sp_piece : m_Rule_piece [r.d] st = .ok (.str r.piece) st := by
  simp [m_Rule_piece, b_Rule_piece, toF_def, env0, Rul.d]
@[simp] theorem sp_low : m_Rule_low [r.d] st = .ok (.int r.low) st := by
  simp [m_Rule_low, b_Rule_low, toF_def, env0, Rul.d]
@[simp] theorem sp_high : m_Rule_high [r.d] st = .ok (.int r.high) st := by
  simp [m_Rule_high, b_Rule_high, toF_def, env0, Rul.d]
@[simp] theorem sp_modulus : m_Rule_modulus [r.d] st = .ok (.int r.modulus) st := by
  simp [m_Rule_modulus, b_Rule_modulus, toF_def, env0, Rul.d]
@[simp] theorem sp_rests : m_Rule_rests [r.d] st = .ok (.tup (r.rests.map .int)) st := by
  simp [m_Rule_rests, b_Rule_rests, toF_def, env0, Rul.d]
@[simp] theorem sp_kinds : m_Rule_kinds [r.d] st = .ok (.tup (r.kinds.map .str)) st := by
  simp [m_Rule_kinds, b_Rule_kinds, toF_def, env0, Rul.d]
@[simp] theorem sp_bkinds : m_Book_kinds [b.d] st = .ok (.tup (b.kinds.map .str)) st := by
  simp [m_Book_kinds, b_Book_kinds, toF_def, env0, Bok.d]
@[simp] theorem sp_brules : m_Book_rules [b.d] st = .ok (.tup (b.rules.map Rul.d)) st := by
  simp [m_Book_rules, b_Book_rules, toF_def, env0, Bok.d]

@[simp] theorem pr_rul {mf : FM} {env : EnvD} : prU "Rule" mf r.d env st = kPr3 (mf [r.d] st) env st := by
  unfold Rul.d; simp
@[simp] theorem pr_bok {mf : FM} {env : EnvD} : prU "Book" mf b.d env st = kPr3 (mf [b.d] st) env st := by
  unfold Bok.d; simp
@[simp] theorem callR_of {mf : FM} {ds : List D} {env : EnvD} : callR mf ds env st = ofRF (mf ds st) env st := x_callR
theorem toF_rt {n : Nat} {g : M Fl} {ds : List D} {d : D} {e : EnvD} {st' : Sto} (h : g (env0 n ds) st = .ok (.rt d) e st') : toF false n g ds st = .ok d st' := by
  unfold toF; rw [h]; rfl
theorem sp_rest_of {m : Int} (h : 0 < m) : m_rest_of [.int n, .int m] st = .ok (.int (n % m)) st := by
  simp [m_rest_of, b_rest_of, toF_def, env0, modI, h]
theorem sp_fits (hr : RulOk r) (hk : PyData.strOk k = true) : m_fits [r.d, .int n, .str k] st = .ok (.bl (fitsB n k r)) st := by
  have h2 := @sp_rest_of st n r.modulus hr.mpos
  have h5 := in_strs (neg := false) hk hr.kinds.ok
  unfold fitsB
  simp [m_fits, b_fits, toF_def, env0]
  by_cases c1 : r.low ≤ n
  · by_cases c2 : n ≤ r.high
    · by_cases c3 : n % r.modulus ∈ r.rests
      · simp [c1, c2, c3, h2, h5]
      · simp [c1, c2, c3, h2, h5]
    · simp [c1, c2]
  · simp [c1]
/-- the places of all rules that fit -/
def Bok.fit (b : Bok) (n : Int) (k : Str) : List Nat := (b.rules.zipIdx.filter fun p => fitsB n k p.1).map (·.2)
theorem sp_fitting (hb : BokOk b) (hk : PyData.strOk k = true) : m_fitting [b.d, .int n, .str k] st = .ok (.lst ((b.fit n k).map fun i => .int (i : Nat))) st := by
  have hl := hb.rlen
  simp [m_fitting, b_fitting, toF_def, env0, enu_map]
  rw [comp_map (p := fun q : Rul × Nat => fitsB n k q.1) (f := fun q => .int (q.2 : Nat)) (by simp; omega)]
  · simp [Bok.fit, Function.comp_def]
  · intro q hq
    have hr := hb.rules _ (List.fst_mem_of_mem_zipIdx hq)
    simp [sp_fits hr hk]

theorem fit_find {p : Rul → Bool} : ∀ (xs : List Rul) (j : Nat), match ((xs.zipIdx j).filter fun q => p q.1).map (·.2) with
    | [] => xs.find? p = none
    | i :: _ => ∃ r m, i = j + m ∧ xs[m]? = some r ∧ xs.find? p = some r
  | [], j => by simp
  | x :: xs, j => by
    have ih := fit_find (p := p) xs (j + 1)
    rw [List.zipIdx_cons]
    cases hp : p x with
    | true =>
      rw [List.filter_cons_of_pos (by simpa using hp), List.map_cons]
      exact ⟨x, 0, rfl, rfl, by rw [List.find?_cons, hp]⟩
    | false =>
      rw [List.filter_cons_of_neg (by simp [hp]), List.find?_cons, hp]
      generalize ((xs.zipIdx (j + 1)).filter fun q => p q.1).map (·.2) = l at ih
      cases l with
      | nil => exact ih
      | cons i t =>
        obtain ⟨r, m, h1, h2, h3⟩ := ih
        exact ⟨r, m + 1, by omega, by simpa using h2, h3⟩
theorem sp_place_of (hb : BokOk b) (hk : PyData.strOk k = true) : m_place_of [b.d, .int n, .str k] st = .ok (optS (b.place n k)) st := by
  have h1 := @sp_fitting b st n k hb hk
  have h2 := fit_find (p := fitsB n k) b.rules 0
  unfold Bok.fit at h1
  unfold Bok.place
  simp only [m_place_of, b_place_of, toF_def, env0]
  generalize ((b.rules.zipIdx 0).filter fun q => fitsB n k q.1).map (·.2) = l at h1 h2
  cases l with
  | nil => simp [h1, h2, optS]
  | cons i t =>
    obtain ⟨r, m, e1, e2, e3⟩ := h2
    rw [Nat.zero_add] at e1
    subst e1
    have h4 : atI (b.rules.map Rul.d) (i : Int) = some r.d := atI_nat (by rw [List.getElem?_map, e2]; rfl)
    simp [h1, e3, optS, h4]

theorem sp_is_number {i lo hi : Int} : m_is_number [.int i, .int lo, .int hi] st = .ok (.bl (decide (lo ≤ i) && decide (i ≤ hi))) st := by
  simp only [m_is_number, b_is_number, toF_def, env0]
  by_cases h : lo ≤ i
  · simp [h]
  · simp [h]
/-- a row of the book -/
structure RowOk (b : Bok) (n : Int) (k : Str) : Prop where
  n0 : 0 ≤ n
  n1 : n ≤ LASTn
  k : k ∈ b.kinds
theorem sp_is_row (hb : BokOk b) (h : RowOk b n k) : m_is_row [b.d, .tup [.int n, .str k]] st = .ok (.bl true) st := by
  have h5 := in_strs (neg := false) (hb.kinds.ok k h.k) hb.kinds.ok
  have h1 := h.n1
  unfold LASTn at h1
  have h6 : (b.kinds.any fun z => decide (z = k)) = true := by simpa using h.k
  simp [m_is_row, b_is_row, toF_def, env0, k_LAST, sp_is_number, h5, h.n0, h1, h6]
theorem let_in {c : Nat} (h : 97 ≤ c ∧ c < 123) : inText (S [c]) "abcdefghijklmnopqrstuvwxyz" = true := by
  have : ∀ k < 26, inText (S [97 + k]) "abcdefghijklmnopqrstuvwxyz" = true := by decide +kernel
  have := this (c - 97) (by omega)
  rwa [show 97 + (c - 97) = c from by omega] at this
theorem sp_is_word {w : Str} (h : WOk w) : m_is_word [.str w] st = .ok (.bl true) st := by
  obtain ⟨L, rfl, h1, h8, hc⟩ := h
  have h2 : (1 : Int) ≤ L.length := by omega
  have h3 : (L.length : Int) ≤ 8 := by omega
  have h4 : L.length ≤ 16777216 := by omega
  simp [m_is_word, b_is_word, toF_def, env0, lenD, k_MAX_WORD, h2, h3, h4, signs_S, S_len]
  rw [comp_all (f := fun _ => .bl true) (by omega)]
  · simp [allD, blsF_map]
  · intro c hcm
    simp [k_LETTERS, let_in (hc c hcm)]
theorem ascI_zip : ∀ {xs : List Int}, ascI xs = true → ((xs.zip xs.tail).map fun p => decide (p.1 < p.2)).all id = true
  | [], _ => rfl
  | [x], _ => rfl
  | x :: y :: xs, h => by
    simp only [ascI, List.head?_cons, Option.all_some, Bool.and_eq_true] at h
    have ih := ascI_zip (xs := y :: xs) (by simp only [ascI, Bool.and_eq_true]; exact ⟨h.2.1, h.2.2⟩)
    simp only [List.tail_cons, List.zip_cons_cons, List.map_cons, List.all_cons, id, h.1, Bool.true_and] at ih ⊢
    exact ih
theorem ascS_zip : ∀ {xs : List Str}, ascS xs = true → ((xs.zip xs.tail).map fun p => ltS p.1 p.2).all id = true
  | [], _ => rfl
  | [x], _ => rfl
  | x :: y :: xs, h => by
    simp only [ascS, List.head?_cons, Option.all_some, Bool.and_eq_true] at h
    have ih := ascS_zip (xs := y :: xs) (by simp only [ascS, Bool.and_eq_true]; exact ⟨h.2.1, h.2.2⟩)
    simp only [List.tail_cons, List.zip_cons_cons, List.map_cons, List.all_cons, id, h.1, Bool.true_and] at ih ⊢
    exact ih
theorem cut1 {xs : List D} : VE.cutD xs (some 1) none = xs.tail := by
  unfold VE.cutD
  have h2 : HT.sIx xs.length xs.length none = xs.length := rfl
  rw [h2]
  have h1 : HT.sIx xs.length 0 (some 1) = min 1 xs.length := by simp only [HT.sIx]; split <;> omega
  rw [h1, List.take_of_length_le (by simp)]
  cases xs with
  | nil => rfl
  | cons x xs => simp
theorem sp_ascendI {xs : List Int} (h : ascI xs = true) (hl : xs.length < 1000) : m_ascend [.tup (xs.map .int)] st = .ok (.bl true) st := by
  have hz := ascI_zip h
  simp [m_ascend, b_ascend, toF_def, env0, cut1, ← List.map_tail, zip_map]
  rw [comp_all (f := fun p => .bl (decide (p.1 < p.2))) (by simp; omega)]
  · simp [allD, blsF_map]
    simpa using hz
  · rintro ⟨a, b⟩ _
    simp
theorem sp_ascendS {xs : List Str} (h : ascS xs = true) (hl : xs.length < 1000) : m_ascend [.tup (xs.map .str)] st = .ok (.bl true) st := by
  have hz := ascS_zip h
  simp [m_ascend, b_ascend, toF_def, env0, cut1, ← List.map_tail, zip_map]
  rw [comp_all (f := fun p => .bl (ltS p.1 p.2)) (by simp; omega)]
  · simp [allD, blsF_map]
    simpa using hz
  · rintro ⟨a, b⟩ _
    simp

theorem sp_are_kinds {ks : List Str} (h : KOk ks) : m_are_kinds [.tup (ks.map .str)] st = .ok (.bl true) st := by
  have hl := h.len
  have hne : ks.map D.str ≠ [] := by simpa using h.ne
  have e0 : eqDs (ks.map D.str) [] = false := by
    cases hk : ks with
    | nil => exact absurd hk h.ne
    | cons => simp
  simp [m_are_kinds, b_are_kinds, toF_def, env0, h.pl, e0]
  rw [comp_all (f := fun _ => .bl true) (by omega)]
  · simp [allD, blsF_map, sp_ascendS h.asc hl]
  · intro k hk
    simp [sp_is_word (h.w k hk)]
theorem sp_are_rests {m : Int} {xs : List Int} (hne : xs ≠ []) (hin : ∀ x ∈ xs, 0 ≤ x ∧ x < m) (hasc : ascI xs = true) (hl : xs.length < 1000) : m_are_rests [.int m, .tup (xs.map .int)] st = .ok (.bl true) st := by
  have e0 : eqDs (xs.map D.int) [] = false := by
    cases hk : xs with
    | nil => exact absurd hk hne
    | cons => simp
  simp [m_are_rests, b_are_rests, toF_def, env0, e0]
  rw [comp_all (f := fun _ => .bl true) (by omega)]
  · simp [allD, blsF_map, sp_ascendI hasc hl]
  · intro k hk
    have := hin k hk
    have h2 : k ≤ m - 1 := by omega
    simp [sp_is_number, this.1, h2, subI]
theorem ascS_at : ∀ {xs : List Str} {i : Nat} {a b : Str}, ascS xs = true → xs[i]? = some a → xs[i + 1]? = some b → ltS a b = true
  | [], i, a, b, _, h1, _ => by simp at h1
  | [x], 0, a, b, _, _, h2 => by simp at h2
  | [x], i + 1, a, b, _, h1, _ => by simp at h1
  | x :: y :: xs, 0, a, b, h, h1, h2 => by
    simp only [ascS, List.head?_cons, Option.all_some, Bool.and_eq_true] at h
    simp at h1 h2; subst h1; subst h2; exact h.1
  | x :: y :: xs, i + 1, a, b, h, h1, h2 => by
    simp only [ascS, List.head?_cons, Option.all_some, Bool.and_eq_true] at h
    exact ascS_at (xs := y :: xs) (i := i) (by simp only [ascS, Bool.and_eq_true]; exact ⟨h.2.1, h.2.2⟩) (by simpa using h1) (by simpa using h2)
theorem zip_mem {α : Type} {xs : List α} {p : α × Nat} (h : p ∈ xs.zipIdx) : xs[p.2]? = some p.1 := by
  obtain ⟨a, i⟩ := p
  have := List.mem_zipIdx h
  simp at this
  obtain ⟨h1, h2⟩ := this
  rw [List.getElem?_eq_getElem h1, h2]
theorem sp_check_kinds {ks : List Str} (h : KOk ks) (h4 : ks.length ≤ 4) : m_check_kinds [.tup (ks.map .str)] st = .ok .non st := by
  have e0 : eqDs (ks.map D.str) [] = false := by
    cases hk : ks with
    | nil => exact absurd hk h.ne
    | cons => simp
  simp [m_check_kinds, b_check_kinds, toF_def, env0, enu_map]
  rw [for_fold (E := fun (_ : Unit) => [.va (.tup (ks.map .str)), .no, .no]) (step := fun _ _ => ()) (s := ())]
  · simp [h.pl, e0]
  · rintro _ ⟨k, i⟩ hm
    have hk := zip_mem hm
    have hi := (List.getElem?_eq_some_iff.mp hk).1
    have hw := h.w k (List.mem_of_getElem? hk)
    have hn4 : ¬ ((i : Int) = 4) := by simp at hi ⊢; omega
    cases i with
    | zero => simp [k_MAX_KINDS, sp_is_word hw]
    | succ i =>
      simp only at hk hi
      obtain ⟨a, ha⟩ : ∃ a, ks[i]? = some a := ⟨_, List.getElem?_eq_getElem (by omega)⟩
      have hlt := ascS_at h.asc ha hk
      have hat : atI (ks.map D.str) (i : Int) = some (.str a) := atI_nat (by rw [List.getElem?_map, ha]; rfl)
      have hat' : atI (ks.map D.str) ((i : Int) + 1 - 1) = some (.str a) := by rw [show (i : Int) + 1 - 1 = i from by omega]; exact hat
      have hp : (0 : Int) < (i : Int) + 1 := by omega
      have hn4 : ¬ ((i : Int) + 1 = 4) := by omega
      simp [hat', k_MAX_KINDS, sp_is_word hw, subI, hn4, hp, hat, hlt]

theorem last_at {α : Type} {xs : List α} {x : α} : (xs ++ [x])[xs.length]? = some x := by simp
theorem set_last {α : Type} {xs : List α} {x y : α} : (xs ++ [x]).set xs.length y = xs ++ [y] := by simp
theorem sp_Rule_init (h : RulOk r) : m_Rule_init [.ref st.length, .str r.piece, .int r.low, .int r.high, .int r.modulus, .tup (r.rests.map .int), .tup (r.kinds.map .str)] (st ++ [.slo "Rule" []]) =
    .ok .non (st ++ [.slo "Rule" [.tup [.str r.piece, .int r.low, .int r.high, .int r.modulus, .tup (r.rests.map .int), .tup (r.kinds.map .str)]]]) := by
  have h1 := h.low1
  have h2 := h.high1
  unfold LASTn at h1 h2
  have hm : inV true (.int r.modulus) k_MODULI = some (.bl false) := by
    have e : k_MODULI = .tup (([1, 2, 3, 4, 6, 12] : List Int).map .int) := rfl
    rw [e, in_ints, decide_eq_true h.mod]; rfl
  have hm' : inA true (.int r.modulus) k_MODULI = fun env st => VE.ret (inV true (.int r.modulus) k_MODULI) env st := rfl
  simp [m_Rule_init, b_Rule_init, toF_def, env0, sp_is_word h.piece, sp_is_number, k_LAST, h.low0, h1, h.high0, h2, hm, hm', sp_are_rests h.rne h.rin h.rasc h.rlen, sp_are_kinds h.kinds]
theorem mk_Rule (h : RulOk r) {env : EnvD} : frzS "Rule" env st (m_Rule_init [.ref st.length, .str r.piece, .int r.low, .int r.high, .int r.modulus, .tup (r.rests.map .int), .tup (r.kinds.map .str)] (st ++ [.slo "Rule" []])) = .ok r.d env st := by
  rw [sp_Rule_init h, frzS_ok]
  · rfl
  · have := @Rul.d_rf st.length r
    simpa [Rul.d] using this
theorem sp_Book_init (h : BokOk b) : m_Book_init [.ref st.length, .tup (b.kinds.map .str), .tup (b.rules.map Rul.d)] (st ++ [.slo "Book" []]) =
    .ok .non (st ++ [.slo "Book" [.tup [.tup (b.kinds.map .str), .tup (b.rules.map Rul.d)]]]) := by
  simp [m_Book_init, b_Book_init, toF_def, env0, sp_check_kinds h.kinds h.klen, enu_map]
  rw [for_fold (E := fun (_ : Unit) => [.va (.ref st.length), .va (.tup (b.kinds.map .str)), .va (.tup (b.rules.map Rul.d)), .no, .no, .no]) (step := fun _ _ => ()) (s := ())]
  · simp
  · rintro _ ⟨r, i⟩ hm
    have hk := zip_mem hm
    have hi := (List.getElem?_eq_some_iff.mp hk).1
    have hr := List.mem_of_getElem? hk
    have hn8 : ¬ ((i : Int) = 8) := by have := h.rlen; simp at hi; omega
    simp [k_MAX_RULES, hn8]
    rw [comp_all (f := fun _ => .bl true) (by have := (h.rules r hr).kinds.len; omega)]
    · simp [allD, blsF_map]
    · intro k hk
      have h5 := in_strs (neg := false) ((h.rules r hr).kinds.ok k hk) h.kinds.ok
      have h6 : (b.kinds.any fun z => decide (z = k)) = true := by simpa using h.sub r hr k hk
      simp [h5, h6]
theorem Bok.d_rf {n : Nat} : rfB n b.d = true := by
  have h1 : rfBs n (b.kinds.map D.str) = true := rfs_all fun x hx => by obtain ⟨y, _, rfl⟩ := List.mem_map.mp hx; exact rf_str
  have h2 : rfBs n (b.rules.map Rul.d) = true := rfs_all fun x hx => by obtain ⟨y, _, rfl⟩ := List.mem_map.mp hx; exact Rul.d_rf
  simp [Bok.d, h1, h2]
theorem mk_Book (h : BokOk b) {env : EnvD} : frzS "Book" env st (m_Book_init [.ref st.length, .tup (b.kinds.map .str), .tup (b.rules.map Rul.d)] (st ++ [.slo "Book" []])) = .ok b.d env st := by
  rw [sp_Book_init h, frzS_ok]
  · rfl
  · have := @Bok.d_rf b st.length
    simpa [Bok.d] using this
theorem mk_RuleC {p : Str} {l h m : Int} {rs : List Int} {ks : List Str} {c : Cell} (hr : RulOk ⟨p, l, h, m, rs, ks⟩) {env : EnvD} : frzS "Rule" env (c :: st) (m_Rule_init [.ref (st.length + 1), .str p, .int l, .int h, .int m, .tup (rs.map .int), .tup (ks.map .str)] (c :: (st ++ [.slo "Rule" []]))) = .ok (Rul.d ⟨p, l, h, m, rs, ks⟩) env (c :: st) := mk_Rule (st := c :: st) hr
theorem mk_BookC {ks : List Str} {rs : List Rul} {c : Cell} (hb : BokOk ⟨ks, rs⟩) {env : EnvD} : frzS "Book" env (c :: st) (m_Book_init [.ref (st.length + 1), .tup (ks.map .str), .tup (rs.map Rul.d)] (c :: (st ++ [.slo "Book" []]))) = .ok (Bok.d ⟨ks, rs⟩) env (c :: st) := mk_Book (st := c :: st) hb
end
end VP

namespace VP
local instance inst_SD1 : VE.VEnv := VE.VEnv.dummy
open PySem PySem.Spec PyProof.Rows L2 VE
open SX (S S_len S_cat S_inj)
/-- the law's row of draws: the script, where it is read, the seed, what is left -/
def drwC (ns : List Int) (p s l : Int) : Cell := .lst [.scr ns, .int p, .int s, .int l]
def DrawOk (ns : List Int) (c : Cell) : Prop := ∃ p s l, c = drwC ns p s l ∧ 0 ≤ p ∧ 0 ≤ s ∧ s < 2147483647
theorem taken {ns : List Int} {c : Cell} {rest : Sto} {many : Int} (hc : DrawOk ns c) (h0 : 0 < many) (h1 : many ≤ 10000000000000000000000000000000000000000) :
    ∃ r c', m_law_taken [.ref 0, .int many] (c :: rest) = .ok (.int r) (c' :: rest) ∧ 0 ≤ r ∧ r < many ∧ DrawOk ns c' := by
  obtain ⟨p, s, l, rfl, hp, hs0, hs1⟩ := hc
  have hd := divOk_ h0 h1
  by_cases hl : 0 < l
  · refine ⟨l % many, drwC ns p s (l / many), ?_, Int.emod_nonneg _ (by omega), Int.emod_lt_of_pos _ h0, ⟨p, s, _, rfl, hp, hs0, hs1⟩⟩
    simp [m_law_taken, b_law_taken, toF_def, env0, drwC, hl, h0, hd]
  · have hl' : ¬ (0 < l) := hl
    by_cases hq : (ns.length : Int) < p + 1
    · refine ⟨((s * 48271 + 11) % 2147483647 / 7) % many, drwC ns (p + 1) ((s * 48271 + 11) % 2147483647) l, ?_, Int.emod_nonneg _ (by omega), Int.emod_lt_of_pos _ h0, ⟨_, _, _, rfl, by omega, by omega, by omega⟩⟩
      have hm : mulOk s 48271 = true := mulOk_r (by decide)
      have hd7 : divOk 7 = true := divOk_ (by decide) (by decide)
      simp [m_law_taken, b_law_taken, toF_def, env0, drwC, hl', h0, hd, hq, hm, hd7]
    · obtain ⟨cell, hcell⟩ : ∃ cell, atI ns p = some cell := by
        rw [atI_pos hp (by omega)]
        exact ⟨ns[p.toNat]'(by omega), List.getElem?_eq_getElem (by omega)⟩
      have hm : mulOk s 48271 = true := mulOk_r (by decide)
      by_cases hbig : (1000000000000000000 : Int) ≤ cell
      · refine ⟨cell % many, drwC ns (p + 1) ((s * 48271 + cell + 11) % 2147483647) (cell / many), ?_, Int.emod_nonneg _ (by omega), Int.emod_lt_of_pos _ h0, ⟨_, _, _, rfl, by omega, by omega, by omega⟩⟩
        simp [m_law_taken, b_law_taken, toF_def, env0, drwC, hl', h0, hd, hq, hm, hcell, hbig]
      · refine ⟨cell % many, drwC ns (p + 1) ((s * 48271 + cell + 11) % 2147483647) l, ?_, Int.emod_nonneg _ (by omega), Int.emod_lt_of_pos _ h0, ⟨_, _, _, rfl, by omega, by omega, by omega⟩⟩
        simp [m_law_taken, b_law_taken, toF_def, env0, drwC, hl', h0, hd, hq, hm, hcell, hbig]
end VP

namespace VP
local instance inst_SD2 : VE.VEnv := VE.VEnv.dummy
open PySem PySem.Spec PyProof.Rows L2 VE
open SX (S S_len S_cat S_inj)
def Ka : List Str := ["a"]
def Kb : List Str := ["a", "b"]
def Kc : List Str := ["a", "b", "c"]
def KA (ks : List Str) : Prop := ks = Ka ∨ ks = Kb ∨ ks = Kc
theorem w1 {c : Nat} (h : 97 ≤ c ∧ c < 123) {x : Str} (e : x = S [c]) : WOk x := ⟨[c], e, by simp, by simp, by simpa using h⟩
theorem wa : WOk "a" := w1 (c := 97) (by decide) rfl
theorem wb : WOk "b" := w1 (c := 98) (by decide) rfl
theorem wc : WOk "c" := w1 (c := 99) (by decide) rfl
theorem wx : WOk "x" := w1 (c := 120) (by decide) rfl
theorem wy : WOk "y" := w1 (c := 121) (by decide) rfl
theorem wz : WOk "z" := w1 (c := 122) (by decide) rfl
theorem KA.ok {ks : List Str} (h : KA ks) : KOk ks := by
  rcases h with rfl | rfl | rfl
  · exact ⟨by simp [Ka], by simp [Ka]; exact wa, by decide, by decide⟩
  · exact ⟨by simp [Kb], by simp [Kb]; exact ⟨wa, wb⟩, by decide, by decide⟩
  · exact ⟨by simp [Kc], by simp [Kc]; exact ⟨wa, wb, wc⟩, by decide, by decide⟩
theorem KA.asc {ks : List Str} (h : KA ks) : ks.Pairwise fun x y => ltS x y = true := by
  rcases h with rfl | rfl | rfl <;> decide
theorem KA.len {ks : List Str} (h : KA ks) : ks.length ≤ 3 := by
  rcases h with rfl | rfl | rfl <;> decide
section
variable {ns : List Int} {c : Cell} {rest : Sto} {env : EnvD}
theorem atI3 {a b c : D} {r : Int} (h0 : 0 ≤ r) (h3 : r < 3) : atI [a, b, c] r = some (if r = 0 then a else if r = 1 then b else c) := by
  obtain ⟨n, rfl⟩ : ∃ n : Nat, r = n := ⟨r.toNat, by omega⟩
  match n, h3 with
  | 0, _ => rfl
  | 1, _ => rfl
  | 2, _ => rfl
theorem atI2 {a b : D} {r : Int} (h0 : 0 ≤ r) (h3 : r < 2) : atI [a, b] r = some (if r = 0 then a else b) := by
  obtain ⟨n, rfl⟩ : ∃ n : Nat, r = n := ⟨r.toNat, by omega⟩
  match n, h3 with
  | 0, _ => rfl
  | 1, _ => rfl
theorem law_kinds (hc : DrawOk ns c) : ∃ ks c', m_law_kinds [.ref 0] (c :: rest) = .ok (.tup (ks.map .str)) (c' :: rest) ∧ KA ks ∧ DrawOk ns c' := by
  obtain ⟨r, c', e, h0, h1, hc'⟩ := taken (rest := rest) (many := 3) hc (by decide) (by decide)
  refine ⟨if r = 0 then Ka else if r = 1 then Kb else Kc, c', ?_, ?_, hc'⟩
  · simp [m_law_kinds, b_law_kinds, toF_def, env0, e, atI3 h0 h1]
    split
    · rfl
    · split <;> rfl
  · unfold KA
    split
    · exact .inl rfl
    · split
      · exact .inr (.inl rfl)
      · exact .inr (.inr rfl)
def MD7 : List Int := [1, 1, 2, 3, 4, 6, 12]
theorem md7 {r : Int} (h0 : 0 ≤ r) (h7 : r < 7) : ∃ m, atI (MD7.map D.int) r = some (.int m) ∧ m ∈ [1, 2, 3, 4, 6, 12] := by
  obtain ⟨n, rfl⟩ : ∃ n : Nat, r = n := ⟨r.toNat, by omega⟩
  match n, h7 with
  | 0, _ => exact ⟨1, rfl, by decide⟩
  | 1, _ => exact ⟨1, rfl, by decide⟩
  | 2, _ => exact ⟨2, rfl, by decide⟩
  | 3, _ => exact ⟨3, rfl, by decide⟩
  | 4, _ => exact ⟨4, rfl, by decide⟩
  | 5, _ => exact ⟨6, rfl, by decide⟩
  | 6, _ => exact ⟨12, rfl, by decide⟩
end
end VP

namespace VP
local instance inst_SD3 : VE.VEnv := VE.VEnv.dummy
open PySem PySem.Spec PyProof.Rows L2 VE
open SX (S S_len S_cat S_inj)
section
variable {ns : List Int} {c : Cell} {rest : Sto} {env : EnvD}
theorem drawT {many lo : Int} {c : Cell} (hc : DrawOk ns c) (h0 : 0 < many) (h1 : many ≤ 10000000000000000000000000000000000000000) : True := trivial
/-- the rests that are drawn -/
theorem rests_drawn {m : Int} (hm : m ∈ [1, 2, 3, 4, 6, 12]) {e : EnvD} (he : e[9]? = some .no) (e0 : e[0]? = some (.va (.ref 0))) (hc : DrawOk ns c) :
    ∃ xs c', compL (gN 9) [9] (eT (eBin (sv2 eqP) (eCall m_law_taken 2 (eCons (eVar 0) (eCons (eC (.int 2)) (eNil)))) (eC (.int 0)))) (eVar 9) (rngD 0 m.toNat) [] e (c :: rest) = .ok (.lst (xs.map .int)) e (c' :: rest) ∧ DrawOk ns c' ∧ (∀ x ∈ xs, 0 ≤ x ∧ x < m) ∧ ascI xs = true ∧ xs.length < 1000 := by
  have hl : 9 < e.length := (List.getElem?_eq_some_iff.mp he).1
  have hw : e.set 9 .no = e := by
    apply List.ext_getElem?
    intro i
    by_cases q : 9 = i
    · subst q; rw [List.getElem?_set_self hl, he]
    · rw [List.getElem?_set_ne q]
  have hm12 : m.toNat ≤ 12 := by simp at hm; omega
  rw [rng_map]
  obtain ⟨ys, st', h1, ⟨c', rfl, hc'⟩, h3⟩ := comp_draw (t := gN 9) (ws := [9]) (tt := eT (eBin (sv2 eqP) (eCall m_law_taken 2 (eCons (eVar 0) (eCons (eC (.int 2)) (eNil)))) (eC (.int 0)))) (fe := eVar 9) (g := D.int) (E0 := e) (fun st => ∃ c', st = c' :: rest ∧ DrawOk ns c') ((List.range m.toNat).map fun i => 0 + ((i : Nat) : Int)) [] e (c :: rest) hw ⟨c, rfl, hc⟩ (by simp; omega) (by
    rintro x st hx ⟨c1, rfl, hc1⟩
    obtain ⟨r, c2, e1, _, _, hc2⟩ := taken (rest := rest) (many := 2) hc1 (by decide) (by decide)
    refine ⟨_, rfl, decide (r = 0), e.set 9 (.va (.int x)), c2 :: rest, ?_, ⟨c2, rfl, hc2⟩, ?_, e.set 9 (.va (.int x)), ?_, ?_⟩
    · simp [List.getElem?_set_ne, e0, e1]
    · simp [hw]
    · simp [hl]
    · simp [hw])
  refine ⟨ys, c', h3, hc', fun x hx => ?_, ascI_sub h1 rng_asc, ?_⟩
  · have := h1.subset hx
    simp at this
    obtain ⟨a, ha, rfl⟩ := this
    omega
  · have := h1.length_le
    simp at this
    omega
theorem kinds_drawn {ks : List Str} (hk : KA ks) {e : EnvD} (he : e[11]? = some .no) (e0 : e[0]? = some (.va (.ref 0))) (hc : DrawOk ns c) :
    ∃ (xs : List Str) (c' : Cell), compL (gN 11) [11] (eT (eBin gGtA (eCall m_law_taken 2 (eCons (eVar 0) (eCons (eC (.int 3)) (eNil)))) (eC (.int 0)))) (eVar 11) (ks.map .str) [] e (c :: rest) = .ok (.lst (xs.map .str)) e (c' :: rest) ∧ DrawOk ns c' ∧ xs.Sublist ks := by
  have hl : 11 < e.length := (List.getElem?_eq_some_iff.mp he).1
  have hw : e.set 11 .no = e := by
    apply List.ext_getElem?
    intro i
    by_cases q : 11 = i
    · subst q; rw [List.getElem?_set_self hl, he]
    · rw [List.getElem?_set_ne q]
  have hkl := hk.len
  obtain ⟨ys, st', h1, ⟨c', rfl, hc'⟩, h3⟩ := comp_draw (t := gN 11) (ws := [11]) (tt := eT (eBin gGtA (eCall m_law_taken 2 (eCons (eVar 0) (eCons (eC (.int 3)) (eNil)))) (eC (.int 0)))) (fe := eVar 11) (g := D.str) (E0 := e) (fun st => ∃ c', st = c' :: rest ∧ DrawOk ns c') ks [] e (c :: rest) hw ⟨c, rfl, hc⟩ (by simp; omega) (by
    rintro x st hx ⟨c1, rfl, hc1⟩
    obtain ⟨r, c2, e1, _, _, hc2⟩ := taken (rest := rest) (many := 3) hc1 (by decide) (by decide)
    refine ⟨_, rfl, decide (0 < r), e.set 11 (.va (.str x)), c2 :: rest, ?_, ⟨c2, rfl, hc2⟩, ?_, e.set 11 (.va (.str x)), ?_, ?_⟩
    · simp [List.getElem?_set_ne, e0, e1]
    · simp [hw]
    · simp [hl]
    · simp [hw])
  exact ⟨ys, c', h3, hc', h1⟩

theorem xyz {r : Int} (h0 : 0 ≤ r) (h3 : r < 3) : ∃ w, atI [D.str ("x" : Str), .str ("y" : Str), .str ("z" : Str)] r = some (.str w) ∧ WOk w ∧ (w = "x" ∨ w = "y" ∨ w = "z") := by
  rw [atI3 h0 h3]
  split
  · exact ⟨_, rfl, wx, .inl rfl⟩
  · split
    · exact ⟨_, rfl, wy, .inr (.inl rfl)⟩
    · exact ⟨_, rfl, wz, .inr (.inr rfl)⟩
structure RulA (ks : List Str) (r : Rul) : Prop where
  ok : RulOk r
  sub : ∀ k ∈ r.kinds, k ∈ ks
  pc : r.piece = "x" ∨ r.piece = "y" ∨ r.piece = "z"
theorem law_book {ks : List Str} {wide : Int} (hk : KA ks) (hc : DrawOk ns c) (w0 : 0 < wide) (w1 : wide ≤ 10000000000000000000000000000) :
    (m_law_book [.ref 0, .int wide, .tup (ks.map .str)] (c :: rest)).sat (fun d s => ∃ b c', d = Bok.d b ∧ s = c' :: rest ∧ DrawOk ns c' ∧ BokOk b ∧ b.kinds = ks ∧ b.rules.length ≤ 4 ∧ ∀ r ∈ b.rules, RulA ks r) nE := by
  unfold m_law_book; refine toF_sat ?_
  obtain ⟨r0, c0, e0, h00, h01, hc0⟩ := taken (rest := rest) (many := 5) hc (by decide) (by decide)
  simp [b_law_book, env0, e0, rOk_ (j := r0) (by omega) (by omega)]
  refine sat_for (fun i e s => ∃ rs c', e = [.va (.ref 0), .va (.int wide), .va (.tup (ks.map .str)), .ow (.lst (rs.map Rul.d)), .no, .no, .no, .no, .no, .no, .no, .no, .no] ∧ s = c' :: rest ∧ DrawOk ns c' ∧ rs.length = i ∧ ∀ r ∈ rs, RulA ks r) 0 ⟨[], c0, rfl, rfl, hc0, rfl, by simp⟩ ?_ ?_
  · rintro i d e s hd ⟨rs, c1, rfl, rfl, hc1, hlen, hrs⟩
    obtain ⟨rfl, hi⟩ := rng_at hd
    have wb : wide ≤ 10000000000000000000000000000000000000000 := by omega
    obtain ⟨low, c2, e2, l0, l1, hc2⟩ := taken (rest := rest) (many := wide) hc1 w0 wb
    obtain ⟨hi1, c3, e3, k0, k1, hc3⟩ := taken (rest := rest) (many := wide) hc2 w0 wb
    obtain ⟨q5, c4, e4, _, _, hc4⟩ := taken (rest := rest) (many := 5) hc3 (by decide) (by decide)
    obtain ⟨q7, c5, e5, q70, q71, hc5⟩ := taken (rest := rest) (many := 7) hc4 (by decide) (by decide)
    obtain ⟨m, em, hm⟩ := md7 q70 q71
    have hm0 : 0 < m := by simp at hm; omega
    have hm12 : m ≤ 12 := by simp at hm; omega
    simp [MD7] at em
    have rm := rOk_ (j := m) (by omega) (by omega)
    obtain ⟨xs, c6, e6, hc6, x6, a6, l6⟩ := rests_drawn (rest := rest) hm (e := [.va (.ref 0), .va (.int wide), .va (.tup (ks.map .str)), .ow (.lst (rs.map Rul.d)), .va (.int (i : Nat)), .va (.int low), .va (.int (if q5 = 0 then 999999999999999999999999999999 else low + hi1)), .va (.int m), .no, .no, .no, .no, .no]) rfl rfl hc5
    obtain ⟨kk1, c7, e7, hc7, s7⟩ := kinds_drawn (rest := rest) hk (e := [.va (.ref 0), .va (.int wide), .va (.tup (ks.map .str)), .ow (.lst (rs.map Rul.d)), .va (.int (i : Nat)), .va (.int low), .va (.int (if q5 = 0 then 999999999999999999999999999999 else low + hi1)), .va (.int m), .va (.tup (xs.map .int)), .no, .no, .no, .no]) rfl rfl hc6
    generalize hH : (if q5 = 0 then 999999999999999999999999999999 else low + hi1) = hh at e6 e7
    have hh0 : low ≤ hh := by rw [← hH]; split <;> omega
    have hh1 : hh ≤ LASTn := by rw [← hH]; unfold LASTn; split <;> omega
    -- the kinds
    obtain ⟨k2, hk2, hk2s, hkey⟩ : ∃ k2 : List Str, KOk k2 ∧ (∀ k ∈ k2, k ∈ ks) ∧ (if kk1 = [] then ks else kk1) = k2 := by
      refine ⟨_, ?_, ?_, rfl⟩
      · split
        · exact hk.ok
        · rename_i hne
          have hl := hk.len
          have hs := s7.length_le
          exact ⟨hne, fun k hk' => hk.ok.w k (s7.subset hk'), ascS_sub s7 hk.asc, by omega⟩
      · split
        · exact fun k h => h
        · exact fun k h => s7.subset h
    have fin : ∀ (w : Str) (ys : List Int), WOk w → (w = "x" ∨ w = "y" ∨ w = "z") → ys ≠ [] → (∀ x ∈ ys, 0 ≤ x ∧ x < m) → ascI ys = true → ys.length < 1000 → RulA ks ⟨w, low, hh, m, ys, k2⟩ := fun w ys q1 q2 q3 q4 q5 q6 =>
      ⟨⟨q1, l0, by show low ≤ LASTn; unfold LASTn; omega, hh0, hh1, hm, q3, q4, q5, q6, hk2⟩, hk2s, q2⟩
    have hrl : rs.length < 5 := by omega
    have hl : rs.length < 16777216 := by omega
    cases xs with
    | nil =>
      obtain ⟨y, c8, e8, y0, y1, hc8⟩ := taken (rest := rest) (many := m) hc7 hm0 (by omega)
      obtain ⟨q3, c9, e9, q0, q1, hc9⟩ := taken (rest := rest) (many := 3) hc8 (by decide) (by decide)
      obtain ⟨w, ew, hw, hw3⟩ := xyz q0 q1
      have F := fin w [y] hw hw3 (by simp) (by simp; omega) rfl (by simp)
      have mk := fun (st : Sto) (env : EnvD) (cc : Cell) => mk_RuleC (st := st) (env := env) (c := cc) F.ok
      simp at e6 e7
      cases kk1 with
      | nil =>
        simp at hkey e7
        subst hkey
        simp at mk
        simp [e2, e3, e4, e5, em, rm, e6, e7, hH, e8, e9, ew, mk, hl]
        refine ⟨rs ++ [_], by rw [List.map_append]; rfl, hc9, by simp; omega, by rintro r' hr'; rcases List.mem_append.mp hr' with hr' | hr'; exact hrs _ hr'; rw [List.mem_singleton.mp hr']; exact F⟩
      | cons kk kks =>
        have p1 : PyData.strOk kk = true := hk.ok.ok kk (s7.subset List.mem_cons_self)
        have p2 := fun m => (pl_strs (n := m) (ks := kks) fun k hk' => hk.ok.ok k (s7.subset (List.mem_cons_of_mem _ hk')))
        simp at hkey e7
        subst hkey
        simp at mk
        simp [e2, e3, e4, e5, em, rm, e6, e7, hH, e8, e9, ew, mk, p1, p2, hl]
        refine ⟨rs ++ [_], by rw [List.map_append]; rfl, hc9, by simp; omega, by rintro r' hr'; rcases List.mem_append.mp hr' with hr' | hr'; exact hrs _ hr'; rw [List.mem_singleton.mp hr']; exact F⟩
    | cons x xs =>
      obtain ⟨q3, c9, e9, q0, q1, hc9⟩ := taken (rest := rest) (many := 3) hc7 (by decide) (by decide)
      obtain ⟨w, ew, hw, hw3⟩ := xyz q0 q1
      have F := fin w (x :: xs) hw hw3 (by simp) x6 a6 l6
      have mk := fun (st : Sto) (env : EnvD) (cc : Cell) => mk_RuleC (st := st) (env := env) (c := cc) F.ok
      simp at e6 e7
      cases kk1 with
      | nil =>
        simp at hkey e7
        subst hkey
        simp at mk
        simp [e2, e3, e4, e5, em, rm, e6, e7, hH, e9, ew, mk, hl]
        refine ⟨rs ++ [_], by rw [List.map_append]; rfl, hc9, by simp; omega, by rintro r' hr'; rcases List.mem_append.mp hr' with hr' | hr'; exact hrs _ hr'; rw [List.mem_singleton.mp hr']; exact F⟩
      | cons kk kks =>
        have p1 : PyData.strOk kk = true := hk.ok.ok kk (s7.subset List.mem_cons_self)
        have p2 := fun m => (pl_strs (n := m) (ks := kks) fun k hk' => hk.ok.ok k (s7.subset (List.mem_cons_of_mem _ hk')))
        simp at hkey e7
        subst hkey
        simp at mk
        simp [e2, e3, e4, e5, em, rm, e6, e7, hH, e9, ew, mk, p1, p2, hl]
        refine ⟨rs ++ [_], by rw [List.map_append]; rfl, hc9, by simp; omega, by rintro r' hr'; rcases List.mem_append.mp hr' with hr' | hr'; exact hrs _ hr'; rw [List.mem_singleton.mp hr']; exact F⟩
  · rintro e s ⟨rs, c', rfl, rfl, hc', hlen, hrs⟩
    have hb : BokOk ⟨ks, rs⟩ := ⟨hk.ok, by have := hk.len; show ks.length ≤ 4; omega, fun r hr => (hrs r hr).ok, by simp at hlen; show rs.length ≤ 8; omega, fun r hr k hk' => (hrs r hr).sub k hk'⟩
    simp [mk_BookC hb]
    exact ⟨⟨ks, rs⟩, rfl, hc', hb, rfl, by simp at hlen; show rs.length ≤ 4; omega, hrs⟩
end
end VP

namespace VP
local instance inst_SD4 : VE.VEnv := VE.VEnv.dummy
open PySem PySem.Spec PyProof.Rows L2 VE
open SX (S S_len S_cat S_inj)
def rowD (p : Int × Str) : D := .tup [.int p.1, .str p.2]
@[simp] theorem eq_row {p q : Int × Str} : eqD (rowD p) (rowD q) = decide (p = q) := by
  obtain ⟨a, b⟩ := p
  obtain ⟨c, d⟩ := q
  simp [rowD]
theorem any_rows {q : Int × Str} : ∀ {rows : List (Int × Str)}, (rows.map rowD).any (fun z => eqD z (rowD q)) = decide (q ∈ rows)
  | [] => by simp
  | p :: ps => by
    rw [List.map_cons, List.any_cons, any_rows, eq_row]
    by_cases h : p = q
    · subst h; simp
    · have : ¬ q = p := fun z => h z.symm
      simp [h, this]
theorem pl_row {n : Nat} {q : Int × Str} (h : PyData.strOk q.2 = true) : plain (n + 1) (rowD q) = true := by
  have h1 : plain n (.int q.1) = true := pl_int
  have h2 : plain n (.str q.2) = true := by rw [pl_str]; exact h
  unfold rowD
  simp only [pl_tup, pls_cons, pls_nil, h1, h2]; rfl
theorem pl_rows {n : Nat} {rows : List (Int × Str)} (h : ∀ p ∈ rows, PyData.strOk p.2 = true) : plains (n + 1) (rows.map rowD) = true := pls_map fun p hp => pl_row (h p hp)
theorem in_rows {neg : Bool} {q : Int × Str} {rows : List (Int × Str)} (hq : PyData.strOk q.2 = true) (h : ∀ p ∈ rows, PyData.strOk p.2 = true) : inV neg (rowD q) (.lst (rows.map rowD)) = some (.bl (ng neg (decide (q ∈ rows)))) := by
  rw [inV_lst (pl_row hq) (by simpa using pl_rows h), any_rows]
theorem in_rowsT {neg : Bool} {q : Int × Str} {rows : List (Int × Str)} (hq : PyData.strOk q.2 = true) (h : ∀ p ∈ rows, PyData.strOk p.2 = true) : inV neg (rowD q) (.tup (rows.map rowD)) = some (.bl (ng neg (decide (q ∈ rows)))) := by
  rw [inV_tup (pl_row hq) (by simpa using pl_rows h), any_rows]
def kR (p : Int × Str) : List Key := [.inl p.1, .inr p.2]
/-- rows in order -/
def sortR (rows : List (Int × Str)) : List (Int × Str) := srtB kR rows
theorem kD_row {p : Int × Str} : kD (rowD p) = kR p := rfl
theorem insB_map {α β : Type} {f : α → β} {kA : α → List Key} {kB : β → List Key} (hk : ∀ x, kB (f x) = kA x) {p : α} : ∀ {xs : List α}, insB kB (f p) (xs.map f) = (insB kA p xs).map f
  | [] => rfl
  | q :: qs => by
    simp only [List.map_cons, insB]
    rw [insB_map hk]
    by_cases h : lexK (kA q) (kA p) = true
    · rw [if_pos (by rw [hk, hk]; exact h), if_pos h]; rfl
    · rw [if_neg (by rw [hk, hk]; exact h), if_neg h]; rfl
theorem srtB_map {α β : Type} {f : α → β} {kA : α → List Key} {kB : β → List Key} (hk : ∀ x, kB (f x) = kA x) : ∀ {xs : List α}, srtB kB (xs.map f) = (srtB kA xs).map f
  | [] => rfl
  | p :: ps => by
    simp only [List.map_cons, srtB]
    rw [srtB_map hk]
    exact insB_map hk
theorem srtB_rows {rows : List (Int × Str)} : srtB kD (rows.map rowD) = (sortR rows).map rowD := srtB_map fun _ => rfl
theorem sort_rows {rows : List (Int × Str)} : sortL (rows.map rowD) = some ((sortR rows).map rowD) := by
  unfold sortL
  rw [srtB_rows, if_pos]
  cases rows with
  | nil => rfl
  | cons p ps =>
    have : ∀ d ∈ (p :: ps).map rowD, isRow [true, false] d = true := by
      intro d hd
      obtain ⟨q, _, rfl⟩ := List.mem_map.mp hd
      rfl
    have h2 : ((p :: ps).map rowD).all (isRow [true, false]) = true := List.all_eq_true.mpr this
    have h3 : (((p :: ps).map rowD).head?.map fun d => shp (kD d)).getD [] = [true, false] := rfl
    rw [h3, h2]
    simp
@[simp] theorem sortedL_rows {rows : List (Int × Str)} : sortedD (.lst (rows.map rowD)) = some (.lst ((sortR rows).map rowD)) := by
  simp only [sortedD, sort_rows]; rfl
@[simp] theorem sortedT_rows {rows : List (Int × Str)} : sortedD (.tup (rows.map rowD)) = some (.lst ((sortR rows).map rowD)) := by
  simp only [sortedD, sort_rows]; rfl
theorem mem_sortR {rows : List (Int × Str)} {p : Int × Str} : p ∈ sortR rows ↔ p ∈ rows := (srtB_perm (k := kR) rows).mem_iff
section
variable {ns : List Int} {c : Cell} {st : Sto} {env : EnvD} {b : Bok} {n : Int} {k : Str}
theorem any_in {ks : List Str} {k : Str} : (ks.any fun z => decide (z = k)) = decide (k ∈ ks) := by
  induction ks with
  | nil => simp
  | cons a as ih =>
    rw [List.any_cons, ih]
    by_cases h : a = k
    · subst h; simp
    · have : ¬ k = a := fun z => h z.symm
      simp [h, this]
theorem find_some {p : Rul → Bool} : ∀ {xs : List Rul}, xs.findSome? (fun r => if p r then some (D.str r.piece) else none) = (xs.find? p).map fun r => D.str r.piece
  | [] => rfl
  | x :: xs => by
    rw [List.findSome?_cons, List.find?_cons]
    cases p x with
    | true => rfl
    | false => exact find_some
end
end VP

namespace VP
local instance inst_SD5 : VE.VEnv := VE.VEnv.dummy
open PySem PySem.Spec PyProof.Rows L2 VE
open SX (S S_len S_cat S_inj)
section
variable {α : Type} {t : D → EnvD → Option EnvD} {ws : List Nat} {g : α → D} {st : Sto}
/-- a loop as a fold; a law holds from turn to turn -/
theorem for_foldP {σ : Type} {body : M Fl} (E : σ → EnvD) (step : σ → α → σ) (I : Nat → σ → Prop) : ∀ (xs : List α) (j : Nat) (s : σ), I j s → (∀ i s a, xs[i]? = some a → I (j + i) s → I (j + i + 1) (step s a) ∧ ∃ e1, t (g a) (E s) = some e1 ∧ ∃ e2, body e1 st = .ok .nx e2 st ∧ wipeD ws e2 = E (step s a)) →
    forL t ws body (xs.map g) (E s) st = .ok .nx (E (xs.foldl step s)) st ∧ I (j + xs.length) (xs.foldl step s)
  | [], j, s, h0, _ => ⟨rfl, h0⟩
  | a :: xs, j, s, h0, h => by
    obtain ⟨h4, e1, h1, e2, h2, h3⟩ := h 0 s a rfl h0
    obtain ⟨i1, i2⟩ := for_foldP E step I xs (j + 1) (step s a) h4 fun i s' b hb hI => by
      have := h (i + 1) s' b (by simpa using hb) (by rw [show j + (i + 1) = j + 1 + i from by omega]; exact hI)
      rwa [show j + (i + 1) = j + 1 + i from by omega] at this
    refine ⟨?_, by rw [show j + (a :: xs).length = j + 1 + xs.length from by simp only [List.length_cons]; omega]; exact i2⟩
    rw [List.map_cons]
    unfold forL
    rw [h1]
    dsimp only
    rw [h2, R.bind_ok]
    dsimp only
    rw [h3, i1]
    rfl
end
theorem fold_filter {α β : Type} (p : α → Bool) (f : α → β) : ∀ (xs : List α) (acc : List β), xs.foldl (fun acc x => if p x then acc ++ [f x] else acc) acc = acc ++ (xs.filter p).map f
  | [], acc => by simp
  | x :: xs, acc => by
    rw [List.foldl_cons, fold_filter p f xs]
    cases h : p x with
    | true => rw [List.filter_cons_of_pos h]; simp
    | false => rw [List.filter_cons_of_neg (by simp [h])]; simp
theorem cut0 {xs : List D} {i : Nat} (h : i ≤ xs.length) : VE.cutD xs none (some (i : Int)) = xs.take i := by
  unfold VE.cutD
  have h2 : HT.sIx xs.length 0 none = 0 := rfl
  have h1 : HT.sIx xs.length xs.length (some (i : Int)) = i := by simp only [HT.sIx]; split <;> omega
  rw [h1, h2]
  simp
theorem cut0' {xs : List D} : VE.cutD xs none (some 1) = xs.take 1 := by
  cases xs with
  | nil => rfl
  | cons x xs => exact cut0 (i := 1) (by simp)
/-- some rows of a book -/
structure RowsOk (b : Bok) (rows : List (Int × Str)) : Prop where
  r : ∀ p ∈ rows, RowOk b p.1 p.2
  nd : rows.Nodup
  len : rows.length ≤ 30
def nm (b : Bok) (p : Int × Str) : Str := (b.place p.1 p.2).getD ("" : Str)
def mvD (b b' : Bok) (p : Int × Str) : D := .tup [rowD p, .str (nm b p), .str (nm b' p)]
def movesR (b b' : Bok) (rows : List (Int × Str)) : List (Int × Str) := (sortR rows).filter fun p => !decide (nm b p = nm b' p)
section
variable {ns : List Int} {c : Cell} {rest st : Sto} {env : EnvD} {b b' : Bok} {n : Int} {k : Str} {rows : List (Int × Str)} {p : Int × Str}
theorem nm_ok (hb : BokOk b) : PyData.strOk (nm b p) = true := by
  unfold nm Bok.place
  cases h : b.rules.find? (fitsB p.1 p.2) with
  | none => show PyData.strOk (S []) = true; exact S_ok (by simp)
  | some r => exact (hb.rules r (List.mem_of_find?_eq_some h)).piece.ok
theorem RowsOk.ok (hb : BokOk b) (h : RowsOk b rows) : ∀ p ∈ rows, PyData.strOk p.2 = true := fun p hp => hb.kinds.ok _ (h.r p hp).k
theorem nodup_take {α : Type} : ∀ {xs : List α} {i : Nat} {x : α}, xs.Nodup → xs[i]? = some x → x ∉ xs.take i
  | [], i, x, _, h => by simp at h
  | y :: ys, 0, x, _, _ => by simp
  | y :: ys, i + 1, x, hn, h => by
    rw [List.take_succ_cons, List.mem_cons]
    rw [List.nodup_cons] at hn
    have h : ys[i]? = some x := by simpa using h
    rintro (rfl | h2)
    · exact hn.1 (List.mem_of_getElem? h)
    · exact nodup_take hn.2 h h2
theorem law_rows {ks : List Str} {wide most : Int} (hk : KA ks) (hc : DrawOk ns c) (w0 : 0 < wide) (w1 : wide ≤ 10000000000000000000000000000) (m0 : 0 ≤ most) (m1 : most ≤ 30) :
    (m_law_rows [.ref 0, .tup (ks.map .str), .int wide, .int most] (c :: rest)).sat (fun d s => ∃ (rows : List (Int × Str)) (c' : Cell), d = .tup (rows.map rowD) ∧ s = c' :: rest ∧ DrawOk ns c' ∧ rows.Nodup ∧ (rows.length : Int) ≤ most ∧ ∀ p ∈ rows, 0 ≤ p.1 ∧ p.1 ≤ LASTn ∧ p.2 ∈ ks) nE := by
  unfold m_law_rows; refine toF_sat ?_
  obtain ⟨r0, c0, e0, h00, h01, hc0⟩ := taken (rest := rest) (many := most + 1) hc (by omega) (by omega)
  simp [b_law_rows, env0, e0, rOk_ (j := r0) (by omega) (by omega)]
  refine sat_for (fun i e s => ∃ (rs : List (Int × Str)) (c' : Cell), e = [.va (.ref 0), .va (.tup (ks.map .str)), .va (.int wide), .va (.int most), .va (.lst (rs.map rowD)), .no, .no, .no] ∧ s = c' :: rest ∧ DrawOk ns c' ∧ rs.Nodup ∧ rs.length ≤ i ∧ ∀ p ∈ rs, 0 ≤ p.1 ∧ p.1 ≤ LASTn ∧ p.2 ∈ ks) 0 ⟨[], c0, rfl, rfl, hc0, by simp, by simp, by simp⟩ ?_ ?_
  · rintro i d e s hd ⟨rs, c1, rfl, rfl, hc1, hnd, hlen, hrs⟩
    obtain ⟨rfl, hi⟩ := rng_at hd
    obtain ⟨q1, c2, e2, l0, l1, hc2⟩ := taken (rest := rest) (many := 2 * wide) hc1 (by omega) (by omega)
    obtain ⟨q2, c3, e3, k0, k1, hc3⟩ := taken (rest := rest) (many := 9) hc2 (by decide) (by decide)
    obtain ⟨q3, c4, e4, _, _, hc4⟩ := taken (rest := rest) (many := 8) hc3 (by decide) (by decide)
    have hkl := hk.len
    have hne := hk.ok.ne
    have hkp : 0 < ks.length := List.length_pos_iff.mpr hne
    obtain ⟨q4, c5, e5, g0, g1, hc5⟩ := taken (rest := rest) (many := (ks.length : Int)) hc4 (by omega) (by omega)
    obtain ⟨kd, hkd⟩ : ∃ kd, ks[q4.toNat]? = some kd := ⟨_, List.getElem?_eq_getElem (by omega)⟩
    have hat : atI (ks.map D.str) q4 = some (.str kd) := by
      rw [show q4 = (q4.toNat : Int) from by omega]
      exact atI_nat (by rw [List.getElem?_map, hkd]; rfl)
    have hkm := List.mem_of_getElem? hkd
    have hmul : mulOk 2 wide = true := mulOk_l (by decide)
    generalize hH : (if q3 = 0 then 999999999999999999999999999999 - q2 else q1) = num
    have hn0 : 0 ≤ num := by rw [← hH]; split <;> omega
    have hn1 : num ≤ LASTn := by rw [← hH]; unfold LASTn; split <;> omega
    have hin := in_rows (neg := false) (q := (num, kd)) (rows := rs) (hk.ok.ok _ hkm) fun p hp => hk.ok.ok _ (hrs p hp).2.2
    simp only [rowD] at hin
    by_cases hm : (num, kd) ∈ rs
    · simp [e2, e3, e4, e5, hat, hmul, hH, hin, hm]
      exact ⟨rs, rfl, hc5, hnd, by omega, fun a b h => hrs (a, b) h⟩
    · have hl : rs.length + 1 ≤ 16777216 := by omega
      simp [e2, e3, e4, e5, hat, hmul, hH, hin, hm, hl]
      refine ⟨rs ++ [(num, kd)], by rw [List.map_append]; rfl, hc5, ?_, by simp; omega, ?_⟩
      · rw [List.nodup_append]
        refine ⟨hnd, by simp, ?_⟩
        intro x hx y hy
        rw [List.mem_singleton.mp hy]
        rintro rfl
        exact hm hx
      · intro a b h
        rcases List.mem_append.mp h with h | h
        · exact hrs (a, b) h
        · have := List.mem_singleton.mp h
          obtain ⟨rfl, rfl⟩ := Prod.mk.inj this
          exact ⟨hn0, hn1, hkm⟩
  · rintro e s ⟨rs, c', rfl, rfl, hc', hnd, hlen, hrs⟩
    simp
    simp at hlen
    exact ⟨rs, rfl, hc', hnd, by omega, fun a b h => hrs (a, b) h⟩
end
end VP

/-! rows by pieces -/
namespace VP
local instance inst_SP2 : VE.VEnv := VE.VEnv.dummy
open PySem PySem.Spec PyProof.Rows L2 VE
open SX (S S_len S_cat S_inj)
section
variable {st cs : List Cell} {d d' x : Cell} {j : Nat}
theorem sg0 : (st ++ d :: cs)[st.length]? = some d := by rw [List.getElem?_append_right (by omega)]; simp
theorem sg : (st ++ d :: cs)[st.length + (j + 1)]? = cs[j]? := by
  rw [List.getElem?_append_right (by omega), show st.length + (j + 1) - st.length = j + 1 from by omega]; rfl
theorem ss0 : (st ++ d :: cs).set st.length d' = st ++ d' :: cs := by
  rw [List.set_append_right _ _ (by omega)]; simp
theorem ss1 : (st ++ d :: cs).set (st.length + (j + 1)) x = st ++ d :: cs.set j x := by
  rw [List.set_append_right _ _ (by omega), show st.length + (j + 1) - st.length = j + 1 from by omega]; rfl
end
/-! greatest, least, where a number stands -/
def mx (ns : List Int) : Int := (mxI ns).getD 0
def mn (ns : List Int) : Int := (mnI ns).getD 0
theorem mxI_some {ns : List Int} (h : ns ≠ []) : mxI ns = some (mx ns) := by
  cases ns with
  | nil => exact absurd rfl h
  | cons => rfl
theorem mnI_some {ns : List Int} (h : ns ≠ []) : mnI ns = some (mn ns) := by
  cases ns with
  | nil => exact absurd rfl h
  | cons => rfl
theorem maxD_ints {ns : List Int} (h : ns ≠ []) : maxD (.lst (ns.map .int)) = some (.int (mx ns)) := by
  simp only [maxD, intsOf_map, Option.bind_some, mxI_some h]; rfl
theorem minD_ints {ns : List Int} (h : ns ≠ []) : minD (.lst (ns.map .int)) = some (.int (mn ns)) := by
  simp only [minD, intsOf_map, Option.bind_some, mnI_some h]; rfl
theorem mx_mem {ns : List Int} (h : ns ≠ []) : mx ns ∈ ns := (mxI_spec (mxI_some h)).1
def ixI (ns : List Int) (v : Int) : Nat := (idxD (.int v) (ns.map .int) 0).getD 0
theorem ix_some {v : Int} : ∀ {ns : List Int} {i : Nat}, v ∈ ns → ∃ j, idxD (.int v) (ns.map .int) i = some j ∧ j < i + ns.length
  | n :: ns, i, h => by
    rw [List.map_cons, idxD, VE.eq_int]
    by_cases e : n = v
    · exact ⟨i, by simp [e], by simp⟩
    · obtain ⟨j, h1, h2⟩ := ix_some (ns := ns) (i := i + 1) (by rcases List.mem_cons.mp h with h | h; exact absurd h.symm e; exact h)
      exact ⟨j, by simp [e, h1], by simp; omega⟩
theorem ixI_spec {ns : List Int} {v : Int} (h : v ∈ ns) : idxD (.int v) (ns.map .int) 0 = some (ixI ns v) ∧ ixI ns v < ns.length := by
  obtain ⟨j, h1, h2⟩ := ix_some (i := 0) h
  have : ixI ns v = j := by unfold ixI; rw [h1]; rfl
  rw [this]
  exact ⟨h1, by omega⟩
section
variable {fo fa : M D} {env : EnvD} {st : Sto} {r x : D} {ys : List D}
def kIx3 (x : D) : D → M D := fun v env st => match v with
  | .lst ys => if plain 20 x && plain 20 (.lst ys) then (match idxD x ys 0 with
      | some j => .ok (.int (j : Nat)) env st
      | none => .bad) else .bad
  | _ => .bad
def kIx2 (r : D) : D → M D := fun x env st => kIx3 x (vw st r) env st
def kIx1 (fa : M D) : D → M D := fun r env st => match vw st r with
  | .lst _ => (fa env st).bind (kIx2 r)
  | _ => .bad
@[simp] theorem x_eIdx : eIdx fo fa env st = (fo env st).bind (kIx1 fa) := rfl
@[simp] theorem x_kIx1 : kIx1 fa (.lst ys) env st = (fa env st).bind (kIx2 (.lst ys)) := rfl
@[simp] theorem x_kIx2 : kIx2 (.lst ys) x env st = kIx3 x (.lst ys) env st := rfl
theorem kIx3_ints {ns : List Int} {v : Int} (h : v ∈ ns) : kIx3 (.int v) (.lst (ns.map .int)) env st = .ok (.int (ixI ns v : Nat)) env st := by
  unfold kIx3
  dsimp only
  rw [(ixI_spec h).1]
  simp
end
/-- the names met, the first time that each is met -/
def fk {α : Type} (f : α → Str) (xs : List α) : List Str := xs.foldl (fun ks p => if f p ∈ ks then ks else ks ++ [f p]) []
theorem fk_snoc {α : Type} {f : α → Str} {xs : List α} {p : α} : fk f (xs ++ [p]) = if f p ∈ fk f xs then fk f xs else fk f xs ++ [f p] := by
  unfold fk; rw [List.foldl_append]; rfl
theorem fk_go {α : Type} {f : α → Str} {k : Str} : ∀ (xs : List α) (acc : List Str), k ∈ xs.foldl (fun ks p => if f p ∈ ks then ks else ks ++ [f p]) acc ↔ k ∈ acc ∨ ∃ p ∈ xs, f p = k
  | [], acc => by simp
  | x :: xs, acc => by
    rw [List.foldl_cons, fk_go xs]
    split
    · rename_i h
      constructor
      · rintro (h1 | ⟨p, h1, h2⟩)
        · exact .inl h1
        · exact .inr ⟨p, List.mem_cons_of_mem _ h1, h2⟩
      · rintro (h1 | ⟨p, h1, h2⟩)
        · exact .inl h1
        · rcases List.mem_cons.mp h1 with rfl | h1
          · exact .inl (h2 ▸ h)
          · exact .inr ⟨p, h1, h2⟩
    · constructor
      · rintro (h1 | ⟨p, h1, h2⟩)
        · rcases List.mem_append.mp h1 with h1 | h1
          · exact .inl h1
          · exact .inr ⟨x, List.mem_cons_self, (List.mem_singleton.mp h1).symm⟩
        · exact .inr ⟨p, List.mem_cons_of_mem _ h1, h2⟩
      · rintro (h1 | ⟨p, h1, h2⟩)
        · exact .inl (List.mem_append_left _ h1)
        · rcases List.mem_cons.mp h1 with rfl | h1
          · exact .inl (List.mem_append_right _ (by simp [h2]))
          · exact .inr ⟨p, h1, h2⟩
theorem mem_fk {α : Type} {f : α → Str} {xs : List α} {k : Str} : k ∈ fk f xs ↔ ∃ p ∈ xs, f p = k := by
  unfold fk; rw [fk_go]; simp
theorem fk_len {α : Type} {f : α → Str} : ∀ (xs : List α) (acc : List Str), (xs.foldl (fun ks p => if f p ∈ ks then ks else ks ++ [f p]) acc).length ≤ acc.length + xs.length
  | [], acc => by simp
  | x :: xs, acc => by
    rw [List.foldl_cons]
    refine Nat.le_trans (fk_len xs _) ?_
    split <;> simp <;> omega
theorem fk_len' {α : Type} {f : α → Str} {xs : List α} : (fk f xs).length ≤ xs.length := by
  have := fk_len (f := f) xs []
  simpa [fk] using this
section
variable {f : Str → D} {k0 : Str} {y : D}
theorem lk_map : ∀ {ks : List Str}, lkK (.inr k0) (ks.map fun k => ((.inr k : Key), f k)) = if k0 ∈ ks then some (f k0) else none
  | [] => by simp [lkK]
  | k :: ks => by
    rw [List.map_cons, lkK, lk_map]
    by_cases h : k = k0
    · subst h; simp
    · have : ¬ k0 = k := fun z => h z.symm
      simp [h, this]
theorem has_map : ∀ {ks : List Str}, hasD (.inr k0) (ks.map fun k => ((.inr k : Key), f k)) = decide (k0 ∈ ks)
  | [] => by simp [hasD]
  | k :: ks => by
    rw [List.map_cons, hasD, has_map]
    by_cases h : k = k0
    · subst h; simp
    · have : ¬ k0 = k := fun z => h z.symm
      simp [h, this]
theorem ch_map : ∀ {ks : List Str}, chK (.inr k0) y (ks.map fun k => ((.inr k : Key), f k)) = ks.map fun k => (.inr k, if k = k0 then y else f k)
  | [] => rfl
  | k :: ks => by
    rw [List.map_cons, chK, ch_map, List.map_cons]
    by_cases h : k = k0
    · subst h; simp
    · simp [h]
theorem pt_map {ks : List Str} : ptK (ks.map fun k => ((.inr k : Key), f k)) (.inr k0) y = (if k0 ∈ ks then ks else ks ++ [k0]).map fun k => (.inr k, if k = k0 then y else f k) := by
  unfold ptK
  rw [has_map, ch_map]
  by_cases h : k0 ∈ ks
  · simp [h]
  · simp only [h, decide_false, Bool.false_eq_true, if_false, List.map_append]
    congr 1
    · refine List.map_congr_left fun k hk => ?_
      have : k ≠ k0 := fun z => h (z ▸ hk)
      simp [this]
    · simp
end
def kS (k : Str) : List Key := [.inr k]
def sortS (ks : List Str) : List Str := srtB kS ks
theorem mem_sortS {ks : List Str} {k : Str} : k ∈ sortS ks ↔ k ∈ ks := (srtB_perm (k := kS) ks).mem_iff
theorem len_sortS {ks : List Str} : (sortS ks).length = ks.length := (srtB_perm (k := kS) ks).length_eq
theorem kSK2_map {ks : List Str} {f : Str → D} {env : EnvD} {st : Sto} (h : ks.length < 64) : kSK2 (some (.dct (ks.map fun k => ((.inr k : Key), f k)))) env st = .ok (.lst ((sortS ks).map .str)) env st := by
  rw [x_kSK2, if_pos]
  · have e : (ks.map fun k => ((.inr k : Key), f k)).map (fun kv => keyD kv.1) = ks.map D.str := by rw [List.map_map]; rfl
    rw [e, srtB_map (f := D.str) (kA := kS) fun _ => rfl]; rfl
  · simp [h, keyD, isStr]
/-- the rows of one piece -/
def rowsAt (b : Bok) (ss : List (Int × Str)) (k : Str) : List (Int × Str) := ss.filter fun p => decide (nm b p = k)
theorem rowsAt_snoc {b : Bok} {ss : List (Int × Str)} {k : Str} {p : Int × Str} : rowsAt b (ss ++ [p]) k = if nm b p = k then rowsAt b ss k ++ [p] else rowsAt b ss k := by
  unfold rowsAt
  rw [List.filter_append]
  by_cases h : nm b p = k <;> simp [h]
section
variable {st : Sto} {env : EnvD} {b : Bok} {n : Int} {k : Str} {rows : List (Int × Str)} {p : Int × Str}
theorem sortR_len : (sortR rows).length = rows.length := (srtB_perm (k := kR) rows).length_eq
theorem take_snoc {α : Type} {xs : List α} {i : Nat} {x : α} (h : xs[i]? = some x) : xs.take (i + 1) = xs.take i ++ [x] := by
  rw [List.take_add_one, h]; rfl
/-- a dict of cells of rows, piece by piece -/
def ByP (b : Bok) (st : Sto) (ss : List (Int × Str)) (S : Sto) : Prop :=
  ∃ (ix : Str → Nat) (cells : List Cell), S = st ++ .dct ((fk (nm b) ss).map fun k => ((.inr k : Key), .ref (st.length + (ix k + 1)))) :: cells ∧ cells.length = ss.length ∧
    (∀ k ∈ fk (nm b) ss, cells[ix k]? = some (.lst ((rowsAt b ss k).map rowD))) ∧ ∀ k ∈ fk (nm b) ss, ∀ k' ∈ fk (nm b) ss, ix k = ix k' → k = k'
theorem fk_sort_len (h : RowsOk b rows) : (fk (nm b) (sortR rows)).length ≤ 30 := by
  have h1 := fk_len' (f := nm b) (xs := sortR rows)
  have h2 := sortR_len (rows := rows)
  have := h.len
  omega
theorem rowsAt_len (h : RowsOk b rows) : (rowsAt b (sortR rows) k).length ≤ 30 := by
  have h1 : (rowsAt b (sortR rows) k).length ≤ (sortR rows).length := List.length_filter_le _ _
  have h2 := sortR_len (rows := rows)
  have := h.len
  omega
def laidL (b : Bok) (ss : List (Int × Str)) : List D := (sortS (fk (nm b) ss)).map fun k => .tup [.str k, .tup ((rowsAt b ss k).map rowD)]
theorem st_ext {ext : Sto} {n : Nat} {c : Cell} (h : st[n]? = some c) : (st ++ ext)[n]? = some c := by
  rw [List.getElem?_append_left (List.getElem?_eq_some_iff.mp h).1]; exact h
/-- a book's pieces, in order -/
def pcs (b : Bok) : List Str := (uK (b.rules.map fun r => .inr r.piece)).filterMap fun | .inr s => some s | .inl _ => none
theorem keyD_strs : ∀ {ks : List Key}, (∀ k ∈ ks, ∃ s, k = .inr s) → ks.map keyD = (ks.filterMap fun | .inr s => some s | .inl _ => none).map D.str
  | [], _ => rfl
  | k :: ks, h => by
    obtain ⟨s, rfl⟩ := h k List.mem_cons_self
    rw [List.map_cons, keyD_strs fun k hk => h k (List.mem_cons_of_mem _ hk)]
    rfl
theorem sset_strs {xs : List Str} (h : xs.length < 4000) : ssetD (.lst (xs.map .str)) = some (.lst (((uK (xs.map .inr)).filterMap fun | .inr s => some s | .inl _ => none).map .str)) := by
  unfold ssetD
  have h1 : (xs.map D.str).all isStr = true := by simp [isStr]
  have h2 : (xs.map D.str).map key1 = xs.map .inr := by rw [List.map_map]; rfl
  dsimp only
  rw [if_pos (by simp [h1]; omega), h2, keyD_strs]
  intro k hk
  have := uK_mem.mp hk
  obtain ⟨s, _, rfl⟩ := List.mem_map.mp this
  exact ⟨s, rfl⟩
theorem sset_pcs (hb : BokOk b) : ssetD (.lst (b.rules.map fun r => .str r.piece)) = some (.lst ((pcs b).map .str)) := by
  have := sset_strs (xs := b.rules.map (·.piece)) (by have := hb.rlen; simp; omega)
  rw [List.map_map, List.map_map] at this
  exact this
theorem mem_pcs {s : Str} : s ∈ pcs b ↔ ∃ r ∈ b.rules, r.piece = s := by
  unfold pcs
  rw [List.mem_filterMap]
  constructor
  · rintro ⟨k, hk, e⟩
    obtain ⟨r, hr, rfl⟩ := List.mem_map.mp (uK_mem.mp hk)
    simp at e
    exact ⟨r, hr, e⟩
  · rintro ⟨r, hr, rfl⟩
    exact ⟨.inr r.piece, uK_mem.mpr (List.mem_map.mpr ⟨r, hr, rfl⟩), rfl⟩
theorem insU_len {x : Key} : ∀ {ys : List Key}, (insU x ys).length ≤ ys.length + 1
  | [] => by simp [insU]
  | y :: ys => by
    unfold insU
    split
    · simp
    · split
      · simp
      · simp; exact insU_len
theorem uK_len : ∀ {xs : List Key}, (uK xs).length ≤ xs.length
  | [] => by simp [uK]
  | x :: xs => by
    rw [uK]
    have := insU_len (x := x) (ys := uK xs)
    have := uK_len (xs := xs)
    simp; omega
theorem pcs_len : (pcs b).length ≤ b.rules.length := by
  refine Nat.le_trans (List.length_filterMap_le _ _) (Nat.le_trans uK_len ?_)
  simp
def sizesL (b : Bok) (ss : List (Int × Str)) : List Int := (pcs b).map fun k => ((rowsAt b ss k).length : Int)
theorem sizes_len {ss : List (Int × Str)} : (sizesL b ss).length = (pcs b).length := by simp [sizesL]
theorem sizes_ne {ss : List (Int × Str)} (h : pcs b ≠ []) : sizesL b ss ≠ [] := by
  intro e
  have := sizes_len (b := b) (ss := ss)
  rw [e] at this
  exact h (List.length_eq_zero_iff.mp this.symm)
def fullL (b : Bok) (ss : List (Int × Str)) : Option Str := (pcs b)[ixI (sizesL b ss) (mx (sizesL b ss))]?
theorem full_some {ss : List (Int × Str)} (h : pcs b ≠ []) : ∃ s, fullL b ss = some s ∧ s ∈ pcs b := by
  have h1 := (ixI_spec (mx_mem (sizes_ne (ss := ss) h))).2
  rw [sizes_len] at h1
  exact ⟨_, List.getElem?_eq_getElem h1, List.getElem_mem h1⟩
end
end VP

/-! ends, stretches, cells -/
namespace VP
local instance inst_SP3 : VE.VEnv := VE.VEnv.dummy
open PySem PySem.Spec PyProof.Rows L2 VE
open SX (S S_len S_cat S_inj)
def intK : Key → Option Int
  | .inl i => some i
  | .inr _ => none
def intU (xs : List Int) : List Int := (uK (xs.map .inl)).filterMap intK
theorem keyD_ints : ∀ {ks : List Key}, (∀ k ∈ ks, ∃ i, k = .inl i) → ks.map keyD = (ks.filterMap intK).map D.int ∧ ks = (ks.filterMap intK).map .inl
  | [], _ => ⟨rfl, rfl⟩
  | k :: ks, h => by
    obtain ⟨s, rfl⟩ := h k List.mem_cons_self
    obtain ⟨h1, h2⟩ := keyD_ints fun k hk => h k (List.mem_cons_of_mem _ hk)
    refine ⟨by rw [List.map_cons, h1]; rfl, ?_⟩
    rw [List.filterMap_cons]
    show _ = Sum.inl s :: (ks.filterMap intK).map .inl
    rw [← h2]
theorem uK_ints {xs : List Int} : ∀ k ∈ uK (xs.map .inl), ∃ i, k = (.inl i : Key) := fun k hk => by
  obtain ⟨s, _, rfl⟩ := List.mem_map.mp (uK_mem.mp hk)
  exact ⟨s, rfl⟩
theorem sset_ints {xs : List Int} (h : xs.length < 4000) : ssetD (.lst (xs.map .int)) = some (.lst ((intU xs).map .int)) := by
  unfold ssetD
  have h1 : (xs.map D.int).all isInt = true := by simp [VE.isInt]
  have h2 : (xs.map D.int).map key1 = xs.map .inl := by rw [List.map_map]; rfl
  dsimp only
  rw [if_pos (by simp [h1]; omega), h2, (keyD_ints uK_ints).1]
  rfl
theorem mem_intU {xs : List Int} {i : Int} : i ∈ intU xs ↔ i ∈ xs := by
  unfold intU
  rw [List.mem_filterMap]
  constructor
  · rintro ⟨k, hk, e⟩
    obtain ⟨j, hj, rfl⟩ := List.mem_map.mp (uK_mem.mp hk)
    cases e
    exact hj
  · intro h
    exact ⟨.inl i, uK_mem.mpr (List.mem_map.mpr ⟨i, h, rfl⟩), rfl⟩
theorem asc_intU {xs : List Int} : (intU xs).Pairwise (· < ·) := by
  have h := uK_srt (xs := (xs.map .inl : List Key))
  unfold SrtK at h
  rw [(keyD_ints uK_ints).2, List.pairwise_map] at h
  exact h.imp fun h => by simpa [ltK] using h
theorem intU_len {xs : List Int} : (intU xs).length ≤ xs.length := by
  refine Nat.le_trans (List.length_filterMap_le _ _) (Nat.le_trans uK_len ?_)
  simp
/-- where stretches begin -/
def cutsL (ends : List Int) : List Int := intU (0 :: ends.filter fun e => decide (e ≤ LASTn))
def strL (ends : List Int) : List (Int × Int) := (cutsL ends).zip ((cutsL ends).tail.map (fun c => c - 1) ++ [LASTn])
theorem cuts_len {ends : List Int} : (cutsL ends).length ≤ ends.length + 1 := by
  refine Nat.le_trans intU_len ?_
  have := List.length_filter_le (fun e => decide (e ≤ LASTn)) ends
  simp; omega
theorem str_len {ends : List Int} : (strL ends).length ≤ ends.length + 1 := by
  unfold strL
  rw [List.length_zip]
  have := cuts_len (ends := ends)
  omega
structure Cel where
  first : Int
  count : Int
  kind : Str
def Cel.d (c : Cel) : D := .ino "Cell" ["first", "count", "kind"] [.int c.first, .int c.count, .str c.kind]
section
variable {env : EnvD} {st : Sto} {c : Cel}
@[simp] theorem cel_first : flU "Cell" "first" c.d env st = .ok (.int c.first) env st := rfl
@[simp] theorem cel_count : flU "Cell" "count" c.d env st = .ok (.int c.count) env st := rfl
@[simp] theorem cel_kind : flU "Cell" "kind" c.d env st = .ok (.str c.kind) env st := rfl
end
def celOf (lo hi r : Int) (k : Str) : Cel := ⟨lo + (r - lo) % 12, if lo + (r - lo) % 12 ≤ hi then (hi - (lo + (r - lo) % 12)) / 12 + 1 else 0, k⟩
def celAll (kinds : List Str) (ends : List Int) : List Cel := (strL ends).flatMap fun p => (List.range 12).flatMap fun r => kinds.map fun k => celOf p.1 p.2 (r : Nat) k
def celL (kinds : List Str) (ends : List Int) : List Cel := (celAll kinds ends).filter fun c => decide (0 < c.count)
theorem fold_flat {α β : Type} (g : α → List β) : ∀ (xs : List α) (acc : List β), xs.foldl (fun acc x => acc ++ g x) acc = acc ++ xs.flatMap g
  | [], acc => by simp
  | x :: xs, acc => by rw [List.foldl_cons, fold_flat g xs, List.flatMap_cons, List.append_assoc]
section
variable {st : Sto} {env : EnvD} {b : Bok} {n : Int} {k : Str} {ks : List Str} {ends : List Int} {p : Int × Int}
theorem kkLAST : k_LAST = .int LASTn := rfl
theorem pu1 {d : D} : putD ("first" : Str) d [] = [(("first" : Str), d)] := rfl
theorem pu2 {d e : D} : putD ("count" : Str) e [(("first" : Str), d)] = [(("first" : Str), d), (("count" : Str), e)] := rfl
theorem pu3 {d e f : D} : putD ("kind" : Str) f [(("first" : Str), d), (("count" : Str), e)] = [(("first" : Str), d), (("count" : Str), e), (("kind" : Str), f)] := rfl
theorem lo1 {d : D} {l : List (Str × D)} : List.lookup ("first" : Str) ((("first" : Str), d) :: l) = some d := rfl
def p2D (p : Int × Int) : D := .tup [.int p.1, .int p.2]
theorem celAll_len (hk : ks.length ≤ 4) (he : ends.length ≤ 1000) : (celAll ks ends).length ≤ 48048 := by
  have h2 : ∀ (xs : List (Int × Int)), (xs.flatMap fun p => (List.range 12).flatMap fun r => ks.map fun k => celOf p.1 p.2 (r : Nat) k).length = xs.length * (12 * ks.length) := by
    intro xs
    rw [List.length_flatMap]
    induction xs with
    | nil => simp
    | cons x xs ih =>
      rw [List.map_cons, List.sum_cons, ih, List.length_cons]
      have : ((List.range 12).flatMap fun r => ks.map fun k => celOf x.1 x.2 (r : Nat) k).length = 12 * ks.length := by
        simp [List.length_flatMap, List.range_succ]
        omega
      rw [this, Nat.add_mul]
      omega
  unfold celAll
  rw [h2]
  have := str_len (ends := ends)
  calc (strL ends).length * (12 * ks.length) ≤ 1001 * 48 := Nat.mul_le_mul (by omega) (by omega)
    _ = 48048 := rfl
end
end VP

/-! sights -/
namespace VP
local instance inst_SW1 : VE.VEnv := VE.VEnv.dummy
open PySem PySem.Spec PyProof.Rows L2 VE
open SX (S S_len S_cat S_inj)
@[simp] theorem toRFe_ok {d : D} {e : EnvD} {st : Sto} : toRFe (.ok d e st) = .ok d st := rfl
@[simp] theorem capS_some {d : D} : capS (some d) = .va d := rfl
@[simp] theorem capS_none : capS none = .no := rfl
@[simp] theorem x_eFn {i : Nat} {cells : List (Str × Addr)} {env : EnvD} {st : Sto} : eFn i cells env st = .ok (.fn (.lam i cells)) env st := rfl
@[simp] theorem x_eCallH {m : FMG} {n : Nat} {cells : List (Str × Addr)} {js : List (Str × Nat)} {fs : M (List D)} {env : EnvD} {st : Sto} : eCallH m n cells js fs env st = (fs env st).bind fun ds env st => if ds.length = n then callR (m cells (ghv js env)) ds env st else .bad := rfl
@[simp] theorem ghv_nil {env : EnvD} : ghv [] env = [] := rfl
theorem ghv_va {y : Str} {j : Nat} {js : List (Str × Nat)} {env : EnvD} {d : D} (h : env[j]? = some (.va d)) : ghv ((y, j) :: js) env = (y, d) :: ghv js env := by
  unfold ghv
  rw [List.filterMap_cons]
  simp [h]
/-- a sight: a row, where it was seen -/
def sgD (s : (Int × Str) × Option Str) : D := .tup [rowD s.1, optS s.2]
section
variable {st : Sto} {env : EnvD} {b : Bok} {n m : Int} {k p : Str} {ss : List ((Int × Str) × Option Str)} {i : Nat} {cells : List (Str × Addr)} {vals : List (Str × D)}
@[simp] theorem vw_optS' {p : Option Str} : vw st (optS p) = optS p := by cases p <;> rfl
@[simp] theorem vw_rowD {q : Int × Str} : vw st (rowD q) = rowD q := rfl
@[simp] theorem row_at0' {q : Int × Str} : ixA (rowD q) (.int 0) env st = .ok (.int q.1) env st := rfl
@[simp] theorem row_at1' {q : Int × Str} : ixA (rowD q) (.int 1) env st = .ok (.str q.2) env st := rfl
theorem optS_eq' {p q : Option Str} : eqD (optS p) (optS q) = decide (p = q) := by
  cases p <;> cases q <;> simp [optS] <;> simp [eqD, toPy, PyData.eqv]
structure SgOk (ss : List ((Int × Str) × Option Str)) : Prop where
  len : ss.length ≤ 20
  w : ∀ s ∈ ss, ∀ w, s.2 = some w → WOk w
theorem SgOk.pl (h : SgOk ss) {s} (hs : s ∈ ss) {m : Nat} : plain m (optS s.2) = true := by
  cases e : s.2 with
  | none => simp [optS]
  | some w => simp [optS, (h.w s hs w e).ok]
theorem sp_check_sights (h : SgOk ss) (hn : (G_check_sights i).n = 1) (hG : ∀ s ∈ ss, ∀ st, (G_check_sights i).run ((G_check_sights i).fr.map fun y => vals.lookup y) [rowD s.1] st = .ok (.bl true) st) :
    m_check_sights cells vals [.tup (ss.map sgD), .fn (.lam i cells)] st = .ok .non st := by
  simp [m_check_sights, b_check_sights, toFG, envG, enu_map]
  rw [for_fold (E := fun (_ : Unit) => [.va (.tup (ss.map sgD)), .va (.fn (.lam i cells)), .no, .no, .no, .gh cells vals]) (step := fun _ _ => ()) (s := ())]
  · simp
  · rintro _ ⟨s, j⟩ hm
    have hk := zip_mem hm
    simp only at hk
    have hj := (List.getElem?_eq_some_iff.mp hk).1
    have hs := List.mem_of_getElem? hk
    have h5 : ¬ ((j : Int) = 20) := by have := h.len; omega
    have h6 := hG s hs st
    obtain ⟨q, w⟩ := s
    cases w with
    | none => simp [sgD, h5, k_MAX_SIGHTS, callP, hn, h6, callR, optS, isN, isNone]
    | some w =>
      have h7 := fun st => sp_is_word (st := st) (h.w _ hs w rfl)
      simp [sgD, h5, k_MAX_SIGHTS, callP, hn, h6, callR, optS, isN, isNone, h7]
def inL (ss : List ((Int × Str) × Option Str)) (p : Str) (m : Int) : List Int := intU ((ss.filter fun s => decide (s.2 = some p)).map fun s => s.1.1 % m)
def outL (ss : List ((Int × Str) × Option Str)) (p : Str) (m : Int) : List Int := intU ((ss.filter fun s => !decide (s.2 = some p)).map fun s => s.1.1 % m)
def tellB (ss : List ((Int × Str) × Option Str)) (p : Str) (m : Int) : Bool := !((inL ss p m).any fun r => decide (r ∈ outL ss p m))
theorem inL_len (h : SgOk ss) : (inL ss p m).length ≤ 20 := by
  have := intU_len (xs := (ss.filter fun s => decide (s.2 = some p)).map fun s => s.1.1 % m)
  have h2 := List.length_filter_le (fun s : (Int × Str) × Option Str => decide (s.2 = some p)) ss
  have := h.len
  unfold inL
  simp at *
  omega
theorem outL_len (h : SgOk ss) : (outL ss p m).length ≤ 20 := by
  have := intU_len (xs := (ss.filter fun s => !decide (s.2 = some p)).map fun s => s.1.1 % m)
  have h2 := List.length_filter_le (fun s : (Int × Str) × Option Str => !decide (s.2 = some p)) ss
  have := h.len
  unfold outL
  simp at *
  omega
theorem sset_in (h : SgOk ss) : ssetD (.lst ((ss.filter fun s => decide (s.2 = some p)).map fun s => .int (s.1.1 % m))) = some (.lst ((inL ss p m).map .int)) := by
  have h2 := List.length_filter_le (fun s : (Int × Str) × Option Str => decide (s.2 = some p)) ss
  have := sset_ints (xs := (ss.filter fun s => decide (s.2 = some p)).map fun s => s.1.1 % m) (by have := h.len; simp; omega)
  rw [List.map_map] at this
  exact this
theorem sset_out (h : SgOk ss) : ssetD (.lst ((ss.filter fun s => !decide (s.2 = some p)).map fun s => .int (s.1.1 % m))) = some (.lst ((outL ss p m).map .int)) := by
  have h2 := List.length_filter_le (fun s : (Int × Str) × Option Str => !decide (s.2 = some p)) ss
  have := sset_ints (xs := (ss.filter fun s => !decide (s.2 = some p)).map fun s => s.1.1 % m) (by have := h.len; simp; omega)
  rw [List.map_map] at this
  exact this
theorem str_eq {q : Option Str} : eqD (optS q) (.str p) = decide (q = some p) := optS_eq' (q := some p)
theorem sp_rests_seen (h : SgOk ss) (hp : PyData.strOk p = true) (hm : 0 < m) : m_rests_seen [.tup (ss.map sgD), .str p, .int m] st = .ok (.tup [.lst ((inL ss p m).map .int), .lst ((outL ss p m).map .int)]) st := by
  have hl := h.len
  simp [m_rests_seen, b_rests_seen, toF_def, env0]
  rw [comp_map (p := fun s => decide (s.2 = some p)) (f := fun s => .int (s.1.1 % m)) (by omega) (by
    intro s hs
    have h1 := fun st => sp_rest_of (st := st) (n := s.1.1) hm
    have h2 := fun n => h.pl hs (m := n)
    simp [sgD, h1, h2, hp, str_eq])]
  simp [sset_in h]
  rw [comp_map (p := fun s => !decide (s.2 = some p)) (f := fun s => .int (s.1.1 % m)) (by omega) (by
    intro s hs
    have h1 := fun st => sp_rest_of (st := st) (n := s.1.1) hm
    have h2 := fun n => h.pl hs (m := n)
    simp [sgD, h1, h2, hp, str_eq])]
  simp [sset_out h]
theorem sp_can_tell (h : SgOk ss) (hp : PyData.strOk p = true) (hm : 0 < m) : m_can_tell [.tup (ss.map sgD), .str p, .int m] st = .ok (.bl (tellB ss p m)) st := by
  have h1 := fun st => sp_rests_seen (st := st) h hp hm
  have h2 := inL_len (p := p) (m := m) h
  simp [m_can_tell, b_can_tell, toF_def, env0, h1]
  rw [comp_all (f := fun r => .bl (decide (r ∈ outL ss p m))) (by omega) (by
    intro r hr
    simp [in_ints])]
  simp [anyD, blsF_map, tellB, List.any_map]
end
end VP

/-! sights: what is told of them -/
namespace VP
local instance inst_SW2 : VE.VEnv := VE.VEnv.dummy
open PySem PySem.Spec PyProof.Rows L2 VE
open SX (S S_len S_cat S_inj)
section
variable {st : Sto} {env : EnvD} {b : Bok} {n m : Int} {k p : Str} {ss : List ((Int × Str) × Option Str)} {i : Nat} {cells : List (Str × Addr)} {vals : List (Str × D)}
/-- rows that can stand anywhere -/
def SgRow (ss : List ((Int × Str) × Option Str)) : Prop := ∀ s ∈ ss, 0 ≤ s.1.1 ∧ s.1.1 ≤ LASTn ∧ WOk s.1.2
theorem sp_check_seen (h : SgOk ss) (hr : SgRow ss) (hp : WOk p) : m_check_seen [.tup (ss.map sgD), .str p] st = .ok .non st := by
  unfold m_check_seen toFL
  refine allEq_of fun cells => ?_
  have hc := fun st => sp_check_sights (st := st) (ss := ss) (i := i_lam_check_seen_0) (cells := cells) (vals := []) h rfl (by
    intro s hs st
    obtain ⟨r0, r1, r2⟩ := hr s hs
    have h1 := fun st => sp_is_number (st := st) (i := s.1.1) (lo := 0) (hi := LASTn)
    have h2 := fun st => sp_is_word (st := st) r2
    show m_lam_check_seen_0 [] [rowD s.1] st = _
    have d1 : decide ((0 : Int) ≤ s.1.1) = true := decide_eq_true r0
    have d2 : decide (s.1.1 ≤ LASTn) = true := decide_eq_true r1
    simp [m_lam_check_seen_0, toLam, b_lam_check_seen_0, envL, kkLAST, h1, h2, d1, d2])
  have h2 := fun st => sp_is_word (st := st) hp
  simp only [i_lam_check_seen_0] at hc
  simp [b_check_seen, env0, callR, hc, h2]
theorem sp_moduli_for (h : SgOk ss) (hr : SgRow ss) (hp : WOk p) : m_moduli_for [.tup (ss.map sgD), .str p] st = .ok (.lst ((([1, 2, 3, 4, 6, 12] : List Int).filter fun m => tellB ss p m).map .int)) st := by
  have h1 := fun st => sp_check_seen (st := st) h hr hp
  have e : k_MODULI = .tup (([1, 2, 3, 4, 6, 12] : List Int).map .int) := rfl
  simp only [m_moduli_for, b_moduli_for, toF_def, env0, e]
  generalize hM : ([1, 2, 3, 4, 6, 12] : List Int) = M
  have hl : M.length < 16777216 := by subst hM; decide
  simp [h1]
  rw [comp_map (p := fun m => tellB ss p m) (f := D.int) hl (by
    intro m hm
    have h2 := fun st => sp_can_tell (st := st) (m := m) h hp.ok (by subst hM; simp at hm; omega)
    simp [h2])]
  simp
/-- the rests of a modulus, told or free -/
def dueR (ss : List ((Int × Str) × Option Str)) (p : Str) (m : Int) : D := if tellB ss p m then .tup [.tup ((inL ss p m).map .int), .tup ((((List.range m.toNat).map fun i => 0 + ((i : Nat) : Int)).filter fun r => !decide (r ∈ inL ss p m) && !decide (r ∈ outL ss p m)).map .int)] else .non
theorem sp_check_modulus' (hm : m ∈ [1, 2, 3, 4, 6, 12]) : m_check_modulus [.int m] st = .ok .non st := by
  have h1 : inV true (.int m) k_MODULI = some (.bl false) := by
    have e : k_MODULI = .tup (([1, 2, 3, 4, 6, 12] : List Int).map .int) := rfl
    rw [e, in_ints, decide_eq_true hm]; rfl
  have h2 : inA true (.int m) k_MODULI = fun env st => VE.ret (inV true (.int m) k_MODULI) env st := rfl
  simp [m_check_modulus, b_check_modulus, toF_def, env0, h1, h2]
theorem sp_rests_for (h : SgOk ss) (hr : SgRow ss) (hp : WOk p) (hm : m ∈ [1, 2, 3, 4, 6, 12]) : m_rests_for [.tup (ss.map sgD), .str p, .int m] st = .ok (dueR ss p m) st := by
  have hm0 : 0 < m := by simp at hm; omega
  have hm12 : m ≤ 12 := by simp at hm; omega
  have h1 := fun st => sp_check_seen (st := st) h hr hp
  have h2 := fun st => sp_check_modulus' (st := st) hm
  have h3 := fun st => sp_can_tell (st := st) h hp.ok hm0
  have h4 := fun st => sp_rests_seen (st := st) h hp.ok hm0
  have rm := rOk_ (j := m) (by omega) (by omega)
  unfold dueR
  cases c : tellB ss p m with
  | false => simp [m_rests_for, b_rests_for, toF_def, env0, h1, h2, h3, c]
  | true =>
    simp [m_rests_for, b_rests_for, toF_def, env0, h1, h2, h3, h4, c, rm]
    rw [rng_map, comp_map (p := fun r => !decide (r ∈ inL ss p m) && !decide (r ∈ outL ss p m)) (f := D.int) (by simp; omega) (by
      intro r hr
      by_cases c1 : r ∈ inL ss p m <;> simp [in_ints, c1])]
    simp [tupD]
/-- sights that are not as the book lays them -/
def badS (b : Bok) (s : (Int × Str) × Option Str) : Bool := !decide (b.place s.1.1 s.1.2 = s.2)
def wrongL (b : Bok) (ss : List ((Int × Str) × Option Str)) : List Nat := (ss.zipIdx.filter fun q => badS b q.1).map (·.2)
def headI : List Nat → D
  | [] => .non
  | i :: _ => .int (i : Nat)
theorem find_head {α : Type} {q : α → Bool} : ∀ {xs : List (α × Nat)}, (xs.findSome? fun a => if q a.1 then some (D.int (a.2 : Nat)) else none) = match (xs.filter fun a => q a.1).map (·.2) with
    | [] => none
    | i :: _ => some (D.int (i : Nat))
  | [] => rfl
  | x :: xs => by
    rw [List.findSome?_cons]
    cases h : q x.1 with
    | true => rw [List.filter_cons_of_pos (by simpa using h)]; rfl
    | false => rw [List.filter_cons_of_neg (by simp [h])]; exact find_head
theorem place_opl (hb : BokOk b) {m : Nat} : plain m (optS (b.place n k)) = true := by
  cases e : b.place n k with
  | none => simp [optS]
  | some s =>
    unfold Bok.place at e
    obtain ⟨r, hr, rfl⟩ := Option.map_eq_some_iff.mp e
    simp [optS, (hb.rules r (List.mem_of_find?_eq_some hr)).piece.ok]
theorem sp_first_unlike (hb : BokOk b) (h : SgOk ss) (hr : ∀ s ∈ ss, RowOk b s.1.1 s.1.2) : m_first_unlike [b.d, .tup (ss.map sgD)] st = .ok (headI (wrongL b ss)) st := by
  unfold m_first_unlike toFL
  refine allEq_of fun cells => ?_
  have hc := fun st vals (h1 : vals = [(("book" : Str), b.d)]) => sp_check_sights (st := st) (ss := ss) (i := i_lam_first_unlike_0) (cells := cells) (vals := vals) h rfl (by
    subst h1
    intro s hs st
    have h1 := fun st => sp_is_row (st := st) hb (hr s hs)
    show m_lam_first_unlike_0 [some b.d] [rowD s.1] st = _
    simp [m_lam_first_unlike_0, toLam, b_lam_first_unlike_0, envL]
    have h1 : m_is_row [b.d, rowD s.1] st = .ok (.bl true) st := h1 st
    simp [h1])
  have hg : ghv [(("book" : Str), 0)] [.va b.d, .va (.tup (ss.map sgD)), .no, .no, .no] = [(("book" : Str), b.d)] := by
    rw [ghv_va (by rfl)]; rfl
  have hc := fun st => hc st _ rfl
  simp only [i_lam_first_unlike_0] at hc
  simp [b_first_unlike, env0, callR, hg, hc, enu_map]
  obtain ⟨e', he⟩ := for_find (t := gT 2 (gsC (gN 2) (gsC (gT 2 (gsC (gN 3) (gsC (gN 4) (gsN)))) (gsN)))) (ws := [2, 3, 4]) (g := fun a : ((Int × Str) × Option Str) × Nat => D.tup [.int (a.2 : Nat), sgD a.1]) (st := st)
    (body := sIf (eT (eBin (sv2 neP) (eCall m_place_of 3 (eCons (eVar 0) (eCons (eBin ixA (eVar 3) (eC (.int 0))) (eCons (eBin ixA (eVar 3) (eC (.int 1))) (eNil))))) (eVar 4))) (sRet (eVar 2)) (sNx)) (p := fun a : ((Int × Str) × Option Str) × Nat => if badS b a.1 then some (D.int (a.2 : Nat)) else none) (E0 := [.va b.d, .va (.tup (ss.map sgD)), .no, .no, .no]) ss.zipIdx (by
    rintro ⟨s, j⟩ hm
    have hk := zip_mem hm
    simp only at hk
    have hs := List.mem_of_getElem? hk
    have h1 := fun st => sp_place_of (st := st) (n := s.1.1) hb (hb.kinds.ok _ (hr s hs).k)
    have h2 := fun n => h.pl hs (m := n)
    have h3 := fun n => place_opl (b := b) (n := s.1.1) (k := s.1.2) hb (m := n)
    cases c : badS b s with
    | true =>
      have c' : ¬ b.place s.1.1 s.1.2 = s.2 := by simpa [badS] using c
      simp [sgD, h1, h2, h3, optS_eq', c, c']
    | false =>
      have c' : b.place s.1.1 s.1.2 = s.2 := by simpa [badS] using c
      simp [sgD, h1, h2, h3, optS_eq', c, c'])
  rw [find_head (q := badS b)] at he
  rw [he]
  unfold headI wrongL
  cases (ss.zipIdx.filter fun q => badS b q.1).map (·.2) with
  | nil => simp
  | cons i l => simp
end
end VP

/-! fewer sights let more -/
namespace VP
local instance inst_SW3 : VE.VEnv := VE.VEnv.dummy
open PySem PySem.Spec PyProof.Rows L2 VE
open SX (S S_len S_cat S_inj)
theorem cutN {xs : List D} {i : Nat} : VE.cutD xs none (some (i : Int)) = xs.take i := by
  unfold VE.cutD
  have h2 : HT.sIx xs.length 0 none = 0 := rfl
  have h1 : HT.sIx xs.length xs.length (some (i : Int)) = min i xs.length := by simp only [HT.sIx]; split <;> omega
  rw [h1, h2, List.drop_zero, Nat.sub_zero]
  by_cases h : i ≤ xs.length
  · rw [Nat.min_eq_left h]
  · rw [Nat.min_eq_right (by omega), List.take_of_length_le (Nat.le_refl _), List.take_of_length_le (by omega)]
theorem cutF {xs : List D} {i : Nat} : VE.cutD xs (some (i : Int)) none = xs.drop i := by
  unfold VE.cutD
  have h2 : HT.sIx xs.length xs.length none = xs.length := rfl
  have h1 : HT.sIx xs.length 0 (some (i : Int)) = min i xs.length := by simp only [HT.sIx]; split <;> omega
  rw [h1, h2, List.take_of_length_le (by simp)]
  by_cases h : i ≤ xs.length
  · rw [Nat.min_eq_left h]
  · rw [Nat.min_eq_right (by omega), List.drop_of_length_le (Nat.le_refl _), List.drop_of_length_le (by omega)]
theorem cutM {xs : List D} : VE.cutD xs none (some (-1)) = xs.take (xs.length - 1) := by
  unfold VE.cutD
  have h2 : HT.sIx xs.length 0 none = 0 := rfl
  have h1 : HT.sIx xs.length xs.length (some (-1)) = xs.length - 1 := by simp only [HT.sIx]; split <;> omega
  rw [h1, h2]
  simp
section
variable {st : Sto} {env : EnvD} {b : Bok} {n m : Int} {k p : Str} {ss tt : List ((Int × Str) × Option Str)}
theorem mem_inL {r : Int} : r ∈ inL ss p m ↔ ∃ s ∈ ss, s.2 = some p ∧ s.1.1 % m = r := by
  unfold inL
  rw [mem_intU]
  simp only [List.mem_map, List.mem_filter, decide_eq_true_eq]
  exact ⟨fun ⟨s, ⟨h1, h2⟩, h3⟩ => ⟨s, h1, h2, h3⟩, fun ⟨s, h1, h2, h3⟩ => ⟨s, ⟨h1, h2⟩, h3⟩⟩
theorem mem_outL {r : Int} : r ∈ outL ss p m ↔ ∃ s ∈ ss, s.2 ≠ some p ∧ s.1.1 % m = r := by
  unfold outL
  rw [mem_intU]
  simp only [List.mem_map, List.mem_filter, Bool.not_eq_true', decide_eq_false_iff_not]
  exact ⟨fun ⟨s, ⟨h1, h2⟩, h3⟩ => ⟨s, h1, h2, h3⟩, fun ⟨s, h1, h2, h3⟩ => ⟨s, ⟨h1, h2⟩, h3⟩⟩
theorem tell_iff : tellB ss p m = true ↔ ∀ s ∈ ss, ∀ t ∈ ss, s.2 = some p → t.2 ≠ some p → s.1.1 % m ≠ t.1.1 % m := by
  unfold tellB
  simp only [Bool.not_eq_true', List.any_eq_false, decide_eq_true_eq]
  constructor
  · intro h s hs t ht h1 h2 e
    exact h _ (mem_inL.mpr ⟨s, hs, h1, e⟩) (mem_outL.mpr ⟨t, ht, h2, rfl⟩)
  · intro h r hr hr2
    obtain ⟨s, hs, h1, rfl⟩ := mem_inL.mp hr
    obtain ⟨t, ht, h2, e⟩ := mem_outL.mp hr2
    exact h s hs t ht h1 h2 e.symm
theorem tell_sub (h : ∀ s ∈ tt, s ∈ ss) (c : tellB ss p m = true) : tellB tt p m = true :=
  tell_iff.mpr fun s hs t ht => tell_iff.mp c s (h s hs) t (h t ht)
theorem tell_congr (h : ∀ s, s ∈ tt ↔ s ∈ ss) : tellB tt p m = tellB ss p m := by
  cases c : tellB ss p m with
  | true => exact tell_sub (fun s hs => (h s).mp hs) c
  | false =>
    cases d : tellB tt p m with
    | false => rfl
    | true => rw [tell_sub (fun s hs => (h s).mpr hs) d] at c; cases c
theorem tell_dvd {q : Int} (h : m ∣ q) (c : tellB ss p m = true) : tellB ss p q = true :=
  tell_iff.mpr fun s hs t ht h1 h2 e => tell_iff.mp c s hs t ht h1 h2 (by rw [← Int.emod_emod_of_dvd s.1.1 h, e, Int.emod_emod_of_dvd t.1.1 h])
def M6 : List Int := [1, 2, 3, 4, 6, 12]
theorem M6_dvd {q : Int} : 1 ∣ q := ⟨q, by omega⟩
theorem SgOk.sub (h : SgOk ss) (hl : tt.length ≤ 20) (ht : ∀ s ∈ tt, s ∈ ss) : SgOk tt := ⟨hl, fun s hs => h.w s (ht s hs)⟩
theorem SgRow.sub (h : SgRow ss) (ht : ∀ s ∈ tt, s ∈ ss) : SgRow tt := fun s hs => h s (ht s hs)
theorem sp_are_fewer (h : SgOk ss) (hl : ss.length ≤ 17) (hr : SgRow ss) (hp : WOk p) : m_law_are_fewer [.tup (ss.map sgD), .str p, .lst ((M6.filter fun m => tellB ss p m).map .int)] st = .ok (.bl true) st := by
  have hmf : ∀ {tt}, SgOk tt → SgRow tt → ∀ st, m_moduli_for [.tup (tt.map sgD), .str p] st = .ok (.lst ((M6.filter fun m => tellB tt p m).map .int)) st := fun h hr st => sp_moduli_for h hr hp
  have i1 : ∀ s ∈ ss.take (ss.length - 1), s ∈ ss := fun s hs => List.mem_of_mem_take hs
  have i2 : ∀ s ∈ ss ++ ss.take 3, s ∈ ss := fun s hs => (List.mem_append.mp hs).elim id List.mem_of_mem_take
  have m1 := hmf (h.sub (tt := ss.take (ss.length - 1)) (by simp; omega) i1) (hr.sub i1)
  have m2 := hmf (h.sub (tt := ss ++ ss.take 3) (by simp; omega) i2) (hr.sub i2)
  have m3 := hmf (h.sub (tt := []) (by simp) (fun s hs => nomatch hs)) (hr.sub fun s hs => nomatch hs)
  have r3 : ∀ st, m_rests_for [.tup [], .str p, .int 4] st = .ok (dueR [] p 4) st := fun st => sp_rests_for (ss := []) (h.sub (tt := []) (by simp) (fun s hs => nomatch hs)) (hr.sub fun s hs => nomatch hs) hp (by decide)
  have e2 : (M6.filter fun m => tellB (ss ++ ss.take 3) p m) = M6.filter fun m => tellB ss p m := List.filter_congr fun m _ => tell_congr fun s => ⟨i2 s, fun hs => List.mem_append_left _ hs⟩
  have e3 : (M6.filter fun m => tellB [] p m) = M6 := by
    rw [List.filter_eq_self]
    intro m _
    exact tell_iff.mpr fun s hs => nomatch hs
  rw [e2] at m2
  rw [e3] at m3
  simp only [List.map_take] at m1
  simp only [List.map_append, List.map_take] at m2
  simp only [List.map_nil] at m3
  have hfl := List.length_filter_le (fun m => tellB ss p m) M6
  have hM : M6.length = 6 := rfl
  generalize hG : (M6.filter fun m => tellB ss p m) = Gd at hmf m2 hfl ⊢
  have mem : ∀ m : Int, m ∈ Gd ↔ m ∈ M6 ∧ tellB ss p m = true := fun m => by rw [← hG, List.mem_filter]
  have eqG : eqDs (Gd.map .int) (Gd.map .int) = true := eqD_refl 20 (.lst (Gd.map .int)) (by simp)
  have up : ∀ a b : Int, b ∈ M6 → a ∣ b → a ∈ Gd → b ∈ Gd := fun a b hb hd ha => (mem b).mpr ⟨hb, tell_dvd hd ((mem a).mp ha).2⟩
  have u24 : (2 : Int) ∈ Gd → (4 : Int) ∈ Gd := up 2 4 (by decide) ⟨2, rfl⟩
  have u36 : (3 : Int) ∈ Gd → (6 : Int) ∈ Gd := up 3 6 (by decide) ⟨2, rfl⟩
  have u1 : (1 : Int) ∈ Gd → Gd.length = 6 := fun h1 => by
    have : Gd = M6 := by
      rw [← hG, List.filter_eq_self]
      intro m _
      exact tell_dvd M6_dvd ((mem 1).mp h1).2
    rw [this]; rfl
  simp [m_law_are_fewer, b_law_are_fewer, toF_def, env0]
  rw [comp_map (p := fun m => !decide (m ∈ M6.filter fun m => tellB (ss.take (ss.length - 1)) p m)) (f := D.int) (by omega) (by
    intro m hm
    simp [cutM, m1])]
  have e1 : (Gd.filter fun m => !decide (m ∈ M6.filter fun m => tellB (ss.take (ss.length - 1)) p m)) = [] := by
    rw [List.filter_eq_nil_iff]
    intro m hm
    have := (mem m).mp hm
    have h2 := tell_sub (p := p) (m := m) i1 this.2
    simp [this.1, h2]
  have c3 : VE.cutD (ss.map sgD) none (some 3) = (ss.map sgD).take 3 := cutN (i := 3)
  have c4 : (ss.map sgD).length + ((ss.map sgD).take 3).length ≤ 16777216 := by simp; omega
  have c5 : ss.length + min 3 ss.length ≤ 16777216 := by omega
  have eM : eqDs (M6.map .int) [.int 1, .int 2, .int 3, .int 4, .int 6, .int 12] = true := eqD_refl 20 (.lst (M6.map .int)) (by simp)
  have hd4 : dueR [] p 4 = .tup [.tup [], .tup [.int 0, .int 1, .int 2, .int 3]] := rfl
  rw [hd4] at r3
  have hT2 : b_law_are_fewer_T2 [.va (.tup (ss.map sgD)), .va (.str p), .va (.lst (Gd.map .int)), .no] st = .ok (.rt (.bl true)) [.va (.tup (ss.map sgD)), .va (.str p), .va (.lst (Gd.map .int)), .no] st := by
    simp [b_law_are_fewer_T2, c3, c5, m2, m3, eqG, eM, b_law_are_fewer_T3, r3, b_law_are_fewer_T4]
  rw [e1]
  by_cases q2 : (2 : Int) ∈ Gd
  · have q4 := u24 q2
    by_cases q3 : (3 : Int) ∈ Gd
    · have q6 := u36 q3
      by_cases q1 : (1 : Int) ∈ Gd
      · have q0 := u1 q1
        simp [b_law_are_fewer_T1, q1, q2, q3, q4, q6, q0, hT2]
      · simp [b_law_are_fewer_T1, q1, q2, q3, q4, q6, hT2]
    · by_cases q1 : (1 : Int) ∈ Gd
      · have q0 := u1 q1
        simp [b_law_are_fewer_T1, q1, q2, q3, q4, q0, hT2]
      · simp [b_law_are_fewer_T1, q1, q2, q3, q4, hT2]
  · by_cases q3 : (3 : Int) ∈ Gd
    · have q6 := u36 q3
      by_cases q1 : (1 : Int) ∈ Gd
      · have q0 := u1 q1
        simp [b_law_are_fewer_T1, q1, q2, q3, q6, q0, hT2]
      · simp [b_law_are_fewer_T1, q1, q2, q3, q6, hT2]
    · by_cases q1 : (1 : Int) ∈ Gd
      · have q0 := u1 q1
        simp [b_law_are_fewer_T1, q1, q2, q3, q0, hT2]
      · simp [b_law_are_fewer_T1, q1, q2, q3, hT2]
end
end VP

namespace VP
local instance inst_SL : VE.VEnv := VE.VEnv.dummy
open PySem PySem.Spec PyProof.Rows L2 VE
open SX (S S_len S_cat S_inj)
section
variable {ns : List Int} {c : Cell} {rest st : Sto} {env : EnvD} {b : Bok} {n m : Int} {k p : Str} {ks : List Str} {ss : List ((Int × Str) × Option Str)} {rows : List (Int × Str)}
theorem ww : WOk "w" := w1 (c := 119) (by decide) rfl
theorem place_wok (hb : BokOk b) {s : Str} (h : b.place n k = some s) : WOk s := by
  unfold Bok.place at h
  obtain ⟨r, hr, rfl⟩ := Option.map_eq_some_iff.mp h
  exact (hb.rules r (List.mem_of_find?_eq_some hr)).piece
/-- what a book lays -/
def trueS (b : Bok) (rows : List (Int × Str)) : List ((Int × Str) × Option Str) := rows.map fun q => (q, b.place q.1 q.2)
theorem mem_true {s : (Int × Str) × Option Str} (h : s ∈ trueS b rows) : s.1 ∈ rows ∧ s.2 = b.place s.1.1 s.1.2 := by
  obtain ⟨q, hq, rfl⟩ := List.mem_map.mp h
  exact ⟨hq, rfl⟩
theorem wrong_none (h : ∀ s ∈ ss, badS b s = false) : wrongL b ss = [] := by
  unfold wrongL
  rw [List.map_eq_nil_iff, List.filter_eq_nil_iff]
  rintro ⟨s, j⟩ hm
  have := List.mem_of_getElem? (zip_mem hm)
  simp [h s this]
theorem wrong_at {l1 l2 : List ((Int × Str) × Option Str)} {s : (Int × Str) × Option Str} (h : ∀ s ∈ l1, badS b s = false) (hs : badS b s = true) : headI (wrongL b (l1 ++ s :: l2)) = .int (l1.length : Nat) := by
  unfold wrongL
  rw [List.zipIdx_append, List.filter_append, List.map_append]
  have : ((l1.zipIdx.filter fun q => badS b q.1).map (·.2)) = [] := wrong_none (ss := l1) h
  rw [this, List.nil_append, List.zipIdx_cons, List.filter_cons_of_pos (by simpa using hs)]
  simp [headI]
theorem sp_check_row (hb : BokOk b) (h : RowOk b n k) : m_check_row [b.d, .tup [.int n, .str k]] st = .ok .non st := by
  have h1 := fun st => sp_is_number (st := st) (i := n) (lo := 0) (hi := LASTn)
  have d1 : decide ((0 : Int) ≤ n) = true := decide_eq_true h.n0
  have d2 : decide (n ≤ LASTn) = true := decide_eq_true h.n1
  have h2 := in_strs (neg := true) (hb.kinds.ok _ h.k) hb.kinds.ok
  rw [any_in, decide_eq_true h.k] at h2
  simp [m_check_row, b_check_row, toF_def, env0, kkLAST, h1, d1, d2, h2]
theorem sp_piece_of (hb : BokOk b) (h : RowOk b n k) : m_piece_of [b.d, .tup [.int n, .str k]] st = .ok (optS (b.place n k)) st := by
  have h1 := fun st => sp_check_row (st := st) hb h
  have h2 := fun st => sp_place_of (st := st) (n := n) hb (hb.kinds.ok _ h.k)
  simp [m_piece_of, b_piece_of, toF_def, env0, h1, h2]
theorem true_ok (hb : BokOk b) (hl : rows.length ≤ 17) : SgOk (trueS b rows) := ⟨by simp [trueS]; omega, fun s hs w hw => by rw [(mem_true hs).2] at hw; exact place_wok hb hw⟩
theorem true_bad {s : (Int × Str) × Option Str} (h : s ∈ trueS b rows) : badS b s = false := by
  unfold badS
  rw [(mem_true h).2]; simp
theorem cutF1 {xs : List D} {j : Nat} : VE.cutD xs (some ((j : Int) + 1)) none = xs.drop (j + 1) := by
  have := cutF (xs := xs) (i := j + 1)
  rwa [Int.natCast_add] at this
theorem L1_ok (hb : BokOk b) (hrow : ∀ q ∈ rows, RowOk b q.1 q.2) (hl : rows.length ≤ 15) {j : Nat} {q : Int × Str} (hq : rows[j]? = some q) {s0 s1 s2 s3 s4 s8 s10 s11 s12 s13 s14 s15 s16 s17 s18 s19 : Sl} :
    ∃ a, b_law_L1 [s0, s1, s2, s3, s4, .va b.d, .va (.tup (rows.map rowD)), .va (.tup ((trueS b rows).map sgD)), s8, .va (.int (j : Nat)), s10, s11, s12, s13, s14, s15, s16, s17, s18, s19] st =
      .ok .nx [s0, s1, s2, s3, s4, .va b.d, .va (.tup (rows.map rowD)), .va (.tup ((trueS b rows).map sgD)), s8, .va (.int (j : Nat)), a, s11, s12, s13, s14, s15, s16, s17, s18, s19] st := by
  have hj := (List.getElem?_eq_some_iff.mp hq).1
  have hqm := List.mem_of_getElem? hq
  have hat6 : atI (rows.map rowD) (j : Int) = some (rowD q) := atI_nat (by rw [List.getElem?_map, hq]; rfl)
  have hat7 : atI ((trueS b rows).map sgD) (j : Int) = some (sgD (q, b.place q.1 q.2)) := atI_nat (by unfold trueS; rw [List.getElem?_map, List.getElem?_map, hq]; rfl)
  have htl : (trueS b rows).length = rows.length := by simp [trueS]
  obtain ⟨wr, hwr⟩ : ∃ wr : Option Str, wr = if b.place q.1 q.2 = none then some "w" else none := ⟨_, rfl⟩
  have hbad : badS b (q, wr) = true := by
    rw [hwr]
    cases e : b.place q.1 q.2 with
    | none => simp [badS, e]
    | some x => simp [badS, e]
  have sub : ∀ s ∈ (trueS b rows).take j ++ (q, wr) :: (trueS b rows).drop (j + 1), s ∈ trueS b rows ∨ s = (q, wr) := fun s hs => by
    rcases List.mem_append.mp hs with hs | hs
    · exact .inl (List.mem_of_mem_take hs)
    · rcases List.mem_cons.mp hs with hs | hs
      · exact .inr hs
      · exact .inl (List.mem_of_mem_drop hs)
  have hok : SgOk ((trueS b rows).take j ++ (q, wr) :: (trueS b rows).drop (j + 1)) := ⟨by simp; omega, fun s hs w hw => by
    rcases sub s hs with h | rfl
    · rw [(mem_true h).2] at hw; exact place_wok hb hw
    · simp only [hwr] at hw
      split at hw
      · cases hw; exact ww
      · cases hw⟩
  have hfu := fun st => sp_first_unlike (st := st) hb hok fun s hs => by
    rcases sub s hs with h | rfl
    · exact hrow _ (mem_true h).1
    · exact hrow _ hqm
  have hlt : ((trueS b rows).take j).length = j := by simp; omega
  rw [wrong_at (fun s hs => true_bad (List.mem_of_mem_take hs)) hbad, hlt] at hfu
  simp only [List.map_append, List.map_cons, List.map_take, List.map_drop] at hfu
  have c1 : VE.cutD ((trueS b rows).map sgD) none (some (j : Int)) = ((trueS b rows).map sgD).take j := cutN
  have c2 : VE.cutD ((trueS b rows).map sgD) (some ((j : Int) + 1)) none = ((trueS b rows).map sgD).drop (j + 1) := cutF1
  have k1 : min j rows.length + 1 ≤ 16777216 := by omega
  have k2 : min j rows.length + 1 + (rows.length - (j + 1)) ≤ 16777216 := by omega
  refine ⟨.va (optS wr), ?_⟩
  cases e : b.place q.1 q.2 with
  | none =>
    rw [e] at hwr hat7
    simp only [if_true] at hwr
    subst hwr
    simp [sgD, optS] at hfu hat7
    simp [b_law_L1, hat6, hat7, isN, isNone, c1, c2, htl, k1, k2, optS, hfu]
  | some x =>
    rw [e] at hwr hat7
    simp at hwr
    subst hwr
    simp [sgD, optS] at hfu hat7
    simp [b_law_L1, hat6, hat7, isN, isNone, c1, c2, htl, k1, k2, optS, hfu]
theorem sort_asc : ∀ {xs : List Int}, xs.Pairwise (· < ·) → srtB kD (xs.map D.int) = xs.map .int
  | [], _ => rfl
  | [x], _ => rfl
  | x :: y :: ys, h => by
    obtain ⟨h1, h2⟩ := List.pairwise_cons.mp h
    have ih := sort_asc h2
    rw [List.map_cons, srtB, ih, List.map_cons]
    have hxy := h1 y List.mem_cons_self
    have e : lexK (kD (.int y)) (kD (.int x)) = false := by
      show lexK [Sum.inl y] [Sum.inl x] = false
      rw [lex1']
      simp [ltK]; omega
    simp [insB, e]
theorem sorted_asc {xs : List Int} (h : xs.Pairwise (· < ·)) : sortedD (.tup (xs.map .int)) = some (.lst (xs.map .int)) := by
  simp only [sortedD, sortL]
  have : (xs.map D.int).all isInt = true := by simp [VE.isInt]
  rw [this, sort_asc h]; rfl
theorem L2_ok {o : Bok} (ho : BokOk o) {s : (Int × Str) × Option Str} (hrow : RowOk o s.1.1 s.1.2) (hp : WOk p) (hpl : ∀ n, plain n (optS s.2) = true) (key : o.place s.1.1 s.1.2 = some p ↔ s.2 = some p) {s0 s1 s2 s3 s4 s5 s6 s7 s9 s10 s12 s13 s14 s15 s16 s17 : Sl} :
    b_law_L2 [s0, s1, s2, s3, s4, s5, s6, s7, .va (rowD s.1), s9, s10, .va (.str p), s12, s13, s14, s15, s16, s17, .va o.d, .va (optS s.2)] st = .ok .nx [s0, s1, s2, s3, s4, s5, s6, s7, .va (rowD s.1), s9, s10, .va (.str p), s12, s13, s14, s15, s16, s17, .va o.d, .va (optS s.2)] st := by
  have h1 : ∀ st, m_piece_of [o.d, rowD s.1] st = .ok (optS (o.place s.1.1 s.1.2)) st := fun st => sp_piece_of (st := st) ho hrow
  have h2 := fun n => place_opl (b := o) (n := s.1.1) (k := s.1.2) ho (m := n)
  have h3 := hp.ok
  have e1 : eqP (optS (o.place s.1.1 s.1.2)) (.str p) = some (.bl (decide (o.place s.1.1 s.1.2 = some p))) := by
    simp [eqP, h2, h3, str_eq]
  have e2 : eqP (optS s.2) (.str p) = some (.bl (decide (s.2 = some p))) := by
    simp [eqP, hpl, h3, str_eq]
  have e3 : decide (o.place s.1.1 s.1.2 = some p) = decide (s.2 = some p) := by simp [key]
  rw [e3] at e1
  simp [b_law_L2, h1, e1, e2]
theorem inL_asc : (inL ss p m).Pairwise (· < ·) := asc_intU
theorem inL_ascI (h : (inL ss p m).length < 1000) : ascI (inL ss p m) = true := ascI_sub (List.Sublist.refl _) inL_asc
/-- a book made of the rests told -/
def madeR (ks : List Str) (ss : List ((Int × Str) × Option Str)) (p : Str) (m : Int) : Rul := ⟨p, 0, 999999999999999999999999999999, m, inL ss p m, ks⟩
theorem madeR_ok (hk : KA ks) (h : SgOk ss) (hp : WOk p) (hm : m ∈ [1, 2, 3, 4, 6, 12]) (hne : inL ss p m ≠ []) : RulOk (madeR ks ss p m) := by
  have hm0 : 0 < m := by simp at hm; omega
  have hl := inL_len (p := p) (m := m) h
  refine ⟨hp, show (0 : Int) ≤ 0 by decide, show (0 : Int) ≤ LASTn by decide, show (0 : Int) ≤ 999999999999999999999999999999 by decide, show (999999999999999999999999999999 : Int) ≤ LASTn by decide, hm, hne, fun x hx => ?_, inL_ascI (by omega), by show (inL ss p m).length < 1000; omega, hk.ok⟩
  obtain ⟨s, _, _, rfl⟩ := mem_inL.mp hx
  exact ⟨Int.emod_nonneg _ (by omega), Int.emod_lt_of_pos _ hm0⟩
theorem made_place (hk : ks.Nodup) (c : tellB ss p m = true) {s : (Int × Str) × Option Str} (hs : s ∈ ss) (h0 : 0 ≤ s.1.1) (h1 : s.1.1 ≤ LASTn) (h2 : s.1.2 ∈ ks) : (Bok.mk ks [madeR ks ss p m]).place s.1.1 s.1.2 = some p ↔ s.2 = some p := by
  have hin : s.1.1 % m ∈ inL ss p m ↔ s.2 = some p := by
    rw [mem_inL]
    constructor
    · rintro ⟨t, ht, t1, t2⟩
      by_cases e : s.2 = some p
      · exact e
      · exact absurd t2 (tell_iff.mp c t ht s hs t1 e)
    · intro e; exact ⟨s, hs, e, rfl⟩
  unfold Bok.place
  dsimp only
  have hf : fitsB s.1.1 s.1.2 (madeR ks ss p m) = decide (s.1.1 % m ∈ inL ss p m) := by
    unfold fitsB madeR
    dsimp only
    have hLA : LASTn = 999999999999999999999999999999 := rfl
    rw [any_in, decide_eq_true h2, decide_eq_true h0, decide_eq_true (show s.1.1 ≤ 999999999999999999999999999999 by omega)]
    simp
  rw [List.find?_cons, hf]
  by_cases e : s.1.1 % m ∈ inL ss p m
  · simp [e, hin.mp e, madeR]
  · have : ¬ s.2 = some p := fun z => e (hin.mpr z)
    simp [e, this]
theorem L3_ok (hk : KA ks) (hkn : ks.Nodup) (h : SgOk ss) (hr : ∀ s ∈ ss, 0 ≤ s.1.1 ∧ s.1.1 ≤ LASTn ∧ s.1.2 ∈ ks) (hp : WOk p) (hm : m ∈ [1, 2, 3, 4, 6, 12]) {s0 s1 s2 s4 s5 s6 s9 s10 s14 s15 s16 s17 s18 : Sl} {c : Cell} :
    ∃ a14 a15 a16 a17 a18 a19, b_law_L3 [s0, s1, s2, .va (.tup (ks.map .str)), s4, s5, s6, .va (.tup (ss.map sgD)), .no, s9, s10, .va (.str p), .va (.lst ((M6.filter fun m => tellB ss p m).map .int)), .va (.int m), s14, s15, s16, s17, s18, .no] [c] =
      .ok .nx [s0, s1, s2, .va (.tup (ks.map .str)), s4, s5, s6, .va (.tup (ss.map sgD)), .no, s9, s10, .va (.str p), .va (.lst ((M6.filter fun m => tellB ss p m).map .int)), .va (.int m), a14, a15, a16, a17, a18, a19] [c] := by
  have hrw : SgRow ss := fun s hs => ⟨(hr s hs).1, (hr s hs).2.1, hk.ok.w _ (hr s hs).2.2⟩
  have hf := fun st => sp_rests_for (st := st) h hrw hp hm
  have hM : m ∈ M6 := hm
  have hin : m ∈ (M6.filter fun m => tellB ss p m) ↔ tellB ss p m = true := by rw [List.mem_filter]; simp [hM]
  have hl := h.len
  cases c1 : tellB ss p m with
  | false =>
    have hn : ¬ m ∈ (M6.filter fun m => tellB ss p m) := fun z => by rw [hin.mp z] at c1; cases c1
    simp only [dueR, c1] at hf
    generalize (M6.filter fun m => tellB ss p m) = Gd at hn
    simp [b_law_L3, hf, hn, isN, isNone]
  | true =>
    have hy : m ∈ (M6.filter fun m => tellB ss p m) := hin.mpr c1
    simp only [dueR, c1, if_true] at hf
    have hfree : (inL ss p m).filter (fun r => decide (r ∈ ((List.range m.toNat).map fun i => 0 + ((i : Nat) : Int)).filter fun r => !decide (r ∈ inL ss p m) && !decide (r ∈ outL ss p m))) = [] := by
      rw [List.filter_eq_nil_iff]
      intro r hr
      simp [hr]
    generalize (((List.range m.toNat).map fun i => 0 + ((i : Nat) : Int)).filter fun r => !decide (r ∈ inL ss p m) && !decide (r ∈ outL ss p m)) = Fr at hf hfree
    have il := inL_len (p := p) (m := m) h
    have hs := sorted_asc (inL_asc (ss := ss) (p := p) (m := m))
    have eqr : ∀ xs : List Int, eqDs (xs.map .int) (xs.map .int) = true := fun xs => eqD_refl 20 (.lst (xs.map .int)) (by simp)
    generalize (M6.filter fun m => tellB ss p m) = Gd at hy
    have hil : (inL ss p m).length ≤ 16777216 := by omega
    simp [b_law_L3, hf, hy, isN, isNone]
    rw [comp_map (p := fun r => decide (r ∈ Fr)) (f := D.int) (by omega) (by
      intro r hr
      simp [in_ints])]
    rw [hfree]
    simp [listD, hil, hs, eqr]
    by_cases e : inL ss p m = []
    · simp [e]
      rw [comp_map (p := fun s => decide (s.2 = some p)) (f := fun s => optS s.2) (by omega) (by
        intro s hs
        have h2 := fun n => h.pl hs (m := n)
        simp [sgD, h2, hp.ok, str_eq])]
      have e0 : ss.filter (fun s => decide (s.2 = some p)) = [] := by
        rw [List.filter_eq_nil_iff]
        intro s hs z
        have := mem_inL.mpr ⟨s, hs, of_decide_eq_true z, (rfl : s.1.1 % m = _)⟩
        rw [e] at this; cases this
      rw [e0]
      simp
    · have ed : eqDs ((inL ss p m).map D.int) [] = false := by
        cases q : inL ss p m with
        | nil => exact absurd q e
        | cons x xs => simp
      have ro := madeR_ok hk h hp hm e
      have bo : BokOk ⟨ks, [madeR ks ss p m]⟩ := ⟨hk.ok, by have := hk.len; show ks.length ≤ 4; omega, fun r hr => by rw [List.mem_singleton.mp hr]; exact ro, by simp, fun r hr k hk' => by rw [List.mem_singleton.mp hr] at hk'; exact hk'⟩
      have mk1 := fun (env : EnvD) => mk_RuleC (st := []) (c := c) (env := env) ro
      have mk2 := fun (env : EnvD) => mk_BookC (st := []) (c := c) (env := env) bo
      simp [madeR] at mk1 mk2
      simp [ed, mk1, mk2]
      have HL := fun (E0 : EnvD) (hE : ∃ s14 s15 s16 s17, E0 = [s0, s1, s2, .va (.tup (ks.map .str)), s4, s5, s6, .va (.tup (ss.map sgD)), .no, s9, s10, .va (.str p), .va (.lst (Gd.map .int)), .va (.int m), s14, s15, s16, s17, .va (Bok.d ⟨ks, [madeR ks ss p m]⟩), .no]) => for_fold (st := [c]) (t := gT 2 (gsC (gN 8) (gsC (gN 19) (gsN)))) (ws := [8, 19]) (g := sgD) (body := b_law_L2) (E := fun (_ : Unit) => E0) (step := fun _ _ => ()) ss () (by
        obtain ⟨s14, s15, s16, s17, rfl⟩ := hE
        intro _ s hs
        have h3 := hr s hs
        exact ⟨_, rfl, _, L2_ok bo ⟨h3.1, h3.2.1, h3.2.2⟩ hp (fun n => h.pl hs) (made_place hkn c1 hs h3.1 h3.2.1 h3.2.2), rfl⟩)
      exact ⟨_, _, _, _, _, _, HL _ ⟨_, _, _, _, rfl⟩⟩
theorem law_true_sat (ns : List Int) (hl : ns.length ≤ 63) : (m_law [.scr ns] []).sat (fun d _ => d = .bl true) nE := by
  unfold m_law; refine toF_sat ?_
  simp [b_law, env0]
  refine sat_for (fun i e s => ∃ c' : Cell, e = [.va (.scr ns), .va (.ref 0), .no, .no, .no, .no, .no, .no, .no, .no, .no, .no, .no, .no, .no, .no, .no, .no, .no, .no] ∧ s = [c'] ∧ DrawOk ns c') 0 ⟨_, rfl, rfl, 0, 0, 0, rfl, by decide, by decide, by decide⟩ ?_ ?_
  · rintro i d e s hd ⟨c0, rfl, rfl, hc0⟩
    obtain ⟨rfl, hi⟩ := rng_at hd
    obtain ⟨ks, c1, e1, hk, hc1⟩ := law_kinds (rest := []) hc0
    obtain ⟨q2, c2, e2, g20, g21, hc2⟩ := taken (rest := []) (many := 2) hc1 (by decide) (by decide)
    obtain ⟨wide, hw, hw0, hw1⟩ : ∃ wide, atI [D.int 30, D.int 10000000000000000000000000000] q2 = some (.int wide) ∧ 0 < wide ∧ wide ≤ 10000000000000000000000000000 := by
      rw [atI2 g20 g21]
      split
      · exact ⟨_, rfl, by decide, by decide⟩
      · exact ⟨_, rfl, by decide, by decide⟩
    obtain ⟨d3, s3, e3, b, c3, rfl, rfl, hc3, hb, hbk, _, _⟩ := sat_ex (law_book (rest := []) hk hc2 hw0 hw1)
    obtain ⟨d4, s4, e4, rows, c4, rfl, rfl, hc4, hnd, hrl, hrs⟩ := sat_ex (law_rows (rest := []) (most := 15) hk hc3 hw0 hw1 (by decide) (by decide))
    have hrow : ∀ q ∈ rows, RowOk b q.1 q.2 := fun q hq => by have := hrs q hq; exact ⟨this.1, this.2.1, by rw [hbk]; exact this.2.2⟩
    have hrl' : rows.length ≤ 15 := by omega
    have htl : (trueS b rows).length = rows.length := by simp [trueS]
    have hss : SgOk (trueS b rows) := true_ok hb (by omega)
    have hsR : ∀ s ∈ trueS b rows, RowOk b s.1.1 s.1.2 := fun s hs => hrow _ (mem_true hs).1
    have hsG : SgRow (trueS b rows) := fun s hs => by have := hrs _ (mem_true hs).1; exact ⟨this.1, this.2.1, hk.ok.w _ this.2.2⟩
    have hsK : ∀ s ∈ trueS b rows, 0 ≤ s.1.1 ∧ s.1.1 ≤ LASTn ∧ s.1.2 ∈ ks := fun s hs => hrs _ (mem_true hs).1
    have f1 := fun st => sp_first_unlike (st := st) hb hss hsR
    rw [wrong_none fun s hs => true_bad hs] at f1
    have i2 : ∀ s ∈ trueS b rows ++ (trueS b rows).take 2, s ∈ trueS b rows := fun s hs => (List.mem_append.mp hs).elim id List.mem_of_mem_take
    have f2 := fun st => sp_first_unlike (st := st) (ss := trueS b rows ++ (trueS b rows).take 2) hb (hss.sub (by simp; omega) i2) fun s hs => hsR s (i2 s hs)
    rw [wrong_none fun s hs => true_bad (i2 s hs)] at f2
    simp only [List.map_append, List.map_take] at f2
    have ct2 : VE.cutD ((trueS b rows).map sgD) none (some 2) = ((trueS b rows).map sgD).take 2 := cutN (i := 2)
    obtain ⟨e5, st5, h5, rfl, rfl⟩ := for_inv (t := gN 9) (ws := [9, 10]) (body := b_law_L1) (fun j env st => env = [.va (.scr ns), .va (.ref 0), .va (.int (i : Nat)), .va (.tup (ks.map .str)), .va (.int wide), .va b.d, .va (.tup (rows.map rowD)), .va (.tup ((trueS b rows).map sgD)), .no, .no, .no, .no, .no, .no, .no, .no, .no, .no, .no, .no] ∧ st = [c4])
      (rngD 0 rows.length) 0 [.va (.scr ns), .va (.ref 0), .va (.int (i : Nat)), .va (.tup (ks.map .str)), .va (.int wide), .va b.d, .va (.tup (rows.map rowD)), .va (.tup ((trueS b rows).map sgD)), .no, .no, .no, .no, .no, .no, .no, .no, .no, .no, .no, .no] [c4] ⟨rfl, rfl⟩ (by
        rintro j d env st hd ⟨rfl, rfl⟩
        obtain ⟨rfl, hj⟩ := rng_at hd
        obtain ⟨q, hq⟩ : ∃ q, rows[j]? = some q := ⟨_, List.getElem?_eq_getElem hj⟩
        obtain ⟨a, h1⟩ := L1_ok (st := [c4]) hb hrow hrl' hq (s0 := .va (.scr ns)) (s1 := .va (.ref 0)) (s2 := .va (.int (i : Nat))) (s3 := .va (.tup (ks.map .str))) (s4 := .va (.int wide)) (s8 := .no) (s10 := .no) (s11 := .no) (s12 := .no) (s13 := .no) (s14 := .no) (s15 := .no) (s16 := .no) (s17 := .no) (s18 := .no) (s19 := .no)
        rw [Int.zero_add]
        exact ⟨_, rfl, _, _, h1, rfl, rfl⟩)
    obtain ⟨q3, c6, e7, g30, g31, hc6⟩ := taken (rest := []) (many := 3) hc4 (by decide) (by decide)
    obtain ⟨p, hp3, hpw⟩ : ∃ p : Str, atI [D.str ("x" : Str), .str ("y" : Str), .str ("w" : Str)] q3 = some (.str p) ∧ WOk p := by
      rw [atI3 g30 g31]
      by_cases a : q3 = 0
      · exact ⟨"x", by simp [a], wx⟩
      · by_cases a2 : q3 = 1
        · exact ⟨"y", by simp [a2], wy⟩
        · exact ⟨"w", by simp [a, a2], ww⟩
    have hmo : ∀ st, m_moduli_for [.tup ((trueS b rows).map sgD), .str p] st = .ok (.lst ((M6.filter fun m => tellB (trueS b rows) p m).map .int)) st := fun st => sp_moduli_for (st := st) hss hsG hpw
    obtain ⟨e8, st8, h8, rfl, rfl⟩ := for_inv (t := gN 13) (ws := [13, 14, 15, 16, 17, 18, 19]) (body := b_law_L3) (fun j env st => env = [.va (.scr ns), .va (.ref 0), .va (.int (i : Nat)), .va (.tup (ks.map .str)), .va (.int wide), .va b.d, .va (.tup (rows.map rowD)), .va (.tup ((trueS b rows).map sgD)), .no, .no, .no, .va (.str p), .va (.lst ((M6.filter fun m => tellB (trueS b rows) p m).map .int)), .no, .no, .no, .no, .no, .no, .no] ∧ st = [c6])
      (([1, 2, 3, 4, 6, 12] : List Int).map .int) 0 [.va (.scr ns), .va (.ref 0), .va (.int (i : Nat)), .va (.tup (ks.map .str)), .va (.int wide), .va b.d, .va (.tup (rows.map rowD)), .va (.tup ((trueS b rows).map sgD)), .no, .no, .no, .va (.str p), .va (.lst ((M6.filter fun m => tellB (trueS b rows) p m).map .int)), .no, .no, .no, .no, .no, .no, .no] [c6] ⟨rfl, rfl⟩ (by
        rintro j d env st hd ⟨rfl, rfl⟩
        rw [List.getElem?_map] at hd
        obtain ⟨m, hm, rfl⟩ := Option.map_eq_some_iff.mp hd
        obtain ⟨a14, a15, a16, a17, a18, a19, h1⟩ := L3_ok (c := c6) (ks := ks) hk (by rcases hk with rfl | rfl | rfl <;> decide) hss hsK hpw (List.mem_of_getElem? hm) (s0 := .va (.scr ns)) (s1 := .va (.ref 0)) (s2 := .va (.int (i : Nat))) (s4 := .va (.int wide)) (s5 := .va b.d) (s6 := .va (.tup (rows.map rowD))) (s9 := .no) (s10 := .no) (s14 := .no) (s15 := .no) (s16 := .no) (s17 := .no) (s18 := .no)
        exact ⟨_, rfl, _, _, h1, rfl, rfl⟩)
    have haf : ∀ st, m_law_are_fewer [.tup ((trueS b rows).map sgD), .str p, .lst ((M6.filter fun m => tellB (trueS b rows) p m).map .int)] st = .ok (.bl true) st := fun st => sp_are_fewer (st := st) hss (by omega) hsG hpw
    have hcomp : compL (gN 8) [8] bYes (eTup (eCons (eVar 8) (eCons (eCall m_piece_of 2 (eCons (eVar 5) (eCons (eVar 8) (eNil)))) (eNil)))) (rows.map rowD) [] [.va (.scr ns), .va (.ref 0), .va (.int (i : Nat)), .va (.tup (ks.map .str)), .va (.int wide), .va b.d, .va (.tup (rows.map rowD)), .no, .no, .no, .no, .no, .no, .no, .no, .no, .no, .no, .no, .no] [c4] = .ok (.lst ((trueS b rows).map sgD)) [.va (.scr ns), .va (.ref 0), .va (.int (i : Nat)), .va (.tup (ks.map .str)), .va (.int wide), .va b.d, .va (.tup (rows.map rowD)), .no, .no, .no, .no, .no, .no, .no, .no, .no, .no, .no, .no, .no] [c4] := by
      rw [comp_all (f := fun q => sgD (q, b.place q.1 q.2)) (by omega) (by
        intro q hq
        have h1 : ∀ st, m_piece_of [b.d, rowD q] st = .ok (optS (b.place q.1 q.2)) st := fun st => sp_piece_of (st := st) hb (hrow q hq)
        simp [h1, sgD])]
      simp [trueS, Function.comp_def]
    refine ⟨_, rfl, ?_⟩
    have rm := rOk_ (j := (rows.length : Int)) (by omega) (by omega)
    have hl2 : rows.length + min 2 rows.length ≤ 16777216 := by omega
    simp only [List.map_cons, List.map_nil] at h8
    generalize (M6.filter fun m => tellB (trueS b rows) p m) = Gd at hmo h8 haf
    generalize htS : (trueS b rows).map sgD = TS at f1 f2 ct2 h5 h8 hmo haf hcomp
    have hTl : TS.length = rows.length := by rw [← htS, List.length_map, htl]
    simp [b_law_L4, e1, e2, e3, e4, hw, hcomp, f1, f2, ct2, headI, isN, isNone, hTl, hl2, rm, h5, e7, hp3, hmo, h8, haf]
    exact hc6
  · rintro e s ⟨c', rfl, rfl, hc'⟩
    simp
theorem law_true : VE.LawTrue m_law := fun ns hl => by
  obtain ⟨d, s, h, rfl⟩ := sat_ex (law_true_sat ns hl)
  exact ⟨s, h⟩
end
end VP

namespace VP
open PySem PySem.Spec PyProof.Rows L2 VE
theorem all_mk {l : PySem.W.OpenLaw} {w : World} {K : PySem.W.Frag} {h : Heap} {mg : Str → Option Value} {fa : Addr} (X : K.In h) (G : h.Ns mainGlobals mg) (hfa : mg "law" = some (.ref fa))
    {C_Rule : Addr}
    {p_Rule_0 : Addr}
    {C_Book : Addr}
    {p_Book_0 : Addr}
    {f_is_number : Addr} {oc_is_number kV_is_number dc_is_number pm_is_number cd_is_number ct_is_number : Value} {od_is_number an_is_number : Option Addr} {sl_is_number : Array (Option Value)}
    {f_is_word : Addr} {oc_is_word kV_is_word dc_is_word pm_is_word cd_is_word ct_is_word : Value} {od_is_word an_is_word : Option Addr} {sl_is_word : Array (Option Value)}
    {f_ascend : Addr} {oc_ascend kV_ascend dc_ascend pm_ascend cd_ascend ct_ascend : Value} {od_ascend an_ascend : Option Addr} {sl_ascend : Array (Option Value)}
    {f_Rule_piece : Addr} {oc_Rule_piece kV_Rule_piece dc_Rule_piece pm_Rule_piece cd_Rule_piece ct_Rule_piece : Value} {od_Rule_piece an_Rule_piece : Option Addr} {sl_Rule_piece : Array (Option Value)}
    {p_Rule_piece : Addr} {r_Rule_piece : List Value}
    {f_Rule_low : Addr} {oc_Rule_low kV_Rule_low dc_Rule_low pm_Rule_low cd_Rule_low ct_Rule_low : Value} {od_Rule_low an_Rule_low : Option Addr} {sl_Rule_low : Array (Option Value)}
    {p_Rule_low : Addr} {r_Rule_low : List Value}
    {f_Rule_high : Addr} {oc_Rule_high kV_Rule_high dc_Rule_high pm_Rule_high cd_Rule_high ct_Rule_high : Value} {od_Rule_high an_Rule_high : Option Addr} {sl_Rule_high : Array (Option Value)}
    {p_Rule_high : Addr} {r_Rule_high : List Value}
    {f_Rule_modulus : Addr} {oc_Rule_modulus kV_Rule_modulus dc_Rule_modulus pm_Rule_modulus cd_Rule_modulus ct_Rule_modulus : Value} {od_Rule_modulus an_Rule_modulus : Option Addr} {sl_Rule_modulus : Array (Option Value)}
    {p_Rule_modulus : Addr} {r_Rule_modulus : List Value}
    {f_Rule_rests : Addr} {oc_Rule_rests kV_Rule_rests dc_Rule_rests pm_Rule_rests cd_Rule_rests ct_Rule_rests : Value} {od_Rule_rests an_Rule_rests : Option Addr} {sl_Rule_rests : Array (Option Value)}
    {p_Rule_rests : Addr} {r_Rule_rests : List Value}
    {f_Rule_kinds : Addr} {oc_Rule_kinds kV_Rule_kinds dc_Rule_kinds pm_Rule_kinds cd_Rule_kinds ct_Rule_kinds : Value} {od_Rule_kinds an_Rule_kinds : Option Addr} {sl_Rule_kinds : Array (Option Value)}
    {p_Rule_kinds : Addr} {r_Rule_kinds : List Value}
    {f_Book_kinds : Addr} {oc_Book_kinds kV_Book_kinds dc_Book_kinds pm_Book_kinds cd_Book_kinds ct_Book_kinds : Value} {od_Book_kinds an_Book_kinds : Option Addr} {sl_Book_kinds : Array (Option Value)}
    {p_Book_kinds : Addr} {r_Book_kinds : List Value}
    {f_Book_rules : Addr} {oc_Book_rules kV_Book_rules dc_Book_rules pm_Book_rules cd_Book_rules ct_Book_rules : Value} {od_Book_rules an_Book_rules : Option Addr} {sl_Book_rules : Array (Option Value)}
    {p_Book_rules : Addr} {r_Book_rules : List Value}
    {f_rest_of : Addr} {oc_rest_of kV_rest_of dc_rest_of pm_rest_of cd_rest_of ct_rest_of : Value} {od_rest_of an_rest_of : Option Addr} {sl_rest_of : Array (Option Value)}
    {f_check_modulus : Addr} {oc_check_modulus kV_check_modulus dc_check_modulus pm_check_modulus cd_check_modulus ct_check_modulus : Value} {od_check_modulus an_check_modulus : Option Addr} {sl_check_modulus : Array (Option Value)}
    {f_law_taken : Addr} {oc_law_taken kV_law_taken dc_law_taken pm_law_taken cd_law_taken ct_law_taken : Value} {od_law_taken an_law_taken : Option Addr} {sl_law_taken : Array (Option Value)}
    {f_are_kinds : Addr} {oc_are_kinds kV_are_kinds dc_are_kinds pm_are_kinds cd_are_kinds ct_are_kinds : Value} {od_are_kinds an_are_kinds : Option Addr} {sl_are_kinds : Array (Option Value)}
    {f_are_rests : Addr} {oc_are_rests kV_are_rests dc_are_rests pm_are_rests cd_are_rests ct_are_rests : Value} {od_are_rests an_are_rests : Option Addr} {sl_are_rests : Array (Option Value)}
    {f_check_kinds : Addr} {oc_check_kinds kV_check_kinds dc_check_kinds pm_check_kinds cd_check_kinds ct_check_kinds : Value} {od_check_kinds an_check_kinds : Option Addr} {sl_check_kinds : Array (Option Value)}
    {f_rests_seen : Addr} {oc_rests_seen kV_rests_seen dc_rests_seen pm_rests_seen cd_rests_seen ct_rests_seen : Value} {od_rests_seen an_rests_seen : Option Addr} {sl_rests_seen : Array (Option Value)}
    {f_law_kinds : Addr} {oc_law_kinds kV_law_kinds dc_law_kinds pm_law_kinds cd_law_kinds ct_law_kinds : Value} {od_law_kinds an_law_kinds : Option Addr} {sl_law_kinds : Array (Option Value)}
    {f_law_rows : Addr} {oc_law_rows kV_law_rows dc_law_rows pm_law_rows cd_law_rows ct_law_rows : Value} {od_law_rows an_law_rows : Option Addr} {sl_law_rows : Array (Option Value)}
    {f_Rule_init : Addr} {oc_Rule_init kV_Rule_init dc_Rule_init pm_Rule_init cd_Rule_init ct_Rule_init : Value} {od_Rule_init an_Rule_init : Option Addr} {sl_Rule_init : Array (Option Value)}
    {f_Book_init : Addr} {oc_Book_init kV_Book_init dc_Book_init pm_Book_init cd_Book_init ct_Book_init : Value} {od_Book_init an_Book_init : Option Addr} {sl_Book_init : Array (Option Value)}
    {f_fits : Addr} {oc_fits kV_fits dc_fits pm_fits cd_fits ct_fits : Value} {od_fits an_fits : Option Addr} {sl_fits : Array (Option Value)}
    {f_check_row : Addr} {oc_check_row kV_check_row dc_check_row pm_check_row cd_check_row ct_check_row : Value} {od_check_row an_check_row : Option Addr} {sl_check_row : Array (Option Value)}
    {f_is_row : Addr} {oc_is_row kV_is_row dc_is_row pm_is_row cd_is_row ct_is_row : Value} {od_is_row an_is_row : Option Addr} {sl_is_row : Array (Option Value)}
    {f_can_tell : Addr} {oc_can_tell kV_can_tell dc_can_tell pm_can_tell cd_can_tell ct_can_tell : Value} {od_can_tell an_can_tell : Option Addr} {sl_can_tell : Array (Option Value)}
    {f_fitting : Addr} {oc_fitting kV_fitting dc_fitting pm_fitting cd_fitting ct_fitting : Value} {od_fitting an_fitting : Option Addr} {sl_fitting : Array (Option Value)}
    {f_place_of : Addr} {oc_place_of kV_place_of dc_place_of pm_place_of cd_place_of ct_place_of : Value} {od_place_of an_place_of : Option Addr} {sl_place_of : Array (Option Value)}
    {f_check_sights : Addr} {oc_check_sights kV_check_sights dc_check_sights pm_check_sights cd_check_sights ct_check_sights : Value} {od_check_sights an_check_sights : Option Addr} {sl_check_sights : Array (Option Value)}
    {f_law_book : Addr} {oc_law_book kV_law_book dc_law_book pm_law_book cd_law_book ct_law_book : Value} {od_law_book an_law_book : Option Addr} {sl_law_book : Array (Option Value)}
    {f_piece_of : Addr} {oc_piece_of kV_piece_of dc_piece_of pm_piece_of cd_piece_of ct_piece_of : Value} {od_piece_of an_piece_of : Option Addr} {sl_piece_of : Array (Option Value)}
    {f_first_unlike : Addr} {oc_first_unlike kV_first_unlike dc_first_unlike pm_first_unlike cd_first_unlike ct_first_unlike : Value} {od_first_unlike an_first_unlike : Option Addr} {sl_first_unlike : Array (Option Value)}
    {cc_first_unlike PP_first_unlike : Addr} {oo_first_unlike : Obj}
    {f_check_seen : Addr} {oc_check_seen kV_check_seen dc_check_seen pm_check_seen cd_check_seen ct_check_seen : Value} {od_check_seen an_check_seen : Option Addr} {sl_check_seen : Array (Option Value)}
    {cc_check_seen PP_check_seen : Addr} {oo_check_seen : Obj}
    {f_moduli_for : Addr} {oc_moduli_for kV_moduli_for dc_moduli_for pm_moduli_for cd_moduli_for ct_moduli_for : Value} {od_moduli_for an_moduli_for : Option Addr} {sl_moduli_for : Array (Option Value)}
    {f_rests_for : Addr} {oc_rests_for kV_rests_for dc_rests_for pm_rests_for cd_rests_for ct_rests_for : Value} {od_rests_for an_rests_for : Option Addr} {sl_rests_for : Array (Option Value)}
    {f_law_are_fewer : Addr} {oc_law_are_fewer kV_law_are_fewer dc_law_are_fewer pm_law_are_fewer cd_law_are_fewer ct_law_are_fewer : Value} {od_law_are_fewer an_law_are_fewer : Option Addr} {sl_law_are_fewer : Array (Option Value)}
    {f_law : Addr} {oc_law kV_law dc_law pm_law cd_law ct_law : Value} {od_law an_law : Option Addr} {sl_law : Array (Option Value)}
    {t_LAST : Tok}
    {t_LETTERS : Tok}
    {t_MAX_KINDS : Tok}
    {t_MAX_RULES : Tok}
    {t_MAX_SIGHTS : Tok}
    {t_MAX_WORD : Tok}
    {a_MODULI : Addr} {dd_MODULI : Option Addr} {k_MODULI : Nat} {sl_MODULI : Array (Option Value)} {t_MODULI_0 : Tok} {t_MODULI_1 : Tok} {t_MODULI_2 : Tok} {t_MODULI_3 : Tok} {t_MODULI_4 : Tok} {t_MODULI_5 : Tok}
    (aC_Rule : PySem.W.nsIn K mainGlobals "Rule" = some (some (.ref C_Rule)))
    (pg_Rule : PySem.W.plainGet K C_Rule Str.empty = true)
    (ic_Rule : PySem.W.isClsIn K C_Rule = true)
    (po_Rule : PySem.W.plainOver K C_Rule = true)
    (sa_Rule : PySem.W.findIn K (.ref C_Rule) "__setattr__" = some (some (.builtin "object.__setattr__")))
    (mk_Rule : PySem.W.makesIn K C_Rule = true)
    (kc_Rule : PySem.W.keepIn K (.ref C_Rule) = true)
    (da_Rule_0 : PySem.W.findIn K (.ref C_Rule) "parts" = some (some (.ref p_Rule_0)))
    (dg_Rule_0 : PySem.W.specialIn K (.ref p_Rule_0) "__get__" = some (some (.builtin "member_descriptor.__get__")))
    (dt_Rule_0 : PySem.W.takesIn K (.ref p_Rule_0) = some true)
    (di_Rule_0 : PySem.W.slotIn K p_Rule_0 C_Rule = some 0)
    (dy_Rule_0 : PySem.W.typeIn K (.ref p_Rule_0) = some (.type "member_descriptor"))
    (aC_Book : PySem.W.nsIn K mainGlobals "Book" = some (some (.ref C_Book)))
    (pg_Book : PySem.W.plainGet K C_Book Str.empty = true)
    (ic_Book : PySem.W.isClsIn K C_Book = true)
    (po_Book : PySem.W.plainOver K C_Book = true)
    (sa_Book : PySem.W.findIn K (.ref C_Book) "__setattr__" = some (some (.builtin "object.__setattr__")))
    (mk_Book : PySem.W.makesIn K C_Book = true)
    (kc_Book : PySem.W.keepIn K (.ref C_Book) = true)
    (da_Book_0 : PySem.W.findIn K (.ref C_Book) "lists" = some (some (.ref p_Book_0)))
    (dg_Book_0 : PySem.W.specialIn K (.ref p_Book_0) "__get__" = some (some (.builtin "member_descriptor.__get__")))
    (dt_Book_0 : PySem.W.takesIn K (.ref p_Book_0) = some true)
    (di_Book_0 : PySem.W.slotIn K p_Book_0 C_Book = some 0)
    (dy_Book_0 : PySem.W.typeIn K (.ref p_Book_0) = some (.type "member_descriptor"))
    (a_is_number : PySem.W.nsIn K mainGlobals "is_number" = some (some (.ref f_is_number)))
    (l_is_number : K.lookup f_is_number = some ⟨oc_is_number, od_is_number, .func (PySem.W.fnOf "is_number" "is_number" (defArgs s_is_number) (defBody s_is_number) (defScope s_is_number) .none kV_is_number dc_is_number pm_is_number an_is_number cd_is_number ct_is_number), sl_is_number⟩)
    (c_is_number : PySem.W.codeIn K cd_is_number "is_number" = true)
    (k_is_number : PySem.W.keepIn K (.ref f_is_number) = true)
    (a_is_word : PySem.W.nsIn K mainGlobals "is_word" = some (some (.ref f_is_word)))
    (l_is_word : K.lookup f_is_word = some ⟨oc_is_word, od_is_word, .func (PySem.W.fnOf "is_word" "is_word" (defArgs s_is_word) (defBody s_is_word) (defScope s_is_word) .none kV_is_word dc_is_word pm_is_word an_is_word cd_is_word ct_is_word), sl_is_word⟩)
    (c_is_word : PySem.W.codeIn K cd_is_word "is_word" = true)
    (k_is_word : PySem.W.keepIn K (.ref f_is_word) = true)
    (a_ascend : PySem.W.nsIn K mainGlobals "ascend" = some (some (.ref f_ascend)))
    (l_ascend : K.lookup f_ascend = some ⟨oc_ascend, od_ascend, .func (PySem.W.fnOf "ascend" "ascend" (defArgs s_ascend) (defBody s_ascend) (defScope s_ascend) .none kV_ascend dc_ascend pm_ascend an_ascend cd_ascend ct_ascend), sl_ascend⟩)
    (c_ascend : PySem.W.codeIn K cd_ascend "ascend" = true)
    (k_ascend : PySem.W.keepIn K (.ref f_ascend) = true)
    (a_Rule_piece : PySem.W.findIn K (.ref C_Rule) "piece" = some (some (.ref p_Rule_piece)))
    (pg2_Rule_piece : PySem.W.specialIn K (.ref p_Rule_piece) "__get__" = some (some (.builtin "property.__get__")))
    (pt_Rule_piece : PySem.W.takesIn K (.ref p_Rule_piece) = some true)
    (pr_Rule_piece : PySem.W.recIn K p_Rule_piece "property" = some (.ref f_Rule_piece :: r_Rule_piece))
    (l_Rule_piece : K.lookup f_Rule_piece = some ⟨oc_Rule_piece, od_Rule_piece, .func (PySem.W.fnOf "piece" "Rule.piece" (defArgs s_Rule_piece) (defBody s_Rule_piece) (defScope s_Rule_piece) .none kV_Rule_piece dc_Rule_piece pm_Rule_piece an_Rule_piece cd_Rule_piece ct_Rule_piece), sl_Rule_piece⟩)
    (c_Rule_piece : PySem.W.codeIn K cd_Rule_piece "Rule.piece" = true)
    (k_Rule_piece : PySem.W.keepIn K (.ref f_Rule_piece) = true)
    (a_Rule_low : PySem.W.findIn K (.ref C_Rule) "low" = some (some (.ref p_Rule_low)))
    (pg2_Rule_low : PySem.W.specialIn K (.ref p_Rule_low) "__get__" = some (some (.builtin "property.__get__")))
    (pt_Rule_low : PySem.W.takesIn K (.ref p_Rule_low) = some true)
    (pr_Rule_low : PySem.W.recIn K p_Rule_low "property" = some (.ref f_Rule_low :: r_Rule_low))
    (l_Rule_low : K.lookup f_Rule_low = some ⟨oc_Rule_low, od_Rule_low, .func (PySem.W.fnOf "low" "Rule.low" (defArgs s_Rule_low) (defBody s_Rule_low) (defScope s_Rule_low) .none kV_Rule_low dc_Rule_low pm_Rule_low an_Rule_low cd_Rule_low ct_Rule_low), sl_Rule_low⟩)
    (c_Rule_low : PySem.W.codeIn K cd_Rule_low "Rule.low" = true)
    (k_Rule_low : PySem.W.keepIn K (.ref f_Rule_low) = true)
    (a_Rule_high : PySem.W.findIn K (.ref C_Rule) "high" = some (some (.ref p_Rule_high)))
    (pg2_Rule_high : PySem.W.specialIn K (.ref p_Rule_high) "__get__" = some (some (.builtin "property.__get__")))
    (pt_Rule_high : PySem.W.takesIn K (.ref p_Rule_high) = some true)
    (pr_Rule_high : PySem.W.recIn K p_Rule_high "property" = some (.ref f_Rule_high :: r_Rule_high))
    (l_Rule_high : K.lookup f_Rule_high = some ⟨oc_Rule_high, od_Rule_high, .func (PySem.W.fnOf "high" "Rule.high" (defArgs s_Rule_high) (defBody s_Rule_high) (defScope s_Rule_high) .none kV_Rule_high dc_Rule_high pm_Rule_high an_Rule_high cd_Rule_high ct_Rule_high), sl_Rule_high⟩)
    (c_Rule_high : PySem.W.codeIn K cd_Rule_high "Rule.high" = true)
    (k_Rule_high : PySem.W.keepIn K (.ref f_Rule_high) = true)
    (a_Rule_modulus : PySem.W.findIn K (.ref C_Rule) "modulus" = some (some (.ref p_Rule_modulus)))
    (pg2_Rule_modulus : PySem.W.specialIn K (.ref p_Rule_modulus) "__get__" = some (some (.builtin "property.__get__")))
    (pt_Rule_modulus : PySem.W.takesIn K (.ref p_Rule_modulus) = some true)
    (pr_Rule_modulus : PySem.W.recIn K p_Rule_modulus "property" = some (.ref f_Rule_modulus :: r_Rule_modulus))
    (l_Rule_modulus : K.lookup f_Rule_modulus = some ⟨oc_Rule_modulus, od_Rule_modulus, .func (PySem.W.fnOf "modulus" "Rule.modulus" (defArgs s_Rule_modulus) (defBody s_Rule_modulus) (defScope s_Rule_modulus) .none kV_Rule_modulus dc_Rule_modulus pm_Rule_modulus an_Rule_modulus cd_Rule_modulus ct_Rule_modulus), sl_Rule_modulus⟩)
    (c_Rule_modulus : PySem.W.codeIn K cd_Rule_modulus "Rule.modulus" = true)
    (k_Rule_modulus : PySem.W.keepIn K (.ref f_Rule_modulus) = true)
    (a_Rule_rests : PySem.W.findIn K (.ref C_Rule) "rests" = some (some (.ref p_Rule_rests)))
    (pg2_Rule_rests : PySem.W.specialIn K (.ref p_Rule_rests) "__get__" = some (some (.builtin "property.__get__")))
    (pt_Rule_rests : PySem.W.takesIn K (.ref p_Rule_rests) = some true)
    (pr_Rule_rests : PySem.W.recIn K p_Rule_rests "property" = some (.ref f_Rule_rests :: r_Rule_rests))
    (l_Rule_rests : K.lookup f_Rule_rests = some ⟨oc_Rule_rests, od_Rule_rests, .func (PySem.W.fnOf "rests" "Rule.rests" (defArgs s_Rule_rests) (defBody s_Rule_rests) (defScope s_Rule_rests) .none kV_Rule_rests dc_Rule_rests pm_Rule_rests an_Rule_rests cd_Rule_rests ct_Rule_rests), sl_Rule_rests⟩)
    (c_Rule_rests : PySem.W.codeIn K cd_Rule_rests "Rule.rests" = true)
    (k_Rule_rests : PySem.W.keepIn K (.ref f_Rule_rests) = true)
    (a_Rule_kinds : PySem.W.findIn K (.ref C_Rule) "kinds" = some (some (.ref p_Rule_kinds)))
    (pg2_Rule_kinds : PySem.W.specialIn K (.ref p_Rule_kinds) "__get__" = some (some (.builtin "property.__get__")))
    (pt_Rule_kinds : PySem.W.takesIn K (.ref p_Rule_kinds) = some true)
    (pr_Rule_kinds : PySem.W.recIn K p_Rule_kinds "property" = some (.ref f_Rule_kinds :: r_Rule_kinds))
    (l_Rule_kinds : K.lookup f_Rule_kinds = some ⟨oc_Rule_kinds, od_Rule_kinds, .func (PySem.W.fnOf "kinds" "Rule.kinds" (defArgs s_Rule_kinds) (defBody s_Rule_kinds) (defScope s_Rule_kinds) .none kV_Rule_kinds dc_Rule_kinds pm_Rule_kinds an_Rule_kinds cd_Rule_kinds ct_Rule_kinds), sl_Rule_kinds⟩)
    (c_Rule_kinds : PySem.W.codeIn K cd_Rule_kinds "Rule.kinds" = true)
    (k_Rule_kinds : PySem.W.keepIn K (.ref f_Rule_kinds) = true)
    (a_Book_kinds : PySem.W.findIn K (.ref C_Book) "kinds" = some (some (.ref p_Book_kinds)))
    (pg2_Book_kinds : PySem.W.specialIn K (.ref p_Book_kinds) "__get__" = some (some (.builtin "property.__get__")))
    (pt_Book_kinds : PySem.W.takesIn K (.ref p_Book_kinds) = some true)
    (pr_Book_kinds : PySem.W.recIn K p_Book_kinds "property" = some (.ref f_Book_kinds :: r_Book_kinds))
    (l_Book_kinds : K.lookup f_Book_kinds = some ⟨oc_Book_kinds, od_Book_kinds, .func (PySem.W.fnOf "kinds" "Book.kinds" (defArgs s_Book_kinds) (defBody s_Book_kinds) (defScope s_Book_kinds) .none kV_Book_kinds dc_Book_kinds pm_Book_kinds an_Book_kinds cd_Book_kinds ct_Book_kinds), sl_Book_kinds⟩)
    (c_Book_kinds : PySem.W.codeIn K cd_Book_kinds "Book.kinds" = true)
    (k_Book_kinds : PySem.W.keepIn K (.ref f_Book_kinds) = true)
    (a_Book_rules : PySem.W.findIn K (.ref C_Book) "rules" = some (some (.ref p_Book_rules)))
    (pg2_Book_rules : PySem.W.specialIn K (.ref p_Book_rules) "__get__" = some (some (.builtin "property.__get__")))
    (pt_Book_rules : PySem.W.takesIn K (.ref p_Book_rules) = some true)
    (pr_Book_rules : PySem.W.recIn K p_Book_rules "property" = some (.ref f_Book_rules :: r_Book_rules))
    (l_Book_rules : K.lookup f_Book_rules = some ⟨oc_Book_rules, od_Book_rules, .func (PySem.W.fnOf "rules" "Book.rules" (defArgs s_Book_rules) (defBody s_Book_rules) (defScope s_Book_rules) .none kV_Book_rules dc_Book_rules pm_Book_rules an_Book_rules cd_Book_rules ct_Book_rules), sl_Book_rules⟩)
    (c_Book_rules : PySem.W.codeIn K cd_Book_rules "Book.rules" = true)
    (k_Book_rules : PySem.W.keepIn K (.ref f_Book_rules) = true)
    (a_rest_of : PySem.W.nsIn K mainGlobals "rest_of" = some (some (.ref f_rest_of)))
    (l_rest_of : K.lookup f_rest_of = some ⟨oc_rest_of, od_rest_of, .func (PySem.W.fnOf "rest_of" "rest_of" (defArgs s_rest_of) (defBody s_rest_of) (defScope s_rest_of) .none kV_rest_of dc_rest_of pm_rest_of an_rest_of cd_rest_of ct_rest_of), sl_rest_of⟩)
    (c_rest_of : PySem.W.codeIn K cd_rest_of "rest_of" = true)
    (k_rest_of : PySem.W.keepIn K (.ref f_rest_of) = true)
    (a_check_modulus : PySem.W.nsIn K mainGlobals "check_modulus" = some (some (.ref f_check_modulus)))
    (l_check_modulus : K.lookup f_check_modulus = some ⟨oc_check_modulus, od_check_modulus, .func (PySem.W.fnOf "check_modulus" "check_modulus" (defArgs s_check_modulus) (defBody s_check_modulus) (defScope s_check_modulus) .none kV_check_modulus dc_check_modulus pm_check_modulus an_check_modulus cd_check_modulus ct_check_modulus), sl_check_modulus⟩)
    (c_check_modulus : PySem.W.codeIn K cd_check_modulus "check_modulus" = true)
    (k_check_modulus : PySem.W.keepIn K (.ref f_check_modulus) = true)
    (a_law_taken : PySem.W.nsIn K mainGlobals "_law_taken" = some (some (.ref f_law_taken)))
    (l_law_taken : K.lookup f_law_taken = some ⟨oc_law_taken, od_law_taken, .func (PySem.W.fnOf "_law_taken" "_law_taken" (defArgs s_law_taken) (defBody s_law_taken) (defScope s_law_taken) .none kV_law_taken dc_law_taken pm_law_taken an_law_taken cd_law_taken ct_law_taken), sl_law_taken⟩)
    (c_law_taken : PySem.W.codeIn K cd_law_taken "_law_taken" = true)
    (k_law_taken : PySem.W.keepIn K (.ref f_law_taken) = true)
    (a_are_kinds : PySem.W.nsIn K mainGlobals "are_kinds" = some (some (.ref f_are_kinds)))
    (l_are_kinds : K.lookup f_are_kinds = some ⟨oc_are_kinds, od_are_kinds, .func (PySem.W.fnOf "are_kinds" "are_kinds" (defArgs s_are_kinds) (defBody s_are_kinds) (defScope s_are_kinds) .none kV_are_kinds dc_are_kinds pm_are_kinds an_are_kinds cd_are_kinds ct_are_kinds), sl_are_kinds⟩)
    (c_are_kinds : PySem.W.codeIn K cd_are_kinds "are_kinds" = true)
    (k_are_kinds : PySem.W.keepIn K (.ref f_are_kinds) = true)
    (a_are_rests : PySem.W.nsIn K mainGlobals "are_rests" = some (some (.ref f_are_rests)))
    (l_are_rests : K.lookup f_are_rests = some ⟨oc_are_rests, od_are_rests, .func (PySem.W.fnOf "are_rests" "are_rests" (defArgs s_are_rests) (defBody s_are_rests) (defScope s_are_rests) .none kV_are_rests dc_are_rests pm_are_rests an_are_rests cd_are_rests ct_are_rests), sl_are_rests⟩)
    (c_are_rests : PySem.W.codeIn K cd_are_rests "are_rests" = true)
    (k_are_rests : PySem.W.keepIn K (.ref f_are_rests) = true)
    (a_check_kinds : PySem.W.nsIn K mainGlobals "check_kinds" = some (some (.ref f_check_kinds)))
    (l_check_kinds : K.lookup f_check_kinds = some ⟨oc_check_kinds, od_check_kinds, .func (PySem.W.fnOf "check_kinds" "check_kinds" (defArgs s_check_kinds) (defBody s_check_kinds) (defScope s_check_kinds) .none kV_check_kinds dc_check_kinds pm_check_kinds an_check_kinds cd_check_kinds ct_check_kinds), sl_check_kinds⟩)
    (c_check_kinds : PySem.W.codeIn K cd_check_kinds "check_kinds" = true)
    (k_check_kinds : PySem.W.keepIn K (.ref f_check_kinds) = true)
    (a_rests_seen : PySem.W.nsIn K mainGlobals "rests_seen" = some (some (.ref f_rests_seen)))
    (l_rests_seen : K.lookup f_rests_seen = some ⟨oc_rests_seen, od_rests_seen, .func (PySem.W.fnOf "rests_seen" "rests_seen" (defArgs s_rests_seen) (defBody s_rests_seen) (defScope s_rests_seen) .none kV_rests_seen dc_rests_seen pm_rests_seen an_rests_seen cd_rests_seen ct_rests_seen), sl_rests_seen⟩)
    (c_rests_seen : PySem.W.codeIn K cd_rests_seen "rests_seen" = true)
    (k_rests_seen : PySem.W.keepIn K (.ref f_rests_seen) = true)
    (a_law_kinds : PySem.W.nsIn K mainGlobals "_law_kinds" = some (some (.ref f_law_kinds)))
    (l_law_kinds : K.lookup f_law_kinds = some ⟨oc_law_kinds, od_law_kinds, .func (PySem.W.fnOf "_law_kinds" "_law_kinds" (defArgs s_law_kinds) (defBody s_law_kinds) (defScope s_law_kinds) .none kV_law_kinds dc_law_kinds pm_law_kinds an_law_kinds cd_law_kinds ct_law_kinds), sl_law_kinds⟩)
    (c_law_kinds : PySem.W.codeIn K cd_law_kinds "_law_kinds" = true)
    (k_law_kinds : PySem.W.keepIn K (.ref f_law_kinds) = true)
    (a_law_rows : PySem.W.nsIn K mainGlobals "_law_rows" = some (some (.ref f_law_rows)))
    (l_law_rows : K.lookup f_law_rows = some ⟨oc_law_rows, od_law_rows, .func (PySem.W.fnOf "_law_rows" "_law_rows" (defArgs s_law_rows) (defBody s_law_rows) (defScope s_law_rows) .none kV_law_rows dc_law_rows pm_law_rows an_law_rows cd_law_rows ct_law_rows), sl_law_rows⟩)
    (c_law_rows : PySem.W.codeIn K cd_law_rows "_law_rows" = true)
    (k_law_rows : PySem.W.keepIn K (.ref f_law_rows) = true)
    (a_Rule_init : PySem.W.findIn K (.ref C_Rule) "__init__" = some (some (.ref f_Rule_init)))
    (i_Rule_init : PySem.W.isFn K (.ref f_Rule_init) = true)
    (l_Rule_init : K.lookup f_Rule_init = some ⟨oc_Rule_init, od_Rule_init, .func (PySem.W.fnOf "__init__" "Rule.__init__" (defArgs s_Rule_init) (defBody s_Rule_init) (defScope s_Rule_init) .none kV_Rule_init dc_Rule_init pm_Rule_init an_Rule_init cd_Rule_init ct_Rule_init), sl_Rule_init⟩)
    (c_Rule_init : PySem.W.codeIn K cd_Rule_init "Rule.__init__" = true)
    (k_Rule_init : PySem.W.keepIn K (.ref f_Rule_init) = true)
    (a_Book_init : PySem.W.findIn K (.ref C_Book) "__init__" = some (some (.ref f_Book_init)))
    (i_Book_init : PySem.W.isFn K (.ref f_Book_init) = true)
    (l_Book_init : K.lookup f_Book_init = some ⟨oc_Book_init, od_Book_init, .func (PySem.W.fnOf "__init__" "Book.__init__" (defArgs s_Book_init) (defBody s_Book_init) (defScope s_Book_init) .none kV_Book_init dc_Book_init pm_Book_init an_Book_init cd_Book_init ct_Book_init), sl_Book_init⟩)
    (c_Book_init : PySem.W.codeIn K cd_Book_init "Book.__init__" = true)
    (k_Book_init : PySem.W.keepIn K (.ref f_Book_init) = true)
    (a_fits : PySem.W.nsIn K mainGlobals "fits" = some (some (.ref f_fits)))
    (l_fits : K.lookup f_fits = some ⟨oc_fits, od_fits, .func (PySem.W.fnOf "fits" "fits" (defArgs s_fits) (defBody s_fits) (defScope s_fits) .none kV_fits dc_fits pm_fits an_fits cd_fits ct_fits), sl_fits⟩)
    (c_fits : PySem.W.codeIn K cd_fits "fits" = true)
    (k_fits : PySem.W.keepIn K (.ref f_fits) = true)
    (a_check_row : PySem.W.nsIn K mainGlobals "check_row" = some (some (.ref f_check_row)))
    (l_check_row : K.lookup f_check_row = some ⟨oc_check_row, od_check_row, .func (PySem.W.fnOf "check_row" "check_row" (defArgs s_check_row) (defBody s_check_row) (defScope s_check_row) .none kV_check_row dc_check_row pm_check_row an_check_row cd_check_row ct_check_row), sl_check_row⟩)
    (c_check_row : PySem.W.codeIn K cd_check_row "check_row" = true)
    (k_check_row : PySem.W.keepIn K (.ref f_check_row) = true)
    (a_is_row : PySem.W.nsIn K mainGlobals "is_row" = some (some (.ref f_is_row)))
    (l_is_row : K.lookup f_is_row = some ⟨oc_is_row, od_is_row, .func (PySem.W.fnOf "is_row" "is_row" (defArgs s_is_row) (defBody s_is_row) (defScope s_is_row) .none kV_is_row dc_is_row pm_is_row an_is_row cd_is_row ct_is_row), sl_is_row⟩)
    (c_is_row : PySem.W.codeIn K cd_is_row "is_row" = true)
    (k_is_row : PySem.W.keepIn K (.ref f_is_row) = true)
    (a_can_tell : PySem.W.nsIn K mainGlobals "can_tell" = some (some (.ref f_can_tell)))
    (l_can_tell : K.lookup f_can_tell = some ⟨oc_can_tell, od_can_tell, .func (PySem.W.fnOf "can_tell" "can_tell" (defArgs s_can_tell) (defBody s_can_tell) (defScope s_can_tell) .none kV_can_tell dc_can_tell pm_can_tell an_can_tell cd_can_tell ct_can_tell), sl_can_tell⟩)
    (c_can_tell : PySem.W.codeIn K cd_can_tell "can_tell" = true)
    (k_can_tell : PySem.W.keepIn K (.ref f_can_tell) = true)
    (a_fitting : PySem.W.nsIn K mainGlobals "fitting" = some (some (.ref f_fitting)))
    (l_fitting : K.lookup f_fitting = some ⟨oc_fitting, od_fitting, .func (PySem.W.fnOf "fitting" "fitting" (defArgs s_fitting) (defBody s_fitting) (defScope s_fitting) .none kV_fitting dc_fitting pm_fitting an_fitting cd_fitting ct_fitting), sl_fitting⟩)
    (c_fitting : PySem.W.codeIn K cd_fitting "fitting" = true)
    (k_fitting : PySem.W.keepIn K (.ref f_fitting) = true)
    (a_place_of : PySem.W.nsIn K mainGlobals "place_of" = some (some (.ref f_place_of)))
    (l_place_of : K.lookup f_place_of = some ⟨oc_place_of, od_place_of, .func (PySem.W.fnOf "place_of" "place_of" (defArgs s_place_of) (defBody s_place_of) (defScope s_place_of) .none kV_place_of dc_place_of pm_place_of an_place_of cd_place_of ct_place_of), sl_place_of⟩)
    (c_place_of : PySem.W.codeIn K cd_place_of "place_of" = true)
    (k_place_of : PySem.W.keepIn K (.ref f_place_of) = true)
    (a_check_sights : PySem.W.nsIn K mainGlobals "check_sights" = some (some (.ref f_check_sights)))
    (l_check_sights : K.lookup f_check_sights = some ⟨oc_check_sights, od_check_sights, .func (PySem.W.fnOf "check_sights" "check_sights" (defArgs s_check_sights) (defBody s_check_sights) (defScope s_check_sights) .none kV_check_sights dc_check_sights pm_check_sights an_check_sights cd_check_sights ct_check_sights), sl_check_sights⟩)
    (c_check_sights : PySem.W.codeIn K cd_check_sights "check_sights" = true)
    (k_check_sights : PySem.W.keepIn K (.ref f_check_sights) = true)
    (a_law_book : PySem.W.nsIn K mainGlobals "_law_book" = some (some (.ref f_law_book)))
    (l_law_book : K.lookup f_law_book = some ⟨oc_law_book, od_law_book, .func (PySem.W.fnOf "_law_book" "_law_book" (defArgs s_law_book) (defBody s_law_book) (defScope s_law_book) .none kV_law_book dc_law_book pm_law_book an_law_book cd_law_book ct_law_book), sl_law_book⟩)
    (c_law_book : PySem.W.codeIn K cd_law_book "_law_book" = true)
    (k_law_book : PySem.W.keepIn K (.ref f_law_book) = true)
    (a_piece_of : PySem.W.nsIn K mainGlobals "piece_of" = some (some (.ref f_piece_of)))
    (l_piece_of : K.lookup f_piece_of = some ⟨oc_piece_of, od_piece_of, .func (PySem.W.fnOf "piece_of" "piece_of" (defArgs s_piece_of) (defBody s_piece_of) (defScope s_piece_of) .none kV_piece_of dc_piece_of pm_piece_of an_piece_of cd_piece_of ct_piece_of), sl_piece_of⟩)
    (c_piece_of : PySem.W.codeIn K cd_piece_of "piece_of" = true)
    (k_piece_of : PySem.W.keepIn K (.ref f_piece_of) = true)
    (a_first_unlike : PySem.W.nsIn K mainGlobals "first_unlike" = some (some (.ref f_first_unlike)))
    (l_first_unlike : K.lookup f_first_unlike = some ⟨oc_first_unlike, od_first_unlike, .func (PySem.W.fnOf "first_unlike" "first_unlike" (defArgs s_first_unlike) (defBody s_first_unlike) (defScope s_first_unlike) .none kV_first_unlike dc_first_unlike pm_first_unlike an_first_unlike cd_first_unlike ct_first_unlike), sl_first_unlike⟩)
    (c_first_unlike : PySem.W.codeIn K cd_first_unlike "first_unlike" = true)
    (k_first_unlike : PySem.W.keepIn K (.ref f_first_unlike) = true)
    (ec_first_unlike : cd_first_unlike = .ref cc_first_unlike)
    (lo_first_unlike : K.lookup cc_first_unlike = some oo_first_unlike)
    (tp_first_unlike : tabP oo_first_unlike = some PP_first_unlike)
    (hd_first_unlike : PySem.W.codeHdIn K cc_first_unlike PP_first_unlike = true)
    (nt_first_unlike : K.lookup PP_first_unlike = none)
    (em_first_unlike : h.get? PP_first_unlike = some { cls := .none, data := .fields #[] })
    (a_check_seen : PySem.W.nsIn K mainGlobals "check_seen" = some (some (.ref f_check_seen)))
    (l_check_seen : K.lookup f_check_seen = some ⟨oc_check_seen, od_check_seen, .func (PySem.W.fnOf "check_seen" "check_seen" (defArgs s_check_seen) (defBody s_check_seen) (defScope s_check_seen) .none kV_check_seen dc_check_seen pm_check_seen an_check_seen cd_check_seen ct_check_seen), sl_check_seen⟩)
    (c_check_seen : PySem.W.codeIn K cd_check_seen "check_seen" = true)
    (k_check_seen : PySem.W.keepIn K (.ref f_check_seen) = true)
    (ec_check_seen : cd_check_seen = .ref cc_check_seen)
    (lo_check_seen : K.lookup cc_check_seen = some oo_check_seen)
    (tp_check_seen : tabP oo_check_seen = some PP_check_seen)
    (hd_check_seen : PySem.W.codeHdIn K cc_check_seen PP_check_seen = true)
    (nt_check_seen : K.lookup PP_check_seen = none)
    (em_check_seen : h.get? PP_check_seen = some { cls := .none, data := .fields #[] })
    (a_moduli_for : PySem.W.nsIn K mainGlobals "moduli_for" = some (some (.ref f_moduli_for)))
    (l_moduli_for : K.lookup f_moduli_for = some ⟨oc_moduli_for, od_moduli_for, .func (PySem.W.fnOf "moduli_for" "moduli_for" (defArgs s_moduli_for) (defBody s_moduli_for) (defScope s_moduli_for) .none kV_moduli_for dc_moduli_for pm_moduli_for an_moduli_for cd_moduli_for ct_moduli_for), sl_moduli_for⟩)
    (c_moduli_for : PySem.W.codeIn K cd_moduli_for "moduli_for" = true)
    (k_moduli_for : PySem.W.keepIn K (.ref f_moduli_for) = true)
    (a_rests_for : PySem.W.nsIn K mainGlobals "rests_for" = some (some (.ref f_rests_for)))
    (l_rests_for : K.lookup f_rests_for = some ⟨oc_rests_for, od_rests_for, .func (PySem.W.fnOf "rests_for" "rests_for" (defArgs s_rests_for) (defBody s_rests_for) (defScope s_rests_for) .none kV_rests_for dc_rests_for pm_rests_for an_rests_for cd_rests_for ct_rests_for), sl_rests_for⟩)
    (c_rests_for : PySem.W.codeIn K cd_rests_for "rests_for" = true)
    (k_rests_for : PySem.W.keepIn K (.ref f_rests_for) = true)
    (a_law_are_fewer : PySem.W.nsIn K mainGlobals "_law_are_fewer" = some (some (.ref f_law_are_fewer)))
    (l_law_are_fewer : K.lookup f_law_are_fewer = some ⟨oc_law_are_fewer, od_law_are_fewer, .func (PySem.W.fnOf "_law_are_fewer" "_law_are_fewer" (defArgs s_law_are_fewer) (defBody s_law_are_fewer) (defScope s_law_are_fewer) .none kV_law_are_fewer dc_law_are_fewer pm_law_are_fewer an_law_are_fewer cd_law_are_fewer ct_law_are_fewer), sl_law_are_fewer⟩)
    (c_law_are_fewer : PySem.W.codeIn K cd_law_are_fewer "_law_are_fewer" = true)
    (k_law_are_fewer : PySem.W.keepIn K (.ref f_law_are_fewer) = true)
    (a_law : PySem.W.nsIn K mainGlobals "law" = some (some (.ref f_law)))
    (l_law : K.lookup f_law = some ⟨oc_law, od_law, .func (PySem.W.fnOf "law" "law" (defArgs s_law) (defBody s_law) (defScope s_law) .none kV_law dc_law pm_law an_law cd_law ct_law), sl_law⟩)
    (c_law : PySem.W.codeIn K cd_law "law" = true)
    (k_law : PySem.W.keepIn K (.ref f_law) = true)
    (nodup : [PP_first_unlike, PP_check_seen].Nodup)
    (zb_all : PySem.W.nsIn K mainGlobals "all" = some none)
    (zb_any : PySem.W.nsIn K mainGlobals "any" = some none)
    (zb_bool : PySem.W.nsIn K mainGlobals "bool" = some none)
    (zb_enumerate : PySem.W.nsIn K mainGlobals "enumerate" = some none)
    (zb_int : PySem.W.nsIn K mainGlobals "int" = some none)
    (zb_isinstance : PySem.W.nsIn K mainGlobals "isinstance" = some none)
    (zb_len : PySem.W.nsIn K mainGlobals "len" = some none)
    (zb_list : PySem.W.nsIn K mainGlobals "list" = some none)
    (zb_range : PySem.W.nsIn K mainGlobals "range" = some none)
    (zb_set : PySem.W.nsIn K mainGlobals "set" = some none)
    (zb_sorted : PySem.W.nsIn K mainGlobals "sorted" = some none)
    (zb_str : PySem.W.nsIn K mainGlobals "str" = some none)
    (zb_tuple : PySem.W.nsIn K mainGlobals "tuple" = some none)
    (zb_zip : PySem.W.nsIn K mainGlobals "zip" = some none)
    (zc_LAST : PySem.W.nsIn K mainGlobals "LAST" = some (some (.int 999999999999999999999999999999 t_LAST)))
    (zc_LETTERS : PySem.W.nsIn K mainGlobals "LETTERS" = some (some (.str "abcdefghijklmnopqrstuvwxyz" t_LETTERS)))
    (zc_MAX_KINDS : PySem.W.nsIn K mainGlobals "MAX_KINDS" = some (some (.int 4 t_MAX_KINDS)))
    (zc_MAX_RULES : PySem.W.nsIn K mainGlobals "MAX_RULES" = some (some (.int 8 t_MAX_RULES)))
    (zc_MAX_SIGHTS : PySem.W.nsIn K mainGlobals "MAX_SIGHTS" = some (some (.int 20 t_MAX_SIGHTS)))
    (zc_MAX_WORD : PySem.W.nsIn K mainGlobals "MAX_WORD" = some (some (.int 8 t_MAX_WORD)))
    (zc_MODULI : PySem.W.nsIn K mainGlobals "MODULI" = some (some (.ref a_MODULI)))
    (zl_MODULI : K.lookup a_MODULI = some ⟨.type "tuple", dd_MODULI, .seq #[.int 1 t_MODULI_0, .int 2 t_MODULI_1, .int 3 t_MODULI_2, .int 4 t_MODULI_3, .int 6 t_MODULI_4, .int 12 t_MODULI_5] k_MODULI, sl_MODULI⟩)
    : LamX.LawAtS l w K (L2.CX l.prog w) 9 63 "_law_script" mg fa h := by
  have e := hfa.symm.trans (PySem.W.mg_of X G a_law)
  cases e
  letI : VEnv := ⟨[(PP_first_unlike, ("first_unlike" : Str) ++ ".<locals>." ++ "<lambda>"), (PP_check_seen, ("check_seen" : Str) ++ ".<locals>." ++ "<lambda>")], lamCode⟩
  have g_Rule : mg "Rule" = some (.ref C_Rule) := PySem.W.mg_of X G aC_Rule
  have e_Rule : ∀ C, mg "Rule" = some (.ref C) → C_Rule = C := fun C h => by rw [g_Rule] at h; cases h; rfl
  have g_Book : mg "Book" = some (.ref C_Book) := PySem.W.mg_of X G aC_Book
  have e_Book : ∀ C, mg "Book" = some (.ref C) → C_Book = C := fun C h => by rw [g_Book] at h; cases h; rfl
  have T : Txt K mg := ⟨PySem.W.mg_none_of X G zb_all,
    PySem.W.mg_none_of X G zb_any,
    PySem.W.mg_none_of X G zb_bool,
    PySem.W.mg_none_of X G zb_enumerate,
    PySem.W.mg_none_of X G zb_int,
    PySem.W.mg_none_of X G zb_isinstance,
    PySem.W.mg_none_of X G zb_len,
    PySem.W.mg_none_of X G zb_list,
    PySem.W.mg_none_of X G zb_range,
    PySem.W.mg_none_of X G zb_set,
    PySem.W.mg_none_of X G zb_sorted,
    PySem.W.mg_none_of X G zb_str,
    PySem.W.mg_none_of X G zb_tuple,
    PySem.W.mg_none_of X G zb_zip,
    ConstV.int (PySem.W.mg_of X G zc_LAST),
    ConstV.str (PySem.W.mg_of X G zc_LETTERS),
    ConstV.int (PySem.W.mg_of X G zc_MAX_KINDS),
    ConstV.int (PySem.W.mg_of X G zc_MAX_RULES),
    ConstV.int (PySem.W.mg_of X G zc_MAX_SIGHTS),
    ConstV.int (PySem.W.mg_of X G zc_MAX_WORD),
    ConstV.tupI (ns := [1, 2, 3, 4, 6, 12]) (PySem.W.mg_of X G zc_MODULI) zl_MODULI (.cons _ _ (.cons _ _ (.cons _ _ (.cons _ _ (.cons _ _ (.cons _ _ .nil)))))) (by show 6 ≤ sizeLine; decide),
    ⟨⟨_, g_Rule⟩, fun C h => (e_Rule C h) ▸ ⟨pg_Rule, ic_Rule, po_Rule, sa_Rule⟩, fun C i f h hf => (e_Rule C h) ▸ (match i, f, hf with | 0, _, hf => by cases hf; exact ⟨_, da_Rule_0, dg_Rule_0, dt_Rule_0, di_Rule_0, dy_Rule_0, by decide⟩ | _ + 1, _, hf => by simp at hf)⟩,
    ⟨⟨_, g_Book⟩, fun C h => (e_Book C h) ▸ ⟨pg_Book, ic_Book, po_Book, sa_Book⟩, fun C i f h hf => (e_Book C h) ▸ (match i, f, hf with | 0, _, hf => by cases hf; exact ⟨_, da_Book_0, dg_Book_0, dt_Book_0, di_Book_0, dy_Book_0, by decide⟩ | _ + 1, _, hf => by simp at hf)⟩,
    rfl,
    rfl⟩
  have F_is_number := fun_mk (st := s_is_number) l_is_number c_is_number k_is_number
  have B_is_number := F_is_number.binds (ps := ["value", "smallest", "largest"]) fun _ _ _ _ _ _ us hl => match us, hl with | [_, _, _], _ => rfl
  have F_is_word := fun_mk (st := s_is_word) l_is_word c_is_word k_is_word
  have B_is_word := F_is_word.binds (ps := ["value"]) fun _ _ _ _ _ _ us hl => match us, hl with | [_], _ => rfl
  have F_ascend := fun_mk (st := s_ascend) l_ascend c_ascend k_ascend
  have B_ascend := F_ascend.binds (ps := ["values"]) fun _ _ _ _ _ _ us hl => match us, hl with | [_], _ => rfl
  have F_Rule_piece := fun_mk (st := s_Rule_piece) l_Rule_piece c_Rule_piece k_Rule_piece
  have B_Rule_piece := F_Rule_piece.binds (ps := ["self"]) fun _ _ _ _ _ _ us hl => match us, hl with | [_], _ => rfl
  have F_Rule_low := fun_mk (st := s_Rule_low) l_Rule_low c_Rule_low k_Rule_low
  have B_Rule_low := F_Rule_low.binds (ps := ["self"]) fun _ _ _ _ _ _ us hl => match us, hl with | [_], _ => rfl
  have F_Rule_high := fun_mk (st := s_Rule_high) l_Rule_high c_Rule_high k_Rule_high
  have B_Rule_high := F_Rule_high.binds (ps := ["self"]) fun _ _ _ _ _ _ us hl => match us, hl with | [_], _ => rfl
  have F_Rule_modulus := fun_mk (st := s_Rule_modulus) l_Rule_modulus c_Rule_modulus k_Rule_modulus
  have B_Rule_modulus := F_Rule_modulus.binds (ps := ["self"]) fun _ _ _ _ _ _ us hl => match us, hl with | [_], _ => rfl
  have F_Rule_rests := fun_mk (st := s_Rule_rests) l_Rule_rests c_Rule_rests k_Rule_rests
  have B_Rule_rests := F_Rule_rests.binds (ps := ["self"]) fun _ _ _ _ _ _ us hl => match us, hl with | [_], _ => rfl
  have F_Rule_kinds := fun_mk (st := s_Rule_kinds) l_Rule_kinds c_Rule_kinds k_Rule_kinds
  have B_Rule_kinds := F_Rule_kinds.binds (ps := ["self"]) fun _ _ _ _ _ _ us hl => match us, hl with | [_], _ => rfl
  have F_Book_kinds := fun_mk (st := s_Book_kinds) l_Book_kinds c_Book_kinds k_Book_kinds
  have B_Book_kinds := F_Book_kinds.binds (ps := ["self"]) fun _ _ _ _ _ _ us hl => match us, hl with | [_], _ => rfl
  have F_Book_rules := fun_mk (st := s_Book_rules) l_Book_rules c_Book_rules k_Book_rules
  have B_Book_rules := F_Book_rules.binds (ps := ["self"]) fun _ _ _ _ _ _ us hl => match us, hl with | [_], _ => rfl
  have F_rest_of := fun_mk (st := s_rest_of) l_rest_of c_rest_of k_rest_of
  have B_rest_of := F_rest_of.binds (ps := ["number", "modulus"]) fun _ _ _ _ _ _ us hl => match us, hl with | [_, _], _ => rfl
  have F_check_modulus := fun_mk (st := s_check_modulus) l_check_modulus c_check_modulus k_check_modulus
  have B_check_modulus := F_check_modulus.binds (ps := ["modulus"]) fun _ _ _ _ _ _ us hl => match us, hl with | [_], _ => rfl
  have F_law_taken := fun_mk (st := s_law_taken) l_law_taken c_law_taken k_law_taken
  have B_law_taken := F_law_taken.binds (ps := ["_law_row", "_law_many"]) fun _ _ _ _ _ _ us hl => match us, hl with | [_, _], _ => rfl
  have F_are_kinds := fun_mk (st := s_are_kinds) l_are_kinds c_are_kinds k_are_kinds
  have B_are_kinds := F_are_kinds.binds (ps := ["kinds"]) fun _ _ _ _ _ _ us hl => match us, hl with | [_], _ => rfl
  have F_are_rests := fun_mk (st := s_are_rests) l_are_rests c_are_rests k_are_rests
  have B_are_rests := F_are_rests.binds (ps := ["modulus", "rests"]) fun _ _ _ _ _ _ us hl => match us, hl with | [_, _], _ => rfl
  have F_check_kinds := fun_mk (st := s_check_kinds) l_check_kinds c_check_kinds k_check_kinds
  have B_check_kinds := F_check_kinds.binds (ps := ["kinds"]) fun _ _ _ _ _ _ us hl => match us, hl with | [_], _ => rfl
  have F_rests_seen := fun_mk (st := s_rests_seen) l_rests_seen c_rests_seen k_rests_seen
  have B_rests_seen := F_rests_seen.binds (ps := ["sights", "piece", "modulus"]) fun _ _ _ _ _ _ us hl => match us, hl with | [_, _, _], _ => rfl
  have F_law_kinds := fun_mk (st := s_law_kinds) l_law_kinds c_law_kinds k_law_kinds
  have B_law_kinds := F_law_kinds.binds (ps := ["_law_row"]) fun _ _ _ _ _ _ us hl => match us, hl with | [_], _ => rfl
  have F_law_rows := fun_mk (st := s_law_rows) l_law_rows c_law_rows k_law_rows
  have B_law_rows := F_law_rows.binds (ps := ["_law_row", "_law_kinds_here", "_law_wide", "_law_most"]) fun _ _ _ _ _ _ us hl => match us, hl with | [_, _, _, _], _ => rfl
  have F_Rule_init := fun_mk (st := s_Rule_init) l_Rule_init c_Rule_init k_Rule_init
  have B_Rule_init := F_Rule_init.binds (ps := ["self", "piece", "low", "high", "modulus", "rests", "kinds"]) fun _ _ _ _ _ _ us hl => match us, hl with | [_, _, _, _, _, _, _], _ => rfl
  have F_Book_init := fun_mk (st := s_Book_init) l_Book_init c_Book_init k_Book_init
  have B_Book_init := F_Book_init.binds (ps := ["self", "kinds", "rules"]) fun _ _ _ _ _ _ us hl => match us, hl with | [_, _, _], _ => rfl
  have F_fits := fun_mk (st := s_fits) l_fits c_fits k_fits
  have B_fits := F_fits.binds (ps := ["rule", "number", "kind"]) fun _ _ _ _ _ _ us hl => match us, hl with | [_, _, _], _ => rfl
  have F_check_row := fun_mk (st := s_check_row) l_check_row c_check_row k_check_row
  have B_check_row := F_check_row.binds (ps := ["book", "row"]) fun _ _ _ _ _ _ us hl => match us, hl with | [_, _], _ => rfl
  have F_is_row := fun_mk (st := s_is_row) l_is_row c_is_row k_is_row
  have B_is_row := F_is_row.binds (ps := ["book", "row"]) fun _ _ _ _ _ _ us hl => match us, hl with | [_, _], _ => rfl
  have F_can_tell := fun_mk (st := s_can_tell) l_can_tell c_can_tell k_can_tell
  have B_can_tell := F_can_tell.binds (ps := ["sights", "piece", "modulus"]) fun _ _ _ _ _ _ us hl => match us, hl with | [_, _, _], _ => rfl
  have F_fitting := fun_mk (st := s_fitting) l_fitting c_fitting k_fitting
  have B_fitting := F_fitting.binds (ps := ["book", "number", "kind"]) fun _ _ _ _ _ _ us hl => match us, hl with | [_, _, _], _ => rfl
  have F_place_of := fun_mk (st := s_place_of) l_place_of c_place_of k_place_of
  have B_place_of := F_place_of.binds (ps := ["book", "number", "kind"]) fun _ _ _ _ _ _ us hl => match us, hl with | [_, _, _], _ => rfl
  have F_check_sights := fun_mk (st := s_check_sights) l_check_sights c_check_sights k_check_sights
  have B_check_sights := F_check_sights.binds (ps := ["sights", "is_good"]) fun _ _ _ _ _ _ us hl => match us, hl with | [_, _], _ => rfl
  have F_law_book := fun_mk (st := s_law_book) l_law_book c_law_book k_law_book
  have B_law_book := F_law_book.binds (ps := ["_law_row", "_law_wide", "_law_kinds_here"]) fun _ _ _ _ _ _ us hl => match us, hl with | [_, _, _], _ => rfl
  have F_piece_of := fun_mk (st := s_piece_of) l_piece_of c_piece_of k_piece_of
  have B_piece_of := F_piece_of.binds (ps := ["book", "row"]) fun _ _ _ _ _ _ us hl => match us, hl with | [_, _], _ => rfl
  have F_first_unlike := fun_mk (st := s_first_unlike) l_first_unlike c_first_unlike k_first_unlike
  have B_first_unlike := F_first_unlike.binds (ps := ["book", "sights"]) fun _ _ _ _ _ _ us hl => match us, hl with | [_, _], _ => rfl
  have F_check_seen := fun_mk (st := s_check_seen) l_check_seen c_check_seen k_check_seen
  have B_check_seen := F_check_seen.binds (ps := ["sights", "piece"]) fun _ _ _ _ _ _ us hl => match us, hl with | [_, _], _ => rfl
  have F_moduli_for := fun_mk (st := s_moduli_for) l_moduli_for c_moduli_for k_moduli_for
  have B_moduli_for := F_moduli_for.binds (ps := ["sights", "piece"]) fun _ _ _ _ _ _ us hl => match us, hl with | [_, _], _ => rfl
  have F_rests_for := fun_mk (st := s_rests_for) l_rests_for c_rests_for k_rests_for
  have B_rests_for := F_rests_for.binds (ps := ["sights", "piece", "modulus"]) fun _ _ _ _ _ _ us hl => match us, hl with | [_, _, _], _ => rfl
  have F_law_are_fewer := fun_mk (st := s_law_are_fewer) l_law_are_fewer c_law_are_fewer k_law_are_fewer
  have B_law_are_fewer := F_law_are_fewer.binds (ps := ["_law_sights", "_law_piece", "_law_found"]) fun _ _ _ _ _ _ us hl => match us, hl with | [_, _, _], _ => rfl
  have F_law := fun_mk (st := s_law) l_law c_law k_law
  have B_law := F_law.binds (ps := ["_law_script"]) fun _ _ _ _ _ _ us hl => match us, hl with | [_], _ => rfl
  refine law_endT [(cc_first_unlike, PP_first_unlike), (cc_check_seen, PP_check_seen)] law_true (List.forall_mem_cons.mpr ⟨⟨_, (.head _), rfl⟩, (List.forall_mem_cons.mpr ⟨⟨_, (.tail _ (.head _)), rfl⟩, (fun _ h => nomatch h)⟩)⟩) (List.forall_mem_cons.mpr ⟨em_first_unlike, (List.forall_mem_cons.mpr ⟨em_check_seen, (fun _ h => nomatch h)⟩)⟩) (List.forall_mem_cons.mpr ⟨nt_first_unlike, (List.forall_mem_cons.mpr ⟨nt_check_seen, (fun _ h => nomatch h)⟩)⟩) (List.forall_mem_cons.mpr ⟨PySem.W.codeHd_of_K X hd_first_unlike, (List.forall_mem_cons.mpr ⟨PySem.W.codeHd_of_K X hd_check_seen, (fun _ h => nomatch h)⟩)⟩) ?_
  refine ⟨PySem.W.fnOf "law" "law" (defArgs s_law) (defBody s_law) (defScope s_law) .none kV_law dc_law pm_law an_law cd_law ct_law, fun s v => .of_eq rfl, fun base KB GB TB => ?_⟩
  have O_is_number := ok_is_number (P := l.prog) (w := w) (base := base) F_is_number T 
  have v_is_number : FnV l.prog w K mg base 1 "is_number" false 3 m_is_number := ⟨⟨f_is_number, _, _, O_is_number, PySem.W.mg_of X G a_is_number, k_is_number, B_is_number⟩⟩
  have O_is_word := ok_is_word (P := l.prog) (w := w) (base := base) F_is_word T 
  have v_is_word : FnV l.prog w K mg base 1 "is_word" false 1 m_is_word := ⟨⟨f_is_word, _, _, O_is_word, PySem.W.mg_of X G a_is_word, k_is_word, B_is_word⟩⟩
  have O_ascend := ok_ascend (P := l.prog) (w := w) (base := base) F_ascend T 
  have v_ascend : FnV l.prog w K mg base 1 "ascend" false 1 m_ascend := ⟨⟨f_ascend, _, _, O_ascend, PySem.W.mg_of X G a_ascend, k_ascend, B_ascend⟩⟩
  have O_Rule_piece := ok_Rule_piece (P := l.prog) (w := w) (base := base) F_Rule_piece T 
  have Pr_Rule_piece : PrV l.prog w K mg base 1 "Rule" "piece" m_Rule_piece := ⟨⟨C_Rule, p_Rule_piece, f_Rule_piece, _, _, g_Rule, ⟨pg_Rule, ic_Rule, po_Rule, sa_Rule⟩, ⟨a_Rule_piece, pg2_Rule_piece, pt_Rule_piece, ⟨_, pr_Rule_piece⟩⟩, O_Rule_piece, B_Rule_piece⟩⟩
  have O_Rule_low := ok_Rule_low (P := l.prog) (w := w) (base := base) F_Rule_low T 
  have Pr_Rule_low : PrV l.prog w K mg base 1 "Rule" "low" m_Rule_low := ⟨⟨C_Rule, p_Rule_low, f_Rule_low, _, _, g_Rule, ⟨pg_Rule, ic_Rule, po_Rule, sa_Rule⟩, ⟨a_Rule_low, pg2_Rule_low, pt_Rule_low, ⟨_, pr_Rule_low⟩⟩, O_Rule_low, B_Rule_low⟩⟩
  have O_Rule_high := ok_Rule_high (P := l.prog) (w := w) (base := base) F_Rule_high T 
  have Pr_Rule_high : PrV l.prog w K mg base 1 "Rule" "high" m_Rule_high := ⟨⟨C_Rule, p_Rule_high, f_Rule_high, _, _, g_Rule, ⟨pg_Rule, ic_Rule, po_Rule, sa_Rule⟩, ⟨a_Rule_high, pg2_Rule_high, pt_Rule_high, ⟨_, pr_Rule_high⟩⟩, O_Rule_high, B_Rule_high⟩⟩
  have O_Rule_modulus := ok_Rule_modulus (P := l.prog) (w := w) (base := base) F_Rule_modulus T 
  have Pr_Rule_modulus : PrV l.prog w K mg base 1 "Rule" "modulus" m_Rule_modulus := ⟨⟨C_Rule, p_Rule_modulus, f_Rule_modulus, _, _, g_Rule, ⟨pg_Rule, ic_Rule, po_Rule, sa_Rule⟩, ⟨a_Rule_modulus, pg2_Rule_modulus, pt_Rule_modulus, ⟨_, pr_Rule_modulus⟩⟩, O_Rule_modulus, B_Rule_modulus⟩⟩
  have O_Rule_rests := ok_Rule_rests (P := l.prog) (w := w) (base := base) F_Rule_rests T 
  have Pr_Rule_rests : PrV l.prog w K mg base 1 "Rule" "rests" m_Rule_rests := ⟨⟨C_Rule, p_Rule_rests, f_Rule_rests, _, _, g_Rule, ⟨pg_Rule, ic_Rule, po_Rule, sa_Rule⟩, ⟨a_Rule_rests, pg2_Rule_rests, pt_Rule_rests, ⟨_, pr_Rule_rests⟩⟩, O_Rule_rests, B_Rule_rests⟩⟩
  have O_Rule_kinds := ok_Rule_kinds (P := l.prog) (w := w) (base := base) F_Rule_kinds T 
  have Pr_Rule_kinds : PrV l.prog w K mg base 1 "Rule" "kinds" m_Rule_kinds := ⟨⟨C_Rule, p_Rule_kinds, f_Rule_kinds, _, _, g_Rule, ⟨pg_Rule, ic_Rule, po_Rule, sa_Rule⟩, ⟨a_Rule_kinds, pg2_Rule_kinds, pt_Rule_kinds, ⟨_, pr_Rule_kinds⟩⟩, O_Rule_kinds, B_Rule_kinds⟩⟩
  have O_Book_kinds := ok_Book_kinds (P := l.prog) (w := w) (base := base) F_Book_kinds T 
  have Pr_Book_kinds : PrV l.prog w K mg base 1 "Book" "kinds" m_Book_kinds := ⟨⟨C_Book, p_Book_kinds, f_Book_kinds, _, _, g_Book, ⟨pg_Book, ic_Book, po_Book, sa_Book⟩, ⟨a_Book_kinds, pg2_Book_kinds, pt_Book_kinds, ⟨_, pr_Book_kinds⟩⟩, O_Book_kinds, B_Book_kinds⟩⟩
  have O_Book_rules := ok_Book_rules (P := l.prog) (w := w) (base := base) F_Book_rules T 
  have Pr_Book_rules : PrV l.prog w K mg base 1 "Book" "rules" m_Book_rules := ⟨⟨C_Book, p_Book_rules, f_Book_rules, _, _, g_Book, ⟨pg_Book, ic_Book, po_Book, sa_Book⟩, ⟨a_Book_rules, pg2_Book_rules, pt_Book_rules, ⟨_, pr_Book_rules⟩⟩, O_Book_rules, B_Book_rules⟩⟩
  have O_rest_of := ok_rest_of (P := l.prog) (w := w) (base := base) F_rest_of T 
  have v_rest_of : FnV l.prog w K mg base 1 "rest_of" false 2 m_rest_of := ⟨⟨f_rest_of, _, _, O_rest_of, PySem.W.mg_of X G a_rest_of, k_rest_of, B_rest_of⟩⟩
  have O_check_modulus := ok_check_modulus (P := l.prog) (w := w) (base := base) F_check_modulus T 
  have v_check_modulus : FnV l.prog w K mg base 1 "check_modulus" false 1 m_check_modulus := ⟨⟨f_check_modulus, _, _, O_check_modulus, PySem.W.mg_of X G a_check_modulus, k_check_modulus, B_check_modulus⟩⟩
  have O_law_taken := ok_law_taken (P := l.prog) (w := w) (base := base) F_law_taken T 
  have v_law_taken : FnV l.prog w K mg base 1 "_law_taken" false 2 m_law_taken := ⟨⟨f_law_taken, _, _, O_law_taken, PySem.W.mg_of X G a_law_taken, k_law_taken, B_law_taken⟩⟩
  have O_are_kinds := ok_are_kinds (P := l.prog) (w := w) (base := base) F_are_kinds T v_ascend v_is_word
  have v_are_kinds : FnV l.prog w K mg base 2 "are_kinds" false 1 m_are_kinds := ⟨⟨f_are_kinds, _, _, O_are_kinds, PySem.W.mg_of X G a_are_kinds, k_are_kinds, B_are_kinds⟩⟩
  have O_are_rests := ok_are_rests (P := l.prog) (w := w) (base := base) F_are_rests T v_ascend v_is_number
  have v_are_rests : FnV l.prog w K mg base 2 "are_rests" false 2 m_are_rests := ⟨⟨f_are_rests, _, _, O_are_rests, PySem.W.mg_of X G a_are_rests, k_are_rests, B_are_rests⟩⟩
  have O_check_kinds := ok_check_kinds (P := l.prog) (w := w) (base := base) F_check_kinds T v_is_word
  have v_check_kinds : FnV l.prog w K mg base 2 "check_kinds" false 1 m_check_kinds := ⟨⟨f_check_kinds, _, _, O_check_kinds, PySem.W.mg_of X G a_check_kinds, k_check_kinds, B_check_kinds⟩⟩
  have O_rests_seen := ok_rests_seen (P := l.prog) (w := w) (base := base) F_rests_seen T v_rest_of
  have v_rests_seen : FnV l.prog w K mg base 2 "rests_seen" false 3 m_rests_seen := ⟨⟨f_rests_seen, _, _, O_rests_seen, PySem.W.mg_of X G a_rests_seen, k_rests_seen, B_rests_seen⟩⟩
  have O_law_kinds := ok_law_kinds (P := l.prog) (w := w) (base := base) F_law_kinds T v_law_taken
  have v_law_kinds : FnV l.prog w K mg base 2 "_law_kinds" false 1 m_law_kinds := ⟨⟨f_law_kinds, _, _, O_law_kinds, PySem.W.mg_of X G a_law_kinds, k_law_kinds, B_law_kinds⟩⟩
  have O_law_rows := ok_law_rows (P := l.prog) (w := w) (base := base) F_law_rows T v_law_taken
  have v_law_rows : FnV l.prog w K mg base 2 "_law_rows" false 4 m_law_rows := ⟨⟨f_law_rows, _, _, O_law_rows, PySem.W.mg_of X G a_law_rows, k_law_rows, B_law_rows⟩⟩
  have l_1 := ok_lam_check_seen_0 (P := l.prog) (w := w) (base := base) T v_is_number v_is_word
  have O_Rule_init := ok_Rule_init (P := l.prog) (w := w) (base := base) F_Rule_init T v_are_kinds v_are_rests v_is_number v_is_word
  have Mk_Rule : MkV l.prog w K mg base 3 "Rule" 7 m_Rule_init := ⟨⟨C_Rule, f_Rule_init, _, _, g_Rule, ⟨mk_Rule, a_Rule_init, i_Rule_init, kc_Rule⟩, O_Rule_init, B_Rule_init⟩⟩
  have O_Book_init := ok_Book_init (P := l.prog) (w := w) (base := base) F_Book_init T v_check_kinds Pr_Rule_kinds
  have Mk_Book : MkV l.prog w K mg base 3 "Book" 3 m_Book_init := ⟨⟨C_Book, f_Book_init, _, _, g_Book, ⟨mk_Book, a_Book_init, i_Book_init, kc_Book⟩, O_Book_init, B_Book_init⟩⟩
  have O_fits := ok_fits (P := l.prog) (w := w) (base := base) F_fits T Pr_Rule_high Pr_Rule_kinds Pr_Rule_low Pr_Rule_modulus Pr_Rule_rests v_rest_of
  have v_fits : FnV l.prog w K mg base 3 "fits" false 3 m_fits := ⟨⟨f_fits, _, _, O_fits, PySem.W.mg_of X G a_fits, k_fits, B_fits⟩⟩
  have O_check_row := ok_check_row (P := l.prog) (w := w) (base := base) F_check_row T v_is_number Pr_Book_kinds
  have v_check_row : FnV l.prog w K mg base 3 "check_row" false 2 m_check_row := ⟨⟨f_check_row, _, _, O_check_row, PySem.W.mg_of X G a_check_row, k_check_row, B_check_row⟩⟩
  have O_is_row := ok_is_row (P := l.prog) (w := w) (base := base) F_is_row T v_is_number Pr_Book_kinds
  have v_is_row : FnV l.prog w K mg base 3 "is_row" false 2 m_is_row := ⟨⟨f_is_row, _, _, O_is_row, PySem.W.mg_of X G a_is_row, k_is_row, B_is_row⟩⟩
  have O_can_tell := ok_can_tell (P := l.prog) (w := w) (base := base) F_can_tell T v_rests_seen
  have v_can_tell : FnV l.prog w K mg base 3 "can_tell" false 3 m_can_tell := ⟨⟨f_can_tell, _, _, O_can_tell, PySem.W.mg_of X G a_can_tell, k_can_tell, B_can_tell⟩⟩
  have O_fitting := ok_fitting (P := l.prog) (w := w) (base := base) F_fitting T v_fits Pr_Book_rules
  have v_fitting : FnV l.prog w K mg base 4 "fitting" false 3 m_fitting := ⟨⟨f_fitting, _, _, O_fitting, PySem.W.mg_of X G a_fitting, k_fitting, B_fitting⟩⟩
  have l_0 := ok_lam_first_unlike_0 (P := l.prog) (w := w) (base := base) T v_is_row
  have O_place_of := ok_place_of (P := l.prog) (w := w) (base := base) F_place_of T v_fitting Pr_Book_rules Pr_Rule_piece
  have v_place_of : FnV l.prog w K mg base 5 "place_of" false 3 m_place_of := ⟨⟨f_place_of, _, _, O_place_of, PySem.W.mg_of X G a_place_of, k_place_of, B_place_of⟩⟩
  have gs_check_sights := gs_check_sights (P := l.prog) (w := w) (base := base) T l_0 l_1
  have O_check_sights := ok_check_sights (P := l.prog) (w := w) (base := base) F_check_sights T v_is_word gs_check_sights
  have v_check_sights : FnG l.prog w K mg base 5 "check_sights" false 2 m_check_sights := ⟨⟨f_check_sights, _, _, O_check_sights, PySem.W.mg_of X G a_check_sights, k_check_sights, B_check_sights⟩⟩
  have O_law_book := ok_law_book (P := l.prog) (w := w) (base := base) F_law_book T v_law_taken Mk_Book Mk_Rule
  have v_law_book : FnV l.prog w K mg base 5 "_law_book" false 3 m_law_book := ⟨⟨f_law_book, _, _, O_law_book, PySem.W.mg_of X G a_law_book, k_law_book, B_law_book⟩⟩
  have O_piece_of := ok_piece_of (P := l.prog) (w := w) (base := base) F_piece_of T v_check_row v_place_of
  have v_piece_of : FnV l.prog w K mg base 6 "piece_of" false 2 m_piece_of := ⟨⟨f_piece_of, _, _, O_piece_of, PySem.W.mg_of X G a_piece_of, k_piece_of, B_piece_of⟩⟩
  have hT_first_unlike : TabV base mg cd_first_unlike (("first_unlike" : Str) ++ ".<locals>." ++ "<lambda>") := ⟨cc_first_unlike, PP_first_unlike, ec_first_unlike, TB _ (.head _), (.head _), uniq_of nodup (.head _)⟩
  have O_first_unlike := ok_first_unlike (P := l.prog) (w := w) (base := base) F_first_unlike T hT_first_unlike v_check_sights v_place_of
  have v_first_unlike : FnV l.prog w K mg base 6 "first_unlike" false 2 m_first_unlike := ⟨⟨f_first_unlike, _, _, O_first_unlike, PySem.W.mg_of X G a_first_unlike, k_first_unlike, B_first_unlike⟩⟩
  have hT_check_seen : TabV base mg cd_check_seen (("check_seen" : Str) ++ ".<locals>." ++ "<lambda>") := ⟨cc_check_seen, PP_check_seen, ec_check_seen, TB _ (.tail _ (.head _)), (.tail _ (.head _)), uniq_of nodup (.tail _ (.head _))⟩
  have O_check_seen := ok_check_seen (P := l.prog) (w := w) (base := base) F_check_seen T hT_check_seen v_check_sights v_is_word
  have v_check_seen : FnV l.prog w K mg base 6 "check_seen" false 2 m_check_seen := ⟨⟨f_check_seen, _, _, O_check_seen, PySem.W.mg_of X G a_check_seen, k_check_seen, B_check_seen⟩⟩
  have O_moduli_for := ok_moduli_for (P := l.prog) (w := w) (base := base) F_moduli_for T v_can_tell v_check_seen
  have v_moduli_for : FnV l.prog w K mg base 7 "moduli_for" false 2 m_moduli_for := ⟨⟨f_moduli_for, _, _, O_moduli_for, PySem.W.mg_of X G a_moduli_for, k_moduli_for, B_moduli_for⟩⟩
  have O_rests_for := ok_rests_for (P := l.prog) (w := w) (base := base) F_rests_for T v_can_tell v_check_modulus v_check_seen v_rests_seen
  have v_rests_for : FnV l.prog w K mg base 7 "rests_for" false 3 m_rests_for := ⟨⟨f_rests_for, _, _, O_rests_for, PySem.W.mg_of X G a_rests_for, k_rests_for, B_rests_for⟩⟩
  have O_law_are_fewer := ok_law_are_fewer (P := l.prog) (w := w) (base := base) F_law_are_fewer T v_moduli_for v_rests_for
  have v_law_are_fewer : FnV l.prog w K mg base 8 "_law_are_fewer" false 3 m_law_are_fewer := ⟨⟨f_law_are_fewer, _, _, O_law_are_fewer, PySem.W.mg_of X G a_law_are_fewer, k_law_are_fewer, B_law_are_fewer⟩⟩
  have O_law := ok_law (P := l.prog) (w := w) (base := base) F_law T v_first_unlike v_law_are_fewer v_law_book v_law_kinds v_law_rows v_law_taken Mk_Book Mk_Rule v_moduli_for v_piece_of v_rests_for
  exact O_law
end VP
open PySem PySem.W PyProof.Rows
theorem PySem.Challenge.cw_ruledpieces_k53_whole_sights_and_books_holds : PySem.Challenge.rw_ruledpieces_k53_whole_sights_and_books.Holds := by
  w_on; o_law; k_head; (case hw => w_witness2)
  k_fill
  refine LamX.walk_ofTs (l := PySem.Challenge.rw_ruledpieces_k53_whole_sights_and_books) (n := 63) (k := 9) (x := "_law_script") (CX := fun w => L2.CX PySem.Challenge.rw_ruledpieces_k53_whole_sights_and_books.prog w) rfl (by decide) rfl ⟨rfl, by decide, by decide⟩ (fun w h Y => PySem.W.km_in_of Y) ?F (fun w H s e s' h => VE.cx_none h)
  case F =>
    intro w mg fa h Y KX G hmg
    km_tabs Y
    refine' VP.all_mk KX G hmg ?aC_Rule ?pg_Rule ?ic_Rule ?po_Rule ?sa_Rule ?mk_Rule ?kc_Rule ?da_Rule_0 ?dg_Rule_0 ?dt_Rule_0 ?di_Rule_0 ?dy_Rule_0 ?aC_Book ?pg_Book ?ic_Book ?po_Book ?sa_Book ?mk_Book ?kc_Book ?da_Book_0 ?dg_Book_0 ?dt_Book_0 ?di_Book_0 ?dy_Book_0 ?a_is_number ?l_is_number ?c_is_number ?k_is_number ?a_is_word ?l_is_word ?c_is_word ?k_is_word ?a_ascend ?l_ascend ?c_ascend ?k_ascend ?a_Rule_piece ?pg2_Rule_piece ?pt_Rule_piece ?pr_Rule_piece ?l_Rule_piece ?c_Rule_piece ?k_Rule_piece ?a_Rule_low ?pg2_Rule_low ?pt_Rule_low ?pr_Rule_low ?l_Rule_low ?c_Rule_low ?k_Rule_low ?a_Rule_high ?pg2_Rule_high ?pt_Rule_high ?pr_Rule_high ?l_Rule_high ?c_Rule_high ?k_Rule_high ?a_Rule_modulus ?pg2_Rule_modulus ?pt_Rule_modulus ?pr_Rule_modulus ?l_Rule_modulus ?c_Rule_modulus ?k_Rule_modulus ?a_Rule_rests ?pg2_Rule_rests ?pt_Rule_rests ?pr_Rule_rests ?l_Rule_rests ?c_Rule_rests ?k_Rule_rests ?a_Rule_kinds ?pg2_Rule_kinds ?pt_Rule_kinds ?pr_Rule_kinds ?l_Rule_kinds ?c_Rule_kinds ?k_Rule_kinds ?a_Book_kinds ?pg2_Book_kinds ?pt_Book_kinds ?pr_Book_kinds ?l_Book_kinds ?c_Book_kinds ?k_Book_kinds ?a_Book_rules ?pg2_Book_rules ?pt_Book_rules ?pr_Book_rules ?l_Book_rules ?c_Book_rules ?k_Book_rules ?a_rest_of ?l_rest_of ?c_rest_of ?k_rest_of ?a_check_modulus ?l_check_modulus ?c_check_modulus ?k_check_modulus ?a_law_taken ?l_law_taken ?c_law_taken ?k_law_taken ?a_are_kinds ?l_are_kinds ?c_are_kinds ?k_are_kinds ?a_are_rests ?l_are_rests ?c_are_rests ?k_are_rests ?a_check_kinds ?l_check_kinds ?c_check_kinds ?k_check_kinds ?a_rests_seen ?l_rests_seen ?c_rests_seen ?k_rests_seen ?a_law_kinds ?l_law_kinds ?c_law_kinds ?k_law_kinds ?a_law_rows ?l_law_rows ?c_law_rows ?k_law_rows ?a_Rule_init ?i_Rule_init ?l_Rule_init ?c_Rule_init ?k_Rule_init ?a_Book_init ?i_Book_init ?l_Book_init ?c_Book_init ?k_Book_init ?a_fits ?l_fits ?c_fits ?k_fits ?a_check_row ?l_check_row ?c_check_row ?k_check_row ?a_is_row ?l_is_row ?c_is_row ?k_is_row ?a_can_tell ?l_can_tell ?c_can_tell ?k_can_tell ?a_fitting ?l_fitting ?c_fitting ?k_fitting ?a_place_of ?l_place_of ?c_place_of ?k_place_of ?a_check_sights ?l_check_sights ?c_check_sights ?k_check_sights ?a_law_book ?l_law_book ?c_law_book ?k_law_book ?a_piece_of ?l_piece_of ?c_piece_of ?k_piece_of ?a_first_unlike ?l_first_unlike ?c_first_unlike ?k_first_unlike ?ec_first_unlike ?lo_first_unlike ?tp_first_unlike ?hd_first_unlike ?nt_first_unlike ?em_first_unlike ?a_check_seen ?l_check_seen ?c_check_seen ?k_check_seen ?ec_check_seen ?lo_check_seen ?tp_check_seen ?hd_check_seen ?nt_check_seen ?em_check_seen ?a_moduli_for ?l_moduli_for ?c_moduli_for ?k_moduli_for ?a_rests_for ?l_rests_for ?c_rests_for ?k_rests_for ?a_law_are_fewer ?l_law_are_fewer ?c_law_are_fewer ?k_law_are_fewer ?a_law ?l_law ?c_law ?k_law ?nodup ?zb_all ?zb_any ?zb_bool ?zb_enumerate ?zb_int ?zb_isinstance ?zb_len ?zb_list ?zb_range ?zb_set ?zb_sorted ?zb_str ?zb_tuple ?zb_zip ?zc_LAST ?zc_LETTERS ?zc_MAX_KINDS ?zc_MAX_RULES ?zc_MAX_SIGHTS ?zc_MAX_WORD ?zc_MODULI ?zl_MODULI
    case aC_Rule => k_is
    case pg_Rule => k_is
    case ic_Rule => k_is
    case po_Rule => k_is
    case sa_Rule => k_is
    case mk_Rule => k_is
    case kc_Rule => k_is
    case da_Rule_0 => k_is
    case dg_Rule_0 => k_is
    case dt_Rule_0 => k_is
    case di_Rule_0 => k_is
    case dy_Rule_0 => k_is
    case aC_Book => k_is
    case pg_Book => k_is
    case ic_Book => k_is
    case po_Book => k_is
    case sa_Book => k_is
    case mk_Book => k_is
    case kc_Book => k_is
    case da_Book_0 => k_is
    case dg_Book_0 => k_is
    case dt_Book_0 => k_is
    case di_Book_0 => k_is
    case dy_Book_0 => k_is
    case a_is_number => k_is
    case l_is_number => k_is
    case c_is_number => k_is
    case k_is_number => k_is
    case a_is_word => k_is
    case l_is_word => k_is
    case c_is_word => k_is
    case k_is_word => k_is
    case a_ascend => k_is
    case l_ascend => k_is
    case c_ascend => k_is
    case k_ascend => k_is
    case a_Rule_piece => k_is
    case pg2_Rule_piece => k_is
    case pt_Rule_piece => k_is
    case pr_Rule_piece => k_is
    case l_Rule_piece => k_is
    case c_Rule_piece => k_is
    case k_Rule_piece => k_is
    case a_Rule_low => k_is
    case pg2_Rule_low => k_is
    case pt_Rule_low => k_is
    case pr_Rule_low => k_is
    case l_Rule_low => k_is
    case c_Rule_low => k_is
    case k_Rule_low => k_is
    case a_Rule_high => k_is
    case pg2_Rule_high => k_is
    case pt_Rule_high => k_is
    case pr_Rule_high => k_is
    case l_Rule_high => k_is
    case c_Rule_high => k_is
    case k_Rule_high => k_is
    case a_Rule_modulus => k_is
    case pg2_Rule_modulus => k_is
    case pt_Rule_modulus => k_is
    case pr_Rule_modulus => k_is
    case l_Rule_modulus => k_is
    case c_Rule_modulus => k_is
    case k_Rule_modulus => k_is
    case a_Rule_rests => k_is
    case pg2_Rule_rests => k_is
    case pt_Rule_rests => k_is
    case pr_Rule_rests => k_is
    case l_Rule_rests => k_is
    case c_Rule_rests => k_is
    case k_Rule_rests => k_is
    case a_Rule_kinds => k_is
    case pg2_Rule_kinds => k_is
    case pt_Rule_kinds => k_is
    case pr_Rule_kinds => k_is
    case l_Rule_kinds => k_is
    case c_Rule_kinds => k_is
    case k_Rule_kinds => k_is
    case a_Book_kinds => k_is
    case pg2_Book_kinds => k_is
    case pt_Book_kinds => k_is
    case pr_Book_kinds => k_is
    case l_Book_kinds => k_is
    case c_Book_kinds => k_is
    case k_Book_kinds => k_is
    case a_Book_rules => k_is
    case pg2_Book_rules => k_is
    case pt_Book_rules => k_is
    case pr_Book_rules => k_is
    case l_Book_rules => k_is
    case c_Book_rules => k_is
    case k_Book_rules => k_is
    case a_rest_of => k_is
    case l_rest_of => k_is
    case c_rest_of => k_is
    case k_rest_of => k_is
    case a_check_modulus => k_is
    case l_check_modulus => k_is
    case c_check_modulus => k_is
    case k_check_modulus => k_is
    case a_law_taken => k_is
    case l_law_taken => k_is
    case c_law_taken => k_is
    case k_law_taken => k_is
    case a_are_kinds => k_is
    case l_are_kinds => k_is
    case c_are_kinds => k_is
    case k_are_kinds => k_is
    case a_are_rests => k_is
    case l_are_rests => k_is
    case c_are_rests => k_is
    case k_are_rests => k_is
    case a_check_kinds => k_is
    case l_check_kinds => k_is
    case c_check_kinds => k_is
    case k_check_kinds => k_is
    case a_rests_seen => k_is
    case l_rests_seen => k_is
    case c_rests_seen => k_is
    case k_rests_seen => k_is
    case a_law_kinds => k_is
    case l_law_kinds => k_is
    case c_law_kinds => k_is
    case k_law_kinds => k_is
    case a_law_rows => k_is
    case l_law_rows => k_is
    case c_law_rows => k_is
    case k_law_rows => k_is
    case a_Rule_init => k_is
    case i_Rule_init => k_is
    case l_Rule_init => k_is
    case c_Rule_init => k_is
    case k_Rule_init => k_is
    case a_Book_init => k_is
    case i_Book_init => k_is
    case l_Book_init => k_is
    case c_Book_init => k_is
    case k_Book_init => k_is
    case a_fits => k_is
    case l_fits => k_is
    case c_fits => k_is
    case k_fits => k_is
    case a_check_row => k_is
    case l_check_row => k_is
    case c_check_row => k_is
    case k_check_row => k_is
    case a_is_row => k_is
    case l_is_row => k_is
    case c_is_row => k_is
    case k_is_row => k_is
    case a_can_tell => k_is
    case l_can_tell => k_is
    case c_can_tell => k_is
    case k_can_tell => k_is
    case a_fitting => k_is
    case l_fitting => k_is
    case c_fitting => k_is
    case k_fitting => k_is
    case a_place_of => k_is
    case l_place_of => k_is
    case c_place_of => k_is
    case k_place_of => k_is
    case a_check_sights => k_is
    case l_check_sights => k_is
    case c_check_sights => k_is
    case k_check_sights => k_is
    case a_law_book => k_is
    case l_law_book => k_is
    case c_law_book => k_is
    case k_law_book => k_is
    case a_piece_of => k_is
    case l_piece_of => k_is
    case c_piece_of => k_is
    case k_piece_of => k_is
    case a_first_unlike => k_is
    case l_first_unlike => k_is
    case c_first_unlike => k_is
    case k_first_unlike => k_is
    case ec_first_unlike => exact rfl
    case lo_first_unlike => k_is
    case tp_first_unlike => exact rfl
    case hd_first_unlike => kernel_rfl
    case nt_first_unlike => kernel_rfl
    case em_first_unlike => exact hT8 _ (by k_mem)
    case a_check_seen => k_is
    case l_check_seen => k_is
    case c_check_seen => k_is
    case k_check_seen => k_is
    case ec_check_seen => exact rfl
    case lo_check_seen => k_is
    case tp_check_seen => exact rfl
    case hd_check_seen => kernel_rfl
    case nt_check_seen => kernel_rfl
    case em_check_seen => exact hT8 _ (by k_mem)
    case a_moduli_for => k_is
    case l_moduli_for => k_is
    case c_moduli_for => k_is
    case k_moduli_for => k_is
    case a_rests_for => k_is
    case l_rests_for => k_is
    case c_rests_for => k_is
    case k_rests_for => k_is
    case a_law_are_fewer => k_is
    case l_law_are_fewer => k_is
    case c_law_are_fewer => k_is
    case k_law_are_fewer => k_is
    case a_law => k_is
    case l_law => k_is
    case c_law => k_is
    case k_law => k_is
    case nodup => decide
    case zb_all => k_is
    case zb_any => k_is
    case zb_bool => k_is
    case zb_enumerate => k_is
    case zb_int => k_is
    case zb_isinstance => k_is
    case zb_len => k_is
    case zb_list => k_is
    case zb_range => k_is
    case zb_set => k_is
    case zb_sorted => k_is
    case zb_str => k_is
    case zb_tuple => k_is
    case zb_zip => k_is
    case zc_LAST => k_is
    case zc_LETTERS => k_is
    case zc_MAX_KINDS => k_is
    case zc_MAX_RULES => k_is
    case zc_MAX_SIGHTS => k_is
    case zc_MAX_WORD => k_is
    case zc_MODULI => k_is
    case zl_MODULI => k_is
