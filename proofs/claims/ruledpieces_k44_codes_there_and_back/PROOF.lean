import PyProof.Rows.All
import Wide.All
import OpenK.AllK
import Wide.FinOn
import HandS.Base
import HandS.Call
import HandS.List
import HandS.Comp
import HandS.Ends
import HandS.Exc
import HandS.Text
import HandS.More
import HandS.Slots
import HandS.Deep
import HandS.Wide
import HandS.WideMore
import HandS.Star
import HandS.Words
import HandS.WordsExc
import HandS.ExcOwn
import HandS.Iter
import HandS.IsInst
import HandS.Style
import HandS.Replace
import HandS.Codes
import PySem.Challenge.RW_ruledpieces_k44_codes_there_and_back
set_option Elab.async false
set_option linter.all false
set_option maxRecDepth 100000
set_option maxHeartbeats 4000000
/-! VE: values as pure data, statements as functions of data, tied once to the hand layer's judgements. -/
namespace VE
open PySem PySem.Spec PyProof.Rows L2

/-- pure data that a value stands for -/
inductive D where
  | non
  | bl (b : Bool)
  | int (i : Int)
  | str (x : Str)
  | lst (xs : List D)
  | tup (xs : List D)
  | scr (xs : List Int)
  | dct (kvs : List (D × D))
  | obj (c : Str) (xs : List D)
  | ref (n : Nat)
  | fn (n : Nat)
  deriving Inhabited

/-- a slot: nothing known; a value; a list or dict that this slot alone holds -/
inductive Sl where
  | no
  | va (d : D)
  | ow (d : D)
/-- an object that may be changed: a list, an instance with its attributes -/
inductive Cell where
  | lst (xs : List D)
  | ins (c : Str) (fs : List (Str × D))
abbrev EnvD := List Sl
abbrev Sto := List Cell
/-- an exception: its class's name, its attributes -/
structure Exn where
  cls : Str
  fs : List (Str × D)
inductive R (α : Type) where
  | ok (a : α) (e : EnvD) (st : Sto)
  | ex (x : Exn) (e : EnvD) (st : Sto)
  | bad
@[reducible] def M (α : Type) := EnvD → Sto → R α
def R.bind {α β : Type} (r : R α) (k : α → M β) : R β := match r with
  | .ok a e st => k a e st
  | .ex x e st => .ex x e st
  | .bad => .bad
@[simp] theorem R.bind_ok {α β : Type} (a : α) (e : EnvD) (st : Sto) (k : α → M β) : (R.ok a e st).bind k = k a e st := rfl
@[simp] theorem R.bind_ex {α β : Type} (x : Exn) (e : EnvD) (st : Sto) (k : α → M β) : (R.ex x e st).bind k = .ex x e st := rfl
@[simp] theorem R.bind_bad {α β : Type} (k : α → M β) : (R.bad : R α).bind k = .bad := rfl

section
variable (K : PySem.W.Frag) (mg : Str → Option Value)
def FqL (F : Addr → Prop) (H : Hp) (a : Addr) (xs : List V) : Prop :=
  (F a ∧ Rd H a (.lst xs)) ∨ ∃ (o : Obj) (its : Array Value) (n : Nat), K.lookup a = some o ∧ o.cls = .type "list" ∧ o.dict = none ∧ o.data = .seq its n ∧ its.size ≤ sizeLine ∧ Vals xs its.toList
def FqT (F : Addr → Prop) (H : Hp) (a : Addr) (xs : List V) : Prop :=
  (F a ∧ Rd H a (.tup xs)) ∨ ∃ (o : Obj) (its : Array Value) (n : Nat), K.lookup a = some o ∧ o.cls = .type "tuple" ∧ o.data = .seq its n ∧ its.size ≤ sizeLine ∧ Vals xs its.toList
mutual
inductive Rp (F : Addr → Prop) (c : List Addr) (H : Hp) : V → D → Prop
  | non : Rp F c H .non .non
  | bl (b : Bool) : Rp F c H (.bl b) (.bl b)
  | int (i : Int) : Rp F c H (.int i) (.int i)
  | str (x : Str) : Rp F c H (.str x) (.str x)
  | lst {a : Addr} {xs : List V} {ds : List D} : F a → H a = some (.lst xs) → Rps F c H xs ds → Rp F c H (.ref a) (.lst ds)
  | scr {a : Addr} {ns : List Int} : FqL K F H a (ns.map V.int) → Rp F c H (.ref a) (.scr ns)
  | tup {a : Addr} {xs : List V} {ds : List D} : FqT K F H a xs → Rps F c H xs ds → Rp F c H (.ref a) (.tup ds)
  | obj {a C dx : Addr} {n : Str} {xs : List V} {ds : List D} : mg n = some (.ref C) → F a → F dx → H a = some (SlX.SlO a C dx (xs.map some)) → H dx = some (.xd []) → Rps F c H xs ds → Rp F c H (.ref a) (.obj n ds)
  | ref {a : Addr} {n : Nat} : c[n]? = some a → Rp F c H (.ref a) (.ref n)
inductive Rps (F : Addr → Prop) (c : List Addr) (H : Hp) : List V → List D → Prop
  | nil : Rps F c H [] []
  | cons {v : V} {vs : List V} {d : D} {ds : List D} : Rp F c H v d → Rps F c H vs ds → Rps F c H (v :: vs) (d :: ds)
end
end

/-- what is frozen stays -/
structure Stp (F : Addr → Prop) (c : List Addr) (H : Hp) (F' : Addr → Prop) (c' : List Addr) (H' : Hp) : Prop where
  inc : ∀ a, F a → F' a
  keep : ∀ a o, F a → H a = some o → H' a = some o
  cs : ∃ l, c' = c ++ l
section
variable {K : PySem.W.Frag} {mg : Str → Option Value} {F F' F2 : Addr → Prop} {c c' c2 : List Addr} {H H' H2 : Hp}
theorem Stp.refl : Stp F c H F c H := ⟨fun _ h => h, fun _ _ _ h => h, [], (List.append_nil c).symm⟩
theorem Stp.trans (s : Stp F c H F' c' H') (t : Stp F' c' H' F2 c2 H2) : Stp F c H F2 c2 H2 := by
  obtain ⟨l, e⟩ := s.cs
  obtain ⟨l', e'⟩ := t.cs
  exact ⟨fun a h => t.inc a (s.inc a h), fun a o h e => t.keep a o (s.inc a h) (s.keep a o h e), l ++ l', by rw [e', e, List.append_assoc]⟩
theorem FqL.stp {a : Addr} {xs : List V} (h : FqL K F H a xs) (s : Stp F c H F' c' H') : FqL K F' H' a xs := by
  rcases h with ⟨f, h | ⟨o, h⟩⟩ | h
  · exact .inl ⟨s.inc a f, .inl (s.keep a _ f h)⟩
  · exact .inl ⟨s.inc a f, .inr ⟨o, s.keep a _ f h⟩⟩
  · exact .inr h
theorem FqL.sq {a : Addr} {xs : List V} (h : FqL K F H a xs) : SqL K H a xs := h.elim (fun h => .inl h.2) .inr
theorem FqT.stp {a : Addr} {xs : List V} (h : FqT K F H a xs) (s : Stp F c H F' c' H') : FqT K F' H' a xs := by
  rcases h with ⟨f, h | ⟨o, h⟩⟩ | h
  · exact .inl ⟨s.inc a f, .inl (s.keep a _ f h)⟩
  · exact .inl ⟨s.inc a f, .inr ⟨o, s.keep a _ f h⟩⟩
  · exact .inr h
theorem FqT.sq {a : Addr} {xs : List V} (h : FqT K F H a xs) : SqT K H a xs := h.elim (fun h => .inl h.2) .inr
mutual
theorem Rp.stp (s : Stp F c H F' c' H') : ∀ {v : V} {d : D}, Rp K mg F c H v d → Rp K mg F' c' H' v d
  | _, _, .non => .non
  | _, _, .bl b => .bl b
  | _, _, .int i => .int i
  | _, _, .str x => .str x
  | _, _, .lst f h r => .lst (s.inc _ f) (s.keep _ _ f h) (Rps.stp s r)
  | _, _, .scr h => .scr (h.stp s)
  | _, _, .tup h r => .tup (h.stp s) (Rps.stp s r)
  | _, _, .obj m f g h k r => .obj m (s.inc _ f) (s.inc _ g) (s.keep _ _ f h) (s.keep _ _ g k) (Rps.stp s r)
  | _, _, .ref h => .ref (by
      obtain ⟨l, e⟩ := s.cs
      rw [e, List.getElem?_append_left]
      · exact h
      · exact (List.getElem?_eq_some_iff.mp h).1)
theorem Rps.stp (s : Stp F c H F' c' H') : ∀ {vs : List V} {ds : List D}, Rps K mg F c H vs ds → Rps K mg F' c' H' vs ds
  | _, _, .nil => .nil
  | _, _, .cons h r => .cons (Rp.stp s h) (Rps.stp s r)
end
theorem Rps.length : ∀ {vs : List V} {ds : List D}, Rps K mg F c H vs ds → vs.length = ds.length
  | _, _, .nil => rfl
  | _, _, .cons _ r => by rw [List.length_cons, List.length_cons, Rps.length r]
theorem Rps.append : ∀ {vs : List V} {ds : List D} {ws : List V} {es : List D}, Rps K mg F c H vs ds → Rps K mg F c H ws es → Rps K mg F c H (vs ++ ws) (ds ++ es)
  | _, _, _, _, .nil, h => h
  | _, _, _, _, .cons h r, q => .cons h (Rps.append r q)
theorem Rps.get : ∀ {vs : List V} {ds : List D} {i : Nat} {v : V}, Rps K mg F c H vs ds → vs[i]? = some v → ∃ d, ds[i]? = some d ∧ Rp K mg F c H v d
  | _, _, _, _, .nil, e => by simp at e
  | _, _, 0, _, .cons h _, e => by simp at e; subst e; exact ⟨_, rfl, h⟩
  | _, _, i + 1, v, .cons _ r, e => by
    obtain ⟨d, h1, h2⟩ := Rps.get (i := i) (v := v) r (by simpa using e)
    exact ⟨d, by simpa using h1, h2⟩
theorem Rps.get' : ∀ {vs : List V} {ds : List D} {i : Nat} {d : D}, Rps K mg F c H vs ds → ds[i]? = some d → ∃ v, vs[i]? = some v ∧ Rp K mg F c H v d
  | _, _, _, _, .nil, e => by simp at e
  | _, _, 0, _, .cons h _, e => by simp at e; subst e; exact ⟨_, rfl, h⟩
  | _, _, i + 1, d, .cons _ r, e => by
    obtain ⟨v, h1, h2⟩ := Rps.get' (i := i) (d := d) r (by simpa using e)
    exact ⟨v, by simpa using h1, h2⟩
theorem Rps.take : ∀ {vs : List V} {ds : List D} (n : Nat), Rps K mg F c H vs ds → Rps K mg F c H (vs.take n) (ds.take n)
  | _, _, 0, _ => .nil
  | _, _, _ + 1, .nil => .nil
  | _, _, n + 1, .cons h r => .cons h (Rps.take n r)
theorem Rps.drop : ∀ {vs : List V} {ds : List D} (n : Nat), Rps K mg F c H vs ds → Rps K mg F c H (vs.drop n) (ds.drop n)
  | _, _, 0, r => r
  | _, _, _ + 1, .nil => .nil
  | _, _, n + 1, .cons _ r => Rps.drop n r
theorem Rps.set {x : V} {d : D} (r : Rp K mg F c H x d) : ∀ {vs : List V} {ds : List D} (i : Nat), Rps K mg F c H vs ds → Rps K mg F c H (vs.set i x) (ds.set i d)
  | _, _, _, .nil => .nil
  | _, _, 0, .cons _ t => .cons r t
  | _, _, i + 1, .cons q t => .cons q (Rps.set r i t)
theorem Rps.reverse : ∀ {vs : List V} {ds : List D}, Rps K mg F c H vs ds → Rps K mg F c H vs.reverse ds.reverse
  | _, _, .nil => .nil
  | _, _, .cons h r => by
    rw [List.reverse_cons, List.reverse_cons]
    exact Rps.append (Rps.reverse r) (.cons h .nil)
end

/-- the fixed things of a def's run: the written part, the module's names, the heap, the frozen and the changeable objects at its entry -/
structure Bs where
  K : PySem.W.Frag
  mg : Str → Option Value
  H0 : Hp
  F0 : Addr → Prop
  c0 : List Addr

def OwnAt (K : PySem.W.Frag) (mg : Str → Option Value) (F : Addr → Prop) (c : List Addr) (H : Hp) (a : Addr) : D → Prop
  | .lst ds => ∃ vs, H a = some (.lst vs) ∧ Rps K mg F c H vs ds
  | _ => False
def CellOk (K : PySem.W.Frag) (mg : Str → Option Value) (F : Addr → Prop) (c : List Addr) (H : Hp) (a : Addr) : Cell → Prop
  | .lst ds => ∃ vs, H a = some (.lst vs) ∧ Rps K mg F c H vs ds
  | .ins n fs => ∃ C dx vfs, mg n = some (.ref C) ∧ H a = some (.ins C dx vfs) ∧ vfs.map (·.1) = fs.map (·.1) ∧ Rps K mg F c H (vfs.map (·.2)) (fs.map (·.2))
structure RelC (K : PySem.W.Frag) (mg : Str → Option Value) (F : Addr → Prop) (c : List Addr) (st : Sto) (H : Hp) : Prop where
  trk : ∀ a, F a → ∃ o, H a = some o
  len : st.length = c.length
  nd : c.Nodup
  cl : ∀ (n : Nat) (a : Addr) (x : Cell), c[n]? = some a → st[n]? = some x → CellOk K mg F c H a x
  nf : ∀ a ∈ c, ¬ F a
def SlOk (b : Bs) (F : Addr → Prop) (c : List Addr) (H : Hp) (σ : L2.St) (i : Nat) : Sl → Prop
  | .no => True
  | .va d => ∃ v, σ[i]? = some (some v) ∧ Rp b.K b.mg F c H v d
  | .ow d => ∃ a, σ[i]? = some (some (.ref a)) ∧ ¬ F a ∧ a ∉ c ∧ b.H0 a = none ∧ OwnAt b.K b.mg F c H a d
def OwnA (env : EnvD) (σ : L2.St) (i : Nat) (a : Addr) : Prop := ∃ d, env[i]? = some (.ow d) ∧ σ[i]? = some (some (.ref a))
structure Rel (b : Bs) (F : Addr → Prop) (c : List Addr) (env : EnvD) (st : Sto) (σ : L2.St) (H : Hp) : Prop where
  rc : RelC b.K b.mg F c st H
  len : env.length = σ.length
  sl : ∀ (i : Nat) (s : Sl), env[i]? = some s → SlOk b F c H σ i s
  ds : ∀ i j a, OwnA env σ i a → OwnA env σ j a → i = j
  old : ∀ a o, b.H0 a = some o → a ∉ c → H a = some o
  new : ∀ a, F a → b.F0 a ∨ b.H0 a = none
  nwc : ∀ a ∈ c, a ∈ b.c0 ∨ b.H0 a = none
  f0 : ∀ a, b.F0 a → ∃ o, b.H0 a = some o
  k0 : ∀ a ∈ b.c0, ∃ o, b.H0 a = some o

section
variable {K : PySem.W.Frag} {mg : Str → Option Value} {b : Bs} {F F' F2 : Addr → Prop} {c c' c2 : List Addr} {H H' H2 : Hp} {env : EnvD} {st : Sto} {σ : L2.St}
theorem RelC.ctrk (r : RelC K mg F c st H) {a : Addr} (h : a ∈ c) : ∃ o, H a = some o := by
  obtain ⟨n, hn⟩ := List.getElem?_of_mem h
  have hl : n < st.length := by rw [r.len]; exact (List.getElem?_eq_some_iff.mp hn).1
  have hc := r.cl n a _ hn (List.getElem?_eq_getElem hl)
  cases e : st[n] with
  | lst ds => rw [e] at hc; obtain ⟨vs, h, _⟩ := hc; exact ⟨_, h⟩
  | ins n fs => rw [e] at hc; obtain ⟨_, _, _, _, h, _⟩ := hc; exact ⟨_, h⟩
theorem Rel.own (r : Rel b F c env st σ H) {i : Nat} {a : Addr} (h : OwnA env σ i a) : ¬ F a ∧ a ∉ c ∧ b.H0 a = none ∧ ∃ o, H a = some o := by
  obtain ⟨d, he, hs⟩ := h
  obtain ⟨a', e', h1, h2, h3, h4⟩ := r.sl i _ he
  rw [hs] at e'; cases e'
  refine ⟨h1, h2, h3, ?_⟩
  cases d with
  | lst ds => obtain ⟨vs, h, _⟩ := h4; exact ⟨_, h⟩
  | _ => exact h4.elim
/-- an exception's form -/
def RpX (K : PySem.W.Frag) (mg : Str → Option Value) (F : Addr → Prop) (c : List Addr) (H : Hp) (cls : Value) (d : Option Addr) (x : Exn) : Prop :=
  mg x.cls = some cls ∧ (x.fs = [] ∨ ∃ d' vfs, d = some d' ∧ F d' ∧ H d' = some (.xd vfs) ∧ vfs.map (·.1) = x.fs.map (·.1) ∧ Rps K mg F c H (vfs.map (·.2)) (x.fs.map (·.2)))

/-- what is wanted behind a run that gives r -/
def Post {α : Type} (b : Bs) (W : WX) (F : Addr → Prop) (c : List Addr) (σ : L2.St) (H : Hp) (P : α → EnvD → Sto → (Addr → Prop) → List Addr → Hp → Prop) : R α → Prop
  | .ok x env st => ∀ F' c' H', Stp F c H F' c' H' → Rel b F' c' env st σ H' → P x env st F' c' H'
  | .ex x env st => ∀ F' c' H' cls d, Stp F c H F' c' H' → Rel b F' c' env st σ H' → RpX b.K b.mg F' c' H' cls d x → W cls d σ H'
  | .bad => False
theorem Post.mono {α : Type} {W : WX} {P P' : α → EnvD → Sto → (Addr → Prop) → List Addr → Hp → Prop} {r : R α} (h : Post b W F c σ H P r)
    (k : ∀ x env st F' c' H', Stp F c H F' c' H' → Rel b F' c' env st σ H' → P x env st F' c' H' → P' x env st F' c' H') : Post b W F c σ H P' r := by
  cases r with
  | ok x env st => exact fun F' c' H' s r => k _ _ _ _ _ _ s r (h F' c' H' s r)
  | ex x env st => exact h
  | bad => exact h
theorem Post.stp {α : Type} {W : WX} {P : α → EnvD → Sto → (Addr → Prop) → List Addr → Hp → Prop} {r : R α} (s : Stp F c H F' c' H') (h : Post b W F c σ H P r) : Post b W F' c' σ H' P r := by
  cases r with
  | ok x env st => exact fun F2 c2 H2 t r => h F2 c2 H2 (s.trans t) r
  | ex x env st => exact fun F2 c2 H2 cls d t r => h F2 c2 H2 cls d (s.trans t) r
  | bad => exact h
theorem Post.bind {α β : Type} {W : WX} {P : β → EnvD → Sto → (Addr → Prop) → List Addr → Hp → Prop} {r : R α} {k : α → M β} (h : Post b W F c σ H P (r.bind k)) :
    Post b W F c σ H (fun x env st F1 c1 H1 => Post b W F1 c1 σ H1 P (k x env st)) r := by
  cases r with
  | ok x env st => exact fun F' c' H' s r => Post.stp s h
  | ex x env st => exact h
  | bad => exact h
/-- at once -/
theorem Post.here {α : Type} {W : WX} {P : α → EnvD → Sto → (Addr → Prop) → List Addr → Hp → Prop} {x : α} (r : Rel b F c env st σ H) (h : Post b W F c σ H P (.ok x env st)) : P x env st F c H := h F c H .refl r
end

section
variable {X : Cx} {W : WX}
/-- the state that the data tell -/
def At (X : Cx) (W : WX) {α : Type} (f : M α) (σ : L2.St) (H : Hp) (P : Bs → α → EnvD → Sto → (Addr → Prop) → List Addr → Hp → Prop) : Prop :=
  ∃ b F c env st, b.K = X.K ∧ b.mg = X.mg ∧ Rel b F c env st σ H ∧ Post b W F c σ H (P b) (f env st)
def tE (X : Cx) (W : WX) (f : M D) : TE := fun σ H Q => At X W f σ H fun b d _ _ F c H' => ∀ v, Rp b.K b.mg F c H' v d → Q v H'
def tT (X : Cx) (W : WX) (f : M Bool) : TT := fun σ H Q => At X W f σ H fun _ t _ _ _ _ H' => Q t H'
def tA (X : Cx) (W : WX) (f : M (List D)) : TA := fun σ H Q => At X W f σ H fun b ds _ _ F c H' => ∀ vs, Rps b.K b.mg F c H' vs ds → Q vs H'
/-- the value is new and held by none -/
def tF (X : Cx) (W : WX) (f : M D) : TE := fun σ H Q => At X W f σ H fun b d env _ F c H' => ∀ a, ¬ F a → a ∉ c → b.H0 a = none → (∀ i, ¬ OwnA env σ i a) → OwnAt b.K b.mg F c H' a d → Q (.ref a) H'
@[reducible] def VE (X : Cx) (W : WX) (e : Expr) (f : M D) : Prop := PE X e (tE X W f)
@[reducible] def VF (X : Cx) (W : WX) (e : Expr) (f : M D) : Prop := PE X e (tF X W f)
@[reducible] def VT (X : Cx) (W : WX) (e : Expr) (f : M Bool) : Prop := PT X e (tT X W f)
@[reducible] def VA (X : Cx) (W : WX) (es : List Expr) (f : M (List D)) : Prop := PA X es (tA X W f)
end
end VE

namespace VE
open PySem PySem.Spec PyProof.Rows L2
section
variable {X : Cx} {W : WX} {b : Bs} {F : Addr → Prop} {c : List Addr} {env : EnvD} {st : Sto} {σ : L2.St} {H : Hp}
theorem PEof {e : Expr} {t t' : TE} (h : PE X e t) (k : ∀ σ H Q, t' σ H Q → t σ H Q) : PE X e t' := ⟨fun pins s σ H Q I q => h.run pins s σ H Q I (k σ H Q q)⟩
theorem PTof {e : Expr} {t t' : TT} (h : PT X e t) (k : ∀ σ H Q, t' σ H Q → t σ H Q) : PT X e t' := ⟨fun pins s σ H Q I q => h.run pins s σ H Q I (k σ H Q q)⟩
theorem PWof {e : Expr} {t t' : TT} (h : PW X e t) (k : ∀ σ H Q, t' σ H Q → t σ H Q) : PW X e t' := ⟨fun wh pins s σ H Q I q => h.run wh pins s σ H Q I (k σ H Q q)⟩
theorem PAof {e : List Expr} {t t' : TA} (h : PA X e t) (k : ∀ σ H Q, t' σ H Q → t σ H Q) : PA X e t' := ⟨fun pos pins s σ H Q I q => h.run pos pins s σ H Q I (k σ H Q q)⟩
theorem PSof {e : Stmt} {t t' : TS} (h : PS X e t) (k : ∀ D σ H, t' D σ H → t D σ H) : PS X e t' := ⟨fun pins s σ H D I q => h.run pins s σ H D I (k D σ H q)⟩
theorem PSsof {e : List Stmt} {t t' : TS} (h : PSs X e t) (k : ∀ D σ H, t' D σ H → t D σ H) : PSs X e t' := ⟨fun pins s σ H D I q => h.run pins s σ H D I (k D σ H q)⟩

/-! ### from a run of data to a reading -/
section
variable {α β : Type} {P : β → EnvD → Sto → (Addr → Prop) → List Addr → Hp → Prop}
theorem tE_at {f : M D} {k : D → M β} {Q : VK} (e1 : b.K = X.K) (e2 : b.mg = X.mg) (r : Rel b F c env st σ H) (p : Post b W F c σ H P ((f env st).bind k))
    (hq : ∀ v d env' st' F' c' H', Stp F c H F' c' H' → Rel b F' c' env' st' σ H' → Rp b.K b.mg F' c' H' v d → Post b W F' c' σ H' P (k d env' st') → Q v H') : tE X W f σ H Q :=
  ⟨b, F, c, env, st, e1, e2, r, (Post.bind p).mono fun d env' st' F' c' H' s r' q v rp => hq v d env' st' F' c' H' s r' rp q⟩
theorem tT_at {f : M Bool} {k : Bool → M β} {Q : Bool → Hp → Prop} (e1 : b.K = X.K) (e2 : b.mg = X.mg) (r : Rel b F c env st σ H) (p : Post b W F c σ H P ((f env st).bind k))
    (hq : ∀ t env' st' F' c' H', Stp F c H F' c' H' → Rel b F' c' env' st' σ H' → Post b W F' c' σ H' P (k t env' st') → Q t H') : tT X W f σ H Q :=
  ⟨b, F, c, env, st, e1, e2, r, (Post.bind p).mono fun t env' st' F' c' H' s r' q => hq t env' st' F' c' H' s r' q⟩
theorem tA_at {f : M (List D)} {k : List D → M β} {Q : List V → Hp → Prop} (e1 : b.K = X.K) (e2 : b.mg = X.mg) (r : Rel b F c env st σ H) (p : Post b W F c σ H P ((f env st).bind k))
    (hq : ∀ vs ds env' st' F' c' H', Stp F c H F' c' H' → Rel b F' c' env' st' σ H' → Rps b.K b.mg F' c' H' vs ds → Post b W F' c' σ H' P (k ds env' st') → Q vs H') : tA X W f σ H Q :=
  ⟨b, F, c, env, st, e1, e2, r, (Post.bind p).mono fun ds env' st' F' c' H' s r' q v rp => hq v ds env' st' F' c' H' s r' rp q⟩
theorem tF_at {f : M D} {k : D → M β} {Q : VK} (e1 : b.K = X.K) (e2 : b.mg = X.mg) (r : Rel b F c env st σ H) (p : Post b W F c σ H P ((f env st).bind k))
    (hq : ∀ a d env' st' F' c' H', Stp F c H F' c' H' → Rel b F' c' env' st' σ H' → ¬ F' a → a ∉ c' → b.H0 a = none → (∀ i, ¬ OwnA env' σ i a) → OwnAt b.K b.mg F' c' H' a d → Post b W F' c' σ H' P (k d env' st') → Q (.ref a) H') : tF X W f σ H Q :=
  ⟨b, F, c, env, st, e1, e2, r, (Post.bind p).mono fun d env' st' F' c' H' s r' q a h1 h2 h3 h4 h5 => hq a d env' st' F' c' H' s r' h1 h2 h3 h4 h5 q⟩
end

/-! ### changes of the state -/
@[reducible] def FAdd (F : Addr → Prop) (p : Addr) : Addr → Prop := fun a => F a ∨ a = p
theorem RelC.stp {K : PySem.W.Frag} {mg : Str → Option Value} {F' : Addr → Prop} {H' : Hp} (r : RelC K mg F c st H) (s : Stp F c H F' c H') (h1 : ∀ a, F' a → ∃ o, H' a = some o) (h2 : ∀ a ∈ c, H' a = H a) (h3 : ∀ a ∈ c, ¬ F' a) : RelC K mg F' c st H' := by
  refine ⟨h1, r.len, r.nd, fun n a x hn hx => ?_, h3⟩
  have hm : a ∈ c := List.mem_of_getElem? hn
  have q := r.cl n a x hn hx
  cases x with
  | lst ds => obtain ⟨vs, e, p⟩ := q; exact ⟨vs, by rw [h2 a hm]; exact e, p.stp s⟩
  | ins m fs => obtain ⟨C, dx, vfs, e1, e2, e3, p⟩ := q; exact ⟨C, dx, vfs, e1, by rw [h2 a hm]; exact e2, e3, p.stp s⟩
theorem OwnAt.stp {K : PySem.W.Frag} {mg : Str → Option Value} {F' : Addr → Prop} {c' : List Addr} {H' : Hp} {a : Addr} {d : D} (s : Stp F c H F' c' H') (h : H' a = H a) (o : OwnAt K mg F c H a d) : OwnAt K mg F' c' H' a d := by
  cases d with
  | lst ds => obtain ⟨vs, e, p⟩ := o; exact ⟨vs, by rw [h]; exact e, p.stp s⟩
  | _ => exact o.elim
theorem Rel.H0none (r : Rel b F c env st σ H) {p : Addr} (hp : H p = none) : b.H0 p = none := by
  cases e : b.H0 p with
  | none => rfl
  | some o =>
    by_cases hc : p ∈ c
    · obtain ⟨o', e'⟩ := r.rc.ctrk hc
      rw [hp] at e'; cases e'
    · have := r.old p o e hc
      rw [hp] at this; cases this
/-- heap and frozen set grow; the slots, the changeable objects stay -/
theorem Rel.grow {F' : Addr → Prop} {H' : Hp} (r : Rel b F c env st σ H) (s : Stp F c H F' c H') (hk : ∀ a o, H a = some o → H' a = some o) (h1 : ∀ a, F' a → ∃ o, H' a = some o) (h2 : ∀ a, F' a → F a ∨ (b.H0 a = none ∧ a ∉ c ∧ ∀ i, ¬ OwnA env σ i a)) : Rel b F' c env st σ H' := by
  have hcs : ∀ a ∈ c, H' a = H a := fun a ha => by
    obtain ⟨o, e⟩ := r.rc.ctrk ha
    rw [e]; exact hk a o e
  refine ⟨r.rc.stp s h1 hcs fun a ha hf => ?_, r.len, fun i sl he => ?_, r.ds, fun a o e hc => hk a o (r.old a o e hc), fun a hf => ?_, r.nwc, r.f0, r.k0⟩
  · rcases h2 a hf with h | h
    · exact r.rc.nf a ha h
    · exact h.2.1 ha
  · have q := r.sl i sl he
    cases sl with
    | no => trivial
    | va d => obtain ⟨v, e, p⟩ := q; exact ⟨v, e, p.stp s⟩
    | ow d =>
      obtain ⟨a, e, p1, p2, p3, p4⟩ := q
      refine ⟨a, e, fun hf => ?_, p2, p3, p4.stp s ?_⟩
      · rcases h2 a hf with h | h
        · exact p1 h
        · exact h.2.2 i ⟨d, he, e⟩
      · obtain ⟨_, _, _, o, e⟩ := r.own (i := i) ⟨d, he, e⟩
        rw [e]; exact hk a o e
  · rcases h2 a hf with h | h
    · exact r.new a h
    · exact .inr h.1
theorem stp_add {p : Addr} (hp : ¬ F p) {o : HO} : Stp F c H (FAdd F p) c (upd H p o) := ⟨fun _ h => .inl h, fun a o f h => by
  rw [upd_ne (fun e : a = p => hp (e ▸ f))]; exact h, [], (List.append_nil c).symm⟩
theorem Rel.nF (r : Rel b F c env st σ H) {p : Addr} (hp : H p = none) : ¬ F p := fun hf => by
  obtain ⟨o, e⟩ := r.rc.trk p hf
  rw [hp] at e; cases e
theorem Rel.nO (r : Rel b F c env st σ H) {p : Addr} (hp : H p = none) (i : Nat) : ¬ OwnA env σ i p := fun hf => by
  obtain ⟨_, _, _, o, e⟩ := r.own hf
  rw [hp] at e; cases e
theorem Rel.nC (r : Rel b F c env st σ H) {p : Addr} (hp : H p = none) : p ∉ c := fun hf => by
  obtain ⟨o, e⟩ := r.rc.ctrk hf
  rw [hp] at e; cases e
/-- a new object, frozen at once -/
theorem Rel.newF (r : Rel b F c env st σ H) {p : Addr} (hp : H p = none) (o : HO) : Stp F c H (FAdd F p) c (upd H p o) ∧ Rel b (FAdd F p) c env st σ (upd H p o) := by
  have s : Stp F c H (FAdd F p) c (upd H p o) := stp_add (r.nF hp)
  refine ⟨s, r.grow s (fun a x e => ?_) (fun a hf => ?_) (fun a hf => ?_)⟩
  · rw [upd_ne (ne_of_none e hp)]; exact e
  · rcases hf with hf | rfl
    · obtain ⟨x, e⟩ := r.rc.trk a hf
      exact ⟨x, s.keep a x hf e⟩
    · exact ⟨o, upd_same⟩
  · rcases hf with hf | rfl
    · exact .inl hf
    · exact .inr ⟨r.H0none hp, r.nC hp, r.nO hp⟩
/-- a new object, not frozen -/
theorem Rel.newO (r : Rel b F c env st σ H) {p : Addr} (hp : H p = none) (o : HO) : Stp F c H F c (upd H p o) ∧ Rel b F c env st σ (upd H p o) := by
  have hk : ∀ a x, H a = some x → upd H p o a = some x := fun a x e => by rw [upd_ne (ne_of_none e hp)]; exact e
  have s : Stp F c H F c (upd H p o) := ⟨fun _ h => h, fun a x _ e => hk a x e, [], (List.append_nil c).symm⟩
  exact ⟨s, r.grow s hk (fun a hf => by obtain ⟨x, e⟩ := r.rc.trk a hf; exact ⟨x, hk a x e⟩) fun a hf => .inl hf⟩
/-- what none holds is frozen -/
theorem Rel.frz (r : Rel b F c env st σ H) {a : Addr} (h2 : a ∉ c) (h3 : b.H0 a = none) (h4 : ∀ i, ¬ OwnA env σ i a) (h5 : ∃ o, H a = some o) : Stp F c H (FAdd F a) c H ∧ Rel b (FAdd F a) c env st σ H := by
  have s : Stp F c H (FAdd F a) c H := ⟨fun _ h => .inl h, fun _ _ _ h => h, [], (List.append_nil c).symm⟩
  refine ⟨s, r.grow s (fun _ _ e => e) (fun x hf => ?_) fun x hf => ?_⟩
  · rcases hf with hf | rfl
    · exact r.rc.trk x hf
    · exact h5
  · rcases hf with hf | rfl
    · exact .inl hf
    · exact .inr ⟨h3, h2, h4⟩
theorem OwnAt.rp {K : PySem.W.Frag} {mg : Str → Option Value} {a : Addr} {d : D} (o : OwnAt K mg F c H a d) : Rp K mg (FAdd F a) c H (.ref a) d := by
  cases d with
  | lst ds =>
    obtain ⟨vs, e, p⟩ := o
    have s : Stp F c H (FAdd F a) c H := ⟨fun _ h => .inl h, fun _ _ _ h => h, [], (List.append_nil c).symm⟩
    exact .lst (.inr rfl) e (p.stp s)
  | _ => exact o.elim
theorem OwnAt.trk {K : PySem.W.Frag} {mg : Str → Option Value} {a : Addr} {d : D} (o : OwnAt K mg F c H a d) : ∃ x, H a = some x := by
  cases d with
  | lst ds => obtain ⟨vs, e, p⟩ := o; exact ⟨_, e⟩
  | _ => exact o.elim
/-- a fresh value is a value -/
theorem VF.ve {e : Expr} {f : M D} (h : VF X W e f) : VE X W e f := PEof h fun σ H Q ⟨b, F, c, env, st, e1, e2, r, p⟩ => ⟨b, F, c, env, st, e1, e2, r, by
  generalize f env st = y at p
  cases y with
  | ok d env' st' =>
    intro F' c' H' s r' a h1 h2 h3 h4 h5
    obtain ⟨s2, r2⟩ := r'.frz h2 h3 h4 h5.trk
    exact p _ c' H' (s.trans s2) r2 _ h5.rp
  | ex x env' st' => exact p
  | bad => exact p⟩

/-! ### slots -/
theorem ownA_set {i j : Nat} {x : Sl} {a : Addr} (h : OwnA (env.set i x) σ j a) (hx : ∀ d, x ≠ .ow d) : OwnA env σ j a := by
  obtain ⟨d, e, e'⟩ := h
  by_cases q : i = j
  · subst q
    by_cases hl : i < env.length
    · rw [List.getElem?_set_self hl] at e; cases e; exact absurd rfl (hx d)
    · rw [List.getElem?_eq_none (by simpa using hl)] at e; cases e
  · rw [List.getElem?_set_ne q] at e; exact ⟨d, e, e'⟩
/-- a slot is forgotten -/
theorem Rel.forget (r : Rel b F c env st σ H) (i : Nat) : Rel b F c (env.set i .no) st σ H := by
  refine ⟨r.rc, by rw [List.length_set]; exact r.len, fun j s e => ?_, fun j k a h h' => r.ds j k a (ownA_set h fun _ => nofun) (ownA_set h' fun _ => nofun), r.old, r.new, r.nwc, r.f0, r.k0⟩
  by_cases q : i = j
  · subst q
    by_cases hl : i < env.length
    · rw [List.getElem?_set_self hl] at e; cases e; trivial
    · rw [List.getElem?_eq_none (by simpa using hl)] at e; cases e
  · rw [List.getElem?_set_ne q] at e; exact r.sl j s e
/-- a name's value is stored -/
theorem Rel.put (r : Rel b F c env st σ H) {i : Nat} {v : V} {d : D} (h : Rp b.K b.mg F c H v d) : Rel b F c (env.set i (.va d)) st (σ.set i (some v)) H := by
  have own : ∀ {j a}, OwnA (env.set i (.va d)) (σ.set i (some v)) j a → OwnA env σ j a := fun {j a} h => by
    obtain ⟨d', e, e'⟩ := h
    by_cases q : i = j
    · subst q
      by_cases hl : i < env.length
      · rw [List.getElem?_set_self hl] at e; cases e
      · rw [List.getElem?_eq_none (by simpa using hl)] at e; cases e
    · rw [List.getElem?_set_ne q] at e e'; exact ⟨d', e, e'⟩
  refine ⟨r.rc, by rw [List.length_set, List.length_set]; exact r.len, fun j s e => ?_, fun j k a h h' => r.ds j k a (own h) (own h'), r.old, r.new, r.nwc, r.f0, r.k0⟩
  by_cases q : i = j
  · subst q
    by_cases hl : i < env.length
    · rw [List.getElem?_set_self hl] at e; cases e
      exact ⟨v, List.getElem?_set_self (by rw [← r.len]; exact hl), h⟩
    · rw [List.getElem?_eq_none (by simpa using hl)] at e; cases e
  · rw [List.getElem?_set_ne q] at e
    have z := r.sl j s e
    cases s with
    | no => trivial
    | va d' => obtain ⟨v', e', p⟩ := z; exact ⟨v', by rw [List.getElem?_set_ne q]; exact e', p⟩
    | ow d' => obtain ⟨a, e', p⟩ := z; exact ⟨a, by rw [List.getElem?_set_ne q]; exact e', p⟩
/-- a name takes what none holds -/
theorem Rel.take (r : Rel b F c env st σ H) {i : Nat} {a : Addr} {d : D} (h1 : ¬ F a) (h2 : a ∉ c) (h3 : b.H0 a = none) (h4 : ∀ i, ¬ OwnA env σ i a) (h5 : OwnAt b.K b.mg F c H a d) : Rel b F c (env.set i (.ow d)) st (σ.set i (some (.ref a))) H := by
  have own : ∀ {j a'}, OwnA (env.set i (.ow d)) (σ.set i (some (.ref a))) j a' → (j = i ∧ a' = a) ∨ OwnA env σ j a' := fun {j a'} h => by
    obtain ⟨d', e, e'⟩ := h
    by_cases q : i = j
    · subst q
      by_cases hl : i < σ.length
      · rw [List.getElem?_set_self hl] at e'; cases e'; exact .inl ⟨rfl, rfl⟩
      · rw [List.getElem?_eq_none (by simpa using hl)] at e'; cases e'
    · rw [List.getElem?_set_ne q] at e e'; exact .inr ⟨d', e, e'⟩
  refine ⟨r.rc, by rw [List.length_set, List.length_set]; exact r.len, fun j s e => ?_, fun j k a' h h' => ?_, r.old, r.new, r.nwc, r.f0, r.k0⟩
  · by_cases q : i = j
    · subst q
      by_cases hl : i < env.length
      · rw [List.getElem?_set_self hl] at e; cases e
        exact ⟨a, List.getElem?_set_self (by rw [← r.len]; exact hl), h1, h2, h3, h5⟩
      · rw [List.getElem?_eq_none (by simpa using hl)] at e; cases e
    · rw [List.getElem?_set_ne q] at e
      have z := r.sl j s e
      cases s with
      | no => trivial
      | va d' => obtain ⟨v', e', p⟩ := z; exact ⟨v', by rw [List.getElem?_set_ne q]; exact e', p⟩
      | ow d' => obtain ⟨a', e', p⟩ := z; exact ⟨a', by rw [List.getElem?_set_ne q]; exact e', p⟩
  · rcases own h with ⟨rfl, rfl⟩ | g <;> rcases own h' with ⟨e1, e2⟩ | g'
    · exact e1.symm
    · exact absurd g' (h4 k)
    · subst e1 e2; exact absurd g (h4 j)
    · exact r.ds j k a' g g'
/-- what a slot alone held is frozen: the slot keeps it as a value -/
theorem Rel.freeze (r : Rel b F c env st σ H) {i : Nat} {d : D} (e : env[i]? = some (.ow d)) : ∃ a, σ[i]? = some (some (.ref a)) ∧ Stp F c H (FAdd F a) c H ∧ Rel b (FAdd F a) c (env.set i (.va d)) st σ H ∧ Rp b.K b.mg (FAdd F a) c H (.ref a) d := by
  obtain ⟨a, e', h1, h2, h3, h5⟩ := r.sl i _ e
  have hσ : i < σ.length := (List.getElem?_eq_some_iff.mp e').1
  have r1 := r.forget i
  have no : ∀ j, ¬ OwnA (env.set i .no) σ j a := fun j h => by
    have g := ownA_set h fun _ => nofun
    have ej : j = i := r.ds j i a g ⟨d, e, e'⟩
    subst ej
    obtain ⟨d', e2, _⟩ := h
    rw [List.getElem?_set_self (by rw [r.len]; exact hσ)] at e2; cases e2
  obtain ⟨s, r2⟩ := r1.frz h2 h3 no h5.trk
  have rp := h5.rp
  have r3 := r2.put (i := i) rp
  have es : σ.set i (some (.ref a)) = σ := by
    apply List.ext_getElem?
    intro j
    by_cases q : i = j
    · subst q; rw [List.getElem?_set_self hσ, e']
    · rw [List.getElem?_set_ne q]
  rw [es, List.set_set] at r3
  exact ⟨a, e', s, r3, rp⟩

/-! ### names and constants -/
def eVar (i : Nat) : M D := fun env st => match env[i]? with
  | some (.va d) => .ok d env st
  | some (.ow d) => .ok d (env.set i (.va d)) st
  | _ => .bad
def eC (d : D) : M D := fun env st => .ok d env st
theorem ve_name (i : Nat) {x : Str} {pos : Pos} (hN : X.N[i]? = some x := by rfl) (hv : Vis X.env.scope x := by first | exact Or.inl rfl | exact Or.inr (Or.inl rfl) | exact Or.inr (Or.inr rfl)) (hd : (x == ("__debug__" : Str)) = false := by decide)
    (hcd : (x == ("__classdict__" : Str)) = false := by decide) : VE X W (.Name x pos) (eVar i) := PEof (pe_var hN hv hd hcd) fun σ H Q ⟨b, F, c, env, st, e1, e2, r, p⟩ => by
  unfold eVar at p
  split at p
  · rename_i d e
    obtain ⟨v, ev, rp⟩ := r.sl i _ e
    exact ⟨v, ev, Post.here r p v rp⟩
  · rename_i d e
    obtain ⟨a, ea, s, r2, rp⟩ := r.freeze e
    exact ⟨_, ea, p _ c H s r2 _ rp⟩
  · exact p.elim
theorem ve_c {e : Expr} {v : V} {d : D} (h : PE X e (tC v)) (k : ∀ F c H, Rp X.K X.mg F c H v d) : VE X W e (eC d) := PEof h fun σ H Q ⟨b, F, c, env, st, e1, e2, r, p⟩ => Post.here r p v (by rw [e1, e2]; exact k F c H)
theorem ve_int {i : Int} {j : Nat} {pos : Pos} : VE X W (.Constant (.int i) j pos) (eC (.int i)) := ve_c pe_int fun _ _ _ => .int i
theorem ve_bl {i : Bool} {j : Nat} {pos : Pos} : VE X W (.Constant (.bool i) j pos) (eC (.bl i)) := ve_c pe_bl fun _ _ _ => .bl i
theorem ve_non {j : Nat} {pos : Pos} : VE X W (.Constant .none j pos) (eC .non) := ve_c pe_non fun _ _ _ => .non
theorem ve_str {i : Str} {j : Nat} {pos : Pos} : VE X W (.Constant (.str i) j pos) (eC (.str i)) := ve_c pe_str fun _ _ _ => .str i
end
end VE

namespace VE
open PySem PySem.Spec PyProof.Rows L2
/-! ### data as the library's own data -/
mutual
def toPy : D → PyData
  | .non => .none
  | .bl b => .bool b
  | .int i => .int i
  | .str x => .str x
  | .lst xs => .list (toPys xs)
  | .tup xs => .tuple (toPys xs)
  | _ => .none
def toPys : List D → List PyData
  | [] => []
  | x :: xs => toPy x :: toPys xs
end
mutual
/-- data of none, bools, ints, texts, lists, tuples, at most n deep -/
def plain : Nat → D → Bool
  | _, .non => true
  | _, .bl _ => true
  | _, .int _ => true
  | _, .str x => PyData.strOk x
  | n + 1, .lst xs => plains n xs
  | n + 1, .tup xs => plains n xs
  | _, _ => false
def plains : Nat → List D → Bool
  | _, [] => true
  | n, x :: xs => plain n x && plains n xs
end
/-- equality, as == has it -/
def eqD (x y : D) : Bool := PyData.eqv (toPy x) (toPy y)
def eqDs (x y : List D) : Bool := PyData.eqvAll (toPys x) (toPys y)
mutual
theorem canLay_of : ∀ (n : Nat) (d : D), plain n d = true → PyData.canLay0 (toPy d) = true
  | _, .non, _ => by simp only [toPy, PyData.canLay0]
  | _, .bl _, _ => by simp only [toPy, PyData.canLay0]
  | _, .int _, _ => by simp only [toPy, PyData.canLay0]
  | _, .str x, h => by simpa [toPy, PyData.canLay0, plain] using h
  | n + 1, .lst xs, h => by simp only [toPy, PyData.canLay0]; exact canLays_of n xs (by simpa [plain] using h)
  | n + 1, .tup xs, h => by simp only [toPy, PyData.canLay0]; exact canLays_of n xs (by simpa [plain] using h)
  | 0, .lst xs, h => by simp [plain] at h
  | 0, .tup xs, h => by simp [plain] at h
  | 0, .scr xs, h => by simp [plain] at h
  | 0, .dct xs, h => by simp [plain] at h
  | 0, .obj _ xs, h => by simp [plain] at h
  | 0, .ref xs, h => by simp [plain] at h
  | 0, .fn xs, h => by simp [plain] at h
  | _ + 1, .scr xs, h => by simp [plain] at h
  | _ + 1, .dct xs, h => by simp [plain] at h
  | _ + 1, .obj _ xs, h => by simp [plain] at h
  | _ + 1, .ref xs, h => by simp [plain] at h
  | _ + 1, .fn xs, h => by simp [plain] at h
theorem canLays_of : ∀ (n : Nat) (d : List D), plains n d = true → PyData.canLayAll0 (toPys d) = true
  | _, [], _ => by simp only [toPys, PyData.canLayAll0]
  | n, x :: xs, h => by
    have h' : plain n x = true ∧ plains n xs = true := by simpa [plains] using h
    simp only [toPys, PyData.canLayAll0, canLay_of n x h'.1, canLays_of n xs h'.2, Bool.and_self]
end
mutual
theorem depth_of : ∀ (n : Nat) (d : D), plain n d = true → PyData.depth (toPy d) ≤ n
  | _, .non, _ => by simp [toPy, PyData.depth]
  | _, .bl _, _ => by simp [toPy, PyData.depth]
  | _, .int _, _ => by simp [toPy, PyData.depth]
  | _, .str x, h => by simp [toPy, PyData.depth]
  | n + 1, .lst xs, h => by simp only [toPy, PyData.depth]; have := depths_of n xs (by simpa [plain] using h); omega
  | n + 1, .tup xs, h => by simp only [toPy, PyData.depth]; have := depths_of n xs (by simpa [plain] using h); omega
  | 0, .lst xs, h => by simp [plain] at h
  | 0, .tup xs, h => by simp [plain] at h
  | 0, .scr xs, h => by simp [plain] at h
  | 0, .dct xs, h => by simp [plain] at h
  | 0, .obj _ xs, h => by simp [plain] at h
  | 0, .ref xs, h => by simp [plain] at h
  | 0, .fn xs, h => by simp [plain] at h
  | _ + 1, .scr xs, h => by simp [plain] at h
  | _ + 1, .dct xs, h => by simp [plain] at h
  | _ + 1, .obj _ xs, h => by simp [plain] at h
  | _ + 1, .ref xs, h => by simp [plain] at h
  | _ + 1, .fn xs, h => by simp [plain] at h
theorem depths_of : ∀ (n : Nat) (d : List D), plains n d = true → PyData.depthAll (toPys d) ≤ n
  | _, [], _ => by simp [toPys, PyData.depthAll]
  | n, x :: xs, h => by
    have h' : plain n x = true ∧ plains n xs = true := by simpa [plains] using h
    have h1 := depth_of n x h'.1
    have h2 := depths_of n xs h'.2
    simp only [toPys, PyData.depthAll]
    omega
end
theorem shaped_of {n : Nat} {d : D} (hn : n ≤ 64) (h : plain n d = true) : SeqAt.shaped (toPy d) = true := by
  have h1 := depth_of n d h
  show (PyData.canLay0 (toPy d) && decide (PyData.depth (toPy d) ≤ 64)) = true
  rw [Bool.and_eq_true]
  exact ⟨canLay_of n d h, decide_eq_true (by omega)⟩
section
variable {K : PySem.W.Frag} {mg : Str → Option Value} {F : Addr → Prop} {c : List Addr} {H : Hp}
mutual
theorem Rp.dp : ∀ {v : V} {d : D} (n : Nat), Rp K mg F c H v d → plain n d = true → Dp K H v (toPy d)
  | _, _, _, .non, _ => by simp only [toPy]; exact .non
  | _, _, _, .bl b, _ => by simp only [toPy]; exact .bl b
  | _, _, _, .int b, _ => by simp only [toPy]; exact .int b
  | _, _, _, .str b, _ => by simp only [toPy]; exact .str b
  | _, _, n + 1, .lst f h r, p => by simp only [toPy]; exact .lst (SqL.of h) (Rps.dp n r (by simpa [plain] using p))
  | _, _, n + 1, .tup h r, p => by simp only [toPy]; exact .tup h.sq (Rps.dp n r (by simpa [plain] using p))
  | _, _, 0, .lst f h r, p => by simp [plain] at p
  | _, _, 0, .tup h r, p => by simp [plain] at p
  | _, _, 0, .scr _, p => by simp [plain] at p
  | _, _, 0, .obj _ _ _ _ _ _, p => by simp [plain] at p
  | _, _, 0, .ref _, p => by simp [plain] at p
  | _, _, _ + 1, .scr _, p => by simp [plain] at p
  | _, _, _ + 1, .obj _ _ _ _ _ _, p => by simp [plain] at p
  | _, _, _ + 1, .ref _, p => by simp [plain] at p
theorem Rps.dp : ∀ {v : List V} {d : List D} (n : Nat), Rps K mg F c H v d → plains n d = true → DpAll K H v (toPys d)
  | _, _, _, .nil, _ => by simp only [toPys]; exact .nil
  | _, _, n, .cons h r, p => by
    have h' := by simpa [plains] using p
    simp only [toPys]; exact .cons (Rp.dp n h h'.1) (Rps.dp n r h'.2)
end
end

section
variable {X : Cx} {W : WX} {e a d : Expr} {pos : Pos} {fa fb fc : M D}
/-! ### operators -/
def ret (o : Option D) : M D := fun env st => match o with
  | some d => .ok d env st
  | none => .bad
def eBin (g : D → D → M D) (fa fb : M D) : M D := fun env st => (fa env st).bind fun x e s => (fb e s).bind fun y e s => g x y e s
def OpOk (X : Cx) (W : WX) (r : R2) (g : D → D → M D) : Prop := ∀ (b : Bs) (F : Addr → Prop) (c : List Addr) (env : EnvD) (st : Sto) (σ : L2.St) (H : Hp) (x y : V) (dx dy : D) (Q : VK), b.K = X.K → b.mg = X.mg → Rel b F c env st σ H →
  Rp b.K b.mg F c H x dx → Rp b.K b.mg F c H y dy → Post b W F c σ H (fun d _ _ F' c' H' => ∀ v, Rp b.K b.mg F' c' H' v d → Q v H') (g dx dy env st) → r x y H Q
theorem tOp_of {r : R2} {g : D → D → M D} (hg : OpOk X W r g) : ∀ σ H Q, tE X W (eBin g fa fb) σ H Q → tOp r (tE X W fa) (tE X W fb) σ H Q := fun σ H Q ⟨b, F, c, env, st, e1, e2, r0, p⟩ =>
  tE_at e1 e2 r0 p fun v dx env1 st1 F1 c1 H1 s1 r1 rp1 p1 => tE_at e1 e2 r1 p1 fun u dy env2 st2 F2 c2 H2 s2 r2 rp2 p2 => hg b F2 c2 env2 st2 σ H2 v u dx dy Q e1 e2 r2 (rp1.stp s2) rp2 p2
theorem ve_op {op : Operator} {r : R2} {g : D → D → M D} (ho : OpR X (binaryOp op) r) (hg : OpOk X W r g) (ha : VE X W e fa) (hb : VE X W a fb) : VE X W (.BinOp e op a pos) (eBin g fa fb) := PEof (pe_op ho ha hb) (tOp_of hg)
/-- a total operator upon scalars -/
def sc2 (g : D → D → Option D) : D → D → M D := fun x y => ret (g x y)
theorem opOk_sc {r : R2} {g : D → D → Option D} (h : ∀ (F : Addr → Prop) (c : List Addr) (H : Hp) (x y : V) (dx dy d : D) (Q : VK), Rp X.K X.mg F c H x dx → Rp X.K X.mg F c H y dy → g dx dy = some d → (∀ v, Rp X.K X.mg F c H v d → Q v H) → r x y H Q) : OpOk X W r (sc2 g) := by
  intro b F c env st σ H x y dx dy Q e1 e2 r0 hx hy p
  unfold sc2 ret at p
  split at p
  · rename_i d e
    rw [e1, e2] at hx hy
    exact h F c H x y dx dy d Q hx hy e fun v hv => Post.here r0 p v (by rw [e1, e2]; exact hv)
  · exact p.elim
def addI : D → D → Option D
  | .int i, .int j => some (.int (i + j))
  | .str i, .str j => if i.length + j.length ≤ sizeLine then some (.str (i ++ j)) else none
  | _, _ => none
def subI : D → D → Option D
  | .int i, .int j => some (.int (i - j))
  | _, _ => none
def mulOk (i j : Int) : Bool := (decide (-(2 ^ 64) < i) && decide (i < 2 ^ 64)) || (decide (-(2 ^ 64) < j) && decide (j < 2 ^ 64))
def mulI : D → D → Option D
  | .int i, .int j => if mulOk i j then some (.int (i * j)) else none
  | _, _ => none
def divOk (j : Int) : Bool := decide (0 < j) && decide (j ≤ 10000000000000000000000000000000000000000)
def fdivI : D → D → Option D
  | .int i, .int j => if divOk j then some (.int (i / j)) else none
  | _, _ => none
def modI : D → D → Option D
  | .int i, .int j => if 0 < j then some (.int (i % j)) else none
  | _, _ => none
def powI : D → D → Option D
  | .int i, .int j => if decide (0 ≤ j) && decide (j ≤ 1000) && decide (i.natAbs < 2 ^ 64) then some (.int (i ^ j.toNat)) else none
  | _, _ => none
theorem divOk_w {i j : Int} (h : divOk j = true) : CDivW i j := by
  unfold divOk at h
  rw [Bool.and_eq_true, decide_eq_true_eq, decide_eq_true_eq] at h
  refine wide_div h.1 (b := 134) ?_ (by decide) (by decide)
  have h2 := h.2
  have e : (2 : Nat) ^ 134 = 21778071482940061661655974875633165533184 := by decide +kernel
  rw [e]
  omega
theorem mulOk_w {i j : Int} (h : mulOk i j = true) : CMul i j := by
  unfold mulOk at h
  simp only [Bool.or_eq_true, Bool.and_eq_true, decide_eq_true_eq] at h
  exact h
theorem op_addR : OpR X (binaryOp .Add) (fun x y H Q => (∃ i j, x = .int i ∧ y = .int j ∧ Q (.int (i + j)) H) ∨ (∃ i j, x = .str i ∧ y = .str j ∧ i.length + j.length ≤ sizeLine ∧ Q (.str (i ++ j)) H)) := OpR.or op_add op_add_str
theorem ok_add : OpOk X W (fun x y H Q => (∃ i j, x = .int i ∧ y = .int j ∧ Q (.int (i + j)) H) ∨ (∃ i j, x = .str i ∧ y = .str j ∧ i.length + j.length ≤ sizeLine ∧ Q (.str (i ++ j)) H)) (sc2 addI) := opOk_sc fun F c H x y dx dy d Q hx hy e q => by
  unfold addI at e
  split at e
  · cases hx; cases hy; cases e; exact .inl ⟨_, _, rfl, rfl, q _ (.int _)⟩
  · cases hx; cases hy
    split at e
    · cases e; exact .inr ⟨_, _, rfl, rfl, by assumption, q _ (.str _)⟩
    · cases e
  · cases e
theorem ok_sub : OpOk X W (rI0 fun i j => .int (i - j)) (sc2 subI) := opOk_sc fun F c H x y dx dy d Q hx hy e q => by
  unfold subI at e
  split at e
  · cases hx; cases hy; cases e; exact ⟨_, _, rfl, rfl, q _ (.int _)⟩
  · cases e
theorem ok_mul : OpOk X W (rI CMul fun i j => .int (i * j)) (sc2 mulI) := opOk_sc fun F c H x y dx dy d Q hx hy e q => by
  unfold mulI at e
  split at e
  · cases hx; cases hy
    split at e
    · cases e; exact ⟨_, _, rfl, rfl, mulOk_w (by assumption), q _ (.int _)⟩
    · cases e
  · cases e
theorem ok_fdiv : OpOk X W (rI CDivW fun i j => .int (i / j)) (sc2 fdivI) := opOk_sc fun F c H x y dx dy d Q hx hy e q => by
  unfold fdivI at e
  split at e
  · cases hx; cases hy
    split at e
    · cases e; exact ⟨_, _, rfl, rfl, divOk_w (by assumption), q _ (.int _)⟩
    · cases e
  · cases e
theorem ok_mod : OpOk X W (rI (fun _ j => 0 < j) fun i j => .int (i % j)) (sc2 modI) := opOk_sc fun F c H x y dx dy d Q hx hy e q => by
  unfold modI at e
  split at e
  · cases hx; cases hy
    split at e
    · cases e; exact ⟨_, _, rfl, rfl, by assumption, q _ (.int _)⟩
    · cases e
  · cases e
theorem ok_pow : OpOk X W (rI CPow fun i j => .int (i ^ j.toNat)) (sc2 powI) := opOk_sc fun F c H x y dx dy d Q hx hy e q => by
  unfold powI at e
  split at e
  · cases hx; cases hy
    split at e
    · rename_i h
      simp only [Bool.and_eq_true, decide_eq_true_eq] at h
      cases e; exact ⟨_, _, rfl, rfl, ⟨h.1.1, by omega, h.2⟩, q _ (.int _)⟩
    · cases e
  · cases e
theorem ve_add (ha : VE X W e fa) (hb : VE X W a fb) : VE X W (.BinOp e .Add a pos) (eBin (sc2 addI) fa fb) := ve_op op_addR ok_add ha hb
theorem ve_sub (ha : VE X W e fa) (hb : VE X W a fb) : VE X W (.BinOp e .Sub a pos) (eBin (sc2 subI) fa fb) := ve_op op_sub ok_sub ha hb
theorem ve_mul (ha : VE X W e fa) (hb : VE X W a fb) : VE X W (.BinOp e .Mult a pos) (eBin (sc2 mulI) fa fb) := ve_op op_mul ok_mul ha hb
theorem ve_fdiv (ha : VE X W e fa) (hb : VE X W a fb) : VE X W (.BinOp e .FloorDiv a pos) (eBin (sc2 fdivI) fa fb) := ve_op op_fdivW ok_fdiv ha hb
theorem ve_mod (ha : VE X W e fa) (hb : VE X W a fb) : VE X W (.BinOp e .Mod a pos) (eBin (sc2 modI) fa fb) := ve_op op_mod ok_mod ha hb
theorem ve_pow (ha : VE X W e fa) (hb : VE X W a fb) : VE X W (.BinOp e .Pow a pos) (eBin (sc2 powI) fa fb) := ve_op op_pow ok_pow ha hb
def negI : D → Option D
  | .int i => some (.int (-i))
  | _ => none
def eUn (g : D → Option D) (fa : M D) : M D := fun env st => (fa env st).bind fun x e s => ret (g x) e s
theorem ve_neg (ha : VE X W e fa) : VE X W (.UnaryOp .USub e pos) (eUn negI fa) := PEof (pe_un un_neg ha) fun σ H Q ⟨b, F, c, env, st, e1, e2, r0, p⟩ =>
  tE_at e1 e2 r0 p fun v dx env1 st1 F1 c1 H1 s1 r1 rp1 p1 => by
    unfold ret negI at p1
    split at p1
    · rename_i d e
      split at e
      · cases rp1; cases e; exact ⟨_, rfl, Post.here r1 p1 _ (.int _)⟩
      · cases e
    · exact p1.elim

/-! ### comparisons -/
theorem ve_cmp {op : CmpOp} {r : R2} {g : D → D → M D} (ho : OpR X (compareOp op) r) (hg : OpOk X W r g) (ha : VE X W e fa) (hb : VE X W a fb) (hm : behindInMarks op a = false) : VE X W (.Compare e [op] [a] pos) (eBin g fa fb) := PEof (pe_cmpR ho ha hb hm) (tOp_of hg)
/-- a value that is a bool, as a test -/
def eT (f : M D) : M Bool := fun env st => (f env st).bind fun x e s => match x with
  | .bl t => .ok t e s
  | _ => .bad
theorem tTest_of {f : M D} : ∀ σ H Q, tT X W (eT f) σ H Q → tTest (tE X W f) σ H Q := fun σ H Q ⟨b, F, c, env, st, e1, e2, r0, p⟩ => tE_at e1 e2 r0 p fun v dx env1 st1 F1 c1 H1 s1 r1 rp1 p1 => by
    split at p1
    · cases rp1; exact ⟨_, rfl, Post.here r1 p1⟩
    · exact p1.elim
theorem vt_cmp {op : CmpOp} {r : R2} {g : D → D → M D} (ho : OpR X (compareOp op) r) (hg : OpOk X W r g) (ha : VE X W e fa) (hb : VE X W a fb) (hm : behindInMarks op a = false) : VT X W (.Compare e [op] [a] pos) (eT (eBin g fa fb)) :=
  PTof (pt_cmpR ho ha hb hm) fun σ H Q h => by
    have h2 := tTest_of σ H Q h
    exact tOp_of (fa := fa) (fb := fb) hg σ H _ h2
theorem vt_val (ha : VE X W e fa) (he : ∀ whole, isTrue e X.env whole = (do let v ← whole; standAt e.pos; holding [v] (truthy v)) := by intro _; rfl) : VT X W e (eT fa) := PTof (pt_val ha he) fun σ H Q h => tTest_of σ H Q h
def cmpI (p : Int → Int → Bool) : D → D → Option D
  | .int i, .int j => some (.bl (p i j))
  | _, _ => none
theorem ok_cmpI (p : Int → Int → Bool) : OpOk X W (rI0 fun i j => .bl (p i j)) (sc2 (cmpI p)) := opOk_sc fun F c H x y dx dy d Q hx hy e q => by
  unfold cmpI at e
  split at e
  · cases hx; cases hy; cases e; exact ⟨_, _, rfl, rfl, q _ (.bl _)⟩
  · cases e
@[reducible] def gLt : D → D → M D := sc2 (cmpI fun i j => decide (i < j))
@[reducible] def gLe : D → D → M D := sc2 (cmpI fun i j => decide (i ≤ j))
@[reducible] def gGt : D → D → M D := sc2 (cmpI fun i j => decide (j < i))
@[reducible] def gGe : D → D → M D := sc2 (cmpI fun i j => decide (j ≤ i))
theorem ve_lt (ha : VE X W e fa) (hb : VE X W a fb) : VE X W (.Compare e [.Lt] [a] pos) (eBin gLt fa fb) := ve_cmp op_lt (ok_cmpI _) ha hb (nomark _)
theorem ve_le (ha : VE X W e fa) (hb : VE X W a fb) : VE X W (.Compare e [.LtE] [a] pos) (eBin gLe fa fb) := ve_cmp op_le (ok_cmpI _) ha hb (nomark _)
theorem ve_gt (ha : VE X W e fa) (hb : VE X W a fb) : VE X W (.Compare e [.Gt] [a] pos) (eBin gGt fa fb) := ve_cmp op_gt (ok_cmpI _) ha hb (nomark _)
theorem ve_ge (ha : VE X W e fa) (hb : VE X W a fb) : VE X W (.Compare e [.GtE] [a] pos) (eBin gGe fa fb) := ve_cmp op_ge (ok_cmpI _) ha hb (nomark _)
theorem vt_lt (ha : VE X W e fa) (hb : VE X W a fb) : VT X W (.Compare e [.Lt] [a] pos) (eT (eBin gLt fa fb)) := vt_cmp op_lt (ok_cmpI _) ha hb (nomark _)
theorem vt_le (ha : VE X W e fa) (hb : VE X W a fb) : VT X W (.Compare e [.LtE] [a] pos) (eT (eBin gLe fa fb)) := vt_cmp op_le (ok_cmpI _) ha hb (nomark _)
theorem vt_gt (ha : VE X W e fa) (hb : VE X W a fb) : VT X W (.Compare e [.Gt] [a] pos) (eT (eBin gGt fa fb)) := vt_cmp op_gt (ok_cmpI _) ha hb (nomark _)
theorem vt_ge (ha : VE X W e fa) (hb : VE X W a fb) : VT X W (.Compare e [.GtE] [a] pos) (eT (eBin gGe fa fb)) := vt_cmp op_ge (ok_cmpI _) ha hb (nomark _)
/-- == and != of plain data -/
def eqP (x y : D) : Option D := if plain 20 x && plain 20 y then some (.bl (eqD x y)) else none
def neP (x y : D) : Option D := if plain 20 x && plain 20 y then some (.bl (!eqD x y)) else none
theorem ok_eqP : OpOk X W (rEqD X.K) (sc2 eqP) := opOk_sc fun F c H x y dx dy d Q hx hy e q => by
  unfold eqP at e
  split at e
  · rename_i h
    rw [Bool.and_eq_true] at h
    cases e
    exact ⟨_, _, hx.dp 20 h.1, hy.dp 20 h.2, shaped_of (by decide) h.1, shaped_of (by decide) h.2, q _ (.bl _)⟩
  · cases e
theorem ok_neP : OpOk X W (rNeD X.K) (sc2 neP) := opOk_sc fun F c H x y dx dy d Q hx hy e q => by
  unfold neP at e
  split at e
  · rename_i h
    rw [Bool.and_eq_true] at h
    cases e
    exact ⟨_, _, hx.dp 20 h.1, hy.dp 20 h.2, shaped_of (by decide) h.1, shaped_of (by decide) h.2, q _ (.bl _)⟩
  · cases e
variable {k : Nat}
theorem huOf (hr : Room k X.A) : X.A.units + 64 < cLine := by have := hr.un; omega
theorem huOf1 (hr : Room k X.A) : X.A.units + 65 < cLine := by have := hr.un; omega
theorem ve_eq (hr : Room k X.A) (ha : VE X W e fa) (hb : VE X W a fb) : VE X W (.Compare e [.Eq] [a] pos) (eBin (sc2 eqP) fa fb) := ve_cmp (op_eqD (huOf hr)) ok_eqP ha hb (nomark _)
theorem ve_ne (hr : Room k X.A) (ha : VE X W e fa) (hb : VE X W a fb) : VE X W (.Compare e [.NotEq] [a] pos) (eBin (sc2 neP) fa fb) := ve_cmp (op_neD (huOf hr)) ok_neP ha hb (nomark _)
theorem vt_eq (hr : Room k X.A) (ha : VE X W e fa) (hb : VE X W a fb) : VT X W (.Compare e [.Eq] [a] pos) (eT (eBin (sc2 eqP) fa fb)) := vt_cmp (op_eqD (huOf hr)) ok_eqP ha hb (nomark _)
theorem vt_ne (hr : Room k X.A) (ha : VE X W e fa) (hb : VE X W a fb) : VT X W (.Compare e [.NotEq] [a] pos) (eT (eBin (sc2 neP) fa fb)) := vt_cmp (op_neD (huOf hr)) ok_neP ha hb (nomark _)
/-- is None -/
def isNone : D → Bool
  | .non => true
  | _ => false
theorem Rp.isNon {K : PySem.W.Frag} {mg : Str → Option Value} {F : Addr → Prop} {c : List Addr} {H : Hp} {v : V} {d : D} (h : Rp K mg F c H v d) : decide (v = .non) = isNone d := by cases h <;> rfl
def isN (neg : Bool) : D → D → Option D
  | x, .non => some (.bl (if neg then !isNone x else isNone x))
  | _, _ => none
theorem ok_isN : OpOk X W (fun x y H Q => y = .non ∧ Q (.bl (decide (x = .non))) H) (sc2 (isN false)) := opOk_sc fun F c H x y dx dy d Q hx hy e q => by
  unfold isN at e
  split at e
  · cases hy; cases e; exact ⟨rfl, q _ (by rw [hx.isNon]; exact .bl _)⟩
  · cases e
theorem ok_notN : OpOk X W (fun x y H Q => y = .non ∧ Q (.bl (!decide (x = .non))) H) (sc2 (isN true)) := opOk_sc fun F c H x y dx dy d Q hx hy e q => by
  unfold isN at e
  split at e
  · cases hy; cases e; exact ⟨rfl, q _ (by rw [hx.isNon]; exact .bl _)⟩
  · cases e
theorem ve_isN (ha : VE X W e fa) (hb : VE X W a fb) : VE X W (.Compare e [.Is] [a] pos) (eBin (sc2 (isN false)) fa fb) := ve_cmp op_isN ok_isN ha hb (nomark _)
theorem ve_notN (ha : VE X W e fa) (hb : VE X W a fb) : VE X W (.Compare e [.IsNot] [a] pos) (eBin (sc2 (isN true)) fa fb) := ve_cmp op_notN ok_notN ha hb (nomark _)
theorem vt_isN (ha : VE X W e fa) (hb : VE X W a fb) : VT X W (.Compare e [.Is] [a] pos) (eT (eBin (sc2 (isN false)) fa fb)) := vt_cmp op_isN ok_isN ha hb (nomark _)
theorem vt_notN (ha : VE X W e fa) (hb : VE X W a fb) : VT X W (.Compare e [.IsNot] [a] pos) (eT (eBin (sc2 (isN true)) fa fb)) := vt_cmp op_notN ok_notN ha hb (nomark _)
/-- in: a text in a text; plain data in a list or a tuple -/
def inText (i j : Str) : Bool := !(Builtin.Str.occurrences j i 0 j.length 1).isEmpty
def inP (neg : Bool) : D → D → Option D
  | .str i, .str j => some (.bl (if neg then !inText i j else inText i j))
  | x, .lst ys => if plain 20 x && plain 20 (.lst ys) then some (.bl (if neg then !(ys.any fun z => eqD z x) else ys.any fun z => eqD z x)) else none
  | _, _ => none
theorem any_toPys (x : D) : ∀ ys : List D, (toPys ys).any (fun z => PyData.eqv z (toPy x)) = ys.any fun z => eqD z x
  | [] => by simp [toPys]
  | y :: ys => by simp only [toPys, List.any_cons, any_toPys x ys]; rfl
theorem op_inR (hu : X.A.units + 65 < cLine) : OpR X (compareOp .In) (fun x y H Q => (∃ i j, x = .str i ∧ y = .str j ∧ Q (.bl (!(Builtin.Str.occurrences j i 0 j.length 1).isEmpty)) H) ∨ rInD X.K x y H Q) := OpR.or op_in_str (op_inD hu)
theorem op_notinR (hu : X.A.units + 65 < cLine) : OpR X (compareOp .NotIn) (fun x y H Q => (∃ i j, x = .str i ∧ y = .str j ∧ Q (.bl (!(!(Builtin.Str.occurrences j i 0 j.length 1).isEmpty))) H) ∨ rNotInD X.K x y H Q) := OpR.or L2.op_notin_str (op_notInD hu)
theorem ok_in : OpOk X W (fun x y H Q => (∃ i j, x = .str i ∧ y = .str j ∧ Q (.bl (!(Builtin.Str.occurrences j i 0 j.length 1).isEmpty)) H) ∨ rInD X.K x y H Q) (sc2 (inP false)) := opOk_sc fun F c H x y dx dy d Q hx hy e q => by
  unfold inP at e
  split at e
  · cases hx; cases hy; cases e; exact .inl ⟨_, _, rfl, rfl, q _ (.bl _)⟩
  · split at e
    · rename_i h
      rw [Bool.and_eq_true] at h
      cases e
      have h2 := hy.dp 20 h.2
      have h3 := shaped_of (by decide) h.2
      simp only [toPy] at h2 h3
      exact .inr ⟨_, _, hx.dp 20 h.1, h2, shaped_of (by decide) h.1, h3, q _ (by rw [any_toPys]; exact .bl _)⟩
    · cases e
  · cases e
theorem ok_notin : OpOk X W (fun x y H Q => (∃ i j, x = .str i ∧ y = .str j ∧ Q (.bl (!(!(Builtin.Str.occurrences j i 0 j.length 1).isEmpty))) H) ∨ rNotInD X.K x y H Q) (sc2 (inP true)) := opOk_sc fun F c H x y dx dy d Q hx hy e q => by
  unfold inP at e
  split at e
  · cases hx; cases hy; cases e; exact .inl ⟨_, _, rfl, rfl, q _ (.bl _)⟩
  · split at e
    · rename_i h
      rw [Bool.and_eq_true] at h
      cases e
      have h2 := hy.dp 20 h.2
      have h3 := shaped_of (by decide) h.2
      simp only [toPy] at h2 h3
      exact .inr ⟨_, _, hx.dp 20 h.1, h2, shaped_of (by decide) h.1, h3, q _ (by rw [any_toPys]; exact .bl _)⟩
    · cases e
  · cases e
theorem ve_in (hr : Room k X.A) (ha : VE X W e fa) (hb : VE X W a fb) (hm : behindInMarks .In a = false := by rfl) : VE X W (.Compare e [.In] [a] pos) (eBin (sc2 (inP false)) fa fb) := ve_cmp (op_inR (huOf1 hr)) ok_in ha hb hm
theorem vt_in (hr : Room k X.A) (ha : VE X W e fa) (hb : VE X W a fb) (hm : behindInMarks .In a = false := by rfl) : VT X W (.Compare e [.In] [a] pos) (eT (eBin (sc2 (inP false)) fa fb)) := vt_cmp (op_inR (huOf1 hr)) ok_in ha hb hm
theorem ve_notin (hr : Room k X.A) (ha : VE X W e fa) (hb : VE X W a fb) (hm : behindInMarks .NotIn a = false := by rfl) : VE X W (.Compare e [.NotIn] [a] pos) (eBin (sc2 (inP true)) fa fb) := ve_cmp (op_notinR (huOf1 hr)) ok_notin ha hb hm
theorem vt_notin (hr : Room k X.A) (ha : VE X W e fa) (hb : VE X W a fb) (hm : behindInMarks .NotIn a = false := by rfl) : VT X W (.Compare e [.NotIn] [a] pos) (eT (eBin (sc2 (inP true)) fa fb)) := vt_cmp (op_notinR (huOf1 hr)) ok_notin ha hb hm
/-- a <= b <= c, of ints -/
def eChain (p q : Int → Int → Bool) (fa fb fc : M D) : M D := fun env st => (fa env st).bind fun x e s => (fb e s).bind fun y e s => match x, y with
  | .int i, .int j => if p i j then (fc e s).bind fun z e s => match z with
      | .int l => .ok (.bl (q j l)) e s
      | _ => .bad
    else .ok (.bl false) e s
  | _, _ => .bad
end
end VE

namespace VE
open PySem PySem.Spec PyProof.Rows L2
section
variable {X : Cx} {W : WX} {e a d : Expr} {rest : List Expr} {pos : Pos} {fa fb fc : M D} {ta tb tc : M Bool}
/-! ### chains, tests -/
theorem chain_of {p q : Int → Int → Bool} : ∀ σ H Q, tE X W (eChain p q fa fb fc) σ H Q → tChain (rI0 fun i j => .bl (p i j)) (rI0 fun i j => .bl (q i j)) (tE X W fa) (tE X W fb) (tE X W fc) σ H Q := fun σ H Q ⟨b, F, c, env, st, e1, e2, r0, h⟩ =>
  tE_at e1 e2 r0 h fun v dx env1 st1 F1 c1 H1 s1 r1 rp1 p1 => tE_at e1 e2 r1 p1 fun u dy env2 st2 F2 c2 H2 s2 r2 rp2 p2 => by
    split at p2
    · rename_i i j
      cases rp1; cases rp2
      refine ⟨_, _, rfl, rfl, _, rfl, ?_⟩
      cases hp : p i j with
      | true =>
        rw [hp, if_pos rfl] at p2
        rw [if_pos rfl]
        exact tE_at e1 e2 r2 p2 fun w dz env3 st3 F3 c3 H3 s3 r3 rp3 p3 => by
          split at p3
          · cases rp3; exact ⟨_, _, rfl, rfl, Post.here r3 p3 _ (.bl _)⟩
          · exact p3.elim
      | false =>
        rw [hp, if_neg Bool.false_ne_true] at p2
        rw [if_neg Bool.false_ne_true]
        exact Post.here r2 p2 _ (.bl _)
    · exact p2.elim
theorem ve_chain {op op' : CmpOp} {p q : Int → Int → Bool} (ho : OpR X (compareOp op) (rI0 fun i j => .bl (p i j))) (ho' : OpR X (compareOp op') (rI0 fun i j => .bl (q i j))) (ha : VE X W e fa) (hb : VE X W a fb) (hc : VE X W d fc)
    (hm : lastMarks [op, op'] [a, d] = false := by with_unfolding_all rfl) : VE X W (.Compare e [op, op'] [a, d] pos) (eChain p q fa fb fc) := PEof (pe_chain ho ho' ha hb hc hm) chain_of
theorem vt_chain {op op' : CmpOp} {p q : Int → Int → Bool} (ho : OpR X (compareOp op) (rI0 fun i j => .bl (p i j))) (ho' : OpR X (compareOp op') (rI0 fun i j => .bl (q i j))) (ha : VE X W e fa) (hb : VE X W a fb) (hc : VE X W d fc)
    (hm : lastMarks [op, op'] [a, d] = false := by with_unfolding_all rfl) : VT X W (.Compare e [op, op'] [a, d] pos) (eT (eChain p q fa fb fc)) := PTof (pt_chain ho ho' ha hb hc hm) fun σ H Q h => chain_of σ H _ (tTest_of σ H Q h)
@[reducible] def VW (X : Cx) (W : WX) (e : Expr) (f : M Bool) : Prop := PW X e (tT X W f)
def bAnd (ta tb : M Bool) : M Bool := fun env st => (ta env st).bind fun t env st => if t then tb env st else .ok false env st
def bOr (ta tb : M Bool) : M Bool := fun env st => (ta env st).bind fun t env st => if t then .ok true env st else tb env st
def bNot (ta : M Bool) : M Bool := fun env st => (ta env st).bind fun t env st => .ok (!t) env st
theorem vw_and1 (h : VT X W e ta) : VW X W (.BoolOp .And [e] pos) ta := pw_and1 h
theorem vw_or1 (h : VT X W e ta) : VW X W (.BoolOp .Or [e] pos) ta := pw_or1 h
theorem vw_and (h : VT X W e ta) (h2 : VW X W (.BoolOp .And (a :: rest) pos) tb) : VW X W (.BoolOp .And (e :: a :: rest) pos) (bAnd ta tb) := PWof (pw_and h h2) fun σ H Q ⟨b, F, c, env, st, e1, e2, r0, h⟩ =>
  tT_at e1 e2 r0 h fun t env1 st1 F1 c1 H1 s1 r1 p1 => by
    cases t with
    | true => rw [if_pos rfl] at p1 ⊢; exact ⟨b, F1, c1, env1, st1, e1, e2, r1, p1⟩
    | false => rw [if_neg Bool.false_ne_true] at p1 ⊢; exact Post.here r1 p1
theorem vw_or (h : VT X W e ta) (h2 : VW X W (.BoolOp .Or (a :: rest) pos) tb) : VW X W (.BoolOp .Or (e :: a :: rest) pos) (bOr ta tb) := PWof (pw_or h h2) fun σ H Q ⟨b, F, c, env, st, e1, e2, r0, h⟩ =>
  tT_at e1 e2 r0 h fun t env1 st1 F1 c1 H1 s1 r1 p1 => by
    cases t with
    | false => rw [if_neg Bool.false_ne_true] at p1 ⊢; exact ⟨b, F1, c1, env1, st1, e1, e2, r1, p1⟩
    | true => rw [if_pos rfl] at p1 ⊢; exact Post.here r1 p1
theorem vt_not (h : VT X W e ta) : VT X W (.UnaryOp .Not e pos) (bNot ta) := PTof (pt_not h) fun σ H Q ⟨b, F, c, env, st, e1, e2, r0, h⟩ => tT_at e1 e2 r0 h fun t env1 st1 F1 c1 H1 s1 r1 p1 => Post.here r1 p1
/-! .. as values -/
def eAnd (fa fb : M D) : M D := fun env st => (fa env st).bind fun x env st => match x with
  | .bl true => fb env st
  | .bl false => .ok (.bl false) env st
  | _ => .bad
def eOr (fa fb : M D) : M D := fun env st => (fa env st).bind fun x env st => match x with
  | .bl true => .ok (.bl true) env st
  | .bl false => fb env st
  | _ => .bad
def eNot (fa : M D) : M D := fun env st => (fa env st).bind fun x env st => match x with
  | .bl t => .ok (.bl (!t)) env st
  | _ => .bad
theorem ve_one {op : BoolOp} (h : VE X W e fa) : VE X W (.BoolOp op [e] pos) fa := pe_one h
theorem ve_and (h : VE X W e fa) (h2 : VE X W (.BoolOp .And (a :: rest) pos) fb) : VE X W (.BoolOp .And (e :: a :: rest) pos) (eAnd fa fb) := PEof (pe_and h h2) fun σ H Q ⟨b, F, c, env, st, e1, e2, r0, h⟩ =>
  tE_at e1 e2 r0 h fun v dx env1 st1 F1 c1 H1 s1 r1 rp1 p1 => by
    split at p1
    · cases rp1; exact ⟨true, rfl, by rw [if_pos rfl]; exact ⟨b, F1, c1, env1, st1, e1, e2, r1, p1⟩⟩
    · cases rp1; exact ⟨false, rfl, by rw [if_neg Bool.false_ne_true]; exact Post.here r1 p1 _ (.bl _)⟩
    · exact p1.elim
theorem ve_or (h : VE X W e fa) (h2 : VE X W (.BoolOp .Or (a :: rest) pos) fb) : VE X W (.BoolOp .Or (e :: a :: rest) pos) (eOr fa fb) := PEof (pe_or h h2) fun σ H Q ⟨b, F, c, env, st, e1, e2, r0, h⟩ =>
  tE_at e1 e2 r0 h fun v dx env1 st1 F1 c1 H1 s1 r1 rp1 p1 => by
    split at p1
    · cases rp1; exact ⟨true, rfl, by rw [if_pos rfl]; exact Post.here r1 p1 _ (.bl _)⟩
    · cases rp1; exact ⟨false, rfl, by rw [if_neg Bool.false_ne_true]; exact ⟨b, F1, c1, env1, st1, e1, e2, r1, p1⟩⟩
    · exact p1.elim
theorem ve_not (h : VE X W e fa) : VE X W (.UnaryOp .Not e pos) (eNot fa) := PEof (pe_not h) fun σ H Q ⟨b, F, c, env, st, e1, e2, r0, h⟩ =>
  tE_at e1 e2 r0 h fun v dx env1 st1 F1 c1 H1 s1 r1 rp1 p1 => by
    split at p1
    · cases rp1; exact ⟨_, rfl, Post.here r1 p1 _ (.bl _)⟩
    · exact p1.elim
def eIf (t : M Bool) (fa fb : M D) : M D := fun env st => (t env st).bind fun t env st => if t then fa env st else fb env st
theorem ve_if (h : VT X W d tc) (ha : VE X W e fa) (hb : VE X W a fb) : VE X W (.IfExp d e a pos) (eIf tc fa fb) := PEof (pe_ifExp h ha hb) fun σ H Q ⟨b, F, c, env, st, e1, e2, r0, h⟩ =>
  tT_at e1 e2 r0 h fun t env1 st1 F1 c1 H1 s1 r1 p1 => by
    cases t with
    | true => rw [if_pos rfl] at p1 ⊢; exact ⟨b, F1, c1, env1, st1, e1, e2, r1, p1⟩
    | false => rw [if_neg Bool.false_ne_true] at p1 ⊢; exact ⟨b, F1, c1, env1, st1, e1, e2, r1, p1⟩

/-! ### arguments, displays -/
variable {es : List Expr} {fs : M (List D)}
def eNil : M (List D) := fun env st => .ok [] env st
def eCons (fa : M D) (fs : M (List D)) : M (List D) := fun env st => (fa env st).bind fun d env st => (fs env st).bind fun ds env st => .ok (d :: ds) env st
def itemsOf : D → Option (List D)
  | .lst xs => some xs
  | .tup xs => some xs
  | _ => none
def eStar (fa : M D) (fs : M (List D)) : M (List D) := fun env st => (fa env st).bind fun d env st => match itemsOf d with
  | some xs => (fs env st).bind fun ds env st => .ok (xs ++ ds) env st
  | none => .bad
theorem va_nil : VA X W [] eNil := PAof pa_nil fun σ H Q ⟨b, F, c, env, st, e1, e2, r0, h⟩ => Post.here r0 h _ .nil
theorem va_cons (h : VE X W e fa) (h2 : VA X W es fs) (hs : starEach (e :: es) X.env = (false, eval e X.env) :: starEach es X.env := by rfl) : VA X W (e :: es) (eCons fa fs) := PAof (pa_cons h h2 hs) fun σ H Q ⟨b, F, c, env, st, e1, e2, r0, h⟩ =>
  tE_at e1 e2 r0 h fun v dx env1 st1 F1 c1 H1 s1 r1 rp1 p1 => tA_at e1 e2 r1 p1 fun vs ds env2 st2 F2 c2 H2 s2 r2 rp2 p2 => Post.here r2 p2 _ (.cons (rp1.stp s2) rp2)
theorem Rp.items {K : PySem.W.Frag} {mg : Str → Option Value} {F : Addr → Prop} {c : List Addr} {H : Hp} {v : V} {d : D} {ds : List D} (h : Rp K mg F c H v d) (e : itemsOf d = some ds) : ∃ a vs, v = .ref a ∧ (SqT K H a vs ∨ SqL K H a vs) ∧ Rps K mg F c H vs ds := by
  cases h with
  | lst f h r => cases e; exact ⟨_, _, rfl, .inr (SqL.of h), r⟩
  | tup h r => cases e; exact ⟨_, _, rfl, .inl h.sq, r⟩
  | _ => cases e
theorem va_star {p : Pos} (h : VE X W e fa) (h2 : VA X W es fs) (hs : starEach (.Starred e p :: es) X.env = (true, eval e X.env) :: starEach es X.env := by rfl) : VA X W (.Starred e p :: es) (eStar fa fs) := PAof (StX.pa_star h h2 hs) fun σ H Q ⟨b, F, c, env, st, e1, e2, r0, h⟩ =>
  tE_at e1 e2 r0 h fun v dx env1 st1 F1 c1 H1 s1 r1 rp1 p1 => by
    split at p1
    · rename_i ds ed
      obtain ⟨a, vs, rfl, hq, rps⟩ := rp1.items ed
      rw [e1] at hq
      exact ⟨a, vs, rfl, hq, tA_at e1 e2 r1 p1 fun ws es env2 st2 F2 c2 H2 s2 r2 rp2 p2 => Post.here r2 p2 _ ((rps.stp s2).append rp2)⟩
    · exact p1.elim
def eTup (fs : M (List D)) : M D := fun env st => (fs env st).bind fun ds env st => if ds.length ≤ 16777216 then .ok (.tup ds) env st else .bad
def eLst (fs : M (List D)) : M D := fun env st => (fs env st).bind fun ds env st => if ds.length ≤ 16777216 then .ok (.lst ds) env st else .bad
theorem ve_tup {x1 : Nat} (h : VA X W es fs) : VE X W (.Tuple es x1 pos) (eTup fs) := PEof (pe_tup h) fun σ H Q ⟨b, F, c, env, st, e1, e2, r0, h⟩ =>
  tA_at e1 e2 r0 h fun vs ds env1 st1 F1 c1 H1 s1 r1 rp1 p1 => by
    split at p1
    · rename_i hl
      refine ⟨by rw [rp1.length, sizeLine_eq]; exact hl, fun p hp => ?_⟩
      obtain ⟨s2, r2⟩ := r1.newF hp (.tup vs)
      exact p1 _ _ _ s2 r2 _ (.tup (.inl ⟨.inr rfl, .inl upd_same⟩) (rp1.stp s2))
    · exact p1.elim
theorem vf_lst (h : VA X W es fs) : VF X W (.List es pos) (eLst fs) := PEof (pe_lst h) fun σ H Q ⟨b, F, c, env, st, e1, e2, r0, h⟩ =>
  tA_at e1 e2 r0 h fun vs ds env1 st1 F1 c1 H1 s1 r1 rp1 p1 => by
    split at p1
    · rename_i hl
      refine ⟨by rw [rp1.length, sizeLine_eq]; exact hl, fun p hp => ?_⟩
      obtain ⟨s2, r2⟩ := r1.newO hp (.lst vs)
      exact p1 _ _ _ s2 r2 p (r1.nF hp) (r1.nC hp) (r1.H0none hp) (r1.nO hp) ⟨vs, upd_same, rp1.stp s2⟩
    · exact p1.elim

/-! ### operators and calls by values that give something new -/
/-- a rule that hands on a fresh thing -/
def OpOkF (X : Cx) (W : WX) (r : R2) (g : D → D → Option D) : Prop := ∀ (F : Addr → Prop) (c : List Addr) (H : Hp) (x y : V) (dx dy d : D) (Q : VK), Rp X.K X.mg F c H x dx → Rp X.K X.mg F c H y dy → g dx dy = some d →
  (∀ p o, H p = none → (∀ F' : Addr → Prop, Stp F c H F' c (upd H p o) → OwnAt X.K X.mg F' c (upd H p o) p d) → Q (.ref p) (upd H p o)) → r x y H Q
theorem fresh_of {b : Bs} {F : Addr → Prop} {c : List Addr} {env : EnvD} {st : Sto} {σ : L2.St} {H : Hp} {d : D} {Q : VK} (r1 : Rel b F c env st σ H)
    (p1 : Post b W F c σ H (fun d env _ F c H' => ∀ a, ¬ F a → a ∉ c → b.H0 a = none → (∀ i, ¬ OwnA env σ i a) → OwnAt b.K b.mg F c H' a d → Q (.ref a) H') (.ok d env st))
    (p : Addr) (o : HO) (hp : H p = none) (ho : ∀ F' : Addr → Prop, Stp F c H F' c (upd H p o) → OwnAt b.K b.mg F' c (upd H p o) p d) : Q (.ref p) (upd H p o) := by
  obtain ⟨s2, r2⟩ := r1.newO hp o
  exact p1 _ _ _ s2 r2 p (r1.nF hp) (r1.nC hp) (r1.H0none hp) (r1.nO hp) (ho _ s2)
theorem vf_op {op : Operator} {r : R2} {g : D → D → Option D} (ho : OpR X (binaryOp op) r) (hg : OpOkF X W r g) (ha : VE X W e fa) (hb : VE X W a fb) : VF X W (.BinOp e op a pos) (eBin (sc2 g) fa fb) := PEof (pe_op ho ha hb) fun σ H Q ⟨b, F, c, env, st, e1, e2, r0, h⟩ =>
  tE_at e1 e2 r0 h fun v dx env1 st1 F1 c1 H1 s1 r1 rp1 p1 => tE_at e1 e2 r1 p1 fun u dy env2 st2 F2 c2 H2 s2 r2 rp2 p2 => by
    unfold sc2 ret at p2
    split at p2
    · rename_i d ed
      rw [e1, e2] at rp1 rp2
      exact hg F2 c2 H2 v u dx dy d Q (rp1.stp s2) rp2 ed fun p o hp ho => fresh_of r2 p2 p o hp (by rw [e1, e2]; exact ho)
    · exact p2.elim
def catL : D → D → Option D
  | .lst xs, .lst ys => if xs.length + ys.length ≤ 16777216 then some (.lst (xs ++ ys)) else none
  | _, _ => none
theorem ok_cat : OpOkF X W rCat catL := fun F c H x y dx dy d Q hx hy e q => by
  unfold catL at e
  split at e
  · split at e
    · rename_i hl
      cases e
      cases hx with
      | lst f h r =>
        cases hy with
        | lst f' h' r' =>
          refine ⟨_, _, _, _, rfl, rfl, h, h', by rw [r.length, r'.length, sizeLine_eq]; exact hl, fun p hp => q p _ hp fun F' s => ⟨_, upd_same, (r.stp s).append (r'.stp s)⟩⟩
    · cases e
  · cases e
theorem vf_cat (ha : VE X W e fa) (hb : VE X W a fb) : VF X W (.BinOp e .Add a pos) (eBin (sc2 catL) fa fb) := vf_op op_cat ok_cat ha hb

/-! ### subscripts -/
def ixD : D → D → Option D
  | .lst xs, .int i => atI xs i
  | .tup xs, .int i => atI xs i
  | .scr xs, .int i => (atI xs i).map .int
  | .str z, .int i => if z.length ≤ 16777216 then (atI z.cps.toList i).map fun c => .str ⟨#[c]⟩ else none
  | _, _ => none
theorem ixN_lt {n : Nat} {i : Int} {j : Nat} (h : ixN n i = some j) : j < n := (ixN_seq h).2.1
theorem Rps.atI {K : PySem.W.Frag} {mg : Str → Option Value} {F : Addr → Prop} {c : List Addr} {H : Hp} {vs : List V} {ds : List D} {i : Int} {d : D} (r : Rps K mg F c H vs ds) (e : L2.atI ds i = some d) : ∃ v, L2.atI vs i = some v ∧ Rp K mg F c H v d := by
  unfold L2.atI at e ⊢
  rw [r.length]
  cases h : ixN ds.length i with
  | none => rw [h] at e; cases e
  | some j => rw [h] at e; exact r.get' e
theorem atI_map {α β : Type} (f : α → β) (xs : List α) (i : Int) : L2.atI (xs.map f) i = (L2.atI xs i).map f := by
  unfold L2.atI
  rw [List.length_map]
  cases ixN xs.length i with
  | none => rfl
  | some j => simp
theorem ok_ix : OpOk X W (rIx X.K) (sc2 ixD) := opOk_sc fun F c H x y dx dy d Q hx hy e q => by
  unfold ixD at e
  split at e
  · cases hy
    cases hx with
    | lst f h r => obtain ⟨v, hv, rp⟩ := r.atI e; exact .inl ⟨_, _, _, v, rfl, rfl, SqL.of h, hv, q v rp⟩
  · cases hy
    cases hx with
    | tup h r => obtain ⟨v, hv, rp⟩ := r.atI e; exact .inr (.inl ⟨_, _, _, v, rfl, rfl, h.sq, hv, q v rp⟩)
  · rename_i xs i
    cases hy
    cases hx with
    | scr h =>
      cases hz : L2.atI xs i with
      | none => rw [hz] at e; cases e
      | some z =>
        rw [hz] at e; cases e
        exact .inl ⟨_, _, _, .int z, rfl, rfl, h.sq, by rw [atI_map, hz]; rfl, q _ (.int z)⟩
  · rename_i z i
    cases hy; cases hx
    split at e
    · rename_i hl
      cases hz : L2.atI z.cps.toList i with
      | none => rw [hz] at e; cases e
      | some ch =>
        rw [hz] at e; cases e
        exact .inr (.inr ⟨_, _, _, rfl, rfl, by rw [sizeLine_eq]; exact hl, hz, q _ (.str _)⟩)
    · cases e
  · cases e
theorem ve_ix (ha : VE X W e fa) (hb : VE X W a fb) (hs : PlainIx a := by exact fun _ _ => rfl) : VE X W (.Subscript e a pos) (eBin (sc2 ixD) fa fb) := PEof (pe_ix ix_seq ha hb hs) (tOp_of ok_ix)
end
end VE

namespace VE
open PySem PySem.Spec PyProof.Rows L2
/-- how a statement ends: on; back with a value; back with a thing that is new; break; continue -/
inductive Fl where
  | nx
  | rt (d : D)
  | rf (d : D)
  | bk
  | ct
section
variable {X : Cx} {W : WX} {b : Bs} {F F' : Addr → Prop} {c c' : List Addr} {env : EnvD} {st : Sto} {σ : L2.St} {H H' : Hp} {D₀ : Ends}
def FlOk (b : Bs) (D₀ : Ends) (F : Addr → Prop) (c : List Addr) (σ : L2.St) (H : Hp) : Fl → Prop
  | .nx => D₀.nx σ H
  | .bk => D₀.bk σ H
  | .ct => D₀.ct σ H
  | .rt d => ∀ v, Rp b.K b.mg F c H v d → D₀.rt v H
  | .rf d => ∀ a, ¬ F a → a ∉ c → b.H0 a = none → OwnAt b.K b.mg F c H a d → D₀.rt (.ref a) H
def PostS (b : Bs) (W : WX) (F : Addr → Prop) (c : List Addr) (H : Hp) (P : Fl → EnvD → Sto → (Addr → Prop) → List Addr → L2.St → Hp → Prop) : R Fl → Prop
  | .ok fl env st => ∀ σ' F' c' H', Stp F c H F' c' H' → Rel b F' c' env st σ' H' → P fl env st F' c' σ' H'
  | .ex x env st => ∀ σ' F' c' H' cls d, Stp F c H F' c' H' → Rel b F' c' env st σ' H' → RpX b.K b.mg F' c' H' cls d x → W cls d σ' H'
  | .bad => False
theorem PostS.mono {P P' : Fl → EnvD → Sto → (Addr → Prop) → List Addr → L2.St → Hp → Prop} {r : R Fl} (h : PostS b W F c H P r)
    (k : ∀ x env st F' c' σ' H', Stp F c H F' c' H' → Rel b F' c' env st σ' H' → P x env st F' c' σ' H' → P' x env st F' c' σ' H') : PostS b W F c H P' r := by
  cases r with
  | ok x env st => exact fun σ' F' c' H' s r => k _ _ _ _ _ _ _ s r (h σ' F' c' H' s r)
  | ex x env st => exact h
  | bad => exact h
theorem PostS.stp {P : Fl → EnvD → Sto → (Addr → Prop) → List Addr → L2.St → Hp → Prop} {r : R Fl} (s : Stp F c H F' c' H') (h : PostS b W F c H P r) : PostS b W F' c' H' P r := by
  cases r with
  | ok x env st => exact fun σ' F2 c2 H2 t r => h σ' F2 c2 H2 (s.trans t) r
  | ex x env st => exact fun σ' F2 c2 H2 cls d t r => h σ' F2 c2 H2 cls d (s.trans t) r
  | bad => exact h
/-- a statement behind a run that leaves the slots -/
theorem PostS.of {α : Type} {P : Fl → EnvD → Sto → (Addr → Prop) → List Addr → L2.St → Hp → Prop} {r : R α} {k : α → M Fl} (h : PostS b W F c H P (r.bind k)) :
    Post b W F c σ H (fun x env st F1 c1 H1 => PostS b W F1 c1 H1 P (k x env st)) r := by
  cases r with
  | ok x env st => exact fun F' c' H' s r => PostS.stp s h
  | ex x env st => exact fun F' c' H' cls d s r q => h σ F' c' H' cls d s r q
  | bad => exact h
theorem PostS.bind {P : Fl → EnvD → Sto → (Addr → Prop) → List Addr → L2.St → Hp → Prop} {r : R Fl} {k : Fl → M Fl} (h : PostS b W F c H P (r.bind k)) :
    PostS b W F c H (fun x env st F1 c1 σ1 H1 => PostS b W F1 c1 H1 P (k x env st)) r := by
  cases r with
  | ok x env st => exact fun σ' F' c' H' s r => PostS.stp s h
  | ex x env st => exact h
  | bad => exact h
theorem PostS.here {P : Fl → EnvD → Sto → (Addr → Prop) → List Addr → L2.St → Hp → Prop} {x : Fl} (r : Rel b F c env st σ H) (h : PostS b W F c H P (.ok x env st)) : P x env st F c σ H := h σ F c H .refl r
def tS (X : Cx) (W : WX) (g : M Fl) : TS := fun D₀ σ H => ∃ b F c env st, b.K = X.K ∧ b.mg = X.mg ∧ Rel b F c env st σ H ∧ PostS b W F c H (fun fl _ _ F c σ H => FlOk b D₀ F c σ H fl) (g env st)
@[reducible] def VS (X : Cx) (W : WX) (s : Stmt) (g : M Fl) : Prop := PS X s (tS X W g)
@[reducible] def VSs (X : Cx) (W : WX) (s : List Stmt) (g : M Fl) : Prop := PSs X s (tS X W g)
section
variable {β : Type} {P : Fl → EnvD → Sto → (Addr → Prop) → List Addr → L2.St → Hp → Prop}
theorem sE_at {f : M D} {k : D → M Fl} {Q : VK} (e1 : b.K = X.K) (e2 : b.mg = X.mg) (r : Rel b F c env st σ H) (p : PostS b W F c H P ((f env st).bind k))
    (hq : ∀ v d env' st' F' c' H', Stp F c H F' c' H' → Rel b F' c' env' st' σ H' → Rp b.K b.mg F' c' H' v d → PostS b W F' c' H' P (k d env' st') → Q v H') : tE X W f σ H Q :=
  ⟨b, F, c, env, st, e1, e2, r, (PostS.of p).mono fun d env' st' F' c' H' s r' q v rp => hq v d env' st' F' c' H' s r' rp q⟩
theorem sT_at {f : M Bool} {k : Bool → M Fl} {Q : Bool → Hp → Prop} (e1 : b.K = X.K) (e2 : b.mg = X.mg) (r : Rel b F c env st σ H) (p : PostS b W F c H P ((f env st).bind k))
    (hq : ∀ t env' st' F' c' H', Stp F c H F' c' H' → Rel b F' c' env' st' σ H' → PostS b W F' c' H' P (k t env' st') → Q t H') : tT X W f σ H Q :=
  ⟨b, F, c, env, st, e1, e2, r, (PostS.of p).mono fun t env' st' F' c' H' s r' q => hq t env' st' F' c' H' s r' q⟩
theorem sA_at {f : M (List D)} {k : List D → M Fl} {Q : List V → Hp → Prop} (e1 : b.K = X.K) (e2 : b.mg = X.mg) (r : Rel b F c env st σ H) (p : PostS b W F c H P ((f env st).bind k))
    (hq : ∀ vs ds env' st' F' c' H', Stp F c H F' c' H' → Rel b F' c' env' st' σ H' → Rps b.K b.mg F' c' H' vs ds → PostS b W F' c' H' P (k ds env' st') → Q vs H') : tA X W f σ H Q :=
  ⟨b, F, c, env, st, e1, e2, r, (PostS.of p).mono fun ds env' st' F' c' H' s r' q v rp => hq v ds env' st' F' c' H' s r' rp q⟩
theorem sF_at {f : M D} {k : D → M Fl} {Q : VK} (e1 : b.K = X.K) (e2 : b.mg = X.mg) (r : Rel b F c env st σ H) (p : PostS b W F c H P ((f env st).bind k))
    (hq : ∀ a d env' st' F' c' H', Stp F c H F' c' H' → Rel b F' c' env' st' σ H' → ¬ F' a → a ∉ c' → b.H0 a = none → (∀ i, ¬ OwnA env' σ i a) → OwnAt b.K b.mg F' c' H' a d → PostS b W F' c' H' P (k d env' st') → Q (.ref a) H') : tF X W f σ H Q :=
  ⟨b, F, c, env, st, e1, e2, r, (PostS.of p).mono fun d env' st' F' c' H' s r' q a h1 h2 h3 h4 h5 => hq a d env' st' F' c' H' s r' h1 h2 h3 h4 h5 q⟩
end
end
section
variable {X : Cx} {W : WX} {e a : Expr} {s : Stmt} {ss : List Stmt} {pos : Pos} {fa fb : M D} {ta : M Bool} {g g' : M Fl}
/-! ### blocks, small statements -/
def sNx : M Fl := fun env st => .ok .nx env st
def sBk : M Fl := fun env st => .ok .bk env st
def sCt : M Fl := fun env st => .ok .ct env st
def sSeq (g g' : M Fl) : M Fl := fun env st => (g env st).bind fun fl env st => match fl with
  | .nx => g' env st
  | fl => .ok fl env st
theorem vss_nil : VSs X W [] sNx := PSsof pss_nil fun D₀ σ H ⟨b, F, c, env, st, e1, e2, r, p⟩ => PostS.here r p
theorem vss_cons (h : VS X W s g) (h2 : VSs X W ss g') : VSs X W (s :: ss) (sSeq g g') := PSsof (pss_cons h h2) fun D₀ σ H ⟨b, F, c, env, st, e1, e2, r, p⟩ =>
  ⟨b, F, c, env, st, e1, e2, r, (PostS.bind p).mono fun fl env' st' F' c' σ' H' s' r' q => by
    cases fl with
    | nx => exact ⟨b, F', c', env', st', e1, e2, r', q⟩
    | _ => exact PostS.here r' q⟩
theorem vss_one (h : VS X W s g) : VSs X W [s] g := pss_one h
theorem vs_pass : VS X W (.Pass pos) sNx := PSof ps_pass fun D₀ σ H ⟨b, F, c, env, st, e1, e2, r, p⟩ => PostS.here r p
theorem vs_break : VS X W (.Break pos) sBk := PSof ps_break fun D₀ σ H ⟨b, F, c, env, st, e1, e2, r, p⟩ => PostS.here r p
theorem vs_cont : VS X W (.Continue pos) sCt := PSof ps_continue fun D₀ σ H ⟨b, F, c, env, st, e1, e2, r, p⟩ => PostS.here r p
theorem vs_doc {x j pos pos'} : VS X W (.Expr (.Constant (.str x) j pos) pos') sNx := PSof ps_doc fun D₀ σ H ⟨b, F, c, env, st, e1, e2, r, p⟩ => PostS.here r p
def sExpr (fa : M D) : M Fl := fun env st => (fa env st).bind fun _ env st => .ok .nx env st
theorem vs_expr (h : VE X W e fa) (hs : swapsWith e none pos.line X.env = pure false := by rfl) : VS X W (.Expr e pos) (sExpr fa) := PSof (ps_expr h hs) fun D₀ σ H ⟨b, F, c, env, st, e1, e2, r, p⟩ =>
  sE_at e1 e2 r p fun v d env1 st1 F1 c1 H1 s1 r1 rp1 p1 => PostS.here r1 p1
def sRet (fa : M D) : M Fl := fun env st => (fa env st).bind fun d env st => .ok (.rt d) env st
def sRetF (fa : M D) : M Fl := fun env st => (fa env st).bind fun d env st => .ok (.rf d) env st
theorem vs_ret (h : VE X W e fa) : VS X W (.Return (some e) pos) (sRet fa) := PSof (ps_ret h) fun D₀ σ H ⟨b, F, c, env, st, e1, e2, r, p⟩ =>
  sE_at e1 e2 r p fun v d env1 st1 F1 c1 H1 s1 r1 rp1 p1 => PostS.here r1 p1 v rp1
theorem vs_retF (h : VF X W e fa) : VS X W (.Return (some e) pos) (sRetF fa) := PSof (ps_ret h) fun D₀ σ H ⟨b, F, c, env, st, e1, e2, r, p⟩ =>
  sF_at e1 e2 r p fun a d env1 st1 F1 c1 H1 s1 r1 h1 h2 h3 h4 h5 p1 => PostS.here r1 p1 a h1 h2 h3 h5
def sRetN : M Fl := fun env st => .ok (.rt .non) env st
theorem vs_retN : VS X W (.Return none pos) sRetN := PSof ps_retN fun D₀ σ H ⟨b, F, c, env, st, e1, e2, r, p⟩ => PostS.here r p _ .non
/-- return x, where x alone holds a list: it is handed on as new -/
def sRetO (i : Nat) : M Fl := fun env st => match env[i]? with
  | some (.ow d) => .ok (.rf d) (env.set i .no) st
  | _ => .bad
theorem vs_retO (i : Nat) {x : Str} {pos' : Pos} (hN : X.N[i]? = some x := by rfl) (hv : Vis X.env.scope x := by first | exact Or.inl rfl | exact Or.inr (Or.inl rfl) | exact Or.inr (Or.inr rfl)) (hd : (x == ("__debug__" : Str)) = false := by decide)
    (hcd : (x == ("__classdict__" : Str)) = false := by decide) : VS X W (.Return (some (.Name x pos')) pos) (sRetO i) := PSof (ps_ret (pe_var hN hv hd hcd)) fun D₀ σ H ⟨b, F, c, env, st, e1, e2, r, p⟩ => by
  unfold sRetO at p
  split at p
  · rename_i d e
    obtain ⟨a, ea, h1, h2, h3, h4⟩ := r.sl i _ e
    exact ⟨_, ea, PostS.here (r.forget i) p a h1 h2 h3 h4⟩
  · exact p.elim
def sIf (t : M Bool) (g g' : M Fl) : M Fl := fun env st => (t env st).bind fun t env st => if t then g env st else g' env st
theorem vs_if {ss' : List Stmt} (h : VT X W e ta) (h1 : VSs X W ss g) (h2 : VSs X W ss' g') : VS X W (.If e ss ss' pos) (sIf ta g g') := PSof (ps_if h h1 h2) fun D₀ σ H ⟨b, F, c, env, st, e1, e2, r, p⟩ =>
  sT_at e1 e2 r p fun t env1 st1 F1 c1 H1 s1 r1 p1 => by
    cases t with
    | true => rw [if_pos rfl] at p1 ⊢; exact ⟨b, F1, c1, env1, st1, e1, e2, r1, p1⟩
    | false => rw [if_neg Bool.false_ne_true] at p1 ⊢; exact ⟨b, F1, c1, env1, st1, e1, e2, r1, p1⟩
/-! ### stores to names -/
def sSet (i : Nat) (fa : M D) : M Fl := fun env st => (fa env st).bind fun d env st => .ok .nx (env.set i (.va d)) st
def sSetF (i : Nat) (fa : M D) : M Fl := fun env st => (fa env st).bind fun d env st => .ok .nx (env.set i (.ow d)) st
theorem vs_set {i : Nat} {x : Str} {pos' : Pos} (hN : X.N.Nodup) (h : VE X W e fa) (hi : X.N[i]? = some x := by rfl) (hx : Loc X.env.scope x := by first | exact Or.inl rfl | exact Or.inr rfl) (hs : swapsWith e (some (.Name x pos')) pos.line X.env = pure false := by rfl)
    (hf : X.fn x = true ∨ X.env.scope.names.lookup x = some .local := by first | exact .inl rfl | exact .inr rfl | assumption) : VS X W (.Assign [.Name x pos'] e pos) (sSet i fa) := PSof (ps_set hN hi hx h hs hf) fun D₀ σ H ⟨b, F, c, env, st, e1, e2, r, p⟩ =>
  sE_at e1 e2 r p fun v d env1 st1 F1 c1 H1 s1 r1 rp1 p1 => PostS.here (r1.put rp1) p1
theorem vs_setF {i : Nat} {x : Str} {pos' : Pos} (hN : X.N.Nodup) (h : VF X W e fa) (hi : X.N[i]? = some x := by rfl) (hx : Loc X.env.scope x := by first | exact Or.inl rfl | exact Or.inr rfl) (hs : swapsWith e (some (.Name x pos')) pos.line X.env = pure false := by rfl)
    (hf : X.fn x = true ∨ X.env.scope.names.lookup x = some .local := by first | exact .inl rfl | exact .inr rfl | assumption) : VS X W (.Assign [.Name x pos'] e pos) (sSetF i fa) := PSof (ps_set hN hi hx h hs hf) fun D₀ σ H ⟨b, F, c, env, st, e1, e2, r, p⟩ =>
  sF_at e1 e2 r p fun a d env1 st1 F1 c1 H1 s1 r1 h1 h2 h3 h4 h5 p1 => PostS.here (r1.take h1 h2 h3 h4 h5) p1
/-- targets: what a value is stored to -/
def GSem (X : Cx) (g : TG) (is : List Nat) (t : D → EnvD → Option EnvD) : Prop := ∀ (b : Bs) (F : Addr → Prop) (c : List Addr) (env : EnvD) (st : Sto) (σ : L2.St) (H : Hp) (v : V) (d : D) (env' : EnvD) (Q : L2.St → Hp → Prop), b.K = X.K → b.mg = X.mg → Rel b F c env st σ H → Rp b.K b.mg F c H v d → t d env = some env' →
  (∀ σ', Rel b F c env' st σ' H → σ'.length = σ.length → (∀ i, i ∉ is → σ'[i]? = σ[i]?) → Q σ' H) → g v σ H Q
def VG (X : Cx) (tg : Expr) (g : TG) (is : List Nat) (t : D → EnvD → Option EnvD) : Prop := PG X tg g ∧ GSem X g is t
def gN (i : Nat) : D → EnvD → Option EnvD := fun d env => some (env.set i (.va d))
theorem vg_name {i : Nat} {x : Str} (hN : X.N.Nodup) (hi : X.N[i]? = some x := by rfl) (hx : Loc X.env.scope x := by first | exact Or.inl rfl | exact Or.inr rfl) (hf : X.fn x = true ∨ X.env.scope.names.lookup x = some .local := by first | exact .inl rfl | exact .inr rfl | assumption) : VG X (.Name x pos) (gName i) [i] (gN i) :=
  ⟨pg_name hN hi hx hf, fun b F c env st σ H v d env' Q _ _ r rp e q => by cases e; exact q _ (r.put rp) (List.length_set ..) fun j hj => List.getElem?_set_ne (fun e => hj (by rw [e]; exact List.mem_singleton.mpr rfl))⟩
def VGs (X : Cx) (ts : List Expr) (g : TGs) (is : List Nat) (t : List D → EnvD → Option EnvD) : Prop := PGs X ts g ∧ ∀ (b : Bs) (F : Addr → Prop) (c : List Addr) (env : EnvD) (st : Sto) (σ : L2.St) (H : Hp) (vs : List V) (ds : List D) (env' : EnvD) (Q : L2.St → Hp → Prop), b.K = X.K → b.mg = X.mg → Rel b F c env st σ H → Rps b.K b.mg F c H vs ds → t ds env = some env' →
  (∀ σ', Rel b F c env' st σ' H → σ'.length = σ.length → (∀ i, i ∉ is → σ'[i]? = σ[i]?) → Q σ' H) → g vs σ H Q
def gsN : List D → EnvD → Option EnvD
  | [], env => some env
  | _, _ => none
def gsC (t : D → EnvD → Option EnvD) (u : List D → EnvD → Option EnvD) : List D → EnvD → Option EnvD
  | d :: ds, env => (t d env).bind (u ds)
  | _, _ => none
theorem vgs_nil : VGs X [] gNil [] gsN := ⟨pgs_nil, fun b F c env st σ H vs ds env' Q _ _ r rp e q => by
  unfold gsN at e
  split at e
  · cases rp; cases e; exact ⟨rfl, q _ r rfl fun _ _ => rfl⟩
  · cases e⟩
theorem vgs_cons {es : List Expr} {t : D → EnvD → Option EnvD} {u : List D → EnvD → Option EnvD} {is js : List Nat} {g : TG} {g2 : TGs} (h : VG X e g is t) (h2 : VGs X es g2 js u) (hs : (assignEach (e :: es) X.env).map (·.2) = assign e X.env :: (assignEach es X.env).map (·.2) := by rfl) : VGs X (e :: es) (gCons g g2) (is ++ js) (gsC t u) := by
  obtain ⟨hg, kg⟩ := h
  obtain ⟨hg2, kg2⟩ := h2
  refine ⟨pgs_cons hg hg2 hs, fun b F c env st σ H vs ds env' Q e1 e2 r rp e q => ?_⟩
  cases rp with
  | nil => cases e
  | cons h hs' =>
    rename_i v vs d ds
    obtain ⟨env1, ea, eb⟩ := Option.bind_eq_some_iff.mp (show (t d env).bind (u ds) = some env' from e)
    exact ⟨_, _, rfl, kg b F c env st σ H _ d env1 _ e1 e2 r h ea fun σ' r' l1 k1 => kg2 b F c env1 st σ' H _ ds env' Q e1 e2 r' hs' eb fun σ2 r2 l2 k2 => q σ2 r2 (l2.trans l1) fun i hi => by
      simp only [List.mem_append, not_or] at hi
      rw [k2 i hi.2, k1 i hi.1]⟩
def gT (n : Nat) (t : List D → EnvD → Option EnvD) : D → EnvD → Option EnvD
  | .tup ds, env => if ds.length = n then t ds env else none
  | _, _ => none
theorem vg_tup {es : List Expr} {k n : Nat} {is : List Nat} {t : List D → EnvD → Option EnvD} {g : TGs} (hc : X.calm = true) (h : VGs X es g is t) (hn : (assignEach es X.env).length = n := by rfl) (hst : (assignEach es X.env).findIdx? (·.1) = none := by rfl) : VG X (.Tuple es k pos) (gTup X.K n g) is (gT n t) := by
  obtain ⟨hg, kg⟩ := h
  refine ⟨pg_tup hc hg hn hst, fun b F c env st σ H v d env' Q e1 e2 r rp e q => ?_⟩
  unfold gT at e
  split at e
  · split at e
    · rename_i hl
      cases rp with
      | tup h hs => exact ⟨_, _, rfl, e1 ▸ h.sq, by rw [hs.length]; exact hl, kg b F c env st σ H _ _ env' Q e1 e2 r hs e q⟩
    · cases e
  · cases e
def sAsg (t : D → EnvD → Option EnvD) (fa : M D) : M Fl := fun env st => (fa env st).bind fun d env st => match t d env with
  | some env => .ok .nx env st
  | none => .bad
theorem vs_asg {tg : Expr} {is : List Nat} {t : D → EnvD → Option EnvD} {gg : TG} (h : VE X W e fa) (hg : VG X tg gg is t) (hs : swapsWithSole [tg] e pos.line X.env = pure false := by rfl) (hw : swappedStores [tg] e X.env = pure none := by rfl)
    (h1 : (assignEach [tg] X.env).map (·.2) = [assign tg X.env] := by rfl) : VS X W (.Assign [tg] e pos) (sAsg t fa) := by
  obtain ⟨hg, kg⟩ := hg
  refine PSof (ps_asg h hg hs hw h1) fun D₀ σ H ⟨b, F, c, env, st, e1, e2, r, p⟩ => sE_at e1 e2 r p fun v d env1 st1 F1 c1 H1 s1 r1 rp1 p1 => ?_
  split at p1
  · rename_i env' e
    exact kg b F1 c1 env1 st1 σ H1 v d env' _ e1 e2 r1 rp1 e fun σ' r' _ _ => PostS.here (P := fun fl _ _ F c σ H => FlOk b D₀ F c σ H fl) r' p1
  · exact p1.elim
/-- a, b = x, y -/
def sPar (i j : Nat) (fs : M (List D)) : M Fl := fun env st => (fs env st).bind fun ds env st => match ds with
  | [d, d'] => .ok .nx ((env.set i (.va d)).set j (.va d')) st
  | _ => .bad
theorem vs_par {i j : Nat} {x y : Str} {fs : M (List D)} {px py pt : Pos} {kt k2 : Nat} {pt2 : Pos} (hc : X.calm = true) (hN : X.N.Nodup) (ha : VA X W [e, a] fs) (hi : X.N[i]? = some x := by rfl) (hj : X.N[j]? = some y := by rfl) (hij : i ≠ j := by decide)
    (hx : X.env.scope.names.lookup x = some .local := by rfl) (hy : X.env.scope.names.lookup y = some .local := by rfl)
    (hw : swappedStores [.Tuple [.Name x px, .Name y py] kt pt] (.Tuple [e, a] k2 pt2) X.env = pure (some [x, y]) := by rfl)
    (hs : swapsWithSole [.Tuple [.Name x px, .Name y py] kt pt] (.Tuple [e, a] k2 pt2) pos.line X.env = pure false := by rfl) :
    VS X W (.Assign [.Tuple [.Name x px, .Name y py] kt pt] (.Tuple [e, a] k2 pt2) pos) (sPar i j fs) := PSof (ps_par hc hN hi hj hij hx hy ha hw hs) fun D₀ σ H ⟨b, F, c, env, st, e1, e2, r, p⟩ =>
  sA_at e1 e2 r p fun vs ds env1 st1 F1 c1 H1 s1 r1 rp1 p1 => by
    split at p1
    · cases rp1 with
      | cons h t =>
        cases t with
        | cons h' t' =>
          cases t'
          exact ⟨_, _, rfl, PostS.here (P := fun fl _ _ F c σ H => FlOk b D₀ F c σ H fl) ((r1.put h).put h') p1⟩
    · exact p1.elim
/-- x op= e, ints -/
def sAug (i : Nat) (g : D → D → Option D) (fa : M D) : M Fl := fun env st => match env[i]? with
  | some (.va x) => (fa env st).bind fun y env st => match g x y with
    | some z => .ok .nx (env.set i (.va z)) st
    | none => .bad
  | _ => .bad
def AugOk (X : Cx) (W : WX) (ti : TIp) (g : D → D → Option D) : Prop := ∀ (F : Addr → Prop) (c : List Addr) (H : Hp) (x y : V) (dx dy d : D) (Q : VK), Rp X.K X.mg F c H x dx → Rp X.K X.mg F c H y dy → g dx dy = some d → (∀ v, Rp X.K X.mg F c H v d → Q v H) → ti x y H Q
theorem vs_aug {i : Nat} {x : Str} {op : Operator} {ti : TIp} {gg : D → D → Option D} {pos' : Pos} (ho : PIp X op ti) (hg : AugOk X W ti gg) (hN : X.N.Nodup) (h : VE X W e fa) (hi : X.N[i]? = some x := by rfl) (hx : Loc X.env.scope x := by first | exact Or.inl rfl | exact Or.inr rfl)
    (hf : X.fn x = true ∨ X.env.scope.names.lookup x = some .local := by first | exact .inl rfl | exact .inr rfl | assumption) : VS X W (.AugAssign (.Name x pos') op e pos) (sAug i gg fa) := PSof (ps_aug hN hi hx h ho hf) fun D₀ σ H ⟨b, F, c, env, st, e1, e2, r, p⟩ => by
  unfold sAug at p
  split at p
  · rename_i dx ex
    obtain ⟨v, ev, rp⟩ := r.sl i _ ex
    refine ⟨v, ev, sE_at e1 e2 r p fun u dy env1 st1 F1 c1 H1 s1 r1 rp1 p1 => ?_⟩
    split at p1
    · rename_i z ez
      rw [e1, e2] at rp rp1
      exact hg F1 c1 H1 v u dx dy z _ (rp.stp s1) rp1 ez fun w rw_ => PostS.here (P := fun fl _ _ F c σ H => FlOk b D₀ F c σ H fl) (r1.put (by rw [e1, e2]; exact rw_)) p1
    · exact p1.elim
  · exact p.elim
def addII : D → D → Option D
  | .int i, .int j => some (.int (i + j))
  | _, _ => none
theorem aug_add : AugOk X W (ipI fun i j => i + j) addII := fun F c H x y dx dy d Q hx hy e q => by
  unfold addII at e
  split at e
  · cases hx; cases hy; cases e; exact ⟨_, _, rfl, rfl, q _ (.int _)⟩
  · cases e
theorem aug_sub : AugOk X W (ipI fun i j => i - j) subI := fun F c H x y dx dy d Q hx hy e q => by
  unfold subI at e
  split at e
  · cases hx; cases hy; cases e; exact ⟨_, _, rfl, rfl, q _ (.int _)⟩
  · cases e
theorem aug_fdiv : AugOk X W (rI CDivW fun i j => .int (i / j)) fdivI := fun F c H x y dx dy d Q hx hy e q => by
  unfold fdivI at e
  split at e
  · cases hx; cases hy
    split at e
    · cases e; exact ⟨_, _, rfl, rfl, divOk_w (by assumption), q _ (.int _)⟩
    · cases e
  · cases e
end
end VE

namespace VE
open PySem PySem.Spec PyProof.Rows L2
/-! ### a def as a function of data -/
inductive RF where
  | ok (d : D) (st : Sto)
  | ex (x : Exn) (st : Sto)
  | bad
@[reducible] def FM := List D → Sto → RF
def env0 (n : Nat) (ds : List D) : EnvD := ds.map .va ++ List.replicate (n - ds.length) .no
def toRF (fr : Bool) : R Fl → RF
  | .ok .nx _ st => if fr then .bad else .ok .non st
  | .ok (.rt d) _ st => if fr then .bad else .ok d st
  | .ok (.rf d) _ st => .ok d st
  | .ok _ _ _ => .bad
  | .ex x _ st => .ex x st
  | .bad => .bad
def toF (fr : Bool) (n : Nat) (g : M Fl) : FM := fun ds st => toRF fr (g (env0 n ds) st)
section
variable (K : PySem.W.Frag) (mg : Str → Option Value)
structure Old (F : Addr → Prop) (c : List Addr) (H : Hp) (F' : Addr → Prop) (c' : List Addr) (H' : Hp) : Prop where
  keep : ∀ a o, H a = some o → a ∉ c → H' a = some o
  new : ∀ a, F' a → F a ∨ H a = none
  nwc : ∀ a ∈ c', a ∈ c ∨ H a = none
def RetOk (fr : Bool) (F' : Addr → Prop) (c' : List Addr) (H H' : Hp) (v : V) (d : D) : Prop :=
  if fr then ∃ a, v = .ref a ∧ ¬ F' a ∧ a ∉ c' ∧ H a = none ∧ OwnAt K mg F' c' H' a d else Rp K mg F' c' H' v d
def PostF (fr : Bool) (F : Addr → Prop) (c : List Addr) (H : Hp) (Q : VK) (E : XK) : RF → Prop
  | .ok d st => ∀ v F' c' H', Stp F c H F' c' H' → RelC K mg F' c' st H' → Old F c H F' c' H' → RetOk K mg fr F' c' H H' v d → Q v H'
  | .ex x st => ∀ cls dx F' c' H', Stp F c H F' c' H' → RelC K mg F' c' st H' → Old F c H F' c' H' → RpX K mg F' c' H' cls dx x → E cls dx H'
  | .bad => False
def spV (fr : Bool) (n : Nat) (m : FM) : Sp := fun vs H Q E => ∃ F c ds st, RelC K mg F c st H ∧ Rps K mg F c H vs ds ∧ ds.length = n ∧ PostF K mg fr F c H Q E (m ds st)
end
section
variable {P : Program} {w : World} {K : PySem.W.Frag} {mg : Str → Option Value} {base : Heap} {b : Bs} {F F' : Addr → Prop} {c c' : List Addr} {env : EnvD} {st st' : Sto} {σ : L2.St} {H H' : Hp}
theorem Rel.oldOf (r : Rel b F' c' env st σ H') : (∀ a ∈ b.c0, a ∈ c') → Old b.F0 b.c0 b.H0 F' c' H' := fun hc => by
  refine ⟨fun a o e hn => r.old a o e fun hm => ?_, r.new, r.nwc⟩
  rcases r.nwc a hm with h | h
  · exact hn h
  · rw [e] at h; cases h
/-- the state at a def's entry -/
theorem rel_start {n : Nat} {vs : List V} {ds : List D} (rc : RelC K mg F c st H) (rp : Rps K mg F c H vs ds) (N : List Str) (hn : n = N.length) : Rel ⟨K, mg, H, F, c⟩ F c (env0 n ds) st (L2.start N vs) H := by
  refine ⟨rc, ?_, fun i s e => ?_, fun i j a h => ?_, fun a o e _ => e, fun a h => .inl h, fun a h => .inl h, rc.trk, fun a h => rc.ctrk h⟩
  · unfold env0 L2.start
    simp only [List.length_append, List.length_map, List.length_replicate, rp.length, hn]
  · unfold env0 at e
    by_cases hi : i < ds.length
    · rw [List.getElem?_append_left (by simpa using hi), List.getElem?_map] at e
      cases hd : ds[i]? with
      | none => rw [hd] at e; cases e
      | some d =>
        rw [hd] at e; cases e
        obtain ⟨v, hv, h⟩ := rp.get' hd
        refine ⟨v, ?_, h⟩
        unfold L2.start
        rw [List.getElem?_append_left (by rw [List.length_map, rp.length]; exact hi), List.getElem?_map, hv]
        rfl
    · rw [List.getElem?_append_right (by simpa using hi), List.getElem?_replicate] at e
      split at e
      · cases e; trivial
      · cases e
  · obtain ⟨d, e, _⟩ := h
    unfold env0 at e
    by_cases hi : i < ds.length
    · rw [List.getElem?_append_left (by simpa using hi), List.getElem?_map] at e
      cases hd : ds[i]? with
      | none => rw [hd] at e; cases e
      | some d => rw [hd] at e; cases e
    · rw [List.getElem?_append_right (by simpa using hi), List.getElem?_replicate] at e
      split at e <;> cases e
/-- a def keeps what its body tells -/
theorem okV {x qual : Str} {stm : Stmt} {f : Addr} {fd : FuncData} {N ps : List Str} {k n np : Nat} {g : M Fl} (fr : Bool) (Fn : Fun K x qual stm f fd) (S : FnScope N ps (defScope stm)) (hn : n = N.length) (hp : np = ps.length)
    (hb : ∀ (cdv : Value) (A : Around) (outer : List Env) (s : Shared) (H : Hp) (E : XK), Room k (A.deeper (envOfC qual (defScope stm) s.heap.objs.size f cdv)) →
      VSs (cxOf (L2.CX P w) P w K mg base N qual (defScope stm) f cdv A outer s H E) (fun cls d _ H => E cls d H) (defBody stm) g) : FnOk P w K mg base (L2.CX P w) (k + 1) f fd ps (spV K mg fr np (toF fr n g)) := by
  refine Fn.okX S (fun vs H Q E h => ?_) (fun cdv A outer s H vs Q E hr h => ?_)
  · obtain ⟨F, c, ds, st, _, rp, hl, _⟩ := h
    rw [rp.length, hl, hp]
  · obtain ⟨F, c, ds, st, rc, rp, hl, p⟩ := h
    refine ⟨_, hb cdv A outer s H E hr, ⟨K, mg, H, F, c⟩, F, c, env0 n ds, st, rfl, rfl, rel_start rc rp N hn, ?_⟩
    unfold toF at p
    generalize g (env0 n ds) st = y at p
    cases y with
    | bad => exact p
    | ex x env' st' => exact fun σ' F' c' H' cls d s r q => p cls d F' c' H' s r.rc (r.oldOf fun a ha => by obtain ⟨l, e⟩ := s.cs; rw [e]; exact List.mem_append_left _ ha) q
    | ok fl env' st' =>
      intro σ' F' c' H' s r
      have old : Old F c H F' c' H' := r.oldOf fun a ha => by obtain ⟨l, e⟩ := s.cs; rw [e]; exact List.mem_append_left _ ha
      cases fl with
      | nx =>
        cases fr with
        | true => exact p.elim
        | false => exact p .non F' c' H' s r.rc old .non
      | rt d =>
        cases fr with
        | true => exact p.elim
        | false => exact fun v rv => p v F' c' H' s r.rc old rv
      | rf d =>
        intro a h1 h2 h3 h4
        cases fr with
        | true => exact p _ F' c' H' s r.rc old ⟨a, rfl, h1, h2, h3, h4⟩
        | false =>
          have s2 : Stp F' c' H' (FAdd F' a) c' H' := ⟨fun _ h => .inl h, fun _ _ _ h => h, [], (List.append_nil c').symm⟩
          refine p _ (FAdd F' a) c' H' (s.trans s2) (r.rc.stp s2 (fun x hf => ?_) (fun _ _ => rfl) fun x hx hf => ?_) ⟨old.keep, fun x hf => ?_, old.nwc⟩ h4.rp
          · rcases hf with hf | rfl
            · exact r.rc.trk x hf
            · exact h4.trk
          · rcases hf with hf | rfl
            · exact r.rc.nf x hx hf
            · exact h2 hx
          · rcases hf with hf | rfl
            · exact old.new x hf
            · exact .inr h3
      | bk => exact p.elim
      | ct => exact p.elim
/-- a def of the module by its name -/
structure FnV (P : Program) (w : World) (K : PySem.W.Frag) (mg : Str → Option Value) (base : Heap) (k : Nat) (x : Str) (fr : Bool) (n : Nat) (m : FM) : Prop where
  ex : ∃ f fd ps, FnOk P w K mg base (L2.CX P w) k f fd ps (spV K mg fr n m) ∧ mg x = some (.ref f) ∧ PySem.W.keepIn K (.ref f) = true ∧ Binds K fd ps []
theorem FnV.mono {k j : Nat} {x : Str} {fr : Bool} {n : Nat} {m : FM} (h : FnV P w K mg base k x fr n m) (hk : k ≤ j) : FnV P w K mg base j x fr n m := by
  obtain ⟨f, fd, ps, F, a⟩ := h.ex
  exact ⟨f, fd, ps, F.mono hk, a⟩
theorem FnV.imp {k : Nat} {x : Str} {fr : Bool} {n : Nat} {m m' : FM} (h : FnV P w K mg base k x fr n m) (hm : ∀ ds st, m' ds st = .bad ∨ m' ds st = m ds st) : FnV P w K mg base k x fr n m' := by
  obtain ⟨f, fd, ps, F, a⟩ := h.ex
  refine ⟨f, fd, ps, F.imp fun vs H Q E q => ?_, a⟩
  obtain ⟨F, c, ds, st, rc, rp, hl, p⟩ := q
  refine ⟨F, c, ds, st, rc, rp, hl, ?_⟩
  rcases hm ds st with e | e
  · rw [e] at p; exact p.elim
  · rw [e] at p; exact p
/-- behind a call -/
theorem Rel.call (r : Rel b F c env st σ H) (s : Stp F c H F' c' H') (rc : RelC b.K b.mg F' c' st' H') (o : Old F c H F' c' H') : Rel b F' c' env st' σ H' := by
  refine ⟨rc, r.len, fun i sl he => ?_, r.ds, fun a x e hc => ?_, fun a hf => ?_, fun a ha => ?_, r.f0, r.k0⟩
  · have q := r.sl i sl he
    cases sl with
    | no => trivial
    | va d => obtain ⟨v, e, p⟩ := q; exact ⟨v, e, p.stp s⟩
    | ow d =>
      obtain ⟨a, e, p1, p2, p3, p4⟩ := q
      obtain ⟨_, _, _, x, ex⟩ := r.own (i := i) ⟨d, he, e⟩
      refine ⟨a, e, fun hf => ?_, fun hc => ?_, p3, p4.stp s ?_⟩
      · rcases o.new a hf with h | h
        · exact p1 h
        · rw [ex] at h; cases h
      · rcases o.nwc a hc with h | h
        · exact p2 h
        · rw [ex] at h; cases h
      · rw [ex]; exact o.keep a x ex p2
  · have hc' : a ∉ c := fun h => hc (by obtain ⟨l, e⟩ := s.cs; rw [e]; exact List.mem_append_left _ h)
    exact o.keep a x (r.old a x e hc') hc'
  · rcases o.new a hf with h | h
    · exact r.new a h
    · exact .inr (r.H0none h)
  · rcases o.nwc a ha with h | h
    · exact r.nwc a h
    · exact .inr (r.H0none h)
end
section
variable {X : Cx} {W : WX} {e a : Expr} {es : List Expr} {pos p : Pos} {fs : M (List D)} {x : Str} {k j n : Nat} {m : FM}
def callR (m : FM) (ds : List D) : M D := fun env st => match m ds st with
  | .ok d st => .ok d env st
  | .ex x st => .ex x env st
  | .bad => .bad
def eCall (m : FM) (n : Nat) (fs : M (List D)) : M D := fun env st => (fs env st).bind fun ds env st => if ds.length = n then callR m ds env st else .bad
theorem call_of {fr : Bool} {b : Bs} {F : Addr → Prop} {c : List Addr} {env : EnvD} {st : Sto} {σ : L2.St} {H : Hp} {vs : List V} {ds : List D} {Q : VK} {Pk : D → EnvD → Sto → (Addr → Prop) → List Addr → Hp → Prop} (e1 : b.K = X.K) (e2 : b.mg = X.mg) (r : Rel b F c env st σ H) (rp : Rps b.K b.mg F c H vs ds) (hl : ds.length = n)
    (p : Post b W F c σ H Pk (callR m ds env st)) (hq : ∀ v d st F' c' H', Stp F c H F' c' H' → Rel b F' c' env st σ H' → RetOk b.K b.mg fr F' c' H H' v d → Pk d env st F' c' H' → Q v H') : spV X.K X.mg fr n m vs H Q (WE W σ) := by
  rw [← e1, ← e2]
  refine ⟨F, c, ds, st, r.rc, rp, hl, ?_⟩
  unfold callR at p
  generalize m ds st = y at p
  cases y with
  | ok d st' => exact fun v F' c' H' s rc o rv => hq v d st' F' c' H' s (r.call s rc o) rv (p F' c' H' s (r.call s rc o))
  | ex x st' => exact fun cls dx F' c' H' s rc o rx => p F' c' H' cls dx s (r.call s rc o) rx
  | bad => exact p
theorem ve_call (Fv : FnV X.prog X.w X.K X.mg X.base k x false n m) (hr : Room k X.A) (tk : Takes X W) (ha : VA X W (e :: es) fs) (hg : Gl X x := by rfl) (hdb : (x == ("__debug__" : Str)) = false := by decide)
    (he : starEach (e :: es) X.env = (false, eval e X.env) :: starEach es X.env := by rfl) (hpl : (backTo pos (starEach es X.env)).any (·.1) = false := by rfl) : VE X W (.Call (.Name x p) (e :: es) [] pos) (eCall m n fs) := by
  obtain ⟨f, fd, ps, Fo, hm, hk, hb⟩ := Fv.ex
  refine PEof (pe_callS Fo hr hg hm hk hb (passAt tk) ha hdb he hpl) fun σ H Q ⟨b, F, c, env, st, e1, e2, r, pp⟩ => tA_at e1 e2 r pp fun vs ds env1 st1 F1 c1 H1 s1 r1 rp1 p1 => ?_
  split at p1
  · rename_i hl
    exact call_of e1 e2 r1 rp1 hl p1 fun v d st F' c' H' s r rv q => q v rv
  · exact p1.elim
theorem vf_call (Fv : FnV X.prog X.w X.K X.mg X.base k x true n m) (hr : Room k X.A) (tk : Takes X W) (ha : VA X W (e :: es) fs) (hg : Gl X x := by rfl) (hdb : (x == ("__debug__" : Str)) = false := by decide)
    (he : starEach (e :: es) X.env = (false, eval e X.env) :: starEach es X.env := by rfl) (hpl : (backTo pos (starEach es X.env)).any (·.1) = false := by rfl) : VF X W (.Call (.Name x p) (e :: es) [] pos) (eCall m n fs) := by
  obtain ⟨f, fd, ps, Fo, hm, hk, hb⟩ := Fv.ex
  refine PEof (pe_callS Fo hr hg hm hk hb (passAt tk) ha hdb he hpl) fun σ H Q ⟨b, F, c, env, st, e1, e2, r, pp⟩ => tA_at e1 e2 r pp fun vs ds env1 st1 F1 c1 H1 s1 r1 rp1 p1 => ?_
  split at p1
  · rename_i hl
    exact call_of e1 e2 r1 rp1 hl p1 fun v d st F' c' H' s r rv q => by
      obtain ⟨a, rfl, h1, h2, h3, h4⟩ := rv
      exact q a h1 h2 (r1.H0none h3) (r1.nO h3) h4
  · exact p1.elim
end
end VE

namespace VE
open PySem PySem.Spec PyProof.Rows L2
def wipeD (ws : List Nat) (env : EnvD) : EnvD := ws.foldl (fun e i => e.set i .no) env
theorem wipeD_length : ∀ (ws : List Nat) (env : EnvD), (wipeD ws env).length = env.length
  | [], _ => rfl
  | i :: ws, env => by
    show (wipeD ws (env.set i .no)).length = _
    rw [wipeD_length ws, List.length_set]
theorem wipeD_get : ∀ (ws : List Nat) (env : EnvD) (i : Nat) (s : Sl), (wipeD ws env)[i]? = some s → (s = .no) ∨ (i ∉ ws ∧ env[i]? = some s)
  | [], env, i, s, h => .inr ⟨by simp, h⟩
  | j :: ws, env, i, s, h => by
    have h' : (wipeD ws (env.set j .no))[i]? = some s := h
    rcases wipeD_get ws (env.set j .no) i s h' with q | ⟨h1, h2⟩
    · exact .inl q
    · by_cases q : j = i
      · subst q
        by_cases hl : j < env.length
        · rw [List.getElem?_set_self hl] at h2; cases h2; exact .inl rfl
        · rw [List.getElem?_eq_none (by simpa using hl)] at h2; cases h2
      · rw [List.getElem?_set_ne q] at h2
        exact .inr ⟨by simp only [List.mem_cons, not_or]; exact ⟨fun e => q e.symm, h1⟩, h2⟩
section
variable {X : Cx} {W : WX} {b : Bs} {F F' : Addr → Prop} {c c' : List Addr} {env : EnvD} {st st' : Sto} {σ : L2.St} {H H' : Hp}
theorem Rel.wipe (r : Rel b F c env st σ H) : ∀ ws : List Nat, Rel b F c (wipeD ws env) st σ H := by
  intro ws
  induction ws generalizing env with
  | nil => exact r
  | cons i ws ih => exact ih (r.forget i)
/-- the state over the slots with those of vs wiped, and over all -/
theorem wipe_at : ∀ (vs : List Nat) (σ : L2.St) (i : Nat), i ∉ vs → (wipe σ vs)[i]? = σ[i]?
  | [], _, _, _ => rfl
  | j :: vs, σ, i, h => by
    simp only [List.mem_cons, not_or] at h
    show ((wipe σ vs).set j none)[i]? = _
    rw [List.getElem?_set_ne (fun e => h.1 e.symm)]
    exact wipe_at vs σ i h.2
theorem Rel.reslot {σ' : L2.St} (r : Rel b F c env st σ H) (hl : σ'.length = σ.length) (h : ∀ (i : Nat) (s : Sl), env[i]? = some s → s = .no ∨ σ'[i]? = σ[i]?) : Rel b F c env st σ' H := by
  have own : ∀ {i a}, OwnA env σ' i a → OwnA env σ i a := fun {i a} ⟨d, e, e'⟩ => by
    rcases h i _ e with q | q
    · cases q
    · exact ⟨d, e, by rw [← q]; exact e'⟩
  refine ⟨r.rc, by rw [hl]; exact r.len, fun i s e => ?_, fun i j a h1 h2 => r.ds i j a (own h1) (own h2), r.old, r.new, r.nwc, r.f0, r.k0⟩
  have q := r.sl i s e
  rcases h i s e with z | z
  · rw [z]; trivial
  · cases s with
    | no => trivial
    | va d => obtain ⟨v, e', p⟩ := q; exact ⟨v, by rw [z]; exact e', p⟩
    | ow d => obtain ⟨a, e', p⟩ := q; exact ⟨a, by rw [z]; exact e', p⟩
theorem Rel.toWipe (r : Rel b F c env st σ H) (vs : List Nat) : Rel b F c (wipeD vs env) st (L2.wipe σ vs) H :=
  (r.wipe vs).reslot (wipe_length σ vs) fun i s e => by
    rcases wipeD_get vs env i s e with q | ⟨q, _⟩
    · exact .inl q
    · exact .inr (wipe_at vs σ i q)
theorem Rel.ofWipe {vs : List Nat} (r : Rel b F c env st (L2.wipe σ vs) H) : Rel b F c (wipeD vs env) st σ H :=
  (r.wipe vs).reslot (wipe_length σ vs).symm fun i s e => by
    rcases wipeD_get vs env i s e with q | ⟨q, _⟩
    · exact .inl q
    · exact .inr (wipe_at vs σ i q).symm

/-! ### what a loop walks -/
/-- what a turn yields: data as it stands, or a tuple that is made for it -/
def YOk (b : Bs) (F : Addr → Prop) (c : List Addr) (H H2 : Hp) (x : V) (d : D) : Prop :=
  (H2 = H ∧ Rp b.K b.mg F c H x d) ∨ ∃ T xs es, x = .ref T ∧ H T = none ∧ H2 = upd H T (.tup xs) ∧ d = .tup es ∧ Rps b.K b.mg F c H xs es
def Walks (b : Bs) (J : It) (ds : List D) (F : Addr → Prop) (c : List Addr) (H : Hp) : Prop :=
  ∀ F' c' H', Stp F c H F' c' H' → ∀ i, (∀ d, ds[i]? = some d → J.go i H' ∧ ∀ x H2, J.yld i H' x H2 → YOk b F' c' H' H2 x d) ∧ (ds.length ≤ i → J.stop i H')
def VI (X : Cx) (W : WX) (tg iter : Expr) (f : M (List D)) : Prop := ∃ wi : TI, PI X tg iter wi ∧ ∀ σ H R, At X W f σ H (fun b ds _ _ F c H' => ∀ J, Walks b J ds F c H' → R J H') → wi σ H R
theorem Rel.yield (r : Rel b F c env st σ H) {x : V} {d : D} {H2 : Hp} (y : YOk b F c H H2 x d) : ∃ F2, Stp F c H F2 c H2 ∧ Rel b F2 c env st σ H2 ∧ Rp b.K b.mg F2 c H2 x d := by
  rcases y with ⟨rfl, rp⟩ | ⟨T, xs, es, rfl, hT, rfl, rfl, rps⟩
  · exact ⟨F, .refl, r, rp⟩
  · obtain ⟨s, r2⟩ := r.newF hT (.tup xs)
    exact ⟨_, s, r2, .tup (.inl ⟨.inr rfl, .inl upd_same⟩) (rps.stp s)⟩
theorem walks_list {a : Addr} {xs : List V} {ds : List D} (hF : F a) (hx : H a = some (.lst xs)) (r : Rps b.K b.mg F c H xs ds) : Walks b (Itl b.K a) ds F c H := by
  intro F' c' H' s i
  have h' := s.keep a _ hF hx
  have r' := r.stp s
  refine ⟨fun d hd => ?_, fun hi => ⟨xs, SqL.of h', by rw [r.length]; exact hi⟩⟩
  obtain ⟨v, hv, rp⟩ := r'.get' hd
  refine ⟨⟨xs, v, SqL.of h', hv⟩, fun x H2 y => ?_⟩
  obtain ⟨rfl, y⟩ := y
  have e := y xs (SqL.of h')
  rw [hv] at e; cases e
  exact .inl ⟨rfl, rp⟩
theorem walks_tup {a : Addr} {xs : List V} {ds : List D} (hx : FqT b.K F H a xs) (r : Rps b.K b.mg F c H xs ds) : Walks b (Itt b.K a) ds F c H := by
  intro F' c' H' s i
  have h' := hx.stp s
  have r' := r.stp s
  refine ⟨fun d hd => ?_, fun hi => ⟨xs, h'.sq, by rw [r.length]; exact hi⟩⟩
  obtain ⟨v, hv, rp⟩ := r'.get' hd
  refine ⟨⟨xs, v, h'.sq, hv⟩, fun x H2 y => ?_⟩
  obtain ⟨rfl, y⟩ := y
  have e := y xs h'.sq
  rw [hv] at e; cases e
  exact .inl ⟨rfl, rp⟩
def rngD (lo : Int) (n : Nat) : List D := (List.range n).map fun i => .int (lo + (i : Nat))
theorem walks_rng {lo : Int} {n : Nat} : Walks b (Itr lo n) (rngD lo n) F c H := by
  intro F' c' H' s i
  unfold rngD
  refine ⟨fun d hd => ?_, fun hi => by show n ≤ i; simpa using hi⟩
  rw [List.getElem?_map] at hd
  by_cases hi : i < n
  · rw [List.getElem?_range hi] at hd; cases hd
    refine ⟨hi, fun x H2 y => ?_⟩
    obtain ⟨rfl, rfl⟩ := y
    exact .inl ⟨rfl, .int _⟩
  · rw [List.getElem?_eq_none (by simpa using hi)] at hd; cases hd
def signsD (x : Str) : List D := x.cps.toList.map fun ch => .str ⟨#[ch]⟩
theorem walks_str {x : Str} : Walks b (Its x) (signsD x) F c H := by
  intro F' c' H' s i
  unfold signsD
  refine ⟨fun d hd => ?_, fun hi => by show x.cps.size ≤ i; simpa using hi⟩
  rw [List.getElem?_map] at hd
  by_cases hi : i < x.cps.size
  · have e : x.cps.toList[i]? = some x.cps[i] := by simp [hi]
    rw [e] at hd; cases hd
    refine ⟨hi, fun v H2 y => ?_⟩
    obtain ⟨rfl, ch, hc, rfl⟩ := y
    have e2 : x.cps[i]? = some x.cps[i] := by simp [hi]
    rw [e2] at hc; cases hc
    exact .inl ⟨rfl, .str _⟩
  · rw [List.getElem?_eq_none (by simpa using hi)] at hd; cases hd
variable {e a tg iter : Expr} {pos p : Pos} {fa : M D} {fs : M (List D)}
/-- over a list, a tuple, a text -/
def iL (fa : M D) : M (List D) := fun env st => (fa env st).bind fun d env st => match d with
  | .lst xs => .ok xs env st
  | _ => .bad
def iT (fa : M D) : M (List D) := fun env st => (fa env st).bind fun d env st => match d with
  | .tup xs => .ok xs env st
  | _ => .bad
def iS (fa : M D) : M (List D) := fun env st => (fa env st).bind fun d env st => match d with
  | .str x => .ok (signsD x) env st
  | _ => .bad
theorem vi_list (h : VE X W iter fa) : VI X W tg iter (iL fa) := ⟨_, pi_list h, fun σ H R ⟨b, F, c, env, st, e1, e2, r, p⟩ => tE_at e1 e2 r p fun v d env1 st1 F1 c1 H1 s1 r1 rp1 p1 => by
    split at p1
    · cases rp1 with
      | lst f hx hr => exact ⟨_, rfl, ⟨_, SqL.of hx⟩, Post.here r1 p1 _ (e1 ▸ walks_list f hx hr)⟩
    · exact p1.elim⟩
theorem vi_tup (h : VE X W iter fa) : VI X W tg iter (iT fa) := ⟨_, pi_tup h, fun σ H R ⟨b, F, c, env, st, e1, e2, r, p⟩ => tE_at e1 e2 r p fun v d env1 st1 F1 c1 H1 s1 r1 rp1 p1 => by
    split at p1
    · cases rp1 with
      | tup hx hr => exact ⟨_, rfl, ⟨_, e1 ▸ hx.sq⟩, Post.here r1 p1 _ (e1 ▸ walks_tup hx hr)⟩
    · exact p1.elim⟩
theorem vi_str (h : VE X W iter fa) : VI X W tg iter (iS fa) := ⟨_, pi_str h, fun σ H R ⟨b, F, c, env, st, e1, e2, r, p⟩ => tE_at e1 e2 r p fun v d env1 st1 F1 c1 H1 s1 r1 rp1 p1 => by
    split at p1
    · cases rp1 with
      | str x => exact ⟨_, rfl, Post.here r1 p1 _ walks_str⟩
    · exact p1.elim⟩
/-- a bound that range takes: kept shut, so that the kernel does not reckon it -/
noncomputable def rOk (j : Int) : Bool := @decide (-(2 ^ 62) ≤ j ∧ j < 2 ^ 62) (Classical.propDecidable _)
theorem rOk_iff {j : Int} : rOk j = true ↔ -(2 ^ 62) ≤ j ∧ j < 2 ^ 62 := by unfold rOk; exact @decide_eq_true_iff _ (Classical.propDecidable _)
noncomputable def iR1 (fa : M D) : M (List D) := fun env st => (fa env st).bind fun d env st => match d with
  | .int j => if rOk j then .ok (rngD 0 j.toNat) env st else .bad
  | _ => .bad
noncomputable def iR2 (fa fb : M D) : M (List D) := fun env st => (fa env st).bind fun d env st => (fb env st).bind fun d' env st => match d, d' with
  | .int i, .int j => if rOk i && rOk j then .ok (rngD i (j - i).toNat) env st else .bad
  | _, _ => .bad
theorem vi_r1 (hm : X.mg "range" = none) (h : VE X W e fa) (hg : Gl X "range" := by rfl) (hs : starEach [e] X.env = [(false, eval e X.env)] := by rfl) : VI X W tg (.Call (.Name "range" p) [e] [] pos) (iR1 fa) :=
  ⟨_, pi_range1 hg hm (pa_cons h pa_nil (by rw [hs]; rfl)) hs, fun σ H R ⟨b, F, c, env, st, e1, e2, r, p⟩ => tE_at e1 e2 r p fun v d env1 st1 F1 c1 H1 s1 r1 rp1 p1 => by
    split at p1
    · cases rp1
      split at p1
      · rename_i j hj
        rw [rOk_iff] at hj
        exact ⟨_, rfl, hj.1, hj.2, Post.here r1 p1 _ walks_rng⟩
      · exact p1.elim
    · exact p1.elim⟩
theorem vi_r2 {fb : M D} (hm : X.mg "range" = none) (h : VE X W e fa) (h2 : VE X W a fb) (hg : Gl X "range" := by rfl) (hs : starEach [e, a] X.env = [(false, eval e X.env), (false, eval a X.env)] := by rfl) (hs2 : starEach [a] X.env = [(false, eval a X.env)] := by rfl) : VI X W tg (.Call (.Name "range" p) [e, a] [] pos) (iR2 fa fb) :=
  ⟨_, pi_range2 hg hm (pa_cons h (pa_cons h2 pa_nil (by rw [hs2]; rfl)) (by rw [hs, hs2])) hs hs2, fun σ H R ⟨b, F, c, env, st, e1, e2, r, p⟩ => tE_at e1 e2 r p fun v d env1 st1 F1 c1 H1 s1 r1 rp1 p1 => tE_at e1 e2 r1 p1 fun v' d' env2 st2 F2 c2 H2 s2 r2 rp2 p2 => by
    split at p2
    · cases rp1; cases rp2
      split at p2
      · rename_i i j hj
        simp only [Bool.and_eq_true, rOk_iff] at hj
        exact ⟨_, _, rfl, ⟨hj.1.1, hj.1.2, hj.2.1, hj.2.2⟩, Post.here r2 p2 _ walks_rng⟩
      · exact p2.elim
    · exact p2.elim⟩
/-! ### for -/
def forL (t : D → EnvD → Option EnvD) (ws : List Nat) (g : M Fl) : List D → M Fl
  | [], env, st => .ok .nx env st
  | d :: ds, env, st => match t d env with
    | none => .bad
    | some env => (g env st).bind fun fl env st => match fl with
      | .nx => forL t ws g ds (wipeD ws env) st
      | .ct => forL t ws g ds (wipeD ws env) st
      | .bk => .ok .nx env st
      | .rt d => .ok (.rt d) env st
      | .rf d => .ok (.rf d) env st
def sFor (fi : M (List D)) (t : D → EnvD → Option EnvD) (ws : List Nat) (g : M Fl) : M Fl := fun env st => (fi env st).bind fun ds env st => forL t ws g ds env st
theorem vs_for {body : List Stmt} {is : List Nat} {gg : TG} {fi : M (List D)} {t : D → EnvD → Option EnvD} {g : M Fl} (ws : List Nat) (hp : PassesOwn (model X.prog X.w) X.A X.env X.xe) (hc : X.calm = true) (hi : VI X W tg iter fi) (hg : VG X tg gg is t) (hb : VSs X W body g)
    (hs : ∀ x, foldedSetIterable iter X.env x = pure x := by intro _; rfl) : VS X W (.For tg iter body [] pos) (sFor fi t ws g) := by
  obtain ⟨wi, pi, ki⟩ := hi
  obtain ⟨pg, kg⟩ := hg
  refine PSof (ps_for hp hc pi pg hb hs) fun D₀ σ H ⟨b, F, c, env, st, e1, e2, r, p⟩ => ?_
  refine ki σ H _ ⟨b, F, c, env, st, e1, e2, r, (PostS.of p).mono fun ds env1 st1 F1 c1 H1 s1 r1 p1 J wk => ?_⟩
  refine ⟨fun i m σ' H' => m = ds.length - i ∧ i ≤ ds.length ∧ ∃ F' c' env' st', Stp F1 c1 H1 F' c' H' ∧ Rel b F' c' env' st' σ' H' ∧ PostS b W F' c' H' (fun fl _ _ F c σ H => FlOk b D₀ F c σ H fl) (forL t ws g (ds.drop i) env' st'),
    ⟨ds.length, by simp, Nat.zero_le _, F1, c1, env1, st1, .refl, r1, p1⟩, fun i m σ' H' hw => ?_⟩
  obtain ⟨rfl, hi, F', c', env', st', s', r', p'⟩ := hw
  obtain ⟨wgo, wstop⟩ := wk F' c' H' s' i
  by_cases hlt : i < ds.length
  · refine .inr ?_
    obtain ⟨go, yl⟩ := wgo ds[i] (List.getElem?_eq_getElem hlt)
    refine ⟨go, _, fun σ2 H2 n => ⟨ds.length - (i + 1), by omega, n⟩, fun x H2 y => ?_⟩
    obtain ⟨F2, s2, r2, rp⟩ := r'.yield (yl x H2 y)
    rw [List.drop_eq_getElem_cons hlt] at p'
    unfold forL at p'
    split at p'
    · exact p'.elim
    · rename_i env2 et
      refine kg b F2 c' env' st' σ' H2 x _ env2 _ e1 e2 r2 rp et fun σ3 r3 _ _ => ?_
      refine ⟨b, F2, c', env2, st', e1, e2, r3, (PostS.bind (p'.stp s2)).mono fun fl env4 st4 F4 c4 σ4 H4 s4 r4 q => ?_⟩
      cases fl with
      | nx => exact ⟨rfl, by omega, F4, c4, _, st4, s'.trans (s2.trans s4), r4.wipe ws, q⟩
      | ct => exact ⟨rfl, by omega, F4, c4, _, st4, s'.trans (s2.trans s4), r4.wipe ws, q⟩
      | bk => exact PostS.here r4 q
      | rt d => exact PostS.here r4 q
      | rf d => exact PostS.here r4 q
  · have e : i = ds.length := by omega
    subst e
    rw [List.drop_length] at p'
    exact .inl ⟨wstop (Nat.le_refl _), PostS.here r' p'⟩

/-! ### comprehensions -/
def compL (t : D → EnvD → Option EnvD) (ws : List Nat) (tt : M Bool) (fe : M D) : List D → List D → M D
  | [], acc, env, st => .ok (.lst acc) (wipeD ws env) st
  | d :: ds, acc, env, st => match t d (wipeD ws env) with
    | none => .bad
    | some env => match tt env st with
      | .ok true env st => (match fe env st with
        | .ok y env st => if acc.length < 16777216 then compL t ws tt fe ds (acc ++ [y]) env st else .bad
        | _ => .bad)
      | .ok false env st => compL t ws tt fe ds acc env st
      | _ => .bad
def eComp (fi : M (List D)) (t : D → EnvD → Option EnvD) (ws : List Nat) (tt : M Bool) (fe : M D) : M D := fun env st => (fi env st).bind fun ds env st => compL t ws tt fe ds [] env st
@[reducible] def W0 : WX := fun _ _ _ _ => False
theorem wipe_same {σ σ' : L2.St} {is vs : List Nat} (hl : σ'.length = σ.length) (h : ∀ i, i ∉ is → σ'[i]? = (L2.wipe σ vs)[i]?) (hs : ∀ i ∈ is, i ∈ vs) : L2.wipe σ' vs = L2.wipe σ vs := by
  apply List.ext_getElem?
  intro i
  by_cases hi : i ∈ vs
  · have key : ∀ (τ : L2.St) (vs : List Nat), i ∈ vs → (L2.wipe τ vs)[i]? = if i < τ.length then some none else none := by
      intro τ vs
      induction vs with
      | nil => intro h; cases h
      | cons j vs ih =>
        intro h
        show ((L2.wipe τ vs).set j none)[i]? = _
        by_cases q : j = i
        · subst q
          by_cases hlt : j < τ.length
          · rw [if_pos hlt, List.getElem?_set_self (by rw [wipe_length]; exact hlt)]
          · rw [if_neg hlt, List.getElem?_eq_none (by rw [List.length_set, wipe_length]; omega)]
        · rw [List.getElem?_set_ne q]
          exact ih (by rcases List.mem_cons.mp h with e | e; exact absurd e.symm q; exact e)
    rw [key σ' vs hi, key σ vs hi, hl]
  · rw [wipe_at vs σ' i hi, h i fun hm => hi (hs i hm)]
/-- the new list of a comprehension is set aside while an element is made -/
def Bs.aside (b : Bs) (a : Addr) (o : HO) : Bs := { b with H0 := upd b.H0 a o }
theorem Rel.aside {a : Addr} {o : HO} (r : Rel b F c env st σ H) (h1 : ¬ F a) (h2 : a ∉ c) (h4 : ∀ i, ¬ OwnA env σ i a) (ho : H a = some o) : Rel (b.aside a o) F c env st σ H := by
  have up : ∀ x, x ≠ a → (b.aside a o).H0 x = b.H0 x := fun x hx => upd_ne hx
  have tr : ∀ x, (∃ y, b.H0 x = some y) → ∃ y, (b.aside a o).H0 x = some y := fun x ⟨y, e⟩ => by
    by_cases hx : x = a
    · exact ⟨o, by rw [hx]; exact upd_same⟩
    · exact ⟨y, by rw [up x hx]; exact e⟩
  refine ⟨r.rc, r.len, fun i s e => ?_, r.ds, fun x y e hc => ?_, fun x hx => ?_, fun x hx => ?_, fun x hx => tr x (r.f0 x hx), fun x hx => tr x (r.k0 x hx)⟩
  · have q := r.sl i s e
    cases s with
    | no => trivial
    | va d => exact q
    | ow d =>
      obtain ⟨a', e', p1, p2, p3, p4⟩ := q
      refine ⟨a', e', p1, p2, ?_, p4⟩
      rw [up a' fun z => h4 i ⟨d, e, by rw [← z]; exact e'⟩]
      exact p3
  · by_cases hx : x = a
    · subst hx
      have : upd b.H0 x o x = some y := e
      rw [upd_same] at this; cases this; exact ho
    · rw [up x hx] at e; exact r.old x y e hc
  · rcases r.new x hx with h | h
    · exact .inl h
    · exact .inr (by rw [up x fun z => h1 (z ▸ hx)]; exact h)
  · rcases r.nwc x hx with h | h
    · exact .inl h
    · exact .inr (by rw [up x fun z => h2 (z ▸ hx)]; exact h)
theorem Rel.unaside {a : Addr} {o o' : HO} (r : Rel (b.aside a o) F c env st σ H) (h0 : b.H0 a = none) (f0 : ∀ a, b.F0 a → ∃ o, b.H0 a = some o) (k0 : ∀ a ∈ b.c0, ∃ o, b.H0 a = some o) : (¬ F a ∧ a ∉ c ∧ (∀ i, ¬ OwnA env σ i a) ∧ H a = some o) ∧ Stp F c H F c (upd H a o') ∧ Rel b F c env st σ (upd H a o') := by
  have ha : (b.aside a o).H0 a = some o := upd_same
  have hf : ¬ b.F0 a := fun h => by
    obtain ⟨o, e⟩ := f0 a h
    rw [h0] at e; cases e
  have hc0 : a ∉ b.c0 := fun h => by
    obtain ⟨o, e⟩ := k0 a h
    rw [h0] at e; cases e
  have up : ∀ x, x ≠ a → (b.aside a o).H0 x = b.H0 x := fun x hx => upd_ne hx
  have nF : ¬ F a := fun h => by
    rcases r.new a h with q | q
    · exact hf q
    · rw [ha] at q; cases q
  have nc : a ∉ c := fun h => by
    rcases r.nwc a h with q | q
    · exact hc0 q
    · rw [ha] at q; cases q
  have nO : ∀ i, ¬ OwnA env σ i a := fun i h => by
    obtain ⟨_, _, q, _⟩ := r.own h
    rw [ha] at q; cases q
  have s : Stp F c H F c (upd H a o') := ⟨fun _ h => h, fun x y f e => by rw [upd_ne (fun z : x = a => nF (z ▸ f))]; exact e, [], (List.append_nil c).symm⟩
  have ne : ∀ x, x ≠ a → upd H a o' x = H x := fun x h => upd_ne h
  refine ⟨⟨nF, nc, nO, r.old a o ha nc⟩, s, r.rc.stp s (fun x hx => ?_) (fun x hx => ne x fun z => nc (z ▸ hx)) r.rc.nf, r.len, fun i sl e => ?_, r.ds, fun x y e hc => ?_, fun x hx => ?_, fun x hx => ?_, f0, k0⟩
  · obtain ⟨y, e⟩ := r.rc.trk x hx
    exact ⟨y, s.keep x y hx e⟩
  · have q := r.sl i sl e
    cases sl with
    | no => trivial
    | va d => obtain ⟨v, e', p⟩ := q; exact ⟨v, e', p.stp s⟩
    | ow d =>
      obtain ⟨a', e', p1, p2, p3, p4⟩ := q
      have hne : a' ≠ a := fun z => nO i ⟨d, e, by rw [← z]; exact e'⟩
      exact ⟨a', e', p1, p2, by rw [← up a' hne]; exact p3, p4.stp s (ne a' hne)⟩
  · have hne : x ≠ a := fun z => by rw [z, h0] at e; cases e
    rw [ne x hne]
    exact r.old x y (by rw [up x hne]; exact e) hc
  · rcases r.new x hx with h | h
    · exact .inl h
    · exact .inr (by rw [← up x fun z => nF (z ▸ hx)]; exact h)
  · rcases r.nwc x hx with h | h
    · exact .inl h
    · exact .inr (by rw [← up x fun z => nc (z ▸ hx)]; exact h)
theorem wipeD_in : ∀ (ws : List Nat) (env : EnvD) (i : Nat), i ∈ ws → i < env.length → (wipeD ws env)[i]? = some .no
  | j :: ws, env, i, h, hl => by
    show (wipeD ws (env.set j .no))[i]? = _
    by_cases hi : i ∈ ws
    · exact wipeD_in ws _ i hi (by rw [List.length_set]; exact hl)
    · have e : i = j := by rcases List.mem_cons.mp h with e | e; exact e; exact absurd e hi
      subst e
      have key : ∀ (ws : List Nat) (env : EnvD), i ∉ ws → (wipeD ws env)[i]? = env[i]? := by
        intro ws
        induction ws with
        | nil => intro _ _; rfl
        | cons k ws ih =>
          intro env h
          simp only [List.mem_cons, not_or] at h
          show (wipeD ws (env.set k .no))[i]? = _
          rw [ih _ h.2, List.getElem?_set_ne (fun e => h.1 e.symm)]
      rw [key ws _ hi, List.getElem?_set_self hl]
theorem wipeD_out : ∀ (ws : List Nat) (env : EnvD) (i : Nat), i ∉ ws → (wipeD ws env)[i]? = env[i]?
  | [], _, _, _ => rfl
  | k :: ws, env, i, h => by
    simp only [List.mem_cons, not_or] at h
    show (wipeD ws (env.set k .no))[i]? = _
    rw [wipeD_out ws _ i h.2, List.getElem?_set_ne (fun e => h.1 e.symm)]
theorem wipeD_twice (ws : List Nat) (env : EnvD) : wipeD ws (wipeD ws env) = wipeD ws env := by
  apply List.ext_getElem?
  intro i
  by_cases hi : i ∈ ws
  · by_cases hl : i < env.length
    · rw [wipeD_in ws _ i hi (by rw [wipeD_length]; exact hl), wipeD_in ws _ i hi hl]
    · rw [List.getElem?_eq_none (by rw [wipeD_length, wipeD_length]; omega), List.getElem?_eq_none (by rw [wipeD_length]; omega)]
  · rw [wipeD_out ws _ i hi]
theorem comp_of {is : List Nat} {gg : TG} {wi : TI} {fi : M (List D)} {t : D → EnvD → Option EnvD} {tt : M Bool} {fe : M D} {ws : List Nat} (ki : ∀ σ H R, At X W fi σ H (fun b ds _ _ F c H' => ∀ J, Walks b J ds F c H' → R J H') → wi σ H R) (his : ∀ i ∈ is, i ∈ ws) (kg : GSem X gg is t) :
    ∀ σ H Q, tF X W (eComp fi t ws tt fe) σ H Q → tLc wi gg (tT X W0 tt) (tE X W0 fe) ws σ H Q := fun σ H Q ⟨b, F, c, env, st, e1, e2, r, p⟩ => by
  refine ki σ H _ ⟨b, F, c, env, st, e1, e2, r, (Post.bind p).mono fun ds env1 st1 F1 c1 H1 s1 r1 p1 J wk D hD => ?_⟩
  obtain ⟨sD, rD⟩ := r1.newO hD (.lst [])
  have h0 : b.H0 D = none := r1.H0none hD
  refine ⟨fun i m H' => m = ds.length - i ∧ i ≤ ds.length ∧ ∃ F' c' env' st' acc accD, Stp F1 c1 H1 F' c' H' ∧ Rel b F' c' (wipeD ws env') st' (L2.wipe σ ws) H' ∧ (¬ F' D ∧ D ∉ c' ∧ (∀ i, ¬ OwnA (wipeD ws env') (L2.wipe σ ws) i D) ∧ H' D = some (.lst acc)) ∧ Rps b.K b.mg F' c' H' acc accD ∧
    Post b W F' c' σ H' (fun d env _ F c H' => ∀ a, ¬ F a → a ∉ c → b.H0 a = none → (∀ i, ¬ OwnA env σ i a) → OwnAt b.K b.mg F c H' a d → Q (.ref a) H') (compL t ws tt fe (ds.drop i) accD env' st'),
    ⟨ds.length, by simp, Nat.zero_le _, F1, c1, env1, st1, [], [], sD, rD.toWipe ws, ⟨r1.nF hD, r1.nC hD, fun i h => (r1.toWipe ws).nO hD i h, upd_same⟩, .nil, p1.stp sD⟩, fun i m H' hw => ?_⟩
  obtain ⟨rfl, hi, F', c', env', st', acc, accD, s', r', ⟨nF, nc, nO, hH⟩, rps, p'⟩ := hw
  obtain ⟨wgo, wstop⟩ := wk F' c' H' s' i
  by_cases hlt : i < ds.length
  · refine .inr ?_
    obtain ⟨go, yl⟩ := wgo ds[i] (List.getElem?_eq_getElem hlt)
    refine ⟨go, _, fun H2 n => ⟨ds.length - (i + 1), by omega, n⟩, fun x H2 y => ?_⟩
    have ra := r'.aside nF nc nO hH
    obtain ⟨F2, s2, r2, rp⟩ := ra.yield (b := b.aside D (.lst acc)) (yl x H2 y)
    rw [List.drop_eq_getElem_cons hlt] at p'
    unfold compL at p'
    split at p'
    · exact p'.elim
    · rename_i env2 et
      refine kg (b.aside D (.lst acc)) F2 c' _ st' _ H2 x _ env2 _ e1 e2 r2 rp et fun σ3 r3 hl3 hk3 => ?_
      have hw3 : L2.wipe σ3 ws = L2.wipe σ ws := by
        have q := wipe_same (σ := σ) (σ' := σ3) (is := is) (vs := ws) (by rw [hl3, wipe_length]) hk3 his
        exact q
      refine ⟨hw3, b.aside D (.lst acc), F2, c', env2, st', e1, e2, r3, ?_⟩
      generalize tt env2 st' = yt at p' ⊢
      cases yt with
      | bad => exact p'.elim
      | ex x env st => exact p'.elim
      | ok tv env3 st3 =>
        intro F3 c3 H3 s3 r3'
        cases tv with
        | true =>
          rw [if_pos rfl]
          refine ⟨b.aside D (.lst acc), F3, c3, env3, st3, e1, e2, r3', ?_⟩
          dsimp only at p'
          generalize fe env3 st3 = ye at p' ⊢
          cases ye with
          | bad => exact p'.elim
          | ex x env st => exact p'.elim
          | ok yv env4 st4 =>
            intro F4 c4 H4 s4 r4 v rv
            dsimp only at p'
            split at p'
            · rename_i hz
              obtain ⟨⟨nF4, nc4, nO4, hH4⟩, s5, r5⟩ := r4.unaside (o' := .lst (acc ++ [v])) h0 r1.f0 r1.k0
              have sAll : Stp F' c' H' F4 c4 (upd H4 D (.lst (acc ++ [v]))) := s2.trans (s3.trans (s4.trans s5))
              refine ⟨acc, hH4, by rw [rps.length, sizeLine_eq]; exact hz, rfl, by omega, F4, c4, env4, st4, acc ++ [v], accD ++ [yv], s'.trans sAll, ?_, ⟨nF4, nc4, fun i h => ?_, upd_same⟩, (rps.stp sAll).append (.cons (rv.stp s5) .nil), p'.stp sAll⟩
              · rw [← hw3]; exact r5.toWipe ws
              · rw [← hw3] at h
                have r6 := r4.toWipe ws
                obtain ⟨_, _, q, _⟩ := r6.own h
                have z : (b.aside D (.lst acc)).H0 D = some (.lst acc) := upd_same
                rw [z] at q; cases q
            · exact p'.elim
        | false =>
          rw [if_neg Bool.false_ne_true]
          dsimp only at p'
          obtain ⟨⟨nF4, nc4, nO4, hH4⟩, s5, r5⟩ := r3'.unaside (o' := .lst acc) h0 r1.f0 r1.k0
          have eH : upd H3 D (.lst acc) = H3 := by
            funext z
            by_cases hz : z = D
            · rw [hz, upd_same, hH4]
            · rw [upd_ne hz]
          rw [eH] at s5 r5
          have sAll : Stp F' c' H' F3 c3 H3 := s2.trans s3
          refine ⟨rfl, by omega, F3, c3, env3, st3, acc, accD, s'.trans sAll, ?_, ⟨nF4, nc4, fun i h => ?_, hH4⟩, rps.stp sAll, p'.stp sAll⟩
          · rw [← hw3]; exact r5.toWipe ws
          · rw [← hw3] at h
            have r6 := r3'.toWipe ws
            obtain ⟨_, _, q, _⟩ := r6.own h
            have z : (b.aside D (.lst acc)).H0 D = some (.lst acc) := upd_same
            rw [z] at q; cases q
  · have e : i = ds.length := by omega
    subst e
    rw [List.drop_length] at p'
    unfold compL at p'
    have r9 := r'.ofWipe
    rw [wipeD_twice] at r9
    exact .inl ⟨wstop (Nat.le_refl _), p' F' c' H' .refl r9 D nF nc h0 (fun i h => by
      have q := r9.own h
      exact nO i (by
        obtain ⟨d, h1, h2⟩ := h
        refine ⟨d, h1, ?_⟩
        rcases wipeD_get ws env' i _ h1 with z | ⟨z, _⟩
        · cases z
        · rw [wipe_at ws σ i z]; exact h2)) ⟨acc, hH, rps⟩⟩
theorem vf_comp {elt : Expr} {ifs : List Expr} {scope : Scope} {own : List (Str × Nat)} {is : List Nat} {gg : TG} {fi : M (List D)} {t : D → EnvD → Option EnvD} {tt : M Bool} {fe : M D} (hc : X.calm = true) (hN : X.N.Nodup) (hi : VI X W tg iter fi) (ok : BlkOk X.N X.env.scope scope own)
    (his : ∀ i ∈ is, i ∈ own.map (·.2)) (hg : ∀ (s : Shared) (H : Hp) (C : Addr) (cl : List (Str × Addr)) (fp : List Addr), VG (X.blk s H scope (compEnvC scope cl C X.env) fp) tg gg is t)
    (ht : ∀ (s : Shared) (H : Hp) (C : Addr) (cl : List (Str × Addr)) (fp : List Addr), PTs (X.blk s H scope (compEnvC scope cl C X.env) fp) ifs (tT X W0 tt))
    (he : ∀ (s : Shared) (H : Hp) (C : Addr) (cl : List (Str × Addr)) (fp : List Addr), VE (X.blk s H scope (compEnvC scope cl C X.env) fp) W0 elt fe) (hs : ∀ x, foldedSetIterable iter X.env x = pure x := by intro _; rfl) :
    VF X W (.ListComp elt [⟨tg, iter, ifs, 0⟩] scope pos) (eComp fi t (own.map (·.2)) tt fe) := by
  obtain ⟨wi, pi, ki⟩ := hi
  exact ⟨fun pins s0 σ H Q I h => (pe_lc (te := tE X W0 fe) hc hN pi ok (fun s H C cl fp => (hg s H C cl fp).1) ht he hs).run pins s0 σ H Q I (comp_of ki his (hg s0 H 0 [] []).2 σ H Q h)⟩
/-- x = [.. for ..] on one line, x a local -/
theorem vs_setComp {elt : Expr} {ifs : List Expr} {scope : Scope} {own : List (Str × Nat)} {is : List Nat} {gg : TG} {fi : M (List D)} {t : D → EnvD → Option EnvD} {tt : M Bool} {fe : M D} {i : Nat} {x : Str} {py sp : Pos} (hc : X.calm = true) (hN : X.N.Nodup) (hi : VI X W tg iter fi) (ok : BlkOk X.N X.env.scope scope own)
    (his : ∀ i ∈ is, i ∈ own.map (·.2)) (hg : ∀ (s : Shared) (H : Hp) (C : Addr) (cl : List (Str × Addr)) (fp : List Addr), VG (X.blk s H scope (compEnvC scope cl C X.env) fp) tg gg is t)
    (ht : ∀ (s : Shared) (H : Hp) (C : Addr) (cl : List (Str × Addr)) (fp : List Addr), PTs (X.blk s H scope (compEnvC scope cl C X.env) fp) ifs (tT X W0 tt))
    (he : ∀ (s : Shared) (H : Hp) (C : Addr) (cl : List (Str × Addr)) (fp : List Addr), VE (X.blk s H scope (compEnvC scope cl C X.env) fp) W0 elt fe) (hy : X.N[i]? = some x := by rfl) (hyl : X.env.scope.names.lookup x = some .local := by rfl)
    (hsw : swapsWith (.ListComp elt [⟨tg, iter, ifs, 0⟩] scope pos) (some (.Name x py)) sp.line X.env = pure true := by exact sw_true rfl rfl rfl (by decide +kernel)) (hs : ∀ x, foldedSetIterable iter X.env x = pure x := by intro _; rfl) :
    VS X W (.Assign [.Name x py] (.ListComp elt [⟨tg, iter, ifs, 0⟩] scope pos) sp) (sSetF i (eComp fi t (own.map (·.2)) tt fe)) := by
  obtain ⟨wi, pi, ki⟩ := hi
  refine ⟨fun pins s0 σ H D₀ I ⟨b, F, c, env, st, e1, e2, r, p⟩ => (ps_setLc (te := tE X W0 fe) hc hN hy hyl hsw pi ok (fun s H C cl fp => (hg s H C cl fp).1) ht he hs).run pins s0 σ H D₀ I ?_⟩
  refine comp_of (W := W) ki his (hg s0 H 0 [] []).2 σ H _ (sF_at e1 e2 r p fun a d env1 st1 F1 c1 H1 s1 r1 h1 h2 h3 h4 h5 p1 => ?_)
  exact PostS.here (P := fun fl _ _ F c σ H => FlOk b D₀ F c σ H fl) (r1.take h1 h2 h3 h4 h5) p1
def bYes : M Bool := fun env st => .ok true env st
theorem vts_nil : PTs X [] (tT X W bYes) := ⟨fun pins s σ H Q I ⟨b, F, c, env, st, e1, e2, r, p⟩ => pts_nil.run pins s σ H Q I (Post.here r p)⟩
theorem vts_one {Y : Cx} {tt : M Bool} (h : PT Y e (tT X W tt)) : PTs Y [e] (tT X W tt) := pts_one h
end
end VE

namespace VE
open PySem PySem.Spec PyProof.Rows L2
/-! ### objects that change: lists and instances in the store -/
def putD (f : Str) (v : D) : List (Str × D) → List (Str × D)
  | [] => [(f, v)]
  | (g, x) :: r => if g = f then (g, v) :: r else (g, x) :: putD f v r
section
variable {K : PySem.W.Frag} {mg : Str → Option Value} {b : Bs} {F F' : Addr → Prop} {c c' : List Addr} {env : EnvD} {st st' : Sto} {σ : L2.St} {H H' : Hp}
theorem fst_put (f : Str) (v : V) (d : D) : ∀ (vs : List (Str × V)) (ds : List (Str × D)), vs.map (·.1) = ds.map (·.1) → (putF f v vs).map (·.1) = (putD f d ds).map (·.1)
  | [], [], _ => rfl
  | (g, x) :: vs, (g', x') :: ds, h => by
    have h1 : g = g' := (List.cons.inj h).1
    have h2 := (List.cons.inj h).2
    subst h1
    show (if g = f then (g, v) :: vs else (g, x) :: putF f v vs).map (·.1) = (if g = f then (g, d) :: ds else (g, x') :: putD f d ds).map (·.1)
    by_cases e : g = f
    · rw [if_pos e, if_pos e]; exact h
    · rw [if_neg e, if_neg e, List.map_cons, List.map_cons, fst_put f v d vs ds h2]
  | [], _ :: _, h => by cases h
  | _ :: _, [], h => by cases h
theorem snd_put {f : Str} {v : V} {d : D} (r : Rp K mg F c H v d) : ∀ (vs : List (Str × V)) (ds : List (Str × D)), vs.map (·.1) = ds.map (·.1) → Rps K mg F c H (vs.map (·.2)) (ds.map (·.2)) → Rps K mg F c H ((putF f v vs).map (·.2)) ((putD f d ds).map (·.2))
  | [], [], _, _ => .cons r .nil
  | (g, x) :: vs, (g', x') :: ds, h, q => by
    have h1 : g = g' := (List.cons.inj h).1
    have h2 := (List.cons.inj h).2
    subst h1
    cases q with
    | cons q1 q2 =>
      show Rps K mg F c H ((if g = f then (g, v) :: vs else (g, x) :: putF f v vs).map (·.2)) ((if g = f then (g, d) :: ds else (g, x') :: putD f d ds).map (·.2))
      by_cases e : g = f
      · rw [if_pos e, if_pos e]; exact .cons r q2
      · rw [if_neg e, if_neg e]; exact .cons q1 (snd_put r vs ds h2 q2)
  | [], _ :: _, h, _ => by cases h
  | _ :: _, [], h, _ => by cases h
theorem look_of {f : Str} : ∀ (vs : List (Str × V)) (ds : List (Str × D)), vs.map (·.1) = ds.map (·.1) → Rps K mg F c H (vs.map (·.2)) (ds.map (·.2)) →
    (∀ d, ds.lookup f = some d → ∃ v, vs.lookup f = some v ∧ Rp K mg F c H v d) ∧ (ds.lookup f = none → vs.lookup f = none)
  | [], [], _, _ => ⟨(fun d h => (nomatch h)), fun _ => rfl⟩
  | (g, x) :: vs, (g', x') :: ds, h, q => by
    have h1 : g = g' := (List.cons.inj h).1
    have h2 := (List.cons.inj h).2
    subst h1
    cases q with
    | cons q1 q2 =>
      obtain ⟨k1, k2⟩ := look_of (f := f) vs ds h2 q2
      rw [List.lookup_cons, List.lookup_cons]
      cases e : f == g with
      | true =>
        refine ⟨fun d z => ?_, fun z => ?_⟩
        · cases z
          exact ⟨_, rfl, q1⟩
        · cases z
      | false => exact ⟨k1, k2⟩
  | [], _ :: _, h, _ => by cases h
  | _ :: _, [], h, _ => by cases h
/-- what a reference points to -/
theorem Rel.cell (r : Rel b F c env st σ H) {v : V} {n : Nat} {x : Cell} (h : Rp b.K b.mg F c H v (.ref n)) (e : st[n]? = some x) : ∃ a, v = .ref a ∧ c[n]? = some a ∧ CellOk b.K b.mg F c H a x := by
  cases h with
  | ref h => exact ⟨_, rfl, h, r.rc.cl n _ x h e⟩
/-- the object that a reference points to changes -/
theorem Rel.cellUpd (r : Rel b F c env st σ H) {a : Addr} {n : Nat} {x : Cell} {o : HO} (hn : c[n]? = some a) (hx : Stp F c H F c (upd H a o) → CellOk b.K b.mg F c (upd H a o) a x) : Stp F c H F c (upd H a o) ∧ Rel b F c env (st.set n x) σ (upd H a o) := by
  have ha : a ∈ c := List.mem_of_getElem? hn
  have nF : ¬ F a := r.rc.nf a ha
  have ne : ∀ y, y ≠ a → upd H a o y = H y := fun y h => upd_ne h
  have s : Stp F c H F c (upd H a o) := ⟨fun _ h => h, fun y o' f e => by rw [ne y (fun z => nF (z ▸ f))]; exact e, [], (List.append_nil c).symm⟩
  refine ⟨s, ⟨fun y hf => ?_, by rw [List.length_set]; exact r.rc.len, r.rc.nd, fun m y z hm hz => ?_, r.rc.nf⟩, r.len, fun i sl e => ?_, r.ds, fun y o' e hc => by rw [ne y fun z => hc (z ▸ ha)]; exact r.old y o' e hc, r.new, r.nwc, r.f0, r.k0⟩
  · obtain ⟨o', e⟩ := r.rc.trk y hf
    exact ⟨o', s.keep y o' hf e⟩
  · by_cases q : n = m
    · subst q
      rw [hn] at hm; cases hm
      have hl : n < st.length := by rw [r.rc.len]; exact (List.getElem?_eq_some_iff.mp hn).1
      rw [List.getElem?_set_self hl] at hz; cases hz
      exact hx s
    · rw [List.getElem?_set_ne q] at hz
      have hy : y ≠ a := fun z => by
        subst z
        exact q ((List.getElem?_inj (List.getElem?_eq_some_iff.mp hn).1 r.rc.nd).mp (hn.trans hm.symm))
      have k := r.rc.cl m y z hm hz
      cases z with
      | lst ds => obtain ⟨vs, e, p⟩ := k; exact ⟨vs, by rw [ne y hy]; exact e, p.stp s⟩
      | ins nm fs => obtain ⟨C, dx, vfs, k1, k2, k3, p⟩ := k; exact ⟨C, dx, vfs, k1, by rw [ne y hy]; exact k2, k3, p.stp s⟩
  · have q := r.sl i sl e
    cases sl with
    | no => trivial
    | va d => obtain ⟨v, e', p⟩ := q; exact ⟨v, e', p.stp s⟩
    | ow d =>
      obtain ⟨y, e', p1, p2, p3, p4⟩ := q
      exact ⟨y, e', p1, p2, p3, p4.stp s (ne y fun z => p2 (z ▸ ha))⟩
/-- a new object that may be changed -/
theorem Rel.cellNew (r : Rel b F c env st σ H) {p : Addr} {x : Cell} {o : HO} (hp : H p = none) (hx : Stp F c H F (c ++ [p]) (upd H p o) → CellOk b.K b.mg F (c ++ [p]) (upd H p o) p x) : Stp F c H F (c ++ [p]) (upd H p o) ∧ Rel b F (c ++ [p]) env (st ++ [x]) σ (upd H p o) ∧ Rp b.K b.mg F (c ++ [p]) (upd H p o) (.ref p) (.ref st.length) := by
  have nF := r.nF hp
  have nc := r.nC hp
  have ne : ∀ y, y ≠ p → upd H p o y = H y := fun y h => upd_ne h
  have hk : ∀ y o', H y = some o' → upd H p o y = some o' := fun y o' e => by rw [ne y (ne_of_none e hp)]; exact e
  have s : Stp F c H F (c ++ [p]) (upd H p o) := ⟨fun _ h => h, fun y o' f e => hk y o' e, [p], rfl⟩
  have ec : (c ++ [p])[st.length]? = some p := by rw [r.rc.len]; simp
  refine ⟨s, ⟨⟨fun y hf => ?_, by rw [List.length_append, List.length_append, r.rc.len]; rfl, ?_, fun m y z hm hz => ?_, fun y hy => ?_⟩, r.len, fun i sl e => ?_, r.ds, fun y o' e hc => ?_, r.new, fun y hy => ?_, r.f0, r.k0⟩, .ref ec⟩
  · obtain ⟨o', e⟩ := r.rc.trk y hf
    exact ⟨o', hk y o' e⟩
  · rw [List.nodup_append]
    exact ⟨r.rc.nd, by simp, fun x1 hx1 y hy => by rw [List.mem_singleton] at hy; exact fun z => nc (hy ▸ z ▸ hx1)⟩
  · by_cases hl : m < st.length
    · rw [List.getElem?_append_left (by rw [← r.rc.len]; exact hl)] at hm
      rw [List.getElem?_append_left hl] at hz
      have hy : y ≠ p := fun e => nc (e ▸ List.mem_of_getElem? hm)
      have k := r.rc.cl m y z hm hz
      cases z with
      | lst ds => obtain ⟨vs, e, p⟩ := k; exact ⟨vs, by rw [ne y hy]; exact e, p.stp s⟩
      | ins nm fs => obtain ⟨C, dx, vfs, k1, k2, k3, p⟩ := k; exact ⟨C, dx, vfs, k1, by rw [ne y hy]; exact k2, k3, p.stp s⟩
    · have hm' : m = st.length := by
        have := (List.getElem?_eq_some_iff.mp hz).1
        rw [List.length_append, List.length_singleton] at this
        omega
      subst hm'
      rw [ec] at hm; cases hm
      have : (st ++ [x])[st.length]? = some x := by simp
      rw [this] at hz; cases hz
      exact hx s
  · rcases List.mem_append.mp hy with h | h
    · exact r.rc.nf y h
    · rw [List.mem_singleton] at h; subst h; exact nF
  · have q := r.sl i sl e
    cases sl with
    | no => trivial
    | va d => obtain ⟨v, e', p⟩ := q; exact ⟨v, e', p.stp s⟩
    | ow d =>
      obtain ⟨y, e', p1, p2, p3, p4⟩ := q
      have hy : y ≠ p := fun z => r.nO hp i ⟨d, e, by rw [← z]; exact e'⟩
      refine ⟨y, e', p1, fun h => ?_, p3, p4.stp s (ne y hy)⟩
      rcases List.mem_append.mp h with h | h
      · exact p2 h
      · exact hy (List.mem_singleton.mp h)
  · exact hk y o' (r.old y o' e fun h => hc (List.mem_append_left _ h))
  · rcases List.mem_append.mp hy with h | h
    · exact r.nwc y h
    · rw [List.mem_singleton] at h; subst h; exact .inr (r.H0none hp)
end
section
variable {X : Cx} {W : WX} {e a o : Expr} {es : List Expr} {pos pos' : Pos} {fa fb fo fi : M D} {fs : M (List D)} {x : Str}
/-- x = [..], a list that defs may change -/
def sCell (i : Nat) (fs : M (List D)) : M Fl := fun env st => (fs env st).bind fun ds env st => if ds.length ≤ 16777216 then .ok .nx (env.set i (.va (.ref st.length))) (st ++ [.lst ds]) else .bad
theorem vs_cell {i : Nat} (hN : X.N.Nodup) (h : VA X W es fs) (hi : X.N[i]? = some x := by rfl) (hx : Loc X.env.scope x := by first | exact Or.inl rfl | exact Or.inr rfl) (hs : swapsWith (.List es pos) (some (.Name x pos')) pos.line X.env = pure false := by rfl)
    (hf : X.fn x = true ∨ X.env.scope.names.lookup x = some .local := by first | exact .inl rfl | exact .inr rfl | assumption) {p2 : Pos} (hs : swapsWith (.List es p2) (some (.Name x pos')) pos.line X.env = pure false := by rfl) : VS X W (.Assign [.Name x pos'] (.List es p2) pos) (sCell i fs) := PSof (ps_set hN hi hx (pe_lst h) hs hf) fun D₀ σ H ⟨b, F, c, env, st, e1, e2, r, p⟩ =>
  sA_at e1 e2 r p fun vs ds env1 st1 F1 c1 H1 s1 r1 rp1 p1 => by
    split at p1
    · rename_i hl
      refine ⟨by rw [rp1.length, sizeLine_eq]; exact hl, fun q hq => ?_⟩
      obtain ⟨s2, r2, rp⟩ := r1.cellNew (x := .lst ds) hq fun s => ⟨vs, upd_same, rp1.stp s⟩
      exact PostS.here (P := fun fl _ _ F c σ H => FlOk b D₀ F c σ H fl) (r2.put (i := i) rp) (p1.stp s2)
    · exact p1.elim
/-- a[b], a list of the store or a value -/
def ixC : D → D → M D := fun x y env st => match x, y with
  | .ref n, .int i => (match st[n]? with
    | some (.lst ds) => ret (atI ds i) env st
    | _ => .bad)
  | x, y => ret (ixD x y) env st
theorem ok_ixC : OpOk X W (rIx X.K) ixC := fun b F c env st σ H x y dx dy Q e1 e2 r hx hy p => by
  unfold ixC at p
  split at p
  · rename_i n i
    split at p
    · rename_i ds es
      obtain ⟨a, rfl, hc, vs, ha, rps⟩ := r.cell hx es
      unfold ret at p
      split at p
      · rename_i d ed
        obtain ⟨v, hv, rp⟩ := rps.atI ed
        cases hy
        exact .inl ⟨a, vs, i, v, rfl, rfl, SqL.of ha, hv, Post.here r p v rp⟩
      · exact p.elim
    · exact p.elim
  · exact ok_ix b F c env st σ H x y _ _ Q e1 e2 r hx hy p
theorem ve_ixc (ha : VE X W e fa) (hb : VE X W a fb) (hs : PlainIx a := by exact fun _ _ => rfl) : VE X W (.Subscript e a pos) (eBin ixC fa fb) := PEof (pe_ix ix_seq ha hb hs) (tOp_of ok_ixC)
/-- o[i] = e, o a list of the store -/
def sItemC (fo fi fe : M D) : M Fl := fun env st => (fe env st).bind fun d env st => (fo env st).bind fun r env st => (fi env st).bind fun k env st => match r, k with
  | .ref n, .int k => (match st[n]? with
    | some (.lst ds) => (match ixN ds.length k with
      | some j => .ok .nx env (st.set n (.lst (ds.set j d)))
      | none => .bad)
    | _ => .bad)
  | _, _ => .bad
theorem vs_itemC {tp : Pos} {fe : M D} (he : VE X W e fe) (ho : VE X W o fo) (hi : VE X W a fi) (ha : ∀ v, assign (.Subscript o a tp) X.env v = (do
      let ov ← holding [v] (eval o X.env)
      let iv ← holding [v, ov] (eval a X.env)
      standAt tp
      holding [v, ov, iv] (setItem ov iv v)
      release [v, ov, iv] []) := by intro _; rfl)
    (hs : swapsWithSole [.Subscript o a tp] e pos.line X.env = pure false := by rfl) (hw : swappedStores [.Subscript o a tp] e X.env = pure none := by rfl)
    (h1 : (assignEach [.Subscript o a tp] X.env).map (·.2) = [assign (.Subscript o a tp) X.env] := by rfl) : VS X W (.Assign [.Subscript o a tp] e pos) (sItemC fo fi fe) := PSof (ps_asg he (pg_sub ho hi set_list ha) hs hw h1) fun D₀ σ H ⟨b, F, c, env, st, e1, e2, r, p⟩ =>
  sE_at e1 e2 r p fun v d env1 st1 F1 c1 H1 s1 r1 rp1 p1 => sE_at e1 e2 r1 p1 fun u r_ env2 st2 F2 c2 H2 s2 r2 rp2 p2 => sE_at e1 e2 r2 p2 fun w k env3 st3 F3 c3 H3 s3 r3 rp3 p3 => by
    split at p3
    · rename_i n k
      split at p3
      · rename_i ds es
        split at p3
        · rename_i j ej
          have rp2' := rp2.stp s3
          obtain ⟨q, rfl, hc, vs, hq, rps⟩ := r3.cell rp2' es
          cases rp3
          refine ⟨q, vs, k, j, rfl, rfl, hq, by rw [rps.length]; exact ej, ?_⟩
          obtain ⟨s4, r4⟩ := r3.cellUpd (o := .lst (vs.set j v)) (x := .lst (ds.set j d)) hc fun s => ⟨_, upd_same, Rps.set ((rp1.stp (s2.trans s3)).stp s) j (rps.stp s)⟩
          exact PostS.here (P := fun fl _ _ F c σ H => FlOk b D₀ F c σ H fl) r4 (p3.stp s4)
        · exact p3.elim
      · exact p3.elim
    · exact p3.elim
/-! ### attributes -/
/-- what is to be known of a class -/
structure ClsV (K : PySem.W.Frag) (mg : Str → Option Value) (n : Str) (fs : List Str) : Prop where
  cl : ∀ C, mg n = some (.ref C) → Cls K C
  no : ∀ C, mg n = some (.ref C) → ∀ f ∈ fs, NoAttr K C f
def eFld (n f : Str) (fa : M D) : M D := fun env st => (fa env st).bind fun r env st => match r with
  | .ref m => (match st[m]? with
    | some (.ins n' fs) => if n' = n then ret (fs.lookup f) env st else .bad
    | _ => .bad)
  | _ => .bad
theorem ve_fld {n f : Str} {fl : List Str} (cv : ClsV X.K X.mg n fl) (h : VE X W e fa) (hf : f ∈ fl := by decide +kernel) (hb : attributeBase e f X.env (eval e X.env) = eval e X.env := by rfl) : VE X W (.Attribute e f pos) (eFld n f fa) := PEof (pe_fld h hb) fun σ H Q ⟨b, F, c, env, st, e1, e2, r, p⟩ =>
  tE_at e1 e2 r p fun v d env1 st1 F1 c1 H1 s1 r1 rp1 p1 => by
    split at p1
    · split at p1
      · rename_i n' fs es
        split at p1
        · rename_i en
          subst en
          obtain ⟨q, rfl, hc, C, dx, vfs, k1, k2, k3, rps⟩ := r1.cell rp1 es
          unfold ret at p1
          split at p1
          · rename_i d ed
            obtain ⟨v, hv, rp⟩ := (look_of (f := f) vfs fs k3 rps).1 d ed
            rw [e2] at k1
            exact ⟨q, C, dx, vfs, v, rfl, k2, cv.cl C k1, cv.no C k1 f hf, hv, Post.here r1 p1 v rp⟩
          · exact p1.elim
        · exact p1.elim
      · exact p1.elim
    · exact p1.elim
def sFldS (n f : Str) (fo fe : M D) : M Fl := fun env st => (fe env st).bind fun d env st => (fo env st).bind fun r env st => match r with
  | .ref m => (match st[m]? with
    | some (.ins n' fs) => if n' = n ∧ fs.length < 1000 then .ok .nx env (st.set m (.ins n (putD f d fs))) else .bad
    | _ => .bad)
  | _ => .bad
theorem len_of {K : PySem.W.Frag} {mg : Str → Option Value} {F : Addr → Prop} {c : List Addr} {H : Hp} {vfs : List (Str × V)} {fs : List (Str × D)} (h : vfs.map (·.1) = fs.map (·.1)) : vfs.length = fs.length := by
  have := congrArg List.length h
  simpa using this
theorem vs_fld {n f : Str} {fl : List Str} {fe : M D} (cv : ClsV X.K X.mg n fl) (ho : VE X W o fo) (he : VE X W e fe) (hf : f ∈ fl := by decide +kernel) (hs : swapsWith e (some (.Attribute o f pos')) pos.line X.env = pure false := by rfl) : VS X W (.Assign [.Attribute o f pos'] e pos) (sFldS n f fo fe) := PSof (ps_fld ho he hs) fun D₀ σ H ⟨b, F, c, env, st, e1, e2, r, p⟩ =>
  sE_at e1 e2 r p fun v d env1 st1 F1 c1 H1 s1 r1 rp1 p1 => sE_at e1 e2 r1 p1 fun u r_ env2 st2 F2 c2 H2 s2 r2 rp2 p2 => by
    split at p2
    · rename_i m
      split at p2
      · rename_i n' fs es
        split at p2
        · rename_i hn
          obtain ⟨en, hl⟩ := hn
          subst en
          obtain ⟨q, rfl, hc, C, dx, vfs, k1, k2, k3, rps⟩ := r2.cell rp2 es
          have k1' := k1
          rw [e2] at k1'
          refine ⟨q, C, dx, vfs, rfl, k2, cv.cl C k1', cv.no C k1' f hf, by rw [len_of (K := X.K) (mg := X.mg) (F := F) (c := c) (H := H) k3]; exact hl, ?_⟩
          obtain ⟨s4, r4⟩ := r2.cellUpd (o := .ins C dx (putF f v vfs)) (x := .ins n' (putD f d fs)) hc fun s => ⟨C, dx, _, k1, upd_same, fst_put f v d vfs fs k3, snd_put ((rp1.stp s2).stp s) vfs fs k3 (rps.stp s)⟩
          exact PostS.here (P := fun fl _ _ F c σ H => FlOk b D₀ F c σ H fl) r4 (p2.stp s4)
        · exact p2.elim
      · exact p2.elim
    · exact p2.elim
/-- o.f op= e, ints -/
def sFldA (n f : Str) (g : D → D → Option D) (fo fe : M D) : M Fl := fun env st => (fo env st).bind fun r env st => match r with
  | .ref m => (match st[m]? with
    | some (.ins n' fs) => if n' = n then (match fs.lookup f with
        | some x => (fe env st).bind fun y env st => match g x y with
          | some z => (match st[m]? with
            | some (.ins n2 fs) => if n2 = n ∧ fs.length < 1000 then .ok .nx env (st.set m (.ins n (putD f z fs))) else .bad
            | _ => .bad)
          | none => .bad
        | none => .bad) else .bad
    | _ => .bad)
  | _ => .bad
theorem vs_fldA {op : Operator} {rd : V → V → Hp → VK → Prop} {gg : D → D → Option D} {n f : Str} {fl : List Str} {fe : M D} (hop : InOp X op rd) (hg : AugOk X W rd gg) (cv : ClsV X.K X.mg n fl) (ho : VE X W o fo) (he : VE X W e fe) (hf : f ∈ fl := by decide +kernel) : VS X W (.AugAssign (.Attribute o f pos') op e pos) (sFldA n f gg fo fe) := PSof (ps_fldaug ho he hop) fun D₀ σ H ⟨b, F, c, env, st, e1, e2, r, p⟩ =>
  sE_at e1 e2 r p fun v d env1 st1 F1 c1 H1 s1 r1 rp1 p1 => by
    split at p1
    · rename_i m
      split at p1
      · rename_i n' fs es
        split at p1
        · rename_i en
          subst en
          split at p1
          · rename_i x ex
            obtain ⟨q, rfl, hc, C, dx, vfs, k1, k2, k3, rps⟩ := r1.cell rp1 es
            have k1' := k1
            rw [e2] at k1'
            obtain ⟨xv, hxv, rpx⟩ := (look_of (f := f) vfs fs k3 rps).1 x ex
            refine ⟨q, C, dx, vfs, xv, rfl, k2, cv.cl C k1', cv.no C k1' f hf, hxv, sE_at e1 e2 r1 p1 fun u y env2 st2 F2 c2 H2 s2 r2 rp2 p2 => ?_⟩
            split at p2
            · rename_i z ez
              split at p2
              · rename_i n2 fs2 es2
                split at p2
                · rename_i hn
                  obtain ⟨en2, hl⟩ := hn
                  subst en2
                  have rr := (rp1.stp s2)
                  obtain ⟨q2, eq2, hc2, C2, dx2, vfs2, l1, l2, l3, rps2⟩ := r2.cell rr es2
                  cases eq2
                  have eC : C2 = C := by rw [k1] at l1; cases l1; rfl
                  subst eC
                  have rpx2 := rpx.stp s2
                  rw [e1, e2] at rpx2 rp2
                  refine hg F2 c2 H2 xv u x y z _ rpx2 rp2 ez fun w rw_ => ⟨dx2, vfs2, l2, by rw [len_of (K := X.K) (mg := X.mg) (F := F) (c := c) (H := H) l3]; exact hl, ?_⟩
                  obtain ⟨s4, r4⟩ := r2.cellUpd (o := .ins C2 dx2 (putF f w vfs2)) (x := .ins n2 (putD f z fs2)) hc2 fun s => ⟨C2, dx2, _, l1, upd_same, fst_put f w z vfs2 fs2 l3, snd_put (Rp.stp s (by rw [e1, e2]; exact rw_)) vfs2 fs2 l3 (rps2.stp s)⟩
                  exact PostS.here (P := fun fl _ _ F c σ H => FlOk b D₀ F c σ H fl) r4 (p2.stp s4)
                · exact p2.elim
              · exact p2.elim
            · exact p2.elim
          · exact p1.elim
        · exact p1.elim
      · exact p1.elim
    · exact p1.elim
/-! ### methods, instances -/
/-- a method m of the class n -/
structure MtV (P : Program) (w : World) (K : PySem.W.Frag) (mg : Str → Option Value) (base : Heap) (k : Nat) (n m : Str) (fr : Bool) (np : Nat) (mf : FM) : Prop where
  ex : ∃ C f fd ps, mg n = some (.ref C) ∧ Cls K C ∧ FnOk P w K mg base (L2.CX P w) k f fd ps (spV K mg fr np mf) ∧ Meth K C m f ∧ Binds K fd ps []
def eMeth (n m : Str) (mf : FM) (np : Nat) (fo : M D) (fs : M (List D)) : M D := fun env st => (fo env st).bind fun r env st => match r with
  | .ref q => (match st[q]? with
    | some (.ins n' fl) => if n' = n ∧ fl.lookup m = none then (fs env st).bind fun ds env st => if ds.length + 1 = np then callR mf (.ref q :: ds) env st else .bad else .bad
    | _ => .bad)
  | _ => .bad
theorem ve_meth {k np : Nat} {n m : Str} {mf : FM} {apos : Pos} {pl : Sem Bool} (Mv : MtV X.prog X.w X.K X.mg X.base k n m false np mf) (hr : Room k X.A) (tk : Takes X W) (ho : VE X W o fo) (ha : VA X W (e :: es) fs)
    (hst : starEach (e :: es) X.env = (false, eval e X.env) :: starEach es X.env := by rfl) (hpl : (backTo pos (starEach es X.env)).any (·.1) = false := by rfl)
    (ht : eval (.Call (.Attribute o m apos) (e :: es) [] pos) X.env = (do
      let ov ← eval o X.env
      standAt apos.atName
      let (f, first) ← holding [ov] (getMethod ov m pl)
      callWith pos f first (backTo pos (starEach (e :: es) X.env)) (backToKw pos (keywordEach [] X.env))) := by rfl) : VE X W (.Call (.Attribute o m apos) (e :: es) [] pos) (eMeth n m mf np fo fs) := by
  obtain ⟨C, f, fd, ps, hC, cl, Fo, hm, hb⟩ := Mv.ex
  refine ⟨fun pins s σ H Q I ⟨b, F, c, env, st, e1, e2, r, p⟩ => ?_⟩
  refine PySem.W.methodCall_KW (pl := pl) (thn (ho.run pins s σ H _ I (tE_at e1 e2 r p (Q := fun x H1 => ∃ a dx vfs, x = .ref a ∧ H1 a = some (.ins C dx vfs) ∧ vfs.lookup m = none ∧ tA X W fs σ H1 fun vs H2 => spV X.K X.mg false np mf (x :: vs) H2 Q (WE W σ)) fun v d env1 st1 F1 c1 H1 s1 r1 rp1 p1 => ?_)) fun u s1 ⟨x, H1, I1, rx, a, dx, vfs, ex, ea, l, q⟩ => ?_) ht
  · split at p1
    · rename_i q
      split at p1
      · rename_i n' fl es
        split at p1
        · rename_i hn
          obtain ⟨en, hl⟩ := hn
          subst en
          obtain ⟨a, rfl, hc, C', dx, vfs, k1, k2, k3, rps⟩ := r1.cell rp1 es
          rw [e2, hC] at k1; cases k1
          refine ⟨a, dx, vfs, rfl, k2, (look_of (f := m) vfs fl k3 rps).2 hl, tA_at e1 e2 r1 p1 fun vs ds env2 st2 F2 c2 H2 s2 r2 rp2 p2 => ?_⟩
          split at p2
          · rename_i hnp
            exact call_of e1 e2 r2 (.cons (rp1.stp s2) rp2) (by simpa using hnp) p2 fun v d st F' c' H' s r rv q => q v rv
          · exact p2.elim
        · exact p1.elim
      · exact p1.elim
    · exact p1.elim
  · subst ex
    obtain rfl : u = Value.ref a := rx
    refine getmeth_ok I1 ea cl hm l ?_
    refine PySem.W.callWith_K (first := [.ref a]) (h₀ := X.base) I.ok.mod.kin hm.kp (thn (ha.run pos pins s1 σ H1 _ I1 q) fun us s2 ⟨vs, H2, I2, r, q2⟩ => ⟨I2.kIn, ?_⟩) hst hpl
    exact run_fnS (E := WE W) (us := .ref a :: us) (vs := .ref a :: vs) Fo hr hb (passAt tk σ) I2 (.cons rfl r) q2
def eMeth0 (n m : Str) (mf : FM) (np : Nat) (fo : M D) : M D := fun env st => (fo env st).bind fun r env st => match r with
  | .ref q => (match st[q]? with
    | some (.ins n' fl) => if n' = n ∧ fl.lookup m = none ∧ np = 1 then callR mf [.ref q] env st else .bad
    | _ => .bad)
  | _ => .bad
theorem ve_meth0 {k np : Nat} {n m : Str} {mf : FM} {apos : Pos} {pl : Sem Bool} (Mv : MtV X.prog X.w X.K X.mg X.base k n m false np mf) (hr : Room k X.A) (tk : Takes X W) (ho : VE X W o fo)
    (ht : eval (.Call (.Attribute o m apos) [] [] pos) X.env = (do
      let ov ← eval o X.env
      standAt apos.atName
      let (f, first) ← holding [ov] (getMethod ov m pl)
      callWith pos f first (backTo pos (starEach [] X.env)) (backToKw pos (keywordEach [] X.env))) := by rfl) : VE X W (.Call (.Attribute o m apos) [] [] pos) (eMeth0 n m mf np fo) := by
  obtain ⟨C, f, fd, ps, hC, cl, Fo, hm, hb⟩ := Mv.ex
  refine ⟨fun pins s σ H Q I ⟨b, F, c, env, st, e1, e2, r, p⟩ => ?_⟩
  refine PySem.W.methodCall_KW (pl := pl) (thn (ho.run pins s σ H _ I (tE_at e1 e2 r p (Q := fun x H1 => ∃ a dx vfs, x = .ref a ∧ H1 a = some (.ins C dx vfs) ∧ vfs.lookup m = none ∧ spV X.K X.mg false np mf [x] H1 Q (WE W σ)) fun v d env1 st1 F1 c1 H1 s1 r1 rp1 p1 => ?_)) fun u s1 ⟨x, H1, I1, rx, a, dx, vfs, ex, ea, l, q⟩ => ?_) ht
  · split at p1
    · rename_i q
      split at p1
      · rename_i n' fl es
        split at p1
        · rename_i hn
          obtain ⟨en, hl, hnp⟩ := hn
          subst en
          obtain ⟨a, rfl, hc, C', dx, vfs, k1, k2, k3, rps⟩ := r1.cell rp1 es
          rw [e2, hC] at k1; cases k1
          refine ⟨a, dx, vfs, rfl, k2, (look_of (f := m) vfs fl k3 rps).2 hl, ?_⟩
          exact call_of e1 e2 r1 (.cons rp1 .nil) (by simp [hnp]) p1 fun v d st F' c' H' s r rv q => q v rv
        · exact p1.elim
      · exact p1.elim
    · exact p1.elim
  · subst ex
    obtain rfl : u = Value.ref a := rx
    refine getmeth_ok I1 ea cl hm l ?_
    exact PySem.W.callWith_K0 (first := [.ref a]) I1.kIn hm.kp (run_fnS (E := WE W) (us := [.ref a]) (vs := [.ref a]) Fo hr hb (passAt tk σ) I1 (.cons rfl .nil) q)
/-- a class whose instances are made by its __init__ -/
structure MkV (P : Program) (w : World) (K : PySem.W.Frag) (mg : Str → Option Value) (base : Heap) (k : Nat) (n : Str) (np : Nat) (mf : FM) : Prop where
  ex : ∃ C f fd ps, mg n = some (.ref C) ∧ Mk K C f ∧ FnOk P w K mg base (L2.CX P w) k f fd ps (spV K mg false np mf) ∧ Binds K fd ps []
def eMake (n : Str) (mf : FM) (np : Nat) (fs : M (List D)) : M D := fun env st => (fs env st).bind fun ds env st => if ds.length + 1 = np then (callR mf (.ref st.length :: ds) env (st ++ [.ins n []])).bind fun d env st' => match d with
  | .non => .ok (.ref st.length) env st'
  | _ => .bad else .bad
theorem run_makeS {k : Nat} {f C : Addr} {fd : FuncData} {ps : List Str} {sp : Sp} {E : L2.St → XK} {pins : List (Addr × Obj)} {σ : L2.St} {H : Hp} {s : Shared} {Q : VK} {us : List Value} {vs : List V} (M : Mk X.K C f) (F : FnOk X.prog X.w X.K X.mg X.base (L2.CX X.prog X.w) k f fd ps sp) (hr : Room (k + 1) X.A) (hb : Binds X.K fd ps [])
    (hx : PassesAt (L2.CX X.prog X.w) X σ (E σ)) (I : Inv X pins σ H s) (r : Vals vs us)
    (h : ∀ x dx, H x = none → H dx = none → dx ≠ x → sp (.ref x :: vs) (upd (upd H dx (.own x)) x (.ins C dx [])) (fun v H2 => v = .non ∧ Q (.ref x) H2) (E σ)) :
    wpAny (model X.prog X.w) X.A (call (.ref C) us) (EP X pins σ Q) X.xe s := by
  have hq := h (s.heap.objs.size + 1) s.heap.objs.size (I.hok.fresh (Nat.le_succ _)) (I.hok.fresh (Nat.le_refl _)) (Nat.ne_of_lt (Nat.lt_succ_self _))
  have I2 := Inv.made (C := C) I
  have r2 : Vals (V.ref (s.heap.objs.size + 1) :: vs) (Value.ref (s.heap.objs.size + 1) :: us) := .cons rfl r
  have hl : (Value.ref (s.heap.objs.size + 1) :: us).length = ps.length := by
    have e := r2.length
    rw [F.len _ _ _ _ hq] at e
    exact e.symm
  have bb := hb _ (Value.ref (s.heap.objs.size + 1) :: us) I2.kIn (by rw [List.append_nil]; exact hl)
  rw [List.append_nil] at bb
  refine wpAny_call (make_map (f := f) I.kIn M.makes M.init (beq_iff_eq.mp M.fn) (codeAny_mono (F.run _ X.stack _ _ ⟨Value.ref (s.heap.objs.size + 1) :: us, []⟩ (Value.ref (s.heap.objs.size + 1) :: us) _ _ (E σ) (hr.make C us [])
    (I2.env0.make C us []) bb r2 hq) fun r s' hq' => ?_))
  cases r with
  | error e => exact hx pins _ _ e s' I2 hq'
  | ok fl =>
    cases fl with
    | ret u =>
      obtain ⟨v, H', I3, rv, ev, q3⟩ := I2.after hq'
      subst ev
      exact ⟨rv, ⟨V.ref (s.heap.objs.size + 1), H', I3, rfl, q3⟩⟩
    | next => exact False.elim hq'
    | brk => exact False.elim hq'
    | cont => exact False.elim hq'
theorem ve_make {k np : Nat} {n : Str} {mf : FM} {p : Pos} (Mv : MkV X.prog X.w X.K X.mg X.base k n np mf) (hr : Room (k + 1) X.A) (tk : Takes X W) (ha : VA X W (e :: es) fs) (hg : Gl X n := by rfl) (hdb : (n == ("__debug__" : Str)) = false := by decide)
    (he : starEach (e :: es) X.env = (false, eval e X.env) :: starEach es X.env := by rfl) (hpl : (backTo pos (starEach es X.env)).any (·.1) = false := by rfl) : VE X W (.Call (.Name n p) (e :: es) [] pos) (eMake n mf np fs) := by
  obtain ⟨C, f, fd, ps, hC, mk, Fo, hb⟩ := Mv.ex
  refine ⟨fun pins s σ H Q I ⟨b, F, c, env, st, e1, e2, r, p⟩ => ?_⟩
  refine wpAny_Call_Name_kw (ld_glob I hg hC ?_ hdb)
  refine PySem.W.callWith_K (h₀ := X.base) I.ok.mod.kin mk.kp (thn (ha.run pos pins s σ H _ I (tA_at e1 e2 r p (Q := fun vs H1 => ∀ x dx, H1 x = none → H1 dx = none → dx ≠ x → spV X.K X.mg false np mf (.ref x :: vs) (upd (upd H1 dx (.own x)) x (.ins C dx [])) (fun v H2 => v = .non ∧ Q (.ref x) H2) (WE W σ))
    fun vs ds env1 st1 F1 c1 H1 s1 r1 rp1 p1 x dx hx hdx hne => ?_)) fun us s1 ⟨vs, H1, I1, r, q⟩ => ⟨I1.kIn, run_makeS (E := WE W) mk Fo hr hb (passAt tk σ) I1 r q⟩) he hpl
  split at p1
  · rename_i hnp
    obtain ⟨s2, r2⟩ := r1.newO hdx (.own x)
    have hx2 : upd H1 dx (.own x) x = none := by rw [upd_ne (Ne.symm hne)]; exact hx
    obtain ⟨s3, r3, rp3⟩ := r2.cellNew (x := .ins n []) (o := .ins C dx []) hx2 fun s => ⟨C, dx, [], by rw [e2]; exact hC, upd_same, rfl, .nil⟩
    exact call_of e1 e2 r3 (.cons rp3 (rp1.stp (s2.trans s3))) (by simpa using hnp) (Post.bind (Post.stp (s2.trans s3) p1)) fun v d st F' c' H' s r rv q => by
      dsimp only at q
      split at q
      · cases rv
        exact ⟨rfl, Post.here r q _ (rp3.stp s)⟩
      · exact q.elim
  · exact p1.elim
end
end VE

namespace VE
open PySem PySem.Spec PyProof.Rows L2
section
variable {X : Cx} {W : WX} {e a o : Expr} {es : List Expr} {pos pos' p : Pos} {fa fb fo fi : M D} {fs : M (List D)} {x : Str}
/-! ### built-in functions by their values -/
def eBlt (g : List D → M D) (fs : M (List D)) : M D := fun env st => (fs env st).bind fun ds env st => g ds env st
def CallOk (X : Cx) (W : WX) (r : List V → Hp → VK → Prop) (g : List D → M D) : Prop := ∀ (b : Bs) (F : Addr → Prop) (c : List Addr) (env : EnvD) (st : Sto) (σ : L2.St) (H : Hp) (vs : List V) (ds : List D) (Q : VK), b.K = X.K → b.mg = X.mg → Rel b F c env st σ H →
  Rps b.K b.mg F c H vs ds → Post b W F c σ H (fun d _ _ F' c' H' => ∀ v, Rp b.K b.mg F' c' H' v d → Q v H') (g ds env st) → r vs H Q
def CallOkF (X : Cx) (W : WX) (r : List V → Hp → VK → Prop) (g : List D → M D) : Prop := ∀ (b : Bs) (F : Addr → Prop) (c : List Addr) (env : EnvD) (st : Sto) (σ : L2.St) (H : Hp) (vs : List V) (ds : List D) (Q : VK), b.K = X.K → b.mg = X.mg → Rel b F c env st σ H →
  Rps b.K b.mg F c H vs ds → Post b W F c σ H (fun d env _ F c H' => ∀ a, ¬ F a → a ∉ c → b.H0 a = none → (∀ i, ¬ OwnA env σ i a) → OwnAt b.K b.mg F c H' a d → Q (.ref a) H') (g ds env st) → r vs H Q
theorem tCB_of {r : List V → Hp → VK → Prop} {g : List D → M D} (hg : CallOk X W r g) : ∀ σ H Q, tE X W (eBlt g fs) σ H Q → tCB r (tA X W fs) σ H Q := fun σ H Q ⟨b, F, c, env, st, e1, e2, r0, p⟩ =>
  tA_at e1 e2 r0 p fun vs ds env1 st1 F1 c1 H1 s1 r1 rp1 p1 => hg b F1 c1 env1 st1 σ H1 vs ds Q e1 e2 r1 rp1 p1
theorem tCB_ofF {r : List V → Hp → VK → Prop} {g : List D → M D} (hg : CallOkF X W r g) : ∀ σ H Q, tF X W (eBlt g fs) σ H Q → tCB r (tA X W fs) σ H Q := fun σ H Q ⟨b, F, c, env, st, e1, e2, r0, p⟩ =>
  tA_at e1 e2 r0 p fun vs ds env1 st1 F1 c1 H1 s1 r1 rp1 p1 => hg b F1 c1 env1 st1 σ H1 vs ds Q e1 e2 r1 rp1 p1
theorem ve_blt {id : String} {r : List V → Hp → VK → Prop} {g : List D → M D} (hc : CallR X (.builtin id) r) (hg : CallOk X W r g) (hm : X.mg x = none) (hv : bootBuiltins x = some (.builtin id)) (ha : VA X W (e :: es) fs) (hgl : Gl X x := by rfl) (hn : x ≠ "__name__" := by decide) (hdb : (x == ("__debug__" : Str)) = false := by decide)
    (he : starEach (e :: es) X.env = (false, eval e X.env) :: starEach es X.env := by rfl) (hpl : (backTo pos (starEach es X.env)).any (·.1) = false := by rfl) : VE X W (.Call (.Name x p) (e :: es) [] pos) (eBlt g fs) := PEof (pe_callB hc hgl hm hv ha hn hdb he hpl) (tCB_of hg)
theorem ve_ty {T : String} {r : List V → Hp → VK → Prop} {g : List D → M D} (hc : CallR X (.type T) r) (hg : CallOk X W r g) (hm : X.mg x = none) (hv : bootBuiltins x = some (.type T)) (ha : VA X W (e :: es) fs) (hgl : Gl X x := by rfl) (hn : x ≠ "__name__" := by decide) (hdb : (x == ("__debug__" : Str)) = false := by decide)
    (he : starEach (e :: es) X.env = (false, eval e X.env) :: starEach es X.env := by rfl) (hpl : (backTo pos (starEach es X.env)).any (·.1) = false := by rfl) : VE X W (.Call (.Name x p) (e :: es) [] pos) (eBlt g fs) := PEof (pe_callTy hc hgl hm hv ha hn hdb he hpl) (tCB_of hg)
theorem vf_blt {id : String} {r : List V → Hp → VK → Prop} {g : List D → M D} (hc : CallR X (.builtin id) r) (hg : CallOkF X W r g) (hm : X.mg x = none) (hv : bootBuiltins x = some (.builtin id)) (ha : VA X W (e :: es) fs) (hgl : Gl X x := by rfl) (hn : x ≠ "__name__" := by decide) (hdb : (x == ("__debug__" : Str)) = false := by decide)
    (he : starEach (e :: es) X.env = (false, eval e X.env) :: starEach es X.env := by rfl) (hpl : (backTo pos (starEach es X.env)).any (·.1) = false := by rfl) : VF X W (.Call (.Name x p) (e :: es) [] pos) (eBlt g fs) := PEof (pe_callB hc hgl hm hv ha hn hdb he hpl) (tCB_ofF hg)
theorem vf_ty {T : String} {r : List V → Hp → VK → Prop} {g : List D → M D} (hc : CallR X (.type T) r) (hg : CallOkF X W r g) (hm : X.mg x = none) (hv : bootBuiltins x = some (.type T)) (ha : VA X W (e :: es) fs) (hgl : Gl X x := by rfl) (hn : x ≠ "__name__" := by decide) (hdb : (x == ("__debug__" : Str)) = false := by decide)
    (he : starEach (e :: es) X.env = (false, eval e X.env) :: starEach es X.env := by rfl) (hpl : (backTo pos (starEach es X.env)).any (·.1) = false := by rfl) : VF X W (.Call (.Name x p) (e :: es) [] pos) (eBlt g fs) := PEof (pe_callTy hc hgl hm hv ha hn hdb he hpl) (tCB_ofF hg)
/-- a function of the values alone -/
def b1 (g : D → Option D) : List D → M D := fun ds => match ds with
  | [d] => ret (g d)
  | _ => fun _ _ => .bad
theorem callOk_1 {r : List V → Hp → VK → Prop} {g : D → Option D} (h : ∀ (F : Addr → Prop) (c : List Addr) (H : Hp) (x : V) (dx d : D) (Q : VK), Rp X.K X.mg F c H x dx → g dx = some d → (∀ v, Rp X.K X.mg F c H v d → Q v H) → r [x] H Q) : CallOk X W r (b1 g) := by
  intro b F c env st σ H vs ds Q e1 e2 r0 rp p
  unfold b1 at p
  split at p
  · cases rp with
    | cons hx t =>
      cases t
      unfold ret at p
      split at p
      · rename_i d ed
        rw [e1, e2] at hx
        exact h F c H _ _ d Q hx ed fun v hv => Post.here r0 p v (by rw [e1, e2]; exact hv)
      · exact p.elim
  · exact p.elim
theorem callOkF_1 {r : List V → Hp → VK → Prop} {g : D → Option D} (h : ∀ (F : Addr → Prop) (c : List Addr) (H : Hp) (x : V) (dx d : D) (Q : VK), Rp X.K X.mg F c H x dx → g dx = some d →
    (∀ p o, H p = none → (∀ F' : Addr → Prop, Stp F c H F' c (upd H p o) → OwnAt X.K X.mg F' c (upd H p o) p d) → Q (.ref p) (upd H p o)) → r [x] H Q) : CallOkF X W r (b1 g) := by
  intro b F c env st σ H vs ds Q e1 e2 r0 rp p
  unfold b1 at p
  split at p
  · cases rp with
    | cons hx t =>
      cases t
      unfold ret at p
      split at p
      · rename_i d ed
        rw [e1, e2] at hx
        exact h F c H _ _ d Q hx ed fun q o hq ho => fresh_of r0 p q o hq (by rw [e1, e2]; exact ho)
      · exact p.elim
  · exact p.elim
/-- len -/
def lenD : D → Option D
  | .lst xs => some (.int xs.length)
  | .tup xs => some (.int xs.length)
  | .scr xs => some (.int xs.length)
  | .str z => if z.length ≤ 16777216 then some (.int z.length) else none
  | _ => none
theorem lenR : CallR X (.builtin "len") (fun xs H Q => (∃ p ys, xs = [.ref p] ∧ (SqL X.K H p ys ∨ SqT X.K H p ys) ∧ Q (.int ys.length) H) ∨ (∃ z, xs = [.str z] ∧ z.length ≤ sizeLine ∧ Q (.int z.length) H)) := CallR.or call_len_seq call_len_str
theorem ok_len : CallOk X W (fun xs H Q => (∃ p ys, xs = [.ref p] ∧ (SqL X.K H p ys ∨ SqT X.K H p ys) ∧ Q (.int ys.length) H) ∨ (∃ z, xs = [.str z] ∧ z.length ≤ sizeLine ∧ Q (.int z.length) H)) (b1 lenD) := callOk_1 fun F c H x dx d Q hx e q => by
  unfold lenD at e
  split at e
  · cases e
    cases hx with
    | lst f h r => exact .inl ⟨_, _, rfl, .inl (SqL.of h), q _ (by rw [r.length]; exact .int _)⟩
  · cases e
    cases hx with
    | tup h r => exact .inl ⟨_, _, rfl, .inr h.sq, q _ (by rw [r.length]; exact .int _)⟩
  · cases e
    cases hx with
    | scr h => exact .inl ⟨_, _, rfl, .inl h.sq, q _ (by rw [List.length_map]; exact .int _)⟩
  · cases hx
    split at e
    · cases e; exact .inr ⟨_, rfl, by rw [sizeLine_eq]; assumption, q _ (.int _)⟩
    · cases e
  · cases e
theorem ve_len (hm : X.mg "len" = none) (ha : VE X W e fa) (hgl : Gl X "len" := by rfl) (hs : starEach [e] X.env = (false, eval e X.env) :: starEach [] X.env := by rfl) : VE X W (.Call (.Name "len" p) [e] [] pos) (eBlt (b1 lenD) (eCons fa eNil)) := ve_blt lenR ok_len hm PySem.boot_len (va_cons ha va_nil hs) hgl (by decide) (by decide) hs
/-- int -/
def intD : D → Option D
  | .int i => some (.int i)
  | .bl k => some (.int (if k then 1 else 0))
  | .str z => if z.length ≤ 640 then (PySem.intText? z).map .int else none
  | _ => none
theorem intR : CallR X (.type "int") (fun xs H Q => ((∃ i, xs = [.int i] ∧ Q (.int i) H) ∨ ∃ k, xs = [.bl k] ∧ Q (.int (if k then 1 else 0)) H) ∨ (∃ a n, xs = [.str a] ∧ PySem.intText? a = some n ∧ a.length ≤ 640 ∧ Q (.int n) H)) := CallR.or call_int1 call_int_str
theorem ok_int : CallOk X W (fun xs H Q => ((∃ i, xs = [.int i] ∧ Q (.int i) H) ∨ ∃ k, xs = [.bl k] ∧ Q (.int (if k then 1 else 0)) H) ∨ (∃ a n, xs = [.str a] ∧ PySem.intText? a = some n ∧ a.length ≤ 640 ∧ Q (.int n) H)) (b1 intD) := callOk_1 fun F c H x dx d Q hx e q => by
  unfold intD at e
  split at e
  · cases hx; cases e; exact .inl (.inl ⟨_, rfl, q _ (.int _)⟩)
  · cases hx; cases e; exact .inl (.inr ⟨_, rfl, q _ (.int _)⟩)
  · rename_i z
    cases hx
    split at e
    · cases hz : PySem.intText? z with
      | none => rw [hz] at e; cases e
      | some n => rw [hz] at e; cases e; exact .inr ⟨_, _, rfl, hz, by assumption, q _ (.int _)⟩
    · cases e
  · cases e
theorem ve_intc (hm : X.mg "int" = none) (ha : VE X W e fa) (hgl : Gl X "int" := by rfl) (hs : starEach [e] X.env = (false, eval e X.env) :: starEach [] X.env := by rfl) : VE X W (.Call (.Name "int" p) [e] [] pos) (eBlt (b1 intD) (eCons fa eNil)) := ve_ty intR ok_int hm (by decide +kernel) (va_cons ha va_nil hs) hgl (by decide) (by decide) hs
/-- str of an int -/
def strD : D → Option D
  | .int i => if i.natAbs.log2 < 1920 then some (.str (toString i)) else none
  | _ => none
theorem ok_str : CallOk X W (fun xs H Q => ∃ i, xs = [.int i] ∧ i.natAbs.log2 < 1920 ∧ Q (.str (toString i)) H) (b1 strD) := callOk_1 fun F c H x dx d Q hx e q => by
  unfold strD at e
  split at e
  · cases hx
    split at e
    · cases e; exact ⟨_, rfl, by assumption, q _ (.str _)⟩
    · cases e
  · cases e
theorem ve_strc (hm : X.mg "str" = none) (ha : VE X W e fa) (hgl : Gl X "str" := by rfl) (hs : starEach [e] X.env = (false, eval e X.env) :: starEach [] X.env := by rfl) : VE X W (.Call (.Name "str" p) [e] [] pos) (eBlt (b1 strD) (eCons fa eNil)) := ve_ty call_str_int ok_str hm (by decide +kernel) (va_cons ha va_nil hs) hgl (by decide) (by decide) hs
/-! lists of one kind -/
def intsOf : List D → Option (List Int)
  | [] => some []
  | .int i :: ds => (intsOf ds).map (i :: ·)
  | _ => none
def strsOf : List D → Option (List Str)
  | [] => some []
  | .str i :: ds => (strsOf ds).map (i :: ·)
  | _ => none
def blsOf : List D → Option (List Bool)
  | [] => some []
  | .bl i :: ds => (blsOf ds).map (i :: ·)
  | _ => none
section
variable {K : PySem.W.Frag} {mg : Str → Option Value} {F : Addr → Prop} {c : List Addr} {H : Hp}
theorem Rps.ints : ∀ {vs : List V} {ds : List D} {ns : List Int}, Rps K mg F c H vs ds → intsOf ds = some ns → vs = ns.map V.int
  | _, _, _, .nil, e => by cases e; rfl
  | _, _, _, .cons h t, e => by
    cases h with
    | int i =>
      obtain ⟨ms, hm, rfl⟩ := Option.map_eq_some_iff.mp (show (intsOf _).map (i :: ·) = some _ from e)
      rw [Rps.ints t hm]; rfl
    | _ => cases e
theorem Rps.strs : ∀ {vs : List V} {ds : List D} {ns : List Str}, Rps K mg F c H vs ds → strsOf ds = some ns → vs = ns.map V.str
  | _, _, _, .nil, e => by cases e; rfl
  | _, _, _, .cons h t, e => by
    cases h with
    | str i =>
      obtain ⟨ms, hm, rfl⟩ := Option.map_eq_some_iff.mp (show (strsOf _).map (i :: ·) = some _ from e)
      rw [Rps.strs t hm]; rfl
    | _ => cases e
theorem Rps.bls : ∀ {vs : List V} {ds : List D} {ns : List Bool}, Rps K mg F c H vs ds → blsOf ds = some ns → vs = ns.map V.bl
  | _, _, _, .nil, e => by cases e; rfl
  | _, _, _, .cons h t, e => by
    cases h with
    | bl i =>
      obtain ⟨ms, hm, rfl⟩ := Option.map_eq_some_iff.mp (show (blsOf _).map (i :: ·) = some _ from e)
      rw [Rps.bls t hm]; rfl
    | _ => cases e
end
@[simp] theorem intsOf_map : ∀ ns : List Int, intsOf (ns.map D.int) = some ns
  | [] => rfl
  | n :: ns => by show (intsOf (ns.map D.int)).map (n :: ·) = _; rw [intsOf_map ns]; rfl
@[simp] theorem strsOf_map : ∀ ns : List Str, strsOf (ns.map D.str) = some ns
  | [] => rfl
  | n :: ns => by show (strsOf (ns.map D.str)).map (n :: ·) = _; rw [strsOf_map ns]; rfl
@[simp] theorem blsOf_map : ∀ ns : List Bool, blsOf (ns.map D.bl) = some ns
  | [] => rfl
  | n :: ns => by show (blsOf (ns.map D.bl)).map (n :: ·) = _; rw [blsOf_map ns]; rfl
/-- all, any, sum of a list -/
def allD : D → Option D
  | .lst xs => (blsOf xs).map fun bs => .bl (bs.all id)
  | _ => none
def anyD : D → Option D
  | .lst xs => (blsOf xs).map fun bs => .bl (bs.any id)
  | _ => none
def sumD : D → Option D
  | .lst xs => (intsOf xs).map fun bs => .int bs.sum
  | _ => none
theorem ok_all : CallOk X W (rAll X.K) (b1 allD) := callOk_1 fun F c H x dx d Q hx e q => by
  unfold allD at e
  split at e
  · cases hx with
    | lst f h r =>
      obtain ⟨bs, hb, rfl⟩ := Option.map_eq_some_iff.mp e
      rw [r.bls hb] at h
      exact ⟨_, bs, rfl, SqL.of h, q _ (.bl _)⟩
  · cases e
theorem ok_any : CallOk X W (rAny X.K) (b1 anyD) := callOk_1 fun F c H x dx d Q hx e q => by
  unfold anyD at e
  split at e
  · cases hx with
    | lst f h r =>
      obtain ⟨bs, hb, rfl⟩ := Option.map_eq_some_iff.mp e
      rw [r.bls hb] at h
      exact ⟨_, bs, rfl, SqL.of h, q _ (.bl _)⟩
  · cases e
theorem ok_sum : CallOk X W (rSum X.K) (b1 sumD) := callOk_1 fun F c H x dx d Q hx e q => by
  unfold sumD at e
  split at e
  · cases hx with
    | lst f h r =>
      obtain ⟨bs, hb, rfl⟩ := Option.map_eq_some_iff.mp e
      rw [r.ints hb] at h
      exact ⟨_, bs, rfl, SqL.of h, q _ (.int _)⟩
  · cases e
theorem ve_all (hc : X.calm = true) (hm : X.mg "all" = none) (ha : VE X W e fa) (hgl : Gl X "all" := by rfl) (hs : starEach [e] X.env = (false, eval e X.env) :: starEach [] X.env := by rfl) : VE X W (.Call (.Name "all" p) [e] [] pos) (eBlt (b1 allD) (eCons fa eNil)) := ve_blt (cr_all hc) ok_all hm PyProof.Rows.boot_all (va_cons ha va_nil hs) hgl (by decide) (by decide) hs
theorem ve_any (hc : X.calm = true) (hm : X.mg "any" = none) (ha : VE X W e fa) (hgl : Gl X "any" := by rfl) (hs : starEach [e] X.env = (false, eval e X.env) :: starEach [] X.env := by rfl) : VE X W (.Call (.Name "any" p) [e] [] pos) (eBlt (b1 anyD) (eCons fa eNil)) := ve_blt (cr_any hc) ok_any hm PyProof.Rows.boot_any (va_cons ha va_nil hs) hgl (by decide) (by decide) hs
theorem ve_sum (hc : X.calm = true) (hm : X.mg "sum" = none) (ha : VE X W e fa) (hgl : Gl X "sum" := by rfl) (hs : starEach [e] X.env = (false, eval e X.env) :: starEach [] X.env := by rfl) : VE X W (.Call (.Name "sum" p) [e] [] pos) (eBlt (b1 sumD) (eCons fa eNil)) := ve_blt (cr_sum hc) ok_sum hm PyProof.Rows.boot_sum (va_cons ha va_nil hs) hgl (by decide) (by decide) hs
/-! list(..), tuple(..) -/
def listD : D → Option D
  | .lst xs => some (.lst xs)
  | .tup xs => some (.lst xs)
  | _ => none
def tupD : D → Option D
  | .lst xs => some (.tup xs)
  | .tup xs => some (.tup xs)
  | _ => none
theorem ok_list : CallOkF X W (fun xs H Q => ∃ p ys, xs = [.ref p] ∧ (SqL X.K H p ys ∨ SqT X.K H p ys) ∧ ∀ l, H l = none → Q (.ref l) (upd H l (.lst ys))) (b1 listD) := callOkF_1 fun F c H x dx d Q hx e q => by
  unfold listD at e
  split at e
  · cases e
    cases hx with
    | lst f h r => exact ⟨_, _, rfl, .inl (SqL.of h), fun l hl => q l _ hl fun F' s => ⟨_, upd_same, r.stp s⟩⟩
  · cases e
    cases hx with
    | tup h r => exact ⟨_, _, rfl, .inr h.sq, fun l hl => q l _ hl fun F' s => ⟨_, upd_same, r.stp s⟩⟩
  · cases e
theorem vf_list (hm : X.mg "list" = none) (ha : VE X W e fa) (hgl : Gl X "list" := by rfl) (hs : starEach [e] X.env = (false, eval e X.env) :: starEach [] X.env := by rfl) : VF X W (.Call (.Name "list" p) [e] [] pos) (eBlt (b1 listD) (eCons fa eNil)) := vf_ty call_list_of ok_list hm (by decide +kernel) (va_cons ha va_nil hs) hgl (by decide) (by decide) hs
theorem ok_tuple : CallOk X W (fun xs H Q => ∃ p ys, xs = [.ref p] ∧ ((SqL X.K H p ys ∧ ∀ l, H l = none → Q (.ref l) (upd H l (.tup ys))) ∨ (SqT X.K H p ys ∧ Q (.ref p) H))) (b1 tupD) := by
  intro b F c env st σ H vs ds Q e1 e2 r0 rp p
  unfold b1 at p
  split at p
  · cases rp with
    | cons hx t =>
      cases t
      unfold ret tupD at p
      split at p
      · rename_i d ed
        split at ed
        · cases ed
          cases hx with
          | lst f h r => exact ⟨_, _, rfl, .inl ⟨SqL.of h, fun l hl => by
              obtain ⟨s2, r2⟩ := r0.newF hl (.tup _)
              exact p _ _ _ s2 r2 _ (.tup (.inl ⟨.inr rfl, .inl upd_same⟩) (r.stp s2))⟩⟩
        · cases ed
          cases hx with
          | tup h r => exact ⟨_, _, rfl, .inr ⟨e1 ▸ h.sq, Post.here r0 p _ (.tup h r)⟩⟩
        · cases ed
      · exact p.elim
  · exact p.elim
theorem ve_tuple (hm : X.mg "tuple" = none) (ha : VE X W e fa) (hgl : Gl X "tuple" := by rfl) (hs : starEach [e] X.env = (false, eval e X.env) :: starEach [] X.env := by rfl) : VE X W (.Call (.Name "tuple" p) [e] [] pos) (eBlt (b1 tupD) (eCons fa eNil)) := ve_ty call_tuple_of ok_tuple hm (by decide +kernel) (va_cons ha va_nil hs) hgl (by decide) (by decide) hs
/-! isinstance of plain values and built-in types -/
def tyD : D → Option String
  | .non => some "NoneType"
  | .bl _ => some "bool"
  | .int _ => some "int"
  | .str _ => some "str"
  | .lst _ => some "list"
  | .tup _ => some "tuple"
  | _ => none
def isiD (T : String) (d : D) : Option D := (tyD d).bind fun t => (kitB t T).map .bl
theorem Rp.tyx {K : PySem.W.Frag} {mg : Str → Option Value} {F : Addr → Prop} {c : List Addr} {H : Hp} {v : V} {d : D} {t : String} (h : Rp K mg F c H v d) (e : tyD d = some t) : TyX K H v (.type t) := by
  cases h with
  | non => cases e; exact .base .non
  | bl b => cases e; exact .base (.bl b)
  | int b => cases e; exact .base (.int b)
  | str b => cases e; exact .base (.str b)
  | lst f h r => cases e; exact .base (.lst h)
  | tup h r =>
    cases e
    rcases h with ⟨_, h | ⟨o, h⟩⟩ | ⟨o, its, n, h1, h2, _⟩
    · exact .base (.tup h)
    · exact .fTuple h
    · exact .kTuple h1 h2
  | scr => cases e
  | obj => cases e
  | ref => cases e
theorem ve_isi {T : Str} {t : String} {p2 : Pos} (hm : X.mg "isinstance" = none) (hmT : X.mg T = none) (hvT : bootBuiltins T = some (.type t)) (ha : VE X W e fa) (hgl : Gl X "isinstance" := by rfl) (hglT : Gl X T := by rfl) (hn : T ≠ "__name__" := by decide) (hdb : (T == ("__debug__" : Str)) = false := by decide)
    (hs : starEach [e, .Name T p2] X.env = (false, eval e X.env) :: starEach [.Name T p2] X.env := by rfl) (hs2 : starEach [.Name T p2] X.env = (false, eval (.Name T p2) X.env) :: starEach [] X.env := by rfl) (hpl : (backTo pos (starEach [.Name T p2] X.env)).any (·.1) = false := by rfl) : VE X W (.Call (.Name "isinstance" p) [e, .Name T p2] [] pos) (eUn (isiD t) fa) := by
  refine PEof (pe_callB call_isi hgl hm PyProof.Rows.boot_isinstance (pa_cons ha (pa_cons (pe_bltn (v := .ty t) hglT hmT hvT rfl hn hdb) pa_nil hs2) hs) (by decide) (by decide) hs hpl) fun σ H Q ⟨b, F, c, env, st, e1, e2, r, pp⟩ => tE_at e1 e2 r pp fun v d env1 st1 F1 c1 H1 s1 r1 rp1 p1 => ?_
  unfold ret isiD at p1
  split at p1
  · rename_i d' ed
    obtain ⟨t', ht, h2⟩ := Option.bind_eq_some_iff.mp ed
    obtain ⟨k, hk, rfl⟩ := Option.map_eq_some_iff.mp h2
    exact ⟨v, .ty t, .type t', .type t, k, rfl, .ty t, e1 ▸ rp1.tyx ht, kit_ty hk, Post.here r1 p1 _ (.bl _)⟩
  · exact p1.elim
/-! ### slices -/
def cutD (xs : List D) (lo hi : Option Int) : List D := (xs.drop (HT.sIx xs.length 0 lo)).take (HT.sIx xs.length xs.length hi - HT.sIx xs.length 0 lo)
theorem Rps.cut {K : PySem.W.Frag} {mg : Str → Option Value} {F : Addr → Prop} {c : List Addr} {H : Hp} {vs : List V} {ds : List D} (r : Rps K mg F c H vs ds) (lo hi : Option Int) : Rps K mg F c H (cutV vs lo hi) (cutD ds lo hi) := by
  unfold cutV cutD
  rw [r.length]
  exact (r.drop _).take _
/-- a slice's bounds -/
def VO (X : Cx) (W : WX) (e : Option Expr) (f : M (Option Int)) : Prop := PO X e (fun σ H Q => At X W f σ H fun _ t _ _ _ _ H' => Q t H')
def oNone : M (Option Int) := fun env st => .ok none env st
def oSome (fa : M D) : M (Option Int) := fun env st => (fa env st).bind fun d env st => match d with
  | .int i => .ok (some i) env st
  | _ => .bad
theorem vo_none : VO X W none oNone := ⟨fun pins s σ H Q I ⟨b, F, c, env, st, e1, e2, r, p⟩ => po_none.run pins s σ H Q I (Post.here r p)⟩
theorem vo_some (h : VE X W e fa) : VO X W (some e) (oSome fa) := ⟨fun pins s σ H Q I ⟨b, F, c, env, st, e1, e2, r, p⟩ => (po_some h).run pins s σ H Q I (tE_at e1 e2 r p fun v d env1 st1 F1 c1 H1 s1 r1 rp1 p1 => by
  split at p1
  · cases rp1; exact ⟨_, rfl, Post.here r1 p1⟩
  · exact p1.elim)⟩
def eSl (g : D → Option Int → Option Int → Option D) (fa : M D) (fl fh : M (Option Int)) : M D := fun env st => (fa env st).bind fun d env st => (fl env st).bind fun l env st => (fh env st).bind fun h env st => ret (g d l h) env st
theorem tO_at {β : Type} {b : Bs} {F : Addr → Prop} {c : List Addr} {env : EnvD} {st : Sto} {σ : L2.St} {H : Hp} {P : β → EnvD → Sto → (Addr → Prop) → List Addr → Hp → Prop} {f : M (Option Int)} {k : Option Int → M β} {Q : Option Int → Hp → Prop} (e1 : b.K = X.K) (e2 : b.mg = X.mg) (r : Rel b F c env st σ H) (p : Post b W F c σ H P ((f env st).bind k))
    (hq : ∀ t env' st' F' c' H', Stp F c H F' c' H' → Rel b F' c' env' st' σ H' → Post b W F' c' σ H' P (k t env' st') → Q t H') : At X W f σ H (fun _ t _ _ _ _ H' => Q t H') :=
  ⟨b, F, c, env, st, e1, e2, r, (Post.bind p).mono fun t env' st' F' c' H' s r' q => hq t env' st' F' c' H' s r' q⟩
def slL : D → Option Int → Option Int → Option D
  | .lst xs, lo, hi => some (.lst (cutD xs lo hi))
  | _, _, _ => none
theorem vf_slL {lo hi : Option Expr} {fl fh : M (Option Int)} {p2 : Pos} (ha : VE X W e fa) (hl : VO X W lo fl) (hh : VO X W hi fh) : VF X W (.Subscript e (.Slice lo hi none p2) pos) (eSl slL fa fl fh) := PEof (pe_slice sl_list ha hl hh) fun σ H Q ⟨b, F, c, env, st, e1, e2, r, p⟩ =>
  tE_at e1 e2 r p fun v d env1 st1 F1 c1 H1 s1 r1 rp1 p1 => tO_at e1 e2 r1 p1 fun l env2 st2 F2 c2 H2 s2 r2 p2 => tO_at e1 e2 r2 p2 fun h env3 st3 F3 c3 H3 s3 r3 p3 => by
    unfold ret slL at p3
    split at p3
    · rename_i d' ed
      split at ed
      · cases ed
        cases rp1.stp (s2.trans s3) with
        | lst f hx rs => exact ⟨_, _, rfl, SqL.of hx, fun q hq => fresh_of r3 p3 q _ hq fun F' s => ⟨_, upd_same, (rs.cut l h).stp s⟩⟩
      · cases ed
    · exact p3.elim
def slT : D → Option Int → Option Int → Option D
  | .tup xs, lo, hi => if HT.sIx xs.length 0 lo = 0 ∧ HT.sIx xs.length xs.length hi = xs.length then none else some (.tup (cutD xs lo hi))
  | .str z, lo, hi => if z.length ≤ 16777216 then some (.str (cutS z lo hi)) else none
  | _, _, _ => none
theorem ve_slT {lo hi : Option Expr} {fl fh : M (Option Int)} {p2 : Pos} (ha : VE X W e fa) (hl : VO X W lo fl) (hh : VO X W hi fh) : VE X W (.Subscript e (.Slice lo hi none p2) pos) (eSl slT fa fl fh) := PEof (pe_slice (SlR.or sl_tup sl_str) ha hl hh) fun σ H Q ⟨b, F, c, env, st, e1, e2, r, p⟩ =>
  tE_at e1 e2 r p fun v d env1 st1 F1 c1 H1 s1 r1 rp1 p1 => tO_at e1 e2 r1 p1 fun l env2 st2 F2 c2 H2 s2 r2 p2 => tO_at e1 e2 r2 p2 fun h env3 st3 F3 c3 H3 s3 r3 p3 => by
    unfold ret slT at p3
    split at p3
    · rename_i d' ed
      split at ed
      · split at ed
        · cases ed
        · rename_i hn
          cases ed
          cases rp1.stp (s2.trans s3) with
          | tup hx rs => exact .inl ⟨_, _, rfl, e1 ▸ hx.sq, by rw [rs.length]; exact hn, fun q hq => by
              obtain ⟨s4, r4⟩ := r3.newF hq (.tup (cutV _ l h))
              exact p3 _ _ _ s4 r4 _ (.tup (.inl ⟨.inr rfl, .inl upd_same⟩) ((rs.cut l h).stp s4))⟩
      · split at ed
        · cases ed
          cases rp1
          exact .inr ⟨_, rfl, by rw [sizeLine_eq]; assumption, Post.here r3 p3 _ (.str _)⟩
        · cases ed
      · cases ed
    · exact p3.elim
/-- xs[::-1] -/
def revD : D → Option D
  | .lst xs => some (.lst xs.reverse)
  | _ => none
theorem vf_rev {k : Nat} {p1 p2 p3 : Pos} (ha : VE X W e fa) : VF X W (.Subscript e (.Slice none none (some (.UnaryOp .USub (.Constant (.int 1) k p1) p2)) p3) pos) (eUn revD fa) := PEof (pe_revL ha) fun σ H Q ⟨b, F, c, env, st, e1, e2, r, p⟩ =>
  tE_at e1 e2 r p fun v d env1 st1 F1 c1 H1 s1 r1 rp1 p1 => by
    unfold ret revD at p1
    split at p1
    · rename_i d' ed
      split at ed
      · cases ed
        cases rp1 with
        | lst f hx rs => exact ⟨_, _, rfl, SqL.of hx, fun q hq => fresh_of r1 p1 q _ hq fun F' s => ⟨_, upd_same, rs.reverse.stp s⟩⟩
      · cases ed
    · exact p1.elim
/-! ### methods of texts and lists -/
def eMs (g : Str → D → Option D) (fo fa : M D) : M D := fun env st => (fo env st).bind fun x env st => match x with
  | .str z => (fa env st).bind fun y env st => ret (g z y) env st
  | _ => .bad
def sIndexD (z : Str) : D → Option D
  | .str y => (Builtin.Str.occurrences z y 0 z.length 1).head?.map fun i => .int (i : Nat)
  | _ => none
theorem ve_sindex {apos : Pos} (ho : VE X W o fo) (ha : VE X W a fa) (hbase : attributeBase o "index" X.env (eval o X.env) = eval o X.env := by rfl)
    (hfew : ((backTo pos (starEach [a] X.env)).all (fun x => !x.1) && (backToKw pos (keywordEach [] X.env)).all (fun x => x.1.isSome)
      && decide (([a] : List Expr).length + ([] : List Keyword).length + (if ([] : List Keyword).isEmpty then 0 else 1) < 30)) = true := by rfl)
    (hline : (apos.endLine == pos.line) = true := by rfl) (hs : starEach [a] X.env = (false, eval a X.env) :: starEach [] X.env := by rfl) (hplain : (backTo pos (starEach [] X.env)).any (·.1) = false := by rfl) :
    VE X W (.Call (.Attribute o "index" apos) [a] [] pos) (eMs sIndexD fo fa) := PEof (pe_bm PySem.F.plainAttrs_str PySem.F.slot_str_index PySem.F.type_str_index mt_sindex ho (pa_cons ha pa_nil hs) hbase hfew hline hs hplain) fun σ H Q ⟨b, F, c, env, st, e1, e2, r, p⟩ =>
  tE_at e1 e2 r p fun v d env1 st1 F1 c1 H1 s1 r1 rp1 p1 => by
    split at p1
    · rename_i z
      cases rp1
      refine ⟨rfl, tE_at e1 e2 r1 p1 fun u y env2 st2 F2 c2 H2 s2 r2 rp2 p2 => ?_⟩
      unfold ret sIndexD at p2
      split at p2
      · rename_i d' ed
        split at ed
        · rename_i yy
          cases rp2
          cases hl : Builtin.Str.occurrences z yy 0 z.length 1 with
          | nil => rw [hl] at ed; cases ed
          | cons i rest => rw [hl] at ed; cases ed; exact ⟨z, yy, i, rest, rfl, rfl, hl, Post.here r2 p2 _ (.int _)⟩
        · cases ed
      · exact p2.elim
    · exact p1.elim
def joinD (z : Str) : D → Option D
  | .lst ys => (strsOf ys).bind fun ys => if (ys.map (·.length)).sum + ys.length * z.length ≤ 16777216 then some (.str (Txt.join z ys)) else none
  | _ => none
theorem ve_join {apos : Pos} (ho : VE X W o fo) (ha : VE X W a fa) (hs : starEach [a] X.env = [(false, eval a X.env)] := by rfl) (hbase : attributeBase o "join" X.env (eval o X.env) = eval o X.env := by rfl) (hline : (apos.endLine == pos.line) = true := by rfl) :
    VE X W (.Call (.Attribute o "join" apos) [a] [] pos) (eMs joinD fo fa) := PEof (pe_join ho ha hs hbase hline) fun σ H Q ⟨b, F, c, env, st, e1, e2, r, p⟩ =>
  tE_at e1 e2 r p fun v d env1 st1 F1 c1 H1 s1 r1 rp1 p1 => by
    split at p1
    · rename_i z
      cases rp1
      refine ⟨⟨z, rfl⟩, tE_at e1 e2 r1 p1 fun u y env2 st2 F2 c2 H2 s2 r2 rp2 p2 => ?_⟩
      unfold ret joinD at p2
      split at p2
      · rename_i d' ed
        split at ed
        · obtain ⟨ys, hy, h2⟩ := Option.bind_eq_some_iff.mp ed
          split at h2
          · rename_i hz
            cases h2
            cases rp2 with
            | lst f hx rs =>
              rw [rs.strs hy] at hx
              exact ⟨z, _, ys, rfl, rfl, .inl (SqL.of hx), hz, Post.here r2 p2 _ (.str _)⟩
          · cases h2
        · cases ed
      · exact p2.elim
    · exact p1.elim
/-! ### a list that a name alone holds: append, extend, x[i] = v, len -/
theorem Rel.ownUpd {b : Bs} {F : Addr → Prop} {c : List Addr} {env : EnvD} {st : Sto} {σ : L2.St} {H : Hp} (r : Rel b F c env st σ H) {i : Nat} {d d' : D} {ad : Addr} {o' : HO} (he : env[i]? = some (.ow d)) (hσ : σ[i]? = some (some (.ref ad))) (hx : Stp F c H F c (upd H ad o') → OwnAt b.K b.mg F c (upd H ad o') ad d') :
    Stp F c H F c (upd H ad o') ∧ Rel b F c (env.set i (.ow d')) st σ (upd H ad o') := by
  obtain ⟨nF, nc, n0, o, ho⟩ := r.own (i := i) ⟨d, he, hσ⟩
  have ne : ∀ y, y ≠ ad → upd H ad o' y = H y := fun y h => upd_ne h
  have s : Stp F c H F c (upd H ad o') := ⟨fun _ h => h, fun y z f e => by rw [ne y (fun q => nF (q ▸ f))]; exact e, [], (List.append_nil c).symm⟩
  have il : i < env.length := (List.getElem?_eq_some_iff.mp he).1
  have own : ∀ {j y}, OwnA (env.set i (.ow d')) σ j y → OwnA env σ j y := fun {j y} ⟨dd, e, e'⟩ => by
    by_cases q : i = j
    · subst q; exact ⟨d, he, e'⟩
    · rw [List.getElem?_set_ne q] at e; exact ⟨dd, e, e'⟩
  refine ⟨s, r.rc.stp s (fun y hf => ?_) (fun y hy => ne y fun q => nc (q ▸ hy)) r.rc.nf, by rw [List.length_set]; exact r.len, fun j sl e => ?_, fun j k y h1 h2 => r.ds j k y (own h1) (own h2), fun y z e hc => by rw [ne y fun q => by rw [q, n0] at e; cases e]; exact r.old y z e hc, r.new, r.nwc, r.f0, r.k0⟩
  · obtain ⟨z, e⟩ := r.rc.trk y hf
    exact ⟨z, s.keep y z hf e⟩
  · by_cases q : i = j
    · subst q
      rw [List.getElem?_set_self il] at e; cases e
      exact ⟨ad, hσ, nF, nc, n0, hx s⟩
    · rw [List.getElem?_set_ne q] at e
      have z := r.sl j sl e
      cases sl with
      | no => trivial
      | va d => obtain ⟨v, e', p⟩ := z; exact ⟨v, e', p.stp s⟩
      | ow d2 =>
        obtain ⟨y, e', p1, p2, p3, p4⟩ := z
        have hy : y ≠ ad := fun w => q (r.ds i j ad ⟨d, he, hσ⟩ ⟨d2, e, by rw [← w]; exact e'⟩)
        exact ⟨y, e', p1, p2, p3, p4.stp s (ne y hy)⟩
/-- x.append(e), x.extend(e) -/
def sApp (i : Nat) (g : List D → D → Option (List D)) (fa : M D) : M Fl := fun env st => match env[i]? with
  | some (.ow (.lst _)) => (fa env st).bind fun d env st => (match env[i]? with
    | some (.ow (.lst xs)) => (match g xs d with
      | some ys => .ok .nx (env.set i (.ow (.lst ys))) st
      | none => .bad)
    | _ => .bad)
  | _ => .bad
def appD (xs : List D) (d : D) : Option (List D) := if xs.length < 16777216 then some (xs ++ [d]) else none
def extD (xs : List D) : D → Option (List D)
  | .lst ys => if xs.length + ys.length ≤ 16777216 then some (xs ++ ys) else none
  | _ => none
theorem vs_app {i : Nat} {m : Str} {id : String} {r : V → List V → Hp → VK → Prop} {g : List D → D → Option (List D)} {apos p2 : Pos} (hslot : Slot "list" m id) (hty : typeOf (.builtin id) = pure (.type "method_descriptor")) (hm : MtR X id r)
    (hg : ∀ (F : Addr → Prop) (c : List Addr) (H : Hp) (ad : Addr) (vs : List V) (xs ys : List D) (v : V) (d : D) (Q : VK), H ad = some (.lst vs) → Rps X.K X.mg F c H vs xs → Rp X.K X.mg F c H v d → g xs d = some ys → (∀ ws, (∀ F' : Addr → Prop, Stp F c H F' c (upd H ad (.lst ws)) → Rps X.K X.mg F' c (upd H ad (.lst ws)) ws ys) → Q .non (upd H ad (.lst ws))) → r (.ref ad) [v] H Q)
    (ha : VE X W a fa) (hN : X.N[i]? = some x := by rfl) (hv : Vis X.env.scope x := by first | exact Or.inl rfl | exact Or.inr (Or.inl rfl) | exact Or.inr (Or.inr rfl)) (hd : (x == ("__debug__" : Str)) = false := by decide) (hcd : (x == ("__classdict__" : Str)) = false := by decide)
    (hbase : attributeBase (.Name x p) m X.env (eval (.Name x p) X.env) = eval (.Name x p) X.env := by rfl)
    (hfew : ((backTo p2 (starEach [a] X.env)).all (fun x => !x.1) && (backToKw p2 (keywordEach [] X.env)).all (fun x => x.1.isSome)
      && decide (([a] : List Expr).length + ([] : List Keyword).length + (if ([] : List Keyword).isEmpty then 0 else 1) < 30)) = true := by rfl)
    (hline : (apos.endLine == p2.line) = true := by rfl) (hs : starEach [a] X.env = (false, eval a X.env) :: starEach [] X.env := by rfl) (hplain : (backTo p2 (starEach [] X.env)).any (·.1) = false := by rfl)
    (hsw : swapsWith (.Call (.Attribute (.Name x p) m apos) [a] [] p2) none pos.line X.env = pure false := by rfl) : VS X W (.Expr (.Call (.Attribute (.Name x p) m apos) [a] [] p2) pos) (sApp i g fa) :=
  PSof (ps_expr (pe_bm PySem.F.plainAttrs_list hslot hty hm (pe_var hN hv hd hcd) (pa_cons ha pa_nil hs) hbase hfew hline hs hplain) hsw) fun D₀ σ H ⟨b, F, c, env, st, e1, e2, r0, p⟩ => by
    unfold sApp at p
    split at p
    · rename_i xs0 he0
      obtain ⟨ad, had, h1, h2, h3, vs0, h4, h5⟩ := r0.sl i _ he0
      refine ⟨_, had, .inl ⟨rfl, _, SqL.of h4⟩, sE_at e1 e2 r0 p fun v d env1 st1 F1 c1 H1 s1 r1 rp1 p1 => ?_⟩
      split at p1
      · rename_i xs he
        split at p1
        · rename_i ys hys
          obtain ⟨ad', had', k1, k2, k3, vs, k4, k5⟩ := r1.sl i _ he
          rw [had] at had'; cases had'
          rw [e1, e2] at k5 rp1
          refine hg F1 c1 H1 ad vs xs ys v d _ k4 k5 rp1 hys fun ws hw => ?_
          obtain ⟨s2, r2⟩ := r1.ownUpd (d' := .lst ys) (o' := .lst ws) he had fun s => ⟨ws, upd_same, by rw [e1, e2]; exact hw _ s⟩
          exact PostS.here (P := fun fl _ _ F c σ H => FlOk b D₀ F c σ H fl) r2 (p1.stp s2)
        · exact p1.elim
      · exact p1.elim
    · exact p.elim
theorem vs_append {i : Nat} {apos p2 : Pos} (ha : VE X W a fa) (hN : X.N[i]? = some x := by rfl) (hv : Vis X.env.scope x := by first | exact Or.inl rfl | exact Or.inr (Or.inl rfl) | exact Or.inr (Or.inr rfl)) (hd : (x == ("__debug__" : Str)) = false := by decide) (hcd : (x == ("__classdict__" : Str)) = false := by decide)
    (hbase : attributeBase (.Name x p) "append" X.env (eval (.Name x p) X.env) = eval (.Name x p) X.env := by rfl)
    (hfew : ((backTo p2 (starEach [a] X.env)).all (fun x => !x.1) && (backToKw p2 (keywordEach [] X.env)).all (fun x => x.1.isSome)
      && decide (([a] : List Expr).length + ([] : List Keyword).length + (if ([] : List Keyword).isEmpty then 0 else 1) < 30)) = true := by rfl)
    (hline : (apos.endLine == p2.line) = true := by rfl) (hs : starEach [a] X.env = (false, eval a X.env) :: starEach [] X.env := by rfl) (hplain : (backTo p2 (starEach [] X.env)).any (·.1) = false := by rfl)
    (hsw : swapsWith (.Call (.Attribute (.Name x p) "append" apos) [a] [] p2) none pos.line X.env = pure false := by rfl) : VS X W (.Expr (.Call (.Attribute (.Name x p) "append" apos) [a] [] p2) pos) (sApp i appD fa) :=
  vs_app PySem.F.slot_list_append PySem.F.type_list_append mt_append (fun F c H ad vs xs ys v d Q h1 h2 h3 h4 q => by
    unfold appD at h4
    split at h4
    · rename_i hl
      cases h4
      exact ⟨ad, vs, v, rfl, rfl, h1, by rw [h2.length, sizeLine_eq]; exact hl, q _ fun F' s => (h2.stp s).append (.cons (h3.stp s) .nil)⟩
    · cases h4) ha hN hv hd hcd hbase hfew hline hs hplain hsw
theorem vs_extend {i : Nat} {apos p2 : Pos} (ha : VE X W a fa) (hN : X.N[i]? = some x := by rfl) (hv : Vis X.env.scope x := by first | exact Or.inl rfl | exact Or.inr (Or.inl rfl) | exact Or.inr (Or.inr rfl)) (hd : (x == ("__debug__" : Str)) = false := by decide) (hcd : (x == ("__classdict__" : Str)) = false := by decide)
    (hbase : attributeBase (.Name x p) "extend" X.env (eval (.Name x p) X.env) = eval (.Name x p) X.env := by rfl)
    (hfew : ((backTo p2 (starEach [a] X.env)).all (fun x => !x.1) && (backToKw p2 (keywordEach [] X.env)).all (fun x => x.1.isSome)
      && decide (([a] : List Expr).length + ([] : List Keyword).length + (if ([] : List Keyword).isEmpty then 0 else 1) < 30)) = true := by rfl)
    (hline : (apos.endLine == p2.line) = true := by rfl) (hs : starEach [a] X.env = (false, eval a X.env) :: starEach [] X.env := by rfl) (hplain : (backTo p2 (starEach [] X.env)).any (·.1) = false := by rfl)
    (hsw : swapsWith (.Call (.Attribute (.Name x p) "extend" apos) [a] [] p2) none pos.line X.env = pure false := by rfl) : VS X W (.Expr (.Call (.Attribute (.Name x p) "extend" apos) [a] [] p2) pos) (sApp i extD fa) :=
  vs_app PySem.F.slot_list_extend PySem.F.type_list_extend mt_extend (fun F c H ad vs xs ys v d Q h1 h2 h3 h4 q => by
    unfold extD at h4
    split at h4
    · split at h4
      · rename_i hl
        cases h4
        cases h3 with
        | lst f hx rs => exact ⟨ad, _, vs, _, rfl, rfl, h1, hx, by rw [h2.length, rs.length, sizeLine_eq]; exact hl, q _ fun F' s => (h2.stp s).append (rs.stp s)⟩
      · cases h4
    · cases h4) ha hN hv hd hcd hbase hfew hline hs hplain hsw
/-- len(x), x alone holds the list: it stays its own -/
def eLenO (i : Nat) : M D := fun env st => match env[i]? with
  | some (.ow (.lst xs)) => .ok (.int xs.length) env st
  | some (.va d) => ret (lenD d) env st
  | _ => .bad
/-! ### raise -/
def sRaise (n : Str) : M Fl := fun env st => .ex ⟨n, []⟩ env st
/-- a class of errors without its own __init__ -/
structure ErrV (K : PySem.W.Frag) (mg : Str → Option Value) (n : Str) : Prop where
  ex : ∃ C, mg n = some (.ref C) ∧ PySem.W.excIn K C [.type "ValueError", .type "Exception", .type "BaseException", .type "object"] "ValueError.__new__" = true ∧ PySem.W.keepIn K (.ref C) = true ∧
    PySem.W.subIn K (.ref C) (.type "BaseException") = some true ∧ PySem.W.typeIn K (.ref C) = some (.type "type")
theorem vs_raise {n m : Str} {j : Nat} {p1 p2 p3 : Pos} (hc : X.calm = true) (tk : Takes X W) (ev : ErrV X.K X.mg n) (hg : Gl X n := by rfl) (hdb : (n == ("__debug__" : Str)) = false := by decide) : VS X W (.Raise (some (.Call (.Name n p1) [.Constant (.str m) j p2] [] p3)) none pos) (sRaise n) := by
  obtain ⟨C, gC, xC, kC, bC, tC⟩ := ev.ex
  exact PSof (ps_raise hc tk (pmk_own PySem.F.excBase_ValueError xC gC kC (raises_own bC tC) hg hdb)) fun D₀ σ H ⟨b, F, c, env, st, e1, e2, r, p⟩ => p σ F c H _ _ .refl r ⟨by rw [e2]; exact gC, .inl rfl⟩
end
end VE

namespace VE
open PySem PySem.Spec PyProof.Rows L2
/-- a constant of the module -/
structure ConstV (K : PySem.W.Frag) (mg : Str → Option Value) (n : Str) (d : D) : Prop where
  ex : ∃ u v, mg n = some u ∧ RelV v u ∧ ∀ F c H, Rp K mg F c H v d
theorem ConstV.int {K : PySem.W.Frag} {mg : Str → Option Value} {n : Str} {i : Int} {t : Tok} (h : mg n = some (.int i t)) : ConstV K mg n (.int i) := ⟨_, .int i, h, ⟨t, rfl⟩, fun _ _ _ => .int i⟩
theorem ConstV.str {K : PySem.W.Frag} {mg : Str → Option Value} {n : Str} {i : Str} {t : Tok} (h : mg n = some (.str i t)) : ConstV K mg n (.str i) := ⟨_, .str i, h, ⟨t, rfl⟩, fun _ _ _ => .str i⟩
section
variable {X : Cx} {W : WX} {e a o : Expr} {es : List Expr} {pos pos' p : Pos} {fa fb fo fi : M D} {fs : M (List D)} {x : Str}
theorem ve_gc {d : D} (cv : ConstV X.K X.mg x d) (hg : Gl X x := by rfl) (hd : (x == ("__debug__" : Str)) = false := by decide) : VE X W (.Name x pos) (eC d) := by
  obtain ⟨u, v, hm, r, rp⟩ := cv.ex
  exact ve_c (pe_glob hg hm r hd) rp
def sBad : M Fl := fun _ _ => .bad
theorem vs_never {s : Stmt} : VS X W s sBad := PSof ps_never fun D₀ σ H ⟨b, F, c, env, st, e1, e2, r, p⟩ => p
theorem vss_never {s : List Stmt} : VSs X W s sBad := PSsof pss_never fun D₀ σ H ⟨b, F, c, env, st, e1, e2, r, p⟩ => p
theorem ip_fdivW : PIp X .FloorDiv (rI CDivW fun i j => .int (i / j)) := iop_fdivW
theorem augIn_add : AugOk X W rAdd addII := fun F c H x y dx dy d Q hx hy e q => by
  unfold addII at e
  split at e
  · cases hx; cases hy; cases e; exact ⟨_, _, rfl, rfl, q _ (.int _)⟩
  · cases e
theorem augIn_sub : AugOk X W rSub subI := fun F c H x y dx dy d Q hx hy e q => by
  unfold subI at e
  split at e
  · cases hx; cases hy; cases e; exact ⟨_, _, rfl, rfl, q _ (.int _)⟩
  · cases e
/-- a, b = x, [..] -/
def sParF (i j : Nat) (fa fb : M D) : M Fl := fun env st => (fa env st).bind fun d env st => (fb env st).bind fun d' env st => .ok .nx ((env.set i (.va d)).set j (.ow d')) st
theorem vs_parF {i j : Nat} {x y : Str} {px py pt : Pos} {kt k2 : Nat} {pt2 : Pos} (hc : X.calm = true) (hN : X.N.Nodup) (ha : VE X W e fa) (hb : VF X W a fb) (hi : X.N[i]? = some x := by rfl) (hj : X.N[j]? = some y := by rfl) (hij : i ≠ j := by decide)
    (hx : X.env.scope.names.lookup x = some .local := by rfl) (hy : X.env.scope.names.lookup y = some .local := by rfl)
    (hw : swappedStores [.Tuple [.Name x px, .Name y py] kt pt] (.Tuple [e, a] k2 pt2) X.env = pure (some [x, y]) := by rfl)
    (hs : swapsWithSole [.Tuple [.Name x px, .Name y py] kt pt] (.Tuple [e, a] k2 pt2) pos.line X.env = pure false := by rfl)
    (hs1 : starEach [e, a] X.env = (false, eval e X.env) :: starEach [a] X.env := by rfl) (hs2 : starEach [a] X.env = (false, eval a X.env) :: starEach [] X.env := by rfl) :
    VS X W (.Assign [.Tuple [.Name x px, .Name y py] kt pt] (.Tuple [e, a] k2 pt2) pos) (sParF i j fa fb) := PSof (ps_par hc hN hi hj hij hx hy (pa_cons ha (pa_cons hb pa_nil hs2) hs1) hw hs) fun D₀ σ H ⟨b, F, c, env, st, e1, e2, r, p⟩ =>
  sE_at e1 e2 r p fun v d env1 st1 F1 c1 H1 s1 r1 rp1 p1 => sF_at e1 e2 r1 p1 fun q d' env2 st2 F2 c2 H2 s2 r2 h1 h2 h3 h4 h5 p2 => by
    refine ⟨_, _, rfl, PostS.here (P := fun fl _ _ F c σ H => FlOk b D₀ F c σ H fl) ((r2.put (rp1.stp s2)).take h1 h2 h3 (fun k hk => ?_) h5) p2⟩
    obtain ⟨dd, k1, k2⟩ := hk
    by_cases q2 : i = k
    · subst q2
      by_cases hl : i < env2.length
      · rw [List.getElem?_set_self hl] at k1; cases k1
      · rw [List.getElem?_eq_none (by simpa using hl)] at k1; cases k1
    · rw [List.getElem?_set_ne q2] at k1 k2
      exact h4 k ⟨dd, k1, k2⟩
end
end VE

namespace VE
open PySem PySem.Spec PyProof.Rows L2
/-- the law's promise: a list of ints is handed in, True comes out -/
def spLaw (K : PySem.W.Frag) : Sp := fun vs H Q _ => ∃ (a : Addr) (ns : List Int), vs = [.ref a] ∧ SqL K H a (ns.map V.int) ∧ ns.length ≤ 63 ∧ ∀ H', Q (.bl true) H'
theorem cx_none {P : Program} {w : World} {H : Hp} {s : Shared} {e : Value} {s' : Shared} (h : L2.CX P w [] H s (fun _ _ _ => False) e s') : False := by
  obtain ⟨_, _, _, _, _, _, _, _, _, _, _, _, z⟩ := h
  exact z
/-- the law's mirror gives True -/
def LawTrue (m : FM) : Prop := ∀ ns : List Int, ns.length ≤ 63 → ∃ st, m [.scr ns] [] = .ok (.bl true) st
theorem law_end {P : Program} {w : World} {K : PySem.W.Frag} {mg : Str → Option Value} {fa : Addr} {k : Nat} {x : Str} {m : FM} (hm : LawTrue m)
    (h : ∃ fd : FuncData, (∀ (s : Shared) (v : Value), BindsTo s fd ⟨[v], []⟩ [(x, v)]) ∧ ∀ base : Heap, K.In base → base.Ns mainGlobals mg → FnOk P w K mg base (L2.CX P w) k fa fd [x] (spV K mg false 1 m)) :
    ∃ fd : FuncData, (∀ (s : Shared) (v : Value), BindsTo s fd ⟨[v], []⟩ [(x, v)]) ∧ ∀ base : Heap, K.In base → base.Ns mainGlobals mg → FnOk P w K mg base (L2.CX P w) k fa fd [x] (spLaw K) := by
  obtain ⟨fd, h1, h2⟩ := h
  refine ⟨fd, h1, fun base KB GB => (h2 base KB GB).imp fun vs H Q E q => ?_⟩
  obtain ⟨a, ns, rfl, hS, hl, k⟩ := q
  obtain ⟨st, e⟩ := hm ns hl
  refine ⟨fun b => ∃ o, H b = some o, [], [.scr ns], [], ⟨fun _ h => h, rfl, List.nodup_nil, fun n _ _ h => by simp at h, fun _ h => nomatch h⟩, .cons (.scr ?_) .nil, rfl, ?_⟩
  · rcases hS with h | h
    · refine .inl ⟨?_, h⟩
      rcases h with h | ⟨o, h⟩
      · exact ⟨_, h⟩
      · exact ⟨_, h⟩
    · exact .inr h
  · rw [e]
    intro v F' c' H' _ _ _ rv
    cases (show Rp K mg F' c' H' v (.bl true) from rv)
    exact k H'
end VE

/-! how the mirrors are reckoned: each continuation has a name, so that simp goes from the left -/
namespace VE
open PySem PySem.Spec PyProof.Rows L2
section
variable {fa fb fc fo fi fe : M D} {fs : M (List D)} {ff : M (List D)} {ta tb tc : M Bool} {g g' : M Fl} {env : EnvD} {st : Sto} {i j n np : Nat} {d d' x y z : D} {ds : List D} {s m : Str} {t : Bool} {mf : FM}
@[simp] theorem x_ret_some : ret (some d) env st = .ok d env st := rfl
@[simp] theorem x_ret_none : ret none env st = .bad := rfl
def kVar (i : Nat) (s : Option Sl) : M D := fun env st => match s with
  | some (.va d) => .ok d env st
  | some (.ow d) => .ok d (env.set i (.va d)) st
  | _ => .bad
@[simp] theorem x_eVar : eVar i env st = kVar i env[i]? env st := rfl
@[simp] theorem x_kVar1 : kVar i (some (.va d)) env st = .ok d env st := rfl
@[simp] theorem x_kVar2 : kVar i (some (.ow d)) env st = .ok d (env.set i (.va d)) st := rfl
@[simp] theorem x_eC : eC d env st = .ok d env st := rfl
def kBin2 (h : D → D → M D) (x : D) : D → M D := fun y e s => h x y e s
def kBin1 (h : D → D → M D) (fb : M D) : D → M D := fun x e s => (fb e s).bind (kBin2 h x)
@[simp] theorem x_eBin {h : D → D → M D} : eBin h fa fb env st = (fa env st).bind (kBin1 h fb) := rfl

@[simp] theorem x_kBin1 {h : D → D → M D} : kBin1 h fb x env st = (fb env st).bind (kBin2 h x) := rfl
@[simp] theorem x_kBin2 {h : D → D → M D} : kBin2 h x y env st = h x y env st := rfl
@[simp] theorem x_sc2 {h : D → D → Option D} : sc2 h x y env st = ret (h x y) env st := rfl
def kUn (h : D → Option D) : D → M D := fun x e s => ret (h x) e s
@[simp] theorem x_eUn {h : D → Option D} : eUn h fa env st = (fa env st).bind (kUn h) := rfl
@[simp] theorem x_kUn {h : D → Option D} : kUn h x env st = ret (h x) env st := rfl
def kT : D → M Bool := fun x e s => match x with
  | .bl t => .ok t e s
  | _ => .bad
@[simp] theorem x_eT : eT fa env st = (fa env st).bind kT := rfl
@[simp] theorem x_kT : kT (.bl t) env st = .ok t env st := rfl
def kCh3 (q : Int → Int → Bool) (j : Int) : D → M D := fun z e s => match z with
  | .int l => .ok (.bl (q j l)) e s
  | _ => .bad
def kCh2 (p q : Int → Int → Bool) (fc : M D) (x : D) : D → M D := fun y e s => match x, y with
  | .int i, .int j => if p i j then (fc e s).bind (kCh3 q j) else .ok (.bl false) e s
  | _, _ => .bad
def kCh1 (p q : Int → Int → Bool) (fb fc : M D) : D → M D := fun x e s => (fb e s).bind (kCh2 p q fc x)
@[simp] theorem x_eChain {p q : Int → Int → Bool} : eChain p q fa fb fc env st = (fa env st).bind (kCh1 p q fb fc) := rfl
@[simp] theorem x_kCh1 {p q : Int → Int → Bool} : kCh1 p q fb fc x env st = (fb env st).bind (kCh2 p q fc x) := rfl
@[simp] theorem x_kCh2 {p q : Int → Int → Bool} {i j : Int} : kCh2 p q fc (.int i) (.int j) env st = if p i j then (fc env st).bind (kCh3 q j) else .ok (.bl false) env st := rfl
@[simp] theorem x_kCh3 {q : Int → Int → Bool} {j l : Int} : kCh3 q j (.int l) env st = .ok (.bl (q j l)) env st := rfl
def kBA (tb : M Bool) : Bool → M Bool := fun t env st => if t then tb env st else .ok false env st
def kBO (tb : M Bool) : Bool → M Bool := fun t env st => if t then .ok true env st else tb env st
def kBN : Bool → M Bool := fun t env st => .ok (!t) env st
@[simp] theorem x_bAnd : bAnd ta tb env st = (ta env st).bind (kBA tb) := rfl
@[simp] theorem x_kBA1 : kBA tb true env st = tb env st := rfl
@[simp] theorem x_kBA0 : kBA tb false env st = .ok false env st := rfl
@[simp] theorem x_bOr : bOr ta tb env st = (ta env st).bind (kBO tb) := rfl
@[simp] theorem x_kBO1 : kBO tb true env st = .ok true env st := rfl
@[simp] theorem x_kBO0 : kBO tb false env st = tb env st := rfl
@[simp] theorem x_bNot : bNot ta env st = (ta env st).bind kBN := rfl
@[simp] theorem x_kBN : kBN t env st = .ok (!t) env st := rfl
@[simp] theorem x_bYes : bYes env st = .ok true env st := rfl
def kEA (fb : M D) : D → M D := fun x env st => match x with
  | .bl true => fb env st
  | .bl false => .ok (.bl false) env st
  | _ => .bad
def kEO (fb : M D) : D → M D := fun x env st => match x with
  | .bl true => .ok (.bl true) env st
  | .bl false => fb env st
  | _ => .bad
def kEN : D → M D := fun x env st => match x with
  | .bl t => .ok (.bl (!t)) env st
  | _ => .bad
@[simp] theorem x_eAnd : eAnd fa fb env st = (fa env st).bind (kEA fb) := rfl
@[simp] theorem x_kEA1 : kEA fb (.bl true) env st = fb env st := rfl
@[simp] theorem x_kEA0 : kEA fb (.bl false) env st = .ok (.bl false) env st := rfl
@[simp] theorem x_eOr : eOr fa fb env st = (fa env st).bind (kEO fb) := rfl
@[simp] theorem x_kEO1 : kEO fb (.bl true) env st = .ok (.bl true) env st := rfl
@[simp] theorem x_kEO0 : kEO fb (.bl false) env st = fb env st := rfl
@[simp] theorem x_eNot : eNot fa env st = (fa env st).bind kEN := rfl
@[simp] theorem x_kEN : kEN (.bl t) env st = .ok (.bl (!t)) env st := rfl
def kIf (fa fb : M D) : Bool → M D := fun t env st => if t then fa env st else fb env st
@[simp] theorem x_eIf : eIf ta fa fb env st = (ta env st).bind (kIf fa fb) := rfl
@[simp] theorem x_kIf1 : kIf fa fb true env st = fa env st := rfl
@[simp] theorem x_kIf0 : kIf fa fb false env st = fb env st := rfl
@[simp] theorem x_eNil : eNil env st = .ok [] env st := rfl
def kCons2 (d : D) : List D → M (List D) := fun ds env st => .ok (d :: ds) env st
def kCons1 (fs : M (List D)) : D → M (List D) := fun d env st => (fs env st).bind (kCons2 d)
@[simp] theorem x_eCons : eCons fa fs env st = (fa env st).bind (kCons1 fs) := rfl
@[simp] theorem x_kCons1 : kCons1 fs d env st = (fs env st).bind (kCons2 d) := rfl
@[simp] theorem x_kCons2 : kCons2 d ds env st = .ok (d :: ds) env st := rfl
def kStar2 (xs : List D) : List D → M (List D) := fun ds env st => .ok (xs ++ ds) env st
def kStar1 (fs : M (List D)) : D → M (List D) := fun d env st => match itemsOf d with
  | some xs => (fs env st).bind (kStar2 xs)
  | none => .bad
@[simp] theorem x_eStar : eStar fa fs env st = (fa env st).bind (kStar1 fs) := rfl
@[simp] theorem x_kStarL : kStar1 fs (.lst ds) env st = (fs env st).bind (kStar2 ds) := rfl
@[simp] theorem x_kStarT : kStar1 fs (.tup ds) env st = (fs env st).bind (kStar2 ds) := rfl
@[simp] theorem x_kStar2 {xs : List D} : kStar2 xs ds env st = .ok (xs ++ ds) env st := rfl
def kTup : List D → M D := fun ds env st => if ds.length ≤ 16777216 then .ok (.tup ds) env st else .bad
def kLst : List D → M D := fun ds env st => if ds.length ≤ 16777216 then .ok (.lst ds) env st else .bad
@[simp] theorem x_eTup : eTup fs env st = (fs env st).bind kTup := rfl
@[simp] theorem x_kTup : kTup ds env st = if ds.length ≤ 16777216 then .ok (.tup ds) env st else .bad := rfl
@[simp] theorem x_eLst : eLst fs env st = (fs env st).bind kLst := rfl
@[simp] theorem x_kLst : kLst ds env st = if ds.length ≤ 16777216 then .ok (.lst ds) env st else .bad := rfl
@[simp] theorem x_eBlt {h : List D → M D} : eBlt h fs env st = (fs env st).bind h := rfl
@[simp] theorem x_b1 {h : D → Option D} : b1 h [d] env st = ret (h d) env st := rfl
@[simp] theorem x_sNx : sNx env st = .ok .nx env st := rfl
@[simp] theorem x_sBk : sBk env st = .ok .bk env st := rfl
@[simp] theorem x_sCt : sCt env st = .ok .ct env st := rfl
@[simp] theorem x_sBad : sBad env st = .bad := rfl
def kSeq (g : M Fl) : Fl → M Fl := fun fl env st => match fl with
  | .nx => g env st
  | fl => .ok fl env st
@[simp] theorem x_sSeq : sSeq g g' env st = (g env st).bind (kSeq g') := rfl
@[simp] theorem x_kSeq1 : kSeq g .nx env st = g env st := rfl
@[simp] theorem x_kSeq2 : kSeq g (.rt d) env st = .ok (.rt d) env st := rfl
@[simp] theorem x_kSeq3 : kSeq g (.rf d) env st = .ok (.rf d) env st := rfl
@[simp] theorem x_kSeq4 : kSeq g .bk env st = .ok .bk env st := rfl
@[simp] theorem x_kSeq5 : kSeq g .ct env st = .ok .ct env st := rfl
def kExpr : D → M Fl := fun _ env st => .ok .nx env st
@[simp] theorem x_sExpr : sExpr fa env st = (fa env st).bind kExpr := rfl
@[simp] theorem x_kExpr : kExpr d env st = .ok .nx env st := rfl
def kRet : D → M Fl := fun d env st => .ok (.rt d) env st
def kRetF : D → M Fl := fun d env st => .ok (.rf d) env st
@[simp] theorem x_sRet : sRet fa env st = (fa env st).bind kRet := rfl
@[simp] theorem x_kRet : kRet d env st = .ok (.rt d) env st := rfl
@[simp] theorem x_sRetF : sRetF fa env st = (fa env st).bind kRetF := rfl
@[simp] theorem x_kRetF : kRetF d env st = .ok (.rf d) env st := rfl
@[simp] theorem x_sRetN : sRetN env st = .ok (.rt .non) env st := rfl
def kRetO (i : Nat) (s : Option Sl) : M Fl := fun env st => match s with
  | some (.ow d) => .ok (.rf d) (env.set i .no) st
  | _ => .bad
@[simp] theorem x_sRetO : sRetO i env st = kRetO i env[i]? env st := rfl
@[simp] theorem x_kRetO : kRetO i (some (.ow d)) env st = .ok (.rf d) (env.set i .no) st := rfl
def kSIf (g g' : M Fl) : Bool → M Fl := fun t env st => if t then g env st else g' env st
@[simp] theorem x_sIf : sIf ta g g' env st = (ta env st).bind (kSIf g g') := rfl
@[simp] theorem x_kSIf1 : kSIf g g' true env st = g env st := rfl
@[simp] theorem x_kSIf0 : kSIf g g' false env st = g' env st := rfl
def kSet (i : Nat) : D → M Fl := fun d env st => .ok .nx (env.set i (.va d)) st
def kSetF (i : Nat) : D → M Fl := fun d env st => .ok .nx (env.set i (.ow d)) st
@[simp] theorem x_sSet : sSet i fa env st = (fa env st).bind (kSet i) := rfl
@[simp] theorem x_kSet : kSet i d env st = .ok .nx (env.set i (.va d)) st := rfl
@[simp] theorem x_sSetF : sSetF i fa env st = (fa env st).bind (kSetF i) := rfl
@[simp] theorem x_kSetF : kSetF i d env st = .ok .nx (env.set i (.ow d)) st := rfl
def kAsg2 : Option EnvD → M Fl := fun o _ st => match o with
  | some env => .ok .nx env st
  | none => .bad
def kAsg (t : D → EnvD → Option EnvD) : D → M Fl := fun d env st => kAsg2 (t d env) env st
@[simp] theorem x_sAsg {t : D → EnvD → Option EnvD} : sAsg t fa env st = (fa env st).bind (kAsg t) := rfl
@[simp] theorem x_kAsg {t : D → EnvD → Option EnvD} : kAsg t d env st = kAsg2 (t d env) env st := rfl
@[simp] theorem x_kAsg2 {env' : EnvD} : kAsg2 (some env') env st = .ok .nx env' st := rfl
@[simp] theorem x_gN : gN i d env = some (env.set i (.va d)) := rfl
@[simp] theorem x_gsN : gsN [] env = some env := rfl
@[simp] theorem x_gsC {t : D → EnvD → Option EnvD} {u : List D → EnvD → Option EnvD} : gsC t u (d :: ds) env = (t d env).bind (u ds) := rfl
@[simp] theorem x_gT {t : List D → EnvD → Option EnvD} : gT n t (.tup ds) env = if ds.length = n then t ds env else none := rfl
def kPar (i j : Nat) : List D → M Fl := fun ds env st => match ds with
  | [d, d'] => .ok .nx ((env.set i (.va d)).set j (.va d')) st
  | _ => .bad
@[simp] theorem x_sPar : sPar i j fs env st = (fs env st).bind (kPar i j) := rfl
@[simp] theorem x_kPar : kPar i j [d, d'] env st = .ok .nx ((env.set i (.va d)).set j (.va d')) st := rfl
def kParF2 (i j : Nat) (d : D) : D → M Fl := fun d' env st => .ok .nx ((env.set i (.va d)).set j (.ow d')) st
def kParF1 (i j : Nat) (fb : M D) : D → M Fl := fun d env st => (fb env st).bind (kParF2 i j d)
@[simp] theorem x_sParF : sParF i j fa fb env st = (fa env st).bind (kParF1 i j fb) := rfl
@[simp] theorem x_kParF1 : kParF1 i j fb d env st = (fb env st).bind (kParF2 i j d) := rfl
@[simp] theorem x_kParF2 : kParF2 i j d d' env st = .ok .nx ((env.set i (.va d)).set j (.ow d')) st := rfl
def kAug3 (i : Nat) : Option D → M Fl := fun o env st => match o with
  | some z => .ok .nx (env.set i (.va z)) st
  | none => .bad
def kAug2 (i : Nat) (h : D → D → Option D) (x : D) : D → M Fl := fun y env st => kAug3 i (h x y) env st
def kAug1 (i : Nat) (h : D → D → Option D) (fa : M D) (s : Option Sl) : M Fl := fun env st => match s with
  | some (.va x) => (fa env st).bind (kAug2 i h x)
  | _ => .bad
@[simp] theorem x_sAug {h : D → D → Option D} : sAug i h fa env st = kAug1 i h fa env[i]? env st := rfl
@[simp] theorem x_kAug1 {h : D → D → Option D} : kAug1 i h fa (some (.va x)) env st = (fa env st).bind (kAug2 i h x) := rfl
@[simp] theorem x_kAug2 {h : D → D → Option D} : kAug2 i h x y env st = kAug3 i (h x y) env st := rfl
@[simp] theorem x_kAug3 : kAug3 i (some z) env st = .ok .nx (env.set i (.va z)) st := rfl
def kCall (mf : FM) (n : Nat) : List D → M D := fun ds env st => if ds.length = n then callR mf ds env st else .bad
@[simp] theorem x_eCall : eCall mf n fs env st = (fs env st).bind (kCall mf n) := rfl
@[simp] theorem x_kCall : kCall mf n ds env st = if ds.length = n then callR mf ds env st else .bad := rfl
def ofRF : RF → M D := fun r env st => match r with
  | .ok d st => .ok d env st
  | .ex x st => .ex x env st
  | .bad => .bad
theorem x_callR : callR mf ds env st = ofRF (mf ds st) env st := rfl
@[simp] theorem x_ofRF1 {st' : Sto} : ofRF (.ok d st') env st = .ok d env st' := rfl
@[simp] theorem x_ofRF2 {e : Exn} {st' : Sto} : ofRF (.ex e st') env st = .ex e env st' := rfl
theorem callR_ok {st2 : Sto} (h : mf ds st = .ok d st2) : callR mf ds env st = .ok d env st2 := by rw [x_callR, h]; rfl
theorem callR_ex {e : Exn} {st2 : Sto} (h : mf ds st = .ex e st2) : callR mf ds env st = .ex e env st2 := by rw [x_callR, h]; rfl
def kFor (t : D → EnvD → Option EnvD) (ws : List Nat) (g : M Fl) : List D → M Fl := fun ds env st => forL t ws g ds env st
@[simp] theorem x_sFor {t : D → EnvD → Option EnvD} {ws : List Nat} : sFor ff t ws g env st = (ff env st).bind (kFor t ws g) := rfl
@[simp] theorem x_kFor {t : D → EnvD → Option EnvD} {ws : List Nat} : kFor t ws g ds env st = forL t ws g ds env st := rfl
def kComp (t : D → EnvD → Option EnvD) (ws : List Nat) (ta : M Bool) (fe : M D) : List D → M D := fun ds env st => compL t ws ta fe ds [] env st
@[simp] theorem x_eComp {t : D → EnvD → Option EnvD} {ws : List Nat} : eComp ff t ws ta fe env st = (ff env st).bind (kComp t ws ta fe) := rfl
@[simp] theorem x_kComp {t : D → EnvD → Option EnvD} {ws : List Nat} : kComp t ws ta fe ds env st = compL t ws ta fe ds [] env st := rfl
def kIL : D → M (List D) := fun d env st => match d with
  | .lst xs => .ok xs env st
  | _ => .bad
def kIT : D → M (List D) := fun d env st => match d with
  | .tup xs => .ok xs env st
  | _ => .bad
def kIS : D → M (List D) := fun d env st => match d with
  | .str x => .ok (signsD x) env st
  | _ => .bad
@[simp] theorem x_iL : iL fa env st = (fa env st).bind kIL := rfl
@[simp] theorem x_kIL : kIL (.lst ds) env st = .ok ds env st := rfl
@[simp] theorem x_iT : iT fa env st = (fa env st).bind kIT := rfl
@[simp] theorem x_kIT : kIT (.tup ds) env st = .ok ds env st := rfl
@[simp] theorem x_iS : iS fa env st = (fa env st).bind kIS := rfl
@[simp] theorem x_kIS : kIS (.str s) env st = .ok (signsD s) env st := rfl
@[simp] theorem rOk_ {j : Int} (h : -1000000 ≤ j) (h2 : j ≤ 1000000) : rOk j = true := by
  rw [rOk_iff]
  exact ⟨by omega, by omega⟩
noncomputable def kR1 : D → M (List D) := fun d env st => match d with
  | .int j => if rOk j then .ok (rngD 0 j.toNat) env st else .bad
  | _ => .bad
@[simp] theorem x_iR1 : iR1 fa env st = (fa env st).bind kR1 := rfl
@[simp] theorem x_kR1 {j : Int} : kR1 (.int j) env st = if rOk j then .ok (rngD 0 j.toNat) env st else .bad := rfl
noncomputable def kR22 (d : D) : D → M (List D) := fun d' env st => match d, d' with
  | .int i, .int j => if rOk i && rOk j then .ok (rngD i (j - i).toNat) env st else .bad
  | _, _ => .bad
noncomputable def kR21 (fb : M D) : D → M (List D) := fun d env st => (fb env st).bind (kR22 d)
@[simp] theorem x_iR2 : iR2 fa fb env st = (fa env st).bind (kR21 fb) := rfl
@[simp] theorem x_kR21 : kR21 fb d env st = (fb env st).bind (kR22 d) := rfl
@[simp] theorem x_kR22 {i j : Int} : kR22 (.int i) (.int j) env st = if rOk i && rOk j then .ok (rngD i (j - i).toNat) env st else .bad := rfl
def kCell (i : Nat) : List D → M Fl := fun ds env st => if ds.length ≤ 16777216 then .ok .nx (env.set i (.va (.ref st.length))) (st ++ [.lst ds]) else .bad
@[simp] theorem x_sCell : sCell i fs env st = (fs env st).bind (kCell i) := rfl
@[simp] theorem x_kCell : kCell i ds env st = if ds.length ≤ 16777216 then .ok .nx (env.set i (.va (.ref st.length))) (st ++ [.lst ds]) else .bad := rfl
def kIxC (k : Int) (c : Option Cell) : M D := fun env st => match c with
  | some (.lst ds) => ret (atI ds k) env st
  | _ => .bad
@[simp] theorem x_ixC {k : Int} : ixC (.ref n) (.int k) env st = kIxC k st[n]? env st := rfl
@[simp] theorem x_kIxC {k : Int} : kIxC k (some (.lst ds)) env st = ret (atI ds k) env st := rfl
def kItC5 (n : Nat) (ds : List D) (d : D) (o : Option Nat) : M Fl := fun env st => match o with
  | some j => .ok .nx env (st.set n (.lst (ds.set j d)))
  | none => .bad
def kItC4 (n : Nat) (k : Int) (d : D) (c : Option Cell) : M Fl := fun env st => match c with
  | some (.lst ds) => kItC5 n ds d (ixN ds.length k) env st
  | _ => .bad
def kItC3 (d r : D) : D → M Fl := fun k env st => match r, k with
  | .ref n, .int k => kItC4 n k d st[n]? env st
  | _, _ => .bad
def kItC2 (fi : M D) (d : D) : D → M Fl := fun r env st => (fi env st).bind (kItC3 d r)
def kItC1 (fo fi : M D) : D → M Fl := fun d env st => (fo env st).bind (kItC2 fi d)
@[simp] theorem x_sItemC : sItemC fo fi fe env st = (fe env st).bind (kItC1 fo fi) := rfl
@[simp] theorem x_kItC1 : kItC1 fo fi d env st = (fo env st).bind (kItC2 fi d) := rfl
@[simp] theorem x_kItC2 : kItC2 fi d x env st = (fi env st).bind (kItC3 d x) := rfl
@[simp] theorem x_kItC3 {k : Int} : kItC3 d (.ref n) (.int k) env st = kItC4 n k d st[n]? env st := rfl
@[simp] theorem x_kItC4 {k : Int} : kItC4 n k d (some (.lst ds)) env st = kItC5 n ds d (ixN ds.length k) env st := rfl
@[simp] theorem x_kItC5 : kItC5 n ds d (some j) env st = .ok .nx env (st.set n (.lst (ds.set j d))) := rfl
def kFld2 (n f : Str) (c : Option Cell) : M D := fun env st => match c with
  | some (.ins n' fs) => if n' = n then ret (fs.lookup f) env st else .bad
  | _ => .bad
def kFld (n f : Str) : D → M D := fun r env st => match r with
  | .ref m => kFld2 n f st[m]? env st
  | _ => .bad
@[simp] theorem x_eFld {n f : Str} : eFld n f fa env st = (fa env st).bind (kFld n f) := rfl
@[simp] theorem x_kFld {n f : Str} {q : Nat} : kFld n f (.ref q) env st = kFld2 n f st[q]? env st := rfl
@[simp] theorem x_kFld2 {n n' f : Str} {fl : List (Str × D)} : kFld2 n f (some (.ins n' fl)) env st = if n' = n then ret (fl.lookup f) env st else .bad := rfl
def kFS3 (n f : Str) (d : D) (m : Nat) (c : Option Cell) : M Fl := fun env st => match c with
  | some (.ins n' fs) => if n' = n ∧ fs.length < 1000 then .ok .nx env (st.set m (.ins n (putD f d fs))) else .bad
  | _ => .bad
def kFS2 (n f : Str) (d : D) : D → M Fl := fun r env st => match r with
  | .ref m => kFS3 n f d m st[m]? env st
  | _ => .bad
def kFS1 (n f : Str) (fo : M D) : D → M Fl := fun d env st => (fo env st).bind (kFS2 n f d)
@[simp] theorem x_sFldS {n f : Str} : sFldS n f fo fe env st = (fe env st).bind (kFS1 n f fo) := rfl
@[simp] theorem x_kFS1 {n f : Str} : kFS1 n f fo d env st = (fo env st).bind (kFS2 n f d) := rfl
@[simp] theorem x_kFS2 {n f : Str} {q : Nat} : kFS2 n f d (.ref q) env st = kFS3 n f d q st[q]? env st := rfl
@[simp] theorem x_kFS3 {n n' f : Str} {q : Nat} {fl : List (Str × D)} : kFS3 n f d q (some (.ins n' fl)) env st = if n' = n ∧ fl.length < 1000 then .ok .nx env (st.set q (.ins n (putD f d fl))) else .bad := rfl
def kFA5 (n f : Str) (z : D) (m : Nat) (c : Option Cell) : M Fl := fun env st => match c with
  | some (.ins n2 fs) => if n2 = n ∧ fs.length < 1000 then .ok .nx env (st.set m (.ins n (putD f z fs))) else .bad
  | _ => .bad
def kFA4 (n f : Str) (m : Nat) (o : Option D) : M Fl := fun env st => match o with
  | some z => kFA5 n f z m st[m]? env st
  | none => .bad
def kFA3 (n f : Str) (h : D → D → Option D) (m : Nat) (x : D) : D → M Fl := fun y env st => kFA4 n f m (h x y) env st
def kFA2b (n f : Str) (h : D → D → Option D) (fe : M D) (m : Nat) (o : Option D) : M Fl := fun env st => match o with
  | some x => (fe env st).bind (kFA3 n f h m x)
  | none => .bad
def kFA2 (n f : Str) (h : D → D → Option D) (fe : M D) (m : Nat) (c : Option Cell) : M Fl := fun env st => match c with
  | some (.ins n' fs) => if n' = n then kFA2b n f h fe m (fs.lookup f) env st else .bad
  | _ => .bad
def kFA1 (n f : Str) (h : D → D → Option D) (fe : M D) : D → M Fl := fun r env st => match r with
  | .ref m => kFA2 n f h fe m st[m]? env st
  | _ => .bad
@[simp] theorem x_sFldA {n f : Str} {h : D → D → Option D} : sFldA n f h fo fe env st = (fo env st).bind (kFA1 n f h fe) := rfl
@[simp] theorem x_kFA1 {n f : Str} {h : D → D → Option D} {q : Nat} : kFA1 n f h fe (.ref q) env st = kFA2 n f h fe q st[q]? env st := rfl
@[simp] theorem x_kFA2 {n n' f : Str} {h : D → D → Option D} {q : Nat} {fl : List (Str × D)} : kFA2 n f h fe q (some (.ins n' fl)) env st = if n' = n then kFA2b n f h fe q (fl.lookup f) env st else .bad := rfl
@[simp] theorem x_kFA2b {n f : Str} {h : D → D → Option D} {q : Nat} : kFA2b n f h fe q (some x) env st = (fe env st).bind (kFA3 n f h q x) := rfl
@[simp] theorem x_kFA3 {n f : Str} {h : D → D → Option D} {q : Nat} : kFA3 n f h q x y env st = kFA4 n f q (h x y) env st := rfl
@[simp] theorem x_kFA4 {n f : Str} {q : Nat} : kFA4 n f q (some z) env st = kFA5 n f z q st[q]? env st := rfl
@[simp] theorem x_kFA5 {n n2 f : Str} {q : Nat} {fl : List (Str × D)} : kFA5 n f z q (some (.ins n2 fl)) env st = if n2 = n ∧ fl.length < 1000 then .ok .nx env (st.set q (.ins n (putD f z fl))) else .bad := rfl
def kM3 (mf : FM) (np q : Nat) : List D → M D := fun ds env st => if ds.length + 1 = np then callR mf (.ref q :: ds) env st else .bad
def kM2 (n m : Str) (mf : FM) (np q : Nat) (fs : M (List D)) (c : Option Cell) : M D := fun env st => match c with
  | some (.ins n' fl) => if n' = n ∧ fl.lookup m = none then (fs env st).bind (kM3 mf np q) else .bad
  | _ => .bad
def kM1 (n m : Str) (mf : FM) (np : Nat) (fs : M (List D)) : D → M D := fun r env st => match r with
  | .ref q => kM2 n m mf np q fs st[q]? env st
  | _ => .bad
@[simp] theorem x_eMeth {n m : Str} : eMeth n m mf np fo fs env st = (fo env st).bind (kM1 n m mf np fs) := rfl
@[simp] theorem x_kM1 {n m : Str} {q : Nat} : kM1 n m mf np fs (.ref q) env st = kM2 n m mf np q fs st[q]? env st := rfl
@[simp] theorem x_kM2 {n n' m : Str} {q : Nat} {fl : List (Str × D)} : kM2 n m mf np q fs (some (.ins n' fl)) env st = if n' = n ∧ fl.lookup m = none then (fs env st).bind (kM3 mf np q) else .bad := rfl
@[simp] theorem x_kM3 {q : Nat} : kM3 mf np q ds env st = if ds.length + 1 = np then callR mf (.ref q :: ds) env st else .bad := rfl
def kMz2 (n m : Str) (mf : FM) (np q : Nat) (c : Option Cell) : M D := fun env st => match c with
  | some (.ins n' fl) => if n' = n ∧ fl.lookup m = none ∧ np = 1 then callR mf [.ref q] env st else .bad
  | _ => .bad
def kMz1 (n m : Str) (mf : FM) (np : Nat) : D → M D := fun r env st => match r with
  | .ref q => kMz2 n m mf np q st[q]? env st
  | _ => .bad
@[simp] theorem x_eMeth0 {n m : Str} : eMeth0 n m mf np fo env st = (fo env st).bind (kMz1 n m mf np) := rfl
@[simp] theorem x_kMz1 {n m : Str} {q : Nat} : kMz1 n m mf np (.ref q) env st = kMz2 n m mf np q st[q]? env st := rfl
@[simp] theorem x_kMz2 {n n' m : Str} {q : Nat} {fl : List (Str × D)} : kMz2 n m mf np q (some (.ins n' fl)) env st = if n' = n ∧ fl.lookup m = none ∧ np = 1 then callR mf [.ref q] env st else .bad := rfl
def kMk2 (q : Nat) : D → M D := fun d env st => match d with
  | .non => .ok (.ref q) env st
  | _ => .bad
def kMk1 (n : Str) (mf : FM) (np : Nat) : List D → M D := fun ds env st => if ds.length + 1 = np then (callR mf (.ref st.length :: ds) env (st ++ [.ins n []])).bind (kMk2 st.length) else .bad
@[simp] theorem x_eMake {n : Str} : eMake n mf np fs env st = (fs env st).bind (kMk1 n mf np) := rfl
@[simp] theorem x_kMk1 {n : Str} : kMk1 n mf np ds env st = if ds.length + 1 = np then (callR mf (.ref st.length :: ds) env (st ++ [.ins n []])).bind (kMk2 st.length) else .bad := rfl
@[simp] theorem x_kMk2 {q : Nat} : kMk2 q .non env st = .ok (.ref q) env st := rfl
def kSl3 (h : D → Option Int → Option Int → Option D) (d : D) (l : Option Int) : Option Int → M D := fun u env st => ret (h d l u) env st
def kSl2 (h : D → Option Int → Option Int → Option D) (fh : M (Option Int)) (d : D) : Option Int → M D := fun l env st => (fh env st).bind (kSl3 h d l)
def kSl1 (h : D → Option Int → Option Int → Option D) (fl fh : M (Option Int)) : D → M D := fun d env st => (fl env st).bind (kSl2 h fh d)
@[simp] theorem x_eSl {h : D → Option Int → Option Int → Option D} {fl fh : M (Option Int)} : eSl h fa fl fh env st = (fa env st).bind (kSl1 h fl fh) := rfl
@[simp] theorem x_kSl1 {h : D → Option Int → Option Int → Option D} {fl fh : M (Option Int)} : kSl1 h fl fh d env st = (fl env st).bind (kSl2 h fh d) := rfl
@[simp] theorem x_kSl2 {h : D → Option Int → Option Int → Option D} {fh : M (Option Int)} {l : Option Int} : kSl2 h fh d l env st = (fh env st).bind (kSl3 h d l) := rfl
@[simp] theorem x_kSl3 {h : D → Option Int → Option Int → Option D} {l u : Option Int} : kSl3 h d l u env st = ret (h d l u) env st := rfl
@[simp] theorem x_oNone : oNone env st = .ok none env st := rfl
def kO : D → M (Option Int) := fun d env st => match d with
  | .int i => .ok (some i) env st
  | _ => .bad
@[simp] theorem x_oSome : oSome fa env st = (fa env st).bind kO := rfl
@[simp] theorem x_kO {i : Int} : kO (.int i) env st = .ok (some i) env st := rfl
def kMs2 (h : Str → D → Option D) (z : Str) : D → M D := fun y env st => ret (h z y) env st
def kMs1 (h : Str → D → Option D) (fa : M D) : D → M D := fun x env st => match x with
  | .str z => (fa env st).bind (kMs2 h z)
  | _ => .bad
@[simp] theorem x_eMs {h : Str → D → Option D} : eMs h fo fa env st = (fo env st).bind (kMs1 h fa) := rfl
@[simp] theorem x_kMs1 {h : Str → D → Option D} : kMs1 h fa (.str s) env st = (fa env st).bind (kMs2 h s) := rfl
@[simp] theorem x_kMs2 {h : Str → D → Option D} : kMs2 h s d env st = ret (h s d) env st := rfl
def kApp3 (i : Nat) : Option (List D) → M Fl := fun o env st => match o with
  | some ys => .ok .nx (env.set i (.ow (.lst ys))) st
  | none => .bad
def kApp2b (i : Nat) (h : List D → D → Option (List D)) (d : D) (s : Option Sl) : M Fl := fun env st => match s with
  | some (.ow (.lst xs)) => kApp3 i (h xs d) env st
  | _ => .bad
def kApp2 (i : Nat) (h : List D → D → Option (List D)) : D → M Fl := fun d env st => kApp2b i h d env[i]? env st
def kApp1 (i : Nat) (h : List D → D → Option (List D)) (fa : M D) (s : Option Sl) : M Fl := fun env st => match s with
  | some (.ow (.lst _)) => (fa env st).bind (kApp2 i h)
  | _ => .bad
@[simp] theorem x_sApp {h : List D → D → Option (List D)} : sApp i h fa env st = kApp1 i h fa env[i]? env st := rfl
@[simp] theorem x_kApp1 {h : List D → D → Option (List D)} : kApp1 i h fa (some (.ow (.lst ds))) env st = (fa env st).bind (kApp2 i h) := rfl
@[simp] theorem x_kApp2 {h : List D → D → Option (List D)} : kApp2 i h d env st = kApp2b i h d env[i]? env st := rfl
@[simp] theorem x_kApp2b {h : List D → D → Option (List D)} : kApp2b i h d (some (.ow (.lst ds))) env st = kApp3 i (h ds d) env st := rfl
@[simp] theorem x_kApp3 : kApp3 i (some ds) env st = .ok .nx (env.set i (.ow (.lst ds))) st := rfl
@[simp] theorem x_appD : appD ds d = if ds.length < 16777216 then some (ds ++ [d]) else none := rfl
@[simp] theorem x_extD {es : List D} : extD ds (.lst es) = if ds.length + es.length ≤ 16777216 then some (ds ++ es) else none := rfl
@[simp] theorem x_sRaise : sRaise s env st = .ex ⟨s, []⟩ env st := rfl
/-! the operators -/
@[simp] theorem x_add {i j : Int} : addI (.int i) (.int j) = some (.int (i + j)) := rfl
@[simp] theorem x_addS {i j : Str} : addI (.str i) (.str j) = if i.length + j.length ≤ sizeLine then some (.str (i ++ j)) else none := rfl
@[simp] theorem x_addII {i j : Int} : addII (.int i) (.int j) = some (.int (i + j)) := rfl
@[simp] theorem x_sub {i j : Int} : subI (.int i) (.int j) = some (.int (i - j)) := rfl
@[simp] theorem x_mul {i j : Int} : mulI (.int i) (.int j) = if mulOk i j then some (.int (i * j)) else none := rfl
@[simp] theorem x_fdiv {i j : Int} : fdivI (.int i) (.int j) = if divOk j then some (.int (i / j)) else none := rfl
@[simp] theorem x_mod {i j : Int} : modI (.int i) (.int j) = if 0 < j then some (.int (i % j)) else none := rfl
@[simp] theorem x_pow {i j : Int} : powI (.int i) (.int j) = if decide (0 ≤ j) && decide (j ≤ 1000) && decide (i.natAbs < 2 ^ 64) then some (.int (i ^ j.toNat)) else none := rfl
@[simp] theorem x_neg {i : Int} : negI (.int i) = some (.int (-i)) := rfl
@[simp] theorem x_cmpI {p : Int → Int → Bool} {i j : Int} : cmpI p (.int i) (.int j) = some (.bl (p i j)) := rfl
@[simp] theorem x_isN {b : Bool} : isN b x .non = some (.bl (if b then !isNone x else isNone x)) := rfl
@[simp] theorem x_ixL {xs : List D} {k : Int} : ixD (.lst xs) (.int k) = atI xs k := rfl
@[simp] theorem x_ixT {xs : List D} {k : Int} : ixD (.tup xs) (.int k) = atI xs k := rfl
@[simp] theorem x_ixR {xs : List Int} {k : Int} : ixD (.scr xs) (.int k) = (atI xs k).map .int := rfl
@[simp] theorem x_len1 {xs : List D} : lenD (.lst xs) = some (.int xs.length) := rfl
@[simp] theorem x_len2 {xs : List D} : lenD (.tup xs) = some (.int xs.length) := rfl
@[simp] theorem x_len3 {xs : List Int} : lenD (.scr xs) = some (.int xs.length) := rfl
@[simp] theorem x_len4 {z : Str} : lenD (.str z) = if z.length ≤ 16777216 then some (.int z.length) else none := rfl
@[simp] theorem x_int1 {i : Int} : intD (.int i) = some (.int i) := rfl
@[simp] theorem x_int2 {i : Bool} : intD (.bl i) = some (.int (if i then 1 else 0)) := rfl
@[simp] theorem x_tup1 {xs : List D} : tupD (.lst xs) = some (.tup xs) := rfl
@[simp] theorem x_tup2 {xs : List D} : tupD (.tup xs) = some (.tup xs) := rfl
@[simp] theorem x_list1 {xs : List D} : listD (.lst xs) = some (.lst xs) := rfl
@[simp] theorem x_list2 {xs : List D} : listD (.tup xs) = some (.lst xs) := rfl
@[simp] theorem x_rev {xs : List D} : revD (.lst xs) = some (.lst xs.reverse) := rfl
@[simp] theorem x_slL {xs : List D} {lo hi : Option Int} : slL (.lst xs) lo hi = some (.lst (cutD xs lo hi)) := rfl
@[simp] theorem x_cat {xs ys : List D} : catL (.lst xs) (.lst ys) = if xs.length + ys.length ≤ 16777216 then some (.lst (xs ++ ys)) else none := rfl
@[simp] theorem x_ii1 {i : Int} : isiD "int" (.int i) = some (.bl true) := by simp only [isiD, tyD]; rfl
@[simp] theorem x_ii2 {i : Bool} : isiD "int" (.bl i) = some (.bl true) := by simp only [isiD, tyD]; rfl
@[simp] theorem x_ii3 {i : Str} : isiD "int" (.str i) = some (.bl false) := by simp only [isiD, tyD]; rfl
@[simp] theorem x_ii4 : isiD "int" .non = some (.bl false) := by simp only [isiD, tyD]; rfl
@[simp] theorem x_ib1 {i : Int} : isiD "bool" (.int i) = some (.bl false) := by simp only [isiD, tyD]; rfl
@[simp] theorem x_ib2 {i : Bool} : isiD "bool" (.bl i) = some (.bl true) := by simp only [isiD, tyD]; rfl
@[simp] theorem x_is1 {i : Str} : isiD "str" (.str i) = some (.bl true) := by simp only [isiD, tyD]; rfl
@[simp] theorem x_is2 {i : Int} : isiD "str" (.int i) = some (.bl false) := by simp only [isiD, tyD]; rfl
@[simp] theorem x_is3 : isiD "str" .non = some (.bl false) := by simp only [isiD, tyD]; rfl
@[simp] theorem x_is4 {i : Bool} : isiD "str" (.bl i) = some (.bl false) := by simp only [isiD, tyD]; rfl
@[simp] theorem x_toRF1 {fr : Bool} : toRF fr (.ok .nx env st) = if fr then .bad else .ok .non st := rfl
@[simp] theorem x_toRF2 {fr : Bool} : toRF fr (.ok (.rt d) env st) = if fr then .bad else .ok d st := rfl
@[simp] theorem x_toRF3 {fr : Bool} : toRF fr (.ok (.rf d) env st) = .ok d st := rfl
@[simp] theorem x_toRF4 {fr : Bool} {e : Exn} : toRF fr (.ex e env st) = .ex e st := rfl
@[simp] theorem x_isNone : isNone .non = true := rfl
@[simp] theorem x_isNone1 {i : Int} : isNone (.int i) = false := rfl
@[simp] theorem x_isNone2 {i : Str} : isNone (.str i) = false := rfl
end
/-- items at written places -/
@[simp] theorem at0 {α : Type} {x : α} {xs : List α} : atI (x :: xs) 0 = some x := atI_nat (j := 0) rfl
@[simp] theorem at1 {α : Type} {x y : α} {xs : List α} : atI (x :: y :: xs) 1 = some y := atI_nat (j := 1) rfl
@[simp] theorem at2 {α : Type} {x y z : α} {xs : List α} : atI (x :: y :: z :: xs) 2 = some z := atI_nat (j := 2) rfl
@[simp] theorem at3 {α : Type} {x y z u : α} {xs : List α} : atI (x :: y :: z :: u :: xs) 3 = some u := atI_nat (j := 3) rfl
@[simp] theorem at4 {α : Type} {x y z u v : α} {xs : List α} : atI (x :: y :: z :: u :: v :: xs) 4 = some v := atI_nat (j := 4) rfl
@[simp] theorem at5 {α : Type} {x y z u v w : α} {xs : List α} : atI (x :: y :: z :: u :: v :: w :: xs) 5 = some w := atI_nat (j := 5) rfl
theorem ixN_nat {n : Nat} {i : Int} (h0 : 0 ≤ i) (h1 : i < n) : ixN n i = some i.toNat := by unfold ixN; rw [if_pos h0, if_pos h1]
theorem atI_pos {α : Type} {xs : List α} {i : Int} (h0 : 0 ≤ i) (h1 : i < xs.length) : atI xs i = xs[i.toNat]? := by unfold atI; rw [ixN_nat h0 h1]; rfl
@[simp] theorem ixN_4_0 : ixN 4 0 = some 0 := by decide
@[simp] theorem ixN_4_1 : ixN 4 1 = some 1 := by decide
@[simp] theorem ixN_4_2 : ixN 4 2 = some 2 := by decide
@[simp] theorem ixN_4_3 : ixN 4 3 = some 3 := by decide
theorem mulOk_r {i j : Int} (h : -(2 ^ 64) < j ∧ j < 2 ^ 64) : mulOk i j = true := by
  unfold mulOk
  simp only [Bool.or_eq_true, Bool.and_eq_true, decide_eq_true_eq]
  exact .inr h
theorem mulOk_l {i j : Int} (h : -(2 ^ 64) < i ∧ i < 2 ^ 64) : mulOk i j = true := by
  unfold mulOk
  simp only [Bool.or_eq_true, Bool.and_eq_true, decide_eq_true_eq]
  exact .inl h
theorem divOk_ {j : Int} (h : 0 < j) (h2 : j ≤ 10000000000000000000000000000000000000000) : divOk j = true := by
  unfold divOk
  simp only [Bool.and_eq_true, decide_eq_true_eq]
  exact ⟨h, h2⟩
end VE

/-! plain laws about the mirrors: what a run gives (sat), loops by invariants, equal data, texts by their signs -/
namespace VE
open PySem PySem.Spec PyProof.Rows L2
open SX (S S_len S_cat S_inj)
/-- the run ends well and P holds, or raises and E holds -/
@[irreducible] def R.sat {α : Type} (r : R α) (P : α → EnvD → Sto → Prop) (E : Exn → Sto → Prop) : Prop := match r with
  | .ok a e st => P a e st
  | .ex x _ st => E x st
  | .bad => False
@[irreducible] def RF.sat (r : RF) (P : D → Sto → Prop) (E : Exn → Sto → Prop) : Prop := match r with
  | .ok d st => P d st
  | .ex x st => E x st
  | .bad => False
@[reducible] def nE : Exn → Sto → Prop := fun _ _ => False
section
variable {α β : Type} {P : α → EnvD → Sto → Prop} {E : Exn → Sto → Prop} {e env : EnvD} {st : Sto}
@[simp] theorem sat_ok {a : α} : (R.ok a e st).sat P E = P a e st := by unfold R.sat; rfl
@[simp] theorem sat_ex {x : Exn} : (R.ex x e st : R α).sat P E = E x st := by unfold R.sat; rfl
@[simp] theorem sat_bad : (R.bad : R α).sat P E = False := by unfold R.sat; rfl
@[simp] theorem fsat_ok {d : D} {P : D → Sto → Prop} : (RF.ok d st).sat P E = P d st := by unfold RF.sat; rfl
@[simp] theorem fsat_ex {x : Exn} {P : D → Sto → Prop} : (RF.ex x st).sat P E = E x st := by unfold RF.sat; rfl
@[simp] theorem fsat_bad {P : D → Sto → Prop} : RF.bad.sat P E = False := by unfold RF.sat; rfl
theorem sat_bind {r : R β} {k : β → M α} (h : r.sat (fun b e s => (k b e s).sat P E) E) : (r.bind k).sat P E := by
  unfold R.sat at *; cases r <;> exact h
theorem R.sat.mono {r : R α} {P' : α → EnvD → Sto → Prop} {E' : Exn → Sto → Prop} (h : r.sat P E) (hp : ∀ a e s, P a e s → P' a e s) (he : ∀ x s, E x s → E' x s) : r.sat P' E' := by
  unfold R.sat at *
  cases r with
  | ok => exact hp _ _ _ h
  | ex => exact he _ _ h
  | bad => exact h
theorem RF.sat.mono {r : RF} {P P' : D → Sto → Prop} {E' : Exn → Sto → Prop} (h : r.sat P E) (hp : ∀ a s, P a s → P' a s) (he : ∀ x s, E x s → E' x s) : r.sat P' E' := by
  unfold RF.sat at *
  cases r with
  | ok => exact hp _ _ h
  | ex => exact he _ _ h
  | bad => exact h
def kk {α β γ : Type} (k : α → M β) (l : β → M γ) : α → M γ := fun a e s => (k a e s).bind l
@[simp] theorem x_kk {α β γ : Type} {k : α → M β} {l : β → M γ} {a : α} : kk k l a env st = (k a env st).bind l := rfl
@[simp] theorem bind_assoc {α β γ : Type} {r : R α} {k : α → M β} {l : β → M γ} : (r.bind k).bind l = r.bind (kk k l) := by cases r <;> rfl
theorem toRF_sat {fr : Bool} {r : R Fl} {P : D → Sto → Prop} (h : r.sat (fun fl _ s => match fl with | .rt d => fr = false ∧ P d s | .rf d => P d s | .nx => fr = false ∧ P .non s | _ => False) E) : (toRF fr r).sat P E := by
  unfold R.sat at h; unfold RF.sat
  cases r with
  | ok fl e s =>
    cases fl with
    | nx => obtain ⟨rfl, h⟩ := h; exact h
    | rt d => obtain ⟨rfl, h⟩ := h; exact h
    | rf d => exact h
    | bk => exact h.elim
    | ct => exact h.elim
  | ex => exact h
  | bad => exact h
theorem toF_sat {fr : Bool} {n : Nat} {g : M Fl} {ds : List D} {P : D → Sto → Prop} (h : (g (env0 n ds) st).sat (fun fl _ s => match fl with | .rt d => fr = false ∧ P d s | .rf d => P d s | .nx => fr = false ∧ P .non s | _ => False) E) : (toF fr n g ds st).sat P E := toRF_sat h
/-- a call, from what the called gives -/
theorem sat_call {mf : FM} {ds : List D} {k : D → M α} {Q : D → Sto → Prop} {E2 : Exn → Sto → Prop} (h : (mf ds st).sat Q E2) (hk : ∀ d s, Q d s → (k d env s).sat P E) (he : ∀ x s, E2 x s → E x s := by intro _ _ h; exact h.elim) : ((callR mf ds env st).bind k).sat P E := by
  rw [x_callR]
  cases hm : mf ds st with
  | ok d s => rw [hm] at h; exact hk d s (by simpa using h)
  | ex x s => rw [hm] at h; show (R.ex x env s).sat P E; simpa using he x s (by simpa using h)
  | bad => rw [hm] at h; simp at h
/-- a loop, by an invariant -/
theorem sat_for (I : Nat → EnvD → Sto → Prop) {t : D → EnvD → Option EnvD} {ws : List Nat} {g : M Fl} : ∀ {ds : List D} {k : Fl → M α} (j : Nat) {env : EnvD} {st : Sto}, I j env st →
    (∀ i d env st, ds[i]? = some d → I (j + i) env st → ∃ e1, t d env = some e1 ∧ (g e1 st).sat (fun fl e s => match fl with | .nx => I (j + i + 1) (wipeD ws e) s | .ct => I (j + i + 1) (wipeD ws e) s | .bk => (k .nx e s).sat P E | .rt d => (k (.rt d) e s).sat P E | .rf d => (k (.rf d) e s).sat P E) E) →
    (∀ e s, I (j + ds.length) e s → (k .nx e s).sat P E) → ((forL t ws g ds env st).bind k).sat P E
  | [], k, j, env, st, h0, _, hk => hk _ _ h0
  | d :: ds, k, j, env, st, h0, hs, hk => by
    obtain ⟨e1, et, hg⟩ := hs 0 d env st rfl h0
    unfold forL
    rw [et]
    show (((g e1 st).bind _).bind k).sat P E
    cases hr : g e1 st with
    | bad => rw [hr, sat_bad] at hg; exact hg.elim
    | ex x e s => rw [hr, sat_ex] at hg; show (R.ex x e s).sat P E; rw [sat_ex]; exact hg
    | ok fl e s =>
      rw [hr, sat_ok] at hg
      have go : I (j + 0 + 1) (wipeD ws e) s → ((forL t ws g ds (wipeD ws e) s).bind k).sat P E := fun hI => by
        refine sat_for I (j + 1) hI (fun i d' env st hd hI' => ?_) fun e s hI' => hk e s (by rw [show j + (d :: ds).length = j + 1 + ds.length from by simp only [List.length_cons]; omega]; exact hI')
        have := hs (i + 1) d' env st (by simpa using hd) (by rw [show j + (i + 1) = j + 1 + i from by omega]; exact hI')
        rw [show j + (i + 1) = j + 1 + i from by omega] at this
        exact this
      cases fl with
      | nx => exact go hg
      | ct => exact go hg
      | bk => exact hg
      | rt d => exact hg
      | rf d => exact hg
/-- a list by comprehension, by an invariant on what was made -/
theorem sat_comp (I : Nat → List D → EnvD → Sto → Prop) {t : D → EnvD → Option EnvD} {ws : List Nat} {tt : M Bool} {fe : M D} : ∀ {ds : List D} {k : D → M α} (j : Nat) {acc : List D} {env : EnvD} {st : Sto}, I j acc env st →
    (∀ i d acc env st, ds[i]? = some d → I (j + i) acc env st → ∃ e1, t d (wipeD ws env) = some e1 ∧ (tt e1 st).sat (fun b e s => if b then (fe e s).sat (fun y e s => acc.length < 16777216 ∧ I (j + i + 1) (acc ++ [y]) e s) nE else I (j + i + 1) acc e s) nE) →
    (∀ acc e s, I (j + ds.length) acc e s → (k (.lst acc) (wipeD ws e) s).sat P E) → ((compL t ws tt fe ds acc env st).bind k).sat P E
  | [], k, j, acc, env, st, h0, _, hk => hk _ _ _ h0
  | d :: ds, k, j, acc, env, st, h0, hs, hk => by
    obtain ⟨e1, et, hg⟩ := hs 0 d acc env st rfl h0
    unfold compL
    rw [et]
    have go : ∀ acc e s, I (j + 0 + 1) acc e s → ((compL t ws tt fe ds acc e s).bind k).sat P E := fun acc e s hI => by
      refine sat_comp I (j + 1) hI (fun i d' acc env st hd hI' => ?_) fun acc e s hI' => hk acc e s (by rw [show j + (d :: ds).length = j + 1 + ds.length from by simp only [List.length_cons]; omega]; exact hI')
      have := hs (i + 1) d' acc env st (by simpa using hd) (by rw [show j + (i + 1) = j + 1 + i from by omega]; exact hI')
      rw [show j + (i + 1) = j + 1 + i from by omega] at this
      exact this
    cases hr : tt e1 st with
    | bad => rw [hr, sat_bad] at hg; exact hg.elim
    | ex x e s => rw [hr, sat_ex] at hg; exact hg.elim
    | ok b e s =>
      rw [hr, sat_ok] at hg
      cases b with
      | false => simp only [hr]; exact go _ _ _ (by simpa using hg)
      | true =>
        simp only [↓reduceIte] at hg
        simp only [hr]
        cases hf : fe e s with
        | bad => rw [hf, sat_bad] at hg; exact hg.elim
        | ex x e s => rw [hf, sat_ex] at hg; exact hg.elim
        | ok y e s =>
          rw [hf, sat_ok] at hg
          obtain ⟨hl, hI⟩ := hg
          simp only [hf, hl, ↓reduceIte]
          exact go _ _ _ hI
end
/-! equal data -/
section
variable {i j : Int} {x y : Str} {xs ys : List D} {b b' : Bool} {d d' : D} {n : Nat}
@[simp] theorem eq_int : eqD (.int i) (.int j) = decide (i = j) := by simp only [eqD, toPy, PyData.eqv]; exact rfl
@[simp] theorem eq_str : eqD (.str x) (.str y) = decide (x = y) := by simp only [eqD, toPy, PyData.eqv]; exact rfl
@[simp] theorem eq_lst : eqD (.lst xs) (.lst ys) = eqDs xs ys := by simp only [eqD, toPy, PyData.eqv, eqDs]
@[simp] theorem eq_tup : eqD (.tup xs) (.tup ys) = eqDs xs ys := by simp only [eqD, toPy, PyData.eqv, eqDs]
@[simp] theorem eqs_nil : eqDs [] [] = true := by simp only [eqDs, toPys, PyData.eqvAll]
@[simp] theorem eqs_cons : eqDs (d :: xs) (d' :: ys) = (eqD d d' && eqDs xs ys) := by simp only [eqDs, toPys, PyData.eqvAll, eqD]
@[simp] theorem eqs_nc : eqDs [] (d' :: ys) = false := by simp only [eqDs, toPys, PyData.eqvAll]
@[simp] theorem eqs_cn : eqDs (d :: xs) [] = false := by simp only [eqDs, toPys, PyData.eqvAll]
@[simp] theorem eq_lt : eqD (.lst xs) (.tup ys) = false := by simp only [eqD, toPy, PyData.eqv]
@[simp] theorem eq_tl : eqD (.tup xs) (.lst ys) = false := by simp only [eqD, toPy, PyData.eqv]
@[simp] theorem eq_non : eqD .non .non = true := by simp only [eqD, toPy, PyData.eqv]
@[simp] theorem eq_bl : eqD (.bl b) (.bl b') = (b == b') := by simp only [eqD, toPy, PyData.eqv]
mutual
theorem eqD_refl : ∀ (n : Nat) (d : D), plain n d = true → eqD d d = true
  | _, .non, _ => eq_non
  | _, .bl b, _ => by simp
  | _, .int i, _ => by simp
  | _, .str x, _ => by simp
  | n + 1, .lst xs, h => by rw [eq_lst]; exact eqDs_refl n xs (by simpa [plain] using h)
  | n + 1, .tup xs, h => by rw [eq_tup]; exact eqDs_refl n xs (by simpa [plain] using h)
  | 0, .lst xs, h => by simp [plain] at h
  | 0, .tup xs, h => by simp [plain] at h
  | n, .scr xs, h => by cases n <;> simp [plain] at h
  | n, .dct xs, h => by cases n <;> simp [plain] at h
  | n, .obj _ xs, h => by cases n <;> simp [plain] at h
  | n, .ref _, h => by cases n <;> simp [plain] at h
  | n, .fn _, h => by cases n <;> simp [plain] at h
theorem eqDs_refl : ∀ (n : Nat) (xs : List D), plains n xs = true → eqDs xs xs = true
  | _, [], _ => eqs_nil
  | n, x :: xs, h => by
    simp only [plains, Bool.and_eq_true] at h
    rw [eqs_cons, eqD_refl n x h.1, eqDs_refl n xs h.2]; rfl
end
@[simp] theorem pl_non : plain n .non = true := by cases n <;> simp only [plain]
@[simp] theorem pl_bl : plain n (.bl b) = true := by cases n <;> simp only [plain]
@[simp] theorem pl_int : plain n (.int i) = true := by cases n <;> simp only [plain]
@[simp] theorem pl_str : plain n (.str x) = PyData.strOk x := by cases n <;> simp only [plain]
theorem pl_lst : plain (n + 1) (.lst xs) = plains n xs := by simp only [plain]
theorem pl_tup : plain (n + 1) (.tup xs) = plains n xs := by simp only [plain]
@[simp] theorem pls_nil : plains n [] = true := by cases n <;> simp only [plains]
@[simp] theorem pls_cons : plains n (d :: xs) = (plain n d && plains n xs) := by cases n <;> simp only [plains]
@[simp] theorem pls_app : ∀ {xs ys : List D}, plains n (xs ++ ys) = (plains n xs && plains n ys)
  | [], _ => by simp
  | x :: xs, ys => by rw [List.cons_append, pls_cons, pls_app, pls_cons, Bool.and_assoc]
@[simp] theorem pl20l : plain 20 (.lst xs) = plains 19 xs := pl_lst
@[simp] theorem pl20t : plain 20 (.tup xs) = plains 19 xs := pl_tup
@[simp] theorem pl19l : plain 19 (.lst xs) = plains 18 xs := pl_lst
@[simp] theorem pl19t : plain 19 (.tup xs) = plains 18 xs := pl_tup
@[simp] theorem pl18l : plain 18 (.lst xs) = plains 17 xs := pl_lst
@[simp] theorem pl18t : plain 18 (.tup xs) = plains 17 xs := pl_tup
@[simp] theorem pl17l : plain 17 (.lst xs) = plains 16 xs := pl_lst
@[simp] theorem pl17t : plain 17 (.tup xs) = plains 16 xs := pl_tup
@[simp] theorem pls_ints : ∀ {xs : List Int}, plains n (xs.map .int) = true
  | [] => by simp
  | x :: xs => by rw [List.map_cons, pls_cons, pls_ints]; simp
theorem eqs_ints : ∀ {xs ys : List Int}, eqDs (xs.map .int) (ys.map .int) = decide (xs = ys)
  | [], [] => by simp
  | [], y :: ys => by simp
  | x :: xs, [] => by simp
  | x :: xs, y :: ys => by simp [eqs_ints]
theorem eqP_same (h : plain 20 d = true) : eqP d d = some (.bl true) := by unfold eqP; rw [h, eqD_refl 20 d h]; rfl
theorem neP_same (h : plain 20 d = true) : neP d d = some (.bl false) := by unfold neP; rw [h, eqD_refl 20 d h]; rfl
@[simp] theorem x_eqP (h : plain 20 d = true) (h' : plain 20 d' = true) : eqP d d' = some (.bl (eqD d d')) := by unfold eqP; rw [h, h']; rfl
@[simp] theorem x_neP (h : plain 20 d = true) (h' : plain 20 d' = true) : neP d d' = some (.bl (!eqD d d')) := by unfold neP; rw [h, h']; rfl
end
/-! ranges -/
@[simp] theorem rng_len {lo : Int} {n : Nat} : (rngD lo n).length = n := by simp [rngD]
theorem rng_at {lo : Int} {n i : Nat} {d : D} (h : (rngD lo n)[i]? = some d) : d = .int (lo + i) ∧ i < n := by
  unfold rngD at h
  rw [List.getElem?_map] at h
  by_cases hi : i < n
  · rw [List.getElem?_range hi] at h; cases h; exact ⟨rfl, hi⟩
  · rw [List.getElem?_eq_none (by simpa using hi)] at h; cases h
theorem rng_zero {lo : Int} : rngD lo 0 = [] := rfl
theorem rng_succ {lo : Int} {n : Nat} : rngD lo (n + 1) = .int lo :: rngD (lo + 1) n := by
  unfold rngD
  rw [List.range_succ_eq_map, List.map_cons, List.map_map]
  simp only [Int.natCast_zero, Int.add_zero]
  congr 1
  apply List.map_congr_left
  intro i _
  simp only [Function.comp, Nat.succ_eq_add_one, Int.natCast_add, Int.natCast_one]
  congr 1; omega
theorem rng_concat {lo : Int} {n : Nat} : rngD lo (n + 1) = rngD lo n ++ [.int (lo + n)] := by
  unfold rngD
  rw [List.range_succ, List.map_append]; rfl
/-! texts by their signs -/
theorem signs_S (a : List Nat) : signsD (S a) = a.map fun c => .str (S [c]) := by simp [signsD]
theorem ok_S {a : List Nat} (h : ∀ c ∈ a, c < 1114112) : PyData.strOk (S a) = true := by
  unfold PyData.strOk
  rw [Array.all_eq_true_iff_forall_mem]
  intro c hc
  exact decide_eq_true (h c (by simpa using hc))
@[simp] theorem wipe_nil {env : EnvD} : wipeD [] env = env := rfl
@[simp] theorem wipe_cons {i : Nat} {ws : List Nat} {env : EnvD} : wipeD (i :: ws) env = wipeD ws (env.set i .no) := rfl
/-- cells -/
@[simp] theorem put_cell {c : Cell} {rest : Sto} {ds : List D} {k : Int} {env : EnvD} : ixC (.ref 0) (.int k) env (.lst ds :: rest) = ret (atI ds k) env (.lst ds :: rest) := rfl
theorem divOk_n {j : Int} (h : 0 < j ∧ j ≤ 10000000000000000000000000000000000000000) : divOk j = true := divOk_ h.1 h.2
@[simp] theorem div256 : divOk 256 = true := by decide
theorem blsF_map {α : Type} (f : α → Bool) : ∀ xs : List α, blsOf (xs.map fun x => .bl (f x)) = some (xs.map f)
  | [] => rfl
  | x :: xs => by simp [blsOf, blsF_map f xs]
theorem intsF_map {α : Type} (f : α → Int) : ∀ xs : List α, intsOf (xs.map fun x => .int (f x)) = some (xs.map f)
  | [] => rfl
  | x :: xs => by simp [intsOf, intsF_map f xs]
theorem strsF_map {α : Type} (f : α → Str) : ∀ xs : List α, strsOf (xs.map fun x => .str (f x)) = some (xs.map f)
  | [] => rfl
  | x :: xs => by simp [strsOf, strsF_map f xs]
end VE

namespace VP
open PySem PySem.Spec PyProof.Rows L2 VE
noncomputable section
/-! the values of the constants, the defs as functions of data -/
def k_BASE : D := .int 256
def k_CHECK_REST : D := .int 181
def k_CHECK_START : D := .int 19
def k_CHECK_TIMES : D := .int 41
def k_FIRST : D := .int 137
def k_LAST : D := .int 999999999999999999999999999999
def k_LETTERS : D := .str ("abcdefghijklmnopqrstuvwxyz" : Str)
def k_MANY_DIGITS : D := .int 13
def k_MAX_WORD : D := .int 8
def b_is_number : M Fl :=
  sRet (eAnd (eUn (isiD "int") (eVar 0)) (eAnd (eNot (eUn (isiD "bool") (eVar 0))) (eChain (fun i j => decide (i ≤ j)) (fun i j => decide (i ≤ j)) (eVar 1) (eVar 0) (eVar 2))))
def m_is_number : FM := toF false 3 b_is_number
def b_is_word : M Fl :=
  sRet (eAnd (eUn (isiD "str") (eVar 0)) (eAnd (eChain (fun i j => decide (i ≤ j)) (fun i j => decide (i ≤ j)) (eC (.int 1)) (eBlt (b1 lenD) (eCons (eVar 0) eNil)) (eC k_MAX_WORD)) (eBlt (b1 allD) (eCons (eComp (iS (eVar 0)) (gN 1) [1] (bYes) (eBin (sc2 (inP false)) (eVar 1) (eC k_LETTERS))) eNil))))
def m_is_word : FM := toF false 2 b_is_word
def b_checksum : M Fl :=
  sSeq (sSet 1 (eC k_CHECK_START))
    (sSeq (sFor (iL (eVar 0)) (gN 2) [2]
    (sSet 1 (eBin (sc2 modI) (eBlt (b1 intD) (eCons (eBin (sc2 addI) (eBin (sc2 mulI) (eC k_CHECK_TIMES) (eVar 1)) (eVar 2)) eNil)) (eC k_CHECK_REST))))
    (sRet (eVar 1)))
def m_checksum : FM := toF false 3 b_checksum
def b_digits_of : M Fl :=
  sSeq (sSetF 1 (eLst (eNil)))
    (sSeq (sFor (iR1 (eC k_MANY_DIGITS)) (gN 2) [2]
    (sSeq (sApp 1 appD (eBin (sc2 subI) (eVar 0) (eBin (sc2 mulI) (eBin (sc2 fdivI) (eVar 0) (eC k_BASE)) (eC k_BASE))))
    (sAug 0 fdivI (eC k_BASE))))
    (sRetF (eUn revD (eVar 1))))
def m_digits_of : FM := toF true 3 b_digits_of
def b_Items_init : M Fl :=
  sSeq (sFldS "Items" "data" (eVar 0) (eVar 1))
    (sFldS "Items" "spot" (eVar 0) (eC (.int 0)))
def m_Items_init : FM := toF false 2 b_Items_init
def b_law_taken : M Fl :=
  sSeq (sIf (eT (eBin gGt (eBin ixC (eVar 0) (eC (.int 3))) (eC (.int 0))))
    (sSeq (sSet 2 (eBin (sc2 modI) (eBlt (b1 intD) (eCons (eBin ixC (eVar 0) (eC (.int 3))) eNil)) (eVar 1)))
    (sSeq (sItemC (eVar 0) (eC (.int 3)) (eBin (sc2 fdivI) (eBin ixC (eVar 0) (eC (.int 3))) (eVar 1)))
    (sRet (eVar 2))))
    (sNx))
    (sSeq (sItemC (eVar 0) (eC (.int 1)) (eBin (sc2 addI) (eBin ixC (eVar 0) (eC (.int 1))) (eC (.int 1))))
    (sSeq (sIf (eT (eBin gGt (eBin ixC (eVar 0) (eC (.int 1))) (eBlt (b1 lenD) (eCons (eBin ixC (eVar 0) (eC (.int 0))) eNil))))
    (sSeq (sItemC (eVar 0) (eC (.int 2)) (eBin (sc2 modI) (eBlt (b1 intD) (eCons (eBin (sc2 addI) (eBin (sc2 mulI) (eBin ixC (eVar 0) (eC (.int 2))) (eC (.int 48271))) (eC (.int 11))) eNil)) (eC (.int 2147483647))))
    (sRet (eBin (sc2 modI) (eBlt (b1 intD) (eCons (eBin (sc2 fdivI) (eBin ixC (eVar 0) (eC (.int 2))) (eC (.int 7))) eNil)) (eVar 1))))
    (sNx))
    (sSeq (sSet 3 (eBin (sc2 ixD) (eBin ixC (eVar 0) (eC (.int 0))) (eBin (sc2 subI) (eBin ixC (eVar 0) (eC (.int 1))) (eC (.int 1)))))
    (sSeq (sItemC (eVar 0) (eC (.int 2)) (eBin (sc2 modI) (eBlt (b1 intD) (eCons (eBin (sc2 addI) (eBin (sc2 addI) (eBin (sc2 mulI) (eBin ixC (eVar 0) (eC (.int 2))) (eC (.int 48271))) (eVar 3)) (eC (.int 11))) eNil)) (eC (.int 2147483647))))
    (sSeq (sIf (eT (eBin gGe (eVar 3) (eBin (sc2 powI) (eC (.int 10)) (eC (.int 18)))))
    (sItemC (eVar 0) (eC (.int 3)) (eBin (sc2 fdivI) (eVar 3) (eVar 1)))
    (sNx))
    (sRet (eBin (sc2 modI) (eBlt (b1 intD) (eCons (eVar 3) eNil)) (eVar 1))))))))
def m_law_taken : FM := toF false 4 b_law_taken
def b_law_checked : M Fl :=
  sSeq (sSet 1 (eC (.int 19)))
    (sSeq (sFor (iL (eVar 0)) (gN 2) [2]
    (sSet 1 (eBin (sc2 modI) (eBlt (b1 intD) (eCons (eBin (sc2 addI) (eBin (sc2 mulI) (eC (.int 41)) (eVar 1)) (eVar 2)) eNil)) (eC (.int 181)))))
    (sRetF (eBin (sc2 catL) (eVar 0) (eLst (eCons (eVar 1) (eNil))))))
def m_law_checked : FM := toF true 3 b_law_checked
def b_law_digits : M Fl :=
  sSeq (sSetF 1 (eLst (eNil)))
    (sSeq (sFor (iR1 (eC (.int 13))) (gN 2) [2]
    (sSeq (sSetF 1 (eBin (sc2 catL) (eLst (eCons (eBin (sc2 modI) (eBlt (b1 intD) (eCons (eVar 0) eNil)) (eC (.int 256))) (eNil))) (eVar 1)))
    (sSet 0 (eBin (sc2 fdivI) (eBlt (b1 intD) (eCons (eVar 0) eNil)) (eC (.int 256))))))
    (sRetO 1))
def m_law_digits : FM := toF true 3 b_law_digits
def b_check_any : M Fl :=
  sIf (bOr (bNot (eT (eCall m_is_number 3 (eCons (eBin (sc2 ixD) (eVar 0) (eC (.int 0))) (eCons (eC (.int 0)) (eCons (eC k_LAST) (eNil))))))) (bNot (eT (eCall m_is_word 1 (eCons (eBin (sc2 ixD) (eVar 0) (eC (.int 1))) (eNil))))))
    (sBad)
    (sNx)
def m_check_any : FM := toF false 1 b_check_any
def b_Items_item : M Fl :=
  sSeq (sIf (bOr (eT (eBin gGe (eFld "Items" "spot" (eVar 0)) (eBlt (b1 lenD) (eCons (eFld "Items" "data" (eVar 0)) eNil)))) (bNot (eT (eCall m_is_number 3 (eCons (eBin (sc2 ixD) (eFld "Items" "data" (eVar 0)) (eFld "Items" "spot" (eVar 0))) (eCons (eVar 1) (eCons (eVar 2) (eNil))))))))
    (sBad)
    (sNx))
    (sSeq (sFldA "Items" "spot" addII (eVar 0) (eC (.int 1)))
    (sRet (eBin (sc2 ixD) (eFld "Items" "data" (eVar 0)) (eBin (sc2 subI) (eFld "Items" "spot" (eVar 0)) (eC (.int 1))))))
def m_Items_item : FM := toF false 3 b_Items_item
def b_encode_row : M Fl :=
  sSeq (sExpr (eCall m_check_any 1 (eCons (eVar 0) (eNil))))
    (sSeq (sSetF 1 (eLst (eCons (eC k_FIRST) (eStar (eCall m_digits_of 1 (eCons (eBin (sc2 ixD) (eVar 0) (eC (.int 0))) (eNil))) (eCons (eBlt (b1 lenD) (eCons (eBin (sc2 ixD) (eVar 0) (eC (.int 1))) eNil)) (eStar (eComp (iS (eBin (sc2 ixD) (eVar 0) (eC (.int 1)))) (gN 2) [2] (bYes) (eBin (sc2 addI) (eMs sIndexD (eC k_LETTERS) (eVar 2)) (eC (.int 1)))) (eNil)))))))
    (sRetF (eLst (eStar (eVar 1) (eCons (eCall m_checksum 1 (eCons (eVar 1) (eNil))) (eNil))))))
def m_encode_row : FM := toF true 3 b_encode_row
def b_Items_read_number : M Fl :=
  sSeq (sSet 1 (eC (.int 0)))
    (sSeq (sFor (iR1 (eC k_MANY_DIGITS)) (gN 2) [2]
    (sSet 1 (eBin (sc2 addI) (eBin (sc2 mulI) (eVar 1) (eC k_BASE)) (eMeth "Items" "item" m_Items_item 3 (eVar 0) (eCons (eC (.int 0)) (eCons (eBin (sc2 subI) (eC k_BASE) (eC (.int 1))) (eNil)))))))
    (sRet (eVar 1)))
def m_Items_read_number : FM := toF false 3 b_Items_read_number
def b_Items_finish : M Fl :=
  sSeq (sSet 1 (eCall m_checksum 1 (eCons (eSl slL (eFld "Items" "data" (eVar 0)) (oNone) (oSome (eFld "Items" "spot" (eVar 0)))) (eNil))))
    (sSeq (sExpr (eMeth "Items" "item" m_Items_item 3 (eVar 0) (eCons (eVar 1) (eCons (eVar 1) (eNil)))))
    (sIf (eT (eBin gLt (eFld "Items" "spot" (eVar 0)) (eBlt (b1 lenD) (eCons (eFld "Items" "data" (eVar 0)) eNil))))
    (sBad)
    (sNx)))
def m_Items_finish : FM := toF false 2 b_Items_finish
def b_decode_row : M Fl :=
  sSeq (sSet 1 (eMake "Items" m_Items_init 2 (eCons (eVar 0) (eNil))))
    (sSeq (sExpr (eMeth "Items" "item" m_Items_item 3 (eVar 1) (eCons (eC k_FIRST) (eCons (eC k_FIRST) (eNil)))))
    (sSeq (sSet 2 (eMeth0 "Items" "read_number" m_Items_read_number 1 (eVar 1)))
    (sSeq (sSet 3 (eMs joinD (eC (.str ("" : Str))) (eComp (iR1 (eMeth "Items" "item" m_Items_item 3 (eVar 1) (eCons (eC (.int 1)) (eCons (eC k_MAX_WORD) (eNil))))) (gN 4) [4] (bYes) (eBin (sc2 ixD) (eC k_LETTERS) (eBin (sc2 subI) (eMeth "Items" "item" m_Items_item 3 (eVar 1) (eCons (eC (.int 1)) (eCons (eBlt (b1 lenD) (eCons (eC k_LETTERS) eNil)) (eNil)))) (eC (.int 1)))))))
    (sSeq (sExpr (eMeth0 "Items" "finish" m_Items_finish 1 (eVar 1)))
    (sSeq (sIf (eT (eBin gGt (eVar 2) (eC k_LAST)))
    (sBad)
    (sNx))
    (sRet (eTup (eCons (eVar 2) (eCons (eVar 3) (eNil))))))))))
def m_decode_row : FM := toF false 5 b_decode_row
def b_law : M Fl :=
  sSeq (sCell 1 (eCons (eVar 0) (eCons (eC (.int 0)) (eCons (eC (.int 0)) (eCons (eC (.int 0)) (eNil))))))
    (sSeq (sFor (iR1 (eC (.int 10))) (gN 2) [2, 3, 4, 5, 6, 7, 8]
    (sSeq (sSet 3 (eBin (sc2 ixD) (eLst (eCons (eCall m_law_taken 2 (eCons (eVar 1) (eCons (eC (.int 999)) (eNil)))) (eCons (eBin (sc2 subI) (eBin (sc2 subI) (eBin (sc2 powI) (eC (.int 10)) (eC (.int 30))) (eC (.int 1))) (eCall m_law_taken 2 (eCons (eVar 1) (eCons (eBin (sc2 powI) (eC (.int 10)) (eC (.int 9))) (eNil))))) (eNil)))) (eCall m_law_taken 2 (eCons (eVar 1) (eCons (eC (.int 2)) (eNil))))))
    (sSeq (sParF 4 5 (eC (.str ("" : Str))) (eLst (eNil)))
    (sSeq (sFor (iR1 (eBin (sc2 addI) (eC (.int 1)) (eCall m_law_taken 2 (eCons (eVar 1) (eCons (eC (.int 8)) (eNil)))))) (gN 6) [6, 7]
    (sSeq (sSet 7 (eCall m_law_taken 2 (eCons (eVar 1) (eCons (eC (.int 26)) (eNil)))))
    (sSeq (sApp 5 appD (eBin (sc2 addI) (eC (.int 1)) (eVar 7)))
    (sSet 4 (eBin (sc2 addI) (eVar 4) (eBin (sc2 ixD) (eC (.str ("abcdefghijklmnopqrstuvwxyz" : Str))) (eVar 7)))))))
    (sSeq (sSetF 8 (eBin (sc2 catL) (eBin (sc2 catL) (eBin (sc2 catL) (eLst (eCons (eC (.int 137)) (eNil))) (eCall m_law_digits 1 (eCons (eVar 3) (eNil)))) (eLst (eCons (eBlt (b1 lenD) (eCons (eVar 5) eNil)) (eNil)))) (eVar 5)))
    (sIf (bOr (eT (eBin (sc2 neP) (eCall m_encode_row 1 (eCons (eTup (eCons (eVar 3) (eCons (eVar 4) (eNil)))) (eNil))) (eCall m_law_checked 1 (eCons (eVar 8) (eNil))))) (eT (eBin (sc2 neP) (eCall m_decode_row 1 (eCons (eCall m_law_checked 1 (eCons (eVar 8) (eNil))) (eNil))) (eTup (eCons (eVar 3) (eCons (eVar 4) (eNil)))))))
    (sRet (eC (.bl false)))
    (sNx)))))))
    (sRet (eC (.bl true))))
def m_law : FM := toF false 9 b_law
end
end VP

namespace VP
open PySem PySem.Spec PyProof.Rows L2 VE
def top (i : Nat) : Stmt := PySem.Challenge.pw_ruledpieces_k44_codes_there_and_back.main.body.getD i (.Pass ⟨0, 0, 0, 0⟩)
abbrev s_is_number : Stmt := top 8
abbrev s_is_word : Stmt := top 9
abbrev s_checksum : Stmt := top 19
abbrev s_digits_of : Stmt := top 20
abbrev s_Items_init : Stmt := inClass (top 22) 0
abbrev s_law_taken : Stmt := top 25
abbrev s_law_checked : Stmt := top 26
abbrev s_law_digits : Stmt := top 27
abbrev s_check_any : Stmt := top 11
abbrev s_Items_item : Stmt := inClass (top 22) 1
abbrev s_encode_row : Stmt := top 21
abbrev s_Items_read_number : Stmt := inClass (top 22) 2
abbrev s_Items_finish : Stmt := inClass (top 22) 3
abbrev s_decode_row : Stmt := top 23
abbrev s_law : Stmt := top 28
abbrev N_is_number : List Str := ["value", "smallest", "largest"]
theorem sc_is_number : FnScope N_is_number ["value", "smallest", "largest"] (defScope s_is_number) := ⟨rfl, rfl, rfl, by decide +kernel, rfl, by decide +kernel, by decide +kernel⟩
abbrev N_is_word : List Str := ["value", "sign"]
theorem sc_is_word : FnScope N_is_word ["value"] (defScope s_is_word) := ⟨rfl, rfl, rfl, by decide +kernel, rfl, by decide +kernel, by decide +kernel⟩
abbrev N_checksum : List Str := ["values", "found", "value"]
theorem sc_checksum : FnScope N_checksum ["values"] (defScope s_checksum) := ⟨rfl, rfl, rfl, by decide +kernel, rfl, by decide +kernel, by decide +kernel⟩
abbrev N_digits_of : List Str := ["number", "found", "turn"]
theorem sc_digits_of : FnScope N_digits_of ["number"] (defScope s_digits_of) := ⟨rfl, rfl, rfl, by decide +kernel, rfl, by decide +kernel, by decide +kernel⟩
abbrev N_Items_init : List Str := ["self", "values"]
theorem sc_Items_init : FnScope N_Items_init ["self", "values"] (defScope s_Items_init) := ⟨rfl, rfl, rfl, by decide +kernel, rfl, by decide +kernel, by decide +kernel⟩
abbrev N_law_taken : List Str := ["_law_row", "_law_many", "_law_found", "_law_cell"]
theorem sc_law_taken : FnScope N_law_taken ["_law_row", "_law_many"] (defScope s_law_taken) := ⟨rfl, rfl, rfl, by decide +kernel, rfl, by decide +kernel, by decide +kernel⟩
abbrev N_law_checked : List Str := ["_law_items", "_law_check", "_law_item"]
theorem sc_law_checked : FnScope N_law_checked ["_law_items"] (defScope s_law_checked) := ⟨rfl, rfl, rfl, by decide +kernel, rfl, by decide +kernel, by decide +kernel⟩
abbrev N_law_digits : List Str := ["_law_number", "_law_found", "_law_k"]
theorem sc_law_digits : FnScope N_law_digits ["_law_number"] (defScope s_law_digits) := ⟨rfl, rfl, rfl, by decide +kernel, rfl, by decide +kernel, by decide +kernel⟩
abbrev N_check_any : List Str := ["row"]
theorem sc_check_any : FnScope N_check_any ["row"] (defScope s_check_any) := ⟨rfl, rfl, rfl, by decide +kernel, rfl, by decide +kernel, by decide +kernel⟩
abbrev N_Items_item : List Str := ["self", "low", "high"]
theorem sc_Items_item : FnScope N_Items_item ["self", "low", "high"] (defScope s_Items_item) := ⟨rfl, rfl, rfl, by decide +kernel, rfl, by decide +kernel, by decide +kernel⟩
abbrev N_encode_row : List Str := ["row", "found", "letter"]
theorem sc_encode_row : FnScope N_encode_row ["row"] (defScope s_encode_row) := ⟨rfl, rfl, rfl, by decide +kernel, rfl, by decide +kernel, by decide +kernel⟩
abbrev N_Items_read_number : List Str := ["self", "found", "turn"]
theorem sc_Items_read_number : FnScope N_Items_read_number ["self"] (defScope s_Items_read_number) := ⟨rfl, rfl, rfl, by decide +kernel, rfl, by decide +kernel, by decide +kernel⟩
abbrev N_Items_finish : List Str := ["self", "check"]
theorem sc_Items_finish : FnScope N_Items_finish ["self"] (defScope s_Items_finish) := ⟨rfl, rfl, rfl, by decide +kernel, rfl, by decide +kernel, by decide +kernel⟩
abbrev N_decode_row : List Str := ["values", "items", "number", "kind", "turn"]
theorem sc_decode_row : FnScope N_decode_row ["values"] (defScope s_decode_row) := ⟨rfl, rfl, rfl, by decide +kernel, rfl, by decide +kernel, by decide +kernel⟩
abbrev N_law : List Str := ["_law_script", "_law_row", "_law_turn", "_law_number", "_law_kind", "_law_letters", "_law_k", "_law_letter", "_law_items"]
theorem sc_law : FnScope N_law ["_law_script"] (defScope s_law) := ⟨rfl, rfl, rfl, by decide +kernel, rfl, by decide +kernel, by decide +kernel⟩
structure Txt (K : PySem.W.Frag) (mg : Str → Option Value) : Prop where
  b_all : mg "all" = none
  b_bool : mg "bool" = none
  b_int : mg "int" = none
  b_isinstance : mg "isinstance" = none
  b_len : mg "len" = none
  b_range : mg "range" = none
  b_str : mg "str" = none
  c_BASE : ConstV K mg "BASE" k_BASE
  c_CHECK_REST : ConstV K mg "CHECK_REST" k_CHECK_REST
  c_CHECK_START : ConstV K mg "CHECK_START" k_CHECK_START
  c_CHECK_TIMES : ConstV K mg "CHECK_TIMES" k_CHECK_TIMES
  c_FIRST : ConstV K mg "FIRST" k_FIRST
  c_LAST : ConstV K mg "LAST" k_LAST
  c_LETTERS : ConstV K mg "LETTERS" k_LETTERS
  c_MANY_DIGITS : ConstV K mg "MANY_DIGITS" k_MANY_DIGITS
  c_MAX_WORD : ConstV K mg "MAX_WORD" k_MAX_WORD
  o_Items : ClsV K mg "Items" ["data", "spot"]
section
variable {P : Program} {w : World} {K : PySem.W.Frag} {mg : Str → Option Value} {base : Heap}
theorem ok_is_number {f : Addr} {fd : FuncData} (F : Fun K "is_number" "is_number" s_is_number f fd) (T : Txt K mg)  :
    FnOk P w K mg base (L2.CX P w) 1 f fd ["value", "smallest", "largest"] (spV K mg false 3 m_is_number) :=
  okV false F sc_is_number rfl rfl fun cdv A outer s H E hr =>
    (vss_one (vs_ret (ve_and (ve_isi T.b_isinstance T.b_int boot_int (ve_name 0)) (ve_and (ve_not (ve_isi T.b_isinstance T.b_bool boot_bool (ve_name 0))) (ve_one (ve_chain op_le op_le (ve_name 1) (ve_name 0) (ve_name 2)))))))
theorem ok_is_word {f : Addr} {fd : FuncData} (F : Fun K "is_word" "is_word" s_is_word f fd) (T : Txt K mg)  :
    FnOk P w K mg base (L2.CX P w) 1 f fd ["value"] (spV K mg false 1 m_is_word) :=
  okV false F sc_is_word rfl rfl fun cdv A outer s H E hr =>
    (vss_one (vs_ret (ve_and (ve_isi T.b_isinstance T.b_str boot_str (ve_name 0)) (ve_and (ve_chain op_le op_le ve_int (ve_len T.b_len (ve_name 0)) (ve_gc T.c_MAX_WORD)) (ve_one (ve_all rfl T.b_all (VF.ve (vf_comp (own := [(("sign" : Str), 1)]) rfl sc_is_word.nd (vi_str (ve_name 0)) (blkOk_by (N := N_is_word) (sc := defScope s_is_word) (by decide +kernel)) (by decide) (fun _ _ _ _ _ => (vg_name (i := 1) sc_is_word.nd)) (fun _ _ _ _ _ => vts_nil) (fun _ _ _ _ _ => (ve_in hr (ve_name 1) (ve_gc T.c_LETTERS)))))))))))
theorem ok_checksum {f : Addr} {fd : FuncData} (F : Fun K "checksum" "checksum" s_checksum f fd) (T : Txt K mg)  :
    FnOk P w K mg base (L2.CX P w) 1 f fd ["values"] (spV K mg false 1 m_checksum) :=
  okV false F sc_checksum rfl rfl fun cdv A outer s H E hr =>
    (vss_cons (vs_set (i := 1) sc_checksum.nd (ve_gc T.c_CHECK_START))
      (vss_cons (vs_for [2] (passes_of rfl) rfl (vi_list (ve_name 0)) (vg_name (i := 2) sc_checksum.nd)
      (vss_one (vs_set (i := 1) sc_checksum.nd (ve_mod (ve_intc T.b_int (ve_add (ve_mul (ve_gc T.c_CHECK_TIMES) (ve_name 1)) (ve_name 2))) (ve_gc T.c_CHECK_REST)))))
      (vss_one (vs_ret (ve_name 1)))))
theorem ok_digits_of {f : Addr} {fd : FuncData} (F : Fun K "digits_of" "digits_of" s_digits_of f fd) (T : Txt K mg)  :
    FnOk P w K mg base (L2.CX P w) 1 f fd ["number"] (spV K mg true 1 m_digits_of) :=
  okV true F sc_digits_of rfl rfl fun cdv A outer s H E hr =>
    (vss_cons (vs_setF (i := 1) sc_digits_of.nd (vf_lst va_nil))
      (vss_cons (vs_for [2] (passes_of rfl) rfl (vi_r1 T.b_range (ve_gc T.c_MANY_DIGITS)) (vg_name (i := 2) sc_digits_of.nd)
      (vss_cons (vs_append (i := 1) (ve_sub (ve_name 0) (ve_mul (ve_fdiv (ve_name 0) (ve_gc T.c_BASE)) (ve_gc T.c_BASE))))
      (vss_one (vs_aug (i := 0) ip_fdivW aug_fdiv sc_digits_of.nd (ve_gc T.c_BASE)))))
      (vss_one (vs_retF (vf_rev (ve_name 1))))))
theorem ok_Items_init {f : Addr} {fd : FuncData} (F : Fun K "__init__" "Items.__init__" s_Items_init f fd) (T : Txt K mg)  :
    FnOk P w K mg base (L2.CX P w) 1 f fd ["self", "values"] (spV K mg false 2 m_Items_init) :=
  okV false F sc_Items_init rfl rfl fun cdv A outer s H E hr =>
    (vss_cons (vs_fld T.o_Items (ve_name 0) (ve_name 1))
      (vss_one (vs_fld T.o_Items (ve_name 0) ve_int)))
theorem ok_law_taken {f : Addr} {fd : FuncData} (F : Fun K "_law_taken" "_law_taken" s_law_taken f fd) (T : Txt K mg)  :
    FnOk P w K mg base (L2.CX P w) 1 f fd ["_law_row", "_law_many"] (spV K mg false 2 m_law_taken) :=
  okV false F sc_law_taken rfl rfl fun cdv A outer s H E hr =>
    (vss_cons (vs_if (vt_gt (ve_ixc (ve_name 0) ve_int) ve_int)
      (vss_cons (vs_set (i := 2) sc_law_taken.nd (ve_mod (ve_intc T.b_int (ve_ixc (ve_name 0) ve_int)) (ve_name 1)))
      (vss_cons (vs_itemC (ve_fdiv (ve_ixc (ve_name 0) ve_int) (ve_name 1)) (ve_name 0) ve_int)
      (vss_one (vs_ret (ve_name 2)))))
      vss_nil)
      (vss_cons (vs_itemC (ve_add (ve_ixc (ve_name 0) ve_int) ve_int) (ve_name 0) ve_int)
      (vss_cons (vs_if (vt_gt (ve_ixc (ve_name 0) ve_int) (ve_len T.b_len (ve_ixc (ve_name 0) ve_int)))
      (vss_cons (vs_itemC (ve_mod (ve_intc T.b_int (ve_add (ve_mul (ve_ixc (ve_name 0) ve_int) ve_int) ve_int)) ve_int) (ve_name 0) ve_int)
      (vss_one (vs_ret (ve_mod (ve_intc T.b_int (ve_fdiv (ve_ixc (ve_name 0) ve_int) ve_int)) (ve_name 1)))))
      vss_nil)
      (vss_cons (vs_set (i := 3) sc_law_taken.nd (ve_ix (ve_ixc (ve_name 0) ve_int) (ve_sub (ve_ixc (ve_name 0) ve_int) ve_int)))
      (vss_cons (vs_itemC (ve_mod (ve_intc T.b_int (ve_add (ve_add (ve_mul (ve_ixc (ve_name 0) ve_int) ve_int) (ve_name 3)) ve_int)) ve_int) (ve_name 0) ve_int)
      (vss_cons (vs_if (vt_ge (ve_name 3) (ve_pow ve_int ve_int))
      (vss_one (vs_itemC (ve_fdiv (ve_name 3) (ve_name 1)) (ve_name 0) ve_int))
      vss_nil)
      (vss_one (vs_ret (ve_mod (ve_intc T.b_int (ve_name 3)) (ve_name 1))))))))))
theorem ok_law_checked {f : Addr} {fd : FuncData} (F : Fun K "_law_checked" "_law_checked" s_law_checked f fd) (T : Txt K mg)  :
    FnOk P w K mg base (L2.CX P w) 1 f fd ["_law_items"] (spV K mg true 1 m_law_checked) :=
  okV true F sc_law_checked rfl rfl fun cdv A outer s H E hr =>
    (vss_cons (vs_set (i := 1) sc_law_checked.nd ve_int)
      (vss_cons (vs_for [2] (passes_of rfl) rfl (vi_list (ve_name 0)) (vg_name (i := 2) sc_law_checked.nd)
      (vss_one (vs_set (i := 1) sc_law_checked.nd (ve_mod (ve_intc T.b_int (ve_add (ve_mul ve_int (ve_name 1)) (ve_name 2))) ve_int))))
      (vss_one (vs_retF (vf_cat (ve_name 0) (VF.ve (vf_lst (va_cons (ve_name 1) va_nil))))))))
theorem ok_law_digits {f : Addr} {fd : FuncData} (F : Fun K "_law_digits" "_law_digits" s_law_digits f fd) (T : Txt K mg)  :
    FnOk P w K mg base (L2.CX P w) 1 f fd ["_law_number"] (spV K mg true 1 m_law_digits) :=
  okV true F sc_law_digits rfl rfl fun cdv A outer s H E hr =>
    (vss_cons (vs_setF (i := 1) sc_law_digits.nd (vf_lst va_nil))
      (vss_cons (vs_for [2] (passes_of rfl) rfl (vi_r1 T.b_range ve_int) (vg_name (i := 2) sc_law_digits.nd)
      (vss_cons (vs_setF (i := 1) sc_law_digits.nd (vf_cat (VF.ve (vf_lst (va_cons (ve_mod (ve_intc T.b_int (ve_name 0)) ve_int) va_nil))) (ve_name 1)))
      (vss_one (vs_set (i := 0) sc_law_digits.nd (ve_fdiv (ve_intc T.b_int (ve_name 0)) ve_int)))))
      (vss_one (vs_retO 1))))
theorem ok_check_any {f : Addr} {fd : FuncData} (F : Fun K "check_any" "check_any" s_check_any f fd) (T : Txt K mg) (v_is_number : FnV P w K mg base 1 "is_number" false 3 m_is_number) (v_is_word : FnV P w K mg base 1 "is_word" false 1 m_is_word) :
    FnOk P w K mg base (L2.CX P w) 2 f fd ["row"] (spV K mg false 1 m_check_any) :=
  okV false F sc_check_any rfl rfl fun cdv A outer s H E hr =>
    (vss_one (vs_if (PW.pt (vw_or (vt_not (vt_val (ve_call v_is_number (hr.mono (by decide)) (takes_of rfl rfl rfl rfl) (va_cons (ve_ix (ve_name 0) ve_int) (va_cons ve_int (va_cons (ve_gc T.c_LAST) va_nil)))))) (vw_or1 (vt_not (vt_val (ve_call v_is_word (hr.mono (by decide)) (takes_of rfl rfl rfl rfl) (va_cons (ve_ix (ve_name 0) ve_int) va_nil)))))))
      (vss_one vs_never)
      vss_nil))
theorem ok_Items_item {f : Addr} {fd : FuncData} (F : Fun K "item" "Items.item" s_Items_item f fd) (T : Txt K mg) (v_is_number : FnV P w K mg base 1 "is_number" false 3 m_is_number) :
    FnOk P w K mg base (L2.CX P w) 2 f fd ["self", "low", "high"] (spV K mg false 3 m_Items_item) :=
  okV false F sc_Items_item rfl rfl fun cdv A outer s H E hr =>
    (vss_cons (vs_if (PW.pt (vw_or (vt_ge (ve_fld T.o_Items (ve_name 0)) (ve_len T.b_len (ve_fld T.o_Items (ve_name 0)))) (vw_or1 (vt_not (vt_val (ve_call v_is_number (hr.mono (by decide)) (takes_of rfl rfl rfl rfl) (va_cons (ve_ix (ve_fld T.o_Items (ve_name 0)) (ve_fld T.o_Items (ve_name 0))) (va_cons (ve_name 1) (va_cons (ve_name 2) va_nil)))))))))
      (vss_one vs_never)
      vss_nil)
      (vss_cons (vs_fldA in_add augIn_add T.o_Items (ve_name 0) ve_int)
      (vss_one (vs_ret (ve_ix (ve_fld T.o_Items (ve_name 0)) (ve_sub (ve_fld T.o_Items (ve_name 0)) ve_int))))))
theorem ok_encode_row {f : Addr} {fd : FuncData} (F : Fun K "encode_row" "encode_row" s_encode_row f fd) (T : Txt K mg) (v_check_any : FnV P w K mg base 2 "check_any" false 1 m_check_any) (v_checksum : FnV P w K mg base 1 "checksum" false 1 m_checksum) (v_digits_of : FnV P w K mg base 1 "digits_of" true 1 m_digits_of) :
    FnOk P w K mg base (L2.CX P w) 3 f fd ["row"] (spV K mg true 1 m_encode_row) :=
  okV true F sc_encode_row rfl rfl fun cdv A outer s H E hr =>
    (vss_cons (vs_expr (ve_call v_check_any (hr.mono (by decide)) (takes_of rfl rfl rfl rfl) (va_cons (ve_name 0) va_nil)))
      (vss_cons (vs_setF (i := 1) sc_encode_row.nd (vf_lst (va_cons (ve_gc T.c_FIRST) (va_star (VF.ve (vf_call v_digits_of (hr.mono (by decide)) (takes_of rfl rfl rfl rfl) (va_cons (ve_ix (ve_name 0) ve_int) va_nil))) (va_cons (ve_len T.b_len (ve_ix (ve_name 0) ve_int)) (va_star (VF.ve (vf_comp (own := [(("letter" : Str), 2)]) rfl sc_encode_row.nd (vi_str (ve_ix (ve_name 0) ve_int)) (blkOk_by (N := N_encode_row) (sc := defScope s_encode_row) (by decide +kernel)) (by decide) (fun _ _ _ _ _ => (vg_name (i := 2) sc_encode_row.nd)) (fun _ _ _ _ _ => vts_nil) (fun _ _ _ _ _ => (ve_add (ve_sindex (ve_gc T.c_LETTERS) (ve_name 2)) ve_int)))) va_nil))))))
      (vss_one (vs_retF (vf_lst (va_star (ve_name 1) (va_cons (ve_call v_checksum (hr.mono (by decide)) (takes_of rfl rfl rfl rfl) (va_cons (ve_name 1) va_nil)) va_nil)))))))
theorem ok_Items_read_number {f : Addr} {fd : FuncData} (F : Fun K "read_number" "Items.read_number" s_Items_read_number f fd) (T : Txt K mg) (mt_Items_item : MtV P w K mg base 2 "Items" "item" false 3 m_Items_item) :
    FnOk P w K mg base (L2.CX P w) 3 f fd ["self"] (spV K mg false 1 m_Items_read_number) :=
  okV false F sc_Items_read_number rfl rfl fun cdv A outer s H E hr =>
    (vss_cons (vs_set (i := 1) sc_Items_read_number.nd ve_int)
      (vss_cons (vs_for [2] (passes_of rfl) rfl (vi_r1 T.b_range (ve_gc T.c_MANY_DIGITS)) (vg_name (i := 2) sc_Items_read_number.nd)
      (vss_one (vs_set (i := 1) sc_Items_read_number.nd (ve_add (ve_mul (ve_name 1) (ve_gc T.c_BASE)) (ve_meth mt_Items_item (hr.mono (by decide)) (takes_of rfl rfl rfl rfl) (ve_name 0) (va_cons ve_int (va_cons (ve_sub (ve_gc T.c_BASE) ve_int) va_nil)))))))
      (vss_one (vs_ret (ve_name 1)))))
theorem ok_Items_finish {f : Addr} {fd : FuncData} (F : Fun K "finish" "Items.finish" s_Items_finish f fd) (T : Txt K mg) (v_checksum : FnV P w K mg base 1 "checksum" false 1 m_checksum) (mt_Items_item : MtV P w K mg base 2 "Items" "item" false 3 m_Items_item) :
    FnOk P w K mg base (L2.CX P w) 3 f fd ["self"] (spV K mg false 1 m_Items_finish) :=
  okV false F sc_Items_finish rfl rfl fun cdv A outer s H E hr =>
    (vss_cons (vs_set (i := 1) sc_Items_finish.nd (ve_call v_checksum (hr.mono (by decide)) (takes_of rfl rfl rfl rfl) (va_cons (VF.ve (vf_slL (ve_fld T.o_Items (ve_name 0)) vo_none (vo_some (ve_fld T.o_Items (ve_name 0))))) va_nil)))
      (vss_cons (vs_expr (ve_meth mt_Items_item (hr.mono (by decide)) (takes_of rfl rfl rfl rfl) (ve_name 0) (va_cons (ve_name 1) (va_cons (ve_name 1) va_nil))))
      (vss_one (vs_if (vt_lt (ve_fld T.o_Items (ve_name 0)) (ve_len T.b_len (ve_fld T.o_Items (ve_name 0))))
      (vss_one vs_never)
      vss_nil))))
theorem ok_decode_row {f : Addr} {fd : FuncData} (F : Fun K "decode_row" "decode_row" s_decode_row f fd) (T : Txt K mg) (mk_Items : MkV P w K mg base 1 "Items" 2 m_Items_init) (mt_Items_finish : MtV P w K mg base 3 "Items" "finish" false 1 m_Items_finish) (mt_Items_item : MtV P w K mg base 2 "Items" "item" false 3 m_Items_item) (mt_Items_read_number : MtV P w K mg base 3 "Items" "read_number" false 1 m_Items_read_number) :
    FnOk P w K mg base (L2.CX P w) 4 f fd ["values"] (spV K mg false 1 m_decode_row) :=
  okV false F sc_decode_row rfl rfl fun cdv A outer s H E hr =>
    (vss_cons (vs_set (i := 1) sc_decode_row.nd (ve_make mk_Items (hr.mono (by decide)) (takes_of rfl rfl rfl rfl) (va_cons (ve_name 0) va_nil)))
      (vss_cons (vs_expr (ve_meth mt_Items_item (hr.mono (by decide)) (takes_of rfl rfl rfl rfl) (ve_name 1) (va_cons (ve_gc T.c_FIRST) (va_cons (ve_gc T.c_FIRST) va_nil))))
      (vss_cons (vs_set (i := 2) sc_decode_row.nd (ve_meth0 mt_Items_read_number (hr.mono (by decide)) (takes_of rfl rfl rfl rfl) (ve_name 1)))
      (vss_cons (vs_set (i := 3) sc_decode_row.nd (ve_join ve_str (VF.ve (vf_comp (own := [(("turn" : Str), 4)]) rfl sc_decode_row.nd (vi_r1 T.b_range (ve_meth mt_Items_item (hr.mono (by decide)) (takes_of rfl rfl rfl rfl) (ve_name 1) (va_cons ve_int (va_cons (ve_gc T.c_MAX_WORD) va_nil)))) (blkOk_by (N := N_decode_row) (sc := defScope s_decode_row) (by decide +kernel)) (by decide) (fun _ _ _ _ _ => (vg_name (i := 4) sc_decode_row.nd)) (fun _ _ _ _ _ => vts_nil) (fun _ _ _ _ _ => (ve_ix (ve_gc T.c_LETTERS) (ve_sub (ve_meth mt_Items_item (hr.mono (by decide)) takes0 (ve_name 1) (va_cons ve_int (va_cons (ve_len T.b_len (ve_gc T.c_LETTERS)) va_nil))) ve_int)))))))
      (vss_cons (vs_expr (ve_meth0 mt_Items_finish (hr.mono (by decide)) (takes_of rfl rfl rfl rfl) (ve_name 1)))
      (vss_cons (vs_if (vt_gt (ve_name 2) (ve_gc T.c_LAST))
      (vss_one vs_never)
      vss_nil)
      (vss_one (vs_ret (ve_tup (va_cons (ve_name 2) (va_cons (ve_name 3) va_nil)))))))))))
theorem ok_law {f : Addr} {fd : FuncData} (F : Fun K "law" "law" s_law f fd) (T : Txt K mg) (v_decode_row : FnV P w K mg base 4 "decode_row" false 1 m_decode_row) (v_encode_row : FnV P w K mg base 3 "encode_row" true 1 m_encode_row) (v_law_checked : FnV P w K mg base 1 "_law_checked" true 1 m_law_checked) (v_law_digits : FnV P w K mg base 1 "_law_digits" true 1 m_law_digits) (v_law_taken : FnV P w K mg base 1 "_law_taken" false 2 m_law_taken) :
    FnOk P w K mg base (L2.CX P w) 5 f fd ["_law_script"] (spV K mg false 1 m_law) :=
  okV false F sc_law rfl rfl fun cdv A outer s H E hr =>
    (vss_cons (vs_cell (i := 1) sc_law.nd (va_cons (ve_name 0) (va_cons ve_int (va_cons ve_int (va_cons ve_int va_nil)))))
      (vss_cons (vs_for [2, 3, 4, 5, 6, 7, 8] (passes_of rfl) rfl (vi_r1 T.b_range ve_int) (vg_name (i := 2) sc_law.nd)
      (vss_cons (vs_set (i := 3) sc_law.nd (ve_ix (VF.ve (vf_lst (va_cons (ve_call v_law_taken (hr.mono (by decide)) (takes_of rfl rfl rfl rfl) (va_cons (ve_name 1) (va_cons ve_int va_nil))) (va_cons (ve_sub (ve_sub (ve_pow ve_int ve_int) ve_int) (ve_call v_law_taken (hr.mono (by decide)) (takes_of rfl rfl rfl rfl) (va_cons (ve_name 1) (va_cons (ve_pow ve_int ve_int) va_nil)))) va_nil)))) (ve_call v_law_taken (hr.mono (by decide)) (takes_of rfl rfl rfl rfl) (va_cons (ve_name 1) (va_cons ve_int va_nil)))))
      (vss_cons (vs_parF (i := 4) (j := 5) rfl sc_law.nd ve_str (vf_lst va_nil))
      (vss_cons (vs_for [6, 7] (passes_of rfl) rfl (vi_r1 T.b_range (ve_add ve_int (ve_call v_law_taken (hr.mono (by decide)) (takes_of rfl rfl rfl rfl) (va_cons (ve_name 1) (va_cons ve_int va_nil))))) (vg_name (i := 6) sc_law.nd)
      (vss_cons (vs_set (i := 7) sc_law.nd (ve_call v_law_taken (hr.mono (by decide)) (takes_of rfl rfl rfl rfl) (va_cons (ve_name 1) (va_cons ve_int va_nil))))
      (vss_cons (vs_append (i := 5) (ve_add ve_int (ve_name 7)))
      (vss_one (vs_set (i := 4) sc_law.nd (ve_add (ve_name 4) (ve_ix ve_str (ve_name 7))))))))
      (vss_cons (vs_setF (i := 8) sc_law.nd (vf_cat (VF.ve (vf_cat (VF.ve (vf_cat (VF.ve (vf_lst (va_cons ve_int va_nil))) (VF.ve (vf_call v_law_digits (hr.mono (by decide)) (takes_of rfl rfl rfl rfl) (va_cons (ve_name 3) va_nil))))) (VF.ve (vf_lst (va_cons (ve_len T.b_len (ve_name 5)) va_nil))))) (ve_name 5)))
      (vss_one (vs_if (PW.pt (vw_or (vt_ne hr (VF.ve (vf_call v_encode_row (hr.mono (by decide)) (takes_of rfl rfl rfl rfl) (va_cons (ve_tup (va_cons (ve_name 3) (va_cons (ve_name 4) va_nil))) va_nil))) (VF.ve (vf_call v_law_checked (hr.mono (by decide)) (takes_of rfl rfl rfl rfl) (va_cons (ve_name 8) va_nil)))) (vw_or1 (vt_ne hr (ve_call v_decode_row (hr.mono (by decide)) (takes_of rfl rfl rfl rfl) (va_cons (VF.ve (vf_call v_law_checked (hr.mono (by decide)) (takes_of rfl rfl rfl rfl) (va_cons (ve_name 8) va_nil))) va_nil)) (ve_tup (va_cons (ve_name 3) (va_cons (ve_name 4) va_nil)))))))
      (vss_one (vs_ret ve_bl))
      vss_nil)))))))
      (vss_one (vs_ret ve_bl))))
end
end VP

namespace VP
open PySem PySem.Spec PyProof.Rows L2 VE
/-- the law's row of draws: the script, where it is read, the seed, what is left -/
def rowC (ns : List Int) (p s l : Int) : Cell := .lst [.scr ns, .int p, .int s, .int l]
def RowOk (ns : List Int) (c : Cell) : Prop := ∃ p s l, c = rowC ns p s l ∧ 0 ≤ p ∧ 0 ≤ s ∧ s < 2147483647
theorem taken {ns : List Int} {c : Cell} {rest : Sto} {many : Int} (hc : RowOk ns c) (h0 : 0 < many) (h1 : many ≤ 10000000000000000000000000000000000000000) :
    ∃ r c', m_law_taken [.ref 0, .int many] (c :: rest) = .ok (.int r) (c' :: rest) ∧ 0 ≤ r ∧ r < many ∧ RowOk ns c' := by
  obtain ⟨p, s, l, rfl, hp, hs0, hs1⟩ := hc
  have hd := divOk_ h0 h1
  by_cases hl : 0 < l
  · refine ⟨l % many, rowC ns p s (l / many), ?_, Int.emod_nonneg _ (by omega), Int.emod_lt_of_pos _ h0, ⟨p, s, _, rfl, hp, hs0, hs1⟩⟩
    simp [m_law_taken, b_law_taken, toF, env0, rowC, hl, h0, hd, toRF]
  · have hl' : ¬ (0 < l) := hl
    by_cases hq : (ns.length : Int) < p + 1
    · refine ⟨((s * 48271 + 11) % 2147483647 / 7) % many, rowC ns (p + 1) ((s * 48271 + 11) % 2147483647) l, ?_, Int.emod_nonneg _ (by omega), Int.emod_lt_of_pos _ h0, ⟨_, _, _, rfl, by omega, by omega, by omega⟩⟩
      have hm : mulOk s 48271 = true := mulOk_r (by decide)
      have hd7 : divOk 7 = true := by decide
      simp [m_law_taken, b_law_taken, toF, env0, rowC, hl', h0, hd, toRF, hq, hm, hd7]
    · obtain ⟨cell, hcell⟩ : ∃ cell, atI ns p = some cell := by
        rw [atI_pos hp (by omega)]
        exact ⟨ns[p.toNat]'(by omega), List.getElem?_eq_getElem (by omega)⟩
      have hm : mulOk s 48271 = true := mulOk_r (by decide)
      by_cases hbig : (1000000000000000000 : Int) ≤ cell
      · refine ⟨cell % many, rowC ns (p + 1) ((s * 48271 + cell + 11) % 2147483647) (cell / many), ?_, Int.emod_nonneg _ (by omega), Int.emod_lt_of_pos _ h0, ⟨_, _, _, rfl, by omega, by omega, by omega⟩⟩
        simp [m_law_taken, b_law_taken, toF, env0, rowC, hl', h0, hd, toRF, hq, hm, hcell, hbig]

      · refine ⟨cell % many, rowC ns (p + 1) ((s * 48271 + cell + 11) % 2147483647) l, ?_, Int.emod_nonneg _ (by omega), Int.emod_lt_of_pos _ h0, ⟨_, _, _, rfl, by omega, by omega, by omega⟩⟩
        simp [m_law_taken, b_law_taken, toF, env0, rowC, hl', h0, hd, toRF, hq, hm, hcell, hbig]

end VP

namespace VP
open PySem PySem.Spec PyProof.Rows L2 VE
open SX (S S_len S_cat S_inj)
def chk (xs : List Int) (c : Int) : Int := xs.foldl (fun c x => (41 * c + x) % 181) c
theorem chk_r : ∀ (xs : List Int) (c : Int), 0 ≤ c ∧ c < 181 → 0 ≤ chk xs c ∧ chk xs c < 181
  | [], _, h => h
  | x :: xs, c, _ => chk_r xs _ ⟨Int.emod_nonneg _ (by decide), Int.emod_lt_of_pos _ (by decide)⟩
theorem chk_take (xs : List Int) (i : Nat) (x : Int) (h : xs[i]? = some x) : chk (xs.take (i + 1)) 19 = (41 * chk (xs.take i) 19 + x) % 181 := by
  unfold chk
  rw [List.take_succ, h]; simp
theorem checksum {ds : List D} {xs : List Int} {st : Sto} (hds : ds = xs.map .int) : (m_checksum [.lst ds] st).sat (fun d s => d = .int (chk xs 19) ∧ s = st) nE := by
  subst hds; unfold m_checksum; refine toF_sat ?_
  simp [b_checksum, env0]
  refine sat_for (fun i e s => e = [.va (.lst (xs.map .int)), .va (.int (chk (xs.take i) 19)), .no] ∧ s = st) 0 ⟨by simp [chk]; rfl, rfl⟩ ?_ ?_
  · rintro i d e s hd ⟨rfl, rfl⟩
    simp at hd
    obtain ⟨x, hx, rfl⟩ := hd
    have hm : mulOk 41 (chk (xs.take i) 19) = true := mulOk_l (by decide)
    simp [hm, k_CHECK_TIMES, k_CHECK_REST, chk_take xs i x hx]
  · rintro e s ⟨rfl, rfl⟩
    simp
theorem law_checked {ds : List D} {xs : List Int} {st : Sto} (hds : ds = xs.map .int) (hl : xs.length < 100) : (m_law_checked [.lst ds] st).sat (fun d s => d = .lst ((xs ++ [chk xs 19]).map .int) ∧ s = st) nE := by
  subst hds; unfold m_law_checked; refine toF_sat ?_
  simp [b_law_checked, env0]
  refine sat_for (fun i e s => e = [.va (.lst (xs.map .int)), .va (.int (chk (xs.take i) 19)), .no] ∧ s = st) 0 ⟨by simp [chk], rfl⟩ ?_ ?_
  · rintro i d e s hd ⟨rfl, rfl⟩
    simp at hd
    obtain ⟨x, hx, rfl⟩ := hd
    have hm : mulOk 41 (chk (xs.take i) 19) = true := mulOk_l (by decide)
    simp [hm, chk_take xs i x hx]
  · rintro e s ⟨rfl, rfl⟩
    have : xs.length + 1 ≤ 16777216 := by omega
    simp [this]
/-- the digits at base 256 -/
def digs : Nat → Int → List Int
  | 0, _ => []
  | k + 1, n => digs k (n / 256) ++ [n % 256]
theorem digs_len : ∀ (k : Nat) (n : Int), (digs k n).length = k
  | 0, _ => rfl
  | k + 1, n => by simp [digs, digs_len k]
def shr : Nat → Int → Int
  | 0, n => n
  | k + 1, n => shr k n / 256
theorem shr_div : ∀ (k : Nat) (n : Int), shr k (n / 256) = shr k n / 256
  | 0, _ => rfl
  | k + 1, n => by simp only [shr, shr_div k]
theorem digs_succ : ∀ (k : Nat) (n : Int), digs (k + 1) n = (shr k n % 256) :: digs k n
  | 0, n => rfl
  | k + 1, n => by
    rw [digs, digs_succ k, shr_div]; rfl
theorem law_digits {n : Int} {st : Sto} : (m_law_digits [.int n] st).sat (fun d s => d = .lst ((digs 13 n).map .int) ∧ s = st) nE := by
  unfold m_law_digits; refine toF_sat ?_
  simp [b_law_digits, env0]
  refine sat_for (fun i e s => e = [.va (.int (shr i n)), .ow (.lst ((digs i n).map .int)), .no] ∧ s = st ∧ i ≤ 13) 0 ⟨by simp [digs, shr], rfl, by omega⟩ ?_ ?_
  · rintro i d e s hd ⟨rfl, rfl, hi⟩
    obtain ⟨rfl, hi⟩ := rng_at hd
    have : (digs i n).length + 1 ≤ 16777216 := by rw [digs_len]; omega
    simp (disch := first | omega | (simp; done) | fail) [if_pos, if_neg, decide_eq_true, decide_eq_false, digs_succ, digs_len, shr]
    omega
  · rintro e s ⟨rfl, rfl, hi⟩
    simp
theorem digits_of {n : Int} {st : Sto} : (m_digits_of [.int n] st).sat (fun d s => d = .lst ((digs 13 n).map .int) ∧ s = st) nE := by
  unfold m_digits_of; refine toF_sat ?_
  simp [b_digits_of, env0, k_MANY_DIGITS, k_BASE]
  refine sat_for (fun i e s => e = [.va (.int (shr i n)), .ow (.lst ((digs i n).reverse.map .int)), .no] ∧ s = st ∧ i ≤ 13) 0 ⟨by simp [digs, shr], rfl, by omega⟩ ?_ ?_
  · rintro i d e s hd ⟨rfl, rfl, hi⟩
    obtain ⟨rfl, hi⟩ := rng_at hd
    have : (digs i n).length < 16777216 := by rw [digs_len]; omega
    have hm : mulOk (shr i n / 256) 256 = true := mulOk_r (by decide)
    simp (disch := first | omega | (simp; done) | fail) [if_pos, if_neg, decide_eq_true, decide_eq_false, digs_succ, digs_len, shr, hm]
    omega
  · rintro e s ⟨rfl, rfl, hi⟩
    simp
end VP

namespace VP
open PySem PySem.Spec PyProof.Rows L2 VE
open SX (S S_len S_cat S_inj)
theorem is_number {i lo hi : Int} {st : Sto} : (m_is_number [.int i, .int lo, .int hi] st).sat (fun d s => d = .bl (decide (lo ≤ i ∧ i ≤ hi)) ∧ s = st) nE := by
  unfold m_is_number; refine toF_sat ?_
  simp [b_is_number, env0]
  by_cases h : lo ≤ i <;> simp [h]
def word (L : List Nat) : Str := S (L.map (97 + ·))
theorem word_len (L : List Nat) : (word L).length = L.length := by unfold word; rw [S_len, List.length_map]
theorem signs_word (L : List Nat) : signsD (word L) = L.map fun k => .str (S [97 + k]) := by unfold word; rw [signs_S, List.map_map]; rfl
theorem let_in (k : Nat) (h : k < 26) : inText (S [97 + k]) "abcdefghijklmnopqrstuvwxyz" = true := by
  have : ∀ k < 26, inText (S [97 + k]) "abcdefghijklmnopqrstuvwxyz" = true := by decide +kernel
  exact this k h
theorem let_ix (k : Nat) (h : k < 26) : sIndexD "abcdefghijklmnopqrstuvwxyz" (.str (S [97 + k])) = some (.int (k : Nat)) := by
  have : ∀ k < 26, (Builtin.Str.occurrences "abcdefghijklmnopqrstuvwxyz" (S [97 + k]) 0 (Str.length "abcdefghijklmnopqrstuvwxyz") 1).head? = some k := by decide +kernel
  show Option.map _ _ = _
  rw [this k h]; rfl
theorem let_at (k : Nat) (h : k < 26) : ixD (.str "abcdefghijklmnopqrstuvwxyz") (.int (k : Nat)) = some (.str (S [97 + k])) := by
  have : ∀ k < 26, (match ixD (.str "abcdefghijklmnopqrstuvwxyz") (.int (k : Nat)) with | some (.str x) => decide (x = S [97 + k]) | _ => false) = true := by decide +kernel
  have := this k h
  split at this
  · rename_i x e; rw [e]; rw [of_decide_eq_true this]
  · cases this
theorem is_word {L : List Nat} {st : Sto} (h : ∀ k ∈ L, k < 26) (h1 : 1 ≤ L.length) (h8 : L.length ≤ 8) : (m_is_word [.str (word L)] st).sat (fun d s => d = .bl true ∧ s = st) nE := by
  unfold m_is_word; refine toF_sat ?_
  have h2 : (1 : Int) ≤ L.length := by omega
  have h3 : (L.length : Int) ≤ 8 := by omega
  simp (disch := first | omega | (simp; done) | fail) [if_pos, if_neg, decide_eq_true, decide_eq_false, b_is_word, env0, word_len, k_MAX_WORD, h2, h3, signs_word]
  refine sat_comp (fun i acc e s => ∃ x, e = [.va (.str (word L)), x] ∧ acc = List.replicate i (.bl true) ∧ s = st ∧ i ≤ L.length) 0 ⟨.no, rfl, rfl, rfl, by omega⟩ ?_ ?_
  · rintro i d acc e s hd ⟨x, rfl, rfl, rfl, hi⟩
    simp at hd
    obtain ⟨c, hc, rfl⟩ := hd
    have hk := let_in c (h c (List.mem_of_getElem? hc))
    have hi' := (List.getElem?_eq_some_iff.mp hc).1
    simp (disch := first | omega | (simp; done) | fail) [if_pos, if_neg, decide_eq_true, decide_eq_false, inP, k_LETTERS, hk, List.replicate_succ']
    omega
  · rintro acc e s ⟨x, rfl, rfl, rfl, hi⟩
    have : ∀ n, blsOf (List.replicate n (.bl true)) = some (List.replicate n true) := by
      intro n; induction n with
      | zero => rfl
      | succ n ih => rw [List.replicate_succ, blsOf, ih]; rfl
    simp [allD, this]
end VP

namespace VP
open PySem PySem.Spec PyProof.Rows L2 VE
open SX (S S_len S_cat S_inj)
def codes (L : List Nat) : List Int := L.map fun k : Nat => (k : Int) + 1
def row (n : Int) (L : List Nat) : List Int := 137 :: (digs 13 n ++ (L.length : Int) :: codes L)
def full (n : Int) (L : List Nat) : List Int := row n L ++ [chk (row n L) 19]
structure Good (n : Int) (L : List Nat) : Prop where
  n0 : 0 ≤ n
  n1 : n ≤ 999999999999999999999999999999
  l1 : 1 ≤ L.length
  l8 : L.length ≤ 8
  lt : ∀ k ∈ L, k < 26
theorem row_len (n : Int) (L : List Nat) : (row n L).length = 15 + L.length := by simp [row, digs_len, codes]; omega
theorem check_any {n : Int} {L : List Nat} {st : Sto} (h : Good n L) : (m_check_any [.tup [.int n, .str (word L)]] st).sat (fun d s => d = .non ∧ s = st) nE := by
  unfold m_check_any; refine toF_sat ?_
  simp (disch := first | omega | (simp; done) | fail) [if_pos, if_neg, decide_eq_true, decide_eq_false, b_check_any, env0]
  refine sat_call is_number ?_
  rintro d s ⟨rfl, rfl⟩
  have h0 := h.n0
  have h1 := h.n1
  simp (disch := first | omega | (simp; done) | fail) [if_pos, if_neg, decide_eq_true, decide_eq_false, k_LAST, h0, h1]
  refine sat_call (is_word h.lt h.l1 h.l8) ?_
  rintro d s ⟨rfl, rfl⟩
  simp (disch := first | omega | (simp; done) | fail) [if_pos, if_neg, decide_eq_true, decide_eq_false]
theorem encode_row {n : Int} {L : List Nat} {st : Sto} (h : Good n L) : (m_encode_row [.tup [.int n, .str (word L)]] st).sat (fun d s => d = .lst ((full n L).map .int) ∧ s = st) nE := by
  unfold m_encode_row; refine toF_sat ?_
  have l8 := h.l8
  simp (disch := first | omega | (simp; done) | fail) [if_pos, if_neg, decide_eq_true, decide_eq_false, b_encode_row, env0]
  refine sat_call (check_any h) ?_
  rintro d s ⟨rfl, rfl⟩
  simp (disch := first | omega | (simp; done) | fail) [if_pos, if_neg, decide_eq_true, decide_eq_false]
  refine sat_call digits_of ?_
  rintro d s ⟨rfl, rfl⟩
  simp (disch := first | omega | (simp; done) | fail) [if_pos, if_neg, decide_eq_true, decide_eq_false, word_len, signs_word]
  refine sat_comp (fun i acc e s' => ∃ x, e = [.va (.tup [.int n, .str (word L)]), .no, x] ∧ acc = (codes (L.take i)).map .int ∧ s' = s ∧ i ≤ L.length) 0 ⟨.no, rfl, by rfl, rfl, by omega⟩ ?_ ?_
  · rintro i d acc e s hd ⟨x, rfl, rfl, rfl, hi⟩
    simp at hd
    obtain ⟨c, hc, rfl⟩ := hd
    have hk := let_ix c (h.lt c (List.mem_of_getElem? hc))
    have hi' := (List.getElem?_eq_some_iff.mp hc).1
    have e : codes (L.take (i + 1)) = codes (L.take i) ++ [(c : Int) + 1] := by unfold codes; rw [List.take_succ, hc]; simp
    have e2 : (codes (L.take i)).length = i := by simp [codes]; omega
    simp (disch := first | omega | (simp; done) | fail) [if_pos, if_neg, decide_eq_true, decide_eq_false, k_LETTERS, hk, e, e2]
    omega
  · rintro acc e s ⟨x, rfl, rfl, rfl, hi⟩
    have e2 : (codes L).length = L.length := by simp [codes]
    simp (disch := first | omega | (simp; done) | fail) [if_pos, if_neg, decide_eq_true, decide_eq_false, digs_len, e2]
    refine sat_call (checksum (xs := row n L) (by simp [row, k_FIRST])) ?_
    rintro d s ⟨rfl, rfl⟩
    simp (disch := first | omega | (simp; done) | fail) [if_pos, if_neg, decide_eq_true, decide_eq_false, digs_len, e2]
    simp [full, row, k_FIRST]
def itemsC (xs : List Int) (k : Int) : Cell := .ins "Items" [("data", .lst (xs.map .int)), ("spot", .int k)]
@[simp] theorem look1 {a b : D} : List.lookup ("data" : Str) [(("data" : Str), a), (("spot" : Str), b)] = some a := rfl
@[simp] theorem look2 {a b : D} : List.lookup ("spot" : Str) [(("data" : Str), a), (("spot" : Str), b)] = some b := rfl
@[simp] theorem look3 {a b : D} : List.lookup ("item" : Str) [(("data" : Str), a), (("spot" : Str), b)] = none := rfl
@[simp] theorem look4 {a b : D} : List.lookup ("read_number" : Str) [(("data" : Str), a), (("spot" : Str), b)] = none := rfl
@[simp] theorem look5 {a b : D} : List.lookup ("finish" : Str) [(("data" : Str), a), (("spot" : Str), b)] = none := rfl
@[simp] theorem put1 {a : D} : putD ("data" : Str) a [] = [(("data" : Str), a)] := rfl
@[simp] theorem put2 {a b : D} : putD ("spot" : Str) b [(("data" : Str), a)] = [(("data" : Str), a), (("spot" : Str), b)] := rfl
@[simp] theorem put3 {a b c : D} : putD ("spot" : Str) c [(("data" : Str), a), (("spot" : Str), b)] = [(("data" : Str), a), (("spot" : Str), c)] := rfl
theorem set_last {st : Sto} {c c' : Cell} : (st ++ [c]).set st.length c' = st ++ [c'] := by simp
theorem items_init {xs : List Int} {st : Sto} : (m_Items_init [.ref st.length, .lst (xs.map .int)] (st ++ [.ins "Items" []])).sat (fun d s => d = .non ∧ s = st ++ [itemsC xs 0]) nE := by
  unfold m_Items_init; refine toF_sat ?_
  simp (disch := first | omega | (simp; done) | fail) [if_pos, if_neg, decide_eq_true, decide_eq_false, b_Items_init, env0, set_last, itemsC]
theorem item {xs : List Int} {k : Nat} {v lo hi : Int} {st : Sto} (hv : xs[k]? = some v) (h0 : lo ≤ v) (h1 : v ≤ hi) : (m_Items_item [.ref st.length, .int lo, .int hi] (st ++ [itemsC xs k])).sat (fun d s => d = .int v ∧ s = st ++ [itemsC xs (k + 1 : Nat)]) nE := by
  unfold m_Items_item; refine toF_sat ?_
  have hk := (List.getElem?_eq_some_iff.mp hv).1
  have hk' : (k : Int) < xs.length := by omega
  have hd : atI (xs.map D.int) (k : Int) = some (.int v) := by rw [atI_pos (by omega) (by simpa using hk')]; simp [hv]
  have hn : ¬ ((xs.length : Int) ≤ k) := by omega
  simp (disch := first | omega | (simp; done) | fail) [if_pos, if_neg, decide_eq_true, decide_eq_false, b_Items_item, env0, itemsC, hn, hd]
  refine sat_call is_number ?_
  rintro d s ⟨rfl, rfl⟩
  have hd' : atI (xs.map D.int) ((k : Int) + 1 - 1) = some (.int v) := by rw [show (k : Int) + 1 - 1 = k from by omega]; exact hd
  simp (disch := first | omega | (simp; done) | fail) [if_pos, if_neg, decide_eq_true, decide_eq_false, h0, h1, set_last, hd, hd']
end VP

namespace VP
open PySem PySem.Spec PyProof.Rows L2 VE
open SX (S S_len S_cat S_inj)
theorem digs_at : ∀ (k : Nat) (n : Int) (i : Nat), i < k → (digs k n)[i]? = some (shr (k - 1 - i) n % 256)
  | 0, n, i, h => by omega
  | k + 1, n, 0, h => by rw [digs_succ]; rfl
  | k + 1, n, i + 1, h => by
    rw [digs_succ, List.getElem?_cons_succ, digs_at k n i (by omega)]
    rw [show k + 1 - 1 - (i + 1) = k - 1 - i from by omega]
theorem full_at0 (n : Int) (L : List Nat) : (full n L)[0]? = some 137 := rfl
theorem full_dig (n : Int) (L : List Nat) (i : Nat) (h : i < 13) : (full n L)[i + 1]? = some (shr (12 - i) n % 256) := by
  unfold full row
  rw [List.cons_append, List.getElem?_cons_succ, List.append_assoc, List.getElem?_append_left (by rw [digs_len]; omega), digs_at 13 n i h]
theorem full_len (n : Int) (L : List Nat) : (full n L)[14]? = some (L.length : Int) := by
  unfold full row
  rw [List.cons_append, List.getElem?_cons_succ, List.append_assoc, List.getElem?_append_right (by rw [digs_len]; omega), digs_len]
  rfl
theorem full_let (n : Int) (L : List Nat) (i c : Nat) (h : L[i]? = some c) : (full n L)[15 + i]? = some ((c : Int) + 1) := by
  have hi := (List.getElem?_eq_some_iff.mp h).1
  unfold full row codes
  rw [show 15 + i = (14 + i) + 1 from by omega, List.cons_append, List.getElem?_cons_succ, List.append_assoc, List.getElem?_append_right (by rw [digs_len]; omega), digs_len, show 14 + i - 13 = i + 1 from by omega, List.cons_append, List.getElem?_cons_succ, List.getElem?_append_left (by simpa using hi), List.getElem?_map, h]
  rfl
theorem full_chk (n : Int) (L : List Nat) : (full n L)[15 + L.length]? = some (chk (row n L) 19) := by
  unfold full
  rw [List.getElem?_append_right (by rw [row_len]; omega), row_len]
  simp
theorem full_length (n : Int) (L : List Nat) : (full n L).length = 16 + L.length := by unfold full; rw [List.length_append, row_len]; simp; omega
theorem shr_step (n : Int) (k : Nat) : shr (k + 1) n * 256 + shr k n % 256 = shr k n := by
  show shr k n / 256 * 256 + shr k n % 256 = shr k n
  omega
theorem shr13 {n : Int} (h0 : 0 ≤ n) (h1 : n ≤ 999999999999999999999999999999) : shr 13 n = 0 := by
  simp only [shr]; omega
theorem read_number {n : Int} {L : List Nat} {st : Sto} (h : Good n L) : (m_Items_read_number [.ref st.length] (st ++ [itemsC (full n L) 1])).sat (fun d s => d = .int n ∧ s = st ++ [itemsC (full n L) 14]) nE := by
  unfold m_Items_read_number; refine toF_sat ?_
  simp (disch := first | omega | (simp; done) | fail) [if_pos, if_neg, decide_eq_true, decide_eq_false, b_Items_read_number, env0, k_MANY_DIGITS]
  refine sat_for (fun i e s => e = [.va (.ref st.length), .va (.int (shr (13 - i) n)), .no] ∧ s = st ++ [itemsC (full n L) (i + 1 : Nat)] ∧ i ≤ 13) 0 ⟨by simp [shr13 h.n0 h.n1], rfl, by omega⟩ ?_ ?_
  · rintro i d e s hd ⟨rfl, rfl, hi⟩
    obtain ⟨rfl, hi⟩ := rng_at hd
    have hm : mulOk (shr (13 - i) n) 256 = true := mulOk_r (by decide)
    have hs := shr_step n (12 - i)
    rw [show 12 - i + 1 = 13 - i from by omega] at hs
    simp (disch := first | omega | (simp; done) | fail) [if_pos, if_neg, decide_eq_true, decide_eq_false, k_BASE, hm, itemsC]
    refine sat_call (item (full_dig n L i hi) (Int.emod_nonneg _ (by decide)) (by omega)) ?_
    rintro d s ⟨rfl, rfl⟩
    simp (disch := first | omega | (simp; done) | fail) [if_pos, if_neg, decide_eq_true, decide_eq_false, hs]
    exact ⟨rfl, by omega⟩
  · rintro e s ⟨rfl, rfl, hi⟩
    simp (disch := first | omega | (simp; done) | fail) [if_pos, if_neg, decide_eq_true, decide_eq_false, shr]
theorem cut_row {n : Int} {L : List Nat} : VE.cutD ((full n L).map .int) none (some ((15 + L.length : Nat) : Int)) = (row n L).map .int := by
  have e : HT.sIx ((full n L).map D.int).length ((full n L).map D.int).length (some ((15 + L.length : Nat) : Int)) = 15 + L.length := by
    rw [List.length_map, full_length]; simp only [HT.sIx]; split <;> omega
  have e2 : HT.sIx ((full n L).map D.int).length 0 none = 0 := rfl
  unfold VE.cutD
  rw [e, e2, List.drop_zero, ← List.map_take, full, List.take_append_of_le_length (by rw [row_len]; omega), List.take_of_length_le (by rw [row_len]; omega)]
theorem finish {n : Int} {L : List Nat} {st : Sto} (h : Good n L) : (m_Items_finish [.ref st.length] (st ++ [itemsC (full n L) (15 + L.length : Nat)])).sat (fun d s => d = .non ∧ s = st ++ [itemsC (full n L) (16 + L.length : Nat)]) nE := by
  unfold m_Items_finish; refine toF_sat ?_
  have hc := chk_r (row n L) 19 (by decide)
  simp only [itemsC]
  simp (disch := first | omega | (simp; done) | fail) [if_pos, if_neg, decide_eq_true, decide_eq_false, b_Items_finish, env0]
  refine sat_call (checksum (xs := row n L) (by rw [← cut_row]; simp)) ?_
  rintro d s ⟨rfl, rfl⟩
  simp (disch := first | omega | (simp; done) | fail) [if_pos, if_neg, decide_eq_true, decide_eq_false]
  refine sat_call (item (full_chk n L) (Int.le_refl _) (Int.le_refl _)) ?_
  rintro d s ⟨rfl, rfl⟩
  simp (disch := first | omega | (simp; done) | fail) [if_pos, if_neg, decide_eq_true, decide_eq_false, itemsC, full_length]
  omega
theorem joinL_one : ∀ L : List Nat, TL.joinL [] (L.map fun k => [97 + k]) = L.map (97 + ·)
  | [] => rfl
  | [a] => rfl
  | a :: b :: L => by
    have := joinL_one (b :: L)
    simp only [List.map_cons, TL.joinL] at this ⊢
    rw [this]; rfl
theorem join_word (L : List Nat) (h : L.length ≤ 8) : joinD ("" : Str) (.lst (L.map fun k => .str (S [97 + k]))) = some (.str (word L)) := by
  unfold joinD
  simp only [strsF_map, Option.bind_some]
  rw [if_pos]
  · have : (L.map fun k => S [97 + k]) = (L.map fun k => [97 + k]).map S := by rw [List.map_map]; rfl
    rw [this]
    show some (D.str (Txt.join (S []) _)) = _
    rw [SX.join_S, joinL_one]; rfl
  · have : (L.map fun k => S [97 + k]).map (·.length) = L.map fun _ => 1 := by rw [List.map_map]; apply List.map_congr_left; intro k _; exact S_len _
    have h1 : ∀ L : List Nat, (L.map fun _ => 1).sum = L.length := by
      intro L; induction L with
      | nil => rfl
      | cons a L ih => rw [List.map_cons, List.sum_cons, ih, List.length_cons]; omega
    have h0 : Str.length ("" : Str) = 0 := rfl
    rw [this, h1, h0, Nat.mul_zero]
    omega
theorem decode_row {n : Int} {L : List Nat} {st : Sto} (h : Good n L) : (m_decode_row [.lst ((full n L).map .int)] st).sat (fun d s => d = .tup [.int n, .str (word L)] ∧ ∃ c, s = st ++ [c]) nE := by
  unfold m_decode_row; refine toF_sat ?_
  simp (disch := first | omega | (simp; done) | fail) [if_pos, if_neg, decide_eq_true, decide_eq_false, b_decode_row, env0]
  refine sat_call items_init ?_
  rintro d s ⟨rfl, rfl⟩
  simp only [itemsC]
  simp (disch := first | omega | (simp; done) | fail) [if_pos, if_neg, decide_eq_true, decide_eq_false, k_FIRST]
  refine sat_call (item (k := 0) (full_at0 n L) (by decide) (by decide)) ?_
  rintro d s ⟨rfl, rfl⟩
  simp only [itemsC]
  simp (disch := first | omega | (simp; done) | fail) [if_pos, if_neg, decide_eq_true, decide_eq_false]
  refine sat_call (read_number h) ?_
  rintro d s ⟨rfl, rfl⟩
  simp only [itemsC]
  have l1 := h.l1
  have l8 := h.l8
  simp (disch := first | omega | (simp; done) | fail) [if_pos, if_neg, decide_eq_true, decide_eq_false, k_MAX_WORD]
  refine sat_call (item (k := 14) (full_len n L) (by omega) (by omega)) ?_
  rintro d s ⟨rfl, rfl⟩
  simp (disch := first | omega | (simp; done) | fail) [if_pos, if_neg, decide_eq_true, decide_eq_false]
  refine sat_comp (fun i acc e s => ∃ x, e = [.va (.lst ((full n L).map .int)), .va (.ref st.length), .va (.int n), .no, x] ∧ acc = (L.take i).map (fun k => .str (S [97 + k])) ∧ s = st ++ [itemsC (full n L) (15 + i : Nat)] ∧ i ≤ L.length) 0 ⟨.no, rfl, by rfl, rfl, by omega⟩ ?_ ?_
  · rintro i d acc e s hd ⟨x, rfl, rfl, rfl, hi⟩
    obtain ⟨rfl, hi⟩ := rng_at hd
    have hc : L[i]? = some L[i] := List.getElem?_eq_getElem hi
    have hk := h.lt _ (List.mem_of_getElem? hc)
    have hix := let_at _ hk
    have e1 : (L.map (fun k => D.str (S [97 + k]))).take (i + 1) = (L.map (fun k => .str (S [97 + k]))).take i ++ [.str (S [97 + L[i]])] := by rw [List.take_succ, List.getElem?_map, hc]; rfl
    have l26 : Str.length "abcdefghijklmnopqrstuvwxyz" = 26 := by rfl
    simp only [itemsC]
    simp (disch := first | omega | (simp; done) | fail) [if_pos, if_neg, decide_eq_true, decide_eq_false, k_LETTERS, l26]
    refine sat_call (item (full_let n L i _ hc) (by omega) (by omega)) ?_
    rintro d s ⟨rfl, rfl⟩
    have hix' : ixD (.str "abcdefghijklmnopqrstuvwxyz") (.int ((L[i] : Int) + 1 - 1)) = some (.str (S [97 + L[i]])) := by rw [show (L[i] : Int) + 1 - 1 = L[i] from by omega]; exact hix
    simp (disch := first | omega | (simp; done) | fail) [if_pos, if_neg, decide_eq_true, decide_eq_false, hix, hix']
    refine ⟨by omega, e1.symm, ?_, by omega⟩
    rw [show (15 + (i : Int) + 1) = 15 + ((i : Int) + 1) from by omega]; rfl
  · rintro acc e s ⟨x, rfl, rfl, rfl, hi⟩
    have hj := join_word L l8
    simp (disch := first | omega | (simp; done) | fail) [if_pos, if_neg, decide_eq_true, decide_eq_false, hj]
    simp only [itemsC]
    simp (disch := first | omega | (simp; done) | fail) [if_pos, if_neg, decide_eq_true, decide_eq_false]
    refine sat_call (finish h) ?_
    rintro d s ⟨rfl, rfl⟩
    have n1 := h.n1
    simp (disch := first | omega | (simp; done) | fail) [if_pos, if_neg, decide_eq_true, decide_eq_false, k_LAST]
end VP

namespace VP
open PySem PySem.Spec PyProof.Rows L2 VE
open SX (S S_len S_cat S_inj)
theorem taken' {ns : List Int} {c : Cell} {rest : Sto} {many : Int} (hc : RowOk ns c) (h0 : 0 < many) (h1 : many ≤ 10000000000000000000000000000000000000000) :
    (m_law_taken [.ref 0, .int many] (c :: rest)).sat (fun d s => ∃ r c', d = .int r ∧ s = c' :: rest ∧ 0 ≤ r ∧ r < many ∧ RowOk ns c') nE := by
  obtain ⟨r, c', h, a, b, hr⟩ := taken (rest := rest) hc h0 h1
  rw [h, fsat_ok]; exact ⟨_, _, rfl, rfl, a, b, hr⟩
theorem full_plain (n : Int) (L : List Nat) : plain 20 (.lst ((full n L).map .int)) = true := by simp
theorem word_plain {L : List Nat} (h : ∀ k ∈ L, k < 26) : PyData.strOk (word L) = true := by
  unfold word
  refine ok_S fun c hc => ?_
  rw [List.mem_map] at hc
  obtain ⟨k, hk, rfl⟩ := hc
  have := h k hk
  omega
/-- the loop's body up to the letters -/
def frame (ns : List Int) : EnvD := [.va (.scr ns), .va (.ref 0), .no, .no, .no, .no, .no, .no, .no]
theorem law_true : VE.LawTrue VP.m_law := by
  intro ns hns
  have key : (m_law [.scr ns] []).sat (fun d _ => d = .bl true) nE := by
    unfold m_law; refine toF_sat ?_
    simp (disch := first | omega | (simp; done) | fail) [if_pos, if_neg, decide_eq_true, decide_eq_false, b_law, env0]
    refine sat_for (fun i e s => ∃ c rest, e = frame ns ∧ s = c :: rest ∧ RowOk ns c) 0 ⟨_, [], rfl, rfl, ⟨0, 0, 0, rfl, by decide, by decide, by decide⟩⟩ ?_ ?_
    · rintro i d e s hd ⟨c, rest, rfl, rfl, hc⟩
      obtain ⟨rfl, hi⟩ := rng_at hd
      simp (disch := first | omega | (simp; done) | fail) [if_pos, if_neg, decide_eq_true, decide_eq_false, frame]
      refine sat_call (taken' hc (by decide) (by decide)) ?_
      rintro d s ⟨r1, c1, rfl, rfl, h10, h11, hc1⟩
      simp (disch := first | omega | (simp; done) | fail) [if_pos, if_neg, decide_eq_true, decide_eq_false]
      refine sat_call (taken' hc1 (by decide) (by decide)) ?_
      rintro d s ⟨r2, c2, rfl, rfl, h20, h21, hc2⟩
      simp (disch := first | omega | (simp; done) | fail) [if_pos, if_neg, decide_eq_true, decide_eq_false]
      refine sat_call (taken' hc2 (by decide) (by decide)) ?_
      rintro d s ⟨r3, c3, rfl, rfl, h30, h31, hc3⟩
      obtain ⟨n, hn, hn0, hn1⟩ : ∃ n, atI [D.int r1, D.int (999999999999999999999999999999 - r2)] r3 = some (.int n) ∧ 0 ≤ n ∧ n ≤ 999999999999999999999999999999 := by
        have : r3 = 0 ∨ r3 = 1 := by omega
        rcases this with rfl | rfl
        · exact ⟨r1, at0, by omega, by omega⟩
        · exact ⟨_, at1, by omega, by omega⟩
      simp (disch := first | omega | (simp; done) | fail) [if_pos, if_neg, decide_eq_true, decide_eq_false, hn]
      refine sat_call (taken' hc3 (by decide) (by decide)) ?_
      rintro d s ⟨r4, c4, rfl, rfl, h40, h41, hc4⟩
      obtain ⟨len, rfl⟩ := Int.eq_ofNat_of_zero_le h40
      have elen : (1 + (len : Int)).toNat = len + 1 := by omega
      simp (disch := first | omega | (simp; done) | fail) [if_pos, if_neg, decide_eq_true, decide_eq_false, elen]
      refine sat_for (fun j e s => ∃ c L, e = [.va (.scr ns), .va (.ref 0), .va (.int i), .va (.int n), .va (.str (word L)), .ow (.lst ((codes L).map .int)), .no, .no, .no] ∧ s = c :: rest ∧ RowOk ns c ∧ L.length = j ∧ ∀ k ∈ L, k < 26) 0 ⟨c4, [], rfl, rfl, hc4, rfl, by simp⟩ ?_ ?_
      · rintro j d e s hd ⟨c, L, rfl, rfl, hc, hL, hk⟩
        obtain ⟨rfl, hj⟩ := rng_at hd
        simp (disch := first | omega | (simp; done) | fail) [if_pos, if_neg, decide_eq_true, decide_eq_false]
        refine sat_call (taken' hc (by decide) (by decide)) ?_
        rintro d s ⟨r5, c5, rfl, rfl, h50, h51, hc5⟩
        obtain ⟨k, rfl⟩ := Int.eq_ofNat_of_zero_le h50
        have hk' : k < 26 := by omega
        have hat := let_at k hk'
        have hcl : (codes L).length = j := by simp [codes]; omega
        have hwl := word_len L
        have h1 : Str.length (S [97 + k]) = 1 := S_len _
        have e1 : word L ++ S [97 + k] = word (L ++ [k]) := by unfold word; rw [S_cat, List.map_append]; rfl
        have hsz : (word L).length + 1 ≤ sizeLine := by rw [hwl]; simp only [sizeLine]; omega
        have e2 : codes (L ++ [k]) = codes L ++ [(k : Int) + 1] := by unfold codes; rw [List.map_append]; rfl
        simp (disch := first | omega | (simp; done) | fail) [if_pos, if_neg, decide_eq_true, decide_eq_false, hat, hcl, h1, hsz, e1]
        refine ⟨c5, L ++ [k], ⟨rfl, ?_⟩, rfl, hc5, by simp; omega, ?_⟩
        · rw [e2]; simp [Int.add_comm]
        · intro q hq
          rw [List.mem_append, List.mem_singleton] at hq
          rcases hq with hq | rfl
          · exact hk q hq
          · exact hk'
      · rintro e s ⟨c, L, rfl, rfl, hc, hL, hk⟩
        simp at hL
        have hg : Good n L := ⟨hn0, hn1, by omega, by omega, hk⟩
        have hp := word_plain hk
        have hcl : (codes L).length = L.length := by simp [codes]
        simp (disch := first | omega | (simp; done) | fail) [if_pos, if_neg, decide_eq_true, decide_eq_false]
        refine sat_call law_digits ?_
        rintro d s ⟨rfl, rfl⟩
        simp (disch := first | omega | (simp; done) | fail) [if_pos, if_neg, decide_eq_true, decide_eq_false, digs_len, hcl]
        refine sat_call (encode_row hg) ?_
        rintro d s ⟨rfl, rfl⟩
        simp (disch := first | omega | (simp; done) | fail) [if_pos, if_neg, decide_eq_true, decide_eq_false]
        refine sat_call (law_checked (xs := row n L) (by simp [row, hcl]) (by rw [row_len]; omega)) ?_
        rintro d s ⟨rfl, rfl⟩
        have e := neP_same (full_plain n L)
        have e0 : row n L ++ [chk (row n L) 19] = full n L := rfl
        rw [e0]
        simp (disch := first | omega | (simp; done) | fail) [if_pos, if_neg, decide_eq_true, decide_eq_false, e, eqs_ints]
        refine sat_call (law_checked (xs := row n L) (by simp [row, hcl]) (by rw [row_len]; omega)) ?_
        rintro d s ⟨rfl, rfl⟩
        rw [e0]
        simp (disch := first | omega | (simp; done) | fail) [if_pos, if_neg, decide_eq_true, decide_eq_false]
        refine sat_call (decode_row hg) ?_
        rintro d s ⟨rfl, c', rfl⟩
        have e3 : neP (.tup [.int n, .str (word L)]) (.tup [.int n, .str (word L)]) = some (.bl false) := neP_same (by simp [hp])
        simp (disch := first | omega | (simp; done) | fail) [if_pos, if_neg, decide_eq_true, decide_eq_false, e3]
        exact hc
    · rintro e s ⟨c, rest, rfl, rfl, hc⟩
      simp (disch := first | omega | (simp; done) | fail) [if_pos, if_neg, decide_eq_true, decide_eq_false]
  unfold RF.sat at key
  split at key
  · rename_i d st e; subst key; exact ⟨st, e⟩
  · exact key.elim
  · exact key.elim
end VP

namespace VP
open PySem PySem.Spec PyProof.Rows L2 VE
theorem all_mk {l : PySem.W.OpenLaw} {w : World} {K : PySem.W.Frag} {h : Heap} {mg : Str → Option Value} {fa : Addr} (X : K.In h) (G : h.Ns mainGlobals mg) (hfa : mg "law" = some (.ref fa))
    {C_Items : Addr}
    {f_is_number : Addr} {oc_is_number kV_is_number dc_is_number pm_is_number cd_is_number ct_is_number : Value} {od_is_number an_is_number : Option Addr} {sl_is_number : Array (Option Value)}
    {f_is_word : Addr} {oc_is_word kV_is_word dc_is_word pm_is_word cd_is_word ct_is_word : Value} {od_is_word an_is_word : Option Addr} {sl_is_word : Array (Option Value)}
    {f_checksum : Addr} {oc_checksum kV_checksum dc_checksum pm_checksum cd_checksum ct_checksum : Value} {od_checksum an_checksum : Option Addr} {sl_checksum : Array (Option Value)}
    {f_digits_of : Addr} {oc_digits_of kV_digits_of dc_digits_of pm_digits_of cd_digits_of ct_digits_of : Value} {od_digits_of an_digits_of : Option Addr} {sl_digits_of : Array (Option Value)}
    {f_Items_init : Addr} {oc_Items_init kV_Items_init dc_Items_init pm_Items_init cd_Items_init ct_Items_init : Value} {od_Items_init an_Items_init : Option Addr} {sl_Items_init : Array (Option Value)}
    {f_law_taken : Addr} {oc_law_taken kV_law_taken dc_law_taken pm_law_taken cd_law_taken ct_law_taken : Value} {od_law_taken an_law_taken : Option Addr} {sl_law_taken : Array (Option Value)}
    {f_law_checked : Addr} {oc_law_checked kV_law_checked dc_law_checked pm_law_checked cd_law_checked ct_law_checked : Value} {od_law_checked an_law_checked : Option Addr} {sl_law_checked : Array (Option Value)}
    {f_law_digits : Addr} {oc_law_digits kV_law_digits dc_law_digits pm_law_digits cd_law_digits ct_law_digits : Value} {od_law_digits an_law_digits : Option Addr} {sl_law_digits : Array (Option Value)}
    {f_check_any : Addr} {oc_check_any kV_check_any dc_check_any pm_check_any cd_check_any ct_check_any : Value} {od_check_any an_check_any : Option Addr} {sl_check_any : Array (Option Value)}
    {f_Items_item : Addr} {oc_Items_item kV_Items_item dc_Items_item pm_Items_item cd_Items_item ct_Items_item : Value} {od_Items_item an_Items_item : Option Addr} {sl_Items_item : Array (Option Value)}
    {f_encode_row : Addr} {oc_encode_row kV_encode_row dc_encode_row pm_encode_row cd_encode_row ct_encode_row : Value} {od_encode_row an_encode_row : Option Addr} {sl_encode_row : Array (Option Value)}
    {f_Items_read_number : Addr} {oc_Items_read_number kV_Items_read_number dc_Items_read_number pm_Items_read_number cd_Items_read_number ct_Items_read_number : Value} {od_Items_read_number an_Items_read_number : Option Addr} {sl_Items_read_number : Array (Option Value)}
    {f_Items_finish : Addr} {oc_Items_finish kV_Items_finish dc_Items_finish pm_Items_finish cd_Items_finish ct_Items_finish : Value} {od_Items_finish an_Items_finish : Option Addr} {sl_Items_finish : Array (Option Value)}
    {f_decode_row : Addr} {oc_decode_row kV_decode_row dc_decode_row pm_decode_row cd_decode_row ct_decode_row : Value} {od_decode_row an_decode_row : Option Addr} {sl_decode_row : Array (Option Value)}
    {f_law : Addr} {oc_law kV_law dc_law pm_law cd_law ct_law : Value} {od_law an_law : Option Addr} {sl_law : Array (Option Value)}
    {t_BASE : Tok}
    {t_CHECK_REST : Tok}
    {t_CHECK_START : Tok}
    {t_CHECK_TIMES : Tok}
    {t_FIRST : Tok}
    {t_LAST : Tok}
    {t_LETTERS : Tok}
    {t_MANY_DIGITS : Tok}
    {t_MAX_WORD : Tok}
    (aC_Items : PySem.W.nsIn K mainGlobals "Items" = some (some (.ref C_Items)))
    (pg_Items : PySem.W.plainGet K C_Items Str.empty = true)
    (hd_Items : PySem.W.hasDictIn K C_Items = true)
    (po_Items : PySem.W.plainOver K C_Items = true)
    (sa_Items : PySem.W.findIn K (.ref C_Items) "__setattr__" = some (some (.builtin "object.__setattr__")))
    (mk_Items : PySem.W.makesIn K C_Items = true)
    (kc_Items : PySem.W.keepIn K (.ref C_Items) = true)
    (na_Items_0 : PySem.W.findIn K (.ref C_Items) "data" = some none)
    (na_Items_1 : PySem.W.findIn K (.ref C_Items) "spot" = some none)
    (a_is_number : PySem.W.nsIn K mainGlobals "is_number" = some (some (.ref f_is_number)))
    (l_is_number : K.lookup f_is_number = some ⟨oc_is_number, od_is_number, .func (PySem.W.fnOf "is_number" "is_number" (defArgs s_is_number) (defBody s_is_number) (defScope s_is_number) .none kV_is_number dc_is_number pm_is_number an_is_number cd_is_number ct_is_number), sl_is_number⟩)
    (c_is_number : PySem.W.codeIn K cd_is_number "is_number" = true)
    (k_is_number : PySem.W.keepIn K (.ref f_is_number) = true)
    (a_is_word : PySem.W.nsIn K mainGlobals "is_word" = some (some (.ref f_is_word)))
    (l_is_word : K.lookup f_is_word = some ⟨oc_is_word, od_is_word, .func (PySem.W.fnOf "is_word" "is_word" (defArgs s_is_word) (defBody s_is_word) (defScope s_is_word) .none kV_is_word dc_is_word pm_is_word an_is_word cd_is_word ct_is_word), sl_is_word⟩)
    (c_is_word : PySem.W.codeIn K cd_is_word "is_word" = true)
    (k_is_word : PySem.W.keepIn K (.ref f_is_word) = true)
    (a_checksum : PySem.W.nsIn K mainGlobals "checksum" = some (some (.ref f_checksum)))
    (l_checksum : K.lookup f_checksum = some ⟨oc_checksum, od_checksum, .func (PySem.W.fnOf "checksum" "checksum" (defArgs s_checksum) (defBody s_checksum) (defScope s_checksum) .none kV_checksum dc_checksum pm_checksum an_checksum cd_checksum ct_checksum), sl_checksum⟩)
    (c_checksum : PySem.W.codeIn K cd_checksum "checksum" = true)
    (k_checksum : PySem.W.keepIn K (.ref f_checksum) = true)
    (a_digits_of : PySem.W.nsIn K mainGlobals "digits_of" = some (some (.ref f_digits_of)))
    (l_digits_of : K.lookup f_digits_of = some ⟨oc_digits_of, od_digits_of, .func (PySem.W.fnOf "digits_of" "digits_of" (defArgs s_digits_of) (defBody s_digits_of) (defScope s_digits_of) .none kV_digits_of dc_digits_of pm_digits_of an_digits_of cd_digits_of ct_digits_of), sl_digits_of⟩)
    (c_digits_of : PySem.W.codeIn K cd_digits_of "digits_of" = true)
    (k_digits_of : PySem.W.keepIn K (.ref f_digits_of) = true)
    (a_Items_init : PySem.W.findIn K (.ref C_Items) "__init__" = some (some (.ref f_Items_init)))
    (i_Items_init : PySem.W.isFn K (.ref f_Items_init) = true)
    (l_Items_init : K.lookup f_Items_init = some ⟨oc_Items_init, od_Items_init, .func (PySem.W.fnOf "__init__" "Items.__init__" (defArgs s_Items_init) (defBody s_Items_init) (defScope s_Items_init) .none kV_Items_init dc_Items_init pm_Items_init an_Items_init cd_Items_init ct_Items_init), sl_Items_init⟩)
    (c_Items_init : PySem.W.codeIn K cd_Items_init "Items.__init__" = true)
    (k_Items_init : PySem.W.keepIn K (.ref f_Items_init) = true)
    (a_law_taken : PySem.W.nsIn K mainGlobals "_law_taken" = some (some (.ref f_law_taken)))
    (l_law_taken : K.lookup f_law_taken = some ⟨oc_law_taken, od_law_taken, .func (PySem.W.fnOf "_law_taken" "_law_taken" (defArgs s_law_taken) (defBody s_law_taken) (defScope s_law_taken) .none kV_law_taken dc_law_taken pm_law_taken an_law_taken cd_law_taken ct_law_taken), sl_law_taken⟩)
    (c_law_taken : PySem.W.codeIn K cd_law_taken "_law_taken" = true)
    (k_law_taken : PySem.W.keepIn K (.ref f_law_taken) = true)
    (a_law_checked : PySem.W.nsIn K mainGlobals "_law_checked" = some (some (.ref f_law_checked)))
    (l_law_checked : K.lookup f_law_checked = some ⟨oc_law_checked, od_law_checked, .func (PySem.W.fnOf "_law_checked" "_law_checked" (defArgs s_law_checked) (defBody s_law_checked) (defScope s_law_checked) .none kV_law_checked dc_law_checked pm_law_checked an_law_checked cd_law_checked ct_law_checked), sl_law_checked⟩)
    (c_law_checked : PySem.W.codeIn K cd_law_checked "_law_checked" = true)
    (k_law_checked : PySem.W.keepIn K (.ref f_law_checked) = true)
    (a_law_digits : PySem.W.nsIn K mainGlobals "_law_digits" = some (some (.ref f_law_digits)))
    (l_law_digits : K.lookup f_law_digits = some ⟨oc_law_digits, od_law_digits, .func (PySem.W.fnOf "_law_digits" "_law_digits" (defArgs s_law_digits) (defBody s_law_digits) (defScope s_law_digits) .none kV_law_digits dc_law_digits pm_law_digits an_law_digits cd_law_digits ct_law_digits), sl_law_digits⟩)
    (c_law_digits : PySem.W.codeIn K cd_law_digits "_law_digits" = true)
    (k_law_digits : PySem.W.keepIn K (.ref f_law_digits) = true)
    (a_check_any : PySem.W.nsIn K mainGlobals "check_any" = some (some (.ref f_check_any)))
    (l_check_any : K.lookup f_check_any = some ⟨oc_check_any, od_check_any, .func (PySem.W.fnOf "check_any" "check_any" (defArgs s_check_any) (defBody s_check_any) (defScope s_check_any) .none kV_check_any dc_check_any pm_check_any an_check_any cd_check_any ct_check_any), sl_check_any⟩)
    (c_check_any : PySem.W.codeIn K cd_check_any "check_any" = true)
    (k_check_any : PySem.W.keepIn K (.ref f_check_any) = true)
    (a_Items_item : PySem.W.findIn K (.ref C_Items) "item" = some (some (.ref f_Items_item)))
    (i_Items_item : PySem.W.isFn K (.ref f_Items_item) = true)
    (l_Items_item : K.lookup f_Items_item = some ⟨oc_Items_item, od_Items_item, .func (PySem.W.fnOf "item" "Items.item" (defArgs s_Items_item) (defBody s_Items_item) (defScope s_Items_item) .none kV_Items_item dc_Items_item pm_Items_item an_Items_item cd_Items_item ct_Items_item), sl_Items_item⟩)
    (c_Items_item : PySem.W.codeIn K cd_Items_item "Items.item" = true)
    (k_Items_item : PySem.W.keepIn K (.ref f_Items_item) = true)
    (a_encode_row : PySem.W.nsIn K mainGlobals "encode_row" = some (some (.ref f_encode_row)))
    (l_encode_row : K.lookup f_encode_row = some ⟨oc_encode_row, od_encode_row, .func (PySem.W.fnOf "encode_row" "encode_row" (defArgs s_encode_row) (defBody s_encode_row) (defScope s_encode_row) .none kV_encode_row dc_encode_row pm_encode_row an_encode_row cd_encode_row ct_encode_row), sl_encode_row⟩)
    (c_encode_row : PySem.W.codeIn K cd_encode_row "encode_row" = true)
    (k_encode_row : PySem.W.keepIn K (.ref f_encode_row) = true)
    (a_Items_read_number : PySem.W.findIn K (.ref C_Items) "read_number" = some (some (.ref f_Items_read_number)))
    (i_Items_read_number : PySem.W.isFn K (.ref f_Items_read_number) = true)
    (l_Items_read_number : K.lookup f_Items_read_number = some ⟨oc_Items_read_number, od_Items_read_number, .func (PySem.W.fnOf "read_number" "Items.read_number" (defArgs s_Items_read_number) (defBody s_Items_read_number) (defScope s_Items_read_number) .none kV_Items_read_number dc_Items_read_number pm_Items_read_number an_Items_read_number cd_Items_read_number ct_Items_read_number), sl_Items_read_number⟩)
    (c_Items_read_number : PySem.W.codeIn K cd_Items_read_number "Items.read_number" = true)
    (k_Items_read_number : PySem.W.keepIn K (.ref f_Items_read_number) = true)
    (a_Items_finish : PySem.W.findIn K (.ref C_Items) "finish" = some (some (.ref f_Items_finish)))
    (i_Items_finish : PySem.W.isFn K (.ref f_Items_finish) = true)
    (l_Items_finish : K.lookup f_Items_finish = some ⟨oc_Items_finish, od_Items_finish, .func (PySem.W.fnOf "finish" "Items.finish" (defArgs s_Items_finish) (defBody s_Items_finish) (defScope s_Items_finish) .none kV_Items_finish dc_Items_finish pm_Items_finish an_Items_finish cd_Items_finish ct_Items_finish), sl_Items_finish⟩)
    (c_Items_finish : PySem.W.codeIn K cd_Items_finish "Items.finish" = true)
    (k_Items_finish : PySem.W.keepIn K (.ref f_Items_finish) = true)
    (a_decode_row : PySem.W.nsIn K mainGlobals "decode_row" = some (some (.ref f_decode_row)))
    (l_decode_row : K.lookup f_decode_row = some ⟨oc_decode_row, od_decode_row, .func (PySem.W.fnOf "decode_row" "decode_row" (defArgs s_decode_row) (defBody s_decode_row) (defScope s_decode_row) .none kV_decode_row dc_decode_row pm_decode_row an_decode_row cd_decode_row ct_decode_row), sl_decode_row⟩)
    (c_decode_row : PySem.W.codeIn K cd_decode_row "decode_row" = true)
    (k_decode_row : PySem.W.keepIn K (.ref f_decode_row) = true)
    (a_law : PySem.W.nsIn K mainGlobals "law" = some (some (.ref f_law)))
    (l_law : K.lookup f_law = some ⟨oc_law, od_law, .func (PySem.W.fnOf "law" "law" (defArgs s_law) (defBody s_law) (defScope s_law) .none kV_law dc_law pm_law an_law cd_law ct_law), sl_law⟩)
    (c_law : PySem.W.codeIn K cd_law "law" = true)
    (k_law : PySem.W.keepIn K (.ref f_law) = true)
    (zb_all : PySem.W.nsIn K mainGlobals "all" = some none)
    (zb_bool : PySem.W.nsIn K mainGlobals "bool" = some none)
    (zb_int : PySem.W.nsIn K mainGlobals "int" = some none)
    (zb_isinstance : PySem.W.nsIn K mainGlobals "isinstance" = some none)
    (zb_len : PySem.W.nsIn K mainGlobals "len" = some none)
    (zb_range : PySem.W.nsIn K mainGlobals "range" = some none)
    (zb_str : PySem.W.nsIn K mainGlobals "str" = some none)
    (zc_BASE : PySem.W.nsIn K mainGlobals "BASE" = some (some (.int 256 t_BASE)))
    (zc_CHECK_REST : PySem.W.nsIn K mainGlobals "CHECK_REST" = some (some (.int 181 t_CHECK_REST)))
    (zc_CHECK_START : PySem.W.nsIn K mainGlobals "CHECK_START" = some (some (.int 19 t_CHECK_START)))
    (zc_CHECK_TIMES : PySem.W.nsIn K mainGlobals "CHECK_TIMES" = some (some (.int 41 t_CHECK_TIMES)))
    (zc_FIRST : PySem.W.nsIn K mainGlobals "FIRST" = some (some (.int 137 t_FIRST)))
    (zc_LAST : PySem.W.nsIn K mainGlobals "LAST" = some (some (.int 999999999999999999999999999999 t_LAST)))
    (zc_LETTERS : PySem.W.nsIn K mainGlobals "LETTERS" = some (some (.str "abcdefghijklmnopqrstuvwxyz" t_LETTERS)))
    (zc_MANY_DIGITS : PySem.W.nsIn K mainGlobals "MANY_DIGITS" = some (some (.int 13 t_MANY_DIGITS)))
    (zc_MAX_WORD : PySem.W.nsIn K mainGlobals "MAX_WORD" = some (some (.int 8 t_MAX_WORD)))
    : ∃ fd : FuncData, (∀ (s : Shared) (v : Value), BindsTo s fd ⟨[v], []⟩ [("_law_script", v)]) ∧ ∀ base : Heap, K.In base → base.Ns mainGlobals mg → FnOk l.prog w K mg base (L2.CX l.prog w) 5 fa fd ["_law_script"] (spV K mg false 1 m_law) := by
  have e := hfa.symm.trans (PySem.W.mg_of X G a_law)
  cases e
  have g_Items : mg "Items" = some (.ref C_Items) := PySem.W.mg_of X G aC_Items
  have e_Items : ∀ C, mg "Items" = some (.ref C) → C_Items = C := fun C h => by rw [g_Items] at h; cases h; rfl
  have T : Txt K mg := ⟨PySem.W.mg_none_of X G zb_all,
    PySem.W.mg_none_of X G zb_bool,
    PySem.W.mg_none_of X G zb_int,
    PySem.W.mg_none_of X G zb_isinstance,
    PySem.W.mg_none_of X G zb_len,
    PySem.W.mg_none_of X G zb_range,
    PySem.W.mg_none_of X G zb_str,
    ConstV.int (PySem.W.mg_of X G zc_BASE),
    ConstV.int (PySem.W.mg_of X G zc_CHECK_REST),
    ConstV.int (PySem.W.mg_of X G zc_CHECK_START),
    ConstV.int (PySem.W.mg_of X G zc_CHECK_TIMES),
    ConstV.int (PySem.W.mg_of X G zc_FIRST),
    ConstV.int (PySem.W.mg_of X G zc_LAST),
    ConstV.str (PySem.W.mg_of X G zc_LETTERS),
    ConstV.int (PySem.W.mg_of X G zc_MANY_DIGITS),
    ConstV.int (PySem.W.mg_of X G zc_MAX_WORD),
    ⟨fun C h => (e_Items C h) ▸ ⟨pg_Items, hd_Items, po_Items, sa_Items⟩, fun C h => (e_Items C h) ▸ (List.forall_mem_cons.mpr ⟨na_Items_0, (List.forall_mem_cons.mpr ⟨na_Items_1, (fun _ h => nomatch h)⟩)⟩)⟩⟩
  have F_is_number := fun_mk (st := s_is_number) l_is_number c_is_number k_is_number
  have B_is_number := F_is_number.binds (ps := ["value", "smallest", "largest"]) fun _ _ _ _ _ _ us hl => match us, hl with | [_, _, _], _ => rfl
  have F_is_word := fun_mk (st := s_is_word) l_is_word c_is_word k_is_word
  have B_is_word := F_is_word.binds (ps := ["value"]) fun _ _ _ _ _ _ us hl => match us, hl with | [_], _ => rfl
  have F_checksum := fun_mk (st := s_checksum) l_checksum c_checksum k_checksum
  have B_checksum := F_checksum.binds (ps := ["values"]) fun _ _ _ _ _ _ us hl => match us, hl with | [_], _ => rfl
  have F_digits_of := fun_mk (st := s_digits_of) l_digits_of c_digits_of k_digits_of
  have B_digits_of := F_digits_of.binds (ps := ["number"]) fun _ _ _ _ _ _ us hl => match us, hl with | [_], _ => rfl
  have F_Items_init := fun_mk (st := s_Items_init) l_Items_init c_Items_init k_Items_init
  have B_Items_init := F_Items_init.binds (ps := ["self", "values"]) fun _ _ _ _ _ _ us hl => match us, hl with | [_, _], _ => rfl
  have F_law_taken := fun_mk (st := s_law_taken) l_law_taken c_law_taken k_law_taken
  have B_law_taken := F_law_taken.binds (ps := ["_law_row", "_law_many"]) fun _ _ _ _ _ _ us hl => match us, hl with | [_, _], _ => rfl
  have F_law_checked := fun_mk (st := s_law_checked) l_law_checked c_law_checked k_law_checked
  have B_law_checked := F_law_checked.binds (ps := ["_law_items"]) fun _ _ _ _ _ _ us hl => match us, hl with | [_], _ => rfl
  have F_law_digits := fun_mk (st := s_law_digits) l_law_digits c_law_digits k_law_digits
  have B_law_digits := F_law_digits.binds (ps := ["_law_number"]) fun _ _ _ _ _ _ us hl => match us, hl with | [_], _ => rfl
  have F_check_any := fun_mk (st := s_check_any) l_check_any c_check_any k_check_any
  have B_check_any := F_check_any.binds (ps := ["row"]) fun _ _ _ _ _ _ us hl => match us, hl with | [_], _ => rfl
  have F_Items_item := fun_mk (st := s_Items_item) l_Items_item c_Items_item k_Items_item
  have B_Items_item := F_Items_item.binds (ps := ["self", "low", "high"]) fun _ _ _ _ _ _ us hl => match us, hl with | [_, _, _], _ => rfl
  have F_encode_row := fun_mk (st := s_encode_row) l_encode_row c_encode_row k_encode_row
  have B_encode_row := F_encode_row.binds (ps := ["row"]) fun _ _ _ _ _ _ us hl => match us, hl with | [_], _ => rfl
  have F_Items_read_number := fun_mk (st := s_Items_read_number) l_Items_read_number c_Items_read_number k_Items_read_number
  have B_Items_read_number := F_Items_read_number.binds (ps := ["self"]) fun _ _ _ _ _ _ us hl => match us, hl with | [_], _ => rfl
  have F_Items_finish := fun_mk (st := s_Items_finish) l_Items_finish c_Items_finish k_Items_finish
  have B_Items_finish := F_Items_finish.binds (ps := ["self"]) fun _ _ _ _ _ _ us hl => match us, hl with | [_], _ => rfl
  have F_decode_row := fun_mk (st := s_decode_row) l_decode_row c_decode_row k_decode_row
  have B_decode_row := F_decode_row.binds (ps := ["values"]) fun _ _ _ _ _ _ us hl => match us, hl with | [_], _ => rfl
  have F_law := fun_mk (st := s_law) l_law c_law k_law
  have B_law := F_law.binds (ps := ["_law_script"]) fun _ _ _ _ _ _ us hl => match us, hl with | [_], _ => rfl
  refine ⟨PySem.W.fnOf "law" "law" (defArgs s_law) (defBody s_law) (defScope s_law) .none kV_law dc_law pm_law an_law cd_law ct_law, fun s v => .of_eq rfl, fun base KB GB => ?_⟩
  have O_is_number := ok_is_number (P := l.prog) (w := w) (base := base) F_is_number T 
  have v_is_number : FnV l.prog w K mg base 1 "is_number" false 3 m_is_number := ⟨⟨f_is_number, _, _, O_is_number, PySem.W.mg_of X G a_is_number, k_is_number, B_is_number⟩⟩
  have O_is_word := ok_is_word (P := l.prog) (w := w) (base := base) F_is_word T 
  have v_is_word : FnV l.prog w K mg base 1 "is_word" false 1 m_is_word := ⟨⟨f_is_word, _, _, O_is_word, PySem.W.mg_of X G a_is_word, k_is_word, B_is_word⟩⟩
  have O_checksum := ok_checksum (P := l.prog) (w := w) (base := base) F_checksum T 
  have v_checksum : FnV l.prog w K mg base 1 "checksum" false 1 m_checksum := ⟨⟨f_checksum, _, _, O_checksum, PySem.W.mg_of X G a_checksum, k_checksum, B_checksum⟩⟩
  have O_digits_of := ok_digits_of (P := l.prog) (w := w) (base := base) F_digits_of T 
  have v_digits_of : FnV l.prog w K mg base 1 "digits_of" true 1 m_digits_of := ⟨⟨f_digits_of, _, _, O_digits_of, PySem.W.mg_of X G a_digits_of, k_digits_of, B_digits_of⟩⟩
  have O_Items_init := ok_Items_init (P := l.prog) (w := w) (base := base) F_Items_init T 
  have Mk_Items : MkV l.prog w K mg base 1 "Items" 2 m_Items_init := ⟨⟨C_Items, f_Items_init, _, _, g_Items, ⟨mk_Items, a_Items_init, i_Items_init, kc_Items⟩, O_Items_init, B_Items_init⟩⟩
  have O_law_taken := ok_law_taken (P := l.prog) (w := w) (base := base) F_law_taken T 
  have v_law_taken : FnV l.prog w K mg base 1 "_law_taken" false 2 m_law_taken := ⟨⟨f_law_taken, _, _, O_law_taken, PySem.W.mg_of X G a_law_taken, k_law_taken, B_law_taken⟩⟩
  have O_law_checked := ok_law_checked (P := l.prog) (w := w) (base := base) F_law_checked T 
  have v_law_checked : FnV l.prog w K mg base 1 "_law_checked" true 1 m_law_checked := ⟨⟨f_law_checked, _, _, O_law_checked, PySem.W.mg_of X G a_law_checked, k_law_checked, B_law_checked⟩⟩
  have O_law_digits := ok_law_digits (P := l.prog) (w := w) (base := base) F_law_digits T 
  have v_law_digits : FnV l.prog w K mg base 1 "_law_digits" true 1 m_law_digits := ⟨⟨f_law_digits, _, _, O_law_digits, PySem.W.mg_of X G a_law_digits, k_law_digits, B_law_digits⟩⟩
  have O_check_any := ok_check_any (P := l.prog) (w := w) (base := base) F_check_any T v_is_number v_is_word
  have v_check_any : FnV l.prog w K mg base 2 "check_any" false 1 m_check_any := ⟨⟨f_check_any, _, _, O_check_any, PySem.W.mg_of X G a_check_any, k_check_any, B_check_any⟩⟩
  have O_Items_item := ok_Items_item (P := l.prog) (w := w) (base := base) F_Items_item T v_is_number
  have Mt_Items_item : MtV l.prog w K mg base 2 "Items" "item" false 3 m_Items_item := ⟨⟨C_Items, f_Items_item, _, _, g_Items, ⟨pg_Items, hd_Items, po_Items, sa_Items⟩, O_Items_item, ⟨a_Items_item, i_Items_item, k_Items_item⟩, B_Items_item⟩⟩
  have O_encode_row := ok_encode_row (P := l.prog) (w := w) (base := base) F_encode_row T v_check_any v_checksum v_digits_of
  have v_encode_row : FnV l.prog w K mg base 3 "encode_row" true 1 m_encode_row := ⟨⟨f_encode_row, _, _, O_encode_row, PySem.W.mg_of X G a_encode_row, k_encode_row, B_encode_row⟩⟩
  have O_Items_read_number := ok_Items_read_number (P := l.prog) (w := w) (base := base) F_Items_read_number T Mt_Items_item
  have Mt_Items_read_number : MtV l.prog w K mg base 3 "Items" "read_number" false 1 m_Items_read_number := ⟨⟨C_Items, f_Items_read_number, _, _, g_Items, ⟨pg_Items, hd_Items, po_Items, sa_Items⟩, O_Items_read_number, ⟨a_Items_read_number, i_Items_read_number, k_Items_read_number⟩, B_Items_read_number⟩⟩
  have O_Items_finish := ok_Items_finish (P := l.prog) (w := w) (base := base) F_Items_finish T v_checksum Mt_Items_item
  have Mt_Items_finish : MtV l.prog w K mg base 3 "Items" "finish" false 1 m_Items_finish := ⟨⟨C_Items, f_Items_finish, _, _, g_Items, ⟨pg_Items, hd_Items, po_Items, sa_Items⟩, O_Items_finish, ⟨a_Items_finish, i_Items_finish, k_Items_finish⟩, B_Items_finish⟩⟩
  have O_decode_row := ok_decode_row (P := l.prog) (w := w) (base := base) F_decode_row T Mk_Items Mt_Items_finish Mt_Items_item Mt_Items_read_number
  have v_decode_row : FnV l.prog w K mg base 4 "decode_row" false 1 m_decode_row := ⟨⟨f_decode_row, _, _, O_decode_row, PySem.W.mg_of X G a_decode_row, k_decode_row, B_decode_row⟩⟩
  have O_law := ok_law (P := l.prog) (w := w) (base := base) F_law T v_decode_row v_encode_row v_law_checked v_law_digits v_law_taken
  exact O_law
end VP
open PySem PySem.W PyProof.Rows
theorem PySem.Challenge.cw_ruledpieces_k44_codes_there_and_back_holds : PySem.Challenge.rw_ruledpieces_k44_codes_there_and_back.Holds := by
  w_on; o_law; k_head; (case hw => w_witness2)
  k_fill
  refine L2.walk_of (l := PySem.Challenge.rw_ruledpieces_k44_codes_there_and_back) (n := 63) (k := 5) (x := "_law_script") (CX := fun w => L2.CX PySem.Challenge.rw_ruledpieces_k44_codes_there_and_back.prog w) (sp := fun w => VE.spLaw _) rfl (by decide) rfl ⟨rfl, by decide, by decide⟩ (fun w h Y => PySem.W.kIn_of Y) ?F (fun _ _ a ns hl _ hS => ⟨a, ns, rfl, hS, hl, fun _ => rfl⟩) (fun w H s e s' h => VE.cx_none h)
  case F =>
    intro w mg fa h KX G hmg
    refine VE.law_end VP.law_true ?FF
    refine' VP.all_mk KX G hmg ?aC_Items ?pg_Items ?hd_Items ?po_Items ?sa_Items ?mk_Items ?kc_Items ?na_Items_0 ?na_Items_1 ?a_is_number ?l_is_number ?c_is_number ?k_is_number ?a_is_word ?l_is_word ?c_is_word ?k_is_word ?a_checksum ?l_checksum ?c_checksum ?k_checksum ?a_digits_of ?l_digits_of ?c_digits_of ?k_digits_of ?a_Items_init ?i_Items_init ?l_Items_init ?c_Items_init ?k_Items_init ?a_law_taken ?l_law_taken ?c_law_taken ?k_law_taken ?a_law_checked ?l_law_checked ?c_law_checked ?k_law_checked ?a_law_digits ?l_law_digits ?c_law_digits ?k_law_digits ?a_check_any ?l_check_any ?c_check_any ?k_check_any ?a_Items_item ?i_Items_item ?l_Items_item ?c_Items_item ?k_Items_item ?a_encode_row ?l_encode_row ?c_encode_row ?k_encode_row ?a_Items_read_number ?i_Items_read_number ?l_Items_read_number ?c_Items_read_number ?k_Items_read_number ?a_Items_finish ?i_Items_finish ?l_Items_finish ?c_Items_finish ?k_Items_finish ?a_decode_row ?l_decode_row ?c_decode_row ?k_decode_row ?a_law ?l_law ?c_law ?k_law ?zb_all ?zb_bool ?zb_int ?zb_isinstance ?zb_len ?zb_range ?zb_str ?zc_BASE ?zc_CHECK_REST ?zc_CHECK_START ?zc_CHECK_TIMES ?zc_FIRST ?zc_LAST ?zc_LETTERS ?zc_MANY_DIGITS ?zc_MAX_WORD
    (case aC_Items => k_is); (case pg_Items => k_is); (case hd_Items => k_is); (case po_Items => k_is); (case sa_Items => k_is); (case mk_Items => k_is)
    (case kc_Items => k_is); (case na_Items_0 => k_is); (case na_Items_1 => k_is); (case a_is_number => k_is); (case l_is_number => k_is); (case c_is_number => k_is)
    (case k_is_number => k_is); (case a_is_word => k_is); (case l_is_word => k_is); (case c_is_word => k_is); (case k_is_word => k_is); (case a_checksum => k_is)
    (case l_checksum => k_is); (case c_checksum => k_is); (case k_checksum => k_is); (case a_digits_of => k_is); (case l_digits_of => k_is); (case c_digits_of => k_is)
    (case k_digits_of => k_is); (case a_Items_init => k_is); (case i_Items_init => k_is); (case l_Items_init => k_is); (case c_Items_init => k_is); (case k_Items_init => k_is)
    (case a_law_taken => k_is); (case l_law_taken => k_is); (case c_law_taken => k_is); (case k_law_taken => k_is); (case a_law_checked => k_is); (case l_law_checked => k_is)
    (case c_law_checked => k_is); (case k_law_checked => k_is); (case a_law_digits => k_is); (case l_law_digits => k_is); (case c_law_digits => k_is); (case k_law_digits => k_is)
    (case a_check_any => k_is); (case l_check_any => k_is); (case c_check_any => k_is); (case k_check_any => k_is); (case a_Items_item => k_is); (case i_Items_item => k_is)
    (case l_Items_item => k_is); (case c_Items_item => k_is); (case k_Items_item => k_is); (case a_encode_row => k_is); (case l_encode_row => k_is); (case c_encode_row => k_is)
    (case k_encode_row => k_is); (case a_Items_read_number => k_is); (case i_Items_read_number => k_is); (case l_Items_read_number => k_is); (case c_Items_read_number => k_is); (case k_Items_read_number => k_is)
    (case a_Items_finish => k_is); (case i_Items_finish => k_is); (case l_Items_finish => k_is); (case c_Items_finish => k_is); (case k_Items_finish => k_is); (case a_decode_row => k_is)
    (case l_decode_row => k_is); (case c_decode_row => k_is); (case k_decode_row => k_is); (case a_law => k_is); (case l_law => k_is); (case c_law => k_is)
    (case k_law => k_is); (case zb_all => k_is); (case zb_bool => k_is); (case zb_int => k_is); (case zb_isinstance => k_is); (case zb_len => k_is)
    (case zb_range => k_is); (case zb_str => k_is); (case zc_BASE => k_is); (case zc_CHECK_REST => k_is); (case zc_CHECK_START => k_is); (case zc_CHECK_TIMES => k_is)
    (case zc_FIRST => k_is); (case zc_LAST => k_is); (case zc_LETTERS => k_is); (case zc_MANY_DIGITS => k_is); (case zc_MAX_WORD => k_is)
