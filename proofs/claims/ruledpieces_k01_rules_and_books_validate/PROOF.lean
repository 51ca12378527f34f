import PyProof.Rows.All
import Wide.All
import OpenK.AllK
import Wide.FinOn
import HandS.Base
import HandS.Call
import HandS.List
import HandS.Comp
import HandS.Ends
import HandS.Exc
import HandS.Text
import HandS.More
import HandS.Slots
import HandS.SlotsVar
import HandS.SlotsOwn
import HandS.Lambda
import HandS.Nested
import HandS.NoneIn
import HandS.DictTup
import HandS.Deep
import HandS.Wide
import HandS.WideMore
import HandS.Star
import HandS.Words
import HandS.WordsExc
import HandS.ExcOwn
import HandS.ExcCtx
import HandS.Hot
import HandS.HotCalls
import HandS.RaiseFrom
import HandS.ExcInit
import HandS.ExcInitHot
import HandS.SuiteRaise
import HandS.Iter
import HandS.IsInst
import HandS.Style
import HandS.Replace
import HandS.RaiseMore
import HandS.Property
import HandS.Zip
import KE.GoesEnum
import KE.GoesMore
import HandS.TupAny
import HandS.Conv
import HandS.Codes
import HandS.SetKeys
import HandS.Set
import HandS.Strs
import HandS.SortInts
import HandS.SortKw
import HandS.WideBits
import HandS.TupMul
import KE.KDictZip
import HandS.ExcValue
import PyProof.LongRange
import KE.DataMinMax
import KE.DataCmp
import KE.Datum
import KE.KLam
import HandS.Flow
import HandS.TryMany
import HandS.OwnEq
import PyProof.InstEq
import KE.KCallOwn
import PyProof.InstSpecial
import HandS.TupLen
import KE.SortCalls
import HandS.HeadHook3
import HandS.ExcField
import HandS.FStr
import HandS.ExcIs
import HandS.Finally
import KE.KWithOwn
import PyProof.DictCopy
import PyProof.DictUpdate
import HandS.ClsMeth
import HandS.EndTab
import KE.KNestM
import KE.KStateDown
import HandS.Head0
import HandS.Head1
import HandS.Head2
import HandS.HeadHook1
import HandS.HeadWalk
import PySem.Challenge.RW_ruledpieces_k01_rules_and_books_validate
set_option Elab.async false
set_option linter.all false
set_option maxRecDepth 100000
set_option maxHeartbeats 4000000
namespace VE
open PySem PySem.Spec PyProof.Rows L2
def tabP (o : Obj) : Option Addr := match o.data with
  | .fields vs => (match (vs[11]? : Option Value) with
    | some (.ref P) => some P
    | _ => none)
  | _ => none
/-- the written part of a heap: its objects below n, but for tables of code objects and the like -/
def kepO (a : Addr) (o : Obj) : Bool := match o.cls with
  | .none => Nat.beq a PySem.cStatics
  | _ => true
def frK (g : Addr → Option Obj) : List Addr → PySem.W.Frag
  | [] => []
  | a :: r => match g a with
    | some o => (match kepO a o with
      | true => (a, o) :: frK g r
      | false => frK g r)
    | none => frK g r
theorem frK_at {g : Addr → Option Obj} {a : Addr} {o : Obj} : ∀ as : List Addr, (frK g as).lookup a = some o → g a = some o
  | [], e => nomatch (show (none : Option Obj) = some o from e)
  | b :: r, e => by
    unfold frK at e
    cases hb : g b with
    | none => rw [hb] at e; exact frK_at r e
    | some ob =>
      rw [hb] at e
      cases hk : kepO b ob with
      | false =>
        have e2 : (match kepO b ob with | true => (b, ob) :: frK g r | false => frK g r).lookup a = some o := e
        rw [hk] at e2
        exact frK_at r e2
      | true =>
        have e1 : (match kepO b ob with | true => (b, ob) :: frK g r | false => frK g r).lookup a = some o := e
        rw [hk] at e1
        have e2 : (match a == b with | true => some ob | false => (frK g r).lookup a) = some o := e1
        cases q : (a == b) with
        | true =>
          rw [q] at e2
          have eo : ob = o := Option.some.inj e2
          rw [beq_iff_eq.mp q, hb, eo]
        | false =>
          rw [q] at e2
          exact frK_at r e2
theorem frK_in {as : List Addr} {h : Heap} : (frK h.get? as).In h := fun _ _ e => frK_at as e
/-- a function object -/
abbrev FnVw : Type := Option (Str × Str × Arguments × FuncBody × Scope × Addr × List (Str × Addr) × Value × Addr)
def fnAt (K : PySem.W.Frag) (f : Addr) : FnVw := match K.lookup f with
  | some ⟨_, _, .func fd, _⟩ => some (fd.name, fd.qualname, fd.params, fd.body, fd.scope, fd.globals, fd.closure, fd.defaults, fd.builtins)
  | _ => none
def cdAt (K : PySem.W.Frag) (f : Addr) (q : Str) : Bool := match K.lookup f with
  | some ⟨_, _, .func fd, _⟩ => PySem.W.codeIn K fd.code q
  | _ => false
def fnW (name qual : Str) (s : Stmt) : FnVw := some (name, qual, defArgs s, .stmts (defBody s), defScope s, mainGlobals, [], .none, builtinsNs)
theorem fnAt_ok {K : PySem.W.Frag} {f : Addr} {name qual : Str} {s : Stmt} (e : fnAt K f = fnW name qual s) (c : cdAt K f qual = true) :
    ∃ oc od osl kV doc pm an cdv ct, K.lookup f = some ⟨oc, od, .func (PySem.W.fnOf name qual (defArgs s) (defBody s) (defScope s) .none kV doc pm an cdv ct), osl⟩ ∧ PySem.W.codeIn K cdv qual = true := by
  have c2 : (match K.lookup f with
    | some ⟨_, _, .func fd, _⟩ => PySem.W.codeIn K fd.code qual
    | _ => false) = true := c
  unfold fnAt at e
  unfold fnW at e
  cases q : K.lookup f with
  | none =>
    rw [q] at c2
    cases c2
  | some o =>
    obtain ⟨oc, od, dt, osl⟩ := o
    rw [q] at c2 e
    cases dt with
    | func fd =>
      obtain ⟨n1, n2, n3, n4, n5, n6, n7, n8, n9, n10, n11, n12, n13, n14, n15⟩ := fd
      have e2 : (some (n1, n2, n3, n4, n5, n6, n7, n8, n15) : FnVw) = some (name, qual, defArgs s, .stmts (defBody s), defScope s, mainGlobals, [], .none, builtinsNs) := e
      simp only [Option.some.injEq, Prod.mk.injEq] at e2
      obtain ⟨h1, h2, h3, h4, h5, h6, h7, h8, h9⟩ := e2
      subst h1 h2 h3 h4 h5 h6 h7 h8 h9
      exact ⟨oc, od, osl, n9, n10, n11, n12, n13, n14, rfl, c2⟩
    | _ => cases c2
/-- where a property's function is, a classmethod's object and function, a function's code object, its table -/
def fstR : Option (List Value) → Addr
  | some (.ref f :: _) => f
  | _ => 0
def isFR : Option (List Value) → Bool
  | some (.ref _ :: _) => true
  | _ => false
theorem isFR_ok {o : Option (List Value)} (h : isFR o = true) : ∃ r, o = some (.ref (fstR o) :: r) := by
  cases o with
  | none => cases h
  | some l =>
    cases l with
    | nil => cases h
    | cons v r =>
      cases v with
      | ref f => exact ⟨r, rfl⟩
      | _ => cases h
def prF (K : PySem.W.Frag) (p : Addr) : Addr := fstR (PySem.W.recIn K p "property")
def vlB (s : String) : Option PySem.W.CFound → Bool
  | some (.val (.builtin b)) => decide (b = s)
  | _ => false
theorem vlB_ok {s : String} {o : Option PySem.W.CFound} (h : vlB s o = true) : o = some (.val (.builtin s)) := by
  unfold vlB at h
  split at h
  · rw [of_decide_eq_true h]
  · cases h
/-- a code object's address, its table's -/
def cdOf (K : PySem.W.Frag) (f : Addr) : Addr := match K.lookup f with
  | some ⟨_, _, .func fd, _⟩ => (match fd.code with
    | .ref c => c
    | _ => 0)
  | _ => 0
def cdR (K : PySem.W.Frag) (f : Addr) : Bool := match K.lookup f with
  | some ⟨_, _, .func fd, _⟩ => (match fd.code with
    | .ref c => true
    | _ => false)
  | _ => false
theorem cdR_ok {K : PySem.W.Frag} {f : Addr} (h : cdR K f = true) {oc od osl} {name qual : Str} {a : Arguments} {b : List Stmt} {sc : Scope} {kV doc pm an cdv ct} (e : K.lookup f = some ⟨oc, od, .func (PySem.W.fnOf name qual a b sc .none kV doc pm an cdv ct), osl⟩) : cdv = .ref (cdOf K f) := by
  unfold cdR at h
  unfold cdOf
  rw [e] at h ⊢
  clear e
  cases cdv with
  | ref c => rfl
  | _ => cases h
def tabOf (K : PySem.W.Frag) (c : Addr) : Addr := match K.lookup c with
  | some o => (tabP o).getD 0
  | none => 0
def tabB (K : PySem.W.Frag) (c : Addr) : Bool := match K.lookup c with
  | some o => (tabP o).isSome
  | none => false
theorem tabB_ok {K : PySem.W.Frag} {c : Addr} (h : tabB K c = true) : ∃ o, K.lookup c = some o ∧ tabP o = some (tabOf K c) := by
  unfold tabB at h
  unfold tabOf
  cases q : K.lookup c with
  | none => rw [q] at h; cases h
  | some o =>
    rw [q] at h
    refine ⟨o, rfl, ?_⟩
    have h2 : (tabP o).isSome = true := h
    show tabP o = some ((tabP o).getD 0)
    cases z : tabP o with
    | none => rw [z] at h2; cases h2
    | some p => rfl
def emB (g : Addr → Option Obj) (a : Addr) : Bool := match g a with
  | some ⟨.none, none, .fields xs, sl⟩ => xs.toList.isEmpty && sl.toList.isEmpty
  | _ => false
theorem emB_ok {g : Addr → Option Obj} {a : Addr} (h : emB g a = true) : g a = some { cls := .none, data := .fields #[] } := by
  unfold emB at h
  split at h
  · rename_i xs sl q
    obtain ⟨h1, h2⟩ := Bool.and_eq_true_iff.mp h
    have e1 : xs = #[] := by
      have := List.isEmpty_iff.mp h1
      exact Array.toList_eq_nil_iff.mp this
    have e2 : sl = #[] := by
      have := List.isEmpty_iff.mp h2
      exact Array.toList_eq_nil_iff.mp this
    rw [q, e1, e2]
  · cases h
/-- an int, a text, a tuple of such by a name -/
def intB (i : Int) : Option (Option Value) → Bool
  | some (some (.int j _)) => decide (j = i)
  | _ => false
theorem intB_ok {i : Int} {o : Option (Option Value)} (h : intB i o = true) : ∃ t, o = some (some (.int i t)) := by
  unfold intB at h
  split at h
  · rw [of_decide_eq_true h]; exact ⟨_, rfl⟩
  · cases h
def strB (x : Str) : Option (Option Value) → Bool
  | some (some (.str y _)) => decide (y = x)
  | _ => false
theorem strB_ok {x : Str} {o : Option (Option Value)} (h : strB x o = true) : ∃ t, o = some (some (.str x t)) := by
  unfold strB at h
  split at h
  · rw [of_decide_eq_true h]; exact ⟨_, rfl⟩
  · cases h
def intsB : List Value → List Int → Bool
  | [], [] => true
  | .int j _ :: vs, i :: ns => decide (j = i) && intsB vs ns
  | _, _ => false
theorem intsB_ok : ∀ {vs : List Value} {ns : List Int}, intsB vs ns = true → IntsAre vs ns
  | [], [], _ => .nil
  | v :: vs, i :: ns, h => by
    cases v with
    | int j t =>
      obtain ⟨h1, h2⟩ := Bool.and_eq_true_iff.mp (show (decide (j = i) && intsB vs ns) = true from h)
      rw [of_decide_eq_true h1]
      exact .cons _ _ (intsB_ok h2)
    | _ => cases h
  | v :: _, [], h => by cases v <;> cases h
  | [], _ :: _, h => by cases h
def tupAt (K : PySem.W.Frag) (a : Addr) (p : List Value → Bool) : Bool := match K.lookup a with
  | some ⟨.type c, _, .seq its _, _⟩ => decide (c = "tuple") && p its.toList
  | _ => false
theorem tupAt_ok {K : PySem.W.Frag} {a : Addr} {p : List Value → Bool} (h : tupAt K a p = true) : ∃ dd its k sl, K.lookup a = some ⟨.type "tuple", dd, .seq its k, sl⟩ ∧ p its.toList = true := by
  unfold tupAt at h
  split at h
  · rename_i c dd its k sl q
    obtain ⟨h1, h2⟩ := Bool.and_eq_true_iff.mp h
    exact ⟨dd, its, k, sl, by rw [q, of_decide_eq_true h1], h2⟩
  · cases h
/-- what is looked at: checks of K, function objects, keys of dicts, tables that are empty -/
structure HdD where
  as : List Addr
  chk : PySem.W.Frag → Bool
  fns : PySem.W.Frag → List FnVw
  fnv : List FnVw
  dic : PySem.W.Frag → List (Option (List (Option (Str × Int))))
  dicv : Params → List (Option (List (Option (Str × Int))))
  tabs : PySem.W.Frag → List Addr
abbrev HdA : Type := Bool × List FnVw × List (Option (List (Option (Str × Int))))
def HdD.look (D : HdD) (g : Addr → Option Obj) (K : PySem.W.Frag) : HdA := (D.chk K && (D.tabs K).all fun a => emB g a, D.fns K, D.dic K)
def HdD.obs (D : HdD) (g : Addr → Option Obj) : HdA := D.look g (frK g D.as)
def HdD.val (D : HdD) (w : World) : HdA := (true, D.fnv, D.dicv w.params)
structure HdD.Says (D : HdD) (w : World) (K : PySem.W.Frag) (h : Heap) : Prop where
  chk : D.chk K = true
  fns : D.fns K = D.fnv
  dic : D.dic K = D.dicv w.params
  tabs : ∀ a ∈ D.tabs K, h.get? a = some { cls := .none, data := .fields #[] }
def HdD.hook (D : HdD) : PySem.W.Hook where
  α := HdA
  obs := fun s => D.obs s.heap.get?
  val := D.val
  says := fun w h => ∃ K : PySem.W.Frag, K.In h ∧ D.Says w K h
  of := fun w s e => ⟨_, frK_in, by
    have h1 : (D.chk (frK s.heap.get? D.as) && (D.tabs (frK s.heap.get? D.as)).all fun a => emB s.heap.get? a) = true := congrArg (fun z : HdA => z.1) e
    obtain ⟨h2, h3⟩ := Bool.and_eq_true_iff.mp h1
    exact ⟨h2, congrArg (fun z : HdA => z.2.1) e, congrArg (fun z : HdA => z.2.2) e, fun a ha => emB_ok (List.all_eq_true.mp h3 a ha)⟩⟩
  keeps := fun w h h' ⟨K, hK, c⟩ k => ⟨K, PySem.W.Frag.In.keeps hK k, ⟨c.chk, c.fns, c.dic, fun a ha => k _ _ (c.tabs a ha)⟩⟩
def HdD.ob (D : HdD) (s : PySem.W.SharedT) : HdA := D.obs (HandSHeadRun.getT s)
theorem HdD.ob_eq (D : HdD) (s : PySem.W.SharedT) : D.ob s = D.hook.obs s.abs := by
  have e : HandSHeadRun.getT s = s.abs.heap.get? := funext (HandSHeadRun.getT_eq s)
  unfold HdD.ob
  rw [e]
  rfl
/-- one of many checks -/
theorem pickB {l : List Bool} (h : l.all id = true) (i : Nat) {b : Bool} (hi : l[i]? = some b) : b = true := List.all_eq_true.mp h b (List.mem_of_getElem? hi)
theorem pickD {l : List Bool} (h : l.all id = true) (i : Nat) {p : Prop} [Decidable p] (hi : l[i]? = some (decide p)) : p := of_decide_eq_true (List.all_eq_true.mp h _ (List.mem_of_getElem? hi))
/-- what the written part says of an own class over ValueError, as a test -/
def oexIn (K : PySem.W.Frag) (C : Addr) : Bool := match K.lookup C with
  | some ⟨.type "type", _, .cls cd, sl⟩ => (match cd.mro, sl.toList with
    | .ref C' :: bm, [_, _, _, _, some (.builtin n), _] => C' == C && n == "ValueError.__new__" && !cd.hasDel && cd.hasDict && PySem.HandSPX.refsVE bm
    | _, _ => false)
  | _ => false
end VE
namespace VP
open PySem PySem.Spec PyProof.Rows L2 VE
def top (i : Nat) : Stmt := PySem.Challenge.pw_ruledpieces_k01_rules_and_books_validate.main.body.getD i (.Pass ⟨0, 0, 0, 0⟩)
abbrev s_InvalidRule_init : Stmt := inClass (top 2) 0
abbrev s_InvalidBook_init : Stmt := inClass (top 3) 0
abbrev s_is_number : Stmt := top 19
abbrev s_is_word : Stmt := top 20
abbrev s_ascend : Stmt := top 21
abbrev s_Rule_piece : Stmt := inClass (top 24) 2
abbrev s_Rule_low : Stmt := inClass (top 24) 3
abbrev s_Rule_high : Stmt := inClass (top 24) 4
abbrev s_Rule_modulus : Stmt := inClass (top 24) 5
abbrev s_Rule_rests : Stmt := inClass (top 24) 6
abbrev s_Rule_kinds : Stmt := inClass (top 24) 7
abbrev s_Rule_eq : Stmt := inClass (top 24) 8
abbrev s_Book_kinds : Stmt := inClass (top 26) 2
abbrev s_Book_rules : Stmt := inClass (top 26) 3
abbrev s_law_taken : Stmt := top 28
abbrev s_are_kinds : Stmt := top 22
abbrev s_are_rests : Stmt := top 23
abbrev s_law_pick : Stmt := top 29
abbrev s_law_kinds : Stmt := top 30
abbrev s_Rule_init : Stmt := inClass (top 24) 1
abbrev s_check_kinds : Stmt := top 25
abbrev s_Book_pieces : Stmt := inClass (top 26) 4
abbrev s_Book_len : Stmt := inClass (top 26) 5
abbrev s_law_some : Stmt := top 31
abbrev s_Book_init : Stmt := inClass (top 26) 1
abbrev s_law_rule : Stmt := top 32
abbrev s_Book_eq : Stmt := inClass (top 26) 6
abbrev s_law_book : Stmt := top 33
abbrev s_law_is_told : Stmt := top 35
abbrev s_law_raised : Stmt := top 34
abbrev s_law : Stmt := top 36
end VP
namespace VP
open PySem PySem.Spec PyProof.Rows L2 VE
def chk0 (K : PySem.W.Frag) : List Bool := [decide (PySem.W.nsIn K mainGlobals "Rule" = some (some (.ref (He.ga K "Rule")))),
    decide (PySem.W.plainGet K (He.ga K "Rule") Str.empty = true),
    decide (PySem.W.isClsIn K (He.ga K "Rule") = true),
    decide (PySem.W.plainOver K (He.ga K "Rule") = true),
    decide (PySem.W.findIn K (.ref (He.ga K "Rule")) "__setattr__" = some (some (.builtin "object.__setattr__"))),
    decide (PySem.W.makesIn K (He.ga K "Rule") = true),
    decide (PySem.W.keepIn K (.ref (He.ga K "Rule")) = true),
    decide (PySem.W.findIn K (.ref (He.ga K "Rule")) "parts" = some (some (.ref (He.ma K (He.ga K "Rule") "parts")))),
    decide (PySem.W.specialIn K (.ref (He.ma K (He.ga K "Rule") "parts")) "__get__" = some (some (.builtin "member_descriptor.__get__"))),
    decide (PySem.W.takesIn K (.ref (He.ma K (He.ga K "Rule") "parts")) = some true),
    decide (PySem.W.slotIn K (He.ma K (He.ga K "Rule") "parts") (He.ga K "Rule") = some 0),
    decide (PySem.W.typeIn K (.ref (He.ma K (He.ga K "Rule") "parts")) = some (.type "member_descriptor")),
    decide (PySem.W.nsIn K mainGlobals "Book" = some (some (.ref (He.ga K "Book")))),
    decide (PySem.W.plainGet K (He.ga K "Book") Str.empty = true),
    decide (PySem.W.isClsIn K (He.ga K "Book") = true),
    decide (PySem.W.plainOver K (He.ga K "Book") = true),
    decide (PySem.W.findIn K (.ref (He.ga K "Book")) "__setattr__" = some (some (.builtin "object.__setattr__"))),
    decide (PySem.W.makesIn K (He.ga K "Book") = true),
    decide (PySem.W.keepIn K (.ref (He.ga K "Book")) = true),
    decide (PySem.W.findIn K (.ref (He.ga K "Book")) "lists" = some (some (.ref (He.ma K (He.ga K "Book") "lists")))),
    decide (PySem.W.specialIn K (.ref (He.ma K (He.ga K "Book") "lists")) "__get__" = some (some (.builtin "member_descriptor.__get__"))),
    decide (PySem.W.takesIn K (.ref (He.ma K (He.ga K "Book") "lists")) = some true),
    decide (PySem.W.slotIn K (He.ma K (He.ga K "Book") "lists") (He.ga K "Book") = some 0),
    decide (PySem.W.typeIn K (.ref (He.ma K (He.ga K "Book") "lists")) = some (.type "member_descriptor")),
    decide (PySem.W.findIn K (.ref (He.ga K "Book")) "__class__" = some (some (.builtin "object.__class__"))),
    decide (PySem.W.specialIn K (.builtin "object.__class__") "__get__" = some (some (.builtin "getset_descriptor.__get__"))),
    decide (PySem.W.takesIn K (.builtin "object.__class__") = some true),
    decide (PySem.W.mroIn K (He.ga K "Book") (.type "object") = some true),
    decide (PySem.W.kitOne K (.ref (He.ga K "Book")) (.ref (He.ga K "Book")) = some true),
    decide (PySem.W.findIn K (.ref (He.ga K "Rule")) "__class__" = some (some (.builtin "object.__class__")))]
def chk1 (K : PySem.W.Frag) : List Bool := [decide (PySem.W.specialIn K (.builtin "object.__class__") "__get__" = some (some (.builtin "getset_descriptor.__get__"))),
    decide (PySem.W.takesIn K (.builtin "object.__class__") = some true),
    decide (PySem.W.mroIn K (He.ga K "Rule") (.type "object") = some true),
    decide (PySem.W.kitOne K (.ref (He.ga K "Rule")) (.ref (He.ga K "Rule")) = some true),
    decide (PySem.W.kitOne K (.type "tuple") (.ref (He.ga K "Book")) = some false),
    decide (PySem.W.notFirst K (He.ga K "Book") (.type "tuple") = true),
    decide (PySem.W.kitOne K (.type "tuple") (.ref (He.ga K "Rule")) = some false),
    decide (PySem.W.notFirst K (He.ga K "Rule") (.type "tuple") = true),
    decide (PySem.W.findIn K (.ref (He.ga K "Book")) "__ne__" = some (some (.builtin "object.__ne__"))),
    decide (PySem.W.subIn K (.ref (He.ga K "Book")) (.type "object") = some true),
    decide (PySem.W.findIn K (.ref (He.ga K "Rule")) "__ne__" = some (some (.builtin "object.__ne__"))),
    decide (PySem.W.subIn K (.ref (He.ga K "Rule")) (.type "object") = some true),
    decide (PySem.W.nsIn K mainGlobals "InvalidRule" = some (some (.ref (He.ga K "InvalidRule")))),
    decide (PySem.W.findIn K (.ref (He.ga K "InvalidRule")) "__init__" = some (some (.ref (He.ma K (He.ga K "InvalidRule") "__init__")))),
    decide (PySem.W.isFn K (.ref (He.ma K (He.ga K "InvalidRule") "__init__")) = true),
    VE.cdAt K (He.ma K (He.ga K "InvalidRule") "__init__") "InvalidRule.__init__",
    decide (PySem.W.keepIn K (.ref (He.ma K (He.ga K "InvalidRule") "__init__")) = true),
    decide (PySem.W.nsIn K mainGlobals "InvalidBook" = some (some (.ref (He.ga K "InvalidBook")))),
    decide (PySem.W.findIn K (.ref (He.ga K "InvalidBook")) "__init__" = some (some (.ref (He.ma K (He.ga K "InvalidBook") "__init__")))),
    decide (PySem.W.isFn K (.ref (He.ma K (He.ga K "InvalidBook") "__init__")) = true),
    VE.cdAt K (He.ma K (He.ga K "InvalidBook") "__init__") "InvalidBook.__init__",
    decide (PySem.W.keepIn K (.ref (He.ma K (He.ga K "InvalidBook") "__init__")) = true),
    decide (PySem.W.nsIn K mainGlobals "is_number" = some (some (.ref (He.ga K "is_number")))),
    VE.cdAt K (He.ga K "is_number") "is_number",
    decide (PySem.W.keepIn K (.ref (He.ga K "is_number")) = true),
    decide (PySem.W.nsIn K mainGlobals "is_word" = some (some (.ref (He.ga K "is_word")))),
    VE.cdAt K (He.ga K "is_word") "is_word",
    decide (PySem.W.keepIn K (.ref (He.ga K "is_word")) = true),
    decide (PySem.W.nsIn K mainGlobals "ascend" = some (some (.ref (He.ga K "ascend")))),
    VE.cdAt K (He.ga K "ascend") "ascend"]
def chk2 (K : PySem.W.Frag) : List Bool := [decide (PySem.W.keepIn K (.ref (He.ga K "ascend")) = true),
    decide (PySem.W.findIn K (.ref (He.ga K "Rule")) "piece" = some (some (.ref (He.ma K (He.ga K "Rule") "piece")))),
    decide (PySem.W.specialIn K (.ref (He.ma K (He.ga K "Rule") "piece")) "__get__" = some (some (.builtin "property.__get__"))),
    decide (PySem.W.takesIn K (.ref (He.ma K (He.ga K "Rule") "piece")) = some true),
    VE.isFR (PySem.W.recIn K (He.ma K (He.ga K "Rule") "piece") "property"),
    VE.cdAt K (VE.prF K (He.ma K (He.ga K "Rule") "piece")) "Rule.piece",
    decide (PySem.W.keepIn K (.ref (VE.prF K (He.ma K (He.ga K "Rule") "piece"))) = true),
    decide (PySem.W.findIn K (.ref (He.ga K "Rule")) "low" = some (some (.ref (He.ma K (He.ga K "Rule") "low")))),
    decide (PySem.W.specialIn K (.ref (He.ma K (He.ga K "Rule") "low")) "__get__" = some (some (.builtin "property.__get__"))),
    decide (PySem.W.takesIn K (.ref (He.ma K (He.ga K "Rule") "low")) = some true),
    VE.isFR (PySem.W.recIn K (He.ma K (He.ga K "Rule") "low") "property"),
    VE.cdAt K (VE.prF K (He.ma K (He.ga K "Rule") "low")) "Rule.low",
    decide (PySem.W.keepIn K (.ref (VE.prF K (He.ma K (He.ga K "Rule") "low"))) = true),
    decide (PySem.W.findIn K (.ref (He.ga K "Rule")) "high" = some (some (.ref (He.ma K (He.ga K "Rule") "high")))),
    decide (PySem.W.specialIn K (.ref (He.ma K (He.ga K "Rule") "high")) "__get__" = some (some (.builtin "property.__get__"))),
    decide (PySem.W.takesIn K (.ref (He.ma K (He.ga K "Rule") "high")) = some true),
    VE.isFR (PySem.W.recIn K (He.ma K (He.ga K "Rule") "high") "property"),
    VE.cdAt K (VE.prF K (He.ma K (He.ga K "Rule") "high")) "Rule.high",
    decide (PySem.W.keepIn K (.ref (VE.prF K (He.ma K (He.ga K "Rule") "high"))) = true),
    decide (PySem.W.findIn K (.ref (He.ga K "Rule")) "modulus" = some (some (.ref (He.ma K (He.ga K "Rule") "modulus")))),
    decide (PySem.W.specialIn K (.ref (He.ma K (He.ga K "Rule") "modulus")) "__get__" = some (some (.builtin "property.__get__"))),
    decide (PySem.W.takesIn K (.ref (He.ma K (He.ga K "Rule") "modulus")) = some true),
    VE.isFR (PySem.W.recIn K (He.ma K (He.ga K "Rule") "modulus") "property"),
    VE.cdAt K (VE.prF K (He.ma K (He.ga K "Rule") "modulus")) "Rule.modulus",
    decide (PySem.W.keepIn K (.ref (VE.prF K (He.ma K (He.ga K "Rule") "modulus"))) = true),
    decide (PySem.W.findIn K (.ref (He.ga K "Rule")) "rests" = some (some (.ref (He.ma K (He.ga K "Rule") "rests")))),
    decide (PySem.W.specialIn K (.ref (He.ma K (He.ga K "Rule") "rests")) "__get__" = some (some (.builtin "property.__get__"))),
    decide (PySem.W.takesIn K (.ref (He.ma K (He.ga K "Rule") "rests")) = some true),
    VE.isFR (PySem.W.recIn K (He.ma K (He.ga K "Rule") "rests") "property"),
    VE.cdAt K (VE.prF K (He.ma K (He.ga K "Rule") "rests")) "Rule.rests"]
def chk3 (K : PySem.W.Frag) : List Bool := [decide (PySem.W.keepIn K (.ref (VE.prF K (He.ma K (He.ga K "Rule") "rests"))) = true),
    decide (PySem.W.findIn K (.ref (He.ga K "Rule")) "kinds" = some (some (.ref (He.ma K (He.ga K "Rule") "kinds")))),
    decide (PySem.W.specialIn K (.ref (He.ma K (He.ga K "Rule") "kinds")) "__get__" = some (some (.builtin "property.__get__"))),
    decide (PySem.W.takesIn K (.ref (He.ma K (He.ga K "Rule") "kinds")) = some true),
    VE.isFR (PySem.W.recIn K (He.ma K (He.ga K "Rule") "kinds") "property"),
    VE.cdAt K (VE.prF K (He.ma K (He.ga K "Rule") "kinds")) "Rule.kinds",
    decide (PySem.W.keepIn K (.ref (VE.prF K (He.ma K (He.ga K "Rule") "kinds"))) = true),
    decide (PySem.W.findIn K (.ref (He.ga K "Rule")) "__eq__" = some (some (.ref (He.ma K (He.ga K "Rule") "__eq__")))),
    decide (PySem.W.isFn K (.ref (He.ma K (He.ga K "Rule") "__eq__")) = true),
    VE.cdAt K (He.ma K (He.ga K "Rule") "__eq__") "Rule.__eq__",
    decide (PySem.W.keepIn K (.ref (He.ma K (He.ga K "Rule") "__eq__")) = true),
    decide (PySem.W.findIn K (.ref (He.ga K "Book")) "kinds" = some (some (.ref (He.ma K (He.ga K "Book") "kinds")))),
    decide (PySem.W.specialIn K (.ref (He.ma K (He.ga K "Book") "kinds")) "__get__" = some (some (.builtin "property.__get__"))),
    decide (PySem.W.takesIn K (.ref (He.ma K (He.ga K "Book") "kinds")) = some true),
    VE.isFR (PySem.W.recIn K (He.ma K (He.ga K "Book") "kinds") "property"),
    VE.cdAt K (VE.prF K (He.ma K (He.ga K "Book") "kinds")) "Book.kinds",
    decide (PySem.W.keepIn K (.ref (VE.prF K (He.ma K (He.ga K "Book") "kinds"))) = true),
    decide (PySem.W.findIn K (.ref (He.ga K "Book")) "rules" = some (some (.ref (He.ma K (He.ga K "Book") "rules")))),
    decide (PySem.W.specialIn K (.ref (He.ma K (He.ga K "Book") "rules")) "__get__" = some (some (.builtin "property.__get__"))),
    decide (PySem.W.takesIn K (.ref (He.ma K (He.ga K "Book") "rules")) = some true),
    VE.isFR (PySem.W.recIn K (He.ma K (He.ga K "Book") "rules") "property"),
    VE.cdAt K (VE.prF K (He.ma K (He.ga K "Book") "rules")) "Book.rules",
    decide (PySem.W.keepIn K (.ref (VE.prF K (He.ma K (He.ga K "Book") "rules"))) = true),
    decide (PySem.W.nsIn K mainGlobals "_law_taken" = some (some (.ref (He.ga K "_law_taken")))),
    VE.cdAt K (He.ga K "_law_taken") "_law_taken",
    decide (PySem.W.keepIn K (.ref (He.ga K "_law_taken")) = true),
    decide (PySem.W.nsIn K mainGlobals "are_kinds" = some (some (.ref (He.ga K "are_kinds")))),
    VE.cdAt K (He.ga K "are_kinds") "are_kinds",
    decide (PySem.W.keepIn K (.ref (He.ga K "are_kinds")) = true),
    decide (PySem.W.nsIn K mainGlobals "are_rests" = some (some (.ref (He.ga K "are_rests"))))]
def chk4 (K : PySem.W.Frag) : List Bool := [VE.cdAt K (He.ga K "are_rests") "are_rests",
    decide (PySem.W.keepIn K (.ref (He.ga K "are_rests")) = true),
    decide (PySem.W.nsIn K mainGlobals "_law_pick" = some (some (.ref (He.ga K "_law_pick")))),
    VE.cdAt K (He.ga K "_law_pick") "_law_pick",
    decide (PySem.W.keepIn K (.ref (He.ga K "_law_pick")) = true),
    decide (PySem.W.nsIn K mainGlobals "_law_kinds" = some (some (.ref (He.ga K "_law_kinds")))),
    VE.cdAt K (He.ga K "_law_kinds") "_law_kinds",
    decide (PySem.W.keepIn K (.ref (He.ga K "_law_kinds")) = true),
    decide (PySem.W.findIn K (.ref (He.ga K "Rule")) "__init__" = some (some (.ref (He.ma K (He.ga K "Rule") "__init__")))),
    decide (PySem.W.isFn K (.ref (He.ma K (He.ga K "Rule") "__init__")) = true),
    VE.cdAt K (He.ma K (He.ga K "Rule") "__init__") "Rule.__init__",
    decide (PySem.W.keepIn K (.ref (He.ma K (He.ga K "Rule") "__init__")) = true),
    decide (PySem.W.nsIn K mainGlobals "check_kinds" = some (some (.ref (He.ga K "check_kinds")))),
    VE.cdAt K (He.ga K "check_kinds") "check_kinds",
    decide (PySem.W.keepIn K (.ref (He.ga K "check_kinds")) = true),
    decide (PySem.W.findIn K (.ref (He.ga K "Book")) "pieces" = some (some (.ref (He.ma K (He.ga K "Book") "pieces")))),
    decide (PySem.W.specialIn K (.ref (He.ma K (He.ga K "Book") "pieces")) "__get__" = some (some (.builtin "property.__get__"))),
    decide (PySem.W.takesIn K (.ref (He.ma K (He.ga K "Book") "pieces")) = some true),
    VE.isFR (PySem.W.recIn K (He.ma K (He.ga K "Book") "pieces") "property"),
    VE.cdAt K (VE.prF K (He.ma K (He.ga K "Book") "pieces")) "Book.pieces",
    decide (PySem.W.keepIn K (.ref (VE.prF K (He.ma K (He.ga K "Book") "pieces"))) = true),
    decide (PySem.W.findIn K (.ref (He.ga K "Book")) "__len__" = some (some (.ref (He.ma K (He.ga K "Book") "__len__")))),
    decide (PySem.W.isFn K (.ref (He.ma K (He.ga K "Book") "__len__")) = true),
    VE.cdAt K (He.ma K (He.ga K "Book") "__len__") "Book.__len__",
    decide (PySem.W.keepIn K (.ref (He.ma K (He.ga K "Book") "__len__")) = true),
    decide (PySem.W.nsIn K mainGlobals "_law_some" = some (some (.ref (He.ga K "_law_some")))),
    VE.cdAt K (He.ga K "_law_some") "_law_some",
    decide (PySem.W.keepIn K (.ref (He.ga K "_law_some")) = true),
    decide (PySem.W.findIn K (.ref (He.ga K "Book")) "__init__" = some (some (.ref (He.ma K (He.ga K "Book") "__init__")))),
    decide (PySem.W.isFn K (.ref (He.ma K (He.ga K "Book") "__init__")) = true)]
def chk5 (K : PySem.W.Frag) : List Bool := [VE.cdAt K (He.ma K (He.ga K "Book") "__init__") "Book.__init__",
    decide (PySem.W.keepIn K (.ref (He.ma K (He.ga K "Book") "__init__")) = true),
    decide (PySem.W.nsIn K mainGlobals "_law_rule" = some (some (.ref (He.ga K "_law_rule")))),
    VE.cdAt K (He.ga K "_law_rule") "_law_rule",
    decide (PySem.W.keepIn K (.ref (He.ga K "_law_rule")) = true),
    decide (PySem.W.findIn K (.ref (He.ga K "Book")) "__eq__" = some (some (.ref (He.ma K (He.ga K "Book") "__eq__")))),
    decide (PySem.W.isFn K (.ref (He.ma K (He.ga K "Book") "__eq__")) = true),
    VE.cdAt K (He.ma K (He.ga K "Book") "__eq__") "Book.__eq__",
    decide (PySem.W.keepIn K (.ref (He.ma K (He.ga K "Book") "__eq__")) = true),
    decide (PySem.W.nsIn K mainGlobals "_law_book" = some (some (.ref (He.ga K "_law_book")))),
    VE.cdAt K (He.ga K "_law_book") "_law_book",
    decide (PySem.W.keepIn K (.ref (He.ga K "_law_book")) = true),
    decide (PySem.W.nsIn K mainGlobals "_law_is_told" = some (some (.ref (He.ga K "_law_is_told")))),
    VE.cdAt K (He.ga K "_law_is_told") "_law_is_told",
    decide (PySem.W.keepIn K (.ref (He.ga K "_law_is_told")) = true),
    decide (PySem.W.nsIn K mainGlobals "_law_raised" = some (some (.ref (He.ga K "_law_raised")))),
    VE.cdAt K (He.ga K "_law_raised") "_law_raised",
    decide (PySem.W.keepIn K (.ref (He.ga K "_law_raised")) = true),
    decide (PySem.W.nsIn K mainGlobals "law" = some (some (.ref (He.ga K "law")))),
    VE.cdAt K (He.ga K "law") "law",
    decide (PySem.W.keepIn K (.ref (He.ga K "law")) = true),
    VE.cdR K (He.ga K "law"),
    VE.tabB K (VE.cdOf K (He.ga K "law")),
    decide (PySem.W.codeHdIn K (VE.cdOf K (He.ga K "law")) (VE.tabOf K (VE.cdOf K (He.ga K "law"))) = true),
    (K.lookup (VE.tabOf K (VE.cdOf K (He.ga K "law")))).isNone,
    decide ([(VE.tabOf K (VE.cdOf K (He.ga K "law")))].Nodup),
    decide (PySem.W.nsIn K mainGlobals "all" = some none),
    decide (PySem.W.nsIn K mainGlobals "bool" = some none),
    decide (PySem.W.nsIn K mainGlobals "enumerate" = some none),
    decide (PySem.W.nsIn K mainGlobals "int" = some none)]
def chk6 (K : PySem.W.Frag) : List Bool := [decide (PySem.W.nsIn K mainGlobals "isinstance" = some none),
    decide (PySem.W.nsIn K mainGlobals "len" = some none),
    decide (PySem.W.nsIn K mainGlobals "list" = some none),
    decide (PySem.W.nsIn K mainGlobals "min" = some none),
    decide (PySem.W.nsIn K mainGlobals "range" = some none),
    decide (PySem.W.nsIn K mainGlobals "set" = some none),
    decide (PySem.W.nsIn K mainGlobals "sorted" = some none),
    decide (PySem.W.nsIn K mainGlobals "str" = some none),
    decide (PySem.W.nsIn K mainGlobals "tuple" = some none),
    decide (PySem.W.nsIn K mainGlobals "zip" = some none),
    VE.intB 999999999999999999999999999999 (PySem.W.nsIn K mainGlobals "LAST"),
    VE.strB "abcdefghijklmnopqrstuvwxyz" (PySem.W.nsIn K mainGlobals "LETTERS"),
    VE.intB 4 (PySem.W.nsIn K mainGlobals "MAX_KINDS"),
    VE.intB 8 (PySem.W.nsIn K mainGlobals "MAX_RULES"),
    VE.intB 8 (PySem.W.nsIn K mainGlobals "MAX_WORD"),
    decide (PySem.W.nsIn K mainGlobals "MODULI" = some (some (.ref (He.ga K "MODULI")))),
    VE.tupAt K (He.ga K "MODULI") (fun vs => VE.intsB vs [1, 2, 3, 4, 6, 12]),
    decide (PySem.W.nsIn K mainGlobals "PieceError" = some (some (.ref (He.ga K "PieceError")))),
    decide (PySem.W.readsIn K (He.ga K "PieceError") (.type "type") = true),
    decide (PySem.W.specialIn K (.ref (He.ga K "PieceError")) "__getattribute__" = some (some (.builtin "type.__getattribute__"))),
    VE.vlB "ValueError.__init__" (PySem.W.findCls K (.ref (He.ga K "PieceError")) (.type "type") "__init__"),
    decide (VE.oexIn K (He.ga K "InvalidBook") = true),
    decide (PySem.W.findIn K (.ref (He.ga K "InvalidBook")) "__setattr__" = some (some (.builtin "object.__setattr__"))),
    decide (PySem.W.findIn K (.ref (He.ga K "InvalidBook")) "part" = some none),
    decide (PySem.W.findIn K (.ref (He.ga K "InvalidBook")) "index" = some none),
    decide (L2.xfB K (He.ga K "InvalidBook") = true),
    decide (PySem.W.keepIn K (.ref (He.ga K "InvalidBook")) = true),
    decide (PySem.W.subIn K (.ref (He.ga K "InvalidBook")) (.type "BaseException") = some true),
    decide (PySem.W.typeIn K (.ref (He.ga K "InvalidBook")) = some (.type "type")),
    decide (VE.oexIn K (He.ga K "InvalidRule") = true)]
def chk7 (K : PySem.W.Frag) : List Bool := [decide (PySem.W.findIn K (.ref (He.ga K "InvalidRule")) "__setattr__" = some (some (.builtin "object.__setattr__"))),
    decide (PySem.W.findIn K (.ref (He.ga K "InvalidRule")) "part" = some none),
    decide (L2.xfB K (He.ga K "InvalidRule") = true),
    decide (PySem.W.keepIn K (.ref (He.ga K "InvalidRule")) = true),
    decide (PySem.W.subIn K (.ref (He.ga K "InvalidRule")) (.type "BaseException") = some true),
    decide (PySem.W.typeIn K (.ref (He.ga K "InvalidRule")) = some (.type "type")),
    decide (PySem.W.nsIn K mainGlobals "PieceError" = some (some (.ref (He.ga K "PieceError")))),
    decide (PySem.W.subIn K (.ref (He.ga K "PieceError")) (.type "BaseException") = some true),
    decide (PySem.W.isClsIn K (He.ga K "PieceError") = true),
    decide (PySem.W.typeIn K (.ref (He.ga K "PieceError")) = some (.type "type")),
    decide (PySem.W.subIn K (.ref (He.ga K "InvalidBook")) (.ref (He.ga K "PieceError")) = some true),
    decide (PySem.W.subIn K (.ref (He.ga K "InvalidRule")) (.ref (He.ga K "PieceError")) = some true),
    decide (PySem.W.kitOne K (.ref (He.ga K "InvalidBook")) (.ref (He.ga K "InvalidBook")) = some true),
    decide (PySem.W.kitOne K (.ref (He.ga K "InvalidRule")) (.ref (He.ga K "InvalidBook")) = some false),
    decide (PySem.W.nsIn K mainGlobals "InvalidNumber" = some (some (.ref (He.ga K "InvalidNumber")))),
    decide (PySem.W.kitOne K (.ref (He.ga K "InvalidBook")) (.ref (He.ga K "InvalidNumber")) = some false),
    decide (PySem.W.kitOne K (.ref (He.ga K "InvalidRule")) (.ref (He.ga K "InvalidNumber")) = some false),
    decide (PySem.W.nsIn K mainGlobals "InvalidPiece" = some (some (.ref (He.ga K "InvalidPiece")))),
    decide (PySem.W.kitOne K (.ref (He.ga K "InvalidBook")) (.ref (He.ga K "InvalidPiece")) = some false),
    decide (PySem.W.kitOne K (.ref (He.ga K "InvalidRule")) (.ref (He.ga K "InvalidPiece")) = some false),
    decide (PySem.W.nsIn K mainGlobals "InvalidQuestion" = some (some (.ref (He.ga K "InvalidQuestion")))),
    decide (PySem.W.kitOne K (.ref (He.ga K "InvalidBook")) (.ref (He.ga K "InvalidQuestion")) = some false),
    decide (PySem.W.kitOne K (.ref (He.ga K "InvalidRule")) (.ref (He.ga K "InvalidQuestion")) = some false),
    decide (PySem.W.nsIn K mainGlobals "InvalidRow" = some (some (.ref (He.ga K "InvalidRow")))),
    decide (PySem.W.kitOne K (.ref (He.ga K "InvalidBook")) (.ref (He.ga K "InvalidRow")) = some false),
    decide (PySem.W.kitOne K (.ref (He.ga K "InvalidRule")) (.ref (He.ga K "InvalidRow")) = some false),
    decide (PySem.W.kitOne K (.ref (He.ga K "InvalidBook")) (.ref (He.ga K "InvalidRule")) = some false),
    decide (PySem.W.kitOne K (.ref (He.ga K "InvalidRule")) (.ref (He.ga K "InvalidRule")) = some true),
    decide (PySem.W.nsIn K mainGlobals "TooMany" = some (some (.ref (He.ga K "TooMany")))),
    decide (PySem.W.kitOne K (.ref (He.ga K "InvalidBook")) (.ref (He.ga K "TooMany")) = some false)]
def chk8 (K : PySem.W.Frag) : List Bool := [decide (PySem.W.kitOne K (.ref (He.ga K "InvalidRule")) (.ref (He.ga K "TooMany")) = some false),
    decide (PySem.W.nsIn K mainGlobals "UnknownPiece" = some (some (.ref (He.ga K "UnknownPiece")))),
    decide (PySem.W.kitOne K (.ref (He.ga K "InvalidBook")) (.ref (He.ga K "UnknownPiece")) = some false),
    decide (PySem.W.kitOne K (.ref (He.ga K "InvalidRule")) (.ref (He.ga K "UnknownPiece")) = some false),
    decide (PySem.W.nsIn K mainGlobals "UnknownRule" = some (some (.ref (He.ga K "UnknownRule")))),
    decide (PySem.W.kitOne K (.ref (He.ga K "InvalidBook")) (.ref (He.ga K "UnknownRule")) = some false),
    decide (PySem.W.kitOne K (.ref (He.ga K "InvalidRule")) (.ref (He.ga K "UnknownRule")) = some false),
    decide (PySem.W.nsIn K mainGlobals "UnlikeBooks" = some (some (.ref (He.ga K "UnlikeBooks")))),
    decide (PySem.W.kitOne K (.ref (He.ga K "InvalidBook")) (.ref (He.ga K "UnlikeBooks")) = some false),
    decide (PySem.W.kitOne K (.ref (He.ga K "InvalidRule")) (.ref (He.ga K "UnlikeBooks")) = some false),
    decide (PySem.W.nsIn K mainGlobals "ValueError" = some none),
    decide (PySem.W.kitOne K (.ref (He.ga K "InvalidBook")) (.type "ValueError") = some true),
    decide (PySem.W.kitOne K (.ref (He.ga K "InvalidRule")) (.type "ValueError") = some true),
    decide (PySem.W.findIn K (.ref (He.ga K "InvalidBook")) "__getattribute__" = some (some (.builtin "BaseException.__getattribute__"))),
    decide (PySem.W.findIn K (.ref (He.ga K "InvalidBook")) "__getattr__" = some none),
    decide (PySem.W.hasDictIn K (He.ga K "InvalidBook") = true),
    decide (PySem.W.findIn K (.ref (He.ga K "InvalidBook")) "__class__" = some (some (.builtin "object.__class__"))),
    decide (PySem.W.mroIn K (He.ga K "InvalidBook") (.type "object") = some true),
    decide (PySem.W.findIn K (.ref (He.ga K "InvalidRule")) "__getattribute__" = some (some (.builtin "BaseException.__getattribute__"))),
    decide (PySem.W.findIn K (.ref (He.ga K "InvalidRule")) "__getattr__" = some none),
    decide (PySem.W.hasDictIn K (He.ga K "InvalidRule") = true),
    decide (PySem.W.findIn K (.ref (He.ga K "InvalidRule")) "__class__" = some (some (.builtin "object.__class__"))),
    decide (PySem.W.mroIn K (He.ga K "InvalidRule") (.type "object") = some true),
    decide (PySem.W.specialIn K (.builtin "object.__class__") "__get__" = some (some (.builtin "getset_descriptor.__get__"))),
    decide (PySem.W.takesIn K (.builtin "object.__class__") = some true)]
def fns0 (K : PySem.W.Frag) : List VE.FnVw := [VE.fnAt K (He.ma K (He.ga K "InvalidRule") "__init__"), VE.fnAt K (He.ma K (He.ga K "InvalidBook") "__init__"), VE.fnAt K (He.ga K "is_number"), VE.fnAt K (He.ga K "is_word"), VE.fnAt K (He.ga K "ascend"), VE.fnAt K (VE.prF K (He.ma K (He.ga K "Rule") "piece")), VE.fnAt K (VE.prF K (He.ma K (He.ga K "Rule") "low")), VE.fnAt K (VE.prF K (He.ma K (He.ga K "Rule") "high")), VE.fnAt K (VE.prF K (He.ma K (He.ga K "Rule") "modulus")), VE.fnAt K (VE.prF K (He.ma K (He.ga K "Rule") "rests")), VE.fnAt K (VE.prF K (He.ma K (He.ga K "Rule") "kinds")), VE.fnAt K (He.ma K (He.ga K "Rule") "__eq__"), VE.fnAt K (VE.prF K (He.ma K (He.ga K "Book") "kinds")), VE.fnAt K (VE.prF K (He.ma K (He.ga K "Book") "rules")), VE.fnAt K (He.ga K "_law_taken"), VE.fnAt K (He.ga K "are_kinds"), VE.fnAt K (He.ga K "are_rests"), VE.fnAt K (He.ga K "_law_pick"), VE.fnAt K (He.ga K "_law_kinds"), VE.fnAt K (He.ma K (He.ga K "Rule") "__init__"), VE.fnAt K (He.ga K "check_kinds"), VE.fnAt K (VE.prF K (He.ma K (He.ga K "Book") "pieces")), VE.fnAt K (He.ma K (He.ga K "Book") "__len__"), VE.fnAt K (He.ga K "_law_some"), VE.fnAt K (He.ma K (He.ga K "Book") "__init__"), VE.fnAt K (He.ga K "_law_rule"), VE.fnAt K (He.ma K (He.ga K "Book") "__eq__"), VE.fnAt K (He.ga K "_law_book"), VE.fnAt K (He.ga K "_law_is_told"), VE.fnAt K (He.ga K "_law_raised")]
def fnv0 : List VE.FnVw := [VE.fnW "__init__" "InvalidRule.__init__" s_InvalidRule_init, VE.fnW "__init__" "InvalidBook.__init__" s_InvalidBook_init, VE.fnW "is_number" "is_number" s_is_number, VE.fnW "is_word" "is_word" s_is_word, VE.fnW "ascend" "ascend" s_ascend, VE.fnW "piece" "Rule.piece" s_Rule_piece, VE.fnW "low" "Rule.low" s_Rule_low, VE.fnW "high" "Rule.high" s_Rule_high, VE.fnW "modulus" "Rule.modulus" s_Rule_modulus, VE.fnW "rests" "Rule.rests" s_Rule_rests, VE.fnW "kinds" "Rule.kinds" s_Rule_kinds, VE.fnW "__eq__" "Rule.__eq__" s_Rule_eq, VE.fnW "kinds" "Book.kinds" s_Book_kinds, VE.fnW "rules" "Book.rules" s_Book_rules, VE.fnW "_law_taken" "_law_taken" s_law_taken, VE.fnW "are_kinds" "are_kinds" s_are_kinds, VE.fnW "are_rests" "are_rests" s_are_rests, VE.fnW "_law_pick" "_law_pick" s_law_pick, VE.fnW "_law_kinds" "_law_kinds" s_law_kinds, VE.fnW "__init__" "Rule.__init__" s_Rule_init, VE.fnW "check_kinds" "check_kinds" s_check_kinds, VE.fnW "pieces" "Book.pieces" s_Book_pieces, VE.fnW "__len__" "Book.__len__" s_Book_len, VE.fnW "_law_some" "_law_some" s_law_some, VE.fnW "__init__" "Book.__init__" s_Book_init, VE.fnW "_law_rule" "_law_rule" s_law_rule, VE.fnW "__eq__" "Book.__eq__" s_Book_eq, VE.fnW "_law_book" "_law_book" s_law_book, VE.fnW "_law_is_told" "_law_is_told" s_law_is_told, VE.fnW "_law_raised" "_law_raised" s_law_raised]
def fns1 (K : PySem.W.Frag) : List VE.FnVw := [VE.fnAt K (He.ga K "law")]
def fnv1 : List VE.FnVw := [VE.fnW "law" "law" s_law]
def nam0 : List PySem.Str := ["__name__", "PieceError", "InvalidRule", "InvalidBook", "InvalidRow", "UnknownPiece", "InvalidNumber", "InvalidQuestion", "UnlikeBooks", "InvalidPiece", "TooMany", "UnknownRule", "LETTERS", "MAX_WORD", "LAST", "MODULI", "MAX_KINDS", "MAX_RULES", "is_number", "is_word", "ascend", "are_kinds", "are_rests", "Rule", "check_kinds", "Book", "_law_taken", "_law_pick", "_law_kinds", "_law_some"]
def nam1 : List PySem.Str := ["_law_rule", "_law_book", "_law_raised", "_law_is_told"]
def hdD : VE.HdD where
  as := List.range 1500
  chk := fun K => (chk0 K).all id && ((chk1 K).all id && ((chk2 K).all id && ((chk3 K).all id && ((chk4 K).all id && ((chk5 K).all id && ((chk6 K).all id && ((chk7 K).all id && ((chk8 K).all id))))))))
  fns := fun K => fns0 K ++ (fns1 K)
  fnv := fnv0 ++ (fnv1)
  dic := fun K => []
  dicv := fun P => []
  tabs := fun K => [(VE.tabOf K (VE.cdOf K (He.ga K "law")))]
abbrev hR : PySem.W.OpenRow := PySem.W.OpenLaw.row PySem.Challenge.rw_ruledpieces_k01_rules_and_books_validate
abbrev hq : Program := PySem.W.view hR.prog [36]
def nams : List PySem.Str := nam0 ++ (nam1)
theorem hrun_false (w : World) : HandSHeadRun.RunEq hR hq hdD.hook hdD.ob 40000 nams (w.withFollow "special-get-raises" false) := by
  intro os
  kernel_rfl
theorem hrun_true (w : World) : HandSHeadRun.RunEq hR hq hdD.hook hdD.ob 40000 nams (w.withFollow "special-get-raises" true) := by
  intro os
  kernel_rfl
theorem hrun (w : World) : HandSHeadRun.RunEq hR hq hdD.hook hdD.ob 40000 nams w := PySem.W.byRow2 "special-get-raises" (P := fun w => HandSHeadRun.RunEq hR hq hdD.hook hdD.ob 40000 nams w) hrun_false hrun_true w
end VP
namespace VE
open PySem PySem.Spec PyProof.Rows L2
/-- a lambda, an inner def: its names, its text; fr: what it captures, in order -/
structure LamCode where
  name : Str
  qual : Str
  params : Arguments
  body : FuncBody
  scope : Scope
  ps : List Str
  fr : List Str
/-- the tables of code objects, the texts of all lambdas and inner defs, by number -/
class VEnv where
  T : List (Addr × Str)
  code : Nat → LamCode
  pw : Option (Program × World) := none
/-- for a law without lambdas -/
@[reducible] def VEnv.dummy : VEnv := ⟨[], fun _ => ⟨"", "", ⟨[], [], none, [], [], none, []⟩, .stmts [], default, [], []⟩, none⟩
/-- a function as a value: of the module, by its name; a lambda or inner def, by its number, with the cells of the frame that made it -/
inductive Clo where
  | glb (x : Str)
  | lam (id : Nat) (cells : List (Str × Addr))
  | lamD (i : Nat) (cells : List (Str × Addr)) (z : Int)
  deriving Inhabited
/-- pure data that a value stands for -/
inductive D where
  | non
  | bl (b : Bool)
  | int (i : Int)
  | str (x : Str)
  | lst (xs : List D)
  | tup (xs : List D)
  | scr (xs : List Int)
  | ino (c : Str) (ns : List Str) (xs : List D)
  | obj (c : Str) (xs : List D)
  | ref (n : Nat)
  | fn (x : Clo)
  deriving Inhabited

/-- an exception: its class's name, its attributes -/
structure Exn where
  cls : Str
  fs : List (Str × D)
/-- an exception that a suite handles: where it is, its class, its dict -/
structure XI where
  a : Addr
  cls : Value
  d : Option Addr
/-- a slot: nothing known; a value; a list or dict that this slot alone holds; the exception that is handled -/
inductive Sl where
  | no
  | va (d : D)
  | ow (d : D)
  | gh (cells : List (Str × Addr)) (vals : List (Str × D))
  | xc (xi : XI) (x : Exn)
/-- an object that may be changed: a list, an instance with its attributes -/
inductive Cell where
  | lst (xs : List D)
  | ins (c : Str) (fs : List (Str × D))
  | slo (c : Str) (ds : List D)
  | slp (c : Str) (ix : List Nat) (ds : List D)
  | dct (kvs : List (L2.Key × D))
  | dcT (kvs : List (List L2.Key × D))
  | dcN (kvs : List (Option L2.Key × D))
  | lcT (kvs : List (List L2.Key × D))
  | lcN (kvs : List (Option L2.Key × D))
/-- a dict that is walked: it is locked -/
def Cell.lck : Cell → Bool
  | .lcT _ => true
  | .lcN _ => true
  | _ => false
abbrev EnvD := List Sl
abbrev Sto := List Cell
inductive R (α : Type) where
  | ok (a : α) (e : EnvD) (st : Sto)
  | ex (x : Exn) (e : EnvD) (st : Sto)
  | bad
@[reducible] def M (α : Type) := EnvD → Sto → R α
def R.bind {α β : Type} (r : R α) (k : α → M β) : R β := match r with
  | .ok a e st => k a e st
  | .ex x e st => .ex x e st
  | .bad => .bad
@[simp] theorem R.bind_ok {α β : Type} (a : α) (e : EnvD) (st : Sto) (k : α → M β) : (R.ok a e st).bind k = k a e st := rfl
@[simp] theorem R.bind_ex {α β : Type} (x : Exn) (e : EnvD) (st : Sto) (k : α → M β) : (R.ex x e st).bind k = .ex x e st := rfl
@[simp] theorem R.bind_bad {α β : Type} (k : α → M β) : (R.bad : R α).bind k = .bad := rfl

/-- an instance with slots at x, its own dict, which is empty, at dx -/
def SlAt (H : Hp) (x C dx : Addr) (vs : List (Option V)) : Prop := H dx = some (.frz PySem.W.emptyDict (.own x)) ∧ dx ≠ x ∧ H x = some (L2.SlO C dx x vs)
theorem SlAt.here {H : Hp} {x C dx : Addr} {vs ws : List (Option V)} (h : SlAt H x C dx vs) : SlAt (upd H x (L2.SlO C dx x ws)) x C dx ws :=
  ⟨by rw [upd_ne h.2.1]; exact h.1, h.2.1, upd_same⟩
theorem SlAt.made {H : Hp} {x C dx : Addr} (h : dx ≠ x) : SlAt (upd (upd H dx (.frz PySem.W.emptyDict (.own x))) x (L2.SlO C dx x [])) x C dx [] :=
  ⟨by rw [upd_ne h]; exact upd_same, h, upd_same⟩
/-- slots that are filled in the order ix -/
def fillS (ix : List Nat) (vs : List V) : List (Option V) := (ix.zip vs).foldl (fun o p => L2.putS p.1 p.2 o) []
/-- the function object of a lambda or inner def -/
def FnL (f : Addr) (L : LamCode) (cells : List (Str × Addr)) (c' : Addr) : HO := .ext fun h => ∃ (od : Option Addr) (sl : Array (Option Value)) (doc pm ctv : Value),
  h.get? f = some (⟨.type "function", od, .func { name := L.name, qualname := L.qual, params := L.params, body := L.body, scope := L.scope, globals := mainGlobals, closure := cloFrom cells L.scope.names [], defaults := .none, kwdefaults := .none, doc, pyModule := pm, annotations := none, code := .ref c', closureTuple := ctv, builtins := builtinsNs }, sl⟩ : Obj)
/-- .. of a lambda whose one parameter has a default, the tuple at q -/
def FnLD (f : Addr) (L : LamCode) (cells : List (Str × Addr)) (c' q : Addr) : HO := .ext fun h => ∃ (od : Option Addr) (sl : Array (Option Value)) (doc pm ctv : Value),
  h.get? f = some (⟨.type "function", od, .func { name := L.name, qualname := L.qual, params := L.params, body := L.body, scope := L.scope, globals := mainGlobals, closure := cloFrom cells L.scope.names [], defaults := .ref q, kwdefaults := .none, doc, pyModule := pm, annotations := none, code := .ref c', closureTuple := ctv, builtins := builtinsNs }, sl⟩ : Obj)
/-- a known cell of a frame that waits -/
def cellT : HO := .ext fun _ => True
def CelO (o : Obj) : HO := .frz o cellT
section
variable [VEnv]
variable (K : PySem.W.Frag) (mg : Str → Option Value)
def FqL (F : Addr → Prop) (H : Hp) (a : Addr) (xs : List V) : Prop :=
  (F a ∧ Rd H a (.lst xs)) ∨ ∃ (o : Obj) (its : Array Value) (n : Nat), K.lookup a = some o ∧ o.cls = .type "list" ∧ o.dict = none ∧ o.data = .seq its n ∧ its.size ≤ sizeLine ∧ Vals xs its.toList
def FqT (F : Addr → Prop) (H : Hp) (a : Addr) (xs : List V) : Prop :=
  (F a ∧ H a = some (.tup xs)) ∨ ∃ (o : Obj) (its : Array Value) (n : Nat), K.lookup a = some o ∧ o.cls = .type "tuple" ∧ o.data = .seq its n ∧ its.size ≤ sizeLine ∧ Vals xs its.toList
mutual
inductive Rp (F : Addr → Prop) (c : List Addr) (H : Hp) : V → D → Prop
  | non : Rp F c H .non .non
  | bl (b : Bool) : Rp F c H (.bl b) (.bl b)
  | int (i : Int) : Rp F c H (.int i) (.int i)
  | str (x : Str) : Rp F c H (.str x) (.str x)
  | lst {a : Addr} {xs : List V} {ds : List D} : F a → H a = some (.lst xs) → Rps F c H xs ds → Rp F c H (.ref a) (.lst ds)
  | scr {a : Addr} {ns : List Int} : FqL K F H a (ns.map V.int) → Rp F c H (.ref a) (.scr ns)
  | tup {a : Addr} {xs : List V} {ds : List D} : FqT K F H a xs → Rps F c H xs ds → Rp F c H (.ref a) (.tup ds)
  | obj {a C dx : Addr} {n : Str} {xs : List V} {ds : List D} : mg n = some (.ref C) → F a → SlAt H a C dx (xs.map some) → Rps F c H xs ds → Rp F c H (.ref a) (.obj n ds)
  | ino {a C dx : Addr} {n : Str} {vfs : List (Str × V)} {ns : List Str} {ds : List D} : mg n = some (.ref C) → F a → H a = some (.ins C dx vfs) → vfs.map (·.1) = ns → Rps F c H (vfs.map (·.2)) ds → Rp F c H (.ref a) (.ino n ns ds)
  | ref {a : Addr} {n : Nat} : c[n]? = some a → Rp F c H (.ref a) (.ref n)
  | glb {x : Str} {f : Addr} : mg x = some (.ref f) → Rp F c H (.ref f) (.fn (.glb x))
  | lam {f c' : Addr} {i : Nat} {cells : List (Str × Addr)} : F f → H f = some (FnL f (VEnv.code i) cells c') → F c' → H c' = some (LamX.CodeO c' (VEnv.code i).qual) → (∀ y ∈ (VEnv.code i).scope.names, y.2 = .free → ∃ a, cells.lookup y.1 = some a) → Rp F c H (.ref f) (.fn (.lam i cells))
  | lamD {f c' q : Addr} {i : Nat} {cells : List (Str × Addr)} {z : Int} : F f → H f = some (FnLD f (VEnv.code i) cells c' q) → F c' → H c' = some (LamX.CodeO c' (VEnv.code i).qual) → (∀ y ∈ (VEnv.code i).scope.names, y.2 = .free → ∃ a, cells.lookup y.1 = some a) → F q → H q = some (.tup [.int z]) → (VEnv.code i).params.defaults ≠ [] → Rp F c H (.ref f) (.fn (.lamD i cells z))
inductive Rps (F : Addr → Prop) (c : List Addr) (H : Hp) : List V → List D → Prop
  | nil : Rps F c H [] []
  | cons {v : V} {vs : List V} {d : D} {ds : List D} : Rp F c H v d → Rps F c H vs ds → Rps F c H (v :: vs) (d :: ds)
end
end
/-- what stood there stands there still; a table of code objects may have grown -/
def Kept (H' : Hp) (a : Addr) (o : HO) : Prop := H' a = some o ∨ ((∃ ps, o = .tbl ps) ∧ ∃ ps', H' a = some (.tbl ps'))
theorem Kept.there {H' : Hp} {a : Addr} {o : HO} (k : Kept H' a o) : ∃ o', H' a = some o' := k.elim (fun h => ⟨_, h⟩) fun ⟨_, _, h⟩ => ⟨_, h⟩
theorem Kept.same {H' : Hp} {a : Addr} {o : HO} (k : Kept H' a o) (n : ∀ ps, o ≠ .tbl ps) : H' a = some o := k.elim id fun ⟨⟨ps, e⟩, _⟩ => absurd e (n ps)
theorem Kept.up {H H' : Hp} {a : Addr} {o : HO} (k : Kept H a o) (h : ∀ o, H a = some o → Kept H' a o) : Kept H' a o := by
  rcases k with k | ⟨⟨ps, e⟩, ps', k⟩
  · exact h o k
  · refine .inr ⟨⟨ps, e⟩, ?_⟩
    rcases h _ k with q | ⟨_, q⟩
    · exact ⟨_, q⟩
    · exact q
/-- what is frozen stays -/
structure Stp (F : Addr → Prop) (c : List Addr) (H : Hp) (F' : Addr → Prop) (c' : List Addr) (H' : Hp) : Prop where
  inc : ∀ a, F a → F' a
  keep : ∀ a o, F a → H a = some o → H' a = some o
  cs : ∃ l, c' = c ++ l
  own : ∀ d x, H d = some (.own x) → H' d = some (.own x)
  lck : ∀ d o u, H d = some (.frz o u) → H' d = some (.frz o u)
section
variable [VEnv]
variable {K : PySem.W.Frag} {mg : Str → Option Value} {F F' F2 : Addr → Prop} {c c' c2 : List Addr} {H H' H2 : Hp}
theorem Stp.refl : Stp F c H F c H := ⟨fun _ h => h, fun _ _ _ h => h, ⟨[], (List.append_nil c).symm⟩, fun _ _ h => h, fun _ _ _ h => h⟩
theorem Stp.trans (s : Stp F c H F' c' H') (t : Stp F' c' H' F2 c2 H2) : Stp F c H F2 c2 H2 := by
  obtain ⟨l, e⟩ := s.cs
  obtain ⟨l', e'⟩ := t.cs
  exact ⟨fun a h => t.inc a (s.inc a h), fun a o h e => t.keep a o (s.inc a h) (s.keep a o h e), ⟨l ++ l', by rw [e', e, List.append_assoc]⟩, fun d x h => t.own d x (s.own d x h), fun d o u h => t.lck d o u (s.lck d o u h)⟩
theorem FqL.stp {a : Addr} {xs : List V} (h : FqL K F H a xs) (s : Stp F c H F' c' H') : FqL K F' H' a xs := by
  rcases h with ⟨f, h | ⟨o, h⟩⟩ | h
  · exact .inl ⟨s.inc a f, .inl (s.keep a _ f h)⟩
  · exact .inl ⟨s.inc a f, .inr ⟨o, s.keep a _ f h⟩⟩
  · exact .inr h
theorem FqL.sq {a : Addr} {xs : List V} (h : FqL K F H a xs) : SqL K H a xs := h.elim (fun h => .inl h.2) .inr
theorem FqT.stp {a : Addr} {xs : List V} (h : FqT K F H a xs) (s : Stp F c H F' c' H') : FqT K F' H' a xs := by
  rcases h with ⟨f, h⟩ | h
  · exact .inl ⟨s.inc a f, s.keep a _ f h⟩
  · exact .inr h
theorem FqT.sq {a : Addr} {xs : List V} (h : FqT K F H a xs) : SqT K H a xs := h.elim (fun h => .inl (.inl h.2)) .inr
theorem slAt_stp {a C dx : Addr} {vs : List (Option V)} (s : Stp F c H F' c' H') (f : F a) (h : SlAt H a C dx vs) : SlAt H' a C dx vs :=
  ⟨s.lck _ _ _ h.1, h.2.1, s.keep _ _ f h.2.2⟩
mutual
theorem Rp.stp (s : Stp F c H F' c' H') : ∀ {v : V} {d : D}, Rp K mg F c H v d → Rp K mg F' c' H' v d
  | _, _, .non => .non
  | _, _, .bl b => .bl b
  | _, _, .int i => .int i
  | _, _, .str x => .str x
  | _, _, .lst f h r => .lst (s.inc _ f) (s.keep _ _ f h) (Rps.stp s r)
  | _, _, .scr h => .scr (h.stp s)
  | _, _, .tup h r => .tup (h.stp s) (Rps.stp s r)
  | _, _, .obj m f h r => .obj m (s.inc _ f) (slAt_stp s f h) (Rps.stp s r)
  | _, _, .ino m f h e r => .ino m (s.inc _ f) (s.keep _ _ f h) e (Rps.stp s r)
  | _, _, .ref h => .ref (by
      obtain ⟨l, e⟩ := s.cs
      rw [e, List.getElem?_append_left]
      · exact h
      · exact (List.getElem?_eq_some_iff.mp h).1)
  | _, _, .glb h => .glb h
  | _, _, .lam f h g k z => .lam (s.inc _ f) (s.keep _ _ f h) (s.inc _ g) (s.keep _ _ g k) z
  | _, _, .lamD f h g k z t u w => .lamD (s.inc _ f) (s.keep _ _ f h) (s.inc _ g) (s.keep _ _ g k) z (s.inc _ t) (s.keep _ _ t u) w
theorem Rps.stp (s : Stp F c H F' c' H') : ∀ {vs : List V} {ds : List D}, Rps K mg F c H vs ds → Rps K mg F' c' H' vs ds
  | _, _, .nil => .nil
  | _, _, .cons h r => .cons (Rp.stp s h) (Rps.stp s r)
end
theorem Rps.length : ∀ {vs : List V} {ds : List D}, Rps K mg F c H vs ds → vs.length = ds.length
  | _, _, .nil => rfl
  | _, _, .cons _ r => by rw [List.length_cons, List.length_cons, Rps.length r]
theorem Rps.append : ∀ {vs : List V} {ds : List D} {ws : List V} {es : List D}, Rps K mg F c H vs ds → Rps K mg F c H ws es → Rps K mg F c H (vs ++ ws) (ds ++ es)
  | _, _, _, _, .nil, h => h
  | _, _, _, _, .cons h r, q => .cons h (Rps.append r q)
theorem Rps.get : ∀ {vs : List V} {ds : List D} {i : Nat} {v : V}, Rps K mg F c H vs ds → vs[i]? = some v → ∃ d, ds[i]? = some d ∧ Rp K mg F c H v d
  | _, _, _, _, .nil, e => by simp at e
  | _, _, 0, _, .cons h _, e => by simp at e; subst e; exact ⟨_, rfl, h⟩
  | _, _, i + 1, v, .cons _ r, e => by
    obtain ⟨d, h1, h2⟩ := Rps.get (i := i) (v := v) r (by simpa using e)
    exact ⟨d, by simpa using h1, h2⟩
theorem Rps.get' : ∀ {vs : List V} {ds : List D} {i : Nat} {d : D}, Rps K mg F c H vs ds → ds[i]? = some d → ∃ v, vs[i]? = some v ∧ Rp K mg F c H v d
  | _, _, _, _, .nil, e => by simp at e
  | _, _, 0, _, .cons h _, e => by simp at e; subst e; exact ⟨_, rfl, h⟩
  | _, _, i + 1, d, .cons _ r, e => by
    obtain ⟨v, h1, h2⟩ := Rps.get' (i := i) (d := d) r (by simpa using e)
    exact ⟨v, by simpa using h1, h2⟩
theorem Rps.take : ∀ {vs : List V} {ds : List D} (n : Nat), Rps K mg F c H vs ds → Rps K mg F c H (vs.take n) (ds.take n)
  | _, _, 0, _ => .nil
  | _, _, _ + 1, .nil => .nil
  | _, _, n + 1, .cons h r => .cons h (Rps.take n r)
theorem Rps.drop : ∀ {vs : List V} {ds : List D} (n : Nat), Rps K mg F c H vs ds → Rps K mg F c H (vs.drop n) (ds.drop n)
  | _, _, 0, r => r
  | _, _, _ + 1, .nil => .nil
  | _, _, n + 1, .cons _ r => Rps.drop n r
theorem Rps.set {x : V} {d : D} (r : Rp K mg F c H x d) : ∀ {vs : List V} {ds : List D} (i : Nat), Rps K mg F c H vs ds → Rps K mg F c H (vs.set i x) (ds.set i d)
  | _, _, _, .nil => .nil
  | _, _, 0, .cons _ t => .cons r t
  | _, _, i + 1, .cons q t => .cons q (Rps.set r i t)
theorem Rps.reverse : ∀ {vs : List V} {ds : List D}, Rps K mg F c H vs ds → Rps K mg F c H vs.reverse ds.reverse
  | _, _, .nil => .nil
  | _, _, .cons h r => by
    rw [List.reverse_cons, List.reverse_cons]
    exact Rps.append (Rps.reverse r) (.cons h .nil)
end
/-- the fixed things of a def's run: the written part, the module's names, the heap, the frozen and the changeable objects at its entry -/
structure Bs where
  K : PySem.W.Frag
  mg : Str → Option Value
  H0 : Hp
  F0 : Addr → Prop
  c0 : List Addr

section
variable [VEnv]
def OwnAt (K : PySem.W.Frag) (mg : Str → Option Value) (F : Addr → Prop) (c : List Addr) (H : Hp) (a : Addr) : D → Prop
  | .lst ds => ∃ vs, H a = some (.lst vs) ∧ Rps K mg F c H vs ds
  | _ => False
/-- a dict among whose keys None may be -/
def NoneD (P : Program) (w : World) (a : Addr) (vk : List (Option L2.Key × V)) (h : Heap) : Prop := vk.length ≤ sizeLine ∧ (a == sysModules) = false ∧ ∃ vs : List (Option L2.Key × Value), L2.KV vk vs ∧ h.DictOf (L2.noneKind P w) a vs
/-- a dict whose keys are tuples: its entries -/
def TupD (P : Program) (w : World) (a : Addr) (ks : List (List L2.Key × Addr)) (vs : List V) (h : Heap) : Prop := ks.length ≤ sizeLine ∧ (a == sysModules) = false ∧ (ks.map (·.1)).Nodup ∧
  ∃ xs : List (List L2.Key × Addr × Value), xs.map (fun x => (x.1, x.2.1)) = ks ∧ Vals vs (xs.map (·.2.2)) ∧ ∃ o es ep, h.get? a = some o ∧ o.ExactDict ∧ o.data = .dict es ep ∧ es.toList = xs.map (entryOfKey (tupleKind (L2.mixKind P w)))
def dTO (P : Program) (w : World) (a : Addr) (ks : List (List L2.Key × Addr)) (vs : List V) : HO := .ext (TupD P w a ks vs)
def dNO (P : Program) (w : World) (a : Addr) (vk : List (Option L2.Key × V)) : HO := .ext (NoneD P w a vk)
def CellOk (K : PySem.W.Frag) (mg : Str → Option Value) (F : Addr → Prop) (c : List Addr) (H : Hp) (a : Addr) : Cell → Prop
  | .lst ds => ∃ vs, H a = some (.lst vs) ∧ Rps K mg F c H vs ds
  | .ins n fs => ∃ C dx vfs, mg n = some (.ref C) ∧ H a = some (.ins C dx vfs) ∧ vfs.map (·.1) = fs.map (·.1) ∧ Rps K mg F c H (vfs.map (·.2)) (fs.map (·.2))
  | .slo n ds => ∃ C dx vs, mg n = some (.ref C) ∧ SlAt H a C dx (vs.map some) ∧ Rps K mg F c H vs ds
  | .slp n ix ds => ∃ C dx vs, mg n = some (.ref C) ∧ SlAt H a C dx (fillS ix vs) ∧ Rps K mg F c H vs ds
  | .dct kvs => ∃ vk : List (L2.Key × V), H a = some (.dK vk) ∧ vk.map (·.1) = kvs.map (·.1) ∧ Rps K mg F c H (vk.map (·.2)) (kvs.map (·.2))
  | .dcT kvs => ∃ (P : Program) (w : World) (ks : List (List L2.Key × Addr)) (vs : List V), VEnv.pw = some (P, w) ∧ H a = some (dTO P w a ks vs) ∧ ks.map (·.1) = kvs.map (·.1) ∧ Rps K mg F c H vs (kvs.map (·.2)) ∧ ∀ x ∈ ks, FqT K F H x.2 (x.1.map L2.kV)
  | .dcN kvs => ∃ (P : Program) (w : World) (vk : List (Option L2.Key × V)), VEnv.pw = some (P, w) ∧ H a = some (dNO P w a vk) ∧ vk.map (·.1) = kvs.map (·.1) ∧ Rps K mg F c H (vk.map (·.2)) (kvs.map (·.2))
  | .lcT kvs => ∃ (P : Program) (w : World) (ks : List (List L2.Key × Addr)) (vs : List V) (od : Obj), VEnv.pw = some (P, w) ∧ H a = some (.frz od (dTO P w a ks vs)) ∧ ks.map (·.1) = kvs.map (·.1) ∧ Rps K mg F c H vs (kvs.map (·.2)) ∧ ∀ x ∈ ks, FqT K F H x.2 (x.1.map L2.kV)
  | .lcN kvs => ∃ (P : Program) (w : World) (vk : List (Option L2.Key × V)) (od : Obj), VEnv.pw = some (P, w) ∧ H a = some (.frz od (dNO P w a vk)) ∧ vk.map (·.1) = kvs.map (·.1) ∧ Rps K mg F c H (vk.map (·.2)) (kvs.map (·.2))
/-- no dict of an instance's own: such stay as they are -/
def NotOwn (o : HO) : Prop := ∀ x, o ≠ .own x
theorem CellOk.notOwn {K : PySem.W.Frag} {mg : Str → Option Value} {F : Addr → Prop} {c : List Addr} {H : Hp} {a : Addr} {x : Cell} (h : CellOk K mg F c H a x) : ∃ o, H a = some o ∧ NotOwn o := by
  cases x with
  | lst ds => obtain ⟨vs, h, _⟩ := h; exact ⟨_, h, fun x z => by cases z⟩
  | ins n fs => obtain ⟨_, _, _, _, h, _⟩ := h; exact ⟨_, h, fun x z => by cases z⟩
  | slo n ds =>
    obtain ⟨C, dx, vs, _, ⟨_, _, h⟩, _⟩ := h
    exact ⟨_, h, fun x z => by cases z⟩
  | slp n ix ds =>
    obtain ⟨C, dx, vs, _, ⟨_, _, h⟩, _⟩ := h
    exact ⟨_, h, fun x z => by cases z⟩
  | dct kvs => obtain ⟨vk, h, _⟩ := h; exact ⟨_, h, fun x z => by cases z⟩
  | dcT kvs => obtain ⟨_, _, _, vk, _, h, _⟩ := h; exact ⟨_, h, fun x z => by cases z⟩
  | dcN kvs => obtain ⟨_, _, vk, _, h, _⟩ := h; exact ⟨_, h, fun x z => by cases z⟩
  | lcT kvs => obtain ⟨_, _, _, vk, _, _, h, _⟩ := h; exact ⟨_, h, fun x z => by cases z⟩
  | lcN kvs => obtain ⟨_, _, vk, _, _, h, _⟩ := h; exact ⟨_, h, fun x z => by cases z⟩
/-- what is not locked -/
theorem CellOk.notFrz {K : PySem.W.Frag} {mg : Str → Option Value} {F : Addr → Prop} {c : List Addr} {H : Hp} {a : Addr} {x : Cell} (h : CellOk K mg F c H a x) (hx : x.lck = false) : ∀ o u, H a ≠ some (.frz o u) := by
  intro o u z
  cases x with
  | lst ds => obtain ⟨vs, h, _⟩ := h; rw [z] at h; cases h
  | ins n fs => obtain ⟨_, _, _, _, h, _⟩ := h; rw [z] at h; cases h
  | slo n ds =>
    obtain ⟨C, dx, vs, _, ⟨_, _, h⟩, _⟩ := h
    rw [z] at h; cases h
  | slp n ix ds =>
    obtain ⟨C, dx, vs, _, ⟨_, _, h⟩, _⟩ := h
    rw [z] at h; cases h
  | dct kvs => obtain ⟨vk, h, _⟩ := h; rw [z] at h; cases h
  | dcT kvs => obtain ⟨_, _, _, vk, _, h, _⟩ := h; rw [z] at h; cases h
  | dcN kvs => obtain ⟨_, _, vk, _, h, _⟩ := h; rw [z] at h; cases h
  | lcT kvs => cases hx
  | lcN kvs => cases hx
/-- a table of code objects; what it tells is frozen -/
def TabF (F : Addr → Prop) (c : List Addr) (H : Hp) (p : Addr × Str) : Prop := ¬ F p.1 ∧ p.1 ∉ c ∧ ∃ ps : Array Value, H p.1 = some (.tbl ps) ∧ TriplesOk ps.toList ∧ ∀ (pos : Pos) (cv : Value), codeAmong pos ps.toList = some cv → ∃ c', cv = .ref c' ∧ F c' ∧ H c' = some (LamX.CodeO c' p.2)
theorem TabF.stp {F F' : Addr → Prop} {c c' : List Addr} {H H' : Hp} {p : Addr × Str} (t : TabF F c H p) (s : Stp F c H F' c' H') (h5 : ∀ ps, H p.1 = some (.tbl ps) → H' p.1 = some (.tbl ps)) (h6 : ∀ ps, H p.1 = some (.tbl ps) → F' p.1 → F p.1) (h7 : ∀ ps, H p.1 = some (.tbl ps) → p.1 ∈ c' → p.1 ∈ c) : TabF F' c' H' p := by
  obtain ⟨t1, t2, ps, t3, t4, t5⟩ := t
  exact ⟨fun h => t1 (h6 _ t3 h), fun h => t2 (h7 _ t3 h), ps, h5 _ t3, t4, fun pos cv h => by obtain ⟨c', e, f, k⟩ := t5 pos cv h; exact ⟨c', e, s.inc _ f, s.keep _ _ f k⟩⟩
structure RelC (K : PySem.W.Frag) (mg : Str → Option Value) (F : Addr → Prop) (c : List Addr) (st : Sto) (H : Hp) : Prop where
  trk : ∀ a, F a → ∃ o, H a = some o
  len : st.length = c.length
  nd : c.Nodup
  cl : ∀ (n : Nat) (a : Addr) (x : Cell), c[n]? = some a → st[n]? = some x → CellOk K mg F c H a x
  nf : ∀ a ∈ c, ¬ F a
  tab : ∀ p ∈ VEnv.T, TabF F c H p
/-- the cells of a frame that waits; what some of them hold -/
structure GhOk (K : PySem.W.Frag) (mg : Str → Option Value) (F : Addr → Prop) (c : List Addr) (H : Hp) (cells : List (Str × Addr)) (vals : List (Str × D)) : Prop where
  cel : ∀ y a, cells.lookup y = some a → F a ∧ ∃ o v, H a = some (CelO o) ∧ o.data = .cell v
  inj : ∀ x y a, cells.lookup x = some a → cells.lookup y = some a → x = y
  val : ∀ y d, vals.lookup y = some d → ∃ a o u v, cells.lookup y = some a ∧ H a = some (CelO o) ∧ o.data = .cell (some u) ∧ L2.RelV v u ∧ Rp K mg F c H v d
/-- an exception that a suite handles; its attributes hold no cell -/
def XcOk (K : PySem.W.Frag) (mg : Str → Option Value) (F : Addr → Prop) (H : Hp) (xi : XI) (x : Exn) : Prop :=
  mg x.cls = some xi.cls ∧ ((x.fs = [] ∧ xi.d = none) ∨ ∃ d' vfs, xi.d = some d' ∧ F d' ∧ H d' = some (.xd vfs) ∧ vfs.map (·.1) = x.fs.map (·.1) ∧ Rps K mg F [] H (vfs.map (·.2)) (x.fs.map (·.2)))
theorem XcOk.stp {K : PySem.W.Frag} {mg : Str → Option Value} {F F' : Addr → Prop} {c c' : List Addr} {H H' : Hp} {xi : XI} {x : Exn} (h : XcOk K mg F H xi x) (s : Stp F c H F' c' H') : XcOk K mg F' H' xi x :=
  ⟨h.1, h.2.imp id fun ⟨d', vfs, e, f, k, m, r⟩ => ⟨d', vfs, e, s.inc _ f, s.keep _ _ f k, m, r.stp ⟨s.inc, s.keep, ⟨[], rfl⟩, s.own, s.lck⟩⟩⟩
def SlOk (b : Bs) (F : Addr → Prop) (c : List Addr) (H : Hp) (σ : L2.St) (i : Nat) : Sl → Prop
  | .no => True
  | .va d => ∃ v, σ[i]? = some (some v) ∧ Rp b.K b.mg F c H v d
  | .ow d => ∃ a, σ[i]? = some (some (.ref a)) ∧ ¬ F a ∧ a ∉ c ∧ b.H0 a = none ∧ OwnAt b.K b.mg F c H a d
  | .gh cells vals => GhOk b.K b.mg F c H cells vals
  | .xc xi x => σ[i]? = some (some (.ref xi.a)) ∧ XcOk b.K b.mg F H xi x
def OwnA (env : EnvD) (σ : L2.St) (i : Nat) (a : Addr) : Prop := ∃ d, env[i]? = some (.ow d) ∧ σ[i]? = some (some (.ref a))
theorem CellOk.notTbl {K : PySem.W.Frag} {mg : Str → Option Value} {F : Addr → Prop} {c : List Addr} {H : Hp} {a : Addr} {x : Cell} (h : CellOk K mg F c H a x) : ∀ ps, H a ≠ some (.tbl ps) := by
  intro ps z
  cases x with
  | lst ds => obtain ⟨vs, h, _⟩ := h; rw [z] at h; cases h
  | ins n fs => obtain ⟨_, _, _, _, h, _⟩ := h; rw [z] at h; cases h
  | slo n ds =>
    obtain ⟨C, dx, vs, _, ⟨_, _, h⟩, _⟩ := h
    rw [z] at h; cases h
  | slp n ix ds =>
    obtain ⟨C, dx, vs, _, ⟨_, _, h⟩, _⟩ := h
    rw [z] at h; cases h
  | dct kvs => obtain ⟨vk, h, _⟩ := h; rw [z] at h; cases h
  | dcT kvs => obtain ⟨_, _, _, vk, _, h, _⟩ := h; rw [z] at h; cases h
  | dcN kvs => obtain ⟨_, _, vk, _, h, _⟩ := h; rw [z] at h; cases h
  | lcT kvs => obtain ⟨_, _, _, vk, _, _, h, _⟩ := h; rw [z] at h; cases h
  | lcN kvs => obtain ⟨_, _, vk, _, _, h, _⟩ := h; rw [z] at h; cases h
structure Rel (b : Bs) (F : Addr → Prop) (c : List Addr) (env : EnvD) (st : Sto) (σ : L2.St) (H : Hp) : Prop where
  rc : RelC b.K b.mg F c st H
  len : env.length = σ.length
  sl : ∀ (i : Nat) (s : Sl), env[i]? = some s → SlOk b F c H σ i s
  ds : ∀ i j a, OwnA env σ i a → OwnA env σ j a → i = j
  old : ∀ a o, b.H0 a = some o → a ∉ c → Kept H a o
  new : ∀ a, F a → b.F0 a ∨ b.H0 a = none
  nwc : ∀ a ∈ c, a ∈ b.c0 ∨ b.H0 a = none
  f0 : ∀ a, b.F0 a → ∃ o, b.H0 a = some o
  k0 : ∀ a ∈ b.c0, ∃ o, b.H0 a = some o
end
section
variable [VEnv]
variable {K : PySem.W.Frag} {mg : Str → Option Value} {b : Bs} {F F' F2 : Addr → Prop} {c c' c2 : List Addr} {H H' H2 : Hp} {env : EnvD} {st : Sto} {σ : L2.St}
theorem RelC.ctrk (r : RelC K mg F c st H) {a : Addr} (h : a ∈ c) : ∃ o, H a = some o := by
  obtain ⟨n, hn⟩ := List.getElem?_of_mem h
  have hl : n < st.length := by rw [r.len]; exact (List.getElem?_eq_some_iff.mp hn).1
  have hc := r.cl n a _ hn (List.getElem?_eq_getElem hl)
  obtain ⟨o, h, _⟩ := hc.notOwn
  exact ⟨o, h⟩
/-- a slotted instance's cell, where neither it nor its dict changed -/
theorem slAt_keep {a C dx : Addr} {vs : List (Option V)} (h : SlAt H a C dx vs) (h1 : H' a = H a) (h2 : ∀ d o u, H d = some (.frz o u) → H' d = some (.frz o u)) : SlAt H' a C dx vs := ⟨h2 _ _ _ h.1, h.2.1, by rw [h1]; exact h.2.2⟩
theorem Rel.own (r : Rel b F c env st σ H) {i : Nat} {a : Addr} (h : OwnA env σ i a) : ¬ F a ∧ a ∉ c ∧ b.H0 a = none ∧ ∃ o, H a = some o := by
  obtain ⟨d, he, hs⟩ := h
  obtain ⟨a', e', h1, h2, h3, h4⟩ := r.sl i _ he
  rw [hs] at e'; cases e'
  refine ⟨h1, h2, h3, ?_⟩
  cases d with
  | lst ds => obtain ⟨vs, h, _⟩ := h4; exact ⟨_, h⟩
  | _ => exact h4.elim
/-- an exception's form -/
def RpX (K : PySem.W.Frag) (mg : Str → Option Value) (F : Addr → Prop) (c : List Addr) (H : Hp) (cls : Value) (d : Option Addr) (x : Exn) : Prop :=
  mg x.cls = some cls ∧ ((x.fs = [] ∧ d = none) ∨ ∃ d' vfs, d = some d' ∧ F d' ∧ H d' = some (.xd vfs) ∧ vfs.map (·.1) = x.fs.map (·.1) ∧ Rps K mg F c H (vfs.map (·.2)) (x.fs.map (·.2)))

/-- what is wanted behind a run that gives r -/
def Post {α : Type} (b : Bs) (W : WX) (F : Addr → Prop) (c : List Addr) (σ : L2.St) (H : Hp) (P : α → EnvD → Sto → (Addr → Prop) → List Addr → Hp → Prop) : R α → Prop
  | .ok x env st => ∀ F' c' H', Stp F c H F' c' H' → Rel b F' c' env st σ H' → P x env st F' c' H'
  | .ex x env st => ∀ F' c' H' cls d, Stp F c H F' c' H' → Rel b F' c' env st σ H' → RpX b.K b.mg F' c' H' cls d x → W cls d σ H'
  | .bad => False
theorem Post.mono {α : Type} {W : WX} {P P' : α → EnvD → Sto → (Addr → Prop) → List Addr → Hp → Prop} {r : R α} (h : Post b W F c σ H P r)
    (k : ∀ x env st F' c' H', Stp F c H F' c' H' → Rel b F' c' env st σ H' → P x env st F' c' H' → P' x env st F' c' H') : Post b W F c σ H P' r := by
  cases r with
  | ok x env st => exact fun F' c' H' s r => k _ _ _ _ _ _ s r (h F' c' H' s r)
  | ex x env st => exact h
  | bad => exact h
theorem Post.stp {α : Type} {W : WX} {P : α → EnvD → Sto → (Addr → Prop) → List Addr → Hp → Prop} {r : R α} (s : Stp F c H F' c' H') (h : Post b W F c σ H P r) : Post b W F' c' σ H' P r := by
  cases r with
  | ok x env st => exact fun F2 c2 H2 t r => h F2 c2 H2 (s.trans t) r
  | ex x env st => exact fun F2 c2 H2 cls d t r => h F2 c2 H2 cls d (s.trans t) r
  | bad => exact h
theorem Post.bind {α β : Type} {W : WX} {P : β → EnvD → Sto → (Addr → Prop) → List Addr → Hp → Prop} {r : R α} {k : α → M β} (h : Post b W F c σ H P (r.bind k)) :
    Post b W F c σ H (fun x env st F1 c1 H1 => Post b W F1 c1 σ H1 P (k x env st)) r := by
  cases r with
  | ok x env st => exact fun F' c' H' s r => Post.stp s h
  | ex x env st => exact h
  | bad => exact h
/-- at once -/
theorem Post.here {α : Type} {W : WX} {P : α → EnvD → Sto → (Addr → Prop) → List Addr → Hp → Prop} {x : α} (r : Rel b F c env st σ H) (h : Post b W F c σ H P (.ok x env st)) : P x env st F c H := h F c H .refl r
end
section
variable [VEnv]
variable {X : Cx} {W : WX}
/-- the state that the data tell -/
def At (X : Cx) (W : WX) {α : Type} (f : M α) (σ : L2.St) (H : Hp) (P : Bs → α → EnvD → Sto → (Addr → Prop) → List Addr → Hp → Prop) : Prop :=
  ∃ b F c env st, b.K = X.K ∧ b.mg = X.mg ∧ Rel b F c env st σ H ∧ Post b W F c σ H (P b) (f env st)
def tE (X : Cx) (W : WX) (f : M D) : TE := fun σ H Q => At X W f σ H fun b d _ _ F c H' => ∀ v, Rp b.K b.mg F c H' v d → Q v H'
def tT (X : Cx) (W : WX) (f : M Bool) : TT := fun σ H Q => At X W f σ H fun _ t _ _ _ _ H' => Q t H'
def tA (X : Cx) (W : WX) (f : M (List D)) : TA := fun σ H Q => At X W f σ H fun b ds _ _ F c H' => ∀ vs, Rps b.K b.mg F c H' vs ds → Q vs H'
/-- the value is new and held by none -/
def tF (X : Cx) (W : WX) (f : M D) : TE := fun σ H Q => At X W f σ H fun b d env _ F c H' => ∀ a, ¬ F a → a ∉ c → b.H0 a = none → (∀ i, ¬ OwnA env σ i a) → OwnAt b.K b.mg F c H' a d → Q (.ref a) H'
@[reducible] def VE (X : Cx) (W : WX) (e : Expr) (f : M D) : Prop := PE X e (tE X W f)
@[reducible] def VF (X : Cx) (W : WX) (e : Expr) (f : M D) : Prop := PE X e (tF X W f)
@[reducible] def VT (X : Cx) (W : WX) (e : Expr) (f : M Bool) : Prop := PT X e (tT X W f)
@[reducible] def VA (X : Cx) (W : WX) (es : List Expr) (f : M (List D)) : Prop := PA X es (tA X W f)
end
end VE
namespace VE
open PySem PySem.Spec PyProof.Rows L2
variable [VEnv]
section
variable {X : Cx} {W : WX} {b : Bs} {F : Addr → Prop} {c : List Addr} {env : EnvD} {st : Sto} {σ : L2.St} {H : Hp}
theorem PEof {e : Expr} {t t' : TE} (h : PE X e t) (k : ∀ σ H Q, t' σ H Q → t σ H Q) : PE X e t' := ⟨fun pins s σ H Q I q => h.run pins s σ H Q I (k σ H Q q)⟩
theorem PTof {e : Expr} {t t' : TT} (h : PT X e t) (k : ∀ σ H Q, t' σ H Q → t σ H Q) : PT X e t' := ⟨fun pins s σ H Q I q => h.run pins s σ H Q I (k σ H Q q)⟩
theorem PWof {e : Expr} {t t' : TT} (h : PW X e t) (k : ∀ σ H Q, t' σ H Q → t σ H Q) : PW X e t' := ⟨fun wh pins s σ H Q I q => h.run wh pins s σ H Q I (k σ H Q q)⟩
theorem PAof {e : List Expr} {t t' : TA} (h : PA X e t) (k : ∀ σ H Q, t' σ H Q → t σ H Q) : PA X e t' := ⟨fun pos pins s σ H Q I q => h.run pos pins s σ H Q I (k σ H Q q)⟩
theorem PSof {e : Stmt} {t t' : TS} (h : PS X e t) (k : ∀ D σ H, t' D σ H → t D σ H) : PS X e t' := ⟨fun pins s σ H D I q => h.run pins s σ H D I (k D σ H q)⟩
theorem PSsof {e : List Stmt} {t t' : TS} (h : PSs X e t) (k : ∀ D σ H, t' D σ H → t D σ H) : PSs X e t' := ⟨fun pins s σ H D I q => h.run pins s σ H D I (k D σ H q)⟩

section
variable {α β : Type} {P : β → EnvD → Sto → (Addr → Prop) → List Addr → Hp → Prop}
theorem tE_at {f : M D} {k : D → M β} {Q : VK} (e1 : b.K = X.K) (e2 : b.mg = X.mg) (r : Rel b F c env st σ H) (p : Post b W F c σ H P ((f env st).bind k))
    (hq : ∀ v d env' st' F' c' H', Stp F c H F' c' H' → Rel b F' c' env' st' σ H' → Rp b.K b.mg F' c' H' v d → Post b W F' c' σ H' P (k d env' st') → Q v H') : tE X W f σ H Q :=
  ⟨b, F, c, env, st, e1, e2, r, (Post.bind p).mono fun d env' st' F' c' H' s r' q v rp => hq v d env' st' F' c' H' s r' rp q⟩
theorem tT_at {f : M Bool} {k : Bool → M β} {Q : Bool → Hp → Prop} (e1 : b.K = X.K) (e2 : b.mg = X.mg) (r : Rel b F c env st σ H) (p : Post b W F c σ H P ((f env st).bind k))
    (hq : ∀ t env' st' F' c' H', Stp F c H F' c' H' → Rel b F' c' env' st' σ H' → Post b W F' c' σ H' P (k t env' st') → Q t H') : tT X W f σ H Q :=
  ⟨b, F, c, env, st, e1, e2, r, (Post.bind p).mono fun t env' st' F' c' H' s r' q => hq t env' st' F' c' H' s r' q⟩
theorem tA_at {f : M (List D)} {k : List D → M β} {Q : List V → Hp → Prop} (e1 : b.K = X.K) (e2 : b.mg = X.mg) (r : Rel b F c env st σ H) (p : Post b W F c σ H P ((f env st).bind k))
    (hq : ∀ vs ds env' st' F' c' H', Stp F c H F' c' H' → Rel b F' c' env' st' σ H' → Rps b.K b.mg F' c' H' vs ds → Post b W F' c' σ H' P (k ds env' st') → Q vs H') : tA X W f σ H Q :=
  ⟨b, F, c, env, st, e1, e2, r, (Post.bind p).mono fun ds env' st' F' c' H' s r' q v rp => hq v ds env' st' F' c' H' s r' rp q⟩
end
@[reducible] def FAdd (F : Addr → Prop) (p : Addr) : Addr → Prop := fun a => F a ∨ a = p
theorem RelC.stp {K : PySem.W.Frag} {mg : Str → Option Value} {F' : Addr → Prop} {H' : Hp} (r : RelC K mg F c st H) (s : Stp F c H F' c H') (h1 : ∀ a, F' a → ∃ o, H' a = some o) (h2 : ∀ a ∈ c, H' a = H a) (h3 : ∀ a ∈ c, ¬ F' a) (h4 : ∀ d x, H d = some (.own x) → H' d = some (.own x))
    (h5 : ∀ d ps, H d = some (.tbl ps) → H' d = some (.tbl ps)) (h6 : ∀ d ps, H d = some (.tbl ps) → F' d → F d) : RelC K mg F' c st H' := by
  refine ⟨h1, r.len, r.nd, fun n a x hn hx => ?_, h3, fun p hp => ?_⟩
  rotate_left
  · obtain ⟨t1, t2, ps, t3, t4, t5⟩ := r.tab p hp
    exact ⟨fun h => t1 (h6 _ _ t3 h), t2, ps, h5 _ _ t3, t4, fun pos cv h => by obtain ⟨c', e, f, k⟩ := t5 pos cv h; exact ⟨c', e, s.inc _ f, s.keep _ _ f k⟩⟩
  have hm : a ∈ c := List.mem_of_getElem? hn
  have q := r.cl n a x hn hx
  cases x with
  | lst ds => obtain ⟨vs, e, p⟩ := q; exact ⟨vs, by rw [h2 a hm]; exact e, p.stp s⟩
  | ins m fs => obtain ⟨C, dx, vfs, e1, e2, e3, p⟩ := q; exact ⟨C, dx, vfs, e1, by rw [h2 a hm]; exact e2, e3, p.stp s⟩
  | slo m ds => obtain ⟨C, dx, vs, e1, e2, p⟩ := q; exact ⟨C, dx, vs, e1, slAt_keep e2 (h2 a hm) s.lck, p.stp s⟩
  | slp m ix ds => obtain ⟨C, dx, vs, e1, e2, p⟩ := q; exact ⟨C, dx, vs, e1, slAt_keep e2 (h2 a hm) s.lck, p.stp s⟩
  | dct kvs => obtain ⟨vk, e, e2, p⟩ := q; exact ⟨vk, by rw [h2 a hm]; exact e, e2, p.stp s⟩
  | dcT kvs => obtain ⟨P, w, xs, vs, e0, e, e2, p, pk⟩ := q; exact ⟨P, w, xs, vs, e0, by rw [h2 a hm]; exact e, e2, p.stp s, fun x hx => (pk x hx).stp s⟩
  | dcN kvs => obtain ⟨P, w, vk, e0, e, e2, p⟩ := q; exact ⟨P, w, vk, e0, by rw [h2 a hm]; exact e, e2, p.stp s⟩
  | lcT kvs => obtain ⟨P, w, xs, vs, od, e0, e, e2, p, pk⟩ := q; exact ⟨P, w, xs, vs, od, e0, by rw [h2 a hm]; exact e, e2, p.stp s, fun x hx => (pk x hx).stp s⟩
  | lcN kvs => obtain ⟨P, w, vk, od, e0, e, e2, p⟩ := q; exact ⟨P, w, vk, od, e0, by rw [h2 a hm]; exact e, e2, p.stp s⟩
theorem OwnAt.stp {K : PySem.W.Frag} {mg : Str → Option Value} {F' : Addr → Prop} {c' : List Addr} {H' : Hp} {a : Addr} {d : D} (s : Stp F c H F' c' H') (h : H' a = H a) (o : OwnAt K mg F c H a d) : OwnAt K mg F' c' H' a d := by
  cases d with
  | lst ds => obtain ⟨vs, e, p⟩ := o; exact ⟨vs, by rw [h]; exact e, p.stp s⟩
  | _ => exact o.elim
theorem GhOk.stp {K : PySem.W.Frag} {mg : Str → Option Value} {F' : Addr → Prop} {c' : List Addr} {H' : Hp} {cells : List (Str × Addr)} {vals : List (Str × D)} (g : GhOk K mg F c H cells vals) (s : Stp F c H F' c' H') : GhOk K mg F' c' H' cells vals :=
  ⟨fun y a e => by obtain ⟨f, o, v, h, k⟩ := g.cel y a e; exact ⟨s.inc _ f, o, v, s.keep _ _ f h, k⟩, g.inj, fun y d e => by
    obtain ⟨a, o, u, v, h1, h2, h3, h4, h5⟩ := g.val y d e
    exact ⟨a, o, u, v, h1, s.keep _ _ (g.cel y a h1).1 h2, h3, h4, h5.stp s⟩⟩
theorem Rel.H0none (r : Rel b F c env st σ H) {p : Addr} (hp : H p = none) : b.H0 p = none := by
  cases e : b.H0 p with
  | none => rfl
  | some o =>
    by_cases hc : p ∈ c
    · obtain ⟨o', e'⟩ := r.rc.ctrk hc
      rw [hp] at e'; cases e'
    · obtain ⟨o', q⟩ := (r.old p o e hc).there
      rw [hp] at q; cases q
/-- heap and frozen set grow; the slots, the changeable objects stay -/
theorem Rel.grow {F' : Addr → Prop} {H' : Hp} (r : Rel b F c env st σ H) (s : Stp F c H F' c H') (hk : ∀ a o, H a = some o → H' a = some o) (h1 : ∀ a, F' a → ∃ o, H' a = some o) (h2 : ∀ a, F' a → F a ∨ (b.H0 a = none ∧ a ∉ c ∧ (∀ i, ¬ OwnA env σ i a) ∧ ∀ ps, H a ≠ some (.tbl ps))) : Rel b F' c env st σ H' := by
  have hcs : ∀ a ∈ c, H' a = H a := fun a ha => by
    obtain ⟨o, e⟩ := r.rc.ctrk ha
    rw [e]; exact hk a o e
  refine ⟨r.rc.stp s h1 hcs (fun a ha hf => ?_) (fun d x e => hk d _ e) (fun d x e => hk d _ e) (fun d ps e hf => (h2 d hf).elim id fun z => absurd e (z.2.2.2 ps)), r.len, fun i sl he => ?_, r.ds, fun a o e hc => (r.old a o e hc).up fun o h => .inl (hk a o h), fun a hf => ?_, r.nwc, r.f0, r.k0⟩
  · rcases h2 a hf with h | h
    · exact r.rc.nf a ha h
    · exact h.2.1 ha
  · have q := r.sl i sl he
    cases sl with
    | no => trivial
    | va d => obtain ⟨v, e, p⟩ := q; exact ⟨v, e, p.stp s⟩
    | gh cells vals => exact GhOk.stp q s
    | xc xi x => exact ⟨q.1, q.2.stp s⟩
    | ow d =>
      obtain ⟨a, e, p1, p2, p3, p4⟩ := q
      refine ⟨a, e, fun hf => ?_, p2, p3, p4.stp s ?_⟩
      · rcases h2 a hf with h | h
        · exact p1 h
        · exact h.2.2.1 i ⟨d, he, e⟩
      · obtain ⟨_, _, _, o, e⟩ := r.own (i := i) ⟨d, he, e⟩
        rw [e]; exact hk a o e
  · rcases h2 a hf with h | h
    · exact r.new a h
    · exact .inr h.1
theorem own_new {H : Hp} {p : Addr} (hp : H p = none) {o : HO} : ∀ d x, H d = some (.own x) → upd H p o d = some (.own x) := fun d x e => by rw [upd_ne (ne_of_none e hp)]; exact e
theorem lck_new {H : Hp} {p : Addr} (hp : H p = none) {o : HO} : ∀ d y u, H d = some (.frz y u) → upd H p o d = some (.frz y u) := fun d y u e => by rw [upd_ne (ne_of_none e hp)]; exact e
theorem lck_upd {H : Hp} {p : Addr} (no : ∀ y u, H p ≠ some (.frz y u)) {o : HO} : ∀ d y u, H d = some (.frz y u) → upd H p o d = some (.frz y u) := fun d y u e => by rw [upd_ne (fun z : d = p => no y u (z ▸ e))]; exact e
theorem own_upd {H : Hp} {p : Addr} (no : ∀ x, H p ≠ some (.own x)) {o : HO} : ∀ d x, H d = some (.own x) → upd H p o d = some (.own x) := fun d x e => by rw [upd_ne (fun z : d = p => no x (z ▸ e))]; exact e
theorem stp_add {p : Addr} (hp : ¬ F p) (hn : H p = none) {o : HO} : Stp F c H (FAdd F p) c (upd H p o) := ⟨fun _ h => .inl h, fun a o f h => by
  rw [upd_ne (fun e : a = p => hp (e ▸ f))]; exact h, ⟨[], (List.append_nil c).symm⟩, own_new hn, lck_new hn⟩
theorem Rel.nF (r : Rel b F c env st σ H) {p : Addr} (hp : H p = none) : ¬ F p := fun hf => by
  obtain ⟨o, e⟩ := r.rc.trk p hf
  rw [hp] at e; cases e
theorem Rel.nO (r : Rel b F c env st σ H) {p : Addr} (hp : H p = none) (i : Nat) : ¬ OwnA env σ i p := fun hf => by
  obtain ⟨_, _, _, o, e⟩ := r.own hf
  rw [hp] at e; cases e
theorem Rel.nC (r : Rel b F c env st σ H) {p : Addr} (hp : H p = none) : p ∉ c := fun hf => by
  obtain ⟨o, e⟩ := r.rc.ctrk hf
  rw [hp] at e; cases e
/-- a new object, frozen at once -/
theorem Rel.newF (r : Rel b F c env st σ H) {p : Addr} (hp : H p = none) (o : HO) : Stp F c H (FAdd F p) c (upd H p o) ∧ Rel b (FAdd F p) c env st σ (upd H p o) := by
  have s : Stp F c H (FAdd F p) c (upd H p o) := stp_add (r.nF hp) hp
  refine ⟨s, r.grow s (fun a x e => ?_) (fun a hf => ?_) (fun a hf => ?_)⟩
  · rw [upd_ne (ne_of_none e hp)]; exact e
  · rcases hf with hf | rfl
    · obtain ⟨x, e⟩ := r.rc.trk a hf
      exact ⟨x, s.keep a x hf e⟩
    · exact ⟨o, upd_same⟩
  · rcases hf with hf | rfl
    · exact .inl hf
    · exact .inr ⟨r.H0none hp, r.nC hp, r.nO hp, fun ps e => by rw [hp] at e; cases e⟩
/-- a new object, not frozen -/
theorem Rel.newO (r : Rel b F c env st σ H) {p : Addr} (hp : H p = none) (o : HO) : Stp F c H F c (upd H p o) ∧ Rel b F c env st σ (upd H p o) := by
  have hk : ∀ a x, H a = some x → upd H p o a = some x := fun a x e => by rw [upd_ne (ne_of_none e hp)]; exact e
  have s : Stp F c H F c (upd H p o) := ⟨fun _ h => h, fun a x _ e => hk a x e, ⟨[], (List.append_nil c).symm⟩, own_new hp, lck_new hp⟩
  exact ⟨s, r.grow s hk (fun a hf => by obtain ⟨x, e⟩ := r.rc.trk a hf; exact ⟨x, hk a x e⟩) fun a hf => .inl hf⟩
/-- what none holds is frozen -/
theorem Rel.frz (r : Rel b F c env st σ H) {a : Addr} (h2 : a ∉ c) (h3 : b.H0 a = none) (h4 : ∀ i, ¬ OwnA env σ i a) (h5 : ∃ o, H a = some o) (h6 : ∀ ps, H a ≠ some (.tbl ps)) : Stp F c H (FAdd F a) c H ∧ Rel b (FAdd F a) c env st σ H := by
  have s : Stp F c H (FAdd F a) c H := ⟨fun _ h => .inl h, fun _ _ _ h => h, ⟨[], (List.append_nil c).symm⟩, fun _ _ h => h, fun _ _ _ h => h⟩
  refine ⟨s, r.grow s (fun _ _ e => e) (fun x hf => ?_) fun x hf => ?_⟩
  · rcases hf with hf | rfl
    · exact r.rc.trk x hf
    · exact h5
  · rcases hf with hf | rfl
    · exact .inl hf
    · exact .inr ⟨h3, h2, h4, h6⟩
theorem OwnAt.rp {K : PySem.W.Frag} {mg : Str → Option Value} {a : Addr} {d : D} (o : OwnAt K mg F c H a d) : Rp K mg (FAdd F a) c H (.ref a) d := by
  cases d with
  | lst ds =>
    obtain ⟨vs, e, p⟩ := o
    have s : Stp F c H (FAdd F a) c H := ⟨fun _ h => .inl h, fun _ _ _ h => h, ⟨[], (List.append_nil c).symm⟩, fun _ _ h => h, fun _ _ _ h => h⟩
    exact .lst (.inr rfl) e (p.stp s)
  | _ => exact o.elim
theorem OwnAt.trk {K : PySem.W.Frag} {mg : Str → Option Value} {a : Addr} {d : D} (o : OwnAt K mg F c H a d) : ∃ x, H a = some x := by
  cases d with
  | lst ds => obtain ⟨vs, e, p⟩ := o; exact ⟨_, e⟩
  | _ => exact o.elim
theorem OwnAt.ntbl {K : PySem.W.Frag} {mg : Str → Option Value} {a : Addr} {d : D} (o : OwnAt K mg F c H a d) : ∀ ps, H a ≠ some (.tbl ps) := by
  cases d with
  | lst ds => obtain ⟨vs, e, p⟩ := o; intro ps z; rw [e] at z; cases z
  | _ => exact o.elim
/-- a fresh value is a value -/
theorem VF.ve {e : Expr} {f : M D} (h : VF X W e f) : VE X W e f := PEof h fun σ H Q ⟨b, F, c, env, st, e1, e2, r, p⟩ => ⟨b, F, c, env, st, e1, e2, r, by
  generalize f env st = y at p
  cases y with
  | ok d env' st' =>
    intro F' c' H' s r' a h1 h2 h3 h4 h5
    obtain ⟨s2, r2⟩ := r'.frz h2 h3 h4 h5.trk h5.ntbl
    exact p _ c' H' (s.trans s2) r2 _ h5.rp
  | ex x env' st' => exact p
  | bad => exact p⟩

theorem ownA_set {i j : Nat} {x : Sl} {a : Addr} (h : OwnA (env.set i x) σ j a) (hx : ∀ d, x ≠ .ow d) : OwnA env σ j a := by
  obtain ⟨d, e, e'⟩ := h
  by_cases q : i = j
  · subst q
    by_cases hl : i < env.length
    · rw [List.getElem?_set_self hl] at e; cases e; exact absurd rfl (hx d)
    · rw [List.getElem?_eq_none (by simpa using hl)] at e; cases e
  · rw [List.getElem?_set_ne q] at e; exact ⟨d, e, e'⟩
/-- a slot is forgotten -/
theorem Rel.forget (r : Rel b F c env st σ H) (i : Nat) : Rel b F c (env.set i .no) st σ H := by
  refine ⟨r.rc, by rw [List.length_set]; exact r.len, fun j s e => ?_, fun j k a h h' => r.ds j k a (ownA_set h fun _ => nofun) (ownA_set h' fun _ => nofun), r.old, r.new, r.nwc, r.f0, r.k0⟩
  by_cases q : i = j
  · subst q
    by_cases hl : i < env.length
    · rw [List.getElem?_set_self hl] at e; cases e; trivial
    · rw [List.getElem?_eq_none (by simpa using hl)] at e; cases e
  · rw [List.getElem?_set_ne q] at e; exact r.sl j s e
/-- a name's value is stored -/
theorem Rel.put (r : Rel b F c env st σ H) {i : Nat} {v : V} {d : D} (h : Rp b.K b.mg F c H v d) : Rel b F c (env.set i (.va d)) st (σ.set i (some v)) H := by
  have own : ∀ {j a}, OwnA (env.set i (.va d)) (σ.set i (some v)) j a → OwnA env σ j a := fun {j a} h => by
    obtain ⟨d', e, e'⟩ := h
    by_cases q : i = j
    · subst q
      by_cases hl : i < env.length
      · rw [List.getElem?_set_self hl] at e; cases e
      · rw [List.getElem?_eq_none (by simpa using hl)] at e; cases e
    · rw [List.getElem?_set_ne q] at e e'; exact ⟨d', e, e'⟩
  refine ⟨r.rc, by rw [List.length_set, List.length_set]; exact r.len, fun j s e => ?_, fun j k a h h' => r.ds j k a (own h) (own h'), r.old, r.new, r.nwc, r.f0, r.k0⟩
  by_cases q : i = j
  · subst q
    by_cases hl : i < env.length
    · rw [List.getElem?_set_self hl] at e; cases e
      exact ⟨v, List.getElem?_set_self (by rw [← r.len]; exact hl), h⟩
    · rw [List.getElem?_eq_none (by simpa using hl)] at e; cases e
  · rw [List.getElem?_set_ne q] at e
    have z := r.sl j s e
    cases s with
    | no => trivial
    | va d' => obtain ⟨v', e', p⟩ := z; exact ⟨v', by rw [List.getElem?_set_ne q]; exact e', p⟩
    | ow d' => obtain ⟨a, e', p⟩ := z; exact ⟨a, by rw [List.getElem?_set_ne q]; exact e', p⟩
    | gh cells vals => exact z
    | xc xi x => exact ⟨by rw [List.getElem?_set_ne q]; exact z.1, z.2⟩
/-- a name takes what none holds -/
theorem Rel.take (r : Rel b F c env st σ H) {i : Nat} {a : Addr} {d : D} (h1 : ¬ F a) (h2 : a ∉ c) (h3 : b.H0 a = none) (h4 : ∀ i, ¬ OwnA env σ i a) (h5 : OwnAt b.K b.mg F c H a d) : Rel b F c (env.set i (.ow d)) st (σ.set i (some (.ref a))) H := by
  have own : ∀ {j a'}, OwnA (env.set i (.ow d)) (σ.set i (some (.ref a))) j a' → (j = i ∧ a' = a) ∨ OwnA env σ j a' := fun {j a'} h => by
    obtain ⟨d', e, e'⟩ := h
    by_cases q : i = j
    · subst q
      by_cases hl : i < σ.length
      · rw [List.getElem?_set_self hl] at e'; cases e'; exact .inl ⟨rfl, rfl⟩
      · rw [List.getElem?_eq_none (by simpa using hl)] at e'; cases e'
    · rw [List.getElem?_set_ne q] at e e'; exact .inr ⟨d', e, e'⟩
  refine ⟨r.rc, by rw [List.length_set, List.length_set]; exact r.len, fun j s e => ?_, fun j k a' h h' => ?_, r.old, r.new, r.nwc, r.f0, r.k0⟩
  · by_cases q : i = j
    · subst q
      by_cases hl : i < env.length
      · rw [List.getElem?_set_self hl] at e; cases e
        exact ⟨a, List.getElem?_set_self (by rw [← r.len]; exact hl), h1, h2, h3, h5⟩
      · rw [List.getElem?_eq_none (by simpa using hl)] at e; cases e
    · rw [List.getElem?_set_ne q] at e
      have z := r.sl j s e
      cases s with
      | no => trivial
      | va d' => obtain ⟨v', e', p⟩ := z; exact ⟨v', by rw [List.getElem?_set_ne q]; exact e', p⟩
      | ow d' => obtain ⟨a', e', p⟩ := z; exact ⟨a', by rw [List.getElem?_set_ne q]; exact e', p⟩
      | gh cells vals => exact z
      | xc xi x => exact ⟨by rw [List.getElem?_set_ne q]; exact z.1, z.2⟩
  · rcases own h with ⟨rfl, rfl⟩ | g <;> rcases own h' with ⟨e1, e2⟩ | g'
    · exact e1.symm
    · exact absurd g' (h4 k)
    · subst e1 e2; exact absurd g (h4 j)
    · exact r.ds j k a' g g'
/-- what a slot alone held is frozen: the slot keeps it as a value -/
theorem Rel.freeze (r : Rel b F c env st σ H) {i : Nat} {d : D} (e : env[i]? = some (.ow d)) : ∃ a, σ[i]? = some (some (.ref a)) ∧ Stp F c H (FAdd F a) c H ∧ Rel b (FAdd F a) c (env.set i (.va d)) st σ H ∧ Rp b.K b.mg (FAdd F a) c H (.ref a) d := by
  obtain ⟨a, e', h1, h2, h3, h5⟩ := r.sl i _ e
  have hσ : i < σ.length := (List.getElem?_eq_some_iff.mp e').1
  have r1 := r.forget i
  have no : ∀ j, ¬ OwnA (env.set i .no) σ j a := fun j h => by
    have g := ownA_set h fun _ => nofun
    have ej : j = i := r.ds j i a g ⟨d, e, e'⟩
    subst ej
    obtain ⟨d', e2, _⟩ := h
    rw [List.getElem?_set_self (by rw [r.len]; exact hσ)] at e2; cases e2
  obtain ⟨s, r2⟩ := r1.frz h2 h3 no h5.trk h5.ntbl
  have rp := h5.rp
  have r3 := r2.put (i := i) rp
  have es : σ.set i (some (.ref a)) = σ := by
    apply List.ext_getElem?
    intro j
    by_cases q : i = j
    · subst q; rw [List.getElem?_set_self hσ, e']
    · rw [List.getElem?_set_ne q]
  rw [es, List.set_set] at r3
  exact ⟨a, e', s, r3, rp⟩

def eVar (i : Nat) : M D := fun env st => match env[i]? with
  | some (.va d) => .ok d env st
  | some (.ow d) => .ok d (env.set i (.va d)) st
  | _ => .bad
def eC (d : D) : M D := fun env st => .ok d env st
theorem ve_name (i : Nat) {x : Str} {pos : Pos} (hN : X.N[i]? = some x := by rfl) (hv : Vis X.env.scope x := by first | exact Or.inl rfl | exact Or.inr (Or.inl rfl) | exact Or.inr (Or.inr rfl)) (hd : (x == ("__debug__" : Str)) = false := by decide)
    (hcd : (x == ("__classdict__" : Str)) = false := by decide) : VE X W (.Name x pos) (eVar i) := PEof (pe_var hN hv hd hcd) fun σ H Q ⟨b, F, c, env, st, e1, e2, r, p⟩ => by
  unfold eVar at p
  split at p
  · rename_i d e
    obtain ⟨v, ev, rp⟩ := r.sl i _ e
    exact ⟨v, ev, Post.here r p v rp⟩
  · rename_i d e
    obtain ⟨a, ea, s, r2, rp⟩ := r.freeze e
    exact ⟨_, ea, p _ c H s r2 _ rp⟩
  · exact p.elim
theorem ve_c {e : Expr} {v : V} {d : D} (h : PE X e (tC v)) (k : ∀ F c H, Rp X.K X.mg F c H v d) : VE X W e (eC d) := PEof h fun σ H Q ⟨b, F, c, env, st, e1, e2, r, p⟩ => Post.here r p v (by rw [e1, e2]; exact k F c H)
theorem ve_int {i : Int} {j : Nat} {pos : Pos} : VE X W (.Constant (.int i) j pos) (eC (.int i)) := ve_c pe_int fun _ _ _ => .int i
theorem ve_bl {i : Bool} {j : Nat} {pos : Pos} : VE X W (.Constant (.bool i) j pos) (eC (.bl i)) := ve_c pe_bl fun _ _ _ => .bl i
theorem ve_non {j : Nat} {pos : Pos} : VE X W (.Constant .none j pos) (eC .non) := ve_c pe_non fun _ _ _ => .non
theorem ve_str {i : Str} {j : Nat} {pos : Pos} : VE X W (.Constant (.str i) j pos) (eC (.str i)) := ve_c pe_str fun _ _ _ => .str i
end
end VE
namespace VE
open PySem PySem.Spec PyProof.Rows L2
variable [VEnv]
mutual
def toPy : D → PyData
  | .non => .none
  | .bl b => .bool b
  | .int i => .int i
  | .str x => .str x
  | .lst xs => .list (toPys xs)
  | .tup xs => .tuple (toPys xs)
  | _ => .none
def toPys : List D → List PyData
  | [] => []
  | x :: xs => toPy x :: toPys xs
end
mutual
/-- data of none, bools, ints, texts, lists, tuples, at most n deep -/
def plain : Nat → D → Bool
  | _, .non => true
  | _, .bl _ => true
  | _, .int _ => true
  | _, .str x => PyData.strOk x
  | n + 1, .lst xs => plains n xs
  | n + 1, .tup xs => plains n xs
  | _, _ => false
def plains : Nat → List D → Bool
  | _, [] => true
  | n, x :: xs => plain n x && plains n xs
end
/-- equality, as == has it -/
def eqD (x y : D) : Bool := PyData.eqv (toPy x) (toPy y)
def eqDs (x y : List D) : Bool := PyData.eqvAll (toPys x) (toPys y)
mutual
theorem canLay_of : ∀ (n : Nat) (d : D), plain n d = true → PyData.canLay0 (toPy d) = true
  | _, .non, _ => by simp only [toPy, PyData.canLay0]
  | _, .bl _, _ => by simp only [toPy, PyData.canLay0]
  | _, .int _, _ => by simp only [toPy, PyData.canLay0]
  | _, .str x, h => by simpa [toPy, PyData.canLay0, plain] using h
  | n + 1, .lst xs, h => by simp only [toPy, PyData.canLay0]; exact canLays_of n xs (by simpa [plain] using h)
  | n + 1, .tup xs, h => by simp only [toPy, PyData.canLay0]; exact canLays_of n xs (by simpa [plain] using h)
  | 0, .lst xs, h => by simp [plain] at h
  | 0, .tup xs, h => by simp [plain] at h
  | 0, .scr xs, h => by simp [plain] at h
  | 0, .ino _ _ xs, h => by simp [plain] at h
  | 0, .obj _ xs, h => by simp [plain] at h
  | 0, .ref xs, h => by simp [plain] at h
  | 0, .fn xs, h => by simp [plain] at h
  | _ + 1, .scr xs, h => by simp [plain] at h
  | _ + 1, .ino _ _ xs, h => by simp [plain] at h
  | _ + 1, .obj _ xs, h => by simp [plain] at h
  | _ + 1, .ref xs, h => by simp [plain] at h
  | _ + 1, .fn xs, h => by simp [plain] at h
theorem canLays_of : ∀ (n : Nat) (d : List D), plains n d = true → PyData.canLayAll0 (toPys d) = true
  | _, [], _ => by simp only [toPys, PyData.canLayAll0]
  | n, x :: xs, h => by
    have h' : plain n x = true ∧ plains n xs = true := by simpa [plains] using h
    simp only [toPys, PyData.canLayAll0, canLay_of n x h'.1, canLays_of n xs h'.2, Bool.and_self]
end
mutual
theorem depth_of : ∀ (n : Nat) (d : D), plain n d = true → PyData.depth (toPy d) ≤ n
  | _, .non, _ => by simp [toPy, PyData.depth]
  | _, .bl _, _ => by simp [toPy, PyData.depth]
  | _, .int _, _ => by simp [toPy, PyData.depth]
  | _, .str x, h => by simp [toPy, PyData.depth]
  | n + 1, .lst xs, h => by simp only [toPy, PyData.depth]; have := depths_of n xs (by simpa [plain] using h); omega
  | n + 1, .tup xs, h => by simp only [toPy, PyData.depth]; have := depths_of n xs (by simpa [plain] using h); omega
  | 0, .lst xs, h => by simp [plain] at h
  | 0, .tup xs, h => by simp [plain] at h
  | 0, .scr xs, h => by simp [plain] at h
  | 0, .ino _ _ xs, h => by simp [plain] at h
  | 0, .obj _ xs, h => by simp [plain] at h
  | 0, .ref xs, h => by simp [plain] at h
  | 0, .fn xs, h => by simp [plain] at h
  | _ + 1, .scr xs, h => by simp [plain] at h
  | _ + 1, .ino _ _ xs, h => by simp [plain] at h
  | _ + 1, .obj _ xs, h => by simp [plain] at h
  | _ + 1, .ref xs, h => by simp [plain] at h
  | _ + 1, .fn xs, h => by simp [plain] at h
theorem depths_of : ∀ (n : Nat) (d : List D), plains n d = true → PyData.depthAll (toPys d) ≤ n
  | _, [], _ => by simp [toPys, PyData.depthAll]
  | n, x :: xs, h => by
    have h' : plain n x = true ∧ plains n xs = true := by simpa [plains] using h
    have h1 := depth_of n x h'.1
    have h2 := depths_of n xs h'.2
    simp only [toPys, PyData.depthAll]
    omega
end
theorem shaped_of {n : Nat} {d : D} (hn : n ≤ 64) (h : plain n d = true) : SeqAt.shaped (toPy d) = true := by
  have h1 := depth_of n d h
  show (PyData.canLay0 (toPy d) && decide (PyData.depth (toPy d) ≤ 64)) = true
  rw [Bool.and_eq_true]
  exact ⟨canLay_of n d h, decide_eq_true (by omega)⟩
section
variable {K : PySem.W.Frag} {mg : Str → Option Value} {F : Addr → Prop} {c : List Addr} {H : Hp}
mutual
theorem Rp.dp : ∀ {v : V} {d : D} (n : Nat), Rp K mg F c H v d → plain n d = true → Dp K H v (toPy d)
  | _, _, _, .non, _ => by simp only [toPy]; exact .non
  | _, _, _, .bl b, _ => by simp only [toPy]; exact .bl b
  | _, _, _, .int b, _ => by simp only [toPy]; exact .int b
  | _, _, _, .str b, _ => by simp only [toPy]; exact .str b
  | _, _, n + 1, .lst f h r, p => by simp only [toPy]; exact .lst (SqL.of h) (Rps.dp n r (by simpa [plain] using p))
  | _, _, n + 1, .tup h r, p => by simp only [toPy]; exact .tup h.sq (Rps.dp n r (by simpa [plain] using p))
  | _, _, 0, .lst f h r, p => by simp [plain] at p
  | _, _, 0, .tup h r, p => by simp [plain] at p
  | _, _, 0, .scr _, p => by simp [plain] at p
  | _, _, 0, .obj _ _ _ _, p => by simp [plain] at p
  | _, _, 0, .ino _ _ _ _ _, p => by simp [plain] at p
  | _, _, 0, .ref _, p => by simp [plain] at p
  | _, _, _ + 1, .scr _, p => by simp [plain] at p
  | _, _, _ + 1, .obj _ _ _ _, p => by simp [plain] at p
  | _, _, _ + 1, .ino _ _ _ _ _, p => by simp [plain] at p
  | _, _, _ + 1, .ref _, p => by simp [plain] at p
theorem Rps.dp : ∀ {v : List V} {d : List D} (n : Nat), Rps K mg F c H v d → plains n d = true → DpAll K H v (toPys d)
  | _, _, _, .nil, _ => by simp only [toPys]; exact .nil
  | _, _, n, .cons h r, p => by
    have h' := by simpa [plains] using p
    simp only [toPys]; exact .cons (Rp.dp n h h'.1) (Rps.dp n r h'.2)
end
end
section
variable {X : Cx} {W : WX} {e a d : Expr} {pos : Pos} {fa fb fc : M D}
def ret (o : Option D) : M D := fun env st => match o with
  | some d => .ok d env st
  | none => .bad
def eBin (g : D → D → M D) (fa fb : M D) : M D := fun env st => (fa env st).bind fun x e s => (fb e s).bind fun y e s => g x y e s
def OpOk (X : Cx) (W : WX) (r : R2) (g : D → D → M D) : Prop := ∀ (b : Bs) (F : Addr → Prop) (c : List Addr) (env : EnvD) (st : Sto) (σ : L2.St) (H : Hp) (x y : V) (dx dy : D) (Q : VK), b.K = X.K → b.mg = X.mg → Rel b F c env st σ H →
  Rp b.K b.mg F c H x dx → Rp b.K b.mg F c H y dy → Post b W F c σ H (fun d _ _ F' c' H' => ∀ v, Rp b.K b.mg F' c' H' v d → Q v H') (g dx dy env st) → r x y H Q
theorem tOp_of {r : R2} {g : D → D → M D} (hg : OpOk X W r g) : ∀ σ H Q, tE X W (eBin g fa fb) σ H Q → tOp r (tE X W fa) (tE X W fb) σ H Q := fun σ H Q ⟨b, F, c, env, st, e1, e2, r0, p⟩ =>
  tE_at e1 e2 r0 p fun v dx env1 st1 F1 c1 H1 s1 r1 rp1 p1 => tE_at e1 e2 r1 p1 fun u dy env2 st2 F2 c2 H2 s2 r2 rp2 p2 => hg b F2 c2 env2 st2 σ H2 v u dx dy Q e1 e2 r2 (rp1.stp s2) rp2 p2
theorem ve_op {op : Operator} {r : R2} {g : D → D → M D} (ho : OpR X (binaryOp op) r) (hg : OpOk X W r g) (ha : VE X W e fa) (hb : VE X W a fb) : VE X W (.BinOp e op a pos) (eBin g fa fb) := PEof (pe_op ho ha hb) (tOp_of hg)
/-- a total operator upon scalars -/
def sc2 (g : D → D → Option D) : D → D → M D := fun x y => ret (g x y)
theorem opOk_sc {r : R2} {g : D → D → Option D} (h : ∀ (F : Addr → Prop) (c : List Addr) (H : Hp) (x y : V) (dx dy d : D) (Q : VK), Rp X.K X.mg F c H x dx → Rp X.K X.mg F c H y dy → g dx dy = some d → (∀ v, Rp X.K X.mg F c H v d → Q v H) → r x y H Q) : OpOk X W r (sc2 g) := by
  intro b F c env st σ H x y dx dy Q e1 e2 r0 hx hy p
  unfold sc2 ret at p
  split at p
  · rename_i d e
    rw [e1, e2] at hx hy
    exact h F c H x y dx dy d Q hx hy e fun v hv => Post.here r0 p v (by rw [e1, e2]; exact hv)
  · exact p.elim
def subI : D → D → Option D
  | .int i, .int j => some (.int (i - j))
  | _, _ => none
/-- shut: the kernel would reckon such bounds in unary -/
noncomputable def mulOk (i j : Int) : Bool := @decide ((-(2 ^ 64) < i ∧ i < 2 ^ 64) ∨ (-(2 ^ 64) < j ∧ j < 2 ^ 64)) (Classical.propDecidable _)
omit [VEnv] in
theorem mulOk_iff {i j : Int} : mulOk i j = true ↔ (-(2 ^ 64) < i ∧ i < 2 ^ 64) ∨ (-(2 ^ 64) < j ∧ j < 2 ^ 64) := by unfold mulOk; exact @decide_eq_true_iff _ (Classical.propDecidable _)
noncomputable def mulI : D → D → Option D
  | .int i, .int j => if mulOk i j then some (.int (i * j)) else none
  | _, _ => none
noncomputable def divOk (j : Int) : Bool := @decide (0 < j ∧ j ≤ 10000000000000000000000000000000000000000) (Classical.propDecidable _)
omit [VEnv] in
theorem divOk_iff {j : Int} : divOk j = true ↔ 0 < j ∧ j ≤ 10000000000000000000000000000000000000000 := by unfold divOk; exact @decide_eq_true_iff _ (Classical.propDecidable _)
noncomputable def fdivI : D → D → Option D
  | .int i, .int j => if divOk j then some (.int (i / j)) else none
  | _, _ => none
def modI : D → D → Option D
  | .int i, .int j => if 0 < j then some (.int (i % j)) else none
  | _, _ => none
def powI : D → D → Option D
  | .int i, .int j => if decide (0 ≤ j) && decide (j ≤ 1000) && decide (i.natAbs < 2 ^ 64) then some (.int (i ^ j.toNat)) else none
  | _, _ => none
theorem divOk_w {i j : Int} (h : divOk j = true) : CDivW i j := by
  rw [divOk_iff] at h
  refine wide_div h.1 (b := 134) ?_ (by decide) (by decide)
  have h2 := h.2
  have e : (2 : Nat) ^ 134 = 21778071482940061661655974875633165533184 := by decide +kernel
  rw [e]
  omega
theorem mulOk_w {i j : Int} (h : mulOk i j = true) : CMul i j := by
  exact mulOk_iff.mp h
theorem op_addR : OpR X (binaryOp .Add) (fun x y H Q => (∃ i j, x = .int i ∧ y = .int j ∧ Q (.int (i + j)) H) ∨ (∃ i j, x = .str i ∧ y = .str j ∧ i.length + j.length ≤ sizeLine ∧ Q (.str (i ++ j)) H)) := OpR.or op_add op_add_str
theorem ok_sub : OpOk X W (rI0 fun i j => .int (i - j)) (sc2 subI) := opOk_sc fun F c H x y dx dy d Q hx hy e q => by
  unfold subI at e
  split at e
  · cases hx; cases hy; cases e; exact ⟨_, _, rfl, rfl, q _ (.int _)⟩
  · cases e
theorem ok_mul : OpOk X W (rI CMul fun i j => .int (i * j)) (sc2 mulI) := opOk_sc fun F c H x y dx dy d Q hx hy e q => by
  unfold mulI at e
  split at e
  · cases hx; cases hy
    split at e
    · cases e; exact ⟨_, _, rfl, rfl, mulOk_w (by assumption), q _ (.int _)⟩
    · cases e
  · cases e
theorem ok_fdiv : OpOk X W (rI CDivW fun i j => .int (i / j)) (sc2 fdivI) := opOk_sc fun F c H x y dx dy d Q hx hy e q => by
  unfold fdivI at e
  split at e
  · cases hx; cases hy
    split at e
    · cases e; exact ⟨_, _, rfl, rfl, divOk_w (by assumption), q _ (.int _)⟩
    · cases e
  · cases e
theorem ok_mod : OpOk X W (rI (fun _ j => 0 < j) fun i j => .int (i % j)) (sc2 modI) := opOk_sc fun F c H x y dx dy d Q hx hy e q => by
  unfold modI at e
  split at e
  · cases hx; cases hy
    split at e
    · cases e; exact ⟨_, _, rfl, rfl, by assumption, q _ (.int _)⟩
    · cases e
  · cases e
theorem ok_pow : OpOk X W (rI CPow fun i j => .int (i ^ j.toNat)) (sc2 powI) := opOk_sc fun F c H x y dx dy d Q hx hy e q => by
  unfold powI at e
  split at e
  · cases hx; cases hy
    split at e
    · rename_i h
      simp only [Bool.and_eq_true, decide_eq_true_eq] at h
      cases e; exact ⟨_, _, rfl, rfl, ⟨h.1.1, by omega, h.2⟩, q _ (.int _)⟩
    · cases e
  · cases e
theorem ve_sub (ha : VE X W e fa) (hb : VE X W a fb) : VE X W (.BinOp e .Sub a pos) (eBin (sc2 subI) fa fb) := ve_op op_sub ok_sub ha hb
theorem ve_mul (ha : VE X W e fa) (hb : VE X W a fb) : VE X W (.BinOp e .Mult a pos) (eBin (sc2 mulI) fa fb) := ve_op op_mul ok_mul ha hb
theorem ve_fdiv (ha : VE X W e fa) (hb : VE X W a fb) : VE X W (.BinOp e .FloorDiv a pos) (eBin (sc2 fdivI) fa fb) := ve_op op_fdivW ok_fdiv ha hb
theorem ve_mod (ha : VE X W e fa) (hb : VE X W a fb) : VE X W (.BinOp e .Mod a pos) (eBin (sc2 modI) fa fb) := ve_op op_mod ok_mod ha hb
theorem ve_pow (ha : VE X W e fa) (hb : VE X W a fb) : VE X W (.BinOp e .Pow a pos) (eBin (sc2 powI) fa fb) := ve_op op_pow ok_pow ha hb
def negI : D → Option D
  | .int i => some (.int (-i))
  | _ => none
def eUn (g : D → Option D) (fa : M D) : M D := fun env st => (fa env st).bind fun x e s => ret (g x) e s
theorem ve_neg (ha : VE X W e fa) : VE X W (.UnaryOp .USub e pos) (eUn negI fa) := PEof (pe_un un_neg ha) fun σ H Q ⟨b, F, c, env, st, e1, e2, r0, p⟩ =>
  tE_at e1 e2 r0 p fun v dx env1 st1 F1 c1 H1 s1 r1 rp1 p1 => by
    unfold ret negI at p1
    split at p1
    · rename_i d e
      split at e
      · cases rp1; cases e; exact ⟨_, rfl, Post.here r1 p1 _ (.int _)⟩
      · cases e
    · exact p1.elim

theorem ve_cmp {op : CmpOp} {r : R2} {g : D → D → M D} (ho : OpR X (compareOp op) r) (hg : OpOk X W r g) (ha : VE X W e fa) (hb : VE X W a fb) (hm : behindInMarks op a = false) : VE X W (.Compare e [op] [a] pos) (eBin g fa fb) := PEof (pe_cmpR ho ha hb hm) (tOp_of hg)
/-- a value that is a bool, as a test -/
def eT (f : M D) : M Bool := fun env st => (f env st).bind fun x e s => match x with
  | .bl t => .ok t e s
  | _ => .bad
theorem tTest_of {f : M D} : ∀ σ H Q, tT X W (eT f) σ H Q → tTest (tE X W f) σ H Q := fun σ H Q ⟨b, F, c, env, st, e1, e2, r0, p⟩ => tE_at e1 e2 r0 p fun v dx env1 st1 F1 c1 H1 s1 r1 rp1 p1 => by
    split at p1
    · cases rp1; exact ⟨_, rfl, Post.here r1 p1⟩
    · exact p1.elim
theorem vt_cmp {op : CmpOp} {r : R2} {g : D → D → M D} (ho : OpR X (compareOp op) r) (hg : OpOk X W r g) (ha : VE X W e fa) (hb : VE X W a fb) (hm : behindInMarks op a = false) : VT X W (.Compare e [op] [a] pos) (eT (eBin g fa fb)) :=
  PTof (pt_cmpR ho ha hb hm) fun σ H Q h => by
    have h2 := tTest_of σ H Q h
    exact tOp_of (fa := fa) (fb := fb) hg σ H _ h2
theorem vt_val (ha : VE X W e fa) (he : ∀ whole, isTrue e X.env whole = (do let v ← whole; standAt e.pos; holding [v] (truthy v)) := by intro _; rfl) : VT X W e (eT fa) := PTof (pt_val ha he) fun σ H Q h => tTest_of σ H Q h
/-- == and != of plain data -/
def eqP (x y : D) : Option D := if plain 20 x && plain 20 y then some (.bl (eqD x y)) else none
def neP (x y : D) : Option D := if plain 20 x && plain 20 y then some (.bl (!eqD x y)) else none
variable {k : Nat}
theorem huOf (hr : Room k X.A) : X.A.units + 64 < cLine := by have := hr.un; omega
theorem huOf1 (hr : Room k X.A) : X.A.units + 65 < cLine := by have := hr.un; omega
/-- is None -/
def isNone : D → Bool
  | .non => true
  | _ => false
theorem Rp.isNon {K : PySem.W.Frag} {mg : Str → Option Value} {F : Addr → Prop} {c : List Addr} {H : Hp} {v : V} {d : D} (h : Rp K mg F c H v d) : decide (v = .non) = isNone d := by cases h <;> rfl
def isN (neg : Bool) : D → D → Option D
  | x, .non => some (.bl (if neg then !isNone x else isNone x))
  | _, _ => none
theorem ok_notN : OpOk X W (fun x y H Q => y = .non ∧ Q (.bl (!decide (x = .non))) H) (sc2 (isN true)) := opOk_sc fun F c H x y dx dy d Q hx hy e q => by
  unfold isN at e
  split at e
  · cases hy; cases e; exact ⟨rfl, q _ (by rw [hx.isNon]; exact .bl _)⟩
  · cases e
theorem ve_notN (ha : VE X W e fa) (hb : VE X W a fb) : VE X W (.Compare e [.IsNot] [a] pos) (eBin (sc2 (isN true)) fa fb) := ve_cmp op_notN ok_notN ha hb (nomark _)
/-- in: a text in a text; plain data in a list or a tuple -/
def inText (i j : Str) : Bool := !(Builtin.Str.occurrences j i 0 j.length 1).isEmpty
theorem any_toPys (x : D) : ∀ ys : List D, (toPys ys).any (fun z => PyData.eqv z (toPy x)) = ys.any fun z => eqD z x
  | [] => by simp [toPys]
  | y :: ys => by simp only [toPys, List.any_cons, any_toPys x ys]; rfl
theorem op_inR (hu : X.A.units + 65 < cLine) : OpR X (compareOp .In) (fun x y H Q => (∃ i j, x = .str i ∧ y = .str j ∧ Q (.bl (!(Builtin.Str.occurrences j i 0 j.length 1).isEmpty)) H) ∨ rInD X.K x y H Q) := OpR.or op_in_str (op_inD hu)
theorem op_notinR (hu : X.A.units + 65 < cLine) : OpR X (compareOp .NotIn) (fun x y H Q => (∃ i j, x = .str i ∧ y = .str j ∧ Q (.bl (!(!(Builtin.Str.occurrences j i 0 j.length 1).isEmpty))) H) ∨ rNotInD X.K x y H Q) := OpR.or L2.op_notin_str (op_notInD hu)
/-- a <= b <= c, of ints -/
def eChain (p q : Int → Int → Bool) (fa fb fc : M D) : M D := fun env st => (fa env st).bind fun x e s => (fb e s).bind fun y e s => match x, y with
  | .int i, .int j => if p i j then (fc e s).bind fun z e s => match z with
      | .int l => .ok (.bl (q j l)) e s
      | _ => .bad
    else .ok (.bl false) e s
  | _, _ => .bad
end
end VE
namespace VE
open PySem PySem.Spec PyProof.Rows L2
variable [VEnv]
section
variable {X : Cx} {W : WX} {e a d : Expr} {rest : List Expr} {pos : Pos} {fa fb fc : M D} {ta tb tc : M Bool}
theorem chain_of {p q : Int → Int → Bool} : ∀ σ H Q, tE X W (eChain p q fa fb fc) σ H Q → tChain (rI0 fun i j => .bl (p i j)) (rI0 fun i j => .bl (q i j)) (tE X W fa) (tE X W fb) (tE X W fc) σ H Q := fun σ H Q ⟨b, F, c, env, st, e1, e2, r0, h⟩ =>
  tE_at e1 e2 r0 h fun v dx env1 st1 F1 c1 H1 s1 r1 rp1 p1 => tE_at e1 e2 r1 p1 fun u dy env2 st2 F2 c2 H2 s2 r2 rp2 p2 => by
    split at p2
    · rename_i i j
      cases rp1; cases rp2
      refine ⟨_, _, rfl, rfl, _, rfl, ?_⟩
      cases hp : p i j with
      | true =>
        rw [hp, if_pos rfl] at p2
        rw [if_pos rfl]
        exact tE_at e1 e2 r2 p2 fun w dz env3 st3 F3 c3 H3 s3 r3 rp3 p3 => by
          split at p3
          · cases rp3; exact ⟨_, _, rfl, rfl, Post.here r3 p3 _ (.bl _)⟩
          · exact p3.elim
      | false =>
        rw [hp, if_neg Bool.false_ne_true] at p2
        rw [if_neg Bool.false_ne_true]
        exact Post.here r2 p2 _ (.bl _)
    · exact p2.elim
theorem ve_chain {op op' : CmpOp} {p q : Int → Int → Bool} (ho : OpR X (compareOp op) (rI0 fun i j => .bl (p i j))) (ho' : OpR X (compareOp op') (rI0 fun i j => .bl (q i j))) (ha : VE X W e fa) (hb : VE X W a fb) (hc : VE X W d fc)
    (hm : lastMarks [op, op'] [a, d] = false := by with_unfolding_all rfl) : VE X W (.Compare e [op, op'] [a, d] pos) (eChain p q fa fb fc) := PEof (pe_chain ho ho' ha hb hc hm) chain_of
@[reducible] def VW (X : Cx) (W : WX) (e : Expr) (f : M Bool) : Prop := PW X e (tT X W f)
def bAnd (ta tb : M Bool) : M Bool := fun env st => (ta env st).bind fun t env st => if t then tb env st else .ok false env st
def bOr (ta tb : M Bool) : M Bool := fun env st => (ta env st).bind fun t env st => if t then .ok true env st else tb env st
def bNot (ta : M Bool) : M Bool := fun env st => (ta env st).bind fun t env st => .ok (!t) env st
theorem vw_and1 (h : VT X W e ta) : VW X W (.BoolOp .And [e] pos) ta := pw_and1 h
theorem vw_or1 (h : VT X W e ta) : VW X W (.BoolOp .Or [e] pos) ta := pw_or1 h
theorem vw_and (h : VT X W e ta) (h2 : VW X W (.BoolOp .And (a :: rest) pos) tb) : VW X W (.BoolOp .And (e :: a :: rest) pos) (bAnd ta tb) := PWof (pw_and h h2) fun σ H Q ⟨b, F, c, env, st, e1, e2, r0, h⟩ =>
  tT_at e1 e2 r0 h fun t env1 st1 F1 c1 H1 s1 r1 p1 => by
    cases t with
    | true => rw [if_pos rfl] at p1 ⊢; exact ⟨b, F1, c1, env1, st1, e1, e2, r1, p1⟩
    | false => rw [if_neg Bool.false_ne_true] at p1 ⊢; exact Post.here r1 p1
theorem vw_or (h : VT X W e ta) (h2 : VW X W (.BoolOp .Or (a :: rest) pos) tb) : VW X W (.BoolOp .Or (e :: a :: rest) pos) (bOr ta tb) := PWof (pw_or h h2) fun σ H Q ⟨b, F, c, env, st, e1, e2, r0, h⟩ =>
  tT_at e1 e2 r0 h fun t env1 st1 F1 c1 H1 s1 r1 p1 => by
    cases t with
    | false => rw [if_neg Bool.false_ne_true] at p1 ⊢; exact ⟨b, F1, c1, env1, st1, e1, e2, r1, p1⟩
    | true => rw [if_pos rfl] at p1 ⊢; exact Post.here r1 p1
theorem vt_not (h : VT X W e ta) : VT X W (.UnaryOp .Not e pos) (bNot ta) := PTof (pt_not h) fun σ H Q ⟨b, F, c, env, st, e1, e2, r0, h⟩ => tT_at e1 e2 r0 h fun t env1 st1 F1 c1 H1 s1 r1 p1 => Post.here r1 p1
def eAnd (fa fb : M D) : M D := fun env st => (fa env st).bind fun x env st => match x with
  | .bl true => fb env st
  | .bl false => .ok (.bl false) env st
  | _ => .bad
def eOr (fa fb : M D) : M D := fun env st => (fa env st).bind fun x env st => match x with
  | .bl true => .ok (.bl true) env st
  | .bl false => fb env st
  | _ => .bad
def eNot (fa : M D) : M D := fun env st => (fa env st).bind fun x env st => match x with
  | .bl t => .ok (.bl (!t)) env st
  | _ => .bad
theorem ve_one {op : BoolOp} (h : VE X W e fa) : VE X W (.BoolOp op [e] pos) fa := pe_one h
theorem ve_and (h : VE X W e fa) (h2 : VE X W (.BoolOp .And (a :: rest) pos) fb) : VE X W (.BoolOp .And (e :: a :: rest) pos) (eAnd fa fb) := PEof (pe_and h h2) fun σ H Q ⟨b, F, c, env, st, e1, e2, r0, h⟩ =>
  tE_at e1 e2 r0 h fun v dx env1 st1 F1 c1 H1 s1 r1 rp1 p1 => by
    split at p1
    · cases rp1; exact ⟨true, rfl, by rw [if_pos rfl]; exact ⟨b, F1, c1, env1, st1, e1, e2, r1, p1⟩⟩
    · cases rp1; exact ⟨false, rfl, by rw [if_neg Bool.false_ne_true]; exact Post.here r1 p1 _ (.bl _)⟩
    · exact p1.elim
theorem ve_or (h : VE X W e fa) (h2 : VE X W (.BoolOp .Or (a :: rest) pos) fb) : VE X W (.BoolOp .Or (e :: a :: rest) pos) (eOr fa fb) := PEof (pe_or h h2) fun σ H Q ⟨b, F, c, env, st, e1, e2, r0, h⟩ =>
  tE_at e1 e2 r0 h fun v dx env1 st1 F1 c1 H1 s1 r1 rp1 p1 => by
    split at p1
    · cases rp1; exact ⟨true, rfl, by rw [if_pos rfl]; exact Post.here r1 p1 _ (.bl _)⟩
    · cases rp1; exact ⟨false, rfl, by rw [if_neg Bool.false_ne_true]; exact ⟨b, F1, c1, env1, st1, e1, e2, r1, p1⟩⟩
    · exact p1.elim
theorem ve_not (h : VE X W e fa) : VE X W (.UnaryOp .Not e pos) (eNot fa) := PEof (pe_not h) fun σ H Q ⟨b, F, c, env, st, e1, e2, r0, h⟩ =>
  tE_at e1 e2 r0 h fun v dx env1 st1 F1 c1 H1 s1 r1 rp1 p1 => by
    split at p1
    · cases rp1; exact ⟨_, rfl, Post.here r1 p1 _ (.bl _)⟩
    · exact p1.elim
def eIf (t : M Bool) (fa fb : M D) : M D := fun env st => (t env st).bind fun t env st => if t then fa env st else fb env st
theorem ve_if (h : VT X W d tc) (ha : VE X W e fa) (hb : VE X W a fb) : VE X W (.IfExp d e a pos) (eIf tc fa fb) := PEof (pe_ifExp h ha hb) fun σ H Q ⟨b, F, c, env, st, e1, e2, r0, h⟩ =>
  tT_at e1 e2 r0 h fun t env1 st1 F1 c1 H1 s1 r1 p1 => by
    cases t with
    | true => rw [if_pos rfl] at p1 ⊢; exact ⟨b, F1, c1, env1, st1, e1, e2, r1, p1⟩
    | false => rw [if_neg Bool.false_ne_true] at p1 ⊢; exact ⟨b, F1, c1, env1, st1, e1, e2, r1, p1⟩

variable {es : List Expr} {fs : M (List D)}
def eNil : M (List D) := fun env st => .ok [] env st
def eCons (fa : M D) (fs : M (List D)) : M (List D) := fun env st => (fa env st).bind fun d env st => (fs env st).bind fun ds env st => .ok (d :: ds) env st
def itemsOf : D → Option (List D)
  | .lst xs => some xs
  | .tup xs => some xs
  | _ => none
theorem va_nil : VA X W [] eNil := PAof pa_nil fun σ H Q ⟨b, F, c, env, st, e1, e2, r0, h⟩ => Post.here r0 h _ .nil
theorem va_cons (h : VE X W e fa) (h2 : VA X W es fs) (hs : starEach (e :: es) X.env = (false, eval e X.env) :: starEach es X.env := by rfl) : VA X W (e :: es) (eCons fa fs) := PAof (pa_cons h h2 hs) fun σ H Q ⟨b, F, c, env, st, e1, e2, r0, h⟩ =>
  tE_at e1 e2 r0 h fun v dx env1 st1 F1 c1 H1 s1 r1 rp1 p1 => tA_at e1 e2 r1 p1 fun vs ds env2 st2 F2 c2 H2 s2 r2 rp2 p2 => Post.here r2 p2 _ (.cons (rp1.stp s2) rp2)
theorem Rp.items {K : PySem.W.Frag} {mg : Str → Option Value} {F : Addr → Prop} {c : List Addr} {H : Hp} {v : V} {d : D} {ds : List D} (h : Rp K mg F c H v d) (e : itemsOf d = some ds) : ∃ a vs, v = .ref a ∧ (SqT K H a vs ∨ SqL K H a vs) ∧ Rps K mg F c H vs ds := by
  cases h with
  | lst f h r => cases e; exact ⟨_, _, rfl, .inr (SqL.of h), r⟩
  | tup h r => cases e; exact ⟨_, _, rfl, .inl h.sq, r⟩
  | _ => cases e
def eTup (fs : M (List D)) : M D := fun env st => (fs env st).bind fun ds env st => if ds.length ≤ 16777216 then .ok (.tup ds) env st else .bad
def eLst (fs : M (List D)) : M D := fun env st => (fs env st).bind fun ds env st => if ds.length ≤ 16777216 then .ok (.lst ds) env st else .bad
theorem ve_tup {x1 : Nat} (h : VA X W es fs) : VE X W (.Tuple es x1 pos) (eTup fs) := PEof (pe_tup h) fun σ H Q ⟨b, F, c, env, st, e1, e2, r0, h⟩ =>
  tA_at e1 e2 r0 h fun vs ds env1 st1 F1 c1 H1 s1 r1 rp1 p1 => by
    split at p1
    · rename_i hl
      refine ⟨by rw [rp1.length, sizeLine_eq]; exact hl, fun p hp => ?_⟩
      obtain ⟨s2, r2⟩ := r1.newF hp (.tup vs)
      exact p1 _ _ _ s2 r2 _ (.tup (.inl ⟨.inr rfl, upd_same⟩) (rp1.stp s2))
    · exact p1.elim
theorem vf_lst (h : VA X W es fs) : VF X W (.List es pos) (eLst fs) := PEof (pe_lst h) fun σ H Q ⟨b, F, c, env, st, e1, e2, r0, h⟩ =>
  tA_at e1 e2 r0 h fun vs ds env1 st1 F1 c1 H1 s1 r1 rp1 p1 => by
    split at p1
    · rename_i hl
      refine ⟨by rw [rp1.length, sizeLine_eq]; exact hl, fun p hp => ?_⟩
      obtain ⟨s2, r2⟩ := r1.newO hp (.lst vs)
      exact p1 _ _ _ s2 r2 p (r1.nF hp) (r1.nC hp) (r1.H0none hp) (r1.nO hp) ⟨vs, upd_same, rp1.stp s2⟩
    · exact p1.elim

/-- a rule that hands on a fresh thing -/
def OpOkF (X : Cx) (W : WX) (r : R2) (g : D → D → Option D) : Prop := ∀ (F : Addr → Prop) (c : List Addr) (H : Hp) (x y : V) (dx dy d : D) (Q : VK), Rp X.K X.mg F c H x dx → Rp X.K X.mg F c H y dy → g dx dy = some d →
  (∀ p o, H p = none → (∀ F' : Addr → Prop, Stp F c H F' c (upd H p o) → OwnAt X.K X.mg F' c (upd H p o) p d) → Q (.ref p) (upd H p o)) → r x y H Q
theorem fresh_of {b : Bs} {F : Addr → Prop} {c : List Addr} {env : EnvD} {st : Sto} {σ : L2.St} {H : Hp} {d : D} {Q : VK} (r1 : Rel b F c env st σ H)
    (p1 : Post b W F c σ H (fun d env _ F c H' => ∀ a, ¬ F a → a ∉ c → b.H0 a = none → (∀ i, ¬ OwnA env σ i a) → OwnAt b.K b.mg F c H' a d → Q (.ref a) H') (.ok d env st))
    (p : Addr) (o : HO) (hp : H p = none) (ho : ∀ F' : Addr → Prop, Stp F c H F' c (upd H p o) → OwnAt b.K b.mg F' c (upd H p o) p d) : Q (.ref p) (upd H p o) := by
  obtain ⟨s2, r2⟩ := r1.newO hp o
  exact p1 _ _ _ s2 r2 p (r1.nF hp) (r1.nC hp) (r1.H0none hp) (r1.nO hp) (ho _ s2)
theorem vf_op {op : Operator} {r : R2} {g : D → D → Option D} (ho : OpR X (binaryOp op) r) (hg : OpOkF X W r g) (ha : VE X W e fa) (hb : VE X W a fb) : VF X W (.BinOp e op a pos) (eBin (sc2 g) fa fb) := PEof (pe_op ho ha hb) fun σ H Q ⟨b, F, c, env, st, e1, e2, r0, h⟩ =>
  tE_at e1 e2 r0 h fun v dx env1 st1 F1 c1 H1 s1 r1 rp1 p1 => tE_at e1 e2 r1 p1 fun u dy env2 st2 F2 c2 H2 s2 r2 rp2 p2 => by
    unfold sc2 ret at p2
    split at p2
    · rename_i d ed
      rw [e1, e2] at rp1 rp2
      exact hg F2 c2 H2 v u dx dy d Q (rp1.stp s2) rp2 ed fun p o hp ho => fresh_of r2 p2 p o hp (by rw [e1, e2]; exact ho)
    · exact p2.elim
def catL : D → D → Option D
  | .lst xs, .lst ys => if xs.length + ys.length ≤ 16777216 then some (.lst (xs ++ ys)) else none
  | _, _ => none
theorem ok_cat : OpOkF X W rCat catL := fun F c H x y dx dy d Q hx hy e q => by
  unfold catL at e
  split at e
  · split at e
    · rename_i hl
      cases e
      cases hx with
      | lst f h r =>
        cases hy with
        | lst f' h' r' =>
          refine ⟨_, _, _, _, rfl, rfl, h, h', by rw [r.length, r'.length, sizeLine_eq]; exact hl, fun p hp => q p _ hp fun F' s => ⟨_, upd_same, (r.stp s).append (r'.stp s)⟩⟩
    · cases e
  · cases e
theorem vf_cat (ha : VE X W e fa) (hb : VE X W a fb) : VF X W (.BinOp e .Add a pos) (eBin (sc2 catL) fa fb) := vf_op op_cat ok_cat ha hb

def ixD : D → D → Option D
  | .lst xs, .int i => atI xs i
  | .tup xs, .int i => atI xs i
  | .scr xs, .int i => (atI xs i).map .int
  | .str z, .int i => if z.length ≤ 16777216 then (atI z.cps.toList i).map fun c => .str ⟨#[c]⟩ else none
  | _, _ => none
theorem Rps.atI {K : PySem.W.Frag} {mg : Str → Option Value} {F : Addr → Prop} {c : List Addr} {H : Hp} {vs : List V} {ds : List D} {i : Int} {d : D} (r : Rps K mg F c H vs ds) (e : L2.atI ds i = some d) : ∃ v, L2.atI vs i = some v ∧ Rp K mg F c H v d := by
  unfold L2.atI at e ⊢
  rw [r.length]
  cases h : ixN ds.length i with
  | none => rw [h] at e; cases e
  | some j => rw [h] at e; exact r.get' e
theorem atI_map {α β : Type} (f : α → β) (xs : List α) (i : Int) : L2.atI (xs.map f) i = (L2.atI xs i).map f := by
  unfold L2.atI
  rw [List.length_map]
  cases ixN xs.length i with
  | none => rfl
  | some j => simp
theorem ok_ix : OpOk X W (rIx X.K) (sc2 ixD) := opOk_sc fun F c H x y dx dy d Q hx hy e q => by
  unfold ixD at e
  split at e
  · cases hy
    cases hx with
    | lst f h r => obtain ⟨v, hv, rp⟩ := r.atI e; exact .inl ⟨_, _, _, v, rfl, rfl, SqL.of h, hv, q v rp⟩
  · cases hy
    cases hx with
    | tup h r => obtain ⟨v, hv, rp⟩ := r.atI e; exact .inr (.inl ⟨_, _, _, v, rfl, rfl, h.sq, hv, q v rp⟩)
  · rename_i xs i
    cases hy
    cases hx with
    | scr h =>
      cases hz : L2.atI xs i with
      | none => rw [hz] at e; cases e
      | some z =>
        rw [hz] at e; cases e
        exact .inl ⟨_, _, _, .int z, rfl, rfl, h.sq, by rw [atI_map, hz]; rfl, q _ (.int z)⟩
  · rename_i z i
    cases hy; cases hx
    split at e
    · rename_i hl
      cases hz : L2.atI z.cps.toList i with
      | none => rw [hz] at e; cases e
      | some ch =>
        rw [hz] at e; cases e
        exact .inr (.inr ⟨_, _, _, rfl, rfl, by rw [sizeLine_eq]; exact hl, hz, q _ (.str _)⟩)
    · cases e
  · cases e
theorem ve_ix (ha : VE X W e fa) (hb : VE X W a fb) (hs : PlainIx a := by exact fun _ _ => rfl) : VE X W (.Subscript e a pos) (eBin (sc2 ixD) fa fb) := PEof (pe_ix ix_seq ha hb hs) (tOp_of ok_ix)
end
end VE
namespace VE
open PySem PySem.Spec PyProof.Rows L2
variable [VEnv]
/-- how a statement ends: on; back with a value; back with a thing that is new; break; continue -/
inductive Fl where
  | nx
  | rt (d : D)
  | rf (d : D)
  | bk
  | ct
section
variable {X : Cx} {W : WX} {b : Bs} {F F' : Addr → Prop} {c c' : List Addr} {env : EnvD} {st : Sto} {σ : L2.St} {H H' : Hp} {D₀ : Ends}
def FlOk (b : Bs) (D₀ : Ends) (F : Addr → Prop) (c : List Addr) (σ : L2.St) (H : Hp) : Fl → Prop
  | .nx => D₀.nx σ H
  | .bk => D₀.bk σ H
  | .ct => D₀.ct σ H
  | .rt d => ∀ v, Rp b.K b.mg F c H v d → D₀.rt v H
  | .rf d => ∀ a, ¬ F a → a ∉ c → b.H0 a = none → OwnAt b.K b.mg F c H a d → D₀.rt (.ref a) H
def PostS (b : Bs) (W : WX) (F : Addr → Prop) (c : List Addr) (H : Hp) (P : Fl → EnvD → Sto → (Addr → Prop) → List Addr → L2.St → Hp → Prop) : R Fl → Prop
  | .ok fl env st => ∀ σ' F' c' H', Stp F c H F' c' H' → Rel b F' c' env st σ' H' → P fl env st F' c' σ' H'
  | .ex x env st => ∀ σ' F' c' H' cls d, Stp F c H F' c' H' → Rel b F' c' env st σ' H' → RpX b.K b.mg F' c' H' cls d x → W cls d σ' H'
  | .bad => False
theorem PostS.mono {P P' : Fl → EnvD → Sto → (Addr → Prop) → List Addr → L2.St → Hp → Prop} {r : R Fl} (h : PostS b W F c H P r)
    (k : ∀ x env st F' c' σ' H', Stp F c H F' c' H' → Rel b F' c' env st σ' H' → P x env st F' c' σ' H' → P' x env st F' c' σ' H') : PostS b W F c H P' r := by
  cases r with
  | ok x env st => exact fun σ' F' c' H' s r => k _ _ _ _ _ _ _ s r (h σ' F' c' H' s r)
  | ex x env st => exact h
  | bad => exact h
theorem PostS.stp {P : Fl → EnvD → Sto → (Addr → Prop) → List Addr → L2.St → Hp → Prop} {r : R Fl} (s : Stp F c H F' c' H') (h : PostS b W F c H P r) : PostS b W F' c' H' P r := by
  cases r with
  | ok x env st => exact fun σ' F2 c2 H2 t r => h σ' F2 c2 H2 (s.trans t) r
  | ex x env st => exact fun σ' F2 c2 H2 cls d t r => h σ' F2 c2 H2 cls d (s.trans t) r
  | bad => exact h
/-- a statement behind a run that leaves the slots -/
theorem PostS.of {α : Type} {P : Fl → EnvD → Sto → (Addr → Prop) → List Addr → L2.St → Hp → Prop} {r : R α} {k : α → M Fl} (h : PostS b W F c H P (r.bind k)) :
    Post b W F c σ H (fun x env st F1 c1 H1 => PostS b W F1 c1 H1 P (k x env st)) r := by
  cases r with
  | ok x env st => exact fun F' c' H' s r => PostS.stp s h
  | ex x env st => exact fun F' c' H' cls d s r q => h σ F' c' H' cls d s r q
  | bad => exact h
theorem PostS.bind {P : Fl → EnvD → Sto → (Addr → Prop) → List Addr → L2.St → Hp → Prop} {r : R Fl} {k : Fl → M Fl} (h : PostS b W F c H P (r.bind k)) :
    PostS b W F c H (fun x env st F1 c1 σ1 H1 => PostS b W F1 c1 H1 P (k x env st)) r := by
  cases r with
  | ok x env st => exact fun σ' F' c' H' s r => PostS.stp s h
  | ex x env st => exact h
  | bad => exact h
theorem PostS.here {P : Fl → EnvD → Sto → (Addr → Prop) → List Addr → L2.St → Hp → Prop} {x : Fl} (r : Rel b F c env st σ H) (h : PostS b W F c H P (.ok x env st)) : P x env st F c σ H := h σ F c H .refl r
def tS (X : Cx) (W : WX) (g : M Fl) : TS := fun D₀ σ H => ∃ b F c env st, b.K = X.K ∧ b.mg = X.mg ∧ Rel b F c env st σ H ∧ PostS b W F c H (fun fl _ _ F c σ H => FlOk b D₀ F c σ H fl) (g env st)
@[reducible] def VS (X : Cx) (W : WX) (s : Stmt) (g : M Fl) : Prop := PS X s (tS X W g)
@[reducible] def VSs (X : Cx) (W : WX) (s : List Stmt) (g : M Fl) : Prop := PSs X s (tS X W g)
section
variable {β : Type} {P : Fl → EnvD → Sto → (Addr → Prop) → List Addr → L2.St → Hp → Prop}
theorem sE_at {f : M D} {k : D → M Fl} {Q : VK} (e1 : b.K = X.K) (e2 : b.mg = X.mg) (r : Rel b F c env st σ H) (p : PostS b W F c H P ((f env st).bind k))
    (hq : ∀ v d env' st' F' c' H', Stp F c H F' c' H' → Rel b F' c' env' st' σ H' → Rp b.K b.mg F' c' H' v d → PostS b W F' c' H' P (k d env' st') → Q v H') : tE X W f σ H Q :=
  ⟨b, F, c, env, st, e1, e2, r, (PostS.of p).mono fun d env' st' F' c' H' s r' q v rp => hq v d env' st' F' c' H' s r' rp q⟩
theorem sT_at {f : M Bool} {k : Bool → M Fl} {Q : Bool → Hp → Prop} (e1 : b.K = X.K) (e2 : b.mg = X.mg) (r : Rel b F c env st σ H) (p : PostS b W F c H P ((f env st).bind k))
    (hq : ∀ t env' st' F' c' H', Stp F c H F' c' H' → Rel b F' c' env' st' σ H' → PostS b W F' c' H' P (k t env' st') → Q t H') : tT X W f σ H Q :=
  ⟨b, F, c, env, st, e1, e2, r, (PostS.of p).mono fun t env' st' F' c' H' s r' q => hq t env' st' F' c' H' s r' q⟩
theorem sA_at {f : M (List D)} {k : List D → M Fl} {Q : List V → Hp → Prop} (e1 : b.K = X.K) (e2 : b.mg = X.mg) (r : Rel b F c env st σ H) (p : PostS b W F c H P ((f env st).bind k))
    (hq : ∀ vs ds env' st' F' c' H', Stp F c H F' c' H' → Rel b F' c' env' st' σ H' → Rps b.K b.mg F' c' H' vs ds → PostS b W F' c' H' P (k ds env' st') → Q vs H') : tA X W f σ H Q :=
  ⟨b, F, c, env, st, e1, e2, r, (PostS.of p).mono fun ds env' st' F' c' H' s r' q v rp => hq v ds env' st' F' c' H' s r' rp q⟩
theorem sF_at {f : M D} {k : D → M Fl} {Q : VK} (e1 : b.K = X.K) (e2 : b.mg = X.mg) (r : Rel b F c env st σ H) (p : PostS b W F c H P ((f env st).bind k))
    (hq : ∀ a d env' st' F' c' H', Stp F c H F' c' H' → Rel b F' c' env' st' σ H' → ¬ F' a → a ∉ c' → b.H0 a = none → (∀ i, ¬ OwnA env' σ i a) → OwnAt b.K b.mg F' c' H' a d → PostS b W F' c' H' P (k d env' st') → Q (.ref a) H') : tF X W f σ H Q :=
  ⟨b, F, c, env, st, e1, e2, r, (PostS.of p).mono fun d env' st' F' c' H' s r' q a h1 h2 h3 h4 h5 => hq a d env' st' F' c' H' s r' h1 h2 h3 h4 h5 q⟩
end
end
section
variable {X : Cx} {W : WX} {e a : Expr} {s : Stmt} {ss : List Stmt} {pos : Pos} {fa fb : M D} {ta : M Bool} {g g' : M Fl}
def sNx : M Fl := fun env st => .ok .nx env st
def sSeq (g g' : M Fl) : M Fl := fun env st => (g env st).bind fun fl env st => match fl with
  | .nx => g' env st
  | fl => .ok fl env st
theorem vss_nil : VSs X W [] sNx := PSsof pss_nil fun D₀ σ H ⟨b, F, c, env, st, e1, e2, r, p⟩ => PostS.here r p
theorem vss_cons (h : VS X W s g) (h2 : VSs X W ss g') : VSs X W (s :: ss) (sSeq g g') := PSsof (pss_cons h h2) fun D₀ σ H ⟨b, F, c, env, st, e1, e2, r, p⟩ =>
  ⟨b, F, c, env, st, e1, e2, r, (PostS.bind p).mono fun fl env' st' F' c' σ' H' s' r' q => by
    cases fl with
    | nx => exact ⟨b, F', c', env', st', e1, e2, r', q⟩
    | _ => exact PostS.here r' q⟩
theorem vss_one (h : VS X W s g) : VSs X W [s] g := pss_one h
def sExpr (fa : M D) : M Fl := fun env st => (fa env st).bind fun _ env st => .ok .nx env st
theorem vs_expr (h : VE X W e fa) (hs : swapsWith e none pos.line X.env = pure false := by rfl) : VS X W (.Expr e pos) (sExpr fa) := PSof (ps_expr h hs) fun D₀ σ H ⟨b, F, c, env, st, e1, e2, r, p⟩ =>
  sE_at e1 e2 r p fun v d env1 st1 F1 c1 H1 s1 r1 rp1 p1 => PostS.here r1 p1
def sRet (fa : M D) : M Fl := fun env st => (fa env st).bind fun d env st => .ok (.rt d) env st
theorem vs_ret (h : VE X W e fa) : VS X W (.Return (some e) pos) (sRet fa) := PSof (ps_ret h) fun D₀ σ H ⟨b, F, c, env, st, e1, e2, r, p⟩ =>
  sE_at e1 e2 r p fun v d env1 st1 F1 c1 H1 s1 r1 rp1 p1 => PostS.here r1 p1 v rp1
def sIf (t : M Bool) (g g' : M Fl) : M Fl := fun env st => (t env st).bind fun t env st => if t then g env st else g' env st
theorem vs_if {ss' : List Stmt} (h : VT X W e ta) (h1 : VSs X W ss g) (h2 : VSs X W ss' g') : VS X W (.If e ss ss' pos) (sIf ta g g') := PSof (ps_if h h1 h2) fun D₀ σ H ⟨b, F, c, env, st, e1, e2, r, p⟩ =>
  sT_at e1 e2 r p fun t env1 st1 F1 c1 H1 s1 r1 p1 => by
    cases t with
    | true => rw [if_pos rfl] at p1 ⊢; exact ⟨b, F1, c1, env1, st1, e1, e2, r1, p1⟩
    | false => rw [if_neg Bool.false_ne_true] at p1 ⊢; exact ⟨b, F1, c1, env1, st1, e1, e2, r1, p1⟩
def sSet (i : Nat) (fa : M D) : M Fl := fun env st => (fa env st).bind fun d env st => .ok .nx (env.set i (.va d)) st
def sSetF (i : Nat) (fa : M D) : M Fl := fun env st => (fa env st).bind fun d env st => .ok .nx (env.set i (.ow d)) st
theorem vs_set {i : Nat} {x : Str} {pos' : Pos} (hN : X.N.Nodup) (h : VE X W e fa) (hi : X.N[i]? = some x := by rfl) (hx : Loc X.env.scope x := by first | exact Or.inl rfl | exact Or.inr rfl) (hs : swapsWith e (some (.Name x pos')) pos.line X.env = pure false := by rfl)
    (hf : X.fn x = true ∨ X.env.scope.names.lookup x = some .local := by first | exact .inl rfl | exact .inr rfl | assumption) : VS X W (.Assign [.Name x pos'] e pos) (sSet i fa) := PSof (ps_set hN hi hx h hs hf) fun D₀ σ H ⟨b, F, c, env, st, e1, e2, r, p⟩ =>
  sE_at e1 e2 r p fun v d env1 st1 F1 c1 H1 s1 r1 rp1 p1 => PostS.here (r1.put rp1) p1
theorem vs_setF {i : Nat} {x : Str} {pos' : Pos} (hN : X.N.Nodup) (h : VF X W e fa) (hi : X.N[i]? = some x := by rfl) (hx : Loc X.env.scope x := by first | exact Or.inl rfl | exact Or.inr rfl) (hs : swapsWith e (some (.Name x pos')) pos.line X.env = pure false := by rfl)
    (hf : X.fn x = true ∨ X.env.scope.names.lookup x = some .local := by first | exact .inl rfl | exact .inr rfl | assumption) : VS X W (.Assign [.Name x pos'] e pos) (sSetF i fa) := PSof (ps_set hN hi hx h hs hf) fun D₀ σ H ⟨b, F, c, env, st, e1, e2, r, p⟩ =>
  sF_at e1 e2 r p fun a d env1 st1 F1 c1 H1 s1 r1 h1 h2 h3 h4 h5 p1 => PostS.here (r1.take h1 h2 h3 h4 h5) p1
/-- targets: what a value is stored to -/
def GSem (X : Cx) (g : TG) (is : List Nat) (t : D → EnvD → Option EnvD) : Prop := ∀ (b : Bs) (F : Addr → Prop) (c : List Addr) (env : EnvD) (st : Sto) (σ : L2.St) (H : Hp) (v : V) (d : D) (env' : EnvD) (Q : L2.St → Hp → Prop), b.K = X.K → b.mg = X.mg → Rel b F c env st σ H → Rp b.K b.mg F c H v d → t d env = some env' →
  (∀ σ', Rel b F c env' st σ' H → σ'.length = σ.length → (∀ i, i ∉ is → σ'[i]? = σ[i]?) → Q σ' H) → g v σ H Q
def VG (X : Cx) (tg : Expr) (g : TG) (is : List Nat) (t : D → EnvD → Option EnvD) : Prop := PG X tg g ∧ GSem X g is t
def gN (i : Nat) : D → EnvD → Option EnvD := fun d env => some (env.set i (.va d))
theorem vg_name {i : Nat} {x : Str} (hN : X.N.Nodup) (hi : X.N[i]? = some x := by rfl) (hx : Loc X.env.scope x := by first | exact Or.inl rfl | exact Or.inr rfl) (hf : X.fn x = true ∨ X.env.scope.names.lookup x = some .local := by first | exact .inl rfl | exact .inr rfl | assumption) : VG X (.Name x pos) (gName i) [i] (gN i) :=
  ⟨pg_name hN hi hx hf, fun b F c env st σ H v d env' Q _ _ r rp e q => by cases e; exact q _ (r.put rp) (List.length_set ..) fun j hj => List.getElem?_set_ne (fun e => hj (by rw [e]; exact List.mem_singleton.mpr rfl))⟩
def VGs (X : Cx) (ts : List Expr) (g : TGs) (is : List Nat) (t : List D → EnvD → Option EnvD) : Prop := PGs X ts g ∧ ∀ (b : Bs) (F : Addr → Prop) (c : List Addr) (env : EnvD) (st : Sto) (σ : L2.St) (H : Hp) (vs : List V) (ds : List D) (env' : EnvD) (Q : L2.St → Hp → Prop), b.K = X.K → b.mg = X.mg → Rel b F c env st σ H → Rps b.K b.mg F c H vs ds → t ds env = some env' →
  (∀ σ', Rel b F c env' st σ' H → σ'.length = σ.length → (∀ i, i ∉ is → σ'[i]? = σ[i]?) → Q σ' H) → g vs σ H Q
def gsN : List D → EnvD → Option EnvD
  | [], env => some env
  | _, _ => none
def gsC (t : D → EnvD → Option EnvD) (u : List D → EnvD → Option EnvD) : List D → EnvD → Option EnvD
  | d :: ds, env => (t d env).bind (u ds)
  | _, _ => none
theorem vgs_nil : VGs X [] gNil [] gsN := ⟨pgs_nil, fun b F c env st σ H vs ds env' Q _ _ r rp e q => by
  unfold gsN at e
  split at e
  · cases rp; cases e; exact ⟨rfl, q _ r rfl fun _ _ => rfl⟩
  · cases e⟩
theorem vgs_cons {es : List Expr} {t : D → EnvD → Option EnvD} {u : List D → EnvD → Option EnvD} {is js : List Nat} {g : TG} {g2 : TGs} (h : VG X e g is t) (h2 : VGs X es g2 js u) (hs : (assignEach (e :: es) X.env).map (·.2) = assign e X.env :: (assignEach es X.env).map (·.2) := by rfl) : VGs X (e :: es) (gCons g g2) (is ++ js) (gsC t u) := by
  obtain ⟨hg, kg⟩ := h
  obtain ⟨hg2, kg2⟩ := h2
  refine ⟨pgs_cons hg hg2 hs, fun b F c env st σ H vs ds env' Q e1 e2 r rp e q => ?_⟩
  cases rp with
  | nil => cases e
  | cons h hs' =>
    rename_i v vs d ds
    obtain ⟨env1, ea, eb⟩ := Option.bind_eq_some_iff.mp (show (t d env).bind (u ds) = some env' from e)
    exact ⟨_, _, rfl, kg b F c env st σ H _ d env1 _ e1 e2 r h ea fun σ' r' l1 k1 => kg2 b F c env1 st σ' H _ ds env' Q e1 e2 r' hs' eb fun σ2 r2 l2 k2 => q σ2 r2 (l2.trans l1) fun i hi => by
      simp only [List.mem_append, not_or] at hi
      rw [k2 i hi.2, k1 i hi.1]⟩
def gT (n : Nat) (t : List D → EnvD → Option EnvD) : D → EnvD → Option EnvD
  | .tup ds, env => if ds.length = n then t ds env else none
  | _, _ => none
theorem vg_tup {es : List Expr} {k n : Nat} {is : List Nat} {t : List D → EnvD → Option EnvD} {g : TGs} (hc : X.calm = true) (h : VGs X es g is t) (hn : (assignEach es X.env).length = n := by rfl) (hst : (assignEach es X.env).findIdx? (·.1) = none := by rfl) : VG X (.Tuple es k pos) (gTup X.K n g) is (gT n t) := by
  obtain ⟨hg, kg⟩ := h
  refine ⟨pg_tup hc hg hn hst, fun b F c env st σ H v d env' Q e1 e2 r rp e q => ?_⟩
  unfold gT at e
  split at e
  · split at e
    · rename_i hl
      cases rp with
      | tup h hs => exact ⟨_, _, rfl, e1 ▸ h.sq, by rw [hs.length]; exact hl, kg b F c env st σ H _ _ env' Q e1 e2 r hs e q⟩
    · cases e
  · cases e
def sAsg (t : D → EnvD → Option EnvD) (fa : M D) : M Fl := fun env st => (fa env st).bind fun d env st => match t d env with
  | some env => .ok .nx env st
  | none => .bad
theorem vs_asg {tg : Expr} {is : List Nat} {t : D → EnvD → Option EnvD} {gg : TG} (h : VE X W e fa) (hg : VG X tg gg is t) (hs : swapsWithSole [tg] e pos.line X.env = pure false := by rfl) (hw : swappedStores [tg] e X.env = pure none := by rfl)
    (h1 : (assignEach [tg] X.env).map (·.2) = [assign tg X.env] := by rfl) : VS X W (.Assign [tg] e pos) (sAsg t fa) := by
  obtain ⟨hg, kg⟩ := hg
  refine PSof (ps_asg h hg hs hw h1) fun D₀ σ H ⟨b, F, c, env, st, e1, e2, r, p⟩ => sE_at e1 e2 r p fun v d env1 st1 F1 c1 H1 s1 r1 rp1 p1 => ?_
  split at p1
  · rename_i env' e
    exact kg b F1 c1 env1 st1 σ H1 v d env' _ e1 e2 r1 rp1 e fun σ' r' _ _ => PostS.here (P := fun fl _ _ F c σ H => FlOk b D₀ F c σ H fl) r' p1
  · exact p1.elim
end
end VE
namespace L2Z
open PySem PySem.Spec PyProof.Rows L2
/-- a class without an own __init__ -/
def Pla (K : PySem.W.Frag) (cls : Value) : Prop := ∀ C f : Addr, cls = .ref C → PySem.W.findIn K (.ref C) "__init__" ≠ some (some (.ref f))
def Zz (K : PySem.W.Frag) (cls : Value) (d : Option Addr) : Obj → Prop := fun o => o.cls = cls ∧ o.dict = d ∧ (Pla K cls → PXN.CtxN o)
section
variable {K : PySem.W.Frag} {cls : Value} {d : Option Addr} {o : Obj} {B h : Heap} {l : List Env} {a L : Addr} {Z Z' : Obj → Prop}
theorem Zz.steady : PXN.Steady1 (Zz K cls d) := fun o v h => ⟨PXN.steady_cls o v h.1, PXN.steady_dict o v h.2.1, fun p => PXN.steady_ctx o v (h.2.2 p)⟩
theorem Zz.zc (h : Zz K cls d o) : Zc cls d o := ⟨h.1, h.2.1⟩
theorem Zz.zn (p : Pla K cls) (h : Zz K cls d o) : L2N.Zn cls d o := ⟨h.1, h.2.1, h.2.2 p⟩
theorem Zz.ofN (h : L2N.Zn cls d o) : Zz K cls d o := ⟨h.1, h.2.1, fun _ => h.2.2⟩
theorem Zz.ofC (p : ¬ Pla K cls) (h : Zc cls d o) : Zz K cls d o := ⟨h.1, h.2, fun q => absurd q p⟩
theorem sky_imp (z : ∀ o, Z o → Z' o) (x : Sky B l a Z L h) : Sky B l a Z' L h := by
  rcases x with ⟨q1, q2, q3, oe, vs, q4, q5, q6⟩ | x | x
  · exact .inl ⟨q1, q2, q3, oe, vs, q4, z _ q5, q6⟩
  · exact .inr (.inl (L2H.flyingZ_imp z x))
  · exact .inr (.inr ⟨x.1, x.2.1, x.2.2.1, L2H.tracedZ_imp z x.2.2.2⟩)
end
/-- an error in the air of X -/
def XE (X : Cx) (W : WX) (u : Value) (s' : Shared) : Prop :=
  ∃ (a : Addr) (B : Heap) (sI : Shared) (pins : List (Addr × Obj)) (σ : L2.St) (H : Hp) (cls : Value) (d : Option Addr),
    u = .ref a ∧ Inv X pins σ H sI ∧ (∀ b o, sI.heap.get? b = some o → b ∉ frs X.stack → B.get? b = some o) ∧ sI.heap.UpToSlots s'.heap ∧
      Sky B X.stack a (Zz X.K cls d) X.env.locals s'.heap ∧ H a = none ∧ s'.os = sI.os ∧ AllBare s'.gens ∧ W cls d σ H
def Takes (X : Cx) (W : WX) : Prop := ∀ u s', XE X W u s' → X.xe u s'
/-- behind a call that let one out -/
def CX (P : Program) (w : World) (K : PySem.W.Frag) (outer : List Env) (H : Hp) (s : Shared) (E : XK) (u : Value) (s' : Shared) : Prop :=
  L2N.CX P w outer H s (fun cls d H => Pla K cls ∧ E cls d H) u s' ∨ L2.CX P w outer H s (fun cls d H => ¬ Pla K cls ∧ E cls d H) u s'
section
variable {X : Cx} {pins : List (Addr × Obj)} {σ : L2.St} {H : Hp} {sI s s' : Shared} {W : WX} {E : XK} {u : Value}
theorem Takes.imp {W' : WX} (t : Takes X W) (h : ∀ c d σ H, W' c d σ H → W c d σ H) : Takes X W' := fun u s' ⟨a, B, sI, pins, σ, H, cls, d, e, I, nb, up, sky, na, os, ag, w⟩ =>
  t u s' ⟨a, B, sI, pins, σ, H, cls, d, e, I, nb, up, sky, na, os, ag, h _ _ _ _ w⟩
theorem XE.ofN (x : L2N.XE X W u s') : XE X W u s' :=
  let ⟨a, B, sI, pins, σ, H, cls, d, e, I, nb, up, sky, r⟩ := x
  ⟨a, B, sI, pins, σ, H, cls, d, e, I, nb, up, sky_imp (fun _ => Zz.ofN) sky, r⟩
theorem XE.ofN' (x : L2N.XE X (fun cls d σ H => Pla X.K cls ∧ W cls d σ H) u s') : XE X W u s' :=
  let ⟨a, B, sI, pins, σ, H, cls, d, e, I, nb, up, sky, na, os, ag, _, w⟩ := x
  ⟨a, B, sI, pins, σ, H, cls, d, e, I, nb, up, sky_imp (fun _ => Zz.ofN) sky, na, os, ag, w⟩
theorem XE.ofC (x : L2.XE X (fun cls d σ H => ¬ Pla X.K cls ∧ W cls d σ H) u s') : XE X W u s' :=
  let ⟨a, B, sI, pins, σ, H, cls, d, e, I, nb, up, sky, na, os, ag, p, w⟩ := x
  ⟨a, B, sI, pins, σ, H, cls, d, e, I, nb, up, sky_imp (fun _ => Zz.ofC p) sky, na, os, ag, w⟩
theorem XE.split (x : XE X W u s') : L2N.XE X (fun cls d σ H => Pla X.K cls ∧ W cls d σ H) u s' ∨ L2.XE X (fun cls d σ H => ¬ Pla X.K cls ∧ W cls d σ H) u s' := by
  obtain ⟨a, B, sI, pins, σ, H, cls, d, e, I, nb, up, sky, na, os, ag, w⟩ := x
  by_cases p : Pla X.K cls
  · exact .inl ⟨a, B, sI, pins, σ, H, cls, d, e, I, nb, up, sky_imp (fun _ => Zz.zn p) sky, na, os, ag, p, w⟩
  · exact .inr ⟨a, B, sI, pins, σ, H, cls, d, e, I, nb, up, sky_imp (fun _ => Zz.zc) sky, na, os, ag, p, w⟩
theorem XE.of_call (I : Inv X pins σ H s) (hW : ∀ cls d H', E cls d H' → W cls d σ H') (c : CX X.prog X.w X.K X.stack H s E u s') : XE X W u s' := by
  rcases c with c | c
  · exact XE.ofN' (L2N.XE.of_call I (fun cls d H' h => ⟨h.1, hW _ _ _ h.2⟩) c)
  · exact XE.ofC (L2.XE.of_call I (fun cls d H' h => ⟨h.1, hW _ _ _ h.2⟩) c)
theorem takes_of (hs : X.stack = X.env :: X.outer) (hf : X.env.frame = some X.env.locals) (hex : X.ex = []) {E₁ : Value → Shared → Prop}
    (hx : X.xe = fun e s' => wpAny (model X.prog X.w) X.A (leaving X.env e) (fun _ s'' => CX X.prog X.w X.K X.outer X.H_0 X.s_0 E e s'') E₁ s') : Takes X (fun cls d _ H => E cls d H) := fun u s' x => by
  rw [hx]
  rcases x.split with x | x
  · exact wpAny_mono (L2N.XE.leave (E := fun cls d H => Pla X.K cls ∧ E cls d H) hs hf hex (fun _ _ _ _ h => h) x) (fun _ _ c => .inl c) fun _ _ z => z
  · exact wpAny_mono (L2.XE.leave (E := fun cls d H => ¬ Pla X.K cls ∧ E cls d H) hs hf hex (fun _ _ _ _ h => h) x) (fun _ _ c => .inr c) fun _ _ z => z
theorem passes_call (tk : Takes X W) (hW : ∀ cls d σ H, E cls d H → W cls d σ H) : Passes (CX X.prog X.w X.K) X E :=
  fun _ σ _ _ e s' I c => tk e s' (XE.of_call I (fun cls d H' h => hW cls d σ H' h) c)
theorem passAt (tk : Takes X W) (σ : L2.St) : PassesAt (CX X.prog X.w X.K) X σ (WE W σ) := fun _ _ _ e s' I c => tk e s' (XE.of_call I (fun _ _ _ h => h) c)
theorem Takes.n (tk : Takes X W) : L2N.Takes X W := fun u s' x => tk u s' (XE.ofN x)
theorem Takes.c (tk : Takes X W) : L2.Takes X (fun cls d σ H => ¬ Pla X.K cls ∧ W cls d σ H) := fun u s' x => tk u s' (XE.ofC x)
/-- raise of one without an own __init__; of one with it -/
theorem ps_raise {e : Expr} {t : L2.St → Hp → XK → Prop} {pos : Pos} (hc : X.calm = true) (tk : Takes X W) (he : L2N.PMk X e t) : PS X (.Raise (some e) none pos) (fun _ σ H => t σ H fun cls d H' => W cls d σ H') := L2N.ps_raise hc tk.n he
theorem ps_raiseI {e : Expr} {t : L2.St → Hp → XK → Prop} {pos : Pos} (hc : X.calm = true) (tk : Takes X W) (he : L2.PMk X e t) : PS X (.Raise (some e) none pos) (fun _ σ H => t σ H fun cls d H' => ¬ Pla X.K cls ∧ W cls d σ H') := L2.ps_raise hc tk.c he
theorem not_pla {K : PySem.W.Frag} {C f : Addr} (h : PySem.W.findIn K (.ref C) "__init__" = some (some (.ref f))) : ¬ Pla K (.ref C) := fun p => p C f rfl h
theorem takes0 {X : Cx} : Takes X (fun _ _ _ _ => False) := fun _ _ ⟨_, _, _, _, _, _, _, _, _, _, _, _, _, _, _, _, z⟩ => z.elim
theorem cx_no {P : Program} {w : World} {K : PySem.W.Frag} {outer : List Env} (h : CX P w K outer H s (fun _ _ _ => False) u s') : False := by
  rcases h with ⟨_, _, _, _, _, _, _, _, _, _, _, _, z⟩ | ⟨_, _, _, _, _, _, _, _, _, _, _, _, z⟩
  · exact z.2
  · exact z.2
end
end L2Z
namespace L2Z
open PySem PySem.Spec PyProof.Rows L2
theorem CX.toL {P : Program} {w : World} {K : PySem.W.Frag} {outer : List Env} {H : Hp} {s s' : Shared} {E : XK} {u : Value} (c : CX P w K outer H s E u s') : L2.CX P w outer H s E u s' := by
  rcases c with ⟨a, B, H', cls, d, e, fl, h1, h2, h3, h4, h5, q⟩ | ⟨a, B, H', cls, d, e, fl, h1, h2, h3, h4, h5, q⟩
  · exact ⟨a, B, H', cls, d, e, L2H.flyingZ_imp (fun _ => L2N.Zn.zc) fl, h1, h2, h3, h4, h5, q.2⟩
  · exact ⟨a, B, H', cls, d, e, fl, h1, h2, h3, h4, h5, q.2⟩
theorem fnOk_toL {P : Program} {w : World} {K : PySem.W.Frag} {mg : Str → Option Value} {base : Heap} {k : Nat} {f : Addr} {fd : FuncData} {ps : List Str} {sp : Sp} (F : FnOk P w K mg base (CX P w K) k f fd ps sp) : FnOk P w K mg base (L2.CX P w) k f fd ps sp :=
  ⟨F.len, fun A outer s H args us vs Q E hr e0 b r h => codeAny_mono (F.run A outer s H args us vs Q E hr e0 b r h) fun r s' q => by
    cases r with
    | ok fl => cases fl <;> exact q
    | error e => exact CX.toL q⟩
end L2Z
namespace L2
open PySem PySem.Spec PyProof.Rows
/-- Fun.okX over these -/
theorem Fun.okZ {P : Program} {w : World} {K : PySem.W.Frag} {mg : Str → Option Value} {base : Heap} {x qual : Str} {stm : Stmt} {f : Addr} {fd : FuncData} {N ps : List Str} {k : Nat} {sp : Sp} (F : Fun K x qual stm f fd) (S : FnScope N ps (defScope stm))
    (len : ∀ vs H Q E, sp vs H Q E → vs.length = ps.length)
    (hb : ∀ (cdv : Value) (A : Around) (outer : List Env) (s : Shared) (H : Hp) (vs : List V) (Q : VK) (E : XK), Room k (A.deeper (envOfC qual (defScope stm) s.heap.objs.size f cdv)) → sp vs H Q E →
      ∃ t, PSs (cxOf (L2Z.CX P w K) P w K mg base N qual (defScope stm) f cdv A outer s H E) (defBody stm) t ∧ t { nx := fun _ H' => Q .non H', rt := Q } (start N vs) H) : FnOk P w K mg base (L2Z.CX P w K) (k + 1) f fd ps sp := by
  obtain ⟨_, _, _, _, _, _, _, _, _, rfl, lk, hcd⟩ := F.ex
  exact fn_of lk hcd S len fun A outer s H vs Q E hr hsp => hb _ A outer s H vs Q E hr hsp
end L2
namespace VE
open PySem PySem.Spec PyProof.Rows L2
variable [VEnv]
inductive RF where
  | ok (d : D) (st : Sto)
  | ex (x : Exn) (st : Sto)
  | bad
@[reducible] def FM := List D → Sto → RF
def env0 (n : Nat) (ds : List D) : EnvD := ds.map .va ++ List.replicate (n - ds.length) .no
def toRF (fr : Bool) : R Fl → RF
  | .ok .nx _ st => if fr then .bad else .ok .non st
  | .ok (.rt d) _ st => if fr then .bad else .ok d st
  | .ok (.rf d) _ st => .ok d st
  | .ok _ _ _ => .bad
  | .ex x _ st => .ex x st
  | .bad => .bad
def toF (fr : Bool) (n : Nat) (g : M Fl) : FM := fun ds st => toRF fr (g (env0 n ds) st)
section
variable (K : PySem.W.Frag) (mg : Str → Option Value)
structure Old (F : Addr → Prop) (c : List Addr) (H : Hp) (F' : Addr → Prop) (c' : List Addr) (H' : Hp) : Prop where
  keep : ∀ a o, H a = some o → a ∉ c → Kept H' a o
  new : ∀ a, F' a → F a ∨ H a = none
  nwc : ∀ a ∈ c', a ∈ c ∨ H a = none
def RetOk (fr : Bool) (F' : Addr → Prop) (c' : List Addr) (H H' : Hp) (v : V) (d : D) : Prop :=
  if fr then ∃ a, v = .ref a ∧ ¬ F' a ∧ a ∉ c' ∧ H a = none ∧ OwnAt K mg F' c' H' a d else Rp K mg F' c' H' v d
def PostF (fr : Bool) (F : Addr → Prop) (c : List Addr) (H : Hp) (Q : VK) (E : XK) : RF → Prop
  | .ok d st => ∀ v F' c' H', Stp F c H F' c' H' → RelC K mg F' c' st H' → Old F c H F' c' H' → RetOk K mg fr F' c' H H' v d → Q v H'
  | .ex x st => ∀ cls dx F' c' H', Stp F c H F' c' H' → RelC K mg F' c' st H' → Old F c H F' c' H' → RpX K mg F' c' H' cls dx x → E cls dx H'
  | .bad => False
def spV (fr : Bool) (n : Nat) (m : FM) : Sp := fun vs H Q E => ∃ F c ds st, RelC K mg F c st H ∧ Rps K mg F c H vs ds ∧ ds.length = n ∧ PostF K mg fr F c H Q E (m ds st)
end
section
variable {P : Program} {w : World} {K : PySem.W.Frag} {mg : Str → Option Value} {base : Heap} {b : Bs} {F F' : Addr → Prop} {c c' : List Addr} {env : EnvD} {st st' : Sto} {σ : L2.St} {H H' : Hp}
theorem Rel.oldOf (r : Rel b F' c' env st σ H') : (∀ a ∈ b.c0, a ∈ c') → Old b.F0 b.c0 b.H0 F' c' H' := fun hc => by
  refine ⟨fun a o e hn => r.old a o e fun hm => ?_, r.new, r.nwc⟩
  rcases r.nwc a hm with h | h
  · exact hn h
  · rw [e] at h; cases h
/-- the state at a def's entry -/
theorem rel_start {n : Nat} {vs : List V} {ds : List D} (rc : RelC K mg F c st H) (rp : Rps K mg F c H vs ds) (N : List Str) (hn : n = N.length) : Rel ⟨K, mg, H, F, c⟩ F c (env0 n ds) st (L2.start N vs) H := by
  refine ⟨rc, ?_, fun i s e => ?_, fun i j a h => ?_, fun a o e _ => .inl e, fun a h => .inl h, fun a h => .inl h, rc.trk, fun a h => rc.ctrk h⟩
  · unfold env0 L2.start
    simp only [List.length_append, List.length_map, List.length_replicate, rp.length, hn]
  · unfold env0 at e
    by_cases hi : i < ds.length
    · rw [List.getElem?_append_left (by simpa using hi), List.getElem?_map] at e
      cases hd : ds[i]? with
      | none => rw [hd] at e; cases e
      | some d =>
        rw [hd] at e; cases e
        obtain ⟨v, hv, h⟩ := rp.get' hd
        refine ⟨v, ?_, h⟩
        unfold L2.start
        rw [List.getElem?_append_left (by rw [List.length_map, rp.length]; exact hi), List.getElem?_map, hv]
        rfl
    · rw [List.getElem?_append_right (by simpa using hi), List.getElem?_replicate] at e
      split at e
      · cases e; trivial
      · cases e
  · obtain ⟨d, e, _⟩ := h
    unfold env0 at e
    by_cases hi : i < ds.length
    · rw [List.getElem?_append_left (by simpa using hi), List.getElem?_map] at e
      cases hd : ds[i]? with
      | none => rw [hd] at e; cases e
      | some d => rw [hd] at e; cases e
    · rw [List.getElem?_append_right (by simpa using hi), List.getElem?_replicate] at e
      split at e <;> cases e
/-- from what a def wants to what its body must give -/
theorem okV_post {fr : Bool} {F : Addr → Prop} {c : List Addr} {H : Hp} {Q : VK} {E : XK} {y : R Fl} (p : PostF K mg fr F c H Q E (toRF fr y)) : PostS ⟨K, mg, H, F, c⟩ (fun cls d _ H => E cls d H) F c H (fun fl _ _ F' c' σ' H' => FlOk ⟨K, mg, H, F, c⟩ { nx := fun _ H' => Q .non H', rt := Q } F' c' σ' H' fl) y := by
  cases y with
  | bad => exact p
  | ex x env' st' => exact fun σ' F' c' H' cls d s r q => p cls d F' c' H' s r.rc (r.oldOf fun a ha => by obtain ⟨l, e⟩ := s.cs; rw [e]; exact List.mem_append_left _ ha) q
  | ok fl env' st' =>
    intro σ' F' c' H' s r
    have old : Old F c H F' c' H' := r.oldOf fun a ha => by obtain ⟨l, e⟩ := s.cs; rw [e]; exact List.mem_append_left _ ha
    cases fl with
    | nx =>
      cases fr with
      | true => exact p.elim
      | false => exact p .non F' c' H' s r.rc old .non
    | rt d =>
      cases fr with
      | true => exact p.elim
      | false => exact fun v rv => p v F' c' H' s r.rc old rv
    | rf d =>
      intro a h1 h2 h3 h4
      cases fr with
      | true => exact p _ F' c' H' s r.rc old ⟨a, rfl, h1, h2, h3, h4⟩
      | false =>
        have s2 : Stp F' c' H' (FAdd F' a) c' H' := ⟨fun _ h => .inl h, fun _ _ _ h => h, ⟨[], (List.append_nil c').symm⟩, fun _ _ h => h, fun _ _ _ h => h⟩
        refine p _ (FAdd F' a) c' H' (s.trans s2) (r.rc.stp s2 (fun x hf => ?_) (fun _ _ => rfl) (fun x hx hf => ?_) (fun _ _ h => h) (fun _ _ h => h) fun d ps e hf => hf.elim id fun z => absurd (z ▸ e) (h4.ntbl ps)) ⟨old.keep, fun x hf => ?_, old.nwc⟩ h4.rp
        · rcases hf with hf | rfl
          · exact r.rc.trk x hf
          · exact h4.trk
        · rcases hf with hf | rfl
          · exact r.rc.nf x hx hf
          · exact h2 hx
        · rcases hf with hf | rfl
          · exact old.new x hf
          · exact .inr h3
    | bk => exact p.elim
    | ct => exact p.elim
/-- a def keeps what its body tells -/
theorem okV {x qual : Str} {stm : Stmt} {f : Addr} {fd : FuncData} {N ps : List Str} {k n np : Nat} {g : M Fl} (fr : Bool) (Fn : Fun K x qual stm f fd) (S : FnScope N ps (defScope stm)) (hn : n = N.length) (hp : np = ps.length)
    (hb : ∀ (cdv : Value) (A : Around) (outer : List Env) (s : Shared) (H : Hp) (E : XK), Room k (A.deeper (envOfC qual (defScope stm) s.heap.objs.size f cdv)) →
      VSs (cxOf (L2Z.CX P w K) P w K mg base N qual (defScope stm) f cdv A outer s H E) (fun cls d _ H => E cls d H) (defBody stm) g) : FnOk P w K mg base (L2Z.CX P w K) (k + 1) f fd ps (spV K mg fr np (toF fr n g)) := by
  refine Fn.okZ S (fun vs H Q E h => ?_) (fun cdv A outer s H vs Q E hr h => ?_)
  · obtain ⟨F, c, ds, st, _, rp, hl, _⟩ := h
    rw [rp.length, hl, hp]
  · obtain ⟨F, c, ds, st, rc, rp, hl, p⟩ := h
    refine ⟨_, hb cdv A outer s H E hr, ⟨K, mg, H, F, c⟩, F, c, env0 n ds, st, rfl, rfl, rel_start rc rp N hn, ?_⟩
    unfold toF at p
    generalize g (env0 n ds) st = y at p
    exact okV_post p
/-- a def of the module by its name -/
structure FnV (P : Program) (w : World) (K : PySem.W.Frag) (mg : Str → Option Value) (base : Heap) (k : Nat) (x : Str) (fr : Bool) (n : Nat) (m : FM) : Prop where
  ex : ∃ f fd ps, FnOk P w K mg base (L2Z.CX P w K) k f fd ps (spV K mg fr n m) ∧ mg x = some (.ref f) ∧ PySem.W.keepIn K (.ref f) = true ∧ Binds K fd ps []
theorem FnV.mono {k j : Nat} {x : Str} {fr : Bool} {n : Nat} {m : FM} (h : FnV P w K mg base k x fr n m) (hk : k ≤ j) : FnV P w K mg base j x fr n m := by
  obtain ⟨f, fd, ps, F, a⟩ := h.ex
  exact ⟨f, fd, ps, F.mono hk, a⟩
theorem FnV.imp {k : Nat} {x : Str} {fr : Bool} {n : Nat} {m m' : FM} (h : FnV P w K mg base k x fr n m) (hm : ∀ ds st, m' ds st = .bad ∨ m' ds st = m ds st) : FnV P w K mg base k x fr n m' := by
  obtain ⟨f, fd, ps, F, a⟩ := h.ex
  refine ⟨f, fd, ps, F.imp fun vs H Q E q => ?_, a⟩
  obtain ⟨F, c, ds, st, rc, rp, hl, p⟩ := q
  refine ⟨F, c, ds, st, rc, rp, hl, ?_⟩
  rcases hm ds st with e | e
  · rw [e] at p; exact p.elim
  · rw [e] at p; exact p
/-- behind a call -/
theorem Rel.call (r : Rel b F c env st σ H) (s : Stp F c H F' c' H') (rc : RelC b.K b.mg F' c' st' H') (o : Old F c H F' c' H') : Rel b F' c' env st' σ H' := by
  refine ⟨rc, r.len, fun i sl he => ?_, r.ds, fun a x e hc => ?_, fun a hf => ?_, fun a ha => ?_, r.f0, r.k0⟩
  · have q := r.sl i sl he
    cases sl with
    | no => trivial
    | va d => obtain ⟨v, e, p⟩ := q; exact ⟨v, e, p.stp s⟩
    | gh cells vals => exact GhOk.stp q s
    | xc xi x => exact ⟨q.1, q.2.stp s⟩
    | ow d =>
      obtain ⟨a, e, p1, p2, p3, p4⟩ := q
      obtain ⟨_, _, _, x, ex⟩ := r.own (i := i) ⟨d, he, e⟩
      refine ⟨a, e, fun hf => ?_, fun hc => ?_, p3, p4.stp s ?_⟩
      · rcases o.new a hf with h | h
        · exact p1 h
        · rw [ex] at h; cases h
      · rcases o.nwc a hc with h | h
        · exact p2 h
        · rw [ex] at h; cases h
      · rw [ex]; exact (o.keep a x ex p2).same fun ps z => p4.ntbl ps (z ▸ ex)
  · have hc' : a ∉ c := fun h => hc (by obtain ⟨l, e⟩ := s.cs; rw [e]; exact List.mem_append_left _ h)
    exact (r.old a x e hc').up fun y h => o.keep a y h hc'
  · rcases o.new a hf with h | h
    · exact r.new a h
    · exact .inr (r.H0none h)
  · rcases o.nwc a ha with h | h
    · exact r.nwc a h
    · exact .inr (r.H0none h)
end
section
variable {X : Cx} {W : WX} {e a : Expr} {es : List Expr} {pos p : Pos} {fs : M (List D)} {x : Str} {k j n : Nat} {m : FM}
def callR (m : FM) (ds : List D) : M D := fun env st => match m ds st with
  | .ok d st => .ok d env st
  | .ex x st => .ex x env st
  | .bad => .bad
def eCall (m : FM) (n : Nat) (fs : M (List D)) : M D := fun env st => (fs env st).bind fun ds env st => if ds.length = n then callR m ds env st else .bad
theorem call_of {fr : Bool} {b : Bs} {F : Addr → Prop} {c : List Addr} {env : EnvD} {st : Sto} {σ : L2.St} {H : Hp} {vs : List V} {ds : List D} {Q : VK} {Pk : D → EnvD → Sto → (Addr → Prop) → List Addr → Hp → Prop} (e1 : b.K = X.K) (e2 : b.mg = X.mg) (r : Rel b F c env st σ H) (rp : Rps b.K b.mg F c H vs ds) (hl : ds.length = n)
    (p : Post b W F c σ H Pk (callR m ds env st)) (hq : ∀ v d st F' c' H', Stp F c H F' c' H' → Rel b F' c' env st σ H' → RetOk b.K b.mg fr F' c' H H' v d → Pk d env st F' c' H' → Q v H') : spV X.K X.mg fr n m vs H Q (WE W σ) := by
  rw [← e1, ← e2]
  refine ⟨F, c, ds, st, r.rc, rp, hl, ?_⟩
  unfold callR at p
  generalize m ds st = y at p
  cases y with
  | ok d st' => exact fun v F' c' H' s rc o rv => hq v d st' F' c' H' s (r.call s rc o) rv (p F' c' H' s (r.call s rc o))
  | ex x st' => exact fun cls dx F' c' H' s rc o rx => p F' c' H' cls dx s (r.call s rc o) rx
  | bad => exact p
theorem ve_call (Fv : FnV X.prog X.w X.K X.mg X.base k x false n m) (hr : Room k X.A) (tk : L2Z.Takes X W) (ha : VA X W (e :: es) fs) (hg : Gl X x := by rfl) (hdb : (x == ("__debug__" : Str)) = false := by decide)
    (he : starEach (e :: es) X.env = (false, eval e X.env) :: starEach es X.env := by rfl) (hpl : (backTo pos (starEach es X.env)).any (·.1) = false := by rfl) : VE X W (.Call (.Name x p) (e :: es) [] pos) (eCall m n fs) := by
  obtain ⟨f, fd, ps, Fo, hm, hk, hb⟩ := Fv.ex
  refine PEof (pe_callS Fo hr hg hm hk hb (L2Z.passAt tk) ha hdb he hpl) fun σ H Q ⟨b, F, c, env, st, e1, e2, r, pp⟩ => tA_at e1 e2 r pp fun vs ds env1 st1 F1 c1 H1 s1 r1 rp1 p1 => ?_
  split at p1
  · rename_i hl
    exact call_of e1 e2 r1 rp1 hl p1 fun v d st F' c' H' s r rv q => q v rv
  · exact p1.elim
end
end VE
namespace VE
open PySem PySem.Spec PyProof.Rows L2
variable [VEnv]
section
variable {X : Cx} {W : WX} {pos p : Pos} {x : Str} {k : Nat} {m : FM}
end
end VE
namespace VE
open PySem PySem.Spec PyProof.Rows L2
variable [VEnv]
def wipeD (ws : List Nat) (env : EnvD) : EnvD := ws.foldl (fun e i => e.set i .no) env
theorem wipeD_length : ∀ (ws : List Nat) (env : EnvD), (wipeD ws env).length = env.length
  | [], _ => rfl
  | i :: ws, env => by
    show (wipeD ws (env.set i .no)).length = _
    rw [wipeD_length ws, List.length_set]
theorem wipeD_get : ∀ (ws : List Nat) (env : EnvD) (i : Nat) (s : Sl), (wipeD ws env)[i]? = some s → (s = .no) ∨ (i ∉ ws ∧ env[i]? = some s)
  | [], env, i, s, h => .inr ⟨by simp, h⟩
  | j :: ws, env, i, s, h => by
    have h' : (wipeD ws (env.set j .no))[i]? = some s := h
    rcases wipeD_get ws (env.set j .no) i s h' with q | ⟨h1, h2⟩
    · exact .inl q
    · by_cases q : j = i
      · subst q
        by_cases hl : j < env.length
        · rw [List.getElem?_set_self hl] at h2; cases h2; exact .inl rfl
        · rw [List.getElem?_eq_none (by simpa using hl)] at h2; cases h2
      · rw [List.getElem?_set_ne q] at h2
        exact .inr ⟨by simp only [List.mem_cons, not_or]; exact ⟨fun e => q e.symm, h1⟩, h2⟩
section
variable {X : Cx} {W : WX} {b : Bs} {F F' : Addr → Prop} {c c' : List Addr} {env : EnvD} {st st' : Sto} {σ : L2.St} {H H' : Hp}
theorem Rel.wipe (r : Rel b F c env st σ H) : ∀ ws : List Nat, Rel b F c (wipeD ws env) st σ H := by
  intro ws
  induction ws generalizing env with
  | nil => exact r
  | cons i ws ih => exact ih (r.forget i)
/-- the state over the slots with those of vs wiped, and over all -/
theorem wipe_at : ∀ (vs : List Nat) (σ : L2.St) (i : Nat), i ∉ vs → (wipe σ vs)[i]? = σ[i]?
  | [], _, _, _ => rfl
  | j :: vs, σ, i, h => by
    simp only [List.mem_cons, not_or] at h
    show ((wipe σ vs).set j none)[i]? = _
    rw [List.getElem?_set_ne (fun e => h.1 e.symm)]
    exact wipe_at vs σ i h.2
theorem Rel.reslot {σ' : L2.St} (r : Rel b F c env st σ H) (hl : σ'.length = σ.length) (h : ∀ (i : Nat) (s : Sl), env[i]? = some s → s = .no ∨ σ'[i]? = σ[i]?) : Rel b F c env st σ' H := by
  have own : ∀ {i a}, OwnA env σ' i a → OwnA env σ i a := fun {i a} ⟨d, e, e'⟩ => by
    rcases h i _ e with q | q
    · cases q
    · exact ⟨d, e, by rw [← q]; exact e'⟩
  refine ⟨r.rc, by rw [hl]; exact r.len, fun i s e => ?_, fun i j a h1 h2 => r.ds i j a (own h1) (own h2), r.old, r.new, r.nwc, r.f0, r.k0⟩
  have q := r.sl i s e
  rcases h i s e with z | z
  · rw [z]; trivial
  · cases s with
    | no => trivial
    | va d => obtain ⟨v, e', p⟩ := q; exact ⟨v, by rw [z]; exact e', p⟩
    | ow d => obtain ⟨a, e', p⟩ := q; exact ⟨a, by rw [z]; exact e', p⟩
    | gh cells vals => exact q
    | xc xi x => exact ⟨by rw [z]; exact q.1, q.2⟩
theorem Rel.toWipe (r : Rel b F c env st σ H) (vs : List Nat) : Rel b F c (wipeD vs env) st (L2.wipe σ vs) H :=
  (r.wipe vs).reslot (wipe_length σ vs) fun i s e => by
    rcases wipeD_get vs env i s e with q | ⟨q, _⟩
    · exact .inl q
    · exact .inr (wipe_at vs σ i q)
theorem Rel.ofWipe {vs : List Nat} (r : Rel b F c env st (L2.wipe σ vs) H) : Rel b F c (wipeD vs env) st σ H :=
  (r.wipe vs).reslot (wipe_length σ vs).symm fun i s e => by
    rcases wipeD_get vs env i s e with q | ⟨q, _⟩
    · exact .inl q
    · exact .inr (wipe_at vs σ i q).symm

/-- what a turn yields: data as it stands, or a tuple that is made for it -/
def YOk (b : Bs) (F : Addr → Prop) (c : List Addr) (H H2 : Hp) (x : V) (d : D) : Prop :=
  (H2 = H ∧ Rp b.K b.mg F c H x d) ∨ ∃ T xs es, x = .ref T ∧ H T = none ∧ H2 = upd H T (.tup xs) ∧ d = .tup es ∧ Rps b.K b.mg F c H xs es
def Walks (b : Bs) (J : It) (ds : List D) (F : Addr → Prop) (c : List Addr) (H : Hp) : Prop :=
  ∀ F' c' H', Stp F c H F' c' H' → ∀ i, (∀ d, ds[i]? = some d → J.go i H' ∧ ∀ x H2, J.yld i H' x H2 → YOk b F' c' H' H2 x d) ∧ (ds.length ≤ i → J.stop i H')
def VI (X : Cx) (W : WX) (tg iter : Expr) (f : M (List D)) : Prop := ∃ wi : TI, PI X tg iter wi ∧ ∀ σ H R, At X W f σ H (fun b ds _ _ F c H' => ∀ J, Walks b J ds F c H' → R J H') → wi σ H R
theorem Rel.yield (r : Rel b F c env st σ H) {x : V} {d : D} {H2 : Hp} (y : YOk b F c H H2 x d) : ∃ F2, Stp F c H F2 c H2 ∧ Rel b F2 c env st σ H2 ∧ Rp b.K b.mg F2 c H2 x d := by
  rcases y with ⟨rfl, rp⟩ | ⟨T, xs, es, rfl, hT, rfl, rfl, rps⟩
  · exact ⟨F, .refl, r, rp⟩
  · obtain ⟨s, r2⟩ := r.newF hT (.tup xs)
    exact ⟨_, s, r2, .tup (.inl ⟨.inr rfl, upd_same⟩) (rps.stp s)⟩
theorem walks_list {a : Addr} {xs : List V} {ds : List D} (hF : F a) (hx : H a = some (.lst xs)) (r : Rps b.K b.mg F c H xs ds) : Walks b (Itl b.K a) ds F c H := by
  intro F' c' H' s i
  have h' := s.keep a _ hF hx
  have r' := r.stp s
  refine ⟨fun d hd => ?_, fun hi => ⟨xs, SqL.of h', by rw [r.length]; exact hi⟩⟩
  obtain ⟨v, hv, rp⟩ := r'.get' hd
  refine ⟨⟨xs, v, SqL.of h', hv⟩, fun x H2 y => ?_⟩
  obtain ⟨rfl, y⟩ := y
  have e := y xs (SqL.of h')
  rw [hv] at e; cases e
  exact .inl ⟨rfl, rp⟩
theorem walks_tup {a : Addr} {xs : List V} {ds : List D} (hx : FqT b.K F H a xs) (r : Rps b.K b.mg F c H xs ds) : Walks b (Itt b.K a) ds F c H := by
  intro F' c' H' s i
  have h' := hx.stp s
  have r' := r.stp s
  refine ⟨fun d hd => ?_, fun hi => ⟨xs, h'.sq, by rw [r.length]; exact hi⟩⟩
  obtain ⟨v, hv, rp⟩ := r'.get' hd
  refine ⟨⟨xs, v, h'.sq, hv⟩, fun x H2 y => ?_⟩
  obtain ⟨rfl, y⟩ := y
  have e := y xs h'.sq
  rw [hv] at e; cases e
  exact .inl ⟨rfl, rp⟩
def rngD (lo : Int) (n : Nat) : List D := (List.range n).map fun i => .int (lo + (i : Nat))
theorem walks_rng {lo : Int} {n : Nat} : Walks b (Itr lo n) (rngD lo n) F c H := by
  intro F' c' H' s i
  unfold rngD
  refine ⟨fun d hd => ?_, fun hi => by show n ≤ i; simpa using hi⟩
  rw [List.getElem?_map] at hd
  by_cases hi : i < n
  · rw [List.getElem?_range hi] at hd; cases hd
    refine ⟨hi, fun x H2 y => ?_⟩
    obtain ⟨rfl, rfl⟩ := y
    exact .inl ⟨rfl, .int _⟩
  · rw [List.getElem?_eq_none (by simpa using hi)] at hd; cases hd
def signsD (x : Str) : List D := x.cps.toList.map fun ch => .str ⟨#[ch]⟩
theorem walks_str {x : Str} : Walks b (Its x) (signsD x) F c H := by
  intro F' c' H' s i
  unfold signsD
  refine ⟨fun d hd => ?_, fun hi => by show x.cps.size ≤ i; simpa using hi⟩
  rw [List.getElem?_map] at hd
  by_cases hi : i < x.cps.size
  · have e : x.cps.toList[i]? = some x.cps[i] := by simp [hi]
    rw [e] at hd; cases hd
    refine ⟨hi, fun v H2 y => ?_⟩
    obtain ⟨rfl, ch, hc, rfl⟩ := y
    have e2 : x.cps[i]? = some x.cps[i] := by simp [hi]
    rw [e2] at hc; cases hc
    exact .inl ⟨rfl, .str _⟩
  · rw [List.getElem?_eq_none (by simpa using hi)] at hd; cases hd
variable {e a tg iter : Expr} {pos p : Pos} {fa : M D} {fs : M (List D)}
/-- a bound that range takes: kept shut, so that the kernel does not reckon it -/
noncomputable def rOk (j : Int) : Bool := @decide (-(2 ^ 62) ≤ j ∧ j < 2 ^ 62) (Classical.propDecidable _)
omit [VEnv] in
theorem rOk_iff {j : Int} : rOk j = true ↔ -(2 ^ 62) ≤ j ∧ j < 2 ^ 62 := by unfold rOk; exact @decide_eq_true_iff _ (Classical.propDecidable _)
noncomputable def iR1 (fa : M D) : M (List D) := fun env st => (fa env st).bind fun d env st => match d with
  | .int j => if rOk j then .ok (rngD 0 j.toNat) env st else .bad
  | _ => .bad
theorem vi_r1 (hm : X.mg "range" = none) (h : VE X W e fa) (hg : Gl X "range" := by rfl) (hs : starEach [e] X.env = [(false, eval e X.env)] := by rfl) : VI X W tg (.Call (.Name "range" p) [e] [] pos) (iR1 fa) :=
  ⟨_, pi_range1 hg hm (pa_cons h pa_nil (by rw [hs]; rfl)) hs, fun σ H R ⟨b, F, c, env, st, e1, e2, r, p⟩ => tE_at e1 e2 r p fun v d env1 st1 F1 c1 H1 s1 r1 rp1 p1 => by
    split at p1
    · cases rp1
      split at p1
      · rename_i j hj
        rw [rOk_iff] at hj
        exact ⟨_, rfl, hj.1, hj.2, Post.here r1 p1 _ walks_rng⟩
      · exact p1.elim
    · exact p1.elim⟩
def forL (t : D → EnvD → Option EnvD) (ws : List Nat) (g : M Fl) : List D → M Fl
  | [], env, st => .ok .nx env st
  | d :: ds, env, st => match t d env with
    | none => .bad
    | some env => (g env st).bind fun fl env st => match fl with
      | .nx => forL t ws g ds (wipeD ws env) st
      | .ct => forL t ws g ds (wipeD ws env) st
      | .bk => .ok .nx env st
      | .rt d => .ok (.rt d) env st
      | .rf d => .ok (.rf d) env st
def sFor (fi : M (List D)) (t : D → EnvD → Option EnvD) (ws : List Nat) (g : M Fl) : M Fl := fun env st => (fi env st).bind fun ds env st => forL t ws g ds env st
theorem vs_for {body : List Stmt} {is : List Nat} {gg : TG} {fi : M (List D)} {t : D → EnvD → Option EnvD} {g : M Fl} (ws : List Nat) (hp : PassesOwn (model X.prog X.w) X.A X.env X.xe) (hc : X.calm = true) (hi : VI X W tg iter fi) (hg : VG X tg gg is t) (hb : VSs X W body g)
    (hs : ∀ x, foldedSetIterable iter X.env x = pure x := by intro _; rfl) : VS X W (.For tg iter body [] pos) (sFor fi t ws g) := by
  obtain ⟨wi, pi, ki⟩ := hi
  obtain ⟨pg, kg⟩ := hg
  refine PSof (ps_for hp hc pi pg hb hs) fun D₀ σ H ⟨b, F, c, env, st, e1, e2, r, p⟩ => ?_
  refine ki σ H _ ⟨b, F, c, env, st, e1, e2, r, (PostS.of p).mono fun ds env1 st1 F1 c1 H1 s1 r1 p1 J wk => ?_⟩
  refine ⟨fun i m σ' H' => m = ds.length - i ∧ i ≤ ds.length ∧ ∃ F' c' env' st', Stp F1 c1 H1 F' c' H' ∧ Rel b F' c' env' st' σ' H' ∧ PostS b W F' c' H' (fun fl _ _ F c σ H => FlOk b D₀ F c σ H fl) (forL t ws g (ds.drop i) env' st'),
    ⟨ds.length, by simp, Nat.zero_le _, F1, c1, env1, st1, .refl, r1, p1⟩, fun i m σ' H' hw => ?_⟩
  obtain ⟨rfl, hi, F', c', env', st', s', r', p'⟩ := hw
  obtain ⟨wgo, wstop⟩ := wk F' c' H' s' i
  by_cases hlt : i < ds.length
  · refine .inr ?_
    obtain ⟨go, yl⟩ := wgo ds[i] (List.getElem?_eq_getElem hlt)
    refine ⟨go, _, fun σ2 H2 n => ⟨ds.length - (i + 1), by omega, n⟩, fun x H2 y => ?_⟩
    obtain ⟨F2, s2, r2, rp⟩ := r'.yield (yl x H2 y)
    rw [List.drop_eq_getElem_cons hlt] at p'
    unfold forL at p'
    split at p'
    · exact p'.elim
    · rename_i env2 et
      refine kg b F2 c' env' st' σ' H2 x _ env2 _ e1 e2 r2 rp et fun σ3 r3 _ _ => ?_
      refine ⟨b, F2, c', env2, st', e1, e2, r3, (PostS.bind (p'.stp s2)).mono fun fl env4 st4 F4 c4 σ4 H4 s4 r4 q => ?_⟩
      cases fl with
      | nx => exact ⟨rfl, by omega, F4, c4, _, st4, s'.trans (s2.trans s4), r4.wipe ws, q⟩
      | ct => exact ⟨rfl, by omega, F4, c4, _, st4, s'.trans (s2.trans s4), r4.wipe ws, q⟩
      | bk => exact PostS.here r4 q
      | rt d => exact PostS.here r4 q
      | rf d => exact PostS.here r4 q
  · have e : i = ds.length := by omega
    subst e
    rw [List.drop_length] at p'
    exact .inl ⟨wstop (Nat.le_refl _), PostS.here r' p'⟩

def compL (t : D → EnvD → Option EnvD) (ws : List Nat) (tt : M Bool) (fe : M D) : List D → List D → M D
  | [], acc, env, st => .ok (.lst acc) (wipeD ws env) st
  | d :: ds, acc, env, st => match t d (wipeD ws env) with
    | none => .bad
    | some env => match tt env st with
      | .ok true env st => (match fe env st with
        | .ok y env st => if acc.length < 16777216 then compL t ws tt fe ds (acc ++ [y]) env st else .bad
        | _ => .bad)
      | .ok false env st => compL t ws tt fe ds acc env st
      | _ => .bad
def eComp (fi : M (List D)) (t : D → EnvD → Option EnvD) (ws : List Nat) (tt : M Bool) (fe : M D) : M D := fun env st => (fi env st).bind fun ds env st => compL t ws tt fe ds [] env st
@[reducible] def W0 : WX := fun _ _ _ _ => False
theorem wipe_same {σ σ' : L2.St} {is vs : List Nat} (hl : σ'.length = σ.length) (h : ∀ i, i ∉ is → σ'[i]? = (L2.wipe σ vs)[i]?) (hs : ∀ i ∈ is, i ∈ vs) : L2.wipe σ' vs = L2.wipe σ vs := by
  apply List.ext_getElem?
  intro i
  by_cases hi : i ∈ vs
  · have key : ∀ (τ : L2.St) (vs : List Nat), i ∈ vs → (L2.wipe τ vs)[i]? = if i < τ.length then some none else none := by
      intro τ vs
      induction vs with
      | nil => intro h; cases h
      | cons j vs ih =>
        intro h
        show ((L2.wipe τ vs).set j none)[i]? = _
        by_cases q : j = i
        · subst q
          by_cases hlt : j < τ.length
          · rw [if_pos hlt, List.getElem?_set_self (by rw [wipe_length]; exact hlt)]
          · rw [if_neg hlt, List.getElem?_eq_none (by rw [List.length_set, wipe_length]; omega)]
        · rw [List.getElem?_set_ne q]
          exact ih (by rcases List.mem_cons.mp h with e | e; exact absurd e.symm q; exact e)
    rw [key σ' vs hi, key σ vs hi, hl]
  · rw [wipe_at vs σ' i hi, h i fun hm => hi (hs i hm)]
/-- the new list of a comprehension is set aside while an element is made -/
def Bs.aside (b : Bs) (a : Addr) (o : HO) : Bs := { b with H0 := upd b.H0 a o }
theorem Rel.aside {a : Addr} {o : HO} (r : Rel b F c env st σ H) (h1 : ¬ F a) (h2 : a ∉ c) (h4 : ∀ i, ¬ OwnA env σ i a) (ho : H a = some o) : Rel (b.aside a o) F c env st σ H := by
  have up : ∀ x, x ≠ a → (b.aside a o).H0 x = b.H0 x := fun x hx => upd_ne hx
  have tr : ∀ x, (∃ y, b.H0 x = some y) → ∃ y, (b.aside a o).H0 x = some y := fun x ⟨y, e⟩ => by
    by_cases hx : x = a
    · exact ⟨o, by rw [hx]; exact upd_same⟩
    · exact ⟨y, by rw [up x hx]; exact e⟩
  refine ⟨r.rc, r.len, fun i s e => ?_, r.ds, fun x y e hc => ?_, fun x hx => ?_, fun x hx => ?_, fun x hx => tr x (r.f0 x hx), fun x hx => tr x (r.k0 x hx)⟩
  · have q := r.sl i s e
    cases s with
    | no => trivial
    | va d => exact q
    | gh cells vals => exact q
    | xc xi x => exact q
    | ow d =>
      obtain ⟨a', e', p1, p2, p3, p4⟩ := q
      refine ⟨a', e', p1, p2, ?_, p4⟩
      rw [up a' fun z => h4 i ⟨d, e, by rw [← z]; exact e'⟩]
      exact p3
  · by_cases hx : x = a
    · subst hx
      have : upd b.H0 x o x = some y := e
      rw [upd_same] at this; cases this; exact .inl ho
    · rw [up x hx] at e; exact r.old x y e hc
  · rcases r.new x hx with h | h
    · exact .inl h
    · exact .inr (by rw [up x fun z => h1 (z ▸ hx)]; exact h)
  · rcases r.nwc x hx with h | h
    · exact .inl h
    · exact .inr (by rw [up x fun z => h2 (z ▸ hx)]; exact h)
theorem Rel.unaside {a : Addr} {o o' : HO} (r : Rel (b.aside a o) F c env st σ H) (ho : NotOwn o) (hot : ∀ ps, o ≠ .tbl ps) (h0 : b.H0 a = none) (f0 : ∀ a, b.F0 a → ∃ o, b.H0 a = some o) (k0 : ∀ a ∈ b.c0, ∃ o, b.H0 a = some o) (hoz : ∀ y u, o ≠ .frz y u := by intro _ _ z; cases z) : (¬ F a ∧ a ∉ c ∧ (∀ i, ¬ OwnA env σ i a) ∧ H a = some o) ∧ Stp F c H F c (upd H a o') ∧ Rel b F c env st σ (upd H a o') := by
  have ha : (b.aside a o).H0 a = some o := upd_same
  have hf : ¬ b.F0 a := fun h => by
    obtain ⟨o, e⟩ := f0 a h
    rw [h0] at e; cases e
  have hc0 : a ∉ b.c0 := fun h => by
    obtain ⟨o, e⟩ := k0 a h
    rw [h0] at e; cases e
  have up : ∀ x, x ≠ a → (b.aside a o).H0 x = b.H0 x := fun x hx => upd_ne hx
  have nF : ¬ F a := fun h => by
    rcases r.new a h with q | q
    · exact hf q
    · rw [ha] at q; cases q
  have nc : a ∉ c := fun h => by
    rcases r.nwc a h with q | q
    · exact hc0 q
    · rw [ha] at q; cases q
  have nO : ∀ i, ¬ OwnA env σ i a := fun i h => by
    obtain ⟨_, _, q, _⟩ := r.own h
    rw [ha] at q; cases q
  have s : Stp F c H F c (upd H a o') := ⟨fun _ h => h, fun x y f e => by rw [upd_ne (fun z : x = a => nF (z ▸ f))]; exact e, ⟨[], (List.append_nil c).symm⟩, own_upd fun x z => by rw [(r.old a o ha nc).same hot] at z; exact ho x (Option.some.inj z), lck_upd fun y u z => by rw [(r.old a o ha nc).same hot] at z; exact hoz y u (Option.some.inj z)⟩
  have ne : ∀ x, x ≠ a → upd H a o' x = H x := fun x h => upd_ne h
  refine ⟨⟨nF, nc, nO, (r.old a o ha nc).same hot⟩, s, r.rc.stp s (fun x hx => ?_) (fun x hx => ne x fun z => nc (z ▸ hx)) r.rc.nf (fun d x e => by rw [ne d fun z => by rw [z, (r.old a o ha nc).same hot] at e; exact ho x (Option.some.inj e)]; exact e) (fun d ps e => by rw [ne d fun z => by rw [z, (r.old a o ha nc).same hot] at e; exact hot ps (Option.some.inj e)]; exact e) (fun _ _ _ h => h), r.len, fun i sl e => ?_, r.ds, fun x y e hc => ?_, fun x hx => ?_, fun x hx => ?_, f0, k0⟩
  · obtain ⟨y, e⟩ := r.rc.trk x hx
    exact ⟨y, s.keep x y hx e⟩
  · have q := r.sl i sl e
    cases sl with
    | no => trivial
    | va d => obtain ⟨v, e', p⟩ := q; exact ⟨v, e', p.stp s⟩
    | gh cells vals => exact GhOk.stp q s
    | xc xi x => exact ⟨q.1, q.2.stp s⟩
    | ow d =>
      obtain ⟨a', e', p1, p2, p3, p4⟩ := q
      have hne : a' ≠ a := fun z => nO i ⟨d, e, by rw [← z]; exact e'⟩
      exact ⟨a', e', p1, p2, by rw [← up a' hne]; exact p3, p4.stp s (ne a' hne)⟩
  · have hne : x ≠ a := fun z => by rw [z, h0] at e; cases e
    exact (r.old x y (by rw [up x hne]; exact e) hc).up fun w h => .inl (by rw [ne x hne]; exact h)
  · rcases r.new x hx with h | h
    · exact .inl h
    · exact .inr (by rw [← up x fun z => nF (z ▸ hx)]; exact h)
  · rcases r.nwc x hx with h | h
    · exact .inl h
    · exact .inr (by rw [← up x fun z => nc (z ▸ hx)]; exact h)
theorem wipeD_in : ∀ (ws : List Nat) (env : EnvD) (i : Nat), i ∈ ws → i < env.length → (wipeD ws env)[i]? = some .no
  | j :: ws, env, i, h, hl => by
    show (wipeD ws (env.set j .no))[i]? = _
    by_cases hi : i ∈ ws
    · exact wipeD_in ws _ i hi (by rw [List.length_set]; exact hl)
    · have e : i = j := by rcases List.mem_cons.mp h with e | e; exact e; exact absurd e hi
      subst e
      have key : ∀ (ws : List Nat) (env : EnvD), i ∉ ws → (wipeD ws env)[i]? = env[i]? := by
        intro ws
        induction ws with
        | nil => intro _ _; rfl
        | cons k ws ih =>
          intro env h
          simp only [List.mem_cons, not_or] at h
          show (wipeD ws (env.set k .no))[i]? = _
          rw [ih _ h.2, List.getElem?_set_ne (fun e => h.1 e.symm)]
      rw [key ws _ hi, List.getElem?_set_self hl]
theorem wipeD_out : ∀ (ws : List Nat) (env : EnvD) (i : Nat), i ∉ ws → (wipeD ws env)[i]? = env[i]?
  | [], _, _, _ => rfl
  | k :: ws, env, i, h => by
    simp only [List.mem_cons, not_or] at h
    show (wipeD ws (env.set k .no))[i]? = _
    rw [wipeD_out ws _ i h.2, List.getElem?_set_ne (fun e => h.1 e.symm)]
theorem wipeD_twice (ws : List Nat) (env : EnvD) : wipeD ws (wipeD ws env) = wipeD ws env := by
  apply List.ext_getElem?
  intro i
  by_cases hi : i ∈ ws
  · by_cases hl : i < env.length
    · rw [wipeD_in ws _ i hi (by rw [wipeD_length]; exact hl), wipeD_in ws _ i hi hl]
    · rw [List.getElem?_eq_none (by rw [wipeD_length, wipeD_length]; omega), List.getElem?_eq_none (by rw [wipeD_length]; omega)]
  · rw [wipeD_out ws _ i hi]
theorem comp_of {is : List Nat} {gg : TG} {wi : TI} {fi : M (List D)} {t : D → EnvD → Option EnvD} {tt : M Bool} {fe : M D} {ws : List Nat} (ki : ∀ σ H R, At X W fi σ H (fun b ds _ _ F c H' => ∀ J, Walks b J ds F c H' → R J H') → wi σ H R) (his : ∀ i ∈ is, i ∈ ws) (kg : GSem X gg is t) :
    ∀ σ H Q, tF X W (eComp fi t ws tt fe) σ H Q → tLc wi gg (tT X W0 tt) (tE X W0 fe) ws σ H Q := fun σ H Q ⟨b, F, c, env, st, e1, e2, r, p⟩ => by
  refine ki σ H _ ⟨b, F, c, env, st, e1, e2, r, (Post.bind p).mono fun ds env1 st1 F1 c1 H1 s1 r1 p1 J wk D hD => ?_⟩
  obtain ⟨sD, rD⟩ := r1.newO hD (.lst [])
  have h0 : b.H0 D = none := r1.H0none hD
  refine ⟨fun i m H' => m = ds.length - i ∧ i ≤ ds.length ∧ ∃ F' c' env' st' acc accD, Stp F1 c1 H1 F' c' H' ∧ Rel b F' c' (wipeD ws env') st' (L2.wipe σ ws) H' ∧ (¬ F' D ∧ D ∉ c' ∧ (∀ i, ¬ OwnA (wipeD ws env') (L2.wipe σ ws) i D) ∧ H' D = some (.lst acc)) ∧ Rps b.K b.mg F' c' H' acc accD ∧
    Post b W F' c' σ H' (fun d env _ F c H' => ∀ a, ¬ F a → a ∉ c → b.H0 a = none → (∀ i, ¬ OwnA env σ i a) → OwnAt b.K b.mg F c H' a d → Q (.ref a) H') (compL t ws tt fe (ds.drop i) accD env' st'),
    ⟨ds.length, by simp, Nat.zero_le _, F1, c1, env1, st1, [], [], sD, rD.toWipe ws, ⟨r1.nF hD, r1.nC hD, fun i h => (r1.toWipe ws).nO hD i h, upd_same⟩, .nil, p1.stp sD⟩, fun i m H' hw => ?_⟩
  obtain ⟨rfl, hi, F', c', env', st', acc, accD, s', r', ⟨nF, nc, nO, hH⟩, rps, p'⟩ := hw
  obtain ⟨wgo, wstop⟩ := wk F' c' H' s' i
  by_cases hlt : i < ds.length
  · refine .inr ?_
    obtain ⟨go, yl⟩ := wgo ds[i] (List.getElem?_eq_getElem hlt)
    refine ⟨go, _, fun H2 n => ⟨ds.length - (i + 1), by omega, n⟩, fun x H2 y => ?_⟩
    have ra := r'.aside nF nc nO hH
    obtain ⟨F2, s2, r2, rp⟩ := ra.yield (b := b.aside D (.lst acc)) (yl x H2 y)
    rw [List.drop_eq_getElem_cons hlt] at p'
    unfold compL at p'
    split at p'
    · exact p'.elim
    · rename_i env2 et
      refine kg (b.aside D (.lst acc)) F2 c' _ st' _ H2 x _ env2 _ e1 e2 r2 rp et fun σ3 r3 hl3 hk3 => ?_
      have hw3 : L2.wipe σ3 ws = L2.wipe σ ws := by
        have q := wipe_same (σ := σ) (σ' := σ3) (is := is) (vs := ws) (by rw [hl3, wipe_length]) hk3 his
        exact q
      refine ⟨hw3, b.aside D (.lst acc), F2, c', env2, st', e1, e2, r3, ?_⟩
      generalize tt env2 st' = yt at p' ⊢
      cases yt with
      | bad => exact p'.elim
      | ex x env st => exact p'.elim
      | ok tv env3 st3 =>
        intro F3 c3 H3 s3 r3'
        cases tv with
        | true =>
          rw [if_pos rfl]
          refine ⟨b.aside D (.lst acc), F3, c3, env3, st3, e1, e2, r3', ?_⟩
          dsimp only at p'
          generalize fe env3 st3 = ye at p' ⊢
          cases ye with
          | bad => exact p'.elim
          | ex x env st => exact p'.elim
          | ok yv env4 st4 =>
            intro F4 c4 H4 s4 r4 v rv
            dsimp only at p'
            split at p'
            · rename_i hz
              obtain ⟨⟨nF4, nc4, nO4, hH4⟩, s5, r5⟩ := r4.unaside (o' := .lst (acc ++ [v])) (fun x z => by cases z) (fun x z => by cases z) h0 r1.f0 r1.k0
              have sAll : Stp F' c' H' F4 c4 (upd H4 D (.lst (acc ++ [v]))) := s2.trans (s3.trans (s4.trans s5))
              refine ⟨acc, hH4, by rw [rps.length, sizeLine_eq]; exact hz, rfl, by omega, F4, c4, env4, st4, acc ++ [v], accD ++ [yv], s'.trans sAll, ?_, ⟨nF4, nc4, fun i h => ?_, upd_same⟩, (rps.stp sAll).append (.cons (rv.stp s5) .nil), p'.stp sAll⟩
              · rw [← hw3]; exact r5.toWipe ws
              · rw [← hw3] at h
                have r6 := r4.toWipe ws
                obtain ⟨_, _, q, _⟩ := r6.own h
                have z : (b.aside D (.lst acc)).H0 D = some (.lst acc) := upd_same
                rw [z] at q; cases q
            · exact p'.elim
        | false =>
          rw [if_neg Bool.false_ne_true]
          dsimp only at p'
          obtain ⟨⟨nF4, nc4, nO4, hH4⟩, s5, r5⟩ := r3'.unaside (o' := .lst acc) (fun x z => by cases z) (fun x z => by cases z) h0 r1.f0 r1.k0
          have eH : upd H3 D (.lst acc) = H3 := by
            funext z
            by_cases hz : z = D
            · rw [hz, upd_same, hH4]
            · rw [upd_ne hz]
          rw [eH] at s5 r5
          have sAll : Stp F' c' H' F3 c3 H3 := s2.trans s3
          refine ⟨rfl, by omega, F3, c3, env3, st3, acc, accD, s'.trans sAll, ?_, ⟨nF4, nc4, fun i h => ?_, hH4⟩, rps.stp sAll, p'.stp sAll⟩
          · rw [← hw3]; exact r5.toWipe ws
          · rw [← hw3] at h
            have r6 := r3'.toWipe ws
            obtain ⟨_, _, q, _⟩ := r6.own h
            have z : (b.aside D (.lst acc)).H0 D = some (.lst acc) := upd_same
            rw [z] at q; cases q
  · have e : i = ds.length := by omega
    subst e
    rw [List.drop_length] at p'
    unfold compL at p'
    have r9 := r'.ofWipe
    rw [wipeD_twice] at r9
    exact .inl ⟨wstop (Nat.le_refl _), p' F' c' H' .refl r9 D nF nc h0 (fun i h => by
      have q := r9.own h
      exact nO i (by
        obtain ⟨d, h1, h2⟩ := h
        refine ⟨d, h1, ?_⟩
        rcases wipeD_get ws env' i _ h1 with z | ⟨z, _⟩
        · cases z
        · rw [wipe_at ws σ i z]; exact h2)) ⟨acc, hH, rps⟩⟩
theorem vf_comp {elt : Expr} {ifs : List Expr} {scope : Scope} {own : List (Str × Nat)} {is : List Nat} {gg : TG} {fi : M (List D)} {t : D → EnvD → Option EnvD} {tt : M Bool} {fe : M D} (hc : X.calm = true) (hN : X.N.Nodup) (hi : VI X W tg iter fi) (ok : BlkOk X.N X.env.scope scope own)
    (his : ∀ i ∈ is, i ∈ own.map (·.2)) (hg : ∀ (s : Shared) (H : Hp) (C : Addr) (cl : List (Str × Addr)) (fp : List Addr), VG (X.blk s H scope (compEnvC scope cl C X.env) fp) tg gg is t)
    (ht : ∀ (s : Shared) (H : Hp) (C : Addr) (cl : List (Str × Addr)) (fp : List Addr), PTs (X.blk s H scope (compEnvC scope cl C X.env) fp) ifs (tT X W0 tt))
    (he : ∀ (s : Shared) (H : Hp) (C : Addr) (cl : List (Str × Addr)) (fp : List Addr), VE (X.blk s H scope (compEnvC scope cl C X.env) fp) W0 elt fe) (hs : ∀ x, foldedSetIterable iter X.env x = pure x := by intro _; rfl) :
    VF X W (.ListComp elt [⟨tg, iter, ifs, 0⟩] scope pos) (eComp fi t (own.map (·.2)) tt fe) := by
  obtain ⟨wi, pi, ki⟩ := hi
  exact ⟨fun pins s0 σ H Q I h => (pe_lc (te := tE X W0 fe) hc hN pi ok (fun s H C cl fp => (hg s H C cl fp).1) ht he hs).run pins s0 σ H Q I (comp_of ki his (hg s0 H 0 [] []).2 σ H Q h)⟩
def bYes : M Bool := fun env st => .ok true env st
theorem vts_nil : PTs X [] (tT X W bYes) := ⟨fun pins s σ H Q I ⟨b, F, c, env, st, e1, e2, r, p⟩ => pts_nil.run pins s σ H Q I (Post.here r p)⟩
theorem vts_one {Y : Cx} {tt : M Bool} (h : PT Y e (tT X W tt)) : PTs Y [e] (tT X W tt) := pts_one h
end
end VE
namespace VE
open PySem PySem.Spec PyProof.Rows L2
variable [VEnv]
section
variable {K : PySem.W.Frag} {mg : Str → Option Value} {b : Bs} {F F' : Addr → Prop} {c c' : List Addr} {env : EnvD} {st st' : Sto} {σ : L2.St} {H H' : Hp}
/-- what a reference points to -/
theorem Rel.cell (r : Rel b F c env st σ H) {v : V} {n : Nat} {x : Cell} (h : Rp b.K b.mg F c H v (.ref n)) (e : st[n]? = some x) : ∃ a, v = .ref a ∧ c[n]? = some a ∧ CellOk b.K b.mg F c H a x := by
  cases h with
  | ref h => exact ⟨_, rfl, h, r.rc.cl n _ x h e⟩
/-- the object that a reference points to changes -/
theorem Rel.cellUpd (r : Rel b F c env st σ H) {a : Addr} {n : Nat} {x : Cell} {o : HO} (hn : c[n]? = some a) (hx : Stp F c H F c (upd H a o) → CellOk b.K b.mg F c (upd H a o) a x) (hl : ∃ y, st[n]? = some y ∧ y.lck = false := by first | (refine ⟨_, by assumption, ?_⟩; rfl) | assumption) : Stp F c H F c (upd H a o) ∧ Rel b F c env (st.set n x) σ (upd H a o) := by
  have ha : a ∈ c := List.mem_of_getElem? hn
  have nF : ¬ F a := r.rc.nf a ha
  have hno : ∀ x, H a ≠ some (.own x) := fun x z => by
    have hl : n < st.length := by rw [r.rc.len]; exact (List.getElem?_eq_some_iff.mp hn).1
    obtain ⟨o', e, no⟩ := (r.rc.cl n a _ hn (List.getElem?_eq_getElem hl)).notOwn
    rw [z] at e; cases e
    exact no x rfl
  have hfz : ∀ y u, H a ≠ some (.frz y u) := by
    obtain ⟨y, e, hy⟩ := hl
    exact (r.rc.cl n a _ hn e).notFrz hy
  have htb : ∀ ps, H a ≠ some (.tbl ps) := by
    have hl : n < st.length := by rw [r.rc.len]; exact (List.getElem?_eq_some_iff.mp hn).1
    exact (r.rc.cl n a _ hn (List.getElem?_eq_getElem hl)).notTbl
  have ne : ∀ y, y ≠ a → upd H a o y = H y := fun y h => upd_ne h
  have s : Stp F c H F c (upd H a o) := ⟨fun _ h => h, fun y o' f e => by rw [ne y (fun z => nF (z ▸ f))]; exact e, ⟨[], (List.append_nil c).symm⟩, own_upd hno, lck_upd hfz⟩
  refine ⟨s, ⟨fun y hf => ?_, by rw [List.length_set]; exact r.rc.len, r.rc.nd, fun m y z hm hz => ?_, r.rc.nf, fun p hp => (r.rc.tab p hp).stp s (fun ps e => by rw [ne p.1 fun z => htb ps (z ▸ e)]; exact e) (fun _ _ h => h) fun _ _ h => h⟩, r.len, fun i sl e => ?_, r.ds, fun y o' e hc => (r.old y o' e hc).up fun z h => .inl (by rw [ne y fun z => hc (z ▸ ha)]; exact h), r.new, r.nwc, r.f0, r.k0⟩
  · obtain ⟨o', e⟩ := r.rc.trk y hf
    exact ⟨o', s.keep y o' hf e⟩
  · by_cases q : n = m
    · subst q
      rw [hn] at hm; cases hm
      have hl : n < st.length := by rw [r.rc.len]; exact (List.getElem?_eq_some_iff.mp hn).1
      rw [List.getElem?_set_self hl] at hz; cases hz
      exact hx s
    · rw [List.getElem?_set_ne q] at hz
      have hy : y ≠ a := fun z => by
        subst z
        exact q ((List.getElem?_inj (List.getElem?_eq_some_iff.mp hn).1 r.rc.nd).mp (hn.trans hm.symm))
      have k := r.rc.cl m y z hm hz
      cases z with
      | lst ds => obtain ⟨vs, e, p⟩ := k; exact ⟨vs, by rw [ne y hy]; exact e, p.stp s⟩
      | ins nm fs => obtain ⟨C, dx, vfs, k1, k2, k3, p⟩ := k; exact ⟨C, dx, vfs, k1, by rw [ne y hy]; exact k2, k3, p.stp s⟩
      | slo nm fs => obtain ⟨C, dx, vs, k1, k2, p⟩ := k; exact ⟨C, dx, vs, k1, slAt_keep k2 (ne y hy) s.lck, p.stp s⟩
      | slp nm ix fs => obtain ⟨C, dx, vs, k1, k2, p⟩ := k; exact ⟨C, dx, vs, k1, slAt_keep k2 (ne y hy) s.lck, p.stp s⟩
      | dct kvs => obtain ⟨vk, e, e2, p⟩ := k; exact ⟨vk, by rw [ne y hy]; exact e, e2, p.stp s⟩
      | dcT kvs => obtain ⟨P, w, xs, vs, e0, e, e2, p, pk⟩ := k; exact ⟨P, w, xs, vs, e0, by rw [ne y hy]; exact e, e2, p.stp s, fun x hx => (pk x hx).stp s⟩
      | dcN kvs => obtain ⟨P, w, vk, e0, e, e2, p⟩ := k; exact ⟨P, w, vk, e0, by rw [ne y hy]; exact e, e2, p.stp s⟩
      | lcT kvs => obtain ⟨P, w, xs, vs, od, e0, e, e2, p, pk⟩ := k; exact ⟨P, w, xs, vs, od, e0, by rw [ne y hy]; exact e, e2, p.stp s, fun x hx => (pk x hx).stp s⟩
      | lcN kvs => obtain ⟨P, w, vk, od, e0, e, e2, p⟩ := k; exact ⟨P, w, vk, od, e0, by rw [ne y hy]; exact e, e2, p.stp s⟩
  · have q := r.sl i sl e
    cases sl with
    | no => trivial
    | va d => obtain ⟨v, e', p⟩ := q; exact ⟨v, e', p.stp s⟩
    | gh cells vals => exact GhOk.stp q s
    | xc xi x => exact ⟨q.1, q.2.stp s⟩
    | ow d =>
      obtain ⟨y, e', p1, p2, p3, p4⟩ := q
      exact ⟨y, e', p1, p2, p3, p4.stp s (ne y fun z => p2 (z ▸ ha))⟩
/-- a new object that may be changed -/
theorem Rel.cellNew (r : Rel b F c env st σ H) {p : Addr} {x : Cell} {o : HO} (hp : H p = none) (hx : Stp F c H F (c ++ [p]) (upd H p o) → CellOk b.K b.mg F (c ++ [p]) (upd H p o) p x) : Stp F c H F (c ++ [p]) (upd H p o) ∧ Rel b F (c ++ [p]) env (st ++ [x]) σ (upd H p o) ∧ Rp b.K b.mg F (c ++ [p]) (upd H p o) (.ref p) (.ref st.length) := by
  have nF := r.nF hp
  have nc := r.nC hp
  have ne : ∀ y, y ≠ p → upd H p o y = H y := fun y h => upd_ne h
  have hk : ∀ y o', H y = some o' → upd H p o y = some o' := fun y o' e => by rw [ne y (ne_of_none e hp)]; exact e
  have s : Stp F c H F (c ++ [p]) (upd H p o) := ⟨fun _ h => h, fun y o' f e => hk y o' e, ⟨[p], rfl⟩, own_new hp, lck_new hp⟩
  have ec : (c ++ [p])[st.length]? = some p := by rw [r.rc.len]; simp
  refine ⟨s, ⟨⟨fun y hf => ?_, by rw [List.length_append, List.length_append, r.rc.len]; rfl, ?_, fun m y z hm hz => ?_, fun y hy => ?_, fun q hq => (r.rc.tab q hq).stp s (fun ps e => hk _ _ e) (fun _ _ h => h) fun ps e h => (List.mem_append.mp h).elim id fun z => by rw [List.mem_singleton] at z; rw [z, hp] at e; cases e⟩, r.len, fun i sl e => ?_, r.ds, fun y o' e hc => ?_, r.new, fun y hy => ?_, r.f0, r.k0⟩, .ref ec⟩
  · obtain ⟨o', e⟩ := r.rc.trk y hf
    exact ⟨o', hk y o' e⟩
  · rw [List.nodup_append]
    exact ⟨r.rc.nd, by simp, fun x1 hx1 y hy => by rw [List.mem_singleton] at hy; exact fun z => nc (hy ▸ z ▸ hx1)⟩
  · by_cases hl : m < st.length
    · rw [List.getElem?_append_left (by rw [← r.rc.len]; exact hl)] at hm
      rw [List.getElem?_append_left hl] at hz
      have hy : y ≠ p := fun e => nc (e ▸ List.mem_of_getElem? hm)
      have k := r.rc.cl m y z hm hz
      cases z with
      | lst ds => obtain ⟨vs, e, p⟩ := k; exact ⟨vs, by rw [ne y hy]; exact e, p.stp s⟩
      | ins nm fs => obtain ⟨C, dx, vfs, k1, k2, k3, p⟩ := k; exact ⟨C, dx, vfs, k1, by rw [ne y hy]; exact k2, k3, p.stp s⟩
      | slo nm fs => obtain ⟨C, dx, vs, k1, k2, p⟩ := k; exact ⟨C, dx, vs, k1, slAt_keep k2 (ne y hy) s.lck, p.stp s⟩
      | slp nm ix fs => obtain ⟨C, dx, vs, k1, k2, p⟩ := k; exact ⟨C, dx, vs, k1, slAt_keep k2 (ne y hy) s.lck, p.stp s⟩
      | dct kvs => obtain ⟨vk, e, e2, p⟩ := k; exact ⟨vk, by rw [ne y hy]; exact e, e2, p.stp s⟩
      | dcT kvs => obtain ⟨P, w, xs, vs, e0, e, e2, p, pk⟩ := k; exact ⟨P, w, xs, vs, e0, by rw [ne y hy]; exact e, e2, p.stp s, fun x hx => (pk x hx).stp s⟩
      | dcN kvs => obtain ⟨P, w, vk, e0, e, e2, p⟩ := k; exact ⟨P, w, vk, e0, by rw [ne y hy]; exact e, e2, p.stp s⟩
      | lcT kvs => obtain ⟨P, w, xs, vs, od, e0, e, e2, p, pk⟩ := k; exact ⟨P, w, xs, vs, od, e0, by rw [ne y hy]; exact e, e2, p.stp s, fun x hx => (pk x hx).stp s⟩
      | lcN kvs => obtain ⟨P, w, vk, od, e0, e, e2, p⟩ := k; exact ⟨P, w, vk, od, e0, by rw [ne y hy]; exact e, e2, p.stp s⟩
    · have hm' : m = st.length := by
        have := (List.getElem?_eq_some_iff.mp hz).1
        rw [List.length_append, List.length_singleton] at this
        omega
      subst hm'
      rw [ec] at hm; cases hm
      have : (st ++ [x])[st.length]? = some x := by simp
      rw [this] at hz; cases hz
      exact hx s
  · rcases List.mem_append.mp hy with h | h
    · exact r.rc.nf y h
    · rw [List.mem_singleton] at h; subst h; exact nF
  · have q := r.sl i sl e
    cases sl with
    | no => trivial
    | va d => obtain ⟨v, e', p⟩ := q; exact ⟨v, e', p.stp s⟩
    | gh cells vals => exact GhOk.stp q s
    | xc xi x => exact ⟨q.1, q.2.stp s⟩
    | ow d =>
      obtain ⟨y, e', p1, p2, p3, p4⟩ := q
      have hy : y ≠ p := fun z => r.nO hp i ⟨d, e, by rw [← z]; exact e'⟩
      refine ⟨y, e', p1, fun h => ?_, p3, p4.stp s (ne y hy)⟩
      rcases List.mem_append.mp h with h | h
      · exact p2 h
      · exact hy (List.mem_singleton.mp h)
  · exact (r.old y o' e fun h => hc (List.mem_append_left _ h)).up fun z h => .inl (hk y z h)
  · rcases List.mem_append.mp hy with h | h
    · exact r.nwc y h
    · rw [List.mem_singleton] at h; subst h; exact .inr (r.H0none hp)
end
section
variable {X : Cx} {W : WX} {e a o : Expr} {es : List Expr} {pos pos' : Pos} {fa fb fo fi : M D} {fs : M (List D)} {x : Str}
/-- x = [..], a list that defs may change -/
def sCell (i : Nat) (fs : M (List D)) : M Fl := fun env st => (fs env st).bind fun ds env st => if ds.length ≤ 16777216 then .ok .nx (env.set i (.va (.ref st.length))) (st ++ [.lst ds]) else .bad
theorem vs_cell {i : Nat} (hN : X.N.Nodup) (h : VA X W es fs) (hi : X.N[i]? = some x := by rfl) (hx : Loc X.env.scope x := by first | exact Or.inl rfl | exact Or.inr rfl) (hs : swapsWith (.List es pos) (some (.Name x pos')) pos.line X.env = pure false := by rfl)
    (hf : X.fn x = true ∨ X.env.scope.names.lookup x = some .local := by first | exact .inl rfl | exact .inr rfl | assumption) {p2 : Pos} (hs : swapsWith (.List es p2) (some (.Name x pos')) pos.line X.env = pure false := by rfl) : VS X W (.Assign [.Name x pos'] (.List es p2) pos) (sCell i fs) := PSof (ps_set hN hi hx (pe_lst h) hs hf) fun D₀ σ H ⟨b, F, c, env, st, e1, e2, r, p⟩ =>
  sA_at e1 e2 r p fun vs ds env1 st1 F1 c1 H1 s1 r1 rp1 p1 => by
    split at p1
    · rename_i hl
      refine ⟨by rw [rp1.length, sizeLine_eq]; exact hl, fun q hq => ?_⟩
      obtain ⟨s2, r2, rp⟩ := r1.cellNew (x := .lst ds) hq fun s => ⟨vs, upd_same, rp1.stp s⟩
      exact PostS.here (P := fun fl _ _ F c σ H => FlOk b D₀ F c σ H fl) (r2.put (i := i) rp) (p1.stp s2)
    · exact p1.elim
/-- a[b], a list of the store or a value -/
def ixC : D → D → M D := fun x y env st => match x, y with
  | .ref n, .int i => (match st[n]? with
    | some (.lst ds) => ret (atI ds i) env st
    | _ => .bad)
  | x, y => ret (ixD x y) env st
theorem ok_ixC : OpOk X W (rIx X.K) ixC := fun b F c env st σ H x y dx dy Q e1 e2 r hx hy p => by
  unfold ixC at p
  split at p
  · rename_i n i
    split at p
    · rename_i ds es
      obtain ⟨a, rfl, hc, vs, ha, rps⟩ := r.cell hx es
      unfold ret at p
      split at p
      · rename_i d ed
        obtain ⟨v, hv, rp⟩ := rps.atI ed
        cases hy
        exact .inl ⟨a, vs, i, v, rfl, rfl, SqL.of ha, hv, Post.here r p v rp⟩
      · exact p.elim
    · exact p.elim
  · exact ok_ix b F c env st σ H x y _ _ Q e1 e2 r hx hy p
/-- what is to be known of a class -/
structure ClsV (K : PySem.W.Frag) (mg : Str → Option Value) (n : Str) (fs : List Str) : Prop where
  cl : ∀ C, mg n = some (.ref C) → Cls K C
  no : ∀ C, mg n = some (.ref C) → ∀ f ∈ fs, NoAttr K C f
/-- a method m of the class n -/
structure MtV (P : Program) (w : World) (K : PySem.W.Frag) (mg : Str → Option Value) (base : Heap) (k : Nat) (n m : Str) (fr : Bool) (np : Nat) (mf : FM) : Prop where
  ex : ∃ C f fd ps, mg n = some (.ref C) ∧ Cls K C ∧ FnOk P w K mg base (L2Z.CX P w K) k f fd ps (spV K mg fr np mf) ∧ Meth K C m f ∧ Binds K fd ps []
/-- a class whose instances are made by its __init__ -/
structure MkV (P : Program) (w : World) (K : PySem.W.Frag) (mg : Str → Option Value) (base : Heap) (k : Nat) (n : Str) (np : Nat) (mf : FM) : Prop where
  ex : ∃ C f fd ps, mg n = some (.ref C) ∧ Mk K C f ∧ FnOk P w K mg base (L2Z.CX P w K) k f fd ps (spV K mg false np mf) ∧ Binds K fd ps []
end
end VE
namespace VE
open PySem PySem.Spec PyProof.Rows L2
variable [VEnv]
section
variable {X : Cx} {W : WX} {e a o : Expr} {es : List Expr} {pos pos' p : Pos} {fa fb fo fi : M D} {fs : M (List D)} {x : Str}
def eBlt (g : List D → M D) (fs : M (List D)) : M D := fun env st => (fs env st).bind fun ds env st => g ds env st
def CallOk (X : Cx) (W : WX) (r : List V → Hp → VK → Prop) (g : List D → M D) : Prop := ∀ (b : Bs) (F : Addr → Prop) (c : List Addr) (env : EnvD) (st : Sto) (σ : L2.St) (H : Hp) (vs : List V) (ds : List D) (Q : VK), b.K = X.K → b.mg = X.mg → Rel b F c env st σ H →
  Rps b.K b.mg F c H vs ds → Post b W F c σ H (fun d _ _ F' c' H' => ∀ v, Rp b.K b.mg F' c' H' v d → Q v H') (g ds env st) → r vs H Q
def CallOkF (X : Cx) (W : WX) (r : List V → Hp → VK → Prop) (g : List D → M D) : Prop := ∀ (b : Bs) (F : Addr → Prop) (c : List Addr) (env : EnvD) (st : Sto) (σ : L2.St) (H : Hp) (vs : List V) (ds : List D) (Q : VK), b.K = X.K → b.mg = X.mg → Rel b F c env st σ H →
  Rps b.K b.mg F c H vs ds → Post b W F c σ H (fun d env _ F c H' => ∀ a, ¬ F a → a ∉ c → b.H0 a = none → (∀ i, ¬ OwnA env σ i a) → OwnAt b.K b.mg F c H' a d → Q (.ref a) H') (g ds env st) → r vs H Q
theorem tCB_of {r : List V → Hp → VK → Prop} {g : List D → M D} (hg : CallOk X W r g) : ∀ σ H Q, tE X W (eBlt g fs) σ H Q → tCB r (tA X W fs) σ H Q := fun σ H Q ⟨b, F, c, env, st, e1, e2, r0, p⟩ =>
  tA_at e1 e2 r0 p fun vs ds env1 st1 F1 c1 H1 s1 r1 rp1 p1 => hg b F1 c1 env1 st1 σ H1 vs ds Q e1 e2 r1 rp1 p1
theorem tCB_ofF {r : List V → Hp → VK → Prop} {g : List D → M D} (hg : CallOkF X W r g) : ∀ σ H Q, tF X W (eBlt g fs) σ H Q → tCB r (tA X W fs) σ H Q := fun σ H Q ⟨b, F, c, env, st, e1, e2, r0, p⟩ =>
  tA_at e1 e2 r0 p fun vs ds env1 st1 F1 c1 H1 s1 r1 rp1 p1 => hg b F1 c1 env1 st1 σ H1 vs ds Q e1 e2 r1 rp1 p1
theorem ve_blt {id : String} {r : List V → Hp → VK → Prop} {g : List D → M D} (hc : CallR X (.builtin id) r) (hg : CallOk X W r g) (hm : X.mg x = none) (hv : bootBuiltins x = some (.builtin id)) (ha : VA X W (e :: es) fs) (hgl : Gl X x := by rfl) (hn : x ≠ "__name__" := by decide) (hdb : (x == ("__debug__" : Str)) = false := by decide)
    (he : starEach (e :: es) X.env = (false, eval e X.env) :: starEach es X.env := by rfl) (hpl : (backTo pos (starEach es X.env)).any (·.1) = false := by rfl) : VE X W (.Call (.Name x p) (e :: es) [] pos) (eBlt g fs) := PEof (pe_callB hc hgl hm hv ha hn hdb he hpl) (tCB_of hg)
theorem ve_ty {T : String} {r : List V → Hp → VK → Prop} {g : List D → M D} (hc : CallR X (.type T) r) (hg : CallOk X W r g) (hm : X.mg x = none) (hv : bootBuiltins x = some (.type T)) (ha : VA X W (e :: es) fs) (hgl : Gl X x := by rfl) (hn : x ≠ "__name__" := by decide) (hdb : (x == ("__debug__" : Str)) = false := by decide)
    (he : starEach (e :: es) X.env = (false, eval e X.env) :: starEach es X.env := by rfl) (hpl : (backTo pos (starEach es X.env)).any (·.1) = false := by rfl) : VE X W (.Call (.Name x p) (e :: es) [] pos) (eBlt g fs) := PEof (pe_callTy hc hgl hm hv ha hn hdb he hpl) (tCB_of hg)
theorem vf_ty {T : String} {r : List V → Hp → VK → Prop} {g : List D → M D} (hc : CallR X (.type T) r) (hg : CallOkF X W r g) (hm : X.mg x = none) (hv : bootBuiltins x = some (.type T)) (ha : VA X W (e :: es) fs) (hgl : Gl X x := by rfl) (hn : x ≠ "__name__" := by decide) (hdb : (x == ("__debug__" : Str)) = false := by decide)
    (he : starEach (e :: es) X.env = (false, eval e X.env) :: starEach es X.env := by rfl) (hpl : (backTo pos (starEach es X.env)).any (·.1) = false := by rfl) : VF X W (.Call (.Name x p) (e :: es) [] pos) (eBlt g fs) := PEof (pe_callTy hc hgl hm hv ha hn hdb he hpl) (tCB_ofF hg)
/-- a function of the values alone -/
def b1 (g : D → Option D) : List D → M D := fun ds => match ds with
  | [d] => ret (g d)
  | _ => fun _ _ => .bad
theorem callOk_1 {r : List V → Hp → VK → Prop} {g : D → Option D} (h : ∀ (F : Addr → Prop) (c : List Addr) (H : Hp) (x : V) (dx d : D) (Q : VK), Rp X.K X.mg F c H x dx → g dx = some d → (∀ v, Rp X.K X.mg F c H v d → Q v H) → r [x] H Q) : CallOk X W r (b1 g) := by
  intro b F c env st σ H vs ds Q e1 e2 r0 rp p
  unfold b1 at p
  split at p
  · cases rp with
    | cons hx t =>
      cases t
      unfold ret at p
      split at p
      · rename_i d ed
        rw [e1, e2] at hx
        exact h F c H _ _ d Q hx ed fun v hv => Post.here r0 p v (by rw [e1, e2]; exact hv)
      · exact p.elim
  · exact p.elim
theorem callOkF_1 {r : List V → Hp → VK → Prop} {g : D → Option D} (h : ∀ (F : Addr → Prop) (c : List Addr) (H : Hp) (x : V) (dx d : D) (Q : VK), Rp X.K X.mg F c H x dx → g dx = some d →
    (∀ p o, H p = none → (∀ F' : Addr → Prop, Stp F c H F' c (upd H p o) → OwnAt X.K X.mg F' c (upd H p o) p d) → Q (.ref p) (upd H p o)) → r [x] H Q) : CallOkF X W r (b1 g) := by
  intro b F c env st σ H vs ds Q e1 e2 r0 rp p
  unfold b1 at p
  split at p
  · cases rp with
    | cons hx t =>
      cases t
      unfold ret at p
      split at p
      · rename_i d ed
        rw [e1, e2] at hx
        exact h F c H _ _ d Q hx ed fun q o hq ho => fresh_of r0 p q o hq (by rw [e1, e2]; exact ho)
      · exact p.elim
  · exact p.elim
/-- len -/
def lenD : D → Option D
  | .lst xs => some (.int xs.length)
  | .tup xs => some (.int xs.length)
  | .scr xs => some (.int xs.length)
  | .str z => if z.length ≤ 16777216 then some (.int z.length) else none
  | _ => none
theorem lenR : CallR X (.builtin "len") (fun xs H Q => (∃ p ys, xs = [.ref p] ∧ (SqL X.K H p ys ∨ SqT X.K H p ys) ∧ Q (.int ys.length) H) ∨ (∃ z, xs = [.str z] ∧ z.length ≤ sizeLine ∧ Q (.int z.length) H)) := CallR.or call_len_seq call_len_str
/-- int -/
def intD : D → Option D
  | .int i => some (.int i)
  | .bl k => some (.int (if k then 1 else 0))
  | .str z => if z.length ≤ 640 then (PySem.intText? z).map .int else none
  | _ => none
theorem intR : CallR X (.type "int") (fun xs H Q => ((∃ i, xs = [.int i] ∧ Q (.int i) H) ∨ ∃ k, xs = [.bl k] ∧ Q (.int (if k then 1 else 0)) H) ∨ (∃ a n, xs = [.str a] ∧ PySem.intText? a = some n ∧ a.length ≤ 640 ∧ Q (.int n) H)) := CallR.or call_int1 call_int_str
theorem ok_int : CallOk X W (fun xs H Q => ((∃ i, xs = [.int i] ∧ Q (.int i) H) ∨ ∃ k, xs = [.bl k] ∧ Q (.int (if k then 1 else 0)) H) ∨ (∃ a n, xs = [.str a] ∧ PySem.intText? a = some n ∧ a.length ≤ 640 ∧ Q (.int n) H)) (b1 intD) := callOk_1 fun F c H x dx d Q hx e q => by
  unfold intD at e
  split at e
  · cases hx; cases e; exact .inl (.inl ⟨_, rfl, q _ (.int _)⟩)
  · cases hx; cases e; exact .inl (.inr ⟨_, rfl, q _ (.int _)⟩)
  · rename_i z
    cases hx
    split at e
    · cases hz : PySem.intText? z with
      | none => rw [hz] at e; cases e
      | some n => rw [hz] at e; cases e; exact .inr ⟨_, _, rfl, hz, by assumption, q _ (.int _)⟩
    · cases e
  · cases e
theorem ve_intc (hm : X.mg "int" = none) (ha : VE X W e fa) (hgl : Gl X "int" := by rfl) (hs : starEach [e] X.env = (false, eval e X.env) :: starEach [] X.env := by rfl) : VE X W (.Call (.Name "int" p) [e] [] pos) (eBlt (b1 intD) (eCons fa eNil)) := ve_ty intR ok_int hm (by decide +kernel) (va_cons ha va_nil hs) hgl (by decide) (by decide) hs
def intsOf : List D → Option (List Int)
  | [] => some []
  | .int i :: ds => (intsOf ds).map (i :: ·)
  | _ => none
def blsOf : List D → Option (List Bool)
  | [] => some []
  | .bl i :: ds => (blsOf ds).map (i :: ·)
  | _ => none
section
variable {K : PySem.W.Frag} {mg : Str → Option Value} {F : Addr → Prop} {c : List Addr} {H : Hp}
theorem Rps.ints : ∀ {vs : List V} {ds : List D} {ns : List Int}, Rps K mg F c H vs ds → intsOf ds = some ns → vs = ns.map V.int
  | _, _, _, .nil, e => by cases e; rfl
  | _, _, _, .cons h t, e => by
    cases h with
    | int i =>
      obtain ⟨ms, hm, rfl⟩ := Option.map_eq_some_iff.mp (show (intsOf _).map (i :: ·) = some _ from e)
      rw [Rps.ints t hm]; rfl
    | _ => cases e
theorem Rps.bls : ∀ {vs : List V} {ds : List D} {ns : List Bool}, Rps K mg F c H vs ds → blsOf ds = some ns → vs = ns.map V.bl
  | _, _, _, .nil, e => by cases e; rfl
  | _, _, _, .cons h t, e => by
    cases h with
    | bl i =>
      obtain ⟨ms, hm, rfl⟩ := Option.map_eq_some_iff.mp (show (blsOf _).map (i :: ·) = some _ from e)
      rw [Rps.bls t hm]; rfl
    | _ => cases e
end
@[simp] theorem intsOf_map : ∀ ns : List Int, intsOf (ns.map D.int) = some ns
  | [] => rfl
  | n :: ns => by show (intsOf (ns.map D.int)).map (n :: ·) = _; rw [intsOf_map ns]; rfl
@[simp] theorem blsOf_map : ∀ ns : List Bool, blsOf (ns.map D.bl) = some ns
  | [] => rfl
  | n :: ns => by show (blsOf (ns.map D.bl)).map (n :: ·) = _; rw [blsOf_map ns]; rfl
/-- all, any, sum of a list -/
def allD : D → Option D
  | .lst xs => (blsOf xs).map fun bs => .bl (bs.all id)
  | _ => none
theorem ok_all : CallOk X W (rAll X.K) (b1 allD) := callOk_1 fun F c H x dx d Q hx e q => by
  unfold allD at e
  split at e
  · cases hx with
    | lst f h r =>
      obtain ⟨bs, hb, rfl⟩ := Option.map_eq_some_iff.mp e
      rw [r.bls hb] at h
      exact ⟨_, bs, rfl, SqL.of h, q _ (.bl _)⟩
  · cases e
theorem ve_all (hc : X.calm = true) (hm : X.mg "all" = none) (ha : VE X W e fa) (hgl : Gl X "all" := by rfl) (hs : starEach [e] X.env = (false, eval e X.env) :: starEach [] X.env := by rfl) : VE X W (.Call (.Name "all" p) [e] [] pos) (eBlt (b1 allD) (eCons fa eNil)) := ve_blt (cr_all hc) ok_all hm PyProof.Rows.boot_all (va_cons ha va_nil hs) hgl (by decide) (by decide) hs
def listD : D → Option D
  | .lst xs => some (.lst xs)
  | .tup xs => some (.lst xs)
  | _ => none
def tupD : D → Option D
  | .lst xs => some (.tup xs)
  | .tup xs => some (.tup xs)
  | _ => none
theorem ok_list : CallOkF X W (fun xs H Q => ∃ p ys, xs = [.ref p] ∧ (SqL X.K H p ys ∨ SqT X.K H p ys) ∧ ∀ l, H l = none → Q (.ref l) (upd H l (.lst ys))) (b1 listD) := callOkF_1 fun F c H x dx d Q hx e q => by
  unfold listD at e
  split at e
  · cases e
    cases hx with
    | lst f h r => exact ⟨_, _, rfl, .inl (SqL.of h), fun l hl => q l _ hl fun F' s => ⟨_, upd_same, r.stp s⟩⟩
  · cases e
    cases hx with
    | tup h r => exact ⟨_, _, rfl, .inr h.sq, fun l hl => q l _ hl fun F' s => ⟨_, upd_same, r.stp s⟩⟩
  · cases e
theorem vf_list (hm : X.mg "list" = none) (ha : VE X W e fa) (hgl : Gl X "list" := by rfl) (hs : starEach [e] X.env = (false, eval e X.env) :: starEach [] X.env := by rfl) : VF X W (.Call (.Name "list" p) [e] [] pos) (eBlt (b1 listD) (eCons fa eNil)) := vf_ty call_list_of ok_list hm (by decide +kernel) (va_cons ha va_nil hs) hgl (by decide) (by decide) hs
def tyD : D → Option String
  | .non => some "NoneType"
  | .bl _ => some "bool"
  | .int _ => some "int"
  | .str _ => some "str"
  | .lst _ => some "list"
  | .tup _ => some "tuple"
  | _ => none
def isiD (T : String) (d : D) : Option D := (tyD d).bind fun t => (kitB t T).map .bl
theorem Rp.tyx {K : PySem.W.Frag} {mg : Str → Option Value} {F : Addr → Prop} {c : List Addr} {H : Hp} {v : V} {d : D} {t : String} (h : Rp K mg F c H v d) (e : tyD d = some t) : TyX K H v (.type t) := by
  cases h with
  | non => cases e; exact .base .non
  | bl b => cases e; exact .base (.bl b)
  | int b => cases e; exact .base (.int b)
  | str b => cases e; exact .base (.str b)
  | lst f h r => cases e; exact .base (.lst h)
  | tup h r =>
    cases e
    rcases h with ⟨_, h⟩ | ⟨o, its, n, h1, h2, _⟩
    · exact .base (.tup h)
    · exact .kTuple h1 h2
  | scr => cases e
  | obj => cases e
  | ino => cases e
  | ref => cases e
  | glb => cases e
  | lam => cases e
  | lamD => cases e
theorem ve_isi {T : Str} {t : String} {p2 : Pos} (hm : X.mg "isinstance" = none) (hmT : X.mg T = none) (hvT : bootBuiltins T = some (.type t)) (ha : VE X W e fa) (hgl : Gl X "isinstance" := by rfl) (hglT : Gl X T := by rfl) (hn : T ≠ "__name__" := by decide) (hdb : (T == ("__debug__" : Str)) = false := by decide)
    (hs : starEach [e, .Name T p2] X.env = (false, eval e X.env) :: starEach [.Name T p2] X.env := by rfl) (hs2 : starEach [.Name T p2] X.env = (false, eval (.Name T p2) X.env) :: starEach [] X.env := by rfl) (hpl : (backTo pos (starEach [.Name T p2] X.env)).any (·.1) = false := by rfl) : VE X W (.Call (.Name "isinstance" p) [e, .Name T p2] [] pos) (eUn (isiD t) fa) := by
  refine PEof (pe_callB call_isi hgl hm PyProof.Rows.boot_isinstance (pa_cons ha (pa_cons (pe_bltn (v := .ty t) hglT hmT hvT rfl hn hdb) pa_nil hs2) hs) (by decide) (by decide) hs hpl) fun σ H Q ⟨b, F, c, env, st, e1, e2, r, pp⟩ => tE_at e1 e2 r pp fun v d env1 st1 F1 c1 H1 s1 r1 rp1 p1 => ?_
  unfold ret isiD at p1
  split at p1
  · rename_i d' ed
    obtain ⟨t', ht, h2⟩ := Option.bind_eq_some_iff.mp ed
    obtain ⟨k, hk, rfl⟩ := Option.map_eq_some_iff.mp h2
    exact ⟨v, .ty t, .type t', .type t, k, rfl, .ty t, e1 ▸ rp1.tyx ht, kit_ty hk, Post.here r1 p1 _ (.bl _)⟩
  · exact p1.elim
def cutD (xs : List D) (lo hi : Option Int) : List D := (xs.drop (HT.sIx xs.length 0 lo)).take (HT.sIx xs.length xs.length hi - HT.sIx xs.length 0 lo)
theorem Rps.cut {K : PySem.W.Frag} {mg : Str → Option Value} {F : Addr → Prop} {c : List Addr} {H : Hp} {vs : List V} {ds : List D} (r : Rps K mg F c H vs ds) (lo hi : Option Int) : Rps K mg F c H (cutV vs lo hi) (cutD ds lo hi) := by
  unfold cutV cutD
  rw [r.length]
  exact (r.drop _).take _
/-- a slice's bounds -/
def VO (X : Cx) (W : WX) (e : Option Expr) (f : M (Option Int)) : Prop := PO X e (fun σ H Q => At X W f σ H fun _ t _ _ _ _ H' => Q t H')
def oNone : M (Option Int) := fun env st => .ok none env st
def oSome (fa : M D) : M (Option Int) := fun env st => (fa env st).bind fun d env st => match d with
  | .int i => .ok (some i) env st
  | _ => .bad
theorem vo_none : VO X W none oNone := ⟨fun pins s σ H Q I ⟨b, F, c, env, st, e1, e2, r, p⟩ => po_none.run pins s σ H Q I (Post.here r p)⟩
theorem vo_some (h : VE X W e fa) : VO X W (some e) (oSome fa) := ⟨fun pins s σ H Q I ⟨b, F, c, env, st, e1, e2, r, p⟩ => (po_some h).run pins s σ H Q I (tE_at e1 e2 r p fun v d env1 st1 F1 c1 H1 s1 r1 rp1 p1 => by
  split at p1
  · cases rp1; exact ⟨_, rfl, Post.here r1 p1⟩
  · exact p1.elim)⟩
theorem tO_at {β : Type} {b : Bs} {F : Addr → Prop} {c : List Addr} {env : EnvD} {st : Sto} {σ : L2.St} {H : Hp} {P : β → EnvD → Sto → (Addr → Prop) → List Addr → Hp → Prop} {f : M (Option Int)} {k : Option Int → M β} {Q : Option Int → Hp → Prop} (e1 : b.K = X.K) (e2 : b.mg = X.mg) (r : Rel b F c env st σ H) (p : Post b W F c σ H P ((f env st).bind k))
    (hq : ∀ t env' st' F' c' H', Stp F c H F' c' H' → Rel b F' c' env' st' σ H' → Post b W F' c' σ H' P (k t env' st') → Q t H') : At X W f σ H (fun _ t _ _ _ _ H' => Q t H') :=
  ⟨b, F, c, env, st, e1, e2, r, (Post.bind p).mono fun t env' st' F' c' H' s r' q => hq t env' st' F' c' H' s r' q⟩
/-- xs[::-1] -/
def revD : D → Option D
  | .lst xs => some (.lst xs.reverse)
  | _ => none
theorem vf_rev {k : Nat} {p1 p2 p3 : Pos} (ha : VE X W e fa) : VF X W (.Subscript e (.Slice none none (some (.UnaryOp .USub (.Constant (.int 1) k p1) p2)) p3) pos) (eUn revD fa) := PEof (pe_revL ha) fun σ H Q ⟨b, F, c, env, st, e1, e2, r, p⟩ =>
  tE_at e1 e2 r p fun v d env1 st1 F1 c1 H1 s1 r1 rp1 p1 => by
    unfold ret revD at p1
    split at p1
    · rename_i d' ed
      split at ed
      · cases ed
        cases rp1 with
        | lst f hx rs => exact ⟨_, _, rfl, SqL.of hx, fun q hq => fresh_of r1 p1 q _ hq fun F' s => ⟨_, upd_same, rs.reverse.stp s⟩⟩
      · cases ed
    · exact p1.elim
theorem Rel.ownUpd {b : Bs} {F : Addr → Prop} {c : List Addr} {env : EnvD} {st : Sto} {σ : L2.St} {H : Hp} (r : Rel b F c env st σ H) {i : Nat} {d d' : D} {ad : Addr} {o' : HO} (he : env[i]? = some (.ow d)) (hσ : σ[i]? = some (some (.ref ad))) (hx : Stp F c H F c (upd H ad o') → OwnAt b.K b.mg F c (upd H ad o') ad d') :
    Stp F c H F c (upd H ad o') ∧ Rel b F c (env.set i (.ow d')) st σ (upd H ad o') := by
  obtain ⟨nF, nc, n0, o, ho⟩ := r.own (i := i) ⟨d, he, hσ⟩
  have ne : ∀ y, y ≠ ad → upd H ad o' y = H y := fun y h => upd_ne h
  have hno : ∀ x, H ad ≠ some (.own x) := fun x z => by
    obtain ⟨a2, e2, _, _, _, q4⟩ := r.sl i _ he
    rw [hσ] at e2; cases e2
    cases d with
    | lst ds => obtain ⟨vs, h, _⟩ := q4; rw [z] at h; cases h
    | _ => exact q4.elim
  have hfz : ∀ y u, H ad ≠ some (.frz y u) := fun y u z => by
    obtain ⟨a2, e2, _, _, _, q4⟩ := r.sl i _ he
    rw [hσ] at e2; cases e2
    cases d with
    | lst ds => obtain ⟨vs, h, _⟩ := q4; rw [z] at h; cases h
    | _ => exact q4.elim
  have htb : ∀ ps, H ad ≠ some (.tbl ps) := by
    obtain ⟨a2, e2, _, _, _, q4⟩ := r.sl i _ he
    rw [hσ] at e2; cases e2
    exact q4.ntbl
  have s : Stp F c H F c (upd H ad o') := ⟨fun _ h => h, fun y z f e => by rw [ne y (fun q => nF (q ▸ f))]; exact e, ⟨[], (List.append_nil c).symm⟩, own_upd hno, lck_upd hfz⟩
  have il : i < env.length := (List.getElem?_eq_some_iff.mp he).1
  have own : ∀ {j y}, OwnA (env.set i (.ow d')) σ j y → OwnA env σ j y := fun {j y} ⟨dd, e, e'⟩ => by
    by_cases q : i = j
    · subst q; exact ⟨d, he, e'⟩
    · rw [List.getElem?_set_ne q] at e; exact ⟨dd, e, e'⟩
  refine ⟨s, r.rc.stp s (fun y hf => ?_) (fun y hy => ne y fun q => nc (q ▸ hy)) r.rc.nf (fun y x e => by rw [ne y fun q => hno x (q ▸ e)]; exact e) (fun y x e => by rw [ne y fun q => htb x (q ▸ e)]; exact e) (fun _ _ _ h => h), by rw [List.length_set]; exact r.len, fun j sl e => ?_, fun j k y h1 h2 => r.ds j k y (own h1) (own h2), fun y z e hc => (r.old y z e hc).up fun w h => .inl (by rw [ne y fun q => by rw [q, n0] at e; cases e]; exact h), r.new, r.nwc, r.f0, r.k0⟩
  · obtain ⟨z, e⟩ := r.rc.trk y hf
    exact ⟨z, s.keep y z hf e⟩
  · by_cases q : i = j
    · subst q
      rw [List.getElem?_set_self il] at e; cases e
      exact ⟨ad, hσ, nF, nc, n0, hx s⟩
    · rw [List.getElem?_set_ne q] at e
      have z := r.sl j sl e
      cases sl with
      | no => trivial
      | va d => obtain ⟨v, e', p⟩ := z; exact ⟨v, e', p.stp s⟩
      | gh cells vals => exact GhOk.stp z s
      | xc xi x => exact ⟨z.1, z.2.stp s⟩
      | ow d2 =>
        obtain ⟨y, e', p1, p2, p3, p4⟩ := z
        have hy : y ≠ ad := fun w => q (r.ds i j ad ⟨d, he, hσ⟩ ⟨d2, e, by rw [← w]; exact e'⟩)
        exact ⟨y, e', p1, p2, p3, p4.stp s (ne y hy)⟩
/-- x.append(e), x.extend(e) -/
def sApp (i : Nat) (g : List D → D → Option (List D)) (fa : M D) : M Fl := fun env st => match env[i]? with
  | some (.ow (.lst _)) => (fa env st).bind fun d env st => (match env[i]? with
    | some (.ow (.lst xs)) => (match g xs d with
      | some ys => .ok .nx (env.set i (.ow (.lst ys))) st
      | none => .bad)
    | _ => .bad)
  | _ => .bad
def appD (xs : List D) (d : D) : Option (List D) := if xs.length < 16777216 then some (xs ++ [d]) else none
theorem vs_app {i : Nat} {m : Str} {id : String} {r : V → List V → Hp → VK → Prop} {g : List D → D → Option (List D)} {apos p2 : Pos} (hslot : Slot "list" m id) (hty : typeOf (.builtin id) = pure (.type "method_descriptor")) (hm : MtR X id r)
    (hg : ∀ (F : Addr → Prop) (c : List Addr) (H : Hp) (ad : Addr) (vs : List V) (xs ys : List D) (v : V) (d : D) (Q : VK), H ad = some (.lst vs) → Rps X.K X.mg F c H vs xs → Rp X.K X.mg F c H v d → g xs d = some ys → (∀ ws, (∀ F' : Addr → Prop, Stp F c H F' c (upd H ad (.lst ws)) → Rps X.K X.mg F' c (upd H ad (.lst ws)) ws ys) → Q .non (upd H ad (.lst ws))) → r (.ref ad) [v] H Q)
    (ha : VE X W a fa) (hN : X.N[i]? = some x := by rfl) (hv : Vis X.env.scope x := by first | exact Or.inl rfl | exact Or.inr (Or.inl rfl) | exact Or.inr (Or.inr rfl)) (hd : (x == ("__debug__" : Str)) = false := by decide) (hcd : (x == ("__classdict__" : Str)) = false := by decide)
    (hbase : attributeBase (.Name x p) m X.env (eval (.Name x p) X.env) = eval (.Name x p) X.env := by rfl)
    (hfew : ((backTo p2 (starEach [a] X.env)).all (fun x => !x.1) && (backToKw p2 (keywordEach [] X.env)).all (fun x => x.1.isSome)
      && decide (([a] : List Expr).length + ([] : List Keyword).length + (if ([] : List Keyword).isEmpty then 0 else 1) < 30)) = true := by rfl)
    (hline : (apos.endLine == p2.line) = true := by rfl) (hs : starEach [a] X.env = (false, eval a X.env) :: starEach [] X.env := by rfl) (hplain : (backTo p2 (starEach [] X.env)).any (·.1) = false := by rfl)
    (hsw : swapsWith (.Call (.Attribute (.Name x p) m apos) [a] [] p2) none pos.line X.env = pure false := by rfl) : VS X W (.Expr (.Call (.Attribute (.Name x p) m apos) [a] [] p2) pos) (sApp i g fa) :=
  PSof (ps_expr (pe_bm PySem.F.plainAttrs_list hslot hty hm (pe_var hN hv hd hcd) (pa_cons ha pa_nil hs) hbase hfew hline hs hplain) hsw) fun D₀ σ H ⟨b, F, c, env, st, e1, e2, r0, p⟩ => by
    unfold sApp at p
    split at p
    · rename_i xs0 he0
      obtain ⟨ad, had, h1, h2, h3, vs0, h4, h5⟩ := r0.sl i _ he0
      refine ⟨_, had, .inl ⟨rfl, _, SqL.of h4⟩, sE_at e1 e2 r0 p fun v d env1 st1 F1 c1 H1 s1 r1 rp1 p1 => ?_⟩
      split at p1
      · rename_i xs he
        split at p1
        · rename_i ys hys
          obtain ⟨ad', had', k1, k2, k3, vs, k4, k5⟩ := r1.sl i _ he
          rw [had] at had'; cases had'
          rw [e1, e2] at k5 rp1
          refine hg F1 c1 H1 ad vs xs ys v d _ k4 k5 rp1 hys fun ws hw => ?_
          obtain ⟨s2, r2⟩ := r1.ownUpd (d' := .lst ys) (o' := .lst ws) he had fun s => ⟨ws, upd_same, by rw [e1, e2]; exact hw _ s⟩
          exact PostS.here (P := fun fl _ _ F c σ H => FlOk b D₀ F c σ H fl) r2 (p1.stp s2)
        · exact p1.elim
      · exact p1.elim
    · exact p.elim
theorem vs_append {i : Nat} {apos p2 : Pos} (ha : VE X W a fa) (hN : X.N[i]? = some x := by rfl) (hv : Vis X.env.scope x := by first | exact Or.inl rfl | exact Or.inr (Or.inl rfl) | exact Or.inr (Or.inr rfl)) (hd : (x == ("__debug__" : Str)) = false := by decide) (hcd : (x == ("__classdict__" : Str)) = false := by decide)
    (hbase : attributeBase (.Name x p) "append" X.env (eval (.Name x p) X.env) = eval (.Name x p) X.env := by rfl)
    (hfew : ((backTo p2 (starEach [a] X.env)).all (fun x => !x.1) && (backToKw p2 (keywordEach [] X.env)).all (fun x => x.1.isSome)
      && decide (([a] : List Expr).length + ([] : List Keyword).length + (if ([] : List Keyword).isEmpty then 0 else 1) < 30)) = true := by rfl)
    (hline : (apos.endLine == p2.line) = true := by rfl) (hs : starEach [a] X.env = (false, eval a X.env) :: starEach [] X.env := by rfl) (hplain : (backTo p2 (starEach [] X.env)).any (·.1) = false := by rfl)
    (hsw : swapsWith (.Call (.Attribute (.Name x p) "append" apos) [a] [] p2) none pos.line X.env = pure false := by rfl) : VS X W (.Expr (.Call (.Attribute (.Name x p) "append" apos) [a] [] p2) pos) (sApp i appD fa) :=
  vs_app PySem.F.slot_list_append PySem.F.type_list_append mt_append (fun F c H ad vs xs ys v d Q h1 h2 h3 h4 q => by
    unfold appD at h4
    split at h4
    · rename_i hl
      cases h4
      exact ⟨ad, vs, v, rfl, rfl, h1, by rw [h2.length, sizeLine_eq]; exact hl, q _ fun F' s => (h2.stp s).append (.cons (h3.stp s) .nil)⟩
    · cases h4) ha hN hv hd hcd hbase hfew hline hs hplain hsw
/-- a class of errors without its own __init__ -/
structure ErrV (K : PySem.W.Frag) (mg : Str → Option Value) (n : Str) : Prop where
  ex : ∃ C, mg n = some (.ref C) ∧ PySem.W.excIn K C [.type "ValueError", .type "Exception", .type "BaseException", .type "object"] "ValueError.__new__" = true ∧ PySem.W.keepIn K (.ref C) = true ∧
    PySem.W.subIn K (.ref C) (.type "BaseException") = some true ∧ PySem.W.typeIn K (.ref C) = some (.type "type")
end
end VE
namespace VE
open PySem PySem.Spec PyProof.Rows L2
variable [VEnv]
/-- a constant of the module -/
structure ConstV (K : PySem.W.Frag) (mg : Str → Option Value) (n : Str) (d : D) : Prop where
  ex : ∃ u v, mg n = some u ∧ RelV v u ∧ ∀ F c H, Rp K mg F c H v d
theorem ConstV.int {K : PySem.W.Frag} {mg : Str → Option Value} {n : Str} {i : Int} {t : Tok} (h : mg n = some (.int i t)) : ConstV K mg n (.int i) := ⟨_, .int i, h, ⟨t, rfl⟩, fun _ _ _ => .int i⟩
theorem ConstV.str {K : PySem.W.Frag} {mg : Str → Option Value} {n : Str} {i : Str} {t : Tok} (h : mg n = some (.str i t)) : ConstV K mg n (.str i) := ⟨_, .str i, h, ⟨t, rfl⟩, fun _ _ _ => .str i⟩
section
variable {X : Cx} {W : WX} {e a o : Expr} {es : List Expr} {pos pos' p : Pos} {fa fb fo fi : M D} {fs : M (List D)} {x : Str}
theorem ve_gc {d : D} (cv : ConstV X.K X.mg x d) (hg : Gl X x := by rfl) (hd : (x == ("__debug__" : Str)) = false := by decide) : VE X W (.Name x pos) (eC d) := by
  obtain ⟨u, v, hm, r, rp⟩ := cv.ex
  exact ve_c (pe_glob hg hm r hd) rp
end
end VE
namespace VE
open PySem PySem.Spec PyProof.Rows L2
section
variable {fa fb fc fo fi fe : M D} {fs : M (List D)} {ff : M (List D)} {ta tb tc : M Bool} {g g' : M Fl} {env : EnvD} {st : Sto} {i j n np : Nat} {d d' x y z : D} {ds : List D} {s m : Str} {t : Bool} {mf : FM}
@[simp] theorem x_ret_some : ret (some d) env st = .ok d env st := rfl
@[simp] theorem x_ret_none : ret none env st = .bad := rfl
def kVar (i : Nat) (s : Option Sl) : M D := fun env st => match s with
  | some (.va d) => .ok d env st
  | some (.ow d) => .ok d (env.set i (.va d)) st
  | _ => .bad
@[simp] theorem x_eVar : eVar i env st = kVar i env[i]? env st := rfl
@[simp] theorem x_kVar1 : kVar i (some (.va d)) env st = .ok d env st := rfl
@[simp] theorem x_kVar2 : kVar i (some (.ow d)) env st = .ok d (env.set i (.va d)) st := rfl
@[simp] theorem x_eC : eC d env st = .ok d env st := rfl
def kBin2 (h : D → D → M D) (x : D) : D → M D := fun y e s => h x y e s
def kBin1 (h : D → D → M D) (fb : M D) : D → M D := fun x e s => (fb e s).bind (kBin2 h x)
@[simp] theorem x_eBin {h : D → D → M D} : eBin h fa fb env st = (fa env st).bind (kBin1 h fb) := rfl

@[simp] theorem x_kBin1 {h : D → D → M D} : kBin1 h fb x env st = (fb env st).bind (kBin2 h x) := rfl
@[simp] theorem x_kBin2 {h : D → D → M D} : kBin2 h x y env st = h x y env st := rfl
@[simp] theorem x_sc2 {h : D → D → Option D} : sc2 h x y env st = ret (h x y) env st := rfl
def kUn (h : D → Option D) : D → M D := fun x e s => ret (h x) e s
@[simp] theorem x_eUn {h : D → Option D} : eUn h fa env st = (fa env st).bind (kUn h) := rfl
@[simp] theorem x_kUn {h : D → Option D} : kUn h x env st = ret (h x) env st := rfl
def kT : D → M Bool := fun x e s => match x with
  | .bl t => .ok t e s
  | _ => .bad
@[simp] theorem x_eT : eT fa env st = (fa env st).bind kT := rfl
@[simp] theorem x_kT : kT (.bl t) env st = .ok t env st := rfl
def kCh3 (q : Int → Int → Bool) (j : Int) : D → M D := fun z e s => match z with
  | .int l => .ok (.bl (q j l)) e s
  | _ => .bad
def kCh2 (p q : Int → Int → Bool) (fc : M D) (x : D) : D → M D := fun y e s => match x, y with
  | .int i, .int j => if p i j then (fc e s).bind (kCh3 q j) else .ok (.bl false) e s
  | _, _ => .bad
def kCh1 (p q : Int → Int → Bool) (fb fc : M D) : D → M D := fun x e s => (fb e s).bind (kCh2 p q fc x)
@[simp] theorem x_eChain {p q : Int → Int → Bool} : eChain p q fa fb fc env st = (fa env st).bind (kCh1 p q fb fc) := rfl
@[simp] theorem x_kCh1 {p q : Int → Int → Bool} : kCh1 p q fb fc x env st = (fb env st).bind (kCh2 p q fc x) := rfl
@[simp] theorem x_kCh2 {p q : Int → Int → Bool} {i j : Int} : kCh2 p q fc (.int i) (.int j) env st = if p i j then (fc env st).bind (kCh3 q j) else .ok (.bl false) env st := rfl
@[simp] theorem x_kCh3 {q : Int → Int → Bool} {j l : Int} : kCh3 q j (.int l) env st = .ok (.bl (q j l)) env st := rfl
def kBA (tb : M Bool) : Bool → M Bool := fun t env st => if t then tb env st else .ok false env st
def kBO (tb : M Bool) : Bool → M Bool := fun t env st => if t then .ok true env st else tb env st
def kBN : Bool → M Bool := fun t env st => .ok (!t) env st
@[simp] theorem x_bAnd : bAnd ta tb env st = (ta env st).bind (kBA tb) := rfl
@[simp] theorem x_kBA1 : kBA tb true env st = tb env st := rfl
@[simp] theorem x_kBA0 : kBA tb false env st = .ok false env st := rfl
@[simp] theorem x_bOr : bOr ta tb env st = (ta env st).bind (kBO tb) := rfl
@[simp] theorem x_kBO1 : kBO tb true env st = .ok true env st := rfl
@[simp] theorem x_kBO0 : kBO tb false env st = tb env st := rfl
@[simp] theorem x_bNot : bNot ta env st = (ta env st).bind kBN := rfl
@[simp] theorem x_kBN : kBN t env st = .ok (!t) env st := rfl
@[simp] theorem x_bYes : bYes env st = .ok true env st := rfl
def kEA (fb : M D) : D → M D := fun x env st => match x with
  | .bl true => fb env st
  | .bl false => .ok (.bl false) env st
  | _ => .bad
def kEO (fb : M D) : D → M D := fun x env st => match x with
  | .bl true => .ok (.bl true) env st
  | .bl false => fb env st
  | _ => .bad
def kEN : D → M D := fun x env st => match x with
  | .bl t => .ok (.bl (!t)) env st
  | _ => .bad
@[simp] theorem x_eAnd : eAnd fa fb env st = (fa env st).bind (kEA fb) := rfl
@[simp] theorem x_kEA1 : kEA fb (.bl true) env st = fb env st := rfl
@[simp] theorem x_kEA0 : kEA fb (.bl false) env st = .ok (.bl false) env st := rfl
@[simp] theorem x_eOr : eOr fa fb env st = (fa env st).bind (kEO fb) := rfl
@[simp] theorem x_kEO1 : kEO fb (.bl true) env st = .ok (.bl true) env st := rfl
@[simp] theorem x_kEO0 : kEO fb (.bl false) env st = fb env st := rfl
@[simp] theorem x_eNot : eNot fa env st = (fa env st).bind kEN := rfl
@[simp] theorem x_kEN : kEN (.bl t) env st = .ok (.bl (!t)) env st := rfl
def kIf (fa fb : M D) : Bool → M D := fun t env st => if t then fa env st else fb env st
@[simp] theorem x_eIf : eIf ta fa fb env st = (ta env st).bind (kIf fa fb) := rfl
@[simp] theorem x_kIf1 : kIf fa fb true env st = fa env st := rfl
@[simp] theorem x_kIf0 : kIf fa fb false env st = fb env st := rfl
@[simp] theorem x_eNil : eNil env st = .ok [] env st := rfl
def kCons2 (d : D) : List D → M (List D) := fun ds env st => .ok (d :: ds) env st
def kCons1 (fs : M (List D)) : D → M (List D) := fun d env st => (fs env st).bind (kCons2 d)
@[simp] theorem x_eCons : eCons fa fs env st = (fa env st).bind (kCons1 fs) := rfl
@[simp] theorem x_kCons1 : kCons1 fs d env st = (fs env st).bind (kCons2 d) := rfl
@[simp] theorem x_kCons2 : kCons2 d ds env st = .ok (d :: ds) env st := rfl
def kTup : List D → M D := fun ds env st => if ds.length ≤ 16777216 then .ok (.tup ds) env st else .bad
def kLst : List D → M D := fun ds env st => if ds.length ≤ 16777216 then .ok (.lst ds) env st else .bad
@[simp] theorem x_eTup : eTup fs env st = (fs env st).bind kTup := rfl
@[simp] theorem x_kTup : kTup ds env st = if ds.length ≤ 16777216 then .ok (.tup ds) env st else .bad := rfl
@[simp] theorem x_eLst : eLst fs env st = (fs env st).bind kLst := rfl
@[simp] theorem x_kLst : kLst ds env st = if ds.length ≤ 16777216 then .ok (.lst ds) env st else .bad := rfl
@[simp] theorem x_eBlt {h : List D → M D} : eBlt h fs env st = (fs env st).bind h := rfl
@[simp] theorem x_b1 {h : D → Option D} : b1 h [d] env st = ret (h d) env st := rfl
@[simp] theorem x_sNx : sNx env st = .ok .nx env st := rfl
def kSeq (g : M Fl) : Fl → M Fl := fun fl env st => match fl with
  | .nx => g env st
  | fl => .ok fl env st
@[simp] theorem x_sSeq : sSeq g g' env st = (g env st).bind (kSeq g') := rfl
@[simp] theorem x_kSeq1 : kSeq g .nx env st = g env st := id rfl
@[simp] theorem x_kSeq2 : kSeq g (.rt d) env st = .ok (.rt d) env st := rfl
@[simp] theorem x_kSeq3 : kSeq g (.rf d) env st = .ok (.rf d) env st := rfl
@[simp] theorem x_kSeq4 : kSeq g .bk env st = .ok .bk env st := rfl
@[simp] theorem x_kSeq5 : kSeq g .ct env st = .ok .ct env st := rfl
def kExpr : D → M Fl := fun _ env st => .ok .nx env st
@[simp] theorem x_sExpr : sExpr fa env st = (fa env st).bind kExpr := rfl
@[simp] theorem x_kExpr : kExpr d env st = .ok .nx env st := rfl
def kRet : D → M Fl := fun d env st => .ok (.rt d) env st
@[simp] theorem x_sRet : sRet fa env st = (fa env st).bind kRet := rfl
@[simp] theorem x_kRet : kRet d env st = .ok (.rt d) env st := rfl
def kSIf (g g' : M Fl) : Bool → M Fl := fun t env st => if t then g env st else g' env st
@[simp] theorem x_sIf : sIf ta g g' env st = (ta env st).bind (kSIf g g') := rfl
@[simp] theorem x_kSIf1 : kSIf g g' true env st = g env st := rfl
@[simp] theorem x_kSIf0 : kSIf g g' false env st = g' env st := rfl
def kSet (i : Nat) : D → M Fl := fun d env st => .ok .nx (env.set i (.va d)) st
def kSetF (i : Nat) : D → M Fl := fun d env st => .ok .nx (env.set i (.ow d)) st
@[simp] theorem x_sSet : sSet i fa env st = (fa env st).bind (kSet i) := rfl
@[simp] theorem x_kSet : kSet i d env st = .ok .nx (env.set i (.va d)) st := rfl
@[simp] theorem x_sSetF : sSetF i fa env st = (fa env st).bind (kSetF i) := rfl
@[simp] theorem x_kSetF : kSetF i d env st = .ok .nx (env.set i (.ow d)) st := rfl
def kAsg2 : Option EnvD → M Fl := fun o _ st => match o with
  | some env => .ok .nx env st
  | none => .bad
def kAsg (t : D → EnvD → Option EnvD) : D → M Fl := fun d env st => kAsg2 (t d env) env st
@[simp] theorem x_sAsg {t : D → EnvD → Option EnvD} : sAsg t fa env st = (fa env st).bind (kAsg t) := rfl
@[simp] theorem x_kAsg {t : D → EnvD → Option EnvD} : kAsg t d env st = kAsg2 (t d env) env st := rfl
@[simp] theorem x_kAsg2 {env' : EnvD} : kAsg2 (some env') env st = .ok .nx env' st := rfl
@[simp] theorem x_gN : gN i d env = some (env.set i (.va d)) := rfl
@[simp] theorem x_gsN : gsN [] env = some env := rfl
@[simp] theorem x_gsC {t : D → EnvD → Option EnvD} {u : List D → EnvD → Option EnvD} : gsC t u (d :: ds) env = (t d env).bind (u ds) := rfl
@[simp] theorem x_gT {t : List D → EnvD → Option EnvD} : gT n t (.tup ds) env = if ds.length = n then t ds env else none := rfl
def kCall (mf : FM) (n : Nat) : List D → M D := fun ds env st => if ds.length = n then callR mf ds env st else .bad
@[simp] theorem x_eCall : eCall mf n fs env st = (fs env st).bind (kCall mf n) := rfl
@[simp] theorem x_kCall : kCall mf n ds env st = if ds.length = n then callR mf ds env st else .bad := rfl
def ofRF : RF → M D := fun r env st => match r with
  | .ok d st => .ok d env st
  | .ex x st => .ex x env st
  | .bad => .bad
theorem x_callR : callR mf ds env st = ofRF (mf ds st) env st := rfl
@[simp] theorem x_ofRF1 {st' : Sto} : ofRF (.ok d st') env st = .ok d env st' := rfl
@[simp] theorem x_ofRF2 {e : Exn} {st' : Sto} : ofRF (.ex e st') env st = .ex e env st' := rfl
def kFor (t : D → EnvD → Option EnvD) (ws : List Nat) (g : M Fl) : List D → M Fl := fun ds env st => forL t ws g ds env st
@[simp] theorem x_sFor {t : D → EnvD → Option EnvD} {ws : List Nat} : sFor ff t ws g env st = (ff env st).bind (kFor t ws g) := rfl
@[simp] theorem x_kFor {t : D → EnvD → Option EnvD} {ws : List Nat} : kFor t ws g ds env st = forL t ws g ds env st := rfl
def kComp (t : D → EnvD → Option EnvD) (ws : List Nat) (ta : M Bool) (fe : M D) : List D → M D := fun ds env st => compL t ws ta fe ds [] env st
@[simp] theorem x_eComp {t : D → EnvD → Option EnvD} {ws : List Nat} : eComp ff t ws ta fe env st = (ff env st).bind (kComp t ws ta fe) := rfl
@[simp] theorem x_kComp {t : D → EnvD → Option EnvD} {ws : List Nat} : kComp t ws ta fe ds env st = compL t ws ta fe ds [] env st := rfl
@[simp] theorem rOk_ {j : Int} (h : -1000000 ≤ j) (h2 : j ≤ 1000000) : rOk j = true := by
  rw [rOk_iff]
  exact ⟨by omega, by omega⟩
noncomputable def kR1 : D → M (List D) := fun d env st => match d with
  | .int j => if rOk j then .ok (rngD 0 j.toNat) env st else .bad
  | _ => .bad
@[simp] theorem x_iR1 : iR1 fa env st = (fa env st).bind kR1 := rfl
@[simp] theorem x_kR1 {j : Int} : kR1 (.int j) env st = if rOk j then .ok (rngD 0 j.toNat) env st else .bad := rfl
def kCell (i : Nat) : List D → M Fl := fun ds env st => if ds.length ≤ 16777216 then .ok .nx (env.set i (.va (.ref st.length))) (st ++ [.lst ds]) else .bad
@[simp] theorem x_sCell : sCell i fs env st = (fs env st).bind (kCell i) := rfl
@[simp] theorem x_kCell : kCell i ds env st = if ds.length ≤ 16777216 then .ok .nx (env.set i (.va (.ref st.length))) (st ++ [.lst ds]) else .bad := rfl
def kIxC (k : Int) (c : Option Cell) : M D := fun env st => match c with
  | some (.lst ds) => ret (atI ds k) env st
  | _ => .bad
@[simp] theorem x_ixC {k : Int} : ixC (.ref n) (.int k) env st = kIxC k st[n]? env st := rfl
@[simp] theorem x_kIxC {k : Int} : kIxC k (some (.lst ds)) env st = ret (atI ds k) env st := rfl
@[simp] theorem x_oNone : oNone env st = .ok none env st := rfl
def kO : D → M (Option Int) := fun d env st => match d with
  | .int i => .ok (some i) env st
  | _ => .bad
@[simp] theorem x_oSome : oSome fa env st = (fa env st).bind kO := rfl
@[simp] theorem x_kO {i : Int} : kO (.int i) env st = .ok (some i) env st := rfl
def kApp3 (i : Nat) : Option (List D) → M Fl := fun o env st => match o with
  | some ys => .ok .nx (env.set i (.ow (.lst ys))) st
  | none => .bad
def kApp2b (i : Nat) (h : List D → D → Option (List D)) (d : D) (s : Option Sl) : M Fl := fun env st => match s with
  | some (.ow (.lst xs)) => kApp3 i (h xs d) env st
  | _ => .bad
def kApp2 (i : Nat) (h : List D → D → Option (List D)) : D → M Fl := fun d env st => kApp2b i h d env[i]? env st
def kApp1 (i : Nat) (h : List D → D → Option (List D)) (fa : M D) (s : Option Sl) : M Fl := fun env st => match s with
  | some (.ow (.lst _)) => (fa env st).bind (kApp2 i h)
  | _ => .bad
@[simp] theorem x_sApp {h : List D → D → Option (List D)} : sApp i h fa env st = kApp1 i h fa env[i]? env st := rfl
@[simp] theorem x_kApp1 {h : List D → D → Option (List D)} : kApp1 i h fa (some (.ow (.lst ds))) env st = (fa env st).bind (kApp2 i h) := rfl
@[simp] theorem x_kApp2 {h : List D → D → Option (List D)} : kApp2 i h d env st = kApp2b i h d env[i]? env st := rfl
@[simp] theorem x_kApp2b {h : List D → D → Option (List D)} : kApp2b i h d (some (.ow (.lst ds))) env st = kApp3 i (h ds d) env st := rfl
@[simp] theorem x_kApp3 : kApp3 i (some ds) env st = .ok .nx (env.set i (.ow (.lst ds))) st := rfl
@[simp] theorem x_appD : appD ds d = if ds.length < 16777216 then some (ds ++ [d]) else none := rfl
@[simp] theorem x_sub {i j : Int} : subI (.int i) (.int j) = some (.int (i - j)) := rfl
@[simp] theorem x_mul {i j : Int} : mulI (.int i) (.int j) = if mulOk i j then some (.int (i * j)) else none := rfl
@[simp] theorem x_fdiv {i j : Int} : fdivI (.int i) (.int j) = if divOk j then some (.int (i / j)) else none := rfl
@[simp] theorem x_mod {i j : Int} : modI (.int i) (.int j) = if 0 < j then some (.int (i % j)) else none := rfl
@[simp] theorem x_pow {i j : Int} : powI (.int i) (.int j) = if decide (0 ≤ j) && decide (j ≤ 1000) && decide (i.natAbs < 2 ^ 64) then some (.int (i ^ j.toNat)) else none := rfl
@[simp] theorem x_neg {i : Int} : negI (.int i) = some (.int (-i)) := rfl
@[simp] theorem x_isN {b : Bool} : isN b x .non = some (.bl (if b then !isNone x else isNone x)) := rfl
@[simp] theorem x_ixL {xs : List D} {k : Int} : ixD (.lst xs) (.int k) = atI xs k := rfl
@[simp] theorem x_ixT {xs : List D} {k : Int} : ixD (.tup xs) (.int k) = atI xs k := rfl
@[simp] theorem x_ixR {xs : List Int} {k : Int} : ixD (.scr xs) (.int k) = (atI xs k).map .int := rfl
@[simp] theorem x_len1 {xs : List D} : lenD (.lst xs) = some (.int xs.length) := rfl
@[simp] theorem x_len2 {xs : List D} : lenD (.tup xs) = some (.int xs.length) := rfl
@[simp] theorem x_len3 {xs : List Int} : lenD (.scr xs) = some (.int xs.length) := rfl
@[simp] theorem x_len4 {z : Str} : lenD (.str z) = if z.length ≤ 16777216 then some (.int z.length) else none := rfl
@[simp] theorem x_int1 {i : Int} : intD (.int i) = some (.int i) := rfl
@[simp] theorem x_int2 {i : Bool} : intD (.bl i) = some (.int (if i then 1 else 0)) := rfl
@[simp] theorem x_tup1 {xs : List D} : tupD (.lst xs) = some (.tup xs) := rfl
@[simp] theorem x_tup2 {xs : List D} : tupD (.tup xs) = some (.tup xs) := rfl
@[simp] theorem x_list1 {xs : List D} : listD (.lst xs) = some (.lst xs) := rfl
@[simp] theorem x_list2 {xs : List D} : listD (.tup xs) = some (.lst xs) := rfl
@[simp] theorem x_rev {xs : List D} : revD (.lst xs) = some (.lst xs.reverse) := rfl
@[simp] theorem x_cat {xs ys : List D} : catL (.lst xs) (.lst ys) = if xs.length + ys.length ≤ 16777216 then some (.lst (xs ++ ys)) else none := rfl
@[simp] theorem x_ii1 {i : Int} : isiD "int" (.int i) = some (.bl true) := by simp only [isiD, tyD]; rfl
@[simp] theorem x_ii2 {i : Bool} : isiD "int" (.bl i) = some (.bl true) := by simp only [isiD, tyD]; rfl
@[simp] theorem x_ii3 {i : Str} : isiD "int" (.str i) = some (.bl false) := by simp only [isiD, tyD]; rfl
@[simp] theorem x_ii4 : isiD "int" .non = some (.bl false) := by simp only [isiD, tyD]; rfl
@[simp] theorem x_ib1 {i : Int} : isiD "bool" (.int i) = some (.bl false) := by simp only [isiD, tyD]; rfl
@[simp] theorem x_ib2 {i : Bool} : isiD "bool" (.bl i) = some (.bl true) := by simp only [isiD, tyD]; rfl
@[simp] theorem x_is1 {i : Str} : isiD "str" (.str i) = some (.bl true) := by simp only [isiD, tyD]; rfl
@[simp] theorem x_is2 {i : Int} : isiD "str" (.int i) = some (.bl false) := by simp only [isiD, tyD]; rfl
@[simp] theorem x_is3 : isiD "str" .non = some (.bl false) := by simp only [isiD, tyD]; rfl
@[simp] theorem x_is4 {i : Bool} : isiD "str" (.bl i) = some (.bl false) := by simp only [isiD, tyD]; rfl
@[simp] theorem x_toRF1 {fr : Bool} : toRF fr (.ok .nx env st) = if fr then .bad else .ok .non st := rfl
@[simp] theorem x_toRF2 {fr : Bool} : toRF fr (.ok (.rt d) env st) = if fr then .bad else .ok d st := rfl
@[simp] theorem x_toRF3 {fr : Bool} : toRF fr (.ok (.rf d) env st) = .ok d st := rfl
@[simp] theorem x_toRF4 {fr : Bool} {e : Exn} : toRF fr (.ex e env st) = .ex e st := rfl
@[simp] theorem x_isNone : isNone .non = true := rfl
@[simp] theorem x_isNone1 {i : Int} : isNone (.int i) = false := rfl
@[simp] theorem x_isNone2 {i : Str} : isNone (.str i) = false := rfl
end
/-- items at written places -/
@[simp] theorem at0 {α : Type} {x : α} {xs : List α} : atI (x :: xs) 0 = some x := atI_nat (j := 0) rfl
@[simp] theorem at1 {α : Type} {x y : α} {xs : List α} : atI (x :: y :: xs) 1 = some y := atI_nat (j := 1) rfl
@[simp] theorem at2 {α : Type} {x y z : α} {xs : List α} : atI (x :: y :: z :: xs) 2 = some z := atI_nat (j := 2) rfl
@[simp] theorem at3 {α : Type} {x y z u : α} {xs : List α} : atI (x :: y :: z :: u :: xs) 3 = some u := atI_nat (j := 3) rfl
@[simp] theorem at4 {α : Type} {x y z u v : α} {xs : List α} : atI (x :: y :: z :: u :: v :: xs) 4 = some v := atI_nat (j := 4) rfl
@[simp] theorem at5 {α : Type} {x y z u v w : α} {xs : List α} : atI (x :: y :: z :: u :: v :: w :: xs) 5 = some w := atI_nat (j := 5) rfl
theorem ixN_nat {n : Nat} {i : Int} (h0 : 0 ≤ i) (h1 : i < n) : ixN n i = some i.toNat := by unfold ixN; rw [if_pos h0, if_pos h1]
theorem atI_pos {α : Type} {xs : List α} {i : Int} (h0 : 0 ≤ i) (h1 : i < xs.length) : atI xs i = xs[i.toNat]? := by unfold atI; rw [ixN_nat h0 h1]; rfl
@[simp] theorem ixN_4_0 : ixN 4 0 = some 0 := by decide
@[simp] theorem ixN_4_1 : ixN 4 1 = some 1 := by decide
@[simp] theorem ixN_4_2 : ixN 4 2 = some 2 := by decide
@[simp] theorem ixN_4_3 : ixN 4 3 = some 3 := by decide
theorem mulOk_r {i j : Int} (h : -(2 ^ 64) < j ∧ j < 2 ^ 64) : mulOk i j = true := by
  exact mulOk_iff.mpr (.inr h)
theorem divOk_ {j : Int} (h : 0 < j) (h2 : j ≤ 10000000000000000000000000000000000000000) : divOk j = true := by
  exact divOk_iff.mpr ⟨h, h2⟩
end VE
namespace VE
open PySem PySem.Spec PyProof.Rows L2
variable [VEnv]
section
variable {X : Cx} {W : WX} {e a o : Expr} {es : List Expr} {pos pos' : Pos} {fa fb fo fi : M D} {fs : M (List D)} {x : Str}
omit [VEnv] in
/-- the instance's object, its dict -/
theorem slAt_get {pins : List (Addr × Obj)} {σ : L2.St} {H : Hp} {s : Shared} {a C dx : Addr} {vs : List (Option V)} (I : Inv X pins σ H s) (h : SlAt H a C dx vs) : ∃ (us : List (Option Value)) (od : Obj), Paired RelO vs us ∧ s.heap.get? a = some { PySem.W.instObj C dx with slots := us.toArray } ∧
    PySem.W.InstAt s.heap a { PySem.W.instObj C dx with slots := us.toArray } C (some od) := by
  obtain ⟨ho, _, e⟩ := h
  have hd : s.heap.get? dx = some PySem.W.emptyDict := (I.hok dx _ ho).1
  obtain ⟨us, r, q⟩ := (I.hok a _ e).1
  exact ⟨us, _, r, q, ⟨q, rfl, rfl, hd⟩⟩
theorem getslot_ok {pins : List (Addr × Obj)} {σ : L2.St} {H : Hp} {s : Shared} {a C dx p : Addr} {vs : List (Option V)} {f : Str} {i : Nat} {v : V} {A : Around} {E : Value → Shared → Prop} {b : Bool} {Q : Value → Shared → Prop} (I : Inv X pins σ H s) (e : SlAt H a C dx vs) (c : L2.SCls X.K C) (k : L2.Slt X.K C f i p) (l : vs[i]? = some (some v))
    (h : ∀ u s', Inv X pins σ H s' → RelV v u → Q u s') : wpAny (model X.prog X.w) A (getAttr (.ref a) f b) Q E s := by
  obtain ⟨us, od, r, _, J⟩ := slAt_get I e
  obtain ⟨m, F⟩ := I.fr
  obtain ⟨q, hq, rq⟩ := L2.slots_get r l
  obtain ⟨u, eu, ru⟩ := RelO.some_of rq
  subst eu
  refine PySem.W.get_slot (v := u) F I.ok.mod.kin J c.pg c.ic k.at_ k.get k.tk k.ix ?_ (handed_of ru) (h u _ (I.tok _) ru)
  show (us.toArray[i]?).join = some u
  rw [List.getElem?_toArray, hq]
  rfl
theorem setslot_ok {pins : List (Addr × Obj)} {σ : L2.St} {H : Hp} {s : Shared} {a C dx p : Addr} {vs : List (Option V)} {f : Str} {i : Nat} {A : Around} {E : Value → Shared → Prop} {y : V} {u : Value} {Q : Unit → Shared → Prop} (I : Inv X pins σ H s) (e : SlAt H a C dx vs) (c : L2.SCls X.K C) (k : L2.Slt X.K C f i p) (ry : RelV y u)
    (h : ∀ s', Inv X pins σ (upd H a (L2.SlO C dx a (L2.putS i y vs))) s' → Q () s') : wpAny (model X.prog X.w) A (setAttr (.ref a) f u) Q E s := by
  obtain ⟨us, od, r, _, J⟩ := slAt_get I e
  refine GSL.set_attr I.kIn J c.sa c.po k.taker k.ty k.ix k.lt rfl fun h' hx keep => h _ ?_
  have hx2 : h'.get? a = some { PySem.W.instObj C dx with slots := ((us ++ List.replicate (i + 1 - us.length) none).set i (some u)).toArray } := by
    rw [← L2.slots_array]
    exact hx
  have mu : Mut (H a) := by rw [e.2.2]; exact True.intro
  refine I.write (x := a) (e := a) (t' := s.toks + 1) mu (.inl rfl) (fun b o nb q => keep b o nb q) ⟨_, hx2⟩ ?_
  exact ⟨⟨_, L2.slots_put ry i r, hx2⟩, ⟨_, hx2⟩, fun h1 h2 q z => let ⟨us2, r2, e2⟩ := q; ⟨us2, r2, z _ e2⟩⟩
def tSlotB (C : Addr) (i : Nat) (ta : TE) : TE := fun σ H Q => ta σ H fun x H1 => ∃ a dx vs v, x = .ref a ∧ SlAt H1 a C dx vs ∧ vs[i]? = some (some v) ∧ Q v H1
def sSlotB (C : Addr) (i : Nat) (ta tv : TE) : TS := fun D σ H => tv σ H fun y H1 => ta σ H1 fun x H2 => ∃ a dx vs, x = .ref a ∧ SlAt H2 a C dx vs ∧ D.nx σ (upd H2 a (L2.SlO C dx a (L2.putS i y vs)))
theorem pe_slot {ta : TE} {C p : Addr} {i : Nat} {f : Str} (c : L2.SCls X.K C) (k : L2.Slt X.K C f i p) (he : PE X e ta) (hb : attributeBase e f X.env (eval e X.env) = eval e X.env := by rfl) : PE X (.Attribute e f pos) (tSlotB C i ta) := by
  refine ⟨fun pins s σ H Q I h => ?_⟩
  refine attr_of hb (thn (he.run pins s σ H _ I h) fun u s1 ⟨x, H1, I1, rx, a, dx, vs, v, ex, ea, l, q⟩ => ?_)
  subst ex
  obtain rfl : u = Value.ref a := rx
  exact getslot_ok I1 ea c k l fun u' s2 I2 ru => ⟨v, H1, I2, ru, q⟩
theorem ps_slot {ta tv : TE} {C p : Addr} {i : Nat} {f : Str} {value : Expr} (c : L2.SCls X.K C) (k : L2.Slt X.K C f i p) (ha : PE X o ta) (hv : PE X value tv) (hs : swapsWith value (some (.Attribute o f pos')) pos.line X.env = pure false := by rfl) :
    PS X (.Assign [.Attribute o f pos'] value pos) (sSlotB C i ta tv) := by
  refine ⟨fun pins s σ H D I h => ?_⟩
  refine plainObj_wpAny_Assign_Attribute (thn (hv.run pins s σ H _ I h) fun u s1 ⟨y, H1, I1, ry, q⟩ => thn (ha.run pins s1 σ H1 _ I1 q) fun ov s2 ⟨x, H2, I2, rx, a, dx, vs, ex, ea, q2⟩ => ?_) hs
  subst ex
  obtain rfl : ov = Value.ref a := rx
  exact setslot_ok I2 ea c k ry fun s3 I3 => ⟨σ, _, I3, q2⟩
/-- a new instance with slots; its dict is known to be empty -/
theorem Inv.madeB {pins : List (Addr × Obj)} {σ : L2.St} {H : Hp} {s : Shared} {C : Addr} (I : Inv X pins σ H s) : Inv X pins σ (upd (upd H s.heap.objs.size (.frz PySem.W.emptyDict (.own (s.heap.objs.size + 1)))) (s.heap.objs.size + 1) (L2.SlO C s.heap.objs.size (s.heap.objs.size + 1) []))
    { s with heap := (s.heap.push PySem.W.emptyDict).push (PySem.W.instObj C s.heap.objs.size) } := by
  have e1 : (s.heap.push PySem.W.emptyDict).get? s.heap.objs.size = some PySem.W.emptyDict := Heap.get?_push_size s.heap rfl
  have e2 : ((s.heap.push PySem.W.emptyDict).push (PySem.W.instObj C s.heap.objs.size)).get? (s.heap.objs.size + 1) = some (PySem.W.instObj C s.heap.objs.size) := by
    have := Heap.get?_push_size (s.heap.push PySem.W.emptyDict) (o := PySem.W.instObj C s.heap.objs.size) rfl
    rwa [Heap.size_push] at this
  have I1 := I.laid (a := s.heap.objs.size) (o := .frz PySem.W.emptyDict (.own (s.heap.objs.size + 1))) (h' := s.heap.push PySem.W.emptyDict) (t' := s.toks) (fun b u q => Heap.get?_push_of_some _ q) (Nat.le_refl _) ⟨e1, ⟨_, e1⟩⟩
  refine I1.laid (a := s.heap.objs.size + 1) (o := L2.SlO C s.heap.objs.size (s.heap.objs.size + 1) []) (t' := s.toks) (fun b u q => Heap.get?_push_of_some _ q) (Nat.le_of_eq (Heap.size_push _ _)) ?_
  exact ⟨⟨[], .nil, e2⟩, ⟨_, e2⟩, fun h1 h2 q z => let ⟨us2, r2, e3⟩ := q; ⟨us2, r2, z _ e3⟩⟩
theorem run_makeB {k : Nat} {f C : Addr} {fd : FuncData} {ps : List Str} {sp : Sp} {E : L2.St → XK} {pins : List (Addr × Obj)} {σ : L2.St} {H : Hp} {s : Shared} {Q : VK} {us : List Value} {vs : List V} (M : Mk X.K C f) (F : FnOk X.prog X.w X.K X.mg X.base (L2Z.CX X.prog X.w X.K) k f fd ps sp) (hr : Room (k + 1) X.A) (hb : Binds X.K fd ps [])
    (hx : PassesAt (L2Z.CX X.prog X.w X.K) X σ (E σ)) (I : Inv X pins σ H s) (r : Vals vs us)
    (h : ∀ x dx, H x = none → H dx = none → dx ≠ x → sp (.ref x :: vs) (upd (upd H dx (.frz PySem.W.emptyDict (.own x))) x (L2.SlO C dx x [])) (fun v H2 => v = .non ∧ Q (.ref x) H2) (E σ)) :
    wpAny (model X.prog X.w) X.A (call (.ref C) us) (EP X pins σ Q) X.xe s := by
  have hq := h (s.heap.objs.size + 1) s.heap.objs.size (I.hok.fresh (Nat.le_succ _)) (I.hok.fresh (Nat.le_refl _)) (Nat.ne_of_lt (Nat.lt_succ_self _))
  have I2 := Inv.madeB (C := C) I
  have r2 : Vals (V.ref (s.heap.objs.size + 1) :: vs) (Value.ref (s.heap.objs.size + 1) :: us) := .cons rfl r
  have hl : (Value.ref (s.heap.objs.size + 1) :: us).length = ps.length := by
    have e := r2.length
    rw [F.len _ _ _ _ hq] at e
    exact e.symm
  have bb := hb _ (Value.ref (s.heap.objs.size + 1) :: us) I2.kIn (by rw [List.append_nil]; exact hl)
  rw [List.append_nil] at bb
  refine wpAny_call (make_map (f := f) I.kIn M.makes M.init (beq_iff_eq.mp M.fn) (codeAny_mono (F.run _ X.stack _ _ ⟨Value.ref (s.heap.objs.size + 1) :: us, []⟩ (Value.ref (s.heap.objs.size + 1) :: us) _ _ (E σ) (hr.make C us [])
    (I2.env0.make C us []) bb r2 hq) fun r s' hq' => ?_))
  cases r with
  | error e => exact hx pins _ _ e s' I2 hq'
  | ok fl =>
    cases fl with
    | ret u =>
      obtain ⟨v, H', I3, rv, ev, q3⟩ := I2.after hq'
      subst ev
      exact ⟨rv, ⟨V.ref (s.heap.objs.size + 1), H', I3, rfl, q3⟩⟩
    | next => exact False.elim hq'
    | brk => exact False.elim hq'
    | cont => exact False.elim hq'
/-- a class with slots: its instances' variables, in order -/
structure SlV (K : PySem.W.Frag) (mg : Str → Option Value) (n : Str) (fl : List Str) : Prop where
  ex : ∃ C, mg n = some (.ref C)
  cl : ∀ C, mg n = some (.ref C) → L2.SCls K C
  at_ : ∀ C i f, mg n = some (.ref C) → fl[i]? = some f → ∃ p, L2.Slt K C f i p
theorem Rps.at {K : PySem.W.Frag} {mg : Str → Option Value} {F : Addr → Prop} {c : List Addr} {H : Hp} {vs : List V} {ds : List D} {i : Nat} {d : D} (r : Rps K mg F c H vs ds) (h : ds[i]? = some d) : ∃ v, (vs.map some)[i]? = some (some v) ∧ Rp K mg F c H v d := by
  obtain ⟨v, hv, rp⟩ := r.get' h
  exact ⟨v, by rw [List.getElem?_map, hv]; rfl, rp⟩
/-- o.f = e, the next slot is filled -/
def sSlot (n : Str) (i : Nat) (fo fe : M D) : M Fl := fun env st => (fe env st).bind fun d env st => (fo env st).bind fun r env st => match r with
  | .ref q => (match st[q]? with
    | some (.slo n' ds) => if n' = n ∧ ds.length = i then .ok .nx env (st.set q (.slo n (ds ++ [d]))) else .bad
    | _ => .bad)
  | _ => .bad
theorem putS_end (vs : List V) (v : V) : L2.putS vs.length v (vs.map some) = (vs ++ [v]).map some := by
  unfold L2.putS
  rw [List.length_map, show vs.length + 1 - vs.length = 1 from by omega, List.map_append]
  show ((vs.map some) ++ [none]).set vs.length (some v) = _
  rw [List.set_append_right _ _ (by simp)]
  simp
theorem vs_slot {n f : Str} {fl : List Str} {fe : M D} (i : Nat) (cv : SlV X.K X.mg n fl) (ho : VE X W o fo) (he : VE X W e fe) (hf : fl[i]? = some f := by rfl) (hs : swapsWith e (some (.Attribute o f pos')) pos.line X.env = pure false := by rfl) : VS X W (.Assign [.Attribute o f pos'] e pos) (sSlot n i fo fe) := by
  obtain ⟨C, hC⟩ := cv.ex
  obtain ⟨p, sl⟩ := cv.at_ C i f hC hf
  refine PSof (ps_slot (cv.cl C hC) sl ho he hs) fun D₀ σ H ⟨b, F, c, env, st, e1, e2, r, p⟩ =>
    sE_at e1 e2 r p fun v d env1 st1 F1 c1 H1 s1 r1 rp1 p1 => sE_at e1 e2 r1 p1 fun u r_ env2 st2 F2 c2 H2 s2 r2 rp2 p2 => ?_
  split at p2
  · rename_i m
    split at p2
    · rename_i n' ds es
      split at p2
      · rename_i hn
        obtain ⟨en, hl⟩ := hn
        subst en
        obtain ⟨q, rfl, hc, C', dx, vs, k1, k2, rps⟩ := r2.cell rp2 es
        have k1' := k1
        rw [e2, hC] at k1'; cases k1'
        refine ⟨q, dx, vs.map some, rfl, k2, ?_⟩
        have hvl : vs.length = i := by rw [rps.length]; exact hl
        rw [← hvl, putS_end]
        obtain ⟨s4, r4⟩ := r2.cellUpd (o := L2.SlO C dx q ((vs ++ [v]).map some)) (x := .slo n' (ds ++ [d])) hc fun s => ⟨C, dx, vs ++ [v], k1, k2.here, (rps.stp s).append (.cons ((rp1.stp s2).stp s) .nil)⟩
        exact PostS.here (P := fun fl _ _ F c σ H => FlOk b D₀ F c σ H fl) r4 (p2.stp s4)
      · exact p2.elim
    · exact p2.elim
  · exact p2.elim
/-- a property of a class with slots -/
structure PrV (P : Program) (w : World) (K : PySem.W.Frag) (mg : Str → Option Value) (base : Heap) (k : Nat) (n f : Str) (mf : FM) : Prop where
  ex : ∃ C p g fd ps, mg n = some (.ref C) ∧ L2.SCls K C ∧ PropOf K C f p g ∧ FnOk P w K mg base (L2Z.CX P w K) k g fd ps (spV K mg false 1 mf) ∧ Binds K fd ps []
theorem getprop_at {k : Nat} {C p g a dx : Addr} {vs : List (Option V)} {f : Str} {fd : FuncData} {ps : List Str} {sp : Sp} {pins : List (Addr × Obj)} {σ : L2.St} {H : Hp} {s : Shared} {Q : VK} {b : Bool} {E' : Value → Shared → Prop} (I : Inv X pins σ H s) (ea : VE.SlAt H a C dx vs) (c : L2.SCls X.K C) (hp : PropOf X.K C f p g)
    (F : FnOk X.prog X.w X.K X.mg X.base (L2Z.CX X.prog X.w X.K) k g fd ps sp) (hr : Room (k + 1) X.A) (hb : Binds X.K fd ps []) (h : sp [.ref a] H Q (fun _ _ _ => False)) :
    wpAny (model X.prog X.w) X.A (getAttr (.ref a) f b) (EP X pins σ Q) E' s := by
  obtain ⟨us, od, _, _, J⟩ := VE.slAt_get I ea
  obtain ⟨rest, hrec⟩ := hp.rec_
  have I1 := I.tok (s.toks + 1)
  have hl : ([Value.ref a] ++ ([] : List Value)).length = ps.length := by
    rw [← F.len _ _ _ _ h]; rfl
  have cg : PySem.W.plainGet X.K C f = true := c.pg
  refine PySem.W.get_bind I.kIn J (PySem.W.plainGet_of cg).1 (PySem.W.findObj_data c.ic hp.at_ hp.get hp.tak) (PySem.W.plainGet_of cg).2 (wpAny_call (PySem.W.prop_get (s := { s with toks := s.toks + 1 }) I.kIn hrec ?_))
  refine codeAny_mono (F.run X.A.in1 X.stack { s with toks := s.toks + 1 } H ⟨[.ref a], []⟩ (.ref a :: []) (.ref a :: []) Q (fun _ _ _ => False) hr.in1 I1.env0.in1 (hb _ [.ref a] I1.kIn hl) (.cons rfl .nil) h) fun r s' hq => ?_
  cases r with
  | error er => exact (L2Z.cx_no hq).elim
  | ok fl =>
    cases fl with
    | ret u =>
      obtain ⟨v, H', I3, rv, q3⟩ := I1.after hq
      show wpAny _ _ (handedOut u) _ _ _
      rw [PySem.W.handedOut_of (handed_of rv)]
      exact wpAny_pure ⟨v, H', I3, rv, q3⟩
    | next => exact False.elim hq
    | brk => exact False.elim hq
    | cont => exact False.elim hq
end
end VE
namespace VE
open PySem PySem.Spec PyProof.Rows L2
variable [VEnv]
section
variable {X : Cx} {W : WX} {b : Bs} {F : Addr → Prop} {c : List Addr} {H : Hp} {e e2 : Expr} {pos p tpos : Pos} {elts : List Expr} {kk : Nat} {fa : M D} {fs : M (List D)}
def zipD (xs ys : List D) : List D := List.zipWith (fun x y => .tup [x, y]) xs ys
theorem zipD_at {xs ys : List D} {i : Nat} {d : D} (h : (zipD xs ys)[i]? = some d) : ∃ x y, xs[i]? = some x ∧ ys[i]? = some y ∧ d = .tup [x, y] := by
  unfold zipD at h
  rw [List.getElem?_zipWith] at h
  split at h
  · rename_i x y ex ey; cases h; exact ⟨x, y, ex, ey, rfl⟩
  · cases h
theorem zipD_end {xs ys : List D} {i : Nat} (h : (zipD xs ys).length ≤ i) : xs.length ≤ i ∨ ys.length ≤ i := by
  unfold zipD at h
  rw [List.length_zipWith] at h
  omega
theorem walks_zipL {a a2 : Addr} {xs xs2 : List V} {ds ds2 : List D} (hF : F a) (hx : H a = some (.lst xs)) (r : Rps b.K b.mg F c H xs ds) (hF2 : F a2) (hx2 : H a2 = some (.lst xs2)) (r2 : Rps b.K b.mg F c H xs2 ds2) : Walks b (Itz b.K a a2) (zipD ds ds2) F c H := by
  intro F' c' H' s i
  have q1 := SqL.of (K := b.K) (s.keep a _ hF hx)
  have q2 := SqL.of (K := b.K) (s.keep a2 _ hF2 hx2)
  have r' := r.stp s
  have r2' := r2.stp s
  refine ⟨fun d hd => ?_, fun hi => ⟨xs, xs2, q1, q2, by rw [r.length, r2.length]; exact zipD_end hi⟩⟩
  obtain ⟨x, y, ex, ey, rfl⟩ := zipD_at hd
  obtain ⟨v, hv, rp⟩ := r'.get' ex
  obtain ⟨v2, hv2, rp2⟩ := r2'.get' ey
  refine ⟨⟨xs, xs2, v, v2, q1, q2, hv, hv2⟩, fun z H2 yl => ?_⟩
  obtain ⟨T, x', y', rfl, hT, rfl, k1, k2⟩ := yl
  have z1 := k1 xs q1
  have z2 := k2 xs2 q2
  rw [hv] at z1; cases z1
  rw [hv2] at z2; cases z2
  exact .inr ⟨T, [v, v2], _, rfl, hT, rfl, rfl, .cons rp (.cons rp2 .nil)⟩
theorem walks_zipT {a a2 : Addr} {xs xs2 : List V} {ds ds2 : List D} (hx : FqT b.K F H a xs) (r : Rps b.K b.mg F c H xs ds) (hx2 : FqT b.K F H a2 xs2) (r2 : Rps b.K b.mg F c H xs2 ds2) : Walks b (RZ.ItzT b.K a a2) (zipD ds ds2) F c H := by
  intro F' c' H' s i
  have q1 := (hx.stp s).sq
  have q2 := (hx2.stp s).sq
  have r' := r.stp s
  have r2' := r2.stp s
  refine ⟨fun d hd => ?_, fun hi => ⟨xs, xs2, q1, q2, by rw [r.length, r2.length]; exact zipD_end hi⟩⟩
  obtain ⟨x, y, ex, ey, rfl⟩ := zipD_at hd
  obtain ⟨v, hv, rp⟩ := r'.get' ex
  obtain ⟨v2, hv2, rp2⟩ := r2'.get' ey
  refine ⟨⟨xs, xs2, v, v2, q1, q2, hv, hv2⟩, fun z H2 yl => ?_⟩
  obtain ⟨T, x', y', rfl, hT, rfl, k1, k2⟩ := yl
  have z1 := k1 xs q1
  have z2 := k2 xs2 q2
  rw [hv] at z1; cases z1
  rw [hv2] at z2; cases z2
  exact .inr ⟨T, [v, v2], _, rfl, hT, rfl, rfl, .cons rp (.cons rp2 .nil)⟩
def iZip (fs : M (List D)) : M (List D) := fun env st => (fs env st).bind fun ds env st => match ds with
  | [.lst xs, .lst ys] => .ok (zipD xs ys) env st
  | [.tup xs, .tup ys] => .ok (zipD xs ys) env st
  | _ => .bad
theorem vi_zip (hm : X.mg "zip" = none) (h : VA X W [e, e2] fs) (hg : Gl X "zip" := by rfl) (hs : starEach [e, e2] X.env = (false, eval e X.env) :: starEach [e2] X.env := by rfl) (hpl : (backTo pos (starEach [e2] X.env)).any (·.1) = false := by rfl) :
    VI X W (.Tuple elts kk tpos) (.Call (.Name "zip" p) [e, e2] [] pos) (iZip fs) :=
  ⟨_, RZ.pi_zipA hg hm h hs hpl, fun σ H R ⟨b, F, c, env, st, e1, e2, r, p⟩ => tA_at e1 e2 r p fun vs ds env1 st1 F1 c1 H1 s1 r1 rp1 p1 => by
    split at p1
    · rename_i xs ys
      cases rp1 with
      | cons a1 t1 => cases t1 with
        | cons a2 t2 => cases t2; cases a1 with
          | lst f hx hr => cases a2 with
            | lst f2 hx2 hr2 => exact ⟨_, _, _, _, rfl, .inl ⟨SqL.of hx, SqL.of hx2, Post.here r1 p1 _ (e1 ▸ walks_zipL f hx hr f2 hx2 hr2)⟩⟩
    · rename_i xs ys
      cases rp1 with
      | cons a1 t1 => cases t1 with
        | cons a2 t2 => cases t2; cases a1 with
          | tup hx hr => cases a2 with
            | tup hx2 hr2 => exact ⟨_, _, _, _, rfl, .inr ⟨e1 ▸ hx.sq, e1 ▸ hx2.sq, Post.here r1 p1 _ (e1 ▸ walks_zipT hx hr hx2 hr2)⟩⟩
    · exact p1.elim⟩
/-- enumerate -/
def enuD : Nat → List D → List D
  | _, [] => []
  | i, d :: ds => .tup [.int (i : Nat), d] :: enuD (i + 1) ds
theorem enuD_len : ∀ (i : Nat) (ds : List D), (enuD i ds).length = ds.length
  | _, [] => rfl
  | i, d :: ds => by simp [enuD, enuD_len (i + 1) ds]
theorem enuD_at : ∀ (j : Nat) (ds : List D) (i : Nat) (d : D), (enuD j ds)[i]? = some d → ∃ x, ds[i]? = some x ∧ d = .tup [.int ((j + i : Nat) : Int), x]
  | _, [], i, d, h => by simp [enuD] at h
  | j, x :: ds, 0, d, h => by simp [enuD] at h; exact ⟨x, rfl, by rw [← h]; rfl⟩
  | j, x :: ds, i + 1, d, h => by
    obtain ⟨y, e, q⟩ := enuD_at (j + 1) ds i d (by simpa [enuD] using h)
    exact ⟨y, by simpa using e, by rw [q]; congr 4; omega⟩
theorem walks_enL {a : Addr} {xs : List V} {ds : List D} (hF : F a) (hx : H a = some (.lst xs)) (r : Rps b.K b.mg F c H xs ds) : Walks b (Ite b.K a) (enuD 0 ds) F c H := by
  intro F' c' H' s i
  have q1 := SqL.of (K := b.K) (s.keep a _ hF hx)
  have r' := r.stp s
  refine ⟨fun d hd => ?_, fun hi => ⟨xs, q1, by rw [r.length, ← enuD_len 0 ds]; exact hi⟩⟩
  obtain ⟨x, ex, rfl⟩ := enuD_at 0 ds i d hd
  obtain ⟨v, hv, rp⟩ := r'.get' ex
  refine ⟨⟨xs, v, q1, hv⟩, fun z H2 yl => ?_⟩
  obtain ⟨T, x', rfl, hT, rfl, k1⟩ := yl
  have z1 := k1 xs q1
  rw [hv] at z1; cases z1
  exact .inr ⟨T, [.int (i : Nat), v], _, rfl, hT, rfl, rfl, .cons (by rw [Nat.zero_add]; exact .int _) (.cons rp .nil)⟩
def iEnL (fs : M (List D)) : M (List D) := fun env st => (fs env st).bind fun ds env st => match ds with
  | [.lst xs] => .ok (enuD 0 xs) env st
  | _ => .bad
theorem vi_enL (hm : X.mg "enumerate" = none) (h : VA X W [e] fs) (hg : Gl X "enumerate" := by rfl) (hs : starEach [e] X.env = [(false, eval e X.env)] := by rfl) :
    VI X W (.Tuple elts kk tpos) (.Call (.Name "enumerate" p) [e] [] pos) (iEnL fs) :=
  ⟨_, pi_enum hg hm h hs, fun σ H R ⟨b, F, c, env, st, e1, e2, r, p⟩ => tA_at e1 e2 r p fun vs ds env1 st1 F1 c1 H1 s1 r1 rp1 p1 => by
    split at p1
    · rename_i xs
      cases rp1 with
      | cons a1 t1 => cases t1; cases a1 with
        | lst f hx hr => exact ⟨_, _, rfl, SqL.of hx, Post.here r1 p1 _ (e1 ▸ walks_enL f hx hr)⟩
    · exact p1.elim⟩
end
end VE
namespace VE
open PySem PySem.Spec PyProof.Rows L2
variable [VEnv]
theorem meets_enum1 {v : Value} {o : Obj} {H : Heap → Prop} (B : Begins v o H) :
    Meets (Builtin.«enumerate.__new__» ⟨[.type "enumerate", v], []⟩) (fun _ R s => H s.heap ∧
      R (.ok (.ret (.ref (s.heap.push o).objs.size))) { s with heap := (s.heap.push o).push { cls := .type "enumerate", data := .fields #[.none, .bool false, .ref s.heap.objs.size, rawInt 0, .none, .none] } }) :=
  .of_wp fun prog w A R s h => by
    obtain ⟨hp, g, d, tk, os⟩ := s; obtain ⟨h1, h⟩ := h
    have hsub := sub_enumerate
    have q1 : ∀ {A' : Around} {E : Value → Shared → Prop} {Q : Value → Shared → Prop}, Q (.ref hp.objs.size) ⟨hp.push o, g, d, tk, os⟩ → wpAny (model prog w) A' (pyIter v) Q E ⟨hp, g, d, tk, os⟩ :=
      fun q => B.iter prog w _ _ ⟨hp, g, d, tk, os⟩ _ h1 q
    wp_walk using q1
    refine wpAny_stack_any fun st => wpAny_pure ?_
    split
    · rename_i c _ _ _ _ _
      cases (c == Value.type "enumerate")
      · wp_walk using q1
        exact ⟨_, rfl, h⟩
      · wp_walk using q1
        exact ⟨_, rfl, h⟩
    · wp_walk using q1
      exact ⟨_, rfl, h⟩
theorem enum1_begins {prog : Program} {w : World} {A : Around} {E : Value → Shared → Prop} {s : Shared} {v : Value} {o : Obj} {H : Heap → Prop} {Q : Value → Shared → Prop} (B : Begins v o H) (h1 : H s.heap)
    (h : ∀ h', IsEnum h' (s.heap.objs.size + 1) s.heap.objs.size 0 .none → h'.get? s.heap.objs.size = some o → h'.objs.size = s.heap.objs.size + 2 →
      (∀ b o, s.heap.get? b = some o → h'.get? b = some o) → Q (.ref (s.heap.objs.size + 1)) { s with heap := h' }) :
    wpAny (model prog w) A (call (.type "enumerate") [v]) Q E s := by
  refine callType_new F.called_enumerate (by decide) (F.typeCall_enumerate_1 _) (F.newCall_enumerate_1 _) (fun obj => F.args_object_init_2 obj _) F.entry_enumerate_new
    (meets_enum1 B) ⟨h1, ?_⟩
  have hz : (s.heap.push o).objs.size = s.heap.objs.size + 1 := Heap.size_push ..
  show _ ∧ _
  rw [hz]
  have he : IsEnum ((s.heap.push o).push { cls := .type "enumerate", data := .fields #[.none, .bool false, .ref s.heap.objs.size, rawInt 0, .none, .none] }) (s.heap.objs.size + 1) s.heap.objs.size 0 .none := by
    have := Heap.get?_push_size (s.heap.push o) (o := { cls := .type "enumerate", data := .fields #[.none, .bool false, .ref s.heap.objs.size, rawInt 0, .none, .none] }) rfl
    rw [hz] at this; exact this
  refine ⟨⟨_, he, rfl⟩, h _ he (Heap.get?_push_of_some _ (Heap.get?_push_size _ B.free)) (by rw [Heap.size_push, hz]) fun b o x => Heap.get?_push_of_some _ (Heap.get?_push_of_some _ x)⟩
theorem enumT_end {prog : Program} {w : World} {A : Around} {E : Value → Shared → Prop} {s : Shared} {e it t : Addr} {i : Nat} {items : Array Value} {old : Value} {k : Int} {Q : Option Value → Shared → Prop} (hh : A.in1.handled = none) (he : IsEnum s.heap e it k old) (hit : s.heap.IsTupleIter it t i) (ht : s.heap.IsTuple t items) (hx : items[i]? = none)
    (hQ : ∀ h', Heap.ExtBut it s.heap h' → Q none { s with heap := h' }) : wpAny (model prog w) A (pyNext (.ref e)) Q E s := by
  have hT : s.TypeIs (.ref e) "enumerate" := ⟨_, he, rfl⟩
  unfold pyNext
  refine wpAny_bind (wpAny_attempt (wpAny_callSpecial?_slot (name := Str.ofString "__next__") hT F.slot_enumerate_next
    (wpAny_call_entry F.slot_enumerate_next hT F.entry_enumerate_next ?_ (F.args_enumerate_next_1 _))))
  show wpAny _ _ (field (.ref e) 2 >>= _) _ _ _
  refine wpAny_bind (wpAny_field he rfl (x := .ref it) rfl ?_)
  refine wpAny_bind (wpAny_nextOf_tuple_end hh hit ht hx fun h' x he' hx' => ?_)
  obtain ⟨o, ho, hc⟩ := hx'
  refine wpAny_bind (wpAny_isInstance (T := "StopIteration") (b := true) ⟨o, ho, hc⟩ isSubtype_stop ?_)
  exact wpAny_pure (hQ _ he')
/-- the tuple at a as it stands at each turn, its items with their places in new pairs -/
def IteT (K : PySem.W.Frag) (a : Addr) : It :=
  ⟨fun i H => ∃ (xs : List V) (x : V), SqT K H a xs ∧ xs[i]? = some x, fun i H v H' => ∃ T x, v = .ref T ∧ H T = none ∧ H' = upd H T (.tup [.int (i : Nat), x]) ∧ ∀ xs, SqT K H a xs → xs[i]? = some x, fun i H => ∃ xs : List V, SqT K H a xs ∧ xs.length ≤ i⟩
theorem turn_enumT {P : Program} {w : World} {K : PySem.W.Frag} {elts : List Expr} {kk : Nat} {tpos : Pos} (a e it : Addr) :
    Turn P w K (.Tuple elts kk tpos) (IteT K a) [e, it] e (fun i h => (∃ old, IsEnum h e it ((i : Nat) : Int) old) ∧ h.IsTupleIter it a i ∧ e ≠ it ∧ a ≠ it ∧ a ≠ e) where
  mem := by simp
  obj := fun i h st b hb => by
    obtain ⟨⟨old, he⟩, ⟨o, ho, hc, hd⟩, _⟩ := st
    have e' : b = e ∨ b = it := by simpa using hb
    rcases e' with z | z
    · rw [z]; exact ⟨_, he, fun v q => nomatch q⟩
    · rw [z]; exact ⟨o, ho, fun v q => by rw [hd] at q; cases q⟩
  keep := fun i h h' st k => let ⟨⟨old, he⟩, hi, hne⟩ := st; ⟨⟨old, k e (by simp) _ he⟩, hi.at fun o q => k it (by simp) o q, hne⟩
  item := by
    intro X hP hw hK hc i pins s σ H E I hf st hg
    subst hP hw hK
    obtain ⟨⟨old, he⟩, hit, hne, hai, hae⟩ := st
    obtain ⟨xs, x, hq, hx⟩ := hg
    obtain ⟨its, rv, p, hz⟩ := I.tuple hq
    obtain ⟨u, hu, ru⟩ := rv.get hx
    have hel : e < s.heap.objs.size := Heap.lt_size he
    have hil : it < s.heap.objs.size := by obtain ⟨_, q, _⟩ := hit; exact Heap.lt_size q
    have p' : s.heap.IsTuple a its.toArray := p
    have hlt : i < its.toArray.size := by
      have := (List.getElem?_eq_some_iff.mp hu).1
      simpa using this
    refine wpAny_pyNext_enum_itemD (Draws.tuple (A := X.A.in1) (I.ok.hd hc) it a hai its.toArray) he ⟨hit, p'⟩ hlt hne (by simp; exact ⟨hne, Ne.symm hae⟩) fun x2 h' tk Px ho hst' hT hsz hk => ?_
    have ex : x2 = u := by
      have Px' : its.toArray[i]? = some x2 := Px
      rw [List.getElem?_toArray, hu] at Px'
      exact (Option.some.inj Px').symm
    subst ex
    refine ⟨_, rfl, wpAny_letOwnedTupleGo_enum (s := { s with heap := h', toks := tk + 1 }) ho fun h'' he' sb => ?_⟩
    have hT2 : h''.get? s.heap.objs.size = some { cls := .type "tuple", data := .seq #[.int i tk, x2] } := (sb.2 _ (Nat.ne_of_gt hel)).trans hT
    have new : ObjOk X.prog X.w (upd H s.heap.objs.size (.tup [.int (i : Nat), x])) h'' s.heap.objs.size (.tup [.int (i : Nat), x]) :=
      ⟨by show 2 ≤ sizeLine; decide, [.int i tk, x2], .cons ⟨_, rfl⟩ (.cons ru .nil), ⟨_, hT2, rfl, _, rfl⟩⟩
    have I1 : Inv X pins σ (upd H s.heap.objs.size (.tup [.int (i : Nat), x])) { s with heap := h'', toks := tk + 1 } :=
      I.turnedNew (ch := [e, it]) (fun b ob hb q => (sb.2 b (fun z => hb (by simp [z]))).trans (hk b ob (fun z => hb (by simp [z])) (fun z => hb (by simp [z])) q)) hf (Nat.le_refl _) new
    refine ⟨.ref s.heap.objs.size, _, I1, rfl, ⟨_, x, rfl, I.hok.fresh (Nat.le_refl _), rfl, fun ys hy => by rw [I.tuple_inj hy hq]; exact hx⟩, ⟨⟨x2, ?_⟩, hst'.1.at fun o q => (sb.2 it (Ne.symm hne)).trans q, hne, hai, hae⟩, fun b hb => ?_⟩
    · have e1 : ((i + 1 : Nat) : Int) = (i : Int) + 1 := by omega
      rw [e1]; exact he'
    · have hb' : b < s.heap.objs.size := by
        have e' : b = e ∨ b = it := by simpa using hb
        rcases e' with z | z
        · rw [z]; exact hel
        · rw [z]; exact hil
      rw [upd_ne (Nat.ne_of_lt hb')]
      exact (hf b hb).1
  done := by
    intro X hP hw hK hc i pins s σ H E I hf st hg
    subst hP hw hK
    obtain ⟨⟨old, he⟩, hit, hne, hai, hae⟩ := st
    obtain ⟨xs, hq, hx⟩ := hg
    obtain ⟨its, rv, p, hz⟩ := I.tuple hq
    obtain ⟨f0, f1, f2, f3, f4, f5⟩ := hf it (by simp)
    have hl := rv.length
    have p' : s.heap.IsTuple a its.toArray := p
    exact enumT_end (I.ok.hd hc) he hit p' (by simp; omega) fun h' eb => ⟨rfl, I.turned (t' := s.toks) (fun b o hb q => eb b o hb q) f0 f1 f3 f4 f5⟩
  self := fun A i s Q E st h => let ⟨⟨_, he⟩, _⟩ := st; wpAny_pyIter_enum he h
def iEnumT (K : PySem.W.Frag) (ta : TA) : TI := fun σ H R => ta σ H fun vs H1 => ∃ a xs, vs = [.ref a] ∧ SqT K H1 a xs ∧ R (IteT K a) H1
theorem pi_enumT {X : Cx} {e : Expr} {ta : TA} {p pos tpos : Pos} {elts : List Expr} {kk : Nat} (hg : Gl X "enumerate") (hm : X.mg "enumerate" = none) (ha : PA X [e] ta) (hs : starEach [e] X.env = [(false, eval e X.env)] := by rfl) :
    PI X (.Tuple elts kk tpos) (.Call (.Name "enumerate" p) [e] [] pos) (iEnumT X.K ta) := by
  refine ⟨fun pins s σ H R I h => ?_⟩
  refine Call_ (ld_blt I hg hm boot_enumerate (PyProof.Rows.callWith_type1 (thn (ha.run pos pins s σ H _ I h) fun us s1 ⟨vs, H1, I1, r1, q1⟩ => ?_) hs rfl))
  obtain ⟨a, xs, ex, hq, q⟩ := q1
  subst ex
  cases r1 with
  | cons r rr =>
    cases rr
    cases r
    obtain ⟨its, rv, p', hz⟩ := I1.tuple hq
    have p2 : s1.heap.IsTuple a its.toArray := p'
    have hal : a < s1.heap.objs.size := by obtain ⟨o, ho, _⟩ := id p2; exact Heap.lt_size ho
    refine enum1_begins (begins_tuple a its.toArray) p2 fun h' he hit hsz hk => wpAny_pyIter_enum he ?_
    have I2 : Inv X pins σ H1 { s1 with heap := h' } := I1.kept (t' := s1.toks) hk
    refine ⟨s1.heap.objs.size + 1, [s1.heap.objs.size + 1, s1.heap.objs.size], _, _, H1, rfl, I2, turn_enumT a (s1.heap.objs.size + 1) s1.heap.objs.size, ⟨⟨.none, he⟩, ⟨_, hit, rfl, rfl⟩, Nat.succ_ne_self _, Nat.ne_of_lt hal, Nat.ne_of_lt (Nat.lt_succ_of_lt hal)⟩, fun b hb => ?_, q⟩
    have e' : b = s1.heap.objs.size + 1 ∨ b = s1.heap.objs.size := by simpa using hb
    have hle : s1.heap.objs.size ≤ b := by
      rcases e' with z | z
      · rw [z]; exact Nat.le_add_right _ _
      · rw [z]; exact Nat.le_refl _
    exact I1.fpOk hle (I1.hok.fresh hle)
section
variable {X : Cx} {W : WX} {b : Bs} {F : Addr → Prop} {c : List Addr} {H : Hp} {e : Expr} {pos p tpos : Pos} {elts : List Expr} {kk : Nat} {fs : M (List D)}
theorem walks_enT {a : Addr} {xs : List V} {ds : List D} (hx : FqT b.K F H a xs) (r : Rps b.K b.mg F c H xs ds) : Walks b (IteT b.K a) (enuD 0 ds) F c H := by
  intro F' c' H' s i
  have q1 := (hx.stp s).sq
  have r' := r.stp s
  refine ⟨fun d hd => ?_, fun hi => ⟨xs, q1, by rw [r.length, ← enuD_len 0 ds]; exact hi⟩⟩
  obtain ⟨x, ex, rfl⟩ := enuD_at 0 ds i d hd
  obtain ⟨v, hv, rp⟩ := r'.get' ex
  refine ⟨⟨xs, v, q1, hv⟩, fun z H2 yl => ?_⟩
  obtain ⟨T, x', rfl, hT, rfl, k1⟩ := yl
  have z1 := k1 xs q1
  rw [hv] at z1; cases z1
  exact .inr ⟨T, [.int (i : Nat), v], _, rfl, hT, rfl, rfl, .cons (by rw [Nat.zero_add]; exact .int _) (.cons rp .nil)⟩
def iEnT (fs : M (List D)) : M (List D) := fun env st => (fs env st).bind fun ds env st => match ds with
  | [.tup xs] => .ok (enuD 0 xs) env st
  | _ => .bad
theorem vi_enT (hm : X.mg "enumerate" = none) (h : VA X W [e] fs) (hg : Gl X "enumerate" := by rfl) (hs : starEach [e] X.env = [(false, eval e X.env)] := by rfl) :
    VI X W (.Tuple elts kk tpos) (.Call (.Name "enumerate" p) [e] [] pos) (iEnT fs) :=
  ⟨_, pi_enumT hg hm h hs, fun σ H R ⟨b, F, c, env, st, e1, e2, r, p⟩ => tA_at e1 e2 r p fun vs ds env1 st1 F1 c1 H1 s1 r1 rp1 p1 => by
    split at p1
    · rename_i xs
      cases rp1 with
      | cons a1 t1 => cases t1; cases a1 with
        | tup hx hr => exact ⟨_, _, rfl, e1 ▸ hx.sq, Post.here r1 p1 _ (e1 ▸ walks_enT hx hr)⟩
    · exact p1.elim⟩
end
end VE
namespace VE
open PySem PySem.Spec PyProof.Rows L2
variable [VEnv]
section
variable {X : Cx} {W : WX} {e a : Expr} {pos : Pos} {fa fb : M D} {k : Nat}
def rInTD (K : PySem.W.Frag) : R2 := fun x y H Q => ∃ d ds, Dp K H x d ∧ Dp K H y (.tuple ds) ∧ SeqAt.shaped d = true ∧ SeqAt.shaped (.tuple ds) = true ∧ Q (.bl (ds.any fun z => PyData.eqv z d)) H
def rNotInTD (K : PySem.W.Frag) : R2 := fun x y H Q => ∃ d ds, Dp K H x d ∧ Dp K H y (.tuple ds) ∧ SeqAt.shaped d = true ∧ SeqAt.shaped (.tuple ds) = true ∧ Q (.bl (!ds.any fun z => PyData.eqv z d)) H
theorem op_inTD (hu : X.A.units + 65 < cLine) : OpR X (compareOp .In) (rInTD X.K) := by
  intro pins s σ H x y v u Q I rx ry h
  obtain ⟨d, ds, hd, he, sd, se, q⟩ := h
  obtain ⟨as, r1⟩ := Dp.reads I d x v hd rx
  obtain ⟨bs, r2⟩ := Dp.reads I (.tuple ds) y u he ry
  exact SeqAt.in_tuple_reads r2 r1 (SeqAt.canLay_of_shaped se) (SeqAt.canLay_of_shaped sd) (room_in_shaped sd hu) ⟨.bl _, H, I, rfl, q⟩
theorem op_notInTD (hu : X.A.units + 65 < cLine) : OpR X (compareOp .NotIn) (rNotInTD X.K) := by
  intro pins s σ H x y v u Q I rx ry h
  obtain ⟨d, ds, hd, he, sd, se, q⟩ := h
  obtain ⟨as, r1⟩ := Dp.reads I d x v hd rx
  obtain ⟨bs, r2⟩ := Dp.reads I (.tuple ds) y u he ry
  exact SeqAt.notIn_tuple_reads r2 r1 (SeqAt.canLay_of_shaped se) (SeqAt.canLay_of_shaped sd) (room_in_shaped sd hu) ⟨.bl _, H, I, rfl, q⟩
/-- texts in order -/
def ltS (x y : Str) : Bool := decide (x.cps.toList < y.cps.toList)
end
end VE
namespace VE
open PySem PySem.Spec PyProof.Rows L2
open SX (S S_len S_cat S_inj)
/-- the run ends well and P holds, or raises and E holds -/
@[irreducible] def R.sat {α : Type} (r : R α) (P : α → EnvD → Sto → Prop) (E : Exn → Sto → Prop) : Prop := match r with
  | .ok a e st => P a e st
  | .ex x _ st => E x st
  | .bad => False
@[irreducible] def RF.sat (r : RF) (P : D → Sto → Prop) (E : Exn → Sto → Prop) : Prop := match r with
  | .ok d st => P d st
  | .ex x st => E x st
  | .bad => False
@[reducible] def nE : Exn → Sto → Prop := fun _ _ => False
section
variable {α β : Type} {P : α → EnvD → Sto → Prop} {E : Exn → Sto → Prop} {e env : EnvD} {st : Sto}
@[simp] theorem sat_ok {a : α} : (R.ok a e st).sat P E = P a e st := by unfold R.sat; rfl
@[simp] theorem sat_ex {x : Exn} : (R.ex x e st : R α).sat P E = E x st := by unfold R.sat; rfl
@[simp] theorem sat_bad : (R.bad : R α).sat P E = False := by unfold R.sat; rfl
@[simp] theorem fsat_ok {d : D} {P : D → Sto → Prop} : (RF.ok d st).sat P E = P d st := by unfold RF.sat; rfl
@[simp] theorem fsat_ex {x : Exn} {P : D → Sto → Prop} : (RF.ex x st).sat P E = E x st := by unfold RF.sat; rfl
@[simp] theorem fsat_bad {P : D → Sto → Prop} : RF.bad.sat P E = False := by unfold RF.sat; rfl
theorem R.sat.mono {r : R α} {P' : α → EnvD → Sto → Prop} {E' : Exn → Sto → Prop} (h : r.sat P E) (hp : ∀ a e s, P a e s → P' a e s) (he : ∀ x s, E x s → E' x s) : r.sat P' E' := by
  unfold R.sat at *
  cases r with
  | ok => exact hp _ _ _ h
  | ex => exact he _ _ h
  | bad => exact h
theorem RF.sat.mono {r : RF} {P P' : D → Sto → Prop} {E' : Exn → Sto → Prop} (h : r.sat P E) (hp : ∀ a s, P a s → P' a s) (he : ∀ x s, E x s → E' x s) : r.sat P' E' := by
  unfold RF.sat at *
  cases r with
  | ok => exact hp _ _ h
  | ex => exact he _ _ h
  | bad => exact h
def kk {α β γ : Type} (k : α → M β) (l : β → M γ) : α → M γ := fun a e s => (k a e s).bind l
@[simp] theorem x_kk {α β γ : Type} {k : α → M β} {l : β → M γ} {a : α} : kk k l a env st = (k a env st).bind l := rfl
@[simp] theorem bind_assoc {α β γ : Type} {r : R α} {k : α → M β} {l : β → M γ} : (r.bind k).bind l = r.bind (kk k l) := by cases r <;> rfl
end
section
variable {i j : Int} {x y : Str} {xs ys : List D} {b b' : Bool} {d d' : D} {n : Nat}
@[simp] theorem eq_int : eqD (.int i) (.int j) = decide (i = j) := by simp only [eqD, toPy, PyData.eqv]; exact rfl
@[simp] theorem eq_str : eqD (.str x) (.str y) = decide (x = y) := by simp only [eqD, toPy, PyData.eqv]; exact rfl
@[simp] theorem eq_lst : eqD (.lst xs) (.lst ys) = eqDs xs ys := by simp only [eqD, toPy, PyData.eqv, eqDs]
@[simp] theorem eq_tup : eqD (.tup xs) (.tup ys) = eqDs xs ys := by simp only [eqD, toPy, PyData.eqv, eqDs]
@[simp] theorem eqs_nil : eqDs [] [] = true := by simp only [eqDs, toPys, PyData.eqvAll]
@[simp] theorem eqs_cons : eqDs (d :: xs) (d' :: ys) = (eqD d d' && eqDs xs ys) := by simp only [eqDs, toPys, PyData.eqvAll, eqD]
@[simp] theorem eqs_nc : eqDs [] (d' :: ys) = false := by simp only [eqDs, toPys, PyData.eqvAll]
@[simp] theorem eqs_cn : eqDs (d :: xs) [] = false := by simp only [eqDs, toPys, PyData.eqvAll]
@[simp] theorem eq_lt : eqD (.lst xs) (.tup ys) = false := by simp only [eqD, toPy, PyData.eqv]
@[simp] theorem eq_tl : eqD (.tup xs) (.lst ys) = false := by simp only [eqD, toPy, PyData.eqv]
@[simp] theorem eq_non : eqD .non .non = true := by simp only [eqD, toPy, PyData.eqv]
@[simp] theorem eq_bl : eqD (.bl b) (.bl b') = (b == b') := by simp only [eqD, toPy, PyData.eqv]
mutual
theorem eqD_refl : ∀ (n : Nat) (d : D), plain n d = true → eqD d d = true
  | _, .non, _ => eq_non
  | _, .bl b, _ => by simp
  | _, .int i, _ => by simp
  | _, .str x, _ => by simp
  | n + 1, .lst xs, h => by rw [eq_lst]; exact eqDs_refl n xs (by simpa [plain] using h)
  | n + 1, .tup xs, h => by rw [eq_tup]; exact eqDs_refl n xs (by simpa [plain] using h)
  | 0, .lst xs, h => by simp [plain] at h
  | 0, .tup xs, h => by simp [plain] at h
  | n, .scr xs, h => by cases n <;> simp [plain] at h
  | n, .ino _ _ xs, h => by cases n <;> simp [plain] at h
  | n, .obj _ xs, h => by cases n <;> simp [plain] at h
  | n, .ref _, h => by cases n <;> simp [plain] at h
  | n, .fn _, h => by cases n <;> simp [plain] at h
theorem eqDs_refl : ∀ (n : Nat) (xs : List D), plains n xs = true → eqDs xs xs = true
  | _, [], _ => eqs_nil
  | n, x :: xs, h => by
    simp only [plains, Bool.and_eq_true] at h
    rw [eqs_cons, eqD_refl n x h.1, eqDs_refl n xs h.2]; rfl
end
@[simp] theorem pl_non : plain n .non = true := by cases n <;> simp only [plain]
@[simp] theorem pl_bl : plain n (.bl b) = true := by cases n <;> simp only [plain]
@[simp] theorem pl_int : plain n (.int i) = true := by cases n <;> simp only [plain]
@[simp] theorem pl_str : plain n (.str x) = PyData.strOk x := by cases n <;> simp only [plain]
theorem pl_lst : plain (n + 1) (.lst xs) = plains n xs := by simp only [plain]
theorem pl_tup : plain (n + 1) (.tup xs) = plains n xs := by simp only [plain]
@[simp] theorem pls_nil : plains n [] = true := by cases n <;> simp only [plains]
@[simp] theorem pls_cons : plains n (d :: xs) = (plain n d && plains n xs) := by cases n <;> simp only [plains]
@[simp] theorem pls_app : ∀ {xs ys : List D}, plains n (xs ++ ys) = (plains n xs && plains n ys)
  | [], _ => by simp
  | x :: xs, ys => by rw [List.cons_append, pls_cons, pls_app, pls_cons, Bool.and_assoc]
@[simp] theorem pl20l : plain 20 (.lst xs) = plains 19 xs := pl_lst
@[simp] theorem pl20t : plain 20 (.tup xs) = plains 19 xs := pl_tup
@[simp] theorem pl19l : plain 19 (.lst xs) = plains 18 xs := pl_lst
@[simp] theorem pl19t : plain 19 (.tup xs) = plains 18 xs := pl_tup
@[simp] theorem pl18l : plain 18 (.lst xs) = plains 17 xs := pl_lst
@[simp] theorem pl18t : plain 18 (.tup xs) = plains 17 xs := pl_tup
@[simp] theorem pl17l : plain 17 (.lst xs) = plains 16 xs := pl_lst
@[simp] theorem pl17t : plain 17 (.tup xs) = plains 16 xs := pl_tup
@[simp] theorem pls_ints : ∀ {xs : List Int}, plains n (xs.map .int) = true
  | [] => by simp
  | x :: xs => by rw [List.map_cons, pls_cons, pls_ints]; simp
theorem neP_same (h : plain 20 d = true) : neP d d = some (.bl false) := by unfold neP; rw [h, eqD_refl 20 d h]; rfl
@[simp] theorem x_eqP (h : plain 20 d = true) (h' : plain 20 d' = true) : eqP d d' = some (.bl (eqD d d')) := by unfold eqP; rw [h, h']; rfl
@[simp] theorem x_neP (h : plain 20 d = true) (h' : plain 20 d' = true) : neP d d' = some (.bl (!eqD d d')) := by unfold neP; rw [h, h']; rfl
end
@[simp] theorem rng_len {lo : Int} {n : Nat} : (rngD lo n).length = n := by simp [rngD]
theorem signs_S (a : List Nat) : signsD (S a) = a.map fun c => .str (S [c]) := by simp [signsD]
theorem ok_S {a : List Nat} (h : ∀ c ∈ a, c < 1114112) : PyData.strOk (S a) = true := by
  unfold PyData.strOk
  rw [Array.all_eq_true_iff_forall_mem]
  intro c hc
  exact decide_eq_true (h c (by simpa using hc))
@[simp] theorem wipe_nil {env : EnvD} : wipeD [] env = env := rfl
@[simp] theorem wipe_cons {i : Nat} {ws : List Nat} {env : EnvD} : wipeD (i :: ws) env = wipeD ws (env.set i .no) := rfl
/-- cells -/
@[simp] theorem put_cell {c : Cell} {rest : Sto} {ds : List D} {k : Int} {env : EnvD} : ixC (.ref 0) (.int k) env (.lst ds :: rest) = ret (atI ds k) env (.lst ds :: rest) := rfl
@[simp] theorem div256 : divOk 256 = true := divOk_ (by decide) (by decide)
theorem blsF_map {α : Type} (f : α → Bool) : ∀ xs : List α, blsOf (xs.map fun x => .bl (f x)) = some (xs.map f)
  | [] => rfl
  | x :: xs => by simp [blsOf, blsF_map f xs]
end VE
namespace VE
open PySem PySem.Spec PyProof.Rows L2
section
variable {fa fb fo fe : M D} {fs : M (List D)} {env : EnvD} {st : Sto} {i np q : Nat} {d x y : D} {ds : List D} {n n' : Str} {mf : FM}
def kSS3 (n : Str) (i : Nat) (d : D) (q : Nat) (c : Option Cell) : M Fl := fun env st => match c with
  | some (.slo n' ds) => if n' = n ∧ ds.length = i then .ok .nx env (st.set q (.slo n (ds ++ [d]))) else .bad
  | _ => .bad
def kSS2 (n : Str) (i : Nat) (d : D) : D → M Fl := fun r env st => match r with
  | .ref q => kSS3 n i d q st[q]? env st
  | _ => .bad
def kSS1 (n : Str) (i : Nat) (fo : M D) : D → M Fl := fun d env st => (fo env st).bind (kSS2 n i d)
@[simp] theorem x_sSlot : sSlot n i fo fe env st = (fe env st).bind (kSS1 n i fo) := rfl
@[simp] theorem x_kSS1 : kSS1 n i fo d env st = (fo env st).bind (kSS2 n i d) := rfl
@[simp] theorem x_kSS2 : kSS2 n i d (.ref q) env st = kSS3 n i d q st[q]? env st := rfl
@[simp] theorem x_kSS3 : kSS3 n i d q (some (.slo n' ds)) env st = if n' = n ∧ ds.length = i then .ok .nx env (st.set q (.slo n (ds ++ [d]))) else .bad := rfl
def kPr3 : RF → M D := fun r env _ => match r with
  | .ok d st => .ok d env st
  | _ => .bad
@[simp] theorem x_kPr3 {st' : Sto} : kPr3 (.ok d st') env st = .ok d env st' := rfl
def kZip : List D → M (List D) := fun ds env st => match ds with
  | [.lst xs, .lst ys] => .ok (zipD xs ys) env st
  | [.tup xs, .tup ys] => .ok (zipD xs ys) env st
  | _ => .bad
@[simp] theorem x_iZip : iZip fs env st = (fs env st).bind kZip := rfl
@[simp] theorem x_kZip1 {xs ys : List D} : kZip [.lst xs, .lst ys] env st = .ok (zipD xs ys) env st := rfl
@[simp] theorem x_kZip2 {xs ys : List D} : kZip [.tup xs, .tup ys] env st = .ok (zipD xs ys) env st := rfl
def kEnL : List D → M (List D) := fun ds env st => match ds with
  | [.lst xs] => .ok (enuD 0 xs) env st
  | _ => .bad
def kEnT : List D → M (List D) := fun ds env st => match ds with
  | [.tup xs] => .ok (enuD 0 xs) env st
  | _ => .bad
@[simp] theorem x_iEnL : iEnL fs env st = (fs env st).bind kEnL := rfl
@[simp] theorem x_kEnL {xs : List D} : kEnL [.lst xs] env st = .ok (enuD 0 xs) env st := rfl
@[simp] theorem x_iEnT : iEnT fs env st = (fs env st).bind kEnT := rfl
@[simp] theorem x_kEnT {xs : List D} : kEnT [.tup xs] env st = .ok (enuD 0 xs) env st := rfl
end
end VE
namespace VE
open PySem PySem.Spec PyProof.Rows L2
variable [VEnv]
mutual
/-- all references are below n -/
def rfB (n : Nat) : D → Bool
  | .ref m => decide (m < n)
  | .lst xs => rfBs n xs
  | .tup xs => rfBs n xs
  | .obj _ xs => rfBs n xs
  | .ino _ _ xs => rfBs n xs
  | .non => true
  | .bl _ => true
  | .int _ => true
  | .str _ => true
  | .scr _ => true
  | .fn _ => true
def rfBs (n : Nat) : List D → Bool
  | [] => true
  | x :: xs => rfB n x && rfBs n xs
end
section
variable {K : PySem.W.Frag} {mg : Str → Option Value} {F : Addr → Prop} {c l : List Addr} {H : Hp}
mutual
theorem Rp.rf : ∀ {v : V} {d : D}, Rp K mg F c H v d → rfB c.length d = true
  | _, _, .non => by simp only [rfB]
  | _, _, .bl b => by simp only [rfB]
  | _, _, .int i => by simp only [rfB]
  | _, _, .str x => by simp only [rfB]
  | _, _, .scr _ => by simp only [rfB]
  | _, _, .lst _ _ r => by simp only [rfB]; exact Rps.rf r
  | _, _, .tup _ r => by simp only [rfB]; exact Rps.rf r
  | _, _, .obj _ _ _ r => by simp only [rfB]; exact Rps.rf r
  | _, _, .ino _ _ _ _ r => by simp only [rfB]; exact Rps.rf r
  | _, _, .ref h => by simp only [rfB]; exact decide_eq_true (List.getElem?_eq_some_iff.mp h).1
  | _, _, .glb _ => by simp only [rfB]
  | _, _, .lam _ _ _ _ _ => by simp only [rfB]
  | _, _, .lamD _ _ _ _ _ _ _ _ => by simp only [rfB]
theorem Rps.rf : ∀ {vs : List V} {ds : List D}, Rps K mg F c H vs ds → rfBs c.length ds = true
  | _, _, .nil => by simp only [rfBs]
  | _, _, .cons h r => by simp only [rfBs, Rp.rf h, Rps.rf r, Bool.and_self]
end
mutual
theorem Rp.cut : ∀ {v : V} {d : D}, Rp K mg F (c ++ l) H v d → rfB c.length d = true → Rp K mg F c H v d
  | _, _, .non, _ => .non
  | _, _, .bl b, _ => .bl b
  | _, _, .int i, _ => .int i
  | _, _, .str x, _ => .str x
  | _, _, .scr h, _ => .scr h
  | _, _, .lst f h r, e => .lst f h (Rps.cutR r (by simpa only [rfB] using e))
  | _, _, .tup h r, e => .tup h (Rps.cutR r (by simpa only [rfB] using e))
  | _, _, .obj m f h r, e => .obj m f h (Rps.cutR r (by simpa only [rfB] using e))
  | _, _, .ino m f h z r, e => .ino m f h z (Rps.cutR r (by simpa only [rfB] using e))
  | _, _, .ref h, e => .ref (by
      simp only [rfB, decide_eq_true_eq] at e
      rw [List.getElem?_append_left e] at h; exact h)
  | _, _, .glb h, _ => .glb h
  | _, _, .lam h1 h2 h3 h4 h5, _ => .lam h1 h2 h3 h4 h5
  | _, _, .lamD h1 h2 h3 h4 h5 h6 h7 h8, _ => .lamD h1 h2 h3 h4 h5 h6 h7 h8
theorem Rps.cutR : ∀ {vs : List V} {ds : List D}, Rps K mg F (c ++ l) H vs ds → rfBs c.length ds = true → Rps K mg F c H vs ds
  | _, _, .nil, _ => .nil
  | _, _, .cons h r, e => by
    simp only [rfBs, Bool.and_eq_true] at e
    exact .cons (Rp.cut h e.1) (Rps.cutR r e.2)
end
def rfC (n : Nat) : Cell → Bool
  | .lst ds => rfBs n ds
  | .ins _ fs => rfBs n (fs.map (·.2))
  | .slo _ ds => rfBs n ds
  | .slp _ _ ds => rfBs n ds
  | .dct kvs => rfBs n (kvs.map (·.2))
  | .dcT kvs => rfBs n (kvs.map (·.2))
  | .dcN kvs => rfBs n (kvs.map (·.2))
  | .lcT kvs => rfBs n (kvs.map (·.2))
  | .lcN kvs => rfBs n (kvs.map (·.2))
theorem CellOk.rf {a : Addr} {x : Cell} (h : CellOk K mg F c H a x) : rfC c.length x = true := by
  cases x with
  | lst ds => obtain ⟨_, _, r⟩ := h; exact r.rf
  | ins n fs => obtain ⟨_, _, _, _, _, _, r⟩ := h; exact r.rf
  | slo n ds => obtain ⟨_, _, _, _, _, r⟩ := h; exact r.rf
  | slp n ix ds => obtain ⟨_, _, _, _, _, r⟩ := h; exact r.rf
  | dct kvs => obtain ⟨_, _, _, r⟩ := h; exact r.rf
  | dcT kvs => obtain ⟨_, _, _, _, _, _, _, r, _⟩ := h; exact r.rf
  | dcN kvs => obtain ⟨_, _, _, _, _, _, r⟩ := h; exact r.rf
  | lcT kvs => obtain ⟨_, _, _, _, _, _, _, _, r, _⟩ := h; exact r.rf
  | lcN kvs => obtain ⟨_, _, _, _, _, _, _, r⟩ := h; exact r.rf
theorem CellOk.cut {a : Addr} {x : Cell} (h : CellOk K mg F (c ++ l) H a x) (e : rfC c.length x = true) : CellOk K mg F c H a x := by
  cases x with
  | lst ds => obtain ⟨vs, h1, r⟩ := h; exact ⟨vs, h1, r.cutR e⟩
  | ins n fs => obtain ⟨C, dx, vfs, h1, h2, h3, r⟩ := h; exact ⟨C, dx, vfs, h1, h2, h3, r.cutR e⟩
  | slo n ds => obtain ⟨C, dx, vs, h1, h2, r⟩ := h; exact ⟨C, dx, vs, h1, h2, r.cutR e⟩
  | slp n ix ds => obtain ⟨C, dx, vs, h1, h2, r⟩ := h; exact ⟨C, dx, vs, h1, h2, r.cutR e⟩
  | dct kvs => obtain ⟨vk, h1, h2, r⟩ := h; exact ⟨vk, h1, h2, r.cutR e⟩
  | dcT kvs => obtain ⟨P, w, xs, vs, h0, h1, h2, r, h4⟩ := h; exact ⟨P, w, xs, vs, h0, h1, h2, r.cutR e, h4⟩
  | dcN kvs => obtain ⟨P, w, vk, h0, h1, h2, r⟩ := h; exact ⟨P, w, vk, h0, h1, h2, r.cutR e⟩
  | lcT kvs => obtain ⟨P, w, xs, vs, od, h0, h1, h2, r, h4⟩ := h; exact ⟨P, w, xs, vs, od, h0, h1, h2, r.cutR e, h4⟩
  | lcN kvs => obtain ⟨P, w, vk, od, h0, h1, h2, r⟩ := h; exact ⟨P, w, vk, od, h0, h1, h2, r.cutR e⟩
theorem CellOk.stp {F' : Addr → Prop} {c' : List Addr} {a : Addr} {x : Cell} (s : Stp F c H F' c' H) (h : CellOk K mg F c H a x) : CellOk K mg F' c' H a x := by
  cases x with
  | lst ds => obtain ⟨vs, h1, r⟩ := h; exact ⟨vs, h1, r.stp s⟩
  | ins n fs => obtain ⟨C, dx, vfs, h1, h2, h3, r⟩ := h; exact ⟨C, dx, vfs, h1, h2, h3, r.stp s⟩
  | slo n ds => obtain ⟨C, dx, vs, h1, h2, r⟩ := h; exact ⟨C, dx, vs, h1, h2, r.stp s⟩
  | slp n ix ds => obtain ⟨C, dx, vs, h1, h2, r⟩ := h; exact ⟨C, dx, vs, h1, h2, r.stp s⟩
  | dct kvs => obtain ⟨vk, h1, h2, r⟩ := h; exact ⟨vk, h1, h2, r.stp s⟩
  | dcT kvs => obtain ⟨P, w, xs, vs, h0, h1, h2, r, h4⟩ := h; exact ⟨P, w, xs, vs, h0, h1, h2, r.stp s, fun x hx => (h4 x hx).stp s⟩
  | dcN kvs => obtain ⟨P, w, vk, h0, h1, h2, r⟩ := h; exact ⟨P, w, vk, h0, h1, h2, r.stp s⟩
  | lcT kvs => obtain ⟨P, w, xs, vs, od, h0, h1, h2, r, h4⟩ := h; exact ⟨P, w, xs, vs, od, h0, h1, h2, r.stp s, fun x hx => (h4 x hx).stp s⟩
  | lcN kvs => obtain ⟨P, w, vk, od, h0, h1, h2, r⟩ := h; exact ⟨P, w, vk, od, h0, h1, h2, r.stp s⟩
end
section
variable {b : Bs} {F F' : Addr → Prop} {c : List Addr} {env : EnvD} {st : Sto} {σ : L2.St} {H H' : Hp} {p : Addr} {x : Cell}
/-- the last cell is no cell any more: it is frozen -/
theorem Rel.unmake (r0 : Rel b F c env st σ H) (hp : H p = none) (s : Stp F c H F' (c ++ [p]) H') (r : Rel b F' (c ++ [p]) env (st ++ [x]) σ H') :
    Stp F c H (FAdd F' p) c H' ∧ Stp F' c H' (FAdd F' p) c H' ∧ Rel b (FAdd F' p) c env st σ H' ∧ CellOk b.K b.mg F' (c ++ [p]) H' p x := by
  have nc := r0.nC hp
  have t : Stp F' c H' (FAdd F' p) c H' := ⟨fun _ h => .inl h, fun _ _ _ h => h, ⟨[], (List.append_nil c).symm⟩, fun _ _ h => h, fun _ _ _ h => h⟩
  have hcp : CellOk b.K b.mg F' (c ++ [p]) H' p x := r.rc.cl c.length p x (by simp) (by rw [← r0.rc.len]; simp)
  refine ⟨⟨fun a h => .inl (s.inc a h), s.keep, ⟨[], (List.append_nil c).symm⟩, s.own, s.lck⟩, t, ⟨⟨fun a h => ?_, r0.rc.len, r0.rc.nd, fun n a y hn hy => ?_, fun a ha h => ?_, fun q hq => ?_⟩, r.len, fun i sl he => ?_, r.ds, fun a o e hc => ?_, fun a h => ?_, r0.nwc, r.f0, r.k0⟩, hcp⟩
  · rcases h with h | rfl
    · exact r.rc.trk a h
    · exact r.rc.ctrk (by simp)
  · have h1 := r0.rc.cl n a y hn hy
    have hlt : n < c.length := (List.getElem?_eq_some_iff.mp hn).1
    have h2 := r.rc.cl n a y (by rw [List.getElem?_append_left hlt]; exact hn) (by rw [List.getElem?_append_left (by rw [r0.rc.len]; exact hlt)]; exact hy)
    exact (h2.cut h1.rf).stp t
  · rcases h with h | rfl
    · exact r.rc.nf a (List.mem_append_left _ ha) h
    · exact nc ha
  · obtain ⟨t1, t2, ps, t3, t4, t5⟩ := r.rc.tab q hq
    exact ⟨fun h => h.elim t1 fun z => t2 (by simp [z]), fun h => t2 (List.mem_append_left _ h), ps, t3, t4, fun pos cv h => by obtain ⟨c', e, f, k⟩ := t5 pos cv h; exact ⟨c', e, .inl f, k⟩⟩
  · have q0 := r0.sl i sl he
    have q := r.sl i sl he
    cases sl with
    | no => trivial
    | va d =>
      obtain ⟨v0, _, p0⟩ := q0
      obtain ⟨v, e, p1⟩ := q
      exact ⟨v, e, (p1.cut p0.rf).stp t⟩
    | xc xi x => exact ⟨q.1, q.2.stp t⟩
    | gh cells vals =>
      refine ⟨fun y a e => by obtain ⟨f, z⟩ := q.cel y a e; exact ⟨.inl f, z⟩, q.inj, fun y d e => ?_⟩
      obtain ⟨a0, _, _, _, _, _, _, _, p0⟩ := q0.val y d e
      obtain ⟨a, o, u, v, h1, h2, h3, h4, h5⟩ := q.val y d e
      exact ⟨a, o, u, v, h1, h2, h3, h4, (h5.cut p0.rf).stp t⟩
    | ow d =>
      obtain ⟨a0, _, _, _, _, p0⟩ := q0
      obtain ⟨a, e, h1, h2, h3, h4⟩ := q
      have h2' : a ∉ c ∧ a ≠ p := by simpa using h2
      refine ⟨a, e, fun h => ?_, h2'.1, h3, ?_⟩
      · rcases h with h | h
        · exact h1 h
        · exact h2'.2 h
      · cases d with
        | lst ds =>
          obtain ⟨_, _, r9⟩ := p0
          obtain ⟨vs, e9, r8⟩ := h4
          exact ⟨vs, e9, (r8.cutR r9.rf).stp t⟩
        | _ => exact h4.elim
  · refine r.old a o e fun h => ?_
    rcases List.mem_append.mp h with h | h
    · exact hc h
    · rw [List.mem_singleton] at h
      rw [h, r0.H0none hp] at e; cases e
  · rcases h with h | rfl
    · exact r.new a h
    · exact .inr (r0.H0none hp)
theorem RpX.cut {K : PySem.W.Frag} {mg : Str → Option Value} {F' : Addr → Prop} {l : List Addr} {cls : Value} {d : Option Addr} {x : Exn} (t : Stp F c H F' c H) (h : RpX K mg F (c ++ l) H cls d x) (e : rfBs c.length (x.fs.map (·.2)) = true) : RpX K mg F' c H cls d x := by
  obtain ⟨h1, h⟩ := h
  refine ⟨h1, ?_⟩
  rcases h with h | ⟨d', vfs, h2, h3, h4, h5, h6⟩
  · exact .inl h
  · exact .inr ⟨d', vfs, h2, t.inc _ h3, h4, h5, (h6.cutR e).stp t⟩
end
/-- what is left behind a making: the new one is frozen, no other cell has changed -/
noncomputable def frzX (env : EnvD) (st st' : Sto) (x : Exn) : R D := match st'[st.length]? with
  | some c => @ite _ (st' = st ++ [c] ∧ rfBs st.length (x.fs.map (·.2)) = true) (Classical.propDecidable _) (.ex x env st) .bad
  | none => .bad
noncomputable def frzS (n : Str) (env : EnvD) (st : Sto) : RF → R D
  | .ok .non st' => (match st'[st.length]? with
    | some (.slo n' xs) => @ite _ (n' = n ∧ st' = st ++ [.slo n' xs] ∧ rfBs st.length xs = true) (Classical.propDecidable _) (.ok (.obj n xs) env st) .bad
    | _ => .bad)
  | .ex x st' => frzX env st st' x
  | _ => .bad
@[simp] theorem frzS_ok {n : Str} {env : EnvD} {st : Sto} {xs : List D} (h : rfBs st.length xs = true) : frzS n env st (.ok .non (st ++ [.slo n xs])) = .ok (.obj n xs) env st := by
  unfold frzS
  have e : (st ++ [Cell.slo n xs])[st.length]? = some (.slo n xs) := by simp
  dsimp only
  rw [e]
  exact if_pos ⟨rfl, rfl, h⟩
@[simp] theorem frzS_ex {n : Str} {env : EnvD} {st : Sto} {x : Exn} {c : Cell} (h : rfBs st.length (x.fs.map (·.2)) = true) : frzS n env st (.ex x (st ++ [c])) = .ex x env st := by
  unfold frzS frzX
  have e : (st ++ [c])[st.length]? = some c := by simp
  dsimp only
  rw [e]
  exact if_pos ⟨rfl, h⟩
@[simp] theorem frzS_bad {n : Str} {env : EnvD} {st : Sto} : frzS n env st .bad = .bad := rfl
noncomputable def eMakeZ (n : Str) (mf : FM) (np : Nat) (fs : M (List D)) : M D := fun env st => (fs env st).bind fun ds env st => if ds.length + 1 = np then frzS n env st (mf (.ref st.length :: ds) (st ++ [.slo n []])) else .bad
section
variable {X : Cx} {W : WX} {e a o : Expr} {es : List Expr} {pos pos' : Pos} {fa fb fo fi : M D} {fs : M (List D)} {x : Str}
theorem len_one {c c' : List Addr} {p : Addr} {st' : Sto} {n : Nat} (cs : ∃ l, c' = (c ++ [p]) ++ l) (h1 : st'.length = c'.length) (h2 : st'.length = n + 1) (h3 : n = c.length) : c' = c ++ [p] := by
  obtain ⟨l, e⟩ := cs
  have : l = [] := by
    apply List.eq_nil_of_length_eq_zero
    rw [e, List.length_append, List.length_append, List.length_singleton] at h1
    omega
  rw [e, this, List.append_nil]
theorem frzX_post {b : Bs} {F F' : Addr → Prop} {c c' : List Addr} {env : EnvD} {st st' : Sto} {σ : L2.St} {H H' : Hp} {p : Addr} {x : Exn} {Pk : D → EnvD → Sto → (Addr → Prop) → List Addr → Hp → Prop} {cls : Value} {dx : Option Addr}
    (r0 : Rel b F c env st σ H) (hp : H p = none) (s : Stp F c H F' c' H') (cs : ∃ l, c' = (c ++ [p]) ++ l) (r : Rel b F' c' env st' σ H') (rx : RpX b.K b.mg F' c' H' cls dx x) (q : Post b W F c σ H Pk (frzX env st st' x)) : W cls dx σ H' := by
  unfold frzX at q
  split at q
  · rename_i cc ec
    split at q
    · rename_i hh
      obtain ⟨rfl, hrf⟩ := hh
      have ec' := len_one cs r.rc.len (n := st.length) (by simp) r0.rc.len
      subst ec'
      obtain ⟨t1, t2, r2, _⟩ := r0.unmake hp s r
      exact q _ c H' cls dx t1 r2 (rx.cut t2 (by rw [← r0.rc.len]; exact hrf))
    · exact q.elim
  · exact q.elim
theorem ve_makeZ {k np : Nat} {n : Str} {mf : FM} {p : Pos} (Mv : MkV X.prog X.w X.K X.mg X.base k n np mf) (hr : Room (k + 1) X.A) (tk : L2Z.Takes X W) (ha : VA X W (e :: es) fs) (hg : Gl X n := by rfl) (hdb : (n == ("__debug__" : Str)) = false := by decide)
    (he : starEach (e :: es) X.env = (false, eval e X.env) :: starEach es X.env := by rfl) (hpl : (backTo pos (starEach es X.env)).any (·.1) = false := by rfl) : VE X W (.Call (.Name n p) (e :: es) [] pos) (eMakeZ n mf np fs) := by
  obtain ⟨C, f, fd, ps, hC, mk, Fo, hb⟩ := Mv.ex
  refine ⟨fun pins s σ H Q I ⟨b, F, c, env, st, e1, e2, r, p⟩ => ?_⟩
  refine wpAny_Call_Name_kw (ld_glob I hg hC ?_ hdb)
  refine PySem.W.callWith_K (h₀ := X.base) I.ok.mod.kin mk.kp (thn (ha.run pos pins s σ H _ I (tA_at e1 e2 r p (Q := fun vs H1 => ∀ x dx, H1 x = none → H1 dx = none → dx ≠ x → spV X.K X.mg false np mf (.ref x :: vs) (upd (upd H1 dx (.frz PySem.W.emptyDict (.own x))) x (L2.SlO C dx x [])) (fun v H2 => v = .non ∧ Q (.ref x) H2) (WE W σ))
    fun vs ds env1 st1 F1 c1 H1 s1 r1 rp1 p1 x dx hx hdx hne => ?_)) fun us s1 ⟨vs, H1, I1, r, q⟩ => ⟨I1.kIn, run_makeB (E := WE W) mk Fo hr hb (L2Z.passAt tk σ) I1 r q⟩) he hpl
  split at p1
  · rename_i hnp
    obtain ⟨s2, r2⟩ := r1.newO hdx (.frz PySem.W.emptyDict (.own x))
    have hx2 : upd H1 dx (.frz PySem.W.emptyDict (.own x)) x = none := by rw [upd_ne (Ne.symm hne)]; exact hx
    obtain ⟨s3, r3, rp3⟩ := r2.cellNew (x := .slo n []) (o := L2.SlO C dx x []) hx2 fun s => ⟨C, dx, [], by rw [e2]; exact hC, SlAt.made hne, .nil⟩
    rw [← e1, ← e2]
    refine ⟨F1, c1 ++ [x], .ref st1.length :: ds, st1 ++ [.slo n []], r3.rc, .cons rp3 (rp1.stp (s2.trans s3)), by simpa using hnp, ?_⟩
    have hx1 : H1 x = none := hx
    generalize mf (.ref st1.length :: ds) (st1 ++ [.slo n []]) = y at p1
    cases y with
    | bad => exact p1.elim
    | ok d st' =>
      intro v F' c' H' s rc o rv
      have r4 := r3.call s rc o
      have sAll : Stp F1 c1 H1 F' c' H' := (s2.trans s3).trans s
      unfold frzS at p1
      split at p1
      · rename_i st'' he
        cases he
        cases rv
        refine ⟨rfl, ?_⟩
        split at p1
        · rename_i n' xs ex
          split at p1
          · rename_i hh
            obtain ⟨rfl, rfl, hrf⟩ := hh
            have ec' := len_one s.cs r4.rc.len (n := st1.length) (by simp) r1.rc.len
            subst ec'
            obtain ⟨t1, t2, r5, C', dx', vs', m1, m2, m3⟩ := r1.unmake hx1 sAll r4
            exact p1 _ c1 H' t1 r5 _ (.obj m1 (.inr rfl) m2 ((m3.cutR (by rw [← r1.rc.len]; exact hrf)).stp t2))
          · exact p1.elim
        · exact p1.elim
      · rename_i he; cases he
      · exact p1.elim
    | ex xx st' =>
      intro cls dxx F' c' H' s rc o rx
      have r4 := r3.call s rc o
      have sAll : Stp F1 c1 H1 F' c' H' := (s2.trans s3).trans s
      exact frzX_post r1 hx1 sAll s.cs r4 rx p1
  · exact p1.elim
def slU (n : Str) (i : Nat) : D → M D := fun r env st => match r with
  | .ref q => (match st[q]? with
    | some (.slo n' ds) => if n' = n then ret ds[i]? env st else .bad
    | _ => .bad)
  | .obj n' ds => if n' = n then ret ds[i]? env st else .bad
  | _ => .bad
def eSlU (n : Str) (i : Nat) (fo : M D) : M D := fun env st => (fo env st).bind (slU n i)
theorem ve_slU {n f : Str} {fl : List Str} (i : Nat) (cv : SlV X.K X.mg n fl) (h : VE X W e fa) (hf : fl[i]? = some f := by rfl) (hb : attributeBase e f X.env (eval e X.env) = eval e X.env := by rfl) : VE X W (.Attribute e f pos) (eSlU n i fa) := by
  obtain ⟨C, hC⟩ := cv.ex
  obtain ⟨p, sl⟩ := cv.at_ C i f hC hf
  refine PEof (pe_slot (cv.cl C hC) sl h hb) fun σ H Q ⟨b, F, c, env, st, e1, e2, r, p⟩ =>
    tE_at e1 e2 r p fun v d env1 st1 F1 c1 H1 s1 r1 rp1 p1 => ?_
  unfold slU at p1
  split at p1
  · split at p1
    · rename_i n' ds es
      split at p1
      · rename_i en
        subst en
        obtain ⟨q, rfl, hc, C', dx, vs, k1, k2, rps⟩ := r1.cell rp1 es
        rw [e2, hC] at k1; cases k1
        unfold ret at p1
        split at p1
        · rename_i d ed
          obtain ⟨v, hv, rp⟩ := rps.at ed
          exact ⟨q, dx, vs.map some, v, rfl, k2, hv, Post.here r1 p1 v rp⟩
        · exact p1.elim
      · exact p1.elim
    · exact p1.elim
  · rename_i n' ds
    split at p1
    · rename_i en
      subst en
      cases rp1 with
      | obj m1 m2 m3 m4 =>
        rw [e2, hC] at m1; cases m1
        unfold ret at p1
        split at p1
        · rename_i d ed
          obtain ⟨v, hv, rp⟩ := m4.at ed
          exact ⟨_, _, _, v, rfl, m3, hv, Post.here r1 p1 v rp⟩
        · exact p1.elim
    · exact p1.elim
  · exact p1.elim
/-- a property -/
def prU (n : Str) (mf : FM) : D → M D := fun r env st => match r with
  | .ref q => (match st[q]? with
    | some (.slo n' _) => if n' = n then (match mf [.ref q] st with
      | .ok d st => .ok d env st
      | _ => .bad) else .bad
    | _ => .bad)
  | .obj n' ds => if n' = n then (match mf [.obj n' ds] st with
      | .ok d st => .ok d env st
      | _ => .bad) else .bad
  | _ => .bad
def ePrU (n : Str) (mf : FM) (fo : M D) : M D := fun env st => (fo env st).bind (prU n mf)
theorem ve_prU {n f : Str} {mf : FM} {k : Nat} (Pv : PrV X.prog X.w X.K X.mg X.base k n f mf) (hr : Room (k + 1) X.A) (h : VE X W e fa) (hb : attributeBase e f X.env (eval e X.env) = eval e X.env := by rfl) : VE X W (.Attribute e f pos) (ePrU n mf fa) := by
  obtain ⟨C, p, g, fd, ps, hC, cl, hp, Fo, hbi⟩ := Pv.ex
  refine ⟨fun pins s σ H Q I ⟨b, F, c, env, st, e1, e2, r, p⟩ => ?_⟩
  refine attr_of hb (thn (h.run pins s σ H _ I (tE_at e1 e2 r p (Q := fun x H1 => ∃ a dx vs, x = .ref a ∧ VE.SlAt H1 a C dx vs ∧ spV X.K X.mg false 1 mf [.ref a] H1 Q (fun _ _ _ => False)) fun v d env1 st1 F1 c1 H1 s1 r1 rp1 p1 => ?_)) fun u s1 ⟨x, H1, I1, rx, a, dx, vs, ex, ea, q⟩ => ?_)
  · unfold prU at p1
    split at p1
    · rename_i q
      split at p1
      · rename_i n' ds es
        split at p1
        · rename_i en
          subst en
          obtain ⟨a, rfl, hc, C', dx, vs, k1, k2, rps⟩ := r1.cell rp1 es
          rw [e2, hC] at k1; cases k1
          refine ⟨a, dx, vs.map some, rfl, k2, ?_⟩
          rw [← e1, ← e2]
          refine ⟨F1, c1, [.ref q], st1, r1.rc, .cons rp1 .nil, rfl, ?_⟩
          generalize mf [.ref q] st1 = y at p1
          cases y with
          | ok d st' => exact fun v F' c' H' s rc o rv => p1 F' c' H' s (r1.call s rc o) v rv
          | ex x st' => exact p1.elim
          | bad => exact p1.elim
        · exact p1.elim
      · exact p1.elim
    · rename_i n' ds
      split at p1
      · rename_i en
        subst en
        have rp0 := rp1
        cases rp1 with
        | obj m1 m2 m3 m4 =>
          rw [e2, hC] at m1; cases m1
          refine ⟨_, _, _, rfl, m3, ?_⟩
          rw [← e1, ← e2]
          refine ⟨F1, c1, [.obj n' ds], st1, r1.rc, .cons rp0 .nil, rfl, ?_⟩
          generalize mf [.obj n' ds] st1 = y at p1
          cases y with
          | ok d st' => exact fun v F' c' H' s rc o rv => p1 F' c' H' s (r1.call s rc o) v rv
          | ex x st' => exact p1.elim
          | bad => exact p1.elim
      · exact p1.elim
    · exact p1.elim
  · subst ex
    obtain rfl : u = Value.ref a := rx
    exact getprop_at I1 ea cl hp Fo hr hbi q
end
end VE
namespace VE
open PySem PySem.Spec PyProof.Rows L2
variable [VEnv]
def kOf : Value → Key
  | .int i _ => .inl i
  | .str z _ => .inr z
  | _ => .inl 0
def MemE (w : World) (e : Int × Value) : Prop := ∃ k, keyIs k e.2 = true ∧ e.1 = keyH w k
theorem kOf_is {k : Key} {v : Value} (q : keyIs k v = true) : kOf v = k := by
  rcases keyIs_shape q with ⟨i, t, rfl, rfl⟩ | ⟨z, t, rfl, rfl⟩ <;> rfl
theorem is_kOf {w : World} {e : Int × Value} (g : MemE w e) (k : Key) : keyIs k e.2 = true ↔ kOf e.2 = k := by
  obtain ⟨k0, q, _⟩ := g
  have e0 := kOf_is q
  exact ⟨fun z => kOf_is z, fun z => by rw [e0] at z; rw [← z]; exact q⟩
/-- the members S of the set at a, n of them, none twice; its order of walk is known to rise -/
def KSet (w : World) (h : Heap) (a : Addr) (S : Key → Bool) (n : Nat) : Prop :=
  ∃ ob es ep tb, h.get? a = some ob ∧ ob.ExactSet ∧ ob.data = .set es ep tb ∧ (∀ e ∈ es.toList, MemE w e) ∧ (es.toList.map fun e => kOf e.2).Nodup ∧ (∀ k, S k = true ↔ k ∈ es.toList.map fun e => kOf e.2) ∧
    es.size < scanBound ∧ tb.fits es.size = true ∧ es.size = n ∧ Ris tb.place.toList ∧ (w.params.followText "set-order" = true ∨ tb.led = true)
section
variable {P : Program} {w : World} {h h' : Heap} {a : Addr} {S : Key → Bool} {n : Nat}
theorem KSet.at (R : KSet w h a S n) (k : ∀ o, h.get? a = some o → h'.get? a = some o) : KSet w h' a S n := by
  obtain ⟨ob, es, ep, tb, g, r⟩ := R
  exact ⟨ob, es, ep, tb, k ob g, r⟩
theorem mem_elems {l : List (Int × Value)} (g : ∀ e ∈ l, MemE w e) : ElemsOf (mixKind P w) l := fun e he => by
  obtain ⟨k, q1, q2⟩ := g e he
  refine ⟨⟨k, q1, q2⟩, ?_⟩
  rcases keyIs_shape q1 with ⟨i, t, rfl, z⟩ | ⟨x, t, rfl, z⟩ <;> rw [z] <;> rfl
theorem mem_mem {l : List (Int × Value)} (g : ∀ e ∈ l, MemE w e) (k : Key) : k ∈ (l.map fun e => kOf e.2) ↔ ∃ e ∈ l, keyIs k e.2 = true := by
  rw [List.mem_map]
  exact ⟨fun ⟨e, he, q⟩ => ⟨e, he, (is_kOf (g e he) k).2 q⟩, fun ⟨e, he, q⟩ => ⟨e, he, (is_kOf (g e he) k).1 q⟩⟩
theorem key_scn {k : Key} {v : Value} (q : keyIs k v = true) : v.scannable = true := by
  rcases keyIs_shape q with ⟨i, t, rfl, z⟩ | ⟨x, t, rfl, z⟩ <;> rw [z] <;> rfl
end
section
variable {P : Program} {w : World} {A : Around} {E : Value → Shared → Prop} {s : Shared} {a : Addr} {S : Key → Bool} {n : Nat}
theorem kset_tail {gv : Bool → Sem Unit} (hgv : ∀ (b : Bool) (z : Shared) (Z : Unit → Shared → Prop), Z () z → wpAny (model P w) A (gv b) Z E z)
    {ob : Obj} {es : Array (Int × Value)} {ep : Nat} {tb : SetTable} (go : s.heap.get? a = some ob) (gx : ob.ExactSet) (gd : ob.data = .set es ep tb)
    {fs : Array (Int × Value)} {tc : SetTable} {S' : Key → Bool} (m0 : ∀ e ∈ fs.toList, MemE w e) (m1 : (fs.toList.map fun e => kOf e.2).Nodup) (m2 : ∀ k, S' k = true ↔ k ∈ fs.toList.map fun e => kOf e.2)
    (bd : fs.size < scanBound) (ft : tc.fits fs.size = true) (rs : Ris tc.place.toList) (ld : w.params.followText "set-order" = true ∨ tc.led = true) {was : Bool} {Z : Option Bool → Shared → Prop}
    (fin : ∀ h', Heap.SameBut a s.heap h' → KSet w h' a S' fs.size → Z (some true) { s with heap := h' }) :
    wpAny (model P w) A (do
        storeSet a fs tc
        if (!was && tc.tooFull) = true then do
            gv (relayAll tc fs (SetTable.grown fs.size)).2.2
            storeSet a (relayAll tc fs (SetTable.grown fs.size)).1 (relayAll tc fs (SetTable.grown fs.size)).2.1
            pure (some true)
          else pure (some true)) Z E s := by
  refine wpAny_bind (wpAny_storeSet_of go gd ?_ (fits_of_scanBound bd))
  have go1 := store_at (es' := fs) (t' := tc) go gd
  have sm := Heap.SameBut.update s.heap a (Obj.putSet fs tc)
  split
  · have q1 := relayAll_perm tc fs (SetTable.grown fs.size)
    have q2 := relayAll_fits tc fs (SetTable.grown fs.size)
    have q3 := relayAll_ris tc fs (SetTable.grown fs.size)
    have q4 := relayAll_led tc fs (SetTable.grown fs.size)
    generalize relayAll tc fs (SetTable.grown fs.size) = T at q1 q2 q3 q4 ⊢
    obtain ⟨gs, td, gave⟩ := T
    dsimp only at q1 q2 q3 q4 ⊢
    have sz : gs.size = fs.size := by rw [← Array.length_toList, q1.length_eq, Array.length_toList]
    have bd2 : gs.size < scanBound := by rw [sz]; exact bd
    refine wpAny_bind (hgv _ _ _ ?_)
    refine wpAny_bind (wpAny_storeSet_of go1 rfl ?_ (fits_of_scanBound bd2))
    have go2 := store_at (es' := gs) (t' := td) go1 rfl
    refine wpAny_pure (fin _ (sm.trans (Heap.SameBut.update _ a _)) ?_)
    exact ⟨_, gs, _, td, go2, gx, rfl, fun e he => m0 e (q1.mem_iff.mp he), (q1.map fun e => kOf e.2).nodup_iff.mpr m1, fun k => (m2 k).trans (q1.map fun e => kOf e.2).mem_iff.symm, bd2, q2, sz, q3,
      ld.imp id fun z => by rw [q4]; exact z⟩
  · exact wpAny_pure (fin _ sm ⟨_, fs, _, tc, go1, gx, rfl, m0, m1, m2, bd, ft, rfl, rs, ld⟩)
theorem kset_add {k : Key} {x : Value} {Q : Bool → Shared → Prop} (kx : keyIs k x = true) (R : KSet w s.heap a S n) (room : n + 1 < scanBound)
    (hQ : ∀ h', Heap.SameBut a s.heap h' → KSet w h' a (fun j => S j || decide (j = k)) (if S k = true then n else n + 1) → Q (!S k) { s with heap := h' }) :
    wpAny (model P w) A (setAddHashed a x ((mixKind P w).hash k)) Q E s := by
  obtain ⟨ob, es, ep, tb, go, gx, gd, gm, nd, mm, bd, ft, sz, rs, ld⟩ := R
  have hkey : (mixKind P w).is k x = true := kx
  have sc : x.scannable = true := key_scn kx
  have els : ElemsOf (mixKind P w) es.toList := mem_elems gm
  unfold setAddHashed setAddHashedIn
  refine wpAny_holding (wpAny_bind (wpAny_setState_of go gd ft ?_))
  dsimp only
  rw [byScan_of sc bd els]
  simp only [↓reduceIte]
  unfold setAddByScan
  refine wpAny_bind ?_
  refine wpAny_bind (wpAny_rule ?_)
  refine wpAny_bind (wpAny_setScan_of hkey go gd ft els ?_)
  cases fi : List.findIdx? (fun e => (mixKind P w).is k e.2) es.toList with
  | some j =>
    dsimp only
    obtain ⟨hj, pj, _⟩ := List.findIdx?_eq_some_iff_getElem.mp fi
    have Sk : S k = true := (mm k).2 ((mem_mem gm k).2 ⟨es.toList[j], List.getElem_mem hj, pj⟩)
    refine wpAny_pure (wpAny_pure ?_)
    have q := hQ s.heap (Heap.SameBut.refl a s.heap) ⟨ob, es, ep, tb, go, gx, gd, gm, nd, fun i => by
      rw [Bool.or_eq_true, decide_eq_true_eq, ← mm i]
      exact ⟨fun z => z.elim id (fun e => e ▸ Sk), .inl⟩, bd, ft, by rw [if_pos Sk]; exact sz, rs, ld⟩
    rw [Sk] at q
    exact q
  | none =>
    dsimp only
    have nk : k ∉ es.toList.map fun e => kOf e.2 := fun z => by
      obtain ⟨e, he, q⟩ := (mem_mem gm k).1 z
      have c : keyIs k e.2 = false := List.findIdx?_eq_none_iff.mp fi e he
      rw [q] at c; cases c
    have Sk : S k = false := by
      cases q : S k with
      | false => rfl
      | true => exact absurd ((mm k).1 q) nk
    have gw : ∀ (b : Bool) {z : Shared} {Z : Unit → Shared → Prop}, Z () z → wpAny (model P w) A (match b with | true => rule "set.scan.the-table-gave-way" | false => pure ()) Z E z :=
      fun b z Z q => by cases b <;> first | exact wpAny_pure q | exact wpAny_rule q
    have l1 := layNew_perm tb es ((mixKind P w).hash k) x
    have l2 := layNew_fits tb es ((mixKind P w).hash k) x
    have l3 := layNew_ris tb es ((mixKind P w).hash k) x rs
    have l4 := layNew_led tb es ((mixKind P w).hash k) x
    generalize layNew tb es ((mixKind P w).hash k) x = T at l1 l2 l3 l4 ⊢
    obtain ⟨fs, tc, was, gave⟩ := T
    dsimp only at l1 l2 l3 l4 ⊢
    rw [Array.toList_push] at l1
    have pc : fs.toList.Perm (((mixKind P w).hash k, x) :: es.toList) := l1.trans (List.perm_append_singleton _ _)
    have pk : (fs.toList.map fun e => kOf e.2).Perm (k :: es.toList.map fun e => kOf e.2) := by
      have z := pc.map fun e => kOf e.2
      rw [List.map_cons] at z
      rw [kOf_is kx] at z
      exact z
    have g1 : ∀ e ∈ fs.toList, MemE w e := fun e he => by
      rcases List.mem_cons.mp (pc.mem_iff.mp he) with z | z
      · rw [z]; exact ⟨k, kx, rfl⟩
      · exact gm e z
    have g2 : (fs.toList.map fun e => kOf e.2).Nodup := pk.nodup_iff.mpr (List.nodup_cons.mpr ⟨nk, nd⟩)
    have g3 : ∀ i, (S i || decide (i = k)) = true ↔ i ∈ fs.toList.map fun e => kOf e.2 := fun i => by
      rw [Bool.or_eq_true, decide_eq_true_eq, mm i, pk.mem_iff, List.mem_cons]
      exact Or.comm
    have sz1 : fs.size = n + 1 := by rw [← Array.length_toList, pc.length_eq, List.length_cons, Array.length_toList, sz]
    have bd1 : fs.size < scanBound := by rw [sz1]; exact room
    have ld1 : w.params.followText "set-order" = true ∨ tc.led = true := ld.imp id fun z => by rw [l4]; exact z
    have fin : ∀ h', Heap.SameBut a s.heap h' → KSet w h' a (fun j => S j || decide (j = k)) fs.size → Q true { s with heap := h' } := fun h' sb r => by
      have q := hQ h' sb
      rw [Sk] at q
      rw [sz1] at r
      exact q r
    refine wpAny_bind (gw _ ?_)
    split
    · refine wpAny_bind ?_
      rw [hashByValue_scannable 8 sc]
      refine wpAny_pure ?_
      refine kset_tail ?_ go gx gd g1 g2 g3 bd1 ?_ ?_ ?_ ?_
      · intro b z Z q; cases b <;> first | exact wpAny_pure q | exact wpAny_rule q
      · first | (split <;> first | exact l2 | exact SetTable.fits_plain_off l2) | exact l2
      · first | (split <;> exact l3) | exact l3
      · first | (split <;> exact ld1) | exact ld1
      · intro h' sb r; dsimp only; exact wpAny_pure (fin h' sb r)
    · refine wpAny_bind (wpAny_pure ?_)
      simp only [↓reduceIte]
      refine kset_tail ?_ go gx gd g1 g2 g3 bd1 l2 l3 ld1 ?_
      · intro b z Z q; cases b <;> first | exact wpAny_pure q | exact wpAny_rule q
      · intro h' sb r; dsimp only; exact wpAny_pure (fin h' sb r)
theorem kset_fresh {h : Heap} (w : World) : KSet w (h.push { cls := .type "set", dict := none, data := .set #[] 0 (.fresh 0 0 (!w.params.followText "set-order")) }) h.objs.size (fun _ => false) 0 :=
  ⟨_, #[], 0, _, Heap.get?_push_size _ rfl, ⟨rfl, rfl, rfl⟩, rfl, (fun e he => by simp at he), (by simp), (fun k => by simp), (by decide), (by rfl), rfl, List.Pairwise.nil, by
    show _ ∨ (!w.params.followText "set-order") = true
    cases w.params.followText "set-order"
    · exact .inr rfl
    · exact .inl rfl⟩
end
section
variable {P : Program} {w : World} {A : Around} {R : Result → Shared → Prop} {I : Addr} {fp wr : List Addr} {G : Array GenState → Array GenState → Prop} {n : Nat} {Pv : Nat → Value → Prop} {St : Nat → Shared → Prop}
theorem kset_loop (W : WalksS P w A.in1 I fp wr G n Pv St) (T : Addr) (hT : T ∉ fp) (ks : List Key) (hsz : ks.length = n) (hn1 : n + 1 < scanBound)
    (hval : ∀ i v, Pv i v → ∃ k, ks[i]? = some k ∧ keyIs k v = true) :
    ∀ (k i : Nat) (s : Shared) (m : Nat), n - i = k → i ≤ n → m ≤ i → St i s → KSet w s.heap T (fun j => (ks.take i).any fun z => decide (z = j)) m →
      (∀ s' m', Moved (T :: wr) G s s' → m' ≤ n → KSet w s'.heap T (fun j => ks.any fun z => decide (z = j)) m' → R (.ok (.ret .none)) s') →
      codeAny (model P w) A (.builtin "set.update.loop" ⟨[.ref T, .ref I], []⟩) R s := by
  have hTw : T ∉ wr := fun h => hT (W.sub _ h)
  have hsub : ∀ b ∈ wr, b ∈ T :: wr := fun b hb => List.mem_cons_of_mem _ hb
  intro k
  induction k with
  | zero =>
    intro i s m hk hi hm hst hS hR
    have ein : i = n := by omega
    subst ein
    refine codeAny_builtin PyProof.Rows.F.entry_set_update_loop ?_
    rw [Around.under_plainId PyProof.Rows.F.plain_set_update_loop _]
    show wpAny _ A.in1 (pyNext (.ref I) >>= _) _ _ s
    refine wpAny_bind (W.done s _ _ hst fun s' mv => ?_)
    show wpAny _ A.in1 (PySem.ret Value.none) _ _ s'
    refine wpAny_pure (hR s' m (mv.mono hsub) hm ?_)
    rw [← hsz, List.take_length] at hS
    exact hS.at fun o e => mv.heap T o hTw e
  | succ k ih =>
    intro i s m hk hi hm hst hS hR
    have hlt : i < n := by omega
    refine codeAny_builtin PyProof.Rows.F.entry_set_update_loop ?_
    rw [Around.under_plainId PyProof.Rows.F.plain_set_update_loop _]
    show wpAny _ A.in1 (pyNext (.ref I) >>= _) _ _ s
    refine wpAny_bind (W.item i s _ _ hlt hst fun v s' hP hst' mv => ?_)
    obtain ⟨ky, hky, kv⟩ := hval i v hP
    have hS' := hS.at fun o e => mv.heap T o hTw e
    show wpAny _ A.in1 (holding [v] (setAdd T v) >>= _) _ _ s'
    refine wpAny_bind (wpAny_holding ?_)
    unfold setAdd
    refine wpAny_holding ?_
    refine wpAny_bind ((mixKind P w).pyHash (k := ky) kv ?_)
    refine kset_add (s := { s' with toks := s'.toks + 1 }) kv hS' (by omega) fun h' hsb hS2 => ?_
    have hS3 : KSet w h' T (fun j => (ks.take (i + 1)).any fun z => decide (z = j)) (if ((ks.take i).any fun z => decide (z = ky)) = true then m else m + 1) := by
      have e0 : (fun j => (ks.take (i + 1)).any fun z => decide (z = j)) = fun j => ((ks.take i).any fun z => decide (z = j)) || decide (j = ky) := by
        funext j
        rw [List.take_add_one, hky]
        simp [eq_comm]
      rw [e0]; exact hS2
    refine wpAny_pure ⟨plainId_quiet PyProof.Rows.F.plain_set_update_loop _, ih (i + 1) _ _ (by omega) hlt (by split <;> omega) (W.frame _ s' _ _ hst' (Nat.le_succ _) fun b hb o e => ?_) hS3 fun s'' m' mv' hm' hS'' => ?_⟩
    · rw [hsb.2 b (fun h : b = T => hT (by rw [← h]; exact hb))]; exact e
    · refine hR s'' m' (Moved.trans W.gtrans ((mv.mono hsub).then_heap (Nat.le_succ _) fun b o hb e => ?_) mv') hm' hS''
      rw [hsb.2 b (fun h : b = T => hb (by rw [h]; exact List.mem_cons_self))]; exact e
end
end VE
namespace VE
open PySem PySem.Spec PyProof.Rows L2
variable [VEnv]
def ltK : Key → Key → Bool
  | .inl i, .inl j => decide (i < j)
  | .inr x, .inr y => decide (x.cps.toList < y.cps.toList)
  | .inl _, .inr _ => true
  | .inr _, .inl _ => false
def lexK : List Key → List Key → Bool
  | [], [] => false
  | [], _ :: _ => true
  | _ :: _, [] => false
  | x :: xs, y :: ys => if x = y then lexK xs ys else ltK x y
theorem str_of_list {x y : Str} (h : x.cps.toList = y.cps.toList) : x = y := by
  cases x; cases y; simp at h; rw [h]
theorem ltK_irr : ∀ x : Key, ltK x x = false
  | .inl i => by simp [ltK]
  | .inr x => by simp [ltK]
theorem ltK_asym : ∀ {x y : Key}, ltK x y = true → ltK y x = false
  | .inl i, .inl j, h => by simp [ltK] at *; omega
  | .inr x, .inr y, h => by
    simp only [ltK, decide_eq_true_eq, decide_eq_false_iff_not] at *
    exact fun h2 => List.lt_irrefl _ (List.lt_trans h h2)
  | .inl i, .inr j, h => rfl
  | .inr i, .inl j, h => by simp [ltK] at h
theorem ltK_tot : ∀ {x y : Key}, ltK x y = false → ltK y x = false → x = y
  | .inl i, .inl j, h, h2 => by simp [ltK] at *; omega
  | .inr x, .inr y, h, h2 => by
    simp only [ltK, decide_eq_false_iff_not] at *
    rw [str_of_list (List.le_antisymm (List.not_lt.mp h2) (List.not_lt.mp h))]
  | .inl i, .inr j, h, _ => by simp [ltK] at h
  | .inr i, .inl j, _, h => by simp [ltK] at h
theorem ltK_trans : ∀ {x y z : Key}, ltK x y = true → ltK y z = true → ltK x z = true
  | .inl i, .inl j, .inl k, h, h2 => by simp [ltK] at *; omega
  | .inr x, .inr y, .inr z, h, h2 => by
    simp only [ltK, decide_eq_true_eq] at *
    exact List.lt_trans h h2
  | .inl i, .inr j, .inr k, h, h2 => rfl
  | .inl i, .inl j, .inr k, h, h2 => rfl
  | .inl i, .inr j, .inl k, h, h2 => by simp [ltK] at h2
  | .inr i, .inl j, _, h, h2 => by simp [ltK] at h
  | .inr i, .inr j, .inl k, h, h2 => by simp [ltK] at h2
theorem lexK_asym : ∀ {xs ys}, lexK xs ys = true → lexK ys xs = false
  | [], [], h => by simp [lexK] at h
  | [], _ :: _, _ => rfl
  | _ :: _, [], h => by simp [lexK] at h
  | x :: xs, y :: ys, h => by
    simp only [lexK] at *
    by_cases e : x = y
    · subst e; simp only [↓reduceIte] at *; exact lexK_asym h
    · rw [if_neg e] at h; rw [if_neg (Ne.symm e)]; exact ltK_asym h
theorem lexK_tot : ∀ {xs ys}, lexK xs ys = false → lexK ys xs = false → xs = ys
  | [], [], _, _ => rfl
  | [], _ :: _, h, _ => by simp [lexK] at h
  | _ :: _, [], _, h => by simp [lexK] at h
  | x :: xs, y :: ys, h, h2 => by
    simp only [lexK] at *
    by_cases e : x = y
    · subst e; simp only [↓reduceIte] at *; rw [lexK_tot h h2]
    · rw [if_neg e] at h; rw [if_neg (Ne.symm e)] at h2; exact absurd (ltK_tot h h2) e
theorem lexK_trans : ∀ {xs ys zs}, lexK xs ys = true → lexK ys zs = true → lexK xs zs = true
  | [], [], _, h, _ => by simp [lexK] at h
  | [], _ :: _, [], _, h => by simp [lexK] at h
  | [], _ :: _, _ :: _, _, _ => rfl
  | _ :: _, [], _, h, _ => by simp [lexK] at h
  | _ :: _, _ :: _, [], _, h => by simp [lexK] at h
  | x :: xs, y :: ys, z :: zs, h, h2 => by
    simp only [lexK] at *
    by_cases e : x = y
    · subst e
      simp only [↓reduceIte] at h
      by_cases e2 : x = z
      · subst e2; simp only [↓reduceIte] at *; exact lexK_trans h h2
      · rw [if_neg e2] at *; exact h2
    · rw [if_neg e] at h
      by_cases e2 : y = z
      · subst e2; rw [if_neg e]; exact h
      · rw [if_neg e2] at h2
        have h3 := ltK_trans h h2
        by_cases e3 : x = z
        · subst e3; rw [ltK_irr] at h3; cases h3
        · rw [if_neg e3]; exact h3
theorem swo_lexK {α : Type} (k : α → List Key) : SrtO.Swo fun x y => lexK (k x) (k y) := by
  refine ⟨fun x y h => lexK_asym h, fun x y z h1 h2 => ?_⟩
  cases q : lexK (k z) (k x) with
  | false => rfl
  | true =>
    cases q1 : lexK (k x) (k y) with
    | true => rw [lexK_trans q q1] at h2; cases h2
    | false => rw [lexK_tot q1 h1, h2] at q; cases q
section
variable {α : Type} (k : α → List Key)
variable {k}
end
section
variable {P : Program} {w : World} {A : Around} {E : Value → Shared → Prop} {s : Shared}
/-- ints, or texts -/
def AllSc (vs : List Value) : Prop := (∃ ns, IntsAre vs ns) ∨ ∃ xs, StrsAre vs xs
theorem kOf_int {i : Int} {t : Tok} : kOf (.int i t) = .inl i := rfl
theorem kOf_str {i : Str} {t : Tok} : kOf (.str i t) = .inr i := rfl
theorem lex1 {x y : Key} : lexK [x] [y] = if x = y then false else ltK x y := by simp [lexK]
theorem lex1' {x y : Key} : lexK [x] [y] = ltK x y := by
  rw [lex1]
  split
  · rename_i e; subst e; exact (ltK_irr _).symm
  · rfl
theorem sortable_sc {a : Addr} {vs : List Value} (h : AllSc vs) (h2 : 2 ≤ vs.length) : SrtO.SortableO P w A s a vs fun v u => lexK [kOf v] [kOf u] := by
  intro h' _
  rcases h with ⟨ns, hi⟩ | ⟨xs, hx⟩
  · refine ⟨oneType', fun Q E hq => ?_, fun p q hm hm' => ?_⟩
    · match vs, hi, h2 with
      | v1 :: v2 :: rest, hi, _ => rw [keyKind_ints hi]; exact wpAny_pure hq
      | [], _, h => exact absurd h (by decide)
      | [v], _, h => exact absurd h (by simp)
    · obtain ⟨i, t, e⟩ := SrtO.ints_mem hi _ hm
      obtain ⟨j, u, e'⟩ := SrtO.ints_mem hi _ hm'
      show wpAny _ A (keyLt' oneType' p.1 q.1) _ _ _
      rw [e, e', keyLt'_oneType]
      refine oneLt_int ⟨rfl, ?_⟩
      show _ = lexK [kOf p.1] [kOf q.1]
      rw [e, e', lex1', kOf_int, kOf_int]; rfl
  · refine ⟨oneType', fun Q E hq => ?_, fun p q hm hm' => ?_⟩
    · match vs, hx, h2 with
      | v1 :: v2 :: rest, hx, _ => rw [keyKind_strs hx]; exact wpAny_pure hq
      | [], _, h => exact absurd h (by decide)
      | [v], _, h => exact absurd h (by simp)
    · obtain ⟨i, t, e⟩ := hx.all _ hm
      obtain ⟨j, u, e'⟩ := hx.all _ hm'
      show wpAny _ A (keyLt' oneType' p.1 q.1) _ _ _
      rw [e, e', keyLt'_oneType]
      refine oneLt_str ⟨rfl, ?_⟩
      show _ = lexK [kOf p.1] [kOf q.1]
      rw [e, e', lex1', kOf_str, kOf_str]; rfl
/-- a tuple of these keys -/
def TupK (h : Heap) (v : Value) (ks : List Key) : Prop := ∃ a o its n, v = .ref a ∧ h.get? a = some o ∧ o.cls = .type "tuple" ∧ o.data = .seq its n ∧ Paired keyIs' ks its.toList
where keyIs' (k : Key) (v : Value) : Prop := keyIs k v = true
theorem TupK.keeps {h h' : Heap} {v : Value} {ks : List Key} (t : TupK h v ks) (k : ∀ a o, v = .ref a → o.cls = .type "tuple" → h.get? a = some o → h'.get? a = some o) : TupK h' v ks := by
  obtain ⟨a, o, its, n, e, g, c, r⟩ := t
  exact ⟨a, o, its, n, e, k a o e c g, c, r⟩
theorem get_fresh {h h' : Heap} (k : ∀ b o, h.get? b = some o → h'.get? b = some o) : h.get? h'.objs.size = none := by
  cases e : h.get? h'.objs.size with
  | none => rfl
  | some o => exact absurd (Heap.lt_size (k _ _ e)) (Nat.lt_irrefl _)
/-- sorted(v), v a list, a tuple or a set that gathers to items of which Pp holds -/
theorem sorted_any {v : Value} {Pp : List Value → Prop} {ltv : Value → Value → Bool} {Q : Value → Shared → Prop} (O : SrtO.Swo ltv)
    (hcol : ∀ Z : List Value → Shared → Prop, (∀ s1 out, (∀ b o, s.heap.get? b = some o → s1.heap.get? b = some o) → s1.gens = s.gens → s1.os = s.os → Pp out → Z out s1) → wpAny (model P w) A.in1 (collect v) Z E s)
    (hz : ∀ out, Pp out → out.length ≤ sizeLine)
    (hS : ∀ (out : List Value) (s1 : Shared) (a : Addr), Pp out → 2 ≤ out.length → (∀ b o, s.heap.get? b = some o → s1.heap.get? b = some o) → s1.heap.get? a = some (seqObj "list" out.toArray 0) → SrtO.SortableO P w A.in1.in1 s1 a out ltv)
    (h : ∀ s' p (out out' : List Value) (c : Nat), (∀ b o, s.heap.get? b = some o → s'.heap.get? b = some o) → s'.gens = s.gens → s'.os = s.os → s.heap.get? p = none → s'.heap.get? p = some (seqObj "list" out'.toArray c) →
      Pp out → SrtO.Srtd ltv out' → SrtO.Stb ltv out' out → Q (.ref p) s') :
    wpAny (model P w) A (call (.builtin "sorted") [v]) Q E s := by
  refine Calls.call_function_entry kind_sorted plain_sorted entry_sorted (args_sorted1 _) ?_
  unfold Builtin.«sorted»
  refine wpAny_bind (m := checkCount "sorted" 1 1 _) (wpAny_pure ?_)
  refine wpAny_bind (hcol _ fun s1 out k1 g1 o1 pp => ?_)
  refine wpAny_bind (wpAny_newList ?_ (hz out pp))
  have gL : (s1.heap.push (seqObj "list" out.toArray 0)).get? s1.heap.objs.size = some (seqObj "list" out.toArray 0) := Heap.get?_push_size _ rfl
  refine wpAny_bind (wpAny_holding (wpAny_call_entry slot_list_sort ⟨_, gL, rfl⟩ entry_list_sort (SrtO.list_sort_ord O gL (hz out pp) (fun h2 => hS out _ _ pp h2 (fun b o e => Heap.get?_push_of_some _ (k1 b o e)) gL) fun out' a1 a2 => ⟨_, rfl, ?_⟩) (args_list_sort _)))
  obtain ⟨c, hc⟩ := sortedHeap_at (vs := out) (out := out'.toArray) gL
  refine wpAny_pure ⟨_, rfl, h _ s1.heap.objs.size out out' c (fun b u e => ?_) g1 o1 (get_fresh k1) hc pp a1 a2⟩
  have q := k1 b u e
  have lt := Heap.lt_size q
  show (sortedHeap (s1.heap.push (seqObj "list" out.toArray 0)) s1.heap.objs.size out out'.toArray).get? b = some u
  rw [sortedHeap_old (Nat.ne_of_lt lt) (by rw [size_push']; exact Nat.lt_succ_of_lt lt)]
  exact Heap.get?_push_of_some _ q
end
end VE
namespace VE
open PySem PySem.Spec PyProof.Rows L2
variable [VEnv]
def isInt : D → Bool
  | .int _ => true
  | _ => false
def isStr : D → Bool
  | .str _ => true
  | _ => false
section
variable {K : PySem.W.Frag} {mg : Str → Option Value} {F : Addr → Prop} {c : List Addr} {H : Hp}
end
theorem ok_get {P : Program} {w : World} {H : Hp} {h : Heap} {a : Addr} {o : HO} (z : ObjOk P w H h a o) : ∃ u, h.get? a = some u := by
  cases o with
  | lst xs => obtain ⟨_, _, _, _, e⟩ := z; exact ⟨_, e⟩
  | tup xs => obtain ⟨_, _, _, o, e, _⟩ := z; exact ⟨_, e⟩
  | dK kvs => obtain ⟨_, _, _, _, o, _, _, e, _⟩ := z; exact ⟨_, e⟩
  | dT kvs => obtain ⟨_, _, _, _, o, _, _, e, _⟩ := z; exact ⟨_, e⟩
  | set S n => obtain ⟨o, _, _, _, e, _⟩ := z; exact ⟨_, e⟩
  | ins C dx fs => obtain ⟨_, _, _, e, _⟩ := z; exact ⟨_, e⟩
  | own y => exact z
  | xd fs => obtain ⟨_, ⟨_, _, _, e, _⟩, _⟩ := z; exact ⟨_, e⟩
  | rng lo hi => obtain ⟨_, _, _, e⟩ := z; exact ⟨_, e⟩
  | frz ob u => obtain ⟨e, _⟩ := z; exact ⟨_, e⟩
  | tbl ps => exact ⟨_, (show h.get? a = some _ from z)⟩
  | met f y => exact ⟨_, (show h.get? a = some _ from z)⟩
  | ext φ => exact z.2.1
theorem ok_none {P : Program} {w : World} {H : Hp} {h : Heap} {a : Addr} (x : HOk P w H h) (e : h.get? a = none) : H a = none := by
  cases q : H a with
  | none => rfl
  | some o =>
    obtain ⟨u, hu⟩ := ok_get (x a o q)
    rw [e] at hu; cases hu
theorem ok_laid {P : Program} {w : World} {H : Hp} {h h' : Heap} {a : Addr} {o : HO} (x : HOk P w H h) (k : ∀ b u, h.get? b = some u → h'.get? b = some u) (hn : H a = none) (new : ObjOk P w (upd H a o) h' a o) : HOk P w (upd H a o) h' := fun b u e => by
  by_cases hb : b = a
  · subst hb; rw [upd_same] at e; cases e; exact new
  · rw [upd_ne hb] at e
    exact (x b u e).stay (fun c v _ q => k c v q) (fun d q => own_new hn d _ q) fun c xs q => by rw [upd_ne (ne_of_none q hn)]; exact q
theorem un_laid {H : Hp} {h h' : Heap} {a : Addr} {o : HO} {fs ex : List Addr} (k : ∀ b u, h.get? b = some u → h'.get? b = some u) (e : h.get? a = none) (hn : H a = none) : Un fs ex H (upd H a o) h h' where
  keep := fun b u q _ _ _ => k b u q
  slot := fun b u q _ _ _ => ⟨u.slots, k b u q⟩
  free := fun b u q n _ => by rw [upd_ne fun z => by rw [z, e] at q; cases q]; exact n
  there := fun b u q _ => ⟨u, k b u q⟩
  tups := fun b xs q => by rw [upd_ne (ne_of_none q hn)]; exact q
  frzs := fun b u xs q => by rw [upd_ne (ne_of_none q hn)]; exact q
  tbls := fun b ps q => ⟨#[], by rw [upd_ne (ne_of_none q hn), q]; simp⟩
section
variable {X : Cx} {F : Addr → Prop} {c : List Addr} {H : Hp} {pins : List (Addr × Obj)} {σ : L2.St} {s : Shared}
end
end VE
namespace VE
open PySem PySem.Spec PyProof.Rows L2
variable [VEnv]
theorem paired_at {α β : Type} {R : α → β → Prop} : ∀ {l : List α} {m : List β}, Paired R l m → ∀ (i : Nat) (b : β), m[i]? = some b → ∃ a, l[i]? = some a ∧ R a b
  | _, _, .nil, i, b, h => by simp at h
  | _, _, .cons r t, 0, b, h => by simp at h; subst h; exact ⟨_, rfl, r⟩
  | _, _, .cons r t, i + 1, b, h => by
    obtain ⟨a, h1, h2⟩ := paired_at t i b (by simpa using h)
    exact ⟨a, by simpa using h1, h2⟩
def KSetO (w : World) (a : Addr) (S : Key → Bool) (n : Nat) : HO := .ext fun h => KSet w h a S n
section
variable {P : Program} {w : World} {A : Around} {E : Value → Shared → Prop} {s : Shared}
theorem code_set1 {arg : Value} {Z : Value → Shared → Prop}
    (h : Z (.ref s.heap.objs.size) { s with heap := s.heap.push { cls := .type "set", dict := none, data := .set #[] 0 (.fresh 0 0 (!w.params.followText "set-order")) } }) :
    codeAny (model P w) A (.call (.builtin "set.__new__") ⟨[.type "set", arg], []⟩) (wants Z E) s := by
  refine codeAny_of_tree ?_
  show wpAny _ A.in1 (do checkBuiltinCall "set.__new__" ⟨[.type "set", arg], []⟩; again (.builtin "set.__new__" ⟨[.type "set", arg], []⟩)) _ _ s
  refine wpAny_bind (wpAny_of_eq (F.newCall_set_1 _) (wpAny_pure ⟨plainId_quiet F.plain_set_new _, codeAny_builtin F.entry_set_new ?_⟩))
  rw [Around.under_plainId F.plain_set_new _]
  unfold Builtin.«set.__new__» Builtin.Frozenset.newClass
  have sb := sub_set_self
  obtain ⟨hp, g, d, tk, os⟩ := s
  dsimp only
  wp_walk
  refine wpAny_askSetting (wpAny_pure ?_)
  dsimp only
  simp only [newObj]
  refine wpAny_bind (wpAny_alloc (wpAny_pure ?_))
  exact wpAny_pure h
theorem kset_list {l : Addr} {its : Array Value} {ks : List Key} {Q : Value → Shared → Prop} (hh : A.handled = none) (hl : s.heap.IsList l its) (hk : Paired TupK.keyIs' ks its.toList) (hb : ks.length + 1 < scanBound)
    (fin : ∀ (h' : Heap) (tk m : Nat), m ≤ ks.length → KSet w h' s.heap.objs.size (fun j => ks.any fun z => decide (z = j)) m → (∀ b o, b < s.heap.objs.size → s.heap.get? b = some o → h'.get? b = some o) → Q (.ref s.heap.objs.size) { s with heap := h', toks := tk }) :
    wpAny (model P w) A (call (.type "set") [.ref l]) Q E s := by
  obtain ⟨c, tl, mro⟩ := PySem.F.called_set.mro
  have made := PySem.F.called_set.made
  have sub := PySem.F.called_set.sub
  refine wpAny_call (codeAny_of_tree ?_)
  show wpAny _ _ (callAny (.type "set") _) _ _ _
  refine wpAny_pure ⟨Code.quiet_builtin _ (by decide +kernel), codeAny_builtin PySem.F.entry_type_call ?_⟩
  rw [Around.under_plain (weight_type_call_type "set" [.ref l] []) rfl]
  have n1 := PySem.F.called_set.notType
  have n2 := PySem.F.called_set.canCreate
  have n3 := PySem.F.typeCall_set_1 (.ref l)
  repeat (any_goals (first | assumption | wp_step))
  refine codeAny_mono (code_set1 (E := E) (Z := fun obj s₁ => obj = .ref s.heap.objs.size ∧ s₁ = { s with heap := s.heap.push { cls := .type "set", dict := none, data := .set #[] 0 (.fresh 0 0 (!w.params.followText "set-order")) } }) ⟨rfl, rfl⟩) fun r s₁ hr => ?_
  cases r with
  | error e => exact hr
  | ok fl =>
    cases fl with
    | ret obj =>
      obtain ⟨rfl, rfl⟩ := hr
      have fr := kset_fresh (h := s.heap) w
      generalize hled : (!w.params.followText "set-order") = led at fr ⊢
      have gS : (s.heap.push { cls := .type "set", dict := none, data := .set #[] 0 (.fresh 0 0 led) }).get? s.heap.objs.size = some { cls := .type "set", dict := none, data := .set #[] 0 (.fresh 0 0 led) } := Heap.get?_push_size _ rfl
      have hT : Shared.TypeIs { s with heap := s.heap.push { cls := .type "set", dict := none, data := .set #[] 0 (.fresh 0 0 led) } } (.ref s.heap.objs.size) "set" := ⟨_, gS, rfl⟩
      have hli := PySem.F.called_set.init.lookup
      have hbi := PySem.F.called_set.init.bind (.ref s.heap.objs.size)
      repeat (any_goals (first | assumption | wp_step))
      refine codeAny_mono (codeAny_call_builtin (R := wants (fun r s₂ => r = .none ∧ ∃ h' tk m, s₂ = { s with heap := h', toks := tk } ∧ m ≤ ks.length ∧ KSet w h' s.heap.objs.size (fun j => ks.any fun z => decide (z = j)) m ∧
          (∀ b o, b < s.heap.objs.size → s.heap.get? b = some o → h'.get? b = some o)) E) PySem.F.called_set.init.plain PySem.F.entry_set_init (check_set_init_1 hT ?_)) fun r₂ s₂ hr₂ => ?_
      · obtain ⟨ol, gol, cl, nl, dl⟩ := hl
        obtain ⟨ocls, odict, odata, oslots⟩ := ol
        simp only at cl dl
        subst cl; subst dl
        have gol' : (s.heap.push { cls := .type "set", dict := none, data := .set #[] 0 (.fresh 0 0 led) }).get? l = some { cls := .type "list", dict := odict, data := .seq its nl, slots := oslots } := Heap.get?_push_of_some _ gol
        have f1 := PySem.F.sub_list_set
        have f2 := PySem.F.sub_list_frozenset
        have f3 : (Value.type "list" == Value.type "dict") = false := by decide
        have hl1 : (s.heap.push { cls := .type "set", dict := none, data := .set #[] 0 (.fresh 0 0 led) }).IsList l its := ⟨_, gol', rfl, nl, rfl⟩
        unfold Builtin.«set.__init__» noKeywords Builtin.Frozenset.updateFrom
        generalize hPI : pyIter = PI
        wp_walk
        subst hPI
        refine wpAny_pyIter_list hl1 ?_
        refine wpAny_bind (wpAny_runValue ?_)
        have ltl : l < s.heap.objs.size := Heap.lt_size gol
        have hh3 : A.in1.in1.in1.handled = none := by simp [hh]
        have ne1 : l ≠ (s.heap.push { cls := .type "set", dict := none, data := .set #[] 0 (.fresh 0 0 led) }).objs.size := by
          rw [Heap.size_push]; exact Nat.ne_of_lt (Nat.lt_succ_of_lt ltl)
        have nf : s.heap.objs.size ∉ [(s.heap.push { cls := .type "set", dict := none, data := .set #[] 0 (.fresh 0 0 led) }).objs.size, l] := by
          rw [Heap.size_push]; simp only [List.mem_cons, List.mem_singleton, List.not_mem_nil, or_false, not_or]
          exact ⟨Nat.ne_of_lt (Nat.lt_succ_self _), Nat.ne_of_gt ltl⟩
        have lk : ks.length = its.size := by rw [hk.length, Array.length_toList]
        have vl : ∀ (i : Nat) (v : Value), its[i]? = some v → ∃ k, ks[i]? = some k ∧ keyIs k v = true := fun i v hv => by
          rw [← Array.getElem?_toList] at hv
          exact paired_at hk i v hv
        refine kset_loop ((Walks.list hh3 _ l ne1 its).toS) s.heap.objs.size nf ks lk (by rw [← lk]; exact hb) vl (its.size - 0) 0 _ 0 (by omega) (Nat.zero_le _) (Nat.le_refl _)
          ⟨⟨_, Heap.get?_push_size _ rfl, rfl, rfl⟩, (hl1.push _)⟩ ?ha ?hr
        case ha =>
          refine (fr.at fun o e => Heap.get?_push_of_some _ e)
        case hr =>
          intro s' m' mv hm hS'
          obtain ⟨h', g', d', tk', os'⟩ := s'
          have eg : g' = s.gens := mv.gens
          have ed : d' = s.drawn := mv.drawn
          have eo : os' = s.os := mv.os
          subst eg; subst ed; subst eo
          show wpAny _ _ _ _ _ _
          refine wpAny_pure ?_
          show wpAny _ _ (PySem.ret Value.none) _ _ _
          refine wpAny_pure ⟨rfl, h', tk', m', rfl, by rw [lk]; exact hm, hS', fun b o hb e => ?_⟩
          have nb1 : b ≠ s.heap.objs.size := Nat.ne_of_lt hb
          have nb2 : b ≠ (s.heap.push { cls := .type "set", dict := none, data := .set #[] 0 (.fresh 0 0 led) }).objs.size := by
            rw [Heap.size_push]; exact Nat.ne_of_lt (Nat.lt_succ_of_lt hb)
          exact mv.heap b o (by simp only [List.mem_cons, List.mem_singleton, List.not_mem_nil, or_false, not_or]; exact ⟨nb1, nb2⟩) (Heap.get?_push_of_some _ (Heap.get?_push_of_some _ e))
      · cases r₂ with
        | error e => exact hr₂
        | ok fl₂ =>
          cases fl₂ with
          | ret r =>
            obtain ⟨rfl, h', tk, m, rfl, hm, hS', hk'⟩ := hr₂
            repeat (any_goals (first | assumption | wp_step))
            exact fin _ _ _ hm hS' hk'
          | _ => exact hr₂.elim
    | _ => exact hr.elim
end
end VE
namespace VE
open PySem PySem.Spec PyProof.Rows L2
variable [VEnv]
section
variable {X : Cx} {W : WX} {e a : Expr} {pos p p2 q : Pos} {fa : M D}
end
def insU (x : Key) : List Key → List Key
  | [] => [x]
  | y :: ys => if x = y then y :: ys else if ltK x y then x :: y :: ys else y :: insU x ys
def uK : List Key → List Key
  | [] => []
  | x :: xs => insU x (uK xs)
theorem insU_mem {x k : Key} : ∀ {ys : List Key}, k ∈ insU x ys ↔ k = x ∨ k ∈ ys
  | [] => by simp [insU]
  | y :: ys => by
    unfold insU
    split
    · rename_i e; subst e; simp
    · split
      · simp
      · simp only [List.mem_cons, insU_mem]
        constructor
        · rintro (h | h | h)
          · exact .inr (.inl h)
          · exact .inl h
          · exact .inr (.inr h)
        · rintro (h | h | h)
          · exact .inr (.inl h)
          · exact .inl h
          · exact .inr (.inr h)
theorem uK_mem {k : Key} : ∀ {xs : List Key}, k ∈ uK xs ↔ k ∈ xs
  | [] => by simp [uK]
  | x :: xs => by rw [uK, insU_mem, uK_mem, List.mem_cons]
@[reducible] def SrtK (l : List Key) : Prop := l.Pairwise fun x y => ltK x y = true
theorem insU_srt {x : Key} : ∀ {ys : List Key}, SrtK ys → SrtK (insU x ys)
  | [], _ => List.pairwise_singleton _ _
  | y :: ys, h => by
    have ⟨h1, h2⟩ := List.pairwise_cons.mp h
    unfold insU
    split
    · exact h
    · rename_i ne
      split
      · rename_i q
        refine List.pairwise_cons.mpr ⟨fun z hz => ?_, h⟩
        rcases List.mem_cons.mp hz with e | e
        · subst e; exact q
        · exact ltK_trans q (h1 z e)
      · rename_i q
        have q' : ltK y x = true := by
          cases e : ltK y x with
          | true => rfl
          | false => exact absurd (ltK_tot (by simpa using q) e) ne
        refine List.pairwise_cons.mpr ⟨fun z hz => ?_, insU_srt h2⟩
        rcases insU_mem.mp hz with e | e
        · subst e; exact q'
        · exact h1 z e
theorem uK_srt : ∀ {xs : List Key}, SrtK (uK xs)
  | [] => List.Pairwise.nil
  | x :: xs => insU_srt uK_srt
theorem srtK_uniq : ∀ {xs ys : List Key}, SrtK xs → SrtK ys → (∀ k, k ∈ xs ↔ k ∈ ys) → xs = ys
  | [], [], _, _, _ => rfl
  | [], y :: ys, _, _, h => by have := (h y).mpr List.mem_cons_self; cases this
  | x :: xs, [], _, _, h => by have := (h x).mp List.mem_cons_self; cases this
  | x :: xs, y :: ys, hx, hy, h => by
    have ⟨x1, x2⟩ := List.pairwise_cons.mp hx
    have ⟨y1, y2⟩ := List.pairwise_cons.mp hy
    have nx : x ∉ xs := fun z => by have := x1 x z; rw [ltK_irr] at this; cases this
    have ny : y ∉ ys := fun z => by have := y1 y z; rw [ltK_irr] at this; cases this
    have e : x = y := by
      rcases List.mem_cons.mp ((h x).mp List.mem_cons_self) with e | e
      · exact e
      · rcases List.mem_cons.mp ((h y).mpr List.mem_cons_self) with e' | e'
        · exact e'.symm
        · have a := ltK_asym (y1 x e)
          rw [x1 y e'] at a; cases a
    subst e
    rw [srtK_uniq x2 y2 fun k => ?_]
    have hk := h k
    simp only [List.mem_cons] at hk
    constructor
    · intro z
      rcases hk.mp (.inr z) with e | e
      · subst e; exact absurd z nx
      · exact e
    · intro z
      rcases hk.mpr (.inr z) with e | e
      · subst e; exact absurd z ny
      · exact e
section
variable {X : Cx}
theorem ksetO_ok {P : Program} {w : World} {H : Hp} {h : Heap} {a : Addr} {S : Key → Bool} {n : Nat} (R : KSet w h a S n) : ObjOk P w H h a (KSetO w a S n) := by
  have ⟨ob, _, _, _, g, _⟩ := R
  exact ⟨R, ⟨ob, g⟩, fun h1 h2 p k => KSet.at p k⟩
theorem vals_keys : ∀ {ks : List Key} {us : List Value}, Vals (ks.map kV) us → Paired TupK.keyIs' ks us
  | [], us, r => by rw [List.map_nil] at r; cases r; exact .nil
  | .inl i :: ks, us, r => by
    rw [List.map_cons] at r
    cases r with
    | cons h q => obtain ⟨t, rfl⟩ := h; exact .cons (keyIs_int i t) (vals_keys q)
  | .inr i :: ks, us, r => by
    rw [List.map_cons] at r
    cases r with
    | cons h q => obtain ⟨t, rfl⟩ := h; exact .cons (keyIs_str i t) (vals_keys q)
theorem keys_vals : ∀ {ks : List Key} {us : List Value}, Paired TupK.keyIs' ks us → Vals (ks.map kV) us
  | _, _, .nil => .nil
  | k :: ks, _, .cons h q => by
    refine .cons ?_ (keys_vals q)
    rcases keyIs_shape h with ⟨i, t, rfl, rfl⟩ | ⟨i, t, rfl, rfl⟩
    · exact ⟨t, rfl⟩
    · exact ⟨t, rfl⟩
def rSetOf (K : PySem.W.Frag) (w : World) : List V → Hp → VK → Prop := fun vs H Q => ∃ (a : Addr) (ks : List Key), vs = [V.ref a] ∧ SqL K H a (ks.map kV) ∧ ks.length + 1 < scanBound ∧
  ∀ p m, H p = none → m ≤ ks.length → Q (.ref p) (upd H p (KSetO w p (fun j => ks.any fun z => decide (z = j)) m))
theorem cr_setOf (hc : X.calm = true) : CallR X (.type "set") (rSetOf X.K X.w) := by
  intro pins s σ H vs us Q I r h
  obtain ⟨a, ks, rfl, hs, hb, q⟩ := h
  rw [Vals.ref1 r]
  obtain ⟨its, rv, hl, hz⟩ := I.list hs
  refine kset_list (I.ok.hd hc) hl.isList (by simpa using vals_keys rv) hb fun h' tk m hm R hk => ?_
  have hn : H s.heap.objs.size = none := I.hok.fresh (Nat.le_refl _)
  exact ⟨.ref _, _, I.laid (t' := tk) (fun b o e => hk b o (Heap.lt_size e) e) (Nat.le_refl _) (ksetO_ok R), rfl, q _ m hn hm⟩
def rSortedK (w : World) : List V → Hp → VK → Prop := fun vs H Q => ∃ (a : Addr) (ks : List Key) (m : Nat), vs = [V.ref a] ∧ H a = some (KSetO w a (fun j => ks.any fun z => decide (z = j)) m) ∧ ((∀ k ∈ ks, ∃ i, k = .inl i) ∨ ∀ k ∈ ks, ∃ x, k = .inr x) ∧
  ∀ p, H p = none → Q (.ref p) (upd H p (.lst ((uK ks).map kV)))
theorem allSc_of : ∀ {us : List Value} {ks : List Key}, Paired TupK.keyIs' ks us → ((∀ k ∈ ks, ∃ i, k = .inl i) → ∃ ns, IntsAre us ns) ∧ ((∀ k ∈ ks, ∃ i, k = .inr i) → ∃ ns, StrsAre us ns)
  | _, _, .nil => ⟨fun _ => ⟨[], .nil⟩, fun _ => ⟨[], .nil⟩⟩
  | _, _, .cons h t => by
    obtain ⟨q1, q2⟩ := allSc_of t
    refine ⟨fun z => ?_, fun z => ?_⟩
    · obtain ⟨i, rfl⟩ := z _ List.mem_cons_self
      obtain ⟨ns, hn⟩ := q1 fun k hk => z k (List.mem_cons_of_mem _ hk)
      obtain ⟨_, tk, e, rfl⟩ | ⟨_, _, e, _⟩ := keyIs_shape h
      · exact ⟨_, .cons _ tk hn⟩
      · cases e
    · obtain ⟨i, rfl⟩ := z _ List.mem_cons_self
      obtain ⟨ns, hn⟩ := q2 fun k hk => z k (List.mem_cons_of_mem _ hk)
      obtain ⟨_, _, e, _⟩ | ⟨_, tk, e, rfl⟩ := keyIs_shape h
      · cases e
      · exact ⟨_, .cons _ tk hn⟩
theorem paired_self {R : Key → Value → Prop} : ∀ (us : List Value), (∀ u ∈ us, R (kOf u) u) → Paired R (us.map kOf) us
  | [], _ => .nil
  | u :: us, h => .cons (h u List.mem_cons_self) (paired_self us fun v hv => h v (List.mem_cons_of_mem _ hv))
theorem cr_sortedK (hc : X.calm = true) : CallR X (.builtin "sorted") (rSortedK X.w) := by
  intro pins s σ H vs us Q I r h
  obtain ⟨a, ks, m, rfl, ha, hk, q⟩ := h
  rw [Vals.ref1 r]
  obtain ⟨ob, es, ep, tb, go, gx, gd, gm, nd, mm, bd, ft, sz, rs, ld⟩ : KSet X.w s.heap a _ m := (I.hok a _ ha).1
  have mm' : ∀ k, k ∈ ks ↔ k ∈ es.toList.map fun e => kOf e.2 := fun k => by
    rw [← mm k]; simp
  have kin : ∀ {out : List Value}, out.Perm (es.toList.map (·.2)) → Paired TupK.keyIs' (out.map kOf) out ∧ ∀ k ∈ out.map kOf, k ∈ ks := fun {out} p => by
    refine ⟨paired_self out fun u hu => ?_, fun k hk' => ?_⟩
    · obtain ⟨e, he, z⟩ := List.mem_map.mp (p.mem_iff.mp hu)
      obtain ⟨k, z1, _⟩ := gm e he
      rw [← z]
      show keyIs (kOf e.2) e.2 = true
      rw [kOf_is z1]; exact z1
    · obtain ⟨u, hu, rfl⟩ := List.mem_map.mp hk'
      obtain ⟨e, he, z⟩ := List.mem_map.mp (p.mem_iff.mp hu)
      exact (mm' _).mpr (List.mem_map.mpr ⟨e, he, by rw [← z]⟩)
  refine sorted_any (Pp := fun out => out.Perm (es.toList.map (·.2))) (ltv := fun v u => lexK [kOf v] [kOf u]) (swo_lexK fun v => [kOf v]) (fun Z hZ => ?_) (fun out p => ?_) (fun out s1 a p h2 k g => ?_) fun s' pa out out' cc k g e2 hp' hg p a1 a2 => ?_
  · exact collect_set (I.ok.hd hc) ⟨ob, go, gx.1, gd⟩ ft bd rs ld fun s' out k _ g o p => hZ s' out k g o p
  · rw [p.length_eq, List.length_map, Array.length_toList]
    exact fits_of_scanBound bd
  · obtain ⟨k1, k2⟩ := kin p
    obtain ⟨q1, q2⟩ := allSc_of k1
    refine sortable_sc ?_ h2
    rcases hk with hk | hk
    · exact .inl (q1 fun k hk' => hk k (k2 k hk'))
    · exact .inr (q2 fun k hk' => hk k (k2 k hk'))
  · have p' : out'.Perm (es.toList.map (·.2)) := a2.perm.trans p
    obtain ⟨k1, k2⟩ := kin p'
    have pk : (out'.map kOf).Perm (es.toList.map fun e => kOf e.2) := by
      have z := p'.map kOf
      rw [List.map_map] at z
      exact z
    have hsrt : SrtK (out'.map kOf) := by
      have nd' : (out'.map kOf).Nodup := pk.nodup_iff.mpr nd
      have le : (out'.map kOf).Pairwise fun x y => ltK y x = false := by
        rw [List.pairwise_map]
        exact a1.imp fun {x y} z => by have z2 : lexK [kOf y] [kOf x] = false := z; rw [lex1'] at z2; exact z2
      refine (List.pairwise_and_iff.mpr ⟨le, nd'⟩).imp fun {x y} z => ?_
      cases e : ltK x y with
      | true => rfl
      | false => exact absurd (ltK_tot e z.1) z.2
    have eu : out'.map kOf = uK ks := srtK_uniq hsrt uK_srt fun k => by rw [uK_mem, mm' k, pk.mem_iff]
    rw [eu] at k1
    have y1 := keys_vals k1
    have hlen : ((uK ks).map kV).length ≤ sizeLine := by
      rw [y1.length, p'.length_eq, List.length_map, Array.length_toList]
      exact fits_of_scanBound bd
    have hn : H pa = none := ok_none I.hok hp'
    have J : Inv X pins σ (upd H pa (.lst ((uK ks).map kV))) s' := I.call' (ch := []) e2 (un_laid k hp' hn) (ok_laid I.hok k hn ⟨hlen, _, cc, y1, hg⟩) (by rw [g]; exact I.bare) (fun _ z => nomatch z)
    exact ⟨.ref pa, _, J, rfl, q pa hn⟩
end
def key1 : D → Key
  | .int i => .inl i
  | .str x => .inr x
  | _ => .inl 0
def keyD : Key → D
  | .inl i => .int i
  | .inr x => .str x
def ssetD : D → Option D
  | .lst ds => if (ds.all isInt || ds.all isStr) && decide (ds.length < 4000) then some (.lst ((uK (ds.map key1)).map keyD)) else none
  | _ => none
section
variable {K : PySem.W.Frag} {mg : Str → Option Value} {F : Addr → Prop} {c : List Addr} {H : Hp}
theorem rps_keys : ∀ {vs : List V} {ds : List D}, Rps K mg F c H vs ds → (∀ d ∈ ds, isInt d = true ∨ isStr d = true) → vs = (ds.map key1).map kV
  | _, _, .nil, _ => rfl
  | _, _, .cons h t, hd => by
    rw [List.map_cons, List.map_cons, ← rps_keys t fun d hd' => hd d (List.mem_cons_of_mem _ hd')]
    have := hd _ List.mem_cons_self
    cases h <;> simp [isInt, isStr] at this <;> rfl
theorem keys_rps : ∀ (ks : List Key), Rps K mg F c H (ks.map kV) (ks.map keyD)
  | [] => .nil
  | .inl i :: ks => .cons (.int i) (keys_rps ks)
  | .inr i :: ks => .cons (.str i) (keys_rps ks)
end
section
variable {X : Cx} {W : WX} {e a : Expr} {pos p p2 q : Pos} {fa : M D}
theorem set_is {K : PySem.W.Frag} {mg : Str → Option Value} {F : Addr → Prop} {c : List Addr} {H : Hp} {ds : List D} {v : V} (h : Rp K mg F c H v (.lst ds)) (hk : ((ds.all isInt || ds.all isStr) && decide (ds.length < 4000)) = true) :
    ∃ a, v = .ref a ∧ SqL K H a ((ds.map key1).map kV) ∧ (ds.map key1).length + 1 < scanBound ∧ ((∀ k ∈ ds.map key1, ∃ i, k = .inl i) ∨ ∀ k ∈ ds.map key1, ∃ x, k = .inr x) := by
  simp only [Bool.and_eq_true, Bool.or_eq_true, List.all_eq_true, decide_eq_true_eq] at hk
  cases h with
  | lst f h r =>
    have e := rps_keys r fun d hd => hk.1.imp (fun z => z d hd) fun z => z d hd
    rw [e] at h
    refine ⟨_, rfl, SqL.of h, by rw [List.length_map]; unfold scanBound; omega, ?_⟩
    refine hk.1.imp (fun z k hk' => ?_) fun z k hk' => ?_
    · obtain ⟨d, hd, rfl⟩ := List.mem_map.mp hk'
      have := z d hd
      cases d <;> simp [isInt] at this
      exact ⟨_, rfl⟩
    · obtain ⟨d, hd, rfl⟩ := List.mem_map.mp hk'
      have := z d hd
      cases d <;> simp [isStr] at this
      exact ⟨_, rfl⟩
theorem vf_sset (hc : X.calm = true) (hm : X.mg "sorted" = none) (hm2 : X.mg "set" = none) (ha : VE X W e fa) (hgl : Gl X "sorted" := by rfl) (hgl2 : Gl X "set" := by rfl)
    (hs : starEach [e] X.env = (false, eval e X.env) :: starEach [] X.env := by rfl) (hs2 : starEach [.Call (.Name "set" p2) [e] [] q] X.env = (false, eval (.Call (.Name "set" p2) [e] [] q) X.env) :: starEach [] X.env := by rfl) :
    VF X W (.Call (.Name "sorted" p) [.Call (.Name "set" p2) [e] [] q] [] pos) (eBlt (b1 ssetD) (eCons fa eNil)) :=
  PEof (pe_callB (cr_sortedK hc) hgl hm PyProof.Rows.boot_sorted (pa_cons (pe_callTy (cr_setOf hc) hgl2 hm2 PyProof.Rows.boot_set (pa_cons ha pa_nil hs) (by decide) (by decide) hs) pa_nil hs2) (by decide) (by decide) hs2) fun σ H Q ⟨b, F, c, env, st, e1, e2, r, pp⟩ =>
  tE_at e1 e2 r (k := fun d env st => ret (ssetD d) env st) (by
    show Post b W F c σ H _ _
    have : ((fa env st).bind fun d env st => ret (ssetD d) env st) = eBlt (b1 ssetD) (eCons fa eNil) env st := by
      unfold eBlt eCons eNil b1
      cases fa env st <;> rfl
    rw [this]; exact pp) fun v d env1 st1 F1 c1 H1 s1 r1 rp1 p1 => by
    unfold ret ssetD at p1
    split at p1
    · rename_i d' ed
      split at ed
      · split at ed
        · rename_i ds hk
          cases ed
          obtain ⟨a, rfl, h1, h2, h3⟩ := set_is rp1 hk
          refine ⟨a, _, rfl, by rw [← e1]; exact h1, h2, fun pq m hpq hm => ?_⟩
          refine ⟨pq, _, m, rfl, upd_same, h3, fun pr hpr => ?_⟩
          obtain ⟨s2, r2⟩ := r1.newO hpq (KSetO X.w pq (fun j => (ds.map key1).any fun z => decide (z = j)) m)
          exact fresh_of r2 (Post.stp s2 p1) pr _ hpr fun F' s => ⟨_, upd_same, keys_rps _⟩
        · cases ed
      · cases ed
    · exact p1.elim
end
end VE
namespace VE
open PySem PySem.Spec PyProof.Rows L2
variable [VEnv]
/-- what is seen of a value: a list of the store as it stands now -/
def vw (st : Sto) : D → D
  | .ref n => match st[n]? with
    | some (.lst ds) => .lst ds
    | _ => .ref n
  | d => d
def LV (K : PySem.W.Frag) (mg : Str → Option Value) (F : Addr → Prop) (c : List Addr) (H : Hp) (v : V) : D → Prop
  | .lst ds => ∃ a vs, v = .ref a ∧ H a = some (.lst vs) ∧ Rps K mg F c H vs ds
  | d => Rp K mg F c H v d
section
variable {K : PySem.W.Frag} {mg : Str → Option Value} {F : Addr → Prop} {c : List Addr} {H : Hp} {v : V} {d : D} {b : Bs} {env : EnvD} {st : Sto} {σ : L2.St}
theorem Rp.lv (h : Rp K mg F c H v d) : LV K mg F c H v d := by
  cases d with
  | lst ds => cases h with
    | lst f e r => exact ⟨_, _, rfl, e, r⟩
  | _ => exact h
theorem Rel.lv (r : Rel b F c env st σ H) (h : Rp b.K b.mg F c H v d) : LV b.K b.mg F c H v (vw st d) := by
  unfold vw
  split
  · rename_i n
    split
    · rename_i ds es
      obtain ⟨a, rfl, _, vs, e, q⟩ := r.cell h es
      exact ⟨a, vs, rfl, e, q⟩
    · exact h.lv
  · exact h.lv
theorem LV.dp (h : LV K mg F c H v d) (p : plain 20 d = true) : Dp K H v (toPy d) := by
  cases d with
  | lst ds =>
    obtain ⟨a, vs, rfl, e, q⟩ := h
    simp only [toPy]
    exact .lst (SqL.of e) (Rps.dp 19 q (by simpa [plain] using p))
  | _ => exact Rp.dp 20 h p
end
section
variable {X : Cx} {W : WX} {e a d : Expr} {es : List Expr} {pos p : Pos} {fa fb fc : M D} {fs : M (List D)} {x : Str} {k : Nat}
def sv2 (g : D → D → Option D) : D → D → M D := fun x y env st => ret (g (vw st x) (vw st y)) env st
theorem opOk_sv {r : R2} {g : D → D → Option D} (h : ∀ (F : Addr → Prop) (c : List Addr) (H : Hp) (x y : V) (dx dy d : D) (Q : VK), LV X.K X.mg F c H x dx → LV X.K X.mg F c H y dy → g dx dy = some d → (∀ v, Rp X.K X.mg F c H v d → Q v H) →
    (∀ p o, H p = none → (∀ ps, o ≠ .tbl ps) → (∀ F' : Addr → Prop, Stp F c H F' c (upd H p o) → Rp X.K X.mg (FAdd F' p) c (upd H p o) (.ref p) d) → Q (.ref p) (upd H p o)) → r x y H Q) : OpOk X W r (sv2 g) := by
  intro b F c env st σ H x y dx dy Q e1 e2 r0 hx hy p
  unfold sv2 ret at p
  split at p
  · rename_i d e
    have h1 := r0.lv hx
    have h2 := r0.lv hy
    rw [e1, e2] at h1 h2
    refine h F c H x y _ _ d Q h1 h2 e (fun v hv => Post.here r0 p v (by rw [e1, e2]; exact hv)) fun q o hq hot ho => ?_
    obtain ⟨s2, r2⟩ := r0.newO hq o
    obtain ⟨s3, r3⟩ := r2.frz (r0.nC hq) (r0.H0none hq) (fun i h => r0.nO hq i h) ⟨o, upd_same⟩ (fun ps z => hot ps (by rw [upd_same] at z; exact Option.some.inj z))
    exact p _ _ _ (s2.trans s3) r3 _ (by rw [e1, e2]; exact ho F s2)
  · exact p.elim
def addA : D → D → Option D
  | .int i, .int j => some (.int (i + j))
  | .str i, .str j => if i.length + j.length ≤ sizeLine then some (.str (i ++ j)) else none
  | .tup xs, .tup ys => if xs.length + ys.length ≤ 16777216 then some (.tup (xs ++ ys)) else none
  | .lst xs, .lst ys => if xs.length + ys.length ≤ 16777216 then some (.lst (xs ++ ys)) else none
  | _, _ => none
@[reducible] def rAddA (K : PySem.W.Frag) : R2 := fun x y H Q => ((∃ i j, x = .int i ∧ y = .int j ∧ Q (.int (i + j)) H) ∨ (∃ i j, x = .str i ∧ y = .str j ∧ i.length + j.length ≤ sizeLine ∧ Q (.str (i ++ j)) H)) ∨ (rCatA K x y H Q ∨ rCat x y H Q)
theorem op_addA : OpR X (binaryOp .Add) (rAddA X.K) := OpR.or op_addR (OpR.or op_catA op_cat)
theorem ok_addA : OpOk X W (rAddA X.K) (sv2 addA) := opOk_sv fun F c H x y dx dy d Q hx hy e q qn => by
  unfold addA at e
  split at e
  · cases hx; cases hy; cases e; exact .inl (.inl ⟨_, _, rfl, rfl, q _ (.int _)⟩)
  · split at e
    · cases hx; cases hy; cases e; exact .inl (.inr ⟨_, _, rfl, rfl, by assumption, q _ (.str _)⟩)
    · cases e
  · split at e
    · rename_i hl
      cases e
      cases hx with
      | tup hx hrx => cases hy with
        | tup hy hry =>
          rename_i a vs b2 ws
          refine .inr (.inl ⟨_, _, vs, ws, rfl, rfl, hx.sq, hy.sq, by rw [hrx.length, hry.length, sizeLine_eq]; exact hl, fun z => ?_, fun _ z => ?_, fun _ _ p hp => ?_⟩)
          · subst z; cases hrx
            exact q _ (.tup hy (by simpa using hry))
          · subst z; cases hry
            exact q _ (.tup hx (by simpa using hrx))
          · exact qn p _ hp (fun _ z => by cases z) fun F' s => .tup (.inl ⟨.inr rfl, upd_same⟩) (((hrx.append hry).stp s).stp ⟨fun _ h => .inl h, fun _ _ _ h => h, ⟨[], (List.append_nil c).symm⟩, fun _ _ h => h, fun _ _ _ h => h⟩)
    · cases e
  · split at e
    · rename_i hl
      cases e
      obtain ⟨a, vs, rfl, h, r⟩ := hx
      obtain ⟨a', vs', rfl, h', r'⟩ := hy
      refine .inr (.inr ⟨_, _, _, _, rfl, rfl, h, h', by rw [r.length, r'.length, sizeLine_eq]; exact hl, fun p hp => ?_⟩)
      exact qn p _ hp (fun _ z => by cases z) fun F' s => .lst (.inr rfl) upd_same (((r.append r').stp s).stp ⟨fun _ h => .inl h, fun _ _ _ h => h, ⟨[], (List.append_nil c).symm⟩, fun _ _ h => h, fun _ _ _ h => h⟩)
    · cases e
  · cases e
theorem ve_addA (ha : VE X W e fa) (hb : VE X W a fb) : VE X W (.BinOp e .Add a pos) (eBin (sv2 addA) fa fb) := ve_op op_addA ok_addA ha hb
theorem ok_eqV : OpOk X W (rEqD X.K) (sv2 eqP) := opOk_sv fun F c H x y dx dy d Q hx hy e q _ => by
  unfold eqP at e
  split at e
  · rename_i h
    rw [Bool.and_eq_true] at h
    cases e
    exact ⟨_, _, hx.dp h.1, hy.dp h.2, shaped_of (by decide) h.1, shaped_of (by decide) h.2, q _ (.bl _)⟩
  · cases e
theorem ok_neV : OpOk X W (rNeD X.K) (sv2 neP) := opOk_sv fun F c H x y dx dy d Q hx hy e q _ => by
  unfold neP at e
  split at e
  · rename_i h
    rw [Bool.and_eq_true] at h
    cases e
    exact ⟨_, _, hx.dp h.1, hy.dp h.2, shaped_of (by decide) h.1, shaped_of (by decide) h.2, q _ (.bl _)⟩
  · cases e
theorem ve_eqV (hr : Room k X.A) (ha : VE X W e fa) (hb : VE X W a fb) : VE X W (.Compare e [.Eq] [a] pos) (eBin (sv2 eqP) fa fb) := ve_cmp (op_eqD (huOf hr)) ok_eqV ha hb (nomark _)
theorem ve_neV (hr : Room k X.A) (ha : VE X W e fa) (hb : VE X W a fb) : VE X W (.Compare e [.NotEq] [a] pos) (eBin (sv2 neP) fa fb) := ve_cmp (op_neD (huOf hr)) ok_neV ha hb (nomark _)
theorem vt_eqV (hr : Room k X.A) (ha : VE X W e fa) (hb : VE X W a fb) : VT X W (.Compare e [.Eq] [a] pos) (eT (eBin (sv2 eqP) fa fb)) := vt_cmp (op_eqD (huOf hr)) ok_eqV ha hb (nomark _)
theorem vt_neV (hr : Room k X.A) (ha : VE X W e fa) (hb : VE X W a fb) : VT X W (.Compare e [.NotEq] [a] pos) (eT (eBin (sv2 neP) fa fb)) := vt_cmp (op_neD (huOf hr)) ok_neV ha hb (nomark _)
def ng (neg t : Bool) : Bool := if neg then !t else t
/-- plain data within plain data, a text within a text -/
def inV (neg : Bool) : D → D → Option D
  | .str i, .str j => some (.bl (ng neg (inText i j)))
  | x, .lst ys => if plain 20 x && plain 20 (.lst ys) then some (.bl (ng neg (ys.any fun z => eqD z x))) else none
  | x, .tup ys => if plain 20 x && plain 20 (.tup ys) then some (.bl (ng neg (ys.any fun z => eqD z x))) else none
  | _, _ => none
def hasD (ky : Key) : List (Key × D) → Bool
  | [] => false
  | (j, _) :: r => decide (j = ky) || hasD ky r
def inA (neg : Bool) : D → D → M D := fun x y env st => match y with
  | .ref n => (match st[n]? with
    | some (.dct kvs) => (match x with
      | .int i => .ok (.bl (ng neg (hasD (.inl i) kvs))) env st
      | .str i => .ok (.bl (ng neg (hasD (.inr i) kvs))) env st
      | _ => .bad)
    | _ => sv2 (inV neg) x y env st)
  | y => sv2 (inV neg) x y env st
theorem valV_has {ky : Key} : ∀ {vk : List (Key × V)} {kvs : List (Key × D)}, vk.map (·.1) = kvs.map (·.1) → (valV vk ky).isSome = hasD ky kvs
  | [], [], _ => rfl
  | (j, v) :: vk, (j', d) :: kvs, h => by
    simp only [List.map_cons, List.cons.injEq] at h
    obtain ⟨rfl, h⟩ := h
    unfold hasD
    by_cases e : j = ky
    · rw [valV_pos (p := (j, v)) e, decide_eq_true e]; rfl
    · rw [valV_neg (p := (j, v)) e, decide_eq_false e, valV_has h]; rfl
  | [], _ :: _, h => by simp at h
  | _ :: _, [], h => by simp at h

theorem op_inDt (hu : X.A.units + 1 < cLine) : OpR X (compareOp .In) (fun y x H Q => ∃ a o, x = .ref a ∧ DGet H a y o ∧ Q (.bl o.isSome) H) := by
  intro pins s σ H y x u v Q I ry rx ⟨a, o, ex, g, q⟩
  subst ex
  obtain rfl : v = Value.ref a := rx
  exact d_in hu I g ry fun s' I' => ⟨.bl o.isSome, H, I', rfl, q⟩
theorem op_notinDt (hu : X.A.units + 1 < cLine) : OpR X (compareOp .NotIn) (fun y x H Q => ∃ a o, x = .ref a ∧ DGet H a y o ∧ Q (.bl (!o.isSome)) H) := by
  intro pins s σ H y x u v Q I ry rx ⟨a, o, ex, g, q⟩
  subst ex
  obtain rfl : v = Value.ref a := rx
  exact d_notIn hu I g ry fun s' I' => ⟨.bl (!o.isSome), H, I', rfl, q⟩
@[reducible] def rInA (K : PySem.W.Frag) : R2 := fun x y H Q => ((∃ i j, x = .str i ∧ y = .str j ∧ Q (.bl (!(Builtin.Str.occurrences j i 0 j.length 1).isEmpty)) H) ∨ rInD K x y H Q) ∨ (rInTD K x y H Q ∨ ∃ a o, y = .ref a ∧ DGet H a x o ∧ Q (.bl o.isSome) H)
@[reducible] def rNotInA (K : PySem.W.Frag) : R2 := fun x y H Q => ((∃ i j, x = .str i ∧ y = .str j ∧ Q (.bl (!(!(Builtin.Str.occurrences j i 0 j.length 1).isEmpty))) H) ∨ rNotInD K x y H Q) ∨ (rNotInTD K x y H Q ∨ ∃ a o, y = .ref a ∧ DGet H a x o ∧ Q (.bl (!o.isSome)) H)
theorem Rel.dget {b : Bs} {F : Addr → Prop} {c : List Addr} {env : EnvD} {st : Sto} {σ : L2.St} {H : Hp} (r : Rel b F c env st σ H) {v : V} {n : Nat} {kvs : List (Key × D)} (h : Rp b.K b.mg F c H v (.ref n)) (e : st[n]? = some (.dct kvs)) (k : Key) :
    ∃ a vk, v = .ref a ∧ c[n]? = some a ∧ H a = some (.dK vk) ∧ vk.map (·.1) = kvs.map (·.1) ∧ Rps b.K b.mg F c H (vk.map (·.2)) (kvs.map (·.2)) := by
  obtain ⟨a, rfl, hc, vk, h1, h2, h3⟩ := r.cell h e
  exact ⟨a, vk, rfl, hc, h1, h2, h3⟩
theorem ok_inA : OpOk X W (rInA X.K) (inA false) := fun b F c env st σ H x y dx dy Q e1 e2 r hx hy p => by
  have gen : Post b W F c σ H (fun d _ _ F' c' H' => ∀ v, Rp b.K b.mg F' c' H' v d → Q v H') (sv2 (inV false) dx dy env st) → rInA X.K x y H Q := fun p => by
    unfold sv2 ret at p
    split at p
    · rename_i d e
      have h1 := r.lv hx
      have h2 := r.lv hy
      unfold inV ng at e
      split at e
      · rename_i i j ei ej
        rw [ei] at h1; rw [ej] at h2
        cases h1; cases h2; cases e
        exact .inl (.inl ⟨_, _, rfl, rfl, Post.here r p _ (.bl _)⟩)
      · rename_i x2 ys nx ex ey
        split at e
        · rename_i h
          rw [Bool.and_eq_true] at h
          cases e
          rw [ey] at h2
          have k2 := LV.dp h2 h.2
          have k3 := shaped_of (by decide) h.2
          simp only [toPy] at k2 k3
          rw [e1] at h1 k2
          exact .inl (.inr ⟨_, _, h1.dp h.1, k2, shaped_of (by decide) h.1, k3, Post.here r p _ (by rw [any_toPys]; exact .bl _)⟩)
        · cases e
      · rename_i x2 ys nx ex ey
        split at e
        · rename_i h
          rw [Bool.and_eq_true] at h
          cases e
          rw [ey] at h2
          have k2 := LV.dp h2 h.2
          have k3 := shaped_of (by decide) h.2
          simp only [toPy] at k2 k3
          rw [e1] at h1 k2
          exact .inr (.inl ⟨_, _, h1.dp h.1, k2, shaped_of (by decide) h.1, k3, Post.here r p _ (by rw [any_toPys]; exact .bl _)⟩)
        · cases e
      · cases e
    · exact p.elim
  unfold inA at p
  split at p
  · rename_i n
    split at p
    · rename_i kvs es
      split at p
      · cases hx
        obtain ⟨a, vk, rfl, hc, h1, h2, h3⟩ := r.dget hy es (.inl 0)
        exact .inr (.inr ⟨a, _, rfl, DGet.k (k := .inl _) h1, by rw [valV_has h2]; exact Post.here r p _ (.bl _)⟩)
      · cases hx
        obtain ⟨a, vk, rfl, hc, h1, h2, h3⟩ := r.dget hy es (.inl 0)
        exact .inr (.inr ⟨a, _, rfl, DGet.k (k := .inr _) h1, by rw [valV_has h2]; exact Post.here r p _ (.bl _)⟩)
      · exact p.elim
    · exact gen p
  · exact gen p
theorem ok_notinA : OpOk X W (rNotInA X.K) (inA true) := fun b F c env st σ H x y dx dy Q e1 e2 r hx hy p => by
  have gen : Post b W F c σ H (fun d _ _ F' c' H' => ∀ v, Rp b.K b.mg F' c' H' v d → Q v H') (sv2 (inV true) dx dy env st) → rNotInA X.K x y H Q := fun p => by
    unfold sv2 ret at p
    split at p
    · rename_i d e
      have h1 := r.lv hx
      have h2 := r.lv hy
      unfold inV ng at e
      split at e
      · rename_i i j ei ej
        rw [ei] at h1; rw [ej] at h2
        cases h1; cases h2; cases e
        exact .inl (.inl ⟨_, _, rfl, rfl, Post.here r p _ (.bl _)⟩)
      · rename_i x2 ys nx ex ey
        split at e
        · rename_i h
          rw [Bool.and_eq_true] at h
          cases e
          rw [ey] at h2
          have k2 := LV.dp h2 h.2
          have k3 := shaped_of (by decide) h.2
          simp only [toPy] at k2 k3
          rw [e1] at h1 k2
          exact .inl (.inr ⟨_, _, h1.dp h.1, k2, shaped_of (by decide) h.1, k3, Post.here r p _ (by rw [any_toPys]; exact .bl _)⟩)
        · cases e
      · rename_i x2 ys nx ex ey
        split at e
        · rename_i h
          rw [Bool.and_eq_true] at h
          cases e
          rw [ey] at h2
          have k2 := LV.dp h2 h.2
          have k3 := shaped_of (by decide) h.2
          simp only [toPy] at k2 k3
          rw [e1] at h1 k2
          exact .inr (.inl ⟨_, _, h1.dp h.1, k2, shaped_of (by decide) h.1, k3, Post.here r p _ (by rw [any_toPys]; exact .bl _)⟩)
        · cases e
      · cases e
    · exact p.elim
  unfold inA at p
  split at p
  · rename_i n
    split at p
    · rename_i kvs es
      split at p
      · cases hx
        obtain ⟨a, vk, rfl, hc, h1, h2, h3⟩ := r.dget hy es (.inl 0)
        exact .inr (.inr ⟨a, _, rfl, DGet.k (k := .inl _) h1, by rw [valV_has h2]; exact Post.here r p _ (.bl _)⟩)
      · cases hx
        obtain ⟨a, vk, rfl, hc, h1, h2, h3⟩ := r.dget hy es (.inl 0)
        exact .inr (.inr ⟨a, _, rfl, DGet.k (k := .inr _) h1, by rw [valV_has h2]; exact Post.here r p _ (.bl _)⟩)
      · exact p.elim
    · exact gen p
  · exact gen p
theorem op_inAll (hu : X.A.units + 65 < cLine) : OpR X (compareOp .In) (rInA X.K) := OpR.or (op_inR hu) (OpR.or (op_inTD hu) (op_inDt (by omega)))
theorem op_notinAll (hu : X.A.units + 65 < cLine) : OpR X (compareOp .NotIn) (rNotInA X.K) := OpR.or (op_notinR hu) (OpR.or (op_notInTD hu) (op_notinDt (by omega)))
theorem ve_inA (hr : Room k X.A) (ha : VE X W e fa) (hb : VE X W a fb) (hm : behindInMarks .In a = false := by rfl) : VE X W (.Compare e [.In] [a] pos) (eBin (inA false) fa fb) := ve_cmp (op_inAll (huOf1 hr)) ok_inA ha hb hm
theorem vt_notinA (hr : Room k X.A) (ha : VE X W e fa) (hb : VE X W a fb) (hm : behindInMarks .NotIn a = false := by rfl) : VT X W (.Compare e [.NotIn] [a] pos) (eT (eBin (inA true) fa fb)) := vt_cmp (op_notinAll (huOf1 hr)) ok_notinA ha hb hm
def ordA (p : Int → Int → Bool) (q : Str → Str → Bool) : D → D → Option D
  | .int i, .int j => some (.bl (p i j))
  | .str x, .str y => some (.bl (q x y))
  | _, _ => none
@[reducible] def gLtA : D → D → M D := sc2 (ordA (fun i j => decide (i < j)) fun x y => ltS x y)
@[reducible] def gLeA : D → D → M D := sc2 (ordA (fun i j => decide (i ≤ j)) fun x y => !ltS y x)
@[reducible] def gGtA : D → D → M D := sc2 (ordA (fun i j => decide (j < i)) fun x y => ltS y x)
@[reducible] def gGeA : D → D → M D := sc2 (ordA (fun i j => decide (j ≤ i)) fun x y => !ltS x y)
@[reducible] def rOrd (p : Int → Int → Bool) (q : Str → Str → Bool) : R2 := fun x y H Q => rI0 (fun i j => .bl (p i j)) x y H Q ∨ ∃ i j, x = .str i ∧ y = .str j ∧ Q (.bl (q i j)) H
theorem ok_ord (p : Int → Int → Bool) (q : Str → Str → Bool) : OpOk X W (rOrd p q) (sc2 (ordA p q)) := opOk_sc fun F c H x y dx dy d Q hx hy e qq => by
  unfold ordA at e
  split at e
  · cases hx; cases hy; cases e; exact .inl ⟨_, _, rfl, rfl, qq _ (.bl _)⟩
  · cases hx; cases hy; cases e; exact .inr ⟨_, _, rfl, rfl, qq _ (.bl _)⟩
  · cases e
theorem op_ltAll : OpR X (compareOp .Lt) (rOrd (fun i j => decide (i < j)) fun x y => ltS x y) := OpR.or op_lt op_lt_str
theorem op_leAll : OpR X (compareOp .LtE) (rOrd (fun i j => decide (i ≤ j)) fun x y => !ltS y x) := OpR.or op_le op_le_str
theorem op_gtAll : OpR X (compareOp .Gt) (rOrd (fun i j => decide (j < i)) fun x y => ltS y x) := OpR.or op_gt op_gt_str
theorem op_geAll : OpR X (compareOp .GtE) (rOrd (fun i j => decide (j ≤ i)) fun x y => !ltS x y) := OpR.or op_ge op_ge_str
theorem ve_oLt (ha : VE X W e fa) (hb : VE X W a fb) : VE X W (.Compare e [.Lt] [a] pos) (eBin gLtA fa fb) := ve_cmp op_ltAll (ok_ord _ _) ha hb (nomark _)
theorem vt_oLt (ha : VE X W e fa) (hb : VE X W a fb) : VT X W (.Compare e [.Lt] [a] pos) (eT (eBin gLtA fa fb)) := vt_cmp op_ltAll (ok_ord _ _) ha hb (nomark _)
theorem vt_oLe (ha : VE X W e fa) (hb : VE X W a fb) : VT X W (.Compare e [.LtE] [a] pos) (eT (eBin gLeA fa fb)) := vt_cmp op_leAll (ok_ord _ _) ha hb (nomark _)
theorem vt_oGt (ha : VE X W e fa) (hb : VE X W a fb) : VT X W (.Compare e [.Gt] [a] pos) (eT (eBin gGtA fa fb)) := vt_cmp op_gtAll (ok_ord _ _) ha hb (nomark _)
theorem vt_oGe (ha : VE X W e fa) (hb : VE X W a fb) : VT X W (.Compare e [.GtE] [a] pos) (eT (eBin gGeA fa fb)) := vt_cmp op_geAll (ok_ord _ _) ha hb (nomark _)
theorem PI.or {tg l : Expr} {w1 w2 : TI} (h : PI X tg l w1) (h2 : PI X tg l w2) : PI X tg l (fun σ H R => w1 σ H R ∨ w2 σ H R) := ⟨fun pins s σ H R I q => q.elim (h.run pins s σ H R I) (h2.run pins s σ H R I)⟩
def walkD (st : Sto) : D → Option (List D)
  | .lst xs => some xs
  | .tup xs => some xs
  | .scr xs => some (xs.map .int)
  | .str x => some (signsD x)
  | _ => none
def iQ (fa : M D) : M (List D) := fun env st => (fa env st).bind fun d env st => match walkD st d with
  | some xs => .ok xs env st
  | none => .bad
theorem walks_scr {b : Bs} {F : Addr → Prop} {c : List Addr} {H : Hp} {a : Addr} {ns : List Int} (hx : FqL b.K F H a (ns.map V.int)) : Walks b (Itl b.K a) (ns.map .int) F c H := by
  intro F' c' H' s i
  have h' := (hx.stp s).sq
  refine ⟨fun d hd => ?_, fun hi => ⟨_, h', by simpa using hi⟩⟩
  rw [List.getElem?_map] at hd
  cases hn : ns[i]? with
  | none => rw [hn] at hd; cases hd
  | some n =>
    rw [hn] at hd; cases hd
    have hv : (ns.map V.int)[i]? = some (.int n) := by rw [List.getElem?_map, hn]; rfl
    refine ⟨⟨_, _, h', hv⟩, fun x H2 y => ?_⟩
    obtain ⟨rfl, y⟩ := y
    have e := y _ h'
    rw [hv] at e; cases e
    exact .inl ⟨rfl, .int _⟩
theorem vi_q {tg iter : Expr} (h : VE X W iter fa) : VI X W tg iter (iQ fa) := ⟨_, PI.or (pi_list h) (PI.or (pi_tup h) (pi_str h)), fun σ H R ⟨b, F, c, env, st, e1, e2, r, p⟩ => by
  have key : ∀ {w : TI}, (∀ v d env1 st1 F1 c1 H1, Rel b F1 c1 env1 st1 σ H1 → Rp b.K b.mg F1 c1 H1 v d → True) → True := fun _ => trivial
  unfold iQ at p
  cases hf : fa env st with
  | bad => rw [hf] at p; exact p.elim
  | ex x env1 st1 =>
    rw [hf] at p
    exact .inl ⟨b, F, c, env, st, e1, e2, r, by rw [hf]; exact p⟩
  | ok d env1 st1 =>
    rw [hf] at p
    simp only [VE.R.bind_ok] at p
    cases d with
    | lst xs => exact .inl ⟨b, F, c, env, st, e1, e2, r, by
        rw [hf]
        intro F1 c1 H1 s1 r1 v rp
        cases rp with
        | lst f hx hr => exact ⟨_, rfl, ⟨_, SqL.of hx⟩, p F1 c1 H1 s1 r1 _ (e1 ▸ walks_list f hx hr)⟩⟩
    | scr xs => exact .inl ⟨b, F, c, env, st, e1, e2, r, by
        rw [hf]
        intro F1 c1 H1 s1 r1 v rp
        cases rp with
        | scr hx => exact ⟨_, rfl, ⟨_, e1 ▸ hx.sq⟩, p F1 c1 H1 s1 r1 _ (e1 ▸ walks_scr hx)⟩⟩
    | tup xs => exact .inr (.inl ⟨b, F, c, env, st, e1, e2, r, by
        rw [hf]
        intro F1 c1 H1 s1 r1 v rp
        cases rp with
        | tup hx hr => exact ⟨_, rfl, ⟨_, e1 ▸ hx.sq⟩, p F1 c1 H1 s1 r1 _ (e1 ▸ walks_tup hx hr)⟩⟩)
    | str x => exact .inr (.inr ⟨b, F, c, env, st, e1, e2, r, by
        rw [hf]
        intro F1 c1 H1 s1 r1 v rp
        cases rp with
        | str x => exact ⟨_, rfl, p F1 c1 H1 s1 r1 _ walks_str⟩⟩)
    | _ => exact p.elim⟩
end
end VE
namespace VE
open PySem PySem.Spec PyProof.Rows L2
variable [VEnv]
section
variable {K : PySem.W.Frag} {mg : Str → Option Value} {F : Addr → Prop} {c : List Addr} {H : Hp} {st : Sto}
end
section
variable {X : Cx} {W : WX} {e a : Expr} {pos : Pos} {fa fb : M D} {k : Nat}
end
end VE
namespace VE
open PySem PySem.Spec PyProof.Rows L2
variable [VEnv]
def lkK (k : Key) : List (Key × D) → Option D
  | [] => none
  | (j, d) :: r => if j = k then some d else lkK k r
def chK (k : Key) (y : D) : List (Key × D) → List (Key × D)
  | [] => []
  | (j, d) :: r => (if j = k then (j, y) else (j, d)) :: chK k y r
/-- d[k] = y -/
def ptK (kvs : List (Key × D)) (k : Key) (y : D) : List (Key × D) := if hasD k kvs then chK k y kvs else kvs ++ [(k, y)]
def dKey : D → Option Key
  | .int i => some (.inl i)
  | .str x => some (.inr x)
  | _ => none
section
variable {K : PySem.W.Frag} {mg : Str → Option Value} {F : Addr → Prop} {c : List Addr} {H : Hp} {k : Key}
theorem valV_lk : ∀ {vk : List (Key × V)} {kvs : List (Key × D)}, vk.map (·.1) = kvs.map (·.1) → Rps K mg F c H (vk.map (·.2)) (kvs.map (·.2)) → (∀ d, lkK k kvs = some d → ∃ v, valV vk k = some v ∧ Rp K mg F c H v d) ∧ (lkK k kvs = none → valV vk k = none)
  | [], [], _, _ => ⟨(fun d h => by simp [lkK] at h), fun _ => rfl⟩
  | (j, v) :: vk, (j', d) :: kvs, h, r => by
    simp only [List.map_cons, List.cons.injEq] at h
    obtain ⟨rfl, h⟩ := h
    cases r with
    | cons r1 r2 =>
      obtain ⟨k1, k2⟩ := valV_lk h r2
      unfold lkK
      by_cases e : j = k
      · rw [if_pos e, valV_pos (p := (j, v)) e]
        exact ⟨fun d' z => by cases z; exact ⟨v, rfl, r1⟩, fun z => by cases z⟩
      · rw [if_neg e, valV_neg (p := (j, v)) e]
        exact ⟨k1, k2⟩
  | [], _ :: _, h, _ => by simp at h
  | _ :: _, [], h, _ => by simp at h
theorem any_has : ∀ {vk : List (Key × V)} {kvs : List (Key × D)}, vk.map (·.1) = kvs.map (·.1) → (vk.any fun kv => decide (kv.1 = k)) = hasD k kvs := fun {vk kvs} h => by rw [valV_any, valV_has h]
theorem map_ch (y : V) (d : D) : ∀ {vk : List (Key × V)} {kvs : List (Key × D)}, vk.map (·.1) = kvs.map (·.1) → (vk.map fun kv => if kv.1 = k then (kv.1, y) else kv).map (·.1) = (chK k d kvs).map (·.1)
  | [], [], _ => rfl
  | (j, v) :: vk, (j', d') :: kvs, h => by
    simp only [List.map_cons, List.cons.injEq] at h
    obtain ⟨rfl, h⟩ := h
    have := map_ch y d h
    simp only [chK, List.map_cons]
    rw [this]
    by_cases e : j = k
    · rw [if_pos e, if_pos e]
    · rw [if_neg e, if_neg e]
  | [], _ :: _, h => by simp at h
  | _ :: _, [], h => by simp at h
theorem map_ch2 {y : V} {d : D} (hy : Rp K mg F c H y d) : ∀ {vk : List (Key × V)} {kvs : List (Key × D)}, vk.map (·.1) = kvs.map (·.1) → Rps K mg F c H (vk.map (·.2)) (kvs.map (·.2)) → Rps K mg F c H ((vk.map fun kv => if kv.1 = k then (kv.1, y) else kv).map (·.2)) ((chK k d kvs).map (·.2))
  | [], [], _, _ => .nil
  | (j, v) :: vk, (j', d') :: kvs, h, r => by
    simp only [List.map_cons, List.cons.injEq] at h
    obtain ⟨rfl, h⟩ := h
    cases r with
    | cons r1 r2 =>
      have := map_ch2 hy h r2
      simp only [chK, List.map_cons]
      by_cases e : j = k
      · rw [if_pos e, if_pos e]; exact .cons hy this
      · rw [if_neg e, if_neg e]; exact .cons r1 this
  | [], _ :: _, h, _ => by simp at h
  | _ :: _, [], h, _ => by simp at h
theorem put_pt {y : V} {d : D} {vk : List (Key × V)} {kvs : List (Key × D)} (h : vk.map (·.1) = kvs.map (·.1)) : (putK vk k y).map (·.1) = (ptK kvs k d).map (·.1) := by
  unfold putK ptK
  rw [any_has h]
  split
  · exact map_ch y d h
  · rw [List.map_append, List.map_append, h]; rfl
theorem put_pt2 {y : V} {d : D} (hy : Rp K mg F c H y d) {vk : List (Key × V)} {kvs : List (Key × D)} (h : vk.map (·.1) = kvs.map (·.1)) (r : Rps K mg F c H (vk.map (·.2)) (kvs.map (·.2))) : Rps K mg F c H ((putK vk k y).map (·.2)) ((ptK kvs k d).map (·.2)) := by
  unfold putK ptK
  rw [any_has h]
  split
  · exact map_ch2 hy h r
  · rw [List.map_append, List.map_append]; exact r.append (.cons hy .nil)
theorem len_kv {vk : List (Key × V)} {kvs : List (Key × D)} (h : vk.map (·.1) = kvs.map (·.1)) : vk.length = kvs.length := by simpa using congrArg List.length h
theorem dKey_of {v : V} {d : D} (h : Rp K mg F c H v d) (e : dKey d = some k) : v = kV k := by
  cases h <;> simp [dKey] at e <;> subst e <;> rfl
end
section
variable {X : Cx} {W : WX} {e a o d : Expr} {es : List Expr} {pos p pos' : Pos} {fa fb fo fi : M D} {fs : M (List D)} {x : Str} {k : Nat}
def ixA : D → D → M D := fun x y env st => match x with
  | .ref n => (match st[n]? with
    | some (.dct kvs) => (match dKey y with
      | some ky => ret (lkK ky kvs) env st
      | none => .bad)
    | _ => ixC (.ref n) y env st)
  | x => ixC x y env st
theorem subTail {prog : Program} {w : World} {A : Around} {E : Value → Shared → Prop} {s : Shared} {value slice : Expr} {v u : Value} {T id : String} {Q : Value → Shared → Prop} (hT : s.TypeIs v T) (hl : typeLookup (.type T) "__getitem__" = pure (some (.builtin id)))
    (h : wpAny (model prog w) A (getItem v u) Q E s) (hs : subscripted slice false v u = operate [v, u] (getItem v u)) : wpAny (model prog w) A (subscriptTail value slice v u) Q E s := by
  unfold subscriptTail
  refine wpAny_bind ?_
  rw [getitemInPython_of_ne hT.not_modules]
  refine wpAny_bind (wpAny_specialOf hT hl ?_)
  have fin : wpAny (model prog w) A (subscripted slice false v u) (fun r s₃ => wpAny (model prog w) A (letTemporaryGo value v r >>= fun _ => pure r) Q E s₃) E s := by
    rw [hs]
    exact wpAny_operating (wpAny_mono h (fun r s₃ h₃ => wpAny_bind (wpAny_letTemporaryGo (wpAny_pure h₃))) fun _ _ x => x)
  first
    | exact wpAny_pure (wpAny_bind fin)
    | exact wpAny_bind (wpAny_pure (wpAny_bind fin))
    | exact wpAny_pure fin
theorem ix_dict (hu : X.A.units + 1 < cLine) : IxR X (fun x y H Q => ∃ a v, x = .ref a ∧ DGet H a y (some v) ∧ Q v H) := by
  intro value slice pins s σ H x y v u Q I rx ry ⟨a, w, ex, g, q⟩ hs
  subst ex
  obtain rfl : v = Value.ref a := rx
  exact subTail (dict_typeIs I g) PySem.F.slot_dict_getitem.lookup (d_getItem hu I g ry fun w' s' I' rw' => ⟨w, H, I', rw', q⟩) hs
theorem ok_ixA : OpOk X W (fun x y H Q => rIx X.K x y H Q ∨ ∃ a v, x = .ref a ∧ DGet H a y (some v) ∧ Q v H) ixA := fun b F c env st σ H x y dx dy Q e1 e2 r hx hy p => by
  unfold ixA at p
  split at p
  · rename_i n
    split at p
    · rename_i kvs es
      split at p
      · rename_i ky eky
        unfold ret at p
        split at p
        · rename_i d ed
          obtain ⟨a, vk, rfl, hc, h1, h2, h3⟩ := r.dget hx es ky
          obtain ⟨v, hv, rp⟩ := (valV_lk h2 h3).1 d ed
          rw [dKey_of hy eky]
          exact .inr ⟨a, v, rfl, by rw [← hv]; exact DGet.k h1, Post.here r p v rp⟩
        · exact p.elim
      · exact p.elim
    · exact .inl (ok_ixC b F c env st σ H x y _ _ Q e1 e2 r hx hy p)
  · exact .inl (ok_ixC b F c env st σ H x y _ _ Q e1 e2 r hx hy p)
theorem ve_ixA (hr : Room k X.A) (ha : VE X W e fa) (hb : VE X W a fb) (hs : PlainIx a := by exact fun _ _ => rfl) : VE X W (.Subscript e a pos) (eBin ixA fa fb) := PEof (pe_ix (IxR.or ix_seq (ix_dict (by have := hr.un; omega))) ha hb hs) (tOp_of ok_ixA)
def sItemA (fo fi fe : M D) : M Fl := fun env st => (fe env st).bind fun d env st => (fo env st).bind fun r env st => (fi env st).bind fun k env st => match r with
  | .ref n => (match st[n]? with
    | some (.lst ds) => (match k with
      | .int k => (match ixN ds.length k with
        | some j => .ok .nx env (st.set n (.lst (ds.set j d)))
        | none => .bad)
      | _ => .bad)
    | some (.dct kvs) => (match dKey k with
      | some ky => if kvs.length < 16777216 then .ok .nx env (st.set n (.dct (ptK kvs ky d))) else .bad
      | none => .bad)
    | _ => .bad)
  | _ => .bad
theorem set_dict (hu : X.A.units + 1 < cLine) : PSet X (fun o i v H Q => ∃ a H4, o = .ref a ∧ DPut H a i v H4 ∧ Q H4) := by
  intro pins s σ H o i v ov iv u Q I ro ri rv ⟨a, H4, eo, g, q⟩
  subst eo
  obtain rfl : ov = Value.ref a := ro
  exact d_setItem hu I g ri rv fun s' I' => ⟨H4, I', q⟩
theorem PSet.or {t1 t2 : TSet} (h : PSet X t1) (h2 : PSet X t2) : PSet X (fun o i v H Q => t1 o i v H Q ∨ t2 o i v H Q) := fun pins s σ H o i v ov iv u Q I ro ri rv q => q.elim (h pins s σ H o i v ov iv u Q I ro ri rv) (h2 pins s σ H o i v ov iv u Q I ro ri rv)
theorem vs_itemA {tp : Pos} {fe : M D} (hr : Room k X.A) (he : VE X W e fe) (ho : VE X W o fo) (hi : VE X W a fi) (ha : ∀ v, assign (.Subscript o a tp) X.env v = (do
      let ov ← holding [v] (eval o X.env)
      let iv ← holding [v, ov] (eval a X.env)
      standAt tp
      holding [v, ov, iv] (setItem ov iv v)
      release [v, ov, iv] []) := by intro _; rfl)
    (hs : swapsWithSole [.Subscript o a tp] e pos.line X.env = pure false := by rfl) (hw : swappedStores [.Subscript o a tp] e X.env = pure none := by rfl)
    (h1 : (assignEach [.Subscript o a tp] X.env).map (·.2) = [assign (.Subscript o a tp) X.env] := by rfl) : VS X W (.Assign [.Subscript o a tp] e pos) (sItemA fo fi fe) := PSof (ps_asg he (pg_sub ho hi (PSet.or set_list (set_dict (by have := hr.un; omega))) ha) hs hw h1) fun D₀ σ H ⟨b, F, c, env, st, e1, e2, r, p⟩ =>
  sE_at e1 e2 r p fun v d env1 st1 F1 c1 H1 s1 r1 rp1 p1 => sE_at e1 e2 r1 p1 fun u r_ env2 st2 F2 c2 H2 s2 r2 rp2 p2 => sE_at e1 e2 r2 p2 fun w k env3 st3 F3 c3 H3 s3 r3 rp3 p3 => by
    split at p3
    · rename_i n
      have rp2' := rp2.stp s3
      split at p3
      · rename_i ds es
        split at p3
        · rename_i k
          split at p3
          · rename_i j ej
            obtain ⟨q, rfl, hc, vs, hq, rps⟩ := r3.cell rp2' es
            cases rp3
            refine .inl ⟨q, vs, k, j, rfl, rfl, hq, by rw [rps.length]; exact ej, ?_⟩
            obtain ⟨s4, r4⟩ := r3.cellUpd (o := .lst (vs.set j v)) (x := .lst (ds.set j d)) hc fun s => ⟨_, upd_same, Rps.set ((rp1.stp (s2.trans s3)).stp s) j (rps.stp s)⟩
            exact PostS.here (P := fun fl _ _ F c σ H => FlOk b D₀ F c σ H fl) r4 (p3.stp s4)
          · exact p3.elim
        · exact p3.elim
      · rename_i kvs es
        split at p3
        · rename_i ky eky
          split at p3
          · rename_i hl
            obtain ⟨q, vk, rfl, hc, h1, h2, h3⟩ := r3.dget rp2' es ky
            rw [dKey_of rp3 eky]
            refine .inr ⟨q, _, rfl, DPut.k h1 (by rw [len_kv h2, sizeLine_eq]; exact hl), ?_⟩
            obtain ⟨s4, r4⟩ := r3.cellUpd (o := .dK (putK vk ky v)) (x := .dct (ptK kvs ky d)) hc fun s => ⟨_, upd_same, put_pt h2, put_pt2 ((rp1.stp (s2.trans s3)).stp s) h2 (h3.stp s)⟩
            exact PostS.here (P := fun fl _ _ F c σ H => FlOk b D₀ F c σ H fl) r4 (p3.stp s4)
          · exact p3.elim
        · exact p3.elim
      · exact p3.elim
    · exact p3.elim
end
end VE
namespace VE
open PySem PySem.Spec PyProof.Rows L2
variable [VEnv]
section
variable {X : Cx} {W : WX} {e a o d : Expr} {es : List Expr} {pos p pos' : Pos} {fa fb fo fi : M D} {fs : M (List D)} {x : Str} {k : Nat}
def eB1 (g : D → Option D) (fa : M D) : M D := fun env st => (fa env st).bind fun d env st => ret (g (vw st d)) env st
def C1Ok (X : Cx) (r : List V → Hp → VK → Prop) (g : D → Option D) : Prop := ∀ (F : Addr → Prop) (c : List Addr) (H : Hp) (x : V) (dx d : D) (Q : VK), LV X.K X.mg F c H x dx → g dx = some d → (∀ v, Rp X.K X.mg F c H v d → Q v H) →
    (∀ p o, H p = none → (∀ ps, o ≠ .tbl ps) → (∀ F' : Addr → Prop, Stp F c H F' c (upd H p o) → Rp X.K X.mg (FAdd F' p) c (upd H p o) (.ref p) d) → Q (.ref p) (upd H p o)) → r [x] H Q
theorem tB1_of {r : List V → Hp → VK → Prop} {g : D → Option D} (h : C1Ok X r g) : ∀ σ H Q, tE X W (eB1 g fa) σ H Q → tCB r (tCons (tE X W fa) tNil) σ H Q := fun σ H Q ⟨b, F, c, env, st, e1, e2, r0, p⟩ =>
  tE_at e1 e2 r0 p fun v d env1 st1 F1 c1 H1 s1 r1 rp1 p1 => by
    unfold ret at p1
    split at p1
    · rename_i d' ed
      have h1 := r1.lv rp1
      rw [e1, e2] at h1
      refine h F1 c1 H1 v _ d' Q h1 ed (fun v hv => Post.here r1 p1 v (by rw [e1, e2]; exact hv)) fun q o hq hot ho => ?_
      obtain ⟨s2, r2⟩ := r1.newO hq o
      obtain ⟨s3, r3⟩ := r2.frz (r1.nC hq) (r1.H0none hq) (fun i h => r1.nO hq i h) ⟨o, upd_same⟩ (fun ps z => hot ps (by rw [upd_same] at z; exact Option.some.inj z))
      exact p1 _ _ _ (s2.trans s3) r3 _ (by rw [e1, e2]; exact ho F1 s2)
    · exact p1.elim
theorem ve_b1 {id : String} {r : List V → Hp → VK → Prop} {g : D → Option D} (hc : CallR X (.builtin id) r) (hg : C1Ok X r g) (hm : X.mg x = none) (hv : bootBuiltins x = some (.builtin id)) (ha : VE X W e fa) (hgl : Gl X x := by rfl) (hn : x ≠ "__name__" := by decide) (hdb : (x == ("__debug__" : Str)) = false := by decide)
    (hs : starEach [e] X.env = (false, eval e X.env) :: starEach [] X.env := by rfl) (hpl : (backTo pos (starEach [] X.env)).any (·.1) = false := by rfl) : VE X W (.Call (.Name x p) [e] [] pos) (eB1 g fa) := PEof (pe_callB hc hgl hm hv (pa_cons ha pa_nil hs) hn hdb hs hpl) (tB1_of hg)
theorem ve_t1 {T : String} {r : List V → Hp → VK → Prop} {g : D → Option D} (hc : CallR X (.type T) r) (hg : C1Ok X r g) (hm : X.mg x = none) (hv : bootBuiltins x = some (.type T)) (ha : VE X W e fa) (hgl : Gl X x := by rfl) (hn : x ≠ "__name__" := by decide) (hdb : (x == ("__debug__" : Str)) = false := by decide)
    (hs : starEach [e] X.env = (false, eval e X.env) :: starEach [] X.env := by rfl) (hpl : (backTo pos (starEach [] X.env)).any (·.1) = false := by rfl) : VE X W (.Call (.Name x p) [e] [] pos) (eB1 g fa) := PEof (pe_callTy hc hgl hm hv (pa_cons ha pa_nil hs) hn hdb hs hpl) (tB1_of hg)
theorem one_len : C1Ok X (fun xs H Q => (∃ p ys, xs = [.ref p] ∧ (SqL X.K H p ys ∨ SqT X.K H p ys) ∧ Q (.int ys.length) H) ∨ (∃ z, xs = [.str z] ∧ z.length ≤ sizeLine ∧ Q (.int z.length) H)) lenD := fun F c H x dx d Q hx e q _ => by
  unfold lenD at e
  split at e
  · cases e
    obtain ⟨a, vs, rfl, h, r⟩ := hx
    exact .inl ⟨_, _, rfl, .inl (SqL.of h), q _ (by rw [r.length]; exact .int _)⟩
  · cases e
    cases hx with
    | tup h r => exact .inl ⟨_, _, rfl, .inr h.sq, q _ (by rw [r.length]; exact .int _)⟩
  · cases e
    cases hx with
    | scr h => exact .inl ⟨_, _, rfl, .inl h.sq, q _ (by rw [List.length_map]; exact .int _)⟩
  · split at e
    · cases hx; cases e; exact .inr ⟨_, rfl, by rw [sizeLine_eq]; assumption, q _ (.int _)⟩
    · cases e
  · cases e
theorem ve_len1 (hm : X.mg "len" = none) (ha : VE X W e fa) (hgl : Gl X "len" := by rfl) (hs : starEach [e] X.env = (false, eval e X.env) :: starEach [] X.env := by rfl) : VE X W (.Call (.Name "len" p) [e] [] pos) (eB1 lenD fa) := ve_b1 lenR one_len hm PySem.boot_len ha hgl (by decide) (by decide) hs
theorem one_tuple : C1Ok X (fun xs H Q => ∃ p ys, xs = [.ref p] ∧ ((SqL X.K H p ys ∧ ∀ l, H l = none → Q (.ref l) (upd H l (.tup ys))) ∨ (SqT X.K H p ys ∧ Q (.ref p) H))) tupD := fun F c H x dx d Q hx e q qn => by
  unfold tupD at e
  split at e
  · cases e
    obtain ⟨a, vs, rfl, h, r⟩ := hx
    exact ⟨_, _, rfl, .inl ⟨SqL.of h, fun l hl => qn l _ hl (fun _ z => by cases z) fun F' s => .tup (.inl ⟨.inr rfl, upd_same⟩) ((r.stp s).stp ⟨fun _ h => .inl h, fun _ _ _ h => h, ⟨[], (List.append_nil c).symm⟩, fun _ _ h => h, fun _ _ _ h => h⟩)⟩⟩
  · cases e
    cases hx with
    | tup h r => exact ⟨_, _, rfl, .inr ⟨h.sq, q _ (.tup h r)⟩⟩
  · cases e
theorem ve_tuple1 (hm : X.mg "tuple" = none) (ha : VE X W e fa) (hgl : Gl X "tuple" := by rfl) (hs : starEach [e] X.env = (false, eval e X.env) :: starEach [] X.env := by rfl) : VE X W (.Call (.Name "tuple" p) [e] [] pos) (eB1 tupD fa) := ve_t1 call_tuple_of one_tuple hm (by decide +kernel) ha hgl (by decide) (by decide) hs
def mxI : List Int → Option Int
  | [] => none
  | x :: xs => some (xs.foldl (fun m y => if m < y then y else m) x)
def mnI : List Int → Option Int
  | [] => none
  | x :: xs => some (xs.foldl (fun m y => if y < m then y else m) x)
def minD : D → Option D
  | .lst ds => (intsOf ds).bind fun ns => (mnI ns).map .int
  | _ => none
theorem mn_fold : ∀ (xs : List Int) (x : Int), (∀ y ∈ x :: xs, xs.foldl (fun m y => if y < m then y else m) x ≤ y) ∧ xs.foldl (fun m y => if y < m then y else m) x ∈ x :: xs
  | [], x => by simp
  | y :: xs, x => by
    obtain ⟨h1, h2⟩ := mn_fold xs (if y < x then y else x)
    have hx : (if y < x then y else x) ≤ x := by split <;> omega
    have hy : (if y < x then y else x) ≤ y := by split <;> omega
    have h3 := h1 _ List.mem_cons_self
    rw [List.foldl_cons]
    refine ⟨fun z hz => ?_, ?_⟩
    · rcases List.mem_cons.mp hz with e | e
      · subst e; exact Int.le_trans h3 hx
      · rcases List.mem_cons.mp e with e | e
        · subst e; exact Int.le_trans h3 hy
        · exact h1 z (List.mem_cons_of_mem _ e)
    · rcases List.mem_cons.mp h2 with e | e
      · rw [e]; split <;> simp
      · exact List.mem_cons_of_mem _ (List.mem_cons_of_mem _ e)
theorem mnI_spec {ns : List Int} {m : Int} (h : mnI ns = some m) : m ∈ ns ∧ ∀ y ∈ ns, m ≤ y := by
  cases ns with
  | nil => cases h
  | cons x xs => cases h; exact ⟨(mn_fold xs x).2, (mn_fold xs x).1⟩
theorem one_min : C1Ok X (rMin X.K) minD := fun F c H x dx d Q hx e q _ => by
  unfold minD at e
  split at e
  · obtain ⟨ns, h1, h2⟩ := Option.bind_eq_some_iff.mp e
    obtain ⟨m, h3, rfl⟩ := Option.map_eq_some_iff.mp h2
    obtain ⟨a, vs, rfl, h, r⟩ := hx
    rw [r.ints h1] at h
    obtain ⟨k1, k2⟩ := mnI_spec h3
    refine ⟨_, ns, rfl, SqL.of h, List.length_pos_of_mem k1, fun m' g1 g2 => ?_⟩
    have : m' = m := by have := g2 m k1; have := k2 m' g1; omega
    rw [this]; exact q _ (.int _)
  · cases e
theorem ve_min1 (hc : X.calm = true) (hm : X.mg "min" = none) (ha : VE X W e fa) (hgl : Gl X "min" := by rfl) (hs : starEach [e] X.env = (false, eval e X.env) :: starEach [] X.env := by rfl) : VE X W (.Call (.Name "min" p) [e] [] pos) (eB1 minD fa) := ve_b1 (cr_min hc) one_min hm (by decide +kernel) ha hgl (by decide) (by decide) hs
def slA (d : D) (lo hi : Option Int) : Option D := match d with
  | .tup xs => some (.tup (cutD xs lo hi))
  | .lst xs => some (.lst (cutD xs lo hi))
  | .str z => if z.length ≤ 16777216 then some (.str (cutS z lo hi)) else none
  | _ => none
def eSlA (fa : M D) (fl fh : M (Option Int)) : M D := fun env st => (fa env st).bind fun d env st => (fl env st).bind fun l env st => (fh env st).bind fun h env st => ret (slA (vw st d) l h) env st
theorem ve_slA {lo hi : Option Expr} {fl fh : M (Option Int)} {p2 : Pos} (ha : VE X W e fa) (hl : VO X W lo fl) (hh : VO X W hi fh) : VE X W (.Subscript e (.Slice lo hi none p2) pos) (eSlA fa fl fh) := PEof (pe_slice (SlR.or sl_tupA (SlR.or sl_list sl_str)) ha hl hh) fun σ H Q ⟨b, F, c, env, st, e1, e2, r, p⟩ =>
  tE_at e1 e2 r p fun v d env1 st1 F1 c1 H1 s1 r1 rp1 p1 => tO_at e1 e2 r1 p1 fun l env2 st2 F2 c2 H2 s2 r2 p2 => tO_at e1 e2 r2 p2 fun h env3 st3 F3 c3 H3 s3 r3 p3 => by
    have lv := r3.lv (rp1.stp (s2.trans s3))
    have nw : ∀ {d' : D} {o : HO} {q : Addr}, H3 q = none → (∀ ps, o ≠ .tbl ps) → Post b W F3 c3 σ H3 (fun d _ _ F' c' H' => ∀ v, Rp b.K b.mg F' c' H' v d → Q v H') (.ok d' env3 st3) → (∀ F' : Addr → Prop, Stp F3 c3 H3 F' c3 (upd H3 q o) → Rp b.K b.mg (FAdd F' q) c3 (upd H3 q o) (.ref q) d') → Q (.ref q) (upd H3 q o) := fun {d' o q} hq hot p ho => by
      obtain ⟨s4, r4⟩ := r3.newO hq o
      obtain ⟨s5, r5⟩ := r4.frz (r3.nC hq) (r3.H0none hq) (fun i h => r3.nO hq i h) ⟨o, upd_same⟩ (fun ps z => hot ps (by rw [upd_same] at z; exact Option.some.inj z))
      exact p _ _ _ (s4.trans s5) r5 _ (ho F3 s4)
    unfold ret slA at p3
    split at p3
    · rename_i d' ed
      split at ed
      · rename_i xs ex
        rw [ex] at lv
        cases ed
        cases lv with
        | tup hx rs =>
          refine .inl ⟨_, _, rfl, e1 ▸ hx.sq, fun z => ?_, fun _ q hq => nw hq (fun _ z => by cases z) p3 fun F' s => .tup (.inl ⟨.inr rfl, upd_same⟩) (((rs.cut l h).stp s).stp ⟨fun _ h => .inl h, fun _ _ _ h => h, ⟨[], (List.append_nil c3).symm⟩, fun _ _ h => h, fun _ _ _ h => h⟩)⟩
          refine Post.here r3 p3 _ (.tup hx ?_)
          rw [rs.length] at z
          have ec : cutD xs l h = xs := by unfold cutD; rw [z.1, z.2]; simp
          rw [ec]; exact rs
      · rename_i xs ex
        rw [ex] at lv
        cases ed
        obtain ⟨a, vs, rfl, hx, rs⟩ := lv
        exact .inr (.inl ⟨_, _, rfl, SqL.of hx, fun q hq => nw hq (fun _ z => by cases z) p3 fun F' s => .lst (.inr rfl) upd_same (((rs.cut l h).stp s).stp ⟨fun _ h => .inl h, fun _ _ _ h => h, ⟨[], (List.append_nil c3).symm⟩, fun _ _ h => h, fun _ _ _ h => h⟩)⟩)
      · rename_i z ex
        rw [ex] at lv
        split at ed
        · cases ed
          cases lv
          exact .inr (.inr ⟨_, rfl, by rw [sizeLine_eq]; assumption, Post.here r3 p3 _ (.str _)⟩)
        · cases ed
      · cases ed
    · exact p3.elim
def idxD (x : D) : List D → Nat → Option Nat
  | [], _ => none
  | y :: ys, i => if eqD y x then some i else idxD x ys (i + 1)
def eIdx (fo fa : M D) : M D := fun env st => (fo env st).bind fun r env st => match vw st r with
  | .lst _ => (fa env st).bind fun x env st => (match vw st r with
    | .lst ys => if plain 20 x && plain 20 (.lst ys) then (match idxD x ys 0 with
      | some j => .ok (.int (j : Nat)) env st
      | none => .bad) else .bad
    | _ => .bad)
  | _ => .bad
theorem idxD_spec {x : D} : ∀ {ys : List D} {i j : Nat}, idxD x ys i = some j → ∃ m z, j = i + m ∧ ys[m]? = some z ∧ eqD z x = true ∧ ∀ m' z', m' < m → ys[m']? = some z' → eqD z' x = false
  | [], _, _, h => by simp [idxD] at h
  | y :: ys, i, j, h => by
    unfold idxD at h
    split at h
    · rename_i e
      cases h
      exact ⟨0, y, rfl, rfl, e, fun m' z' h => by omega⟩
    · rename_i e
      obtain ⟨m, z, h1, h2, h3, h4⟩ := idxD_spec h
      refine ⟨m + 1, z, by omega, by simpa using h2, h3, fun m' z' hm hz => ?_⟩
      cases m' with
      | zero => simp at hz; subst hz; simpa using e
      | succ m' => exact h4 m' z' (by omega) (by simpa using hz)
theorem toPys_at : ∀ {ys : List D} {m : Nat} {z : D}, ys[m]? = some z → (toPys ys)[m]? = some (toPy z)
  | [], m, z, h => by simp at h
  | y :: ys, 0, z, h => by simp at h; subst h; simp [toPys]
  | y :: ys, m + 1, z, h => by simp only [toPys]; simpa using toPys_at (ys := ys) (by simpa using h)
theorem toPys_at' : ∀ {ys : List D} {m : Nat} {q : PyData}, (toPys ys)[m]? = some q → ∃ z, ys[m]? = some z ∧ q = toPy z
  | [], m, z, h => by simp [toPys] at h
  | y :: ys, 0, q, h => by simp [toPys] at h; exact ⟨y, rfl, h.symm⟩
  | y :: ys, m + 1, q, h => by
    simp only [toPys] at h
    obtain ⟨z, h1, h2⟩ := toPys_at' (ys := ys) (m := m) (by simpa using h)
    exact ⟨z, by simpa using h1, h2⟩
theorem ve_idxU {apos : Pos} (hu : X.A.units + 65 < cLine) (ho : VE X W o fo) (ha : VE X W a fa) (hbase : attributeBase o "index" X.env (eval o X.env) = eval o X.env := by rfl)
    (hfew : ((backTo pos (starEach [a] X.env)).all (fun x => !x.1) && (backToKw pos (keywordEach [] X.env)).all (fun x => x.1.isSome)
      && decide (([a] : List Expr).length + ([] : List Keyword).length + (if ([] : List Keyword).isEmpty then 0 else 1) < 30)) = true := by rfl)
    (hline : (apos.endLine == pos.line) = true := by rfl) (hs : starEach [a] X.env = (false, eval a X.env) :: starEach [] X.env := by rfl) (hplain : (backTo pos (starEach [] X.env)).any (·.1) = false := by rfl) :
    VE X W (.Call (.Attribute o "index" apos) [a] [] pos) (eIdx fo fa) := PEof (pe_bm PySem.F.plainAttrs_list PySem.F.slot_list_index PySem.F.type_list_index (mt_indexD hu) ho (pa_cons ha pa_nil hs) hbase hfew hline hs hplain) fun σ H Q ⟨b, F, c, env, st, e1, e2, r, p⟩ =>
  tE_at e1 e2 r p fun v d env1 st1 F1 c1 H1 s1 r1 rp1 p1 => by
    split at p1
    · rename_i ds0 ev0
      have lv0 := r1.lv rp1
      rw [ev0] at lv0
      obtain ⟨q, vs0, rfl, hq0, _⟩ := lv0
      refine ⟨.inl ⟨rfl, _, SqL.of hq0⟩, tE_at e1 e2 r1 p1 fun u y env2 st2 F2 c2 H2 s2 r2 rp2 p2 => ?_⟩
      split at p2
      · rename_i ys ev
        have lv := r2.lv (rp1.stp s2)
        rw [ev] at lv
        split at p2
        · rename_i hp
          rw [Bool.and_eq_true] at hp
          split at p2
          · rename_i j ej
            have k1 := LV.dp lv hp.2
            have k2 := rp2.dp 20 hp.1
            have k3 := shaped_of (by decide) hp.2
            simp only [toPy] at k1 k3
            rw [e1] at k1 k2
            obtain ⟨m, z, h1, h2, h3, h4⟩ := idxD_spec ej
            rw [Nat.zero_add] at h1
            subst h1
            refine ⟨q, u, _, _, j, _, rfl, rfl, k1, k2, k3, shaped_of (by decide) hp.1, toPys_at h2, h3, fun m' z' hm hz => ?_, Post.here r2 p2 _ (.int _)⟩
            obtain ⟨z2, g1, rfl⟩ := toPys_at' hz
            exact h4 m' z2 hm g1
          · exact p2.elim
        · exact p2.elim
      · exact p2.elim
    · exact p1.elim
end
end VE
namespace VE
open PySem PySem.Spec PyProof.Rows L2
variable [VEnv]
section
variable {X : Cx} {W : WX} {e a o d tg iter : Expr} {es : List Expr} {pos p pos' : Pos} {fa fb fo fi : M D} {fs : M (List D)} {x : Str} {k : Nat}
/-- x = [.. for ..], x a local, the list never changed -/
theorem vs_setCompV {elt : Expr} {ifs : List Expr} {scope : Scope} {own : List (Str × Nat)} {is : List Nat} {gg : TG} {fi : M (List D)} {t : D → EnvD → Option EnvD} {tt : M Bool} {fe : M D} {i : Nat} {x : Str} {py sp : Pos} (hc : X.calm = true) (hN : X.N.Nodup) (hi : VI X W tg iter fi) (ok : BlkOk X.N X.env.scope scope own)
    (his : ∀ i ∈ is, i ∈ own.map (·.2)) (hg : ∀ (s : Shared) (H : Hp) (C : Addr) (cl : List (Str × Addr)) (fp : List Addr), VG (X.blk s H scope (compEnvC scope cl C X.env) fp) tg gg is t)
    (ht : ∀ (s : Shared) (H : Hp) (C : Addr) (cl : List (Str × Addr)) (fp : List Addr), PTs (X.blk s H scope (compEnvC scope cl C X.env) fp) ifs (tT X W0 tt))
    (he : ∀ (s : Shared) (H : Hp) (C : Addr) (cl : List (Str × Addr)) (fp : List Addr), VE (X.blk s H scope (compEnvC scope cl C X.env) fp) W0 elt fe) (hy : X.N[i]? = some x := by rfl) (hyl : X.env.scope.names.lookup x = some .local := by rfl)
    (hsw : swapsWith (.ListComp elt [⟨tg, iter, ifs, 0⟩] scope pos) (some (.Name x py)) sp.line X.env = pure true := by exact sw_true rfl rfl rfl (by decide +kernel)) (hs : ∀ x, foldedSetIterable iter X.env x = pure x := by intro _; rfl) :
    VS X W (.Assign [.Name x py] (.ListComp elt [⟨tg, iter, ifs, 0⟩] scope pos) sp) (sSet i (eComp fi t (own.map (·.2)) tt fe)) := by
  obtain ⟨wi, pi, ki⟩ := hi
  refine ⟨fun pins s0 σ H D₀ I ⟨b, F, c, env, st, e1, e2, r, p⟩ => (ps_setLc (te := tE X W0 fe) hc hN hy hyl hsw pi ok (fun s H C cl fp => (hg s H C cl fp).1) ht he hs).run pins s0 σ H D₀ I ?_⟩
  refine comp_of (W := W) ki his (hg s0 H 0 [] []).2 σ H _ (sF_at e1 e2 r p fun a d env1 st1 F1 c1 H1 s1 r1 h1 h2 h3 h4 h5 p1 => ?_)
  obtain ⟨s2, r2⟩ := r1.frz h2 h3 h4 h5.trk h5.ntbl
  exact PostS.here (P := fun fl _ _ F c σ H => FlOk b D₀ F c σ H fl) (r2.put h5.rp) (p1.stp s2)
end
end VE
namespace VE
open PySem PySem.Spec PyProof.Rows L2
variable [VEnv]
section
variable {X : Cx} {W : WX} {e : Expr} {pos p tpos : Pos} {elts : List Expr} {kk : Nat} {fa : M D}
/-- enumerate of a list or a tuple -/
def iEnA (fa : M D) : M (List D) := fun env st => (fa env st).bind fun d env st => match d with
  | .lst xs => .ok (enuD 0 xs) env st
  | .tup xs => .ok (enuD 0 xs) env st
  | _ => .bad
theorem vi_enA (hm : X.mg "enumerate" = none) (h : VE X W e fa) (hg : Gl X "enumerate" := by rfl) (hs : starEach [e] X.env = [(false, eval e X.env)] := by rfl) :
    VI X W (.Tuple elts kk tpos) (.Call (.Name "enumerate" p) [e] [] pos) (iEnA fa) := by
  have va := va_cons h va_nil hs
  obtain ⟨w1, p1, k1⟩ := vi_enL (elts := elts) (kk := kk) (tpos := tpos) (p := p) (pos := pos) hm va hg hs
  obtain ⟨w2, p2, k2⟩ := vi_enT (elts := elts) (kk := kk) (tpos := tpos) (p := p) (pos := pos) hm va hg hs
  refine ⟨_, PI.or p1 p2, fun σ H R ⟨b, F, c, env, st, e1, e2, r, q⟩ => ?_⟩
  unfold iEnA at q
  cases hf : fa env st with
  | bad => rw [hf] at q; exact q.elim
  | ex x env1 st1 =>
    rw [hf] at q
    exact .inl (k1 σ H R ⟨b, F, c, env, st, e1, e2, r, by unfold iEnL eCons; rw [hf]; exact q⟩)
  | ok d env1 st1 =>
    rw [hf] at q
    cases d with
    | lst xs => exact .inl (k1 σ H R ⟨b, F, c, env, st, e1, e2, r, by unfold iEnL eCons; rw [hf]; exact q⟩)
    | tup xs => exact .inr (k2 σ H R ⟨b, F, c, env, st, e1, e2, r, by unfold iEnT eCons; rw [hf]; exact q⟩)
    | _ => exact q.elim
end
end VE
namespace VE
open PySem PySem.Spec PyProof.Rows L2
variable [VEnv]
namespace ZL
abbrev LObj (acc : Array Value) (c : Nat) : Obj := { cls := .type "list", dict := none, data := .seq acc c, slots := #[] }
section
variable {prog : Program} {w : World} {A : Around} {z TI TO i1 i2 l1 l2 S : Addr} {xs ys : Array Value} {h0 : Heap}
/-- the walk's state, i pairs told; the list that grows at S -/
structure ZSt (z TI TO i1 i2 l1 l2 S : Addr) (xs ys : Array Value) (h0 : Heap) (i : Nat) (acc : Array Value) (h : Heap) : Prop where
  ti : PySem.IsPair h TI (.ref i1) (.ref i2)
  it1 : h.IsListIter i1 l1 i
  it2 : h.IsListIter i2 l2 i
  lx : h.IsList l1 xs
  ly : h.IsList l2 ys
  zz : (IsZip h z TI TO .none ∧ ∃ a b, PySem.IsPair h TO a b) ∨ ∃ T f oT, IsZipHeld h z TI TO T f ∧ h.get? T = some oT ∧ T ≠ z ∧ T ≠ i1 ∧ T ≠ i2 ∧ T ≠ S
  sl : ∃ c, h.get? S = some (LObj acc c)
  nn : acc.size = i
  tt : ∀ (j : Nat) v, acc[j]? = some v → ∃ T x y, v = .ref T ∧ xs[j]? = some x ∧ ys[j]? = some y ∧ PySem.IsPair h T x y ∧ h0.objs.size ≤ T ∧ T ≠ S ∧ T ≠ z ∧ T ≠ TO ∧ T ≠ i1 ∧ T ≠ i2
  dd : ∀ (j k : Nat) v, acc[j]? = some v → acc[k]? = some v → j = k
  kk : ∀ b o, h0.get? b = some o → b ≠ S → b ≠ z → b ≠ TO → b ≠ i1 → b ≠ i2 → h.get? b = some o
/-- at the end -/
structure ZEnd (z TO i1 i2 S : Addr) (xs ys : Array Value) (h0 : Heap) (acc : Array Value) (h : Heap) : Prop where
  sl : ∃ c, h.get? S = some (LObj acc c)
  nn : acc.size = min xs.size ys.size
  tt : ∀ (j : Nat) v, acc[j]? = some v → ∃ T x y, v = .ref T ∧ xs[j]? = some x ∧ ys[j]? = some y ∧ PySem.IsPair h T x y ∧ h0.objs.size ≤ T ∧ T ≠ S
  dd : ∀ (j k : Nat) v, acc[j]? = some v → acc[k]? = some v → j = k
  kk : ∀ b o, h0.get? b = some o → b ≠ S → b ≠ z → b ≠ TO → b ≠ i1 → b ≠ i2 → h.get? b = some o
theorem ZSt.fin {acc : Array Value} {h h' : Heap} (st : ZSt z TI TO i1 i2 l1 l2 S xs ys h0 (min xs.size ys.size) acc h) (hz : S ≠ z) (hTO : S ≠ TO) (h1 : S ≠ i1) (h2 : S ≠ i2)
    (k : ∀ c o, c ≠ z → c ≠ TO → c ≠ i1 → c ≠ i2 → h.get? c = some o → h'.get? c = some o) : ZEnd z TO i1 i2 S xs ys h0 acc h' where
  sl := let ⟨c, e⟩ := st.sl; ⟨c, k _ _ hz hTO h1 h2 e⟩
  nn := st.nn
  tt := fun j v hv => by
    obtain ⟨T, x, y, r1, r2, r3, r4, r5, r6, r7, r8, r9, r10⟩ := st.tt j v hv
    exact ⟨T, x, y, r1, r2, r3, k _ _ r7 r8 r9 r10 r4, r5, r6⟩
  dd := st.dd
  kk := fun b o e q0 q1 q2 q3 q4 => k _ _ q1 q2 q3 q4 (st.kk b o e q0 q1 q2 q3 q4)
theorem loop {R : Result → Shared → Prop} (D : ZipApart z TI TO i1 i2 l1 l2) (hh : A.handled = none) (hTI : TI ≠ S) (hl1 : l1 ≠ S) (hl2 : l2 ≠ S) (hz : S ≠ z) (hTO : S ≠ TO) (h1 : S ≠ i1) (h2 : S ≠ i2) (hn : min xs.size ys.size ≤ sizeLine) (res : Value) :
    ∀ (k i : Nat) (s : Shared) (acc : Array Value), min xs.size ys.size - i = k → i ≤ min xs.size ys.size → ZSt z TI TO i1 i2 l1 l2 S xs ys h0 i acc s.heap → (∀ b o, h0.get? b = some o → ∃ u, s.heap.get? b = some u) → (∃ u, s.heap.get? TO = some u) → h0.objs.size ≤ s.heap.objs.size →
    (∀ h' acc', ZEnd z TO i1 i2 S xs ys h0 acc' h' → R (.ok (.ret res)) { s with heap := h' }) →
    codeAny (model prog w) A (.builtin "list.extend.loop" ⟨[.ref S, .ref z, res], []⟩) R s := by
  intro k
  induction k with
  | zero =>
    intro i s acc hk hi st hb hto hsz hR
    have hin : i = min xs.size ys.size := by omega
    subst hin
    refine codeAny_builtin F.entry_extend_loop ?_
    rw [Around.under_plainId F.plain_extend_loop _]
    show wpAny _ A.in1 (pyNext (.ref z) >>= _) _ _ s
    have hend : xs[min xs.size ys.size]? = none ∨ ys[min xs.size ys.size]? = none := by
      rcases Nat.le_total xs.size ys.size with h | h
      · exact .inl (Array.getElem?_eq_none (by omega))
      · exact .inr (Array.getElem?_eq_none (by omega))
    rcases st.zz with ⟨hzz, a, b, hTOo⟩ | ⟨T, f, oT, hzz, hT, r1, r2, r3, r4⟩
    · refine wpAny_bind (wpAny_pyNext_zip_end (by simpa using hh) D hzz st.ti hTOo st.it1 st.it2 st.lx st.ly hend fun h' hk' => ?_)
      exact wpAny_pure (hR h' acc (st.fin hz hTO h1 h2 hk'))
    · refine wpAny_bind (wpAny_pyNext_zip_end_held (by simpa using hh) D hzz hT st.ti st.it1 st.it2 st.lx st.ly hend fun h' hk' => ?_)
      exact wpAny_pure (hR h' acc (st.fin hz hTO h1 h2 fun c o q1 q2 q3 q4 e => hk' c o q1 q3 q4 e))
  | succ k ih =>
    intro i s acc hk hi st hb hto hsz hR
    have hlt : i < min xs.size ys.size := by omega
    refine codeAny_builtin F.entry_extend_loop ?_
    rw [Around.under_plainId F.plain_extend_loop _]
    show wpAny _ A.in1 (pyNext (.ref z) >>= _) _ _ s
    have hix : i < xs.size := by omega
    have hiy : i < ys.size := by omega
    have ex := Array.getElem?_eq_getElem hix
    have ey := Array.getElem?_eq_getElem hiy
    have lt : ∀ {c o}, s.heap.get? c = some o → s.heap.objs.size ≠ c := fun e => Nat.ne_of_gt (Heap.lt_size e)
    have n1 : s.heap.objs.size ≠ i1 := let ⟨_, e, _⟩ := st.it1; lt e
    have n2 : s.heap.objs.size ≠ i2 := let ⟨_, e, _⟩ := st.it2; lt e
    have nTO : s.heap.objs.size ≠ TO := let ⟨_, e⟩ := hto; lt e
    obtain ⟨c, hS⟩ := st.sl
    have nS : s.heap.objs.size ≠ S := lt hS
    have nz : s.heap.objs.size ≠ z := by
      rcases st.zz with ⟨hz, _⟩ | ⟨T, f, oT, hz, _⟩
      · exact lt hz
      · exact lt hz
    -- one pair: T is new
    have step : ∀ (h' : Heap), PySem.IsPair h' s.heap.objs.size xs[i] ys[i] → h'.IsListIter i1 l1 (i + 1) → h'.IsListIter i2 l2 (i + 1) → h'.objs.size = s.heap.objs.size + 1 →
        ((IsZip h' z TI TO .none ∧ ∃ a b, PySem.IsPair h' TO a b) ∨ ∃ T f oT, IsZipHeld h' z TI TO T f ∧ h'.get? T = some oT ∧ T ≠ z ∧ T ≠ i1 ∧ T ≠ i2 ∧ T ≠ S) → (∃ u, h'.get? TO = some u) →
        (∀ c o, c ≠ z → c ≠ TO → c ≠ i1 → c ≠ i2 → s.heap.get? c = some o → h'.get? c = some o) →
        (∀ b o, h0.get? b = some o → ∃ u, h'.get? b = some u) →
        wpAny (model prog w) A.in1 (updateSeq S (·.push (.ref s.heap.objs.size)) >>= fun _ => again (.builtin "list.extend.loop" ⟨[.ref S, .ref z, res], []⟩))
          (fun fin s' => match fin with | .done f => R (.ok f) s' | .again c' => c'.quiet = true ∧ codeAny (model prog w) A c' R s') (fun e s' => R (.error e) s') { s with heap := h' } := by
      intro h' g1 g2 g3 g4 g5 g6 gk gb
      have hS' := gk _ _ hz hTO h1 h2 hS
      have pz : (acc.push (.ref s.heap.objs.size)).size ≤ sizeLine + 1 := by rw [Array.size_push, st.nn]; omega
      refine wpAny_bind ?_
      refine wpAny_updateSeq hS' rfl (wpAny_pure ⟨plainId_quiet F.plain_extend_loop _, ?_⟩) (by rw [st.nn]; omega) pz
      have oth : ∀ b o, b ≠ S → h'.get? b = some o → (h'.update S (Obj.mapSeq (·.push (.ref s.heap.objs.size)))).get? b = some o := fun b o hb e => (Heap.get?_update_other _ _ (Ne.symm hb)).trans e
      have hSS := Heap.get?_update_self (Obj.mapSeq (·.push (Value.ref s.heap.objs.size))) hS' rfl
      refine ih (i + 1) _ (acc.push (.ref s.heap.objs.size)) (by omega) hlt ?_ (fun b o e => ?_) ?_ (by show h0.objs.size ≤ (h'.update _ _).objs.size; rw [Heap.size_update]; omega) hR
      · refine ⟨oth _ _ hTI (gk _ _ D.TIz D.TITO D.TIi1 D.TIi2 st.ti), g2.at fun o e => oth _ o (Ne.symm h1) e, g3.at fun o e => oth _ o (Ne.symm h2) e,
          (st.lx.at fun o e => oth _ o hl1 (gk _ _ D.l1z D.l1TO D.l1i1 D.l1i2 e)), (st.ly.at fun o e => oth _ o hl2 (gk _ _ D.l2z D.l2TO D.l2i1 D.l2i2 e)), ?_, ⟨_, hSS⟩, by rw [Array.size_push, st.nn], ?_, ?_, ?_⟩
        · rcases g5 with ⟨q1, a, b, q2⟩ | ⟨T, f, oT, q1, q2, r1, r2, r3, r4⟩
          · exact .inl ⟨oth _ _ (Ne.symm hz) q1, a, b, oth _ _ (Ne.symm hTO) q2⟩
          · exact .inr ⟨T, f, oT, oth _ _ (Ne.symm hz) q1, oth _ _ r4 q2, r1, r2, r3, r4⟩
        · intro j v hv
          rw [Array.getElem?_push] at hv
          split at hv
          · rename_i e
            cases hv
            rw [st.nn] at e
            subst e
            exact ⟨_, _, _, rfl, ex, ey, oth _ _ nS g1, hsz, nS, nz, nTO, n1, n2⟩
          · obtain ⟨T, x, y, r1, r2, r3, r4, r5, r6, r7, r8, r9, r10⟩ := st.tt j v hv
            exact ⟨T, x, y, r1, r2, r3, oth _ _ r6 (gk _ _ r7 r8 r9 r10 r4), r5, r6, r7, r8, r9, r10⟩
        · have old : ∀ (j : Nat) v, acc[j]? = some v → v ≠ .ref s.heap.objs.size := fun j v hv e => by
            obtain ⟨T, x, y, r1, r2, r3, r4, _⟩ := st.tt j v hv
            rw [r1] at e
            cases e
            exact absurd rfl (lt r4)
          intro j k v hj hk
          rw [Array.getElem?_push] at hj hk
          split at hj
          · rename_i ej
            cases hj
            split at hk
            · rename_i ek; omega
            · exact absurd rfl (old k _ hk)
          · split at hk
            · cases hk; exact absurd rfl (old j _ hj)
            · exact st.dd j k v hj hk
        · exact fun b o e q0 q1 q2 q3 q4 => oth _ _ q0 (gk _ _ q1 q2 q3 q4 (st.kk b o e q0 q1 q2 q3 q4))
      · obtain ⟨u, hu⟩ := gb b o e
        by_cases q : b = S
        · subst q; exact ⟨_, hSS⟩
        · exact ⟨u, oth _ _ q hu⟩
      · obtain ⟨u, hu⟩ := g6
        exact ⟨u, oth _ _ (Ne.symm hTO) hu⟩
    have gbb : ∀ (h' : Heap), (∀ c o, c ≠ z → c ≠ TO → c ≠ i1 → c ≠ i2 → s.heap.get? c = some o → h'.get? c = some o) → (∃ u, h'.get? z = some u) → (∃ u, h'.get? TO = some u) → (∃ u, h'.get? i1 = some u) → (∃ u, h'.get? i2 = some u) → ∀ b o, h0.get? b = some o → ∃ u, h'.get? b = some u := by
      intro h' gk e1 e2 e3 e4 b o e
      obtain ⟨u, hu⟩ := hb b o e
      by_cases q1 : b = z
      · subst q1; exact e1
      by_cases q2 : b = TO
      · subst q2; exact e2
      by_cases q3 : b = i1
      · subst q3; exact e3
      by_cases q4 : b = i2
      · subst q4; exact e4
      exact ⟨u, gk _ _ q1 q2 q3 q4 hu⟩
    rcases st.zz with ⟨hzz, a, b, hTOo⟩ | ⟨T, f, oT, hzz, hT, r1, r2, r3, r4⟩
    · refine wpAny_bind (wpAny_pyNext_zip_item D hzz st.ti hTOo st.it1 st.it2 st.lx st.ly ex ey fun h' a1 a2 a3 a4 a5 a6 hk' => ?_)
      exact step h' a5 a3 a4 a6 (.inr ⟨s.heap.objs.size, false, _, a1, a5, nz, n1, n2, nS⟩) ⟨_, a2⟩ hk' (gbb h' hk' ⟨_, a1⟩ ⟨_, a2⟩ (let ⟨_, e, _⟩ := a3; ⟨_, e⟩) (let ⟨_, e, _⟩ := a4; ⟨_, e⟩))
    · refine wpAny_bind (wpAny_pyNext_zip_item_held D hzz hT st.ti st.it1 st.it2 st.lx st.ly ex ey fun h' a1 a3 a4 a5 a6 hk' => ?_)
      have hk2 : ∀ c o, c ≠ z → c ≠ TO → c ≠ i1 → c ≠ i2 → s.heap.get? c = some o → h'.get? c = some o := fun c o q1 q2 q3 q4 e => hk' c o q1 q3 q4 e
      have hto' : ∃ u, h'.get? TO = some u := let ⟨u, e⟩ := hto; ⟨u, hk' _ _ D.TOz D.TOi1 D.TOi2 e⟩
      exact step h' a5 a3 a4 a6 (.inr ⟨T, true, oT, a1, hk' _ _ r1 r2 r3 hT, r1, r2, r3, r4⟩) hto' hk2 (gbb h' hk2 ⟨_, a1⟩ hto' (let ⟨_, e, _⟩ := a3; ⟨_, e⟩) (let ⟨_, e, _⟩ := a4; ⟨_, e⟩))
end
inductive LT (h : Heap) : List Addr → List (V × V) → Prop
  | nil : LT h [] []
  | cons {T : Addr} {Ts : List Addr} {v u : V} {ps : List (V × V)} {x y : Value} : PySem.IsPair h T x y → RelV v x → RelV u y → LT h Ts ps → LT h (T :: Ts) ((v, u) :: ps)
section
variable {X : Cx} {pins : List (Addr × Obj)} {σ : L2.St} {s : Shared} {h' : Heap} {B : Nat} {S : Addr}
end
theorem LT.len {h : Heap} : ∀ {Ts : List Addr} {ps : List (V × V)}, LT h Ts ps → Ts.length = ps.length
  | _, _, .nil => rfl
  | _, _, .cons _ _ _ t => by simp [t.len]
end ZL
section
variable {X : Cx} {W : WX} {e e2 : Expr} {pos p p2 q : Pos} {fs : M (List D)}
end
end VE
namespace VE
open PySem PySem.Spec PyProof.Rows L2
variable [VEnv]
namespace TM
end TM
section
variable {X : Cx} {W : WX} {e a o d : Expr} {es : List Expr} {pos p p2 q pos' : Pos} {fa fb fo fi : M D} {fs : M (List D)} {x : Str} {k : Nat}
end
end VE
namespace VE
open PySem PySem.Spec PyProof.Rows L2
variable [VEnv]
namespace LG
section
variable {X : Cx} {tg : Expr}
end
end LG
section
variable {X : Cx} {W : WX} {e a tg : Expr} {pos p : Pos} {fa fb : M D}
end
end VE
namespace VE
open PySem PySem.Spec PyProof.Rows L2
variable [VEnv]
namespace MN
end MN
section
variable {X : Cx} {W : WX} {e a : Expr} {pos p kpos : Pos} {fa fb : M D} {k : Nat}
end
end VE
namespace VE
open PySem PySem.Spec PyProof.Rows L2
variable [VEnv]
section
variable {X : Cx} {W : WX} {e a : Expr} {pos p p2 q : Pos} {fa fb : M D}
def eListR (fa : M D) : M D := fun env st => (fa env st).bind fun d env st => match d with
  | .int j => if decide (0 ≤ j) && decide (j ≤ 16777216) then .ok (.lst (rngD 0 j.toNat)) env st else .bad
  | _ => .bad
theorem vf_listR (hc : X.calm = true) (hm : X.mg "list" = none) (hm2 : X.mg "range" = none) (ha : VE X W e fa) (hg : Gl X "list" := by rfl) (hg2 : Gl X "range" := by rfl)
    (na : starEach [e] X.env = (false, eval e X.env) :: starEach [] X.env := by rfl) (na2 : starEach [.Call (.Name "range" p2) [e] [] q] X.env = (false, eval (.Call (.Name "range" p2) [e] [] q) X.env) :: starEach [] X.env := by rfl) :
    VF X W (.Call (.Name "list" p) [.Call (.Name "range" p2) [e] [] q] [] pos) (eListR fa) := PEof (pe_listRg hc hg hm (prg_1 hg2 hm2 ha na) na2) fun σ H Q ⟨b, F, c, env, st, e1, e2, r0, h⟩ =>
  tE_at e1 e2 r0 h fun v d env1 st1 F1 c1 H1 s1 r1 rp1 p1 => by
    split at p1
    · rename_i j
      split at p1
      · rename_i hj
        simp only [Bool.and_eq_true, decide_eq_true_eq] at hj
        cases rp1
        refine ⟨_, rfl, RgOk.of_le (by decide) hj.2 (by decide) hj.1, fun pq hq => ?_⟩
        obtain ⟨s2, r2⟩ := r1.newO hq (.lst (rgV 0 j))
        refine p1 _ _ _ s2 r2 pq (r1.nF hq) (r1.nC hq) (r1.H0none hq) (r1.nO hq) ⟨_, upd_same, ?_⟩
        unfold rgV rngD
        rw [Int.sub_zero]
        have go : ∀ (H' : Hp) (l : List Nat), Rps b.K b.mg F1 c1 H' (l.map fun i => V.int (0 + (i : Nat))) (l.map fun i => D.int (0 + (i : Nat))) := fun H' l => by
          induction l with
          | nil => exact .nil
          | cons x l ih => exact .cons (.int _) ih
        exact go _ _
      · exact p1.elim
    · exact p1.elim
end
end VE
namespace VE
open PySem PySem.Spec PyProof.Rows L2
variable [VEnv]
namespace CM
section
variable {X : Cx}
end
end CM
section
variable {X : Cx} {W : WX} {e a : Expr} {pos : Pos} {fa fb : M D} {k : Nat}
end
end VE
namespace VE
open PySem PySem.Spec PyProof.Rows L2
variable [VEnv]
def noX : Expr := .Constant .none 0 ⟨0, 0, 0, 0⟩
def noS : Stmt := .Pass ⟨0, 0, 0, 0⟩
def pX : Expr → Nat → Expr
  | .Call f _ _ _, 0 => f
  | .Call _ es _ _, n + 1 => es.getD n noX
  | .List es _, n => es.getD n noX
  | .Tuple es _ _, n => es.getD n noX
  | .BoolOp _ es _, n => es.getD n noX
  | .Compare l _ _ _, 0 => l
  | .Compare _ _ es _, n + 1 => es.getD n noX
  | .UnaryOp _ e _, _ => e
  | .BinOp l _ _ _, 0 => l
  | .BinOp _ _ r _, _ => r
  | .IfExp t _ _ _, 0 => t
  | .IfExp _ b _ _, 1 => b
  | .IfExp _ _ o _, _ => o
  | .Subscript v _ _, 0 => v
  | .Subscript _ s _, _ => s
  | .Starred v _, _ => v
  | .Attribute v _ _, _ => v
  | .ListComp e _ _ _, _ => e
  | _, _ => noX
def pE : Stmt → Expr
  | .Return (some e) _ => e
  | .Assign _ e _ => e
  | .Expr e _ => e
  | .If e _ _ _ => e
  | .For _ e _ _ _ => e
  | .While e _ _ _ => e
  | .AugAssign _ _ e _ => e
  | _ => noX
def lamA : Expr → Arguments
  | .Lambda a _ _ _ => a
  | _ => ⟨[], [], none, [], [], none, []⟩
def lamB : Expr → Expr
  | .Lambda _ b _ _ => b
  | _ => noX
def lamS : Expr → Scope
  | .Lambda _ _ s _ => s
  | _ => default
def CelsAt (C : List Addr) (H : Hp) : Prop := ∀ a ∈ C, ∃ o, H a = some (CelO o)
def offH (C : List Addr) (H : Hp) : Hp := fun a => if a ∈ C then none else H a
def onH (C : List Addr) (H₀ H : Hp) : Hp := fun a => if a ∈ C then H₀ a else H a
def offF (C : List Addr) (F : Addr → Prop) : Addr → Prop := fun a => F a ∧ a ∉ C
def onF (C : List Addr) (F : Addr → Prop) : Addr → Prop := fun a => F a ∨ a ∈ C
section
variable {K : PySem.W.Frag} {mg : Str → Option Value} {F F' : Addr → Prop} {c c' : List Addr} {st st' : Sto} {H H' H₀ : Hp} {C : List Addr} {a : Addr} {u : HO}
omit [VEnv] in
theorem offH_in (h : a ∈ C) : offH C H a = none := if_pos h
omit [VEnv] in
theorem offH_out (h : a ∉ C) : offH C H a = H a := if_neg h
omit [VEnv] in
theorem onH_in (h : a ∈ C) : onH C H₀ H a = H₀ a := if_pos h
omit [VEnv] in
theorem onH_out (h : a ∉ C) : onH C H₀ H a = H a := if_neg h
omit [VEnv] in
theorem CelsAt.out (hC : CelsAt C H) (h : H a = some u) (n : ∀ o, u ≠ CelO o) : a ∉ C := fun m => by
  obtain ⟨o, e⟩ := hC a m
  rw [h] at e
  exact n o (Option.some.inj e)
omit [VEnv] in
theorem CelsAt.off (hC : CelsAt C H) (h : H a = some u) (n : ∀ o, u ≠ CelO o) : offH C H a = some u := by
  rw [offH_out (hC.out h n)]; exact h
omit [VEnv] in
theorem off_some (h : offH C H a = some u) : a ∉ C ∧ H a = some u := by
  unfold offH at h
  split at h
  · cases h
  · exact ⟨by assumption, h⟩
omit [VEnv] in
theorem CelsAt.rd (hC : CelsAt C H) (h : Rd H a u) (n : u ≠ cellT) (n2 : ∀ o, u ≠ CelO o) : a ∉ C ∧ Rd (offH C H) a u := by
  rcases h with h | ⟨o, h⟩
  · exact ⟨hC.out h n2, .inl (hC.off h n2)⟩
  · have n3 : ∀ o', HO.frz o u ≠ CelO o' := fun o' z => by unfold CelO at z; injection z with _ z; exact n z
    exact ⟨hC.out h n3, .inr ⟨o, hC.off h n3⟩⟩
omit [VEnv] in
theorem SlAt.offC {x Cc dx : Addr} {vs : List (Option V)} (hC : CelsAt C H) (h : VE.SlAt H x Cc dx vs) : x ∉ C ∧ VE.SlAt (offH C H) x Cc dx vs := by
  obtain ⟨h1, h2, h3⟩ := h
  have n1 : ∀ o, HO.frz PySem.W.emptyDict (.own x) ≠ CelO o := fun o z => by unfold CelO cellT at z; cases z
  have n2 : ∀ o, L2.SlO Cc dx x vs ≠ CelO o := fun o z => by unfold CelO L2.SlO at z; cases z
  exact ⟨hC.out h3 n2, hC.off h1 n1, h2, hC.off h3 n2⟩
theorem FqT.off {xs : List V} (h : FqT K F H a xs) (hC : CelsAt C H) : FqT K (offF C F) (offH C H) a xs := by
  rcases h with ⟨f, h⟩ | h
  · have n : ∀ o, HO.tup xs ≠ CelO o := fun o z => by unfold CelO at z; cases z
    exact .inl ⟨⟨f, hC.out h n⟩, hC.off h n⟩
  · exact .inr h
mutual
theorem Rp.off (hC : CelsAt C H) : ∀ {v : V} {d : D}, Rp K mg F c H v d → Rp K mg (offF C F) c (offH C H) v d
  | _, _, .non => .non
  | _, _, .bl b => .bl b
  | _, _, .int i => .int i
  | _, _, .str x => .str x
  | _, _, .lst f h r => .lst ⟨f, hC.out h fun o z => by unfold CelO at z; cases z⟩ (hC.off h fun o z => by unfold CelO at z; cases z) (Rps.off hC r)
  | _, _, .scr (ns := ns) h => .scr (by
      rcases h with ⟨f, h⟩ | h
      · obtain ⟨n, r⟩ := hC.rd h (fun z => by unfold cellT at z; cases z) fun o z => by unfold CelO at z; cases z
        exact .inl ⟨⟨f, n⟩, r⟩
      · exact .inr h)
  | _, _, .tup h r => .tup (by
      rcases h with ⟨f, h⟩ | h
      · exact .inl ⟨⟨f, hC.out h fun o z => by unfold CelO at z; cases z⟩, hC.off h fun o z => by unfold CelO at z; cases z⟩
      · exact .inr h) (Rps.off hC r)
  | _, _, .obj m f h r => .obj m ⟨f, (SlAt.offC hC h).1⟩ (SlAt.offC hC h).2 (Rps.off hC r)
  | _, _, .ino m f h e r => .ino m ⟨f, hC.out h fun o z => by unfold CelO at z; cases z⟩ (hC.off h fun o z => by unfold CelO at z; cases z) e (Rps.off hC r)
  | _, _, .ref h => .ref h
  | _, _, .glb h => .glb h
  | _, _, .lam f h g k z => .lam ⟨f, hC.out h fun o z => by unfold CelO FnL at z; cases z⟩ (hC.off h fun o z => by unfold CelO FnL at z; cases z) ⟨g, hC.out k fun o z => by unfold CelO LamX.CodeO at z; cases z⟩ (hC.off k fun o z => by unfold CelO LamX.CodeO at z; cases z) z
  | _, _, .lamD f h g k z t u w => .lamD ⟨f, hC.out h fun o z => by unfold CelO FnLD at z; cases z⟩ (hC.off h fun o z => by unfold CelO FnLD at z; cases z) ⟨g, hC.out k fun o z => by unfold CelO LamX.CodeO at z; cases z⟩ (hC.off k fun o z => by unfold CelO LamX.CodeO at z; cases z) z ⟨t, hC.out u fun o z => by unfold CelO at z; cases z⟩ (hC.off u fun o z => by unfold CelO at z; cases z) w
theorem Rps.off (hC : CelsAt C H) : ∀ {vs : List V} {ds : List D}, Rps K mg F c H vs ds → Rps K mg (offF C F) c (offH C H) vs ds
  | _, _, .nil => .nil
  | _, _, .cons h r => .cons (Rp.off hC h) (Rps.off hC r)
end
theorem CellOk.offC {x : Cell} (hC : CelsAt C H) (h : CellOk K mg F c H a x) : a ∉ C ∧ CellOk K mg (offF C F) c (offH C H) a x := by
  cases x with
  | lst ds =>
    obtain ⟨vs, e, p⟩ := h
    have n : ∀ o, HO.lst vs ≠ CelO o := fun o z => by unfold CelO at z; cases z
    exact ⟨hC.out e n, vs, hC.off e n, p.off hC⟩
  | ins nm fs =>
    obtain ⟨Cc, dx, vfs, k1, k2, k3, p⟩ := h
    have n : ∀ o, HO.ins Cc dx vfs ≠ CelO o := fun o z => by unfold CelO at z; cases z
    exact ⟨hC.out k2 n, Cc, dx, vfs, k1, hC.off k2 n, k3, p.off hC⟩
  | slo nm fs =>
    obtain ⟨Cc, dx, vs, k1, k2, p⟩ := h
    obtain ⟨n, k3⟩ := SlAt.offC hC k2
    exact ⟨n, Cc, dx, vs, k1, k3, p.off hC⟩
  | slp nm ix fs =>
    obtain ⟨Cc, dx, vs, k1, k2, p⟩ := h
    obtain ⟨n, k3⟩ := SlAt.offC hC k2
    exact ⟨n, Cc, dx, vs, k1, k3, p.off hC⟩
  | dct kvs =>
    obtain ⟨vk, e, e2, p⟩ := h
    have n : ∀ o, HO.dK vk ≠ CelO o := fun o z => by unfold CelO at z; cases z
    exact ⟨hC.out e n, vk, hC.off e n, e2, p.off hC⟩
  | dcT kvs =>
    obtain ⟨P, w, xs, vs, e0, e, e2, p, pk⟩ := h
    exact ⟨hC.out e (fun o z => by unfold CelO dTO at z; cases z), P, w, xs, vs, e0, hC.off e (fun o z => by unfold CelO dTO at z; cases z), e2, p.off hC, fun x hx => (pk x hx).off hC⟩
  | dcN kvs =>
    obtain ⟨P, w, vk, e0, e, e2, p⟩ := h
    exact ⟨hC.out e (fun o z => by unfold CelO dNO at z; cases z), P, w, vk, e0, hC.off e (fun o z => by unfold CelO dNO at z; cases z), e2, p.off hC⟩
  | lcT kvs =>
    obtain ⟨P, w, xs, vs, od, e0, e, e2, p, pk⟩ := h
    have n : ∀ o, HO.frz od (dTO P w a xs vs) ≠ CelO o := fun o z => by unfold CelO cellT dTO at z; injection z with z1 z2; injection z2 with z3; exact absurd (congrFun z3 ({} : Heap)) (fun q => by have q2 := q.mpr True.intro; obtain ⟨_, _, _, _, _, _, o', _, _, h, _⟩ := q2; simp [Heap.get?] at h)
    exact ⟨hC.out e n, P, w, xs, vs, od, e0, hC.off e n, e2, p.off hC, fun x hx => (pk x hx).off hC⟩
  | lcN kvs =>
    obtain ⟨P, w, vk, od, e0, e, e2, p⟩ := h
    have n : ∀ o, HO.frz od (dNO P w a vk) ≠ CelO o := fun o z => by unfold CelO cellT dNO at z; injection z with z1 z2; injection z2 with z3; exact absurd (congrFun z3 ({} : Heap)) (fun q => by have q2 := q.mpr True.intro; obtain ⟨_, _, _, _, o', _, _, h, _⟩ := q2; simp [Heap.get?] at h)
    exact ⟨hC.out e n, P, w, vk, od, e0, hC.off e n, e2, p.off hC⟩
theorem RelC.off (hC : CelsAt C H) (r : RelC K mg F c st H) : RelC K mg (offF C F) c st (offH C H) := by
  refine ⟨fun a h => by obtain ⟨o, e⟩ := r.trk a h.1; exact ⟨o, by rw [offH_out h.2]; exact e⟩, r.len, r.nd, fun n a x hn hx => (CellOk.offC hC (r.cl n a x hn hx)).2, fun a ha h => r.nf a ha h.1, fun p hp => ?_⟩
  obtain ⟨t1, t2, ps, t3, t4, t5⟩ := r.tab p hp
  have n : ∀ o, HO.tbl ps ≠ CelO o := fun o z => by unfold CelO at z; cases z
  refine ⟨fun h => t1 h.1, t2, ps, hC.off t3 n, t4, fun pos cv h => ?_⟩
  obtain ⟨c', e, f, k⟩ := t5 pos cv h
  have n2 : ∀ o, LamX.CodeO c' p.2 ≠ CelO o := fun o z => by unfold CelO LamX.CodeO at z; cases z
  exact ⟨c', e, ⟨f, hC.out k n2⟩, hC.off k n2⟩
omit [VEnv] in
/-- cells put on where there are none -/
theorem stp_on (h0 : ∀ a ∈ C, H a = none) : Stp F c H (onF C F) c (onH C H₀ H) :=
  ⟨fun _ h => .inl h, fun a o _ h => by rw [onH_out fun m => by rw [h0 a m] at h; cases h]; exact h, ⟨[], (List.append_nil c).symm⟩, fun d x h => by rw [onH_out fun m => by rw [h0 d m] at h; cases h]; exact h, fun d o u h => by rw [onH_out fun m => by rw [h0 d m] at h; cases h]; exact h⟩
theorem RelC.on (h0 : ∀ a ∈ C, H a = none) (hC : CelsAt C H₀) (r : RelC K mg F c st H) : RelC K mg (onF C F) c st (onH C H₀ H) := by
  have nc : ∀ a ∈ c, a ∉ C := fun a ha m => by
    obtain ⟨o, e⟩ := r.ctrk ha
    rw [h0 a m] at e; cases e
  refine r.stp (stp_on h0) (fun a h => ?_) (fun a ha => onH_out (nc a ha)) (fun a ha h => h.elim (r.nf a ha) (nc a ha)) (fun d x h => by rw [onH_out fun m => by rw [h0 d m] at h; cases h]; exact h) (fun d x h => by rw [onH_out fun m => by rw [h0 d m] at h; cases h]; exact h) fun d ps h hf => hf.elim id fun m => by rw [h0 d m] at h; cases h
  by_cases m : a ∈ C
  · obtain ⟨o, e⟩ := hC a m
    exact ⟨_, by rw [onH_in m]; exact e⟩
  · obtain ⟨o, e⟩ := r.trk a (h.elim id fun z => absurd z m)
    exact ⟨o, by rw [onH_out m]; exact e⟩
end
section
variable {P : Program} {w : World} {K : PySem.W.Frag} {mg : Str → Option Value} {base B h h' : Heap} {A : Around} {outer : List Env} {s s' : Shared} {H H' H₀ : Hp} {C fs : List Addr} {Q Q' : VK} {E E' : XK} {a : Addr} {u : Value}
omit [VEnv] in
theorem celT_ok (e : ∃ o, h.get? a = some o) : ObjOk P w H h a cellT := ⟨True.intro, e, fun _ _ _ _ => True.intro⟩
omit [VEnv] in
theorem cel_ok {o : Obj} (e : h.get? a = some o) : ObjOk P w H h a (CelO o) := ⟨e, celT_ok ⟨o, e⟩⟩
omit [VEnv] in
theorem cel_get (ok : HOk P w H h) {o : Obj} (e : H a = some (CelO o)) : h.get? a = some o := (ok a _ e).1
omit [VEnv] in
theorem own_ne {x : Addr} : ∀ o, HO.own x ≠ CelO o := fun o z => by unfold CelO at z; cases z
omit [VEnv] in
theorem tup_ne {xs : List V} : ∀ o, HO.tup xs ≠ CelO o := fun o z => by unfold CelO at z; cases z
omit [VEnv] in
theorem tbl_ne {ps : Array Value} : ∀ o, HO.tbl ps ≠ CelO o := fun o z => by unfold CelO at z; cases z
omit [VEnv] in
theorem HOk.offC (ok : HOk P w H h) (hC : CelsAt C H) : HOk P w (offH C H) h := fun b o q => by
  obtain ⟨n, q⟩ := off_some q
  exact (ok b o q).stay (fun _ _ _ z => z) (fun d z => hC.off z own_ne) fun d xs z => hC.off z tup_ne
omit [VEnv] in
theorem HOk.onC (ok : HOk P w H h) (h0 : ∀ a ∈ C, H a = none) (hO : ∀ a ∈ C, ∃ o, H₀ a = some (CelO o) ∧ h.get? a = some o) : HOk P w (onH C H₀ H) h := fun b o q => by
  by_cases m : b ∈ C
  · rw [onH_in m] at q
    obtain ⟨o', e, g⟩ := hO b m
    rw [e] at q; cases q
    exact cel_ok g
  · rw [onH_out m] at q
    have up : ∀ d v, H d = some v → onH C H₀ H d = some v := fun d v z => by rw [onH_out fun m => by rw [h0 d m] at z; cases z]; exact z
    exact (ok b o q).stay (fun _ _ _ z => z) (fun d z => up d _ z) fun d xs z => up d _ z
theorem Env0.offC (e : Env0 P w K mg base A outer s H) (hC : CelsAt C H) : Env0 P w K mg base A outer s (offH C H) := by
  have z : ∀ b, H b = none → offH C H b = none := fun b n => by unfold offH; split <;> first | rfl | exact n
  exact ⟨e.frames, e.mod, fun b o h => ⟨(e.bs b o h).1, z b (e.bs b o h).2⟩, e.bsz, e.funs, fun b hb => z b (e.frf b hb), HOk.offC e.hok hC, e.bare⟩
theorem Env0.onC (e : Env0 P w K mg base A outer s H) (h0 : ∀ a ∈ C, H a = none) (hO : ∀ a ∈ C, ∃ o, H₀ a = some (CelO o) ∧ s.heap.get? a = some o) (hf : ∀ a ∈ C, a ∉ frs outer) (hb : ∀ a ∈ C, base.get? a = none) : Env0 P w K mg base A outer s (onH C H₀ H) := by
  refine ⟨e.frames, e.mod, fun b o h => ⟨(e.bs b o h).1, ?_⟩, e.bsz, e.funs, fun b hb' => ?_, HOk.onC e.hok h0 hO, e.bare⟩
  · rw [onH_out fun m => by rw [hb b m] at h; cases h]; exact (e.bs b o h).2
  · rw [onH_out fun m => hf b m hb']; exact e.frf b hb'
omit [VEnv] in
theorem un_on (un : Un fs [] (offH C H) H' h h') (hC : CelsAt C H) (h0 : ∀ a ∈ C, H' a = none) : Un fs [] H (onH C H H') h h' := by
  have z : ∀ b, H b = none → offH C H b = none := fun b n => by unfold offH; split <;> first | rfl | exact n
  have nc : ∀ b, H b = none → b ∉ C := fun b n m => by obtain ⟨o, e⟩ := hC b m; rw [n] at e; cases e
  refine ⟨fun b o q n => un.keep b o q (z b n), fun b o q n => un.slot b o q (z b n), fun b o q n hx => ?_, un.there, fun b xs q => ?_, fun b o x q => ?_, fun b ps q => ?_⟩
  · rw [onH_out (nc b n)]; exact un.free b o q (z b n) hx
  · rw [onH_out (hC.out q tup_ne)]; exact un.tups b xs (hC.off q tup_ne)
  · by_cases m : b ∈ C
    · rw [onH_in m]; exact q
    · rw [onH_out m]; exact un.frzs b o x (by rw [offH_out m]; exact q)
  · rw [onH_out (hC.out q tbl_ne)]; exact un.tbls b ps (hC.off q tbl_ne)
omit [VEnv] in
theorem un_off (un : Un fs [] (onH C H₀ H) H' h h') (hC : CelsAt C H₀) (h0 : ∀ a ∈ C, H a = none) (hk : ∀ a ∈ C, ∀ o, h.get? a = some o → h'.get? a = some o) : Un fs [] H (offH C H') h h' := by
  have up : ∀ d v, H d = some v → d ∉ C ∧ onH C H₀ H d = some v := fun d v z => by
    have m : d ∉ C := fun m => by rw [h0 d m] at z; cases z
    exact ⟨m, by rw [onH_out m]; exact z⟩
  refine ⟨fun b o q n hb hx => ?_, fun b o q n hb hx => ?_, fun b o q n hx => ?_, un.there, fun b xs q => ?_, fun b o x q => ?_, fun b ps q => ?_⟩
  · by_cases m : b ∈ C
    · exact hk b m o q
    · exact un.keep b o q (by rw [onH_out m]; exact n) hb hx
  · by_cases m : b ∈ C
    · exact ⟨o.slots, hk b m o q⟩
    · exact un.slot b o q (by rw [onH_out m]; exact n) hb hx
  · by_cases m : b ∈ C
    · exact offH_in m
    · rw [offH_out m]; exact un.free b o q (by rw [onH_out m]; exact n) hx
  · obtain ⟨m, k⟩ := up b _ q
    rw [offH_out m]; exact un.tups b xs k
  · obtain ⟨m, k⟩ := up b _ q
    rw [offH_out m]; exact un.frzs b o x k
  · obtain ⟨m, k⟩ := up b _ q
    rw [offH_out m]; exact un.tbls b ps k
/-- a run without the cells, told with them -/
theorem cr_on {r : Result} (hr : CR (L2Z.CX P w K) outer P w (offH C H) s Q' E' r s') (hC : CelsAt C H) (ok : HOk P w H s.heap) (hf : ∀ a ∈ C, a ∉ frs outer)
    (hq : ∀ v H', (∀ a ∈ C, H' a = none) → Q' v H' → Q v (onH C H H')) (he : ∀ cls d H', (∀ a ∈ C, H' a = none) → E' cls d H' → E cls d (onH C H H')) : CR (L2Z.CX P w K) outer P w H s Q E r s' := by
  have fr : ∀ {H' : Hp}, (∀ b o, s.heap.get? b = some o → offH C H b = none → H' b = none) → ∀ a ∈ C, H' a = none := fun {H'} f a m => by
    obtain ⟨o, e⟩ := hC a m
    exact f a o (cel_get ok e) (offH_in m)
  cases r with
  | ok fl =>
    cases fl with
    | ret u =>
      obtain ⟨v, H', os, bare, un, hok, rv, q⟩ := hr
      have h0 := fr fun b o q n => un.free b o q n (by simp)
      refine ⟨v, onH C H H', os, bare, un_on un hC h0, HOk.onC hok h0 fun a m => ?_, rv, hq v H' h0 q⟩
      obtain ⟨o, e⟩ := hC a m
      exact ⟨o, e, un.keep a o (cel_get ok e) (offH_in m) (hf a m) (by simp)⟩
    | next => exact hr
    | brk => exact hr
    | cont => exact hr
  | error e =>
    rcases hr with hr | hr
    · refine .inl ?_
      obtain ⟨a, B, H', cls, d, e1, fl, hok, ub, na, os, bare, q⟩ := hr
      have z : ∀ b, H b = none → offH C H b = none := fun b n => by unfold offH; split <;> first | rfl | exact n
      have nc : ∀ b, H b = none → b ∉ C := fun b n m => by obtain ⟨o, e⟩ := hC b m; rw [n] at e; cases e
      have h0 := fr ub.free
      have inB : ∀ b ∈ C, ∃ o, H b = some (CelO o) ∧ B.get? b = some o := fun b m => by
        obtain ⟨o, e⟩ := hC b m
        exact ⟨o, e, ub.keep b o (cel_get ok e) (offH_in m) (hf b m)⟩
      refine ⟨a, B, onH C H H', cls, d, e1, fl, HOk.onC hok h0 inB, ⟨fun b o q n => ub.keep b o q (z b n), ub.slot, fun b o q n => ?_, ub.there, fun b xs q => ?_, fun b o x q => ?_, fun b ps q => ?_⟩, ?_, os, bare, ⟨q.1, he cls d H' h0 q.2⟩⟩
      · rw [onH_out (nc b n)]; exact ub.free b o q (z b n)
      · rw [onH_out (hC.out q tup_ne)]; exact ub.tups b xs (hC.off q tup_ne)
      · by_cases m : b ∈ C
        · rw [onH_in m]; exact q
        · rw [onH_out m]; exact ub.frzs b o x (by rw [offH_out m]; exact q)
      · rw [onH_out (hC.out q tbl_ne)]; exact ub.tbls b ps (hC.off q tbl_ne)
      · by_cases m : a ∈ C
        · obtain ⟨o, _, e⟩ := inB a m
          rw [fl.2.1] at e; cases e
        · rw [onH_out m]; exact na
    · refine .inr ?_
      obtain ⟨a, B, H', cls, d, e1, fl, hok, ub, na, os, bare, q⟩ := hr
      have z : ∀ b, H b = none → offH C H b = none := fun b n => by unfold offH; split <;> first | rfl | exact n
      have nc : ∀ b, H b = none → b ∉ C := fun b n m => by obtain ⟨o, e⟩ := hC b m; rw [n] at e; cases e
      have h0 := fr ub.free
      have inB : ∀ b ∈ C, ∃ o, H b = some (CelO o) ∧ B.get? b = some o := fun b m => by
        obtain ⟨o, e⟩ := hC b m
        exact ⟨o, e, ub.keep b o (cel_get ok e) (offH_in m) (hf b m)⟩
      refine ⟨a, B, onH C H H', cls, d, e1, fl, HOk.onC hok h0 inB, ⟨fun b o q n => ub.keep b o q (z b n), ub.slot, fun b o q n => ?_, ub.there, fun b xs q => ?_, fun b o x q => ?_, fun b ps q => ?_⟩, ?_, os, bare, ⟨q.1, he cls d H' h0 q.2⟩⟩
      · rw [onH_out (nc b n)]; exact ub.free b o q (z b n)
      · rw [onH_out (hC.out q tup_ne)]; exact ub.tups b xs (hC.off q tup_ne)
      · by_cases m : b ∈ C
        · rw [onH_in m]; exact q
        · rw [onH_out m]; exact ub.frzs b o x (by rw [offH_out m]; exact q)
      · rw [onH_out (hC.out q tbl_ne)]; exact ub.tbls b ps (hC.off q tbl_ne)
      · by_cases m : a ∈ C
        · obtain ⟨o, _, e⟩ := inB a m
          rw [fl.2.1] at e; cases e
        · rw [onH_out m]; exact na
/-- a run with the cells, told without them -/
theorem cr_off {r : Result} (hr : CR (L2Z.CX P w K) outer P w (onH C H₀ H) s Q' E' r s') (hC : CelsAt C H₀) (h0 : ∀ a ∈ C, H a = none) (hO : ∀ a ∈ C, ∀ o, H₀ a = some (CelO o) → s.heap.get? a = some o)
    (hq : ∀ v H', CelsAt C H' → Q' v H' → Q v (offH C H')) (he : ∀ cls d H', CelsAt C H' → E' cls d H' → E cls d (offH C H')) : CR (L2Z.CX P w K) outer P w H s Q E r s' := by
  have up : ∀ d v, H d = some v → d ∉ C ∧ onH C H₀ H d = some v := fun d v z => by
    have m : d ∉ C := fun m => by rw [h0 d m] at z; cases z
    exact ⟨m, by rw [onH_out m]; exact z⟩
  have cel : ∀ {H' : Hp}, (∀ b o x, onH C H₀ H b = some (.frz o x) → H' b = some (.frz o x)) → ∀ a ∈ C, ∃ o, H₀ a = some (CelO o) ∧ H' a = some (CelO o) := fun {H'} f a m => by
    obtain ⟨o, e⟩ := hC a m
    exact ⟨o, e, f a o cellT (by rw [onH_in m]; exact e)⟩
  cases r with
  | ok fl =>
    cases fl with
    | ret u =>
      obtain ⟨v, H', os, bare, un, hok, rv, q⟩ := hr
      have hc := cel un.frzs
      have hC' : CelsAt C H' := fun a m => by obtain ⟨o, _, e⟩ := hc a m; exact ⟨o, e⟩
      refine ⟨v, offH C H', os, bare, un_off un hC h0 (fun a m o q => ?_), HOk.offC hok hC', rv, hq v H' hC' q⟩
      obtain ⟨o', e1, e2⟩ := hc a m
      rw [hO a m o' e1] at q; cases q
      exact cel_get hok e2
    | next => exact hr
    | brk => exact hr
    | cont => exact hr
  | error e =>
    rcases hr with hr | hr
    · refine .inl ?_
      obtain ⟨a, B, H', cls, d, e1, fl, hok, ub, na, os, bare, q⟩ := hr
      have hc := cel ub.frzs
      have hC' : CelsAt C H' := fun a m => by obtain ⟨o, _, e⟩ := hc a m; exact ⟨o, e⟩
      refine ⟨a, B, offH C H', cls, d, e1, fl, HOk.offC hok hC', ⟨fun b o q n hb => ?_, ub.slot, fun b o q n => ?_, ub.there, fun b xs q => ?_, fun b o x q => ?_, fun b ps q => ?_⟩, ?_, os, bare, ⟨q.1, he cls d H' hC' q.2⟩⟩
      · by_cases m : b ∈ C
        · obtain ⟨o', e1, e2⟩ := hc b m
          rw [hO b m o' e1] at q; cases q
          exact cel_get hok e2
        · exact ub.keep b o q (by rw [onH_out m]; exact n) hb
      · by_cases m : b ∈ C
        · exact offH_in m
        · rw [offH_out m]; exact ub.free b o q (by rw [onH_out m]; exact n)
      · obtain ⟨m, k⟩ := up b _ q
        rw [offH_out m]; exact ub.tups b xs k
      · obtain ⟨m, k⟩ := up b _ q
        rw [offH_out m]; exact ub.frzs b o x k
      · obtain ⟨m, k⟩ := up b _ q
        rw [offH_out m]; exact ub.tbls b ps k
      · unfold offH; split <;> first | rfl | exact na
    · refine .inr ?_
      obtain ⟨a, B, H', cls, d, e1, fl, hok, ub, na, os, bare, q⟩ := hr
      have hc := cel ub.frzs
      have hC' : CelsAt C H' := fun a m => by obtain ⟨o, _, e⟩ := hc a m; exact ⟨o, e⟩
      refine ⟨a, B, offH C H', cls, d, e1, fl, HOk.offC hok hC', ⟨fun b o q n hb => ?_, ub.slot, fun b o q n => ?_, ub.there, fun b xs q => ?_, fun b o x q => ?_, fun b ps q => ?_⟩, ?_, os, bare, ⟨q.1, he cls d H' hC' q.2⟩⟩
      · by_cases m : b ∈ C
        · obtain ⟨o', e1, e2⟩ := hc b m
          rw [hO b m o' e1] at q; cases q
          exact cel_get hok e2
        · exact ub.keep b o q (by rw [onH_out m]; exact n) hb
      · by_cases m : b ∈ C
        · exact offH_in m
        · rw [offH_out m]; exact ub.free b o q (by rw [onH_out m]; exact n)
      · obtain ⟨m, k⟩ := up b _ q
        rw [offH_out m]; exact ub.tups b xs k
      · obtain ⟨m, k⟩ := up b _ q
        rw [offH_out m]; exact ub.frzs b o x k
      · obtain ⟨m, k⟩ := up b _ q
        rw [offH_out m]; exact ub.tbls b ps k
      · unfold offH; split <;> first | rfl | exact na
end
section
variable {K : PySem.W.Frag} {mg : Str → Option Value} {F F' : Addr → Prop} {c c' : List Addr} {st st' : Sto} {H H' H₀ : Hp} {C : List Addr} {Q : VK} {E : XK} {cls : Value} {dx : Option Addr} {x : Exn}
theorem RpX.stpC (h : RpX K mg F c H cls dx x) (s : Stp F c H F' c' H') : RpX K mg F' c' H' cls dx x := by
  obtain ⟨m, h⟩ := h
  refine ⟨m, h.elim .inl fun ⟨d', vfs, e, f, k, e2, r⟩ => .inr ⟨d', vfs, e, s.inc _ f, s.keep _ _ f k, e2, r.stp s⟩⟩
theorem RpX.off (hC : CelsAt C H) (h : RpX K mg F c H cls dx x) : RpX K mg (offF C F) c (offH C H) cls dx x := by
  obtain ⟨m, h⟩ := h
  refine ⟨m, h.elim .inl fun ⟨d', vfs, e, f, k, e2, r⟩ => .inr ⟨d', vfs, e, ?_, ?_, e2, r.off hC⟩⟩
  · exact ⟨f, hC.out k fun o z => by unfold CelO at z; cases z⟩
  · exact hC.off k fun o z => by unfold CelO at z; cases z
/-- for a call without the cells -/
theorem postF_off {r : RF} (hC : CelsAt C H) (hF : ∀ a ∈ C, F a) (p : PostF K mg false F c H Q E r) :
    PostF K mg false (offF C F) c (offH C H) (fun v H' => (∀ a ∈ C, H' a = none) → Q v (onH C H H')) (fun cls d H' => (∀ a ∈ C, H' a = none) → E cls d (onH C H H')) r := by
  have stp : ∀ {F' : Addr → Prop} {c' : List Addr} {H' : Hp}, (∀ a ∈ C, H' a = none) → Stp (offF C F) c (offH C H) F' c' H' → Stp F c H (onF C F') c' (onH C H H') := fun {F' c' H'} h0 s => by
    refine ⟨fun a f => ?_, fun a o f h => ?_, s.cs, fun d x h => ?_, fun d o u h => ?_⟩
    · by_cases m : a ∈ C
      · exact .inr m
      · exact .inl (s.inc a ⟨f, m⟩)
    · by_cases m : a ∈ C
      · rw [onH_in m]; exact h
      · rw [onH_out m]; exact s.keep a o ⟨f, m⟩ (by rw [offH_out m]; exact h)
    · have m := hC.out h own_ne
      rw [onH_out m]; exact s.own d x (hC.off h own_ne)
    · by_cases m : d ∈ C
      · rw [onH_in m]; exact h
      · rw [onH_out m]; exact s.lck d o u (by rw [offH_out m]; exact h)
  have old : ∀ {F' : Addr → Prop} {c' : List Addr} {H' : Hp} {st' : Sto}, (∀ a ∈ C, H' a = none) → RelC K mg F' c' st' H' → Old (offF C F) c (offH C H) F' c' H' → Old F c H (onF C F') c' (onH C H H') := fun {F' c' H' st'} h0 rc o => by
    refine ⟨fun a u h hn => ?_, fun a h => ?_, fun a h => ?_⟩
    · by_cases m : a ∈ C
      · exact .inl (by rw [onH_in m]; exact h)
      · exact (o.keep a u (by rw [offH_out m]; exact h) hn).up fun u h => .inl (by rw [onH_out m]; exact h)
    · by_cases m : a ∈ C
      · exact .inl (hF a m)
      · rcases o.new a (h.elim id fun z => absurd z m) with z | z
        · exact .inl z.1
        · exact .inr (by rw [offH_out m] at z; exact z)
    · have m : a ∉ C := fun m => by
        obtain ⟨u, e⟩ := rc.ctrk h
        rw [h0 a m] at e; cases e
      exact (o.nwc a h).imp id fun z => by rw [offH_out m] at z; exact z
  cases r with
  | ok d st' => exact fun v F' c' H' s rc o rv h0 => p v _ c' _ (stp h0 s) (rc.on h0 hC) (old h0 rc o) (show Rp K mg _ c' _ v d from (show Rp K mg F' c' H' v d from rv).stp (stp_on h0))
  | ex x st' => exact fun cls dx F' c' H' s rc o rx h0 => p cls dx _ c' _ (stp h0 s) (rc.on h0 hC) (old h0 rc o) (rx.stpC (stp_on h0))
  | bad => exact p
/-- for a call with the cells -/
theorem postF_on {fr : Bool} {r : RF} (hC : CelsAt C H₀) (h0 : ∀ a ∈ C, H a = none) (hF : ∀ a, F a → a ∉ C) (p : PostF K mg fr F c H Q E r) :
    PostF K mg fr (onF C F) c (onH C H₀ H) (fun v H' => CelsAt C H' → Q v (offH C H')) (fun cls d H' => CelsAt C H' → E cls d (offH C H')) r := by
  have up : ∀ {d : Addr} {v : HO}, H d = some v → d ∉ C ∧ onH C H₀ H d = some v := fun {d v} z => by
    have m : d ∉ C := fun m => by rw [h0 d m] at z; cases z
    exact ⟨m, by rw [onH_out m]; exact z⟩
  have nn : ∀ {a : Addr}, onH C H₀ H a = none → a ∉ C ∧ H a = none := fun {a} z => by
    by_cases m : a ∈ C
    · obtain ⟨o, e⟩ := hC a m
      rw [onH_in m, e] at z; cases z
    · exact ⟨m, by rw [onH_out m] at z; exact z⟩
  have stp : ∀ {F' : Addr → Prop} {c' : List Addr} {H' : Hp}, CelsAt C H' → Stp (onF C F) c (onH C H₀ H) F' c' H' → Stp F c H (offF C F') c' (offH C H') := fun {F' c' H'} hC' s => by
    refine ⟨fun a f => ⟨s.inc a (.inl f), hF a f⟩, fun a o f h => ?_, s.cs, fun d x h => ?_, fun d o u h => ?_⟩
    · rw [offH_out (hF a f)]; exact s.keep a o (.inl f) (up h).2
    · obtain ⟨m, k⟩ := up h
      rw [offH_out m]; exact s.own d x k
    · obtain ⟨m, k⟩ := up h
      rw [offH_out m]; exact s.lck d o u k
  have old : ∀ {F' : Addr → Prop} {c' : List Addr} {H' : Hp}, Old (onF C F) c (onH C H₀ H) F' c' H' → Old F c H (offF C F') c' (offH C H') := fun {F' c' H'} o => by
    refine ⟨fun a u h hn => ?_, fun a h => ?_, fun a h => ?_⟩
    · obtain ⟨m, k⟩ := up h
      exact (o.keep a u k hn).up fun u h => .inl (by rw [offH_out m]; exact h)
    · rcases o.new a h.1 with z | z
      · exact .inl (z.elim id fun z => absurd z h.2)
      · exact .inr (nn z).2
    · exact (o.nwc a h).imp id fun z => (nn z).2
  have ret : ∀ {F' : Addr → Prop} {c' : List Addr} {H' : Hp} {v : V} {d : D}, CelsAt C H' → RetOk K mg fr F' c' (onH C H₀ H) H' v d → RetOk K mg fr (offF C F') c' H (offH C H') v d := fun {F' c' H' v d} hC' rv => by
    cases fr with
    | false => exact (show Rp K mg F' c' H' v d from rv).off hC'
    | true =>
      obtain ⟨a, rfl, h1, h2, h3, h4⟩ := rv
      refine ⟨a, rfl, fun z => h1 z.1, h2, (nn h3).2, ?_⟩
      cases d with
      | lst ds => obtain ⟨vs, e, r⟩ := h4; exact ⟨vs, hC'.off e (fun o z => by unfold CelO at z; cases z), r.off hC'⟩
      | _ => exact h4.elim
  cases r with
  | ok d st' => exact fun v F' c' H' s rc o rv hC' => p v _ c' _ (stp hC' s) (rc.off hC') (old o) (ret hC' rv)
  | ex x st' => exact fun cls dx F' c' H' s rc o rx hC' => p cls dx _ c' _ (stp hC' s) (rc.off hC') (old o) (rx.off hC')
  | bad => exact p
end
/-- what is captured, where it is known -/
def CapOk (K : PySem.W.Frag) (mg : Str → Option Value) (F : Addr → Prop) (c : List Addr) (H : Hp) (ws : List (Option V)) (caps : List (Option D)) : Prop := ws.length = caps.length ∧ ∀ (j : Nat) (d : D), caps[j]? = some (some d) → ∃ v, ws[j]? = some (some v) ∧ Rp K mg F c H v d
structure LamOk (P : Program) (w : World) (K : PySem.W.Frag) (mg : Str → Option Value) (base : Heap) (k i : Nat) (m : List (Option D) → FM) : Prop where
  run : ∀ (A : Around) (outer : List Env) (s : Shared) (H : Hp) (us : List Value) (vs : List V) (ws : List (Option V)) (caps : List (Option D)) (Q : VK) (E : XK) (f c' : Addr) (cells : List (Str × Addr)) (F : Addr → Prop) (c : List Addr) (ds : List D) (st : Sto),
    Room k A → Env0 P w K mg base A outer s H → H f = some (FnL f (VEnv.code i) cells c') → H c' = some (LamX.CodeO c' (VEnv.code i).qual) → NdefX.CellsAt (cloFrom cells (VEnv.code i).scope.names []) (VEnv.code i).fr ws s.heap H → Vals vs us →
    RelC K mg F c st H → Rps K mg F c H vs ds → CapOk K mg F c H ws caps → ds.length = (VEnv.code i).ps.length → PostF K mg false F c H Q E (m caps ds st) → codeAny (model P w) A (.call (.ref f) ⟨us, []⟩) (CR (L2Z.CX P w K) outer P w H s Q E) s
theorem LamOk.mono {P : Program} {w : World} {K : PySem.W.Frag} {mg : Str → Option Value} {base : Heap} {j k i : Nat} {m : List (Option D) → FM} (o : LamOk P w K mg base j i m) (h : j ≤ k) : LamOk P w K mg base k i m :=
  ⟨fun A outer s H us vs ws caps Q E f c' cells F c ds st hr => o.run A outer s H us vs ws caps Q E f c' cells F c ds st (hr.mono h)⟩
theorem LamOk.none {P : Program} {w : World} {K : PySem.W.Frag} {mg : Str → Option Value} {base : Heap} {k i : Nat} : LamOk P w K mg base k i (fun _ _ _ => .bad) :=
  ⟨fun A outer s H us vs ws caps Q E f c' cells F c ds st _ _ _ _ _ _ _ _ _ _ h => h.elim⟩
def capS : Option D → Sl
  | some d => .va d
  | none => .no
/-- the names at a lambda's entry: parameters, captured ones, its own -/
def envL (n : Nat) (ds : List D) (caps : List (Option D)) : EnvD := ds.map .va ++ (caps.map capS ++ List.replicate (n - ds.length - caps.length) .no)
def toRFe : R D → RF
  | .ok d _ st => .ok d st
  | .ex x _ st => .ex x st
  | .bad => .bad
def toLam (n : Nat) (g : M D) : List (Option D) → FM := fun caps ds st => toRFe (g (envL n ds caps) st)
section
variable {P : Program} {w : World} {K : PySem.W.Frag} {mg : Str → Option Value} {base : Heap} {F F' : Addr → Prop} {c c' : List Addr} {st st' : Sto} {H H' H₀ : Hp} {C : List Addr} {Q : VK} {E : XK} {N : List Str} {vs : List V} {ds : List D} {ws : List (Option V)} {caps : List (Option D)}
theorem rel_startF {n : Nat} (rc : RelC K mg F c st H) (rp : Rps K mg F c H vs ds) (cp : CapOk K mg F c H ws caps) (hn : n = N.length) : Rel ⟨K, mg, H, F, c⟩ F c (envL n ds caps) st (NdefX.startF N vs ws) H := by
  have hl := rp.length
  have hw := cp.1
  refine ⟨rc, ?_, fun i s e => ?_, fun i j a h => ?_, fun a o e _ => .inl e, fun a h => .inl h, fun a h => .inl h, rc.trk, fun a h => rc.ctrk h⟩
  · unfold envL NdefX.startF
    simp only [List.length_append, List.length_map, List.length_replicate, hl, hw, hn]
  · unfold envL at e
    unfold NdefX.startF
    by_cases hi : i < ds.length
    · rw [List.getElem?_append_left (by simpa using hi), List.getElem?_map] at e
      cases hd : ds[i]? with
      | none => rw [hd] at e; cases e
      | some d =>
        rw [hd] at e; cases e
        obtain ⟨v, hv, h⟩ := rp.get' hd
        refine ⟨v, ?_, h⟩
        rw [List.getElem?_append_left (by rw [List.length_map, hl]; exact hi), List.getElem?_map, hv]
        rfl
    · rw [List.getElem?_append_right (by simpa using hi), List.length_map] at e
      by_cases hj : i - ds.length < caps.length
      · rw [List.getElem?_append_left (by simpa using hj), List.getElem?_map] at e
        cases hd : caps[i - ds.length]? with
        | none => rw [hd] at e; cases e
        | some d =>
          rw [hd] at e; cases e
          cases d with
          | none => trivial
          | some d =>
            obtain ⟨v, hv, h⟩ := cp.2 _ d hd
            refine ⟨v, ?_, h⟩
            rw [List.getElem?_append_right (by rw [List.length_map]; omega), List.length_map, hl, List.getElem?_append_left (by omega), hv]
      · rw [List.getElem?_append_right (by simpa using hj), List.getElem?_replicate] at e
        split at e
        · cases e; trivial
        · cases e
  · obtain ⟨d, e, _⟩ := h
    have : (Sl.ow d) ∈ envL n ds caps := List.mem_of_getElem? e
    unfold envL at this
    simp only [List.mem_append, List.mem_map, List.mem_replicate] at this
    rcases this with ⟨x, _, e⟩ | ⟨x, _, e⟩ | ⟨_, e⟩
    · cases e
    · cases x <;> cases e
    · cases e
end
section
variable {P : Program} {w : World} {K : PySem.W.Frag} {mg : Str → Option Value} {base : Heap} {N : List Str} {k i : Nat} {H : Hp} {f c' : Addr} {cells : List (Str × Addr)} {L : LamCode} {h : Heap}
/-- a function of ours, in the library's words (its body apart) -/
def nfL (L : LamCode) (cells : List (Str × Addr)) (c' : Addr) : NdefX.NF := ⟨L.name, L.qual, L.params, [], L.scope, cloFrom cells L.scope.names [], c'⟩
abbrev lamX (P : Program) (w : World) (K : PySem.W.Frag) (mg : Str → Option Value) (base : Heap) (N : List Str) (L : LamCode) (cells : List (Str × Addr)) (c' f : Addr) (A : Around) (outer : List Env) (s : Shared) (H : Hp) (E : XK) : Cx :=
  NdefX.ncx (L2Z.CX P w K) P w K mg base N (nfL L cells c') f A outer s H E
/-- how arguments are bound -/
def Bnd (L : LamCode) : Prop := ∀ fd : FuncData, fd.params = L.params → fd.defaults = .none → fd.kwdefaults = .none → ∀ us : List Value, us.length = L.ps.length → bindArgs fd ⟨us, []⟩ = pure (L.ps.zip us)
omit [VEnv] in
theorem fnL_at (ok : HOk P w H h) (e : H f = some (FnL f L cells c')) : ∃ (od : Option Addr) (sl : Array (Option Value)) (doc pm ctv : Value),
    h.get? f = some (⟨.type "function", od, .func { name := L.name, qualname := L.qual, params := L.params, body := L.body, scope := L.scope, globals := mainGlobals, closure := cloFrom cells L.scope.names [], defaults := .none, kwdefaults := .none, doc, pyModule := pm, annotations := none, code := .ref c', closureTuple := ctv, builtins := builtinsNs }, sl⟩ : Obj) :=
  (ok f _ e).1
theorem Rel.oldOf' {b : Bs} {F' : Addr → Prop} {c'' : List Addr} {env : EnvD} {st : Sto} {σ : L2.St} {H' : Hp} (r : Rel b F' c'' env st σ H') (s : Stp b.F0 b.c0 b.H0 F' c'' H') : Old b.F0 b.c0 b.H0 F' c'' H' :=
  r.oldOf fun a ha => by obtain ⟨l, e⟩ := s.cs; rw [e]; exact List.mem_append_left _ ha
/-- a lambda keeps what its body tells -/
theorem lam_of {e : Expr} {g : M D} (hL : VEnv.code i = L) (S : NdefX.NScope N L.ps L.fr L.scope) (hb : L.body = .expr e) (bd : Bnd L)
    (he : ∀ (A : Around) (outer : List Env) (s : Shared) (H : Hp) (E : XK) (f c' : Addr) (cells : List (Str × Addr)), Room k (A.deeper (NdefX.envF (nfL L cells c') f s.heap.objs.size)) → VE (lamX P w K mg base N L cells c' f A outer s H E) (fun cls d _ H => E cls d H) e g) :
    LamOk P w K mg base (k + 1) i (toLam N.length g) := by
  subst hL
  refine ⟨fun A outer s H us vs ws caps Q E f c' cells F c ds st hr e0 hf hc C r rc rp cp hl p => ?_⟩
  obtain ⟨od, sl, doc, pm, ctv, ho⟩ := fnL_at e0.hok hf
  have hlv : vs.length = (VEnv.code i).ps.length := by rw [rp.length]; exact hl
  have nolim : s.heap.NoLimit := e0.mod.nolimit.keeps fun b o e => (e0.bs b o e).1
  refine PySem.W.kla_callFunE hr.depth ho rfl S.co S.gen hb (NdefX.codeO_at e0.hok hc) ?_
  rw [bd _ rfl rfl rfl us (by rw [← r.length]; exact hlv)]
  refine wpAny_pure (wpAny_newFunctionEnv S.nocell (fun ⟨n, _⟩ hy => S.par n (List.of_mem_zip hy).1) (fun h₁ hns hsb => ⟨nolim.fresh _ hsb, ?_⟩) S.kind)
  show codeAny _ _ (.expr e (NdefX.envF (nfL (VEnv.code i) cells c') f s.heap.objs.size)) _ _
  have kept : ∀ b o, s.heap.get? b = some o → h₁.get? b = some o := fun b o q => hsb.extBut b o (Nat.ne_of_lt (Heap.lt_size q)) (Heap.get?_push_of_some _ q)
  have I0 := NdefX.inv_startN (CX := L2Z.CX P w K) (N := N) (F := nfL (VEnv.code i) cells c') (f := f) (E := E) (tk := s.toks + ((VEnv.code i).ps.zip us).length) S hr.hd e0 hlv r C hns kept
  refine PySem.W.kla_codeExpr (wpAny_mono ((he A outer s H E f c' cells (hr.deeper _)).run [] _ (NdefX.startF N vs ws) H Q I0 ?_) (fun v s' hq => ?_) fun e s' hq => hq)
  · refine ⟨⟨K, mg, H, F, c⟩, F, c, envL N.length ds caps, st, rfl, rfl, rel_startF rc rp cp rfl, ?_⟩
    unfold toLam at p
    generalize g (envL N.length ds caps) st = y at p
    cases y with
    | bad => exact p
    | ex x env' st' => exact fun F' c2 H' cls d s2 r2 q => p cls d F' c2 H' s2 r2.rc (r2.oldOf' s2) q
    | ok d env' st' => exact fun F' c2 H' s2 r2 v rv => p v F' c2 H' s2 r2.rc (r2.oldOf' s2) rv
  · obtain ⟨v', H', J, rv, q⟩ := hq
    exact ⟨v', H', J.os, J.bare, J.base, J.hok, rv, q⟩
end
/-- a table was asked, or written; the function's object at f is new, its code object at c' is known -/
structure Mk (G : Addr → Prop) (H H1 : Hp) (P f c' : Addr) (ps' : Array Value) (q : Str) (o : HO) : Prop where
  tab : H1 P = some (.tbl ps')
  ok : TriplesOk ps'.toList
  all : ∀ (pos : Pos) (cv : Value), codeAmong pos ps'.toList = some cv → ∃ c0, cv = .ref c0 ∧ H1 c0 = some (LamX.CodeO c0 q) ∧ (c0 = c' ∨ G c0)
  f0 : H f = none
  f1 : H1 f = some o
  c0 : H c' = none ∨ G c'
  c1 : H1 c' = some (LamX.CodeO c' q)
  kp : ∀ u, H c' = some u → H1 c' = some u
  rest : ∀ b, b ≠ P → b ≠ f → b ≠ c' → H1 b = H b
/-- the object that is made -/
def IsFnL (L : LamCode) (cells : List (Str × Addr)) (c' : Addr) (fo : Obj) : Prop := ∃ (od : Option Addr) (sl : Array (Option Value)) (doc pm ctv : Value), fo = (⟨.type "function", od, .func { name := L.name, qualname := L.qual, params := L.params, body := L.body, scope := L.scope, globals := mainGlobals, closure := cloFrom cells L.scope.names [], defaults := .none, kwdefaults := .none, doc, pyModule := pm, annotations := none, code := .ref c', closureTuple := ctv, builtins := builtinsNs }, sl⟩ : Obj)
section
variable {G : Addr → Prop} {X : Cx} {pins : List (Addr × Obj)} {σ : L2.St} {H : Hp} {s : Shared} {P c' : Addr} {L : LamCode} {ps : Array Value} {h' : Heap} {fo : Obj} {tk : Nat} {pos : Pos} {q : Str}
omit [VEnv] in
theorem laid_fn {H1 : Hp} {h2 : Heap} (I : Inv X pins σ H1 { s with heap := h2, toks := tk }) (hfo : IsFnL L X.env.cells c' fo) : Inv X pins σ (upd H1 h2.objs.size (FnL h2.objs.size L X.env.cells c')) { s with heap := h2.push fo, toks := tk } := by
  refine I.laid (t' := tk) (a := h2.objs.size) (fun b u e => Heap.get?_push_of_some _ e) (Nat.le_refl _) ?_
  obtain ⟨od, sl, doc, pm, ctv, rfl⟩ := hfo
  refine ⟨⟨od, sl, doc, pm, ctv, Heap.get?_push_size _ rfl⟩, ⟨_, Heap.get?_push_size _ rfl⟩, fun h1 h3 ⟨od, sl, d, p, t, z⟩ st => ⟨od, sl, d, p, t, st _ z⟩⟩
omit [VEnv] in
theorem mk_hit (I : Inv X pins σ H s) (hP : H P = some (.tbl ps)) (ht : TriplesOk ps.toList) (ha : ∀ (pos : Pos) (cv : Value), codeAmong pos ps.toList = some cv → ∃ c0, cv = .ref c0 ∧ G c0 ∧ H c0 = some (LamX.CodeO c0 q)) (hc : codeAmong pos ps.toList = some (.ref c'))
    (hx : ∀ b o, s.heap.get? b = some o → h'.get? b = some o) (hfo : IsFnL L X.env.cells c' fo) : Inv X pins σ (upd H h'.objs.size (FnL h'.objs.size L X.env.cells c')) { s with heap := h'.push fo, toks := tk } ∧ Mk G H (upd H h'.objs.size (FnL h'.objs.size L X.env.cells c')) P h'.objs.size c' ps q (FnL h'.objs.size L X.env.cells c') := by
  have I1 : Inv X pins σ H { s with heap := h', toks := tk } := I.kept hx
  have n0 : H h'.objs.size = none := I1.hok.fresh (Nat.le_refl _)
  have up : ∀ b o, H b = some o → upd H h'.objs.size (FnL h'.objs.size L X.env.cells c') b = some o := fun b o e => by rw [upd_ne (ne_of_none e n0)]; exact e
  obtain ⟨c0, e, hg, hco⟩ := ha pos _ hc
  cases e
  refine ⟨laid_fn I1 hfo, up _ _ hP, ht, fun pos cv h => ?_, n0, upd_same, .inr hg, up _ _ hco, fun u e => up _ u e, fun b _ h _ => upd_ne h⟩
  obtain ⟨c0, e, hg, k⟩ := ha pos cv h
  exact ⟨c0, e, up _ _ k, .inr hg⟩
omit [VEnv] in
theorem mk_new (I : Inv X pins σ H s) (hP : H P = some (.tbl ps)) (ht : TriplesOk ps.toList) (ha : ∀ (pos : Pos) (cv : Value), codeAmong pos ps.toList = some cv → ∃ c0, cv = .ref c0 ∧ G c0 ∧ H c0 = some (LamX.CodeO c0 q))
    (hx : Heap.ExtBut P s.heap h') (hge : s.heap.objs.size ≤ c') (hlt : c' < h'.objs.size) (hrec : h'.CodeRec (.ref c') q) (htb : h'.get? P = some { cls := .none, data := .fields (ps ++ #[rawInt pos.line, rawInt pos.col, .ref c']) }) (hfo : IsFnL L X.env.cells c' fo) :
    ∃ H1, Inv X pins σ H1 { s with heap := h'.push fo, toks := tk } ∧ Mk G H H1 P h'.objs.size c' (ps ++ #[rawInt pos.line, rawInt pos.col, .ref c']) q (FnL h'.objs.size L X.env.cells c') := by
  obtain ⟨c2, oc, vs, t, e2, hoc, hd, hv⟩ := hrec
  cases e2
  have n1 : H c' = none := I.hok.fresh hge
  have I1 := LamX.inv_table (t' := tk) (more := #[rawInt pos.line, rawInt pos.col, .ref c']) (h' := h') (q := q) I hP (fun b o hb e => hx b o hb e) htb hge ⟨oc, vs, t, hoc, hd, hv⟩
  generalize hH1 : upd (upd H P (.tbl (ps ++ #[rawInt pos.line, rawInt pos.col, .ref c']))) c' (LamX.CodeO c' q) = H1 at I1
  have hPc : P ≠ c' := ne_of_none hP n1
  have a1 : ∀ b, b ≠ P → b ≠ c' → H1 b = H b := fun b h1 h2 => by rw [← hH1, upd_ne h2, upd_ne h1]
  have aP : H1 P = some (.tbl (ps ++ #[rawInt pos.line, rawInt pos.col, .ref c'])) := by rw [← hH1, upd_ne hPc, upd_same]
  have ac : H1 c' = some (LamX.CodeO c' q) := by rw [← hH1, upd_same]
  have n0 : H1 h'.objs.size = none := I1.hok.fresh (Nat.le_refl _)
  have fP : h'.objs.size ≠ P := fun z => by rw [z, aP] at n0; cases n0
  have fc : h'.objs.size ≠ c' := Nat.ne_of_gt hlt
  have up : ∀ b o, H1 b = some o → upd H1 h'.objs.size (FnL h'.objs.size L X.env.cells c') b = some o := fun b o e => by rw [upd_ne (ne_of_none e n0)]; exact e
  have eL : (ps ++ #[rawInt pos.line, rawInt pos.col, .ref c']).toList = ps.toList ++ [rawInt pos.line, rawInt pos.col, .ref c'] := by simp
  refine ⟨_, laid_fn I1 hfo, up _ _ aP, by rw [eL]; exact PySem.TriplesOk_snoc _ _ _ _ ht, fun p2 cv h => ?_, (a1 _ fP fc).symm.trans n0, upd_same, .inl n1, up _ _ ac, fun u e => (by rw [n1] at e; cases e), fun b h1 h2 h3 => by rw [upd_ne h2]; exact a1 b h1 h3⟩
  rw [eL] at h
  rcases LamX.among_app _ ht h with z | z
  · obtain ⟨c0, e1, hg, k⟩ := ha p2 cv z
    have hc0 : c0 ≠ P := fun z => by rw [z, hP] at k; exact LamX.codeO_ne _ (Option.some.inj k).symm
    exact ⟨c0, e1, up _ _ ((a1 c0 hc0 (ne_of_none k n1)).trans k), .inr hg⟩
  · exact ⟨c', z, up _ _ ac, .inl rfl⟩
/-- a lambda's value -/
theorem lam_mk {c : Addr} {params : Arguments} {body : Expr} {scope : Scope} {E : Value → Shared → Prop} {Q : Value → Shared → Prop} (I : Inv X pins σ H s) (TB : LamX.TabB X.base X.mg c P) (hcode : X.env.code = .ref c) (hP : H P = some (.tbl ps)) (ht : TriplesOk ps.toList)
    (ha : ∀ (pos : Pos) (cv : Value), codeAmong pos ps.toList = some cv → ∃ c0, cv = .ref c0 ∧ G c0 ∧ H c0 = some (LamX.CodeO c0 (X.env.qual ++ "<lambda>"))) (hdef : defaultsOf params X.env = ([], [])) (hfree : ∀ y ∈ scope.names, y.2 = .free → ∃ c, X.env.cells.lookup y.1 = some c)
    (hL : L = ⟨"<lambda>", X.env.qual ++ "<lambda>", params, .expr body, scope, L.ps, L.fr⟩)
    (h : ∀ (f c' : Addr) (ps' : Array Value) (H1 : Hp) (s' : Shared), Inv X pins σ H1 s' → Mk G H H1 P f c' ps' (X.env.qual ++ "<lambda>") (FnL f L X.env.cells c') → Q (.ref f) s') : wpAny (model X.prog X.w) X.A (eval (.Lambda params body scope pos) X.env) Q E s := by
  refine PySem.W.kla_eval hdef ?_
  have bP : s.heap.BuiltinsAt X.mg P := TB.bm.keeps I.bk
  have hP' : s.heap.get? P = some { cls := .none, data := .fields ps } := I.hok P _ hP
  cases hc : codeAmong pos ps.toList with
  | none =>
    refine PySem.W.kla_makeFunction (closure_ok hfree) I.ok.glob (I.mod.glob.keeps I.bk) hcode (TB.code.keeps I.bk) hP' ht hc TB.gP bP fun c' ctv h' tk hx hge hlt hrec htb => ?_
    obtain ⟨H1, I1, m⟩ := mk_new (tk := tk) (pos := pos) (L := L) I hP ht ha hx hge hlt hrec htb ⟨none, _, _, _, _, by rw [hL]⟩
    exact h _ _ _ _ _ I1 m
  | some cv =>
    obtain ⟨c', e, _, _⟩ := ha pos cv hc
    subst e
    refine PySem.W.kla_makeFunctionHit (closure_ok hfree) I.ok.glob (I.mod.glob.keeps I.bk) hcode (TB.code.keeps I.bk) hP' ht hc bP fun ctv h' tk hx hsz => ?_
    obtain ⟨I1, m⟩ := mk_hit (tk := tk) (L := L) I hP ht ha hc hx ⟨none, _, _, _, _, by rw [hL]⟩
    exact h _ _ _ _ _ I1 m
end
section
variable {b : Bs} {F : Addr → Prop} {c : List Addr} {env : EnvD} {st : Sto} {σ : L2.St} {H H1 : Hp} {P f c' : Addr} {ps' : Array Value} {q : Str} {o : HO}
/-- the state behind the making -/
theorem Rel.mk_fn (r : Rel b F c env st σ H) (hT : (P, q) ∈ VEnv.T) (hu : ∀ p ∈ VEnv.T, p.1 = P → p.2 = q) (m : Mk F H H1 P f c' ps' q o) : Stp F c H (fun a => F a ∨ a = f ∨ a = c') c H1 ∧ Rel b (fun a => F a ∨ a = f ∨ a = c') c env st σ H1 := by
  obtain ⟨tF, tc, ps, tP, _, tcs⟩ := r.rc.tab _ hT
  simp only at tF tc tP
  have nf := r.nC m.f0
  have nfF := r.nF m.f0
  -- what is tracked stays but the table
  have keep : ∀ a u, H a = some u → a ≠ P → H1 a = some u := fun a u e hP => by
    by_cases hc : a = c'
    · subst hc
      rcases m.c0 with z | z
      · rw [z] at e; cases e
      · exact m.kp _ e
    · rw [m.rest a hP (ne_of_none e m.f0) hc]; exact e
  have neP : ∀ a u, H a = some u → (∀ ps, u ≠ .tbl ps) → a ≠ P := fun a u e n z => by rw [z, tP] at e; exact n _ (Option.some.inj e).symm
  have s : Stp F c H (fun a => F a ∨ a = f ∨ a = c') c H1 := ⟨fun _ h => .inl h, fun a u f e => keep a u e fun z => tF (z ▸ f), ⟨[], (List.append_nil c).symm⟩, fun d x e => keep d _ e (neP d _ e fun ps z => by cases z), fun d o u e => keep d _ e (neP d _ e fun ps z => by cases z)⟩
  have kt : ∀ a u, H a = some u → Kept H1 a u := fun a u e => by
    by_cases hP : a = P
    · subst hP
      rw [tP] at e; cases e
      exact .inr ⟨⟨_, rfl⟩, _, m.tab⟩
    · exact .inl (keep a u e hP)
  have same : ∀ a, (∃ u, H a = some u) → a ≠ P → H1 a = H a := fun a ⟨u, e⟩ h => by rw [e]; exact keep a u e h
  have neC : ∀ a ∈ c, a ≠ P := fun a ha z => tc (z ▸ ha)
  have hPf : P ≠ f := ne_of_none tP m.f0
  have hPc : P ≠ c' := fun z => by
    rcases m.c0 with q | q
    · rw [← z, tP] at q; cases q
    · exact tF (z ▸ q)
  have csplit : ∀ a, (F a ∨ a = f ∨ a = c') → F a ∨ (a = f ∧ H a = none) ∨ (a = c' ∧ H a = none) := fun a h => by
    rcases h with h | h | h
    · exact .inl h
    · exact .inr (.inl ⟨h, h ▸ m.f0⟩)
    · rcases m.c0 with z | z
      · exact .inr (.inr ⟨h, h ▸ z⟩)
      · exact .inl (h ▸ z)
  have cnone : ∀ a, (F a ∨ a = f ∨ a = c') → F a ∨ H a = none := fun a h => (csplit a h).imp id fun z => z.elim (·.2) (·.2)
  refine ⟨s, ⟨⟨fun a h => ?_, r.rc.len, r.rc.nd, fun n a x hn hx => ?_, fun a ha h => ?_, fun p hp => ?_⟩, r.len, fun i sl he => ?_, r.ds, fun a u e hc => (r.old a u e hc).up (kt a), fun a h => ?_, r.nwc, r.f0, r.k0⟩⟩
  · rcases h with h | rfl | rfl
    · obtain ⟨u, e⟩ := r.rc.trk a h
      exact ⟨u, s.keep a u h e⟩
    · exact ⟨_, m.f1⟩
    · exact ⟨_, m.c1⟩
  · have ha : a ∈ c := List.mem_of_getElem? hn
    have e0 := same a (r.rc.ctrk ha) (neC a ha)
    have k := r.rc.cl n a x hn hx
    cases x with
    | lst ds => obtain ⟨vs, e, p⟩ := k; exact ⟨vs, by rw [e0]; exact e, p.stp s⟩
    | ins nm fs => obtain ⟨C, dx, vfs, k1, k2, k3, p⟩ := k; exact ⟨C, dx, vfs, k1, by rw [e0]; exact k2, k3, p.stp s⟩
    | slo nm fs => obtain ⟨C, dx, vs, k1, k2, p⟩ := k; exact ⟨C, dx, vs, k1, slAt_keep k2 e0 s.lck, p.stp s⟩
    | slp nm ix fs => obtain ⟨C, dx, vs, k1, k2, p⟩ := k; exact ⟨C, dx, vs, k1, slAt_keep k2 e0 s.lck, p.stp s⟩
    | dct kvs => obtain ⟨vk, e, e2, p⟩ := k; exact ⟨vk, by rw [e0]; exact e, e2, p.stp s⟩
    | dcT kvs => obtain ⟨P, w, xs, vs, e3, e, e2, p, pk⟩ := k; exact ⟨P, w, xs, vs, e3, by rw [e0]; exact e, e2, p.stp s, fun x hx => (pk x hx).stp s⟩
    | dcN kvs => obtain ⟨P, w, vk, e3, e, e2, p⟩ := k; exact ⟨P, w, vk, e3, by rw [e0]; exact e, e2, p.stp s⟩
    | lcT kvs => obtain ⟨P, w, xs, vs, od, e3, e, e2, p, pk⟩ := k; exact ⟨P, w, xs, vs, od, e3, by rw [e0]; exact e, e2, p.stp s, fun x hx => (pk x hx).stp s⟩
    | lcN kvs => obtain ⟨P, w, vk, od, e3, e, e2, p⟩ := k; exact ⟨P, w, vk, od, e3, by rw [e0]; exact e, e2, p.stp s⟩
  · rcases cnone a h with z | z
    · exact r.rc.nf a ha z
    · obtain ⟨u, e⟩ := r.rc.ctrk ha
      rw [z] at e; cases e
  · by_cases hpP : p.1 = P
    · have hq := hu p hp hpP
      refine ⟨fun h => ?_, fun h => tc (hpP ▸ h), ps', hpP ▸ m.tab, m.ok, fun pos cv h => ?_⟩
      · rw [hpP] at h
        rcases h with h | h | h
        · exact tF h
        · exact hPf h
        · exact hPc h
      · obtain ⟨c0, e, k, z⟩ := m.all pos cv h
        exact ⟨c0, e, z.elim (fun z => .inr (.inr z)) .inl, by rw [hq]; exact k⟩
    · exact (r.rc.tab p hp).stp s (fun ps e => keep _ _ e hpP) (fun ps e h => (cnone _ h).elim id fun z => by rw [z] at e; cases e) fun _ _ h => h
  · have q := r.sl i sl he
    cases sl with
    | no => trivial
    | va d => obtain ⟨v, e, p⟩ := q; exact ⟨v, e, p.stp s⟩
    | gh cells vals => exact GhOk.stp q s
    | xc xi x => exact ⟨q.1, q.2.stp s⟩
    | ow d =>
      obtain ⟨a, e, p1, p2, p3, p4⟩ := q
      obtain ⟨_, _, _, u, eu⟩ := r.own (i := i) ⟨d, he, e⟩
      refine ⟨a, e, fun h => ?_, p2, p3, p4.stp s (same a ⟨u, eu⟩ fun z => p4.ntbl ps (z ▸ tP))⟩
      rcases cnone a h with z | z
      · exact p1 z
      · rw [z] at eu; cases eu
  · rcases cnone a h with z | z
    · exact r.new a z
    · exact .inr (r.H0none z)
end
/-- the table of the running def's code -/
def TabV (base : Heap) (mg : Str → Option Value) (cd : Value) (q : Str) : Prop := ∃ c P, cd = .ref c ∧ LamX.TabB base mg c P ∧ (P, q) ∈ VEnv.T ∧ ∀ p ∈ VEnv.T, p.1 = P → p.2 = q
def freeB (sc scope : Scope) : Bool := scope.names.all fun y => !decide (y.2 = .free) || decide (sc.names.lookup y.1 = some .cell) || decide (sc.names.lookup y.1 = some .free)
def eFn (i : Nat) (cells : List (Str × Addr)) : M D := fun env st => .ok (.fn (.lam i cells)) env st
noncomputable def allEq {α : Type} [Inhabited α] (f : α → RF) : RF := by
  classical
  exact if ∀ a, f a = f default then f default else .bad
omit [VEnv] in
theorem allEq_of {α : Type} [Inhabited α] {f : α → RF} {r : RF} (h : ∀ a, f a = r) : allEq f = r := by
  unfold allEq
  rw [if_pos fun a => by rw [h, h]]
  exact h _
omit [VEnv] in
theorem allEq_at {α : Type} [Inhabited α] {f : α → RF} : allEq f = .bad ∨ ∀ a, allEq f = f a := by
  unfold allEq
  split
  · rename_i h
    exact .inr fun a => (h a).symm
  · exact .inl rfl
noncomputable def toFL (fr : Bool) (n : Nat) (g : List (Str × Addr) → M Fl) : FM := fun ds st => allEq fun cells => toRF fr (g cells (env0 n ds) st)
section
variable {X : Cx} {W : WX} {pos : Pos} {i : Nat}
theorem free_has {scope : Scope} (h : freeB X.env.scope scope = true) (ok : X.Ok) : ∀ y ∈ scope.names, y.2 = .free → ∃ c, X.env.cells.lookup y.1 = some c := fun y hy e => by
  unfold freeB at h
  have := List.all_eq_true.mp h y hy
  simp only [Bool.or_eq_true, Bool.not_eq_true', decide_eq_true_eq, decide_eq_false_iff_not] at this
  rcases this with (z | z) | z
  · exact absurd e z
  · exact ok.has _ (.inl z)
  · exact ok.has _ (.inr z)
theorem ve_lam (i : Nat) {params : Arguments} {body : Expr} {scope : Scope} {q : Str} {ps fr : List Str} (T : TabV X.base X.mg X.env.code q) (hq : q = X.env.qual ++ "<lambda>") (hL : VEnv.code i = ⟨"<lambda>", X.env.qual ++ "<lambda>", params, .expr body, scope, ps, fr⟩)
    (hfree : freeB X.env.scope scope = true) (hdef : defaultsOf params X.env = ([], []) := by rfl) : VE X W (.Lambda params body scope pos) (eFn i X.env.cells) := by
  refine ⟨fun pins s σ H Q I ⟨b, F, c, env, st, e1, e2, r, p⟩ => ?_⟩
  obtain ⟨cc, P, hcode, TB, hT, hu⟩ := T
  obtain ⟨_, _, ps, hP, ht, ha⟩ := r.rc.tab _ hT
  simp only at hP ha
  subst hq
  refine lam_mk (G := F) (L := VEnv.code i) I TB hcode hP ht ha hdef (free_has hfree I.ok) (by rw [hL]) fun f c' ps' H1 s' I1 m => ?_
  obtain ⟨s2, r2⟩ := r.mk_fn hT hu m
  refine ⟨.ref f, H1, I1, rfl, ?_⟩
  exact p _ c H1 s2 r2 _ (.lam (.inr (.inl rfl)) m.f1 (.inr (.inr rfl)) (by rw [m.c1, show (VEnv.code i).qual = X.env.qual ++ "<lambda>" from by rw [hL]]) (by rw [hL]; exact free_has hfree I.ok))
end
section
variable {P : Program} {w : World} {K : PySem.W.Frag} {mg : Str → Option Value} {base : Heap}
theorem PostF.allEq {fr : Bool} {F : Addr → Prop} {c : List Addr} {H : Hp} {Q : VK} {E : XK} {α : Type} [Inhabited α] {f : α → RF} (p : PostF K mg fr F c H Q E (allEq f)) (a : α) : PostF K mg fr F c H Q E (f a) := by
  rcases allEq_at (f := f) with h | h
  · rw [h] at p; exact p.elim
  · rw [h a] at p; exact p
/-- a def that makes lambdas or inner defs -/
theorem okVL {x qual : Str} {stm : Stmt} {f : Addr} {fd : FuncData} {N ps : List Str} {k n np : Nat} {q : Str} {g : List (Str × Addr) → M Fl} (fr : Bool) (Fn : Fun K x qual stm f fd) (S : FnScope N ps (defScope stm)) (hT : TabV base mg fd.code q) (hn : n = N.length) (hp : np = ps.length)
    (hb : ∀ (cdv : Value) (A : Around) (outer : List Env) (s : Shared) (H : Hp) (E : XK), TabV base mg cdv q → Room k (A.deeper (envOfC qual (defScope stm) s.heap.objs.size f cdv)) →
      VSs (cxOf (L2Z.CX P w K) P w K mg base N qual (defScope stm) f cdv A outer s H E) (fun cls d _ H => E cls d H) (defBody stm) (g (cellsFrom (s.heap.objs.size + 1) (defScope stm).names []))) : FnOk P w K mg base (L2Z.CX P w K) (k + 1) f fd ps (spV K mg fr np (toFL fr n g)) := by
  obtain ⟨oc, od, kV, doc, pm, an, cdv, ct, osl, rfl, lk, hcd⟩ := Fn.ex
  have hT' : TabV base mg cdv q := hT
  refine fn_of lk hcd S (fun vs H Q E h => ?_) fun A outer s H vs Q E hr h => ?_
  · obtain ⟨F, c, ds, st, _, rp, hl, _⟩ := h
    rw [rp.length, hl, hp]
  · obtain ⟨F, c, ds, st, rc, rp, hl, p⟩ := h
    refine ⟨_, hb cdv A outer s H E hT' hr, ⟨K, mg, H, F, c⟩, F, c, env0 n ds, st, rfl, rfl, rel_start rc rp N hn, ?_⟩
    have p := PostF.allEq p (cellsFrom (s.heap.objs.size + 1) (defScope stm).names [])
    generalize g (cellsFrom (s.heap.objs.size + 1) (defScope stm).names []) (env0 n ds) st = y at p
    exact okV_post p
end
def envG (n : Nat) (ds : List D) (cells : List (Str × Addr)) (vals : List (Str × D)) : EnvD := ds.map .va ++ (List.replicate (n - ds.length - 1) .no ++ [.gh cells vals])
@[reducible] def FMG := List (Str × Addr) → List (Str × D) → FM
def toFG (fr : Bool) (n : Nat) (g : M Fl) : FMG := fun cells vals ds st => toRF fr (g (envG n ds cells vals) st)
section
variable {P : Program} {w : World} {K : PySem.W.Frag} {mg : Str → Option Value} {base : Heap} {F : Addr → Prop} {c : List Addr} {st : Sto} {H : Hp} {vs : List V} {ds : List D} {cells : List (Str × Addr)} {vals : List (Str × D)}
def spG (K : PySem.W.Frag) (mg : Str → Option Value) (fr : Bool) (n : Nat) (m : FMG) : Sp := fun vs H Q E => ∃ F c ds cells vals st, RelC K mg F c st H ∧ Rps K mg F c H vs ds ∧ ds.length = n ∧ GhOk K mg F c H cells vals ∧ PostF K mg fr F c H Q E (m cells vals ds st)
theorem rel_startG {n : Nat} (rc : RelC K mg F c st H) (rp : Rps K mg F c H vs ds) (gh : GhOk K mg F c H cells vals) (N : List Str) (hn : n = N.length) (hl : ds.length < n) : Rel ⟨K, mg, H, F, c⟩ F c (envG n ds cells vals) st (L2.start N vs) H := by
  have hlen := rp.length
  refine ⟨rc, ?_, fun i s e => ?_, fun i j a h => ?_, fun a o e _ => .inl e, fun a h => .inl h, fun a h => .inl h, rc.trk, fun a h => rc.ctrk h⟩
  · unfold envG L2.start
    simp only [List.length_append, List.length_map, List.length_replicate, List.length_singleton, hlen, ← hn]
    omega
  · unfold envG at e
    by_cases hi : i < ds.length
    · rw [List.getElem?_append_left (by simpa using hi), List.getElem?_map] at e
      cases hd : ds[i]? with
      | none => rw [hd] at e; cases e
      | some d =>
        rw [hd] at e; cases e
        obtain ⟨v, hv, h⟩ := rp.get' hd
        refine ⟨v, ?_, h⟩
        unfold L2.start
        rw [List.getElem?_append_left (by rw [List.length_map, hlen]; exact hi), List.getElem?_map, hv]
        rfl
    · have hm := List.mem_of_getElem? e
      rw [List.getElem?_append_right (by simpa using hi)] at e
      have hm := List.mem_of_getElem? e
      simp only [List.mem_append, List.mem_replicate, List.mem_singleton] at hm
      rcases hm with ⟨_, rfl⟩ | rfl
      · trivial
      · exact gh
  · obtain ⟨d, e, _⟩ := h
    have hm := List.mem_of_getElem? e
    unfold envG at hm
    simp only [List.mem_append, List.mem_map, List.mem_replicate, List.mem_singleton] at hm
    rcases hm with ⟨x, _, e⟩ | ⟨_, e⟩ | e <;> cases e
theorem okVG {x qual : Str} {stm : Stmt} {f : Addr} {fd : FuncData} {N ps : List Str} {k n np : Nat} {g : M Fl} (fr : Bool) (Fn : Fun K x qual stm f fd) (S : FnScope N ps (defScope stm)) (hn : n = N.length) (hp : np = ps.length) (hlt : np < n)
    (hb : ∀ (cdv : Value) (A : Around) (outer : List Env) (s : Shared) (H : Hp) (E : XK), Room k (A.deeper (envOfC qual (defScope stm) s.heap.objs.size f cdv)) →
      VSs (cxOf (L2Z.CX P w K) P w K mg base N qual (defScope stm) f cdv A outer s H E) (fun cls d _ H => E cls d H) (defBody stm) g) : FnOk P w K mg base (L2Z.CX P w K) (k + 1) f fd ps (spG K mg fr np (toFG fr n g)) := by
  refine Fn.okZ S (fun vs H Q E h => ?_) (fun cdv A outer s H vs Q E hr h => ?_)
  · obtain ⟨F, c, ds, cells, vals, st, _, rp, hl, _⟩ := h
    rw [rp.length, hl, hp]
  · obtain ⟨F, c, ds, cells, vals, st, rc, rp, hl, gh, p⟩ := h
    refine ⟨_, hb cdv A outer s H E hr, ⟨K, mg, H, F, c⟩, F, c, envG n ds cells vals, st, rfl, rfl, rel_startG rc rp gh N hn (by rw [hl]; exact hlt), ?_⟩
    unfold toFG at p
    generalize g (envG n ds cells vals) st = y at p
    exact okV_post p
structure FnG (P : Program) (w : World) (K : PySem.W.Frag) (mg : Str → Option Value) (base : Heap) (k : Nat) (x : Str) (fr : Bool) (n : Nat) (m : FMG) : Prop where
  ex : ∃ f fd ps, FnOk P w K mg base (L2Z.CX P w K) k f fd ps (spG K mg fr n m) ∧ mg x = some (.ref f) ∧ PySem.W.keepIn K (.ref f) = true ∧ Binds K fd ps []
end
/-- the mirrors of the functions that may be handed in: what they capture, what they do -/
structure LamM where
  fr : List Str
  n : Nat
  run : List (Option D) → FM
def LamM.bad : LamM := ⟨[], 0, fun _ _ _ => .bad⟩
def LamsOk (P : Program) (w : World) (K : PySem.W.Frag) (mg : Str → Option Value) (base : Heap) (k : Nat) (G : Nat → LamM) : Prop := ∀ i, (∀ caps ds st, (G i).run caps ds st = .bad) ∨ ((VEnv.code i).fr = (G i).fr ∧ (∀ x ∈ (VEnv.code i).fr, (x, NameKind.free) ∈ (VEnv.code i).scope.names) ∧ (VEnv.code i).ps.length = (G i).n ∧ LamOk P w K mg base k i (G i).run)
def callP (G : Nat → LamM) (i gi : Nat) (fs : M (List D)) : M D := fun env st => match env[i]? with
  | some (.va (.fn (.lam id cells))) => (fs env st).bind fun ds env st => (match env[gi]? with
    | some (.gh cells' vals) => if cells = cells' ∧ ds.length = (G id).n then callR ((G id).run ((G id).fr.map fun y => vals.lookup y)) ds env st else .bad
    | _ => .bad)
  | _ => .bad
/-- what a waiting frame's cells hold, by names -/
theorem caps_ex {K : PySem.W.Frag} {mg : Str → Option Value} {F : Addr → Prop} {c : List Addr} {H : Hp} {cells : List (Str × Addr)} {vals : List (Str × D)} (gh : GhOk K mg F c H cells vals) : ∀ fr : List Str, ∃ ws : List (Option V), ws.length = fr.length ∧
    ∀ (j : Nat) (y : Str), fr[j]? = some y → (∀ d, vals.lookup y = some d → ∃ v, ws[j]? = some (some v) ∧ Rp K mg F c H v d) ∧ ∀ v, ws[j]? = some (some v) → ∃ a o u, cells.lookup y = some a ∧ H a = some (CelO o) ∧ o.data = .cell (some u) ∧ L2.RelV v u
  | [] => ⟨[], rfl, fun j y h => by simp at h⟩
  | y :: fr => by
    obtain ⟨ws, hl, hw⟩ := caps_ex gh fr
    cases hy : vals.lookup y with
    | none =>
      refine ⟨none :: ws, by simp [hl], fun j z h => ?_⟩
      cases j with
      | zero =>
        simp at h; subst h
        exact ⟨fun d h => (by rw [hy] at h; cases h), fun v h => (by simp at h)⟩
      | succ j => simpa using hw j z (by simpa using h)
    | some d =>
      obtain ⟨a, o, u, v, h1, h2, h3, h4, h5⟩ := gh.val y d hy
      refine ⟨some v :: ws, by simp [hl], fun j z h => ?_⟩
      cases j with
      | zero =>
        simp at h; subst h
        exact ⟨fun d' h => (by rw [hy] at h; cases h; exact ⟨v, rfl, h5⟩), fun v' h => (by simp at h; subst h; exact ⟨a, o, u, h1, h2, h3, h4⟩)⟩
      | succ j => simpa using hw j z (by simpa using h)
section
variable {X : Cx} {W : WX} {e a : Expr} {es : List Expr} {pos p : Pos} {fs : M (List D)} {x : Str} {k j i gi : Nat} {G : Nat → LamM}
theorem postF_call {m : FM} {b : Bs} {F : Addr → Prop} {c : List Addr} {env : EnvD} {st : Sto} {σ : L2.St} {H : Hp} {ds : List D} {Q : VK} {Pk : D → EnvD → Sto → (Addr → Prop) → List Addr → Hp → Prop} {fr : Bool} (r : Rel b F c env st σ H)
    (p : Post b W F c σ H Pk (callR m ds env st)) (hq : ∀ v d st F' c' H', Stp F c H F' c' H' → Rel b F' c' env st σ H' → RetOk b.K b.mg fr F' c' H H' v d → Pk d env st F' c' H' → Q v H') : PostF b.K b.mg fr F c H Q (WE W σ) (m ds st) := by
  unfold callR at p
  generalize m ds st = y at p
  cases y with
  | ok d st' => exact fun v F' c' H' s rc o rv => hq v d st' F' c' H' s (r.call s rc o) rv (p F' c' H' s (r.call s rc o))
  | ex x st' => exact fun cls dx F' c' H' s rc o rx => p F' c' H' cls dx s (r.call s rc o) rx
  | bad => exact p
/-- behind a call of a function that was handed in -/
theorem run_p {pins : List (Addr × Obj)} {σ : L2.St} {H : Hp} {s : Shared} {Q : VK} {f : Addr} {us : List Value} {vs : List V} {ds : List D} {b : Bs} {F : Addr → Prop} {c : List Addr} {env : EnvD} {st : Sto} {id : Nat} {cells : List (Str × Addr)} {vals : List (Str × D)}
    (Fn : LamsOk X.prog X.w X.K X.mg X.base k G) (hr : Room k X.A) (tk : L2Z.Takes X W) (I : Inv X pins σ H s) (e1 : b.K = X.K) (e2 : b.mg = X.mg) (r : Rel b F c env st σ H) (rf : Rp b.K b.mg F c H (.ref f) (.fn (.lam id cells))) (hg : env[gi]? = some (.gh cells vals)) (rv : Vals vs us) (rp : Rps b.K b.mg F c H vs ds) (hl : ds.length = (G id).n)
    (p : PostF b.K b.mg false F c H Q (WE W σ) ((G id).run ((G id).fr.map fun y => vals.lookup y) ds st)) :
    wpAny (model X.prog X.w) X.A (call (.ref f) us) (EP X pins σ Q) X.xe s := by
  rcases Fn id with hbad | ⟨hfr, hfk, hn, Lo⟩
  · rw [hbad] at p
    exact p.elim
  have gh : GhOk b.K b.mg F c H cells vals := r.sl gi _ hg
  obtain ⟨C, hCdef⟩ : ∃ C : List Addr, C = cells.filterMap fun q => cells.lookup q.1 := ⟨_, rfl⟩
  have inC : ∀ y a, cells.lookup y = some a → a ∈ C := fun y a h => by
    rw [hCdef, List.mem_filterMap]
    exact ⟨(y, a), PySem.mem_of_lookup h, h⟩
  have ofC : ∀ a ∈ C, ∃ y, cells.lookup y = some a := fun a h => by
    rw [hCdef, List.mem_filterMap] at h
    obtain ⟨q, _, e⟩ := h
    exact ⟨_, e⟩
  have hF : ∀ a ∈ C, F a := fun a h => by obtain ⟨y, e⟩ := ofC a h; exact (gh.cel y a e).1
  have hC : CelsAt C H := fun a h => by
    obtain ⟨y, e⟩ := ofC a h
    obtain ⟨_, o, _, q, _⟩ := gh.cel y a e
    exact ⟨o, q⟩
  have e0 := I.env0
  have hfrs : ∀ a ∈ C, a ∉ frs X.stack := fun a m z => by
    obtain ⟨o, q⟩ := hC a m
    rw [e0.frf a z] at q; cases q
  rw [e1, e2] at rf rp gh p
  have rc := r.rc
  rw [e1, e2] at rc
  obtain ⟨ws, hwl, hws⟩ := caps_ex gh (VEnv.code id).fr
  cases rf with
  | lam f1 f2 f3 f4 f5 =>
    rename_i c'
    have cs : NdefX.CellsAt (cloFrom cells (VEnv.code id).scope.names []) (VEnv.code id).fr ws s.heap (offH C H) := by
      refine ⟨hwl, fun y a h => ?_, fun y z a h1 h2 => gh.inj y z a (NdefX.clo_cm f5 h1) (NdefX.clo_cm f5 h2), fun n y h => ?_⟩
      · have h := NdefX.clo_cm f5 h
        refine ⟨offH_in (inC y a h), ?_⟩
        obtain ⟨_, o, v, q, d⟩ := gh.cel y a h
        exact ⟨v, o, cel_get I.hok q, d⟩
      · have hy := hfk y (List.mem_of_getElem? h)
        obtain ⟨a, ha⟩ := f5 _ hy rfl
        refine ⟨a, NdefX.clo_has f5 hy ha, fun v hv => ?_⟩
        obtain ⟨a', o, u, h1, h2, h3, h4⟩ := (hws n y h).2 v hv
        rw [ha] at h1; cases h1
        exact ⟨u, h4, o, cel_get I.hok h2, h3⟩
    have cp : CapOk X.K X.mg (offF C F) c (offH C H) ws ((G id).fr.map fun y => vals.lookup y) := by
      refine ⟨by rw [List.length_map, ← hfr]; exact hwl, fun n d h => ?_⟩
      rw [List.getElem?_map, ← hfr] at h
      cases hy : (VEnv.code id).fr[n]? with
      | none => rw [hy] at h; cases h
      | some y =>
        rw [hy] at h
        obtain ⟨v, h1, h2⟩ := (hws n y hy).1 d (Option.some.inj h)
        exact ⟨v, h1, h2.off hC⟩
    have go := Lo.run X.A X.stack s (offH C H) us vs ws _ _ _ f c' cells (offF C F) c ds st hr (Env0.offC e0 hC) (hC.off f2 fun o z => by unfold CelO FnL at z; cases z) (hC.off f4 fun o z => by unfold CelO LamX.CodeO at z; cases z) cs rv (rc.off hC) (rp.off hC) cp (by rw [hn]; exact hl) (postF_off hC hF p)
    refine wpAny_call (codeAny_mono go fun y s' hy => ?_)
    have hy : CR (L2Z.CX X.prog X.w X.K) X.stack X.prog X.w H s Q (WE W σ) y s' := cr_on hy hC I.hok hfrs (fun v H' h0 q => q h0) fun cls d H' h0 q => q h0
    cases y with
    | error er => exact L2Z.passAt tk σ pins H s er s' I hy
    | ok fl =>
      cases fl with
      | ret u => exact I.after hy
      | next => exact hy.elim
      | brk => exact hy.elim
      | cont => exact hy.elim
omit [VEnv] in
theorem fnAt_L {f : Addr} {L : LamCode} {cells : List (Str × Addr)} {c' : Addr} {pins : List (Addr × Obj)} {σ : L2.St} {H : Hp} {s : Shared} (I : Inv X pins σ H s) (h : H f = some (FnL f L cells c')) : PySem.W.FnAt f s.heap := by
  obtain ⟨od, sl, doc, pm, ctv, ho⟩ := fnL_at I.hok h
  exact ⟨_, od, _, sl, ho⟩
/-- what stands behind the arguments -/
def PQ (X : Cx) (W : WX) (f : Addr) (id : Nat) (cells : List (Str × Addr)) (G : Nat → LamM) (gi : Nat) (σ : L2.St) (Q : VK) (vs : List V) (H : Hp) : Prop :=
  ∃ b F c env st ds vals, b.K = X.K ∧ b.mg = X.mg ∧ Rel b F c env st σ H ∧ Rps b.K b.mg F c H vs ds ∧ Rp b.K b.mg F c H (.ref f) (.fn (.lam id cells)) ∧ env[gi]? = some (.gh cells vals) ∧ ds.length = (G id).n ∧ PostF b.K b.mg false F c H Q (WE W σ) ((G id).run ((G id).fr.map fun y => vals.lookup y) ds st)
theorem pq_of {f : Addr} {id : Nat} {cells : List (Str × Addr)} {σ : L2.St} {H : Hp} {Q : VK} {b : Bs} {F : Addr → Prop} {c : List Addr} {env : EnvD} {st : Sto} {ds : List D} {vs : List V} (e1 : b.K = X.K) (e2 : b.mg = X.mg) (r : Rel b F c env st σ H) (rp : Rps b.K b.mg F c H vs ds) (rf : Rp b.K b.mg F c H (.ref f) (.fn (.lam id cells)))
    (p : Post b W F c σ H (fun d _ _ F' c' H' => ∀ v, Rp b.K b.mg F' c' H' v d → Q v H') (match env[gi]? with
    | some (.gh cells' vals) => if cells = cells' ∧ ds.length = (G id).n then callR ((G id).run ((G id).fr.map fun y => vals.lookup y)) ds env st else .bad
    | _ => .bad)) : PQ X W f id cells G gi σ Q vs H := by
  split at p
  · rename_i cells' vals hg
    split at p
    · rename_i hh
      obtain ⟨rfl, hl⟩ := hh
      exact ⟨b, F, c, env, st, ds, vals, e1, e2, r, rp, rf, hg, hl, postF_call r p fun v d st F' c' H' s r' rv q => q v rv⟩
    · exact p.elim
  · exact p.elim
theorem ve_callP0 (i gi : Nat) (Fn : LamsOk X.prog X.w X.K X.mg X.base k G) (hr : Room k X.A) (tk : L2Z.Takes X W) (hN : X.N[i]? = some x := by rfl) (hv : Vis X.env.scope x := by first | exact Or.inl rfl | exact Or.inr (Or.inl rfl) | exact Or.inr (Or.inr rfl)) (hd : (x == ("__debug__" : Str)) = false := by decide)
    (hcd : (x == ("__classdict__" : Str)) = false := by decide) : VE X W (.Call (.Name x p) [] [] pos) (callP G i gi eNil) := by
  refine ⟨fun pins s σ H Q I ⟨b, F, c, env, st, e1, e2, r, pp⟩ => ?_⟩
  unfold callP at pp
  split at pp
  · rename_i id cells hi
    obtain ⟨v, ev, rf⟩ := r.sl i _ hi
    obtain ⟨f, c', rfl, hf⟩ : ∃ f c', v = .ref f ∧ H f = some (FnL f (VEnv.code id) cells c') := by cases rf with | lam f1 f2 f3 f4 f5 => exact ⟨_, _, rfl, f2⟩
    refine wpAny_Call_Name_kw (thn ((pe_var (pos := p) hN hv hd hcd).run pins s σ H (fun v H1 => v = .ref f ∧ H1 = H) I ⟨.ref f, ev, rfl, rfl⟩) fun u s1 ⟨v, H1, I1, r1, q1⟩ => ?_)
    obtain ⟨rfl, rfl⟩ := q1
    obtain rfl : u = Value.ref f := r1
    refine PySem.W.callWith_F0 (first := []) (fnAt_L I1 hf) ?_
    obtain ⟨b2, F2, c2, env2, st2, ds, vals, d1, d2, r2, rp2, rf2, hg, hl, pf⟩ := pq_of (G := G) (gi := gi) (vs := []) e1 e2 r .nil rf pp
    exact run_p Fn hr tk I1 d1 d2 r2 rf2 hg .nil rp2 hl pf
  · exact pp.elim
end
def ghv (js : List (Str × Nat)) (env : EnvD) : List (Str × D) := js.filterMap fun (p : Str × Nat) => match (env[p.2]? : Option Sl) with
  | some (.va d) => some (p.1, d)
  | _ => none
def eCallH (m : FMG) (n : Nat) (cells : List (Str × Addr)) (js : List (Str × Nat)) (fs : M (List D)) : M D := fun env st => (fs env st).bind fun ds env st => if ds.length = n then callR (m cells (ghv js env)) ds env st else .bad
section
variable {X : Cx} {W : WX} {e a : Expr} {es : List Expr} {pos p : Pos} {fs : M (List D)} {x : Str} {k n : Nat} {m : FMG} {js : List (Str × Nat)}
omit [VEnv] in
theorem ghv_at {env : EnvD} {y : Str} {d : D} (h : (ghv js env).lookup y = some d) : ∃ j, (y, j) ∈ js ∧ env[j]? = some (.va d) := by
  have h := PySem.mem_of_lookup h
  unfold ghv at h
  rw [List.mem_filterMap] at h
  obtain ⟨q, hq, e⟩ := h
  split at e
  · rename_i d' he
    cases e
    exact ⟨q.2, hq, he⟩
  · cases e
/-- the captured names: where they stand -/
def JsOk (X : Cx) (js : List (Str × Nat)) : Prop := ∀ q ∈ js, X.N[q.2]? = some q.1 ∧ X.env.scope.names.lookup q.1 = some .cell
omit [VEnv] in
theorem jsOk_nil : JsOk X [] := fun _ h => nomatch h
omit [VEnv] in
theorem jsOk_cons {y : Str} {j : Nat} (h1 : X.N[j]? = some y) (h2 : X.env.scope.names.lookup y = some .cell) (h : JsOk X js) : JsOk X ((y, j) :: js) := fun q hq => (List.mem_cons.mp hq).elim (fun e => e ▸ ⟨h1, h2⟩) (h q)
theorem run_h {fr : Bool} {pins : List (Addr × Obj)} {σ : L2.St} {H : Hp} {s : Shared} {Q : VK} {f : Addr} {fd : FuncData} {ps : List Str} {us : List Value} {vs : List V} {ds : List D} {b : Bs} {F : Addr → Prop} {c : List Addr} {env : EnvD} {st : Sto}
    (Fo : FnOk X.prog X.w X.K X.mg X.base (L2Z.CX X.prog X.w X.K) k f fd ps (spG X.K X.mg fr n m)) (hb : Binds X.K fd ps []) (hr : Room k X.A) (tk : L2Z.Takes X W) (hfn : ∀ x, X.fn x = true) (hjs : JsOk X js) (I : Inv X pins σ H s) (e1 : b.K = X.K) (e2 : b.mg = X.mg) (r : Rel b F c env st σ H) (rv : Vals vs us) (rp : Rps b.K b.mg F c H vs ds) (hl : ds.length = n)
    (p : PostF b.K b.mg fr F c H Q (WE W σ) (m X.env.cells (ghv js env) ds st)) : wpAny (model X.prog X.w) X.A (call (.ref f) us) (EP X pins σ Q) X.xe s := by
  obtain ⟨C, hCdef⟩ : ∃ C : List Addr, C = X.env.cells.filterMap fun q => X.env.cells.lookup q.1 := ⟨_, rfl⟩
  obtain ⟨H₀, hH0⟩ : ∃ H₀ : Hp, H₀ = fun a => (s.heap.get? a).map CelO := ⟨_, rfl⟩
  have inC : ∀ y a, X.env.cells.lookup y = some a → a ∈ C := fun y a h => by
    rw [hCdef, List.mem_filterMap]
    exact ⟨(y, a), PySem.mem_of_lookup h, h⟩
  have ofC : ∀ a ∈ C, ∃ y, X.env.cells.lookup y = some a := fun a h => by
    rw [hCdef, List.mem_filterMap] at h
    obtain ⟨q, _, e⟩ := h
    exact ⟨_, e⟩
  have h0 : ∀ a ∈ C, H a = none := fun a m => by obtain ⟨y, e⟩ := ofC a m; exact I.freeC y a e
  have hO : ∀ a ∈ C, ∃ o, H₀ a = some (CelO o) ∧ s.heap.get? a = some o := fun a m => by
    obtain ⟨y, e⟩ := ofC a m
    obtain ⟨v, o, ho, _⟩ := I.cell y a e
    exact ⟨o, by rw [hH0]; simp [ho], ho⟩
  have hC : CelsAt C H₀ := fun a m => by obtain ⟨o, e, _⟩ := hO a m; exact ⟨o, e⟩
  have young : ∀ a ∈ C, X.s_0.heap.objs.size ≤ a := fun a m => by obtain ⟨y, e⟩ := ofC a m; exact I.ok.cab y a (hfn y) e
  have hfr : ∀ a ∈ C, a ∉ frs X.stack := fun a m z => by
    obtain ⟨y, e⟩ := ofC a m
    rcases List.mem_cons.mp (I.stkSub a z) with q | q
    · exact I.cne y a e q
    · obtain ⟨_, o, ho, _⟩ := I.ok.funs.mem q
      exact absurd (Nat.lt_of_lt_of_le (Heap.lt_size ho) (young a m)) (Nat.lt_irrefl _)
  have hbs : ∀ a ∈ C, X.base.get? a = none := fun a m => by
    cases q : X.base.get? a with
    | none => rfl
    | some o => exact absurd (Nat.lt_of_lt_of_le (Heap.lt_size q) (Nat.le_trans I.ok.bsz (young a m))) (Nat.lt_irrefl _)
  have hFC : ∀ a, F a → a ∉ C := fun a f m => by
    obtain ⟨o, e⟩ := r.rc.trk a f
    rw [h0 a m] at e; cases e
  have rc := r.rc
  rw [e1, e2] at rc rp p
  have gh : GhOk X.K X.mg (onF C F) c (onH C H₀ H) X.env.cells (ghv js env) := by
    refine ⟨fun y a h => ⟨.inr (inC y a h), ?_⟩, I.ok.inj, fun y d h => ?_⟩
    · obtain ⟨v, o, ho, hd⟩ := I.cell y a h
      exact ⟨o, v, by rw [onH_in (inC y a h), hH0]; simp [ho], hd⟩
    · obtain ⟨j, hj, he⟩ := ghv_at h
      obtain ⟨hN, hk⟩ := hjs _ hj
      obtain ⟨v, ev, rp⟩ := r.sl j _ he
      rw [e1, e2] at rp
      obtain ⟨mm, _, hlk⟩ := I.loc
      obtain ⟨u, ru, look⟩ := hlk j y v hN ev (.inr (.inl hk))
      rcases look with ⟨z, _⟩ | ⟨_, a, ha, o, ho, hd⟩
      · have z : X.env.scope.names.lookup y = some .local := z
        rw [hk] at z; cases z
      · exact ⟨a, o, u, v, ha, by rw [onH_in (inC y a ha), hH0]; simp [ho], hd, ru, rp.stp (stp_on h0)⟩
  have hlen : us.length = ps.length := by
    rw [← rv.length]
    exact Fo.len _ _ _ _ ⟨_, _, _, _, _, _, rc.on h0 hC, rp.stp (stp_on h0), hl, gh, postF_on hC h0 hFC p⟩
  have bd := hb s us I.kIn (by rw [List.append_nil]; exact hlen)
  rw [List.append_nil] at bd
  have go := Fo.run X.A X.stack s (onH C H₀ H) ⟨us, []⟩ us vs _ _ hr (Env0.onC I.env0 h0 hO hfr hbs) bd rv ⟨_, _, _, _, _, _, rc.on h0 hC, rp.stp (stp_on h0), hl, gh, postF_on hC h0 hFC p⟩
  refine wpAny_call (codeAny_mono go fun y s' hy => ?_)
  have hy : CR (L2Z.CX X.prog X.w X.K) X.stack X.prog X.w H s Q (WE W σ) y s' := cr_off hy hC h0 (fun a m o e => by obtain ⟨o', e', g⟩ := hO a m; rw [e'] at e; injection e with e; unfold CelO at e; injection e with e _; rw [← e]; exact g) (fun v H' hc q => q hc) fun cls d H' hc q => q hc
  cases y with
  | error er => exact L2Z.passAt tk σ pins H s er s' I hy
  | ok fl =>
    cases fl with
    | ret u => exact I.after hy
    | next => exact hy.elim
    | brk => exact hy.elim
    | cont => exact hy.elim
/-- what stands behind the arguments of such a call -/
def HQ (X : Cx) (W : WX) (m : FMG) (n : Nat) (fr : Bool) (js : List (Str × Nat)) (σ : L2.St) (Q : VK) (vs : List V) (H : Hp) : Prop :=
  ∃ b F c env st ds, b.K = X.K ∧ b.mg = X.mg ∧ Rel b F c env st σ H ∧ Rps b.K b.mg F c H vs ds ∧ ds.length = n ∧ PostF b.K b.mg fr F c H Q (WE W σ) (m X.env.cells (ghv js env) ds st)
theorem ve_callH (Fv : FnG X.prog X.w X.K X.mg X.base k x false n m) (hr : Room k X.A) (tk : L2Z.Takes X W) (ha : VA X W (e :: es) fs) (hjs : JsOk X js) (hfn : ∀ x, X.fn x = true := by intro _; rfl) (hg : Gl X x := by rfl) (hdb : (x == ("__debug__" : Str)) = false := by decide)
    (he : starEach (e :: es) X.env = (false, eval e X.env) :: starEach es X.env := by rfl) (hpl : (backTo pos (starEach es X.env)).any (·.1) = false := by rfl) : VE X W (.Call (.Name x p) (e :: es) [] pos) (eCallH m n X.env.cells js fs) := by
  obtain ⟨f, fd, ps, Fo, hm, hk, hb⟩ := Fv.ex
  refine ⟨fun pins s σ H Q I ⟨b, F, c, env, st, e1, e2, r, pp⟩ => ?_⟩
  refine wpAny_Call_Name_kw (ld_glob I hg hm ?_ hdb)
  refine PySem.W.callWith_K (h₀ := X.base) I.ok.mod.kin hk (thn (ha.run pos pins s σ H (HQ X W m n false js σ Q) I (tA_at e1 e2 r pp fun vs ds env1 st1 F1 c1 H1 s1 r1 rp1 p1 => ?_)) fun us s1 ⟨vs, H1, I1, rv, hq⟩ => ⟨I1.kIn, ?_⟩) he hpl
  · split at p1
    · rename_i hl
      exact ⟨b, F1, c1, env1, st1, ds, e1, e2, r1, rp1, hl, postF_call r1 p1 fun v d st F' c' H' s r' rv q => q v rv⟩
    · exact p1.elim
  · obtain ⟨b2, F2, c2, env2, st2, ds, d1, d2, r2, rp2, hl, pf⟩ := hq
    exact run_h Fo hb hr tk hfn hjs I1 d1 d2 r2 rv rp2 hl pf
end
end VE
namespace PySem.W
open PySem PySem.Spec PySem.Calls PyProof.Rows
section
variable {M : Model} {A : Around} {E : Value → Shared → Prop} {s : Shared} {name qual : Str} {params : Arguments} {body : Expr} {scope : Scope} {env : Env} {c P : Addr} {ps : Array Value} {pos : Pos} {firstLine : Nat} {mg : Str → Option Value}
  {clos : List (Str × Addr)} {Q : Value → Shared → Prop} {dv : Value}
end
end PySem.W
namespace VE
open PySem PySem.Spec PyProof.Rows L2
section
variable [VEnv]
/-- a lambda whose one parameter has a default, called without an argument -/
structure LamOkD (P : Program) (w : World) (K : PySem.W.Frag) (mg : Str → Option Value) (base : Heap) (k i : Nat) (m : List (Option D) → FM) : Prop where
  run : ∀ (A : Around) (outer : List Env) (s : Shared) (H : Hp) (ws : List (Option V)) (caps : List (Option D)) (Q : VK) (E : XK) (f c' q : Addr) (cells : List (Str × Addr)) (F : Addr → Prop) (c : List Addr) (z : Int) (st : Sto),
    Room k A → Env0 P w K mg base A outer s H → H f = some (FnLD f (VEnv.code i) cells c' q) → H c' = some (LamX.CodeO c' (VEnv.code i).qual) → H q = some (.tup [.int z]) → NdefX.CellsAt (cloFrom cells (VEnv.code i).scope.names []) (VEnv.code i).fr ws s.heap H →
    RelC K mg F c st H → CapOk K mg F c H ws caps → PostF K mg false F c H Q E (m caps [.int z] st) → codeAny (model P w) A (.call (.ref f) ⟨[], []⟩) (CR (L2Z.CX P w K) outer P w H s Q E) s
end
section
variable [VEnv]
variable {P : Program} {w : World} {K : PySem.W.Frag} {mg : Str → Option Value} {base : Heap} {N : List Str} {k i : Nat} {H : Hp} {f c' q : Addr} {cells : List (Str × Addr)} {L : LamCode} {h : Heap}
theorem LamOkD.mono {j : Nat} {m : List (Option D) → FM} (o : LamOkD P w K mg base j i m) (h : j ≤ k) : LamOkD P w K mg base k i m := ⟨fun A outer s H ws caps Q E f c' q cells F c z st hr => o.run A outer s H ws caps Q E f c' q cells F c z st (hr.mono h)⟩
end
section
variable [VEnv]
section
variable {G : Addr → Prop} {X : Cx} {pins : List (Addr × Obj)} {σ : L2.St} {H : Hp} {s : Shared} {P c' qd : Addr} {L : LamCode} {ps : Array Value} {h' : Heap} {fo : Obj} {tk : Nat} {pos : Pos} {q : Str}
end
end
section
variable [VEnv]
variable {X : Cx} {W : WX} {pos : Pos}
end
section
variable [VEnv]
variable {X : Cx} {W : WX} {e a : Expr} {pos p : Pos} {x : Str} {k j i gi : Nat} {G : Nat → LamM}
end
end VE
namespace VE
open PySem PySem.Spec PyProof.Rows L2
variable [VEnv]
section
variable {X : Cx} {W : WX} {o a : Expr} {pos : Pos} {fo fa : M D} {k : Nat}
def rCountD (K : PySem.W.Frag) : V → List V → Hp → VK → Prop := fun x xs H Q => ∃ (a : Addr) (y : V) (d : PyData) (ds : List PyData), x = V.ref a ∧ xs = [y] ∧ Dp K H (V.ref a) (.list ds) ∧ Dp K H y d ∧
  SeqAt.shaped (.list ds) = true ∧ SeqAt.shaped d = true ∧ Q (.int ((ds.countP fun z => PyData.eqv z d : Nat))) H
omit [VEnv] in
theorem mt_countD (hu : X.A.units + 65 < cLine) : MtR X "list.count" (rCountD X.K) := by
  intro pins s σ H x xs v us Q I rx rxs h
  obtain ⟨a, y, d, ds, rfl, rfl, hl, hy, sl, sd, q⟩ := h
  cases rx
  cases rxs with
  | cons ry rt =>
    rename_i uy ut
    cases rt
    obtain ⟨bs, r1⟩ := Dp.reads I d y uy hy ry
    have hxs : PyData.canLayAll0 ds = true := SeqAt.canLay_of_shaped sl
    have hroom : X.A.units + 1 + min (PyData.depthAll ds) d.depth < cLine := room_in_shaped sd hu
    cases hl with
    | lst hs ha =>
      obtain ⟨its, rv, ⟨⟨cls, dd, data, sls⟩, n, ho, hc, hdn, hdt⟩, hlen⟩ := I.list hs
      simp only at hc hdt
      subst hc hdt
      obtain ⟨as, h4⟩ := Dp.readsAll I ds _ its ha rv
      have hmap : its.map (SeqAt.readOf s.heap) = ds := SeqAt.readsAll_map ds its as hxs h4
      refine call_meets PySem.F.slot_list_count ⟨_, ho, rfl⟩ PySem.F.entry_list_count (PySem.F.args_list_count_2 _ _)
        (SeqAt.list_countAt a its.toArray n dd sls uy (fun u => PyData.eqv (SeqAt.readOf s.heap u) d)) ⟨ho, SeqAt.items_eqAt (vs := its.toArray) (show ReadsAll s.heap its.toArray.toList ds as from h4) r1 hxs (SeqAt.canLay_of_shaped sd) hroom, ?_⟩
      refine ⟨.int ((ds.countP fun z => PyData.eqv z d : Nat)), H, I.tok _, ⟨s.toks, ?_⟩, q⟩
      rw [← hmap, List.countP_map]
      rfl
def cntD (x : D) (ys : List D) : Nat := ys.countP fun z => eqD z x
omit [VEnv] in
theorem cntD_py (x : D) : ∀ ys : List D, (toPys ys).countP (fun z => PyData.eqv z (toPy x)) = cntD x ys
  | [] => rfl
  | y :: ys => by
    have ih := cntD_py x ys
    simp only [toPys, List.countP_cons, ih, cntD]
    rfl
def eCnt (fo fa : M D) : M D := fun env st => (fo env st).bind fun r env st => match vw st r with
  | .lst _ => (fa env st).bind fun x env st => (match vw st r with
    | .lst ys => if plain 20 x && plain 20 (.lst ys) then .ok (.int (cntD x ys : Nat)) env st else .bad
    | _ => .bad)
  | _ => .bad
theorem ve_cntU {apos : Pos} (hu : X.A.units + 65 < cLine) (ho : VE X W o fo) (ha : VE X W a fa) (hbase : attributeBase o "count" X.env (eval o X.env) = eval o X.env := by rfl)
    (hfew : ((backTo pos (starEach [a] X.env)).all (fun x => !x.1) && (backToKw pos (keywordEach [] X.env)).all (fun x => x.1.isSome)
      && decide (([a] : List Expr).length + ([] : List Keyword).length + (if ([] : List Keyword).isEmpty then 0 else 1) < 30)) = true := by rfl)
    (hline : (apos.endLine == pos.line) = true := by rfl) (hs : starEach [a] X.env = (false, eval a X.env) :: starEach [] X.env := by rfl) (hplain : (backTo pos (starEach [] X.env)).any (·.1) = false := by rfl) :
    VE X W (.Call (.Attribute o "count" apos) [a] [] pos) (eCnt fo fa) := PEof (pe_bm PySem.F.plainAttrs_list PySem.F.slot_list_count PySem.F.type_list_count (mt_countD hu) ho (pa_cons ha pa_nil hs) hbase hfew hline hs hplain) fun σ H Q ⟨b, F, c, env, st, e1, e2, r, p⟩ =>
  tE_at e1 e2 r p fun v d env1 st1 F1 c1 H1 s1 r1 rp1 p1 => by
    split at p1
    · rename_i ds0 ev0
      have lv0 := r1.lv rp1
      rw [ev0] at lv0
      obtain ⟨q, vs0, rfl, hq0, _⟩ := lv0
      refine ⟨.inl ⟨rfl, _, SqL.of hq0⟩, tE_at e1 e2 r1 p1 fun u y env2 st2 F2 c2 H2 s2 r2 rp2 p2 => ?_⟩
      split at p2
      · rename_i ys ev
        have lv := r2.lv (rp1.stp s2)
        rw [ev] at lv
        split at p2
        · rename_i hp
          rw [Bool.and_eq_true] at hp
          have k1 := LV.dp lv hp.2
          have k2 := rp2.dp 20 hp.1
          have k3 := shaped_of (by decide) hp.2
          simp only [toPy] at k1 k3
          rw [e1] at k1 k2
          refine ⟨q, u, _, _, rfl, rfl, k1, k2, k3, shaped_of (by decide) hp.1, ?_⟩
          rw [cntD_py]
          exact Post.here r2 p2 _ (.int _)
        · exact p2.elim
      · exact p2.elim
    · exact p1.elim
end
end VE
namespace VE
open PySem PySem.Spec PyProof.Rows L2
variable [VEnv]
section
variable {X : Cx} {W : WX} {e a o : Expr} {pos p p2 q : Pos} {fa fb fc : M D}
/-- a constant -/
inductive Cst : Expr → V → D → Prop where
  | int {i j pos} : Cst (.Constant (.int i) j pos) (.int i) (.int i)
  | non {j pos} : Cst (.Constant .none j pos) .non .non
theorem Cst.rp {u : Expr} {v : V} {d : D} (h : Cst u v d) {K : PySem.W.Frag} {mg : Str → Option Value} {F : Addr → Prop} {c : List Addr} {H : Hp} : Rp K mg F c H v d := by
  cases h
  · exact .int _
  · exact .non
variable {i j l m : Nat} {z d d' d'' : D} {env : EnvD} {st : Sto}
end
end VE
namespace VE
open PySem PySem.Spec PyProof.Rows L2
variable [VEnv]
section
variable {X : Cx} {W : WX} {e a o d : Expr} {es : List Expr} {pos p p2 q pos' : Pos} {fa fb fo fi : M D} {fs : M (List D)} {x : Str} {k : Nat} {env : EnvD} {st : Sto}
end
end VE
namespace L2
open PySem PySem.Spec PyProof.Rows
/-- behind a suite its clause's name is gone -/
def endX (i : Nat) (D : Ends) : Ends := { nx := fun σ' H' => D.nx (σ'.set i none) H', rt := D.rt, bk := fun σ' H' => D.bk (σ'.set i none) H', ct := fun σ' H' => D.ct (σ'.set i none) H' }
def wManyA (K : PySem.W.Frag) (Wout : WX) (D : Ends) : List (Value × Option Nat × (Addr → Value → Option Addr → TS)) → WX
  | [] => Wout
  | (c, none, ts) :: r => fun cls d σ H => ∃ b, PySem.W.exmOne K cls c = some b ∧ (b = true → ∀ a, H a = none → ts a cls d D σ H) ∧ (b = false → wManyA K Wout D r cls d σ H)
  | (c, some i, ts) :: r => fun cls d σ H => ∃ b, PySem.W.exmOne K cls c = some b ∧ (b = true → ∀ a, H a = none → ts a cls d (endX i D) (σ.set i (some (.ref a))) H) ∧ (b = false → wManyA K Wout D r cls d σ H)
inductive HdsOkA (X : Cx) : List ExceptHandler → List (Value × Option Nat × (Addr → Value → Option Addr → TS)) → Prop
  | nil : HdsOkA X [] []
  | cons {x : Str} {c : Value} {ts : Addr → Value → Option Addr → TS} {b₀ : Stmt} {suite : List Stmt} {np pos' : Pos} {hds : List ExceptHandler} {l : List (Value × Option Nat × (Addr → Value → Option Addr → TS))} (hc : Names X x c)
      (hsu : ∀ (a : Addr) (oe : Obj) (cls : Value) (d : Option Addr) (pn : List (Addr × Obj)), Zc cls d oe → (∃ vs, oe.data = .fields vs) → PSs (X.suite a ((a, oe) :: pn)) (b₀ :: suite) (ts a cls d)) (r : HdsOkA X hds l) :
      HdsOkA X (.ExceptHandler (some (.Name x np)) none (b₀ :: suite) pos' :: hds) ((c, none, ts) :: l)
  | consN {x n : Str} {i : Nat} {c : Value} {ts : Addr → Value → Option Addr → TS} {b₀ : Stmt} {suite : List Stmt} {np pos' : Pos} {hds : List ExceptHandler} {l : List (Value × Option Nat × (Addr → Value → Option Addr → TS))} (hc : Names X x c)
      (hi : X.N[i]? = some n) (hln : X.env.kindOf n = some .local)
      (hsu : ∀ (a : Addr) (oe : Obj) (cls : Value) (d : Option Addr) (pn : List (Addr × Obj)), Zc cls d oe → (∃ vs, oe.data = .fields vs) → PSs (X.suite a ((a, oe) :: pn)) (b₀ :: suite) (ts a cls d)) (r : HdsOkA X hds l) :
      HdsOkA X (.ExceptHandler (some (.Name x np)) (some n) (b₀ :: suite) pos' :: hds) ((c, some i, ts) :: l)
section
variable {X : Cx} {body : List Stmt} {h₀ : ExceptHandler} {hds : List ExceptHandler} {l : List (Value × Option Nat × (Addr → Value → Option Addr → TS))} {pos : Pos} {tb : WX → TS} {Wout : WX}
theorem ps_try_manyA (hN : X.N.Nodup) (hs : X.stack = X.env :: X.outer) (hf : X.env.frame = some X.env.locals) (tk : L2Z.Takes X Wout)
    (hb : ∀ (W : WX) (pn : List (Addr × Obj)) (xe : Value → Shared → Prop), L2Z.Takes (X.tr pn xe) W → PassesOwn (model X.prog X.w) X.A X.env xe → PSs (X.tr pn xe) body (tb W))
    (hh : HdsOkA X (h₀ :: hds) l) : PS X (.Try body (h₀ :: hds) [] [] pos) (fun D σ H => tb (wManyA X.K Wout D l) D σ H) := by
  refine ⟨fun pins s σ H D I h => ?_⟩
  have ok := I.ok
  have hfr : X.A.frames = some (X.env :: X.outer) := by rw [ok.frames, hs]
  refine wpAny_Try_except ?_
  refine wpAny_mono ((hb (wManyA X.K Wout D l) (X.pn ++ pins) (fun e s₁ => wpAny (model X.prog X.w) X.A (noteFrame e X.env) (fun _ s₂ => wpAny (model X.prog X.w) X.A (setFlight e none) (fun _ s₃ =>
    wpAny (model X.prog X.w) X.A (handleBy e X.env (h₀ :: hds)) (SP X pins D) X.xe s₃) X.xe s₂) X.xe s₁) (fun u s' xx => ?_) PassesOwn.looking).run [] s σ H D (I.toTry _) h) (fun f s1 hsp => ?_) (fun e s1 he => he)
  · -- the catch
    obtain ⟨a, B, sI, pins', σ', H', cls, d, rfl, J', nb, up, sky, na, os, ag, w⟩ := xx
    have J : Inv X pins σ' H' sI := J'.ofTry ok
    have sky' : Sky B (X.env :: X.outer) a (L2Z.Zz X.K cls d) X.env.locals s'.heap := by rw [← hs]; exact sky
    show wpAny (model X.prog X.w) X.A (noteFrame (.ref a) X.env) _ _ _
    refine L2N.Sky.land L2Z.Zz.steady hfr hf sky' fun h3 fl3 up3 => ?_
    have J3 : Inv X pins σ' H' { s' with heap := h3 } := J.landed nb fl3.1 (up.trans up3) os ag
    obtain ⟨oe3, vs3, he3, hz3, hd3⟩ := fl3.there
    have notFr : ∀ {h : Heap} {o : Obj} {vs : Array Value}, h.FunFrames B (X.env :: X.outer) → h.get? a = some o → o.data = .fields vs → a ∉ frs (X.env :: X.outer) := fun {h o vs} ff e dd hm => by
      obtain ⟨_, o', e', hnf⟩ := ff.mem hm
      rw [e] at e'; cases e'
      exact hnf _ dd
    have nfr := notFr fl3.2.2.1 he3 hd3
    have nL : a ≠ X.env.locals := fun z => nfr (List.mem_filterMap.mpr ⟨X.env, List.mem_cons_self, by rw [hf, z]⟩)
    have nF : a ∉ X.fs := fun hm => by
      obtain ⟨e, he, q⟩ := List.mem_filterMap.mp hm
      exact nfr (List.mem_filterMap.mpr ⟨e, List.mem_cons_of_mem _ he, q⟩)
    have S3 := J3.suite he3 hd3 na nL nF
    have go : ∀ {hds' : List ExceptHandler} {l' : List (Value × Option Nat × (Addr → Value → Option Addr → TS))}, HdsOkA X hds' l' → wManyA X.K Wout D l' cls d σ' H' →
        wpAny (model X.prog X.w) X.A (handleBy (.ref a) X.env hds') (SP X pins D) X.xe { s' with heap := h3 } := by
      intro hds' l' hk
      induction hk with
      | nil =>
        intro w
        refine wpAny_handleBy_nil ?_
        obtain ⟨k1, k2, k3, oe, vs, T, oT, ts', he, hz, hd, h1, hr⟩ := id fl3
        unfold PySem.passOn
        refine wpAny_bind (wpAny_field he hd h1 ?_)
        rw [if_neg (show ¬ ((Value.ref T == Value.none) = true) from by simp)]
        have fin : wpAny (model X.prog X.w) X.A (setFlight (.ref a) X.env.frame) (fun _ s4 => wpAny (model X.prog X.w) X.A (throw (.ref a) : Sem Flow) (SP X pins D) X.xe s4) X.xe { s' with heap := h3 } := by
          rw [hf]
          refine HandSPX.setFlight_upZ fl3 fun h4 hh4 up4 => wpAny_throw (tk _ _ ?_)
          exact ⟨a, B, sI, pins, σ', H', cls, d, rfl, J, nb, (up.trans up3).trans up4, .inr (.inr (by rw [hs]; exact hh4)), na, os, ag, w⟩
        first
          | exact wpAny_bind (wpAny_pure (wpAny_bind fin))
          | exact wpAny_bind fin
      | @cons x c ts b₀ suite np pos' hds2 l2 hc hsu r ih =>
        intro w
        obtain ⟨b, hb1, hyes, hno⟩ := w
        refine wpAny_handleBy_cons (codeAny_handlers_test ?_) (by intro q; cases q)
        have LT : PySem.W.Looks (model X.prog X.w) h3 (typeOf (.ref a)) cls := fun A Q E s k q => wpAny_typeOf_ref (k _ _ he3) (by rw [hz3.1]; exact q)
        have LM := PySem.W.exm_one (M := model X.prog X.w) (J3.kIn) LT hb1
        have test : ∀ {Q : Value → Shared → Prop} {E : Value → Shared → Prop}, Q c { s' with heap := h3 } → wpAny (model X.prog X.w) (X.A.mark (some (.ref a))) (eval (.Name x np) X.env) Q E { s' with heap := h3 } := fun {Q E} q => by
          obtain ⟨hg, hdbg, hm | ⟨hm, hv, hnn⟩⟩ := hc
          · exact ld_glob (X := X.suite a ((a, oe3) :: (X.pn ++ pins))) S3 hg hm q hdbg
          · exact ld_blt (X := X.suite a ((a, oe3) :: (X.pn ++ pins))) S3 hg hm hv q hnn hdbg
        refine test (LM.here ?_)
        cases b with
        | true =>
          refine codeAny_handlers_suite ?_
          refine HandSPX.lands_againZ fl3 fun h4 fl4 up4 => ?_
          have J4 : Inv X pins σ' H' { s' with heap := h4 } := J.landed nb fl4.1 ((up.trans up3).trans up4) os ag
          obtain ⟨oe4, vs4, he4, hz4, hd4⟩ := fl4.there
          have S4 := J4.suite he4 hd4 na nL nF
          refine wpAny_mono ((hsu a oe4 cls d (X.pn ++ pins) hz4.zc ⟨_, hd4⟩).run [] _ _ H' _ S4 (hyes rfl a na)) (fun f s6 hsp => ?_) (fun _ _ z => False.elim z)
          cases f with
          | next =>
            obtain ⟨σ6, H6, S6, q6⟩ := hsp
            exact ⟨_, _, S6.unsuite ok, q6⟩
          | brk =>
            obtain ⟨σ6, H6, S6, q6⟩ := hsp
            exact ⟨_, _, S6.unsuite ok, q6⟩
          | cont =>
            obtain ⟨σ6, H6, S6, q6⟩ := hsp
            exact ⟨_, _, S6.unsuite ok, q6⟩
          | ret u =>
            obtain ⟨v6, σ6, H6, S6, r6, q6⟩ := hsp
            exact ⟨_, _, _, S6.unsuite ok, r6, q6⟩
        | false =>
          show wpAny _ X.A (handleBy (.ref a) X.env hds2) _ _ _
          exact ih (hno rfl)
      | @consN x n i c ts b₀ suite np pos' hds2 l2 hc hi hln hsu r ih =>
        intro w
        obtain ⟨b, hb1, hyes, hno⟩ := w
        have hloc : Loc X.env.scope n := .inl hln
        refine wpAny_handleBy_cons (codeAny_handlers_test ?_) (by intro q; cases q)
        have LT : PySem.W.Looks (model X.prog X.w) h3 (typeOf (.ref a)) cls := fun A Q E s k q => wpAny_typeOf_ref (k _ _ he3) (by rw [hz3.1]; exact q)
        have LM := PySem.W.exm_one (M := model X.prog X.w) (J3.kIn) LT hb1
        have test : ∀ {Q : Value → Shared → Prop} {E : Value → Shared → Prop}, Q c { s' with heap := h3 } → wpAny (model X.prog X.w) (X.A.mark (some (.ref a))) (eval (.Name x np) X.env) Q E { s' with heap := h3 } := fun {Q E} q => by
          obtain ⟨hg, hdbg, hm | ⟨hm, hv, hnn⟩⟩ := hc
          · exact ld_glob (X := X.suite a ((a, oe3) :: (X.pn ++ pins))) S3 hg hm q hdbg
          · exact ld_blt (X := X.suite a ((a, oe3) :: (X.pn ++ pins))) S3 hg hm hv q hnn hdbg
        refine test (LM.here ?_)
        cases b with
        | true =>
          refine codeAny_handlers_suite_as ?_
          refine HandSPX.lands_againZ fl3 fun h4 fl4 up4 => ?_
          have J4 : Inv X pins σ' H' { s' with heap := h4 } := J.landed nb fl4.1 ((up.trans up3).trans up4) os ag
          obtain ⟨oe4, vs4, he4, hz4, hd4⟩ := fl4.there
          have S4 := J4.suite he4 hd4 na nL nF
          refine store_ok (X := X.suite a ((a, oe4) :: (X.pn ++ pins))) (v := .ref a) S4 hN hi hloc rfl (fun s5 S5 => ?_) (.inr hln)
          refine wpAny_mono ((hsu a oe4 cls d (X.pn ++ pins) hz4.zc ⟨_, hd4⟩).run [] s5 _ H' _ S5 (hyes rfl a na)) (fun f s6 hsp => ?_) (fun _ _ z => False.elim z)
          have end_ : ∀ {σ6 : St} {H6 : Hp} {Q : Shared → Prop}, Inv (X.suite a ((a, oe4) :: (X.pn ++ pins))) [] σ6 H6 s6 → (∀ s7, Inv X pins (σ6.set i none) H6 s7 → Q s7) →
              wpAny (model X.prog X.w) X.A (do bindName X.env n .none; unbindBehindTheSuite X.env n pos') (fun _ s7 => Q s7) X.xe s6 := fun {σ6 H6 Q} S6 hq => gone_ok (S6.unsuite ok) hN hi hln hq
          cases f with
          | next =>
            obtain ⟨σ6, H6, S6, q6⟩ := hsp
            exact end_ S6 fun s7 J7 => ⟨_, _, J7, q6⟩
          | brk =>
            obtain ⟨σ6, H6, S6, q6⟩ := hsp
            exact end_ S6 fun s7 J7 => ⟨_, _, J7, q6⟩
          | cont =>
            obtain ⟨σ6, H6, S6, q6⟩ := hsp
            exact end_ S6 fun s7 J7 => ⟨_, _, J7, q6⟩
          | ret u =>
            obtain ⟨v6, σ6, H6, S6, r6, q6⟩ := hsp
            exact end_ S6 fun s7 J7 => ⟨_, _, _, J7, r6, q6⟩
        | false =>
          show wpAny _ X.A (handleBy (.ref a) X.env hds2) _ _ _
          exact ih (hno rfl)
    exact go hh w
  · cases f with
    | next =>
      obtain ⟨σ', H', J', q⟩ := hsp
      exact wpAny_execs_nil ⟨σ', H', J'.ofTry ok, q⟩
    | brk =>
      obtain ⟨σ', H', J', q⟩ := hsp
      exact ⟨σ', H', J'.ofTry ok, q⟩
    | cont =>
      obtain ⟨σ', H', J', q⟩ := hsp
      exact ⟨σ', H', J'.ofTry ok, q⟩
    | ret u =>
      obtain ⟨v, σ', H', J', r, q⟩ := hsp
      exact ⟨v, σ', H', J'.ofTry ok, r, q⟩
end
end L2
namespace VE
open PySem PySem.Spec PyProof.Rows L2
variable [VEnv]
/-- does a clause take an exception: the classes it takes, those it does not -/
def hmB (yes no : List Str) (c : Str) : Option Bool := if c ∈ yes then some true else if c ∈ no then some false else none
def noEx {α : Type} : R α → R α
  | .ex _ _ _ => .bad
  | r => r
/-- which classes a clause takes -/
def XmV (K : PySem.W.Frag) (mg : Str → Option Value) (n : Str) (yes no : List Str) : Prop := ∃ C, mg n = some (.ref C) ∧ (∀ y ∈ yes, ∀ cls, mg y = some cls → PySem.W.exmOne K cls (.ref C) = some true) ∧ ∀ y ∈ no, ∀ cls, mg y = some cls → PySem.W.exmOne K cls (.ref C) = some false
theorem exm_of {K : PySem.W.Frag} {S C : Addr} {t : Bool} (h1 : PySem.W.subIn K (.ref C) (.type "BaseException") = some true) (h2 : PySem.W.isClsIn K C = true) (h3 : PySem.W.typeIn K (.ref C) = some (.type "type"))
    (h4 : PySem.W.subIn K (.ref S) (.ref C) = some t) : PySem.W.exmOne K (.ref S) (.ref C) = some t := by
  have hc : (PySem.W.clsIn K C).isSome = true := h2
  simp [PySem.W.exmOne, PySem.W.kitCls, h1, hc, h3, h4]
section
variable {X : Cx} {W : WX} {hds : List ExceptHandler} {hs : List ((List Str × List Str) × M Fl)} {g gb : M Fl} {pos np pos' : Pos} {x : Str} {b₀ h₀ : Stmt} {suite body : List Stmt} {yes no : List Str}
theorem PostS.noEx {b : Bs} {F : Addr → Prop} {c : List Addr} {H : Hp} {P : Fl → EnvD → Sto → (Addr → Prop) → List Addr → L2.St → Hp → Prop} {r : R Fl} (h : PostS b W F c H P (VE.noEx r)) : PostS b W0 F c H P r := by
  cases r with
  | ok fl e s => exact h
  | ex x e s => exact h.elim
  | bad => exact h.elim
end
section
variable {env e : EnvD} {st s : Sto} {gb : M Fl} {hs : List ((List Str × List Str) × M Fl)} {x : Exn} {fl : Fl} {g : M Fl} {yes no : List Str}
@[simp] theorem x_noEx : noEx (.ok fl e s) = .ok fl e s := rfl
end
end VE
namespace VE
open PySem PySem.Spec PyProof.Rows L2
variable [VEnv]
section
variable {X : Cx} {W : WX} {e a o q : Expr} {fa fb fo fi : M D} {pos : Pos} {k : Nat}
end
section
variable {i : Nat} {fa fb fo fi : M D} {env : EnvD} {st : Sto}
end
end VE
namespace VP.RT
open PySem PyProof.Rows
open HT
section
variable {prog : Program} {w : World} {A : Around} {E : Value → Shared → Prop} {s : Shared}
end
end VP.RT
namespace VE
open PySem PySem.Spec PyProof.Rows L2
variable [VEnv]
section
variable {X : Cx} {W : WX} {a e : Expr} {pos : Pos} {fa fb : M D} {k : Nat}
namespace CM
end CM
end
end VE
namespace PySem.W
open PyProof.Rows
section
variable {prog : Program} {w : World} {A A₀ : Around} {E : Value → Shared → Prop} {s : Shared} {K : Frag} {x C L f : Addr} {h₀ : Heap} {m : Str → Option Value} {ox : Obj} {od : Option Obj} {name : Str} {b tb : Value}
end
end PySem.W
namespace L2
open PySem PySem.Spec PyProof.Rows
section
variable {X : Cx} {n : Nat}
end
end L2
namespace VE
open PySem PySem.Spec PyProof.Rows L2
variable [VEnv]
/-- what isinstance asks of the class n -/
structure IsiV (K : PySem.W.Frag) (mg : Str → Option Value) (n : Str) : Prop where
  ex : ∃ C, mg n = some (.ref C)
  cl : ∀ C, mg n = some (.ref C) → L2.SCls K C ∧ SlX.SIsi K C ∧ PySem.W.kitOne K (.ref C) (.ref C) = some true
section
variable {X : Cx} {W : WX} {e a : Expr} {pos p p2 : Pos} {ta : TE} {fa fb : M D} {n : Str} {C : Addr}
end
section
variable {K : PySem.W.Frag} {mg : Str → Option Value} {F F' : Addr → Prop} {c : List Addr} {H H' : Hp}
/-- the heap only grew -/
theorem FqT.ext {a : Addr} {xs : List V} (h : FqT K F H a xs) (e : Ext H H') : FqT K F H' a xs := h.imp (fun ⟨f, h⟩ => ⟨f, e _ _ h⟩) id
theorem FqL.ext {a : Addr} {xs : List V} (h : FqL K F H a xs) (e : Ext H H') : FqL K F H' a xs := h.imp (fun ⟨f, h⟩ => ⟨f, h.elim (fun h => .inl (e _ _ h)) fun ⟨o, h⟩ => .inr ⟨o, e _ _ h⟩⟩) id
theorem slAt_ext {a C dx : Addr} {vs : List (Option V)} (h : VE.SlAt H a C dx vs) (e : Ext H H') : VE.SlAt H' a C dx vs := ⟨e _ _ h.1, h.2.1, e _ _ h.2.2⟩
mutual
theorem Rp.ext (e : Ext H H') : ∀ {v : V} {d : D}, Rp K mg F c H v d → Rp K mg F c H' v d
  | _, _, .non => .non
  | _, _, .bl b => .bl b
  | _, _, .int i => .int i
  | _, _, .str x => .str x
  | _, _, .lst f h r => .lst f (e _ _ h) (Rps.ext e r)
  | _, _, .scr h => .scr (h.ext e)
  | _, _, .tup h r => .tup (h.ext e) (Rps.ext e r)
  | _, _, .obj m f h r => .obj m f (slAt_ext h e) (Rps.ext e r)
  | _, _, .ino m f h q r => .ino m f (e _ _ h) q (Rps.ext e r)
  | _, _, .ref h => .ref h
  | _, _, .glb h => .glb h
  | _, _, .lam f h g k z => .lam f (e _ _ h) g (e _ _ k) z
  | _, _, .lamD f h g k z t u w => .lamD f (e _ _ h) g (e _ _ k) z t (e _ _ u) w
theorem Rps.ext (e : Ext H H') : ∀ {vs : List V} {ds : List D}, Rps K mg F c H vs ds → Rps K mg F c H' vs ds
  | _, _, .nil => .nil
  | _, _, .cons h r => .cons (Rp.ext e h) (Rps.ext e r)
end
/-- two instances of n with the same plain data -/
def RSame (K : PySem.W.Frag) (mg : Str → Option Value) (n : Str) : Addr → Addr → Hp → Prop := fun a b H => ∃ F c F' c' ds, Rp K mg F c H (.ref a) (.obj n ds) ∧ Rp K mg F' c' H (.ref b) (.obj n ds) ∧ ds ≠ [] ∧ plains 20 ds = true
theorem RSame.ext {n : Str} {a b : Addr} (h : RSame K mg n a b H) (e : Ext H H') : RSame K mg n a b H' := by
  obtain ⟨F, c, F', c', ds, h1, h2, h3⟩ := h
  exact ⟨F, c, F', c', ds, h1.ext e, h2.ext e, h3⟩
end
section
variable {P : Program} {w : World} {K : PySem.W.Frag} {mg : Str → Option Value} {base : Heap}
/-- the own == of n, whose instances are equal where their data are -/
structure EqR (P : Program) (w : World) (K : PySem.W.Frag) (mg : Str → Option Value) (base : Heap) (n : Str) : Prop where
  ex : ∃ C f fd ps, mg n = some (.ref C) ∧ PySem.W.findIn K (.ref C) "__eq__" = some (some (.ref f)) ∧ PySem.W.isFn K (.ref f) = true ∧ FnOk P w K mg base (L2Z.CX P w K) 1 f fd ps (spEq (RSame K mg n)) ∧ Binds K fd ps []
/-- .. as a function of data -/
structure EqV (P : Program) (w : World) (K : PySem.W.Frag) (mg : Str → Option Value) (base : Heap) (k : Nat) (n : Str) (m : FM) : Prop where
  ex : ∃ C f fd ps, mg n = some (.ref C) ∧ PySem.W.findIn K (.ref C) "__eq__" = some (some (.ref f)) ∧ PySem.W.isFn K (.ref f) = true ∧ PySem.W.findIn K (.ref C) "__ne__" = some (some (.builtin "object.__ne__")) ∧ PySem.W.subIn K (.ref C) (.type "object") = some true ∧
    FnOk P w K mg base (L2Z.CX P w K) k f fd ps (spV K mg false 2 m) ∧ Binds K fd ps []
end
/-- a tuple of texts and a tuple of instances of n -/
def okBk (n : Str) (x : D) : Prop := ∃ ks rs, x = .tup [.tup ks, .tup rs] ∧ (∀ k ∈ ks, ∃ s, k = .str s) ∧ ∀ r ∈ rs, ∃ ds, r = .obj n ds ∧ ds ≠ [] ∧ plains 20 ds = true
noncomputable def eqOk (n : Str) (x y : D) : Bool := @decide (x = y ∧ okBk n x) (Classical.propDecidable _)
noncomputable def eqB (n : Str) : D → D → Option D := fun x y => if eqOk n x y then some (.bl true) else none
section
variable {X : Cx} {W : WX} {e a : Expr} {pos p p2 : Pos} {ta : TE} {fa fb : M D} {n : Str} {b : Bs} {F F' : Addr → Prop} {c : List Addr} {env : EnvD} {st : Sto} {σ : L2.St} {H H' : Hp}
theorem Rel.ext (r : Rel b F c env st σ H) (e : Ext H H') : Stp F c H F c H' ∧ Rel b F c env st σ H' := by
  have s : Stp F c H F c H' := ⟨fun _ h => h, fun a o _ h => e a o h, ⟨[], (List.append_nil c).symm⟩, fun d x h => e _ _ h, fun d o u h => e _ _ h⟩
  exact ⟨s, r.grow s e (fun a f => by obtain ⟨o, h⟩ := r.rc.trk a f; exact ⟨o, e _ _ h⟩) fun a f => .inl f⟩
omit [VEnv] in
theorem passNone : Passes (L2Z.CX X.prog X.w X.K) X (fun _ _ _ => False) := fun pins σ H s e s' I h => (L2Z.cx_no h).elim
end
section
variable {X : Cx} {k : Nat}
end
section
variable {X : Cx} {W : WX} {e a : Expr} {pos p p2 : Pos} {fa fb : M D} {n : Str} {k : Nat} {m : FM}
end
/-- len(x) by an own __len__ -/
structure LenV (P : Program) (w : World) (K : PySem.W.Frag) (mg : Str → Option Value) (base : Heap) (k : Nat) (n : Str) (m : FM) : Prop where
  ex : ∃ C f fd ps, mg n = some (.ref C) ∧ PySem.W.findIn K (.ref C) "__len__" = some (some (.ref f)) ∧ PySem.W.isFn K (.ref f) = true ∧ FnOk P w K mg base (L2Z.CX P w K) k f fd ps (spV K mg false 1 m) ∧ Binds K fd ps []
noncomputable def lnOk (i : Int) : Bool := @decide (0 ≤ i ∧ i < 2 ^ 63) (Classical.propDecidable _)
omit [VEnv] in
theorem lnOk_iff {i : Int} : lnOk i = true ↔ 0 ≤ i ∧ i < 2 ^ 63 := by unfold lnOk; exact @decide_eq_true_iff _ (Classical.propDecidable _)
noncomputable def lnO (n : Str) (m : FM) : D → M D := fun x env st => match x with
  | .obj n1 xs => if n1 = n then (match m [.obj n1 xs] st with
    | .ok (.int i) st => if lnOk i then .ok (.int i) env st else .bad
    | _ => .bad) else .bad
  | _ => .bad
noncomputable def eLnO (n : Str) (m : FM) (fa : M D) : M D := fun env st => (fa env st).bind (lnO n m)
section
open PySem.W
variable {prog : Program} {w : World} {A : Around} {E : Value → Shared → Prop} {s : Shared} {K : Frag} {x C f : Addr} {ox : Obj} {od : Option Obj}
omit [VEnv] in
theorem len_K {Q : Value → Shared → Prop} (X : K.In s.heap) (I : InstAt s.heap x ox C od) (hs : findIn K (.ref C) "__len__" = some (some (.ref f))) (hf : isFn K (.ref f) = true)
    (hcall : wpAny (model prog w) A.in1 (call (.ref f) [.ref x]) (fun r s' => ∃ n u, r = .int n u ∧ 0 ≤ n ∧ n < 2 ^ 63 ∧ Q (.int n s'.toks) { s' with toks := s'.toks + 1 }) E s) :
    wpAny (model prog w) A (call (.builtin "len") [.ref x]) Q E s := by
  refine Calls.call_function_entry kind_len plain_len entry_len (args_len1 _) ?_
  unfold Builtin.«len»
  refine wpAny_bind (m := oneArg "len" _) (wpAny_pure ?_)
  refine wpAny_bind (m := callSpecial? (.ref x) (Str.ofString "__len__")) (special_fn X I hs (beq_iff_eq.mp hf) (wpAny_mono hcall (fun r s' hr => ?_) fun _ _ y => y))
  obtain ⟨n, u, rfl, h0, h1, hq⟩ := hr
  refine wpAny_bind (wpAny_holding (wpAny_pure ?_))
  refine wpAny_bind (wpAny_letGo ?_)
  show wpAny _ _ (if n < 0 then _ else _) _ _ _
  rw [if_neg (by omega)]
  show wpAny _ _ (if n ≥ 2 ^ 63 then _ else _) _ _ _
  rw [if_neg (by omega)]
  exact wpAny_bind (wpAny_mkInt (wpAny_pure ⟨_, rfl, hq⟩))
end
section
variable {X : Cx} {W : WX} {e a : Expr} {pos p p2 : Pos} {fa fb : M D} {n : Str} {k : Nat} {m : FM}
def rLenO (C : Addr) (sp : Sp) (E : XK) : List V → Hp → VK → Prop := fun xs H Q => ∃ a dx vs, xs = [V.ref a] ∧ VE.SlAt H a C dx vs ∧ sp [.ref a] H (fun v H' => ∃ i, v = .int i ∧ 0 ≤ i ∧ i < 2 ^ 63 ∧ Q (.int i) H') E
omit [VEnv] in
theorem call_lenO {CX : CXT} {C f : Addr} {fd : FuncData} {ps : List Str} {sp : Sp} {E : XK} (F : FnOk X.prog X.w X.K X.mg X.base CX k f fd ps sp) (hr : Room (k + 1) X.A)
    (hs : PySem.W.findIn X.K (.ref C) "__len__" = some (some (.ref f))) (hf : PySem.W.isFn X.K (.ref f) = true) (hb : Binds X.K fd ps []) (hx : Passes CX X E) : CallR X (.builtin "len") (rLenO C sp E) := by
  intro pins s σ H xs us Q I r h
  obtain ⟨a, dx, vs, rfl, hsl, q⟩ := h
  obtain ⟨u, rfl, ru⟩ := r.one
  cases (show u = Value.ref a from ru)
  obtain ⟨_, od, _, _, J⟩ := VE.slAt_get I hsl
  have sb : L2.Sub X (k + 1) X.A := ⟨hr, rfl⟩
  refine len_K I.kIn J hs hf ?_
  have e0 : Env0 X.prog X.w X.K X.mg X.base X.A.in1 X.stack s H := by
    have e := I.env0
    exact ⟨by rw [sb.in1.fr]; exact e.frames, e.mod, e.bs, e.bsz, e.funs, e.frf, e.hok, e.bare⟩
  have hl := F.len _ _ _ _ q
  have r2 : Vals [V.ref a] [Value.ref a] := .cons rfl .nil
  refine wpAny_call (codeAny_mono (F.run X.A.in1 X.stack s H ⟨[.ref a], []⟩ [.ref a] [.ref a] _ E sb.in1.room e0 (by
    have := hb s [.ref a] I.kIn (by simpa using hl)
    simpa using this) r2 q) fun r s' hq => ?_)
  cases r with
  | error e => exact hx pins σ H s e s' I hq
  | ok fl =>
    cases fl with
    | ret w =>
      obtain ⟨z, H', I', rz, i, ez, h0, h1, q⟩ := I.after hq
      subst ez
      obtain ⟨t, rfl⟩ := (show ∃ t, w = Value.int i t from rz)
      exact ⟨i, t, rfl, h0, h1, .int i, H', I'.tok _, ⟨_, rfl⟩, q⟩
    | next => exact False.elim hq
    | brk => exact False.elim hq
    | cont => exact False.elim hq
theorem ve_lnO (Q : LenV X.prog X.w X.K X.mg X.base k n m) (hr : Room (k + 1) X.A) (hm : X.mg "len" = none) (ha : VE X W e fa) (hgl : Gl X "len" := by rfl)
    (hs : starEach [e] X.env = [(false, eval e X.env)] := by rfl) : VE X W (.Call (.Name "len" p) [e] [] pos) (eLnO n m fa) := by
  obtain ⟨C, f, fd, ps, hC, hs', hf, Fo, hbi⟩ := Q.ex
  refine PEof (pe_callB (call_lenO (E := fun _ _ _ => False) Fo hr hs' hf hbi passNone) hgl hm (by rfl) (pa_cons ha pa_nil hs) (by decide) (by decide) hs rfl) fun σ H Q ⟨b, F, c, env, st, e1, e2, r, pp⟩ => tE_at e1 e2 r pp fun v d env1 st1 F1 c1 H1 s1 r1 rp1 p1 => ?_
  unfold lnO at p1
  split at p1
  · rename_i n1 xs
    split at p1
    · rename_i en
      subst en
      have rp0 := rp1
      cases rp1 with
      | obj m1 m2 m3 m4 =>
        rw [e2, hC] at m1; cases m1
        refine ⟨_, _, _, rfl, m3, ?_⟩
        rw [← e1, ← e2]
        refine ⟨F1, c1, [.obj n1 xs], st1, r1.rc, .cons rp0 .nil, rfl, ?_⟩
        generalize m [.obj n1 xs] st1 = z at p1
        cases z with
        | ok d st' =>
          cases d with
          | int i =>
            dsimp only at p1
            split at p1
            · rename_i hi
              have hi := lnOk_iff.mp hi
              intro v F' c' H' s rc o rv
              cases (show Rp b.K b.mg F' c' H' v (.int i) from rv)
              exact ⟨i, rfl, hi.1, hi.2, p1 F' c' H' s (r1.call s rc o) _ (.int i)⟩
            · exact p1.elim
          | _ => exact p1.elim
        | ex x st' => exact p1.elim
        | bad => exact p1.elim
    · exact p1.elim
  · exact p1.elim
end
end VE
namespace VE
open PySem PySem.Spec PyProof.Rows L2
variable [VEnv]
section
variable {κ : Type} [DecidableEq κ]
variable {K : PySem.W.Frag} {mg : Str → Option Value} {F : Addr → Prop} {c : List Addr} {H : Hp} {k : κ}
end
section
variable {K : PySem.W.Frag} {mg : Str → Option Value} {F : Addr → Prop} {c : List Addr} {H : Hp}
end
/-- what the dict at a tells of y -/
structure Getb (X : Cx) (H : Hp) (a : Addr) (y : V) (o : Option V) : Prop where
  get : ∀ (pins : List (Addr × Obj)) (σ : L2.St) (s : Shared) (A : Around) (u : Value) (E : Value → Shared → Prop) (v : V) (Q : Value → Shared → Prop), Inv X pins σ H s → A.units + 1 < cLine → RelV y u → o = some v → (∀ w' s', Inv X pins σ H s' → RelV v w' → Q w' s') → wpAny (model X.prog X.w) A (getItem (.ref a) u) Q E s
  in_ : ∀ (pins : List (Addr × Obj)) (σ : L2.St) (s : Shared) (A : Around) (u : Value) (E : Value → Shared → Prop) (Q : Value → Shared → Prop), Inv X pins σ H s → A.units + 1 < cLine → RelV y u → (∀ s', Inv X pins σ H s' → Q (.bool o.isSome) s') → wpAny (model X.prog X.w) A (compareOp .In u (.ref a)) Q E s
  notIn : ∀ (pins : List (Addr × Obj)) (σ : L2.St) (s : Shared) (A : Around) (u : Value) (E : Value → Shared → Prop) (Q : Value → Shared → Prop), Inv X pins σ H s → A.units + 1 < cLine → RelV y u → (∀ s', Inv X pins σ H s' → Q (.bool (!o.isSome)) s') → wpAny (model X.prog X.w) A (compareOp .NotIn u (.ref a)) Q E s
  get2 : ∀ (pins : List (Addr × Obj)) (σ : L2.St) (s : Shared) (A : Around) (u r : Value) (d : V) (E : Value → Shared → Prop) (Q : Value → Shared → Prop), Inv X pins σ H s → A.units + 1 < cLine → RelV y u → RelV d r → (∀ w' s', Inv X pins σ H s' → RelV (o.getD d) w' → Q w' s') → wpAny (model X.prog X.w) A (call (.builtin "dict.get") [.ref a, u, r]) Q E s
section
variable {X : Cx} {H : Hp} {a : Addr}
end
section
variable {X : Cx} {b : Bs} {F : Addr → Prop} {c : List Addr} {env : EnvD} {st : Sto} {σ : L2.St} {H : Hp} {n : Nat} {x : Cell} {v y : V} {dy : D}
end
section
variable {X : Cx}
end
section
variable {X : Cx} {W : WX} {e a o d : Expr} {pos p pos' : Pos} {fa fb fo fi fd : M D} {k : Nat}
end
end VE
namespace VE
open PySem PySem.Spec PyProof.Rows L2
variable [VEnv]
section
variable {P : Program} {w : World} {K : PySem.W.Frag} {tg : Expr} {d : Addr} {o : Obj} {es : Array DictEntry} {ep : Nat} {u : HO} {ys : List V}
end
section
variable {P : Program} {w : World} {d : Addr} {o : Obj}
end
section
variable {X : Cx}
end
section
variable {X : Cx} {W : WX} {b : Bs} {F : Addr → Prop} {c : List Addr} {env : EnvD} {st : Sto} {σ : L2.St} {H : Hp}
end
end VE
namespace VE
open PySem PySem.Spec PyProof.Rows L2
variable [VEnv]
section
variable {X : Cx} {H : Hp} {a : Addr}
end
section
variable {X : Cx}
end
section
variable {X : Cx} {W : WX} {b : Bs} {F : Addr → Prop} {c : List Addr} {env : EnvD} {st : Sto} {σ : L2.St} {H : Hp} {n : Nat} {x : Cell} {v : V}
end
end VE
namespace VE
open PySem PySem.Spec PyProof.Rows L2
variable [VEnv]
section
variable {b : Bs} {F : Addr → Prop} {c : List Addr} {env : EnvD} {st : Sto} {σ : L2.St} {H : Hp} {a : Addr} {ds : List D}
theorem Rel.cellTake (r : Rel b F c env st σ H) (h1 : ¬ F a) (h2 : a ∉ c) (h3 : b.H0 a = none) (h4 : ∀ i, ¬ OwnA env σ i a) (h5 : OwnAt b.K b.mg F c H a (.lst ds)) : Stp F c H F (c ++ [a]) H ∧ Rel b F (c ++ [a]) env (st ++ [.lst ds]) σ H ∧ Rp b.K b.mg F (c ++ [a]) H (.ref a) (.ref st.length) := by
  have s : Stp F c H F (c ++ [a]) H := ⟨fun _ h => h, fun y o' f e => e, ⟨[a], rfl⟩, fun _ _ h => h, fun _ _ _ h => h⟩
  have ec : (c ++ [a])[st.length]? = some a := by rw [r.rc.len]; simp
  obtain ⟨vs, ev, pv⟩ := h5
  refine ⟨s, ⟨⟨fun y hf => r.rc.trk y hf, by rw [List.length_append, List.length_append, r.rc.len]; rfl, ?_, fun m y z hm hz => ?_, fun y hy => ?_, fun q hq => (r.rc.tab q hq).stp s (fun ps e => e) (fun _ _ h => h) fun ps e h => (List.mem_append.mp h).elim id fun z => by rw [List.mem_singleton] at z; rw [z, ev] at e; cases e⟩, r.len, fun i sl e => ?_, r.ds, fun y o' e hc => ?_, r.new, fun y hy => ?_, r.f0, r.k0⟩, .ref ec⟩
  · rw [List.nodup_append]
    exact ⟨r.rc.nd, by simp, fun x1 hx1 y hy => by rw [List.mem_singleton] at hy; exact fun z => h2 (hy ▸ z ▸ hx1)⟩
  · by_cases hl : m < st.length
    · rw [List.getElem?_append_left (by rw [← r.rc.len]; exact hl)] at hm
      rw [List.getElem?_append_left hl] at hz
      have k := r.rc.cl m y z hm hz
      cases z with
      | lst ds => obtain ⟨vs, e, p⟩ := k; exact ⟨vs, e, p.stp s⟩
      | ins nm fs => obtain ⟨C, dx, vfs, k1, k2, k3, p⟩ := k; exact ⟨C, dx, vfs, k1, k2, k3, p.stp s⟩
      | slo nm fs => obtain ⟨C, dx, vs, k1, k2, p⟩ := k; exact ⟨C, dx, vs, k1, k2, p.stp s⟩
      | slp nm ix fs => obtain ⟨C, dx, vs, k1, k2, p⟩ := k; exact ⟨C, dx, vs, k1, k2, p.stp s⟩
      | dct kvs => obtain ⟨vk, e, e2, p⟩ := k; exact ⟨vk, e, e2, p.stp s⟩
      | dcT kvs => obtain ⟨P, w, xs, vs, e0, e, e2, p, pk⟩ := k; exact ⟨P, w, xs, vs, e0, e, e2, p.stp s, fun x hx => (pk x hx).stp s⟩
      | dcN kvs => obtain ⟨P, w, vk, e0, e, e2, p⟩ := k; exact ⟨P, w, vk, e0, e, e2, p.stp s⟩
      | lcT kvs => obtain ⟨P, w, xs, vs, od, e0, e, e2, p, pk⟩ := k; exact ⟨P, w, xs, vs, od, e0, e, e2, p.stp s, fun x hx => (pk x hx).stp s⟩
      | lcN kvs => obtain ⟨P, w, vk, od, e0, e, e2, p⟩ := k; exact ⟨P, w, vk, od, e0, e, e2, p.stp s⟩
    · have hm' : m = st.length := by
        have := (List.getElem?_eq_some_iff.mp hz).1
        rw [List.length_append, List.length_singleton] at this
        omega
      subst hm'
      rw [ec] at hm; cases hm
      have : (st ++ [.lst ds])[st.length]? = some (.lst ds) := by simp
      rw [this] at hz; cases hz
      exact ⟨vs, ev, pv.stp s⟩
  · rcases List.mem_append.mp hy with h | h
    · exact r.rc.nf y h
    · rw [List.mem_singleton] at h; subst h; exact h1
  · have q := r.sl i sl e
    cases sl with
    | no => trivial
    | va d => obtain ⟨v, e', p⟩ := q; exact ⟨v, e', p.stp s⟩
    | gh cells vals => exact GhOk.stp q s
    | xc xi x => exact ⟨q.1, q.2.stp s⟩
    | ow d =>
      obtain ⟨y, e', p1, p2, p3, p4⟩ := q
      refine ⟨y, e', p1, fun h => ?_, p3, p4.stp s rfl⟩
      rcases List.mem_append.mp h with h | h
      · exact p2 h
      · exact h4 i ⟨d, e, by rw [← List.mem_singleton.mp h]; exact e'⟩
  · exact (r.old y o' e fun h => hc (List.mem_append_left _ h)).up fun z h => .inl h
  · rcases List.mem_append.mp hy with h | h
    · exact r.nwc y h
    · rw [List.mem_singleton] at h; subst h; exact .inr h3
end
/-- a fresh list, as a cell -/
def eCellF (f : M D) : M D := fun env st => (f env st).bind fun d env st => match d with
  | .lst ds => .ok (.ref st.length) env (st ++ [.lst ds])
  | _ => .bad
section
variable {X : Cx} {W : WX} {e : Expr} {f : M D}
theorem ve_cellF (h : VF X W e f) : VE X W e (eCellF f) := PEof h fun σ H Q ⟨b, F, c, env, st, e1, e2, r, p⟩ => ⟨b, F, c, env, st, e1, e2, r, by
  unfold eCellF at p
  generalize f env st = y at p
  cases y with
  | ok d env' st' =>
    intro F' c' H' s r' a h1 h2 h3 h4 h5
    cases d with
    | lst ds =>
      obtain ⟨s2, r2, rp⟩ := r'.cellTake h1 h2 h3 h4 h5
      exact p _ _ _ (s.trans s2) r2 _ rp
    | _ => exact p.elim
  | ex x env' st' => exact p
  | bad => exact p⟩
end
section
variable {X : Cx} {W : WX} {e a o d tg iter : Expr} {es : List Expr} {pos p pos' : Pos} {fa fb fo fi : M D} {fs : M (List D)} {x : Str} {k : Nat}
end
section
variable {X : Cx} {W : WX} {a o : Expr} {pos : Pos} {fo fa : M D}
end
end VE
namespace VE
open PySem PySem.Spec PyProof.Rows L2
variable [VEnv]
section
variable {X : Cx} {W : WX} {a e : Expr} {fb fe : M D} {pos p : Pos}
end
end VE
namespace VE
open PySem PySem.Spec PyProof.Rows L2
variable [VEnv]
section
variable {X : Cx} {W : WX} {e a d tg : Expr} {fa fb fc fi fd : M D} {pos p : Pos} {k : Nat}
structure KdV (K : PySem.W.Frag) (w : World) (mg : Str → Option Value) (x : Str) (kvs : List (Str × D)) : Prop where
  ex : ∃ a es n, mg x = some (.ref a) ∧ KDict K w a es n ∧ ∀ z d, kvs.lookup z = some d → ∃ u v, PySem.W.nsIn K a z = some (some u) ∧ RelV v u ∧ ∀ F c H, Rp K mg F c H v d
end
end VE
namespace VE
open PySem PySem.Spec PyProof.Rows L2
variable [VEnv]
section
variable {X : Cx} {W : WX} {a e : Expr} {pos p1 p2 : Pos} {fa fb : M D} {k1 k2 : Str} {j1 j2 : Nat}
end
end VE
namespace VE
open PySem PySem.Spec PyProof.Rows L2
variable [VEnv]
section
variable {X : Cx} {W : WX} {a e q1 q2 : Expr} {fa fb f1 f2 : M D} {pos p : Pos}
end
section
variable {i : Nat} {f fa fb f1 f2 : M D} {d : D} {g : M Fl} {env : EnvD} {st : Sto}
end
end VE
namespace PySem.W
open PyProof.Rows
section
variable {prog : Program} {w : World} {A : Around} {E : Value → Shared → Prop} {s : Shared} {K : Frag} {x C L f : Addr} {h₀ : Heap} {m : Str → Option Value} {ox : Obj} {od : Option Obj} {b tb : Value} {t : Bool}
theorem eq_K {Q : Value → Shared → Prop} (hu : A.units < cLine) (F : Fr h₀ L s.heap m) (X₀ : K.In h₀) (I : InstAt s.heap x ox C od) (hb : Looks (model prog w) s.heap (typeOf b) tb) (hn : notFirst K C tb = true)
    (hs : findIn K (.ref C) "__eq__" = some (some (.ref f))) (hf : isFn K (.ref f) = true)
    (h : wpAny (model prog w) A (call (.ref f) [.ref x, b]) (fun v s' => v = .bool t ∧ Q (.bool t) s') E s) : wpAny (model prog w) A (richCompare .Eq (.ref x) b) Q E s := by
  have X := X₀.keeps F.keep
  have one : wpAny (model prog w) A (tryCompare (.ref x) "__eq__" b) (fun r s' => ∃ v, r = some v ∧ Q v s') E s := by
    unfold tryCompare
    refine wpAny_bind (ifBound_K X I hs hf (wpAny_mono h (fun v s' hv => ?_) fun _ _ e => e))
    obtain ⟨rfl, q⟩ := hv
    exact wpAny_pure ⟨_, rfl, q⟩
  unfold richCompare
  simp only [oneThing_ref]
  refine wpAny_holding (wpAny_bind (wpAny_cRoomFor (by omega) ?_))
  refine wpAny_bind (I.type.here (wpAny_bind (hb.here ?_)))
  split
  · rename_i q
    have e : subIn K tb (.ref C) = some false := by
      rcases Bool.or_eq_true_iff.mp hn with e | e
      · rw [beq_iff_eq.mp e] at q; simp at q
      · exact beq_iff_eq.mp e
    refine wpAny_bind ((looks_subIn X e).here ?_)
    simp only [Bool.false_eq_true, if_false]
    refine wpAny_bind (wpAny_mono one (fun r s' z => ?_) fun _ _ e => e)
    obtain ⟨v, rfl, hq⟩ := z
    exact wpAny_pure hq
  · refine wpAny_bind (wpAny_pure ?_)
    simp only [Bool.false_eq_true, if_false]
    refine wpAny_bind (wpAny_mono one (fun r s' z => ?_) fun _ _ e => e)
    obtain ⟨v, rfl, hq⟩ := z
    exact wpAny_pure hq
end
end PySem.W
namespace VE
open PySem PySem.Spec PyProof.Rows L2
variable [VEnv]
section
variable {X : Cx} {k : Nat}
end
section
variable {X : Cx} {W : WX} {e a : Expr} {pos p p2 : Pos} {fa fb : M D} {n : Str} {k : Nat} {m : FM}
end
end VE
namespace VE
open PySem PySem.Spec PySem.SeqAt
open AutoSeq1 (wpAny_loadPart')
open MeetsSeq MeetsSeq2 MeetsSeq3 SeqRoads2
section
variable {P : Program} {w : World} {A : Around} {E : Value → Shared → Prop} {Z : Result → Shared → Prop} {s : Shared} {p q : Addr} {N : Nat} {J : Nat → Shared → Prop}
end
end VE
namespace VE
open PySem PySem.Spec PyProof.Rows L2
variable [VEnv]
namespace MN
end MN
section
variable {X : Cx} {W : WX} {e a : Expr} {pos p : Pos} {fa : M D} {k : Nat}
end
end VE
namespace VE
open PySem PySem.Spec PyProof.Rows L2
variable [VEnv]
structure PrI (P : Program) (w : World) (K : PySem.W.Frag) (mg : Str → Option Value) (base : Heap) (k : Nat) (n f : Str) (mf : FM) : Prop where
  ex : ∃ C p g fd ps, mg n = some (.ref C) ∧ L2.Cls K C ∧ PropOf K C f p g ∧ FnOk P w K mg base (L2Z.CX P w K) k g fd ps (spV K mg false 1 mf) ∧ Binds K fd ps []
section
variable {X : Cx} {W : WX} {e : Expr} {pos : Pos} {fa : M D}
end
section
variable {n n' : Str} {mf : FM} {fo : M D} {q : Nat} {env : EnvD} {st : Sto} {fs : List (Str × D)}
end
end VE
namespace VE
open PySem PySem.Spec PyProof.Rows L2
variable [VEnv]
omit [VEnv] in
theorem huA {A : Around} {k : Nat} (hr : Room k A) : A.units + 64 < cLine := by have := hr.un; omega
section
variable {X : Cx} {W : WX} {e a : Expr} {pos : Pos} {fa fb : M D}
theorem vt_neU (hu : X.A.units + 64 < cLine) (ha : VE X W e fa) (hb : VE X W a fb) : VT X W (.Compare e [.NotEq] [a] pos) (eT (eBin (sv2 neP) fa fb)) := vt_cmp (op_neD hu) ok_neV ha hb (nomark _)
theorem vt_eqU (hu : X.A.units + 64 < cLine) (ha : VE X W e fa) (hb : VE X W a fb) : VT X W (.Compare e [.Eq] [a] pos) (eT (eBin (sv2 eqP) fa fb)) := vt_cmp (op_eqD hu) ok_eqV ha hb (nomark _)
end
end VE
namespace VE
open PySem PySem.Spec PyProof.Rows L2
variable [VEnv]
section
variable {b : Bs} {F F' : Addr → Prop} {c : List Addr} {env : EnvD} {st st' : Sto} {σ : L2.St} {H H' : Hp} {a : Addr} {ds : List D} {i : Nat}
theorem Rel.back (r0 : Rel b F c env st σ H) (e : env[i]? = some (.ow (.lst ds))) (ea : σ[i]? = some (some (.ref a))) (h2 : a ∉ c) (h3 : b.H0 a = none) (h5 : OwnAt b.K b.mg F c H a (.lst ds))
    (s : Stp F (c ++ [a]) H F' (c ++ [a]) H') (r : Rel b F' (c ++ [a]) (env.set i (.va (.ref st.length))) (st' ++ [.lst ds]) σ H') (hl : st'.length = st.length) (hrf : ∀ x ∈ st', rfC st.length x = true) :
    Stp F c H F' c H' ∧ Stp F' c H' F' c H' ∧ Rel b F' c env st' σ H' := by
  have t : Stp F' c H' F' c H' := .refl
  have hcp : CellOk b.K b.mg F' (c ++ [a]) H' a (.lst ds) := r.rc.cl c.length a _ (by simp) (by rw [← r0.rc.len, ← hl]; simp)
  obtain ⟨vs, hv, rv⟩ := hcp
  have hlen := r0.rc.len
  refine ⟨⟨s.inc, s.keep, ⟨[], (List.append_nil c).symm⟩, s.own, s.lck⟩, t, ⟨⟨r.rc.trk, by rw [hl]; exact hlen, r0.rc.nd, fun n a' y hn hy => ?_, fun a' ha h => r.rc.nf a' (List.mem_append_left _ ha) h, fun q hq => ?_⟩, r0.len, fun j sl he => ?_, r0.ds, fun a' o e hc => ?_, r.new, r0.nwc, r.f0, r.k0⟩⟩
  · have hlt : n < c.length := (List.getElem?_eq_some_iff.mp hn).1
    have hk := r.rc.cl n a' y (by rw [List.getElem?_append_left hlt]; exact hn) (by rw [List.getElem?_append_left (by rw [hl, hlen]; exact hlt)]; exact hy)
    exact hk.cut (by rw [← hlen]; exact hrf y (List.mem_of_getElem? hy))
  · obtain ⟨t1, t2, ps, t3, t4, t5⟩ := r.rc.tab q hq
    exact ⟨t1, fun h => t2 (List.mem_append_left _ h), ps, t3, t4, t5⟩
  · by_cases q : i = j
    · subst q
      rw [e] at he; cases he
      obtain ⟨_, _, r9⟩ := h5
      exact ⟨a, ea, r.rc.nf a (by simp), h2, h3, vs, hv, rv.cutR r9.rf⟩
    · have q0 := r0.sl j sl he
      have q1 := r.sl j sl (by rw [List.getElem?_set_ne q]; exact he)
      cases sl with
      | no => trivial
      | va d =>
        obtain ⟨v0, _, p0⟩ := q0
        obtain ⟨v, e, p1⟩ := q1
        exact ⟨v, e, p1.cut p0.rf⟩
      | xc xi x => exact q1
      | gh cells vals =>
        refine ⟨q1.cel, q1.inj, fun y d e => ?_⟩
        obtain ⟨a0, _, _, _, _, _, _, _, p0⟩ := q0.val y d e
        obtain ⟨a, o, u, v, h1, h2, h3, h4, h5⟩ := q1.val y d e
        exact ⟨a, o, u, v, h1, h2, h3, h4, h5.cut p0.rf⟩
      | ow d =>
        obtain ⟨a0, _, _, _, _, p0⟩ := q0
        obtain ⟨a', e, h1, h2, h3, h4⟩ := q1
        refine ⟨a', e, h1, fun h => h2 (List.mem_append_left _ h), h3, ?_⟩
        cases d with
        | lst ds =>
          obtain ⟨_, _, r9⟩ := p0
          obtain ⟨vs, e9, r8⟩ := h4
          exact ⟨vs, e9, r8.cutR r9.rf⟩
        | _ => exact h4.elim
  · refine r.old a' o e fun h => ?_
    rcases List.mem_append.mp h with h | h
    · exact hc h
    · rw [List.mem_singleton] at h
      rw [h, h3] at e; cases e
end
section
variable {X : Cx} {W : WX} {e : Expr} {f : M D}
end
end VE
namespace VE
open PySem PySem.Spec PyProof.Rows L2
variable [VEnv]
section
variable {X : Cx} {W : WX} {pos : Pos}
end
end VE
namespace VE
open PySem PySem.Spec PyProof.Rows L2
variable [VEnv]
section
variable {X : Cx} {W : WX} {e o : Expr} {pos pos' : Pos} {fo : M D}
end
end VE
namespace VE
open PySem PySem.Spec PyProof.Rows L2
variable [VEnv]
/-- P has __init__ from ValueError -/
structure BaseI (K : PySem.W.Frag) (P : Addr) : Prop where
  rd : PySem.W.readsIn K P (.type "type") = true
  ga : PySem.W.specialIn K (.ref P) "__getattribute__" = some (some (.builtin "type.__getattribute__"))
  at_ : PySem.W.findCls K (.ref P) (.type "type") "__init__" = some (.val (.builtin "ValueError.__init__"))
structure BaseV (K : PySem.W.Frag) (mg : Str → Option Value) (n : Str) : Prop where
  ex : ∃ P, mg n = some (.ref P) ∧ BaseI K P
/-- P.__init__(self, ..) -/
theorem pe_baseinit {X : Cx} {n : Str} {e : Expr} {es : List Expr} {ta : TA} {p1 p2 pos : Pos} {pl : Sem Bool} (B : BaseV X.K X.mg n) (ha : PA X (e :: es) ta) (hg : Gl X n := by rfl) (hdb : (n == ("__debug__" : Str)) = false := by decide)
    (hc : eval (.Call (.Attribute (.Name n p1) "__init__" p2) (e :: es) [] pos) X.env = (do
      let ov ← eval (.Name n p1) X.env
      standAt p2.atName
      let (f, first) ← holding [ov] (getMethod ov "__init__" pl)
      callWith pos f first (backTo pos (starEach (e :: es) X.env)) (backToKw pos (keywordEach [] X.env))) := by rfl)
    (he : starEach (e :: es) X.env = (false, eval e X.env) :: starEach es X.env := by rfl) (hpl : (backTo pos (starEach es X.env)).any (·.1) = false := by rfl) :
    PE X (.Call (.Attribute (.Name n p1) "__init__" p2) (e :: es) [] pos) (tVeI X.K ta) := by
  obtain ⟨P, hm, B⟩ := B.ex
  refine ⟨fun pins s σ H Q I h => ?_⟩
  refine PySem.W.methodCall_KW (ld_glob I hg hm ?_ hdb) hc
  refine PySem.W.method_cls I.kIn B.ga (PySem.W.cls_value I.kIn B.rd B.at_ (by decide +kernel) ?_)
  show wpAny _ _ (callWith pos (Value.builtin "ValueError.__init__") [] (backTo pos (starEach (e :: es) X.env)) []) _ _ _
  refine PyProof.Rows.callWith_method1 (thn (ha.run pos pins _ σ H _ (I.tok _) h) fun us s1 ⟨vs, H1, I1, r1, a, C, ws, ev, hl, T, ea, q⟩ => ?_) he hpl
  subst ev
  cases r1 with
  | @cons _ u0 _ ur ra rw' =>
    obtain rfl : u0 = Value.ref a := ra
    have hlen : ur.length ≤ sizeLine := by
      rw [← Paired.length rw', sizeLine_eq]
      omega
    exact oinit_ok T I1 ea hlen fun s' J => ⟨.non, H1, J, rfl, q⟩
/-- what an error is told of: small ints, short texts -/
def okXv (v : V) : Prop := (∃ i : Int, v = .int i ∧ i.natAbs.log2 < 1920) ∨ ∃ y : Str, v = .str y ∧ y.length ≤ 1000
def spXI (K : PySem.W.Frag) (C : Addr) (fs : List Str) : Sp := fun vs H Q _ => ∃ (a : Addr) (ys : List V), vs = .ref a :: ys ∧ ys.length = fs.length ∧ (∀ y ∈ ys, okXv y) ∧ OexC K C ∧ H a = some (exo a C none) ∧ (∀ f ∈ fs, PySem.W.findIn K (.ref C) f = some none) ∧
  ∀ dx H2, H dx = none → dx ≠ a → H2 a = some (exo a C (some dx)) → H2 dx = some (exd dx (fs.zip ys).reverse) → (∀ b, b ≠ a → b ≠ dx → H2 b = H b) → Q .non H2
theorem fmt_ok {i : Nat} (hi : 0 < i) {σ : L2.St} {H : Hp} {Q : VK} (hs : ∀ i v, 0 < i → σ[i]? = some (some v) → okXv v) (h : ∃ v, σ[i]? = some (some v)) (q : ∀ y : Str, y.length ≤ 3000 → Q (.str y) H) : tFmt (tVar i) σ H Q := by
  obtain ⟨v, e⟩ := h
  refine ⟨v, e, ?_⟩
  rcases hs i v hi e with ⟨n, rfl, hn⟩ | ⟨y, rfl, hy⟩
  · refine .inr ⟨n, rfl, hn, q _ ?_⟩
    have z := PySem.int_text_length_le (k := 1920) (by decide) hn
    rw [PySem.ofString_length]; omega
  · exact .inl ⟨y, rfl, by rw [sizeLine_eq]; omega, q y (by omega)⟩
def tMsg1 (x : Str) (i : Nat) : TE := fun σ H Q => tJs [tC (.str x), tFmt (tVar i)] Str.empty σ H fun out H1 => Q (.str out) H1
def tMsg2 (x : Str) (i : Nat) (z : Str) (j : Nat) : TE := fun σ H Q => tJs [tC (.str x), tFmt (tVar i), tC (.str z), tFmt (tVar j)] Str.empty σ H fun out H1 => Q (.str out) H1
def tXI1 (K : PySem.W.Frag) (f : Str) (tm : TE) : TS := tSeq (tDrop (tVeI K (tCons (tVar 0) (tCons tm tNil)))) (tOst K f (tVar 0) (tVar 1))
def tXI2 (K : PySem.W.Frag) (f g : Str) (tm : TE) : TS := tSeq (tDrop (tVeI K (tCons (tVar 0) (tCons tm tNil)))) (tSeq (tOst K f (tVar 0) (tVar 1)) (tOst K g (tVar 0) (tVar 2)))
theorem pss_two {X : Cx} {s1 s2 : Stmt} {t1 t2 : TS} (h1 : PS X s1 t1) (h2 : PS X s2 t2) : PSs X [s1, s2] (tSeq t1 t2) := pss_cons h1 (pss_one h2)
theorem pss_three {X : Cx} {s1 s2 s3 : Stmt} {t1 t2 t3 : TS} (h1 : PS X s1 t1) (h2 : PS X s2 t2) (h3 : PS X s3 t3) : PSs X [s1, s2, s3] (tSeq t1 (tSeq t2 t3)) := pss_cons h1 (pss_cons h2 (pss_one h3))
section
variable {P : Program} {w : World} {K : PySem.W.Frag} {mg : Str → Option Value} {base : Heap}
theorem len_app {x y : Str} : (x ++ y).length = x.length + y.length := PySem.Str.length_append x y
theorem len_emp : Str.empty.length = 0 := rfl
theorem okXI1 {f1 qual : Str} {stm : Stmt} {f C : Addr} {fd : FuncData} (tm : TE) (hm : ∀ σ H (Q : VK), σ.length = 2 → (∃ v, σ[1]? = some (some v)) → (∀ i v, 0 < i → σ[i]? = some (some v) → okXv v) → (∀ y, Q (.str y) H) → tm σ H Q)
    (Fn : Fun K "__init__" qual stm f fd) (S : FnScope ["self", f1] ["self", f1] (defScope stm))
    (hb : ∀ (cdv : Value) (A : Around) (outer : List Env) (s : Shared) (H : Hp) (E : XK), Room 0 (A.deeper (envOfC qual (defScope stm) s.heap.objs.size f cdv)) →
      PSs (cxOf (L2Z.CX P w K) P w K mg base ["self", f1] qual (defScope stm) f cdv A outer s H E) (defBody stm) (tXI1 K f1 tm)) : FnOk P w K mg base (L2Z.CX P w K) 1 f fd ["self", f1] (spXI K C [f1]) := by
  refine Fn.okZ S (fun vs H Q E h => ?_) (fun cdv A outer s H vs Q E hr h => ?_)
  · obtain ⟨a, ys, rfl, hl, _⟩ := h
    simp [hl]
  · obtain ⟨a, ys, rfl, hl, ho, T, ea, hf, q⟩ := h
    match ys, hl with
    | [y], _ =>
      refine ⟨_, hb cdv A outer s H E hr, ?_⟩
      refine ⟨_, rfl, hm _ _ _ rfl ⟨y, rfl⟩ (fun i v hi e => ?_) fun z => ⟨a, C, [.str z], rfl, by simp, T, ea, ?_⟩⟩
      · match i, hi, e with
        | 1, _, e => cases e; exact ho _ (.head _)
        | n + 2, _, e => exact absurd e (by simp [L2.start])
      · refine ⟨y, rfl, _, rfl, a, C, rfl, T, hf _ (.head _), .inl ⟨ea, fun dx n ne => ?_⟩⟩
        exact q dx _ n ne upd_same (by rw [upd_ne ne, upd_same]; rfl) fun b h1 h2 => by rw [upd_ne h1, upd_ne h2]
theorem okXI2 {f1 f2 qual : Str} {stm : Stmt} {f C : Addr} {fd : FuncData} (tm : TE) (hm : ∀ σ H (Q : VK), σ.length = 3 → (∃ v, σ[1]? = some (some v)) → (∃ v, σ[2]? = some (some v)) → (∀ i v, 0 < i → σ[i]? = some (some v) → okXv v) → (∀ y, Q (.str y) H) → tm σ H Q)
    (Fn : Fun K "__init__" qual stm f fd) (S : FnScope ["self", f1, f2] ["self", f1, f2] (defScope stm))
    (hb : ∀ (cdv : Value) (A : Around) (outer : List Env) (s : Shared) (H : Hp) (E : XK), Room 0 (A.deeper (envOfC qual (defScope stm) s.heap.objs.size f cdv)) →
      PSs (cxOf (L2Z.CX P w K) P w K mg base ["self", f1, f2] qual (defScope stm) f cdv A outer s H E) (defBody stm) (tXI2 K f1 f2 tm)) : FnOk P w K mg base (L2Z.CX P w K) 1 f fd ["self", f1, f2] (spXI K C [f1, f2]) := by
  refine Fn.okZ S (fun vs H Q E h => ?_) (fun cdv A outer s H vs Q E hr h => ?_)
  · obtain ⟨a, ys, rfl, hl, _⟩ := h
    simp [hl]
  · obtain ⟨a, ys, rfl, hl, ho, T, ea, hf, q⟩ := h
    match ys, hl with
    | [y, z], _ =>
      refine ⟨_, hb cdv A outer s H E hr, ?_⟩
      refine ⟨_, rfl, hm _ _ _ rfl ⟨y, rfl⟩ ⟨z, rfl⟩ (fun i v hi e => ?_) fun z' => ⟨a, C, [.str z'], rfl, by simp, T, ea, ?_⟩⟩
      · match i, hi, e with
        | 1, _, e => cases e; exact ho _ (.head _)
        | 2, _, e => cases e; exact ho _ (.tail _ (.head _))
        | n + 3, _, e => exact absurd e (by simp [L2.start])
      · refine ⟨y, rfl, _, rfl, a, C, rfl, T, hf _ (.head _), .inl ⟨ea, fun dx n ne => ?_⟩⟩
        refine ⟨z, rfl, _, rfl, a, C, rfl, T, hf _ (.tail _ (.head _)), .inr ⟨dx, [(f1, y)], upd_same, by rw [upd_ne ne, upd_same], by simp, ?_⟩⟩
        exact q dx _ n ne (by rw [upd_ne (Ne.symm ne), upd_same]) (by rw [upd_same]; rfl) fun b h1 h2 => by rw [upd_ne h2, upd_ne h1, upd_ne h2]
theorem hm_msg1 {x : Str} (hx : x.length ≤ 1000) : ∀ σ H (Q : VK), σ.length = 2 → (∃ v, σ[1]? = some (some v)) → (∀ i v, 0 < i → σ[i]? = some (some v) → okXv v) → (∀ y, Q (.str y) H) → tMsg1 x 1 σ H Q := by
  intro σ H Q _ h1 hs q
  refine ⟨x, rfl, by simp only [len_app, len_emp, sizeLine_eq]; omega, fmt_ok (by decide) hs h1 fun y hy => ⟨y, rfl, by simp only [len_app, len_emp, sizeLine_eq]; omega, q _⟩⟩
theorem hm_msg2 {x z : Str} (hx : x.length ≤ 1000) (hz : z.length ≤ 1000) : ∀ σ H (Q : VK), σ.length = 3 → (∃ v, σ[1]? = some (some v)) → (∃ v, σ[2]? = some (some v)) → (∀ i v, 0 < i → σ[i]? = some (some v) → okXv v) → (∀ y, Q (.str y) H) → tMsg2 x 1 z 2 σ H Q := by
  intro σ H Q _ h1 h2 hs q
  refine ⟨x, rfl, by simp only [len_app, len_emp, sizeLine_eq]; omega, fmt_ok (by decide) hs h1 fun y hy => ⟨y, rfl, by simp only [len_app, len_emp, sizeLine_eq]; omega, z, rfl, by simp only [len_app, len_emp, sizeLine_eq]; omega, fmt_ok (by decide) hs h2 fun y' hy' => ⟨y', rfl, by simp only [len_app, len_emp, sizeLine_eq]; omega, q _⟩⟩⟩
end
theorem oex_of {K : PySem.W.Frag} {C : Addr} (h : oexIn K C = true) (h1 : PySem.W.findIn K (.ref C) "__setattr__" = some (some (.builtin "object.__setattr__"))) (h2 : PySem.W.subIn K (.ref C) (.type "BaseException") = some true)
    (h3 : PySem.W.typeIn K (.ref C) = some (.type "type")) (h4 : PySem.W.keepIn K (.ref C) = true) : OexC K C := by
  refine ⟨?_, h1, h2, h3, h4⟩
  unfold oexIn at h
  split at h
  · rename_i dd cd sl ho
    split at h
    · rename_i C' bm k0 k1 k2 k3 n k5 hm hs
      simp only [Bool.and_eq_true, beq_iff_eq, Bool.not_eq_true'] at h
      obtain ⟨⟨⟨⟨rfl, rfl⟩, hdel⟩, hdict⟩, ht⟩ := h
      obtain ⟨nm, bs, mro, ns, qn, hd, sn, sub, ab, col, del⟩ := cd
      dsimp only at hm hdel hdict
      subst hm hdel hdict
      have hsl : sl = #[k0, k1, k2, k3, some (.builtin "ValueError.__new__"), k5] := by
        obtain ⟨l⟩ := sl
        simp only at hs
        rw [hs]
      subst hsl
      exact ⟨nm, qn, ns, bs, bm, sn, sub, ab, col, dd, k0, k1, k2, k3, k5, ho, ht⟩
    · cases h
  · cases h
noncomputable def okXd : D → Bool
  | .int i => @decide (i.natAbs.log2 < 1920) (Classical.propDecidable _)
  | .str y => @decide (y.length ≤ 1000) (Classical.propDecidable _)
  | _ => false
noncomputable def sRaiseI (n : Str) (fs : List Str) (fa : M (List D)) : M Fl := fun env st => (fa env st).bind fun ds env st => if ds.length = fs.length ∧ ds.all okXd = true then .ex ⟨n, (fs.zip ds).reverse⟩ env st else .bad
structure ErrI (P : Program) (w : World) (K : PySem.W.Frag) (mg : Str → Option Value) (base : Heap) (n : Str) (fs : List Str) : Prop where
  ex : ∃ C fI fd, mg n = some (.ref C) ∧ OexC K C ∧ PySem.W.findIn K (.ref C) "__init__" = some (some (.ref fI)) ∧ PySem.W.typeIn K (.ref fI) = some (.type "function") ∧ (∀ f ∈ fs, PySem.W.findIn K (.ref C) f = some none) ∧ fs.length ≤ 500 ∧
    FnOk P w K mg base (L2Z.CX P w K) 1 fI fd ("self" :: fs) (spXI K C fs) ∧ Binds K fd ("self" :: fs) []
theorem Rp.okX {K : PySem.W.Frag} {mg : Str → Option Value} {F : Addr → Prop} {c : List Addr} {H : Hp} {v : V} {d : D} (r : Rp K mg F c H v d) (h : okXd d = true) : okXv v := by
  cases r with
  | int i => exact .inl ⟨i, rfl, by simpa [okXd] using h⟩
  | str y => exact .inr ⟨y, rfl, by simpa [okXd] using h⟩
  | _ => cases h
theorem Rps.okX {K : PySem.W.Frag} {mg : Str → Option Value} {F : Addr → Prop} {c : List Addr} {H : Hp} : ∀ {vs : List V} {ds : List D}, Rps K mg F c H vs ds → ds.all okXd = true → ∀ y ∈ vs, okXv y
  | _, _, .nil, _ => fun _ h => nomatch h
  | _, _, .cons r t, h => by
    simp only [List.all_cons, Bool.and_eq_true] at h
    intro y hy
    rcases List.mem_cons.mp hy with e | hy
    · rw [e]; exact r.okX h.1
    · exact Rps.okX t h.2 y hy
theorem Rps.zipped {K : PySem.W.Frag} {mg : Str → Option Value} {F : Addr → Prop} {c : List Addr} {H : Hp} : ∀ {fs : List Str} {vs : List V} {ds : List D}, Rps K mg F c H vs ds → (fs.zip vs).map (·.1) = (fs.zip ds).map (·.1) ∧ Rps K mg F c H ((fs.zip vs).map (·.2)) ((fs.zip ds).map (·.2))
  | [], _, _, _ => ⟨rfl, .nil⟩
  | _ :: _, _, _, .nil => ⟨rfl, .nil⟩
  | f :: fs, _, _, .cons r t => ⟨by simp only [List.zip_cons_cons, List.map_cons]; rw [(Rps.zipped (fs := fs) t).1], .cons r (Rps.zipped (fs := fs) t).2⟩
section
variable {X : Cx} {W : WX} {n : Str} {fs : List Str} {e : Expr} {es : List Expr} {fa : M (List D)} {p pos p3 : Pos}
theorem vs_raiseI (hc : X.calm = true) (tk : L2Z.Takes X W) (hr : Room 2 X.A) (ev : ErrI X.prog X.w X.K X.mg X.base n fs) (ha : VA X W (e :: es) fa) (hg : Gl X n := by rfl) (hdb : (n == ("__debug__" : Str)) = false := by decide)
    (he : starEach (e :: es) X.env = (false, eval e X.env) :: starEach es X.env := by rfl) (hpl : (backTo p3 (starEach es X.env)).any (·.1) = false := by rfl) : VS X W (.Raise (some (.Call (.Name n p) (e :: es) [] p3)) none pos) (sRaiseI n fs fa) := by
  obtain ⟨C, fI, fd, hm, T, iC, tI, hf, hlen, F1, hb⟩ := ev.ex
  refine PSof (L2Z.ps_raiseI hc tk (pmk_oex (dvs := []) (ds := []) T iC tI F1 hr hb .nil (L2Z.passes_call tk (E := fun _ _ _ => False) fun _ _ _ _ z => z.elim) hg hm ha hdb he hpl)) fun D₀ σ H ⟨b, F, c, env, st, e1, e2, r, p⟩ => ?_
  refine sA_at e1 e2 r p fun vs ds env1 st1 F1 c1 H1 s1 r1 rp1 p1 => ?_
  split at p1
  · rename_i h
    obtain ⟨hl, ho⟩ := h
    refine ⟨by rw [rp1.length, hl]; omega, fun a na => ⟨a, vs, by rw [List.append_nil], by rw [rp1.length]; exact hl, rp1.okX ho, T, upd_same, hf, fun dx H2 n1 ne h1 h2 h3 => ?_⟩⟩
    rw [upd_ne ne] at n1
    refine ⟨rfl, dx, _, h1, h2, n1, ?_⟩
    have eH : upd (del H2 a) dx (.xd (fs.zip vs).reverse) = upd H1 dx (.xd (fs.zip vs).reverse) := by
      funext b'
      by_cases q : b' = dx
      · subst q; rw [upd_same, upd_same]
      · rw [upd_ne q, upd_ne q]
        by_cases q' : b' = a
        · subst q'; rw [del_same, na]
        · rw [del_ne q', h3 b' q' q, upd_ne q']
    rw [eH]
    obtain ⟨s2, r2⟩ := r1.newF n1 (.xd (fs.zip vs).reverse)
    obtain ⟨z1, z2⟩ := Rps.zipped (fs := fs) (rp1.stp s2)
    refine ⟨L2Z.not_pla iC, ?_⟩
    refine p1 σ _ _ _ _ _ s2 r2 ⟨by rw [e2]; exact hm, .inr ⟨dx, _, rfl, .inr rfl, upd_same, ?_, ?_⟩⟩
    · rw [List.map_reverse, List.map_reverse, z1]
    · rw [List.map_reverse, List.map_reverse]; exact z2.reverse
  · exact p1.elim
end
end VE
namespace VE
open PySem PySem.Spec PyProof.Rows L2
variable [VEnv]
/-- a suite: without a name; with one, in slot i -/
inductive HdM where
  | pl (g : M Fl)
  | nm (i : Nat) (g : XI → M Fl)
/-- what does not hang on where the exception lies -/
noncomputable def allX {α : Type} (k : XI → R α) : R α := @dite _ (∃ r, ∀ xi, k xi = r) (Classical.propDecidable _) (fun h => h.choose) fun _ => .bad
@[simp] theorem allX_const {α : Type} {r : R α} : allX (fun _ => r) = r := by
  unfold allX
  have h : ∃ r', ∀ xi : XI, (fun _ => r) xi = r' := ⟨r, fun _ => rfl⟩
  rw [dif_pos h]
  exact (h.choose_spec ⟨0, .none, none⟩).symm
theorem allX_at {α : Type} {k : XI → R α} (xi : XI) : allX k = .bad ∨ allX k = k xi := by
  unfold allX
  by_cases h : ∃ r, ∀ xi, k xi = r
  · rw [dif_pos h]; exact .inr (h.choose_spec xi).symm
  · rw [dif_neg h]; exact .inl rfl
def dropS (i : Nat) : R Fl → R Fl
  | .ok fl e s => .ok fl (e.set i .no) s
  | r => r
noncomputable def runNm (i : Nat) (g : XI → M Fl) (x : Exn) : M Fl := fun env st => if rfBs 0 (x.fs.map (·.2)) = true then allX (fun xi => dropS i (noEx (g xi (env.set i (.xc xi x)) st))) else .bad
noncomputable def tryA : List ((List Str × List Str) × HdM) → Exn → M Fl
  | [], x => fun env st => .ex x env st
  | (h, .pl g) :: r, x => fun env st => match hmB h.1 h.2 x.cls with
    | some true => noEx (g env st)
    | some false => tryA r x env st
    | none => .bad
  | (h, .nm i g) :: r, x => fun env st => match hmB h.1 h.2 x.cls with
    | some true => runNm i g x env st
    | some false => tryA r x env st
    | none => .bad
noncomputable def sTryA (gb : M Fl) (hs : List ((List Str × List Str) × HdM)) : M Fl := fun env st => match gb env st with
  | .ex x e s => tryA hs x e s
  | .ok fl e s => .ok fl e s
  | .bad => .bad
def VHdsA (X : Cx) (W : WX) (hds : List ExceptHandler) (hs : List ((List Str × List Str) × HdM)) : Prop :=
  ∃ l, HdsOkA X hds l ∧ ∀ (D : Ends) (b : Bs) (F : Addr → Prop) (c : List Addr) (x : Exn) (env : EnvD) (st : Sto) (σ : L2.St) (H : Hp) (cls : Value) (d : Option Addr), b.K = X.K → b.mg = X.mg → Rel b F c env st σ H → RpX b.K b.mg F c H cls d x →
    PostS b W F c H (fun fl _ _ F c σ H => FlOk b D F c σ H fl) (tryA hs x env st) → wManyA X.K W D l cls d σ H
section
variable {b : Bs} {F : Addr → Prop} {c : List Addr} {env : EnvD} {st : Sto} {σ : L2.St} {H : Hp}
theorem RpX.xc {K : PySem.W.Frag} {mg : Str → Option Value} {cls : Value} {d : Option Addr} {x : Exn} (q : RpX K mg F c H cls d x) (h : rfBs 0 (x.fs.map (·.2)) = true) (a : Addr) : XcOk K mg F H ⟨a, cls, d⟩ x := by
  refine ⟨q.1, q.2.imp id fun ⟨d', vfs, e, f, k, m, r⟩ => ⟨d', vfs, e, f, k, m, ?_⟩⟩
  exact Rps.cutR (c := []) (l := c) r h
theorem Rel.putX (r : Rel b F c env st σ H) {i : Nat} {xi : XI} {x : Exn} (h : XcOk b.K b.mg F H xi x) : Rel b F c (env.set i (.xc xi x)) st (σ.set i (some (.ref xi.a))) H := by
  have own : ∀ {j a}, OwnA (env.set i (.xc xi x)) (σ.set i (some (.ref xi.a))) j a → OwnA env σ j a := fun {j a} h => by
    obtain ⟨d', e, e'⟩ := h
    by_cases q : i = j
    · subst q
      by_cases hl : i < env.length
      · rw [List.getElem?_set_self hl] at e; cases e
      · rw [List.getElem?_eq_none (by simpa using hl)] at e; cases e
    · rw [List.getElem?_set_ne q] at e e'; exact ⟨d', e, e'⟩
  refine ⟨r.rc, by rw [List.length_set, List.length_set]; exact r.len, fun j s e => ?_, fun j k a h h' => r.ds j k a (own h) (own h'), r.old, r.new, r.nwc, r.f0, r.k0⟩
  by_cases q : i = j
  · subst q
    by_cases hl : i < env.length
    · rw [List.getElem?_set_self hl] at e; cases e
      exact ⟨List.getElem?_set_self (by rw [← r.len]; exact hl), h⟩
    · rw [List.getElem?_eq_none (by simpa using hl)] at e; cases e
  · rw [List.getElem?_set_ne q] at e
    have z := r.sl j s e
    cases s with
    | no => trivial
    | va d' => obtain ⟨v', e', p⟩ := z; exact ⟨v', by rw [List.getElem?_set_ne q]; exact e', p⟩
    | ow d' => obtain ⟨a, e', p⟩ := z; exact ⟨a, by rw [List.getElem?_set_ne q]; exact e', p⟩
    | gh cells vals => exact z
    | xc xi x => exact ⟨by rw [List.getElem?_set_ne q]; exact z.1, z.2⟩
theorem Rel.gone (r : Rel b F c env st σ H) (i : Nat) : Rel b F c (env.set i .no) st (σ.set i none) H := r.toWipe [i]
theorem PostS.drop {i : Nat} {D : Ends} {W : WX} {y : R Fl} (h : PostS b W F c H (fun fl _ _ F c σ H => FlOk b D F c σ H fl) (dropS i (VE.noEx y))) : PostS b W0 F c H (fun fl _ _ F c σ H => FlOk b (endX i D) F c σ H fl) y := by
  cases y with
  | bad => exact h.elim
  | ex x e s => exact h.elim
  | ok fl e s =>
    intro σ' F' c' H' s' r
    have q := h (σ'.set i none) F' c' H' s' (r.gone i)
    cases fl <;> exact q
end
section
variable {X : Cx} {W : WX} {hds : List ExceptHandler} {hs : List ((List Str × List Str) × HdM)} {g gb : M Fl} {gn : XI → M Fl} {pos np pos' : Pos} {x n : Str} {b₀ h₀ : Stmt} {suite body : List Stmt} {yes no : List Str}
theorem vha_nil : VHdsA X W [] [] := ⟨[], .nil, fun D b F c x env st σ H cls d e1 e2 r q p => p σ F c H cls d .refl r q⟩
theorem vha_consN (i : Nat) (xm : XmV X.K X.mg x yes no) (hsu : ∀ (a : Addr) (oe : Obj) (cls : Value) (d : Option Addr) (pn : List (Addr × Obj)), Zc cls d oe → (∃ vs, oe.data = .fields vs) → VSs (X.suite a ((a, oe) :: pn)) W0 (b₀ :: suite) (gn ⟨a, cls, d⟩))
    (r : VHdsA X W hds hs) (hi : X.N[i]? = some n := by rfl) (hln : X.env.kindOf n = some .local := by rfl) (hg : Gl X x := by rfl) (hdb : (x == ("__debug__" : Str)) = false := by decide) :
    VHdsA X W (.ExceptHandler (some (.Name x np)) (some n) (b₀ :: suite) pos' :: hds) (((yes, no), .nm i gn) :: hs) := by
  obtain ⟨C, hC, hy, hn⟩ := xm
  obtain ⟨l, hl, hq⟩ := r
  refine ⟨(.ref C, some i, fun a cls d => tS X W0 (gn ⟨a, cls, d⟩)) :: l, .consN ⟨hg, hdb, .inl hC⟩ hi hln (fun a oe cls d pn hz hf => hsu a oe cls d pn hz hf) hl, fun D b F c x env st σ H cls d e1 e2 r rx p => ?_⟩
  have hm := rx.1
  rw [e2] at hm
  show ∃ t, PySem.W.exmOne X.K cls (.ref C) = some t ∧ _
  unfold tryA hmB at p
  by_cases c1 : x.cls ∈ yes
  · rw [if_pos c1] at p
    refine ⟨true, hy _ c1 _ hm, fun _ a _ => ?_, fun z => by cases z⟩
    dsimp only at p
    unfold runNm at p
    split at p
    · rename_i hrf
      rcases allX_at (k := fun xi => dropS i (noEx (gn xi (env.set i (.xc xi x)) st))) ⟨a, cls, d⟩ with z | z
      · rw [z] at p; exact p.elim
      · rw [z] at p
        exact ⟨b, F, c, _, st, e1, e2, r.putX (rx.xc hrf a), PostS.drop p⟩
    · exact p.elim
  · rw [if_neg c1] at p
    by_cases c2 : x.cls ∈ no
    · rw [if_pos c2] at p
      exact ⟨false, hn _ c2 _ hm, (fun z => by cases z), fun _ => hq D b F c x env st σ H cls d e1 e2 r rx p⟩
    · rw [if_neg c2] at p
      exact p.elim
theorem vs_tryA {hd : ExceptHandler} (hN : X.N.Nodup) (hst : X.stack = X.env :: X.outer) (hf : X.env.frame = some X.env.locals) (tk : L2Z.Takes X W)
    (hb : ∀ (W : WX) (pn : List (Addr × Obj)) (xe : Value → Shared → Prop), L2Z.Takes (X.tr pn xe) W → PassesOwn (model X.prog X.w) X.A X.env xe → VSs (X.tr pn xe) W body gb)
    (hh : VHdsA X W (hd :: hds) hs) : VS X W (.Try body (hd :: hds) [] [] pos) (sTryA gb hs) := by
  obtain ⟨l, hl, hq⟩ := hh
  refine ⟨fun pins s σ H D I ⟨b, F, c, env, st, e1, e2, r, p⟩ => (ps_try_manyA (tb := fun W => tS X W gb) hN hst hf tk hb hl).run pins s σ H D I ⟨b, F, c, env, st, e1, e2, r, ?_⟩⟩
  unfold sTryA at p
  cases hg : gb env st with
  | ok fl e s => rw [hg] at p; exact p
  | bad => rw [hg] at p; exact p.elim
  | ex x e s =>
    rw [hg] at p
    exact fun σ' F' c' H' cls d s' r' rx => hq D b F' c' x e s σ' H' cls d e1 e2 r' rx (PostS.stp s' p)
end
noncomputable def eXf (i : Nat) (xi : XI) (ns : List Str) (f : Str) : M D := fun env st => match env[i]? with
  | some (.xc xi' x) => @ite _ (xi' = xi ∧ x.cls ∈ ns) (Classical.propDecidable _) (match x.fs.lookup f with | some d => .ok d env st | none => .bad) .bad
  | _ => .bad
structure XfV (K : PySem.W.Frag) (mg : Str → Option Value) (f : Str) (ns : List Str) : Prop where
  at_ : ∀ n ∈ ns, ∀ cls, mg n = some cls → ∃ C, cls = .ref C ∧ L2.XfC K C ∧ PySem.W.findIn K (.ref C) f = some none
theorem rps_lookup {K : PySem.W.Frag} {mg : Str → Option Value} {F : Addr → Prop} {c : List Addr} {H : Hp} {f : Str} {d : D} : ∀ {vfs : List (Str × V)} {fs : List (Str × D)}, vfs.map (·.1) = fs.map (·.1) → Rps K mg F c H (vfs.map (·.2)) (fs.map (·.2)) → fs.lookup f = some d → ∃ v, vfs.lookup f = some v ∧ Rp K mg F c H v d
  | [], [], _, _, e => by cases e
  | (g, v) :: vfs, (g', d') :: fs, e, r, h => by
    simp only [List.map_cons, List.cons.injEq] at e
    obtain ⟨rfl, e⟩ := e
    cases r with
    | cons r t =>
      rw [List.lookup_cons] at h ⊢
      cases hb : (f == g) with
      | true => rw [hb] at h; cases h; exact ⟨v, rfl, r⟩
      | false => rw [hb] at h; exact rps_lookup e t h
theorem ve_xf {X : Cx} {W : WX} {a : Addr} {oe : Obj} {cls : Value} {d : Option Addr} {pn : List (Addr × Obj)} {x f : Str} {ns : List Str} {p pos : Pos} (i : Nat) (xf : XfV X.K X.mg f ns) (hz : Zc cls d oe) (hf : ∃ vs, oe.data = .fields vs) (hN : X.N[i]? = some x := by rfl)
    (hv : Vis X.env.scope x := by first | exact Or.inl rfl | exact Or.inr (Or.inl rfl) | exact Or.inr (Or.inr rfl)) (hd : (x == ("__debug__" : Str)) = false := by decide) (hcd : (x == ("__classdict__" : Str)) = false := by decide)
    (hb : attributeBase (.Name x p) f X.env (eval (.Name x p) X.env) = eval (.Name x p) X.env := by rfl) : VE (X.suite a ((a, oe) :: pn)) W (.Attribute (.Name x p) f pos) (eXf i ⟨a, cls, d⟩ ns f) := by
  by_cases h : ∃ n ∈ ns, X.mg n = some cls
  · obtain ⟨n, hn, hm⟩ := h
    obtain ⟨C, rfl, T, hno⟩ := xf.at_ n hn cls hm
    refine PEof (pe_xf T hno hz hf (pe_var (X := X.suite a ((a, oe) :: pn)) hN hv hd hcd) hb) fun σ H Q ⟨b, F, c, env, st, e1, e2, r, q⟩ => ?_
    unfold eXf at q
    split at q
    · rename_i xi' x' e
      split at q
      · rename_i hh
        obtain ⟨rfl, hx⟩ := hh
        obtain ⟨q1, q2, q3⟩ := r.sl i _ e
        refine ⟨.ref a, q1, rfl, rfl, ?_⟩
        split at q
        · rename_i dd el
          rcases q3 with ⟨z, _⟩ | ⟨d', vfs, ed, hF, hH, hnm, rps⟩
          · rw [z] at el; cases el
          · obtain ⟨v, hv', rp⟩ := rps_lookup hnm rps el
            exact ⟨d', vfs, v, ed, hH, hv', Post.here r q v (rp.stp ⟨fun _ h => h, fun _ _ _ h => h, ⟨c, rfl⟩, fun _ _ h => h, fun _ _ _ h => h⟩)⟩
        · exact q.elim
      · exact q.elim
    · exact q.elim
  · refine ⟨fun pins s σ H Q I ⟨b, F, c, env, st, e1, e2, r, q⟩ => ?_⟩
    exfalso
    unfold eXf at q
    split at q
    · rename_i xi' x' e
      split at q
      · rename_i hh
        obtain ⟨rfl, hx⟩ := hh
        obtain ⟨q1, q2, q3⟩ := r.sl i _ e
        exact h ⟨_, hx, by rw [← show b.mg = X.mg from e2]; exact q2⟩
      · exact q.elim
    · exact q.elim
section
variable {env e : EnvD} {st s : Sto} {gb : M Fl} {hs : List ((List Str × List Str) × HdM)} {x : Exn} {fl : Fl} {g : M Fl} {gn : XI → M Fl} {yes no : List Str} {i : Nat}
noncomputable def kTryA (hs : List ((List Str × List Str) × HdM)) : R Fl → R Fl
  | .ex x e s => tryA hs x e s
  | .ok fl e s => .ok fl e s
  | .bad => .bad
@[simp] theorem x_sTryA : sTryA gb hs env st = kTryA hs (gb env st) := by unfold sTryA kTryA; rfl
@[simp] theorem x_kTryA1 : kTryA hs (.ok fl e s) = .ok fl e s := id rfl
@[simp] theorem x_kTryA2 : kTryA hs (.ex x e s) = tryA hs x e s := id rfl
@[simp] theorem x_tryA0 : tryA [] x env st = .ex x env st := by unfold tryA; rfl
theorem x_tryA3 (h : x.cls ∈ yes) (hr : rfBs 0 (x.fs.map (·.2)) = true) : tryA (((yes, no), .nm i gn) :: hs) x env st = allX (fun xi => dropS i (noEx (gn xi (env.set i (.xc xi x)) st))) := by simp only [tryA, hmB, if_pos h, runNm, if_pos hr]
@[simp] theorem x_dropS : dropS i (.ok fl e s) = .ok fl (e.set i .no) s := rfl
noncomputable def kXf (xi : XI) (ns : List Str) (f : Str) (o : Option Sl) : M D := fun env st => match o with
  | some (.xc xi' x) => @ite _ (xi' = xi ∧ x.cls ∈ ns) (Classical.propDecidable _) (ret (x.fs.lookup f) env st) .bad
  | _ => .bad
@[simp] theorem x_eXf {xi : XI} {ns : List Str} {f : Str} : eXf i xi ns f env st = kXf xi ns f env[i]? env st := by
  unfold eXf kXf
  cases env[i]? with
  | none => rfl
  | some s => cases s with
    | xc xi' x =>
      dsimp only
      by_cases h : xi' = xi ∧ x.cls ∈ ns
      · rw [if_pos h, if_pos h]
        cases x.fs.lookup f <;> rfl
      · rw [if_neg h, if_neg h]
    | _ => rfl
@[simp] theorem x_kXf {xi : XI} {ns : List Str} {f : Str} {c : Str} {fs : List (Str × D)} : kXf xi ns f (some (.xc xi ⟨c, fs⟩)) env st = if c ∈ ns then ret (fs.lookup f) env st else .bad := by
  unfold kXf
  dsimp only
  by_cases h : c ∈ ns
  · rw [if_pos ⟨rfl, h⟩, if_pos h]
  · rw [if_neg fun z => h z.2, if_neg h]
end
end VE
namespace PySem
namespace HandSPX
section
variable {M : Model} {A : Around} {E : Value → Shared → Prop} {s : Shared} {Z : Obj → Prop} {base : Heap} {env : Env} {outer l : List Env} {L e : Addr}
end
end HandSPX
end PySem
namespace L2
open PySem PySem.Spec PyProof.Rows
section
variable {X : Cx} {W : WX}
end
end L2
namespace L2
open PySem PySem.Spec PyProof.Rows
section
variable {M : Model} {A : Around} {E : Value → Shared → Prop} {s : Shared} {env : Env}
end
section
variable {X : Cx}
end
end L2
namespace VE
open PySem PySem.Spec PyProof.Rows L2
variable [VEnv]
section
variable {X : Cx} {W : WX} {b : Bs} {F F' : Addr → Prop} {c c' : List Addr} {env : EnvD} {st : Sto} {σ : L2.St} {H H' : Hp} {tg iter : Expr} {pos : Pos}
end
section
variable {ff : M (List D)} {t : D → EnvD → Option EnvD} {ws : List Nat} {tt : M Bool} {fe : M D} {env e' : EnvD} {st s' : Sto} {ds acc : List D} {r : D}
end
end VE
namespace VE
open PySem PySem.Spec PyProof.Rows L2
variable [VEnv]
section
variable {X : Cx} {W : WX} {e a : Expr} {es : List Expr} {pos p : Pos} {fs : M (List D)} {x : Str} {k n : Nat} {m : FMG} {js : List (Str × Nat)} {cells : List (Str × Addr)} {vals : List (Str × D)}
/-- what is to be known of a frame's cells, where a function is handed on -/
structure CelsKn (X : Cx) (H : Hp) (h : Heap) (cells : List (Str × Addr)) : Prop where
  no : ∀ y a, cells.lookup y = some a → H a = none ∧ (∃ v, h.IsCell a v) ∧ a ∉ frs X.stack ∧ X.base.get? a = none
  inj : ∀ x y c, cells.lookup x = some c → cells.lookup y = some c → x = y
end
end VE
namespace PySem.W
open PySem PySem.Spec PySem.Calls PyProof.Rows
section
variable {prog : Program} {w : World} {A : Around} {E : Value → Shared → Prop} {s : Shared} {K : Frag} {x D : Addr} {ox od : Obj}
theorem kin_classD {Q : Option Value → Shared → Prop} (hga : findIn K (.ref D) "__getattribute__" = some (some (.builtin "BaseException.__getattribute__"))) (hgt : findIn K (.ref D) "__getattr__" = some none) (hsub : subIn K (.ref D) (.type "BaseException") = some true)
    (hdct : hasDictIn K D = true) (ha : findIn K (.ref D) "__class__" = some (some (.builtin "object.__class__")))
    (hn : specialIn K (.builtin "object.__class__") "__get__" = some (some (.builtin "getset_descriptor.__get__"))) (htk : takesIn K (.builtin "object.__class__") = some true) (hm : mroIn K D (.type "object") = some true)
    (X : K.In s.heap) (I : InstAt s.heap x ox D (some od)) (h : Q (some (.ref D)) { s with toks := s.toks + 1 }) : wpAny (model prog w) A (getAttr? (.ref x) "__class__") Q E s := by
  have hf : findObj K D (some od) "__class__" = some (.bind (.builtin "getset_descriptor.__get__") (.builtin "object.__class__")) := findObj_data (by obtain ⟨cd, hc, _⟩ := any_some hdct; rw [hc]; rfl) ha hn htk
  obtain ⟨hp, g, d, t, os⟩ := s
  have L0 := I.type (M := model prog w)
  have L1 := looks_findIn (M := model prog w) X hga
  have L2 := looks_findIn (M := model prog w) X hgt
  have L3 := looks_find (M := model prog w) X I hf
  have sub : Looks (model prog w) hp (isInstance (.ref x) (.type "BaseException")) true := L0.andThen (looks_subIn X hsub)
  have hx0 : (false && onTheHeap (Value.builtin "BaseException.__getattribute__")) = false := rfl
  have hx2 : (Value.builtin "BaseException.__getattribute__" == Value.builtin "object.__getattribute__") = false := by decide +kernel
  have hx1 : (onTheHeap (Value.ref D) && Value.builtin "BaseException.__getattribute__" == Value.builtin "object.__getattribute__") = false := by rw [hx2]; rfl
  unfold getAttr? getAttrBy? getAttrBy
  refine wpAny_bind (wpAny_mkText (wpAny_bind (wpAny_attempt (wpAny_holding (wpAny_bind (L0.at (wpAny_bind (L1.at ?_))))))))
  show wpAny _ _ (if (onTheHeap (Value.ref D) && Value.builtin "BaseException.__getattribute__" == Value.builtin "object.__getattribute__") = true then _ else _) _ _ _
  rw [hx1, if_neg Bool.false_ne_true]
  unfold getAttrByItsOwn hookBefore
  refine wpAny_bind ?_
  rw [if_pos (show onTheHeap (Value.ref D) = true from rfl)]
  refine L2.at ?_
  refine wpAny_bind (wpAny_attempt (wpAny_holding ?_))
  unfold callGetattribute
  rw [hx0, if_neg Bool.false_ne_true]
  unfold boundAndCalled
  rw [PySem.F.excAttr_ValueError.ga.bind (.ref x)]
  refine wpAny_bind (wpAny_pure ?_)
  show wpAny _ _ (call (.builtin "BaseException.__getattribute__") [.ref x, .str "__class__" t]) _ _ _
  refine wpAny_call (codeAny_call_builtin PySem.F.excAttr_ValueError.ga.plain PySem.F.entry_bexc_ga ?_)
  refine @check_slot (model prog w) _ _ ⟨hp, g, d, t + 1, os⟩ "BaseException.__getattribute__" "BaseException" "__getattribute__" (.ref x) [.str "__class__" t] [] _ (by decide +kernel) (by decide +kernel) sub (PySem.F.args_bexc_ga (.ref x) (.str "__class__" t)) ?_
  unfold Builtin.«object.__getattribute__»
  refine wpAny_bind (wpAny_of_eq (a := ((Value.ref x : Value), [Value.str "__class__" t])) (by first | rfl | (simp only [slotArgs]; rfl)) ?_)
  refine wpAny_bind (wpAny_pure (wpAny_bind (L0.at (wpAny_bind (L3.at ?_)))))
  show wpAny _ _ (holding [Value.builtin "object.__class__"] (call (.builtin "getset_descriptor.__get__") [.builtin "object.__class__", .ref x, .ref D]) >>= ret) _ _ _
  refine wpAny_bind (wpAny_holding (wpAny_call (class_get (s := ⟨hp, g, d, t + 1, os⟩) (ox := ox) (od := some od) X I hm ?_)))
  refine wpAny_pure ?_
  show wpAny _ _ (handedOut (.ref D)) _ _ _
  rw [handedOut_of (v := .ref D) rfl]
  first
    | exact wpAny_pure (wpAny_pure h)
    | exact wpAny_pure h
    | exact wpAny_pure (wpAny_bind (wpAny_pure (wpAny_pure h)))
theorem kitx_excD (C : L2.ExcC K D) : KitX K (.ref x) (.ref D) (fun h => InstAt h x ox D (some od)) where
  ty := fun _ _ _ I => I.type
  it := fun M h X I => by
    obtain ⟨cdD, hcD, _⟩ := any_some C.hd
    unfold clsIn at hcD
    split at hcD
    · rename_i c' d' cd' sl' ho
      intro A' Q' E' s' k q
      unfold isType loadHead
      exact wpAny_bind (wpAny_loadPart (k _ _ (X _ _ ho)) (wpAny_pure q))
    · cases hcD
  ne := (handS_kitx_exc (x := x) (ox := ox) C.hg C.hk C.hs C.hd C.ha C.hn C.ht C.hm).ne
  ca := fun X I k => kin_classD C.hg C.hk C.hs C.hd C.ha C.hn C.ht C.hm X I k
end
end PySem.W
namespace L2
open PySem PySem.Spec PyProof.Rows
/-- isinstance(e, c); e has a dict -/
theorem call_isED {X : Cx} {a D dd : Addr} {oe : Obj} {pn : List (Addr × Obj)} (C : ExcC X.K D) (hz : Zc (.ref D) (some dd) oe) (hf : ∃ vs, oe.data = .fields vs) :
    CallR (X.suite a ((a, oe) :: pn)) (.builtin "isinstance") (fun xs H Q => (∃ fs, H dd = some (.xd fs)) ∧ rIsE X.K D a xs H Q) := by
  intro pins s σ H xs us Q I r h
  obtain ⟨⟨fs, hd⟩, c, cv, b, rfl, hcv, e, q⟩ := h
  cases r with
  | cons rx rr =>
    cases rr with
    | cons rt rr =>
      cases rr
      cases rx
      have ec := hcv _ rt
      subst ec
      obtain ⟨hget, _⟩ := I.pin (a, oe) (List.mem_append.mpr (.inl List.mem_cons_self))
      obtain ⟨vs, hv⟩ := hf
      have hx : ObjOk X.prog X.w H s.heap dd (.xd fs) := I.hok dd _ hd
      obtain ⟨mA, hns, hr⟩ := hx
      obtain ⟨od, ho, hl⟩ := lookIn_ns hns
      have J : PySem.W.InstAt s.heap a oe D (some od) := by
        refine ⟨hget, hz.1, ?_, ?_⟩
        · unfold PySem.W.notCls; rw [hv] <;> rfl
        · rw [hz.2]; exact ho
      exact PySem.W.kia_one (PySem.W.kitx_excD C) I.kIn J e (fun z => nomatch z) fun tk => ⟨.bl b, H, I.kept (t' := tk) fun _ _ z => z, rfl, q⟩
end L2
namespace VE
open PySem PySem.Spec PyProof.Rows L2
theorem huA1 {A : Around} {k : Nat} (hr : Room k A) : A.units + 65 < cLine := by have := hr.un; omega
variable [VEnv]
/-- isinstance(e, T): by the error's class -/
noncomputable def eIsX (i : Nat) (xi : XI) (tb : List (Str × Bool)) : M D := fun env st => match env[i]? with
  | some (.xc xi' x) => @ite _ (xi' = xi) (Classical.propDecidable _) (match tb.lookup x.cls with | some t => .ok (.bl t) env st | none => .bad) .bad
  | _ => .bad
/-- what isinstance(e, T) tells by e's class; T an own class, a builtin one -/
def TabX (K : PySem.W.Frag) (mg : Str → Option Value) (u : Value) (tb : List (Str × Bool)) : Prop := ∀ p ∈ tb, ∀ cls, mg p.1 = some cls → ∃ D, cls = .ref D ∧ ExcC K D ∧ PySem.W.kitOne K (.ref D) u = some p.2
def IsxV (K : PySem.W.Frag) (mg : Str → Option Value) (n : Str) (tb : List (Str × Bool)) : Prop := ∃ C, mg n = some (.ref C) ∧ TabX K mg (.ref C) tb
def IsxB (K : PySem.W.Frag) (mg : Str → Option Value) (n : Str) (t : String) (tb : List (Str × Bool)) : Prop := mg n = none ∧ bootBuiltins n = some (.type t) ∧ TabX K mg (.type t) tb
theorem lookup_mem {α β : Type} [BEq α] [LawfulBEq α] {k : α} {v : β} : ∀ {l : List (α × β)}, l.lookup k = some v → (k, v) ∈ l
  | (a, b) :: l, h => by
    rw [List.lookup_cons] at h
    cases e : (k == a) with
    | true => rw [e] at h; cases h; rw [eq_of_beq e]; exact .head _
    | false => rw [e] at h; exact .tail _ (lookup_mem h)
section
variable {X : Cx} {W : WX} {a : Addr} {oe : Obj} {cls : Value} {d : Option Addr} {pn : List (Addr × Obj)} {x n : Str} {tb : List (Str × Bool)} {p p1 p2 pos : Pos}
theorem ve_isxG {v : V} {u : Value} (i : Nat) (hu : ∀ z, RelV v z → z = u) (hT : PE (X.suite a ((a, oe) :: pn)) (.Name n p2) (tC v)) (tx : TabX X.K X.mg u tb) (hm : X.mg "isinstance" = none) (hz : Zc cls d oe) (hf : ∃ vs, oe.data = .fields vs) (hN : X.N[i]? = some x := by rfl)
    (hv : Vis X.env.scope x := by first | exact Or.inl rfl | exact Or.inr (Or.inl rfl) | exact Or.inr (Or.inr rfl)) (hd : (x == ("__debug__" : Str)) = false := by decide) (hcd : (x == ("__classdict__" : Str)) = false := by decide) (hgl : Gl X "isinstance" := by rfl)
    (hs : starEach [.Name x p1, .Name n p2] X.env = (false, eval (.Name x p1) X.env) :: starEach [.Name n p2] X.env := by rfl) (hs2 : starEach [.Name n p2] X.env = (false, eval (.Name n p2) X.env) :: starEach [] X.env := by rfl) (hpl : (backTo pos (starEach [.Name n p2] X.env)).any (·.1) = false := by rfl) :
    VE (X.suite a ((a, oe) :: pn)) W (.Call (.Name "isinstance" p) [.Name x p1, .Name n p2] [] pos) (eIsX i ⟨a, cls, d⟩ tb) := by
  have args : PA (X.suite a ((a, oe) :: pn)) [.Name x p1, .Name n p2] (tCons (tVar i) (tCons (tC v) tNil)) := pa_cons (pe_var (X := X.suite a ((a, oe) :: pn)) hN hv hd hcd) (pa_cons hT pa_nil hs2) hs
  by_cases h : ∃ q ∈ tb, X.mg q.1 = some cls
  · obtain ⟨q, hq, hmq⟩ := h
    obtain ⟨D, rfl, C, _⟩ := tx q hq cls hmq
    have key : ∀ σ H (Q : VK), tE (X.suite a ((a, oe) :: pn)) W (eIsX i ⟨a, .ref D, d⟩ tb) σ H Q → σ[i]? = some (some (.ref a)) ∧ (∀ dd, d = some dd → ∃ fs, H dd = some (.xd fs)) ∧ rIsE X.K D a [.ref a, v] H Q := by
      rintro σ H Q ⟨b, F, c, env, st, e1, e2, r, pp⟩
      unfold eIsX at pp
      split at pp
      · rename_i xi' x' e
        split at pp
        · rename_i hh
          subst hh
          obtain ⟨q1, q2, q3⟩ := r.sl i _ e
          split at pp
          · rename_i t el
            refine ⟨q1, fun dd hdd => ?_, v, u, t, rfl, hu, ?_, Post.here r pp _ (.bl t)⟩
            · rcases q3 with ⟨_, z⟩ | ⟨d', vfs, ed, hF, hH, _⟩
              · have z' : d = none := z
                rw [z'] at hdd; cases hdd
              · have ed' : d = some d' := ed
                rw [hdd] at ed'; cases ed'
                exact ⟨vfs, hH⟩
            · obtain ⟨D', e', _, k⟩ := tx _ (lookup_mem el) _ (by rw [← show b.mg = X.mg from e2]; exact q2)
              cases e'
              exact k
          · exact pp.elim
        · exact pp.elim
      · exact pp.elim
    cases d with
    | none =>
      refine PEof (pe_callB (X := X.suite a ((a, oe) :: pn)) (call_isE C hz hf) hgl hm PyProof.Rows.boot_isinstance args (by decide) (by decide) hs hpl) fun σ H Q k => ?_
      obtain ⟨k1, _, k3⟩ := key σ H Q k
      exact ⟨_, k1, k3⟩
    | some dd =>
      refine PEof (pe_callB (X := X.suite a ((a, oe) :: pn)) (call_isED C hz hf) hgl hm PyProof.Rows.boot_isinstance args (by decide) (by decide) hs hpl) fun σ H Q k => ?_
      obtain ⟨k1, k2, k3⟩ := key σ H Q k
      exact ⟨_, k1, k2 dd rfl, k3⟩
  · refine ⟨fun pins s σ H Q I ⟨b, F, c, env, st, e1, e2, r, q⟩ => ?_⟩
    exfalso
    unfold eIsX at q
    split at q
    · rename_i xi' x' e
      split at q
      · rename_i hh
        subst hh
        obtain ⟨q1, q2, q3⟩ := r.sl i _ e
        split at q
        · rename_i t el
          exact h ⟨_, lookup_mem el, by rw [← show b.mg = X.mg from e2]; exact q2⟩
        · exact q.elim
      · exact q.elim
    · exact q.elim
theorem ve_isx (i : Nat) (tx : IsxV X.K X.mg n tb) (hm : X.mg "isinstance" = none) (hz : Zc cls d oe) (hf : ∃ vs, oe.data = .fields vs) (hN : X.N[i]? = some x := by rfl)
    (hv : Vis X.env.scope x := by first | exact Or.inl rfl | exact Or.inr (Or.inl rfl) | exact Or.inr (Or.inr rfl)) (hd : (x == ("__debug__" : Str)) = false := by decide) (hcd : (x == ("__classdict__" : Str)) = false := by decide) (hgl : Gl X "isinstance" := by rfl) (hglT : Gl X n := by rfl) (hdb : (n == ("__debug__" : Str)) = false := by decide)
    (hs : starEach [.Name x p1, .Name n p2] X.env = (false, eval (.Name x p1) X.env) :: starEach [.Name n p2] X.env := by rfl) (hs2 : starEach [.Name n p2] X.env = (false, eval (.Name n p2) X.env) :: starEach [] X.env := by rfl) (hpl : (backTo pos (starEach [.Name n p2] X.env)).any (·.1) = false := by rfl) :
    VE (X.suite a ((a, oe) :: pn)) W (.Call (.Name "isinstance" p) [.Name x p1, .Name n p2] [] pos) (eIsX i ⟨a, cls, d⟩ tb) := by
  obtain ⟨C, hC, tx⟩ := tx
  exact ve_isxG (v := .ref C) i (fun z r => r) (pe_glob (X := X.suite a ((a, oe) :: pn)) hglT hC rfl hdb) tx hm hz hf hN hv hd hcd hgl hs hs2 hpl
theorem ve_isxB {t : String} (i : Nat) (tx : IsxB X.K X.mg n t tb) (hm : X.mg "isinstance" = none) (hz : Zc cls d oe) (hf : ∃ vs, oe.data = .fields vs) (hN : X.N[i]? = some x := by rfl)
    (hv : Vis X.env.scope x := by first | exact Or.inl rfl | exact Or.inr (Or.inl rfl) | exact Or.inr (Or.inr rfl)) (hd : (x == ("__debug__" : Str)) = false := by decide) (hcd : (x == ("__classdict__" : Str)) = false := by decide) (hgl : Gl X "isinstance" := by rfl) (hglT : Gl X n := by rfl) (hn : n ≠ "__name__" := by decide) (hdb : (n == ("__debug__" : Str)) = false := by decide)
    (hs : starEach [.Name x p1, .Name n p2] X.env = (false, eval (.Name x p1) X.env) :: starEach [.Name n p2] X.env := by rfl) (hs2 : starEach [.Name n p2] X.env = (false, eval (.Name n p2) X.env) :: starEach [] X.env := by rfl) (hpl : (backTo pos (starEach [.Name n p2] X.env)).any (·.1) = false := by rfl) :
    VE (X.suite a ((a, oe) :: pn)) W (.Call (.Name "isinstance" p) [.Name x p1, .Name n p2] [] pos) (eIsX i ⟨a, cls, d⟩ tb) := by
  obtain ⟨h1, h2, tx⟩ := tx
  exact ve_isxG (v := .ty t) i (fun z r => r) (pe_bltn (X := X.suite a ((a, oe) :: pn)) hglT h1 h2 rfl hn hdb) tx hm hz hf hN hv hd hcd hgl hs hs2 hpl
end
noncomputable def kIsX (xi : XI) (tb : List (Str × Bool)) (o : Option Sl) : M D := fun env st => match o with
  | some (.xc xi' x) => @ite _ (xi' = xi) (Classical.propDecidable _) (ret ((tb.lookup x.cls).map .bl) env st) .bad
  | _ => .bad
@[simp] theorem x_eIsX {i : Nat} {xi : XI} {tb : List (Str × Bool)} {env : EnvD} {st : Sto} : eIsX i xi tb env st = kIsX xi tb env[i]? env st := by
  unfold eIsX kIsX
  cases env[i]? with
  | none => rfl
  | some s => cases s with
    | xc xi' x =>
      dsimp only
      by_cases h : xi' = xi
      · rw [if_pos h, if_pos h]
        cases tb.lookup x.cls <;> rfl
      · rw [if_neg h, if_neg h]
    | _ => rfl
@[simp] theorem x_kIsX {xi : XI} {tb : List (Str × Bool)} {c : Str} {fs : List (Str × D)} {env : EnvD} {st : Sto} : kIsX xi tb (some (.xc xi ⟨c, fs⟩)) env st = ret ((tb.lookup c).map .bl) env st := by
  unfold kIsX
  dsimp only
  rw [if_pos rfl]
end VE
namespace L2Z
open PySem PySem.Spec PyProof.Rows L2 HotX L2H
section
variable {X : Cx} {W : WX}
end
section
variable {X : Cx} {x n : Str} {c : Value} {i : Nat} {body suite : List Stmt} {b₀ : Stmt} {np pos pos' : Pos} {tb : WX → TS} {ts : Addr → Value → Option Addr → TS} {Wout : WX}
end
end L2Z
namespace VE
open PySem PySem.Spec PyProof.Rows L2 L2H L2Z
variable [VEnv]
section
variable {P : Program} {w : World} {K : PySem.W.Frag} {mg : Str → Option Value} {base : Heap}
end
/-- a class of errors with an own __init__, made where an error is handled -/
structure ErrH (P : Program) (w : World) (K : PySem.W.Frag) (mg : Str → Option Value) (base : Heap) (n : Str) (fs : List Str) : Prop where
  ex : ∃ C fI fd, mg n = some (.ref C) ∧ OexC K C ∧ PySem.W.findIn K (.ref C) "__init__" = some (some (.ref fI)) ∧ PySem.W.typeIn K (.ref fI) = some (.type "function") ∧ (∀ f ∈ fs, PySem.W.findIn K (.ref C) f = some none) ∧ fs.length ≤ 500 ∧
    FnH P w K mg base (L2Z.CX P w K) 1 fI fd ("self" :: fs) (spXI K C fs) ∧ Binds K fd ("self" :: fs) []
section
variable {X : Cx} {W : WX} {gb : M Fl} {x y n : Str} {yes no fs : List Str} {i : Nat} {e : Expr} {es : List Expr} {fa : M (List D)} {body : List Stmt} {np p p3 cpos rp pos pos' : Pos}
end
section
variable {env e e' : EnvD} {st s s' : Sto} {gb : M Fl} {x : Exn} {fl : Fl} {yes no fs : List Str} {i : Nat} {n : Str} {fa : M (List D)} {ds : List D}
end
end VE
namespace VE
open PySem PySem.Spec PyProof.Rows L2
variable [VEnv]
section
variable {X : Cx} {W : WX} {e a d : Expr} {p pos : Pos} {fi fd : M D} {k : Nat}
structure KdVN (K : PySem.W.Frag) (w : World) (mg : Str → Option Value) (x : Str) (kvs : List (Str × D)) (ab : List Str) : Prop where
  ex : ∃ a es n, mg x = some (.ref a) ∧ KDict K w a es n ∧ (∀ z d, kvs.lookup z = some d → ∃ u v, PySem.W.nsIn K a z = some (some u) ∧ RelV v u ∧ ∀ F c H, Rp K mg F c H v d) ∧ ∀ z ∈ ab, PySem.W.nsIn K a z = some none
/-- what get tells; none: we do not know -/
@[simp] def getN (kvs : List (Str × D)) (ab : List Str) (z : Str) (d : D) : Option D := match kvs.lookup z with
  | some v => some v
  | none => if z ∈ ab then some d else none
end
end VE
namespace VE
open PySem PySem.Spec PyProof.Rows L2
variable [VEnv]
def argsO : Clo → Option (Nat × List (Str × Addr) × List D)
  | .lam i cells => some (i, cells, [])
  | .lamD i cells z => some (i, cells, [.int z])
  | .glb _ => none
structure Lam0 (P : Program) (w : World) (K : PySem.W.Frag) (mg : Str → Option Value) (base : Heap) (k i : Nat) (fr : Bool) (m : List (Option D) → FM) : Prop where
  run : ∀ (A : Around) (outer : List Env) (s : Shared) (H : Hp) (ws : List (Option V)) (caps : List (Option D)) (Q : VK) (E : XK) (f : Addr) (x : Clo) (cells : List (Str × Addr)) (ds : List D) (F : Addr → Prop) (c : List Addr) (st : Sto),
    Room k A → Env0 P w K mg base A outer s H → argsO x = some (i, cells, ds) → ds.length = (VEnv.code i).ps.length → Rp K mg F c H (.ref f) (.fn x) → NdefX.CellsAt (cloFrom cells (VEnv.code i).scope.names []) (VEnv.code i).fr ws s.heap H →
    RelC K mg F c st H → CapOk K mg F c H ws caps → PostF K mg fr F c H Q E (m caps ds st) → codeAny (model P w) A (.call (.ref f) ⟨[], []⟩) (CR (L2Z.CX P w K) outer P w H s Q E) s
section
variable {P : Program} {w : World} {K : PySem.W.Frag} {mg : Str → Option Value} {base : Heap} {N : List Str} {k i : Nat} {H : Hp} {f c' q : Addr} {cells : List (Str × Addr)} {L : LamCode} {h : Heap} {m : List (Option D) → FM} {fr : Bool}
theorem Lam0.mono {j : Nat} (o : Lam0 P w K mg base j i fr m) (h : j ≤ k) : Lam0 P w K mg base k i fr m := ⟨fun A outer s H ws caps Q E f x cells ds F c st hr => o.run A outer s H ws caps Q E f x cells ds F c st (hr.mono h)⟩
end
section
variable {X : Cx} {W : WX} {e a : Expr} {es : List Expr} {pos p : Pos} {x : Str} {k i : Nat} {G : Nat → LamM} {js : List (Str × Nat)} {fr : Bool}
end
structure PrF (P : Program) (w : World) (K : PySem.W.Frag) (mg : Str → Option Value) (base : Heap) (k : Nat) (n f : Str) (mf : FM) : Prop where
  ex : ∃ C p g fd ps, mg n = some (.ref C) ∧ L2.SCls K C ∧ PropOf K C f p g ∧ FnOk P w K mg base (L2Z.CX P w K) k g fd ps (spV K mg true 1 mf) ∧ Binds K fd ps []
section
variable {X : Cx} {W : WX} {e : Expr} {pos : Pos} {fa : M D}
end
section
variable {X : Cx} {W : WX} {pos p p2 : Pos}
end
end VE
namespace VE
open PySem PySem.Spec PyProof.Rows L2
variable [VEnv]
section
variable {K : PySem.W.Frag} {mg : Str → Option Value} {F F1 F2 : Addr → Prop} {c c1 c2 : List Addr} {H H1 H2 : Hp} {st : Sto}
theorem Old.refl : Old F c H F c H := ⟨fun _ _ h _ => .inl h, fun _ h => .inl h, fun _ h => .inl h⟩
theorem Old.trans (o : Old F c H F1 c1 H1) (s : Stp F c H F1 c1 H1) (rc : RelC K mg F1 c1 st H1) (o2 : Old F1 c1 H1 F2 c2 H2) : Old F c H F2 c2 H2 := by
  have back : ∀ a, H1 a = none → H a = none := fun a h => by
    cases e : H a with
    | none => rfl
    | some x =>
      by_cases hc : a ∈ c
      · obtain ⟨l, hl⟩ := s.cs
        obtain ⟨y, hy⟩ := rc.ctrk (a := a) (by rw [hl]; exact List.mem_append_left _ hc)
        rw [h] at hy; cases hy
      · obtain ⟨y, hy⟩ := (o.keep a x e hc).there
        rw [h] at hy; cases hy
  refine ⟨fun a x e hc => ?_, fun a h => ?_, fun a h => ?_⟩
  · have h1 : a ∉ c1 := fun hm => by
      rcases o.nwc a hm with h | h
      · exact hc h
      · rw [e] at h; cases h
    exact (o.keep a x e hc).up fun y hy => o2.keep a y hy h1
  · rcases o2.new a h with h | h
    · exact o.new a h
    · exact .inr (back a h)
  · rcases o2.nwc a h with h | h
    · exact o.nwc a h
    · exact .inr (back a h)
end
section
variable {X : Cx} {n k : Nat} {d : D} {ds : List D}
/-- the store is as it was; the heap has gone on -/
def Nxt (X : Cx) (pins : List (Addr × Obj)) (σ : L2.St) (F : Addr → Prop) (c : List Addr) (st : Sto) (H : Hp) (s : Shared) : Prop :=
  ∃ F' c' H', Inv X pins σ H' s ∧ Stp F c H F' c' H' ∧ RelC X.K X.mg F' c' st H' ∧ Old F c H F' c' H'
theorem Nxt.refl {pins : List (Addr × Obj)} {σ : L2.St} {F : Addr → Prop} {c : List Addr} {st : Sto} {H : Hp} {s : Shared} (I : Inv X pins σ H s) (rc : RelC X.K X.mg F c st H) : Nxt X pins σ F c st H s := ⟨F, c, H, I, Stp.refl, rc, Old.refl⟩
/-- two values that stand for d are equal, by == -/
def EqS (X : Cx) (n : Nat) (d : D) : Prop :=
  ∀ (A : Around) (pins : List (Addr × Obj)) (s : Shared) (σ : L2.St) (H : Hp) (F : Addr → Prop) (c : List Addr) (st : Sto) (x y : V) (u v : Value), L2.Sub X n A → Inv X pins σ H s → RelC X.K X.mg F c st H → RelV x u → RelV y v → Rp X.K X.mg F c H x d → Rp X.K X.mg F c H y d →
    wpAny (model X.prog X.w) A (eqBool u v) (fun r s' => r = true ∧ Nxt X pins σ F c st H s') X.xe s
theorem EqS.mono {m : Nat} (h : EqS X n d) (hn : n ≤ m) : EqS X m d := fun A pins s σ H F c st x y u v sb => h A pins s σ H F c st x y u v (sb.mono hn)
theorem Rps.ofV {K : PySem.W.Frag} {mg : Str → Option Value} {F : Addr → Prop} {c : List Addr} {H : Hp} : ∀ {vs : List V} {ds : List D}, Rps K mg F c H vs ds → ∀ {i : Nat} {v : V}, vs[i]? = some v → ∃ d, ds[i]? = some d ∧ Rp K mg F c H v d
  | _, _, .nil, i, v, h => by simp at h
  | _, _, .cons a t, 0, v, h => by simp at h; subst h; exact ⟨_, rfl, a⟩
  | _, _, .cons a t, i + 1, v, h => by simp at h; exact t.ofV h
end
section
variable {X : Cx} {W : WX} {e a : Expr} {pos p p2 : Pos} {fa fb : M D} {nb : Str} {k : Nat} {m : FM}
end
end VE
namespace VE
open PySem PySem.Spec PySem.SeqAt
open AutoSeq1 (wpAny_loadPart')
open MeetsSeq MeetsSeq2 MeetsSeq3 SeqRoads2
section
variable {P : Program} {w : World} {A : Around} {E : Value → Shared → Prop} {s : Shared} {p q : Addr} {J : Shared → Prop}
/-- two tuples, item by item -/
theorem rc_tupB {Q : Value → Shared → Prop} {xs ys : Array Value} {e : Nat → Bool} (hu : A.units < cLine) (gx : s.heap.IsTuple p xs) (gy : s.heap.IsTuple q ys)
    (turn : ∀ (i : Nat) (h : i < xs.size) (h' : i < ys.size) (t : Shared), J t → wpAny (model P w) A.in1 (eqBool xs[i] ys[i]) (fun r t => r = e i ∧ J t) E t)
    (last : ∀ t, J t → Q (.bool ((List.range (min xs.size ys.size)).all e && xs.size == ys.size)) t) (j : J s) : wpAny (model P w) A (richCompare .Eq (.ref p) (.ref q)) Q E s := by
  obtain ⟨⟨c1, d1, dt1, sl1⟩, e1, k1, n1, m1⟩ := id gx
  obtain ⟨⟨c2, d2, dt2, sl2⟩, e2, k2, n2, m2⟩ := id gy
  simp only at k1 m1 k2 m2
  subst k1 m1 k2 m2
  refine wpAny_richCompare_same_room (op := .Eq) ⟨_, e1, rfl⟩ ⟨_, e2, rfl⟩ F.slot_tuple_eq (GQ.call_here F.slot_tuple_eq ⟨_, e1, rfl⟩ F.entry_tuple_eq (F.args_tuple_eq_2 _ _) ?_) hu
  have sub := AutoSeq1.sub_tuple_tuple
  have hlen : (xs.toList.zip ys.toList).length = min xs.size ys.size := by simp
  have j0 := j
  obtain ⟨hp, g, d, tk, os⟩ := s
  wp_walk using wpAny_loadPart' e1, wpAny_loadPart' e2, wpAny_forIn_list _ (fun left r t => r.1 = none ∧ J t ∧ ∃ i, left = (xs.toList.zip ys.toList).drop i ∧
    ∀ t, J t → wants (fun v t => v ≠ .notImplemented ∧ Q v t) E (.ok (.ret (.bool (((List.range (min xs.size ys.size)).drop i).all e && xs.size == ys.size)))) t) _
  case turn =>
    rintro ⟨u, v⟩ left r t ⟨hr, ji, i, hd, hR⟩
    have li : i < (xs.toList.zip ys.toList).length := Nat.lt_of_not_le fun h => by rw [List.drop_of_length_le h] at hd; cases hd
    have hm : i < min xs.size ys.size := hlen ▸ li
    have lx : i < xs.size := Nat.lt_of_lt_of_le hm (Nat.min_le_left _ _)
    have ly : i < ys.size := Nat.lt_of_lt_of_le hm (Nat.min_le_right _ _)
    rw [List.drop_eq_getElem_cons li] at hd
    obtain ⟨hu', hv'⟩ := List.cons.inj hd
    have hu1 : u = xs[i] := by have := congrArg Prod.fst hu'; simpa using this
    have hv1 : v = ys[i] := by have := congrArg Prod.snd hu'; simpa using this
    subst hu1 hv1
    have hdr : (List.range (min xs.size ys.size)).drop i = i :: (List.range (min xs.size ys.size)).drop (i + 1) := by simp [List.drop_eq_getElem_cons, hm]
    rw [hdr] at hR
    simp only [List.all_cons] at hR
    refine wpAny_bind (wpAny_mono (turn i lx ly t ji) (fun o t2 h2 => ?_) fun _ _ z => z)
    obtain ⟨rfl, j2⟩ := h2
    cases hy : e i with
    | true =>
      rw [hy] at hR
      wp_walk
      exact ⟨rfl, j2, i + 1, hv', by simpa using hR⟩
    | false =>
      rw [hy] at hR
      have hR2 := hR _ j2
      wp_walk
      have hR3 : Q (.bool false) t2 := by simpa using hR2.2
      exact ⟨(fun z => nomatch z), hR3⟩
  case fin =>
    rintro ⟨r1, r2⟩ t ⟨hr, ji, i, hd, hR⟩
    simp only at hr
    subst hr
    have ge : min xs.size ys.size ≤ i := Nat.le_of_not_lt fun h => by rw [List.drop_eq_getElem_cons (hlen ▸ h)] at hd; cases hd
    rw [List.drop_of_length_le (by simpa using ge)] at hR
    have out := hR t ji
    wp_walk
    have out2 : Q (.bool (xs.size == ys.size)) t := by simpa using out.2
    exact ⟨(fun z => nomatch z), out2⟩
  case h => exact ⟨rfl, j0, 0, rfl, fun t jt => ⟨(fun z => nomatch z), by simpa using last t jt⟩⟩
end
end VE
namespace PySem.W
open PyProof.Rows
section
variable {prog : Program} {w : World} {A : Around} {E : Value → Shared → Prop} {s : Shared} {K : Frag} {x C L f : Addr} {h₀ : Heap} {m : Str → Option Value} {ox : Obj} {od : Option Obj} {b tb : Value} {t : Bool}
/-- the inherited != turns what the own == says -/
theorem objNeB_K {Q : Fin → Shared → Prop} (hu : A.units < cLine) (X : K.In s.heap) (I : InstAt s.heap x ox C od) (hs : findIn K (.ref C) "__eq__" = some (some (.ref f))) (hf : isFn K (.ref f) = true)
    (h : wpAny (model prog w) A (call (.ref f) [.ref x, b]) (fun v s' => v = .bool t ∧ Q (.done (.ret (.bool (!t)))) s') E s) :
    wpAny (model prog w) A (Builtin.«object.__ne__» ⟨[.ref x, b], []⟩) Q E s := by
  unfold Builtin.«object.__ne__»
  refine wpAny_bind (m := slotArgs "__ne__" 1 _) (wpAny_pure ?_)
  refine wpAny_bind (wpAny_cRoomFor hu ?_)
  refine wpAny_bind (ifBound_K X I hs hf (wpAny_mono h (fun v s' hv => ?_) fun _ _ e => e))
  obtain ⟨rfl, q⟩ := hv
  refine wpAny_bind (wpAny_truthy_bool ?_)
  exact wpAny_pure q
theorem neB_try {Q : Option Value → Shared → Prop} (hu : A.units + 1 < cLine) (X : K.In s.heap) (I : InstAt s.heap x ox C od) (hs : findIn K (.ref C) "__eq__" = some (some (.ref f))) (hf : isFn K (.ref f) = true)
    (hne : findIn K (.ref C) "__ne__" = some (some (.builtin "object.__ne__"))) (hsub : subIn K (.ref C) (.type "object") = some true)
    (h : wpAny (model prog w) A.in1 (call (.ref f) [.ref x, b]) (fun v s' => v = .bool t ∧ Q (some (.bool (!t))) s') E s) :
    wpAny (model prog w) A (tryCompare (.ref x) "__ne__" b) Q E s := by
  have FB := PySem.F.cmp_object
  have sub : Looks (model prog w) s.heap (isInstance (.ref x) (.type "object")) true := I.type.andThen (looks_subIn X hsub)
  unfold tryCompare
  simp only [callSpecialIfBound?, bindSpecialIfBound?]
  have fin : wpAny (model prog w) A (call (.builtin "object.__ne__") ([.ref x] ++ [b])) (fun v s' => v = .bool (!t) ∧ Q (some (.bool (!t))) s') E s := by
    refine wpAny_call (codeAny_call_builtin FB.ne.plain PySem.F.cmpEntry_ne (@check_slot (model prog w) _ _ s "object.__ne__" "object" "__ne__" (.ref x) [b] [] _ PySem.F.cmpKind_ne PySem.F.cmpSplit_ne sub (PySem.F.cmpArgs_ne _ _) ?_))
    refine objNeB_K (t := t) (by show A.units + 1 < cLine; exact hu) X I hs hf (wpAny_mono h (fun v s' hv => ?_) fun _ _ e => e)
    exact ⟨hv.1, rfl, hv.2⟩
  refine wpAny_bind ?_
  refine wpAny_holding (wpAny_bind (wpAny_bind (wpAny_bind (I.type.here ((looks_findIn X hne).here ?_)))))
  have fin2 : wpAny (model prog w) A (call (.builtin "object.__ne__") ([.ref x] ++ [b]) >>= fun v => pure (some v)) (fun r s' => wpAny (model prog w) A (match r with | some .notImplemented | none => pure none | some v => pure (some v)) Q E s') E s :=
    wpAny_bind (wpAny_mono fin (fun v s' hv => by
      obtain ⟨rfl, q⟩ := hv
      exact wpAny_pure (wpAny_pure q)) fun _ _ e => e)
  simp only [FB.ne.bind]
  refine wpAny_bind (wpAny_askSetting (wpAny_ite ?_))
  split
  · exact wpAny_bind (wpAny_pure (wpAny_pure (by exact fin2)))
  · exact wpAny_tryCatch (wpAny_bind (wpAny_pure (wpAny_pure (by exact fin2))))
theorem neB_K {tb : Value} {Q : Value → Shared → Prop} (hu : A.units + 1 < cLine) (F : Fr h₀ L s.heap m) (X₀ : K.In h₀) (I : InstAt s.heap x ox C od) (hb : Looks (model prog w) s.heap (typeOf b) tb) (hn : notFirst K C tb = true)
    (hs : findIn K (.ref C) "__eq__" = some (some (.ref f))) (hf : isFn K (.ref f) = true) (hne : findIn K (.ref C) "__ne__" = some (some (.builtin "object.__ne__"))) (hsub : subIn K (.ref C) (.type "object") = some true)
    (h : wpAny (model prog w) A.in1 (call (.ref f) [.ref x, b]) (fun v s' => v = .bool t ∧ Q (.bool (!t)) s') E s) : wpAny (model prog w) A (richCompare .NotEq (.ref x) b) Q E s := by
  have X := X₀.keeps F.keep
  have one : wpAny (model prog w) A (tryCompare (.ref x) "__ne__" b) (fun r s' => ∃ v, r = some v ∧ Q v s') E s := neB_try (t := t) hu X I hs hf hne hsub (wpAny_mono h (fun v s' hv => ⟨hv.1, _, rfl, hv.2⟩) fun _ _ e => e)
  unfold richCompare
  simp only [oneThing_ref]
  refine wpAny_holding (wpAny_bind (wpAny_cRoomFor (by omega) ?_))
  refine wpAny_bind (I.type.here (wpAny_bind (hb.here ?_)))
  split
  · rename_i q
    have e : subIn K tb (.ref C) = some false := by
      rcases Bool.or_eq_true_iff.mp hn with e | e
      · rw [beq_iff_eq.mp e] at q; simp at q
      · exact beq_iff_eq.mp e
    refine wpAny_bind ((looks_subIn X e).here ?_)
    simp only [Bool.false_eq_true, if_false]
    refine wpAny_bind (wpAny_mono one (fun r s' z => ?_) fun _ _ e => e)
    obtain ⟨v, rfl, hq⟩ := z
    exact wpAny_pure hq
  · refine wpAny_bind (wpAny_pure ?_)
    simp only [Bool.false_eq_true, if_false]
    refine wpAny_bind (wpAny_mono one (fun r s' z => ?_) fun _ _ e => e)
    obtain ⟨v, rfl, hq⟩ := z
    exact wpAny_pure hq
end
end PySem.W
namespace VE
open PySem PySem.Spec PyProof.Rows L2
variable [VEnv]
mutual
def skel : D → D → Bool
  | .int _, .int _ => true
  | .str _, .str _ => true
  | .tup xs, .tup ys => skelL xs ys
  | _, _ => false
def skelL : List D → List D → Bool
  | x :: xs, y :: ys => skel x y && skelL xs ys
  | _, _ => true
end
section
variable {X : Cx} {pins : List (Addr × Obj)} {σ : L2.St} {H : Hp} {s : Shared} {F F' : Addr → Prop} {c c' : List Addr}
mutual
theorem skel_det (I : Inv X pins σ H s) : ∀ {x y : D} {v : V}, skel x y = true → Rp X.K X.mg F c H v x → Rp X.K X.mg F' c' H v y → x = y
  | .int i, .int j, v, _, a, b => by cases a; cases b; rfl
  | .str i, .str j, v, _, a, b => by cases a; cases b; rfl
  | .tup xs, .tup ys, v, h, a, b => by
    cases a with
    | tup q1 r1 =>
      cases b with
      | tup q2 r2 =>
        have e := I.tuple_inj q1.sq q2.sq
        subst e
        rw [skelL_det I (by simpa [skel] using h) r1 r2]
  | .non, _, _, h, _, _ => by simp [skel] at h
  | .bl _, _, _, h, _, _ => by simp [skel] at h
  | .lst _, _, _, h, _, _ => by simp [skel] at h
  | .scr _, _, _, h, _, _ => by simp [skel] at h
  | .obj _ _, _, _, h, _, _ => by simp [skel] at h
  | .ino _ _ _, _, _, h, _, _ => by simp [skel] at h
  | .ref _, _, _, h, _, _ => by simp [skel] at h
  | .fn _, _, _, h, _, _ => by simp [skel] at h
  | .int _, .non, _, h, _, _ => by simp [skel] at h
  | .int _, .bl _, _, h, _, _ => by simp [skel] at h
  | .int _, .str _, _, h, _, _ => by simp [skel] at h
  | .int _, .lst _, _, h, _, _ => by simp [skel] at h
  | .int _, .scr _, _, h, _, _ => by simp [skel] at h
  | .int _, .tup _, _, h, _, _ => by simp [skel] at h
  | .int _, .obj _ _, _, h, _, _ => by simp [skel] at h
  | .int _, .ino _ _ _, _, h, _, _ => by simp [skel] at h
  | .int _, .ref _, _, h, _, _ => by simp [skel] at h
  | .int _, .fn _, _, h, _, _ => by simp [skel] at h
  | .str _, .non, _, h, _, _ => by simp [skel] at h
  | .str _, .bl _, _, h, _, _ => by simp [skel] at h
  | .str _, .int _, _, h, _, _ => by simp [skel] at h
  | .str _, .lst _, _, h, _, _ => by simp [skel] at h
  | .str _, .scr _, _, h, _, _ => by simp [skel] at h
  | .str _, .tup _, _, h, _, _ => by simp [skel] at h
  | .str _, .obj _ _, _, h, _, _ => by simp [skel] at h
  | .str _, .ino _ _ _, _, h, _, _ => by simp [skel] at h
  | .str _, .ref _, _, h, _, _ => by simp [skel] at h
  | .str _, .fn _, _, h, _, _ => by simp [skel] at h
  | .tup _, .non, _, h, _, _ => by simp [skel] at h
  | .tup _, .bl _, _, h, _, _ => by simp [skel] at h
  | .tup _, .int _, _, h, _, _ => by simp [skel] at h
  | .tup _, .str _, _, h, _, _ => by simp [skel] at h
  | .tup _, .lst _, _, h, _, _ => by simp [skel] at h
  | .tup _, .scr _, _, h, _, _ => by simp [skel] at h
  | .tup _, .obj _ _, _, h, _, _ => by simp [skel] at h
  | .tup _, .ino _ _ _, _, h, _, _ => by simp [skel] at h
  | .tup _, .ref _, _, h, _, _ => by simp [skel] at h
  | .tup _, .fn _, _, h, _, _ => by simp [skel] at h
theorem skelL_det (I : Inv X pins σ H s) : ∀ {xs ys : List D} {vs : List V}, skelL xs ys = true → Rps X.K X.mg F c H vs xs → Rps X.K X.mg F' c' H vs ys → xs = ys
  | [], [], _, _, _, _ => rfl
  | [], y :: ys, _, _, a, b => by cases a; cases b
  | x :: xs, [], _, _, a, b => by cases a; cases b
  | x :: xs, y :: ys, vs, h, a, b => by
    cases a with
    | cons a1 a2 =>
      cases b with
      | cons b1 b2 =>
        obtain ⟨h1, h2⟩ := Bool.and_eq_true_iff.mp (show (skel x y && skelL xs ys) = true by simpa [skelL] using h)
        rw [skel_det I h1 a1 b1, skelL_det I h2 a2 b2]
end
end
/-- what m says of x and y, at every store -/
def tells (m : FM) (t : Bool) (x y : D) : Prop := ∀ st, m [x, y] st = .ok (.bl t) st
open Classical in
/-- == of data, where it is known: whole numbers, texts, instances of nb by m -/
noncomputable def cmpO (nb : Str) (m : FM) (x y : D) : Option Bool := match x, y with
  | .int i, .int j => some (decide (i = j))
  | .str a, .str b => some (decide (a = b))
  | .obj n1 xs, .obj n2 ys => if n1 = nb ∧ n2 = nb ∧ skelL xs ys = true then (if tells m true (.obj n1 xs) (.obj n2 ys) then some true else if xs ≠ ys ∧ tells m false (.obj n1 xs) (.obj n2 ys) then some false else none) else none
  | _, _ => none
def cmpL (f : D → D → Option Bool) : List D → List D → Option Bool
  | [], [] => some true
  | x :: xs, y :: ys => (f x y).bind fun a => (cmpL f xs ys).map fun b => a && b
  | _, _ => some false
noncomputable def cmpN (nb : Str) (m : FM) : Nat → D → D → Option Bool
  | 0, x, y => cmpO nb m x y
  | n + 1, .tup xs, .tup ys => cmpL (cmpN nb m n) xs ys
  | n + 1, x, y => cmpO nb m x y
theorem cmpL_spec {f : D → D → Option Bool} : ∀ {xs ys : List D} {t : Bool}, cmpL f xs ys = some t → ∃ e : Nat → Bool, (∀ (i : Nat) (x y : D), xs[i]? = some x → ys[i]? = some y → f x y = some (e i)) ∧ t = ((List.range (min xs.length ys.length)).all e && xs.length == ys.length)
  | [], [], t, h => ⟨fun _ => true, fun i x y h => by simp at h, by simp [cmpL] at h; simp [h]⟩
  | [], y :: ys, t, h => ⟨fun _ => true, fun i x y h => by simp at h, by simp [cmpL] at h; simp [h]⟩
  | x :: xs, [], t, h => ⟨fun _ => true, fun i x y _ h => by simp at h, by simp [cmpL] at h; simp [h]⟩
  | x :: xs, y :: ys, t, h => by
    rw [show cmpL f (x :: xs) (y :: ys) = (f x y).bind fun a => (cmpL f xs ys).map fun b => a && b from rfl] at h
    cases ha : f x y with
    | none => rw [ha] at h; simp at h
    | some a =>
      cases hb : cmpL f xs ys with
      | none => rw [ha, hb] at h; simp at h
      | some b =>
        rw [ha, hb] at h
        obtain ⟨e, he, hb2⟩ := cmpL_spec hb
        refine ⟨fun i => match i with | 0 => a | i + 1 => e i, fun i u v hu hv => ?_, ?_⟩
        · cases i with
          | zero => simp at hu hv; subst hu; subst hv; exact ha
          | succ i => simp at hu hv; exact he i u v hu hv
        · have h : (a && b) = t := by simpa using h
          rw [← h, hb2]
          have hm : min (x :: xs).length (y :: ys).length = min xs.length ys.length + 1 := by simp only [List.length_cons]; omega
          rw [hm, List.range_succ_eq_map, List.all_cons, List.all_map]
          simp [Bool.and_assoc, Function.comp_def]
section
variable {X : Cx} {n k : Nat} {d d' : D} {t : Bool}
/-- == inside a list or tuple, of values that stand for d and d' -/
def EqB (X : Cx) (n : Nat) (d d' : D) (t : Bool) : Prop :=
  ∀ (A : Around) (pins : List (Addr × Obj)) (s : Shared) (σ : L2.St) (H : Hp) (F : Addr → Prop) (c : List Addr) (st : Sto) (x y : V) (u v : Value), L2.Sub X n A → Inv X pins σ H s → RelC X.K X.mg F c st H → RelV x u → RelV y v → Rp X.K X.mg F c H x d → Rp X.K X.mg F c H y d' →
    wpAny (model X.prog X.w) A (eqBool u v) (fun r s' => r = t ∧ Nxt X pins σ F c st H s') X.xe s
def RcB (X : Cx) (n : Nat) (d d' : D) (t : Bool) : Prop :=
  ∀ (A : Around) (pins : List (Addr × Obj)) (s : Shared) (σ : L2.St) (H : Hp) (F : Addr → Prop) (c : List Addr) (st : Sto) (x y : V) (u v : Value), L2.Sub X n A → Inv X pins σ H s → RelC X.K X.mg F c st H → RelV x u → RelV y v → Rp X.K X.mg F c H x d → Rp X.K X.mg F c H y d' →
    wpAny (model X.prog X.w) A (richCompare .Eq u v) (fun r s' => r = .bool t ∧ Nxt X pins σ F c st H s') X.xe s
theorem EqB.mono {m : Nat} (h : EqB X n d d' t) (hn : n ≤ m) : EqB X m d d' t := fun A pins s σ H F c st x y u v sb => h A pins s σ H F c st x y u v (sb.mono hn)
/-- the same value is equal to itself -/
def Diag (X : Cx) (d d' : D) (t : Bool) : Prop := ∀ {pins : List (Addr × Obj)} {σ : L2.St} {H : Hp} {s : Shared} {F F' : Addr → Prop} {c c' : List Addr} {v : V}, Inv X pins σ H s → Rp X.K X.mg F c H v d → Rp X.K X.mg F' c' H v d' → t = true
theorem RcB.eqB (h : RcB X n d d' t) (hd : Diag X d d' t) (hr : ∀ K mg F c H v, Rp K mg F c H v d → ∃ a, v = .ref a) (hr' : ∀ K mg F c H v, Rp K mg F c H v d' → ∃ a, v = .ref a) : EqB X n d d' t := by
  intro A pins s σ H F c st x y u v sb I rc rx ry hx hy
  obtain ⟨a, rfl⟩ := hr _ _ _ _ _ _ hx
  obtain ⟨b, rfl⟩ := hr' _ _ _ _ _ _ hy
  cases rx
  cases ry
  by_cases hab : a = b
  · subst hab
    cases hd I hx hy
    exact SeqAt.EqAt.same (A := A) (s := s) (.ref a) X.prog X.w X.xe _ ⟨rfl, Nxt.refl I rc⟩
  · refine GQ.eqBool_refG hab (wpAny_mono (h A pins s σ H F c st (.ref a) (.ref b) _ _ sb I rc rfl rfl hx hy) (fun r s' q => ?_) fun _ _ x => x)
    obtain ⟨hr', q⟩ := q
    exact ⟨t, hr', rfl, q⟩
theorem eqB_int {i j : Int} : EqB X 0 (.int i) (.int j) (decide (i = j)) := by
  intro A pins s σ H F c st x y u v sb I rc rx ry hx hy
  cases hx; cases hy
  have q := eqAt_V (A := A) (s := s) rx ry rfl rfl
  rw [show eqV (.int i) (.int j) = decide (i = j) by rw [Bool.eq_iff_iff]; simp [eqV]] at q
  exact q X.prog X.w X.xe _ ⟨rfl, Nxt.refl I rc⟩
theorem eqB_str {i j : Str} : EqB X 0 (.str i) (.str j) (decide (i = j)) := by
  intro A pins s σ H F c st x y u v sb I rc rx ry hx hy
  cases hx; cases hy
  have q := eqAt_V (A := A) (s := s) rx ry rfl rfl
  rw [show eqV (.str i) (.str j) = decide (i = j) by rw [Bool.eq_iff_iff]; simp [eqV]] at q
  exact q X.prog X.w X.xe _ ⟨rfl, Nxt.refl I rc⟩
theorem rcB_obj {nb : Str} {m : FM} {xs ys : List D} (Q : EqV X.prog X.w X.K X.mg X.base k nb m) (hm : tells m t (.obj nb xs) (.obj nb ys)) : RcB X k (.obj nb xs) (.obj nb ys) t := by
  obtain ⟨C, f, fd, ps, hC, hs, hf, hne, hsub, Fo, hbi⟩ := Q.ex
  intro A pins s σ H F c st x y u v sb I rc rx ry hx hy
  have gx := hx
  have gy := hy
  cases hx with
  | obj m1 f1 s1 r1 =>
    cases hy with
    | obj m2 f2 s2 r2 =>
      rw [hC] at m1 m2; cases m1; cases m2
      cases rx
      cases ry
      rename_i a dx vx b dy vy
      obtain ⟨us, od, _, _, J⟩ := VE.slAt_get I s1
      obtain ⟨us', od', _, _, J'⟩ := VE.slAt_get I s2
      obtain ⟨mm, hF⟩ := I.fr
      have hsp : spV X.K X.mg false 2 m [.ref a, .ref b] H (fun v H' => v = .bl t ∧ ∃ F' c', Stp F c H F' c' H' ∧ RelC X.K X.mg F' c' st H' ∧ Old F c H F' c' H') (fun _ _ _ => False) := by
        refine ⟨F, c, [.obj nb xs, .obj nb ys], st, rc, .cons gx (.cons gy .nil), rfl, ?_⟩
        rw [hm st]
        intro v F' c' H' s' rc' o' rv
        cases (show Rp X.K X.mg F' c' H' v (.bl t) from rv)
        exact ⟨rfl, F', c', s', rc', o'⟩
      refine PySem.W.eq_K (t := t) (tb := .ref C) sb.room.units0 hF I.ok.mod.kin J J'.type (by simp [PySem.W.notFirst]) hs hf ?_
      have e0 : Env0 X.prog X.w X.K X.mg X.base A X.stack s H := by
        have e := I.env0
        exact ⟨by rw [sb.fr]; exact e.frames, e.mod, e.bs, e.bsz, e.funs, e.frf, e.hok, e.bare⟩
      have hl := Fo.len _ _ _ _ hsp
      have r2 : Vals [V.ref a, V.ref b] [Value.ref a, Value.ref b] := .cons rfl (.cons rfl .nil)
      refine wpAny_call (codeAny_mono (Fo.run A X.stack s H ⟨[.ref a, .ref b], []⟩ [.ref a, .ref b] [.ref a, .ref b] _ _ sb.room e0 (by
        have := hbi s [.ref a, .ref b] I.kIn (by simpa using hl)
        simpa using this) r2 hsp) fun r s' hq => ?_)
      cases r with
      | error e => exact passNone pins σ H s e s' I hq
      | ok fl =>
        cases fl with
        | ret w =>
          obtain ⟨z, H', I', rz, ez, F', c', q1, q2, q3⟩ := I.after hq
          subst ez
          cases rz
          exact ⟨rfl, rfl, F', c', H', I', q1, q2, q3⟩
        | next => exact False.elim hq
        | brk => exact False.elim hq
        | cont => exact False.elim hq
theorem rcB_tup {xs ys : List D} {e : Nat → Bool} (h : ∀ (i : Nat) (x y : D), xs[i]? = some x → ys[i]? = some y → EqB X n x y (e i)) : RcB X (n + 1) (.tup xs) (.tup ys) ((List.range (min xs.length ys.length)).all e && xs.length == ys.length) := by
  intro A pins s σ H F c st x y u v sb I rc rx ry hx hy
  cases hx with
  | tup q1 r1 =>
    cases hy with
    | tup q2 r2 =>
      cases rx
      cases ry
      obtain ⟨its, w1, e1, z⟩ := I.tuple q1.sq
      obtain ⟨its2, w2, e2, z2⟩ := I.tuple q2.sq
      have l1 : its.toArray.size = xs.length := by rw [List.size_toArray, ← w1.length, r1.length]
      have l2 : its2.toArray.size = ys.length := by rw [List.size_toArray, ← w2.length, r2.length]
      refine rc_tupB (e := e) (J := fun s' => Nxt X pins σ F c st H s') sb.room.units0 e1 e2 (fun i h1 h2 s' l => ?_) (fun s' q => ⟨by rw [l1, l2], q⟩) (Nxt.refl I rc)
      obtain ⟨F1, c1, H1, I1, s1, rc1, o1⟩ := l
      have g1 : its[i]? = some its.toArray[i] := by
        have h1' : i < its.length := by simpa using h1
        rw [List.getElem?_eq_getElem h1'] <;> simp
      have g2 : its2[i]? = some its2.toArray[i] := by
        have h2' : i < its2.length := by simpa using h2
        rw [List.getElem?_eq_getElem h2'] <;> simp
      rename_i a vs b ws
      have k1 : i < vs.length := by rw [w1.length]; simpa using h1
      have k2 : i < ws.length := by rw [w2.length]; simpa using h2
      obtain ⟨u, hu, ru⟩ := w1.get (List.getElem?_eq_getElem k1)
      obtain ⟨v, hv, rv⟩ := w2.get (List.getElem?_eq_getElem k2)
      rw [g1] at hu
      rw [g2] at hv
      rw [Option.some.inj hu, Option.some.inj hv]
      obtain ⟨d, hd, qx⟩ := r1.ofV (List.getElem?_eq_getElem k1)
      obtain ⟨d', hd', qy⟩ := r2.ofV (List.getElem?_eq_getElem k2)
      refine wpAny_mono (h i d d' hd hd' A.in1 pins s' σ H1 F1 c1 st _ _ u v sb.in1 I1 rc1 ru rv (qx.stp s1) (qy.stp s1)) (fun r s2 q => ?_) fun _ _ x => x
      obtain ⟨hr, F2, c2, H2, I2, s2', rc2, o2⟩ := q
      exact ⟨hr, F2, c2, H2, I2, s1.trans s2', rc2, o1.trans s1 rc1 o2⟩
omit [VEnv] in
theorem relV_inj {x y : V} {u : Value} (a : RelV x u) (b : RelV y u) : x = y := by
  have h : [x] = [y] := Vals.inj (us := [u]) (.cons a .nil) (.cons b .nil)
  simpa using h
omit [VEnv] in
theorem pairedO_inj : ∀ {vs ws : List V} {us : List (Option Value)}, Paired RelO (vs.map some) us → Paired RelO (ws.map some) us → vs = ws
  | [], [], _, _, _ => rfl
  | [], w :: ws, _, a, b => by cases a; cases b
  | v :: vs, [], _, a, b => by cases a; cases b
  | v :: vs, w :: ws, us, a, b => by
    cases a with
    | cons a1 a2 =>
      cases b with
      | cons b1 b2 =>
        rename_i u us
        cases u with
        | none => exact a1.elim
        | some u => rw [relV_inj (show RelV v u from a1) (show RelV w u from b1), pairedO_inj a2 b2]
theorem diag_of {nb : Str} {m : FM} : ∀ (n : Nat) {d d' : D} {t : Bool}, cmpN nb m n d d' = some t → Diag X d d' t := by
  have base : ∀ {d d' : D} {t : Bool}, cmpO nb m d d' = some t → Diag X d d' t := by
    intro d d' t h pins σ H s F F' c c' v I hx hy
    unfold cmpO at h
    split at h
    · cases hx; cases hy; simpa using h.symm
    · cases hx; cases hy; simpa using h.symm
    · split at h
      · rename_i n1 xs n2 ys hh
        obtain ⟨h1, h2, h3⟩ := hh
        cases hx with
        | obj m1 f1 s1 r1 =>
          cases hy with
          | obj m2 f2 s2 r2 =>
            subst h1; subst h2
            have e := m1.symm.trans m2
            cases e
            rename_i C dx vs dy ws
            obtain ⟨us, _, p1, g1, _⟩ := VE.slAt_get I s1
            obtain ⟨us', _, p2, g2, _⟩ := VE.slAt_get I s2
            have e2 := Option.some.inj (g1.symm.trans g2)
            have e4 : us = us' := by simpa using congrArg (fun o : Obj => o.slots.toList) e2
            subst e4
            have e3 : vs = ws := pairedO_inj p1 p2
            subst e3
            have e5 := skelL_det I h3 r1 r2
            split at h
            · simpa using h.symm
            · split at h
              · rename_i hz; exact absurd e5 hz.1
              · cases h
      · cases h
    · cases h
  intro n
  induction n with
  | zero => intro d d' t h; exact base h
  | succ n ih =>
    intro d d' t h
    unfold cmpN at h
    split at h
    · cases ‹_ + 1 = 0›
    · rename_i n' xs ys hn
      cases hn
      intro pins σ H s F F' c c' v I hx hy
      obtain ⟨e, he, ht⟩ := cmpL_spec h
      cases hx with
      | tup q1 r1 =>
        cases hy with
        | tup q2 r2 =>
          have ev := I.tuple_inj q1.sq q2.sq
          subst ev
          have hl : xs.length = ys.length := by rw [← r1.length, ← r2.length]
          rw [ht, hl]
          simp only [Nat.min_self, beq_self_eq_true, Bool.and_true, List.all_eq_true, List.mem_range]
          intro i hi
          rename_i vs
          have k : i < vs.length := by rw [r2.length]; exact hi
          obtain ⟨x, hx, px⟩ := r1.ofV (List.getElem?_eq_getElem k)
          obtain ⟨y, hy, py⟩ := r2.ofV (List.getElem?_eq_getElem k)
          exact ih (he i x y hx hy) I px py
    · exact base h
theorem eqB_of {nb : Str} {m : FM} (Q : EqV X.prog X.w X.K X.mg X.base k nb m) : ∀ (n : Nat) {d d' : D} {t : Bool}, cmpN nb m n d d' = some t → EqB X (k + n) d d' t := by
  have base : ∀ {d d' : D} {t : Bool}, cmpO nb m d d' = some t → EqB X k d d' t := by
    intro d d' t h
    have dg : Diag X d d' t := diag_of (nb := nb) (m := m) 0 h
    unfold cmpO at h
    split at h
    · cases h; exact eqB_int.mono (by omega)
    · cases h; exact eqB_str.mono (by omega)
    · split at h
      · rename_i n1 xs n2 ys hh
        obtain ⟨h1, h2, h3⟩ := hh
        subst h1; subst h2
        split at h
        · rename_i ht; cases h
          exact (rcB_obj Q ht).eqB dg (fun _ _ _ _ _ _ r => by cases r; exact ⟨_, rfl⟩) (fun _ _ _ _ _ _ r => by cases r; exact ⟨_, rfl⟩)
        · split at h
          · rename_i ht; cases h
            exact (rcB_obj Q ht.2).eqB dg (fun _ _ _ _ _ _ r => by cases r; exact ⟨_, rfl⟩) (fun _ _ _ _ _ _ r => by cases r; exact ⟨_, rfl⟩)
          · cases h
      · cases h
    · cases h
  intro n
  induction n with
  | zero => intro d d' t h; exact base h
  | succ n ih =>
    intro d d' t h
    have dg : Diag X d d' t := diag_of (nb := nb) (m := m) (n + 1) h
    unfold cmpN at h
    split at h
    · cases ‹_ + 1 = 0›
    · rename_i n' xs ys hn
      cases hn
      obtain ⟨e, he, ht⟩ := cmpL_spec h
      subst ht
      exact (rcB_tup fun i x y hx hy => ih (he i x y hx hy)).eqB dg (fun _ _ _ _ _ _ r => by cases r; exact ⟨_, rfl⟩) (fun _ _ _ _ _ _ r => by cases r; exact ⟨_, rfl⟩)
    · exact (base h).mono (by omega)
end
/-- two tuples -/
noncomputable def eqF (nb : Str) (m : FM) : D → D → Option D := fun x y => match x, y with
  | .tup xs, .tup ys => (cmpL (cmpN nb m 2) xs ys).map .bl
  | _, _ => none
section
variable {X : Cx} {W : WX} {e a : Expr} {pos p p2 : Pos} {fa fb : M D} {nb : Str} {k : Nat} {m : FM}
def rF (nb : Str) (m : FM) (K : PySem.W.Frag) (mg : Str → Option Value) : R2 := fun x y H Q => ∃ F c st xs ys t, RelC K mg F c st H ∧ Rp K mg F c H x (.tup xs) ∧ Rp K mg F c H y (.tup ys) ∧ cmpL (cmpN nb m 2) xs ys = some t ∧ ∀ F' c' H', Stp F c H F' c' H' → RelC K mg F' c' st H' → Old F c H F' c' H' → Q (.bl t) H'
theorem op_eqF (V : EqV X.prog X.w X.K X.mg X.base k nb m) (hr : Room (k + 3) X.A) : OpR X (compareOp .Eq) (rF nb m X.K X.mg) := by
  intro pins s σ H x y v u Q I rx ry hq
  obtain ⟨F, c, st, xs, ys, t, rc, hx, hy, ok, q⟩ := hq
  show wpAny (model X.prog X.w) X.A (richCompare .Eq v u) (EP X pins σ Q) X.xe s
  obtain ⟨e, he, ht⟩ := cmpL_spec ok
  subst ht
  refine wpAny_mono (rcB_tup (n := k + 2) (fun i x y hx hy => eqB_of V 2 (he i x y hx hy)) X.A pins s σ H F c st x y v u ⟨hr, rfl⟩ I rc rx ry hx hy) (fun r s' z => ?_) fun _ _ x => x
  obtain ⟨hr', F', c', H', I', s1, rc1, o1⟩ := z
  subst hr'
  exact ⟨.bl _, H', I', rfl, q F' c' H' s1 rc1 o1⟩
theorem ok_eqF : ∀ b F c env st σ' H x y dx dy Q, b.K = X.K → b.mg = X.mg → Rel b F c env st σ' H → Rp b.K b.mg F c H x dx → Rp b.K b.mg F c H y dy → Post b W F c σ' H (fun d _ _ F' c' H' => ∀ v, Rp b.K b.mg F' c' H' v d → Q v H') (sc2 (eqF nb m) dx dy env st) → rF nb m X.K X.mg x y H Q := by
  intro b F c env st σ' H x y dx dy Q e1 e2 r hx hy p
  unfold sc2 ret eqF at p
  split at p
  · rename_i d ed
    split at ed
    · rename_i xs ys
      cases hc : cmpL (cmpN nb m 2) xs ys with
      | none => rw [hc] at ed; cases ed
      | some t =>
        rw [hc] at ed
        cases ed
        refine ⟨F, c, st, xs, ys, t, by rw [← e1, ← e2]; exact r.rc, by rw [← e1, ← e2]; exact hx, by rw [← e1, ← e2]; exact hy, hc, fun F' c' H' s rc o => ?_⟩
        rw [← e1, ← e2] at rc
        exact p F' c' H' s (r.call s rc o) _ (.bl t)
    · cases ed
  · exact p.elim
theorem ve_eqF (V : EqV X.prog X.w X.K X.mg X.base k nb m) (hr : Room (k + 3) X.A) (ha : VE X W e fa) (hb : VE X W a fb) : VE X W (.Compare e [.Eq] [a] pos) (eBin (sc2 (eqF nb m)) fa fb) := ve_cmp (op_eqF V hr) ok_eqF ha hb (nomark _)
end
/-- the class n is no base of tuple -/
structure NoTup (K : PySem.W.Frag) (mg : Str → Option Value) (n : Str) : Prop where
  ex : ∀ C, mg n = some (.ref C) → PySem.W.kitOne K (.type "tuple") (.ref C) = some false ∧ PySem.W.notFirst K C (.type "tuple") = true
/-- isinstance(x, n), x an instance of n or a tuple -/
def isQ (n : Str) : D → Option D
  | .obj n' _ => if n' = n then some (.bl true) else none
  | .tup _ => some (.bl false)
  | _ => none
section
variable {X : Cx} {W : WX} {e a : Expr} {pos p p2 : Pos} {ta : TE} {fa fb : M D} {n : Str} {C : Addr} {k : Nat} {m : FM}
def rIsQ (K : PySem.W.Frag) (C : Addr) : List V → Hp → VK → Prop := fun xs H Q => ∃ a, xs = [V.ref a, V.ref C] ∧ ((∃ dx vs, VE.SlAt H a C dx vs ∧ Q (.bl true) H) ∨ ∃ ys, SqT K H a ys ∧ Q (.bl false) H)
theorem call_isQ (c : L2.SCls X.K C) (i : SlX.SIsi X.K C) (k : PySem.W.kitOne X.K (.ref C) (.ref C) = some true) (z : PySem.W.kitOne X.K (.type "tuple") (.ref C) = some false) : CallR X (.builtin "isinstance") (rIsQ X.K C) := by
  intro pins s σ H xs us Q I r h
  obtain ⟨a, rfl, h⟩ := h
  obtain ⟨u1, u2, rfl, r1, r2⟩ := r.two
  cases (show u1 = Value.ref a from r1)
  cases (show u2 = Value.ref C from r2)
  rcases h with ⟨dx, vs, hsl, q⟩ | ⟨ys, hs, q⟩
  · obtain ⟨us, od, _, _, J⟩ := VE.slAt_get I hsl
    exact PySem.W.kia_one (OwX.kitx_slt c.ic c.pg i.ca i.cn i.ct i.cm) I.kIn J k (fun z => nomatch z) fun tk => ⟨.bl true, H, I.tok _, rfl, q⟩
  · obtain ⟨its, _, ⟨o, ho, hc, _⟩, _⟩ := I.tuple hs
    exact PySem.W.kia_one PySem.W.kitx_tuple I.kIn ⟨o, ho, hc⟩ z (fun z => nomatch z) fun tk => ⟨.bl false, H, I.tok _, rfl, q⟩
theorem ve_isQ (cv : IsiV X.K X.mg n) (nt : NoTup X.K X.mg n) (hm : X.mg "isinstance" = none) (ha : VE X W e fa) (hgl : Gl X "isinstance" := by rfl) (hglT : Gl X n := by rfl) (hdb : (n == ("__debug__" : Str)) = false := by decide)
    (hs : starEach [e, .Name n p2] X.env = (false, eval e X.env) :: starEach [.Name n p2] X.env := by rfl) (hs2 : starEach [.Name n p2] X.env = (false, eval (.Name n p2) X.env) :: starEach [] X.env := by rfl) (hpl : (backTo pos (starEach [.Name n p2] X.env)).any (·.1) = false := by rfl) :
    VE X W (.Call (.Name "isinstance" p) [e, .Name n p2] [] pos) (eUn (isQ n) fa) := by
  obtain ⟨C, hC⟩ := cv.ex
  obtain ⟨c, i, k⟩ := cv.cl C hC
  refine PEof (pe_callB (call_isQ c i k (nt.ex C hC).1) hgl hm PyProof.Rows.boot_isinstance (pa_cons ha (pa_cons (pe_glob (v := .ref C) hglT hC rfl hdb) pa_nil hs2) hs) (by decide) (by decide) hs hpl) fun σ H Q ⟨b, F, c, env, st, e1, e2, r, pp⟩ => tE_at e1 e2 r pp fun v d env1 st1 F1 c1 H1 s1 r1 rp1 p1 => ?_
  unfold ret isQ at p1
  split at p1
  · rename_i d' ed
    split at ed
    · rename_i n' ds
      split at ed
      · rename_i en
        subst en
        cases ed
        cases rp1 with
        | obj m1 m2 m3 m4 =>
          rw [e2, hC] at m1; cases m1
          exact ⟨_, rfl, .inl ⟨_, _, m3, Post.here r1 p1 _ (.bl true)⟩⟩
      · cases ed
    · cases ed
      cases rp1 with
      | tup q1 q2 =>
        rw [e1] at q1
        exact ⟨_, rfl, .inr ⟨_, q1.sq, Post.here r1 p1 _ (.bl false)⟩⟩
    · cases ed
  · exact p1.elim
/-- x == y (q = true) or x != y, x an instance of n, y one too or a tuple -/
def cmpX (n : Str) (m : FM) (q : Bool) : D → D → M D := fun x y env st => match x, y with
  | .obj n1 xs, .obj n2 ys => if n1 = n ∧ n2 = n then (match m [.obj n1 xs, .obj n2 ys] st with
    | .ok (.bl t) st => .ok (.bl (t == q)) env st
    | _ => .bad) else .bad
  | .obj n1 xs, .tup ys => if n1 = n then (match m [.obj n1 xs, .tup ys] st with
    | .ok (.bl t) st => .ok (.bl (t == q)) env st
    | _ => .bad) else .bad
  | _, _ => .bad
def rX (K : PySem.W.Frag) (C : Addr) (q : Bool) (sp : Sp) (E : XK) : R2 := fun x y H Q => ∃ a b dx vs t, x = .ref a ∧ y = .ref b ∧ VE.SlAt H a C dx vs ∧ ((∃ dy ws, VE.SlAt H b C dy ws) ∨ ∃ ys, SqT K H b ys) ∧ sp [x, y] H (fun v H' => v = .bl t ∧ Q (.bl (t == q)) H') E
omit [VEnv] in
theorem op_eqX {CX : CXT} {C f : Addr} {fd : FuncData} {ps : List Str} {sp : Sp} {E : XK} (F : FnOk X.prog X.w X.K X.mg X.base CX k f fd ps sp) (hr : Room (k + 1) X.A) (hnt : PySem.W.notFirst X.K C (.type "tuple") = true)
    (hs : PySem.W.findIn X.K (.ref C) "__eq__" = some (some (.ref f))) (hf : PySem.W.isFn X.K (.ref f) = true)
    (hb : Binds X.K fd ps []) (hx : Passes CX X E) : OpR X (compareOp .Eq) (rX X.K C true sp E) := by
  intro pins s σ H x y v u Q I rx ry hq
  obtain ⟨a, b, dx, fs, t, rfl, rfl, ha, hb', hsp⟩ := hq
  cases rx
  cases ry
  show wpAny (model X.prog X.w) X.A (richCompare .Eq (.ref a) (.ref b)) (EP X pins σ Q) X.xe s
  have sb : L2.Sub X k X.A := ⟨hr.mono (by omega), rfl⟩
  obtain ⟨us, od, _, _, J⟩ := VE.slAt_get I ha
  obtain ⟨m, hF⟩ := I.fr
  have e0 : Env0 X.prog X.w X.K X.mg X.base X.A X.stack s H := I.env0
  have hl := F.len _ _ _ _ hsp
  have r2 : Vals [V.ref a, V.ref b] [Value.ref a, Value.ref b] := .cons rfl (.cons rfl .nil)
  have go : wpAny (model X.prog X.w) X.A (call (.ref f) [.ref a, .ref b]) (fun v s' => v = .bool t ∧ EP X pins σ Q (.bool t) s') X.xe s := by
    refine wpAny_call (codeAny_mono (F.run X.A X.stack s H ⟨[.ref a, .ref b], []⟩ [.ref a, .ref b] [.ref a, .ref b] _ E sb.room e0 (by
      have := hb s [.ref a, .ref b] I.kIn (by simpa using hl)
      simpa using this) r2 hsp) fun r s' hq => ?_)
    cases r with
    | error e => exact hx pins σ H s e s' I hq
    | ok fl =>
      cases fl with
      | ret w =>
        obtain ⟨z, H', I', rz, ez, q⟩ := I.after hq
        subst ez
        cases rz
        exact ⟨rfl, .bl t, H', I', rfl, by simpa using q⟩
      | next => exact False.elim hq
      | brk => exact False.elim hq
      | cont => exact False.elim hq
  rcases hb' with ⟨dy, gs, hb'⟩ | ⟨ys, hb'⟩
  · obtain ⟨us', od', _, _, J'⟩ := VE.slAt_get I hb'
    exact PySem.W.eq_K (t := t) (tb := .ref C) (by have := hr.un; omega) hF I.ok.mod.kin J J'.type (by simp [PySem.W.notFirst]) hs hf go
  · obtain ⟨its, _, ⟨o, ho, hc, _⟩, _⟩ := I.tuple hb'
    exact PySem.W.eq_K (t := t) (tb := .type "tuple") (by have := hr.un; omega) hF I.ok.mod.kin J (PySem.W.kitAt_ty _ _ ⟨o, ho, hc⟩) hnt hs hf go
omit [VEnv] in
theorem op_neX {CX : CXT} {C f : Addr} {fd : FuncData} {ps : List Str} {sp : Sp} {E : XK} (F : FnOk X.prog X.w X.K X.mg X.base CX k f fd ps sp) (hr : Room (k + 1) X.A) (hnt : PySem.W.notFirst X.K C (.type "tuple") = true)
    (hs : PySem.W.findIn X.K (.ref C) "__eq__" = some (some (.ref f))) (hf : PySem.W.isFn X.K (.ref f) = true) (hne : PySem.W.findIn X.K (.ref C) "__ne__" = some (some (.builtin "object.__ne__"))) (hsub : PySem.W.subIn X.K (.ref C) (.type "object") = some true)
    (hb : Binds X.K fd ps []) (hx : Passes CX X E) : OpR X (compareOp .NotEq) (rX X.K C false sp E) := by
  intro pins s σ H x y v u Q I rx ry hq
  obtain ⟨a, b, dx, fs, t, rfl, rfl, ha, hb', hsp⟩ := hq
  cases rx
  cases ry
  show wpAny (model X.prog X.w) X.A (richCompare .NotEq (.ref a) (.ref b)) (EP X pins σ Q) X.xe s
  have sb : L2.Sub X (k + 1) X.A := ⟨hr, rfl⟩
  obtain ⟨us, od, _, _, J⟩ := VE.slAt_get I ha
  obtain ⟨m, hF⟩ := I.fr
  have e0 : Env0 X.prog X.w X.K X.mg X.base X.A.in1 X.stack s H := by
    have e := I.env0
    exact ⟨by rw [sb.in1.fr]; exact e.frames, e.mod, e.bs, e.bsz, e.funs, e.frf, e.hok, e.bare⟩
  have hl := F.len _ _ _ _ hsp
  have r2 : Vals [V.ref a, V.ref b] [Value.ref a, Value.ref b] := .cons rfl (.cons rfl .nil)
  have go : wpAny (model X.prog X.w) X.A.in1 (call (.ref f) [.ref a, .ref b]) (fun v s' => v = .bool t ∧ EP X pins σ Q (.bool (!t)) s') X.xe s := by
    refine wpAny_call (codeAny_mono (F.run X.A.in1 X.stack s H ⟨[.ref a, .ref b], []⟩ [.ref a, .ref b] [.ref a, .ref b] _ E sb.in1.room e0 (by
      have := hb s [.ref a, .ref b] I.kIn (by simpa using hl)
      simpa using this) r2 hsp) fun r s' hq => ?_)
    cases r with
    | error e => exact hx pins σ H s e s' I hq
    | ok fl =>
      cases fl with
      | ret w =>
        obtain ⟨z, H', I', rz, ez, q⟩ := I.after hq
        subst ez
        cases rz
        exact ⟨rfl, .bl (!t), H', I', rfl, by cases t <;> exact q⟩
      | next => exact False.elim hq
      | brk => exact False.elim hq
      | cont => exact False.elim hq
  rcases hb' with ⟨dy, gs, hb'⟩ | ⟨ys, hb'⟩
  · obtain ⟨us', od', _, _, J'⟩ := VE.slAt_get I hb'
    exact PySem.W.neB_K (t := t) (tb := .ref C) (by have := sb.in1.room.units0; exact this) hF I.ok.mod.kin J J'.type (by simp [PySem.W.notFirst]) hs hf hne hsub go
  · obtain ⟨its, _, ⟨o, ho, hc, _⟩, _⟩ := I.tuple hb'
    exact PySem.W.neB_K (t := t) (tb := .type "tuple") (by have := sb.in1.room.units0; exact this) hF I.ok.mod.kin J (PySem.W.kitAt_ty _ _ ⟨o, ho, hc⟩) hnt hs hf hne hsub go
theorem ok_cmpX {q : Bool} {C : Addr} (hC : X.mg n = some (.ref C)) : ∀ b F c env st σ' H x y dx dy Q, b.K = X.K → b.mg = X.mg → Rel b F c env st σ' H → Rp b.K b.mg F c H x dx → Rp b.K b.mg F c H y dy → Post b W F c σ' H (fun d _ _ F' c' H' => ∀ v, Rp b.K b.mg F' c' H' v d → Q v H') (cmpX n m q dx dy env st) → rX X.K C q (spV X.K X.mg false 2 m) (fun _ _ _ => False) x y H Q := by
  intro b F c env st σ' H x y dx dy Q e1 e2 r hx hy p
  unfold cmpX at p
  split at p
  · rename_i n1 xs n2 ys
    split at p
    · rename_i hh
      obtain ⟨rfl, rfl⟩ := hh
      have gx := hx
      have gy := hy
      cases hx with
      | obj m1 f1 s1 r1 =>
        cases hy with
        | obj m2 f2 s2 r2 =>
          rw [e2, hC] at m1 m2; cases m1; cases m2
          generalize hz : m [.obj n2 xs, .obj n2 ys] st = z at p
          cases z with
          | ok d st' =>
            cases d with
            | bl t =>
              refine ⟨_, _, _, _, t, rfl, rfl, s1, .inl ⟨_, _, s2⟩, ?_⟩
              rw [← e1, ← e2]
              refine ⟨F, c, [.obj n2 xs, .obj n2 ys], st, r.rc, .cons gx (.cons gy .nil), rfl, ?_⟩
              rw [hz]
              intro v F' c' H' s rc o rv
              cases (show Rp b.K b.mg F' c' H' v (.bl t) from rv)
              exact ⟨rfl, p F' c' H' s (r.call s rc o) _ (.bl _)⟩
            | _ => exact p.elim
          | ex x st' => exact p.elim
          | bad => exact p.elim
    · exact p.elim
  · rename_i n1 xs ys
    split at p
    · rename_i hh
      subst hh
      have gx := hx
      have gy := hy
      cases hx with
      | obj m1 f1 s1 r1 =>
        cases hy with
        | tup q2 r2 =>
          rw [e2, hC] at m1; cases m1
          generalize hz : m [.obj n1 xs, .tup ys] st = z at p
          cases z with
          | ok d st' =>
            cases d with
            | bl t =>
              refine ⟨_, _, _, _, t, rfl, rfl, s1, .inr ⟨_, by rw [← e1]; exact q2.sq⟩, ?_⟩
              rw [← e1, ← e2]
              refine ⟨F, c, [.obj n1 xs, .tup ys], st, r.rc, .cons gx (.cons gy .nil), rfl, ?_⟩
              rw [hz]
              intro v F' c' H' s rc o rv
              cases (show Rp b.K b.mg F' c' H' v (.bl t) from rv)
              exact ⟨rfl, p F' c' H' s (r.call s rc o) _ (.bl _)⟩
            | _ => exact p.elim
          | ex x st' => exact p.elim
          | bad => exact p.elim
    · exact p.elim
  · exact p.elim
theorem ve_eqX (Q : EqV X.prog X.w X.K X.mg X.base k n m) (nt : NoTup X.K X.mg n) (hr : Room (k + 1) X.A) (ha : VE X W e fa) (hb : VE X W a fb) : VE X W (.Compare e [.Eq] [a] pos) (eBin (cmpX n m true) fa fb) := by
  obtain ⟨C, f, fd, ps, hC, hs, hf, hne, hsub, Fo, hbi⟩ := Q.ex
  exact ve_cmp (op_eqX Fo hr (nt.ex C hC).2 hs hf hbi passNone) (ok_cmpX (C := C) hC) ha hb (nomark _)
theorem vt_eqX (Q : EqV X.prog X.w X.K X.mg X.base k n m) (nt : NoTup X.K X.mg n) (hr : Room (k + 1) X.A) (ha : VE X W e fa) (hb : VE X W a fb) : VT X W (.Compare e [.Eq] [a] pos) (eT (eBin (cmpX n m true) fa fb)) := by
  obtain ⟨C, f, fd, ps, hC, hs, hf, hne, hsub, Fo, hbi⟩ := Q.ex
  exact vt_cmp (op_eqX Fo hr (nt.ex C hC).2 hs hf hbi passNone) (ok_cmpX (C := C) hC) ha hb (nomark _)
theorem ve_neX (Q : EqV X.prog X.w X.K X.mg X.base k n m) (nt : NoTup X.K X.mg n) (hr : Room (k + 1) X.A) (ha : VE X W e fa) (hb : VE X W a fb) : VE X W (.Compare e [.NotEq] [a] pos) (eBin (cmpX n m false) fa fb) := by
  obtain ⟨C, f, fd, ps, hC, hs, hf, hne, hsub, Fo, hbi⟩ := Q.ex
  exact ve_cmp (op_neX Fo hr (nt.ex C hC).2 hs hf hne hsub hbi passNone) (ok_cmpX (C := C) hC) ha hb (nomark _)
theorem vt_neX (Q : EqV X.prog X.w X.K X.mg X.base k n m) (nt : NoTup X.K X.mg n) (hr : Room (k + 1) X.A) (ha : VE X W e fa) (hb : VE X W a fb) : VT X W (.Compare e [.NotEq] [a] pos) (eT (eBin (cmpX n m false) fa fb)) := by
  obtain ⟨C, f, fd, ps, hC, hs, hf, hne, hsub, Fo, hbi⟩ := Q.ex
  exact vt_cmp (op_neX Fo hr (nt.ex C hC).2 hs hf hne hsub hbi passNone) (ok_cmpX (C := C) hC) ha hb (nomark _)
end
end VE
namespace VE
open PySem PySem.Spec PySem.SeqAt
open AutoSeq1 (wpAny_loadPart')
open MeetsSeq MeetsSeq2 MeetsSeq3 SeqRoads2
section
variable {P : Program} {w : World} {A : Around} {E : Value → Shared → Prop} {Z : Result → Shared → Prop} {s : Shared} {p q : Addr}
end
end VE
namespace L2
open PySem PySem.Spec PyProof.Rows
section
variable {X : Cx}
end
end L2
namespace VE
open PySem PySem.Spec PyProof.Rows L2
variable [VEnv]
section
variable {X : Cx} {W : WX} {a e o : Expr} {pos p apos : Pos} {fa fb fo : M D}
variable {n : Nat} {ds : List D} {d : D} {env : EnvD} {st : Sto} {x : D}
end
end VE
namespace VE
open PySem PySem.Spec PyProof.Rows L2
variable [VEnv]
section
variable {X : Cx} {W : WX} {e a : Expr} {pos : Pos} {fa fb : M D}
end
@[simp] theorem x_catL {xs ys : List D} : catL (.lst xs) (.lst ys) = if xs.length + ys.length ≤ 16777216 then some (.lst (xs ++ ys)) else none := rfl
end VE
namespace VE
open PySem PySem.Spec PyProof.Rows L2
variable [VEnv]
section
variable {X : Cx} {W : WX} {e a o : Expr} {pos p p2 q : Pos} {fa fb fc : M D}
variable {i j m : Nat} {z d d' : D} {env : EnvD} {st : Sto}
end
end VE
namespace VE
open PySem PySem.Spec PyProof.Rows L2
variable [VEnv]
section
variable {X : Cx} {W : WX} {a o : Expr} {pos apos : Pos} {fo fa : M D}
variable {env : EnvD} {st : Sto} {z w : Str} {n : Int}
end
end VE
namespace VE
open PySem PySem.Spec PyProof.Rows L2
variable [VEnv]
section
variable {X : Cx} {W : WX} {tg iter : Expr} {pos : Pos} {fa : M D}
variable {t : D → EnvD → Option EnvD} {ws : List Nat} {g : M Fl} {env : EnvD} {st : Sto} {n : Nat}
end
end VE
namespace L2
open PySem PySem.Spec PyProof.Rows
/-- a def of which only the first argument is known; it may run where an error is handled, and raises nothing -/
structure FnX (P : Program) (w : World) (K : PySem.W.Frag) (mg : Str → Option Value) (base : Heap) (k : Nat) (f : Addr) (fd : FuncData) (ps : List Str) (sp : V → Hp → VK → Prop) : Prop where
  run : ∀ (A : Around) (outer : List Env) (s : Shared) (H : Hp) (u0 : Value) (us : List Value) (v : V) (Q : VK), L2H.RoomH k A → Env0 P w K mg base A outer s H → us.length + 1 = ps.length → BindsTo s fd ⟨u0 :: us, []⟩ (ps.zip (u0 :: us)) → RelV v u0 → sp v H Q →
    codeAny (model P w) A (.call (.ref f) ⟨u0 :: us, []⟩) (fun r s' => match r with | .ok (.ret u) => CE outer P w H s Q u s' | _ => False) s
theorem FnX.mono {P : Program} {w : World} {K : PySem.W.Frag} {mg : Str → Option Value} {base : Heap} {j k : Nat} {f : Addr} {fd : FuncData} {ps : List Str} {sp : V → Hp → VK → Prop} (F : FnX P w K mg base j f fd ps sp) (h : j ≤ k) : FnX P w K mg base k f fd ps sp :=
  ⟨fun A outer s H u0 us v Q hr => F.run A outer s H u0 us v Q (hr.mono h)⟩
section
variable {X : Cx} {ctx : Expr} {body : List Stmt} {n : Str} {i k : Nat} {np pos : Pos} {te : TE} {tb : WX → TS} {Wout : WX} {C fe fx : Addr} {fde fdx : FuncData} {pse psx : List Str} {spe : Sp} {spx : V → Hp → VK → Prop}
end
end L2
namespace VE
open PySem PySem.Spec PyProof.Rows L2
variable [VEnv]
section
variable {P : Program} {w : World} {K : PySem.W.Frag} {mg : Str → Option Value} {base : Heap}
def sp1V (K : PySem.W.Frag) (mg : Str → Option Value) (m : FM) : V → Hp → VK → Prop := fun v H Q => ∃ F c d st, RelC K mg F c st H ∧ Rp K mg F c H v d ∧ PostF K mg false F c H Q (fun _ _ _ => False) (m [d] st)
/-- a class whose instances stand behind `with` -/
structure WthV (P : Program) (w : World) (K : PySem.W.Frag) (mg : Str → Option Value) (base : Heap) (k : Nat) (n : Str) (me mx : FM) : Prop where
  ex : ∃ C fe fde pse fx fdx psx, mg n = some (.ref C) ∧ Meth K C "__enter__" fe ∧ FnOk P w K mg base (L2Z.CX P w K) k fe fde pse (spV K mg false 1 me) ∧ Binds K fde pse [] ∧ Meth K C "__exit__" fx ∧ FnX P w K mg base k fx fdx psx (sp1V K mg mx) ∧ Binds K fdx psx [] ∧ psx.length = 4
end
theorem RpX.stp {K : PySem.W.Frag} {mg : Str → Option Value} {F F' : Addr → Prop} {c c' : List Addr} {H H' : Hp} {cls : Value} {d : Option Addr} {x : Exn} (h : RpX K mg F c H cls d x) (s : Stp F c H F' c' H') : RpX K mg F' c' H' cls d x :=
  ⟨h.1, h.2.imp id fun ⟨d', vfs, e, f, k, m, r⟩ => ⟨d', vfs, e, s.inc _ f, s.keep _ _ f k, m, r.stp s⟩⟩
section
variable {X : Cx} {W : WX} {ctx : Expr} {body : List Stmt} {n y : Str} {i k : Nat} {np pos : Pos} {fa : M D} {g : M Fl} {me mx : FM}
structure MtS (P : Program) (w : World) (K : PySem.W.Frag) (mg : Str → Option Value) (base : Heap) (k : Nat) (n m : Str) (fr : Bool) (np : Nat) (mf : FM) : Prop where
  ex : ∃ C f fd ps, mg n = some (.ref C) ∧ L2.SCls K C ∧ FnOk P w K mg base (L2Z.CX P w K) k f fd ps (spV K mg fr np mf) ∧ L2.Meth K C m f ∧ Binds K fd ps []
variable {e o : Expr} {es : List Expr} {fo : M D} {fs : M (List D)} {m : Str} {mf : FM} {np' : Nat} {apos : Pos}
end
end VE
namespace L2
open PySem PySem.Spec PyProof.Rows
section
variable {prog : Program} {w : World} {K : Type} [DecidableEq K] {knd : KeyKind prog w K} {A : Around} {E : Value → Shared → Prop} {s : Shared}
end
section
variable {X : Cx}
end
end L2
namespace VE
open PySem PySem.Spec PyProof.Rows L2
variable [VEnv]
section
variable {X : Cx} {W : WX} {a e : Expr} {pos : Pos} {fa fb fk : M D}
end
end VE
namespace L2
open PySem PySem.Spec PyProof.Rows
section
variable {X : Cx}
end
end L2
namespace VE
open PySem PySem.Spec PyProof.Rows L2
variable [VEnv]
section
variable {X : Cx} {W : WX} {a e : Expr} {es : List Expr} {pos p apos : Pos} {fa fb fk : M D} {fs : M (List D)} {n m x : Str} {k np i : Nat} {mf : FM}
structure CmV (P : Program) (w : World) (K : PySem.W.Frag) (mg : Str → Option Value) (base : Heap) (k : Nat) (n m : Str) (fr : Bool) (np : Nat) (mf : FM) : Prop where
  ex : ∃ C mc p g fd ps, mg n = some (.ref C) ∧ ClX.CRead K C mc ∧ ClX.CMet K C mc m p g ∧ FnOk P w K mg base (L2Z.CX P w K) k g fd ps (spV K mg fr np mf) ∧ Binds K fd ps []
end
end VE
namespace VE
open PySem PySem.Spec PyProof.Rows L2
variable [VEnv]
section
variable {P : Program} {w : World} {K : PySem.W.Frag} {mg : Str → Option Value} {base : Heap} {k : Nat}
end
section
variable {X : Cx} {W : WX} {e a : Expr} {es : List Expr} {pos p : Pos} {fs : M (List D)} {x : Str} {k j i : Nat} {G : Nat → LamM} {tab : List (Str × FM)} {n : Nat} {m : FM} {fr : Bool}
end
end VE
namespace VE
open PySem PySem.Spec PyProof.Rows L2
variable [VEnv]
section
variable {X : Cx} {W : WX} {o a : Expr} {pos : Pos} {fo fa : M D}
end
end VE
namespace VE
open PySem PySem.Spec PyProof.Rows L2
variable [VEnv]
section
variable {X : Cx} {W : WX} {o a : Expr} {pos : Pos} {fo fa : M D}
end
end VE
namespace VE
open PySem PySem.Spec PyProof.Rows L2
variable [VEnv]
def reoS {α : Type} (perm : List Nat) (xs : List α) : List α := perm.filterMap fun j => xs[j]?
def FinOk (fin : Option (List Nat × List Nat)) : Prop := ∀ ix perm, fin = some (ix, perm) → ∀ vs : List V, vs.length = ix.length → fillS ix vs = (reoS perm vs).map some
theorem FinOk.none : FinOk none := fun _ _ h => by cases h
theorem FinOk.some {ix perm : List Nat} (h : ∀ vs : List V, vs.length = ix.length → fillS ix vs = (reoS perm vs).map Option.some) : FinOk (Option.some (ix, perm)) := fun _ _ e => by cases e; exact h
section
variable {X : Cx} {W : WX} {e o : Expr} {pos pos' : Pos} {fo fe : M D}
end
end VE
namespace VE
open PySem PySem.Spec PyProof.Rows L2
section
variable {fa fb fc fo fi fe fd : M D} {fs : M (List D)} {env : EnvD} {st : Sto} {i n np q : Nat} {d x y z : D} {ds xs : List D} {c c' f : Str} {mf : FM} {kvs : List (Key × D)} {ky : Key}
def vwC (n : Nat) : Option Cell → D
  | some (.lst ds) => .lst ds
  | _ => .ref n
@[simp] theorem vw_non : vw st .non = .non := rfl
@[simp] theorem vw_bl {b : Bool} : vw st (.bl b) = .bl b := rfl
@[simp] theorem vw_int {i : Int} : vw st (.int i) = .int i := rfl
@[simp] theorem vw_str {s : Str} : vw st (.str s) = .str s := rfl
@[simp] theorem vw_lst : vw st (.lst xs) = .lst xs := rfl
@[simp] theorem vw_tup : vw st (.tup xs) = .tup xs := rfl
@[simp] theorem vw_scr {ns : List Int} : vw st (.scr ns) = .scr ns := rfl
@[simp] theorem vw_obj : vw st (.obj c xs) = .obj c xs := rfl
@[simp] theorem vw_ino {ns : List Str} : vw st (.ino c ns xs) = .ino c ns xs := rfl
@[simp] theorem vw_ref : vw st (.ref n) = vwC n st[n]? := by
  unfold vw vwC
  rfl
@[simp] theorem vwC_lst : vwC n (some (.lst ds)) = .lst ds := rfl
@[simp] theorem vwC_dct : vwC n (some (.dct kvs)) = .ref n := rfl
@[simp] theorem x_sv2 {g : D → D → Option D} : sv2 g x y env st = ret (g (vw st x) (vw st y)) env st := rfl
@[simp] theorem x_addA1 {i j : Int} : addA (.int i) (.int j) = some (.int (i + j)) := rfl
@[simp] theorem x_addA2 {i j : Str} : addA (.str i) (.str j) = if i.length + j.length ≤ sizeLine then some (.str (i ++ j)) else none := rfl
@[simp] theorem x_addA3 {xs ys : List D} : addA (.tup xs) (.tup ys) = if xs.length + ys.length ≤ 16777216 then some (.tup (xs ++ ys)) else none := rfl
@[simp] theorem x_addA4 {xs ys : List D} : addA (.lst xs) (.lst ys) = if xs.length + ys.length ≤ 16777216 then some (.lst (xs ++ ys)) else none := rfl
@[simp] theorem ng_f {t : Bool} : ng false t = t := rfl
@[simp] theorem ng_t {t : Bool} : ng true t = !t := rfl
def kInC (neg : Bool) (x : D) (n : Nat) : Option Cell → M D := fun o env st => match o with
  | some (.dct kvs) => (match x with
      | .int i => .ok (.bl (ng neg (hasD (.inl i) kvs))) env st
      | .str i => .ok (.bl (ng neg (hasD (.inr i) kvs))) env st
      | _ => .bad)
  | _ => sv2 (inV neg) x (.ref n) env st
@[simp] theorem x_inA_lst {neg : Bool} : inA neg x (.lst ds) env st = ret (inV neg (vw st x) (.lst ds)) env st := rfl
@[simp] theorem x_inA_tup {neg : Bool} : inA neg x (.tup ds) env st = ret (inV neg (vw st x) (.tup ds)) env st := rfl
@[simp] theorem x_inA_str {neg : Bool} {s : Str} : inA neg x (.str s) env st = ret (inV neg (vw st x) (.str s)) env st := rfl
@[simp] theorem x_inA_ref {neg : Bool} : inA neg x (.ref n) env st = kInC neg x n st[n]? env st := rfl
@[simp] theorem x_kInC1 {neg : Bool} {i : Int} : kInC neg (.int i) n (some (.dct kvs)) env st = .ok (.bl (ng neg (hasD (.inl i) kvs))) env st := rfl
@[simp] theorem x_kInC2 {neg : Bool} {i : Str} : kInC neg (.str i) n (some (.dct kvs)) env st = .ok (.bl (ng neg (hasD (.inr i) kvs))) env st := rfl
@[simp] theorem x_kInC3 {neg : Bool} : kInC neg x n (some (.lst ds)) env st = ret (inV neg (vw st x) (vw st (.ref n))) env st := rfl
@[simp] theorem inV_str {neg : Bool} {i j : Str} : inV neg (.str i) (.str j) = some (.bl (ng neg (inText i j))) := rfl
theorem inV_lst {neg : Bool} (h : plain 20 x = true) (h2 : plain 20 (.lst ds) = true) : inV neg x (.lst ds) = some (.bl (ng neg (ds.any fun z => eqD z x))) := by
  cases x <;> first | (show (if (plain 20 _ && plain 20 _) = true then _ else _) = _; rw [h, h2]; rfl) | (simp [plain] at h)
theorem inV_tup {neg : Bool} (h : plain 20 x = true) (h2 : plain 20 (.tup ds) = true) : inV neg x (.tup ds) = some (.bl (ng neg (ds.any fun z => eqD z x))) := by
  cases x <;> first | (show (if (plain 20 _ && plain 20 _) = true then _ else _) = _; rw [h, h2]; rfl) | (simp [plain] at h)
@[simp] theorem x_ord1 {p : Int → Int → Bool} {r : Str → Str → Bool} {i j : Int} : ordA p r (.int i) (.int j) = some (.bl (p i j)) := rfl
@[simp] theorem x_ord2 {p : Int → Int → Bool} {r : Str → Str → Bool} {i j : Str} : ordA p r (.str i) (.str j) = some (.bl (r i j)) := rfl
def kQ : D → M (List D) := fun d env st => match walkD st d with
  | some xs => .ok xs env st
  | none => .bad
@[simp] theorem x_iQ : iQ fa env st = (fa env st).bind kQ := rfl
@[simp] theorem x_kQ1 : kQ (.lst ds) env st = .ok ds env st := rfl
@[simp] theorem x_kQ2 : kQ (.tup ds) env st = .ok ds env st := rfl
@[simp] theorem x_kQ3 {s : Str} : kQ (.str s) env st = .ok (signsD s) env st := rfl
@[simp] theorem x_kQ4 {ns : List Int} : kQ (.scr ns) env st = .ok (ns.map .int) env st := rfl
def kSU (c : Str) (i : Nat) (o : Option Cell) : M D := fun env st => match o with
  | some (.slo n' ds) => if n' = c then ret ds[i]? env st else .bad
  | _ => .bad
@[simp] theorem x_eSlU : eSlU c i fo env st = (fo env st).bind (slU c i) := rfl
@[simp] theorem x_slU1 : slU c i (.obj c' ds) env st = if c' = c then ret ds[i]? env st else .bad := rfl
@[simp] theorem x_slU2 : slU c i (.ref q) env st = kSU c i st[q]? env st := rfl
@[simp] theorem x_kSU : kSU c i (some (.slo c' ds)) env st = if c' = c then ret ds[i]? env st else .bad := rfl
@[simp] theorem x_ePrU : ePrU c mf fo env st = (fo env st).bind (prU c mf) := rfl
@[simp] theorem x_prU1 : prU c mf (.obj c' ds) env st = if c' = c then kPr3 (mf [.obj c' ds] st) env st else .bad := rfl
noncomputable def kMZ (c : Str) (mf : FM) (np : Nat) : List D → M D := fun ds env st => if ds.length + 1 = np then frzS c env st (mf (.ref st.length :: ds) (st ++ [.slo c []])) else .bad
@[simp] theorem x_eMakeZ : eMakeZ c mf np fs env st = (fs env st).bind (kMZ c mf np) := rfl
@[simp] theorem x_kMZ : kMZ c mf np ds env st = if ds.length + 1 = np then frzS c env st (mf (.ref st.length :: ds) (st ++ [.slo c []])) else .bad := rfl
@[simp] theorem rf_int {i : Int} : rfB n (.int i) = true := by simp only [rfB]
@[simp] theorem rf_str {s : Str} : rfB n (.str s) = true := by simp only [rfB]
@[simp] theorem rf_bl {s : Bool} : rfB n (.bl s) = true := by simp only [rfB]
@[simp] theorem rf_non : rfB n .non = true := by simp only [rfB]
@[simp] theorem rf_tup : rfB n (.tup xs) = rfBs n xs := by simp only [rfB]
@[simp] theorem rf_lst : rfB n (.lst xs) = rfBs n xs := by simp only [rfB]
@[simp] theorem rf_obj : rfB n (.obj c xs) = rfBs n xs := by simp only [rfB]
@[simp] theorem rf_ino {ns : List Str} : rfB n (.ino c ns xs) = rfBs n xs := by simp only [rfB]
@[simp] theorem rfs_nil : rfBs n [] = true := by simp only [rfBs]
@[simp] theorem rfs_cons : rfBs n (x :: xs) = (rfB n x && rfBs n xs) := by simp only [rfBs]
theorem rfs_all : ∀ {xs : List D}, (∀ x ∈ xs, rfB n x = true) → rfBs n xs = true
  | [], _ => rfs_nil
  | x :: xs, h => by rw [rfs_cons, h x List.mem_cons_self, rfs_all fun y hy => h y (List.mem_cons_of_mem _ hy)]; rfl
def kB1 (g : D → Option D) : D → M D := fun d env st => ret (g (vw st d)) env st
@[simp] theorem x_eB1 {g : D → Option D} : eB1 g fa env st = (fa env st).bind (kB1 g) := rfl
@[simp] theorem x_kB1 {g : D → Option D} : kB1 g d env st = ret (g (vw st d)) env st := rfl
def kSA3 (d : D) (l : Option Int) : Option Int → M D := fun h env st => ret (slA (vw st d) l h) env st
def kSA2 (fh : M (Option Int)) (d : D) : Option Int → M D := fun l env st => (fh env st).bind (kSA3 d l)
def kSA1 (fl fh : M (Option Int)) : D → M D := fun d env st => (fl env st).bind (kSA2 fh d)
@[simp] theorem x_eSlA {fl fh : M (Option Int)} : eSlA fa fl fh env st = (fa env st).bind (kSA1 fl fh) := rfl
@[simp] theorem x_kSA1 {fl fh : M (Option Int)} : kSA1 fl fh d env st = (fl env st).bind (kSA2 fh d) := rfl
@[simp] theorem x_kSA2 {fh : M (Option Int)} {l : Option Int} : kSA2 fh d l env st = (fh env st).bind (kSA3 d l) := rfl
@[simp] theorem x_kSA3 {l h : Option Int} : kSA3 d l h env st = ret (slA (vw st d) l h) env st := rfl
@[simp] theorem x_slA1 {l h : Option Int} : slA (.tup xs) l h = some (.tup (cutD xs l h)) := rfl
@[simp] theorem x_slA2 {l h : Option Int} : slA (.lst xs) l h = some (.lst (cutD xs l h)) := rfl
def kIxA (y : D) (n : Nat) : Option Cell → M D := fun o env st => match o with
  | some (.dct kvs) => (match dKey y with
      | some ky => ret (lkK ky kvs) env st
      | none => .bad)
  | _ => ixC (.ref n) y env st
@[simp] theorem x_ixA_ref : ixA (.ref n) y env st = kIxA y n st[n]? env st := rfl
@[simp] theorem x_kIxA1 {i : Int} : kIxA (.int i) n (some (.dct kvs)) env st = ret (lkK (.inl i) kvs) env st := rfl
@[simp] theorem x_kIxA2 {s : Str} : kIxA (.str s) n (some (.dct kvs)) env st = ret (lkK (.inr s) kvs) env st := rfl
@[simp] theorem x_kIxA3 : kIxA y n (some (.lst ds)) env st = ixC (.ref n) y env st := rfl
@[simp] theorem x_ixA_lst {i : Int} : ixA (.lst xs) (.int i) env st = ret (atI xs i) env st := rfl
@[simp] theorem x_ixA_tup {i : Int} : ixA (.tup xs) (.int i) env st = ret (atI xs i) env st := rfl
@[simp] theorem x_ixA_scr {i : Int} {ns : List Int} : ixA (.scr ns) (.int i) env st = ret ((atI ns i).map .int) env st := rfl
@[simp] theorem x_ixA_str {i : Int} {s : Str} : ixA (.str s) (.int i) env st = ret (ixD (.str s) (.int i)) env st := rfl
def kIA4 (n : Nat) (d k : D) : Option Cell → M Fl := fun o env st => match o with
    | some (.lst ds) => (match k with
      | .int k => (match ixN ds.length k with
        | some j => .ok .nx env (st.set n (.lst (ds.set j d)))
        | none => .bad)
      | _ => .bad)
    | some (.dct kvs) => (match dKey k with
      | some ky => if kvs.length < 16777216 then .ok .nx env (st.set n (.dct (ptK kvs ky d))) else .bad
      | none => .bad)
    | _ => .bad
def kIA3 (d r : D) : D → M Fl := fun k env st => match r with
  | .ref n => kIA4 n d k st[n]? env st
  | _ => .bad
def kIA2 (fi : M D) (d : D) : D → M Fl := fun r env st => (fi env st).bind (kIA3 d r)
def kIA1 (fo fi : M D) : D → M Fl := fun d env st => (fo env st).bind (kIA2 fi d)
@[simp] theorem x_sItemA : sItemA fo fi fe env st = (fe env st).bind (kIA1 fo fi) := rfl
@[simp] theorem x_kIA1 : kIA1 fo fi d env st = (fo env st).bind (kIA2 fi d) := rfl
@[simp] theorem x_kIA2 : kIA2 fi d x env st = (fi env st).bind (kIA3 d x) := rfl
@[simp] theorem x_kIA3 : kIA3 d (.ref n) y env st = kIA4 n d y st[n]? env st := rfl
def kIA5 (n : Nat) (ds : List D) (d : D) (o : Option Nat) : M Fl := fun env st => match o with
  | some j => .ok .nx env (st.set n (.lst (ds.set j d)))
  | none => .bad
@[simp] theorem x_kIA4 {k : Int} : kIA4 n d (.int k) (some (.lst ds)) env st = kIA5 n ds d (ixN ds.length k) env st := rfl
@[simp] theorem x_kIA4b {k : Int} : kIA4 n d (.int k) (some (.dct kvs)) env st = if kvs.length < 16777216 then .ok .nx env (st.set n (.dct (ptK kvs (.inl k) d))) else .bad := rfl
@[simp] theorem x_kIA4c {k : Str} : kIA4 n d (.str k) (some (.dct kvs)) env st = if kvs.length < 16777216 then .ok .nx env (st.set n (.dct (ptK kvs (.inr k) d))) else .bad := rfl
@[simp] theorem x_kIA5 {j : Nat} : kIA5 n ds d (some j) env st = .ok .nx env (st.set n (.lst (ds.set j d))) := rfl
end
end VE
namespace VE
open PySem PySem.Spec PyProof.Rows L2
section
variable {fa : M D} {env : EnvD} {st : Sto} {ds : List D}
def kEnA : D → M (List D) := fun d env st => match d with
  | .lst xs => .ok (enuD 0 xs) env st
  | .tup xs => .ok (enuD 0 xs) env st
  | _ => .bad
@[simp] theorem x_iEnA : iEnA fa env st = (fa env st).bind kEnA := rfl
@[simp] theorem x_kEnA1 : kEnA (.lst ds) env st = .ok (enuD 0 ds) env st := rfl
@[simp] theorem x_kEnA2 : kEnA (.tup ds) env st = .ok (enuD 0 ds) env st := rfl
end
section
variable {α β : Type} {t : D → EnvD → Option EnvD} {ws : List Nat} {tt : M Bool} {fe : M D} {g : α → D} {st : Sto}
theorem comp_go {p : α → Bool} {f : α → D} {E0 : EnvD} : ∀ (xs : List α) (acc : List D) (env : EnvD), wipeD ws env = E0 → (∀ a ∈ xs, ∃ e1, t (g a) E0 = some e1 ∧ ∃ e2, tt e1 st = .ok (p a) e2 st ∧ wipeD ws e2 = E0 ∧ (p a = true → ∃ e3, fe e2 st = .ok (f a) e3 st ∧ wipeD ws e3 = E0)) → acc.length + xs.length < 16777216 →
    compL t ws tt fe (xs.map g) acc env st = .ok (.lst (acc ++ (xs.filter p).map f)) E0 st
  | [], acc, env, h0, _, _ => by simp [compL, h0]
  | a :: xs, acc, env, h0, h, hl => by
    obtain ⟨e1, h1, e2, h2, h3, h4⟩ := h a List.mem_cons_self
    have h' := fun b hb => h b (List.mem_cons_of_mem a hb)
    simp only [List.length_cons] at hl
    rw [List.map_cons]
    unfold compL
    rw [h0, h1]
    dsimp only
    rw [h2]
    cases hp : p a with
    | false =>
      dsimp only
      rw [comp_go xs acc e2 h3 h' (by omega), List.filter_cons_of_neg (by rw [hp]; decide)]
    | true =>
      obtain ⟨e3, h5, h6⟩ := h4 hp
      dsimp only
      rw [h5]
      dsimp only
      rw [if_pos (by omega), comp_go xs (acc ++ [f a]) e3 h6 h' (by simp; omega), List.filter_cons_of_pos hp]
      simp
theorem comp_map (p : α → Bool) (f : α → D) {xs : List α} {env : EnvD} (hl : xs.length < 16777216) (h : ∀ a ∈ xs, ∃ e1, t (g a) (wipeD ws env) = some e1 ∧ ∃ e2, tt e1 st = .ok (p a) e2 st ∧ wipeD ws e2 = wipeD ws env ∧ (p a = true → ∃ e3, fe e2 st = .ok (f a) e3 st ∧ wipeD ws e3 = wipeD ws env)) :
    compL t ws tt fe (xs.map g) [] env st = .ok (.lst ((xs.filter p).map f)) (wipeD ws env) st := by
  rw [comp_go (p := p) (f := f) xs [] env rfl h (by simpa using hl)]; rfl
theorem comp_all (f : α → D) {xs : List α} {env : EnvD} (hl : xs.length < 16777216) (h : ∀ a ∈ xs, ∃ e1, t (g a) (wipeD ws env) = some e1 ∧ ∃ e3, fe e1 st = .ok (f a) e3 st ∧ wipeD ws e1 = wipeD ws env ∧ wipeD ws e3 = wipeD ws env) :
    compL t ws bYes fe (xs.map g) [] env st = .ok (.lst (xs.map f)) (wipeD ws env) st := by
  rw [comp_map (p := fun _ => true) (f := f) hl]
  · rw [List.filter_eq_self.mpr fun _ _ => rfl]
  · intro a ha
    obtain ⟨e1, h1, e3, h2, h3, h4⟩ := h a ha
    exact ⟨e1, h1, e1, rfl, h3, fun _ => ⟨e3, h2, h4⟩⟩
/-- a loop that folds a state -/
theorem for_fold {σ : Type} {body : M Fl} (E : σ → EnvD) (step : σ → α → σ) : ∀ (xs : List α) (s : σ), (∀ s, ∀ a ∈ xs, ∃ e1, t (g a) (E s) = some e1 ∧ ∃ e2, body e1 st = .ok .nx e2 st ∧ wipeD ws e2 = E (step s a)) →
    forL t ws body (xs.map g) (E s) st = .ok .nx (E (xs.foldl step s)) st
  | [], s, _ => rfl
  | a :: xs, s, h => by
    obtain ⟨e1, h1, e2, h2, h3⟩ := h s a List.mem_cons_self
    rw [List.map_cons]
    unfold forL
    rw [h1]
    dsimp only
    rw [h2, R.bind_ok]
    dsimp only
    rw [h3, for_fold E step xs (step s a) fun s b hb => h s b (List.mem_cons_of_mem a hb)]
    rfl
/-- a loop that looks for an item to return at -/
theorem for_find {body : M Fl} {E0 : EnvD} (p : α → Option D) : ∀ (xs : List α), (∀ a ∈ xs, ∃ e1, t (g a) E0 = some e1 ∧ ∃ e2, body e1 st = (match p a with | none => .ok .nx e2 st | some d => .ok (.rt d) e2 st) ∧ (p a = none → wipeD ws e2 = E0)) →
    ∃ e', forL t ws body (xs.map g) E0 st = (match xs.findSome? p with | none => .ok .nx E0 st | some d => .ok (.rt d) e' st)
  | [], _ => ⟨E0, rfl⟩
  | a :: xs, h => by
    obtain ⟨e1, h1, e2, h2, h3⟩ := h a List.mem_cons_self
    obtain ⟨e', ih⟩ := for_find p xs fun b hb => h b (List.mem_cons_of_mem a hb)
    rw [List.map_cons, List.findSome?_cons]
    unfold forL
    rw [h1]
    dsimp only
    rw [h2]
    cases hp : p a with
    | none =>
      dsimp only
      rw [R.bind_ok]
      dsimp only
      rw [h3 hp]
      exact ⟨e', ih⟩
    | some d => exact ⟨e2, rfl⟩
theorem enu_map : ∀ (i : Nat) (xs : List α), enuD i (xs.map g) = (xs.zipIdx i).map fun p => .tup [.int (p.2 : Nat), g p.1]
  | _, [] => rfl
  | i, x :: xs => by simp [enuD, enu_map (i + 1) xs]
theorem zip_map {β : Type} {h : β → D} : ∀ (xs : List α) (ys : List β), zipD (xs.map g) (ys.map h) = (xs.zip ys).map fun p => .tup [g p.1, h p.2]
  | [], _ => by simp [zipD]
  | _ :: _, [] => by simp [zipD]
  | x :: xs, y :: ys => by
    have := zip_map (h := h) xs ys
    simp only [zipD, List.map_cons, List.zipWith_cons_cons, List.zip_cons_cons] at this ⊢
    rw [this]
end
end VE
namespace VE
open PySem PySem.Spec PyProof.Rows L2
section
variable {env : EnvD} {st : Sto} {xs ys : List D} {fs : M (List D)}
def kLR (d : D) : M D := fun env st => match d with
  | .int j => if decide (0 ≤ j) && decide (j ≤ 16777216) then .ok (.lst (rngD 0 j.toNat)) env st else .bad
  | _ => .bad
@[simp] theorem x_eListR {fa : M D} : eListR fa env st = (fa env st).bind kLR := rfl
@[simp] theorem x_kLR {j : Int} : kLR (.int j) env st = if decide (0 ≤ j) && decide (j ≤ 16777216) then .ok (.lst (rngD 0 j.toNat)) env st else .bad := rfl
end
end VE
namespace VE
open PySem PySem.Spec PyProof.Rows L2
section
variable {α : Type} {f fo fi fd fe : M D} {g : M α} {d x y k r : D} {ds : List D} {n i : Nat} {env : EnvD} {st : Sto} {cl : Cell} {es : List (D × D)} {o : Option D}
def kCF : D → M D := fun d env st => match d with
  | .lst ds => .ok (.ref st.length) env (st ++ [.lst ds])
  | _ => .bad
@[simp] theorem x_eCellF : eCellF f env st = (f env st).bind kCF := rfl
@[simp] theorem x_kCF : kCF (.lst ds) env st = .ok (.ref st.length) env (st ++ [.lst ds]) := rfl
end
end VE
namespace VE
open PySem PySem.Spec PyProof.Rows L2
section
variable {f fo fa fb fk : M D} {fs : M (List D)} {g : M Fl} {me mx mf : FM} {n n' m : Str} {d x y k r : D} {ds vs : List D} {i q np : Nat} {env : EnvD} {st st' : Sto} {cl : Cell} {kvs : List (Key × D)} {ky : Key} {fl : List (Str × D)} {x' : Exn}
end
end VE
namespace VE
open PySem PySem.Spec PyProof.Rows L2
variable [VEnv]
/-- a constant that is a tuple of ints, of texts -/
theorem ConstV.tupI {K : PySem.W.Frag} {mg : Str → Option Value} {n : Str} {a : Addr} {dd : Option Addr} {its : Array Value} {k : Nat} {sl : Array (Option Value)} {ns : List Int} (h : mg n = some (.ref a)) (hl : K.lookup a = some ⟨.type "tuple", dd, .seq its k, sl⟩) (hv : IntsAre its.toList ns) (hz : its.size ≤ sizeLine) : ConstV K mg n (.tup (ns.map .int)) :=
  ⟨_, .ref a, h, rfl, fun F c H => .tup (xs := ns.map V.int) (.inr ⟨_, its, k, hl, rfl, rfl, hz, vals_of_ints hv⟩) (by
    clear hv
    induction ns with
    | nil => exact .nil
    | cons x ns ih => exact .cons (.int x) ih)⟩
/-- the law's promise: a list of ints is handed in, True comes out -/
def spLaw (K : PySem.W.Frag) : Sp := fun vs H Q _ => ∃ (a : Addr) (ns : List Int), vs = [.ref a] ∧ SqL K H a (ns.map V.int) ∧ ns.length ≤ 63 ∧ (∀ p ∈ VEnv.T, H p.1 = some (.tbl #[])) ∧ ∀ H', Q (.bl true) H'
omit [VEnv] in
theorem cx_none {P : Program} {w : World} {H : Hp} {s : Shared} {e : Value} {s' : Shared} (h : L2.CX P w [] H s (fun _ _ _ => False) e s') : False := let ⟨_, _, _, _, _, _, _, _, _, _, _, _, z⟩ := h; z
/-- the law's mirror gives True -/
def LawTrue (m : FM) : Prop := ∀ ns : List Int, ns.length ≤ 63 → ∃ st, m [.scr ns] [] = .ok (.bl true) st
end VE
namespace VE
open PySem PySem.Spec PyProof.Rows L2
/-- the table of a code object -/
theorem uniq_of {T : List (Addr × Str)} {P : Addr} {q : Str} (h : (T.map (·.1)).Nodup) (hm : (P, q) ∈ T) : ∀ p ∈ T, p.1 = P → p.2 = q := by
  induction T with
  | nil => cases hm
  | cons x T ih =>
    rw [List.map_cons, List.nodup_cons] at h
    intro p hp e
    rcases List.mem_cons.mp hp with rfl | hp2
    · rcases List.mem_cons.mp hm with z | z
      · rw [← z]
      · exact absurd (List.mem_map.mpr ⟨_, z, e.symm⟩) h.1
    · rcases List.mem_cons.mp hm with z | z
      · subst z
        exact absurd (List.mem_map.mpr ⟨p, hp2, e⟩ : P ∈ T.map (·.1)) h.1
      · exact ih h.2 z p hp2 e
theorem law_endT [VEnv] {l : PySem.W.OpenLaw} {w : World} {K : PySem.W.Frag} {mg : Str → Option Value} {fa : Addr} {k : Nat} {x : Str} {m : FM} {h : Heap} (cs : List (Addr × Addr)) (hm : LawTrue m) (hcs : ∀ p ∈ VEnv.T, ∃ q ∈ cs, q.2 = p.1)
    (hT : ∀ p ∈ cs, h.get? p.2 = some { cls := .none, data := .fields #[] }) (nT : ∀ p ∈ cs, K.lookup p.2 = none) (C : ∀ p ∈ cs, PySem.W.CodeHd h p.1 p.2)
    (hF : ∃ fd : FuncData, (∀ (s : Shared) (v : Value), BindsTo s fd ⟨[v], []⟩ [(x, v)]) ∧ ∀ base : Heap, K.In base → base.Ns mainGlobals mg → (∀ p ∈ cs, LamX.TabB base mg p.1 p.2) → FnOk l.prog w K mg base (L2Z.CX l.prog w K) k fa fd [x] (spV K mg false 1 m)) :
    LamX.LawAtS l w K (L2.CX l.prog w) k 63 x mg fa h := by
  obtain ⟨fd, h1, h2⟩ := hF
  refine ⟨fd, cs, spLaw K, hT, nT, C, h1, fun H a ns hl _ hc hS => ⟨a, ns, rfl, hS, hl, fun p hp => ?_, fun _ => rfl⟩, fun base KB GB TB => L2Z.fnOk_toL <| (h2 base KB GB TB).imp fun vs H Q E q => ?_⟩
  · obtain ⟨q, hq, e⟩ := hcs p hp
    rw [← e]; exact hc q hq
  · obtain ⟨a, ns, rfl, hS, hl, hT, k⟩ := q
    obtain ⟨st, e⟩ := hm ns hl
    refine ⟨fun b => (∃ o, H b = some o) ∧ ∀ ps, H b ≠ some (.tbl ps), [], [.scr ns], [], ⟨fun _ h => h.1, rfl, List.nodup_nil, fun n _ _ h => by simp at h, (fun _ h => nomatch h), fun p hp => ⟨fun h => h.2 _ (hT p hp), fun h => (by simp at h), #[], hT p hp, True.intro, fun pos cv h => ?_⟩⟩, .cons (.scr ?_) .nil, rfl, ?_⟩
    · have z : codeAmong pos [] = some cv := h
      simp [codeAmong] at z
    · rcases hS with h | h
      · refine .inl ⟨?_, h⟩
        rcases h with h | ⟨o, h⟩
        · exact ⟨⟨_, h⟩, fun ps z => by rw [h] at z; cases z⟩
        · exact ⟨⟨_, h⟩, fun ps z => by rw [h] at z; cases z⟩
      · exact .inr h
    · rw [e]
      intro v F' c' H' _ _ _ rv
      cases (show Rp K mg F' c' H' v (.bl true) from rv)
      exact k H'
end VE
namespace VE
open PySem PySem.Spec PyProof.Rows L2
def TupC (K : PySem.W.Frag) (a : Addr) (p : List Value → Bool) : Prop := ∃ dd its k sl, K.lookup a = some ⟨.type "tuple", dd, .seq its k, sl⟩ ∧ p its.toList = true
theorem ConstV.tupIC [VEnv] {K : PySem.W.Frag} {mg : Str → Option Value} {n : Str} {a : Addr} {ns : List Int} (h : mg n = some (.ref a)) (hl : TupC K a fun vs => intsB vs ns) (hz : ns.length ≤ sizeLine) : ConstV K mg n (.tup (ns.map .int)) := by
  obtain ⟨dd, its, k, sl, h1, h2⟩ := hl
  have h3 := intsB_ok h2
  have e : its.toList.length = ns.length := h3.length
  exact ConstV.tupI h h1 h3 (by rw [← Array.length_toList, e]; exact hz)
end VE
namespace VP
open PySem PySem.Spec PyProof.Rows L2 VE
open SX (S S_len S_cat S_inj)
structure Rul where
  piece : Str
  low : Int
  high : Int
  modulus : Int
  rests : List Int
  kinds : List Str
structure Bok where
  kinds : List Str
  rules : List Rul
def Rul.d (r : Rul) : D := .obj "Rule" [.tup [.str r.piece, .int r.low, .int r.high, .int r.modulus, .tup (r.rests.map .int), .tup (r.kinds.map .str)]]
def Bok.d (b : Bok) : D := .obj "Book" [.tup [.tup (b.kinds.map .str), .tup (b.rules.map Rul.d)]]
def LASTn : Int := 999999999999999999999999999999
/-- a word: one to eight letters a to z -/
def WOk (w : Str) : Prop := ∃ L : List Nat, w = S L ∧ 1 ≤ L.length ∧ L.length ≤ 8 ∧ ∀ c ∈ L, 97 ≤ c ∧ c < 123
def ascI : List Int → Bool
  | [] => true
  | x :: xs => (xs.head?.all fun y => decide (x < y)) && ascI xs
def ascS : List Str → Bool
  | [] => true
  | x :: xs => (xs.head?.all fun y => ltS x y) && ascS xs
structure KOk (ks : List Str) : Prop where
  ne : ks ≠ []
  w : ∀ k ∈ ks, WOk k
  asc : ascS ks = true
  len : ks.length < 1000
structure RulOk (r : Rul) : Prop where
  piece : WOk r.piece
  low0 : 0 ≤ r.low
  low1 : r.low ≤ LASTn
  high0 : r.low ≤ r.high
  high1 : r.high ≤ LASTn
  mod : r.modulus ∈ [1, 2, 3, 4, 6, 12]
  rne : r.rests ≠ []
  rin : ∀ x ∈ r.rests, 0 ≤ x ∧ x < r.modulus
  rasc : ascI r.rests = true
  rlen : r.rests.length < 1000
  kinds : KOk r.kinds
structure BokOk (b : Bok) : Prop where
  kinds : KOk b.kinds
  klen : b.kinds.length ≤ 4
  rules : ∀ r ∈ b.rules, RulOk r
  rlen : b.rules.length ≤ 8
  sub : ∀ r ∈ b.rules, ∀ k ∈ r.kinds, k ∈ b.kinds
def fitsB (n : Int) (k : Str) (r : Rul) : Bool := decide (r.low ≤ n) && decide (n ≤ r.high) && decide (n % r.modulus ∈ r.rests) && r.kinds.any fun z => decide (z = k)
/-- the piece in which a row lies -/
def Bok.place (b : Bok) (n : Int) (k : Str) : Option Str := (b.rules.find? (fitsB n k)).map (·.piece)
theorem Rul.d_rf {n : Nat} {r : Rul} : rfB n r.d = true := by
  have h1 : rfBs n (r.rests.map D.int) = true := rfs_all fun x hx => by obtain ⟨y, _, rfl⟩ := List.mem_map.mp hx; exact rf_int
  have h2 : rfBs n (r.kinds.map D.str) = true := rfs_all fun x hx => by obtain ⟨y, _, rfl⟩ := List.mem_map.mp hx; exact rf_str
  simp [Rul.d, h1, h2]
theorem S_ok {L : List Nat} (h : ∀ c ∈ L, 97 ≤ c ∧ c < 123) : PyData.strOk (S L) = true := ok_S fun c hc => by have := h c hc; omega
theorem WOk.ok {w : Str} (h : WOk w) : PyData.strOk w = true := by
  obtain ⟨L, rfl, _, _, h⟩ := h
  exact S_ok h
theorem pl_strs {n : Nat} {ks : List Str} (h : ∀ k ∈ ks, PyData.strOk k = true) : plains n (ks.map .str) = true := by
  induction ks with
  | nil => simp
  | cons k ks ih => rw [List.map_cons, pls_cons, pl_str, h k List.mem_cons_self, ih fun k hk => h k (List.mem_cons_of_mem _ hk)]; rfl
theorem any_strs {x : Str} : ∀ {ks : List Str}, (ks.map D.str).any (fun z => eqD z (.str x)) = ks.any fun z => decide (z = x)
  | [] => rfl
  | k :: ks => by simp [any_strs]
theorem any_ints {x : Int} : ∀ {ks : List Int}, (ks.map D.int).any (fun z => eqD z (.int x)) = decide (x ∈ ks)
  | [] => by simp
  | k :: ks => by
    rw [List.map_cons, List.any_cons, any_ints, VE.eq_int]
    by_cases h : k = x
    · subst h; simp
    · have : ¬ x = k := fun z => h z.symm
      simp [h, this]
@[simp] theorem in_ints {neg : Bool} {x : Int} {ks : List Int} : inV neg (.int x) (.tup (ks.map .int)) = some (.bl (ng neg (decide (x ∈ ks)))) := by
  rw [inV_tup pl_int (by simp), any_ints]
@[simp] theorem in_intsL {neg : Bool} {x : Int} {ks : List Int} : inV neg (.int x) (.lst (ks.map .int)) = some (.bl (ng neg (decide (x ∈ ks)))) := by
  rw [inV_lst pl_int (by simp), any_ints]
theorem in_strs {neg : Bool} {x : Str} {ks : List Str} (hx : PyData.strOk x = true) (hk : ∀ k ∈ ks, PyData.strOk k = true) : inV neg (.str x) (.tup (ks.map .str)) = some (.bl (ng neg (ks.any fun z => decide (z = x)))) := by
  rw [inV_tup (by simpa using hx) (by simpa using pl_strs hk), any_strs]
@[simp] theorem toRF_nx {e : EnvD} {st : Sto} : toRF false (.ok .nx e st) = .ok .non st := rfl
@[simp] theorem toRF_rt {d : D} {e : EnvD} {st : Sto} : toRF false (.ok (.rt d) e st) = .ok d st := rfl
@[simp] theorem toRF_rf {fr : Bool} {d : D} {e : EnvD} {st : Sto} : toRF fr (.ok (.rf d) e st) = .ok d st := rfl
@[simp] theorem toRF_ex {fr : Bool} {x : Exn} {e : EnvD} {st : Sto} : toRF fr (.ex x e st) = .ex x st := rfl
@[simp] theorem toRF_bad {fr : Bool} : toRF fr .bad = .bad := rfl
theorem toF_def {fr : Bool} {n : Nat} {g : M Fl} {ds : List D} {st : Sto} : toF fr n g ds st = toRF fr (g (env0 n ds) st) := rfl
/-- a row's kind, a book's kinds -/
theorem KOk.ok {ks : List Str} (h : KOk ks) : ∀ k ∈ ks, PyData.strOk k = true := fun k hk => (h.w k hk).ok
theorem KOk.pl {ks : List Str} (h : KOk ks) {m : Nat} : plains m (ks.map .str) = true := pl_strs h.ok
theorem pls_map {α : Type} {f : α → D} {n : Nat} : ∀ {xs : List α}, (∀ x ∈ xs, plain n (f x) = true) → plains n (xs.map f) = true
  | [], _ => by simp
  | x :: xs, h => by rw [List.map_cons, pls_cons, h x List.mem_cons_self, pls_map fun y hy => h y (List.mem_cons_of_mem _ hy)]; rfl
@[simp] theorem pls_mapI {α : Type} {f : α → Int} {n : Nat} {xs : List α} : plains n (xs.map fun x => .int (f x)) = true := pls_map fun _ _ => pl_int
theorem atI_nat {α : Type} {xs : List α} {i : Nat} {x : α} (h : xs[i]? = some x) : atI xs (i : Int) = some x := by
  have hl := (List.getElem?_eq_some_iff.mp h).1
  rw [atI_pos (by omega) (by omega)]
  simpa using h
@[simp] theorem all_tt {α : Type} {xs : List α} : (xs.all fun _ => true) = true := by simp
section
variable {α : Type} {t : D → EnvD → Option EnvD} {ws : List Nat} {tt : M Bool} {fe : M D} {g : α → D}
/-- a comprehension of items that are drawn or not -/
theorem comp_draw {E0 : EnvD} (Ok : Sto → Prop) : ∀ (xs : List α) (acc : List D) (env : EnvD) (st : Sto), wipeD ws env = E0 → Ok st → acc.length + xs.length < 16777216 →
    (∀ a st, a ∈ xs → Ok st → ∃ e1, t (g a) E0 = some e1 ∧ ∃ b e2 st2, tt e1 st = .ok b e2 st2 ∧ Ok st2 ∧ wipeD ws e2 = E0 ∧ ∃ e3, fe e2 st2 = .ok (g a) e3 st2 ∧ wipeD ws e3 = E0) →
    ∃ (ys : List α) (st' : Sto), ys.Sublist xs ∧ Ok st' ∧ compL t ws tt fe (xs.map g) acc env st = .ok (.lst (acc ++ ys.map g)) E0 st'
  | [], acc, env, st, h0, hk, _, _ => ⟨[], st, .slnil, hk, by simp [compL, h0]⟩
  | a :: xs, acc, env, st, h0, hk, hl, h => by
    obtain ⟨e1, h1, b, e2, st2, h2, h3, h4, e3, h5, h6⟩ := h a st List.mem_cons_self hk
    have h' := fun b st hb => h b st (List.mem_cons_of_mem a hb)
    simp only [List.length_cons] at hl
    rw [List.map_cons]
    unfold compL
    rw [h0, h1]
    dsimp only
    rw [h2]
    cases b with
    | false =>
      obtain ⟨ys, st', k1, k2, k3⟩ := comp_draw Ok xs acc e2 st2 h4 h3 (by omega) h'
      exact ⟨ys, st', k1.cons _, k2, k3⟩
    | true =>
      obtain ⟨ys, st', k1, k2, k3⟩ := comp_draw Ok xs (acc ++ [g a]) e3 st2 h6 h3 (by simp; omega) h'
      refine ⟨a :: ys, st', k1.cons_cons _, k2, ?_⟩
      dsimp only
      rw [h5]
      dsimp only
      rw [if_pos (by omega), k3]
      simp
end
theorem ascI_sub : ∀ {xs ys : List Int}, ys.Sublist xs → xs.Pairwise (· < ·) → ascI ys = true := by
  have key : ∀ {ys : List Int}, ys.Pairwise (· < ·) → ascI ys = true := by
    intro ys h
    induction h with
    | nil => rfl
    | cons h t ih =>
      rename_i x xs
      simp only [ascI, ih, Bool.and_true]
      cases xs with
      | nil => rfl
      | cons y ys => simpa using h y List.mem_cons_self
  exact fun {_ _} s p => key (List.Pairwise.sublist s p)
theorem ascS_sub : ∀ {xs ys : List Str}, ys.Sublist xs → xs.Pairwise (fun x y => ltS x y = true) → ascS ys = true := by
  have key : ∀ {ys : List Str}, ys.Pairwise (fun x y => ltS x y = true) → ascS ys = true := by
    intro ys h
    induction h with
    | nil => rfl
    | cons h t ih =>
      rename_i x xs
      simp only [ascS, ih, Bool.and_true]
      cases xs with
      | nil => rfl
      | cons y ys => simpa using h y List.mem_cons_self
  exact fun {_ _} s p => key (List.Pairwise.sublist s p)
theorem rng_map {lo : Int} {n : Nat} : rngD lo n = ((List.range n).map fun i => lo + (i : Nat)).map .int := by
  unfold rngD; rw [List.map_map]; rfl
theorem rng_asc {lo : Int} {n : Nat} : ((List.range n).map fun i => lo + ((i : Nat) : Int)).Pairwise (· < ·) := by
  rw [List.pairwise_map]
  exact (List.pairwise_lt_range (n := n)).imp fun h => by omega
theorem sat_ex {r : RF} {P : D → Sto → Prop} (h : r.sat P nE) : ∃ d s, r = .ok d s ∧ P d s := by
  cases r with
  | ok d s => exact ⟨d, s, rfl, by simpa using h⟩
  | ex x s => exact (show False by simpa using h).elim
  | bad => simp at h
@[simp] theorem at01 {p : Prop} [Decidable p] {a b : Int} : atI [D.int a, D.int b] (if p then 1 else 0) = some (.int (if p then b else a)) := by
  by_cases h : p
  · rw [if_pos h, if_pos h]; rfl
  · rw [if_neg h, if_neg h]; rfl
end VP
namespace VP
open PySem PySem.Spec PyProof.Rows L2 VE
noncomputable section
def k_LAST : D := .int 999999999999999999999999999999
def k_LETTERS : D := .str ("abcdefghijklmnopqrstuvwxyz" : Str)
def k_MAX_KINDS : D := .int 4
def k_MAX_RULES : D := .int 8
def k_MAX_WORD : D := .int 8
def k_MODULI : D := .tup [(.int 1), (.int 2), (.int 3), (.int 4), (.int 6), (.int 12)]
abbrev xy_PieceError : List Str := ["InvalidBook", "InvalidRule"]
abbrev xn_PieceError : List Str := []
abbrev ix_InvalidBook : List (Str × Bool) := [("InvalidBook", true), ("InvalidRule", false)]
abbrev ix_InvalidNumber : List (Str × Bool) := [("InvalidBook", false), ("InvalidRule", false)]
abbrev ix_InvalidPiece : List (Str × Bool) := [("InvalidBook", false), ("InvalidRule", false)]
abbrev ix_InvalidQuestion : List (Str × Bool) := [("InvalidBook", false), ("InvalidRule", false)]
abbrev ix_InvalidRow : List (Str × Bool) := [("InvalidBook", false), ("InvalidRule", false)]
abbrev ix_InvalidRule : List (Str × Bool) := [("InvalidBook", false), ("InvalidRule", true)]
abbrev ix_TooMany : List (Str × Bool) := [("InvalidBook", false), ("InvalidRule", false)]
abbrev ix_UnknownPiece : List (Str × Bool) := [("InvalidBook", false), ("InvalidRule", false)]
abbrev ix_UnknownRule : List (Str × Bool) := [("InvalidBook", false), ("InvalidRule", false)]
abbrev ix_UnlikeBooks : List (Str × Bool) := [("InvalidBook", false), ("InvalidRule", false)]
abbrev ix_ValueError : List (Str × Bool) := [("InvalidBook", true), ("InvalidRule", true)]
abbrev xf_index : List Str := ["InvalidBook"]
abbrev xf_lot : List Str := []
abbrev xf_part : List Str := ["InvalidBook", "InvalidRule"]
def b_is_number : M Fl :=
  sRet (eAnd (eUn (isiD "int") (eVar 0)) (eAnd (eNot (eUn (isiD "bool") (eVar 0))) (eChain (fun i j => decide (i ≤ j)) (fun i j => decide (i ≤ j)) (eVar 1) (eVar 0) (eVar 2))))
def m_is_number : FM := toF false 3 b_is_number
def b_is_word : M Fl :=
  sRet (eAnd (eUn (isiD "str") (eVar 0)) (eAnd (eChain (fun i j => decide (i ≤ j)) (fun i j => decide (i ≤ j)) (eC (.int 1)) (eB1 lenD (eVar 0)) (eC k_MAX_WORD)) (eBlt (b1 allD) (eCons (eComp (iQ (eVar 0)) (gN 1) [1] (bYes) (eBin (inA false) (eVar 1) (eC k_LETTERS))) eNil))))
def m_is_word : FM := toF false 2 b_is_word
def b_ascend : M Fl :=
  sRet (eBlt (b1 allD) (eCons (eComp (iZip (eCons (eVar 0) (eCons (eSlA (eVar 0) (oSome (eC (.int 1))) (oNone)) eNil))) (gT 2 (gsC (gN 1) (gsC (gN 2) (gsN)))) [1, 2] (bYes) (eBin gLtA (eVar 1) (eVar 2))) eNil))
def m_ascend : FM := toF false 3 b_ascend
def b_Rule_piece : M Fl :=
  sRet (eBin ixA (eSlU "Rule" 0 (eVar 0)) (eC (.int 0)))
def m_Rule_piece : FM := toF false 1 b_Rule_piece
def b_Rule_low : M Fl :=
  sRet (eBin ixA (eSlU "Rule" 0 (eVar 0)) (eC (.int 1)))
def m_Rule_low : FM := toF false 1 b_Rule_low
def b_Rule_high : M Fl :=
  sRet (eBin ixA (eSlU "Rule" 0 (eVar 0)) (eC (.int 2)))
def m_Rule_high : FM := toF false 1 b_Rule_high
def b_Rule_modulus : M Fl :=
  sRet (eBin ixA (eSlU "Rule" 0 (eVar 0)) (eC (.int 3)))
def m_Rule_modulus : FM := toF false 1 b_Rule_modulus
def b_Rule_rests : M Fl :=
  sRet (eBin ixA (eSlU "Rule" 0 (eVar 0)) (eC (.int 4)))
def m_Rule_rests : FM := toF false 1 b_Rule_rests
def b_Rule_kinds : M Fl :=
  sRet (eBin ixA (eSlU "Rule" 0 (eVar 0)) (eC (.int 5)))
def m_Rule_kinds : FM := toF false 1 b_Rule_kinds
def b_Rule_eq : M Fl :=
  sRet (eAnd (eUn (isQ "Rule") (eVar 1)) (eBin (sv2 eqP) (eSlU "Rule" 0 (eVar 0)) (eSlU "Rule" 0 (eVar 1))))
def m_Rule_eq : FM := toF false 2 b_Rule_eq
def b_Book_kinds : M Fl :=
  sRet (eBin ixA (eSlU "Book" 0 (eVar 0)) (eC (.int 0)))
def m_Book_kinds : FM := toF false 1 b_Book_kinds
def b_Book_rules : M Fl :=
  sRet (eBin ixA (eSlU "Book" 0 (eVar 0)) (eC (.int 1)))
def m_Book_rules : FM := toF false 1 b_Book_rules
def b_law_taken : M Fl :=
  sSeq (sIf (eT (eBin gGtA (eBin ixA (eVar 0) (eC (.int 3))) (eC (.int 0))))
    (sSeq (sSet 2 (eBin (sc2 modI) (eBlt (b1 intD) (eCons (eBin ixA (eVar 0) (eC (.int 3))) eNil)) (eVar 1)))
    (sSeq (sItemA (eVar 0) (eC (.int 3)) (eBin (sc2 fdivI) (eBin ixA (eVar 0) (eC (.int 3))) (eVar 1)))
    (sRet (eVar 2))))
    (sNx))
    (sSeq (sItemA (eVar 0) (eC (.int 1)) (eBin (sv2 addA) (eBin ixA (eVar 0) (eC (.int 1))) (eC (.int 1))))
    (sSeq (sIf (eT (eBin gGtA (eBin ixA (eVar 0) (eC (.int 1))) (eB1 lenD (eBin ixA (eVar 0) (eC (.int 0))))))
    (sSeq (sItemA (eVar 0) (eC (.int 2)) (eBin (sc2 modI) (eBlt (b1 intD) (eCons (eBin (sv2 addA) (eBin (sc2 mulI) (eBin ixA (eVar 0) (eC (.int 2))) (eC (.int 48271))) (eC (.int 11))) eNil)) (eC (.int 2147483647))))
    (sRet (eBin (sc2 modI) (eBlt (b1 intD) (eCons (eBin (sc2 fdivI) (eBin ixA (eVar 0) (eC (.int 2))) (eC (.int 7))) eNil)) (eVar 1))))
    (sNx))
    (sSeq (sSet 3 (eBin ixA (eBin ixA (eVar 0) (eC (.int 0))) (eBin (sc2 subI) (eBin ixA (eVar 0) (eC (.int 1))) (eC (.int 1)))))
    (sSeq (sItemA (eVar 0) (eC (.int 2)) (eBin (sc2 modI) (eBlt (b1 intD) (eCons (eBin (sv2 addA) (eBin (sv2 addA) (eBin (sc2 mulI) (eBin ixA (eVar 0) (eC (.int 2))) (eC (.int 48271))) (eVar 3)) (eC (.int 11))) eNil)) (eC (.int 2147483647))))
    (sSeq (sItemA (eVar 0) (eC (.int 3)) (eIf (eT (eBin gGeA (eVar 3) (eBin (sc2 powI) (eC (.int 10)) (eC (.int 18))))) (eBin (sc2 fdivI) (eVar 3) (eVar 1)) (eC (.int 0))))
    (sRet (eBin (sc2 modI) (eBlt (b1 intD) (eCons (eVar 3) eNil)) (eVar 1))))))))
def m_law_taken : FM := toF false 4 b_law_taken
def b_are_kinds : M Fl :=
  sRet (eAnd (eBin (sv2 neP) (eVar 0) (eTup (eNil))) (eAnd (eBlt (b1 allD) (eCons (eComp (iQ (eVar 0)) (gN 1) [1] (bYes) (eCall m_is_word 1 (eCons (eVar 1) (eNil)))) eNil)) (eCall m_ascend 1 (eCons (eVar 0) (eNil)))))
def m_are_kinds : FM := toF false 2 b_are_kinds
def b_are_rests : M Fl :=
  sRet (eAnd (eBin (sv2 neP) (eVar 1) (eTup (eNil))) (eAnd (eBlt (b1 allD) (eCons (eComp (iQ (eVar 1)) (gN 2) [2] (bYes) (eCall m_is_number 3 (eCons (eVar 2) (eCons (eC (.int 0)) (eCons (eBin (sc2 subI) (eVar 0) (eC (.int 1))) (eNil)))))) eNil)) (eCall m_ascend 1 (eCons (eVar 1) (eNil)))))
def m_are_rests : FM := toF false 3 b_are_rests
def b_law_pick : M Fl :=
  sRet (eBin ixA (eVar 1) (eCall m_law_taken 2 (eCons (eVar 0) (eCons (eB1 lenD (eVar 1)) (eNil)))))
def m_law_pick : FM := toF false 2 b_law_pick
def b_law_kinds : M Fl :=
  sRet (eB1 tupD (eSlA (eLst (eCons (eC (.str ("cup" : Str))) (eCons (eC (.str ("dish" : Str))) (eCons (eC (.str ("pan" : Str))) (eCons (eC (.str ("pot" : Str))) (eNil)))))) (oNone) (oSome (eBin (sv2 addA) (eC (.int 1)) (eCall m_law_taken 2 (eCons (eVar 0) (eCons (eC (.int 4)) (eNil))))))))
def m_law_kinds : FM := toF false 1 b_law_kinds
def b_Rule_init : M Fl :=
  sSeq (sIf (bNot (eT (eCall m_is_word 1 (eCons (eVar 1) (eNil)))))
    (sRaiseI "InvalidRule" ["part"] (eCons (eC (.str ("piece" : Str))) (eNil)))
    (sNx))
    (sSeq (sIf (bNot (eT (eCall m_is_number 3 (eCons (eVar 2) (eCons (eC (.int 0)) (eCons (eC k_LAST) (eNil)))))))
    (sRaiseI "InvalidRule" ["part"] (eCons (eC (.str ("low" : Str))) (eNil)))
    (sNx))
    (sSeq (sIf (bNot (eT (eCall m_is_number 3 (eCons (eVar 3) (eCons (eVar 2) (eCons (eC k_LAST) (eNil)))))))
    (sRaiseI "InvalidRule" ["part"] (eCons (eC (.str ("high" : Str))) (eNil)))
    (sNx))
    (sSeq (sIf (bOr (eT (eUn (isiD "bool") (eVar 4))) (eT (eBin (inA true) (eVar 4) (eC k_MODULI))))
    (sRaiseI "InvalidRule" ["part"] (eCons (eC (.str ("modulus" : Str))) (eNil)))
    (sNx))
    (sSeq (sIf (bNot (eT (eCall m_are_rests 2 (eCons (eVar 4) (eCons (eVar 5) (eNil))))))
    (sRaiseI "InvalidRule" ["part"] (eCons (eC (.str ("rests" : Str))) (eNil)))
    (sNx))
    (sSeq (sIf (bNot (eT (eCall m_are_kinds 1 (eCons (eVar 6) (eNil)))))
    (sRaiseI "InvalidRule" ["part"] (eCons (eC (.str ("kinds" : Str))) (eNil)))
    (sNx))
    (sSlot "Rule" 0 (eVar 0) (eTup (eCons (eVar 1) (eCons (eVar 2) (eCons (eVar 3) (eCons (eVar 4) (eCons (eVar 5) (eCons (eVar 6) (eNil))))))))))))))
def m_Rule_init : FM := toF false 7 b_Rule_init
def b_check_kinds : M Fl :=
  sSeq (sFor (iEnA (eVar 0)) (gT 2 (gsC (gN 1) (gsC (gN 2) (gsN)))) [1, 2]
    (sIf (bOr (eT (eBin (sv2 eqP) (eVar 1) (eC k_MAX_KINDS))) (bOr (bNot (eT (eCall m_is_word 1 (eCons (eVar 2) (eNil))))) (bAnd (eT (eBin gGtA (eVar 1) (eC (.int 0)))) (eT (eBin gLeA (eVar 2) (eBin ixA (eVar 0) (eBin (sc2 subI) (eVar 1) (eC (.int 1)))))))))
    (sRaiseI "InvalidBook" ["part", "index"] (eCons (eC (.str ("kinds" : Str))) (eCons (eVar 1) (eNil))))
    (sNx)))
    (sIf (eT (eBin (sv2 eqP) (eVar 0) (eTup (eNil))))
    (sRaiseI "InvalidBook" ["part", "index"] (eCons (eC (.str ("kinds" : Str))) (eCons (eC (.int 0)) (eNil))))
    (sNx))
def m_check_kinds : FM := toF false 3 b_check_kinds
def b_Book_pieces : M Fl :=
  sRet (eBlt (b1 ssetD) (eCons (eComp (iQ (ePrU "Book" m_Book_rules (eVar 0))) (gN 1) [1] (bYes) (ePrU "Rule" m_Rule_piece (eVar 1))) eNil))
def m_Book_pieces : FM := toF false 2 b_Book_pieces
def b_Book_len : M Fl :=
  sRet (eB1 lenD (ePrU "Book" m_Book_rules (eVar 0)))
def m_Book_len : FM := toF false 1 b_Book_len
def b_law_some : M Fl :=
  sSeq (sSet 2 (eB1 tupD (eComp (iQ (eVar 1)) (gN 3) [3] (eT (eBin (sv2 eqP) (eCall m_law_taken 2 (eCons (eVar 0) (eCons (eC (.int 2)) (eNil)))) (eC (.int 0)))) (eVar 3))))
    (sRet (eIf (eT (eBin (sv2 neP) (eVar 2) (eTup (eNil)))) (eVar 2) (eTup (eCons (eCall m_law_pick 2 (eCons (eVar 0) (eCons (eBlt (b1 listD) (eCons (eVar 1) eNil)) (eNil)))) (eNil)))))
def m_law_some : FM := toF false 4 b_law_some
def b_Book_init : M Fl :=
  sSeq (sExpr (eCall m_check_kinds 1 (eCons (eVar 1) (eNil))))
    (sSeq (sFor (iEnA (eVar 2)) (gT 2 (gsC (gN 3) (gsC (gN 4) (gsN)))) [3, 4, 5]
    (sIf (bOr (eT (eBin (sv2 eqP) (eVar 3) (eC k_MAX_RULES))) (bNot (eT (eBlt (b1 allD) (eCons (eComp (iQ (ePrU "Rule" m_Rule_kinds (eVar 4))) (gN 5) [5] (bYes) (eBin (inA false) (eVar 5) (eVar 1))) eNil)))))
    (sRaiseI "InvalidBook" ["part", "index"] (eCons (eC (.str ("rules" : Str))) (eCons (eVar 3) (eNil))))
    (sNx)))
    (sSlot "Book" 0 (eVar 0) (eTup (eCons (eVar 1) (eCons (eVar 2) (eNil))))))
def m_Book_init : FM := toF false 6 b_Book_init
def b_law_rule : M Fl :=
  sSeq (sSet 3 (eCall m_law_taken 2 (eCons (eVar 0) (eCons (eVar 2) (eNil)))))
    (sSeq (sSet 4 (eBin (sv2 addA) (eVar 3) (eCall m_law_taken 2 (eCons (eVar 0) (eCons (eCall m_law_pick 2 (eCons (eVar 0) (eCons (eLst (eCons (eBin (sc2 subI) (eVar 2) (eVar 3)) (eCons (eBin (sv2 addA) (eC (.int 1)) (eBin (sc2 fdivI) (eBin (sc2 subI) (eVar 2) (eVar 3)) (eC (.int 3)))) (eNil)))) (eNil)))) (eNil))))))
    (sSeq (sSet 5 (eCall m_law_pick 2 (eCons (eVar 0) (eCons (eLst (eCons (eC (.int 1)) (eCons (eC (.int 1)) (eCons (eC (.int 2)) (eCons (eC (.int 3)) (eCons (eC (.int 4)) (eCons (eC (.int 6)) (eCons (eC (.int 12)) (eNil))))))))) (eNil)))))
    (sSeq (sSet 6 (eCall m_law_some 2 (eCons (eVar 0) (eCons (eListR (eVar 5)) (eNil)))))
    (sRet (eTup (eCons (eCall m_law_pick 2 (eCons (eVar 0) (eCons (eLst (eCons (eC (.str ("ant" : Str))) (eCons (eC (.str ("bee" : Str))) (eCons (eC (.str ("cat" : Str))) (eCons (eC (.str ("doe" : Str))) (eNil)))))) (eNil)))) (eCons (eVar 3) (eCons (eVar 4) (eCons (eVar 5) (eCons (eVar 6) (eCons (eCall m_law_some 2 (eCons (eVar 0) (eCons (eVar 1) (eNil)))) (eNil))))))))))))
def m_law_rule : FM := toF false 7 b_law_rule
def b_Book_eq : M Fl :=
  sRet (eAnd (eUn (isQ "Book") (eVar 1)) (eBin (sc2 (eqF "Rule" m_Rule_eq)) (eSlU "Book" 0 (eVar 0)) (eTup (eCons (ePrU "Book" m_Book_kinds (eVar 1)) (eCons (ePrU "Book" m_Book_rules (eVar 1)) (eNil))))))
def m_Book_eq : FM := toF false 2 b_Book_eq
def b_lam_law_0 : M D :=
  eMakeZ "Rule" m_Rule_init 7 (eCons (eBin ixA (eVar 0) (eC (.int 0))) (eCons (eBin ixA (eVar 0) (eC (.int 1))) (eCons (eBin ixA (eVar 0) (eC (.int 2))) (eCons (eBin ixA (eVar 0) (eC (.int 3))) (eCons (eBin ixA (eVar 0) (eC (.int 4))) (eCons (eBin ixA (eVar 0) (eC (.int 5))) (eNil)))))))
def m_lam_law_0 : List (Option D) → FM := toLam 1 b_lam_law_0
def b_law_book : M Fl :=
  sSeq (sSetF 2 (eLst (eNil)))
    (sSeq (sFor (iQ (eVar 1)) (gN 3) [3]
    (sApp 2 appD (eMakeZ "Rule" m_Rule_init 7 (eCons (eBin ixA (eVar 3) (eC (.int 0))) (eCons (eBin ixA (eVar 3) (eC (.int 1))) (eCons (eBin ixA (eVar 3) (eC (.int 2))) (eCons (eBin ixA (eVar 3) (eC (.int 3))) (eCons (eBin ixA (eVar 3) (eC (.int 4))) (eCons (eBin ixA (eVar 3) (eC (.int 5))) (eNil))))))))))
    (sRet (eMakeZ "Book" m_Book_init 3 (eCons (eVar 0) (eCons (eB1 tupD (eVar 2)) (eNil))))))
def m_law_book : FM := toF false 4 b_law_book
def b_law_is_told : M Fl :=
  sSeq (sSet 2 (eCall m_law_book 2 (eCons (eVar 0) (eCons (eVar 1) (eNil)))))
    (sSeq (sSet 3 (eComp (iQ (ePrU "Book" m_Book_rules (eVar 2))) (gN 4) [4] (bYes) (eTup (eCons (ePrU "Rule" m_Rule_piece (eVar 4)) (eCons (ePrU "Rule" m_Rule_low (eVar 4)) (eCons (ePrU "Rule" m_Rule_high (eVar 4)) (eCons (ePrU "Rule" m_Rule_modulus (eVar 4)) (eCons (ePrU "Rule" m_Rule_rests (eVar 4)) (eCons (ePrU "Rule" m_Rule_kinds (eVar 4)) (eNil))))))))))
    (sSeq (sIf (eT (eBin (sv2 neP) (eTup (eCons (ePrU "Book" m_Book_kinds (eVar 2)) (eCons (eVar 3) (eCons (eLnO "Book" m_Book_len (eVar 2)) (eNil))))) (eTup (eCons (eVar 0) (eCons (eVar 1) (eCons (eB1 lenD (eVar 1)) (eNil)))))))
    (sRet (eC (.bl false)))
    (sNx))
    (sSeq (sIf (eT (eBin (cmpX "Book" m_Book_eq false) (eVar 2) (eCall m_law_book 2 (eCons (eVar 0) (eCons (eVar 1) (eNil))))))
    (sRet (eC (.bl false)))
    (sNx))
    (sSeq (sIf (bOr (eT (eBin (sv2 neP) (ePrU "Book" m_Book_pieces (eVar 2)) (eBlt (b1 ssetD) (eCons (eComp (iQ (eVar 1)) (gN 5) [5] (bYes) (eBin ixA (eVar 5) (eC (.int 0)))) eNil)))) (eT (eBin (cmpX "Book" m_Book_eq true) (eVar 2) (eVar 0))))
    (sRet (eC (.bl false)))
    (sNx))
    (sSeq (sIf (eT (eBin (sv2 neP) (eBin (cmpX "Book" m_Book_eq true) (eVar 2) (eCall m_law_book 2 (eCons (eVar 0) (eCons (eUn revD (eVar 1)) (eNil))))) (eBin (sv2 eqP) (eVar 1) (eUn revD (eVar 1)))))
    (sRet (eC (.bl false)))
    (sNx))
    (sRet (eOr (eBin (sv2 eqP) (eVar 1) (eLst (eNil))) (eAnd (eBin (cmpX "Rule" m_Rule_eq false) (eBin ixA (ePrU "Book" m_Book_rules (eVar 2)) (eC (.int 0))) (eBin ixA (eVar 1) (eC (.int 0)))) (eBin (cmpX "Book" m_Book_eq false) (eVar 2) (eCall m_law_book 2 (eCons (eVar 0) (eCons (eSlA (eVar 1) (oSome (eC (.int 1))) (oNone)) (eNil)))))))))))))
def m_law_is_told : FM := toF false 6 b_law_is_told
def b_lam_law_1 : M D :=
  eCall m_law_book 2 (eCons (eVar 0) (eCons (eVar 1) (eNil)))
def m_lam_law_1 : List (Option D) → FM := toLam 2 b_lam_law_1
def b_lam_law_2 : M D :=
  eCall m_law_book 2 (eCons (eBin ixA (eVar 0) (eC (.int 0))) (eCons (eSlA (eVar 1) (oNone) (oSome (eC (.int 0)))) (eNil)))
def m_lam_law_2 : List (Option D) → FM := toLam 2 b_lam_law_2
def G_law_raised : Nat → LamM
  | 0 => ⟨["_law_part"], 0, m_lam_law_0⟩
  | 1 => ⟨["_law_few", "_law_rules"], 0, m_lam_law_1⟩
  | 2 => ⟨["_law_wrong", "_law_rules"], 0, m_lam_law_2⟩
  | _ => LamM.bad
def b_law_raised : M Fl :=
  sSeq (sTryA (sExpr (callP G_law_raised 0 4 eNil))
    (((xy_PieceError, xn_PieceError), .nm 1 fun xi => sSeq (sSetF 2 (eLst (eCons (eIsX 1 xi ix_InvalidRule) (eCons (eIsX 1 xi ix_InvalidBook) (eCons (eIsX 1 xi ix_InvalidQuestion) (eNil))))))
    (sSeq (sSetF 2 (eBin (sc2 catL) (eVar 2) (eLst (eCons (eIsX 1 xi ix_InvalidRow) (eCons (eIsX 1 xi ix_UnknownPiece) (eCons (eIsX 1 xi ix_InvalidNumber) (eNil)))))))
    (sSeq (sSetF 2 (eBin (sc2 catL) (eVar 2) (eLst (eCons (eIsX 1 xi ix_UnlikeBooks) (eCons (eIsX 1 xi ix_InvalidPiece) (eCons (eIsX 1 xi ix_TooMany) (eNil)))))))
    (sSeq (sApp 2 appD (eIsX 1 xi ix_UnknownRule))
    (sSeq (sIf (bOr (eT (eBin (sv2 neP) (eCnt (eVar 2) (eC (.bl true))) (eC (.int 1)))) (bNot (eT (eIsX 1 xi ix_ValueError))))
    (sRet (eTup (eCons (eC (.str ("other" : Str))) (eNil))))
    (sNx))
    (sSeq (sSet 3 (eIdx (eVar 2) (eC (.bl true))))
    (sSeq (sIf (eT (eBin (sv2 eqP) (eVar 3) (eC (.int 0))))
    (sRet (eTup (eCons (eC (.str ("rule" : Str))) (eCons (eXf 1 xi xf_part "part") (eNil)))))
    (sNx))
    (sSeq (sIf (eT (eBin gLtA (eVar 3) (eC (.int 3))))
    (sRet (eIf (eT (eBin (sv2 eqP) (eVar 3) (eC (.int 1)))) (eTup (eCons (eC (.str ("book" : Str))) (eCons (eXf 1 xi xf_part "part") (eCons (eXf 1 xi xf_index "index") (eNil))))) (eTup (eCons (eC (.str ("question" : Str))) (eCons (eXf 1 xi xf_lot "lot") (eCons (eXf 1 xi xf_index "index") (eNil)))))))
    (sNx))
    (sRet (eTup (eCons (eBin (sc2 ixD) (eLst (eCons (eC (.str ("row" : Str))) (eCons (eC (.str ("unknown" : Str))) (eCons (eC (.str ("number" : Str))) (eCons (eC (.str ("unlike" : Str))) (eCons (eC (.str ("piece" : Str))) (eCons (eC (.str ("many" : Str))) (eCons (eC (.str ("norule" : Str))) (eNil))))))))) (eBin (sc2 subI) (eVar 3) (eC (.int 3)))) (eNil)))))))))))) :: []))
    (sRet (eC .non))
def m_law_raised : FMG := toFG false 5 b_law_raised
def b_law_L1 (cells : List (Str × Addr)) : M Fl :=
  sItemA (eVar 3) (eVar 6) (eCall m_law_pick 2 (eCons (eVar 1) (eCons (eBin ixA (eVar 4) (eVar 6)) (eNil))))
def b_law_T18 (cells : List (Str × Addr)) : M Fl :=
  sRet (eOr (eBin (sc2 (isN true)) (eVar 8) (eC .non)) (eCall m_law_is_told 2 (eCons (eVar 10) (eCons (eVar 9) (eNil)))))
def b_law_T17 (cells : List (Str × Addr)) : M Fl :=
  sSeq (sIf (eT (eBin (sv2 neP) (eCallH m_law_raised 1 cells [(("_law_part" : Str), 3), (("_law_few" : Str), 10), (("_law_rules" : Str), 9), (("_law_wrong" : Str), 11)] (eCons (eFn 2 cells) (eNil))) (eTup (eCons (eC (.str ("book" : Str))) (eCons (eC (.str ("kinds" : Str))) (eCons (eBin ixA (eVar 11) (eC (.int 1))) (eNil)))))))
    (sRet (eC (.bl false)))
    (sNx))
    (b_law_T18 cells)
def b_law_T16 (cells : List (Str × Addr)) : M Fl :=
  sSeq (sSet 11 (eCall m_law_pick 2 (eCons (eVar 1) (eCons (eVar 11) (eNil)))))
    (b_law_T17 cells)
def b_law_T15 (cells : List (Str × Addr)) : M Fl :=
  sSeq (sSet 11 (eLst (eCons (eTup (eCons (eTup (eCons (eC (.str ("pot" : Str))) (eCons (eC (.str ("cup" : Str))) (eNil)))) (eCons (eC (.int 1)) (eNil)))) (eCons (eTup (eCons (eTup (eCons (eC (.str ("cup" : Str))) (eCons (eC (.str ("" : Str))) (eNil)))) (eCons (eC (.int 1)) (eNil)))) (eCons (eTup (eCons (eTup (eCons (eC (.str ("a" : Str))) (eCons (eC (.str ("b" : Str))) (eCons (eC (.str ("c" : Str))) (eCons (eC (.str ("d" : Str))) (eCons (eC (.str ("e" : Str))) (eNil))))))) (eCons (eC (.int 4)) (eNil)))) (eCons (eTup (eCons (eTup (eCons (eC (.str ("cup" : Str))) (eCons (eC (.str ("cup" : Str))) (eNil)))) (eCons (eC (.int 1)) (eNil)))) (eNil)))))))
    (b_law_T16 cells)
def b_law_T14 (cells : List (Str × Addr)) : M Fl :=
  sSeq (sIf (eT (eBin (sv2 neP) (eCallH m_law_raised 1 cells [(("_law_part" : Str), 3), (("_law_few" : Str), 10), (("_law_rules" : Str), 9), (("_law_wrong" : Str), 11)] (eCons (eFn 1 cells) (eNil))) (eVar 8)))
    (sRet (eC (.bl false)))
    (sNx))
    (b_law_T15 cells)
def b_law_T13 (cells : List (Str × Addr)) : M Fl :=
  sSeq (sIf (eT (eBin (sv2 eqP) (eCall m_law_taken 2 (eCons (eVar 1) (eCons (eC (.int 3)) (eNil)))) (eC (.int 0))))
    (sSeq (sSet 10 (eSlA (eVar 2) (oNone) (oSome (eCall m_law_taken 2 (eCons (eVar 1) (eCons (eBin (sv2 addA) (eB1 lenD (eVar 2)) (eC (.int 1))) (eNil)))))))
    (sSeq (sSet 11 (eComp (iR1 (eB1 lenD (eVar 9))) (gN 6) [6] (eT (eBin (sv2 neP) (eComp (iQ (eBin ixA (eBin ixA (eVar 9) (eVar 6)) (eC (.int 5)))) (gN 12) [12] (eT (eBin (inA true) (eVar 12) (eVar 10))) (eVar 12)) (eLst (eNil)))) (eVar 6)))
    (sSeq (sSet 8 (eIf (eT (eBin (sv2 neP) (eVar 11) (eLst (eNil)))) (eTup (eCons (eC (.str ("book" : Str))) (eCons (eC (.str ("rules" : Str))) (eCons (eB1 minD (eBin (sv2 addA) (eVar 11) (eLst (eCons (eC (.int 8)) (eNil))))) (eNil))))) (eVar 8)))
    (sSet 8 (eIf (eT (eBin (sv2 eqP) (eVar 10) (eTup (eNil)))) (eTup (eCons (eC (.str ("book" : Str))) (eCons (eC (.str ("kinds" : Str))) (eCons (eC (.int 0)) (eNil))))) (eVar 8))))))
    (sNx))
    (b_law_T14 cells)
def b_law_T12 (cells : List (Str × Addr)) : M Fl :=
  sSeq (sIf (eT (eBin gGtA (eB1 lenD (eVar 9)) (eC (.int 8))))
    (sSet 8 (eTup (eCons (eC (.str ("book" : Str))) (eCons (eC (.str ("rules" : Str))) (eCons (eC (.int 8)) (eNil))))))
    (sNx))
    (b_law_T13 cells)
def b_law_T11 (cells : List (Str × Addr)) : M Fl :=
  sSeq (sAsg (gT 2 (gsC (gN 10) (gsC (gN 8) (gsN)))) (eTup (eCons (eVar 2) (eCons (eC .non) (eNil)))))
    (b_law_T12 cells)
def b_law_T10 (cells : List (Str × Addr)) : M Fl :=
  sSeq (sSet 9 (eComp (iR1 (eCall m_law_taken 2 (eCons (eVar 1) (eCons (eC (.int 11)) (eNil))))) (gN 6) [6] (bYes) (eCall m_law_rule 3 (eCons (eVar 1) (eCons (eVar 2) (eCons (eC (.int 40)) (eNil)))))))
    (b_law_T11 cells)
def b_law_T9 (cells : List (Str × Addr)) : M Fl :=
  sSeq (sIf (eT (eBin (sv2 neP) (eCallH m_law_raised 1 cells [(("_law_part" : Str), 3), (("_law_few" : Str), 10), (("_law_rules" : Str), 9), (("_law_wrong" : Str), 11)] (eCons (eFn 0 cells) (eNil))) (eVar 8)))
    (sRet (eC (.bl false)))
    (sNx))
    (b_law_T10 cells)
def b_law_T8 (cells : List (Str × Addr)) : M Fl :=
  sSeq (sSet 8 (eIf (eT (eBin (sv2 neP) (eVar 5) (eLst (eNil)))) (eTup (eCons (eC (.str ("rule" : Str))) (eCons (eBin ixA (eVar 7) (eBin ixA (eVar 5) (eC (.int 0)))) (eNil)))) (eC .non)))
    (b_law_T9 cells)
def b_law_T7 (cells : List (Str × Addr)) : M Fl :=
  sSeq (sSet 7 (eLst (eCons (eC (.str ("piece" : Str))) (eCons (eC (.str ("low" : Str))) (eCons (eC (.str ("high" : Str))) (eCons (eC (.str ("modulus" : Str))) (eCons (eC (.str ("rests" : Str))) (eCons (eC (.str ("kinds" : Str))) (eNil)))))))))
    (b_law_T8 cells)
def b_law_T6 (cells : List (Str × Addr)) : M Fl :=
  sSeq (sFor (iQ (eVar 5)) (gN 6) [6]
    (b_law_L1 cells))
    (b_law_T7 cells)
def b_law_T5 (cells : List (Str × Addr)) : M Fl :=
  sSeq (sSet 5 (eComp (iR1 (eC (.int 6))) (gN 6) [6] (eT (eBin (sv2 eqP) (eCall m_law_taken 2 (eCons (eVar 1) (eCons (eC (.int 6)) (eNil)))) (eC (.int 0)))) (eVar 6)))
    (b_law_T6 cells)
def b_law_T4 (cells : List (Str × Addr)) : M Fl :=
  sSeq (sSet 4 (eBin (sv2 addA) (eVar 4) (eLst (eCons (eLst (eCons (eTup (eNil)) (eCons (eTup (eCons (eBin ixA (eVar 3) (eC (.int 3))) (eNil))) (eCons (eTup (eCons (eC (.int 0)) (eCons (eC (.int 0)) (eNil)))) (eCons (eTup (eCons (eUn negI (eC (.int 1))) (eNil))) (eCons (eTup (eCons (eC (.bl true)) (eNil))) (eNil))))))) (eCons (eLst (eCons (eTup (eNil)) (eCons (eTup (eCons (eC (.str ("pot" : Str))) (eCons (eC (.str ("cup" : Str))) (eNil)))) (eCons (eTup (eCons (eC (.str ("cup" : Str))) (eCons (eC (.str ("cup" : Str))) (eNil)))) (eCons (eTup (eCons (eC (.str ("Cup" : Str))) (eNil))) (eNil)))))) (eNil))))))
    (b_law_T5 cells)
def b_law_T3 (cells : List (Str × Addr)) : M Fl :=
  sSeq (sSet 4 (eLst (eCons (eLst (eCons (eC (.str ("" : Str))) (eCons (eC (.str ("Ant" : Str))) (eCons (eC (.str ("abcdefghi" : Str))) (eCons (eC (.str ("a t" : Str))) (eNil)))))) (eCons (eLst (eCons (eUn negI (eC (.int 1))) (eCons (eBin (sc2 powI) (eC (.int 10)) (eC (.int 30))) (eCons (eC (.bl true)) (eNil))))) (eCons (eLst (eCons (eBin (sc2 subI) (eBin ixA (eVar 3) (eC (.int 1))) (eC (.int 1))) (eCons (eBin (sc2 powI) (eC (.int 10)) (eC (.int 30))) (eNil)))) (eCons (eLst (eCons (eC (.int 0)) (eCons (eC (.int 5)) (eCons (eC (.int 8)) (eCons (eC (.int 24)) (eCons (eC (.bl true)) (eNil))))))) (eNil)))))))
    (b_law_T4 cells)
def b_law_T2 (cells : List (Str × Addr)) : M Fl :=
  sSeq (sSet 3 (eCellF (eBlt (b1 listD) (eCons (eCall m_law_rule 3 (eCons (eVar 1) (eCons (eVar 2) (eCons (eCall m_law_pick 2 (eCons (eVar 1) (eCons (eLst (eCons (eC (.int 40)) (eCons (eBin (sc2 powI) (eC (.int 10)) (eC (.int 30))) (eNil)))) (eNil)))) (eNil))))) eNil))))
    (b_law_T3 cells)
def b_law_T1 (cells : List (Str × Addr)) : M Fl :=
  sSeq (sSet 2 (eCall m_law_kinds 1 (eCons (eVar 1) (eNil))))
    (b_law_T2 cells)
def b_law (cells : List (Str × Addr)) : M Fl :=
  sSeq (sCell 1 (eCons (eVar 0) (eCons (eC (.int 0)) (eCons (eC (.int 0)) (eCons (eC (.int 0)) (eNil))))))
    (b_law_T1 cells)
def m_law : FM := toFL false 13 b_law
end
end VP
namespace VP
open PySem PySem.Spec PyProof.Rows L2 VE
abbrev s_lam_law_0 : Expr := pX (pX (pE ((defBody s_law).getD 9 noS)) 0) 1
abbrev lc_0 : LamCode := ⟨"<lambda>", ("law" : Str) ++ ".<locals>." ++ "<lambda>", lamA s_lam_law_0, .expr (lamB s_lam_law_0), lamS s_lam_law_0, [], ["_law_part"]⟩
abbrev N_lam_law_0 : List Str := ["_law_part"]
theorem sc_lam_law_0 : NdefX.NScope N_lam_law_0 lc_0.ps lc_0.fr lc_0.scope := NdefX.nscope_by (by decide +kernel)
theorem fr_lam_law_0 : freeB (defScope s_law) (lamS s_lam_law_0) = true := by decide +kernel
theorem bd_lam_law_0 : Bnd lc_0 := fun ⟨_, _, _, _, _, _, _, _, _, _, _, _, _, _, _⟩ h1 h2 h3 us hl => by
  dsimp only at h1 h2 h3; subst h1; subst h2; subst h3; exact match us, hl with | [], _ => rfl
abbrev s_lam_law_1 : Expr := pX (pX (pE ((defBody s_law).getD 14 noS)) 0) 1
abbrev lc_1 : LamCode := ⟨"<lambda>", ("law" : Str) ++ ".<locals>." ++ "<lambda>", lamA s_lam_law_1, .expr (lamB s_lam_law_1), lamS s_lam_law_1, [], ["_law_few", "_law_rules"]⟩
abbrev N_lam_law_1 : List Str := ["_law_few", "_law_rules"]
theorem sc_lam_law_1 : NdefX.NScope N_lam_law_1 lc_1.ps lc_1.fr lc_1.scope := NdefX.nscope_by (by decide +kernel)
theorem fr_lam_law_1 : freeB (defScope s_law) (lamS s_lam_law_1) = true := by decide +kernel
theorem bd_lam_law_1 : Bnd lc_1 := fun ⟨_, _, _, _, _, _, _, _, _, _, _, _, _, _, _⟩ h1 h2 h3 us hl => by
  dsimp only at h1 h2 h3; subst h1; subst h2; subst h3; exact match us, hl with | [], _ => rfl
abbrev s_lam_law_2 : Expr := pX (pX (pE ((defBody s_law).getD 17 noS)) 0) 1
abbrev lc_2 : LamCode := ⟨"<lambda>", ("law" : Str) ++ ".<locals>." ++ "<lambda>", lamA s_lam_law_2, .expr (lamB s_lam_law_2), lamS s_lam_law_2, [], ["_law_wrong", "_law_rules"]⟩
abbrev N_lam_law_2 : List Str := ["_law_wrong", "_law_rules"]
theorem sc_lam_law_2 : NdefX.NScope N_lam_law_2 lc_2.ps lc_2.fr lc_2.scope := NdefX.nscope_by (by decide +kernel)
theorem fr_lam_law_2 : freeB (defScope s_law) (lamS s_lam_law_2) = true := by decide +kernel
theorem bd_lam_law_2 : Bnd lc_2 := fun ⟨_, _, _, _, _, _, _, _, _, _, _, _, _, _, _⟩ h1 h2 h3 us hl => by
  dsimp only at h1 h2 h3; subst h1; subst h2; subst h3; exact match us, hl with | [], _ => rfl
def lamCode : Nat → LamCode
  | 0 => lc_0
  | 1 => lc_1
  | 2 => lc_2
  | _ => lc_0
abbrev N_InvalidRule_init : List Str := ["self", "part"]
theorem sc_InvalidRule_init : FnScope N_InvalidRule_init ["self", "part"] (defScope s_InvalidRule_init) := ⟨rfl, rfl, rfl, by decide +kernel, rfl, by decide +kernel, by decide +kernel⟩
abbrev N_InvalidBook_init : List Str := ["self", "part", "index"]
theorem sc_InvalidBook_init : FnScope N_InvalidBook_init ["self", "part", "index"] (defScope s_InvalidBook_init) := ⟨rfl, rfl, rfl, by decide +kernel, rfl, by decide +kernel, by decide +kernel⟩
abbrev N_is_number : List Str := ["value", "smallest", "largest"]
theorem sc_is_number : FnScope N_is_number ["value", "smallest", "largest"] (defScope s_is_number) := ⟨rfl, rfl, rfl, by decide +kernel, rfl, by decide +kernel, by decide +kernel⟩
abbrev N_is_word : List Str := ["value", "sign"]
theorem sc_is_word : FnScope N_is_word ["value"] (defScope s_is_word) := ⟨rfl, rfl, rfl, by decide +kernel, rfl, by decide +kernel, by decide +kernel⟩
abbrev N_ascend : List Str := ["values", "one", "other"]
theorem sc_ascend : FnScope N_ascend ["values"] (defScope s_ascend) := ⟨rfl, rfl, rfl, by decide +kernel, rfl, by decide +kernel, by decide +kernel⟩
abbrev N_Rule_piece : List Str := ["self"]
theorem sc_Rule_piece : FnScope N_Rule_piece ["self"] (defScope s_Rule_piece) := ⟨rfl, rfl, rfl, by decide +kernel, rfl, by decide +kernel, by decide +kernel⟩
abbrev N_Rule_low : List Str := ["self"]
theorem sc_Rule_low : FnScope N_Rule_low ["self"] (defScope s_Rule_low) := ⟨rfl, rfl, rfl, by decide +kernel, rfl, by decide +kernel, by decide +kernel⟩
abbrev N_Rule_high : List Str := ["self"]
theorem sc_Rule_high : FnScope N_Rule_high ["self"] (defScope s_Rule_high) := ⟨rfl, rfl, rfl, by decide +kernel, rfl, by decide +kernel, by decide +kernel⟩
abbrev N_Rule_modulus : List Str := ["self"]
theorem sc_Rule_modulus : FnScope N_Rule_modulus ["self"] (defScope s_Rule_modulus) := ⟨rfl, rfl, rfl, by decide +kernel, rfl, by decide +kernel, by decide +kernel⟩
abbrev N_Rule_rests : List Str := ["self"]
theorem sc_Rule_rests : FnScope N_Rule_rests ["self"] (defScope s_Rule_rests) := ⟨rfl, rfl, rfl, by decide +kernel, rfl, by decide +kernel, by decide +kernel⟩
abbrev N_Rule_kinds : List Str := ["self"]
theorem sc_Rule_kinds : FnScope N_Rule_kinds ["self"] (defScope s_Rule_kinds) := ⟨rfl, rfl, rfl, by decide +kernel, rfl, by decide +kernel, by decide +kernel⟩
abbrev N_Rule_eq : List Str := ["self", "other"]
theorem sc_Rule_eq : FnScope N_Rule_eq ["self", "other"] (defScope s_Rule_eq) := ⟨rfl, rfl, rfl, by decide +kernel, rfl, by decide +kernel, by decide +kernel⟩
abbrev N_Book_kinds : List Str := ["self"]
theorem sc_Book_kinds : FnScope N_Book_kinds ["self"] (defScope s_Book_kinds) := ⟨rfl, rfl, rfl, by decide +kernel, rfl, by decide +kernel, by decide +kernel⟩
abbrev N_Book_rules : List Str := ["self"]
theorem sc_Book_rules : FnScope N_Book_rules ["self"] (defScope s_Book_rules) := ⟨rfl, rfl, rfl, by decide +kernel, rfl, by decide +kernel, by decide +kernel⟩
abbrev N_law_taken : List Str := ["_law_row", "_law_many", "_law_found", "_law_cell"]
theorem sc_law_taken : FnScope N_law_taken ["_law_row", "_law_many"] (defScope s_law_taken) := ⟨rfl, rfl, rfl, by decide +kernel, rfl, by decide +kernel, by decide +kernel⟩
abbrev N_are_kinds : List Str := ["kinds", "kind"]
theorem sc_are_kinds : FnScope N_are_kinds ["kinds"] (defScope s_are_kinds) := ⟨rfl, rfl, rfl, by decide +kernel, rfl, by decide +kernel, by decide +kernel⟩
abbrev N_are_rests : List Str := ["modulus", "rests", "rest"]
theorem sc_are_rests : FnScope N_are_rests ["modulus", "rests"] (defScope s_are_rests) := ⟨rfl, rfl, rfl, by decide +kernel, rfl, by decide +kernel, by decide +kernel⟩
abbrev N_law_pick : List Str := ["_law_row", "_law_some_here"]
theorem sc_law_pick : FnScope N_law_pick ["_law_row", "_law_some_here"] (defScope s_law_pick) := ⟨rfl, rfl, rfl, by decide +kernel, rfl, by decide +kernel, by decide +kernel⟩
abbrev N_law_kinds : List Str := ["_law_row"]
theorem sc_law_kinds : FnScope N_law_kinds ["_law_row"] (defScope s_law_kinds) := ⟨rfl, rfl, rfl, by decide +kernel, rfl, by decide +kernel, by decide +kernel⟩
abbrev N_Rule_init : List Str := ["self", "piece", "low", "high", "modulus", "rests", "kinds"]
theorem sc_Rule_init : FnScope N_Rule_init ["self", "piece", "low", "high", "modulus", "rests", "kinds"] (defScope s_Rule_init) := ⟨rfl, rfl, rfl, by decide +kernel, rfl, by decide +kernel, by decide +kernel⟩
abbrev N_check_kinds : List Str := ["kinds", "index", "kind"]
theorem sc_check_kinds : FnScope N_check_kinds ["kinds"] (defScope s_check_kinds) := ⟨rfl, rfl, rfl, by decide +kernel, rfl, by decide +kernel, by decide +kernel⟩
abbrev N_Book_pieces : List Str := ["self", "rule"]
theorem sc_Book_pieces : FnScope N_Book_pieces ["self"] (defScope s_Book_pieces) := ⟨rfl, rfl, rfl, by decide +kernel, rfl, by decide +kernel, by decide +kernel⟩
abbrev N_Book_len : List Str := ["self"]
theorem sc_Book_len : FnScope N_Book_len ["self"] (defScope s_Book_len) := ⟨rfl, rfl, rfl, by decide +kernel, rfl, by decide +kernel, by decide +kernel⟩
abbrev N_law_some : List Str := ["_law_row", "_law_values", "_law_found", "_law_value"]
theorem sc_law_some : FnScope N_law_some ["_law_row", "_law_values"] (defScope s_law_some) := ⟨rfl, rfl, rfl, by decide +kernel, rfl, by decide +kernel, by decide +kernel⟩
abbrev N_Book_init : List Str := ["self", "kinds", "rules", "index", "rule", "kind"]
theorem sc_Book_init : FnScope N_Book_init ["self", "kinds", "rules"] (defScope s_Book_init) := ⟨rfl, rfl, rfl, by decide +kernel, rfl, by decide +kernel, by decide +kernel⟩
abbrev N_law_rule : List Str := ["_law_row", "_law_kinds_here", "_law_far", "_law_low", "_law_high", "_law_modulus", "_law_rests"]
theorem sc_law_rule : FnScope N_law_rule ["_law_row", "_law_kinds_here", "_law_far"] (defScope s_law_rule) := ⟨rfl, rfl, rfl, by decide +kernel, rfl, by decide +kernel, by decide +kernel⟩
abbrev N_Book_eq : List Str := ["self", "other"]
theorem sc_Book_eq : FnScope N_Book_eq ["self", "other"] (defScope s_Book_eq) := ⟨rfl, rfl, rfl, by decide +kernel, rfl, by decide +kernel, by decide +kernel⟩
abbrev N_law_book : List Str := ["_law_kinds_here", "_law_rules", "_law_found", "_law_part"]
theorem sc_law_book : FnScope N_law_book ["_law_kinds_here", "_law_rules"] (defScope s_law_book) := ⟨rfl, rfl, rfl, by decide +kernel, rfl, by decide +kernel, by decide +kernel⟩
abbrev N_law_is_told : List Str := ["_law_kinds_here", "_law_rules", "_law_book_here", "_law_told", "_law_rule_here", "_law_part"]
theorem sc_law_is_told : FnScope N_law_is_told ["_law_kinds_here", "_law_rules"] (defScope s_law_is_told) := ⟨rfl, rfl, rfl, by decide +kernel, rfl, by decide +kernel, by decide +kernel⟩
abbrev N_law_raised : List Str := ["_law_work", "e", "_law_kinds_here", "_law_at", "?"]
theorem sc_law_raised : FnScope N_law_raised ["_law_work"] (defScope s_law_raised) := ⟨rfl, rfl, rfl, by decide +kernel, rfl, by decide +kernel, by decide +kernel⟩
abbrev N_law : List Str := ["_law_script", "_law_row", "_law_kinds_here", "_law_part", "_law_odd", "_law_bad", "_law_k", "_law_names", "_law_due", "_law_rules", "_law_few", "_law_wrong", "_law_kind"]
theorem sc_law : FnScope N_law ["_law_script"] (defScope s_law) := ⟨rfl, rfl, rfl, by decide +kernel, rfl, by decide +kernel, by decide +kernel⟩
section
variable [VEnv]
structure Txt (P : Program) (w : World) (K : PySem.W.Frag) (mg : Str → Option Value) : Prop where
  b_all : mg "all" = none
  b_bool : mg "bool" = none
  b_enumerate : mg "enumerate" = none
  b_int : mg "int" = none
  b_isinstance : mg "isinstance" = none
  b_len : mg "len" = none
  b_list : mg "list" = none
  b_min : mg "min" = none
  b_range : mg "range" = none
  b_set : mg "set" = none
  b_sorted : mg "sorted" = none
  b_str : mg "str" = none
  b_tuple : mg "tuple" = none
  b_zip : mg "zip" = none
  c_LAST : ConstV K mg "LAST" k_LAST
  c_LETTERS : ConstV K mg "LETTERS" k_LETTERS
  c_MAX_KINDS : ConstV K mg "MAX_KINDS" k_MAX_KINDS
  c_MAX_RULES : ConstV K mg "MAX_RULES" k_MAX_RULES
  c_MAX_WORD : ConstV K mg "MAX_WORD" k_MAX_WORD
  c_MODULI : ConstV K mg "MODULI" k_MODULI
  xm_PieceError : XmV K mg "PieceError" xy_PieceError xn_PieceError
  bi_PieceError : BaseV K mg "PieceError"
  ix_InvalidBook : IsxV K mg "InvalidBook" ix_InvalidBook
  ix_InvalidNumber : IsxV K mg "InvalidNumber" ix_InvalidNumber
  ix_InvalidPiece : IsxV K mg "InvalidPiece" ix_InvalidPiece
  ix_InvalidQuestion : IsxV K mg "InvalidQuestion" ix_InvalidQuestion
  ix_InvalidRow : IsxV K mg "InvalidRow" ix_InvalidRow
  ix_InvalidRule : IsxV K mg "InvalidRule" ix_InvalidRule
  ix_TooMany : IsxV K mg "TooMany" ix_TooMany
  ix_UnknownPiece : IsxV K mg "UnknownPiece" ix_UnknownPiece
  ix_UnknownRule : IsxV K mg "UnknownRule" ix_UnknownRule
  ix_UnlikeBooks : IsxV K mg "UnlikeBooks" ix_UnlikeBooks
  ix_ValueError : IsxB K mg "ValueError" "ValueError" ix_ValueError
  xf_index : XfV K mg "index" xf_index
  xf_lot : XfV K mg "lot" xf_lot
  xf_part : XfV K mg "part" xf_part
  s_Rule : SlV K mg "Rule" ["parts"]
  s_Book : SlV K mg "Book" ["lists"]
  i_Book : IsiV K mg "Book"
  i_Rule : IsiV K mg "Rule"
  nt_Book : NoTup K mg "Book"
  nt_Rule : NoTup K mg "Rule"
  lam_0 : VEnv.code 0 = lc_0
  lam_1 : VEnv.code 1 = lc_1
  lam_2 : VEnv.code 2 = lc_2
section
variable {P : Program} {w : World} {K : PySem.W.Frag} {mg : Str → Option Value} {base : Heap}
theorem ok_InvalidRule_init {f C : Addr} {fd : FuncData} (F : Fun K "__init__" "InvalidRule.__init__" s_InvalidRule_init f fd) (T : Txt P w K mg) :
    FnOk P w K mg base (L2Z.CX P w K) 1 f fd ["self", "part"] (spXI K C ["part"]) :=
  okXI1 (tMsg1 ("invalid: " : Str) 1) (hm_msg1 (by decide +kernel)) F sc_InvalidRule_init fun cdv A outer s H E hr => pss_two (ps_expr (pe_baseinit T.bi_PieceError (pa_cons (pv 0) (pa_cons (pe_joined (.cons pe_str (.cons (pe_fmt (pv 1)) .nil))) pa_nil)))) (ps_ost (pv 0) (pv 1))
theorem ok_InvalidBook_init {f C : Addr} {fd : FuncData} (F : Fun K "__init__" "InvalidBook.__init__" s_InvalidBook_init f fd) (T : Txt P w K mg) :
    FnOk P w K mg base (L2Z.CX P w K) 1 f fd ["self", "part", "index"] (spXI K C ["part", "index"]) :=
  okXI2 (tMsg2 ("invalid: " : Str) 1 (" " : Str) 2) (hm_msg2 (by decide +kernel) (by decide +kernel)) F sc_InvalidBook_init fun cdv A outer s H E hr => pss_three (ps_expr (pe_baseinit T.bi_PieceError (pa_cons (pv 0) (pa_cons (pe_joined (.cons pe_str (.cons (pe_fmt (pv 1)) (.cons pe_str (.cons (pe_fmt (pv 2)) .nil))))) pa_nil)))) (ps_ost (pv 0) (pv 1)) (ps_ost (pv 0) (pv 2))
theorem ok_is_number {f : Addr} {fd : FuncData} (F : Fun K "is_number" "is_number" s_is_number f fd) (T : Txt P w K mg)  :
    FnOk P w K mg base (L2Z.CX P w K) 1 f fd ["value", "smallest", "largest"] (spV K mg false 3 m_is_number) :=
  okV false F sc_is_number rfl rfl fun cdv A outer s H E hr =>
    (vss_one (vs_ret (ve_and (ve_isi T.b_isinstance T.b_int boot_int (ve_name 0)) (ve_and (ve_not (ve_isi T.b_isinstance T.b_bool boot_bool (ve_name 0))) (ve_one (ve_chain op_le op_le (ve_name 1) (ve_name 0) (ve_name 2)))))))
theorem ok_is_word {f : Addr} {fd : FuncData} (F : Fun K "is_word" "is_word" s_is_word f fd) (T : Txt P w K mg)  :
    FnOk P w K mg base (L2Z.CX P w K) 1 f fd ["value"] (spV K mg false 1 m_is_word) :=
  okV false F sc_is_word rfl rfl fun cdv A outer s H E hr =>
    (vss_one (vs_ret (ve_and (ve_isi T.b_isinstance T.b_str boot_str (ve_name 0)) (ve_and (ve_chain op_le op_le ve_int (ve_len1 T.b_len (ve_name 0)) (ve_gc T.c_MAX_WORD)) (ve_one (ve_all rfl T.b_all (VF.ve (vf_comp (own := [(("sign" : Str), 1)]) rfl sc_is_word.nd (vi_q (ve_name 0)) (blkOk_by (N := N_is_word) (sc := defScope s_is_word) (by decide +kernel)) (by decide) (fun _ _ _ _ _ => (vg_name (i := 1) sc_is_word.nd)) (fun _ _ _ _ _ => vts_nil) (fun _ _ _ _ _ => (ve_inA hr (ve_name 1) (ve_gc T.c_LETTERS)))))))))))
theorem ok_ascend {f : Addr} {fd : FuncData} (F : Fun K "ascend" "ascend" s_ascend f fd) (T : Txt P w K mg)  :
    FnOk P w K mg base (L2Z.CX P w K) 1 f fd ["values"] (spV K mg false 1 m_ascend) :=
  okV false F sc_ascend rfl rfl fun cdv A outer s H E hr =>
    (vss_one (vs_ret (ve_all rfl T.b_all (VF.ve (vf_comp (gg := gTup K 2 (gCons (gName 1) (gCons (gName 2) (gNil)))) (own := [(("one" : Str), 1), (("other" : Str), 2)]) rfl sc_ascend.nd (vi_zip T.b_zip (va_cons (ve_name 0) (va_cons (ve_slA (ve_name 0) (vo_some ve_int) vo_none) va_nil))) (blkOk_by (N := N_ascend) (sc := defScope s_ascend) (by decide +kernel)) (by decide) (fun _ _ _ _ _ => (vg_tup rfl (vgs_cons (vg_name (i := 1) sc_ascend.nd) (vgs_cons (vg_name (i := 2) sc_ascend.nd) vgs_nil)))) (fun _ _ _ _ _ => vts_nil) (fun _ _ _ _ _ => (ve_oLt (ve_name 1) (ve_name 2))))))))
theorem ok_Rule_piece {f : Addr} {fd : FuncData} (F : Fun K "piece" "Rule.piece" s_Rule_piece f fd) (T : Txt P w K mg)  :
    FnOk P w K mg base (L2Z.CX P w K) 1 f fd ["self"] (spV K mg false 1 m_Rule_piece) :=
  okV false F sc_Rule_piece rfl rfl fun cdv A outer s H E hr =>
    (vss_one (vs_ret (ve_ixA hr (ve_slU 0 T.s_Rule (ve_name 0)) ve_int)))
theorem ok_Rule_low {f : Addr} {fd : FuncData} (F : Fun K "low" "Rule.low" s_Rule_low f fd) (T : Txt P w K mg)  :
    FnOk P w K mg base (L2Z.CX P w K) 1 f fd ["self"] (spV K mg false 1 m_Rule_low) :=
  okV false F sc_Rule_low rfl rfl fun cdv A outer s H E hr =>
    (vss_one (vs_ret (ve_ixA hr (ve_slU 0 T.s_Rule (ve_name 0)) ve_int)))
theorem ok_Rule_high {f : Addr} {fd : FuncData} (F : Fun K "high" "Rule.high" s_Rule_high f fd) (T : Txt P w K mg)  :
    FnOk P w K mg base (L2Z.CX P w K) 1 f fd ["self"] (spV K mg false 1 m_Rule_high) :=
  okV false F sc_Rule_high rfl rfl fun cdv A outer s H E hr =>
    (vss_one (vs_ret (ve_ixA hr (ve_slU 0 T.s_Rule (ve_name 0)) ve_int)))
theorem ok_Rule_modulus {f : Addr} {fd : FuncData} (F : Fun K "modulus" "Rule.modulus" s_Rule_modulus f fd) (T : Txt P w K mg)  :
    FnOk P w K mg base (L2Z.CX P w K) 1 f fd ["self"] (spV K mg false 1 m_Rule_modulus) :=
  okV false F sc_Rule_modulus rfl rfl fun cdv A outer s H E hr =>
    (vss_one (vs_ret (ve_ixA hr (ve_slU 0 T.s_Rule (ve_name 0)) ve_int)))
theorem ok_Rule_rests {f : Addr} {fd : FuncData} (F : Fun K "rests" "Rule.rests" s_Rule_rests f fd) (T : Txt P w K mg)  :
    FnOk P w K mg base (L2Z.CX P w K) 1 f fd ["self"] (spV K mg false 1 m_Rule_rests) :=
  okV false F sc_Rule_rests rfl rfl fun cdv A outer s H E hr =>
    (vss_one (vs_ret (ve_ixA hr (ve_slU 0 T.s_Rule (ve_name 0)) ve_int)))
theorem ok_Rule_kinds {f : Addr} {fd : FuncData} (F : Fun K "kinds" "Rule.kinds" s_Rule_kinds f fd) (T : Txt P w K mg)  :
    FnOk P w K mg base (L2Z.CX P w K) 1 f fd ["self"] (spV K mg false 1 m_Rule_kinds) :=
  okV false F sc_Rule_kinds rfl rfl fun cdv A outer s H E hr =>
    (vss_one (vs_ret (ve_ixA hr (ve_slU 0 T.s_Rule (ve_name 0)) ve_int)))
theorem ok_Rule_eq {f : Addr} {fd : FuncData} (F : Fun K "__eq__" "Rule.__eq__" s_Rule_eq f fd) (T : Txt P w K mg)  :
    FnOk P w K mg base (L2Z.CX P w K) 1 f fd ["self", "other"] (spV K mg false 2 m_Rule_eq) :=
  okV false F sc_Rule_eq rfl rfl fun cdv A outer s H E hr =>
    (vss_one (vs_ret (ve_and (ve_isQ T.i_Rule T.nt_Rule T.b_isinstance (ve_name 1)) (ve_one (ve_eqV hr (ve_slU 0 T.s_Rule (ve_name 0)) (ve_slU 0 T.s_Rule (ve_name 1)))))))
theorem ok_Book_kinds {f : Addr} {fd : FuncData} (F : Fun K "kinds" "Book.kinds" s_Book_kinds f fd) (T : Txt P w K mg)  :
    FnOk P w K mg base (L2Z.CX P w K) 1 f fd ["self"] (spV K mg false 1 m_Book_kinds) :=
  okV false F sc_Book_kinds rfl rfl fun cdv A outer s H E hr =>
    (vss_one (vs_ret (ve_ixA hr (ve_slU 0 T.s_Book (ve_name 0)) ve_int)))
theorem ok_Book_rules {f : Addr} {fd : FuncData} (F : Fun K "rules" "Book.rules" s_Book_rules f fd) (T : Txt P w K mg)  :
    FnOk P w K mg base (L2Z.CX P w K) 1 f fd ["self"] (spV K mg false 1 m_Book_rules) :=
  okV false F sc_Book_rules rfl rfl fun cdv A outer s H E hr =>
    (vss_one (vs_ret (ve_ixA hr (ve_slU 0 T.s_Book (ve_name 0)) ve_int)))
theorem ok_law_taken {f : Addr} {fd : FuncData} (F : Fun K "_law_taken" "_law_taken" s_law_taken f fd) (T : Txt P w K mg)  :
    FnOk P w K mg base (L2Z.CX P w K) 1 f fd ["_law_row", "_law_many"] (spV K mg false 2 m_law_taken) :=
  okV false F sc_law_taken rfl rfl fun cdv A outer s H E hr =>
    (vss_cons (vs_if (vt_oGt (ve_ixA hr (ve_name 0) ve_int) ve_int)
      (vss_cons (vs_set (i := 2) sc_law_taken.nd (ve_mod (ve_intc T.b_int (ve_ixA hr (ve_name 0) ve_int)) (ve_name 1)))
      (vss_cons (vs_itemA hr (ve_fdiv (ve_ixA hr (ve_name 0) ve_int) (ve_name 1)) (ve_name 0) ve_int)
      (vss_one (vs_ret (ve_name 2)))))
      vss_nil)
      (vss_cons (vs_itemA hr (ve_addA (ve_ixA hr (ve_name 0) ve_int) ve_int) (ve_name 0) ve_int)
      (vss_cons (vs_if (vt_oGt (ve_ixA hr (ve_name 0) ve_int) (ve_len1 T.b_len (ve_ixA hr (ve_name 0) ve_int)))
      (vss_cons (vs_itemA hr (ve_mod (ve_intc T.b_int (ve_addA (ve_mul (ve_ixA hr (ve_name 0) ve_int) ve_int) ve_int)) ve_int) (ve_name 0) ve_int)
      (vss_one (vs_ret (ve_mod (ve_intc T.b_int (ve_fdiv (ve_ixA hr (ve_name 0) ve_int) ve_int)) (ve_name 1)))))
      vss_nil)
      (vss_cons (vs_set (i := 3) sc_law_taken.nd (ve_ixA hr (ve_ixA hr (ve_name 0) ve_int) (ve_sub (ve_ixA hr (ve_name 0) ve_int) ve_int)))
      (vss_cons (vs_itemA hr (ve_mod (ve_intc T.b_int (ve_addA (ve_addA (ve_mul (ve_ixA hr (ve_name 0) ve_int) ve_int) (ve_name 3)) ve_int)) ve_int) (ve_name 0) ve_int)
      (vss_cons (vs_itemA hr (ve_if (vt_oGe (ve_name 3) (ve_pow ve_int ve_int)) (ve_fdiv (ve_name 3) (ve_name 1)) ve_int) (ve_name 0) ve_int)
      (vss_one (vs_ret (ve_mod (ve_intc T.b_int (ve_name 3)) (ve_name 1))))))))))
theorem ok_are_kinds {f : Addr} {fd : FuncData} (F : Fun K "are_kinds" "are_kinds" s_are_kinds f fd) (T : Txt P w K mg) (v_ascend : FnV P w K mg base 1 "ascend" false 1 m_ascend) (v_is_word : FnV P w K mg base 1 "is_word" false 1 m_is_word) :
    FnOk P w K mg base (L2Z.CX P w K) 2 f fd ["kinds"] (spV K mg false 1 m_are_kinds) :=
  okV false F sc_are_kinds rfl rfl fun cdv A outer s H E hr =>
    (vss_one (vs_ret (ve_and (ve_neV hr (ve_name 0) (ve_tup va_nil)) (ve_and (ve_all rfl T.b_all (VF.ve (vf_comp (own := [(("kind" : Str), 1)]) rfl sc_are_kinds.nd (vi_q (ve_name 0)) (blkOk_by (N := N_are_kinds) (sc := defScope s_are_kinds) (by decide +kernel)) (by decide) (fun _ _ _ _ _ => (vg_name (i := 1) sc_are_kinds.nd)) (fun _ _ _ _ _ => vts_nil) (fun _ _ _ _ _ => (ve_call v_is_word (hr.mono (by decide)) L2Z.takes0 (va_cons (ve_name 1) va_nil)))))) (ve_one (ve_call v_ascend (hr.mono (by decide)) (L2Z.takes_of rfl rfl rfl rfl) (va_cons (ve_name 0) va_nil)))))))
theorem ok_are_rests {f : Addr} {fd : FuncData} (F : Fun K "are_rests" "are_rests" s_are_rests f fd) (T : Txt P w K mg) (v_ascend : FnV P w K mg base 1 "ascend" false 1 m_ascend) (v_is_number : FnV P w K mg base 1 "is_number" false 3 m_is_number) :
    FnOk P w K mg base (L2Z.CX P w K) 2 f fd ["modulus", "rests"] (spV K mg false 2 m_are_rests) :=
  okV false F sc_are_rests rfl rfl fun cdv A outer s H E hr =>
    (vss_one (vs_ret (ve_and (ve_neV hr (ve_name 1) (ve_tup va_nil)) (ve_and (ve_all rfl T.b_all (VF.ve (vf_comp (own := [(("rest" : Str), 2)]) rfl sc_are_rests.nd (vi_q (ve_name 1)) (blkOk_by (N := N_are_rests) (sc := defScope s_are_rests) (by decide +kernel)) (by decide) (fun _ _ _ _ _ => (vg_name (i := 2) sc_are_rests.nd)) (fun _ _ _ _ _ => vts_nil) (fun _ _ _ _ _ => (ve_call v_is_number (hr.mono (by decide)) L2Z.takes0 (va_cons (ve_name 2) (va_cons ve_int (va_cons (ve_sub (ve_name 0) ve_int) va_nil)))))))) (ve_one (ve_call v_ascend (hr.mono (by decide)) (L2Z.takes_of rfl rfl rfl rfl) (va_cons (ve_name 1) va_nil)))))))
theorem ok_law_pick {f : Addr} {fd : FuncData} (F : Fun K "_law_pick" "_law_pick" s_law_pick f fd) (T : Txt P w K mg) (v_law_taken : FnV P w K mg base 1 "_law_taken" false 2 m_law_taken) :
    FnOk P w K mg base (L2Z.CX P w K) 2 f fd ["_law_row", "_law_some_here"] (spV K mg false 2 m_law_pick) :=
  okV false F sc_law_pick rfl rfl fun cdv A outer s H E hr =>
    (vss_one (vs_ret (ve_ixA hr (ve_name 1) (ve_call v_law_taken (hr.mono (by decide)) (L2Z.takes_of rfl rfl rfl rfl) (va_cons (ve_name 0) (va_cons (ve_len1 T.b_len (ve_name 1)) va_nil))))))
theorem ok_law_kinds {f : Addr} {fd : FuncData} (F : Fun K "_law_kinds" "_law_kinds" s_law_kinds f fd) (T : Txt P w K mg) (v_law_taken : FnV P w K mg base 1 "_law_taken" false 2 m_law_taken) :
    FnOk P w K mg base (L2Z.CX P w K) 2 f fd ["_law_row"] (spV K mg false 1 m_law_kinds) :=
  okV false F sc_law_kinds rfl rfl fun cdv A outer s H E hr =>
    (vss_one (vs_ret (ve_tuple1 T.b_tuple (ve_slA (VF.ve (vf_lst (va_cons ve_str (va_cons ve_str (va_cons ve_str (va_cons ve_str va_nil)))))) vo_none (vo_some (ve_addA ve_int (ve_call v_law_taken (hr.mono (by decide)) (L2Z.takes_of rfl rfl rfl rfl) (va_cons (ve_name 0) (va_cons ve_int va_nil)))))))))
theorem ok_Rule_init {f : Addr} {fd : FuncData} (F : Fun K "__init__" "Rule.__init__" s_Rule_init f fd) (T : Txt P w K mg) (v_are_kinds : FnV P w K mg base 2 "are_kinds" false 1 m_are_kinds) (v_are_rests : FnV P w K mg base 2 "are_rests" false 2 m_are_rests) (v_is_number : FnV P w K mg base 1 "is_number" false 3 m_is_number) (v_is_word : FnV P w K mg base 1 "is_word" false 1 m_is_word) (xi_InvalidRule : ErrI P w K mg base "InvalidRule" ["part"]) :
    FnOk P w K mg base (L2Z.CX P w K) 3 f fd ["self", "piece", "low", "high", "modulus", "rests", "kinds"] (spV K mg false 7 m_Rule_init) :=
  okV false F sc_Rule_init rfl rfl fun cdv A outer s H E hr =>
    (vss_cons (vs_if (vt_not (vt_val (ve_call v_is_word (hr.mono (by decide)) (L2Z.takes_of rfl rfl rfl rfl) (va_cons (ve_name 1) va_nil))))
      (vss_one (vs_raiseI rfl (L2Z.takes_of rfl rfl rfl rfl) (hr.mono (by decide)) xi_InvalidRule (va_cons ve_str va_nil)))
      vss_nil)
      (vss_cons (vs_if (vt_not (vt_val (ve_call v_is_number (hr.mono (by decide)) (L2Z.takes_of rfl rfl rfl rfl) (va_cons (ve_name 2) (va_cons ve_int (va_cons (ve_gc T.c_LAST) va_nil))))))
      (vss_one (vs_raiseI rfl (L2Z.takes_of rfl rfl rfl rfl) (hr.mono (by decide)) xi_InvalidRule (va_cons ve_str va_nil)))
      vss_nil)
      (vss_cons (vs_if (vt_not (vt_val (ve_call v_is_number (hr.mono (by decide)) (L2Z.takes_of rfl rfl rfl rfl) (va_cons (ve_name 3) (va_cons (ve_name 2) (va_cons (ve_gc T.c_LAST) va_nil))))))
      (vss_one (vs_raiseI rfl (L2Z.takes_of rfl rfl rfl rfl) (hr.mono (by decide)) xi_InvalidRule (va_cons ve_str va_nil)))
      vss_nil)
      (vss_cons (vs_if (PW.pt (vw_or (vt_val (ve_isi T.b_isinstance T.b_bool boot_bool (ve_name 4))) (vw_or1 (vt_notinA hr (ve_name 4) (ve_gc T.c_MODULI)))))
      (vss_one (vs_raiseI rfl (L2Z.takes_of rfl rfl rfl rfl) (hr.mono (by decide)) xi_InvalidRule (va_cons ve_str va_nil)))
      vss_nil)
      (vss_cons (vs_if (vt_not (vt_val (ve_call v_are_rests (hr.mono (by decide)) (L2Z.takes_of rfl rfl rfl rfl) (va_cons (ve_name 4) (va_cons (ve_name 5) va_nil)))))
      (vss_one (vs_raiseI rfl (L2Z.takes_of rfl rfl rfl rfl) (hr.mono (by decide)) xi_InvalidRule (va_cons ve_str va_nil)))
      vss_nil)
      (vss_cons (vs_if (vt_not (vt_val (ve_call v_are_kinds (hr.mono (by decide)) (L2Z.takes_of rfl rfl rfl rfl) (va_cons (ve_name 6) va_nil))))
      (vss_one (vs_raiseI rfl (L2Z.takes_of rfl rfl rfl rfl) (hr.mono (by decide)) xi_InvalidRule (va_cons ve_str va_nil)))
      vss_nil)
      (vss_one (vs_slot 0 T.s_Rule (ve_name 0) (ve_tup (va_cons (ve_name 1) (va_cons (ve_name 2) (va_cons (ve_name 3) (va_cons (ve_name 4) (va_cons (ve_name 5) (va_cons (ve_name 6) va_nil)))))))))))))))
theorem ok_check_kinds {f : Addr} {fd : FuncData} (F : Fun K "check_kinds" "check_kinds" s_check_kinds f fd) (T : Txt P w K mg) (v_is_word : FnV P w K mg base 1 "is_word" false 1 m_is_word) (xi_InvalidBook : ErrI P w K mg base "InvalidBook" ["part", "index"]) :
    FnOk P w K mg base (L2Z.CX P w K) 3 f fd ["kinds"] (spV K mg false 1 m_check_kinds) :=
  okV false F sc_check_kinds rfl rfl fun cdv A outer s H E hr =>
    (vss_cons (vs_for [1, 2] (passes_of rfl) rfl (vi_enA T.b_enumerate (ve_name 0)) (vg_tup rfl (vgs_cons (vg_name (i := 1) sc_check_kinds.nd) (vgs_cons (vg_name (i := 2) sc_check_kinds.nd) vgs_nil)))
      (vss_one (vs_if (PW.pt (vw_or (vt_eqV hr (ve_name 1) (ve_gc T.c_MAX_KINDS)) (vw_or (vt_not (vt_val (ve_call v_is_word (hr.mono (by decide)) (L2Z.takes_of rfl rfl rfl rfl) (va_cons (ve_name 2) va_nil)))) (vw_or1 (PW.pt (vw_and (vt_oGt (ve_name 1) ve_int) (vw_and1 (vt_oLe (ve_name 2) (ve_ixA hr (ve_name 0) (ve_sub (ve_name 1) ve_int))))))))))
      (vss_one (vs_raiseI rfl (L2Z.takes_of rfl rfl rfl rfl) (hr.mono (by decide)) xi_InvalidBook (va_cons ve_str (va_cons (ve_name 1) va_nil))))
      vss_nil)))
      (vss_one (vs_if (vt_eqV hr (ve_name 0) (ve_tup va_nil))
      (vss_one (vs_raiseI rfl (L2Z.takes_of rfl rfl rfl rfl) (hr.mono (by decide)) xi_InvalidBook (va_cons ve_str (va_cons ve_int va_nil))))
      vss_nil)))
theorem ok_Book_pieces {f : Addr} {fd : FuncData} (F : Fun K "pieces" "Book.pieces" s_Book_pieces f fd) (T : Txt P w K mg) (pr_Book_rules : PrV P w K mg base 1 "Book" "rules" m_Book_rules) (pr_Rule_piece : PrV P w K mg base 1 "Rule" "piece" m_Rule_piece) :
    FnOk P w K mg base (L2Z.CX P w K) 3 f fd ["self"] (spV K mg false 1 m_Book_pieces) :=
  okV false F sc_Book_pieces rfl rfl fun cdv A outer s H E hr =>
    (vss_one (vs_ret (VF.ve (vf_sset rfl T.b_sorted T.b_set (VF.ve (vf_comp (own := [(("rule" : Str), 1)]) rfl sc_Book_pieces.nd (vi_q (ve_prU pr_Book_rules (hr.mono (by decide)) (ve_name 0))) (blkOk_by (N := N_Book_pieces) (sc := defScope s_Book_pieces) (by decide +kernel)) (by decide) (fun _ _ _ _ _ => (vg_name (i := 1) sc_Book_pieces.nd)) (fun _ _ _ _ _ => vts_nil) (fun _ _ _ _ _ => (ve_prU pr_Rule_piece (hr.mono (by decide)) (ve_name 1)))))))))
theorem ok_Book_len {f : Addr} {fd : FuncData} (F : Fun K "__len__" "Book.__len__" s_Book_len f fd) (T : Txt P w K mg) (pr_Book_rules : PrV P w K mg base 1 "Book" "rules" m_Book_rules) :
    FnOk P w K mg base (L2Z.CX P w K) 3 f fd ["self"] (spV K mg false 1 m_Book_len) :=
  okV false F sc_Book_len rfl rfl fun cdv A outer s H E hr =>
    (vss_one (vs_ret (ve_len1 T.b_len (ve_prU pr_Book_rules (hr.mono (by decide)) (ve_name 0)))))
theorem ok_law_some {f : Addr} {fd : FuncData} (F : Fun K "_law_some" "_law_some" s_law_some f fd) (T : Txt P w K mg) (v_law_pick : FnV P w K mg base 2 "_law_pick" false 2 m_law_pick) (v_law_taken : FnV P w K mg base 1 "_law_taken" false 2 m_law_taken) :
    FnOk P w K mg base (L2Z.CX P w K) 3 f fd ["_law_row", "_law_values"] (spV K mg false 2 m_law_some) :=
  okV false F sc_law_some rfl rfl fun cdv A outer s H E hr =>
    (vss_cons (vs_set (i := 2) sc_law_some.nd (ve_tuple1 T.b_tuple (VF.ve (vf_comp (own := [(("_law_value" : Str), 3)]) rfl sc_law_some.nd (vi_q (ve_name 1)) (blkOk_by (N := N_law_some) (sc := defScope s_law_some) (by decide +kernel)) (by decide) (fun _ _ _ _ _ => (vg_name (i := 3) sc_law_some.nd)) (fun _ _ _ _ _ => (vts_one (vt_eqV hr (ve_call v_law_taken (hr.mono (by decide)) L2Z.takes0 (va_cons (ve_name 0) (va_cons ve_int va_nil))) ve_int))) (fun _ _ _ _ _ => (ve_name 3))))))
      (vss_one (vs_ret (ve_if (vt_neV hr (ve_name 2) (ve_tup va_nil)) (ve_name 2) (ve_tup (va_cons (ve_call v_law_pick (hr.mono (by decide)) (L2Z.takes_of rfl rfl rfl rfl) (va_cons (ve_name 0) (va_cons (VF.ve (vf_list T.b_list (ve_name 1))) va_nil))) va_nil))))))
theorem ok_Book_init {f : Addr} {fd : FuncData} (F : Fun K "__init__" "Book.__init__" s_Book_init f fd) (T : Txt P w K mg) (v_check_kinds : FnV P w K mg base 3 "check_kinds" false 1 m_check_kinds) (pr_Rule_kinds : PrV P w K mg base 1 "Rule" "kinds" m_Rule_kinds) (xi_InvalidBook : ErrI P w K mg base "InvalidBook" ["part", "index"]) :
    FnOk P w K mg base (L2Z.CX P w K) 4 f fd ["self", "kinds", "rules"] (spV K mg false 3 m_Book_init) :=
  okV false F sc_Book_init rfl rfl fun cdv A outer s H E hr =>
    (vss_cons (vs_expr (ve_call v_check_kinds (hr.mono (by decide)) (L2Z.takes_of rfl rfl rfl rfl) (va_cons (ve_name 1) va_nil)))
      (vss_cons (vs_for [3, 4, 5] (passes_of rfl) rfl (vi_enA T.b_enumerate (ve_name 2)) (vg_tup rfl (vgs_cons (vg_name (i := 3) sc_Book_init.nd) (vgs_cons (vg_name (i := 4) sc_Book_init.nd) vgs_nil)))
      (vss_one (vs_if (PW.pt (vw_or (vt_eqV hr (ve_name 3) (ve_gc T.c_MAX_RULES)) (vw_or1 (vt_not (vt_val (ve_all rfl T.b_all (VF.ve (vf_comp (own := [(("kind" : Str), 5)]) rfl sc_Book_init.nd (vi_q (ve_prU pr_Rule_kinds (hr.mono (by decide)) (ve_name 4))) (blkOk_by (N := N_Book_init) (sc := defScope s_Book_init) (by decide +kernel)) (by decide) (fun _ _ _ _ _ => (vg_name (i := 5) sc_Book_init.nd)) (fun _ _ _ _ _ => vts_nil) (fun _ _ _ _ _ => (ve_inA hr (ve_name 5) (ve_name 1)))))))))))
      (vss_one (vs_raiseI rfl (L2Z.takes_of rfl rfl rfl rfl) (hr.mono (by decide)) xi_InvalidBook (va_cons ve_str (va_cons (ve_name 3) va_nil))))
      vss_nil)))
      (vss_one (vs_slot 0 T.s_Book (ve_name 0) (ve_tup (va_cons (ve_name 1) (va_cons (ve_name 2) va_nil)))))))
theorem ok_law_rule {f : Addr} {fd : FuncData} (F : Fun K "_law_rule" "_law_rule" s_law_rule f fd) (T : Txt P w K mg) (v_law_pick : FnV P w K mg base 2 "_law_pick" false 2 m_law_pick) (v_law_some : FnV P w K mg base 3 "_law_some" false 2 m_law_some) (v_law_taken : FnV P w K mg base 1 "_law_taken" false 2 m_law_taken) :
    FnOk P w K mg base (L2Z.CX P w K) 4 f fd ["_law_row", "_law_kinds_here", "_law_far"] (spV K mg false 3 m_law_rule) :=
  okV false F sc_law_rule rfl rfl fun cdv A outer s H E hr =>
    (vss_cons (vs_set (i := 3) sc_law_rule.nd (ve_call v_law_taken (hr.mono (by decide)) (L2Z.takes_of rfl rfl rfl rfl) (va_cons (ve_name 0) (va_cons (ve_name 2) va_nil))))
      (vss_cons (vs_set (i := 4) sc_law_rule.nd (ve_addA (ve_name 3) (ve_call v_law_taken (hr.mono (by decide)) (L2Z.takes_of rfl rfl rfl rfl) (va_cons (ve_name 0) (va_cons (ve_call v_law_pick (hr.mono (by decide)) (L2Z.takes_of rfl rfl rfl rfl) (va_cons (ve_name 0) (va_cons (VF.ve (vf_lst (va_cons (ve_sub (ve_name 2) (ve_name 3)) (va_cons (ve_addA ve_int (ve_fdiv (ve_sub (ve_name 2) (ve_name 3)) ve_int)) va_nil)))) va_nil))) va_nil)))))
      (vss_cons (vs_set (i := 5) sc_law_rule.nd (ve_call v_law_pick (hr.mono (by decide)) (L2Z.takes_of rfl rfl rfl rfl) (va_cons (ve_name 0) (va_cons (VF.ve (vf_lst (va_cons ve_int (va_cons ve_int (va_cons ve_int (va_cons ve_int (va_cons ve_int (va_cons ve_int (va_cons ve_int va_nil))))))))) va_nil))))
      (vss_cons (vs_set (i := 6) sc_law_rule.nd (ve_call v_law_some (hr.mono (by decide)) (L2Z.takes_of rfl rfl rfl rfl) (va_cons (ve_name 0) (va_cons (VF.ve (vf_listR rfl T.b_list T.b_range (ve_name 5))) va_nil))))
      (vss_one (vs_ret (ve_tup (va_cons (ve_call v_law_pick (hr.mono (by decide)) (L2Z.takes_of rfl rfl rfl rfl) (va_cons (ve_name 0) (va_cons (VF.ve (vf_lst (va_cons ve_str (va_cons ve_str (va_cons ve_str (va_cons ve_str va_nil)))))) va_nil))) (va_cons (ve_name 3) (va_cons (ve_name 4) (va_cons (ve_name 5) (va_cons (ve_name 6) (va_cons (ve_call v_law_some (hr.mono (by decide)) (L2Z.takes_of rfl rfl rfl rfl) (va_cons (ve_name 0) (va_cons (ve_name 1) va_nil))) va_nil)))))))))))))
theorem ok_Book_eq {f : Addr} {fd : FuncData} (F : Fun K "__eq__" "Book.__eq__" s_Book_eq f fd) (T : Txt P w K mg) (eq_Rule : EqV P w K mg base 1 "Rule" m_Rule_eq) (pr_Book_kinds : PrV P w K mg base 1 "Book" "kinds" m_Book_kinds) (pr_Book_rules : PrV P w K mg base 1 "Book" "rules" m_Book_rules) :
    FnOk P w K mg base (L2Z.CX P w K) 5 f fd ["self", "other"] (spV K mg false 2 m_Book_eq) :=
  okV false F sc_Book_eq rfl rfl fun cdv A outer s H E hr =>
    (vss_one (vs_ret (ve_and (ve_isQ T.i_Book T.nt_Book T.b_isinstance (ve_name 1)) (ve_one (ve_eqF eq_Rule (hr.mono (by decide)) (ve_slU 0 T.s_Book (ve_name 0)) (ve_tup (va_cons (ve_prU pr_Book_kinds (hr.mono (by decide)) (ve_name 1)) (va_cons (ve_prU pr_Book_rules (hr.mono (by decide)) (ve_name 1)) va_nil))))))))
theorem ok_lam_law_0 (T : Txt P w K mg) (mk_Rule : MkV P w K mg base 3 "Rule" 7 m_Rule_init) :
    LamOk P w K mg base 5 0 m_lam_law_0 :=
  lam_of (L := lc_0) T.lam_0 sc_lam_law_0 rfl bd_lam_law_0 fun A outer s H E f c' cells hr =>
    (ve_makeZ mk_Rule (hr.mono (by decide)) (L2Z.takes_of rfl rfl rfl rfl) (va_cons (ve_ixA hr (ve_name 0) ve_int) (va_cons (ve_ixA hr (ve_name 0) ve_int) (va_cons (ve_ixA hr (ve_name 0) ve_int) (va_cons (ve_ixA hr (ve_name 0) ve_int) (va_cons (ve_ixA hr (ve_name 0) ve_int) (va_cons (ve_ixA hr (ve_name 0) ve_int) va_nil)))))))
theorem ok_law_book {f : Addr} {fd : FuncData} (F : Fun K "_law_book" "_law_book" s_law_book f fd) (T : Txt P w K mg) (mk_Book : MkV P w K mg base 4 "Book" 3 m_Book_init) (mk_Rule : MkV P w K mg base 3 "Rule" 7 m_Rule_init) :
    FnOk P w K mg base (L2Z.CX P w K) 6 f fd ["_law_kinds_here", "_law_rules"] (spV K mg false 2 m_law_book) :=
  okV false F sc_law_book rfl rfl fun cdv A outer s H E hr =>
    (vss_cons (vs_setF (i := 2) sc_law_book.nd (vf_lst va_nil))
      (vss_cons (vs_for [3] (passes_of rfl) rfl (vi_q (ve_name 1)) (vg_name (i := 3) sc_law_book.nd)
      (vss_one (vs_append (i := 2) (ve_makeZ mk_Rule (hr.mono (by decide)) (L2Z.takes_of rfl rfl rfl rfl) (va_cons (ve_ixA hr (ve_name 3) ve_int) (va_cons (ve_ixA hr (ve_name 3) ve_int) (va_cons (ve_ixA hr (ve_name 3) ve_int) (va_cons (ve_ixA hr (ve_name 3) ve_int) (va_cons (ve_ixA hr (ve_name 3) ve_int) (va_cons (ve_ixA hr (ve_name 3) ve_int) va_nil))))))))))
      (vss_one (vs_ret (ve_makeZ mk_Book (hr.mono (by decide)) (L2Z.takes_of rfl rfl rfl rfl) (va_cons (ve_name 0) (va_cons (ve_tuple1 T.b_tuple (ve_name 2)) va_nil)))))))
theorem ok_law_is_told {f : Addr} {fd : FuncData} (F : Fun K "_law_is_told" "_law_is_told" s_law_is_told f fd) (T : Txt P w K mg) (eq_Book : EqV P w K mg base 5 "Book" m_Book_eq) (eq_Rule : EqV P w K mg base 1 "Rule" m_Rule_eq) (v_law_book : FnV P w K mg base 6 "_law_book" false 2 m_law_book) (ln_Book : LenV P w K mg base 3 "Book" m_Book_len) (pr_Book_kinds : PrV P w K mg base 1 "Book" "kinds" m_Book_kinds) (pr_Book_pieces : PrV P w K mg base 3 "Book" "pieces" m_Book_pieces) (pr_Book_rules : PrV P w K mg base 1 "Book" "rules" m_Book_rules) (pr_Rule_high : PrV P w K mg base 1 "Rule" "high" m_Rule_high) (pr_Rule_kinds : PrV P w K mg base 1 "Rule" "kinds" m_Rule_kinds) (pr_Rule_low : PrV P w K mg base 1 "Rule" "low" m_Rule_low) (pr_Rule_modulus : PrV P w K mg base 1 "Rule" "modulus" m_Rule_modulus) (pr_Rule_piece : PrV P w K mg base 1 "Rule" "piece" m_Rule_piece) (pr_Rule_rests : PrV P w K mg base 1 "Rule" "rests" m_Rule_rests) :
    FnOk P w K mg base (L2Z.CX P w K) 7 f fd ["_law_kinds_here", "_law_rules"] (spV K mg false 2 m_law_is_told) :=
  okV false F sc_law_is_told rfl rfl fun cdv A outer s H E hr =>
    (vss_cons (vs_set (i := 2) sc_law_is_told.nd (ve_call v_law_book (hr.mono (by decide)) (L2Z.takes_of rfl rfl rfl rfl) (va_cons (ve_name 0) (va_cons (ve_name 1) va_nil))))
      (vss_cons (vs_setCompV (i := 3) (own := [(("_law_rule_here" : Str), 4)]) rfl sc_law_is_told.nd (vi_q (ve_prU pr_Book_rules (hr.mono (by decide)) (ve_name 2))) (blkOk_by (N := N_law_is_told) (sc := defScope s_law_is_told) (by decide +kernel)) (by decide) (fun _ _ _ _ _ => (vg_name (i := 4) sc_law_is_told.nd)) (fun _ _ _ _ _ => vts_nil) (fun _ _ _ _ _ => (ve_tup (va_cons (ve_prU pr_Rule_piece (hr.mono (by decide)) (ve_name 4)) (va_cons (ve_prU pr_Rule_low (hr.mono (by decide)) (ve_name 4)) (va_cons (ve_prU pr_Rule_high (hr.mono (by decide)) (ve_name 4)) (va_cons (ve_prU pr_Rule_modulus (hr.mono (by decide)) (ve_name 4)) (va_cons (ve_prU pr_Rule_rests (hr.mono (by decide)) (ve_name 4)) (va_cons (ve_prU pr_Rule_kinds (hr.mono (by decide)) (ve_name 4)) va_nil)))))))))
      (vss_cons (vs_if (vt_neV hr (ve_tup (va_cons (ve_prU pr_Book_kinds (hr.mono (by decide)) (ve_name 2)) (va_cons (ve_name 3) (va_cons (ve_lnO ln_Book (hr.mono (by decide)) T.b_len (ve_name 2)) va_nil)))) (ve_tup (va_cons (ve_name 0) (va_cons (ve_name 1) (va_cons (ve_len1 T.b_len (ve_name 1)) va_nil)))))
      (vss_one (vs_ret ve_bl))
      vss_nil)
      (vss_cons (vs_if (vt_neX eq_Book T.nt_Book (hr.mono (by decide)) (ve_name 2) (ve_call v_law_book (hr.mono (by decide)) (L2Z.takes_of rfl rfl rfl rfl) (va_cons (ve_name 0) (va_cons (ve_name 1) va_nil))))
      (vss_one (vs_ret ve_bl))
      vss_nil)
      (vss_cons (vs_if (PW.pt (vw_or (vt_neV hr (ve_prU pr_Book_pieces (hr.mono (by decide)) (ve_name 2)) (VF.ve (vf_sset rfl T.b_sorted T.b_set (VF.ve (vf_comp (own := [(("_law_part" : Str), 5)]) rfl sc_law_is_told.nd (vi_q (ve_name 1)) (blkOk_by (N := N_law_is_told) (sc := defScope s_law_is_told) (by decide +kernel)) (by decide) (fun _ _ _ _ _ => (vg_name (i := 5) sc_law_is_told.nd)) (fun _ _ _ _ _ => vts_nil) (fun _ _ _ _ _ => (ve_ixA hr (ve_name 5) ve_int))))))) (vw_or1 (vt_eqX eq_Book T.nt_Book (hr.mono (by decide)) (ve_name 2) (ve_name 0)))))
      (vss_one (vs_ret ve_bl))
      vss_nil)
      (vss_cons (vs_if (vt_neV hr (ve_eqX eq_Book T.nt_Book (hr.mono (by decide)) (ve_name 2) (ve_call v_law_book (hr.mono (by decide)) (L2Z.takes_of rfl rfl rfl rfl) (va_cons (ve_name 0) (va_cons (VF.ve (vf_rev (ve_name 1))) va_nil)))) (ve_eqV hr (ve_name 1) (VF.ve (vf_rev (ve_name 1)))))
      (vss_one (vs_ret ve_bl))
      vss_nil)
      (vss_one (vs_ret (ve_or (ve_eqV hr (ve_name 1) (VF.ve (vf_lst va_nil))) (ve_one (ve_and (ve_neX eq_Rule T.nt_Rule (hr.mono (by decide)) (ve_ixA hr (ve_prU pr_Book_rules (hr.mono (by decide)) (ve_name 2)) ve_int) (ve_ixA hr (ve_name 1) ve_int)) (ve_one (ve_neX eq_Book T.nt_Book (hr.mono (by decide)) (ve_name 2) (ve_call v_law_book (hr.mono (by decide)) (L2Z.takes_of rfl rfl rfl rfl) (va_cons (ve_name 0) (va_cons (ve_slA (ve_name 1) (vo_some ve_int) vo_none) va_nil))))))))))))))))
theorem ok_lam_law_1 (T : Txt P w K mg) (v_law_book : FnV P w K mg base 6 "_law_book" false 2 m_law_book) :
    LamOk P w K mg base 7 1 m_lam_law_1 :=
  lam_of (L := lc_1) T.lam_1 sc_lam_law_1 rfl bd_lam_law_1 fun A outer s H E f c' cells hr =>
    (ve_call v_law_book (hr.mono (by decide)) (L2Z.takes_of rfl rfl rfl rfl) (va_cons (ve_name 0) (va_cons (ve_name 1) va_nil)))
theorem ok_lam_law_2 (T : Txt P w K mg) (v_law_book : FnV P w K mg base 6 "_law_book" false 2 m_law_book) :
    LamOk P w K mg base 7 2 m_lam_law_2 :=
  lam_of (L := lc_2) T.lam_2 sc_lam_law_2 rfl bd_lam_law_2 fun A outer s H E f c' cells hr =>
    (ve_call v_law_book (hr.mono (by decide)) (L2Z.takes_of rfl rfl rfl rfl) (va_cons (ve_ixA hr (ve_name 0) ve_int) (va_cons (ve_slA (ve_name 1) vo_none (vo_some ve_int)) va_nil)))
theorem gs_law_raised (T : Txt P w K mg) (l_0 : LamOk P w K mg base 5 0 m_lam_law_0) (l_1 : LamOk P w K mg base 7 1 m_lam_law_1) (l_2 : LamOk P w K mg base 7 2 m_lam_law_2) : LamsOk P w K mg base 7 G_law_raised := fun i => match i with
  | 0 => .inr ⟨by rw [T.lam_0]; rfl, by rw [T.lam_0]; decide +kernel, by rw [T.lam_0]; rfl, l_0.mono (by decide)⟩
  | 1 => .inr ⟨by rw [T.lam_1]; rfl, by rw [T.lam_1]; decide +kernel, by rw [T.lam_1]; rfl, l_1.mono (by decide)⟩
  | 2 => .inr ⟨by rw [T.lam_2]; rfl, by rw [T.lam_2]; decide +kernel, by rw [T.lam_2]; rfl, l_2.mono (by decide)⟩
  | _ + 3 => .inl fun _ _ _ => rfl
theorem ok_law_raised {f : Addr} {fd : FuncData} (F : Fun K "_law_raised" "_law_raised" s_law_raised f fd) (T : Txt P w K mg) (gs_law_raised : LamsOk P w K mg base 7 G_law_raised) :
    FnOk P w K mg base (L2Z.CX P w K) 8 f fd ["_law_work"] (spG K mg false 1 m_law_raised) :=
  okVG false F sc_law_raised rfl rfl (by decide) fun cdv A outer s H E hr =>
    (vss_cons (vs_tryA sc_law_raised.nd rfl rfl (L2Z.takes_of rfl rfl rfl rfl) (fun _ _ _ tk1 po1 => (vss_one (vs_expr (ve_callP0 0 4 gs_law_raised (hr.mono (by decide)) tk1))))
      (vha_consN 1 T.xm_PieceError (fun _ _ _ _ _ hz hf => (vss_cons (vs_setF (i := 2) sc_law_raised.nd (vf_lst (va_cons (ve_isx 1 T.ix_InvalidRule T.b_isinstance hz hf) (va_cons (ve_isx 1 T.ix_InvalidBook T.b_isinstance hz hf) (va_cons (ve_isx 1 T.ix_InvalidQuestion T.b_isinstance hz hf) va_nil)))))
      (vss_cons (vs_setF (i := 2) sc_law_raised.nd (vf_cat (ve_name 2) (VF.ve (vf_lst (va_cons (ve_isx 1 T.ix_InvalidRow T.b_isinstance hz hf) (va_cons (ve_isx 1 T.ix_UnknownPiece T.b_isinstance hz hf) (va_cons (ve_isx 1 T.ix_InvalidNumber T.b_isinstance hz hf) va_nil)))))))
      (vss_cons (vs_setF (i := 2) sc_law_raised.nd (vf_cat (ve_name 2) (VF.ve (vf_lst (va_cons (ve_isx 1 T.ix_UnlikeBooks T.b_isinstance hz hf) (va_cons (ve_isx 1 T.ix_InvalidPiece T.b_isinstance hz hf) (va_cons (ve_isx 1 T.ix_TooMany T.b_isinstance hz hf) va_nil)))))))
      (vss_cons (vs_append (i := 2) (ve_isx 1 T.ix_UnknownRule T.b_isinstance hz hf))
      (vss_cons (vs_if (PW.pt (vw_or (vt_neU (by have h := huA hr; exact h) (ve_cntU (by have h := huA1 hr; exact h) (ve_name 2) ve_bl) ve_int) (vw_or1 (vt_not (vt_val (ve_isxB 1 T.ix_ValueError T.b_isinstance hz hf))))))
      (vss_one (vs_ret (ve_tup (va_cons ve_str va_nil))))
      vss_nil)
      (vss_cons (vs_set (i := 3) sc_law_raised.nd (ve_idxU (by have h := huA1 hr; exact h) (ve_name 2) ve_bl))
      (vss_cons (vs_if (vt_eqU (by have h := huA hr; exact h) (ve_name 3) ve_int)
      (vss_one (vs_ret (ve_tup (va_cons ve_str (va_cons (ve_xf 1 T.xf_part hz hf) va_nil)))))
      vss_nil)
      (vss_cons (vs_if (vt_oLt (ve_name 3) ve_int)
      (vss_one (vs_ret (ve_if (vt_eqU (by have h := huA hr; exact h) (ve_name 3) ve_int) (ve_tup (va_cons ve_str (va_cons (ve_xf 1 T.xf_part hz hf) (va_cons (ve_xf 1 T.xf_index hz hf) va_nil)))) (ve_tup (va_cons ve_str (va_cons (ve_xf 1 T.xf_lot hz hf) (va_cons (ve_xf 1 T.xf_index hz hf) va_nil)))))))
      vss_nil)
      (vss_one (vs_ret (ve_tup (va_cons (ve_ix (VF.ve (vf_lst (va_cons ve_str (va_cons ve_str (va_cons ve_str (va_cons ve_str (va_cons ve_str (va_cons ve_str (va_cons ve_str va_nil))))))))) (ve_sub (ve_name 3) ve_int)) va_nil))))))))))))) vha_nil))
      (vss_one (vs_ret ve_non)))
theorem ok_law {f : Addr} {fd : FuncData} (F : Fun K "law" "law" s_law f fd) (T : Txt P w K mg) (hT : TabV base mg fd.code (("law" : Str) ++ ".<locals>." ++ "<lambda>")) (v_law_is_told : FnV P w K mg base 7 "_law_is_told" false 2 m_law_is_told) (v_law_kinds : FnV P w K mg base 2 "_law_kinds" false 1 m_law_kinds) (v_law_pick : FnV P w K mg base 2 "_law_pick" false 2 m_law_pick) (v_law_raised : FnG P w K mg base 8 "_law_raised" false 1 m_law_raised) (v_law_rule : FnV P w K mg base 4 "_law_rule" false 3 m_law_rule) (v_law_taken : FnV P w K mg base 1 "_law_taken" false 2 m_law_taken) :
    FnOk P w K mg base (L2Z.CX P w K) 9 f fd ["_law_script"] (spV K mg false 1 m_law) :=
  okVL false F sc_law hT rfl rfl fun cdv A outer s H E hT hr =>
    (vss_cons (vs_cell (i := 1) sc_law.nd (va_cons (ve_name 0) (va_cons ve_int (va_cons ve_int (va_cons ve_int va_nil)))))
      (vss_cons (vs_set (i := 2) sc_law.nd (ve_call v_law_kinds (hr.mono (by decide)) (L2Z.takes_of rfl rfl rfl rfl) (va_cons (ve_name 1) va_nil)))
      (vss_cons (vs_set (i := 3) sc_law.nd (ve_cellF (vf_list T.b_list (ve_call v_law_rule (hr.mono (by decide)) (L2Z.takes_of rfl rfl rfl rfl) (va_cons (ve_name 1) (va_cons (ve_name 2) (va_cons (ve_call v_law_pick (hr.mono (by decide)) (L2Z.takes_of rfl rfl rfl rfl) (va_cons (ve_name 1) (va_cons (VF.ve (vf_lst (va_cons ve_int (va_cons (ve_pow ve_int ve_int) va_nil)))) va_nil))) va_nil)))))))
      (vss_cons (vs_set (i := 4) sc_law.nd (VF.ve (vf_lst (va_cons (VF.ve (vf_lst (va_cons ve_str (va_cons ve_str (va_cons ve_str (va_cons ve_str va_nil)))))) (va_cons (VF.ve (vf_lst (va_cons (ve_neg ve_int) (va_cons (ve_pow ve_int ve_int) (va_cons ve_bl va_nil))))) (va_cons (VF.ve (vf_lst (va_cons (ve_sub (ve_ixA hr (ve_name 3) ve_int) ve_int) (va_cons (ve_pow ve_int ve_int) va_nil)))) (va_cons (VF.ve (vf_lst (va_cons ve_int (va_cons ve_int (va_cons ve_int (va_cons ve_int (va_cons ve_bl va_nil))))))) va_nil)))))))
      (vss_cons (vs_set (i := 4) sc_law.nd (ve_addA (ve_name 4) (VF.ve (vf_lst (va_cons (VF.ve (vf_lst (va_cons (ve_tup va_nil) (va_cons (ve_tup (va_cons (ve_ixA hr (ve_name 3) ve_int) va_nil)) (va_cons (ve_tup (va_cons ve_int (va_cons ve_int va_nil))) (va_cons (ve_tup (va_cons (ve_neg ve_int) va_nil)) (va_cons (ve_tup (va_cons ve_bl va_nil)) va_nil))))))) (va_cons (VF.ve (vf_lst (va_cons (ve_tup va_nil) (va_cons (ve_tup (va_cons ve_str (va_cons ve_str va_nil))) (va_cons (ve_tup (va_cons ve_str (va_cons ve_str va_nil))) (va_cons (ve_tup (va_cons ve_str va_nil)) va_nil)))))) va_nil))))))
      (vss_cons (vs_setCompV (i := 5) (own := [(("_law_k" : Str), 6)]) rfl sc_law.nd (vi_r1 T.b_range ve_int) (blkOk_by (N := N_law) (sc := defScope s_law) (by decide +kernel)) (by decide) (fun _ _ _ _ _ => (vg_name (i := 6) sc_law.nd)) (fun _ _ _ _ _ => (vts_one (vt_eqV hr (ve_call v_law_taken (hr.mono (by decide)) L2Z.takes0 (va_cons (ve_name 1) (va_cons ve_int va_nil))) ve_int))) (fun _ _ _ _ _ => (ve_name 6)))
      (vss_cons (vs_for [6] (passes_of rfl) rfl (vi_q (ve_name 5)) (vg_name (i := 6) sc_law.nd)
      (vss_one (vs_itemA hr (ve_call v_law_pick (hr.mono (by decide)) (L2Z.takes_of rfl rfl rfl rfl) (va_cons (ve_name 1) (va_cons (ve_ixA hr (ve_name 4) (ve_name 6)) va_nil))) (ve_name 3) (ve_name 6))))
      (vss_cons (vs_set (i := 7) sc_law.nd (VF.ve (vf_lst (va_cons ve_str (va_cons ve_str (va_cons ve_str (va_cons ve_str (va_cons ve_str (va_cons ve_str va_nil)))))))))
      (vss_cons (vs_set (i := 8) sc_law.nd (ve_if (vt_neV hr (ve_name 5) (VF.ve (vf_lst va_nil))) (ve_tup (va_cons ve_str (va_cons (ve_ixA hr (ve_name 7) (ve_ixA hr (ve_name 5) ve_int)) va_nil))) ve_non))
      (vss_cons (vs_if (vt_neV hr (ve_callH v_law_raised (hr.mono (by decide)) (L2Z.takes_of rfl rfl rfl rfl) (va_cons (ve_lam 0 hT rfl T.lam_0 fr_lam_law_0) va_nil) (jsOk_cons rfl rfl (jsOk_cons rfl rfl (jsOk_cons rfl rfl (jsOk_cons rfl rfl jsOk_nil))))) (ve_name 8))
      (vss_one (vs_ret ve_bl))
      vss_nil)
      (vss_cons (vs_set (i := 9) sc_law.nd (VF.ve (vf_comp (own := [(("_law_k" : Str), 6)]) rfl sc_law.nd (vi_r1 T.b_range (ve_call v_law_taken (hr.mono (by decide)) (L2Z.takes_of rfl rfl rfl rfl) (va_cons (ve_name 1) (va_cons ve_int va_nil)))) (blkOk_by (N := N_law) (sc := defScope s_law) (by decide +kernel)) (by decide) (fun _ _ _ _ _ => (vg_name (i := 6) sc_law.nd)) (fun _ _ _ _ _ => vts_nil) (fun _ _ _ _ _ => (ve_call v_law_rule (hr.mono (by decide)) L2Z.takes0 (va_cons (ve_name 1) (va_cons (ve_name 2) (va_cons ve_int va_nil))))))))
      (vss_cons (vs_asg (ve_tup (va_cons (ve_name 2) (va_cons ve_non va_nil))) (vg_tup rfl (vgs_cons (vg_name (i := 10) sc_law.nd) (vgs_cons (vg_name (i := 8) sc_law.nd) vgs_nil))))
      (vss_cons (vs_if (vt_oGt (ve_len1 T.b_len (ve_name 9)) ve_int)
      (vss_one (vs_set (i := 8) sc_law.nd (ve_tup (va_cons ve_str (va_cons ve_str (va_cons ve_int va_nil))))))
      vss_nil)
      (vss_cons (vs_if (vt_eqV hr (ve_call v_law_taken (hr.mono (by decide)) (L2Z.takes_of rfl rfl rfl rfl) (va_cons (ve_name 1) (va_cons ve_int va_nil))) ve_int)
      (vss_cons (vs_set (i := 10) sc_law.nd (ve_slA (ve_name 2) vo_none (vo_some (ve_call v_law_taken (hr.mono (by decide)) (L2Z.takes_of rfl rfl rfl rfl) (va_cons (ve_name 1) (va_cons (ve_addA (ve_len1 T.b_len (ve_name 2)) ve_int) va_nil))))))
      (vss_cons (vs_set (i := 11) sc_law.nd (VF.ve (vf_comp (own := [(("_law_k" : Str), 6)]) rfl sc_law.nd (vi_r1 T.b_range (ve_len1 T.b_len (ve_name 9))) (blkOk_by (N := N_law) (sc := defScope s_law) (by decide +kernel)) (by decide) (fun _ _ _ _ _ => (vg_name (i := 6) sc_law.nd)) (fun _ _ _ _ _ => (vts_one (vt_neV hr (VF.ve (vf_comp (own := [(("_law_kind" : Str), 12)]) rfl sc_law.nd (vi_q (ve_ixA hr (ve_ixA hr (ve_name 9) (ve_name 6)) ve_int)) (blkOk_by (N := N_law) (by kernel_rfl)) (by decide) (fun _ _ _ _ _ => (vg_name (i := 12) sc_law.nd)) (fun _ _ _ _ _ => (vts_one (vt_notinA hr (ve_name 12) (ve_name 10)))) (fun _ _ _ _ _ => (ve_name 12)))) (VF.ve (vf_lst va_nil))))) (fun _ _ _ _ _ => (ve_name 6)))))
      (vss_cons (vs_set (i := 8) sc_law.nd (ve_if (vt_neV hr (ve_name 11) (VF.ve (vf_lst va_nil))) (ve_tup (va_cons ve_str (va_cons ve_str (va_cons (ve_min1 rfl T.b_min (ve_addA (ve_name 11) (VF.ve (vf_lst (va_cons ve_int va_nil))))) va_nil)))) (ve_name 8)))
      (vss_one (vs_set (i := 8) sc_law.nd (ve_if (vt_eqV hr (ve_name 10) (ve_tup va_nil)) (ve_tup (va_cons ve_str (va_cons ve_str (va_cons ve_int va_nil)))) (ve_name 8)))))))
      vss_nil)
      (vss_cons (vs_if (vt_neV hr (ve_callH v_law_raised (hr.mono (by decide)) (L2Z.takes_of rfl rfl rfl rfl) (va_cons (ve_lam 1 hT rfl T.lam_1 fr_lam_law_1) va_nil) (jsOk_cons rfl rfl (jsOk_cons rfl rfl (jsOk_cons rfl rfl (jsOk_cons rfl rfl jsOk_nil))))) (ve_name 8))
      (vss_one (vs_ret ve_bl))
      vss_nil)
      (vss_cons (vs_set (i := 11) sc_law.nd (VF.ve (vf_lst (va_cons (ve_tup (va_cons (ve_tup (va_cons ve_str (va_cons ve_str va_nil))) (va_cons ve_int va_nil))) (va_cons (ve_tup (va_cons (ve_tup (va_cons ve_str (va_cons ve_str va_nil))) (va_cons ve_int va_nil))) (va_cons (ve_tup (va_cons (ve_tup (va_cons ve_str (va_cons ve_str (va_cons ve_str (va_cons ve_str (va_cons ve_str va_nil)))))) (va_cons ve_int va_nil))) (va_cons (ve_tup (va_cons (ve_tup (va_cons ve_str (va_cons ve_str va_nil))) (va_cons ve_int va_nil))) va_nil)))))))
      (vss_cons (vs_set (i := 11) sc_law.nd (ve_call v_law_pick (hr.mono (by decide)) (L2Z.takes_of rfl rfl rfl rfl) (va_cons (ve_name 1) (va_cons (ve_name 11) va_nil))))
      (vss_cons (vs_if (vt_neV hr (ve_callH v_law_raised (hr.mono (by decide)) (L2Z.takes_of rfl rfl rfl rfl) (va_cons (ve_lam 2 hT rfl T.lam_2 fr_lam_law_2) va_nil) (jsOk_cons rfl rfl (jsOk_cons rfl rfl (jsOk_cons rfl rfl (jsOk_cons rfl rfl jsOk_nil))))) (ve_tup (va_cons ve_str (va_cons ve_str (va_cons (ve_ixA hr (ve_name 11) ve_int) va_nil)))))
      (vss_one (vs_ret ve_bl))
      vss_nil)
      (vss_one (vs_ret (ve_or (ve_notN (ve_name 8) ve_non) (ve_one (ve_call v_law_is_told (hr.mono (by decide)) (L2Z.takes_of rfl rfl rfl rfl) (va_cons (ve_name 10) (va_cons (ve_name 9) va_nil)))))))))))))))))))))))))
end
end
end VP
namespace VP
local instance inst_SP1 : VE.VEnv := VE.VEnv.dummy
open PySem PySem.Spec PyProof.Rows L2 VE
open SX (S S_len S_cat S_inj)
section
variable {r : Rul} {b : Bok} {st : Sto} {n : Int} {k : Str}
@[simp] theorem sp_piece : m_Rule_piece [r.d] st = .ok (.str r.piece) st := by
  simp [m_Rule_piece, b_Rule_piece, toF_def, env0, Rul.d]
@[simp] theorem sp_low : m_Rule_low [r.d] st = .ok (.int r.low) st := by
  simp [m_Rule_low, b_Rule_low, toF_def, env0, Rul.d]
@[simp] theorem sp_high : m_Rule_high [r.d] st = .ok (.int r.high) st := by
  simp [m_Rule_high, b_Rule_high, toF_def, env0, Rul.d]
@[simp] theorem sp_modulus : m_Rule_modulus [r.d] st = .ok (.int r.modulus) st := by
  simp [m_Rule_modulus, b_Rule_modulus, toF_def, env0, Rul.d]
@[simp] theorem sp_rests : m_Rule_rests [r.d] st = .ok (.tup (r.rests.map .int)) st := by
  simp [m_Rule_rests, b_Rule_rests, toF_def, env0, Rul.d]
@[simp] theorem sp_kinds : m_Rule_kinds [r.d] st = .ok (.tup (r.kinds.map .str)) st := by
  simp [m_Rule_kinds, b_Rule_kinds, toF_def, env0, Rul.d]
@[simp] theorem sp_bkinds : m_Book_kinds [b.d] st = .ok (.tup (b.kinds.map .str)) st := by
  simp [m_Book_kinds, b_Book_kinds, toF_def, env0, Bok.d]
@[simp] theorem sp_brules : m_Book_rules [b.d] st = .ok (.tup (b.rules.map Rul.d)) st := by
  simp [m_Book_rules, b_Book_rules, toF_def, env0, Bok.d]

@[simp] theorem pr_rul {mf : FM} {env : EnvD} : prU "Rule" mf r.d env st = kPr3 (mf [r.d] st) env st := by
  unfold Rul.d; simp
@[simp] theorem pr_bok {mf : FM} {env : EnvD} : prU "Book" mf b.d env st = kPr3 (mf [b.d] st) env st := by
  unfold Bok.d; simp
@[simp] theorem callR_of {mf : FM} {ds : List D} {env : EnvD} : callR mf ds env st = ofRF (mf ds st) env st := x_callR
/-- the places of all rules that fit -/
def Bok.fit (b : Bok) (n : Int) (k : Str) : List Nat := (b.rules.zipIdx.filter fun p => fitsB n k p.1).map (·.2)
theorem sp_is_number {i lo hi : Int} : m_is_number [.int i, .int lo, .int hi] st = .ok (.bl (decide (lo ≤ i) && decide (i ≤ hi))) st := by
  simp only [m_is_number, b_is_number, toF_def, env0]
  by_cases h : lo ≤ i
  · simp [h]
  · simp [h]
/-- a row of the book -/
structure RowOk (b : Bok) (n : Int) (k : Str) : Prop where
  n0 : 0 ≤ n
  n1 : n ≤ LASTn
  k : k ∈ b.kinds
theorem let_in {c : Nat} (h : 97 ≤ c ∧ c < 123) : inText (S [c]) "abcdefghijklmnopqrstuvwxyz" = true := by
  have : ∀ k < 26, inText (S [97 + k]) "abcdefghijklmnopqrstuvwxyz" = true := by decide +kernel
  have := this (c - 97) (by omega)
  rwa [show 97 + (c - 97) = c from by omega] at this
theorem sp_is_word {w : Str} (h : WOk w) : m_is_word [.str w] st = .ok (.bl true) st := by
  obtain ⟨L, rfl, h1, h8, hc⟩ := h
  have h2 : (1 : Int) ≤ L.length := by omega
  have h3 : (L.length : Int) ≤ 8 := by omega
  have h4 : L.length ≤ 16777216 := by omega
  simp [m_is_word, b_is_word, toF_def, env0, lenD, k_MAX_WORD, h2, h3, h4, signs_S, S_len]
  rw [comp_all (f := fun _ => .bl true) (by omega)]
  · simp [allD, blsF_map]
  · intro c hcm
    simp [k_LETTERS, let_in (hc c hcm)]
theorem ascI_zip : ∀ {xs : List Int}, ascI xs = true → ((xs.zip xs.tail).map fun p => decide (p.1 < p.2)).all id = true
  | [], _ => rfl
  | [x], _ => rfl
  | x :: y :: xs, h => by
    simp only [ascI, List.head?_cons, Option.all_some, Bool.and_eq_true] at h
    have ih := ascI_zip (xs := y :: xs) (by simp only [ascI, Bool.and_eq_true]; exact ⟨h.2.1, h.2.2⟩)
    simp only [List.tail_cons, List.zip_cons_cons, List.map_cons, List.all_cons, id, h.1, Bool.true_and] at ih ⊢
    exact ih
theorem ascS_zip : ∀ {xs : List Str}, ascS xs = true → ((xs.zip xs.tail).map fun p => ltS p.1 p.2).all id = true
  | [], _ => rfl
  | [x], _ => rfl
  | x :: y :: xs, h => by
    simp only [ascS, List.head?_cons, Option.all_some, Bool.and_eq_true] at h
    have ih := ascS_zip (xs := y :: xs) (by simp only [ascS, Bool.and_eq_true]; exact ⟨h.2.1, h.2.2⟩)
    simp only [List.tail_cons, List.zip_cons_cons, List.map_cons, List.all_cons, id, h.1, Bool.true_and] at ih ⊢
    exact ih
theorem cut1 {xs : List D} : VE.cutD xs (some 1) none = xs.tail := by
  unfold VE.cutD
  have h2 : HT.sIx xs.length xs.length none = xs.length := rfl
  rw [h2]
  have h1 : HT.sIx xs.length 0 (some 1) = min 1 xs.length := by simp only [HT.sIx]; split <;> omega
  rw [h1, List.take_of_length_le (by simp)]
  cases xs with
  | nil => rfl
  | cons x xs => simp
theorem sp_ascendI {xs : List Int} (h : ascI xs = true) (hl : xs.length < 1000) : m_ascend [.tup (xs.map .int)] st = .ok (.bl true) st := by
  have hz := ascI_zip h
  simp [m_ascend, b_ascend, toF_def, env0, cut1, ← List.map_tail, zip_map]
  rw [comp_all (f := fun p => .bl (decide (p.1 < p.2))) (by simp; omega)]
  · simp [allD, blsF_map]
    simpa using hz
  · rintro ⟨a, b⟩ _
    simp
theorem sp_ascendS {xs : List Str} (h : ascS xs = true) (hl : xs.length < 1000) : m_ascend [.tup (xs.map .str)] st = .ok (.bl true) st := by
  have hz := ascS_zip h
  simp [m_ascend, b_ascend, toF_def, env0, cut1, ← List.map_tail, zip_map]
  rw [comp_all (f := fun p => .bl (ltS p.1 p.2)) (by simp; omega)]
  · simp [allD, blsF_map]
    simpa using hz
  · rintro ⟨a, b⟩ _
    simp

theorem sp_are_kinds {ks : List Str} (h : KOk ks) : m_are_kinds [.tup (ks.map .str)] st = .ok (.bl true) st := by
  have hl := h.len
  have hne : ks.map D.str ≠ [] := by simpa using h.ne
  have e0 : eqDs (ks.map D.str) [] = false := by
    cases hk : ks with
    | nil => exact absurd hk h.ne
    | cons => simp
  simp [m_are_kinds, b_are_kinds, toF_def, env0, h.pl, e0]
  rw [comp_all (f := fun _ => .bl true) (by omega)]
  · simp [allD, blsF_map, sp_ascendS h.asc hl]
  · intro k hk
    simp [sp_is_word (h.w k hk)]
theorem sp_are_rests {m : Int} {xs : List Int} (hne : xs ≠ []) (hin : ∀ x ∈ xs, 0 ≤ x ∧ x < m) (hasc : ascI xs = true) (hl : xs.length < 1000) : m_are_rests [.int m, .tup (xs.map .int)] st = .ok (.bl true) st := by
  have e0 : eqDs (xs.map D.int) [] = false := by
    cases hk : xs with
    | nil => exact absurd hk hne
    | cons => simp
  simp [m_are_rests, b_are_rests, toF_def, env0, e0]
  rw [comp_all (f := fun _ => .bl true) (by omega)]
  · simp [allD, blsF_map, sp_ascendI hasc hl]
  · intro k hk
    have := hin k hk
    have h2 : k ≤ m - 1 := by omega
    simp [sp_is_number, this.1, h2, subI]
theorem ascS_at : ∀ {xs : List Str} {i : Nat} {a b : Str}, ascS xs = true → xs[i]? = some a → xs[i + 1]? = some b → ltS a b = true
  | [], i, a, b, _, h1, _ => by simp at h1
  | [x], 0, a, b, _, _, h2 => by simp at h2
  | [x], i + 1, a, b, _, h1, _ => by simp at h1
  | x :: y :: xs, 0, a, b, h, h1, h2 => by
    simp only [ascS, List.head?_cons, Option.all_some, Bool.and_eq_true] at h
    simp at h1 h2; subst h1; subst h2; exact h.1
  | x :: y :: xs, i + 1, a, b, h, h1, h2 => by
    simp only [ascS, List.head?_cons, Option.all_some, Bool.and_eq_true] at h
    exact ascS_at (xs := y :: xs) (i := i) (by simp only [ascS, Bool.and_eq_true]; exact ⟨h.2.1, h.2.2⟩) (by simpa using h1) (by simpa using h2)
theorem zip_mem {α : Type} {xs : List α} {p : α × Nat} (h : p ∈ xs.zipIdx) : xs[p.2]? = some p.1 := by
  obtain ⟨a, i⟩ := p
  have := List.mem_zipIdx h
  simp at this
  obtain ⟨h1, h2⟩ := this
  rw [List.getElem?_eq_getElem h1, h2]
theorem sp_check_kinds {ks : List Str} (h : KOk ks) (h4 : ks.length ≤ 4) : m_check_kinds [.tup (ks.map .str)] st = .ok .non st := by
  have e0 : eqDs (ks.map D.str) [] = false := by
    cases hk : ks with
    | nil => exact absurd hk h.ne
    | cons => simp
  simp [m_check_kinds, b_check_kinds, toF_def, env0, enu_map]
  rw [for_fold (E := fun (_ : Unit) => [.va (.tup (ks.map .str)), .no, .no]) (step := fun _ _ => ()) (s := ())]
  · simp [h.pl, e0]
  · rintro _ ⟨k, i⟩ hm
    have hk := zip_mem hm
    have hi := (List.getElem?_eq_some_iff.mp hk).1
    have hw := h.w k (List.mem_of_getElem? hk)
    have hn4 : ¬ ((i : Int) = 4) := by simp at hi ⊢; omega
    cases i with
    | zero => simp [k_MAX_KINDS, sp_is_word hw]
    | succ i =>
      simp only at hk hi
      obtain ⟨a, ha⟩ : ∃ a, ks[i]? = some a := ⟨_, List.getElem?_eq_getElem (by omega)⟩
      have hlt := ascS_at h.asc ha hk
      have hat : atI (ks.map D.str) (i : Int) = some (.str a) := atI_nat (by rw [List.getElem?_map, ha]; rfl)
      have hat' : atI (ks.map D.str) ((i : Int) + 1 - 1) = some (.str a) := by rw [show (i : Int) + 1 - 1 = i from by omega]; exact hat
      have hp : (0 : Int) < (i : Int) + 1 := by omega
      have hn4 : ¬ ((i : Int) + 1 = 4) := by omega
      simp [hat', k_MAX_KINDS, sp_is_word hw, subI, hn4, hp, hat, hlt]

theorem sp_Rule_init (h : RulOk r) : m_Rule_init [.ref st.length, .str r.piece, .int r.low, .int r.high, .int r.modulus, .tup (r.rests.map .int), .tup (r.kinds.map .str)] (st ++ [.slo "Rule" []]) =
    .ok .non (st ++ [.slo "Rule" [.tup [.str r.piece, .int r.low, .int r.high, .int r.modulus, .tup (r.rests.map .int), .tup (r.kinds.map .str)]]]) := by
  have h1 := h.low1
  have h2 := h.high1
  unfold LASTn at h1 h2
  have hm : inV true (.int r.modulus) k_MODULI = some (.bl false) := by
    have e : k_MODULI = .tup (([1, 2, 3, 4, 6, 12] : List Int).map .int) := rfl
    rw [e, in_ints, decide_eq_true h.mod]; rfl
  have hm' : inA true (.int r.modulus) k_MODULI = fun env st => VE.ret (inV true (.int r.modulus) k_MODULI) env st := rfl
  simp [m_Rule_init, b_Rule_init, toF_def, env0, sp_is_word h.piece, sp_is_number, k_LAST, h.low0, h1, h.high0, h2, hm, hm', sp_are_rests h.rne h.rin h.rasc h.rlen, sp_are_kinds h.kinds]
theorem mk_Rule (h : RulOk r) {env : EnvD} : frzS "Rule" env st (m_Rule_init [.ref st.length, .str r.piece, .int r.low, .int r.high, .int r.modulus, .tup (r.rests.map .int), .tup (r.kinds.map .str)] (st ++ [.slo "Rule" []])) = .ok r.d env st := by
  rw [sp_Rule_init h, frzS_ok]
  · rfl
  · have := @Rul.d_rf st.length r
    simpa [Rul.d] using this
theorem sp_Book_init (h : BokOk b) : m_Book_init [.ref st.length, .tup (b.kinds.map .str), .tup (b.rules.map Rul.d)] (st ++ [.slo "Book" []]) =
    .ok .non (st ++ [.slo "Book" [.tup [.tup (b.kinds.map .str), .tup (b.rules.map Rul.d)]]]) := by
  simp [m_Book_init, b_Book_init, toF_def, env0, sp_check_kinds h.kinds h.klen, enu_map]
  rw [for_fold (E := fun (_ : Unit) => [.va (.ref st.length), .va (.tup (b.kinds.map .str)), .va (.tup (b.rules.map Rul.d)), .no, .no, .no]) (step := fun _ _ => ()) (s := ())]
  · simp
  · rintro _ ⟨r, i⟩ hm
    have hk := zip_mem hm
    have hi := (List.getElem?_eq_some_iff.mp hk).1
    have hr := List.mem_of_getElem? hk
    have hn8 : ¬ ((i : Int) = 8) := by have := h.rlen; simp at hi; omega
    simp [k_MAX_RULES, hn8]
    rw [comp_all (f := fun _ => .bl true) (by have := (h.rules r hr).kinds.len; omega)]
    · simp [allD, blsF_map]
    · intro k hk
      have h5 := in_strs (neg := false) ((h.rules r hr).kinds.ok k hk) h.kinds.ok
      have h6 : (b.kinds.any fun z => decide (z = k)) = true := by simpa using h.sub r hr k hk
      simp [h5, h6]
theorem Bok.d_rf {n : Nat} : rfB n b.d = true := by
  have h1 : rfBs n (b.kinds.map D.str) = true := rfs_all fun x hx => by obtain ⟨y, _, rfl⟩ := List.mem_map.mp hx; exact rf_str
  have h2 : rfBs n (b.rules.map Rul.d) = true := rfs_all fun x hx => by obtain ⟨y, _, rfl⟩ := List.mem_map.mp hx; exact Rul.d_rf
  simp [Bok.d, h1, h2]
theorem mk_Book (h : BokOk b) {env : EnvD} : frzS "Book" env st (m_Book_init [.ref st.length, .tup (b.kinds.map .str), .tup (b.rules.map Rul.d)] (st ++ [.slo "Book" []])) = .ok b.d env st := by
  rw [sp_Book_init h, frzS_ok]
  · rfl
  · have := @Bok.d_rf b st.length
    simpa [Bok.d] using this
end
end VP
namespace VP
local instance inst_SE1 : VE.VEnv := VE.VEnv.dummy
open PySem PySem.Spec PyProof.Rows L2 VE
open SX (S S_len S_cat S_inj)
/-- the law's row of draws: the script, where it is read, the seed, what is left -/
def drwC (ns : List Int) (p s l : Int) : Cell := .lst [.scr ns, .int p, .int s, .int l]
def DrawOk (ns : List Int) (c : Cell) : Prop := ∃ p s l, c = drwC ns p s l ∧ 0 ≤ p ∧ 0 ≤ s ∧ s < 2147483647
theorem taken {ns : List Int} {c : Cell} {rest : Sto} {many : Int} (hc : DrawOk ns c) (h0 : 0 < many) (h1 : many ≤ 10000000000000000000000000000000000000000) :
    ∃ r c', m_law_taken [.ref 0, .int many] (c :: rest) = .ok (.int r) (c' :: rest) ∧ 0 ≤ r ∧ r < many ∧ DrawOk ns c' := by
  obtain ⟨p, s, l, rfl, hp, hs0, hs1⟩ := hc
  have hd := divOk_ h0 h1
  by_cases hl : 0 < l
  · refine ⟨l % many, drwC ns p s (l / many), ?_, Int.emod_nonneg _ (by omega), Int.emod_lt_of_pos _ h0, ⟨p, s, _, rfl, hp, hs0, hs1⟩⟩
    simp [m_law_taken, b_law_taken, toF_def, env0, drwC, hl, h0, hd]
  · have hl' : ¬ (0 < l) := hl
    by_cases hq : (ns.length : Int) < p + 1
    · refine ⟨((s * 48271 + 11) % 2147483647 / 7) % many, drwC ns (p + 1) ((s * 48271 + 11) % 2147483647) l, ?_, Int.emod_nonneg _ (by omega), Int.emod_lt_of_pos _ h0, ⟨_, _, _, rfl, by omega, by omega, by omega⟩⟩
      have hm : mulOk s 48271 = true := mulOk_r (by decide)
      have hd7 : divOk 7 = true := divOk_ (by decide) (by decide)
      simp [m_law_taken, b_law_taken, toF_def, env0, drwC, hl', h0, hd, hq, hm, hd7]
    · obtain ⟨cell, hcell⟩ : ∃ cell, atI ns p = some cell := by
        rw [atI_pos hp (by omega)]
        exact ⟨ns[p.toNat]'(by omega), List.getElem?_eq_getElem (by omega)⟩
      have hm : mulOk s 48271 = true := mulOk_r (by decide)
      by_cases hbig : (1000000000000000000 : Int) ≤ cell
      · refine ⟨cell % many, drwC ns (p + 1) ((s * 48271 + cell + 11) % 2147483647) (cell / many), ?_, Int.emod_nonneg _ (by omega), Int.emod_lt_of_pos _ h0, ⟨_, _, _, rfl, by omega, by omega, by omega⟩⟩
        simp [m_law_taken, b_law_taken, toF_def, env0, drwC, hl', h0, hd, hq, hm, hcell, hbig]
      · refine ⟨cell % many, drwC ns (p + 1) ((s * 48271 + cell + 11) % 2147483647) 0, ?_, Int.emod_nonneg _ (by omega), Int.emod_lt_of_pos _ h0, ⟨_, _, _, rfl, by omega, by omega, by omega⟩⟩
        simp [m_law_taken, b_law_taken, toF_def, env0, drwC, hl', h0, hd, hq, hm, hcell, hbig]
end VP
namespace VP
local instance inst_SD4 : VE.VEnv := VE.VEnv.dummy
open PySem PySem.Spec PyProof.Rows L2 VE
open SX (S S_len S_cat S_inj)
section
variable {ns : List Int} {c : Cell} {st : Sto} {env : EnvD} {b : Bok} {n : Int} {k : Str}
end
end VP
namespace VP
local instance inst_SD5 : VE.VEnv := VE.VEnv.dummy
open PySem PySem.Spec PyProof.Rows L2 VE
open SX (S S_len S_cat S_inj)
section
variable {α : Type} {t : D → EnvD → Option EnvD} {ws : List Nat} {g : α → D} {st : Sto}
/-- a loop as a fold; a law holds from turn to turn -/
theorem for_foldP {σ : Type} {body : M Fl} (E : σ → EnvD) (step : σ → α → σ) (I : Nat → σ → Prop) : ∀ (xs : List α) (j : Nat) (s : σ), I j s → (∀ i s a, xs[i]? = some a → I (j + i) s → I (j + i + 1) (step s a) ∧ ∃ e1, t (g a) (E s) = some e1 ∧ ∃ e2, body e1 st = .ok .nx e2 st ∧ wipeD ws e2 = E (step s a)) →
    forL t ws body (xs.map g) (E s) st = .ok .nx (E (xs.foldl step s)) st ∧ I (j + xs.length) (xs.foldl step s)
  | [], j, s, h0, _ => ⟨rfl, h0⟩
  | a :: xs, j, s, h0, h => by
    obtain ⟨h4, e1, h1, e2, h2, h3⟩ := h 0 s a rfl h0
    obtain ⟨i1, i2⟩ := for_foldP E step I xs (j + 1) (step s a) h4 fun i s' b hb hI => by
      have := h (i + 1) s' b (by simpa using hb) (by rw [show j + (i + 1) = j + 1 + i from by omega]; exact hI)
      rwa [show j + (i + 1) = j + 1 + i from by omega] at this
    refine ⟨?_, by rw [show j + (a :: xs).length = j + 1 + xs.length from by simp only [List.length_cons]; omega]; exact i2⟩
    rw [List.map_cons]
    unfold forL
    rw [h1]
    dsimp only
    rw [h2, R.bind_ok]
    dsimp only
    rw [h3, i1]
    rfl
end
theorem cut0 {xs : List D} {i : Nat} (h : i ≤ xs.length) : VE.cutD xs none (some (i : Int)) = xs.take i := by
  unfold VE.cutD
  have h2 : HT.sIx xs.length 0 none = 0 := rfl
  have h1 : HT.sIx xs.length xs.length (some (i : Int)) = i := by simp only [HT.sIx]; split <;> omega
  rw [h1, h2]
  simp
/-- some rows of a book -/
structure RowsOk (b : Bok) (rows : List (Int × Str)) : Prop where
  r : ∀ p ∈ rows, RowOk b p.1 p.2
  nd : rows.Nodup
  len : rows.length ≤ 30
def nm (b : Bok) (p : Int × Str) : Str := (b.place p.1 p.2).getD ("" : Str)
section
variable {ns : List Int} {c : Cell} {rest st : Sto} {env : EnvD} {b b' : Bok} {n : Int} {k : Str} {rows : List (Int × Str)} {p : Int × Str}
theorem RowsOk.ok (hb : BokOk b) (h : RowsOk b rows) : ∀ p ∈ rows, PyData.strOk p.2 = true := fun p hp => hb.kinds.ok _ (h.r p hp).k
end
end VP
namespace VP
local instance inst_SP2 : VE.VEnv := VE.VEnv.dummy
open PySem PySem.Spec PyProof.Rows L2 VE
open SX (S S_len S_cat S_inj)
section
variable {st cs : List Cell} {d d' x : Cell} {j : Nat}
end
def mx (ns : List Int) : Int := (mxI ns).getD 0
def mn (ns : List Int) : Int := (mnI ns).getD 0
theorem mnI_some {ns : List Int} (h : ns ≠ []) : mnI ns = some (mn ns) := by
  cases ns with
  | nil => exact absurd rfl h
  | cons => rfl
theorem minD_ints {ns : List Int} (h : ns ≠ []) : minD (.lst (ns.map .int)) = some (.int (mn ns)) := by
  simp only [minD, intsOf_map, Option.bind_some, mnI_some h]; rfl
section
variable {fo fa : M D} {env : EnvD} {st : Sto} {r x : D} {ys : List D}
def kIx3 (x : D) : D → M D := fun v env st => match v with
  | .lst ys => if plain 20 x && plain 20 (.lst ys) then (match idxD x ys 0 with
      | some j => .ok (.int (j : Nat)) env st
      | none => .bad) else .bad
  | _ => .bad
def kIx2 (r : D) : D → M D := fun x env st => kIx3 x (vw st r) env st
def kIx1 (fa : M D) : D → M D := fun r env st => match vw st r with
  | .lst _ => (fa env st).bind (kIx2 r)
  | _ => .bad
@[simp] theorem x_eIdx : eIdx fo fa env st = (fo env st).bind (kIx1 fa) := rfl
@[simp] theorem x_kIx1 : kIx1 fa (.lst ys) env st = (fa env st).bind (kIx2 (.lst ys)) := rfl
@[simp] theorem x_kIx2 : kIx2 (.lst ys) x env st = kIx3 x (.lst ys) env st := rfl
end
/-- the names met, the first time that each is met -/
def fk {α : Type} (f : α → Str) (xs : List α) : List Str := xs.foldl (fun ks p => if f p ∈ ks then ks else ks ++ [f p]) []
section
variable {f : Str → D} {k0 : Str} {y : D}
end
section
variable {st : Sto} {env : EnvD} {b : Bok} {n : Int} {k : Str} {rows : List (Int × Str)} {p : Int × Str}
/-- a book's pieces, in order -/
def pcs (b : Bok) : List Str := (uK (b.rules.map fun r => .inr r.piece)).filterMap fun | .inr s => some s | .inl _ => none
theorem keyD_strs : ∀ {ks : List Key}, (∀ k ∈ ks, ∃ s, k = .inr s) → ks.map keyD = (ks.filterMap fun | .inr s => some s | .inl _ => none).map D.str
  | [], _ => rfl
  | k :: ks, h => by
    obtain ⟨s, rfl⟩ := h k List.mem_cons_self
    rw [List.map_cons, keyD_strs fun k hk => h k (List.mem_cons_of_mem _ hk)]
    rfl
theorem sset_strs {xs : List Str} (h : xs.length < 4000) : ssetD (.lst (xs.map .str)) = some (.lst (((uK (xs.map .inr)).filterMap fun | .inr s => some s | .inl _ => none).map .str)) := by
  unfold ssetD
  have h1 : (xs.map D.str).all isStr = true := by simp [isStr]
  have h2 : (xs.map D.str).map key1 = xs.map .inr := by rw [List.map_map]; rfl
  dsimp only
  rw [if_pos (by simp [h1]; omega), h2, keyD_strs]
  intro k hk
  have := uK_mem.mp hk
  obtain ⟨s, _, rfl⟩ := List.mem_map.mp this
  exact ⟨s, rfl⟩
theorem sset_pcs (hb : BokOk b) : ssetD (.lst (b.rules.map fun r => .str r.piece)) = some (.lst ((pcs b).map .str)) := by
  have := sset_strs (xs := b.rules.map (·.piece)) (by have := hb.rlen; simp; omega)
  rw [List.map_map, List.map_map] at this
  exact this
theorem mem_pcs {s : Str} : s ∈ pcs b ↔ ∃ r ∈ b.rules, r.piece = s := by
  unfold pcs
  rw [List.mem_filterMap]
  constructor
  · rintro ⟨k, hk, e⟩
    obtain ⟨r, hr, rfl⟩ := List.mem_map.mp (uK_mem.mp hk)
    simp at e
    exact ⟨r, hr, e⟩
  · rintro ⟨r, hr, rfl⟩
    exact ⟨.inr r.piece, uK_mem.mpr (List.mem_map.mpr ⟨r, hr, rfl⟩), rfl⟩
theorem sp_pieces (hb : BokOk b) : m_Book_pieces [b.d] st = .ok (.lst ((pcs b).map .str)) st := by
  simp [m_Book_pieces, b_Book_pieces, toF_def, env0]
  rw [comp_all (f := fun r => .str r.piece) (by have := hb.rlen; omega)]
  · simp [sset_pcs hb]
  · intro r hr
    simp
end
end VP
namespace VP
local instance inst_SP3 : VE.VEnv := VE.VEnv.dummy
open PySem PySem.Spec PyProof.Rows L2 VE
open SX (S S_len S_cat S_inj)
structure Cel where
  first : Int
  count : Int
  kind : Str
def Cel.d (c : Cel) : D := .ino "Cell" ["first", "count", "kind"] [.int c.first, .int c.count, .str c.kind]
section
variable {env : EnvD} {st : Sto} {c : Cel}
end
section
variable {st : Sto} {env : EnvD} {b : Bok} {n : Int} {k : Str} {ks : List Str} {ends : List Int} {p : Int × Int}
end
end VP
namespace VP
local instance inst_SP4 : VE.VEnv := VE.VEnv.dummy
open PySem PySem.Spec PyProof.Rows L2 VE
open SX (S S_len S_cat S_inj)
section
variable {α : Type} {t : D → EnvD → Option EnvD} {ws : List Nat} {g : α → D} {st : Sto} {tt : M Bool} {fe : M D}
end
section
variable {st cs : List Cell} {x : Cell} {j : Nat}
end
section
variable {st : Sto} {env : EnvD} {b : Bok} {n : Int} {k : Str} {m : Int}
end
end VP
namespace VP
local instance inst_SP5 : VE.VEnv := VE.VEnv.dummy
open PySem PySem.Spec PyProof.Rows L2 VE
open SX (S S_len S_cat S_inj)
/-- a list of stretches, from lo on, one behind the other, to the last number -/
inductive Chain : Int → List (Int × Int) → Prop
  | one {lo : Int} : lo ≤ LASTn → Chain lo [(lo, LASTn)]
  | cons {lo hi : Int} {l : List (Int × Int)} : lo ≤ hi → Chain (hi + 1) l → Chain lo ((lo, hi) :: l)
theorem chain_of : ∀ {cuts : List Int} {c : Int}, (c :: cuts).Pairwise (· < ·) → (∀ x ∈ c :: cuts, x ≤ LASTn) → Chain c ((c :: cuts).zip (cuts.map (fun c => c - 1) ++ [LASTn]))
  | [], c, _, h => .one (h c List.mem_cons_self)
  | d :: ds, c, a, h => by
    obtain ⟨a1, a2⟩ := List.pairwise_cons.mp a
    have hd := a1 d List.mem_cons_self
    have ih := chain_of a2 fun x hx => h x (List.mem_cons_of_mem _ hx)
    simp only [List.map_cons, List.cons_append, List.zip_cons_cons]
    refine .cons (by omega) ?_
    rw [show d - 1 + 1 = d from by omega]
    exact ih
section
variable {b : Bok} {n m lo hi : Int} {k : Str} {p : Option Str}
end
end VP
namespace VP
local instance inst_SP6 : VE.VEnv := VE.VEnv.dummy
open PySem PySem.Spec PyProof.Rows L2 VE
open SX (S S_len S_cat S_inj)
section
variable {b : Bok} {n m lo hi : Int} {k : Str} {p : Option Str}
end
end VP
namespace VP
local instance inst_SP7 : VE.VEnv := VE.VEnv.dummy
open PySem PySem.Spec PyProof.Rows L2 VE
open SX (S S_len S_cat S_inj)
section
variable {b : Bok} {n m lo hi : Int} {k : Str} {p : Option Str}
theorem Chain.ne {l : List (Int × Int)} (c : Chain lo l) : lo ≤ LASTn := by
  induction c with
  | one h => exact h
  | cons h _ ih => omega
end
end VP
namespace VP
local instance inst_SE2 : VE.VEnv := VE.VEnv.dummy
open PySem PySem.Spec PyProof.Rows L2 VE
open SX (S S_len S_cat S_inj)
def Q1 : List Str := ["cup"]
def Q2 : List Str := ["cup", "dish"]
def Q3 : List Str := ["cup", "dish", "pan"]
def Q4 : List Str := ["cup", "dish", "pan", "pot"]
def KB (ks : List Str) : Prop := ks = Q1 ∨ ks = Q2 ∨ ks = Q3 ∨ ks = Q4
theorem wof {L : List Nat} (h : ∀ c ∈ L, 97 ≤ c ∧ c < 123) (h1 : 1 ≤ L.length) (h8 : L.length ≤ 8) {x : Str} (e : x = S L) : WOk x := ⟨L, e, h1, h8, h⟩
theorem w_cup : WOk "cup" := wof (L := [99, 117, 112]) (by decide) (by decide) (by decide) rfl
theorem w_dish : WOk "dish" := wof (L := [100, 105, 115, 104]) (by decide) (by decide) (by decide) rfl
theorem w_pan : WOk "pan" := wof (L := [112, 97, 110]) (by decide) (by decide) (by decide) rfl
theorem w_pot : WOk "pot" := wof (L := [112, 111, 116]) (by decide) (by decide) (by decide) rfl
theorem w_ant : WOk "ant" := wof (L := [97, 110, 116]) (by decide) (by decide) (by decide) rfl
theorem w_bee : WOk "bee" := wof (L := [98, 101, 101]) (by decide) (by decide) (by decide) rfl
theorem w_cat : WOk "cat" := wof (L := [99, 97, 116]) (by decide) (by decide) (by decide) rfl
theorem w_doe : WOk "doe" := wof (L := [100, 111, 101]) (by decide) (by decide) (by decide) rfl
theorem KB.ok {ks : List Str} (h : KB ks) : KOk ks := by
  rcases h with rfl | rfl | rfl | rfl
  · exact ⟨by simp [Q1], by simp [Q1]; exact w_cup, by decide, by decide⟩
  · exact ⟨by simp [Q2], by simp [Q2]; exact ⟨w_cup, w_dish⟩, by decide, by decide⟩
  · exact ⟨by simp [Q3], by simp [Q3]; exact ⟨w_cup, w_dish, w_pan⟩, by decide, by decide⟩
  · exact ⟨by simp [Q4], by simp [Q4]; exact ⟨w_cup, w_dish, w_pan, w_pot⟩, by decide, by decide⟩
theorem KB.asc {ks : List Str} (h : KB ks) : ks.Pairwise fun x y => ltS x y = true := by
  rcases h with rfl | rfl | rfl | rfl <;> decide
theorem KB.len {ks : List Str} (h : KB ks) : ks.length ≤ 4 := by
  rcases h with rfl | rfl | rfl | rfl <;> decide
section
variable {ns : List Int} {c : Cell} {rest st : Sto} {env : EnvD}
theorem law_kinds (hc : DrawOk ns c) : ∃ ks c', m_law_kinds [.ref 0] (c :: rest) = .ok (.tup (ks.map .str)) (c' :: rest) ∧ KB ks ∧ DrawOk ns c' := by
  obtain ⟨r, c', e, h0, h1, hc'⟩ := taken (rest := rest) (many := 4) hc (by decide) (by decide)
  have : r = 0 ∨ r = 1 ∨ r = 2 ∨ r = 3 := by omega
  rcases this with rfl | rfl | rfl | rfl
  · exact ⟨Q1, c', by simp [m_law_kinds, b_law_kinds, toF_def, env0, e]; rfl, .inl rfl, hc'⟩
  · exact ⟨Q2, c', by simp [m_law_kinds, b_law_kinds, toF_def, env0, e]; rfl, .inr (.inl rfl), hc'⟩
  · exact ⟨Q3, c', by simp [m_law_kinds, b_law_kinds, toF_def, env0, e]; rfl, .inr (.inr (.inl rfl)), hc'⟩
  · exact ⟨Q4, c', by simp [m_law_kinds, b_law_kinds, toF_def, env0, e]; rfl, .inr (.inr (.inr rfl)), hc'⟩
theorem pickL {xs : List D} (hne : xs ≠ []) (hl : xs.length ≤ 100000) (hc : DrawOk ns c) : ∃ x c', m_law_pick [.ref 0, .lst xs] (c :: rest) = .ok x (c' :: rest) ∧ x ∈ xs ∧ DrawOk ns c' := by
  have hp : 0 < xs.length := List.length_pos_iff.mpr hne
  obtain ⟨r, c', e, h0, h1, hc'⟩ := taken (rest := rest) (many := (xs.length : Int)) hc (by omega) (by omega)
  obtain ⟨x, hx⟩ : ∃ x, xs[r.toNat]? = some x := ⟨_, List.getElem?_eq_getElem (by omega)⟩
  have h4 : atI xs r = some x := by rw [show r = (r.toNat : Int) from by omega]; exact atI_nat hx
  exact ⟨x, c', by simp [m_law_pick, b_law_pick, toF_def, env0, e, h4], List.mem_of_getElem? hx, hc'⟩
theorem some_drawn {α : Type} {g : α → D} {xs : List α} {v : D} (hv : v = .lst (xs.map g) ∨ v = .tup (xs.map g)) (hne : xs ≠ []) (hl : xs.length ≤ 100000) (hp : ∀ x ∈ xs, ∀ n, plain (n + 1) (g x) = true) (hc : DrawOk ns c) :
    ∃ (ys : List α) (c' : Cell), m_law_some [.ref 0, v] (c :: rest) = .ok (.tup (ys.map g)) (c' :: rest) ∧ ys ≠ [] ∧ ys.Sublist xs ∧ DrawOk ns c' := by
  obtain ⟨ys, st', h1, ⟨c1, rfl, hc1⟩, h3⟩ := comp_draw (t := gN 3) (ws := [3]) (tt := eT (eBin (sv2 eqP) (eCall m_law_taken 2 (eCons (eVar 0) (eCons (eC (.int 2)) (eNil)))) (eC (.int 0)))) (fe := eVar 3) (g := g) (E0 := [.va (.ref 0), .va v, .no, .no]) (fun st => ∃ c', st = c' :: rest ∧ DrawOk ns c') xs [] [.va (.ref 0), .va v, .no, .no] (c :: rest) rfl ⟨c, rfl, hc⟩ (by simp; omega) (by
    rintro x st hx ⟨c1, rfl, hc1⟩
    obtain ⟨r, c2, e1, _, _, hc2⟩ := taken (rest := rest) (many := 2) hc1 (by decide) (by decide)
    refine ⟨_, rfl, decide (r = 0), [.va (.ref 0), .va v, .no, .va (g x)], c2 :: rest, ?_, ⟨c2, rfl, hc2⟩, rfl, [.va (.ref 0), .va v, .no, .va (g x)], ?_, rfl⟩
    · simp [e1]
    · simp)
  rw [List.nil_append] at h3
  obtain ⟨x, c2, e2, hx, hc2⟩ := pickL (rest := rest) (xs := xs.map g) (by simpa using hne) (by simpa using hl) hc1
  obtain ⟨x0, hx0, rfl⟩ := List.mem_map.mp hx
  cases ys with
  | nil =>
    refine ⟨[x0], c2, ?_, by simp, List.singleton_sublist.mpr hx0, hc2⟩
    rcases hv with rfl | rfl
    · simp at h3
      simp [m_law_some, b_law_some, toF_def, env0, h3, listD, e2]
    · simp at h3
      simp [m_law_some, b_law_some, toF_def, env0, h3, listD, e2]
  | cons y ys =>
    have hy := hp y (h1.subset List.mem_cons_self) 18
    have hys : plains 19 (ys.map g) = true := pls_map fun z hz => hp z (h1.subset (List.mem_cons_of_mem _ hz)) 18
    refine ⟨y :: ys, c1, ?_, by simp, h1, hc1⟩
    rcases hv with rfl | rfl
    · simp at h3
      simp [m_law_some, b_law_some, toF_def, env0, h3, hy, hys]
    · simp at h3
      simp [m_law_some, b_law_some, toF_def, env0, h3, hy, hys]
def Rul.pt (r : Rul) : D := .tup [.str r.piece, .int r.low, .int r.high, .int r.modulus, .tup (r.rests.map .int), .tup (r.kinds.map .str)]
structure RulB (ks : List Str) (far : Int) (r : Rul) : Prop where
  ok : RulOk r
  sub : ∀ k ∈ r.kinds, k ∈ ks
  hi : r.high < far
  pc : r.piece = "ant" ∨ r.piece = "bee" ∨ r.piece = "cat" ∨ r.piece = "doe"
theorem law_rule {ks : List Str} {far : Int} (hk : KB ks) (f0 : 0 < far) (f1 : far ≤ 1000000000000000000000000000000) (hc : DrawOk ns c) :
    ∃ r c', m_law_rule [.ref 0, .tup (ks.map .str), .int far] (c :: rest) = .ok (Rul.pt r) (c' :: rest) ∧ RulB ks far r ∧ DrawOk ns c' := by
  obtain ⟨low, c1, e1, l0, l1, hc1⟩ := taken (rest := rest) (many := far) hc f0 (by omega)
  obtain ⟨wd, c2, e2, hw, hc2⟩ := pickL (rest := rest) (xs := [D.int (far - low), D.int (1 + (far - low) / 3)]) (by simp) (by simp) hc1
  obtain ⟨w, rfl, hw0, hw1⟩ : ∃ w, wd = .int w ∧ 0 < w ∧ w ≤ far - low := by
    simp at hw
    rcases hw with rfl | rfl
    · exact ⟨_, rfl, by omega, by omega⟩
    · exact ⟨_, rfl, by omega, by omega⟩
  obtain ⟨up, c3, e3, u0, u1, hc3⟩ := taken (rest := rest) (many := w) hc2 hw0 (by omega)
  obtain ⟨md, c4, e4, hmm, hc4⟩ := pickL (rest := rest) (xs := [D.int 1, D.int 1, D.int 2, D.int 3, D.int 4, D.int 6, D.int 12]) (by simp) (by simp) hc3
  obtain ⟨m, rfl, hm⟩ : ∃ m, md = .int m ∧ m ∈ [1, 2, 3, 4, 6, 12] := by
    simp at hmm
    rcases hmm with rfl | rfl | rfl | rfl | rfl | rfl <;> exact ⟨_, rfl, by decide⟩
  have hm0 : 0 < m := by simp at hm; omega
  have hm12 : m ≤ 12 := by simp at hm; omega
  obtain ⟨xs, c5, e5, xne, xsub, hc5⟩ := some_drawn (rest := rest) (g := D.int) (xs := (List.range m.toNat).map fun i => 0 + ((i : Nat) : Int)) (v := .lst (rngD 0 m.toNat)) (.inl (by rw [rng_map])) (by simp; omega) (by simp; omega) (fun _ _ _ => pl_int) hc4
  obtain ⟨pc, c6, e6, hpc, hc6⟩ := pickL (rest := rest) (xs := [D.str ("ant" : Str), D.str ("bee" : Str), D.str ("cat" : Str), D.str ("doe" : Str)]) (by simp) (by simp) hc5
  obtain ⟨p, rfl, hp, hpn⟩ : ∃ p : Str, pc = .str p ∧ WOk p ∧ (p = "ant" ∨ p = "bee" ∨ p = "cat" ∨ p = "doe") := by
    simp at hpc
    rcases hpc with rfl | rfl | rfl | rfl
    · exact ⟨_, rfl, w_ant, .inl rfl⟩
    · exact ⟨_, rfl, w_bee, .inr (.inl rfl)⟩
    · exact ⟨_, rfl, w_cat, .inr (.inr (.inl rfl))⟩
    · exact ⟨_, rfl, w_doe, .inr (.inr (.inr rfl))⟩
  have hkl := hk.len
  obtain ⟨k2, c7, e7, kne, ksub, hc7⟩ := some_drawn (rest := rest) (g := D.str) (xs := ks) (v := .tup (ks.map .str)) (.inr rfl) hk.ok.ne (by omega) (fun x hx n => by rw [pl_str]; exact hk.ok.ok x hx) hc6
  have hLA : LASTn = 999999999999999999999999999999 := rfl
  refine ⟨⟨p, low, low + up, m, xs, k2⟩, c7, ?_, ⟨⟨hp, l0, by show low ≤ LASTn; omega, by show low ≤ low + up; omega, by show low + up ≤ LASTn; omega, hm, xne, fun x hx => ?_, ascI_sub xsub rng_asc, ?_, ⟨kne, fun k hk' => hk.ok.w k (ksub.subset hk'), ascS_sub ksub hk.asc, ?_⟩⟩, fun k hk' => ksub.subset hk', by show low + up < far; omega, hpn⟩, hc7⟩
  · have d3 : divOk 3 = true := divOk_ (by decide) (by decide)
    have hm' : m ≤ 16777216 := by omega
    simp [m_law_rule, b_law_rule, toF_def, env0, e1, e2, e3, e4, d3, e5, e6, e7, hm', Int.le_of_lt hm0, Rul.pt]
  · have := xsub.subset hx
    simp at this
    obtain ⟨i, hi, rfl⟩ := this
    show 0 ≤ (i : Int) ∧ (i : Int) < m
    omega
  · have := xsub.length_le
    simp at this
    show xs.length < 1000
    omega
  · have := ksub.length_le
    show k2.length < 1000
    omega
/-- a comprehension of what is drawn -/
theorem comp_gen {α β : Type} {t : D → EnvD → Option EnvD} {ws : List Nat} {tt : M Bool} {fe : M D} {g : α → D} {f : β → D} {E0 : EnvD} (Ok : Sto → Prop) (P : β → Prop) : ∀ (xs : List α) (acc : List D) (env : EnvD) (st : Sto), wipeD ws env = E0 → Ok st → acc.length + xs.length < 16777216 →
    (∀ a st, a ∈ xs → Ok st → ∃ e1, t (g a) E0 = some e1 ∧ ∃ e2, tt e1 st = .ok true e2 st ∧ ∃ y e3 st3, fe e2 st = .ok (f y) e3 st3 ∧ P y ∧ Ok st3 ∧ wipeD ws e3 = E0) →
    ∃ (ys : List β) (st' : Sto), compL t ws tt fe (xs.map g) acc env st = .ok (.lst (acc ++ ys.map f)) E0 st' ∧ ys.length = xs.length ∧ (∀ y ∈ ys, P y) ∧ Ok st'
  | [], acc, env, st, h0, hk, _, _ => ⟨[], st, by simp [compL, h0], rfl, by simp, hk⟩
  | a :: xs, acc, env, st, h0, hk, hl, h => by
    obtain ⟨e1, h1, e2, h2, y, e3, st3, h3, hP, hk3, h4⟩ := h a st List.mem_cons_self hk
    simp only [List.length_cons] at hl
    obtain ⟨ys, st', i1, i2, i3, i4⟩ := comp_gen Ok P xs (acc ++ [f y]) e3 st3 h4 hk3 (by simp; omega) fun b st hb => h b st (List.mem_cons_of_mem a hb)
    refine ⟨y :: ys, st', ?_, by simp [i2], ?_, i4⟩
    · rw [List.map_cons]
      unfold compL
      rw [h0, h1]
      dsimp only
      rw [h2]
      dsimp only
      rw [h3]
      dsimp only
      rw [if_pos (by omega), i1]
      simp
    · intro z hz
      rcases List.mem_cons.mp hz with rfl | hz
      · exact hP
      · exact i3 z hz
structure RulsB (ks : List Str) (rs : List Rul) : Prop where
  ok : ∀ r ∈ rs, RulOk r
  sub : ∀ r ∈ rs, ∀ k ∈ r.kinds, k ∈ ks
  len : rs.length ≤ 8
theorem RulsB.bok {ks : List Str} {rs : List Rul} (hk : KB ks) (h : RulsB ks rs) : BokOk ⟨ks, rs⟩ := ⟨hk.ok, hk.len, h.ok, h.len, h.sub⟩
@[simp] theorem pt_at0 {r : Rul} : ixA r.pt (.int 0) env st = .ok (.str r.piece) env st := rfl
@[simp] theorem pt_at1 {r : Rul} : ixA r.pt (.int 1) env st = .ok (.int r.low) env st := rfl
@[simp] theorem pt_at2 {r : Rul} : ixA r.pt (.int 2) env st = .ok (.int r.high) env st := rfl
@[simp] theorem pt_at3 {r : Rul} : ixA r.pt (.int 3) env st = .ok (.int r.modulus) env st := rfl
@[simp] theorem pt_at4 {r : Rul} : ixA r.pt (.int 4) env st = .ok (.tup (r.rests.map .int)) env st := rfl
@[simp] theorem pt_at5 {r : Rul} : ixA r.pt (.int 5) env st = .ok (.tup (r.kinds.map .str)) env st := rfl
theorem law_book {ks : List Str} {rs : List Rul} (hk : KB ks) (h : RulsB ks rs) : m_law_book [.tup (ks.map .str), .lst (rs.map Rul.pt)] st = .ok (Bok.d ⟨ks, rs⟩) st := by
  have hl := h.len
  have H := for_foldP (st := st) (t := gN 3) (ws := [3]) (g := Rul.pt) (body := (sApp 2 appD (eMakeZ "Rule" m_Rule_init 7 (eCons (eBin ixA (eVar 3) (eC (.int 0))) (eCons (eBin ixA (eVar 3) (eC (.int 1))) (eCons (eBin ixA (eVar 3) (eC (.int 2))) (eCons (eBin ixA (eVar 3) (eC (.int 3))) (eCons (eBin ixA (eVar 3) (eC (.int 4))) (eCons (eBin ixA (eVar 3) (eC (.int 5))) (eNil))))))))))
    (E := fun (acc : List D) => [.va (.tup (ks.map .str)), .va (.lst (rs.map Rul.pt)), .ow (.lst acc), .no]) (fun (acc : List D) (r : Rul) => acc ++ [r.d]) (fun j acc => acc.length ≤ j) rs 0 [] (by simp) (by
      intro i acc r hr hI
      have hi := (List.getElem?_eq_some_iff.mp hr).1
      have mk := fun env => mk_Rule (st := st) (env := env) (h.ok r (List.mem_of_getElem? hr))
      have : acc.length < 16777216 := by omega
      refine ⟨by simp; omega, _, rfl, ?_⟩
      simp [mk, this])
  have fs : ∀ (xs : List Rul) (acc : List D), xs.foldl (fun acc r => acc ++ [r.d]) acc = acc ++ xs.map Rul.d := by
    intro xs
    induction xs with
    | nil => simp
    | cons x xs ih => intro acc; rw [List.foldl_cons, ih]; simp
  rw [fs, List.nil_append] at H
  have mk := fun env => mk_Book (st := st) (env := env) (h.bok hk)
  simp [m_law_book, b_law_book, toF_def, env0, H.1]
  simp at mk
  simp [mk]
end
end VP
namespace VP
local instance inst_SE3 : VE.VEnv := VE.VEnv.dummy
open PySem PySem.Spec PyProof.Rows L2 VE
open SX (S S_len S_cat S_inj)
def Rul.mv (r : Rul) (n : Int) : Rul := ⟨r.piece, r.low + n, r.high + n, r.modulus, r.rests, r.kinds⟩
section
variable {ns : List Int} {c : Cell} {rest st : Sto} {env : EnvD} {b : Bok} {r : Rul} {n : Int} {k : Str} {ks : List Str} {rs : List Rul}
/-- the pieces of all rules that fit -/
def told (b : Bok) (n : Int) (k : Str) : List Str := (b.fit n k).map fun i => ((b.rules[i]?).map (·.piece)).getD ("" : Str)
end
end VP
namespace VP
local instance inst_SP8 : VE.VEnv := VE.VEnv.dummy
open PySem PySem.Spec PyProof.Rows L2 VE
open SX (S S_len S_cat S_inj)
section
variable {st : Sto} {env : EnvD} {b : Bok} {n lo hi : Int} {k : Str} {p : Option Str}
end
end VP
namespace VP
local instance inst_SP9 : VE.VEnv := VE.VEnv.dummy
open PySem PySem.Spec PyProof.Rows L2 VE
open SX (S S_len S_cat S_inj)
section
variable {t : D → EnvD → Option EnvD} {ws : List Nat} {body : M Fl} {E0 : EnvD}
end
section
variable {ns : List Int} {c : Cell} {rest st : Sto} {env : EnvD} {b b' : Bok} {r : Rul} {n w : Int} {k : Str} {ks : List Str} {rs : List Rul} {p : Option Str}
theorem RulsB.mv (h : RulsB ks rs) (hw : 0 ≤ w) (hh : ∀ r ∈ rs, r.high + 12 * w ≤ LASTn) : RulsB ks (rs.map fun r => r.mv (12 * w)) := by
  have hLA : LASTn = 999999999999999999999999999999 := rfl
  refine ⟨fun r hr => ?_, fun r hr => ?_, by have := h.len; simpa using this⟩
  · obtain ⟨x, hx, rfl⟩ := List.mem_map.mp hr
    have o := h.ok x hx
    have hi := hh x hx
    have := o.low0
    have := o.high0
    exact ⟨o.piece, by show 0 ≤ x.low + 12 * w; omega, by show x.low + 12 * w ≤ LASTn; omega, by show x.low + 12 * w ≤ x.high + 12 * w; omega, by show x.high + 12 * w ≤ LASTn; omega, o.mod, o.rne, o.rin, o.rasc, o.rlen, o.kinds⟩
  · obtain ⟨x, hx, rfl⟩ := List.mem_map.mp hr
    exact h.sub x hx
end
end VP
namespace VP
local instance inst_SC1 : VE.VEnv := VE.VEnv.dummy
open PySem PySem.Spec PyProof.Rows L2 VE
open SX (S S_len S_cat S_inj)
section
variable {α β : Type} {f g : α → Int} {xs ys : List α}
end
section
variable {ks : List Str} {P P' : Int → Str → Bool} {lo hi : Int} {ends : List Int} {b : Bok} {p : Option Str}
end
end VP
namespace VP
local instance inst_SC2 : VE.VEnv := VE.VEnv.dummy
open PySem PySem.Spec PyProof.Rows L2 VE
open SX (S S_len S_cat S_inj)
@[simp] theorem toRFe_ok {d : D} {e : EnvD} {st : Sto} : toRFe (.ok d e st) = .ok d st := rfl
@[simp] theorem capS_some {d : D} : capS (some d) = .va d := rfl
@[simp] theorem capS_none : capS none = .no := rfl
@[simp] theorem x_eFn {i : Nat} {cells : List (Str × Addr)} {env : EnvD} {st : Sto} : eFn i cells env st = .ok (.fn (.lam i cells)) env st := rfl
@[simp] theorem x_eCallH {m : FMG} {n : Nat} {cells : List (Str × Addr)} {js : List (Str × Nat)} {fs : M (List D)} {env : EnvD} {st : Sto} : eCallH m n cells js fs env st = (fs env st).bind fun ds env st => if ds.length = n then callR (m cells (ghv js env)) ds env st else .bad := rfl
@[simp] theorem ghv_nil {env : EnvD} : ghv [] env = [] := rfl
theorem ghv_va {y : Str} {j : Nat} {js : List (Str × Nat)} {env : EnvD} {d : D} (h : env[j]? = some (.va d)) : ghv ((y, j) :: js) env = (y, d) :: ghv js env := by
  unfold ghv
  rw [List.filterMap_cons]
  simp [h]
section
variable {st : Sto} {env : EnvD} {b : Bok} {n : Int} {k : Str} {ks : List Str} {ends : List Int} {P : Int → Str → Bool} {p : Option Str} {i : Nat} {cells : List (Str × Addr)} {vals : List (Str × D)}
end
end VP
namespace VP
local instance inst_SF1 : VE.VEnv := VE.VEnv.dummy
open PySem PySem.Spec PyProof.Rows L2 VE
open SX (S S_len S_cat S_inj)
section
variable {st : Sto} {env : EnvD} {b : Bok} {n m lo hi : Int} {k s : Str} {ks : List Str} {ends : List Int} {P : Int → Str → Bool} {p : Option Str}
theorem pcs_okS (hb : BokOk b) (h : s ∈ pcs b) : PyData.strOk s = true := by
  obtain ⟨r, hr, rfl⟩ := mem_pcs.mp h
  exact (hb.rules r hr).piece.ok
end
end VP
namespace VP
local instance inst_SG1 : VE.VEnv := VE.VEnv.dummy
open PySem PySem.Spec PyProof.Rows L2 VE
open SX (S S_len S_cat S_inj)
section
variable {st : Sto} {env : EnvD} {b : Bok} {n m lo hi : Int} {k s : Str} {ks : List Str} {ends : List Int} {P Q : Int → Str → Bool} {p : Option Str} {o o' : Option (Int × Str)} {i : Nat} {cells : List (Str × Addr)} {vals : List (Str × D)}
def Cel.row (c : Cel) : Int × Str := (c.first, c.kind)
end
end VP
namespace VP
local instance inst_SM1 : VE.VEnv := VE.VEnv.dummy
open PySem PySem.Spec PyProof.Rows L2 VE
open SX (S S_len S_cat S_inj)
section
variable {st : Sto} {env : EnvD} {b b' : Bok} {n m lo hi : Int} {k s : Str} {ks : List Str} {P : Int → Str → Bool} {p : Option Str} {o : Option (Int × Str)}
end
end VP
namespace VP
local instance inst_SS1 : VE.VEnv := VE.VEnv.dummy
open PySem PySem.Spec PyProof.Rows L2 VE
open SX (S S_len S_cat S_inj)
def letB (c : Nat) : Bool := decide (97 ≤ c) && decide (c < 123)
def digB (c : Nat) : Bool := decide (48 ≤ c) && decide (c < 58)
def wordB (L : List Nat) : Bool := decide (1 ≤ L.length) && (decide (L.length ≤ 8) && L.all letB)
def plainB (L : List Nat) : Bool := decide (1 ≤ L.length) && (decide (L.length ≤ 30) && (L.all digB && (L == [48] || L.head? != some 48)))
theorem let_asc {c : Nat} (h : c < 128) : inText (S [c]) "abcdefghijklmnopqrstuvwxyz" = letB c := by
  have : ∀ k < 128, inText (S [k]) "abcdefghijklmnopqrstuvwxyz" = letB k := by decide +kernel
  exact this c h
theorem asc_ok {L : List Nat} (h : ∀ c ∈ L, c < 128) : PyData.strOk (S L) = true := ok_S fun c hc => by have := h c hc; omega
section
variable {st : Sto} {env : EnvD} {L : List Nat}
theorem sp_wordB (h : ∀ c ∈ L, c < 128) (hl : L.length ≤ 1000) : m_is_word [.str (S L)] st = .ok (.bl (wordB L)) st := by
  have h4 : L.length ≤ 16777216 := by omega
  unfold wordB
  by_cases h1 : 1 ≤ L.length
  · have h2 : (1 : Int) ≤ L.length := by omega
    by_cases h8 : L.length ≤ 8
    · have h3 : (L.length : Int) ≤ 8 := by omega
      simp [m_is_word, b_is_word, toF_def, env0, lenD, k_MAX_WORD, h1, h2, h3, h4, h8, signs_S, S_len]
      rw [comp_all (f := fun c => .bl (letB c)) (by omega)]
      · simp [allD, blsF_map]
      · intro c hcm
        simp [k_LETTERS, let_asc (h c hcm)]
    · have h3 : ¬ (L.length : Int) ≤ 8 := by omega
      simp [m_is_word, b_is_word, toF_def, env0, lenD, k_MAX_WORD, h1, h2, h3, h4, h8, S_len]
  · have h2 : ¬ (1 : Int) ≤ L.length := by omega
    simp [m_is_word, b_is_word, toF_def, env0, lenD, k_MAX_WORD, h1, h2, h4, S_len]
end
end VP
namespace VP
local instance inst_SS2 : VE.VEnv := VE.VEnv.dummy
open PySem PySem.Spec PyProof.Rows L2 VE
open SX (S S_len S_cat S_inj)
/-- words of signs below 128, not too long -/
structure LnOk (ws : List (List Nat)) : Prop where
  asc : ∀ w ∈ ws, ∀ c ∈ w, c < 128
  wl : ∀ w ∈ ws, w.length ≤ 1000
  ln : ws.length ≤ 1000
abbrev wd (w : List Nat) : D := .str (S w)
theorem LnOk.tail {h : List Nat} {r : List (List Nat)} (o : LnOk (h :: r)) : LnOk r := ⟨fun w m => o.asc w (.tail _ m), fun w m => o.wl w (.tail _ m), by have := o.ln; simp at this; omega⟩
section
variable {st : Sto} {env : EnvD} {L h : List Nat} {r ws : List (List Nat)}
end
end VP
namespace VP
local instance inst_NT1 : VE.VEnv := VE.VEnv.dummy
open PySem PySem.Spec PyProof.Rows L2 VE
open SX (S S_len S_cat S_inj)
section
variable {j i : Nat} {ws : List (List Nat)} {x : D}
end
theorem okx_n {j : Nat} (hj : j < 1000000) : okXd (.int (j : Nat)) = true := by
  have h : j.log2 < 1920 := by
    by_cases h0 : j = 0
    · subst h0; decide
    · exact (Nat.log2_lt h0).mpr (Nat.lt_of_lt_of_le hj (by
        calc 1000000 ≤ 2 ^ 20 := by decide
          _ ≤ 2 ^ 1920 := Nat.pow_le_pow_right (by decide) (by decide)))
  simpa [okXd] using h
section
variable {st st' : Sto} {p j i : Nat} {ws : List (List Nat)} {f : D} {P : List Nat → Bool}
def comB (P : List Nat → Bool) (w : List Nat) : Bool := (TL.spl [44] 0 [] w).all P
end
end VP
namespace VP
local instance inst_NT2 : VE.VEnv := VE.VEnv.dummy
open PySem PySem.Spec PyProof.Rows L2 VE
open SX (S S_len S_cat S_inj)
section
variable {st st' : Sto} {p j i : Nat} {ws pre : List (List Nat)} {f : D} {P : List Nat → Bool} {fuel : Nat}
end
end VP
namespace VP
local instance inst_NT3 : VE.VEnv := VE.VEnv.dummy
open PySem PySem.Spec PyProof.Rows L2 VE
open SX (S S_len S_cat S_inj)
section
variable {st st' : Sto} {p j i : Nat} {ws : List (List Nat)} {f : D} {P : List Nat → Bool}
/-- the word at a spot, if it is right -/
def nx (P : List Nat → Bool) (ws : List (List Nat)) (i : Nat) : Nat ⊕ List Nat := match ws[i]? with
  | none => .inl i
  | some w => if P w then .inr w else .inl i
/-- a rule's words -/
structure RuW where
  a : List Nat
  n1 : List Nat
  n2 : List Nat
  n3 : List Nat
  r : List Nat
  k : List Nat
def RuW.d (x : RuW) : D := .tup [wd x.a, .int (NumText.digitsVal x.n1 : Nat), .int (NumText.digitsVal x.n2 : Nat), .int (NumText.digitsVal x.n3 : Nat), .tup ((TL.spl [44] 0 [] x.r).map fun w => .int (NumText.digitsVal w : Nat)), .tup ((TL.spl [44] 0 [] x.k).map wd)]
end
end VP
namespace VP
local instance inst_NT4 : VE.VEnv := VE.VEnv.dummy
open PySem PySem.Spec PyProof.Rows L2 VE
open SX (S S_len S_cat S_inj)
def ruX (p : Str) : Exn := ⟨"InvalidRule", [(("part" : Str), .str p)]⟩
def bkX (p : Str) (i : Nat) : Exn := ⟨"InvalidBook", [(("index" : Str), .int (i : Nat)), (("part" : Str), .str p)]⟩
def ascIB (xs : List Int) : Bool := (xs.zip xs.tail).all fun p => decide (p.1 < p.2)
def ascSB (xs : List Str) : Bool := (xs.zip xs.tail).all fun p => ltS p.1 p.2
def inMod (m : Int) : Bool := decide (m ∈ ([1, 2, 3, 4, 6, 12] : List Int))
section
variable {st st' : Sto}
theorem okX_str (p : Str) (h : p.length ≤ 1000) : okXd (.str p) = true := by
  unfold okXd
  exact @decide_eq_true _ (Classical.propDecidable _) h
theorem sp_ascIB {xs : List Int} (hl : xs.length < 1000) : m_ascend [.tup (xs.map .int)] st = .ok (.bl (ascIB xs)) st := by
  simp [m_ascend, b_ascend, toF_def, env0, cut1, ← List.map_tail, zip_map]
  rw [comp_all (f := fun p => .bl (decide (p.1 < p.2))) (by simp; omega)]
  · simp [allD, blsF_map, ascIB]
  · rintro ⟨a, b⟩ _
    simp
theorem sp_ascSB {xs : List Str} (hl : xs.length < 1000) : m_ascend [.tup (xs.map .str)] st = .ok (.bl (ascSB xs)) st := by
  simp [m_ascend, b_ascend, toF_def, env0, cut1, ← List.map_tail, zip_map]
  rw [comp_all (f := fun p => .bl (ltS p.1 p.2)) (by simp; omega)]
  · simp [allD, blsF_map, ascSB]
  · rintro ⟨a, b⟩ _
    simp
theorem sp_are_restsB {m : Int} {xs : List Int} (hl : xs.length < 1000) : m_are_rests [.int m, .tup (xs.map .int)] st = .ok (.bl (!xs.isEmpty && (xs.all (fun x => decide (0 ≤ x) && decide (x ≤ m - 1)) && ascIB xs))) st := by
  cases hx : xs with
  | nil => simp [m_are_rests, b_are_rests, toF_def, env0]
  | cons y ys =>
    rw [← hx]
    have e0 : eqDs (xs.map D.int) [] = false := by rw [hx]; simp
    have ee : xs.isEmpty = false := by rw [hx]; rfl
    simp [m_are_rests, b_are_rests, toF_def, env0, e0, ee]
    rw [comp_all (f := fun x => .bl (decide (0 ≤ x) && decide (x ≤ m - 1))) (by omega)]
    · cases hb : xs.all (fun x => decide (0 ≤ x) && decide (x ≤ m - 1)) with
      | false => simp [allD, blsF_map, hb]
      | true => simp [allD, blsF_map, hb, sp_ascIB hl]
    · intro k hk
      simp [sp_is_number, subI]
theorem sp_are_kindsB {ks : List (List Nat)} (hc : ∀ w ∈ ks, ∀ c ∈ w, c < 128) (hw : ∀ w ∈ ks, w.length ≤ 1000) (hl : ks.length < 1000) : m_are_kinds [.tup (ks.map wd)] st = .ok (.bl (!ks.isEmpty && (ks.all wordB && ascSB (ks.map S)))) st := by
  have hpl : plains 19 (ks.map wd) = true := pls_map fun x hx => by simpa using asc_ok (hc x hx)
  have hpl2 : plains 20 (ks.map wd) = true := pls_map fun x hx => by simpa using asc_ok (hc x hx)
  cases hx : ks with
  | nil => simp [m_are_kinds, b_are_kinds, toF_def, env0]
  | cons y ys =>
    rw [← hx]
    have e0 : eqDs (ks.map wd) [] = false := by rw [hx]; simp
    have ee : ks.isEmpty = false := by rw [hx]; rfl
    have hm : ks.map wd = (ks.map S).map D.str := by rw [List.map_map]; rfl
    have ha := sp_ascSB (st := st) (xs := ks.map S) (by simpa using hl)
    rw [← hm] at ha
    have hcp := comp_all (st := st) (t := gN 1) (ws := [1]) (fe := eCall m_is_word 1 (eCons (eVar 1) (eNil))) (g := wd) (fun x : List Nat => D.bl (wordB x)) (xs := ks) (env := [.va (.tup (ks.map wd)), .no]) (by omega) (by
      intro a ha
      refine ⟨[.va (.tup (ks.map wd)), .va (wd a)], rfl, [.va (.tup (ks.map wd)), .va (wd a)], ?_, rfl, rfl⟩
      simp [sp_wordB (hc a ha) (hw a ha)])
    have w0 : wipeD [1] [Sl.va (.tup (ks.map wd)), .no] = [.va (.tup (ks.map wd)), .no] := rfl
    rw [w0] at hcp
    have hb := blsF_map wordB ks
    generalize ks.map wd = KS at *
    cases hb2 : ks.all wordB with
    | false => simp [m_are_kinds, b_are_kinds, toF_def, env0, e0, ee, hpl, hpl2, hcp, allD, hb, hb2]
    | true => simp [m_are_kinds, b_are_kinds, toF_def, env0, e0, ee, hpl, hpl2, hcp, allD, hb, hb2, ha]
/-- the first part of a rule that cannot be -/
def partE (b1 b2 b3 b4 b5 b6 : Bool) : Option Str :=
  if b1 = false then some "piece" else if b2 = false then some "low" else if b3 = false then some "high" else if b4 = false then some "modulus" else if b5 = false then some "rests" else if b6 = false then some "kinds" else none
def ruM : Option Str → Sto → List D → RF
  | some p, st, _ => .ex (ruX p) (st ++ [.slo "Rule" []])
  | none, st, ds => .ok .non (st ++ [.slo "Rule" [.tup ds]])
theorem Rule_by {p l h m rs ks : D} {b1 b2 b3 b4 b5 b6 : Bool} (h1 : m_is_word [p] (st ++ [.slo "Rule" []]) = .ok (.bl b1) (st ++ [.slo "Rule" []]))
    (h2 : b1 = true → m_is_number [l, .int 0, k_LAST] (st ++ [.slo "Rule" []]) = .ok (.bl b2) (st ++ [.slo "Rule" []]))
    (h3 : b1 = true → b2 = true → m_is_number [h, l, k_LAST] (st ++ [.slo "Rule" []]) = .ok (.bl b3) (st ++ [.slo "Rule" []]))
    (h4 : b1 = true → b2 = true → b3 = true → bOr (eT (eUn (isiD "bool") (eVar 4))) (eT (eBin (inA true) (eVar 4) (eC k_MODULI))) [.va (.ref st.length), .va p, .va l, .va h, .va m, .va rs, .va ks] (st ++ [.slo "Rule" []]) = .ok (!b4) [.va (.ref st.length), .va p, .va l, .va h, .va m, .va rs, .va ks] (st ++ [.slo "Rule" []]))
    (h5 : b1 = true → b2 = true → b3 = true → b4 = true → m_are_rests [m, rs] (st ++ [.slo "Rule" []]) = .ok (.bl b5) (st ++ [.slo "Rule" []]))
    (h6 : b1 = true → b2 = true → b3 = true → b4 = true → b5 = true → m_are_kinds [ks] (st ++ [.slo "Rule" []]) = .ok (.bl b6) (st ++ [.slo "Rule" []])) :
    m_Rule_init [.ref st.length, p, l, h, m, rs, ks] (st ++ [.slo "Rule" []]) = ruM (partE b1 b2 b3 b4 b5 b6) st [p, l, h, m, rs, ks] := by
  have x1 := okX_str "piece" (by decide)
  have x2 := okX_str "low" (by decide)
  have x3 := okX_str "high" (by decide)
  have x4 := okX_str "modulus" (by decide)
  have x5 := okX_str "rests" (by decide)
  have x6 := okX_str "kinds" (by decide)
  cases b1 with
  | false => simp [m_Rule_init, b_Rule_init, toF_def, env0, h1, sRaiseI, x1, partE, ruM, ruX]
  | true =>
    have h2 := h2 rfl
    cases b2 with
    | false => simp [m_Rule_init, b_Rule_init, toF_def, env0, h1, h2, sRaiseI, x2, partE, ruM, ruX]
    | true =>
      have h3 := h3 rfl rfl
      cases b3 with
      | false => simp [m_Rule_init, b_Rule_init, toF_def, env0, h1, h2, h3, sRaiseI, x3, partE, ruM, ruX]
      | true =>
        have h4 := h4 rfl rfl rfl
        cases b4 with
        | false => simp [-x_bOr, m_Rule_init, b_Rule_init, toF_def, env0, h1, h2, h3, h4, sRaiseI, x4, partE, ruM, ruX]
        | true =>
          have h5 := h5 rfl rfl rfl rfl
          cases b5 with
          | false => simp [-x_bOr, m_Rule_init, b_Rule_init, toF_def, env0, h1, h2, h3, h4, h5, sRaiseI, x5, partE, ruM, ruX]
          | true =>
            have h6 := h6 rfl rfl rfl rfl rfl
            cases b6 with
            | false => simp [-x_bOr, m_Rule_init, b_Rule_init, toF_def, env0, h1, h2, h3, h4, h5, h6, sRaiseI, x6, partE, ruM, ruX]
            | true => simp [-x_bOr, m_Rule_init, b_Rule_init, toF_def, env0, h1, h2, h3, h4, h5, h6, sRaiseI, partE, ruM, ruX]
def RuW.rs (x : RuW) : List Int := (TL.spl [44] 0 [] x.r).map fun w => ((NumText.digitsVal w : Nat) : Int)
def RuW.ks (x : RuW) : List (List Nat) := TL.spl [44] 0 [] x.k
structure RuW.Ok (x : RuW) : Prop where
  a : wordB x.a = true
  aa : ∀ c ∈ x.a, c < 128
  n1 : plainB x.n1 = true
  n2 : plainB x.n2 = true
  n3 : plainB x.n3 = true
  r : comB plainB x.r = true
  ra : ∀ c ∈ x.r, c < 128
  rl : x.r.length ≤ 900
  k : comB wordB x.k = true
  ka : ∀ c ∈ x.k, c < 128
  kl : x.k.length ≤ 900
end
end VP
namespace VP
local instance inst_NT5 : VE.VEnv := VE.VEnv.dummy
open PySem PySem.Spec PyProof.Rows L2 VE
open SX (S S_len S_cat S_inj)
section
variable {α : Type} {t : D → EnvD → Option EnvD} {ws : List Nat} {g : α → D} {st st' : Sto} {E0 : EnvD} {body : M Fl}
/-- a loop that the first bad item leaves -/
theorem for_find {bad : α → Bool} {x : α → Exn} : ∀ (xs : List α), (∀ a ∈ xs, ∃ e1, t (g a) E0 = some e1 ∧ ∃ e2, wipeD ws e2 = E0 ∧ body e1 st = if bad a = true then .ex (x a) e2 st else .ok .nx e2 st) →
    match xs.find? bad with
    | some a => ∃ e3, forL t ws body (xs.map g) E0 st = .ex (x a) e3 st
    | none => forL t ws body (xs.map g) E0 st = .ok .nx E0 st
  | [], _ => rfl
  | a :: xs, h => by
    obtain ⟨e1, h1, e2, h2, h3⟩ := h a List.mem_cons_self
    have ih := for_find xs fun b hb => h b (List.mem_cons_of_mem _ hb)
    rw [List.map_cons, List.find?_cons]
    unfold forL
    rw [h1]
    dsimp only
    rw [h3]
    cases hb : bad a with
    | true => dsimp only; exact ⟨e2, rfl⟩
    | false =>
      dsimp only
      rw [if_neg (by simp), R.bind_ok]
      dsimp only
      rw [h2]
      exact ih
end
/-- kinds of a book: one that cannot stand there -/
def badK (ks : List (List Nat)) (p : List Nat × Nat) : Bool := decide (p.2 = 4) || (!wordB p.1 || (decide (0 < p.2) && !ltS (S (ks.getD (p.2 - 1) [])) (S p.1)))
def kiE (ks : List (List Nat)) : Option Nat := if ks.isEmpty then some 0 else (ks.zipIdx.find? (badK ks)).map (·.2)
def badR (ks : List Str) (p : Rul × Nat) : Bool := decide (p.2 = 8) || !(p.1.kinds.all fun k => ks.any fun z => decide (z = k))
def bkE (ks : List (List Nat)) (rs : List Rul) : Option (Str × Nat) := match kiE ks with
  | some i => some ("kinds", i)
  | none => (rs.zipIdx.find? (badR (ks.map S))).map fun p => ("rules", p.2)
section
variable {st st' : Sto} {ks : List (List Nat)} {rs : List Rul}
noncomputable def ckB : M Fl := sIf (bOr (eT (eBin (sv2 eqP) (eVar 1) (eC k_MAX_KINDS))) (bOr (bNot (eT (eCall m_is_word 1 (eCons (eVar 2) (eNil))))) (bAnd (eT (eBin gGtA (eVar 1) (eC (.int 0)))) (eT (eBin gLeA (eVar 2) (eBin ixA (eVar 0) (eBin (sc2 subI) (eVar 1) (eC (.int 1)))))))))
    (sRaiseI "InvalidBook" ["part", "index"] (eCons (eC (.str ("kinds" : Str))) (eCons (eVar 1) (eNil))))
    (sNx)
theorem ck_step {k : List Nat} {i : Nat} (hk : ks[i]? = some k) (hc : ∀ c ∈ k, c < 128) (hw : k.length ≤ 1000) (hi : i < 1000) : ckB [.va (.tup (ks.map wd)), .va (.int (i : Nat)), .va (wd k)] st =
    if badK ks (k, i) = true then .ex (bkX "kinds" i) [.va (.tup (ks.map wd)), .va (.int (i : Nat)), .va (wd k)] st else .ok .nx [.va (.tup (ks.map wd)), .va (.int (i : Nat)), .va (wd k)] st := by
  have x6 := okX_str "kinds" (by decide)
  have ok1 := okx_n (j := i) (by omega)
  have hwd := sp_wordB (st := st) hc hw
  unfold badK ckB
  by_cases h4 : i = 4
  · subst h4
    have ok1 : okXd (.int 4) = true := okx_n (j := 4) (by omega)
    simp [k_MAX_KINDS, sRaiseI, x6, ok1, bkX]
  · have h4' : ¬ ((i : Nat) : Int) = 4 := by omega
    cases hb : wordB k with
    | false => rw [hb] at hwd; simp [k_MAX_KINDS, sRaiseI, x6, ok1, bkX, h4, h4', hwd]
    | true =>
      rw [hb] at hwd
      cases i with
      | zero => simp [k_MAX_KINDS, sRaiseI, x6, ok1, bkX, hwd]
      | succ j =>
        obtain ⟨q, hq⟩ : ∃ q, ks[j]? = some q := ⟨_, List.getElem?_eq_getElem (by have := (List.getElem?_eq_some_iff.mp hk).1; omega)⟩
        have hat : atI (ks.map wd) (j : Nat) = some (wd q) := atI_nat (by rw [List.getElem?_map, hq]; rfl)
        have hp : (0 : Int) < (j : Int) + 1 := by omega
        have e1 : ((j : Int) + 1 - 1) = (j : Nat) := by omega
        have hg : ks.getD j [] = q := by rw [List.getD_eq_getElem?_getD, hq]; rfl
        have h4'' : ¬ ((j : Int) + 1) = 4 := by omega
        have h4x : ¬ j = 3 := by omega
        have ok2 : okXd (.int ((j : Int) + 1)) = true := ok1
        cases hl : ltS (S q) (S k) with
        | true => simp [k_MAX_KINDS, sRaiseI, x6, ok1, ok2, bkX, hwd, h4, h4'', h4x, hp, subI, e1, hat, hg, hq, hl]
        | false => simp [k_MAX_KINDS, sRaiseI, x6, ok1, ok2, bkX, hwd, h4, h4'', h4x, hp, subI, e1, hat, hg, hq, hl]
theorem sp_check_kindsE (hc : ∀ w ∈ ks, ∀ c ∈ w, c < 128) (hw : ∀ w ∈ ks, w.length ≤ 1000) (hl : ks.length < 1000) : m_check_kinds [.tup (ks.map wd)] st = match kiE ks with
    | some i => .ex (bkX "kinds" i) st
    | none => .ok .non st := by
  have x6 := okX_str "kinds" (by decide)
  have ok0 : okXd (.int 0) = true := okx_n (j := 0) (by decide)
  have hpl : plains 19 (ks.map wd) = true := pls_map fun x hx => by simpa using asc_ok (hc x hx)
  have hpl2 : plains 20 (ks.map wd) = true := pls_map fun x hx => by simpa using asc_ok (hc x hx)
  have hf := for_find (st := st) (t := gT 2 (gsC (gN 1) (gsC (gN 2) (gsN)))) (ws := [1, 2]) (g := fun p : List Nat × Nat => D.tup [.int (p.2 : Nat), wd p.1]) (E0 := [.va (.tup (ks.map wd)), .no, .no]) (body := ckB) (bad := badK ks) (x := fun p => bkX "kinds" p.2) ks.zipIdx (by
    rintro ⟨k, i⟩ hm
    have hk := zip_mem hm
    have hi := (List.getElem?_eq_some_iff.mp hk).1
    have hm2 := List.mem_of_getElem? hk
    refine ⟨[.va (.tup (ks.map wd)), .va (.int (i : Nat)), .va (wd k)], rfl, [.va (.tup (ks.map wd)), .va (.int (i : Nat)), .va (wd k)], rfl, ?_⟩
    exact ck_step hk (hc k hm2) (hw k hm2) (by simp at hi; omega))
  unfold ckB at hf
  unfold kiE
  cases hx : ks with
  | nil => simp [m_check_kinds, b_check_kinds, toF_def, env0, enuD, forL, sRaiseI, x6, ok0, bkX]
  | cons y ys =>
    rw [← hx]
    have e0 : eqDs (ks.map wd) [] = false := by rw [hx]; simp
    have ee : ks.isEmpty = false := by rw [hx]; rfl
    rw [ee, if_neg (by simp)]
    cases hb : ks.zipIdx.find? (badK ks) with
    | some p =>
      rw [hb] at hf
      obtain ⟨e3, hf⟩ := hf
      simp [m_check_kinds, b_check_kinds, toF_def, env0, enu_map, hf]
    | none =>
      rw [hb] at hf
      simp [m_check_kinds, b_check_kinds, toF_def, env0, enu_map, hf, hpl, hpl2, e0]
noncomputable def rbB : M Fl := sIf (bOr (eT (eBin (sv2 eqP) (eVar 3) (eC k_MAX_RULES))) (bNot (eT (eBlt (b1 allD) (eCons (eComp (iQ (ePrU "Rule" m_Rule_kinds (eVar 4))) (gN 5) [5] (bYes) (eBin (inA false) (eVar 5) (eVar 1))) eNil)))))
    (sRaiseI "InvalidBook" ["part", "index"] (eCons (eC (.str ("rules" : Str))) (eCons (eVar 3) (eNil))))
    (sNx)
theorem rb_step {r : Rul} {i : Nat} {s0 s2 : Sl} {kz : List Str} (hkz : ∀ k ∈ kz, PyData.strOk k = true) (hr : ∀ k ∈ r.kinds, PyData.strOk k = true) (hl : r.kinds.length < 1000) (hi : i < 1000) : rbB [s0, .va (.tup (kz.map .str)), s2, .va (.int (i : Nat)), .va r.d, .no] st =
    if badR kz (r, i) = true then .ex (bkX "rules" i) [s0, .va (.tup (kz.map .str)), s2, .va (.int (i : Nat)), .va r.d, .no] st else .ok .nx [s0, .va (.tup (kz.map .str)), s2, .va (.int (i : Nat)), .va r.d, .no] st := by
  have x6 := okX_str "rules" (by decide)
  have ok1 := okx_n (j := i) (by omega)
  unfold badR rbB
  by_cases h8 : i = 8
  · subst h8
    have ok1 : okXd (.int 8) = true := okx_n (j := 8) (by omega)
    simp [k_MAX_RULES, sRaiseI, x6, ok1, bkX]
  · have h8' : ¬ ((i : Nat) : Int) = 8 := by omega
    have hcp := comp_all (st := st) (t := gN 5) (ws := [5]) (fe := eBin (inA false) (eVar 5) (eVar 1)) (g := D.str) (fun k : Str => D.bl (kz.any fun z => decide (z = k))) (xs := r.kinds) (env := [s0, .va (.tup (kz.map .str)), s2, .va (.int (i : Nat)), .va r.d, .no]) (by omega) (by
      intro k hk
      refine ⟨[s0, .va (.tup (kz.map .str)), s2, .va (.int (i : Nat)), .va r.d, .va (.str k)], rfl, [s0, .va (.tup (kz.map .str)), s2, .va (.int (i : Nat)), .va r.d, .va (.str k)], ?_, rfl, rfl⟩
      have h5 := in_strs (neg := false) (hr k hk) hkz
      simp [h5])
    have w0 : wipeD [5] [s0, .va (.tup (kz.map .str)), s2, .va (.int (i : Nat)), .va r.d, .no] = [s0, .va (.tup (kz.map .str)), s2, .va (.int (i : Nat)), .va r.d, .no] := rfl
    rw [w0] at hcp
    have hb := blsF_map (fun k : Str => kz.any fun z => decide (z = k)) r.kinds
    cases ha : r.kinds.all (fun k => kz.any fun z => decide (z = k)) with
    | true => simp [k_MAX_RULES, h8, h8', hcp, allD, hb, ha]
    | false => simp [k_MAX_RULES, h8, h8', hcp, allD, hb, ha, sRaiseI, x6, ok1, bkX]
def bkM : Option (Str × Nat) → Sto → List D → RF
  | some p, st, _ => .ex (bkX p.1 p.2) (st ++ [.slo "Book" []])
  | none, st, ds => .ok .non (st ++ [.slo "Book" [.tup ds]])
theorem sp_Book_initE (hc : ∀ w ∈ ks, ∀ c ∈ w, c < 128) (hw : ∀ w ∈ ks, w.length ≤ 1000) (hl : ks.length < 1000) (hr : ∀ r ∈ rs, (∀ k ∈ r.kinds, PyData.strOk k = true) ∧ r.kinds.length < 1000) (hrl : rs.length < 1000) :
    m_Book_init [.ref st.length, .tup (ks.map wd), .tup (rs.map Rul.d)] (st ++ [.slo "Book" []]) = bkM (bkE ks rs) st [.tup (ks.map wd), .tup (rs.map Rul.d)] := by
  have hck := sp_check_kindsE (st := st ++ [.slo "Book" []]) hc hw hl
  have hkz : ∀ k ∈ ks.map S, PyData.strOk k = true := fun k hk => by
    obtain ⟨w, hw, rfl⟩ := List.mem_map.mp hk
    exact asc_ok (hc w hw)
  have hm : ks.map wd = (ks.map S).map D.str := by rw [List.map_map]; rfl
  unfold bkE
  cases hk : kiE ks with
  | some i =>
    rw [hk] at hck
    simp [m_Book_init, b_Book_init, toF_def, env0, hck, bkM]
  | none =>
    rw [hk] at hck
    have hf := for_find (st := st ++ [.slo "Book" []]) (t := gT 2 (gsC (gN 3) (gsC (gN 4) (gsN)))) (ws := [3, 4, 5]) (g := fun p : Rul × Nat => D.tup [.int (p.2 : Nat), p.1.d]) (E0 := [.va (.ref st.length), .va (.tup (ks.map wd)), .va (.tup (rs.map Rul.d)), .no, .no, .no]) (body := rbB) (bad := badR (ks.map S)) (x := fun p => bkX "rules" p.2) rs.zipIdx (by
      rintro ⟨r, i⟩ hm2
      have hk := zip_mem hm2
      have hi := (List.getElem?_eq_some_iff.mp hk).1
      have hm3 := List.mem_of_getElem? hk
      refine ⟨[.va (.ref st.length), .va (.tup (ks.map wd)), .va (.tup (rs.map Rul.d)), .va (.int (i : Nat)), .va r.d, .no], rfl, [.va (.ref st.length), .va (.tup (ks.map wd)), .va (.tup (rs.map Rul.d)), .va (.int (i : Nat)), .va r.d, .no], rfl, ?_⟩
      have := rb_step (st := st ++ [.slo "Book" []]) (s0 := .va (.ref st.length)) (s2 := .va (.tup (rs.map Rul.d))) (i := i) hkz (hr r hm3).1 (hr r hm3).2 (by simp at hi; omega)
      rw [← hm] at this
      exact this)
    unfold rbB at hf
    cases hb : rs.zipIdx.find? (badR (ks.map S)) with
    | some p =>
      rw [hb] at hf
      obtain ⟨e3, hf⟩ := hf
      simp [m_Book_init, b_Book_init, toF_def, env0, hck, enu_map, hf, bkM]
    | none =>
      rw [hb] at hf
      simp [m_Book_init, b_Book_init, toF_def, env0, hck, enu_map, hf, bkM]
theorem mk_BookW (hc : ∀ w ∈ ks, ∀ c ∈ w, c < 128) (hw : ∀ w ∈ ks, w.length ≤ 1000) (hl : ks.length < 1000) (hr : ∀ r ∈ rs, (∀ k ∈ r.kinds, PyData.strOk k = true) ∧ r.kinds.length < 1000) (hrl : rs.length < 1000) {env : EnvD} :
    frzS "Book" env st (m_Book_init [.ref st.length, .tup (ks.map wd), .tup (rs.map Rul.d)] (st ++ [.slo "Book" []])) = match bkE ks rs with
    | some p => .ex (bkX p.1 p.2) env st
    | none => .ok (Bok.d ⟨ks.map S, rs⟩) env st := by
  rw [sp_Book_initE hc hw hl hr hrl]
  cases h : bkE ks rs with
  | some p =>
    show frzS "Book" env st (.ex (bkX p.1 p.2) (st ++ [.slo "Book" []])) = _
    rw [frzS_ex]
    simp [bkX]
  | none =>
    show frzS "Book" env st (.ok .non (st ++ [.slo "Book" [.tup _]])) = _
    have h2 := @Bok.d_rf ⟨ks.map S, rs⟩ st.length
    have e : Bok.d ⟨ks.map S, rs⟩ = .obj "Book" [.tup [.tup (ks.map wd), .tup (rs.map Rul.d)]] := by
      simp [Bok.d, List.map_map, Function.comp_def]
    rw [e] at h2 ⊢
    rw [frzS_ok]
    simpa using h2
end
end VP
namespace VP
local instance inst_SV1 : VE.VEnv := VE.VEnv.dummy
open PySem PySem.Spec PyProof.Rows L2 VE
open SX (S S_len S_cat S_inj)
section
variable {α : Type} {t : D → EnvD → Option EnvD} {ws : List Nat} {g : α → D} {st : Sto}
end
section
variable {st : Sto} {env : EnvD} {b b' : Bok} {r x : Rul} {n m lo hi : Int} {k s w p : Str} {ks : List Str} {rs : List Rul}
/-- a rule of a piece that is cut -/
def Rul.cutR (r : Rul) (n : Int) (w : Str) : List Rul :=
  if r.high < n then [r] else (if r.low < n then [⟨r.piece, r.low, n - 1, r.modulus, r.rests, r.kinds⟩] else []) ++ [⟨w, if n > r.low then n else r.low, r.high, r.modulus, r.rests, r.kinds⟩]
end
end VP
namespace VP
local instance inst_SV2 : VE.VEnv := VE.VEnv.dummy
open PySem PySem.Spec PyProof.Rows L2 VE
open SX (S S_len S_cat S_inj)
section
variable {st st' : Sto} {env : EnvD} {b b' : Bok} {r x : Rul} {n m lo hi : Int} {k s w p : Str} {ks : List Str} {rs : List Rul} {i : Nat}
theorem x_lnO1 {nm : Str} {m : FM} {xs : List D} {i : Int} {st' : Sto} (h : m [.obj nm xs] st = .ok (.int i) st') (h0 : 0 ≤ i) (h1 : i < 2 ^ 63) : lnO nm m (.obj nm xs) env st = .ok (.int i) env st' := by
  unfold lnO
  dsimp only
  rw [if_pos rfl, h]
  dsimp only
  rw [if_pos (lnOk_iff.mpr ⟨h0, h1⟩)]
@[simp] theorem x_eLnO {nm : Str} {m : FM} {fa : M D} : eLnO nm m fa env st = (fa env st).bind (lnO nm m) := rfl
theorem sp_lnB (hb : BokOk b) : lnO "Book" m_Book_len b.d env st = .ok (.int b.rules.length) env st := by
  have h1 : ∀ st, m_Book_rules [b.d] st = .ok (.tup (b.rules.map Rul.d)) st := fun st => by simp [m_Book_rules, b_Book_rules, toF_def, env0, Bok.d]
  have h2 : m_Book_len [b.d] st = .ok (.int b.rules.length) st := by
    simp [m_Book_len, b_Book_len, toF_def, env0, h1]
  exact x_lnO1 h2 (by omega) (by have := hb.rlen; omega)
theorem rul_pl (h : RulOk r) : plains 20 [.tup [.str r.piece, .int r.low, .int r.high, .int r.modulus, .tup (r.rests.map .int), .tup (r.kinds.map .str)]] = true := by
  have h1 := h.piece.ok
  have h2 := h.kinds.pl (m := 18)
  simp [h1, h2]
def kCnt2 (r x : D) : D → M D := fun ys env st => match ys with
  | .lst ys => if plain 20 x && plain 20 (.lst ys) then .ok (.int (cntD x ys : Nat)) env st else .bad
  | _ => .bad
def kCnt1 (fa : M D) (r : D) : D → M D := fun l env st => match l with
  | .lst _ => (fa env st).bind fun x env st => kCnt2 r x (vw st r) env st
  | _ => .bad
theorem x_eCnt {fo fa : M D} {env : EnvD} {st : Sto} : eCnt fo fa env st = (fo env st).bind fun r env st => kCnt1 fa r (vw st r) env st := rfl
theorem x_kCnt1 {fa : M D} {r : D} {ds : List D} : kCnt1 fa r (.lst ds) env st = (fa env st).bind fun x env st => kCnt2 r x (vw st r) env st := rfl
theorem x_kCnt2 {r x : D} {ds : List D} : kCnt2 r x (.lst ds) env st = if plain 20 x && plain 20 (.lst ds) then .ok (.int (cntD x ds : Nat)) env st else .bad := rfl
theorem x_kIx3 {x : D} {ds : List D} {j : Nat} (h : idxD x ds 0 = some j) (h2 : (plain 20 x && plain 20 (.lst ds)) = true) : kIx3 x (.lst ds) env st = .ok (.int (j : Nat)) env st := by
  unfold kIx3
  dsimp only
  rw [if_pos h2, h]
end
end VP
namespace VP
open PySem PySem.Spec PyProof.Rows L2 VE
open SX (S S_len S_cat S_inj)
local instance inst_S1 : VE.VEnv := VE.VEnv.dummy
section
variable {st st' : Sto} {env : EnvD} {i : Nat} {cells : List (Str × Addr)} {vals : List (Str × D)} {d : D} {x : Exn} {r r' : Rul} {b b' : Bok} {ds : List D}
@[simp] theorem x_isQo {nm n' : Str} {xs : List D} : isQ nm (.obj n' xs) = if n' = nm then some (.bl true) else none := rfl
@[simp] theorem x_isQt {nm : Str} {xs : List D} : isQ nm (.tup xs) = some (.bl false) := rfl
theorem rul_plp (h : RulOk r) : plain 20 r.pt = true := by
  have := rul_pl h
  simp only [Rul.pt]
  simpa using this
theorem sp_Rule_eq (h : RulOk r) (h' : RulOk r') : m_Rule_eq [r.d, r'.d] st = .ok (.bl (eqD r.pt r'.pt)) st := by
  have p1 := rul_plp h
  have p2 := rul_plp h'
  have hd : ∀ r : Rul, r.d = .obj "Rule" [r.pt] := fun _ => rfl
  have e := x_eqP p1 p2
  rw [hd, hd]
  generalize eqD r.pt r'.pt = t at e ⊢
  simp only [Rul.pt] at e ⊢
  simp [m_Rule_eq, b_Rule_eq, toF_def, env0, e]
theorem sp_Rule_eqt : m_Rule_eq [r.d, .tup ds] st = .ok (.bl false) st := by
  have hd : r.d = .obj "Rule" [r.pt] := rfl
  rw [hd]
  simp [m_Rule_eq, b_Rule_eq, toF_def, env0]
theorem skel_ints : ∀ xs ys : List Int, skelL (xs.map .int) (ys.map .int) = true
  | [], ys => by cases ys <;> simp [skelL]
  | x :: xs, [] => by simp [skelL]
  | x :: xs, y :: ys => by simp [skelL, skel, skel_ints xs ys]
theorem skel_strs : ∀ xs ys : List Str, skelL (xs.map .str) (ys.map .str) = true
  | [], ys => by cases ys <;> simp [skelL]
  | x :: xs, [] => by simp [skelL]
  | x :: xs, y :: ys => by simp [skelL, skel, skel_strs xs ys]
theorem skel_rul : skelL [r.pt] [r'.pt] = true := by
  simp [Rul.pt, skelL, skel, skel_ints, skel_strs]
theorem cmp_rul (h : RulOk r) (h' : RulOk r') : cmpO "Rule" m_Rule_eq r.d r'.d = some (eqD r.pt r'.pt) := by
  have hd : ∀ r : Rul, r.d = .obj "Rule" [r.pt] := fun _ => rfl
  have ht : tells m_Rule_eq (eqD r.pt r'.pt) (.obj "Rule" [r.pt]) (.obj "Rule" [r'.pt]) := fun st => sp_Rule_eq h h'
  rw [hd, hd]
  unfold cmpO
  dsimp only
  rw [if_pos ⟨rfl, rfl, skel_rul⟩]
  cases e : eqD r.pt r'.pt with
  | true => rw [e] at ht; rw [if_pos ht]
  | false =>
    rw [e] at ht
    have h1 : ¬ tells m_Rule_eq true (.obj "Rule" [r.pt]) (.obj "Rule" [r'.pt]) := fun h => by
      have := (ht []).symm.trans (h [])
      cases this
    have h2 : [r.pt] ≠ [r'.pt] := fun q => by
      rw [List.cons.inj q |>.1, eqD_refl 20 _ (rul_plp h')] at e
      cases e
    rw [if_neg h1, if_pos ⟨h2, ht⟩]
theorem cmp_ruls : ∀ {rs rs' : List Rul}, (∀ r ∈ rs, RulOk r) → (∀ r ∈ rs', RulOk r) → cmpL (cmpN "Rule" m_Rule_eq 1) (rs.map Rul.d) (rs'.map Rul.d) = some (eqDs (rs.map Rul.pt) (rs'.map Rul.pt))
  | [], [], _, _ => by simp [cmpL]
  | [], r :: rs, _, _ => by simp [cmpL]
  | r :: rs, [], _, _ => by simp [cmpL]
  | r :: rs, r' :: rs', h, h' => by
    have ih := cmp_ruls (fun x hx => h x (List.mem_cons_of_mem _ hx)) fun x hx => h' x (List.mem_cons_of_mem _ hx)
    have c := cmp_rul (h r List.mem_cons_self) (h' r' List.mem_cons_self)
    have c1 : cmpN "Rule" m_Rule_eq 1 r.d r'.d = some (eqD r.pt r'.pt) := c
    simp only [List.map_cons, cmpL, c1, ih, eqs_cons]
    rfl
theorem cmp_strs {nb : Str} {m : FM} : ∀ {ks : List Str}, cmpL (cmpN nb m 1) (ks.map .str) (ks.map .str) = some true
  | [] => rfl
  | k :: ks => by
    have c1 : cmpN nb m 1 (.str k) (.str k) = some true := by show cmpO nb m _ _ = _; simp [cmpO]
    simp only [List.map_cons, cmpL, c1, cmp_strs (ks := ks)]
    rfl
theorem sp_Book_eq {ks : List Str} {rs rs' : List Rul} (h : ∀ r ∈ rs, RulOk r) (h' : ∀ r ∈ rs', RulOk r) : m_Book_eq [Bok.d ⟨ks, rs⟩, Bok.d ⟨ks, rs'⟩] st = .ok (.bl (eqDs (rs.map Rul.pt) (rs'.map Rul.pt))) st := by
  have e : eqF "Rule" m_Rule_eq (.tup [.tup (ks.map .str), .tup (rs.map Rul.d)]) (.tup [.tup (ks.map .str), .tup (rs'.map Rul.d)]) = some (.bl (eqDs (rs.map Rul.pt) (rs'.map Rul.pt))) := by
    have a1 : cmpN "Rule" m_Rule_eq 2 (.tup (ks.map .str)) (.tup (ks.map .str)) = some true := cmp_strs
    have a2 : cmpN "Rule" m_Rule_eq 2 (.tup (rs.map Rul.d)) (.tup (rs'.map Rul.d)) = some (eqDs (rs.map Rul.pt) (rs'.map Rul.pt)) := cmp_ruls h h'
    unfold eqF
    simp only [cmpL, a1, a2]
    simp
  have hk : ∀ st : Sto, m_Book_kinds [Bok.d ⟨ks, rs'⟩] st = .ok (.tup (ks.map .str)) st := fun _ => sp_bkinds
  have hr : ∀ st : Sto, m_Book_rules [Bok.d ⟨ks, rs'⟩] st = .ok (.tup (rs'.map Rul.d)) st := fun _ => sp_brules
  have hd : ∀ rs : List Rul, Bok.d ⟨ks, rs⟩ = .obj "Book" [.tup [.tup (ks.map .str), .tup (rs.map Rul.d)]] := fun _ => rfl
  rw [hd] at hk hr
  rw [hd, hd]
  simp [m_Book_eq, b_Book_eq, toF_def, env0, e, hk, hr]
theorem sp_Book_eqt : m_Book_eq [b.d, .tup ds] st = .ok (.bl false) st := by
  have hd : b.d = .obj "Book" [.tup [.tup (b.kinds.map .str), .tup (b.rules.map Rul.d)]] := rfl
  rw [hd]
  simp [m_Book_eq, b_Book_eq, toF_def, env0]
theorem cmpX_bb {q t : Bool} {b b' : Bok} (h : m_Book_eq [b.d, b'.d] st = .ok (.bl t) st) : cmpX "Book" m_Book_eq q b.d b'.d env st = .ok (.bl (t == q)) env st := by
  unfold cmpX
  have hd : ∀ b : Bok, b.d = .obj "Book" [.tup [.tup (b.kinds.map .str), .tup (b.rules.map Rul.d)]] := fun _ => rfl
  rw [hd, hd] at h ⊢
  dsimp only
  rw [if_pos ⟨rfl, rfl⟩, h]
theorem cmpX_bt {q : Bool} : cmpX "Book" m_Book_eq q b.d (.tup ds) env st = .ok (.bl (false == q)) env st := by
  unfold cmpX
  have h := sp_Book_eqt (b := b) (ds := ds) (st := st)
  have hd : ∀ b : Bok, b.d = .obj "Book" [.tup [.tup (b.kinds.map .str), .tup (b.rules.map Rul.d)]] := fun _ => rfl
  rw [hd] at h ⊢
  dsimp only
  rw [if_pos rfl, h]
theorem cmpX_rt {q : Bool} : cmpX "Rule" m_Rule_eq q r.d (.tup ds) env st = .ok (.bl (false == q)) env st := by
  unfold cmpX
  have h := sp_Rule_eqt (r := r) (ds := ds) (st := st)
  have hd : r.d = .obj "Rule" [r.pt] := rfl
  rw [hd] at h ⊢
  dsimp only
  rw [if_pos rfl, h]
theorem eqs_len : ∀ {xs ys : List D}, xs.length ≠ ys.length → eqDs xs ys = false
  | [], [], h => (h rfl).elim
  | [], y :: ys, _ => by simp
  | x :: xs, [], _ => by simp
  | x :: xs, y :: ys, h => by
    rw [eqs_cons, eqs_len (xs := xs) (ys := ys) (by simpa using h)]
    simp
theorem isx {i : Nat} {xi : XI} {tb : List (Str × Bool)} {t : Bool} {x : Exn} (h : tb.lookup x.cls = some t) (he : env[i]? = some (.xc xi x)) : eIsX i xi tb env st = .ok (.bl t) env st := by
  rw [x_eIsX, he]
  unfold kIsX
  dsimp only
  rw [if_pos rfl, h]
  rfl
theorem xfx {i : Nat} {xi : XI} {ns : List Str} {f : Str} {x : Exn} {d : D} (hn : x.cls ∈ ns) (h : x.fs.lookup f = some d) (he : env[i]? = some (.xc xi x)) : eXf i xi ns f env st = .ok d env st := by
  rw [x_eXf, he]
  unfold kXf
  dsimp only
  first
    | rw [if_pos ⟨rfl, hn⟩, h]; rfl
    | simp [hn, h]
theorem rais_none {d : D} (hn : (G_law_raised i).n = 0) (h : (G_law_raised i).run ((G_law_raised i).fr.map fun y => vals.lookup y) [] st = .ok d st') :
    m_law_raised cells vals [.fn (.lam i cells)] st = .ok .non st' := by
  simp [m_law_raised, b_law_raised, toFG, envG, callP, callR, hn, h]
theorem rais_rule {p : Str} (hn : (G_law_raised i).n = 0) (h : (G_law_raised i).run ((G_law_raised i).fr.map fun y => vals.lookup y) [] st = .ex (ruX p) st') :
    m_law_raised cells vals [.fn (.lam i cells)] st = .ok (.tup [.str "rule", .str p]) st' := by
  unfold ruX at h
  have hc : cntD (.bl true) [.bl true, .bl false, .bl false, .bl false, .bl false, .bl false, .bl false, .bl false, .bl false, .bl false] = 1 := by decide
  have hi : idxD (.bl true) [.bl true, .bl false, .bl false, .bl false, .bl false, .bl false, .bl false, .bl false, .bl false, .bl false] 0 = some 0 := by decide
  simp [m_law_raised, b_law_raised, toFG, envG, callP, callR, hn, h]
  rw [x_tryA3 (by simp) (by simp)]
  simp [x_eCnt, x_kCnt1, x_kCnt2, hc, x_kIx3 hi, -x_eXf, xfx (ns := xf_part) (f := "part") (x := ⟨"InvalidRule", [(("part" : Str), .str p)]⟩) (d := .str p) (by simp) rfl, -x_eIsX, isx (tb := ix_InvalidRule) (x := ⟨"InvalidRule", [(("part" : Str), .str p)]⟩) (t := true) rfl, isx (tb := ix_InvalidBook) (x := ⟨"InvalidRule", [(("part" : Str), .str p)]⟩) (t := false) rfl, isx (tb := ix_InvalidQuestion) (x := ⟨"InvalidRule", [(("part" : Str), .str p)]⟩) (t := false) rfl, isx (tb := ix_InvalidRow) (x := ⟨"InvalidRule", [(("part" : Str), .str p)]⟩) (t := false) rfl, isx (tb := ix_UnknownPiece) (x := ⟨"InvalidRule", [(("part" : Str), .str p)]⟩) (t := false) rfl, isx (tb := ix_InvalidNumber) (x := ⟨"InvalidRule", [(("part" : Str), .str p)]⟩) (t := false) rfl, isx (tb := ix_UnlikeBooks) (x := ⟨"InvalidRule", [(("part" : Str), .str p)]⟩) (t := false) rfl, isx (tb := ix_InvalidPiece) (x := ⟨"InvalidRule", [(("part" : Str), .str p)]⟩) (t := false) rfl, isx (tb := ix_TooMany) (x := ⟨"InvalidRule", [(("part" : Str), .str p)]⟩) (t := false) rfl, isx (tb := ix_UnknownRule) (x := ⟨"InvalidRule", [(("part" : Str), .str p)]⟩) (t := false) rfl, isx (tb := ix_ValueError) (x := ⟨"InvalidRule", [(("part" : Str), .str p)]⟩) (t := true) rfl]
theorem rais_book {p : Str} {j : Nat} (hn : (G_law_raised i).n = 0) (h : (G_law_raised i).run ((G_law_raised i).fr.map fun y => vals.lookup y) [] st = .ex (bkX p j) st') :
    m_law_raised cells vals [.fn (.lam i cells)] st = .ok (.tup [.str "book", .str p, .int (j : Nat)]) st' := by
  unfold bkX at h
  have hc : cntD (.bl true) [.bl false, .bl true, .bl false, .bl false, .bl false, .bl false, .bl false, .bl false, .bl false, .bl false] = 1 := by decide
  have hi : idxD (.bl true) [.bl false, .bl true, .bl false, .bl false, .bl false, .bl false, .bl false, .bl false, .bl false, .bl false] 0 = some 1 := by decide
  simp [m_law_raised, b_law_raised, toFG, envG, callP, callR, hn, h]
  rw [x_tryA3 (by simp) (by simp)]
  simp [x_eCnt, x_kCnt1, x_kCnt2, hc, x_kIx3 hi, -x_eXf, xfx (ns := xf_part) (f := "part") (x := ⟨"InvalidBook", [(("index" : Str), .int (j : Nat)), (("part" : Str), .str p)]⟩) (d := .str p) (by simp) rfl, xfx (ns := xf_index) (f := "index") (x := ⟨"InvalidBook", [(("index" : Str), .int (j : Nat)), (("part" : Str), .str p)]⟩) (d := .int (j : Nat)) (by simp) rfl, -x_eIsX, isx (tb := ix_InvalidRule) (x := ⟨"InvalidBook", [(("index" : Str), .int (j : Nat)), (("part" : Str), .str p)]⟩) (t := false) rfl, isx (tb := ix_InvalidBook) (x := ⟨"InvalidBook", [(("index" : Str), .int (j : Nat)), (("part" : Str), .str p)]⟩) (t := true) rfl, isx (tb := ix_InvalidQuestion) (x := ⟨"InvalidBook", [(("index" : Str), .int (j : Nat)), (("part" : Str), .str p)]⟩) (t := false) rfl, isx (tb := ix_InvalidRow) (x := ⟨"InvalidBook", [(("index" : Str), .int (j : Nat)), (("part" : Str), .str p)]⟩) (t := false) rfl, isx (tb := ix_UnknownPiece) (x := ⟨"InvalidBook", [(("index" : Str), .int (j : Nat)), (("part" : Str), .str p)]⟩) (t := false) rfl, isx (tb := ix_InvalidNumber) (x := ⟨"InvalidBook", [(("index" : Str), .int (j : Nat)), (("part" : Str), .str p)]⟩) (t := false) rfl, isx (tb := ix_UnlikeBooks) (x := ⟨"InvalidBook", [(("index" : Str), .int (j : Nat)), (("part" : Str), .str p)]⟩) (t := false) rfl, isx (tb := ix_InvalidPiece) (x := ⟨"InvalidBook", [(("index" : Str), .int (j : Nat)), (("part" : Str), .str p)]⟩) (t := false) rfl, isx (tb := ix_TooMany) (x := ⟨"InvalidBook", [(("index" : Str), .int (j : Nat)), (("part" : Str), .str p)]⟩) (t := false) rfl, isx (tb := ix_UnknownRule) (x := ⟨"InvalidBook", [(("index" : Str), .int (j : Nat)), (("part" : Str), .str p)]⟩) (t := false) rfl, isx (tb := ix_ValueError) (x := ⟨"InvalidBook", [(("index" : Str), .int (j : Nat)), (("part" : Str), .str p)]⟩) (t := true) rfl]
end
end VP
namespace VP
open PySem PySem.Spec PyProof.Rows L2 VE
open SX (S S_len S_cat S_inj)
local instance inst_S2 : VE.VEnv := VE.VEnv.dummy
section
variable {st st' : Sto} {env : EnvD} {i : Nat} {ks : List Str} {rs : List Rul}
theorem pt_plM {r : Rul} (h : RulOk r) (n : Nat) : plain (n + 3) r.pt = true := by
  have h1 := h.piece.ok
  have h2 := h.kinds.pl (m := n + 1)
  show plains (n + 2) [.str r.piece, .int r.low, .int r.high, .int r.modulus, .tup (r.rests.map .int), .tup (r.kinds.map .str)] = true
  have h3 : plain (n + 2) (.tup (r.rests.map .int)) = true := by show plains (n + 1) _ = true; simp
  have h4 : plain (n + 2) (.tup (r.kinds.map .str)) = true := h2
  simp only [pls_cons, h3, h4]
  simp [h1]
theorem pt_p19 {r : Rul} (h : RulOk r) : plain 19 r.pt = true := pt_plM h 16
theorem cutW {xs : List D} {i : Nat} (h : i ≤ xs.length) : VE.cutD xs (some (i : Int)) none = xs.drop i := by
  unfold VE.cutD
  have h1 : HT.sIx xs.length xs.length none = xs.length := rfl
  have h2 : HT.sIx xs.length 0 (some (i : Int)) = i := by simp only [HT.sIx]; split <;> omega
  rw [h1, h2]
  exact List.take_of_length_le (by simp)
theorem told_ok (hk : KB ks) (h : RulsB ks rs) : m_law_is_told [.tup (ks.map .str), .lst (rs.map Rul.pt)] st = .ok (.bl true) st := by
  have hbk := h.bok hk
  have hl := h.len
  have hb : ∀ st, m_law_book [.tup (ks.map .str), .lst (rs.map Rul.pt)] st = .ok (Bok.d ⟨ks, rs⟩) st := fun st => law_book hk h
  have hrv : RulsB ks rs.reverse := ⟨fun r hr => h.ok r (List.mem_reverse.mp hr), fun r hr => h.sub r (List.mem_reverse.mp hr), by simpa using hl⟩
  have hbr : ∀ st, m_law_book [.tup (ks.map .str), .lst (rs.reverse.map Rul.pt)] st = .ok (Bok.d ⟨ks, rs.reverse⟩) st := fun st => law_book hk hrv
  have hln := fun env (st : Sto) => sp_lnB (b := ⟨ks, rs⟩) (env := env) (st := st) hbk
  have hp : ∀ n, plains (n + 4) (rs.map Rul.pt) = true := fun n => pls_map fun r hr => by
    exact pt_plM (h.ok r hr) (n + 1)
  have c1 := comp_all (st := st) (t := gN 4) (ws := [4]) (fe := eTup (eCons (ePrU "Rule" m_Rule_piece (eVar 4)) (eCons (ePrU "Rule" m_Rule_low (eVar 4)) (eCons (ePrU "Rule" m_Rule_high (eVar 4)) (eCons (ePrU "Rule" m_Rule_modulus (eVar 4)) (eCons (ePrU "Rule" m_Rule_rests (eVar 4)) (eCons (ePrU "Rule" m_Rule_kinds (eVar 4)) (eNil)))))))) (g := Rul.d) (f := Rul.pt) (xs := rs) (env := [.va (.tup (ks.map .str)), .va (.lst (rs.map Rul.pt)), .va (Bok.d ⟨ks, rs⟩), .no, .no, .no]) (by omega) (by
    intro r hr
    exact ⟨[.va (.tup (ks.map .str)), .va (.lst (rs.map Rul.pt)), .va (Bok.d ⟨ks, rs⟩), .no, .va r.d, .no], rfl, [.va (.tup (ks.map .str)), .va (.lst (rs.map Rul.pt)), .va (Bok.d ⟨ks, rs⟩), .no, .va r.d, .no], by simp [Rul.pt], rfl, rfl⟩)
  have w0 : wipeD [4] [.va (.tup (ks.map .str)), .va (.lst (rs.map Rul.pt)), .va (Bok.d ⟨ks, rs⟩), .no, .no, .no] = [.va (.tup (ks.map .str)), .va (.lst (rs.map Rul.pt)), .va (Bok.d ⟨ks, rs⟩), .no, .no, .no] := rfl
  rw [w0] at c1
  have c2 := comp_all (st := st) (t := gN 5) (ws := [5]) (fe := eBin ixA (eVar 5) (eC (.int 0))) (g := Rul.pt) (f := fun r : Rul => .str r.piece) (xs := rs) (env := [.va (.tup (ks.map .str)), .va (.lst (rs.map Rul.pt)), .va (Bok.d ⟨ks, rs⟩), .va (.lst (rs.map Rul.pt)), .no, .no]) (by omega) (by
    intro r hr
    exact ⟨[.va (.tup (ks.map .str)), .va (.lst (rs.map Rul.pt)), .va (Bok.d ⟨ks, rs⟩), .va (.lst (rs.map Rul.pt)), .no, .va r.pt], rfl, [.va (.tup (ks.map .str)), .va (.lst (rs.map Rul.pt)), .va (Bok.d ⟨ks, rs⟩), .va (.lst (rs.map Rul.pt)), .no, .va r.pt], by simp, rfl, rfl⟩)
  have w1 : wipeD [5] [.va (.tup (ks.map .str)), .va (.lst (rs.map Rul.pt)), .va (Bok.d ⟨ks, rs⟩), .va (.lst (rs.map Rul.pt)), .no, .no] = [.va (.tup (ks.map .str)), .va (.lst (rs.map Rul.pt)), .va (Bok.d ⟨ks, rs⟩), .va (.lst (rs.map Rul.pt)), .no, .no] := rfl
  rw [w1] at c2
  have hpc := sp_pieces (st := st) hbk
  have hset := sset_pcs hbk
  have hk18 : plains 18 (ks.map .str) = true := hk.ok.pl
  have hqs : plain 20 (.tup [.tup (ks.map .str), .lst (rs.map Rul.pt), .int rs.length]) = true := by
    have h2 := hp 14
    simp [hk18, h2]
  have hq := neP_same hqs
  have hps : plain 20 (.lst ((pcs ⟨ks, rs⟩).map .str)) = true := by
    show plains 19 _ = true
    exact pls_map fun k hk => by have := pcs_okS hbk hk; simpa using this
  have hps2 := neP_same hps
  have hx1 := fun env => cmpX_bb (env := env) (q := false) (sp_Book_eq (st := st) (ks := ks) h.ok h.ok)
  have hx2 := fun env => cmpX_bb (env := env) (q := true) (sp_Book_eq (st := st) (ks := ks) h.ok hrv.ok)
  have hx3 := fun env (q : Bool) => cmpX_bt (b := ⟨ks, rs⟩) (ds := ks.map .str) (st := st) (env := env) (q := q)
  have hrf : eqDs (rs.map Rul.pt) (rs.map Rul.pt) = true := eqDs_refl 20 _ (hp 16)
  rw [hrf] at hx1
  have hpl : plain 20 (.lst (rs.map Rul.pt)) = true := hp 15
  have hplr : plain 20 (.lst (rs.reverse.map Rul.pt)) = true := by
    show plains 19 _ = true
    exact pls_map fun r hr => pt_p19 (h.ok r (List.mem_reverse.mp hr))
  have hq2 := x_eqP hpl hplr
  have hqb : ∀ t : Bool, neP (.bl t) (.bl t) = some (.bl false) := fun t => neP_same rfl
  have hqn : eqP (.lst (rs.map Rul.pt)) (.lst []) = some (.bl rs.isEmpty) := by
    rw [x_eqP hpl rfl, eq_lst]
    cases rs <;> simp
  simp [m_law_is_told, b_law_is_told, toF_def, env0, hb, hbr, hln, c1, c2, hq, hpc, hset, hps2, hx1, hx2, hx3, ← List.map_reverse, hq2, hqb, hqn]
  cases rs with
  | nil => simp
  | cons r t =>
    have ht : RulsB ks t := ⟨fun x hx => h.ok x (List.mem_cons_of_mem _ hx), fun x hx => h.sub x (List.mem_cons_of_mem _ hx), by simp at hl; omega⟩
    have hbt : ∀ st, m_law_book [.tup (ks.map .str), .lst (t.map Rul.pt)] st = .ok (Bok.d ⟨ks, t⟩) st := fun st => law_book hk ht
    have hx4 := fun env => cmpX_bb (env := env) (q := false) (sp_Book_eq (st := st) (ks := ks) h.ok ht.ok)
    rw [eqs_len (by simp)] at hx4
    have hx5 : ∀ env, cmpX "Rule" m_Rule_eq false r.d r.pt env st = .ok (.bl true) env st := fun env => cmpX_rt (q := false)
    have hcut : VE.cutD (r.pt :: t.map Rul.pt) (some 1) none = t.map Rul.pt := cutW (xs := r.pt :: t.map Rul.pt) (i := 1) (by simp)
    simp [hbt, hx4, hx5, hcut]
end
end VP
namespace VP
open PySem PySem.Spec PyProof.Rows L2 VE
open SX (S S_len S_cat S_inj)
local instance inst_S3 : VE.VEnv := VE.VEnv.dummy
section
variable {st st' : Sto} {env : EnvD} {r : Rul}
def odd0 : List D := [.str "", .str "Ant", .str "abcdefghi", .str "a t"]
def odd1 : List D := [.int (-1), .int 1000000000000000000000000000000, .bl true]
def odd2 (r : Rul) : List D := [.int (r.low - 1), .int 1000000000000000000000000000000]
def odd3 : List D := [.int 0, .int 5, .int 8, .int 24, .bl true]
def odd4 (r : Rul) : List D := [.tup [], .tup [.int r.modulus], .tup [.int 0, .int 0], .tup [.int (-1)], .tup [.bl true]]
def odd5 : List D := [.tup [], .tup [.str "pot", .str "cup"], .tup [.str "cup", .str "cup"], .tup [.str "Cup"]]
def tpD (d : D) (o : List D) (b : Bool) (p : D) : Prop := if b then p ∈ o else p = d
theorem no_word {p : D} (h : p ∈ odd0) : m_is_word [p] st = .ok (.bl false) st := by
  have w : ∀ L : List Nat, (∀ c ∈ L, c < 128) → L.length ≤ 1000 → wordB L = false → m_is_word [.str (S L)] st = .ok (.bl false) st := fun L h1 h2 h3 => by rw [sp_wordB h1 h2, h3]
  simp only [odd0, List.mem_cons, List.not_mem_nil, or_false] at h
  rcases h with rfl | rfl | rfl | rfl
  · exact w [] (by decide) (by decide) (by decide)
  · exact w [65, 110, 116] (by decide) (by decide) (by decide)
  · exact w [97, 98, 99, 100, 101, 102, 103, 104, 105] (by decide) (by decide) (by decide)
  · exact w [97, 32, 116] (by decide) (by decide) (by decide)
theorem num_bl {lo hi : D} {b : Bool} : m_is_number [.bl b, lo, hi] st = .ok (.bl false) st := by
  simp [m_is_number, b_is_number, toF_def, env0]
theorem no_low {p : D} (h : p ∈ odd1) : m_is_number [p, .int 0, k_LAST] st = .ok (.bl false) st := by
  simp only [odd1, List.mem_cons, List.not_mem_nil, or_false] at h
  rcases h with rfl | rfl | rfl
  · rw [show k_LAST = .int 999999999999999999999999999999 from rfl, sp_is_number]; rfl
  · rw [show k_LAST = .int 999999999999999999999999999999 from rfl, sp_is_number]; rfl
  · exact num_bl
theorem no_high {p : D} (h : p ∈ odd2 r) : m_is_number [p, .int r.low, k_LAST] st = .ok (.bl false) st := by
  simp only [odd2, List.mem_cons, List.not_mem_nil, or_false] at h
  rcases h with rfl | rfl
  · rw [show k_LAST = .int 999999999999999999999999999999 from rfl, sp_is_number]
    have a1 : decide (r.low ≤ r.low - 1) = false := decide_eq_false (by omega)
    rw [a1]; rfl
  · rw [show k_LAST = .int 999999999999999999999999999999 from rfl, sp_is_number]
    have a1 : decide ((1000000000000000000000000000000 : Int) ≤ 999999999999999999999999999999) = false := by decide
    rw [a1, Bool.and_false]
theorem no_rests {p : D} (h : p ∈ odd4 r) (h0 : 0 < r.modulus) : m_are_rests [.int r.modulus, p] st = .ok (.bl false) st := by
  simp only [odd4, List.mem_cons, List.not_mem_nil, or_false] at h
  have w : ∀ xs : List Int, xs.length < 1000 → (!xs.isEmpty && (xs.all (fun x => decide (0 ≤ x) && decide (x ≤ r.modulus - 1)) && ascIB xs)) = false → m_are_rests [.int r.modulus, .tup (xs.map .int)] st = .ok (.bl false) st := fun xs h1 h2 => by rw [sp_are_restsB h1, h2]
  rcases h with rfl | rfl | rfl | rfl | rfl
  · exact w [] (by decide) rfl
  · refine w [r.modulus] (by simp) ?_
    have : decide (r.modulus ≤ r.modulus - 1) = false := decide_eq_false (by omega)
    simp [this]
  · refine w [0, 0] (by simp) ?_
    have : ascIB [0, 0] = false := by decide
    rw [this, Bool.and_false, Bool.and_false]
  · refine w [-1] (by simp) ?_
    simp
  · have hb : blsOf [D.bl false] = some [false] := rfl
    simp [m_are_rests, b_are_rests, toF_def, env0, compL, num_bl, gN, allD, hb]
theorem no_kinds {p : D} (h : p ∈ odd5) : m_are_kinds [p] st = .ok (.bl false) st := by
  simp only [odd5, List.mem_cons, List.not_mem_nil, or_false] at h
  have w : ∀ ks : List (List Nat), (∀ w ∈ ks, ∀ c ∈ w, c < 128) → (∀ w ∈ ks, w.length ≤ 1000) → ks.length < 1000 → (!ks.isEmpty && (ks.all wordB && ascSB (ks.map S))) = false → m_are_kinds [.tup (ks.map wd)] st = .ok (.bl false) st := fun ks h1 h2 h3 h4 => by rw [sp_are_kindsB h1 h2 h3, h4]
  rcases h with rfl | rfl | rfl | rfl
  · exact w [] (by decide) (by decide) (by decide) rfl
  · exact w [[112, 111, 116], [99, 117, 112]] (by decide) (by decide) (by decide) (by decide +kernel)
  · exact w [[99, 117, 112], [99, 117, 112]] (by decide) (by decide) (by decide) (by decide +kernel)
  · exact w [[67, 117, 112]] (by decide) (by decide) (by decide) (by decide +kernel)
theorem no_mod {p : D} (h : p ∈ odd3) : ∀ s0 s1 s2 s3 s5 s6, bOr (eT (eUn (isiD "bool") (eVar 4))) (eT (eBin (inA true) (eVar 4) (eC k_MODULI))) [s0, s1, s2, s3, .va p, s5, s6] st = .ok true [s0, s1, s2, s3, .va p, s5, s6] st := by
  intro s0 s1 s2 s3 s5 s6
  have w : ∀ n : Int, inMod n = false → bOr (eT (eUn (isiD "bool") (eVar 4))) (eT (eBin (inA true) (eVar 4) (eC k_MODULI))) [s0, s1, s2, s3, .va (.int n), s5, s6] st = .ok true [s0, s1, s2, s3, .va (.int n), s5, s6] st := fun n hn => by
    have hm : inV true (.int n) k_MODULI = some (.bl (!inMod n)) := by
      have e : k_MODULI = .tup (([1, 2, 3, 4, 6, 12] : List Int).map .int) := rfl
      rw [e, in_ints]; rfl
    have hm' : inA true (.int n) k_MODULI = fun env st => VE.ret (inV true (.int n) k_MODULI) env st := rfl
    rw [hn] at hm
    simp [hm, hm']
  simp only [odd3, List.mem_cons, List.not_mem_nil, or_false] at h
  rcases h with rfl | rfl | rfl | rfl | rfl
  · exact w _ (by decide)
  · exact w _ (by decide)
  · exact w _ (by decide)
  · exact w _ (by decide)
  · simp
theorem is_mod (h : r.modulus ∈ [1, 2, 3, 4, 6, 12]) : ∀ s0 s1 s2 s3 s5 s6, bOr (eT (eUn (isiD "bool") (eVar 4))) (eT (eBin (inA true) (eVar 4) (eC k_MODULI))) [s0, s1, s2, s3, .va (.int r.modulus), s5, s6] st = .ok false [s0, s1, s2, s3, .va (.int r.modulus), s5, s6] st := by
  intro s0 s1 s2 s3 s5 s6
  have hm : inV true (.int r.modulus) k_MODULI = some (.bl (!inMod r.modulus)) := by
    have e : k_MODULI = .tup (([1, 2, 3, 4, 6, 12] : List Int).map .int) := rfl
    rw [e, in_ints]; rfl
  have hm' : inA true (.int r.modulus) k_MODULI = fun env st => VE.ret (inV true (.int r.modulus) k_MODULI) env st := rfl
  have hn : inMod r.modulus = true := decide_eq_true h
  rw [hn] at hm
  simp [hm, hm']
/-- what a rule with odd parts comes to -/
theorem rule_odd (h : RulOk r) {p0 p1 p2 p3 p4 p5 : D} {b0 b1 b2 b3 b4 b5 : Bool} (h0 : tpD (.str r.piece) odd0 b0 p0) (h1 : tpD (.int r.low) odd1 b1 p1) (h2 : tpD (.int r.high) (odd2 r) b2 p2) (h3 : tpD (.int r.modulus) odd3 b3 p3) (h4 : tpD (.tup (r.rests.map .int)) (odd4 r) b4 p4) (h5 : tpD (.tup (r.kinds.map .str)) odd5 b5 p5) :
    m_Rule_init [.ref st.length, p0, p1, p2, p3, p4, p5] (st ++ [.slo "Rule" []]) = ruM (partE (!b0) (!b1) (!b2) (!b3) (!b4) (!b5)) st [p0, p1, p2, p3, p4, p5] := by
  have l0 := h.low0
  have l1 := h.low1
  have l2 := h.high0
  have l3 := h.high1
  unfold LASTn at l1 l3
  have hmp : 0 < r.modulus := by have := h.mod; simp at this; omega
  refine Rule_by ?_ (fun e0 => ?_) (fun e0 e1 => ?_) (fun e0 e1 e2 => ?_) (fun e0 e1 e2 e3 => ?_) (fun e0 e1 e2 e3 e4 => ?_)
  · cases b0 with
    | true => exact no_word (by simpa [tpD] using h0)
    | false => rw [show p0 = .str r.piece by simpa [tpD] using h0]; exact sp_is_word h.piece
  · cases b1 with
    | true => exact no_low (by simpa [tpD] using h1)
    | false =>
      rw [show p1 = .int r.low by simpa [tpD] using h1, show k_LAST = .int 999999999999999999999999999999 from rfl, sp_is_number, decide_eq_true l0, decide_eq_true (by simpa using l1)]
      rfl
  · have e1 : b1 = false := by simpa using e1
    subst e1
    rw [show p1 = .int r.low by simpa [tpD] using h1]
    cases b2 with
    | true => exact no_high (r := r) (by simpa [tpD] using h2)
    | false =>
      rw [show p2 = .int r.high by simpa [tpD] using h2, show k_LAST = .int 999999999999999999999999999999 from rfl, sp_is_number, decide_eq_true l2, decide_eq_true (by simpa using l3)]
      rfl
  · cases b3 with
    | true => exact no_mod (by simpa [tpD] using h3) _ _ _ _ _ _
    | false => rw [show p3 = .int r.modulus by simpa [tpD] using h3]; exact is_mod h.mod _ _ _ _ _ _
  · have e3 : b3 = false := by simpa using e3
    subst e3
    rw [show p3 = .int r.modulus by simpa [tpD] using h3]
    cases b4 with
    | true => exact no_rests (by simpa [tpD] using h4) hmp
    | false => rw [show p4 = .tup (r.rests.map .int) by simpa [tpD] using h4]; exact sp_are_rests h.rne h.rin h.rasc h.rlen
  · cases b5 with
    | true => exact no_kinds (by simpa [tpD] using h5)
    | false => rw [show p5 = .tup (r.kinds.map .str) by simpa [tpD] using h5]; exact sp_are_kinds h.kinds
end
end VP
namespace VP
open PySem PySem.Spec PyProof.Rows L2 VE
open SX (S S_len S_cat S_inj)
local instance inst_S4 : VE.VEnv := VE.VEnv.dummy
section
variable {st st' : Sto} {env : EnvD} {r : Rul} {ns : List Int}
def oddK (r : Rul) : Nat → List D
  | 0 => odd0
  | 1 => odd1
  | 2 => odd2 r
  | 3 => odd3
  | 4 => odd4 r
  | _ => odd5
def oddL (r : Rul) : List D := [.lst odd0, .lst odd1, .lst (odd2 r), .lst odd3, .lst (odd4 r), .lst odd5]
theorem oddL_at (r : Rul) {k : Nat} (h : k < 6) : (oddL r)[k]? = some (.lst (oddK r k)) := by
  have : k = 0 ∨ k = 1 ∨ k = 2 ∨ k = 3 ∨ k = 4 ∨ k = 5 := by omega
  rcases this with rfl | rfl | rfl | rfl | rfl | rfl <;> rfl
noncomputable def bodyO : M Fl := sItemA (eVar 3) (eVar 6) (eCall m_law_pick 2 (eCons (eVar 1) (eCons (eBin ixA (eVar 4) (eVar 6)) (eNil))))
theorem odd_loop {s0 s2 s5 s7 s8 s9 s10 s11 s12 : Sl} : ∀ (l : List Nat) (P : List D) (c : Cell), (∀ k ∈ l, k < 6) → P.length = 6 → DrawOk ns c →
    ∃ P' c', forL (gN 6) [6] bodyO (l.map fun k : Nat => D.int (k : Nat)) [s0, .va (.ref 0), s2, .va (.ref 1), .va (.lst (oddL r)), s5, .no, s7, s8, s9, s10, s11, s12] [c, .lst P] = .ok .nx [s0, .va (.ref 0), s2, .va (.ref 1), .va (.lst (oddL r)), s5, .no, s7, s8, s9, s10, s11, s12] [c', .lst P'] ∧
      DrawOk ns c' ∧ P'.length = 6 ∧ ∀ j, j < 6 → ∃ p, P'[j]? = some p ∧ (if j ∈ l then p ∈ oddK r j else P[j]? = some p)
  | [], P, c, _, hl, hc => ⟨P, c, rfl, hc, hl, fun j hj => ⟨P[j]'(by omega), List.getElem?_eq_getElem (by omega), by simp⟩⟩
  | k :: l, P, c, hk, hl, hc => by
    have k6 := hk k List.mem_cons_self
    obtain ⟨x, c1, e1, hx, hc1⟩ := pickL (rest := [.lst P]) (xs := oddK r k) (by unfold oddK; split <;> simp [odd0, odd1, odd2, odd3, odd4, odd5]) (by unfold oddK; split <;> simp [odd0, odd1, odd2, odd3, odd4, odd5]) hc
    obtain ⟨P', c', e2, hc', hl', hp⟩ := odd_loop (s0 := s0) (s2 := s2) (s5 := s5) (s7 := s7) (s8 := s8) (s9 := s9) (s10 := s10) (s11 := s11) (s12 := s12) l (P.set k x) c1 (fun j hj => hk j (List.mem_cons_of_mem _ hj)) (by simpa using hl) hc1
    refine ⟨P', c', ?_, hc', hl', fun j hj => ?_⟩
    · rw [List.map_cons]
      unfold forL
      have ha : atI (oddL r) (k : Nat) = some (.lst (oddK r k)) := atI_nat (oddL_at r k6)
      have hx6 : ixN P.length (k : Nat) = some k := by rw [ixN_nat (by omega) (by omega)]; simp
      have hb : bodyO [s0, .va (.ref 0), s2, .va (.ref 1), .va (.lst (oddL r)), s5, .va (.int (k : Nat)), s7, s8, s9, s10, s11, s12] [c, .lst P] = .ok .nx [s0, .va (.ref 0), s2, .va (.ref 1), .va (.lst (oddL r)), s5, .va (.int (k : Nat)), s7, s8, s9, s10, s11, s12] [c1, .lst (P.set k x)] := by
        simp [bodyO, ha, e1, hx6]
      have hg : gN 6 (D.int (k : Nat)) [s0, .va (.ref 0), s2, .va (.ref 1), .va (.lst (oddL r)), s5, .no, s7, s8, s9, s10, s11, s12] = some [s0, .va (.ref 0), s2, .va (.ref 1), .va (.lst (oddL r)), s5, .va (.int (k : Nat)), s7, s8, s9, s10, s11, s12] := rfl
      rw [hg]
      dsimp only
      rw [hb]
      exact e2
    · obtain ⟨p, h1, h2⟩ := hp j hj
      refine ⟨p, h1, ?_⟩
      by_cases hjl : j ∈ l
      · rw [if_pos hjl] at h2
        rw [if_pos (List.mem_cons_of_mem _ hjl)]
        exact h2
      · rw [if_neg hjl] at h2
        by_cases hjk : j = k
        · subst hjk
          rw [if_pos List.mem_cons_self]
          rw [List.getElem?_set_self (by omega)] at h2
          cases h2
          exact hx
        · rw [if_neg (fun h => by rcases List.mem_cons.mp h with h | h; exact hjk h; exact hjl h)]
          rw [List.getElem?_set_ne (fun h => hjk h.symm)] at h2
          exact h2
end
end VP
namespace VP
open PySem PySem.Spec PyProof.Rows L2 VE
open SX (S S_len S_cat S_inj)
local instance inst_S5 : VE.VEnv := VE.VEnv.dummy
section
variable {st st' : Sto} {env : EnvD} {r : Rul} {ns : List Int}
def nameK : List Str := ["piece", "low", "high", "modulus", "rests", "kinds"]
theorem due_of {ys : List Nat} (h : ys.Sublist [0, 1, 2, 3, 4, 5]) : partE (!decide (0 ∈ ys)) (!decide (1 ∈ ys)) (!decide (2 ∈ ys)) (!decide (3 ∈ ys)) (!decide (4 ∈ ys)) (!decide (5 ∈ ys)) = (ys.head?.bind fun x => nameK[x]?) := by
  rcases List.sublist_cons_iff.mp h with h | ⟨t, rfl, _⟩
  · have n0 : 0 ∉ ys := fun m => by have := h.subset m; simp at this
    rcases List.sublist_cons_iff.mp h with h | ⟨t, rfl, _⟩
    · have n1 : 1 ∉ ys := fun m => by have := h.subset m; simp at this
      rcases List.sublist_cons_iff.mp h with h | ⟨t, rfl, _⟩
      · have n2 : 2 ∉ ys := fun m => by have := h.subset m; simp at this
        rcases List.sublist_cons_iff.mp h with h | ⟨t, rfl, _⟩
        · have n3 : 3 ∉ ys := fun m => by have := h.subset m; simp at this
          rcases List.sublist_cons_iff.mp h with h | ⟨t, rfl, _⟩
          · have n4 : 4 ∉ ys := fun m => by have := h.subset m; simp at this
            rcases List.sublist_cons_iff.mp h with h | ⟨t, rfl, _⟩
            · cases List.sublist_nil.mp h; simp [partE]
            · simp [partE, n0, n1, n2, n3, n4, nameK] at *
          · simp [partE, nameK, n0, n1, n2, n3] at *
        · simp [partE, nameK, n0, n1, n2] at *
      · simp [partE, nameK, n0, n1] at *
    · simp [partE, nameK, n0] at *
  · simp [partE, nameK]
variable {s0 s1 s2 s4 s5 s6 s7 s8 s9 s10 s11 s12 : Sl} {c : Cell} {p h0 m a b : D} {l : Int}
theorem p1030 : eBin (sc2 powI) (eC (.int 10)) (eC (.int 30)) env st = .ok (.int 1000000000000000000000000000000) env st := by
  have h : powI (.int 10) (.int 30) = some (.int 1000000000000000000000000000000) := by simp [powI]
  simp [h]
theorem t3 {K : M Fl} : sSeq (sSet 4 (eLst (eCons (eLst (eCons (eC (.str ("" : Str))) (eCons (eC (.str ("Ant" : Str))) (eCons (eC (.str ("abcdefghi" : Str))) (eCons (eC (.str ("a t" : Str))) (eNil)))))) (eCons (eLst (eCons (eUn negI (eC (.int 1))) (eCons (eBin (sc2 powI) (eC (.int 10)) (eC (.int 30))) (eCons (eC (.bl true)) (eNil))))) (eCons (eLst (eCons (eBin (sc2 subI) (eBin ixA (eVar 3) (eC (.int 1))) (eC (.int 1))) (eCons (eBin (sc2 powI) (eC (.int 10)) (eC (.int 30))) (eNil)))) (eCons (eLst (eCons (eC (.int 0)) (eCons (eC (.int 5)) (eCons (eC (.int 8)) (eCons (eC (.int 24)) (eCons (eC (.bl true)) (eNil))))))) (eNil))))))) K [s0, s1, s2, .va (.ref 1), s4, s5, s6, s7, s8, s9, s10, s11, s12] [c, .lst [p, .int l, h0, m, a, b]] =
   K [s0, s1, s2, .va (.ref 1), .va (.lst [.lst odd0, .lst odd1, .lst [.int (l - 1), .int 1000000000000000000000000000000], .lst odd3]), s5, s6, s7, s8, s9, s10, s11, s12] [c, .lst [p, .int l, h0, m, a, b]] := by
  simp [↓p1030, odd0, odd1, odd3, subI]
theorem t4 {K : M Fl} {L : List D} (hL : L.length ≤ 1000) : sSeq (sSet 4 (eBin (sv2 addA) (eVar 4) (eLst (eCons (eLst (eCons (eTup (eNil)) (eCons (eTup (eCons (eBin ixA (eVar 3) (eC (.int 3))) (eNil))) (eCons (eTup (eCons (eC (.int 0)) (eCons (eC (.int 0)) (eNil)))) (eCons (eTup (eCons (eUn negI (eC (.int 1))) (eNil))) (eCons (eTup (eCons (eC (.bl true)) (eNil))) (eNil))))))) (eCons (eLst (eCons (eTup (eNil)) (eCons (eTup (eCons (eC (.str ("pot" : Str))) (eCons (eC (.str ("cup" : Str))) (eNil)))) (eCons (eTup (eCons (eC (.str ("cup" : Str))) (eCons (eC (.str ("cup" : Str))) (eNil)))) (eCons (eTup (eCons (eC (.str ("Cup" : Str))) (eNil))) (eNil)))))) (eNil)))))) K [s0, s1, s2, .va (.ref 1), .va (.lst L), s5, s6, s7, s8, s9, s10, s11, s12] [c, .lst [p, .int l, h0, m, a, b]] =
   K [s0, s1, s2, .va (.ref 1), .va (.lst (L ++ [.lst [.tup [], .tup [m], .tup [.int 0, .int 0], .tup [.int (-1)], .tup [.bl true]], .lst odd5])), s5, s6, s7, s8, s9, s10, s11, s12] [c, .lst [p, .int l, h0, m, a, b]] := by
  have h1 : L.length ≤ 16777214 := by omega
  simp [odd5, h1]
theorem t2 {K : M Fl} {ks : List Str} {far : Int} {c1 c2 c3 : Cell} {s3 : Sl} (e2 : m_law_pick [.ref 0, .lst [.int 40, .int 1000000000000000000000000000000]] [c1] = .ok (.int far) [c2]) (e3 : m_law_rule [.ref 0, .tup (ks.map .str), .int far] [c2] = .ok r.pt [c3]) :
   sSeq (sSet 3 (eCellF (eBlt (b1 listD) (eCons (eCall m_law_rule 3 (eCons (eVar 1) (eCons (eVar 2) (eCons (eCall m_law_pick 2 (eCons (eVar 1) (eCons (eLst (eCons (eC (.int 40)) (eCons (eBin (sc2 powI) (eC (.int 10)) (eC (.int 30))) (eNil)))) (eNil)))) (eNil))))) eNil)))) K [s0, .va (.ref 0), .va (.tup (ks.map .str)), s3, s4, s5, s6, s7, s8, s9, s10, s11, s12] [c1] =
   K [s0, .va (.ref 0), .va (.tup (ks.map .str)), .va (.ref 1), s4, s5, s6, s7, s8, s9, s10, s11, s12] [c3, .lst [.str r.piece, .int r.low, .int r.high, .int r.modulus, .tup (r.rests.map .int), .tup (r.kinds.map .str)]] := by
  simp [↓p1030, e2, e3, Rul.pt]
def dueD (bad : List Nat) : D := match bad with
  | [] => .non
  | x :: _ => .tup [.str "rule", .str (nameK.getD x "")]
/-- what _law_raised tells of the rule with odd parts -/
theorem raised_odd (hro : RulOk r) {bad : List Nat} (hb : bad.Sublist [0, 1, 2, 3, 4, 5]) {c5 : Cell} {P : List D} (hP : P.length = 6) {cells : List (Str × Addr)}
    (hp : ∀ j, j < 6 → ∃ p, P[j]? = some p ∧ (if j ∈ bad then p ∈ oddK r j else [D.str r.piece, .int r.low, .int r.high, .int r.modulus, .tup (r.rests.map .int), .tup (r.kinds.map .str)][j]? = some p)) :
    m_law_raised cells [(("_law_part" : Str), .ref 1)] [.fn (.lam 0 cells)] [c5, .lst P] = .ok (dueD bad) [c5, .lst P] := by
  obtain ⟨p0, p1, p2, p3, p4, p5, rfl⟩ : ∃ p0 p1 p2 p3 p4 p5, P = [p0, p1, p2, p3, p4, p5] := by
    match P, hP with
    | [p0, p1, p2, p3, p4, p5], _ => exact ⟨_, _, _, _, _, _, rfl⟩
  have tp : ∀ (j : Nat) (d q : D) (o : List D), j < 6 → [p0, p1, p2, p3, p4, p5][j]? = some q → [D.str r.piece, .int r.low, .int r.high, .int r.modulus, .tup (r.rests.map .int), .tup (r.kinds.map .str)][j]? = some d → oddK r j = o → tpD d o (decide (j ∈ bad)) q := fun j d q o hj h1 h2 h3 => by
    obtain ⟨p, h4, h5⟩ := hp j hj
    rw [h1] at h4
    cases h4
    unfold tpD
    by_cases h : j ∈ bad
    · rw [if_pos h] at h5; rw [if_pos (by simpa using h), ← h3]; exact h5
    · rw [if_neg h, h2] at h5; rw [if_neg (by simpa using h)]; exact (Option.some.inj h5).symm
  have ho := rule_odd (st := [c5, .lst [p0, p1, p2, p3, p4, p5]]) hro (tp 0 _ p0 _ (by decide) rfl rfl rfl) (tp 1 _ p1 _ (by decide) rfl rfl rfl) (tp 2 _ p2 _ (by decide) rfl rfl rfl) (tp 3 _ p3 _ (by decide) rfl rfl rfl) (tp 4 _ p4 _ (by decide) rfl rfl rfl) (tp 5 _ p5 _ (by decide) rfl rfl rfl)
  rw [due_of hb] at ho
  cases bad with
  | nil =>
    refine rais_none (d := .obj "Rule" [.tup [p0, p1, p2, p3, p4, p5]]) rfl ?_
    simp [ruM] at ho
    have q : ∀ (j : Nat) (d q : D), j < 6 → [p0, p1, p2, p3, p4, p5][j]? = some q → [D.str r.piece, .int r.low, .int r.high, .int r.modulus, .tup (r.rests.map .int), .tup (r.kinds.map .str)][j]? = some d → q = d := fun j d q h1 h2 h3 => by
      have := tp j d q _ h1 h2 h3 rfl
      simpa [tpD] using this
    have h2 : rfBs 2 [.tup [p0, p1, p2, p3, p4, p5]] = true := by
      rw [q 0 _ p0 (by decide) rfl rfl, q 1 _ p1 (by decide) rfl rfl, q 2 _ p2 (by decide) rfl rfl, q 3 _ p3 (by decide) rfl rfl, q 4 _ p4 (by decide) rfl rfl, q 5 _ p5 (by decide) rfl rfl]
      have h2 := @Rul.d_rf 2 r
      simpa [Rul.d] using h2
    have h3 := frzS_ok (n := "Rule") (env := [Sl.va (D.ref 1)]) (st := [c5, .lst [p0, p1, p2, p3, p4, p5]]) (xs := [.tup [p0, p1, p2, p3, p4, p5]]) h2
    simp only [List.cons_append, List.nil_append] at h3
    simp [G_law_raised, m_lam_law_0, toLam, b_lam_law_0, envL, ho, h3]
  | cons x t =>
    have hx6 : x < 6 := by have := hb.subset (List.mem_cons_self (a := x) (l := t)); simp at this; omega
    have hn : nameK[x]? = some (nameK.getD x "") := by
      rw [List.getD_eq_getElem?_getD, List.getElem?_eq_getElem (by simpa [nameK] using hx6)]
      rfl
    refine rais_rule (p := nameK.getD x "") rfl ?_
    generalize nameK.getD x "" = nm at hn ⊢
    have ho : m_Rule_init [.ref 2, p0, p1, p2, p3, p4, p5] [c5, .lst [p0, p1, p2, p3, p4, p5], .slo "Rule" []] = .ex (ruX nm) [c5, .lst [p0, p1, p2, p3, p4, p5], .slo "Rule" []] := by
      rw [show (List.head? (x :: t)).bind (fun x => nameK[x]?) = some nm from hn] at ho
      exact ho
    have h3 := frzS_ex (n := "Rule") (env := [Sl.va (D.ref 1)]) (st := [c5, .lst [p0, p1, p2, p3, p4, p5]]) (x := ruX nm) (c := .slo "Rule" []) (by simp [ruX])
    simp only [List.cons_append, List.nil_append] at h3
    simp [G_law_raised, m_lam_law_0, toLam, b_lam_law_0, envL, ho, h3]
    rfl
theorem ghv_no {y : Str} {j : Nat} {js : List (Str × Nat)} {env : EnvD} (h : env[j]? = some .no) : ghv ((y, j) :: js) env = ghv js env := by
  unfold ghv
  rw [List.filterMap_cons]
  simp [h]
theorem half1 (ns : List Int) (hl : ns.length ≤ 63) : ∃ (ks : List Str) (c : Cell) (P : List D) (s4 s5 s7 due : Sl), KB ks ∧ DrawOk ns c ∧ ∀ cells, b_law cells (env0 13 [.scr ns]) [] = b_law_T10 cells [.va (.scr ns), .va (.ref 0), .va (.tup (ks.map .str)), .va (.ref 1), s4, s5, .no, s7, due, .no, .no, .no, .no] [c, .lst P] := by
  have hc0 : DrawOk ns (drwC ns 0 0 0) := ⟨0, 0, 0, rfl, by decide, by decide, by decide⟩
  obtain ⟨ks, c1, e1, hk, hc1⟩ := law_kinds (rest := []) hc0
  obtain ⟨x, c2, e2, hx, hc2⟩ := pickL (rest := []) (xs := [D.int 40, D.int 1000000000000000000000000000000]) (by simp) (by simp) hc1
  obtain ⟨far, rfl, f0, f1⟩ : ∃ far, x = .int far ∧ 0 < far ∧ far ≤ 1000000000000000000000000000000 := by
    simp at hx
    rcases hx with rfl | rfl
    · exact ⟨_, rfl, by decide, by decide⟩
    · exact ⟨_, rfl, by decide, by decide⟩
  obtain ⟨r, c3, e3, hr, hc3⟩ := law_rule (rest := []) hk f0 f1 hc2
  have hro := hr.ok
  obtain ⟨bad, st4, hb, ⟨c4, rfl, hc4⟩, e4⟩ := comp_draw (t := gN 6) (ws := [6]) (tt := eT (eBin (sv2 eqP) (eCall m_law_taken 2 (eCons (eVar 1) (eCons (eC (.int 6)) (eNil)))) (eC (.int 0)))) (fe := eVar 6) (g := fun k : Nat => D.int (k : Nat)) (E0 := [.va (.scr ns), .va (.ref 0), .va (.tup (ks.map .str)), .va (.ref 1), .va (.lst (oddL r)), .no, .no, .no, .no, .no, .no, .no, .no]) (fun st => ∃ c, st = [c, .lst [.str r.piece, .int r.low, .int r.high, .int r.modulus, .tup (r.rests.map .int), .tup (r.kinds.map .str)]] ∧ DrawOk ns c) [0, 1, 2, 3, 4, 5] [] [.va (.scr ns), .va (.ref 0), .va (.tup (ks.map .str)), .va (.ref 1), .va (.lst (oddL r)), .no, .no, .no, .no, .no, .no, .no, .no] [c3, .lst [.str r.piece, .int r.low, .int r.high, .int r.modulus, .tup (r.rests.map .int), .tup (r.kinds.map .str)]] rfl ⟨c3, rfl, hc3⟩ (by simp) (by
    rintro k st hk ⟨c, rfl, hc⟩
    obtain ⟨q, c', e, _, _, hc'⟩ := taken (rest := [.lst [.str r.piece, .int r.low, .int r.high, .int r.modulus, .tup (r.rests.map .int), .tup (r.kinds.map .str)]]) (many := 6) hc (by decide) (by decide)
    refine ⟨[.va (.scr ns), .va (.ref 0), .va (.tup (ks.map .str)), .va (.ref 1), .va (.lst (oddL r)), .no, .va (.int (k : Nat)), .no, .no, .no, .no, .no, .no], rfl, decide (q = 0), [.va (.scr ns), .va (.ref 0), .va (.tup (ks.map .str)), .va (.ref 1), .va (.lst (oddL r)), .no, .va (.int (k : Nat)), .no, .no, .no, .no, .no, .no], [c', .lst [.str r.piece, .int r.low, .int r.high, .int r.modulus, .tup (r.rests.map .int), .tup (r.kinds.map .str)]], ?_, ⟨c', rfl, hc'⟩, rfl, [.va (.scr ns), .va (.ref 0), .va (.tup (ks.map .str)), .va (.ref 1), .va (.lst (oddL r)), .no, .va (.int (k : Nat)), .no, .no, .no, .no, .no, .no], ?_, rfl⟩
    · simp [e]
    · simp)
  rw [List.nil_append] at e4
  have hbl : bad.length ≤ 6 := by have := hb.length_le; simpa using this
  obtain ⟨P, c5, e5, hc5, hP, hp⟩ := odd_loop (ns := ns) (r := r) (s0 := .va (.scr ns)) (s2 := .va (.tup (ks.map .str))) (s5 := .va (.lst (bad.map fun k : Nat => D.int (k : Nat)))) (s7 := .no) (s8 := .no) (s9 := .no) (s10 := .no) (s11 := .no) (s12 := .no) bad [.str r.piece, .int r.low, .int r.high, .int r.modulus, .tup (r.rests.map .int), .tup (r.kinds.map .str)] c4 (fun k hk => by have := hb.subset hk; simp at this; omega) rfl hc4
  refine ⟨ks, c5, P, .va (.lst (oddL r)), .va (.lst (bad.map fun k : Nat => D.int (k : Nat))), .va (.lst (nameK.map .str)), .va (dueD bad), hk, hc5, fun cells => ?_⟩
  have h4x : odd0 = odd0 := rfl
  have hT : b_law cells (env0 13 [.scr ns]) [] = b_law_T5 cells [.va (.scr ns), .va (.ref 0), .va (.tup (ks.map .str)), .va (.ref 1), .va (.lst (oddL r)), .no, .no, .no, .no, .no, .no, .no, .no] [c3, .lst [.str r.piece, .int r.low, .int r.high, .int r.modulus, .tup (r.rests.map .int), .tup (r.kinds.map .str)]] := by
    simp only [drwC] at e1
    have h1 : b_law cells (env0 13 [.scr ns]) [] = b_law_T2 cells [.va (.scr ns), .va (.ref 0), .va (.tup (ks.map .str)), .no, .no, .no, .no, .no, .no, .no, .no, .no, .no] [c1] := by
      simp [b_law, b_law_T1, env0, e1]
    rw [h1]
    exact (t2 e2 e3).trans (t3.trans (t4 (by simp)))
  rw [hT]
  have e4' : compL (gN 6) [6] (eT (eBin (sv2 eqP) (eCall m_law_taken 2 (eCons (eVar 1) (eCons (eC (.int 6)) (eNil)))) (eC (.int 0)))) (eVar 6) (rngD 0 6) [] [.va (.scr ns), .va (.ref 0), .va (.tup (ks.map .str)), .va (.ref 1), .va (.lst (oddL r)), .no, .no, .no, .no, .no, .no, .no, .no] [c3, .lst [.str r.piece, .int r.low, .int r.high, .int r.modulus, .tup (r.rests.map .int), .tup (r.kinds.map .str)]] = .ok (.lst (bad.map fun k : Nat => D.int (k : Nat))) [.va (.scr ns), .va (.ref 0), .va (.tup (ks.map .str)), .va (.ref 1), .va (.lst (oddL r)), .no, .no, .no, .no, .no, .no, .no, .no] [c4, .lst [.str r.piece, .int r.low, .int r.high, .int r.modulus, .tup (r.rests.map .int), .tup (r.kinds.map .str)]] := e4
  have h5 : b_law_T5 cells [.va (.scr ns), .va (.ref 0), .va (.tup (ks.map .str)), .va (.ref 1), .va (.lst (oddL r)), .no, .no, .no, .no, .no, .no, .no, .no] [c3, .lst [.str r.piece, .int r.low, .int r.high, .int r.modulus, .tup (r.rests.map .int), .tup (r.kinds.map .str)]] = b_law_T8 cells [.va (.scr ns), .va (.ref 0), .va (.tup (ks.map .str)), .va (.ref 1), .va (.lst (oddL r)), .va (.lst (bad.map fun k : Nat => D.int (k : Nat))), .no, .va (.lst (nameK.map .str)), .no, .no, .no, .no, .no] [c5, .lst P] := by
    have e5' : forL (gN 6) [6] (b_law_L1 cells) (bad.map fun k : Nat => D.int (k : Nat)) _ _ = _ := e5
    simp [b_law_T5, e4', b_law_T6, e5', b_law_T7, nameK]
  have h8 : b_law_T8 cells [.va (.scr ns), .va (.ref 0), .va (.tup (ks.map .str)), .va (.ref 1), .va (.lst (oddL r)), .va (.lst (bad.map fun k : Nat => D.int (k : Nat))), .no, .va (.lst (nameK.map .str)), .no, .no, .no, .no, .no] [c5, .lst P] = b_law_T9 cells [.va (.scr ns), .va (.ref 0), .va (.tup (ks.map .str)), .va (.ref 1), .va (.lst (oddL r)), .va (.lst (bad.map fun k : Nat => D.int (k : Nat))), .no, .va (.lst (nameK.map .str)), .va (dueD bad), .no, .no, .no, .no] [c5, .lst P] := by
    cases bad with
    | nil => simp [b_law_T8, dueD]
    | cons x t =>
      have hx6 : x < 6 := by have := hb.subset (List.mem_cons_self (a := x) (l := t)); simp at this; omega
      have ha : atI (nameK.map D.str) (x : Nat) = some (.str (nameK.getD x "")) := atI_nat (by
        rw [List.getElem?_map, List.getD_eq_getElem?_getD, List.getElem?_eq_getElem (by simpa [nameK] using hx6)]
        rfl)
      have hpl : plains 19 (t.map fun k : Nat => D.int (k : Nat)) = true := pls_map fun k _ => by simp
      have hpl2 : plains 20 (t.map fun k : Nat => D.int (k : Nat)) = true := pls_map fun k _ => by simp
      simp [b_law_T8, dueD, ha, hpl, hpl2]
  rw [h5, h8]
  have h9 := raised_odd (c5 := c5) (cells := cells) hro hb hP hp
  have hpd : plain 20 (dueD bad) = true := by
    cases bad with
    | nil => rfl
    | cons x t =>
      have hx6 : x < 6 := by have := hb.subset (List.mem_cons_self (a := x) (l := t)); simp at this; omega
      have hok : ∀ k, k < 6 → PyData.strOk (nameK.getD k "") = true := by decide +kernel
      have h1 := hok x hx6
      rw [List.getD_eq_getElem?_getD] at h1
      have h2 : PyData.strOk ("rule" : Str) = true := by decide +kernel
      simp [dueD, h1, h2]
  have hne := neP_same hpd
  have hv : ∀ d : D, vw [c5, .lst P] (dueD bad) = dueD bad := fun _ => by cases bad <;> rfl
  have hv2 : vw [c5, .lst P] (dueD bad) = dueD bad := hv .non
  generalize dueD bad = dd at *
  have hg : ∀ l : EnvD, l = [.va (.scr ns), .va (.ref 0), .va (.tup (ks.map .str)), .va (.ref 1), .va (.lst (oddL r)), .va (.lst (bad.map fun k : Nat => D.int (k : Nat))), .no, .va (.lst (nameK.map .str)), .va dd, .no, .no, .no, .no] → ghv [(("_law_part" : Str), 3), (("_law_few" : Str), 10), (("_law_rules" : Str), 9), (("_law_wrong" : Str), 11)] l = [(("_law_part" : Str), .ref 1)] := fun l e => by
    subst e
    rw [ghv_va (by rfl), ghv_no (by rfl), ghv_no (by rfl), ghv_no (by rfl)]; rfl
  have hg := hg _ rfl
  simp [b_law_T9, hg, h9, hne, hv2]
end
end VP
namespace VP
open PySem PySem.Spec PyProof.Rows L2 VE
open SX (S S_len S_cat S_inj)
local instance inst_S6 : VE.VEnv := VE.VEnv.dummy
section
variable {st st' : Sto} {env : EnvD} {ns : List Int} {W : List (List Nat)} {rs : List Rul}
structure WsB (W : List (List Nat)) : Prop where
  c : ∀ w ∈ W, ∀ c ∈ w, c < 128
  w : ∀ w ∈ W, w.length ≤ 1000
  l : W.length < 1000
theorem law_bookE (hW : WsB W) (h : ∀ r ∈ rs, RulOk r) (hl : rs.length < 1000) : m_law_book [.tup ((W.map S).map .str), .lst (rs.map Rul.pt)] st = match bkE W rs with
    | some p => .ex (bkX p.1 p.2) st
    | none => .ok (Bok.d ⟨W.map S, rs⟩) st := by
  have hmw : (W.map S).map D.str = W.map wd := by rw [List.map_map]; rfl
  rw [hmw]
  have H := for_foldP (st := st) (t := gN 3) (ws := [3]) (g := Rul.pt) (body := (sApp 2 appD (eMakeZ "Rule" m_Rule_init 7 (eCons (eBin ixA (eVar 3) (eC (.int 0))) (eCons (eBin ixA (eVar 3) (eC (.int 1))) (eCons (eBin ixA (eVar 3) (eC (.int 2))) (eCons (eBin ixA (eVar 3) (eC (.int 3))) (eCons (eBin ixA (eVar 3) (eC (.int 4))) (eCons (eBin ixA (eVar 3) (eC (.int 5))) (eNil))))))))))
    (E := fun (acc : List D) => [.va (.tup (W.map wd)), .va (.lst (rs.map Rul.pt)), .ow (.lst acc), .no]) (fun (acc : List D) (r : Rul) => acc ++ [r.d]) (fun j acc => acc.length ≤ j) rs 0 [] (by simp) (by
      intro i acc r hr hI
      have hi := (List.getElem?_eq_some_iff.mp hr).1
      have mk := fun env => mk_Rule (st := st) (env := env) (h r (List.mem_of_getElem? hr))
      have : acc.length < 16777216 := by omega
      refine ⟨by simp; omega, _, rfl, ?_⟩
      simp [mk, this])
  have fs : ∀ (xs : List Rul) (acc : List D), xs.foldl (fun acc r => acc ++ [r.d]) acc = acc ++ xs.map Rul.d := by
    intro xs
    induction xs with
    | nil => simp
    | cons x xs ih => intro acc; rw [List.foldl_cons, ih]; simp
  rw [fs, List.nil_append] at H
  have mk := fun env => mk_BookW (st := st) (env := env) (ks := W) (rs := rs) hW.c hW.w hW.l (fun r hr => ⟨fun k hk => ((h r hr).kinds.w k hk).ok, (h r hr).kinds.len⟩) hl
  cases hb : bkE W rs with
  | none =>
    rw [hb] at mk
    simp [m_law_book, b_law_book, toF_def, env0, H.1, mk]
  | some p =>
    rw [hb] at mk
    simp [m_law_book, b_law_book, toF_def, env0, H.1, mk]
def bkDue : Option (Str × Nat) → D
  | none => .non
  | some p => .tup [.str "book", .str p.1, .int (p.2 : Nat)]
theorem raised_book (hW : WsB W) (h : ∀ r ∈ rs, RulOk r) (hl : rs.length < 1000) {cells : List (Str × Addr)} {vals : List (Str × D)} (h1 : vals.lookup ("_law_few" : Str) = some (.tup ((W.map S).map .str))) (h2 : vals.lookup ("_law_rules" : Str) = some (.lst (rs.map Rul.pt))) :
    m_law_raised cells vals [.fn (.lam 1 cells)] st = .ok (bkDue (bkE W rs)) st := by
  have hb := law_bookE (st := st) hW h hl
  cases he : bkE W rs with
  | none =>
    rw [he] at hb
    refine rais_none (d := Bok.d ⟨W.map S, rs⟩) rfl ?_
    simp only [G_law_raised, List.map_cons, List.map_nil]
    rw [h1, h2]
    simp [m_lam_law_1, toLam, b_lam_law_1, envL]
    simp only [List.map_map] at hb
    simp [hb]
  | some p =>
    rw [he] at hb
    refine rais_book (p := p.1) (j := p.2) rfl ?_
    simp only [G_law_raised, List.map_cons, List.map_nil]
    rw [h1, h2]
    simp [m_lam_law_1, toLam, b_lam_law_1, envL]
    simp only [List.map_map] at hb
    simp [hb]
    rfl
theorem raised_wrong (hW : WsB W) {i : Nat} (hk : kiE W = some i) {cells : List (Str × Addr)} {vals : List (Str × D)} {L : List D} (h1 : vals.lookup ("_law_wrong" : Str) = some (.tup [.tup ((W.map S).map .str), .int (i : Nat)])) (h2 : vals.lookup ("_law_rules" : Str) = some (.lst L)) :
    m_law_raised cells vals [.fn (.lam 2 cells)] st = .ok (.tup [.str "book", .str "kinds", .int (i : Nat)]) st := by
  have hb := law_bookE (st := st) (rs := []) hW (by simp) (by simp)
  have he : bkE W [] = some (("kinds" : Str), i) := by unfold bkE; rw [hk]
  rw [he] at hb
  refine rais_book (p := "kinds") (j := i) rfl ?_
  simp only [G_law_raised, List.map_cons, List.map_nil]
  rw [h1, h2]
  have hcut : VE.cutD L none (some 0) = [] := cut0 (xs := L) (i := 0) (by omega)
  simp [m_lam_law_2, toLam, b_lam_law_2, envL, hcut]
  simp only [List.map_map, List.map_nil] at hb
  simp [hb]
  rfl
end
end VP
namespace VP
open PySem PySem.Spec PyProof.Rows L2 VE
open SX (S S_len S_cat S_inj)
local instance inst_S7 : VE.VEnv := VE.VEnv.dummy
section
variable {st st' : Sto} {env : EnvD} {ns : List Int} {W : List (List Nat)} {rs : List Rul} {few : List Str}
/-- some kind of the rule is not among few -/
def outK (few : List Str) (r : Rul) : Bool := !(r.kinds.all fun k => few.any fun z => decide (z = k))
def outL (few : List Str) (rs : List Rul) : List Nat := (List.range rs.length).filter fun i => match rs[i]? with | some r => outK few r | none => false
theorem comp_out {s0 s1 s2 s3 s4 s5 s7 s8 s11 : Sl} (hf : ∀ k ∈ few, PyData.strOk k = true) (h : ∀ r ∈ rs, RulOk r) (hl : rs.length < 1000) :
    compL (gN 6) [6] (eT (eBin (sv2 neP) (eComp (iQ (eBin ixA (eBin ixA (eVar 9) (eVar 6)) (eC (.int 5)))) (gN 12) [12] (eT (eBin (inA true) (eVar 12) (eVar 10))) (eVar 12)) (eLst (eNil)))) (eVar 6) (rngD 0 rs.length) [] [s0, s1, s2, s3, s4, s5, .no, s7, s8, .va (.lst (rs.map Rul.pt)), .va (.tup (few.map .str)), s11, .no] st =
      .ok (.lst ((outL few rs).map fun i : Nat => D.int (i : Nat))) [s0, s1, s2, s3, s4, s5, .no, s7, s8, .va (.lst (rs.map Rul.pt)), .va (.tup (few.map .str)), s11, .no] st := by
  have e : rngD 0 rs.length = (List.range rs.length).map fun i : Nat => D.int (i : Nat) := by unfold rngD; simp
  rw [e]
  refine comp_map (fun i => match rs[i]? with | some r => outK few r | none => false) (fun i : Nat => D.int (i : Nat)) (by simp; omega) fun i hi => ?_
  have hi := List.mem_range.mp hi
  obtain ⟨r, hr⟩ : ∃ r, rs[i]? = some r := ⟨_, List.getElem?_eq_getElem hi⟩
  have hro := h r (List.mem_of_getElem? hr)
  have ha : atI (rs.map Rul.pt) (i : Nat) = some r.pt := atI_nat (by rw [List.getElem?_map, hr]; rfl)
  have hc := comp_map (st := st) (t := gN 12) (ws := [12]) (tt := eT (eBin (inA true) (eVar 12) (eVar 10))) (fe := eVar 12) (g := D.str) (fun k : Str => !(few.any fun z => decide (z = k))) D.str (xs := r.kinds) (env := [s0, s1, s2, s3, s4, s5, .va (.int (i : Nat)), s7, s8, .va (.lst (rs.map Rul.pt)), .va (.tup (few.map .str)), s11, .no]) (by have := hro.kinds.len; omega) (by
    intro k hk
    refine ⟨[s0, s1, s2, s3, s4, s5, .va (.int (i : Nat)), s7, s8, .va (.lst (rs.map Rul.pt)), .va (.tup (few.map .str)), s11, .va (.str k)], rfl, [s0, s1, s2, s3, s4, s5, .va (.int (i : Nat)), s7, s8, .va (.lst (rs.map Rul.pt)), .va (.tup (few.map .str)), s11, .va (.str k)], ?_, rfl, fun _ => ⟨[s0, s1, s2, s3, s4, s5, .va (.int (i : Nat)), s7, s8, .va (.lst (rs.map Rul.pt)), .va (.tup (few.map .str)), s11, .va (.str k)], by simp, rfl⟩⟩
    have h5 := in_strs (neg := true) (hro.kinds.w k hk).ok hf
    simp [h5])
  have w0 : wipeD [12] [s0, s1, s2, s3, s4, s5, .va (.int (i : Nat)), s7, s8, .va (.lst (rs.map Rul.pt)), .va (.tup (few.map .str)), s11, .no] = [s0, s1, s2, s3, s4, s5, .va (.int (i : Nat)), s7, s8, .va (.lst (rs.map Rul.pt)), .va (.tup (few.map .str)), s11, .no] := rfl
  rw [w0] at hc
  have hpl : plain 20 (.lst ((r.kinds.filter fun k : Str => !(few.any fun z => decide (z = k))).map D.str)) = true := by
    show plains 19 _ = true
    exact pls_map fun k hk => by have := (hro.kinds.w k (List.mem_filter.mp hk).1).ok; simpa using this
  have hq : neP (.lst ((r.kinds.filter fun k : Str => !(few.any fun z => decide (z = k))).map D.str)) (.lst []) = some (.bl (outK few r)) := by
    rw [x_neP hpl rfl, eq_lst]
    unfold outK
    congr 2
    cases hz : (r.kinds.all fun k => few.any fun z => decide (z = k)) with
    | true =>
      rw [List.filter_eq_nil_iff.mpr fun k hk => by have := List.all_eq_true.mp hz k hk; simp [this]]
      simp
    | false =>
      obtain ⟨k, hk, hk2⟩ : ∃ k ∈ r.kinds, (few.any fun z => decide (z = k)) = false := by
        by_cases hh : ∃ k ∈ r.kinds, (few.any fun z => decide (z = k)) = false
        · exact hh
        · exfalso
          have : (r.kinds.all fun k => few.any fun z => decide (z = k)) = true := List.all_eq_true.mpr fun k hk => by
            cases hq : (few.any fun z => decide (z = k)) with
            | true => rfl
            | false => exact absurd ⟨k, hk, hq⟩ hh
          rw [this] at hz; cases hz
      have hm : k ∈ r.kinds.filter fun k : Str => !(few.any fun z => decide (z = k)) := List.mem_filter.mpr ⟨hk, by simp [hk2]⟩
      cases hl : r.kinds.filter fun k : Str => !(few.any fun z => decide (z = k)) with
      | nil => rw [hl] at hm; simp at hm
      | cons a b => simp
  rw [hr]
  refine ⟨[s0, s1, s2, s3, s4, s5, .va (.int (i : Nat)), s7, s8, .va (.lst (rs.map Rul.pt)), .va (.tup (few.map .str)), s11, .no], rfl, [s0, s1, s2, s3, s4, s5, .va (.int (i : Nat)), s7, s8, .va (.lst (rs.map Rul.pt)), .va (.tup (few.map .str)), s11, .no], ?_, rfl, fun _ => ⟨[s0, s1, s2, s3, s4, s5, .va (.int (i : Nat)), s7, s8, .va (.lst (rs.map Rul.pt)), .va (.tup (few.map .str)), s11, .no], by simp, rfl⟩⟩
  simp [ha, hc, hq]
end
end VP
namespace VP
open PySem PySem.Spec PyProof.Rows L2 VE
open SX (S S_len S_cat S_inj)
local instance inst_S8 : VE.VEnv := VE.VEnv.dummy
section
variable {W : List (List Nat)} {rs : List Rul} {few : List Str}
theorem mem_outL {i : Nat} : i ∈ outL few rs ↔ ∃ r, rs[i]? = some r ∧ outK few r = true := by
  unfold outL
  rw [List.mem_filter, List.mem_range]
  constructor
  · rintro ⟨h1, h2⟩
    rw [List.getElem?_eq_getElem h1] at h2 ⊢
    exact ⟨_, rfl, h2⟩
  · rintro ⟨r, h1, h2⟩
    refine ⟨(List.getElem?_eq_some_iff.mp h1).1, ?_⟩
    rw [h1]; exact h2
theorem find_first {p : Rul × Nat → Bool} {i : Nat} {r : Rul} (hr : rs[i]? = some r) (hp : p (r, i) = true) (hb : ∀ j x, j < i → rs[j]? = some x → p (x, j) = false) : rs.zipIdx.find? p = some (r, i) := by
  obtain ⟨hi, hr⟩ := List.getElem?_eq_some_iff.mp hr
  rw [List.find?_eq_some_iff_getElem]
  refine ⟨hp, i, by simpa using hi, by simp [hr], fun j hj => ?_⟩
  have hjl : j < rs.length := by omega
  have := hb j rs[j] hj (List.getElem?_eq_getElem hjl)
  simpa using this
theorem bk_wrong (hk : kiE W = none) (hne : outL (W.map S) rs ≠ []) : ∃ i : Nat, bkE W rs = some (("rules" : Str), i) ∧ minD (.lst (((outL (W.map S) rs).map fun i : Nat => D.int (i : Nat)) ++ [.int 8])) = some (.int (i : Nat)) := by
  have e : ((outL (W.map S) rs).map fun i : Nat => D.int (i : Nat)) ++ [.int 8] = (((outL (W.map S) rs).map fun i : Nat => (i : Int)) ++ [8]).map D.int := by
    rw [List.map_append, List.map_map]; rfl
  have hn : ((outL (W.map S) rs).map fun i : Nat => (i : Int)) ++ [8] ≠ [] := by simp
  obtain ⟨m1, m2⟩ := mnI_spec (mnI_some hn)
  rw [e, minD_ints hn]
  generalize mn (((outL (W.map S) rs).map fun i : Nat => (i : Int)) ++ [8]) = m at m1 m2
  have m8 : m ≤ 8 := m2 8 (by simp)
  have small : ∀ j : Nat, (j : Int) < m → j ∉ outL (W.map S) rs := fun j hj hm => by
    have := m2 (j : Int) (List.mem_append_left _ (List.mem_map.mpr ⟨j, hm, rfl⟩))
    omega
  have key : ∃ i : Nat, m = (i : Int) ∧ ∃ r, rs[i]? = some r ∧ badR (W.map S) (r, i) = true := by
    rcases List.mem_append.mp m1 with h | h
    · obtain ⟨i, hi, rfl⟩ := List.mem_map.mp h
      obtain ⟨r, h1, h2⟩ := mem_outL.mp hi
      refine ⟨i, rfl, r, h1, ?_⟩
      have h2' : (!(r.kinds.all fun k => (W.map S).any fun z => decide (z = k))) = true := h2
      unfold badR
      rw [h2', Bool.or_true]
    · have h8 : m = 8 := by simpa using h
      subst h8
      obtain ⟨k, hk2⟩ := List.exists_mem_of_ne_nil _ hne
      have h8k : 8 ≤ k := by
        have := m2 (k : Int) (List.mem_append_left _ (List.mem_map.mpr ⟨k, hk2, rfl⟩))
        omega
      obtain ⟨r, h1, _⟩ := mem_outL.mp hk2
      have hkl := (List.getElem?_eq_some_iff.mp h1).1
      exact ⟨8, rfl, rs[8]'(by omega), List.getElem?_eq_getElem (by omega), rfl⟩
  obtain ⟨i, rfl, r, h1, h2⟩ := key
  refine ⟨i, ?_, rfl⟩
  unfold bkE
  rw [hk]
  dsimp only
  rw [find_first h1 h2 fun j x hj hx => ?_]
  · rfl
  · have hj8 : ¬ j = 8 := by omega
    have hno := small j (by omega)
    have : outK (W.map S) x = false := by
      cases hq : outK (W.map S) x with
      | false => rfl
      | true => exact absurd (mem_outL.mpr ⟨x, hx, hq⟩) hno
    have h2' : (!(x.kinds.all fun k => (W.map S).any fun z => decide (z = k))) = false := this
    unfold badR
    rw [h2', decide_eq_false hj8]; rfl
theorem bk_right (hk : kiE W = none) (hne : outL (W.map S) rs = []) : bkE W rs = if 8 < rs.length then some (("rules" : Str), 8) else none := by
  have hno : ∀ (j : Nat) (x : Rul), rs[j]? = some x → ¬ j = 8 → badR (W.map S) (x, j) = false := fun j x hx hj => by
    have : outK (W.map S) x = false := by
      cases hq : outK (W.map S) x with
      | false => rfl
      | true =>
        have := mem_outL.mpr ⟨x, hx, hq⟩
        rw [hne] at this; simp at this
    have h2' : (!(x.kinds.all fun k => (W.map S).any fun z => decide (z = k))) = false := this
    unfold badR
    rw [h2', decide_eq_false hj]; rfl
  unfold bkE
  rw [hk]
  dsimp only
  by_cases h8 : 8 < rs.length
  · rw [if_pos h8, find_first (i := 8) (r := rs[8]) (List.getElem?_eq_getElem h8) rfl fun j x hj hx => hno j x hx (by omega)]
    rfl
  · rw [if_neg h8]
    rw [List.find?_eq_none.mpr ?_]
    · rfl
    · rintro ⟨r, i⟩ hm
      have hx := zip_mem hm
      have hi := (List.getElem?_eq_some_iff.mp hx).1
      rw [hno i r hx (by omega)]
      simp
theorem kw_of {ks : List Str} (h : KB ks ∨ ks = []) : ∃ W : List (List Nat), ks = W.map S ∧ WsB W ∧ (ks ≠ [] → kiE W = none) ∧ (ks = [] → W = []) := by
  rcases h with (rfl | rfl | rfl | rfl) | rfl
  · exact ⟨[[99, 117, 112]], rfl, ⟨by decide, by decide, by decide⟩, fun _ => by decide +kernel, fun h => by simp [Q1] at h⟩
  · exact ⟨[[99, 117, 112], [100, 105, 115, 104]], rfl, ⟨by decide, by decide, by decide⟩, fun _ => by decide +kernel, fun h => by simp [Q2] at h⟩
  · exact ⟨[[99, 117, 112], [100, 105, 115, 104], [112, 97, 110]], rfl, ⟨by decide, by decide, by decide⟩, fun _ => by decide +kernel, fun h => by simp [Q3] at h⟩
  · exact ⟨[[99, 117, 112], [100, 105, 115, 104], [112, 97, 110], [112, 111, 116]], rfl, ⟨by decide, by decide, by decide⟩, fun _ => by decide +kernel, fun h => by simp [Q4] at h⟩
  · exact ⟨[], rfl, ⟨by decide, by decide, by decide⟩, fun h => absurd rfl h, fun _ => rfl⟩
theorem kb_take {ks : List Str} (hk : KB ks) (t : Nat) : KB (ks.take t) ∨ ks.take t = [] := by
  have h : t = 0 ∨ t = 1 ∨ t = 2 ∨ t = 3 ∨ 4 ≤ t := by omega
  rcases h with rfl | rfl | rfl | rfl | h
  · exact .inr rfl
  · rcases hk with rfl | rfl | rfl | rfl <;> exact .inl (.inl rfl)
  · rcases hk with rfl | rfl | rfl | rfl
    · exact .inl (.inl rfl)
    · exact .inl (.inr (.inl rfl))
    · exact .inl (.inr (.inl rfl))
    · exact .inl (.inr (.inl rfl))
  · rcases hk with rfl | rfl | rfl | rfl
    · exact .inl (.inl rfl)
    · exact .inl (.inr (.inl rfl))
    · exact .inl (.inr (.inr (.inl rfl)))
    · exact .inl (.inr (.inr (.inl rfl)))
  · rw [List.take_of_length_le (by have := hk.len; omega)]
    exact .inl hk
end
end VP
namespace VP
open PySem PySem.Spec PyProof.Rows L2 VE
open SX (S S_len S_cat S_inj)
local instance inst_S9 : VE.VEnv := VE.VEnv.dummy
section
variable {ns : List Int} {ks : List Str} {c : Cell} {P : List D} {s0 s4 s5 s7 s8 s11 : Sl}
theorem st10 (hk : KB ks) (hc : DrawOk ns c) : ∃ (rs : List Rul) (c' : Cell), (∀ r ∈ rs, RulB ks 40 r) ∧ rs.length ≤ 10 ∧ DrawOk ns c' ∧ ∀ cells, b_law_T10 cells [s0, .va (.ref 0), .va (.tup (ks.map .str)), .va (.ref 1), s4, s5, .no, s7, s8, .no, .no, .no, .no] [c, .lst P] =
    b_law_T12 cells [s0, .va (.ref 0), .va (.tup (ks.map .str)), .va (.ref 1), s4, s5, .no, s7, .va .non, .va (.lst (rs.map Rul.pt)), .va (.tup (ks.map .str)), .no, .no] [c', .lst P] := by
  obtain ⟨q, c1, e1, q0, q1, hc1⟩ := taken (rest := [.lst P]) (many := 11) hc (by decide) (by decide)
  obtain ⟨rs, st', i1, i2, i3, c2, rfl, hc2⟩ := comp_gen (t := gN 6) (ws := [6]) (tt := bYes) (fe := (eCall m_law_rule 3 (eCons (eVar 1) (eCons (eVar 2) (eCons (eC (.int 40)) (eNil)))))) (g := D.int) (f := Rul.pt) (E0 := [s0, .va (.ref 0), .va (.tup (ks.map .str)), .va (.ref 1), s4, s5, .no, s7, s8, .no, .no, .no, .no]) (fun st => ∃ c', st = [c', .lst P] ∧ DrawOk ns c') (RulB ks 40) ((List.range q.toNat).map fun i => 0 + ((i : Nat) : Int)) [] [s0, .va (.ref 0), .va (.tup (ks.map .str)), .va (.ref 1), s4, s5, .no, s7, s8, .no, .no, .no, .no] [c1, .lst P] rfl ⟨c1, rfl, hc1⟩ (by simp; omega) (by
    rintro x st hx ⟨c2, rfl, hc2⟩
    obtain ⟨r, c3, e3, hr, hc3⟩ := law_rule (rest := [.lst P]) (far := 40) hk (by decide) (by decide) hc2
    exact ⟨_, rfl, _, rfl, r, [s0, .va (.ref 0), .va (.tup (ks.map .str)), .va (.ref 1), s4, s5, .va (.int x), s7, s8, .no, .no, .no, .no], [c3, .lst P], by simp [e3], hr, ⟨c3, rfl, hc3⟩, rfl⟩)
  rw [← rng_map, List.nil_append] at i1
  refine ⟨rs, c2, i3, by simp at i2; omega, hc2, fun cells => ?_⟩
  simp [b_law_T10, e1, rOk_ (j := q) (by omega) (by omega), i1, b_law_T11]
theorem st12 {rs : List Rul} (hl : rs.length ≤ 10) {st : Sto} {s10 : Sl} : ∀ cells, b_law_T12 cells [s0, .va (.ref 0), .va (.tup (ks.map .str)), .va (.ref 1), s4, s5, .no, s7, .va .non, .va (.lst (rs.map Rul.pt)), s10, .no, .no] st =
    b_law_T13 cells [s0, .va (.ref 0), .va (.tup (ks.map .str)), .va (.ref 1), s4, s5, .no, s7, .va (if 8 < rs.length then .tup [.str "book", .str "rules", .int 8] else .non), .va (.lst (rs.map Rul.pt)), s10, .no, .no] st := by
  intro cells
  by_cases h : 8 < rs.length
  · have h' : (8 : Int) < (rs.length : Int) := by omega
    simp [b_law_T12, h, h']
  · have h' : ¬ (8 : Int) < (rs.length : Int) := by omega
    simp [b_law_T12, h, h']
theorem st13 {rs : List Rul} (hk : KB ks) (hr : ∀ r ∈ rs, RulB ks 40 r) (hl : rs.length ≤ 10) (hc : DrawOk ns c) : ∃ (W : List (List Nat)) (c' : Cell) (s11 : Sl), WsB W ∧ (W = [] ∨ (KB (W.map S) ∧ kiE W = none)) ∧ DrawOk ns c' ∧ (s11 = .no ∨ ∃ d, s11 = .va d) ∧ ∀ cells,
    b_law_T13 cells [s0, .va (.ref 0), .va (.tup (ks.map .str)), .va (.ref 1), s4, s5, .no, s7, .va (if 8 < rs.length then .tup [.str "book", .str "rules", .int 8] else .non), .va (.lst (rs.map Rul.pt)), .va (.tup (ks.map .str)), .no, .no] [c, .lst P] =
    b_law_T14 cells [s0, .va (.ref 0), .va (.tup (ks.map .str)), .va (.ref 1), s4, s5, .no, s7, .va (bkDue (bkE W rs)), .va (.lst (rs.map Rul.pt)), .va (.tup ((W.map S).map .str)), s11, .no] [c', .lst P] := by
  have hro : ∀ r ∈ rs, RulOk r := fun r h => (hr r h).ok
  obtain ⟨q, c1, e1, q0, q1, hc1⟩ := taken (rest := [.lst P]) (many := 3) hc (by decide) (by decide)
  by_cases hq : q = 0
  · subst hq
    have hkl := hk.len
    obtain ⟨t, c2, e2, t0, t1, hc2⟩ := taken (rest := [.lst P]) (many := (ks.length : Int) + 1) hc1 (by omega) (by omega)
    obtain ⟨t, rfl⟩ : ∃ n : Nat, t = (n : Int) := ⟨t.toNat, by omega⟩
    have hcut : VE.cutD (ks.map D.str) none (some (t : Int)) = (ks.take t).map D.str := by
      rw [cut0 (by rw [List.length_map]; omega), List.map_take]
    obtain ⟨W, hW, hWs, hW1, hW2⟩ := kw_of (kb_take hk t)
    have hfo : ∀ k ∈ ks.take t, PyData.strOk k = true := fun k hk2 => (hk.ok.w k (List.mem_of_mem_take hk2)).ok
    have hcmp := comp_out (st := [c2, .lst P]) (few := ks.take t) (rs := rs) (s0 := s0) (s1 := .va (.ref 0)) (s2 := .va (.tup (ks.map .str))) (s3 := .va (.ref 1)) (s4 := s4) (s5 := s5) (s7 := s7) (s8 := .va (if 8 < rs.length then .tup [.str "book", .str "rules", .int 8] else .non)) (s11 := .no) hfo hro (by omega)
    refine ⟨W, c2, .va (.lst ((outL (ks.take t) rs).map fun i : Nat => D.int (i : Nat))), hWs, ?_, hc2, .inr ⟨_, rfl⟩, fun cells => ?_⟩
    · rcases kb_take hk t with h | h
      · exact .inr ⟨hW ▸ h, hW1 h.ok.ne⟩
      · exact .inl (hW2 h)
    · have hfe : eqP (.tup ((ks.take t).map D.str)) (.tup []) = some (.bl (ks.take t).isEmpty) := by
        rw [x_eqP (by show plains 19 _ = true; exact pls_map fun k hk2 => by simpa using hfo k hk2) rfl, eq_tup]
        cases ks.take t <;> simp
      have hoe : neP (.lst ((outL (ks.take t) rs).map fun i : Nat => D.int (i : Nat))) (.lst []) = some (.bl (!(outL (ks.take t) rs).isEmpty)) := by
        rw [x_neP (by show plains 19 _ = true; exact pls_map fun k hk2 => by simp) rfl, eq_lst]
        cases outL (ks.take t) rs <;> simp
      have holen : (outL (ks.take t) rs).length ≤ 10 := Nat.le_trans (List.length_filter_le _ _) (by simpa using hl)
      have hrk : rOk (rs.length : Int) = true := rOk_ (j := (rs.length : Int)) (by omega) (by omega)
      rw [← hW]
      generalize ks.take t = few at *
      cases few with
      | nil =>
        have hWn := hW2 rfl
        subst hWn
        have hd : bkDue (bkE [] rs) = .tup [.str "book", .str "kinds", .int 0] := rfl
        rw [hd]
        simp at hfe hcmp hcut hoe
        simp [b_law_T13, e1, e2, hcut, hcmp, hrk, hoe, hfe]
        generalize outL [] rs = o at *
        cases o with
        | nil => simp
        | cons a o =>
          have h1 : o.length ≤ 1000 := by simp at holen; omega
          have h2 : o.length ≤ 16777214 := by omega
          obtain ⟨m, hm⟩ : ∃ m, minD (.lst (D.int (a : Nat) :: ((o.map fun i : Nat => D.int (i : Nat)) ++ [D.int 8]))) = some (.int m) := by
            have := minD_ints (ns := (a : Int) :: ((o.map fun i : Nat => (i : Int)) ++ [8])) (by simp)
            rw [List.map_cons, List.map_append, List.map_map] at this
            exact ⟨_, this⟩
          simp [h2, hm, hfe]
      | cons k few =>
        have hkn := hW1 (by simp)
        simp at hfe hcmp hcut hoe
        by_cases ho : outL (k :: few) rs = []
        · have hb := bk_right (rs := rs) hkn (by rw [← hW]; exact ho)
          have hd : bkDue (bkE W rs) = if 8 < rs.length then .tup [.str "book", .str "rules", .int 8] else .non := by
            rw [hb]
            split <;> rfl
          rw [ho] at hcmp hoe
          rw [hd, ho]
          simp at hcmp
          simp [b_law_T13, e1, e2, hcut, hcmp, hrk, hoe, hfe]
        · obtain ⟨i, hb, hm⟩ := bk_wrong (rs := rs) hkn (by rw [← hW]; exact ho)
          rw [← hW] at hm
          have hd : bkDue (bkE W rs) = .tup [.str "book", .str "rules", .int (i : Nat)] := by rw [hb]; rfl
          rw [hd]
          generalize outL (k :: few) rs = o at *
          cases o with
          | nil => exact absurd rfl ho
          | cons a o =>
            have h2 : o.length ≤ 16777214 := by simp at holen; omega
            simp at hm hoe hcmp
            simp [b_law_T13, e1, e2, hcut, hcmp, hrk, hoe, hfe, h2, hm]
  · obtain ⟨W, hW, hWs, hW1, hW2⟩ := kw_of (.inl hk)
    refine ⟨W, c1, .no, hWs, .inr ⟨hW ▸ hk, hW1 hk.ok.ne⟩, hc1, .inl rfl, fun cells => ?_⟩
    have ho : outL (W.map S) rs = [] := by
      rw [← hW]
      cases h : outL ks rs with
      | nil => rfl
      | cons i t =>
        have hm : i ∈ outL ks rs := by rw [h]; exact List.mem_cons_self
        obtain ⟨r, h1, h2⟩ := mem_outL.mp hm
        have hs := (hr r (List.mem_of_getElem? h1)).sub
        have : outK ks r = false := by
          unfold outK
          rw [List.all_eq_true.mpr fun k hk2 => List.any_eq_true.mpr ⟨k, hs k hk2, by simp⟩]
          rfl
        rw [this] at h2; cases h2
    have hb := bk_right (rs := rs) (hW1 hk.ok.ne) ho
    have hd : bkDue (bkE W rs) = if 8 < rs.length then .tup [.str "book", .str "rules", .int 8] else .non := by
      rw [hb]
      split <;> rfl
    rw [hd, ← hW]
    simp [b_law_T13, e1, hq]
end
end VP
namespace VP
open PySem PySem.Spec PyProof.Rows L2 VE
open SX (S S_len S_cat S_inj)
local instance inst_SL : VE.VEnv := VE.VEnv.dummy
section
variable {ns : List Int} {ks : List Str} {c : Cell} {P : List D} {s0 s2 s4 s5 s7 s8 s11 : Sl} {W : List (List Nat)} {rs : List Rul}
theorem bkE_cases : bkE W rs = none ∨ (∃ i : Nat, bkE W rs = some (("kinds" : Str), i)) ∨ ∃ i : Nat, bkE W rs = some (("rules" : Str), i) := by
  unfold bkE
  cases kiE W with
  | some i => exact .inr (.inl ⟨i, rfl⟩)
  | none =>
    cases h : rs.zipIdx.find? (badR (W.map S)) with
    | none => exact .inl (by simp [h])
    | some p => exact .inr (.inr ⟨p.2, by simp [h]⟩)
theorem due_pl : plain 20 (bkDue (bkE W rs)) = true := by
  have h1 : PyData.strOk ("book" : Str) = true := by decide +kernel
  have h2 : PyData.strOk ("kinds" : Str) = true := by decide +kernel
  have h3 : PyData.strOk ("rules" : Str) = true := by decide +kernel
  rcases bkE_cases (W := W) (rs := rs) with h | ⟨i, h⟩ | ⟨i, h⟩
  · rw [h]; rfl
  · rw [h]; simp [bkDue, h1, h2]
  · rw [h]; simp [bkDue, h1, h3]
theorem due_vw {st : Sto} : vw st (bkDue (bkE W rs)) = bkDue (bkE W rs) := by
  cases bkE W rs <;> rfl
theorem st14 (hW : WsB W) (hr : ∀ r ∈ rs, RulOk r) (hl : rs.length < 1000) (h11 : s11 = .no ∨ ∃ d, s11 = .va d) {st : Sto} : ∀ cells,
    b_law_T14 cells [s0, .va (.ref 0), s2, .va (.ref 1), s4, s5, .no, s7, .va (bkDue (bkE W rs)), .va (.lst (rs.map Rul.pt)), .va (.tup ((W.map S).map .str)), s11, .no] st =
    b_law_T15 cells [s0, .va (.ref 0), s2, .va (.ref 1), s4, s5, .no, s7, .va (bkDue (bkE W rs)), .va (.lst (rs.map Rul.pt)), .va (.tup ((W.map S).map .str)), s11, .no] st := by
  intro cells
  have hne := neP_same (due_pl (W := W) (rs := rs))
  have hv := due_vw (W := W) (rs := rs) (st := st)
  have hrb := fun vals h1 h2 => raised_book (st := st) hW hr hl (cells := cells) (vals := vals) h1 h2
  generalize bkDue (bkE W rs) = dd at *
  rcases h11 with rfl | ⟨d, rfl⟩
  · have hg : ghv [(("_law_part" : Str), 3), (("_law_few" : Str), 10), (("_law_rules" : Str), 9), (("_law_wrong" : Str), 11)] [s0, .va (.ref 0), s2, .va (.ref 1), s4, s5, .no, s7, .va dd, .va (.lst (rs.map Rul.pt)), .va (.tup ((W.map S).map .str)), .no, .no] = [(("_law_part" : Str), .ref 1), (("_law_few" : Str), .tup ((W.map S).map .str)), (("_law_rules" : Str), .lst (rs.map Rul.pt))] := by
      rw [ghv_va (by rfl), ghv_va (by rfl), ghv_va (by rfl), ghv_no (by rfl)]; rfl
    have h9 := hrb _ (show List.lookup ("_law_few" : Str) [(("_law_part" : Str), D.ref 1), (("_law_few" : Str), .tup ((W.map S).map .str)), (("_law_rules" : Str), .lst (rs.map Rul.pt))] = _ from rfl) rfl
    simp only [List.map_map] at hg h9
    simp [b_law_T14, hg, h9, hne, hv]
  · have hg : ghv [(("_law_part" : Str), 3), (("_law_few" : Str), 10), (("_law_rules" : Str), 9), (("_law_wrong" : Str), 11)] [s0, .va (.ref 0), s2, .va (.ref 1), s4, s5, .no, s7, .va dd, .va (.lst (rs.map Rul.pt)), .va (.tup ((W.map S).map .str)), .va d, .no] = [(("_law_part" : Str), .ref 1), (("_law_few" : Str), .tup ((W.map S).map .str)), (("_law_rules" : Str), .lst (rs.map Rul.pt)), (("_law_wrong" : Str), d)] := by
      rw [ghv_va (by rfl), ghv_va (by rfl), ghv_va (by rfl), ghv_va (by rfl)]; rfl
    have h9 := hrb _ (show List.lookup ("_law_few" : Str) [(("_law_part" : Str), D.ref 1), (("_law_few" : Str), .tup ((W.map S).map .str)), (("_law_rules" : Str), .lst (rs.map Rul.pt)), (("_law_wrong" : Str), d)] = _ from rfl) rfl
    simp only [List.map_map] at hg h9
    simp [b_law_T14, hg, h9, hne, hv]
def wrongL : List D := [.tup [.tup [.str "pot", .str "cup"], .int 1], .tup [.tup [.str "cup", .str ""], .int 1], .tup [.tup [.str "a", .str "b", .str "c", .str "d", .str "e"], .int 4], .tup [.tup [.str "cup", .str "cup"], .int 1]]
theorem wrong_of {d : D} (h : d ∈ wrongL) : ∃ (V : List (List Nat)) (i : Nat), d = .tup [.tup ((V.map S).map .str), .int (i : Nat)] ∧ WsB V ∧ kiE V = some i := by
  simp only [wrongL, List.mem_cons, List.not_mem_nil, or_false] at h
  rcases h with rfl | rfl | rfl | rfl
  · exact ⟨[[112, 111, 116], [99, 117, 112]], 1, rfl, ⟨by decide, by decide, by decide⟩, by decide +kernel⟩
  · exact ⟨[[99, 117, 112], []], 1, rfl, ⟨by decide, by decide, by decide⟩, by decide +kernel⟩
  · exact ⟨[[97], [98], [99], [100], [101]], 4, rfl, ⟨by decide, by decide, by decide⟩, by decide +kernel⟩
  · exact ⟨[[99, 117, 112], [99, 117, 112]], 1, rfl, ⟨by decide, by decide, by decide⟩, by decide +kernel⟩
theorem st15 (hW : WsB W) (hl : rs.length < 1000) (hc : DrawOk ns c) : ∃ (c' : Cell) (d : D), DrawOk ns c' ∧ ∀ cells,
    b_law_T15 cells [s0, .va (.ref 0), s2, .va (.ref 1), s4, s5, .no, s7, .va (bkDue (bkE W rs)), .va (.lst (rs.map Rul.pt)), .va (.tup ((W.map S).map .str)), s11, .no] [c, .lst P] =
    b_law_T18 cells [s0, .va (.ref 0), s2, .va (.ref 1), s4, s5, .no, s7, .va (bkDue (bkE W rs)), .va (.lst (rs.map Rul.pt)), .va (.tup ((W.map S).map .str)), .va d, .no] [c', .lst P] := by
  obtain ⟨x, c1, e1, hx, hc1⟩ := pickL (rest := [.lst P]) (xs := wrongL) (by simp [wrongL]) (by simp [wrongL]) hc
  obtain ⟨V, i, rfl, hV, hk⟩ := wrong_of hx
  refine ⟨c1, .tup [.tup ((V.map S).map .str), .int (i : Nat)], hc1, fun cells => ?_⟩
  have h15 : b_law_T15 cells [s0, .va (.ref 0), s2, .va (.ref 1), s4, s5, .no, s7, .va (bkDue (bkE W rs)), .va (.lst (rs.map Rul.pt)), .va (.tup ((W.map S).map .str)), s11, .no] [c, .lst P] =
      b_law_T16 cells [s0, .va (.ref 0), s2, .va (.ref 1), s4, s5, .no, s7, .va (bkDue (bkE W rs)), .va (.lst (rs.map Rul.pt)), .va (.tup ((W.map S).map .str)), .va (.lst wrongL), .no] [c, .lst P] := by
    simp [b_law_T15, wrongL]
  rw [h15]
  generalize bkDue (bkE W rs) = dd
  have h16 : b_law_T16 cells [s0, .va (.ref 0), s2, .va (.ref 1), s4, s5, .no, s7, .va dd, .va (.lst (rs.map Rul.pt)), .va (.tup ((W.map S).map .str)), .va (.lst wrongL), .no] [c, .lst P] =
      b_law_T17 cells [s0, .va (.ref 0), s2, .va (.ref 1), s4, s5, .no, s7, .va dd, .va (.lst (rs.map Rul.pt)), .va (.tup ((W.map S).map .str)), .va (.tup [.tup ((V.map S).map .str), .int (i : Nat)]), .no] [c1, .lst P] := by
    simp [b_law_T16, e1]
    try simp
  rw [h16]
  generalize hd : D.tup [.tup ((V.map S).map .str), .int (i : Nat)] = d
  have hrb := fun vals h1 h2 => raised_wrong (st := [c1, .lst P]) hV hk (cells := cells) (vals := vals) (L := rs.map Rul.pt) h1 h2
  have hg : ghv [(("_law_part" : Str), 3), (("_law_few" : Str), 10), (("_law_rules" : Str), 9), (("_law_wrong" : Str), 11)] [s0, .va (.ref 0), s2, .va (.ref 1), s4, s5, .no, s7, .va dd, .va (.lst (rs.map Rul.pt)), .va (.tup ((W.map S).map .str)), .va d, .no] = [(("_law_part" : Str), .ref 1), (("_law_few" : Str), .tup ((W.map S).map .str)), (("_law_rules" : Str), .lst (rs.map Rul.pt)), (("_law_wrong" : Str), d)] := by
    rw [ghv_va (by rfl), ghv_va (by rfl), ghv_va (by rfl), ghv_va (by rfl)]; rfl
  have h9 := hrb [(("_law_part" : Str), D.ref 1), (("_law_few" : Str), .tup ((W.map S).map .str)), (("_law_rules" : Str), .lst (rs.map Rul.pt)), (("_law_wrong" : Str), d)] (by rw [hd]; rfl) rfl
  have hix : ∀ env : EnvD, ixA d (.int 1) env [c1, .lst P] = .ok (.int (i : Nat)) env [c1, .lst P] := fun env => by rw [← hd]; rfl
  have h1 : PyData.strOk ("book" : Str) = true := by decide +kernel
  have h2 : PyData.strOk ("kinds" : Str) = true := by decide +kernel
  have hvw : ∀ st : Sto, vw st d = d := fun st => by rw [← hd]; rfl
  simp only [List.map_map] at hg h9 ⊢
  simp [b_law_T17, hg, h9, hix, h1, h2]
theorem law_trueA (ns : List Int) (hl : ns.length ≤ 63) : ∃ st', m_law [.scr ns] [] = .ok (.bl true) st' := by
  obtain ⟨ks, c1, P, s4, s5, s7, due, hk, hc1, e1⟩ := half1 ns hl
  obtain ⟨rs, c2, hr, hrl, hc2, e2⟩ := st10 (P := P) (s0 := .va (.scr ns)) (s4 := s4) (s5 := s5) (s7 := s7) (s8 := due) hk hc1
  obtain ⟨W, c3, s11, hW, hWk, hc3, h11, e3⟩ := st13 (P := P) (s0 := .va (.scr ns)) (s4 := s4) (s5 := s5) (s7 := s7) hk hr hrl hc2
  have hro : ∀ r ∈ rs, RulOk r := fun r h => (hr r h).ok
  obtain ⟨c4, d, hc4, e5⟩ := st15 (P := P) (s0 := .va (.scr ns)) (s2 := .va (.tup (ks.map .str))) (s4 := s4) (s5 := s5) (s7 := s7) (s11 := s11) (rs := rs) hW (by omega) hc3
  unfold m_law toFL
  refine ⟨[c4, .lst P], allEq_of fun cells => ?_⟩
  rw [e1, e2, st12 hrl, e3, st14 hW hro (by omega) h11, e5]
  cases he : bkE W rs with
  | some p => simp [b_law_T18, bkDue, isNone]
  | none =>
    have hWn : KB (W.map S) ∧ kiE W = none := by
      rcases hWk with rfl | h
      · simp [bkE, kiE] at he
      · exact h
    have hbad : ∀ (j : Nat) (x : Rul), rs[j]? = some x → badR (W.map S) (x, j) = false := fun j x hx => by
      have he2 : rs.zipIdx.find? (badR (W.map S)) = none := by
        unfold bkE at he
        rw [hWn.2] at he
        simpa using he
      have := List.find?_eq_none.mp he2 (x, j) (by
        rw [List.mem_iff_getElem?]
        exact ⟨j, by rw [List.getElem?_zipIdx, hx]; simp⟩)
      simpa using this
    have hR : RulsB (W.map S) rs := by
      refine ⟨hro, fun r hr2 k hk2 => ?_, ?_⟩
      · obtain ⟨j, hj, rfl⟩ := List.getElem_of_mem hr2
        have := hbad j _ (List.getElem?_eq_getElem hj)
        unfold badR at this
        simp only [Bool.or_eq_false_iff, Bool.not_eq_false', decide_eq_false_iff_not] at this
        obtain ⟨z, hz, hzk⟩ := List.any_eq_true.mp (List.all_eq_true.mp this.2 k hk2)
        exact (of_decide_eq_true hzk : z = k) ▸ hz
      · rcases Nat.lt_or_ge 8 rs.length with h | h
        · have := hbad 8 _ (List.getElem?_eq_getElem h)
          simp [badR] at this
        · exact h
    have ht := fun st => told_ok (st := st) hWn.1 hR
    generalize W.map S = few at *
    simp [b_law_T18, bkDue, ht]
end
theorem law_true : VE.LawTrue VP.m_law := fun ns hl => law_trueA ns hl
end VP
namespace VP
open PySem PySem.Spec PyProof.Rows L2 VE
theorem all_mk {l : PySem.W.OpenLaw} {w : World} {K : PySem.W.Frag} {h : Heap} {mg : Str → Option Value} {fa : Addr} (X : K.In h) (G : h.Ns mainGlobals mg) (hfa : mg "law" = some (.ref fa))
    {C_Rule : Addr}
    {p_Rule_0 : Addr}
    {C_Book : Addr}
    {p_Book_0 : Addr}
    {f_InvalidRule_init : Addr} {oc_InvalidRule_init kV_InvalidRule_init dc_InvalidRule_init pm_InvalidRule_init cd_InvalidRule_init ct_InvalidRule_init : Value} {od_InvalidRule_init an_InvalidRule_init : Option Addr} {sl_InvalidRule_init : Array (Option Value)}
    {E_InvalidRule : Addr}
    {f_InvalidBook_init : Addr} {oc_InvalidBook_init kV_InvalidBook_init dc_InvalidBook_init pm_InvalidBook_init cd_InvalidBook_init ct_InvalidBook_init : Value} {od_InvalidBook_init an_InvalidBook_init : Option Addr} {sl_InvalidBook_init : Array (Option Value)}
    {E_InvalidBook : Addr}
    {f_is_number : Addr} {oc_is_number kV_is_number dc_is_number pm_is_number cd_is_number ct_is_number : Value} {od_is_number an_is_number : Option Addr} {sl_is_number : Array (Option Value)}
    {f_is_word : Addr} {oc_is_word kV_is_word dc_is_word pm_is_word cd_is_word ct_is_word : Value} {od_is_word an_is_word : Option Addr} {sl_is_word : Array (Option Value)}
    {f_ascend : Addr} {oc_ascend kV_ascend dc_ascend pm_ascend cd_ascend ct_ascend : Value} {od_ascend an_ascend : Option Addr} {sl_ascend : Array (Option Value)}
    {f_Rule_piece : Addr} {oc_Rule_piece kV_Rule_piece dc_Rule_piece pm_Rule_piece cd_Rule_piece ct_Rule_piece : Value} {od_Rule_piece an_Rule_piece : Option Addr} {sl_Rule_piece : Array (Option Value)}
    {p_Rule_piece : Addr} {r_Rule_piece : List Value}
    {f_Rule_low : Addr} {oc_Rule_low kV_Rule_low dc_Rule_low pm_Rule_low cd_Rule_low ct_Rule_low : Value} {od_Rule_low an_Rule_low : Option Addr} {sl_Rule_low : Array (Option Value)}
    {p_Rule_low : Addr} {r_Rule_low : List Value}
    {f_Rule_high : Addr} {oc_Rule_high kV_Rule_high dc_Rule_high pm_Rule_high cd_Rule_high ct_Rule_high : Value} {od_Rule_high an_Rule_high : Option Addr} {sl_Rule_high : Array (Option Value)}
    {p_Rule_high : Addr} {r_Rule_high : List Value}
    {f_Rule_modulus : Addr} {oc_Rule_modulus kV_Rule_modulus dc_Rule_modulus pm_Rule_modulus cd_Rule_modulus ct_Rule_modulus : Value} {od_Rule_modulus an_Rule_modulus : Option Addr} {sl_Rule_modulus : Array (Option Value)}
    {p_Rule_modulus : Addr} {r_Rule_modulus : List Value}
    {f_Rule_rests : Addr} {oc_Rule_rests kV_Rule_rests dc_Rule_rests pm_Rule_rests cd_Rule_rests ct_Rule_rests : Value} {od_Rule_rests an_Rule_rests : Option Addr} {sl_Rule_rests : Array (Option Value)}
    {p_Rule_rests : Addr} {r_Rule_rests : List Value}
    {f_Rule_kinds : Addr} {oc_Rule_kinds kV_Rule_kinds dc_Rule_kinds pm_Rule_kinds cd_Rule_kinds ct_Rule_kinds : Value} {od_Rule_kinds an_Rule_kinds : Option Addr} {sl_Rule_kinds : Array (Option Value)}
    {p_Rule_kinds : Addr} {r_Rule_kinds : List Value}
    {f_Rule_eq : Addr} {oc_Rule_eq kV_Rule_eq dc_Rule_eq pm_Rule_eq cd_Rule_eq ct_Rule_eq : Value} {od_Rule_eq an_Rule_eq : Option Addr} {sl_Rule_eq : Array (Option Value)}
    {f_Book_kinds : Addr} {oc_Book_kinds kV_Book_kinds dc_Book_kinds pm_Book_kinds cd_Book_kinds ct_Book_kinds : Value} {od_Book_kinds an_Book_kinds : Option Addr} {sl_Book_kinds : Array (Option Value)}
    {p_Book_kinds : Addr} {r_Book_kinds : List Value}
    {f_Book_rules : Addr} {oc_Book_rules kV_Book_rules dc_Book_rules pm_Book_rules cd_Book_rules ct_Book_rules : Value} {od_Book_rules an_Book_rules : Option Addr} {sl_Book_rules : Array (Option Value)}
    {p_Book_rules : Addr} {r_Book_rules : List Value}
    {f_law_taken : Addr} {oc_law_taken kV_law_taken dc_law_taken pm_law_taken cd_law_taken ct_law_taken : Value} {od_law_taken an_law_taken : Option Addr} {sl_law_taken : Array (Option Value)}
    {f_are_kinds : Addr} {oc_are_kinds kV_are_kinds dc_are_kinds pm_are_kinds cd_are_kinds ct_are_kinds : Value} {od_are_kinds an_are_kinds : Option Addr} {sl_are_kinds : Array (Option Value)}
    {f_are_rests : Addr} {oc_are_rests kV_are_rests dc_are_rests pm_are_rests cd_are_rests ct_are_rests : Value} {od_are_rests an_are_rests : Option Addr} {sl_are_rests : Array (Option Value)}
    {f_law_pick : Addr} {oc_law_pick kV_law_pick dc_law_pick pm_law_pick cd_law_pick ct_law_pick : Value} {od_law_pick an_law_pick : Option Addr} {sl_law_pick : Array (Option Value)}
    {f_law_kinds : Addr} {oc_law_kinds kV_law_kinds dc_law_kinds pm_law_kinds cd_law_kinds ct_law_kinds : Value} {od_law_kinds an_law_kinds : Option Addr} {sl_law_kinds : Array (Option Value)}
    {f_Rule_init : Addr} {oc_Rule_init kV_Rule_init dc_Rule_init pm_Rule_init cd_Rule_init ct_Rule_init : Value} {od_Rule_init an_Rule_init : Option Addr} {sl_Rule_init : Array (Option Value)}
    {f_check_kinds : Addr} {oc_check_kinds kV_check_kinds dc_check_kinds pm_check_kinds cd_check_kinds ct_check_kinds : Value} {od_check_kinds an_check_kinds : Option Addr} {sl_check_kinds : Array (Option Value)}
    {f_Book_pieces : Addr} {oc_Book_pieces kV_Book_pieces dc_Book_pieces pm_Book_pieces cd_Book_pieces ct_Book_pieces : Value} {od_Book_pieces an_Book_pieces : Option Addr} {sl_Book_pieces : Array (Option Value)}
    {p_Book_pieces : Addr} {r_Book_pieces : List Value}
    {f_Book_len : Addr} {oc_Book_len kV_Book_len dc_Book_len pm_Book_len cd_Book_len ct_Book_len : Value} {od_Book_len an_Book_len : Option Addr} {sl_Book_len : Array (Option Value)}
    {f_law_some : Addr} {oc_law_some kV_law_some dc_law_some pm_law_some cd_law_some ct_law_some : Value} {od_law_some an_law_some : Option Addr} {sl_law_some : Array (Option Value)}
    {f_Book_init : Addr} {oc_Book_init kV_Book_init dc_Book_init pm_Book_init cd_Book_init ct_Book_init : Value} {od_Book_init an_Book_init : Option Addr} {sl_Book_init : Array (Option Value)}
    {f_law_rule : Addr} {oc_law_rule kV_law_rule dc_law_rule pm_law_rule cd_law_rule ct_law_rule : Value} {od_law_rule an_law_rule : Option Addr} {sl_law_rule : Array (Option Value)}
    {f_Book_eq : Addr} {oc_Book_eq kV_Book_eq dc_Book_eq pm_Book_eq cd_Book_eq ct_Book_eq : Value} {od_Book_eq an_Book_eq : Option Addr} {sl_Book_eq : Array (Option Value)}
    {f_law_book : Addr} {oc_law_book kV_law_book dc_law_book pm_law_book cd_law_book ct_law_book : Value} {od_law_book an_law_book : Option Addr} {sl_law_book : Array (Option Value)}
    {f_law_is_told : Addr} {oc_law_is_told kV_law_is_told dc_law_is_told pm_law_is_told cd_law_is_told ct_law_is_told : Value} {od_law_is_told an_law_is_told : Option Addr} {sl_law_is_told : Array (Option Value)}
    {f_law_raised : Addr} {oc_law_raised kV_law_raised dc_law_raised pm_law_raised cd_law_raised ct_law_raised : Value} {od_law_raised an_law_raised : Option Addr} {sl_law_raised : Array (Option Value)}
    {f_law : Addr} {oc_law kV_law dc_law pm_law cd_law ct_law : Value} {od_law an_law : Option Addr} {sl_law : Array (Option Value)}
    {cc_law PP_law : Addr} {oo_law : Obj}
    {t_LAST : Tok}
    {t_LETTERS : Tok}
    {t_MAX_KINDS : Tok}
    {t_MAX_RULES : Tok}
    {t_MAX_WORD : Tok}
    {a_MODULI : Addr}
    {P_PieceError : Addr}
    {E_PieceError : Addr}
    {E_InvalidNumber : Addr}
    {E_InvalidPiece : Addr}
    {E_InvalidQuestion : Addr}
    {E_InvalidRow : Addr}
    {E_TooMany : Addr}
    {E_UnknownPiece : Addr}
    {E_UnknownRule : Addr}
    {E_UnlikeBooks : Addr}
    (aC_Rule : PySem.W.nsIn K mainGlobals "Rule" = some (some (.ref C_Rule)))
    (pg_Rule : PySem.W.plainGet K C_Rule Str.empty = true)
    (ic_Rule : PySem.W.isClsIn K C_Rule = true)
    (po_Rule : PySem.W.plainOver K C_Rule = true)
    (sa_Rule : PySem.W.findIn K (.ref C_Rule) "__setattr__" = some (some (.builtin "object.__setattr__")))
    (mk_Rule : PySem.W.makesIn K C_Rule = true)
    (kc_Rule : PySem.W.keepIn K (.ref C_Rule) = true)
    (da_Rule_0 : PySem.W.findIn K (.ref C_Rule) "parts" = some (some (.ref p_Rule_0)))
    (dg_Rule_0 : PySem.W.specialIn K (.ref p_Rule_0) "__get__" = some (some (.builtin "member_descriptor.__get__")))
    (dt_Rule_0 : PySem.W.takesIn K (.ref p_Rule_0) = some true)
    (di_Rule_0 : PySem.W.slotIn K p_Rule_0 C_Rule = some 0)
    (dy_Rule_0 : PySem.W.typeIn K (.ref p_Rule_0) = some (.type "member_descriptor"))
    (aC_Book : PySem.W.nsIn K mainGlobals "Book" = some (some (.ref C_Book)))
    (pg_Book : PySem.W.plainGet K C_Book Str.empty = true)
    (ic_Book : PySem.W.isClsIn K C_Book = true)
    (po_Book : PySem.W.plainOver K C_Book = true)
    (sa_Book : PySem.W.findIn K (.ref C_Book) "__setattr__" = some (some (.builtin "object.__setattr__")))
    (mk_Book : PySem.W.makesIn K C_Book = true)
    (kc_Book : PySem.W.keepIn K (.ref C_Book) = true)
    (da_Book_0 : PySem.W.findIn K (.ref C_Book) "lists" = some (some (.ref p_Book_0)))
    (dg_Book_0 : PySem.W.specialIn K (.ref p_Book_0) "__get__" = some (some (.builtin "member_descriptor.__get__")))
    (dt_Book_0 : PySem.W.takesIn K (.ref p_Book_0) = some true)
    (di_Book_0 : PySem.W.slotIn K p_Book_0 C_Book = some 0)
    (dy_Book_0 : PySem.W.typeIn K (.ref p_Book_0) = some (.type "member_descriptor"))
    (ica_Book : PySem.W.findIn K (.ref C_Book) "__class__" = some (some (.builtin "object.__class__")))
    (icn_Book : PySem.W.specialIn K (.builtin "object.__class__") "__get__" = some (some (.builtin "getset_descriptor.__get__")))
    (ict_Book : PySem.W.takesIn K (.builtin "object.__class__") = some true)
    (icm_Book : PySem.W.mroIn K C_Book (.type "object") = some true)
    (iki_Book : PySem.W.kitOne K (.ref C_Book) (.ref C_Book) = some true)
    (ica_Rule : PySem.W.findIn K (.ref C_Rule) "__class__" = some (some (.builtin "object.__class__")))
    (icn_Rule : PySem.W.specialIn K (.builtin "object.__class__") "__get__" = some (some (.builtin "getset_descriptor.__get__")))
    (ict_Rule : PySem.W.takesIn K (.builtin "object.__class__") = some true)
    (icm_Rule : PySem.W.mroIn K C_Rule (.type "object") = some true)
    (iki_Rule : PySem.W.kitOne K (.ref C_Rule) (.ref C_Rule) = some true)
    (nk_Book : PySem.W.kitOne K (.type "tuple") (.ref C_Book) = some false)
    (nf_Book : PySem.W.notFirst K C_Book (.type "tuple") = true)
    (nk_Rule : PySem.W.kitOne K (.type "tuple") (.ref C_Rule) = some false)
    (nf_Rule : PySem.W.notFirst K C_Rule (.type "tuple") = true)
    (ene_Book : PySem.W.findIn K (.ref C_Book) "__ne__" = some (some (.builtin "object.__ne__")))
    (eso_Book : PySem.W.subIn K (.ref C_Book) (.type "object") = some true)
    (ene_Rule : PySem.W.findIn K (.ref C_Rule) "__ne__" = some (some (.builtin "object.__ne__")))
    (eso_Rule : PySem.W.subIn K (.ref C_Rule) (.type "object") = some true)
    (xa_InvalidRule : PySem.W.nsIn K mainGlobals "InvalidRule" = some (some (.ref E_InvalidRule)))
    (a_InvalidRule_init : PySem.W.findIn K (.ref E_InvalidRule) "__init__" = some (some (.ref f_InvalidRule_init)))
    (i_InvalidRule_init : PySem.W.isFn K (.ref f_InvalidRule_init) = true)
    (l_InvalidRule_init : K.lookup f_InvalidRule_init = some ⟨oc_InvalidRule_init, od_InvalidRule_init, .func (PySem.W.fnOf "__init__" "InvalidRule.__init__" (defArgs s_InvalidRule_init) (defBody s_InvalidRule_init) (defScope s_InvalidRule_init) .none kV_InvalidRule_init dc_InvalidRule_init pm_InvalidRule_init an_InvalidRule_init cd_InvalidRule_init ct_InvalidRule_init), sl_InvalidRule_init⟩)
    (c_InvalidRule_init : PySem.W.codeIn K cd_InvalidRule_init "InvalidRule.__init__" = true)
    (k_InvalidRule_init : PySem.W.keepIn K (.ref f_InvalidRule_init) = true)
    (xa_InvalidBook : PySem.W.nsIn K mainGlobals "InvalidBook" = some (some (.ref E_InvalidBook)))
    (a_InvalidBook_init : PySem.W.findIn K (.ref E_InvalidBook) "__init__" = some (some (.ref f_InvalidBook_init)))
    (i_InvalidBook_init : PySem.W.isFn K (.ref f_InvalidBook_init) = true)
    (l_InvalidBook_init : K.lookup f_InvalidBook_init = some ⟨oc_InvalidBook_init, od_InvalidBook_init, .func (PySem.W.fnOf "__init__" "InvalidBook.__init__" (defArgs s_InvalidBook_init) (defBody s_InvalidBook_init) (defScope s_InvalidBook_init) .none kV_InvalidBook_init dc_InvalidBook_init pm_InvalidBook_init an_InvalidBook_init cd_InvalidBook_init ct_InvalidBook_init), sl_InvalidBook_init⟩)
    (c_InvalidBook_init : PySem.W.codeIn K cd_InvalidBook_init "InvalidBook.__init__" = true)
    (k_InvalidBook_init : PySem.W.keepIn K (.ref f_InvalidBook_init) = true)
    (a_is_number : PySem.W.nsIn K mainGlobals "is_number" = some (some (.ref f_is_number)))
    (l_is_number : K.lookup f_is_number = some ⟨oc_is_number, od_is_number, .func (PySem.W.fnOf "is_number" "is_number" (defArgs s_is_number) (defBody s_is_number) (defScope s_is_number) .none kV_is_number dc_is_number pm_is_number an_is_number cd_is_number ct_is_number), sl_is_number⟩)
    (c_is_number : PySem.W.codeIn K cd_is_number "is_number" = true)
    (k_is_number : PySem.W.keepIn K (.ref f_is_number) = true)
    (a_is_word : PySem.W.nsIn K mainGlobals "is_word" = some (some (.ref f_is_word)))
    (l_is_word : K.lookup f_is_word = some ⟨oc_is_word, od_is_word, .func (PySem.W.fnOf "is_word" "is_word" (defArgs s_is_word) (defBody s_is_word) (defScope s_is_word) .none kV_is_word dc_is_word pm_is_word an_is_word cd_is_word ct_is_word), sl_is_word⟩)
    (c_is_word : PySem.W.codeIn K cd_is_word "is_word" = true)
    (k_is_word : PySem.W.keepIn K (.ref f_is_word) = true)
    (a_ascend : PySem.W.nsIn K mainGlobals "ascend" = some (some (.ref f_ascend)))
    (l_ascend : K.lookup f_ascend = some ⟨oc_ascend, od_ascend, .func (PySem.W.fnOf "ascend" "ascend" (defArgs s_ascend) (defBody s_ascend) (defScope s_ascend) .none kV_ascend dc_ascend pm_ascend an_ascend cd_ascend ct_ascend), sl_ascend⟩)
    (c_ascend : PySem.W.codeIn K cd_ascend "ascend" = true)
    (k_ascend : PySem.W.keepIn K (.ref f_ascend) = true)
    (a_Rule_piece : PySem.W.findIn K (.ref C_Rule) "piece" = some (some (.ref p_Rule_piece)))
    (pg2_Rule_piece : PySem.W.specialIn K (.ref p_Rule_piece) "__get__" = some (some (.builtin "property.__get__")))
    (pt_Rule_piece : PySem.W.takesIn K (.ref p_Rule_piece) = some true)
    (pr_Rule_piece : PySem.W.recIn K p_Rule_piece "property" = some (.ref f_Rule_piece :: r_Rule_piece))
    (l_Rule_piece : K.lookup f_Rule_piece = some ⟨oc_Rule_piece, od_Rule_piece, .func (PySem.W.fnOf "piece" "Rule.piece" (defArgs s_Rule_piece) (defBody s_Rule_piece) (defScope s_Rule_piece) .none kV_Rule_piece dc_Rule_piece pm_Rule_piece an_Rule_piece cd_Rule_piece ct_Rule_piece), sl_Rule_piece⟩)
    (c_Rule_piece : PySem.W.codeIn K cd_Rule_piece "Rule.piece" = true)
    (k_Rule_piece : PySem.W.keepIn K (.ref f_Rule_piece) = true)
    (a_Rule_low : PySem.W.findIn K (.ref C_Rule) "low" = some (some (.ref p_Rule_low)))
    (pg2_Rule_low : PySem.W.specialIn K (.ref p_Rule_low) "__get__" = some (some (.builtin "property.__get__")))
    (pt_Rule_low : PySem.W.takesIn K (.ref p_Rule_low) = some true)
    (pr_Rule_low : PySem.W.recIn K p_Rule_low "property" = some (.ref f_Rule_low :: r_Rule_low))
    (l_Rule_low : K.lookup f_Rule_low = some ⟨oc_Rule_low, od_Rule_low, .func (PySem.W.fnOf "low" "Rule.low" (defArgs s_Rule_low) (defBody s_Rule_low) (defScope s_Rule_low) .none kV_Rule_low dc_Rule_low pm_Rule_low an_Rule_low cd_Rule_low ct_Rule_low), sl_Rule_low⟩)
    (c_Rule_low : PySem.W.codeIn K cd_Rule_low "Rule.low" = true)
    (k_Rule_low : PySem.W.keepIn K (.ref f_Rule_low) = true)
    (a_Rule_high : PySem.W.findIn K (.ref C_Rule) "high" = some (some (.ref p_Rule_high)))
    (pg2_Rule_high : PySem.W.specialIn K (.ref p_Rule_high) "__get__" = some (some (.builtin "property.__get__")))
    (pt_Rule_high : PySem.W.takesIn K (.ref p_Rule_high) = some true)
    (pr_Rule_high : PySem.W.recIn K p_Rule_high "property" = some (.ref f_Rule_high :: r_Rule_high))
    (l_Rule_high : K.lookup f_Rule_high = some ⟨oc_Rule_high, od_Rule_high, .func (PySem.W.fnOf "high" "Rule.high" (defArgs s_Rule_high) (defBody s_Rule_high) (defScope s_Rule_high) .none kV_Rule_high dc_Rule_high pm_Rule_high an_Rule_high cd_Rule_high ct_Rule_high), sl_Rule_high⟩)
    (c_Rule_high : PySem.W.codeIn K cd_Rule_high "Rule.high" = true)
    (k_Rule_high : PySem.W.keepIn K (.ref f_Rule_high) = true)
    (a_Rule_modulus : PySem.W.findIn K (.ref C_Rule) "modulus" = some (some (.ref p_Rule_modulus)))
    (pg2_Rule_modulus : PySem.W.specialIn K (.ref p_Rule_modulus) "__get__" = some (some (.builtin "property.__get__")))
    (pt_Rule_modulus : PySem.W.takesIn K (.ref p_Rule_modulus) = some true)
    (pr_Rule_modulus : PySem.W.recIn K p_Rule_modulus "property" = some (.ref f_Rule_modulus :: r_Rule_modulus))
    (l_Rule_modulus : K.lookup f_Rule_modulus = some ⟨oc_Rule_modulus, od_Rule_modulus, .func (PySem.W.fnOf "modulus" "Rule.modulus" (defArgs s_Rule_modulus) (defBody s_Rule_modulus) (defScope s_Rule_modulus) .none kV_Rule_modulus dc_Rule_modulus pm_Rule_modulus an_Rule_modulus cd_Rule_modulus ct_Rule_modulus), sl_Rule_modulus⟩)
    (c_Rule_modulus : PySem.W.codeIn K cd_Rule_modulus "Rule.modulus" = true)
    (k_Rule_modulus : PySem.W.keepIn K (.ref f_Rule_modulus) = true)
    (a_Rule_rests : PySem.W.findIn K (.ref C_Rule) "rests" = some (some (.ref p_Rule_rests)))
    (pg2_Rule_rests : PySem.W.specialIn K (.ref p_Rule_rests) "__get__" = some (some (.builtin "property.__get__")))
    (pt_Rule_rests : PySem.W.takesIn K (.ref p_Rule_rests) = some true)
    (pr_Rule_rests : PySem.W.recIn K p_Rule_rests "property" = some (.ref f_Rule_rests :: r_Rule_rests))
    (l_Rule_rests : K.lookup f_Rule_rests = some ⟨oc_Rule_rests, od_Rule_rests, .func (PySem.W.fnOf "rests" "Rule.rests" (defArgs s_Rule_rests) (defBody s_Rule_rests) (defScope s_Rule_rests) .none kV_Rule_rests dc_Rule_rests pm_Rule_rests an_Rule_rests cd_Rule_rests ct_Rule_rests), sl_Rule_rests⟩)
    (c_Rule_rests : PySem.W.codeIn K cd_Rule_rests "Rule.rests" = true)
    (k_Rule_rests : PySem.W.keepIn K (.ref f_Rule_rests) = true)
    (a_Rule_kinds : PySem.W.findIn K (.ref C_Rule) "kinds" = some (some (.ref p_Rule_kinds)))
    (pg2_Rule_kinds : PySem.W.specialIn K (.ref p_Rule_kinds) "__get__" = some (some (.builtin "property.__get__")))
    (pt_Rule_kinds : PySem.W.takesIn K (.ref p_Rule_kinds) = some true)
    (pr_Rule_kinds : PySem.W.recIn K p_Rule_kinds "property" = some (.ref f_Rule_kinds :: r_Rule_kinds))
    (l_Rule_kinds : K.lookup f_Rule_kinds = some ⟨oc_Rule_kinds, od_Rule_kinds, .func (PySem.W.fnOf "kinds" "Rule.kinds" (defArgs s_Rule_kinds) (defBody s_Rule_kinds) (defScope s_Rule_kinds) .none kV_Rule_kinds dc_Rule_kinds pm_Rule_kinds an_Rule_kinds cd_Rule_kinds ct_Rule_kinds), sl_Rule_kinds⟩)
    (c_Rule_kinds : PySem.W.codeIn K cd_Rule_kinds "Rule.kinds" = true)
    (k_Rule_kinds : PySem.W.keepIn K (.ref f_Rule_kinds) = true)
    (a_Rule_eq : PySem.W.findIn K (.ref C_Rule) "__eq__" = some (some (.ref f_Rule_eq)))
    (i_Rule_eq : PySem.W.isFn K (.ref f_Rule_eq) = true)
    (l_Rule_eq : K.lookup f_Rule_eq = some ⟨oc_Rule_eq, od_Rule_eq, .func (PySem.W.fnOf "__eq__" "Rule.__eq__" (defArgs s_Rule_eq) (defBody s_Rule_eq) (defScope s_Rule_eq) .none kV_Rule_eq dc_Rule_eq pm_Rule_eq an_Rule_eq cd_Rule_eq ct_Rule_eq), sl_Rule_eq⟩)
    (c_Rule_eq : PySem.W.codeIn K cd_Rule_eq "Rule.__eq__" = true)
    (k_Rule_eq : PySem.W.keepIn K (.ref f_Rule_eq) = true)
    (a_Book_kinds : PySem.W.findIn K (.ref C_Book) "kinds" = some (some (.ref p_Book_kinds)))
    (pg2_Book_kinds : PySem.W.specialIn K (.ref p_Book_kinds) "__get__" = some (some (.builtin "property.__get__")))
    (pt_Book_kinds : PySem.W.takesIn K (.ref p_Book_kinds) = some true)
    (pr_Book_kinds : PySem.W.recIn K p_Book_kinds "property" = some (.ref f_Book_kinds :: r_Book_kinds))
    (l_Book_kinds : K.lookup f_Book_kinds = some ⟨oc_Book_kinds, od_Book_kinds, .func (PySem.W.fnOf "kinds" "Book.kinds" (defArgs s_Book_kinds) (defBody s_Book_kinds) (defScope s_Book_kinds) .none kV_Book_kinds dc_Book_kinds pm_Book_kinds an_Book_kinds cd_Book_kinds ct_Book_kinds), sl_Book_kinds⟩)
    (c_Book_kinds : PySem.W.codeIn K cd_Book_kinds "Book.kinds" = true)
    (k_Book_kinds : PySem.W.keepIn K (.ref f_Book_kinds) = true)
    (a_Book_rules : PySem.W.findIn K (.ref C_Book) "rules" = some (some (.ref p_Book_rules)))
    (pg2_Book_rules : PySem.W.specialIn K (.ref p_Book_rules) "__get__" = some (some (.builtin "property.__get__")))
    (pt_Book_rules : PySem.W.takesIn K (.ref p_Book_rules) = some true)
    (pr_Book_rules : PySem.W.recIn K p_Book_rules "property" = some (.ref f_Book_rules :: r_Book_rules))
    (l_Book_rules : K.lookup f_Book_rules = some ⟨oc_Book_rules, od_Book_rules, .func (PySem.W.fnOf "rules" "Book.rules" (defArgs s_Book_rules) (defBody s_Book_rules) (defScope s_Book_rules) .none kV_Book_rules dc_Book_rules pm_Book_rules an_Book_rules cd_Book_rules ct_Book_rules), sl_Book_rules⟩)
    (c_Book_rules : PySem.W.codeIn K cd_Book_rules "Book.rules" = true)
    (k_Book_rules : PySem.W.keepIn K (.ref f_Book_rules) = true)
    (a_law_taken : PySem.W.nsIn K mainGlobals "_law_taken" = some (some (.ref f_law_taken)))
    (l_law_taken : K.lookup f_law_taken = some ⟨oc_law_taken, od_law_taken, .func (PySem.W.fnOf "_law_taken" "_law_taken" (defArgs s_law_taken) (defBody s_law_taken) (defScope s_law_taken) .none kV_law_taken dc_law_taken pm_law_taken an_law_taken cd_law_taken ct_law_taken), sl_law_taken⟩)
    (c_law_taken : PySem.W.codeIn K cd_law_taken "_law_taken" = true)
    (k_law_taken : PySem.W.keepIn K (.ref f_law_taken) = true)
    (a_are_kinds : PySem.W.nsIn K mainGlobals "are_kinds" = some (some (.ref f_are_kinds)))
    (l_are_kinds : K.lookup f_are_kinds = some ⟨oc_are_kinds, od_are_kinds, .func (PySem.W.fnOf "are_kinds" "are_kinds" (defArgs s_are_kinds) (defBody s_are_kinds) (defScope s_are_kinds) .none kV_are_kinds dc_are_kinds pm_are_kinds an_are_kinds cd_are_kinds ct_are_kinds), sl_are_kinds⟩)
    (c_are_kinds : PySem.W.codeIn K cd_are_kinds "are_kinds" = true)
    (k_are_kinds : PySem.W.keepIn K (.ref f_are_kinds) = true)
    (a_are_rests : PySem.W.nsIn K mainGlobals "are_rests" = some (some (.ref f_are_rests)))
    (l_are_rests : K.lookup f_are_rests = some ⟨oc_are_rests, od_are_rests, .func (PySem.W.fnOf "are_rests" "are_rests" (defArgs s_are_rests) (defBody s_are_rests) (defScope s_are_rests) .none kV_are_rests dc_are_rests pm_are_rests an_are_rests cd_are_rests ct_are_rests), sl_are_rests⟩)
    (c_are_rests : PySem.W.codeIn K cd_are_rests "are_rests" = true)
    (k_are_rests : PySem.W.keepIn K (.ref f_are_rests) = true)
    (a_law_pick : PySem.W.nsIn K mainGlobals "_law_pick" = some (some (.ref f_law_pick)))
    (l_law_pick : K.lookup f_law_pick = some ⟨oc_law_pick, od_law_pick, .func (PySem.W.fnOf "_law_pick" "_law_pick" (defArgs s_law_pick) (defBody s_law_pick) (defScope s_law_pick) .none kV_law_pick dc_law_pick pm_law_pick an_law_pick cd_law_pick ct_law_pick), sl_law_pick⟩)
    (c_law_pick : PySem.W.codeIn K cd_law_pick "_law_pick" = true)
    (k_law_pick : PySem.W.keepIn K (.ref f_law_pick) = true)
    (a_law_kinds : PySem.W.nsIn K mainGlobals "_law_kinds" = some (some (.ref f_law_kinds)))
    (l_law_kinds : K.lookup f_law_kinds = some ⟨oc_law_kinds, od_law_kinds, .func (PySem.W.fnOf "_law_kinds" "_law_kinds" (defArgs s_law_kinds) (defBody s_law_kinds) (defScope s_law_kinds) .none kV_law_kinds dc_law_kinds pm_law_kinds an_law_kinds cd_law_kinds ct_law_kinds), sl_law_kinds⟩)
    (c_law_kinds : PySem.W.codeIn K cd_law_kinds "_law_kinds" = true)
    (k_law_kinds : PySem.W.keepIn K (.ref f_law_kinds) = true)
    (a_Rule_init : PySem.W.findIn K (.ref C_Rule) "__init__" = some (some (.ref f_Rule_init)))
    (i_Rule_init : PySem.W.isFn K (.ref f_Rule_init) = true)
    (l_Rule_init : K.lookup f_Rule_init = some ⟨oc_Rule_init, od_Rule_init, .func (PySem.W.fnOf "__init__" "Rule.__init__" (defArgs s_Rule_init) (defBody s_Rule_init) (defScope s_Rule_init) .none kV_Rule_init dc_Rule_init pm_Rule_init an_Rule_init cd_Rule_init ct_Rule_init), sl_Rule_init⟩)
    (c_Rule_init : PySem.W.codeIn K cd_Rule_init "Rule.__init__" = true)
    (k_Rule_init : PySem.W.keepIn K (.ref f_Rule_init) = true)
    (a_check_kinds : PySem.W.nsIn K mainGlobals "check_kinds" = some (some (.ref f_check_kinds)))
    (l_check_kinds : K.lookup f_check_kinds = some ⟨oc_check_kinds, od_check_kinds, .func (PySem.W.fnOf "check_kinds" "check_kinds" (defArgs s_check_kinds) (defBody s_check_kinds) (defScope s_check_kinds) .none kV_check_kinds dc_check_kinds pm_check_kinds an_check_kinds cd_check_kinds ct_check_kinds), sl_check_kinds⟩)
    (c_check_kinds : PySem.W.codeIn K cd_check_kinds "check_kinds" = true)
    (k_check_kinds : PySem.W.keepIn K (.ref f_check_kinds) = true)
    (a_Book_pieces : PySem.W.findIn K (.ref C_Book) "pieces" = some (some (.ref p_Book_pieces)))
    (pg2_Book_pieces : PySem.W.specialIn K (.ref p_Book_pieces) "__get__" = some (some (.builtin "property.__get__")))
    (pt_Book_pieces : PySem.W.takesIn K (.ref p_Book_pieces) = some true)
    (pr_Book_pieces : PySem.W.recIn K p_Book_pieces "property" = some (.ref f_Book_pieces :: r_Book_pieces))
    (l_Book_pieces : K.lookup f_Book_pieces = some ⟨oc_Book_pieces, od_Book_pieces, .func (PySem.W.fnOf "pieces" "Book.pieces" (defArgs s_Book_pieces) (defBody s_Book_pieces) (defScope s_Book_pieces) .none kV_Book_pieces dc_Book_pieces pm_Book_pieces an_Book_pieces cd_Book_pieces ct_Book_pieces), sl_Book_pieces⟩)
    (c_Book_pieces : PySem.W.codeIn K cd_Book_pieces "Book.pieces" = true)
    (k_Book_pieces : PySem.W.keepIn K (.ref f_Book_pieces) = true)
    (a_Book_len : PySem.W.findIn K (.ref C_Book) "__len__" = some (some (.ref f_Book_len)))
    (i_Book_len : PySem.W.isFn K (.ref f_Book_len) = true)
    (l_Book_len : K.lookup f_Book_len = some ⟨oc_Book_len, od_Book_len, .func (PySem.W.fnOf "__len__" "Book.__len__" (defArgs s_Book_len) (defBody s_Book_len) (defScope s_Book_len) .none kV_Book_len dc_Book_len pm_Book_len an_Book_len cd_Book_len ct_Book_len), sl_Book_len⟩)
    (c_Book_len : PySem.W.codeIn K cd_Book_len "Book.__len__" = true)
    (k_Book_len : PySem.W.keepIn K (.ref f_Book_len) = true)
    (a_law_some : PySem.W.nsIn K mainGlobals "_law_some" = some (some (.ref f_law_some)))
    (l_law_some : K.lookup f_law_some = some ⟨oc_law_some, od_law_some, .func (PySem.W.fnOf "_law_some" "_law_some" (defArgs s_law_some) (defBody s_law_some) (defScope s_law_some) .none kV_law_some dc_law_some pm_law_some an_law_some cd_law_some ct_law_some), sl_law_some⟩)
    (c_law_some : PySem.W.codeIn K cd_law_some "_law_some" = true)
    (k_law_some : PySem.W.keepIn K (.ref f_law_some) = true)
    (a_Book_init : PySem.W.findIn K (.ref C_Book) "__init__" = some (some (.ref f_Book_init)))
    (i_Book_init : PySem.W.isFn K (.ref f_Book_init) = true)
    (l_Book_init : K.lookup f_Book_init = some ⟨oc_Book_init, od_Book_init, .func (PySem.W.fnOf "__init__" "Book.__init__" (defArgs s_Book_init) (defBody s_Book_init) (defScope s_Book_init) .none kV_Book_init dc_Book_init pm_Book_init an_Book_init cd_Book_init ct_Book_init), sl_Book_init⟩)
    (c_Book_init : PySem.W.codeIn K cd_Book_init "Book.__init__" = true)
    (k_Book_init : PySem.W.keepIn K (.ref f_Book_init) = true)
    (a_law_rule : PySem.W.nsIn K mainGlobals "_law_rule" = some (some (.ref f_law_rule)))
    (l_law_rule : K.lookup f_law_rule = some ⟨oc_law_rule, od_law_rule, .func (PySem.W.fnOf "_law_rule" "_law_rule" (defArgs s_law_rule) (defBody s_law_rule) (defScope s_law_rule) .none kV_law_rule dc_law_rule pm_law_rule an_law_rule cd_law_rule ct_law_rule), sl_law_rule⟩)
    (c_law_rule : PySem.W.codeIn K cd_law_rule "_law_rule" = true)
    (k_law_rule : PySem.W.keepIn K (.ref f_law_rule) = true)
    (a_Book_eq : PySem.W.findIn K (.ref C_Book) "__eq__" = some (some (.ref f_Book_eq)))
    (i_Book_eq : PySem.W.isFn K (.ref f_Book_eq) = true)
    (l_Book_eq : K.lookup f_Book_eq = some ⟨oc_Book_eq, od_Book_eq, .func (PySem.W.fnOf "__eq__" "Book.__eq__" (defArgs s_Book_eq) (defBody s_Book_eq) (defScope s_Book_eq) .none kV_Book_eq dc_Book_eq pm_Book_eq an_Book_eq cd_Book_eq ct_Book_eq), sl_Book_eq⟩)
    (c_Book_eq : PySem.W.codeIn K cd_Book_eq "Book.__eq__" = true)
    (k_Book_eq : PySem.W.keepIn K (.ref f_Book_eq) = true)
    (a_law_book : PySem.W.nsIn K mainGlobals "_law_book" = some (some (.ref f_law_book)))
    (l_law_book : K.lookup f_law_book = some ⟨oc_law_book, od_law_book, .func (PySem.W.fnOf "_law_book" "_law_book" (defArgs s_law_book) (defBody s_law_book) (defScope s_law_book) .none kV_law_book dc_law_book pm_law_book an_law_book cd_law_book ct_law_book), sl_law_book⟩)
    (c_law_book : PySem.W.codeIn K cd_law_book "_law_book" = true)
    (k_law_book : PySem.W.keepIn K (.ref f_law_book) = true)
    (a_law_is_told : PySem.W.nsIn K mainGlobals "_law_is_told" = some (some (.ref f_law_is_told)))
    (l_law_is_told : K.lookup f_law_is_told = some ⟨oc_law_is_told, od_law_is_told, .func (PySem.W.fnOf "_law_is_told" "_law_is_told" (defArgs s_law_is_told) (defBody s_law_is_told) (defScope s_law_is_told) .none kV_law_is_told dc_law_is_told pm_law_is_told an_law_is_told cd_law_is_told ct_law_is_told), sl_law_is_told⟩)
    (c_law_is_told : PySem.W.codeIn K cd_law_is_told "_law_is_told" = true)
    (k_law_is_told : PySem.W.keepIn K (.ref f_law_is_told) = true)
    (a_law_raised : PySem.W.nsIn K mainGlobals "_law_raised" = some (some (.ref f_law_raised)))
    (l_law_raised : K.lookup f_law_raised = some ⟨oc_law_raised, od_law_raised, .func (PySem.W.fnOf "_law_raised" "_law_raised" (defArgs s_law_raised) (defBody s_law_raised) (defScope s_law_raised) .none kV_law_raised dc_law_raised pm_law_raised an_law_raised cd_law_raised ct_law_raised), sl_law_raised⟩)
    (c_law_raised : PySem.W.codeIn K cd_law_raised "_law_raised" = true)
    (k_law_raised : PySem.W.keepIn K (.ref f_law_raised) = true)
    (a_law : PySem.W.nsIn K mainGlobals "law" = some (some (.ref f_law)))
    (l_law : K.lookup f_law = some ⟨oc_law, od_law, .func (PySem.W.fnOf "law" "law" (defArgs s_law) (defBody s_law) (defScope s_law) .none kV_law dc_law pm_law an_law cd_law ct_law), sl_law⟩)
    (c_law : PySem.W.codeIn K cd_law "law" = true)
    (k_law : PySem.W.keepIn K (.ref f_law) = true)
    (ec_law : cd_law = .ref cc_law)
    (lo_law : K.lookup cc_law = some oo_law)
    (tp_law : tabP oo_law = some PP_law)
    (hd_law : PySem.W.codeHdIn K cc_law PP_law = true)
    (nt_law : K.lookup PP_law = none)
    (em_law : h.get? PP_law = some { cls := .none, data := .fields #[] })
    (nodup : [PP_law].Nodup)
    (zb_all : PySem.W.nsIn K mainGlobals "all" = some none)
    (zb_bool : PySem.W.nsIn K mainGlobals "bool" = some none)
    (zb_enumerate : PySem.W.nsIn K mainGlobals "enumerate" = some none)
    (zb_int : PySem.W.nsIn K mainGlobals "int" = some none)
    (zb_isinstance : PySem.W.nsIn K mainGlobals "isinstance" = some none)
    (zb_len : PySem.W.nsIn K mainGlobals "len" = some none)
    (zb_list : PySem.W.nsIn K mainGlobals "list" = some none)
    (zb_min : PySem.W.nsIn K mainGlobals "min" = some none)
    (zb_range : PySem.W.nsIn K mainGlobals "range" = some none)
    (zb_set : PySem.W.nsIn K mainGlobals "set" = some none)
    (zb_sorted : PySem.W.nsIn K mainGlobals "sorted" = some none)
    (zb_str : PySem.W.nsIn K mainGlobals "str" = some none)
    (zb_tuple : PySem.W.nsIn K mainGlobals "tuple" = some none)
    (zb_zip : PySem.W.nsIn K mainGlobals "zip" = some none)
    (zc_LAST : PySem.W.nsIn K mainGlobals "LAST" = some (some (.int 999999999999999999999999999999 t_LAST)))
    (zc_LETTERS : PySem.W.nsIn K mainGlobals "LETTERS" = some (some (.str "abcdefghijklmnopqrstuvwxyz" t_LETTERS)))
    (zc_MAX_KINDS : PySem.W.nsIn K mainGlobals "MAX_KINDS" = some (some (.int 4 t_MAX_KINDS)))
    (zc_MAX_RULES : PySem.W.nsIn K mainGlobals "MAX_RULES" = some (some (.int 8 t_MAX_RULES)))
    (zc_MAX_WORD : PySem.W.nsIn K mainGlobals "MAX_WORD" = some (some (.int 8 t_MAX_WORD)))
    (zc_MODULI : PySem.W.nsIn K mainGlobals "MODULI" = some (some (.ref a_MODULI)))
    (zl_MODULI : VE.TupC K a_MODULI fun vs => VE.intsB vs [1, 2, 3, 4, 6, 12])
    (ba_PieceError : PySem.W.nsIn K mainGlobals "PieceError" = some (some (.ref P_PieceError)))
    (br_PieceError : PySem.W.readsIn K P_PieceError (.type "type") = true)
    (bg_PieceError : PySem.W.specialIn K (.ref P_PieceError) "__getattribute__" = some (some (.builtin "type.__getattribute__")))
    (bt_PieceError : PySem.W.findCls K (.ref P_PieceError) (.type "type") "__init__" = some (.val (.builtin "ValueError.__init__")))
    (xo_InvalidBook : VE.oexIn K E_InvalidBook = true)
    (xu_InvalidBook : PySem.W.findIn K (.ref E_InvalidBook) "__setattr__" = some (some (.builtin "object.__setattr__")))
    (xn_InvalidBook_part : PySem.W.findIn K (.ref E_InvalidBook) "part" = some none)
    (xn_InvalidBook_index : PySem.W.findIn K (.ref E_InvalidBook) "index" = some none)
    (xg_InvalidBook : L2.xfB K E_InvalidBook = true)
    (xk_InvalidBook : PySem.W.keepIn K (.ref E_InvalidBook) = true)
    (xs_InvalidBook : PySem.W.subIn K (.ref E_InvalidBook) (.type "BaseException") = some true)
    (xt_InvalidBook : PySem.W.typeIn K (.ref E_InvalidBook) = some (.type "type"))
    (xo_InvalidRule : VE.oexIn K E_InvalidRule = true)
    (xu_InvalidRule : PySem.W.findIn K (.ref E_InvalidRule) "__setattr__" = some (some (.builtin "object.__setattr__")))
    (xn_InvalidRule_part : PySem.W.findIn K (.ref E_InvalidRule) "part" = some none)
    (xg_InvalidRule : L2.xfB K E_InvalidRule = true)
    (xk_InvalidRule : PySem.W.keepIn K (.ref E_InvalidRule) = true)
    (xs_InvalidRule : PySem.W.subIn K (.ref E_InvalidRule) (.type "BaseException") = some true)
    (xt_InvalidRule : PySem.W.typeIn K (.ref E_InvalidRule) = some (.type "type"))
    (xa_PieceError : PySem.W.nsIn K mainGlobals "PieceError" = some (some (.ref E_PieceError)))
    (ms_PieceError : PySem.W.subIn K (.ref E_PieceError) (.type "BaseException") = some true)
    (mi_PieceError : PySem.W.isClsIn K E_PieceError = true)
    (mt_PieceError : PySem.W.typeIn K (.ref E_PieceError) = some (.type "type"))
    (xm_PieceError_InvalidBook : PySem.W.subIn K (.ref E_InvalidBook) (.ref E_PieceError) = some true)
    (xm_PieceError_InvalidRule : PySem.W.subIn K (.ref E_InvalidRule) (.ref E_PieceError) = some true)
    (ik_InvalidBook_InvalidBook : PySem.W.kitOne K (.ref E_InvalidBook) (.ref E_InvalidBook) = some true)
    (ik_InvalidBook_InvalidRule : PySem.W.kitOne K (.ref E_InvalidRule) (.ref E_InvalidBook) = some false)
    (xa_InvalidNumber : PySem.W.nsIn K mainGlobals "InvalidNumber" = some (some (.ref E_InvalidNumber)))
    (ik_InvalidNumber_InvalidBook : PySem.W.kitOne K (.ref E_InvalidBook) (.ref E_InvalidNumber) = some false)
    (ik_InvalidNumber_InvalidRule : PySem.W.kitOne K (.ref E_InvalidRule) (.ref E_InvalidNumber) = some false)
    (xa_InvalidPiece : PySem.W.nsIn K mainGlobals "InvalidPiece" = some (some (.ref E_InvalidPiece)))
    (ik_InvalidPiece_InvalidBook : PySem.W.kitOne K (.ref E_InvalidBook) (.ref E_InvalidPiece) = some false)
    (ik_InvalidPiece_InvalidRule : PySem.W.kitOne K (.ref E_InvalidRule) (.ref E_InvalidPiece) = some false)
    (xa_InvalidQuestion : PySem.W.nsIn K mainGlobals "InvalidQuestion" = some (some (.ref E_InvalidQuestion)))
    (ik_InvalidQuestion_InvalidBook : PySem.W.kitOne K (.ref E_InvalidBook) (.ref E_InvalidQuestion) = some false)
    (ik_InvalidQuestion_InvalidRule : PySem.W.kitOne K (.ref E_InvalidRule) (.ref E_InvalidQuestion) = some false)
    (xa_InvalidRow : PySem.W.nsIn K mainGlobals "InvalidRow" = some (some (.ref E_InvalidRow)))
    (ik_InvalidRow_InvalidBook : PySem.W.kitOne K (.ref E_InvalidBook) (.ref E_InvalidRow) = some false)
    (ik_InvalidRow_InvalidRule : PySem.W.kitOne K (.ref E_InvalidRule) (.ref E_InvalidRow) = some false)
    (ik_InvalidRule_InvalidBook : PySem.W.kitOne K (.ref E_InvalidBook) (.ref E_InvalidRule) = some false)
    (ik_InvalidRule_InvalidRule : PySem.W.kitOne K (.ref E_InvalidRule) (.ref E_InvalidRule) = some true)
    (xa_TooMany : PySem.W.nsIn K mainGlobals "TooMany" = some (some (.ref E_TooMany)))
    (ik_TooMany_InvalidBook : PySem.W.kitOne K (.ref E_InvalidBook) (.ref E_TooMany) = some false)
    (ik_TooMany_InvalidRule : PySem.W.kitOne K (.ref E_InvalidRule) (.ref E_TooMany) = some false)
    (xa_UnknownPiece : PySem.W.nsIn K mainGlobals "UnknownPiece" = some (some (.ref E_UnknownPiece)))
    (ik_UnknownPiece_InvalidBook : PySem.W.kitOne K (.ref E_InvalidBook) (.ref E_UnknownPiece) = some false)
    (ik_UnknownPiece_InvalidRule : PySem.W.kitOne K (.ref E_InvalidRule) (.ref E_UnknownPiece) = some false)
    (xa_UnknownRule : PySem.W.nsIn K mainGlobals "UnknownRule" = some (some (.ref E_UnknownRule)))
    (ik_UnknownRule_InvalidBook : PySem.W.kitOne K (.ref E_InvalidBook) (.ref E_UnknownRule) = some false)
    (ik_UnknownRule_InvalidRule : PySem.W.kitOne K (.ref E_InvalidRule) (.ref E_UnknownRule) = some false)
    (xa_UnlikeBooks : PySem.W.nsIn K mainGlobals "UnlikeBooks" = some (some (.ref E_UnlikeBooks)))
    (ik_UnlikeBooks_InvalidBook : PySem.W.kitOne K (.ref E_InvalidBook) (.ref E_UnlikeBooks) = some false)
    (ik_UnlikeBooks_InvalidRule : PySem.W.kitOne K (.ref E_InvalidRule) (.ref E_UnlikeBooks) = some false)
    (in_ValueError : PySem.W.nsIn K mainGlobals "ValueError" = some none)
    (ik_ValueError_InvalidBook : PySem.W.kitOne K (.ref E_InvalidBook) (.type "ValueError") = some true)
    (ik_ValueError_InvalidRule : PySem.W.kitOne K (.ref E_InvalidRule) (.type "ValueError") = some true)
    (ega_InvalidBook : PySem.W.findIn K (.ref E_InvalidBook) "__getattribute__" = some (some (.builtin "BaseException.__getattribute__")))
    (egt_InvalidBook : PySem.W.findIn K (.ref E_InvalidBook) "__getattr__" = some none)
    (ehd_InvalidBook : PySem.W.hasDictIn K E_InvalidBook = true)
    (eca_InvalidBook : PySem.W.findIn K (.ref E_InvalidBook) "__class__" = some (some (.builtin "object.__class__")))
    (emr_InvalidBook : PySem.W.mroIn K E_InvalidBook (.type "object") = some true)
    (ega_InvalidRule : PySem.W.findIn K (.ref E_InvalidRule) "__getattribute__" = some (some (.builtin "BaseException.__getattribute__")))
    (egt_InvalidRule : PySem.W.findIn K (.ref E_InvalidRule) "__getattr__" = some none)
    (ehd_InvalidRule : PySem.W.hasDictIn K E_InvalidRule = true)
    (eca_InvalidRule : PySem.W.findIn K (.ref E_InvalidRule) "__class__" = some (some (.builtin "object.__class__")))
    (emr_InvalidRule : PySem.W.mroIn K E_InvalidRule (.type "object") = some true)
    (zcn : PySem.W.specialIn K (.builtin "object.__class__") "__get__" = some (some (.builtin "getset_descriptor.__get__")))
    (zct : PySem.W.takesIn K (.builtin "object.__class__") = some true)
    : LamX.LawAtS l w K (L2.CX l.prog w) 9 63 "_law_script" mg fa h := by
  have e := hfa.symm.trans (PySem.W.mg_of X G a_law)
  cases e
  letI : VEnv := ⟨[(PP_law, ("law" : Str) ++ ".<locals>." ++ "<lambda>")], lamCode, some (l.prog, w)⟩
  have g_Rule : mg "Rule" = some (.ref C_Rule) := PySem.W.mg_of X G aC_Rule
  have e_Rule : ∀ C, mg "Rule" = some (.ref C) → C_Rule = C := fun C h => by rw [g_Rule] at h; cases h; rfl
  have g_Book : mg "Book" = some (.ref C_Book) := PySem.W.mg_of X G aC_Book
  have e_Book : ∀ C, mg "Book" = some (.ref C) → C_Book = C := fun C h => by rw [g_Book] at h; cases h; rfl
  have T : Txt l.prog w K mg := ⟨PySem.W.mg_none_of X G zb_all,
    PySem.W.mg_none_of X G zb_bool,
    PySem.W.mg_none_of X G zb_enumerate,
    PySem.W.mg_none_of X G zb_int,
    PySem.W.mg_none_of X G zb_isinstance,
    PySem.W.mg_none_of X G zb_len,
    PySem.W.mg_none_of X G zb_list,
    PySem.W.mg_none_of X G zb_min,
    PySem.W.mg_none_of X G zb_range,
    PySem.W.mg_none_of X G zb_set,
    PySem.W.mg_none_of X G zb_sorted,
    PySem.W.mg_none_of X G zb_str,
    PySem.W.mg_none_of X G zb_tuple,
    PySem.W.mg_none_of X G zb_zip,
    ConstV.int (PySem.W.mg_of X G zc_LAST),
    ConstV.str (PySem.W.mg_of X G zc_LETTERS),
    ConstV.int (PySem.W.mg_of X G zc_MAX_KINDS),
    ConstV.int (PySem.W.mg_of X G zc_MAX_RULES),
    ConstV.int (PySem.W.mg_of X G zc_MAX_WORD),
    ConstV.tupIC (ns := [1, 2, 3, 4, 6, 12]) (PySem.W.mg_of X G zc_MODULI) zl_MODULI (by show 6 ≤ sizeLine; decide),
    ⟨_, PySem.W.mg_of X G xa_PieceError, (List.forall_mem_cons.mpr ⟨fun cls h => (by rw [PySem.W.mg_of X G xa_InvalidBook] at h; cases h; exact exm_of ms_PieceError mi_PieceError mt_PieceError xm_PieceError_InvalidBook), (List.forall_mem_cons.mpr ⟨fun cls h => (by rw [PySem.W.mg_of X G xa_InvalidRule] at h; cases h; exact exm_of ms_PieceError mi_PieceError mt_PieceError xm_PieceError_InvalidRule), (fun _ h => nomatch h)⟩)⟩), (fun _ h => nomatch h)⟩,
    ⟨⟨_, PySem.W.mg_of X G ba_PieceError, br_PieceError, bg_PieceError, bt_PieceError⟩⟩,
    ⟨_, PySem.W.mg_of X G xa_InvalidBook, (List.forall_mem_cons.mpr ⟨fun cls h => (by rw [PySem.W.mg_of X G xa_InvalidBook] at h; cases h; exact ⟨_, rfl, ⟨ega_InvalidBook, egt_InvalidBook, xs_InvalidBook, ehd_InvalidBook, eca_InvalidBook, zcn, zct, emr_InvalidBook⟩, ik_InvalidBook_InvalidBook⟩), (List.forall_mem_cons.mpr ⟨fun cls h => (by rw [PySem.W.mg_of X G xa_InvalidRule] at h; cases h; exact ⟨_, rfl, ⟨ega_InvalidRule, egt_InvalidRule, xs_InvalidRule, ehd_InvalidRule, eca_InvalidRule, zcn, zct, emr_InvalidRule⟩, ik_InvalidBook_InvalidRule⟩), (fun _ h => nomatch h)⟩)⟩)⟩,
    ⟨_, PySem.W.mg_of X G xa_InvalidNumber, (List.forall_mem_cons.mpr ⟨fun cls h => (by rw [PySem.W.mg_of X G xa_InvalidBook] at h; cases h; exact ⟨_, rfl, ⟨ega_InvalidBook, egt_InvalidBook, xs_InvalidBook, ehd_InvalidBook, eca_InvalidBook, zcn, zct, emr_InvalidBook⟩, ik_InvalidNumber_InvalidBook⟩), (List.forall_mem_cons.mpr ⟨fun cls h => (by rw [PySem.W.mg_of X G xa_InvalidRule] at h; cases h; exact ⟨_, rfl, ⟨ega_InvalidRule, egt_InvalidRule, xs_InvalidRule, ehd_InvalidRule, eca_InvalidRule, zcn, zct, emr_InvalidRule⟩, ik_InvalidNumber_InvalidRule⟩), (fun _ h => nomatch h)⟩)⟩)⟩,
    ⟨_, PySem.W.mg_of X G xa_InvalidPiece, (List.forall_mem_cons.mpr ⟨fun cls h => (by rw [PySem.W.mg_of X G xa_InvalidBook] at h; cases h; exact ⟨_, rfl, ⟨ega_InvalidBook, egt_InvalidBook, xs_InvalidBook, ehd_InvalidBook, eca_InvalidBook, zcn, zct, emr_InvalidBook⟩, ik_InvalidPiece_InvalidBook⟩), (List.forall_mem_cons.mpr ⟨fun cls h => (by rw [PySem.W.mg_of X G xa_InvalidRule] at h; cases h; exact ⟨_, rfl, ⟨ega_InvalidRule, egt_InvalidRule, xs_InvalidRule, ehd_InvalidRule, eca_InvalidRule, zcn, zct, emr_InvalidRule⟩, ik_InvalidPiece_InvalidRule⟩), (fun _ h => nomatch h)⟩)⟩)⟩,
    ⟨_, PySem.W.mg_of X G xa_InvalidQuestion, (List.forall_mem_cons.mpr ⟨fun cls h => (by rw [PySem.W.mg_of X G xa_InvalidBook] at h; cases h; exact ⟨_, rfl, ⟨ega_InvalidBook, egt_InvalidBook, xs_InvalidBook, ehd_InvalidBook, eca_InvalidBook, zcn, zct, emr_InvalidBook⟩, ik_InvalidQuestion_InvalidBook⟩), (List.forall_mem_cons.mpr ⟨fun cls h => (by rw [PySem.W.mg_of X G xa_InvalidRule] at h; cases h; exact ⟨_, rfl, ⟨ega_InvalidRule, egt_InvalidRule, xs_InvalidRule, ehd_InvalidRule, eca_InvalidRule, zcn, zct, emr_InvalidRule⟩, ik_InvalidQuestion_InvalidRule⟩), (fun _ h => nomatch h)⟩)⟩)⟩,
    ⟨_, PySem.W.mg_of X G xa_InvalidRow, (List.forall_mem_cons.mpr ⟨fun cls h => (by rw [PySem.W.mg_of X G xa_InvalidBook] at h; cases h; exact ⟨_, rfl, ⟨ega_InvalidBook, egt_InvalidBook, xs_InvalidBook, ehd_InvalidBook, eca_InvalidBook, zcn, zct, emr_InvalidBook⟩, ik_InvalidRow_InvalidBook⟩), (List.forall_mem_cons.mpr ⟨fun cls h => (by rw [PySem.W.mg_of X G xa_InvalidRule] at h; cases h; exact ⟨_, rfl, ⟨ega_InvalidRule, egt_InvalidRule, xs_InvalidRule, ehd_InvalidRule, eca_InvalidRule, zcn, zct, emr_InvalidRule⟩, ik_InvalidRow_InvalidRule⟩), (fun _ h => nomatch h)⟩)⟩)⟩,
    ⟨_, PySem.W.mg_of X G xa_InvalidRule, (List.forall_mem_cons.mpr ⟨fun cls h => (by rw [PySem.W.mg_of X G xa_InvalidBook] at h; cases h; exact ⟨_, rfl, ⟨ega_InvalidBook, egt_InvalidBook, xs_InvalidBook, ehd_InvalidBook, eca_InvalidBook, zcn, zct, emr_InvalidBook⟩, ik_InvalidRule_InvalidBook⟩), (List.forall_mem_cons.mpr ⟨fun cls h => (by rw [PySem.W.mg_of X G xa_InvalidRule] at h; cases h; exact ⟨_, rfl, ⟨ega_InvalidRule, egt_InvalidRule, xs_InvalidRule, ehd_InvalidRule, eca_InvalidRule, zcn, zct, emr_InvalidRule⟩, ik_InvalidRule_InvalidRule⟩), (fun _ h => nomatch h)⟩)⟩)⟩,
    ⟨_, PySem.W.mg_of X G xa_TooMany, (List.forall_mem_cons.mpr ⟨fun cls h => (by rw [PySem.W.mg_of X G xa_InvalidBook] at h; cases h; exact ⟨_, rfl, ⟨ega_InvalidBook, egt_InvalidBook, xs_InvalidBook, ehd_InvalidBook, eca_InvalidBook, zcn, zct, emr_InvalidBook⟩, ik_TooMany_InvalidBook⟩), (List.forall_mem_cons.mpr ⟨fun cls h => (by rw [PySem.W.mg_of X G xa_InvalidRule] at h; cases h; exact ⟨_, rfl, ⟨ega_InvalidRule, egt_InvalidRule, xs_InvalidRule, ehd_InvalidRule, eca_InvalidRule, zcn, zct, emr_InvalidRule⟩, ik_TooMany_InvalidRule⟩), (fun _ h => nomatch h)⟩)⟩)⟩,
    ⟨_, PySem.W.mg_of X G xa_UnknownPiece, (List.forall_mem_cons.mpr ⟨fun cls h => (by rw [PySem.W.mg_of X G xa_InvalidBook] at h; cases h; exact ⟨_, rfl, ⟨ega_InvalidBook, egt_InvalidBook, xs_InvalidBook, ehd_InvalidBook, eca_InvalidBook, zcn, zct, emr_InvalidBook⟩, ik_UnknownPiece_InvalidBook⟩), (List.forall_mem_cons.mpr ⟨fun cls h => (by rw [PySem.W.mg_of X G xa_InvalidRule] at h; cases h; exact ⟨_, rfl, ⟨ega_InvalidRule, egt_InvalidRule, xs_InvalidRule, ehd_InvalidRule, eca_InvalidRule, zcn, zct, emr_InvalidRule⟩, ik_UnknownPiece_InvalidRule⟩), (fun _ h => nomatch h)⟩)⟩)⟩,
    ⟨_, PySem.W.mg_of X G xa_UnknownRule, (List.forall_mem_cons.mpr ⟨fun cls h => (by rw [PySem.W.mg_of X G xa_InvalidBook] at h; cases h; exact ⟨_, rfl, ⟨ega_InvalidBook, egt_InvalidBook, xs_InvalidBook, ehd_InvalidBook, eca_InvalidBook, zcn, zct, emr_InvalidBook⟩, ik_UnknownRule_InvalidBook⟩), (List.forall_mem_cons.mpr ⟨fun cls h => (by rw [PySem.W.mg_of X G xa_InvalidRule] at h; cases h; exact ⟨_, rfl, ⟨ega_InvalidRule, egt_InvalidRule, xs_InvalidRule, ehd_InvalidRule, eca_InvalidRule, zcn, zct, emr_InvalidRule⟩, ik_UnknownRule_InvalidRule⟩), (fun _ h => nomatch h)⟩)⟩)⟩,
    ⟨_, PySem.W.mg_of X G xa_UnlikeBooks, (List.forall_mem_cons.mpr ⟨fun cls h => (by rw [PySem.W.mg_of X G xa_InvalidBook] at h; cases h; exact ⟨_, rfl, ⟨ega_InvalidBook, egt_InvalidBook, xs_InvalidBook, ehd_InvalidBook, eca_InvalidBook, zcn, zct, emr_InvalidBook⟩, ik_UnlikeBooks_InvalidBook⟩), (List.forall_mem_cons.mpr ⟨fun cls h => (by rw [PySem.W.mg_of X G xa_InvalidRule] at h; cases h; exact ⟨_, rfl, ⟨ega_InvalidRule, egt_InvalidRule, xs_InvalidRule, ehd_InvalidRule, eca_InvalidRule, zcn, zct, emr_InvalidRule⟩, ik_UnlikeBooks_InvalidRule⟩), (fun _ h => nomatch h)⟩)⟩)⟩,
    ⟨PySem.W.mg_none_of X G in_ValueError, PyProof.Rows.Boot.«ValueError», (List.forall_mem_cons.mpr ⟨fun cls h => (by rw [PySem.W.mg_of X G xa_InvalidBook] at h; cases h; exact ⟨_, rfl, ⟨ega_InvalidBook, egt_InvalidBook, xs_InvalidBook, ehd_InvalidBook, eca_InvalidBook, zcn, zct, emr_InvalidBook⟩, ik_ValueError_InvalidBook⟩), (List.forall_mem_cons.mpr ⟨fun cls h => (by rw [PySem.W.mg_of X G xa_InvalidRule] at h; cases h; exact ⟨_, rfl, ⟨ega_InvalidRule, egt_InvalidRule, xs_InvalidRule, ehd_InvalidRule, eca_InvalidRule, zcn, zct, emr_InvalidRule⟩, ik_ValueError_InvalidRule⟩), (fun _ h => nomatch h)⟩)⟩)⟩,
    ⟨(List.forall_mem_cons.mpr ⟨fun cls h => (by rw [PySem.W.mg_of X G xa_InvalidBook] at h; cases h; exact ⟨_, rfl, L2.xfB_ok xg_InvalidBook, xn_InvalidBook_index⟩), (fun _ h => nomatch h)⟩)⟩,
    ⟨(fun _ h => nomatch h)⟩,
    ⟨(List.forall_mem_cons.mpr ⟨fun cls h => (by rw [PySem.W.mg_of X G xa_InvalidBook] at h; cases h; exact ⟨_, rfl, L2.xfB_ok xg_InvalidBook, xn_InvalidBook_part⟩), (List.forall_mem_cons.mpr ⟨fun cls h => (by rw [PySem.W.mg_of X G xa_InvalidRule] at h; cases h; exact ⟨_, rfl, L2.xfB_ok xg_InvalidRule, xn_InvalidRule_part⟩), (fun _ h => nomatch h)⟩)⟩)⟩,
    ⟨⟨_, g_Rule⟩, fun C h => (e_Rule C h) ▸ ⟨pg_Rule, ic_Rule, po_Rule, sa_Rule⟩, fun C i f h hf => (e_Rule C h) ▸ (match i, f, hf with | 0, _, hf => by cases hf; exact ⟨_, da_Rule_0, dg_Rule_0, dt_Rule_0, di_Rule_0, dy_Rule_0, by decide⟩ | _ + 1, _, hf => by simp at hf)⟩,
    ⟨⟨_, g_Book⟩, fun C h => (e_Book C h) ▸ ⟨pg_Book, ic_Book, po_Book, sa_Book⟩, fun C i f h hf => (e_Book C h) ▸ (match i, f, hf with | 0, _, hf => by cases hf; exact ⟨_, da_Book_0, dg_Book_0, dt_Book_0, di_Book_0, dy_Book_0, by decide⟩ | _ + 1, _, hf => by simp at hf)⟩,
    ⟨⟨_, g_Book⟩, fun C h => (e_Book C h) ▸ ⟨⟨pg_Book, ic_Book, po_Book, sa_Book⟩, ⟨ica_Book, icn_Book, ict_Book, icm_Book⟩, iki_Book⟩⟩,
    ⟨⟨_, g_Rule⟩, fun C h => (e_Rule C h) ▸ ⟨⟨pg_Rule, ic_Rule, po_Rule, sa_Rule⟩, ⟨ica_Rule, icn_Rule, ict_Rule, icm_Rule⟩, iki_Rule⟩⟩,
    ⟨fun C h => (e_Book C h) ▸ ⟨nk_Book, nf_Book⟩⟩,
    ⟨fun C h => (e_Rule C h) ▸ ⟨nk_Rule, nf_Rule⟩⟩,
    rfl,
    rfl,
    rfl⟩
  have F_InvalidRule_init := fun_mk (st := s_InvalidRule_init) l_InvalidRule_init c_InvalidRule_init k_InvalidRule_init
  have B_InvalidRule_init := F_InvalidRule_init.binds (ps := ["self", "part"]) fun _ _ _ _ _ _ us hl => match us, hl with | [_, _], _ => rfl
  have F_InvalidBook_init := fun_mk (st := s_InvalidBook_init) l_InvalidBook_init c_InvalidBook_init k_InvalidBook_init
  have B_InvalidBook_init := F_InvalidBook_init.binds (ps := ["self", "part", "index"]) fun _ _ _ _ _ _ us hl => match us, hl with | [_, _, _], _ => rfl
  have F_is_number := fun_mk (st := s_is_number) l_is_number c_is_number k_is_number
  have B_is_number := F_is_number.binds (ps := ["value", "smallest", "largest"]) fun _ _ _ _ _ _ us hl => match us, hl with | [_, _, _], _ => rfl
  have F_is_word := fun_mk (st := s_is_word) l_is_word c_is_word k_is_word
  have B_is_word := F_is_word.binds (ps := ["value"]) fun _ _ _ _ _ _ us hl => match us, hl with | [_], _ => rfl
  have F_ascend := fun_mk (st := s_ascend) l_ascend c_ascend k_ascend
  have B_ascend := F_ascend.binds (ps := ["values"]) fun _ _ _ _ _ _ us hl => match us, hl with | [_], _ => rfl
  have F_Rule_piece := fun_mk (st := s_Rule_piece) l_Rule_piece c_Rule_piece k_Rule_piece
  have B_Rule_piece := F_Rule_piece.binds (ps := ["self"]) fun _ _ _ _ _ _ us hl => match us, hl with | [_], _ => rfl
  have F_Rule_low := fun_mk (st := s_Rule_low) l_Rule_low c_Rule_low k_Rule_low
  have B_Rule_low := F_Rule_low.binds (ps := ["self"]) fun _ _ _ _ _ _ us hl => match us, hl with | [_], _ => rfl
  have F_Rule_high := fun_mk (st := s_Rule_high) l_Rule_high c_Rule_high k_Rule_high
  have B_Rule_high := F_Rule_high.binds (ps := ["self"]) fun _ _ _ _ _ _ us hl => match us, hl with | [_], _ => rfl
  have F_Rule_modulus := fun_mk (st := s_Rule_modulus) l_Rule_modulus c_Rule_modulus k_Rule_modulus
  have B_Rule_modulus := F_Rule_modulus.binds (ps := ["self"]) fun _ _ _ _ _ _ us hl => match us, hl with | [_], _ => rfl
  have F_Rule_rests := fun_mk (st := s_Rule_rests) l_Rule_rests c_Rule_rests k_Rule_rests
  have B_Rule_rests := F_Rule_rests.binds (ps := ["self"]) fun _ _ _ _ _ _ us hl => match us, hl with | [_], _ => rfl
  have F_Rule_kinds := fun_mk (st := s_Rule_kinds) l_Rule_kinds c_Rule_kinds k_Rule_kinds
  have B_Rule_kinds := F_Rule_kinds.binds (ps := ["self"]) fun _ _ _ _ _ _ us hl => match us, hl with | [_], _ => rfl
  have F_Rule_eq := fun_mk (st := s_Rule_eq) l_Rule_eq c_Rule_eq k_Rule_eq
  have B_Rule_eq := F_Rule_eq.binds (ps := ["self", "other"]) fun _ _ _ _ _ _ us hl => match us, hl with | [_, _], _ => rfl
  have F_Book_kinds := fun_mk (st := s_Book_kinds) l_Book_kinds c_Book_kinds k_Book_kinds
  have B_Book_kinds := F_Book_kinds.binds (ps := ["self"]) fun _ _ _ _ _ _ us hl => match us, hl with | [_], _ => rfl
  have F_Book_rules := fun_mk (st := s_Book_rules) l_Book_rules c_Book_rules k_Book_rules
  have B_Book_rules := F_Book_rules.binds (ps := ["self"]) fun _ _ _ _ _ _ us hl => match us, hl with | [_], _ => rfl
  have F_law_taken := fun_mk (st := s_law_taken) l_law_taken c_law_taken k_law_taken
  have B_law_taken := F_law_taken.binds (ps := ["_law_row", "_law_many"]) fun _ _ _ _ _ _ us hl => match us, hl with | [_, _], _ => rfl
  have F_are_kinds := fun_mk (st := s_are_kinds) l_are_kinds c_are_kinds k_are_kinds
  have B_are_kinds := F_are_kinds.binds (ps := ["kinds"]) fun _ _ _ _ _ _ us hl => match us, hl with | [_], _ => rfl
  have F_are_rests := fun_mk (st := s_are_rests) l_are_rests c_are_rests k_are_rests
  have B_are_rests := F_are_rests.binds (ps := ["modulus", "rests"]) fun _ _ _ _ _ _ us hl => match us, hl with | [_, _], _ => rfl
  have F_law_pick := fun_mk (st := s_law_pick) l_law_pick c_law_pick k_law_pick
  have B_law_pick := F_law_pick.binds (ps := ["_law_row", "_law_some_here"]) fun _ _ _ _ _ _ us hl => match us, hl with | [_, _], _ => rfl
  have F_law_kinds := fun_mk (st := s_law_kinds) l_law_kinds c_law_kinds k_law_kinds
  have B_law_kinds := F_law_kinds.binds (ps := ["_law_row"]) fun _ _ _ _ _ _ us hl => match us, hl with | [_], _ => rfl
  have F_Rule_init := fun_mk (st := s_Rule_init) l_Rule_init c_Rule_init k_Rule_init
  have B_Rule_init := F_Rule_init.binds (ps := ["self", "piece", "low", "high", "modulus", "rests", "kinds"]) fun _ _ _ _ _ _ us hl => match us, hl with | [_, _, _, _, _, _, _], _ => rfl
  have F_check_kinds := fun_mk (st := s_check_kinds) l_check_kinds c_check_kinds k_check_kinds
  have B_check_kinds := F_check_kinds.binds (ps := ["kinds"]) fun _ _ _ _ _ _ us hl => match us, hl with | [_], _ => rfl
  have F_Book_pieces := fun_mk (st := s_Book_pieces) l_Book_pieces c_Book_pieces k_Book_pieces
  have B_Book_pieces := F_Book_pieces.binds (ps := ["self"]) fun _ _ _ _ _ _ us hl => match us, hl with | [_], _ => rfl
  have F_Book_len := fun_mk (st := s_Book_len) l_Book_len c_Book_len k_Book_len
  have B_Book_len := F_Book_len.binds (ps := ["self"]) fun _ _ _ _ _ _ us hl => match us, hl with | [_], _ => rfl
  have F_law_some := fun_mk (st := s_law_some) l_law_some c_law_some k_law_some
  have B_law_some := F_law_some.binds (ps := ["_law_row", "_law_values"]) fun _ _ _ _ _ _ us hl => match us, hl with | [_, _], _ => rfl
  have F_Book_init := fun_mk (st := s_Book_init) l_Book_init c_Book_init k_Book_init
  have B_Book_init := F_Book_init.binds (ps := ["self", "kinds", "rules"]) fun _ _ _ _ _ _ us hl => match us, hl with | [_, _, _], _ => rfl
  have F_law_rule := fun_mk (st := s_law_rule) l_law_rule c_law_rule k_law_rule
  have B_law_rule := F_law_rule.binds (ps := ["_law_row", "_law_kinds_here", "_law_far"]) fun _ _ _ _ _ _ us hl => match us, hl with | [_, _, _], _ => rfl
  have F_Book_eq := fun_mk (st := s_Book_eq) l_Book_eq c_Book_eq k_Book_eq
  have B_Book_eq := F_Book_eq.binds (ps := ["self", "other"]) fun _ _ _ _ _ _ us hl => match us, hl with | [_, _], _ => rfl
  have F_law_book := fun_mk (st := s_law_book) l_law_book c_law_book k_law_book
  have B_law_book := F_law_book.binds (ps := ["_law_kinds_here", "_law_rules"]) fun _ _ _ _ _ _ us hl => match us, hl with | [_, _], _ => rfl
  have F_law_is_told := fun_mk (st := s_law_is_told) l_law_is_told c_law_is_told k_law_is_told
  have B_law_is_told := F_law_is_told.binds (ps := ["_law_kinds_here", "_law_rules"]) fun _ _ _ _ _ _ us hl => match us, hl with | [_, _], _ => rfl
  have F_law_raised := fun_mk (st := s_law_raised) l_law_raised c_law_raised k_law_raised
  have B_law_raised := F_law_raised.binds (ps := ["_law_work"]) fun _ _ _ _ _ _ us hl => match us, hl with | [_], _ => rfl
  have F_law := fun_mk (st := s_law) l_law c_law k_law
  have B_law := F_law.binds (ps := ["_law_script"]) fun _ _ _ _ _ _ us hl => match us, hl with | [_], _ => rfl
  refine law_endT [(cc_law, PP_law)] law_true (List.forall_mem_cons.mpr ⟨⟨_, (.head _), rfl⟩, (fun _ h => nomatch h)⟩) (List.forall_mem_cons.mpr ⟨em_law, (fun _ h => nomatch h)⟩) (List.forall_mem_cons.mpr ⟨nt_law, (fun _ h => nomatch h)⟩) (List.forall_mem_cons.mpr ⟨PySem.W.codeHd_of_K X hd_law, (fun _ h => nomatch h)⟩) ?_
  refine ⟨PySem.W.fnOf "law" "law" (defArgs s_law) (defBody s_law) (defScope s_law) .none kV_law dc_law pm_law an_law cd_law ct_law, fun s v => .of_eq rfl, fun base KB GB TB => ?_⟩
  have O_InvalidRule_init := ok_InvalidRule_init (P := l.prog) (w := w) (base := base) (C := E_InvalidRule) F_InvalidRule_init T
  have Xi_InvalidRule : ErrI l.prog w K mg base "InvalidRule" ["part"] := ⟨⟨E_InvalidRule, f_InvalidRule_init, _, PySem.W.mg_of X G xa_InvalidRule, VE.oex_of xo_InvalidRule xu_InvalidRule xs_InvalidRule xt_InvalidRule xk_InvalidRule, a_InvalidRule_init, beq_iff_eq.mp i_InvalidRule_init, (List.forall_mem_cons.mpr ⟨xn_InvalidRule_part, (fun _ h => nomatch h)⟩), by decide, O_InvalidRule_init, B_InvalidRule_init⟩⟩
  have O_InvalidBook_init := ok_InvalidBook_init (P := l.prog) (w := w) (base := base) (C := E_InvalidBook) F_InvalidBook_init T
  have Xi_InvalidBook : ErrI l.prog w K mg base "InvalidBook" ["part", "index"] := ⟨⟨E_InvalidBook, f_InvalidBook_init, _, PySem.W.mg_of X G xa_InvalidBook, VE.oex_of xo_InvalidBook xu_InvalidBook xs_InvalidBook xt_InvalidBook xk_InvalidBook, a_InvalidBook_init, beq_iff_eq.mp i_InvalidBook_init, (List.forall_mem_cons.mpr ⟨xn_InvalidBook_part, (List.forall_mem_cons.mpr ⟨xn_InvalidBook_index, (fun _ h => nomatch h)⟩)⟩), by decide, O_InvalidBook_init, B_InvalidBook_init⟩⟩
  have O_is_number := ok_is_number (P := l.prog) (w := w) (base := base) F_is_number T 
  have v_is_number : FnV l.prog w K mg base 1 "is_number" false 3 m_is_number := ⟨⟨f_is_number, _, _, O_is_number, PySem.W.mg_of X G a_is_number, k_is_number, B_is_number⟩⟩
  have O_is_word := ok_is_word (P := l.prog) (w := w) (base := base) F_is_word T 
  have v_is_word : FnV l.prog w K mg base 1 "is_word" false 1 m_is_word := ⟨⟨f_is_word, _, _, O_is_word, PySem.W.mg_of X G a_is_word, k_is_word, B_is_word⟩⟩
  have O_ascend := ok_ascend (P := l.prog) (w := w) (base := base) F_ascend T 
  have v_ascend : FnV l.prog w K mg base 1 "ascend" false 1 m_ascend := ⟨⟨f_ascend, _, _, O_ascend, PySem.W.mg_of X G a_ascend, k_ascend, B_ascend⟩⟩
  have O_Rule_piece := ok_Rule_piece (P := l.prog) (w := w) (base := base) F_Rule_piece T 
  have Pr_Rule_piece : PrV l.prog w K mg base 1 "Rule" "piece" m_Rule_piece := ⟨⟨C_Rule, p_Rule_piece, f_Rule_piece, _, _, g_Rule, ⟨pg_Rule, ic_Rule, po_Rule, sa_Rule⟩, ⟨a_Rule_piece, pg2_Rule_piece, pt_Rule_piece, ⟨_, pr_Rule_piece⟩⟩, O_Rule_piece, B_Rule_piece⟩⟩
  have O_Rule_low := ok_Rule_low (P := l.prog) (w := w) (base := base) F_Rule_low T 
  have Pr_Rule_low : PrV l.prog w K mg base 1 "Rule" "low" m_Rule_low := ⟨⟨C_Rule, p_Rule_low, f_Rule_low, _, _, g_Rule, ⟨pg_Rule, ic_Rule, po_Rule, sa_Rule⟩, ⟨a_Rule_low, pg2_Rule_low, pt_Rule_low, ⟨_, pr_Rule_low⟩⟩, O_Rule_low, B_Rule_low⟩⟩
  have O_Rule_high := ok_Rule_high (P := l.prog) (w := w) (base := base) F_Rule_high T 
  have Pr_Rule_high : PrV l.prog w K mg base 1 "Rule" "high" m_Rule_high := ⟨⟨C_Rule, p_Rule_high, f_Rule_high, _, _, g_Rule, ⟨pg_Rule, ic_Rule, po_Rule, sa_Rule⟩, ⟨a_Rule_high, pg2_Rule_high, pt_Rule_high, ⟨_, pr_Rule_high⟩⟩, O_Rule_high, B_Rule_high⟩⟩
  have O_Rule_modulus := ok_Rule_modulus (P := l.prog) (w := w) (base := base) F_Rule_modulus T 
  have Pr_Rule_modulus : PrV l.prog w K mg base 1 "Rule" "modulus" m_Rule_modulus := ⟨⟨C_Rule, p_Rule_modulus, f_Rule_modulus, _, _, g_Rule, ⟨pg_Rule, ic_Rule, po_Rule, sa_Rule⟩, ⟨a_Rule_modulus, pg2_Rule_modulus, pt_Rule_modulus, ⟨_, pr_Rule_modulus⟩⟩, O_Rule_modulus, B_Rule_modulus⟩⟩
  have O_Rule_rests := ok_Rule_rests (P := l.prog) (w := w) (base := base) F_Rule_rests T 
  have Pr_Rule_rests : PrV l.prog w K mg base 1 "Rule" "rests" m_Rule_rests := ⟨⟨C_Rule, p_Rule_rests, f_Rule_rests, _, _, g_Rule, ⟨pg_Rule, ic_Rule, po_Rule, sa_Rule⟩, ⟨a_Rule_rests, pg2_Rule_rests, pt_Rule_rests, ⟨_, pr_Rule_rests⟩⟩, O_Rule_rests, B_Rule_rests⟩⟩
  have O_Rule_kinds := ok_Rule_kinds (P := l.prog) (w := w) (base := base) F_Rule_kinds T 
  have Pr_Rule_kinds : PrV l.prog w K mg base 1 "Rule" "kinds" m_Rule_kinds := ⟨⟨C_Rule, p_Rule_kinds, f_Rule_kinds, _, _, g_Rule, ⟨pg_Rule, ic_Rule, po_Rule, sa_Rule⟩, ⟨a_Rule_kinds, pg2_Rule_kinds, pt_Rule_kinds, ⟨_, pr_Rule_kinds⟩⟩, O_Rule_kinds, B_Rule_kinds⟩⟩
  have O_Rule_eq := ok_Rule_eq (P := l.prog) (w := w) (base := base) F_Rule_eq T 
  have Eq_Rule : EqV l.prog w K mg base 1 "Rule" m_Rule_eq := ⟨⟨C_Rule, f_Rule_eq, _, _, g_Rule, a_Rule_eq, i_Rule_eq, ene_Rule, eso_Rule, O_Rule_eq, B_Rule_eq⟩⟩
  have O_Book_kinds := ok_Book_kinds (P := l.prog) (w := w) (base := base) F_Book_kinds T 
  have Pr_Book_kinds : PrV l.prog w K mg base 1 "Book" "kinds" m_Book_kinds := ⟨⟨C_Book, p_Book_kinds, f_Book_kinds, _, _, g_Book, ⟨pg_Book, ic_Book, po_Book, sa_Book⟩, ⟨a_Book_kinds, pg2_Book_kinds, pt_Book_kinds, ⟨_, pr_Book_kinds⟩⟩, O_Book_kinds, B_Book_kinds⟩⟩
  have O_Book_rules := ok_Book_rules (P := l.prog) (w := w) (base := base) F_Book_rules T 
  have Pr_Book_rules : PrV l.prog w K mg base 1 "Book" "rules" m_Book_rules := ⟨⟨C_Book, p_Book_rules, f_Book_rules, _, _, g_Book, ⟨pg_Book, ic_Book, po_Book, sa_Book⟩, ⟨a_Book_rules, pg2_Book_rules, pt_Book_rules, ⟨_, pr_Book_rules⟩⟩, O_Book_rules, B_Book_rules⟩⟩
  have O_law_taken := ok_law_taken (P := l.prog) (w := w) (base := base) F_law_taken T 
  have v_law_taken : FnV l.prog w K mg base 1 "_law_taken" false 2 m_law_taken := ⟨⟨f_law_taken, _, _, O_law_taken, PySem.W.mg_of X G a_law_taken, k_law_taken, B_law_taken⟩⟩
  have O_are_kinds := ok_are_kinds (P := l.prog) (w := w) (base := base) F_are_kinds T v_ascend v_is_word
  have v_are_kinds : FnV l.prog w K mg base 2 "are_kinds" false 1 m_are_kinds := ⟨⟨f_are_kinds, _, _, O_are_kinds, PySem.W.mg_of X G a_are_kinds, k_are_kinds, B_are_kinds⟩⟩
  have O_are_rests := ok_are_rests (P := l.prog) (w := w) (base := base) F_are_rests T v_ascend v_is_number
  have v_are_rests : FnV l.prog w K mg base 2 "are_rests" false 2 m_are_rests := ⟨⟨f_are_rests, _, _, O_are_rests, PySem.W.mg_of X G a_are_rests, k_are_rests, B_are_rests⟩⟩
  have O_law_pick := ok_law_pick (P := l.prog) (w := w) (base := base) F_law_pick T v_law_taken
  have v_law_pick : FnV l.prog w K mg base 2 "_law_pick" false 2 m_law_pick := ⟨⟨f_law_pick, _, _, O_law_pick, PySem.W.mg_of X G a_law_pick, k_law_pick, B_law_pick⟩⟩
  have O_law_kinds := ok_law_kinds (P := l.prog) (w := w) (base := base) F_law_kinds T v_law_taken
  have v_law_kinds : FnV l.prog w K mg base 2 "_law_kinds" false 1 m_law_kinds := ⟨⟨f_law_kinds, _, _, O_law_kinds, PySem.W.mg_of X G a_law_kinds, k_law_kinds, B_law_kinds⟩⟩
  have O_Rule_init := ok_Rule_init (P := l.prog) (w := w) (base := base) F_Rule_init T v_are_kinds v_are_rests v_is_number v_is_word Xi_InvalidRule
  have Mk_Rule : MkV l.prog w K mg base 3 "Rule" 7 m_Rule_init := ⟨⟨C_Rule, f_Rule_init, _, _, g_Rule, ⟨mk_Rule, a_Rule_init, i_Rule_init, kc_Rule⟩, O_Rule_init, B_Rule_init⟩⟩
  have O_check_kinds := ok_check_kinds (P := l.prog) (w := w) (base := base) F_check_kinds T v_is_word Xi_InvalidBook
  have v_check_kinds : FnV l.prog w K mg base 3 "check_kinds" false 1 m_check_kinds := ⟨⟨f_check_kinds, _, _, O_check_kinds, PySem.W.mg_of X G a_check_kinds, k_check_kinds, B_check_kinds⟩⟩
  have O_Book_pieces := ok_Book_pieces (P := l.prog) (w := w) (base := base) F_Book_pieces T Pr_Book_rules Pr_Rule_piece
  have Pr_Book_pieces : PrV l.prog w K mg base 3 "Book" "pieces" m_Book_pieces := ⟨⟨C_Book, p_Book_pieces, f_Book_pieces, _, _, g_Book, ⟨pg_Book, ic_Book, po_Book, sa_Book⟩, ⟨a_Book_pieces, pg2_Book_pieces, pt_Book_pieces, ⟨_, pr_Book_pieces⟩⟩, O_Book_pieces, B_Book_pieces⟩⟩
  have O_Book_len := ok_Book_len (P := l.prog) (w := w) (base := base) F_Book_len T Pr_Book_rules
  have Ln_Book : LenV l.prog w K mg base 3 "Book" m_Book_len := ⟨⟨C_Book, f_Book_len, _, _, g_Book, a_Book_len, i_Book_len, O_Book_len, B_Book_len⟩⟩
  have O_law_some := ok_law_some (P := l.prog) (w := w) (base := base) F_law_some T v_law_pick v_law_taken
  have v_law_some : FnV l.prog w K mg base 3 "_law_some" false 2 m_law_some := ⟨⟨f_law_some, _, _, O_law_some, PySem.W.mg_of X G a_law_some, k_law_some, B_law_some⟩⟩
  have O_Book_init := ok_Book_init (P := l.prog) (w := w) (base := base) F_Book_init T v_check_kinds Pr_Rule_kinds Xi_InvalidBook
  have Mk_Book : MkV l.prog w K mg base 4 "Book" 3 m_Book_init := ⟨⟨C_Book, f_Book_init, _, _, g_Book, ⟨mk_Book, a_Book_init, i_Book_init, kc_Book⟩, O_Book_init, B_Book_init⟩⟩
  have O_law_rule := ok_law_rule (P := l.prog) (w := w) (base := base) F_law_rule T v_law_pick v_law_some v_law_taken
  have v_law_rule : FnV l.prog w K mg base 4 "_law_rule" false 3 m_law_rule := ⟨⟨f_law_rule, _, _, O_law_rule, PySem.W.mg_of X G a_law_rule, k_law_rule, B_law_rule⟩⟩
  have O_Book_eq := ok_Book_eq (P := l.prog) (w := w) (base := base) F_Book_eq T Eq_Rule Pr_Book_kinds Pr_Book_rules
  have Eq_Book : EqV l.prog w K mg base 5 "Book" m_Book_eq := ⟨⟨C_Book, f_Book_eq, _, _, g_Book, a_Book_eq, i_Book_eq, ene_Book, eso_Book, O_Book_eq, B_Book_eq⟩⟩
  have l_0 := ok_lam_law_0 (P := l.prog) (w := w) (base := base) T Mk_Rule
  have O_law_book := ok_law_book (P := l.prog) (w := w) (base := base) F_law_book T Mk_Book Mk_Rule
  have v_law_book : FnV l.prog w K mg base 6 "_law_book" false 2 m_law_book := ⟨⟨f_law_book, _, _, O_law_book, PySem.W.mg_of X G a_law_book, k_law_book, B_law_book⟩⟩
  have O_law_is_told := ok_law_is_told (P := l.prog) (w := w) (base := base) F_law_is_told T Eq_Book Eq_Rule v_law_book Ln_Book Pr_Book_kinds Pr_Book_pieces Pr_Book_rules Pr_Rule_high Pr_Rule_kinds Pr_Rule_low Pr_Rule_modulus Pr_Rule_piece Pr_Rule_rests
  have v_law_is_told : FnV l.prog w K mg base 7 "_law_is_told" false 2 m_law_is_told := ⟨⟨f_law_is_told, _, _, O_law_is_told, PySem.W.mg_of X G a_law_is_told, k_law_is_told, B_law_is_told⟩⟩
  have l_1 := ok_lam_law_1 (P := l.prog) (w := w) (base := base) T v_law_book
  have l_2 := ok_lam_law_2 (P := l.prog) (w := w) (base := base) T v_law_book
  have gs_law_raised := gs_law_raised (P := l.prog) (w := w) (base := base) T l_0 l_1 l_2
  have O_law_raised := ok_law_raised (P := l.prog) (w := w) (base := base) F_law_raised T  gs_law_raised
  have v_law_raised : FnG l.prog w K mg base 8 "_law_raised" false 1 m_law_raised := ⟨⟨f_law_raised, _, _, O_law_raised, PySem.W.mg_of X G a_law_raised, k_law_raised, B_law_raised⟩⟩
  have hT_law : TabV base mg cd_law (("law" : Str) ++ ".<locals>." ++ "<lambda>") := ⟨cc_law, PP_law, ec_law, TB _ (.head _), (.head _), uniq_of nodup (.head _)⟩
  have O_law := ok_law (P := l.prog) (w := w) (base := base) F_law T hT_law v_law_is_told v_law_kinds v_law_pick v_law_raised v_law_rule v_law_taken
  exact O_law
theorem head_mk {w : World} {K : PySem.W.Frag} {h : Heap} {mg : Str → Option Value} {fa : Addr} (X : K.In h) (G : h.Ns mainGlobals mg) (hfa : mg "law" = some (.ref fa)) (c : hdD.Says w K h) : LamX.LawAtS PySem.Challenge.rw_ruledpieces_k01_rules_and_books_validate w K (L2.CX PySem.Challenge.rw_ruledpieces_k01_rules_and_books_validate.prog w) 9 63 "_law_script" mg fa h := by
  have cc0 : ((chk0 K).all id && ((chk1 K).all id && ((chk2 K).all id && ((chk3 K).all id && ((chk4 K).all id && ((chk5 K).all id && ((chk6 K).all id && ((chk7 K).all id && ((chk8 K).all id))))))))) = true := c.chk
  obtain ⟨c0, cc1⟩ := Bool.and_eq_true_iff.mp cc0
  obtain ⟨c1, cc2⟩ := Bool.and_eq_true_iff.mp cc1
  obtain ⟨c2, cc3⟩ := Bool.and_eq_true_iff.mp cc2
  obtain ⟨c3, cc4⟩ := Bool.and_eq_true_iff.mp cc3
  obtain ⟨c4, cc5⟩ := Bool.and_eq_true_iff.mp cc4
  obtain ⟨c5, cc6⟩ := Bool.and_eq_true_iff.mp cc5
  obtain ⟨c6, cc7⟩ := Bool.and_eq_true_iff.mp cc6
  obtain ⟨c7, cc8⟩ := Bool.and_eq_true_iff.mp cc7
  have c8 := cc8
  have aC_Rule : PySem.W.nsIn K mainGlobals "Rule" = some (some (.ref (He.ga K "Rule"))) := VE.pickD c0 0 rfl
  have pg_Rule : PySem.W.plainGet K (He.ga K "Rule") Str.empty = true := VE.pickD c0 1 rfl
  have ic_Rule : PySem.W.isClsIn K (He.ga K "Rule") = true := VE.pickD c0 2 rfl
  have po_Rule : PySem.W.plainOver K (He.ga K "Rule") = true := VE.pickD c0 3 rfl
  have sa_Rule : PySem.W.findIn K (.ref (He.ga K "Rule")) "__setattr__" = some (some (.builtin "object.__setattr__")) := VE.pickD c0 4 rfl
  have mk_Rule : PySem.W.makesIn K (He.ga K "Rule") = true := VE.pickD c0 5 rfl
  have kc_Rule : PySem.W.keepIn K (.ref (He.ga K "Rule")) = true := VE.pickD c0 6 rfl
  have da_Rule_0 : PySem.W.findIn K (.ref (He.ga K "Rule")) "parts" = some (some (.ref (He.ma K (He.ga K "Rule") "parts"))) := VE.pickD c0 7 rfl
  have dg_Rule_0 : PySem.W.specialIn K (.ref (He.ma K (He.ga K "Rule") "parts")) "__get__" = some (some (.builtin "member_descriptor.__get__")) := VE.pickD c0 8 rfl
  have dt_Rule_0 : PySem.W.takesIn K (.ref (He.ma K (He.ga K "Rule") "parts")) = some true := VE.pickD c0 9 rfl
  have di_Rule_0 : PySem.W.slotIn K (He.ma K (He.ga K "Rule") "parts") (He.ga K "Rule") = some 0 := VE.pickD c0 10 rfl
  have dy_Rule_0 : PySem.W.typeIn K (.ref (He.ma K (He.ga K "Rule") "parts")) = some (.type "member_descriptor") := VE.pickD c0 11 rfl
  have aC_Book : PySem.W.nsIn K mainGlobals "Book" = some (some (.ref (He.ga K "Book"))) := VE.pickD c0 12 rfl
  have pg_Book : PySem.W.plainGet K (He.ga K "Book") Str.empty = true := VE.pickD c0 13 rfl
  have ic_Book : PySem.W.isClsIn K (He.ga K "Book") = true := VE.pickD c0 14 rfl
  have po_Book : PySem.W.plainOver K (He.ga K "Book") = true := VE.pickD c0 15 rfl
  have sa_Book : PySem.W.findIn K (.ref (He.ga K "Book")) "__setattr__" = some (some (.builtin "object.__setattr__")) := VE.pickD c0 16 rfl
  have mk_Book : PySem.W.makesIn K (He.ga K "Book") = true := VE.pickD c0 17 rfl
  have kc_Book : PySem.W.keepIn K (.ref (He.ga K "Book")) = true := VE.pickD c0 18 rfl
  have da_Book_0 : PySem.W.findIn K (.ref (He.ga K "Book")) "lists" = some (some (.ref (He.ma K (He.ga K "Book") "lists"))) := VE.pickD c0 19 rfl
  have dg_Book_0 : PySem.W.specialIn K (.ref (He.ma K (He.ga K "Book") "lists")) "__get__" = some (some (.builtin "member_descriptor.__get__")) := VE.pickD c0 20 rfl
  have dt_Book_0 : PySem.W.takesIn K (.ref (He.ma K (He.ga K "Book") "lists")) = some true := VE.pickD c0 21 rfl
  have di_Book_0 : PySem.W.slotIn K (He.ma K (He.ga K "Book") "lists") (He.ga K "Book") = some 0 := VE.pickD c0 22 rfl
  have dy_Book_0 : PySem.W.typeIn K (.ref (He.ma K (He.ga K "Book") "lists")) = some (.type "member_descriptor") := VE.pickD c0 23 rfl
  have ica_Book : PySem.W.findIn K (.ref (He.ga K "Book")) "__class__" = some (some (.builtin "object.__class__")) := VE.pickD c0 24 rfl
  have icn_Book : PySem.W.specialIn K (.builtin "object.__class__") "__get__" = some (some (.builtin "getset_descriptor.__get__")) := VE.pickD c0 25 rfl
  have ict_Book : PySem.W.takesIn K (.builtin "object.__class__") = some true := VE.pickD c0 26 rfl
  have icm_Book : PySem.W.mroIn K (He.ga K "Book") (.type "object") = some true := VE.pickD c0 27 rfl
  have iki_Book : PySem.W.kitOne K (.ref (He.ga K "Book")) (.ref (He.ga K "Book")) = some true := VE.pickD c0 28 rfl
  have ica_Rule : PySem.W.findIn K (.ref (He.ga K "Rule")) "__class__" = some (some (.builtin "object.__class__")) := VE.pickD c0 29 rfl
  have icn_Rule : PySem.W.specialIn K (.builtin "object.__class__") "__get__" = some (some (.builtin "getset_descriptor.__get__")) := VE.pickD c1 0 rfl
  have ict_Rule : PySem.W.takesIn K (.builtin "object.__class__") = some true := VE.pickD c1 1 rfl
  have icm_Rule : PySem.W.mroIn K (He.ga K "Rule") (.type "object") = some true := VE.pickD c1 2 rfl
  have iki_Rule : PySem.W.kitOne K (.ref (He.ga K "Rule")) (.ref (He.ga K "Rule")) = some true := VE.pickD c1 3 rfl
  have nk_Book : PySem.W.kitOne K (.type "tuple") (.ref (He.ga K "Book")) = some false := VE.pickD c1 4 rfl
  have nf_Book : PySem.W.notFirst K (He.ga K "Book") (.type "tuple") = true := VE.pickD c1 5 rfl
  have nk_Rule : PySem.W.kitOne K (.type "tuple") (.ref (He.ga K "Rule")) = some false := VE.pickD c1 6 rfl
  have nf_Rule : PySem.W.notFirst K (He.ga K "Rule") (.type "tuple") = true := VE.pickD c1 7 rfl
  have ene_Book : PySem.W.findIn K (.ref (He.ga K "Book")) "__ne__" = some (some (.builtin "object.__ne__")) := VE.pickD c1 8 rfl
  have eso_Book : PySem.W.subIn K (.ref (He.ga K "Book")) (.type "object") = some true := VE.pickD c1 9 rfl
  have ene_Rule : PySem.W.findIn K (.ref (He.ga K "Rule")) "__ne__" = some (some (.builtin "object.__ne__")) := VE.pickD c1 10 rfl
  have eso_Rule : PySem.W.subIn K (.ref (He.ga K "Rule")) (.type "object") = some true := VE.pickD c1 11 rfl
  have xa_InvalidRule : PySem.W.nsIn K mainGlobals "InvalidRule" = some (some (.ref (He.ga K "InvalidRule"))) := VE.pickD c1 12 rfl
  have a_InvalidRule_init : PySem.W.findIn K (.ref (He.ga K "InvalidRule")) "__init__" = some (some (.ref (He.ma K (He.ga K "InvalidRule") "__init__"))) := VE.pickD c1 13 rfl
  have i_InvalidRule_init : PySem.W.isFn K (.ref (He.ma K (He.ga K "InvalidRule") "__init__")) = true := VE.pickD c1 14 rfl
  obtain ⟨_, _, _, _, _, _, _, _, _, l_InvalidRule_init, c_InvalidRule_init⟩ := VE.fnAt_ok (Option.some.inj (show (some (VE.fnAt K (He.ma K (He.ga K "InvalidRule") "__init__")) : Option VE.FnVw) = some (VE.fnW "__init__" "InvalidRule.__init__" s_InvalidRule_init) from congrArg (fun l : List VE.FnVw => l[0]?) (c.fns : hdD.fns K = hdD.fnv))) (VE.pickB c1 15 rfl)
  have k_InvalidRule_init : PySem.W.keepIn K (.ref (He.ma K (He.ga K "InvalidRule") "__init__")) = true := VE.pickD c1 16 rfl
  have xa_InvalidBook : PySem.W.nsIn K mainGlobals "InvalidBook" = some (some (.ref (He.ga K "InvalidBook"))) := VE.pickD c1 17 rfl
  have a_InvalidBook_init : PySem.W.findIn K (.ref (He.ga K "InvalidBook")) "__init__" = some (some (.ref (He.ma K (He.ga K "InvalidBook") "__init__"))) := VE.pickD c1 18 rfl
  have i_InvalidBook_init : PySem.W.isFn K (.ref (He.ma K (He.ga K "InvalidBook") "__init__")) = true := VE.pickD c1 19 rfl
  obtain ⟨_, _, _, _, _, _, _, _, _, l_InvalidBook_init, c_InvalidBook_init⟩ := VE.fnAt_ok (Option.some.inj (show (some (VE.fnAt K (He.ma K (He.ga K "InvalidBook") "__init__")) : Option VE.FnVw) = some (VE.fnW "__init__" "InvalidBook.__init__" s_InvalidBook_init) from congrArg (fun l : List VE.FnVw => l[1]?) (c.fns : hdD.fns K = hdD.fnv))) (VE.pickB c1 20 rfl)
  have k_InvalidBook_init : PySem.W.keepIn K (.ref (He.ma K (He.ga K "InvalidBook") "__init__")) = true := VE.pickD c1 21 rfl
  have a_is_number : PySem.W.nsIn K mainGlobals "is_number" = some (some (.ref (He.ga K "is_number"))) := VE.pickD c1 22 rfl
  obtain ⟨_, _, _, _, _, _, _, _, _, l_is_number, c_is_number⟩ := VE.fnAt_ok (Option.some.inj (show (some (VE.fnAt K (He.ga K "is_number")) : Option VE.FnVw) = some (VE.fnW "is_number" "is_number" s_is_number) from congrArg (fun l : List VE.FnVw => l[2]?) (c.fns : hdD.fns K = hdD.fnv))) (VE.pickB c1 23 rfl)
  have k_is_number : PySem.W.keepIn K (.ref (He.ga K "is_number")) = true := VE.pickD c1 24 rfl
  have a_is_word : PySem.W.nsIn K mainGlobals "is_word" = some (some (.ref (He.ga K "is_word"))) := VE.pickD c1 25 rfl
  obtain ⟨_, _, _, _, _, _, _, _, _, l_is_word, c_is_word⟩ := VE.fnAt_ok (Option.some.inj (show (some (VE.fnAt K (He.ga K "is_word")) : Option VE.FnVw) = some (VE.fnW "is_word" "is_word" s_is_word) from congrArg (fun l : List VE.FnVw => l[3]?) (c.fns : hdD.fns K = hdD.fnv))) (VE.pickB c1 26 rfl)
  have k_is_word : PySem.W.keepIn K (.ref (He.ga K "is_word")) = true := VE.pickD c1 27 rfl
  have a_ascend : PySem.W.nsIn K mainGlobals "ascend" = some (some (.ref (He.ga K "ascend"))) := VE.pickD c1 28 rfl
  obtain ⟨_, _, _, _, _, _, _, _, _, l_ascend, c_ascend⟩ := VE.fnAt_ok (Option.some.inj (show (some (VE.fnAt K (He.ga K "ascend")) : Option VE.FnVw) = some (VE.fnW "ascend" "ascend" s_ascend) from congrArg (fun l : List VE.FnVw => l[4]?) (c.fns : hdD.fns K = hdD.fnv))) (VE.pickB c1 29 rfl)
  have k_ascend : PySem.W.keepIn K (.ref (He.ga K "ascend")) = true := VE.pickD c2 0 rfl
  have a_Rule_piece : PySem.W.findIn K (.ref (He.ga K "Rule")) "piece" = some (some (.ref (He.ma K (He.ga K "Rule") "piece"))) := VE.pickD c2 1 rfl
  have pg2_Rule_piece : PySem.W.specialIn K (.ref (He.ma K (He.ga K "Rule") "piece")) "__get__" = some (some (.builtin "property.__get__")) := VE.pickD c2 2 rfl
  have pt_Rule_piece : PySem.W.takesIn K (.ref (He.ma K (He.ga K "Rule") "piece")) = some true := VE.pickD c2 3 rfl
  obtain ⟨_, pr_Rule_piece⟩ := VE.isFR_ok (VE.pickB c2 4 rfl)
  obtain ⟨_, _, _, _, _, _, _, _, _, l_Rule_piece, c_Rule_piece⟩ := VE.fnAt_ok (Option.some.inj (show (some (VE.fnAt K (VE.prF K (He.ma K (He.ga K "Rule") "piece"))) : Option VE.FnVw) = some (VE.fnW "piece" "Rule.piece" s_Rule_piece) from congrArg (fun l : List VE.FnVw => l[5]?) (c.fns : hdD.fns K = hdD.fnv))) (VE.pickB c2 5 rfl)
  have k_Rule_piece : PySem.W.keepIn K (.ref (VE.prF K (He.ma K (He.ga K "Rule") "piece"))) = true := VE.pickD c2 6 rfl
  have a_Rule_low : PySem.W.findIn K (.ref (He.ga K "Rule")) "low" = some (some (.ref (He.ma K (He.ga K "Rule") "low"))) := VE.pickD c2 7 rfl
  have pg2_Rule_low : PySem.W.specialIn K (.ref (He.ma K (He.ga K "Rule") "low")) "__get__" = some (some (.builtin "property.__get__")) := VE.pickD c2 8 rfl
  have pt_Rule_low : PySem.W.takesIn K (.ref (He.ma K (He.ga K "Rule") "low")) = some true := VE.pickD c2 9 rfl
  obtain ⟨_, pr_Rule_low⟩ := VE.isFR_ok (VE.pickB c2 10 rfl)
  obtain ⟨_, _, _, _, _, _, _, _, _, l_Rule_low, c_Rule_low⟩ := VE.fnAt_ok (Option.some.inj (show (some (VE.fnAt K (VE.prF K (He.ma K (He.ga K "Rule") "low"))) : Option VE.FnVw) = some (VE.fnW "low" "Rule.low" s_Rule_low) from congrArg (fun l : List VE.FnVw => l[6]?) (c.fns : hdD.fns K = hdD.fnv))) (VE.pickB c2 11 rfl)
  have k_Rule_low : PySem.W.keepIn K (.ref (VE.prF K (He.ma K (He.ga K "Rule") "low"))) = true := VE.pickD c2 12 rfl
  have a_Rule_high : PySem.W.findIn K (.ref (He.ga K "Rule")) "high" = some (some (.ref (He.ma K (He.ga K "Rule") "high"))) := VE.pickD c2 13 rfl
  have pg2_Rule_high : PySem.W.specialIn K (.ref (He.ma K (He.ga K "Rule") "high")) "__get__" = some (some (.builtin "property.__get__")) := VE.pickD c2 14 rfl
  have pt_Rule_high : PySem.W.takesIn K (.ref (He.ma K (He.ga K "Rule") "high")) = some true := VE.pickD c2 15 rfl
  obtain ⟨_, pr_Rule_high⟩ := VE.isFR_ok (VE.pickB c2 16 rfl)
  obtain ⟨_, _, _, _, _, _, _, _, _, l_Rule_high, c_Rule_high⟩ := VE.fnAt_ok (Option.some.inj (show (some (VE.fnAt K (VE.prF K (He.ma K (He.ga K "Rule") "high"))) : Option VE.FnVw) = some (VE.fnW "high" "Rule.high" s_Rule_high) from congrArg (fun l : List VE.FnVw => l[7]?) (c.fns : hdD.fns K = hdD.fnv))) (VE.pickB c2 17 rfl)
  have k_Rule_high : PySem.W.keepIn K (.ref (VE.prF K (He.ma K (He.ga K "Rule") "high"))) = true := VE.pickD c2 18 rfl
  have a_Rule_modulus : PySem.W.findIn K (.ref (He.ga K "Rule")) "modulus" = some (some (.ref (He.ma K (He.ga K "Rule") "modulus"))) := VE.pickD c2 19 rfl
  have pg2_Rule_modulus : PySem.W.specialIn K (.ref (He.ma K (He.ga K "Rule") "modulus")) "__get__" = some (some (.builtin "property.__get__")) := VE.pickD c2 20 rfl
  have pt_Rule_modulus : PySem.W.takesIn K (.ref (He.ma K (He.ga K "Rule") "modulus")) = some true := VE.pickD c2 21 rfl
  obtain ⟨_, pr_Rule_modulus⟩ := VE.isFR_ok (VE.pickB c2 22 rfl)
  obtain ⟨_, _, _, _, _, _, _, _, _, l_Rule_modulus, c_Rule_modulus⟩ := VE.fnAt_ok (Option.some.inj (show (some (VE.fnAt K (VE.prF K (He.ma K (He.ga K "Rule") "modulus"))) : Option VE.FnVw) = some (VE.fnW "modulus" "Rule.modulus" s_Rule_modulus) from congrArg (fun l : List VE.FnVw => l[8]?) (c.fns : hdD.fns K = hdD.fnv))) (VE.pickB c2 23 rfl)
  have k_Rule_modulus : PySem.W.keepIn K (.ref (VE.prF K (He.ma K (He.ga K "Rule") "modulus"))) = true := VE.pickD c2 24 rfl
  have a_Rule_rests : PySem.W.findIn K (.ref (He.ga K "Rule")) "rests" = some (some (.ref (He.ma K (He.ga K "Rule") "rests"))) := VE.pickD c2 25 rfl
  have pg2_Rule_rests : PySem.W.specialIn K (.ref (He.ma K (He.ga K "Rule") "rests")) "__get__" = some (some (.builtin "property.__get__")) := VE.pickD c2 26 rfl
  have pt_Rule_rests : PySem.W.takesIn K (.ref (He.ma K (He.ga K "Rule") "rests")) = some true := VE.pickD c2 27 rfl
  obtain ⟨_, pr_Rule_rests⟩ := VE.isFR_ok (VE.pickB c2 28 rfl)
  obtain ⟨_, _, _, _, _, _, _, _, _, l_Rule_rests, c_Rule_rests⟩ := VE.fnAt_ok (Option.some.inj (show (some (VE.fnAt K (VE.prF K (He.ma K (He.ga K "Rule") "rests"))) : Option VE.FnVw) = some (VE.fnW "rests" "Rule.rests" s_Rule_rests) from congrArg (fun l : List VE.FnVw => l[9]?) (c.fns : hdD.fns K = hdD.fnv))) (VE.pickB c2 29 rfl)
  have k_Rule_rests : PySem.W.keepIn K (.ref (VE.prF K (He.ma K (He.ga K "Rule") "rests"))) = true := VE.pickD c3 0 rfl
  have a_Rule_kinds : PySem.W.findIn K (.ref (He.ga K "Rule")) "kinds" = some (some (.ref (He.ma K (He.ga K "Rule") "kinds"))) := VE.pickD c3 1 rfl
  have pg2_Rule_kinds : PySem.W.specialIn K (.ref (He.ma K (He.ga K "Rule") "kinds")) "__get__" = some (some (.builtin "property.__get__")) := VE.pickD c3 2 rfl
  have pt_Rule_kinds : PySem.W.takesIn K (.ref (He.ma K (He.ga K "Rule") "kinds")) = some true := VE.pickD c3 3 rfl
  obtain ⟨_, pr_Rule_kinds⟩ := VE.isFR_ok (VE.pickB c3 4 rfl)
  obtain ⟨_, _, _, _, _, _, _, _, _, l_Rule_kinds, c_Rule_kinds⟩ := VE.fnAt_ok (Option.some.inj (show (some (VE.fnAt K (VE.prF K (He.ma K (He.ga K "Rule") "kinds"))) : Option VE.FnVw) = some (VE.fnW "kinds" "Rule.kinds" s_Rule_kinds) from congrArg (fun l : List VE.FnVw => l[10]?) (c.fns : hdD.fns K = hdD.fnv))) (VE.pickB c3 5 rfl)
  have k_Rule_kinds : PySem.W.keepIn K (.ref (VE.prF K (He.ma K (He.ga K "Rule") "kinds"))) = true := VE.pickD c3 6 rfl
  have a_Rule_eq : PySem.W.findIn K (.ref (He.ga K "Rule")) "__eq__" = some (some (.ref (He.ma K (He.ga K "Rule") "__eq__"))) := VE.pickD c3 7 rfl
  have i_Rule_eq : PySem.W.isFn K (.ref (He.ma K (He.ga K "Rule") "__eq__")) = true := VE.pickD c3 8 rfl
  obtain ⟨_, _, _, _, _, _, _, _, _, l_Rule_eq, c_Rule_eq⟩ := VE.fnAt_ok (Option.some.inj (show (some (VE.fnAt K (He.ma K (He.ga K "Rule") "__eq__")) : Option VE.FnVw) = some (VE.fnW "__eq__" "Rule.__eq__" s_Rule_eq) from congrArg (fun l : List VE.FnVw => l[11]?) (c.fns : hdD.fns K = hdD.fnv))) (VE.pickB c3 9 rfl)
  have k_Rule_eq : PySem.W.keepIn K (.ref (He.ma K (He.ga K "Rule") "__eq__")) = true := VE.pickD c3 10 rfl
  have a_Book_kinds : PySem.W.findIn K (.ref (He.ga K "Book")) "kinds" = some (some (.ref (He.ma K (He.ga K "Book") "kinds"))) := VE.pickD c3 11 rfl
  have pg2_Book_kinds : PySem.W.specialIn K (.ref (He.ma K (He.ga K "Book") "kinds")) "__get__" = some (some (.builtin "property.__get__")) := VE.pickD c3 12 rfl
  have pt_Book_kinds : PySem.W.takesIn K (.ref (He.ma K (He.ga K "Book") "kinds")) = some true := VE.pickD c3 13 rfl
  obtain ⟨_, pr_Book_kinds⟩ := VE.isFR_ok (VE.pickB c3 14 rfl)
  obtain ⟨_, _, _, _, _, _, _, _, _, l_Book_kinds, c_Book_kinds⟩ := VE.fnAt_ok (Option.some.inj (show (some (VE.fnAt K (VE.prF K (He.ma K (He.ga K "Book") "kinds"))) : Option VE.FnVw) = some (VE.fnW "kinds" "Book.kinds" s_Book_kinds) from congrArg (fun l : List VE.FnVw => l[12]?) (c.fns : hdD.fns K = hdD.fnv))) (VE.pickB c3 15 rfl)
  have k_Book_kinds : PySem.W.keepIn K (.ref (VE.prF K (He.ma K (He.ga K "Book") "kinds"))) = true := VE.pickD c3 16 rfl
  have a_Book_rules : PySem.W.findIn K (.ref (He.ga K "Book")) "rules" = some (some (.ref (He.ma K (He.ga K "Book") "rules"))) := VE.pickD c3 17 rfl
  have pg2_Book_rules : PySem.W.specialIn K (.ref (He.ma K (He.ga K "Book") "rules")) "__get__" = some (some (.builtin "property.__get__")) := VE.pickD c3 18 rfl
  have pt_Book_rules : PySem.W.takesIn K (.ref (He.ma K (He.ga K "Book") "rules")) = some true := VE.pickD c3 19 rfl
  obtain ⟨_, pr_Book_rules⟩ := VE.isFR_ok (VE.pickB c3 20 rfl)
  obtain ⟨_, _, _, _, _, _, _, _, _, l_Book_rules, c_Book_rules⟩ := VE.fnAt_ok (Option.some.inj (show (some (VE.fnAt K (VE.prF K (He.ma K (He.ga K "Book") "rules"))) : Option VE.FnVw) = some (VE.fnW "rules" "Book.rules" s_Book_rules) from congrArg (fun l : List VE.FnVw => l[13]?) (c.fns : hdD.fns K = hdD.fnv))) (VE.pickB c3 21 rfl)
  have k_Book_rules : PySem.W.keepIn K (.ref (VE.prF K (He.ma K (He.ga K "Book") "rules"))) = true := VE.pickD c3 22 rfl
  have a_law_taken : PySem.W.nsIn K mainGlobals "_law_taken" = some (some (.ref (He.ga K "_law_taken"))) := VE.pickD c3 23 rfl
  obtain ⟨_, _, _, _, _, _, _, _, _, l_law_taken, c_law_taken⟩ := VE.fnAt_ok (Option.some.inj (show (some (VE.fnAt K (He.ga K "_law_taken")) : Option VE.FnVw) = some (VE.fnW "_law_taken" "_law_taken" s_law_taken) from congrArg (fun l : List VE.FnVw => l[14]?) (c.fns : hdD.fns K = hdD.fnv))) (VE.pickB c3 24 rfl)
  have k_law_taken : PySem.W.keepIn K (.ref (He.ga K "_law_taken")) = true := VE.pickD c3 25 rfl
  have a_are_kinds : PySem.W.nsIn K mainGlobals "are_kinds" = some (some (.ref (He.ga K "are_kinds"))) := VE.pickD c3 26 rfl
  obtain ⟨_, _, _, _, _, _, _, _, _, l_are_kinds, c_are_kinds⟩ := VE.fnAt_ok (Option.some.inj (show (some (VE.fnAt K (He.ga K "are_kinds")) : Option VE.FnVw) = some (VE.fnW "are_kinds" "are_kinds" s_are_kinds) from congrArg (fun l : List VE.FnVw => l[15]?) (c.fns : hdD.fns K = hdD.fnv))) (VE.pickB c3 27 rfl)
  have k_are_kinds : PySem.W.keepIn K (.ref (He.ga K "are_kinds")) = true := VE.pickD c3 28 rfl
  have a_are_rests : PySem.W.nsIn K mainGlobals "are_rests" = some (some (.ref (He.ga K "are_rests"))) := VE.pickD c3 29 rfl
  obtain ⟨_, _, _, _, _, _, _, _, _, l_are_rests, c_are_rests⟩ := VE.fnAt_ok (Option.some.inj (show (some (VE.fnAt K (He.ga K "are_rests")) : Option VE.FnVw) = some (VE.fnW "are_rests" "are_rests" s_are_rests) from congrArg (fun l : List VE.FnVw => l[16]?) (c.fns : hdD.fns K = hdD.fnv))) (VE.pickB c4 0 rfl)
  have k_are_rests : PySem.W.keepIn K (.ref (He.ga K "are_rests")) = true := VE.pickD c4 1 rfl
  have a_law_pick : PySem.W.nsIn K mainGlobals "_law_pick" = some (some (.ref (He.ga K "_law_pick"))) := VE.pickD c4 2 rfl
  obtain ⟨_, _, _, _, _, _, _, _, _, l_law_pick, c_law_pick⟩ := VE.fnAt_ok (Option.some.inj (show (some (VE.fnAt K (He.ga K "_law_pick")) : Option VE.FnVw) = some (VE.fnW "_law_pick" "_law_pick" s_law_pick) from congrArg (fun l : List VE.FnVw => l[17]?) (c.fns : hdD.fns K = hdD.fnv))) (VE.pickB c4 3 rfl)
  have k_law_pick : PySem.W.keepIn K (.ref (He.ga K "_law_pick")) = true := VE.pickD c4 4 rfl
  have a_law_kinds : PySem.W.nsIn K mainGlobals "_law_kinds" = some (some (.ref (He.ga K "_law_kinds"))) := VE.pickD c4 5 rfl
  obtain ⟨_, _, _, _, _, _, _, _, _, l_law_kinds, c_law_kinds⟩ := VE.fnAt_ok (Option.some.inj (show (some (VE.fnAt K (He.ga K "_law_kinds")) : Option VE.FnVw) = some (VE.fnW "_law_kinds" "_law_kinds" s_law_kinds) from congrArg (fun l : List VE.FnVw => l[18]?) (c.fns : hdD.fns K = hdD.fnv))) (VE.pickB c4 6 rfl)
  have k_law_kinds : PySem.W.keepIn K (.ref (He.ga K "_law_kinds")) = true := VE.pickD c4 7 rfl
  have a_Rule_init : PySem.W.findIn K (.ref (He.ga K "Rule")) "__init__" = some (some (.ref (He.ma K (He.ga K "Rule") "__init__"))) := VE.pickD c4 8 rfl
  have i_Rule_init : PySem.W.isFn K (.ref (He.ma K (He.ga K "Rule") "__init__")) = true := VE.pickD c4 9 rfl
  obtain ⟨_, _, _, _, _, _, _, _, _, l_Rule_init, c_Rule_init⟩ := VE.fnAt_ok (Option.some.inj (show (some (VE.fnAt K (He.ma K (He.ga K "Rule") "__init__")) : Option VE.FnVw) = some (VE.fnW "__init__" "Rule.__init__" s_Rule_init) from congrArg (fun l : List VE.FnVw => l[19]?) (c.fns : hdD.fns K = hdD.fnv))) (VE.pickB c4 10 rfl)
  have k_Rule_init : PySem.W.keepIn K (.ref (He.ma K (He.ga K "Rule") "__init__")) = true := VE.pickD c4 11 rfl
  have a_check_kinds : PySem.W.nsIn K mainGlobals "check_kinds" = some (some (.ref (He.ga K "check_kinds"))) := VE.pickD c4 12 rfl
  obtain ⟨_, _, _, _, _, _, _, _, _, l_check_kinds, c_check_kinds⟩ := VE.fnAt_ok (Option.some.inj (show (some (VE.fnAt K (He.ga K "check_kinds")) : Option VE.FnVw) = some (VE.fnW "check_kinds" "check_kinds" s_check_kinds) from congrArg (fun l : List VE.FnVw => l[20]?) (c.fns : hdD.fns K = hdD.fnv))) (VE.pickB c4 13 rfl)
  have k_check_kinds : PySem.W.keepIn K (.ref (He.ga K "check_kinds")) = true := VE.pickD c4 14 rfl
  have a_Book_pieces : PySem.W.findIn K (.ref (He.ga K "Book")) "pieces" = some (some (.ref (He.ma K (He.ga K "Book") "pieces"))) := VE.pickD c4 15 rfl
  have pg2_Book_pieces : PySem.W.specialIn K (.ref (He.ma K (He.ga K "Book") "pieces")) "__get__" = some (some (.builtin "property.__get__")) := VE.pickD c4 16 rfl
  have pt_Book_pieces : PySem.W.takesIn K (.ref (He.ma K (He.ga K "Book") "pieces")) = some true := VE.pickD c4 17 rfl
  obtain ⟨_, pr_Book_pieces⟩ := VE.isFR_ok (VE.pickB c4 18 rfl)
  obtain ⟨_, _, _, _, _, _, _, _, _, l_Book_pieces, c_Book_pieces⟩ := VE.fnAt_ok (Option.some.inj (show (some (VE.fnAt K (VE.prF K (He.ma K (He.ga K "Book") "pieces"))) : Option VE.FnVw) = some (VE.fnW "pieces" "Book.pieces" s_Book_pieces) from congrArg (fun l : List VE.FnVw => l[21]?) (c.fns : hdD.fns K = hdD.fnv))) (VE.pickB c4 19 rfl)
  have k_Book_pieces : PySem.W.keepIn K (.ref (VE.prF K (He.ma K (He.ga K "Book") "pieces"))) = true := VE.pickD c4 20 rfl
  have a_Book_len : PySem.W.findIn K (.ref (He.ga K "Book")) "__len__" = some (some (.ref (He.ma K (He.ga K "Book") "__len__"))) := VE.pickD c4 21 rfl
  have i_Book_len : PySem.W.isFn K (.ref (He.ma K (He.ga K "Book") "__len__")) = true := VE.pickD c4 22 rfl
  obtain ⟨_, _, _, _, _, _, _, _, _, l_Book_len, c_Book_len⟩ := VE.fnAt_ok (Option.some.inj (show (some (VE.fnAt K (He.ma K (He.ga K "Book") "__len__")) : Option VE.FnVw) = some (VE.fnW "__len__" "Book.__len__" s_Book_len) from congrArg (fun l : List VE.FnVw => l[22]?) (c.fns : hdD.fns K = hdD.fnv))) (VE.pickB c4 23 rfl)
  have k_Book_len : PySem.W.keepIn K (.ref (He.ma K (He.ga K "Book") "__len__")) = true := VE.pickD c4 24 rfl
  have a_law_some : PySem.W.nsIn K mainGlobals "_law_some" = some (some (.ref (He.ga K "_law_some"))) := VE.pickD c4 25 rfl
  obtain ⟨_, _, _, _, _, _, _, _, _, l_law_some, c_law_some⟩ := VE.fnAt_ok (Option.some.inj (show (some (VE.fnAt K (He.ga K "_law_some")) : Option VE.FnVw) = some (VE.fnW "_law_some" "_law_some" s_law_some) from congrArg (fun l : List VE.FnVw => l[23]?) (c.fns : hdD.fns K = hdD.fnv))) (VE.pickB c4 26 rfl)
  have k_law_some : PySem.W.keepIn K (.ref (He.ga K "_law_some")) = true := VE.pickD c4 27 rfl
  have a_Book_init : PySem.W.findIn K (.ref (He.ga K "Book")) "__init__" = some (some (.ref (He.ma K (He.ga K "Book") "__init__"))) := VE.pickD c4 28 rfl
  have i_Book_init : PySem.W.isFn K (.ref (He.ma K (He.ga K "Book") "__init__")) = true := VE.pickD c4 29 rfl
  obtain ⟨_, _, _, _, _, _, _, _, _, l_Book_init, c_Book_init⟩ := VE.fnAt_ok (Option.some.inj (show (some (VE.fnAt K (He.ma K (He.ga K "Book") "__init__")) : Option VE.FnVw) = some (VE.fnW "__init__" "Book.__init__" s_Book_init) from congrArg (fun l : List VE.FnVw => l[24]?) (c.fns : hdD.fns K = hdD.fnv))) (VE.pickB c5 0 rfl)
  have k_Book_init : PySem.W.keepIn K (.ref (He.ma K (He.ga K "Book") "__init__")) = true := VE.pickD c5 1 rfl
  have a_law_rule : PySem.W.nsIn K mainGlobals "_law_rule" = some (some (.ref (He.ga K "_law_rule"))) := VE.pickD c5 2 rfl
  obtain ⟨_, _, _, _, _, _, _, _, _, l_law_rule, c_law_rule⟩ := VE.fnAt_ok (Option.some.inj (show (some (VE.fnAt K (He.ga K "_law_rule")) : Option VE.FnVw) = some (VE.fnW "_law_rule" "_law_rule" s_law_rule) from congrArg (fun l : List VE.FnVw => l[25]?) (c.fns : hdD.fns K = hdD.fnv))) (VE.pickB c5 3 rfl)
  have k_law_rule : PySem.W.keepIn K (.ref (He.ga K "_law_rule")) = true := VE.pickD c5 4 rfl
  have a_Book_eq : PySem.W.findIn K (.ref (He.ga K "Book")) "__eq__" = some (some (.ref (He.ma K (He.ga K "Book") "__eq__"))) := VE.pickD c5 5 rfl
  have i_Book_eq : PySem.W.isFn K (.ref (He.ma K (He.ga K "Book") "__eq__")) = true := VE.pickD c5 6 rfl
  obtain ⟨_, _, _, _, _, _, _, _, _, l_Book_eq, c_Book_eq⟩ := VE.fnAt_ok (Option.some.inj (show (some (VE.fnAt K (He.ma K (He.ga K "Book") "__eq__")) : Option VE.FnVw) = some (VE.fnW "__eq__" "Book.__eq__" s_Book_eq) from congrArg (fun l : List VE.FnVw => l[26]?) (c.fns : hdD.fns K = hdD.fnv))) (VE.pickB c5 7 rfl)
  have k_Book_eq : PySem.W.keepIn K (.ref (He.ma K (He.ga K "Book") "__eq__")) = true := VE.pickD c5 8 rfl
  have a_law_book : PySem.W.nsIn K mainGlobals "_law_book" = some (some (.ref (He.ga K "_law_book"))) := VE.pickD c5 9 rfl
  obtain ⟨_, _, _, _, _, _, _, _, _, l_law_book, c_law_book⟩ := VE.fnAt_ok (Option.some.inj (show (some (VE.fnAt K (He.ga K "_law_book")) : Option VE.FnVw) = some (VE.fnW "_law_book" "_law_book" s_law_book) from congrArg (fun l : List VE.FnVw => l[27]?) (c.fns : hdD.fns K = hdD.fnv))) (VE.pickB c5 10 rfl)
  have k_law_book : PySem.W.keepIn K (.ref (He.ga K "_law_book")) = true := VE.pickD c5 11 rfl
  have a_law_is_told : PySem.W.nsIn K mainGlobals "_law_is_told" = some (some (.ref (He.ga K "_law_is_told"))) := VE.pickD c5 12 rfl
  obtain ⟨_, _, _, _, _, _, _, _, _, l_law_is_told, c_law_is_told⟩ := VE.fnAt_ok (Option.some.inj (show (some (VE.fnAt K (He.ga K "_law_is_told")) : Option VE.FnVw) = some (VE.fnW "_law_is_told" "_law_is_told" s_law_is_told) from congrArg (fun l : List VE.FnVw => l[28]?) (c.fns : hdD.fns K = hdD.fnv))) (VE.pickB c5 13 rfl)
  have k_law_is_told : PySem.W.keepIn K (.ref (He.ga K "_law_is_told")) = true := VE.pickD c5 14 rfl
  have a_law_raised : PySem.W.nsIn K mainGlobals "_law_raised" = some (some (.ref (He.ga K "_law_raised"))) := VE.pickD c5 15 rfl
  obtain ⟨_, _, _, _, _, _, _, _, _, l_law_raised, c_law_raised⟩ := VE.fnAt_ok (Option.some.inj (show (some (VE.fnAt K (He.ga K "_law_raised")) : Option VE.FnVw) = some (VE.fnW "_law_raised" "_law_raised" s_law_raised) from congrArg (fun l : List VE.FnVw => l[29]?) (c.fns : hdD.fns K = hdD.fnv))) (VE.pickB c5 16 rfl)
  have k_law_raised : PySem.W.keepIn K (.ref (He.ga K "_law_raised")) = true := VE.pickD c5 17 rfl
  have a_law : PySem.W.nsIn K mainGlobals "law" = some (some (.ref (He.ga K "law"))) := VE.pickD c5 18 rfl
  obtain ⟨_, _, _, _, _, _, _, _, _, l_law, c_law⟩ := VE.fnAt_ok (Option.some.inj (show (some (VE.fnAt K (He.ga K "law")) : Option VE.FnVw) = some (VE.fnW "law" "law" s_law) from congrArg (fun l : List VE.FnVw => l[30]?) (c.fns : hdD.fns K = hdD.fnv))) (VE.pickB c5 19 rfl)
  have k_law : PySem.W.keepIn K (.ref (He.ga K "law")) = true := VE.pickD c5 20 rfl
  have ec_law := VE.cdR_ok (VE.pickB c5 21 rfl) l_law
  obtain ⟨_, lo_law, tp_law⟩ := VE.tabB_ok (VE.pickB c5 22 rfl)
  have hd_law : PySem.W.codeHdIn K (VE.cdOf K (He.ga K "law")) (VE.tabOf K (VE.cdOf K (He.ga K "law"))) = true := VE.pickD c5 23 rfl
  have nt_law : K.lookup (VE.tabOf K (VE.cdOf K (He.ga K "law"))) = none := Option.isNone_iff_eq_none.mp (VE.pickB c5 24 rfl)
  have em_law := c.tabs _ (show (VE.tabOf K (VE.cdOf K (He.ga K "law"))) ∈ hdD.tabs K from (.head _))
  have nodup : [(VE.tabOf K (VE.cdOf K (He.ga K "law")))].Nodup := VE.pickD c5 25 rfl
  have zb_all : PySem.W.nsIn K mainGlobals "all" = some none := VE.pickD c5 26 rfl
  have zb_bool : PySem.W.nsIn K mainGlobals "bool" = some none := VE.pickD c5 27 rfl
  have zb_enumerate : PySem.W.nsIn K mainGlobals "enumerate" = some none := VE.pickD c5 28 rfl
  have zb_int : PySem.W.nsIn K mainGlobals "int" = some none := VE.pickD c5 29 rfl
  have zb_isinstance : PySem.W.nsIn K mainGlobals "isinstance" = some none := VE.pickD c6 0 rfl
  have zb_len : PySem.W.nsIn K mainGlobals "len" = some none := VE.pickD c6 1 rfl
  have zb_list : PySem.W.nsIn K mainGlobals "list" = some none := VE.pickD c6 2 rfl
  have zb_min : PySem.W.nsIn K mainGlobals "min" = some none := VE.pickD c6 3 rfl
  have zb_range : PySem.W.nsIn K mainGlobals "range" = some none := VE.pickD c6 4 rfl
  have zb_set : PySem.W.nsIn K mainGlobals "set" = some none := VE.pickD c6 5 rfl
  have zb_sorted : PySem.W.nsIn K mainGlobals "sorted" = some none := VE.pickD c6 6 rfl
  have zb_str : PySem.W.nsIn K mainGlobals "str" = some none := VE.pickD c6 7 rfl
  have zb_tuple : PySem.W.nsIn K mainGlobals "tuple" = some none := VE.pickD c6 8 rfl
  have zb_zip : PySem.W.nsIn K mainGlobals "zip" = some none := VE.pickD c6 9 rfl
  obtain ⟨_, zc_LAST⟩ := VE.intB_ok (VE.pickB c6 10 rfl)
  obtain ⟨_, zc_LETTERS⟩ := VE.strB_ok (VE.pickB c6 11 rfl)
  obtain ⟨_, zc_MAX_KINDS⟩ := VE.intB_ok (VE.pickB c6 12 rfl)
  obtain ⟨_, zc_MAX_RULES⟩ := VE.intB_ok (VE.pickB c6 13 rfl)
  obtain ⟨_, zc_MAX_WORD⟩ := VE.intB_ok (VE.pickB c6 14 rfl)
  have zc_MODULI : PySem.W.nsIn K mainGlobals "MODULI" = some (some (.ref (He.ga K "MODULI"))) := VE.pickD c6 15 rfl
  have zl_MODULI := VE.tupAt_ok (VE.pickB c6 16 rfl)
  have ba_PieceError : PySem.W.nsIn K mainGlobals "PieceError" = some (some (.ref (He.ga K "PieceError"))) := VE.pickD c6 17 rfl
  have br_PieceError : PySem.W.readsIn K (He.ga K "PieceError") (.type "type") = true := VE.pickD c6 18 rfl
  have bg_PieceError : PySem.W.specialIn K (.ref (He.ga K "PieceError")) "__getattribute__" = some (some (.builtin "type.__getattribute__")) := VE.pickD c6 19 rfl
  have bt_PieceError := VE.vlB_ok (VE.pickB c6 20 rfl)
  have xo_InvalidBook : VE.oexIn K (He.ga K "InvalidBook") = true := VE.pickD c6 21 rfl
  have xu_InvalidBook : PySem.W.findIn K (.ref (He.ga K "InvalidBook")) "__setattr__" = some (some (.builtin "object.__setattr__")) := VE.pickD c6 22 rfl
  have xn_InvalidBook_part : PySem.W.findIn K (.ref (He.ga K "InvalidBook")) "part" = some none := VE.pickD c6 23 rfl
  have xn_InvalidBook_index : PySem.W.findIn K (.ref (He.ga K "InvalidBook")) "index" = some none := VE.pickD c6 24 rfl
  have xg_InvalidBook : L2.xfB K (He.ga K "InvalidBook") = true := VE.pickD c6 25 rfl
  have xk_InvalidBook : PySem.W.keepIn K (.ref (He.ga K "InvalidBook")) = true := VE.pickD c6 26 rfl
  have xs_InvalidBook : PySem.W.subIn K (.ref (He.ga K "InvalidBook")) (.type "BaseException") = some true := VE.pickD c6 27 rfl
  have xt_InvalidBook : PySem.W.typeIn K (.ref (He.ga K "InvalidBook")) = some (.type "type") := VE.pickD c6 28 rfl
  have xo_InvalidRule : VE.oexIn K (He.ga K "InvalidRule") = true := VE.pickD c6 29 rfl
  have xu_InvalidRule : PySem.W.findIn K (.ref (He.ga K "InvalidRule")) "__setattr__" = some (some (.builtin "object.__setattr__")) := VE.pickD c7 0 rfl
  have xn_InvalidRule_part : PySem.W.findIn K (.ref (He.ga K "InvalidRule")) "part" = some none := VE.pickD c7 1 rfl
  have xg_InvalidRule : L2.xfB K (He.ga K "InvalidRule") = true := VE.pickD c7 2 rfl
  have xk_InvalidRule : PySem.W.keepIn K (.ref (He.ga K "InvalidRule")) = true := VE.pickD c7 3 rfl
  have xs_InvalidRule : PySem.W.subIn K (.ref (He.ga K "InvalidRule")) (.type "BaseException") = some true := VE.pickD c7 4 rfl
  have xt_InvalidRule : PySem.W.typeIn K (.ref (He.ga K "InvalidRule")) = some (.type "type") := VE.pickD c7 5 rfl
  have xa_PieceError : PySem.W.nsIn K mainGlobals "PieceError" = some (some (.ref (He.ga K "PieceError"))) := VE.pickD c7 6 rfl
  have ms_PieceError : PySem.W.subIn K (.ref (He.ga K "PieceError")) (.type "BaseException") = some true := VE.pickD c7 7 rfl
  have mi_PieceError : PySem.W.isClsIn K (He.ga K "PieceError") = true := VE.pickD c7 8 rfl
  have mt_PieceError : PySem.W.typeIn K (.ref (He.ga K "PieceError")) = some (.type "type") := VE.pickD c7 9 rfl
  have xm_PieceError_InvalidBook : PySem.W.subIn K (.ref (He.ga K "InvalidBook")) (.ref (He.ga K "PieceError")) = some true := VE.pickD c7 10 rfl
  have xm_PieceError_InvalidRule : PySem.W.subIn K (.ref (He.ga K "InvalidRule")) (.ref (He.ga K "PieceError")) = some true := VE.pickD c7 11 rfl
  have ik_InvalidBook_InvalidBook : PySem.W.kitOne K (.ref (He.ga K "InvalidBook")) (.ref (He.ga K "InvalidBook")) = some true := VE.pickD c7 12 rfl
  have ik_InvalidBook_InvalidRule : PySem.W.kitOne K (.ref (He.ga K "InvalidRule")) (.ref (He.ga K "InvalidBook")) = some false := VE.pickD c7 13 rfl
  have xa_InvalidNumber : PySem.W.nsIn K mainGlobals "InvalidNumber" = some (some (.ref (He.ga K "InvalidNumber"))) := VE.pickD c7 14 rfl
  have ik_InvalidNumber_InvalidBook : PySem.W.kitOne K (.ref (He.ga K "InvalidBook")) (.ref (He.ga K "InvalidNumber")) = some false := VE.pickD c7 15 rfl
  have ik_InvalidNumber_InvalidRule : PySem.W.kitOne K (.ref (He.ga K "InvalidRule")) (.ref (He.ga K "InvalidNumber")) = some false := VE.pickD c7 16 rfl
  have xa_InvalidPiece : PySem.W.nsIn K mainGlobals "InvalidPiece" = some (some (.ref (He.ga K "InvalidPiece"))) := VE.pickD c7 17 rfl
  have ik_InvalidPiece_InvalidBook : PySem.W.kitOne K (.ref (He.ga K "InvalidBook")) (.ref (He.ga K "InvalidPiece")) = some false := VE.pickD c7 18 rfl
  have ik_InvalidPiece_InvalidRule : PySem.W.kitOne K (.ref (He.ga K "InvalidRule")) (.ref (He.ga K "InvalidPiece")) = some false := VE.pickD c7 19 rfl
  have xa_InvalidQuestion : PySem.W.nsIn K mainGlobals "InvalidQuestion" = some (some (.ref (He.ga K "InvalidQuestion"))) := VE.pickD c7 20 rfl
  have ik_InvalidQuestion_InvalidBook : PySem.W.kitOne K (.ref (He.ga K "InvalidBook")) (.ref (He.ga K "InvalidQuestion")) = some false := VE.pickD c7 21 rfl
  have ik_InvalidQuestion_InvalidRule : PySem.W.kitOne K (.ref (He.ga K "InvalidRule")) (.ref (He.ga K "InvalidQuestion")) = some false := VE.pickD c7 22 rfl
  have xa_InvalidRow : PySem.W.nsIn K mainGlobals "InvalidRow" = some (some (.ref (He.ga K "InvalidRow"))) := VE.pickD c7 23 rfl
  have ik_InvalidRow_InvalidBook : PySem.W.kitOne K (.ref (He.ga K "InvalidBook")) (.ref (He.ga K "InvalidRow")) = some false := VE.pickD c7 24 rfl
  have ik_InvalidRow_InvalidRule : PySem.W.kitOne K (.ref (He.ga K "InvalidRule")) (.ref (He.ga K "InvalidRow")) = some false := VE.pickD c7 25 rfl
  have ik_InvalidRule_InvalidBook : PySem.W.kitOne K (.ref (He.ga K "InvalidBook")) (.ref (He.ga K "InvalidRule")) = some false := VE.pickD c7 26 rfl
  have ik_InvalidRule_InvalidRule : PySem.W.kitOne K (.ref (He.ga K "InvalidRule")) (.ref (He.ga K "InvalidRule")) = some true := VE.pickD c7 27 rfl
  have xa_TooMany : PySem.W.nsIn K mainGlobals "TooMany" = some (some (.ref (He.ga K "TooMany"))) := VE.pickD c7 28 rfl
  have ik_TooMany_InvalidBook : PySem.W.kitOne K (.ref (He.ga K "InvalidBook")) (.ref (He.ga K "TooMany")) = some false := VE.pickD c7 29 rfl
  have ik_TooMany_InvalidRule : PySem.W.kitOne K (.ref (He.ga K "InvalidRule")) (.ref (He.ga K "TooMany")) = some false := VE.pickD c8 0 rfl
  have xa_UnknownPiece : PySem.W.nsIn K mainGlobals "UnknownPiece" = some (some (.ref (He.ga K "UnknownPiece"))) := VE.pickD c8 1 rfl
  have ik_UnknownPiece_InvalidBook : PySem.W.kitOne K (.ref (He.ga K "InvalidBook")) (.ref (He.ga K "UnknownPiece")) = some false := VE.pickD c8 2 rfl
  have ik_UnknownPiece_InvalidRule : PySem.W.kitOne K (.ref (He.ga K "InvalidRule")) (.ref (He.ga K "UnknownPiece")) = some false := VE.pickD c8 3 rfl
  have xa_UnknownRule : PySem.W.nsIn K mainGlobals "UnknownRule" = some (some (.ref (He.ga K "UnknownRule"))) := VE.pickD c8 4 rfl
  have ik_UnknownRule_InvalidBook : PySem.W.kitOne K (.ref (He.ga K "InvalidBook")) (.ref (He.ga K "UnknownRule")) = some false := VE.pickD c8 5 rfl
  have ik_UnknownRule_InvalidRule : PySem.W.kitOne K (.ref (He.ga K "InvalidRule")) (.ref (He.ga K "UnknownRule")) = some false := VE.pickD c8 6 rfl
  have xa_UnlikeBooks : PySem.W.nsIn K mainGlobals "UnlikeBooks" = some (some (.ref (He.ga K "UnlikeBooks"))) := VE.pickD c8 7 rfl
  have ik_UnlikeBooks_InvalidBook : PySem.W.kitOne K (.ref (He.ga K "InvalidBook")) (.ref (He.ga K "UnlikeBooks")) = some false := VE.pickD c8 8 rfl
  have ik_UnlikeBooks_InvalidRule : PySem.W.kitOne K (.ref (He.ga K "InvalidRule")) (.ref (He.ga K "UnlikeBooks")) = some false := VE.pickD c8 9 rfl
  have in_ValueError : PySem.W.nsIn K mainGlobals "ValueError" = some none := VE.pickD c8 10 rfl
  have ik_ValueError_InvalidBook : PySem.W.kitOne K (.ref (He.ga K "InvalidBook")) (.type "ValueError") = some true := VE.pickD c8 11 rfl
  have ik_ValueError_InvalidRule : PySem.W.kitOne K (.ref (He.ga K "InvalidRule")) (.type "ValueError") = some true := VE.pickD c8 12 rfl
  have ega_InvalidBook : PySem.W.findIn K (.ref (He.ga K "InvalidBook")) "__getattribute__" = some (some (.builtin "BaseException.__getattribute__")) := VE.pickD c8 13 rfl
  have egt_InvalidBook : PySem.W.findIn K (.ref (He.ga K "InvalidBook")) "__getattr__" = some none := VE.pickD c8 14 rfl
  have ehd_InvalidBook : PySem.W.hasDictIn K (He.ga K "InvalidBook") = true := VE.pickD c8 15 rfl
  have eca_InvalidBook : PySem.W.findIn K (.ref (He.ga K "InvalidBook")) "__class__" = some (some (.builtin "object.__class__")) := VE.pickD c8 16 rfl
  have emr_InvalidBook : PySem.W.mroIn K (He.ga K "InvalidBook") (.type "object") = some true := VE.pickD c8 17 rfl
  have ega_InvalidRule : PySem.W.findIn K (.ref (He.ga K "InvalidRule")) "__getattribute__" = some (some (.builtin "BaseException.__getattribute__")) := VE.pickD c8 18 rfl
  have egt_InvalidRule : PySem.W.findIn K (.ref (He.ga K "InvalidRule")) "__getattr__" = some none := VE.pickD c8 19 rfl
  have ehd_InvalidRule : PySem.W.hasDictIn K (He.ga K "InvalidRule") = true := VE.pickD c8 20 rfl
  have eca_InvalidRule : PySem.W.findIn K (.ref (He.ga K "InvalidRule")) "__class__" = some (some (.builtin "object.__class__")) := VE.pickD c8 21 rfl
  have emr_InvalidRule : PySem.W.mroIn K (He.ga K "InvalidRule") (.type "object") = some true := VE.pickD c8 22 rfl
  have zcn : PySem.W.specialIn K (.builtin "object.__class__") "__get__" = some (some (.builtin "getset_descriptor.__get__")) := VE.pickD c8 23 rfl
  have zct : PySem.W.takesIn K (.builtin "object.__class__") = some true := VE.pickD c8 24 rfl
  exact all_mk X G hfa aC_Rule pg_Rule ic_Rule po_Rule sa_Rule mk_Rule kc_Rule da_Rule_0 dg_Rule_0 dt_Rule_0 di_Rule_0 dy_Rule_0 aC_Book pg_Book ic_Book po_Book sa_Book mk_Book kc_Book da_Book_0 dg_Book_0 dt_Book_0 di_Book_0 dy_Book_0 ica_Book icn_Book ict_Book icm_Book iki_Book ica_Rule icn_Rule ict_Rule icm_Rule iki_Rule nk_Book nf_Book nk_Rule nf_Rule ene_Book eso_Book ene_Rule eso_Rule xa_InvalidRule a_InvalidRule_init i_InvalidRule_init l_InvalidRule_init c_InvalidRule_init k_InvalidRule_init xa_InvalidBook a_InvalidBook_init i_InvalidBook_init l_InvalidBook_init c_InvalidBook_init k_InvalidBook_init a_is_number l_is_number c_is_number k_is_number a_is_word l_is_word c_is_word k_is_word a_ascend l_ascend c_ascend k_ascend a_Rule_piece pg2_Rule_piece pt_Rule_piece pr_Rule_piece l_Rule_piece c_Rule_piece k_Rule_piece a_Rule_low pg2_Rule_low pt_Rule_low pr_Rule_low l_Rule_low c_Rule_low k_Rule_low a_Rule_high pg2_Rule_high pt_Rule_high pr_Rule_high l_Rule_high c_Rule_high k_Rule_high a_Rule_modulus pg2_Rule_modulus pt_Rule_modulus pr_Rule_modulus l_Rule_modulus c_Rule_modulus k_Rule_modulus a_Rule_rests pg2_Rule_rests pt_Rule_rests pr_Rule_rests l_Rule_rests c_Rule_rests k_Rule_rests a_Rule_kinds pg2_Rule_kinds pt_Rule_kinds pr_Rule_kinds l_Rule_kinds c_Rule_kinds k_Rule_kinds a_Rule_eq i_Rule_eq l_Rule_eq c_Rule_eq k_Rule_eq a_Book_kinds pg2_Book_kinds pt_Book_kinds pr_Book_kinds l_Book_kinds c_Book_kinds k_Book_kinds a_Book_rules pg2_Book_rules pt_Book_rules pr_Book_rules l_Book_rules c_Book_rules k_Book_rules a_law_taken l_law_taken c_law_taken k_law_taken a_are_kinds l_are_kinds c_are_kinds k_are_kinds a_are_rests l_are_rests c_are_rests k_are_rests a_law_pick l_law_pick c_law_pick k_law_pick a_law_kinds l_law_kinds c_law_kinds k_law_kinds a_Rule_init i_Rule_init l_Rule_init c_Rule_init k_Rule_init a_check_kinds l_check_kinds c_check_kinds k_check_kinds a_Book_pieces pg2_Book_pieces pt_Book_pieces pr_Book_pieces l_Book_pieces c_Book_pieces k_Book_pieces a_Book_len i_Book_len l_Book_len c_Book_len k_Book_len a_law_some l_law_some c_law_some k_law_some a_Book_init i_Book_init l_Book_init c_Book_init k_Book_init a_law_rule l_law_rule c_law_rule k_law_rule a_Book_eq i_Book_eq l_Book_eq c_Book_eq k_Book_eq a_law_book l_law_book c_law_book k_law_book a_law_is_told l_law_is_told c_law_is_told k_law_is_told a_law_raised l_law_raised c_law_raised k_law_raised a_law l_law c_law k_law ec_law lo_law tp_law hd_law nt_law em_law nodup zb_all zb_bool zb_enumerate zb_int zb_isinstance zb_len zb_list zb_min zb_range zb_set zb_sorted zb_str zb_tuple zb_zip zc_LAST zc_LETTERS zc_MAX_KINDS zc_MAX_RULES zc_MAX_WORD zc_MODULI zl_MODULI ba_PieceError br_PieceError bg_PieceError bt_PieceError xo_InvalidBook xu_InvalidBook xn_InvalidBook_part xn_InvalidBook_index xg_InvalidBook xk_InvalidBook xs_InvalidBook xt_InvalidBook xo_InvalidRule xu_InvalidRule xn_InvalidRule_part xg_InvalidRule xk_InvalidRule xs_InvalidRule xt_InvalidRule xa_PieceError ms_PieceError mi_PieceError mt_PieceError xm_PieceError_InvalidBook xm_PieceError_InvalidRule ik_InvalidBook_InvalidBook ik_InvalidBook_InvalidRule xa_InvalidNumber ik_InvalidNumber_InvalidBook ik_InvalidNumber_InvalidRule xa_InvalidPiece ik_InvalidPiece_InvalidBook ik_InvalidPiece_InvalidRule xa_InvalidQuestion ik_InvalidQuestion_InvalidBook ik_InvalidQuestion_InvalidRule xa_InvalidRow ik_InvalidRow_InvalidBook ik_InvalidRow_InvalidRule ik_InvalidRule_InvalidBook ik_InvalidRule_InvalidRule xa_TooMany ik_TooMany_InvalidBook ik_TooMany_InvalidRule xa_UnknownPiece ik_UnknownPiece_InvalidBook ik_UnknownPiece_InvalidRule xa_UnknownRule ik_UnknownRule_InvalidBook ik_UnknownRule_InvalidRule xa_UnlikeBooks ik_UnlikeBooks_InvalidBook ik_UnlikeBooks_InvalidRule in_ValueError ik_ValueError_InvalidBook ik_ValueError_InvalidRule ega_InvalidBook egt_InvalidBook ehd_InvalidBook eca_InvalidBook emr_InvalidBook ega_InvalidRule egt_InvalidRule ehd_InvalidRule eca_InvalidRule emr_InvalidRule zcn zct
end VP
open PySem PySem.W PyProof.Rows
theorem PySem.Challenge.cw_ruledpieces_k01_rules_and_books_validate_holds : PySem.Challenge.rw_ruledpieces_k01_rules_and_books_validate.Holds := by
  w_on; o_law
  refine HandSHeadRun.head_any (r := OpenLaw.row PySem.Challenge.rw_ruledpieces_k01_rules_and_books_validate) (q := VP.hq) (H := VP.hdD.hook) (ob := VP.hdD.ob) (M := 40000) (loose := VP.nams) (d := HandSHeadRun.topDef (OpenLaw.row PySem.Challenge.rw_ruledpieces_k01_rules_and_books_validate).prog 36) (kwd := []) VP.hdD.ob_eq
    (by kernel_rfl) (fun s => by kernel_rfl) VP.hrun (by kernel_rfl) (by kernel_rfl) (by kernel_rfl) (by rfl) (by first | assumption | decide +kernel) (by decide +kernel) ⟨rfl, rfl, rfl, rfl, rfl, by decide +kernel⟩ ?hw ?hc
  case hw => w_witness2
  case hc =>
    refine LamX.walk_ofTsE (l := PySem.Challenge.rw_ruledpieces_k01_rules_and_books_validate) (n := 63) (k := 9) (x := "_law_script") (CX := fun w => L2.CX PySem.Challenge.rw_ruledpieces_k01_rules_and_books_validate.prog w) rfl (by decide) (by kernel_rfl) ⟨rfl, by decide, by decide⟩ ?F (fun w H s e s' h => VE.cx_none h)
    intro w mg fa h Y G hmg0
    obtain ⟨K, KX, c⟩ := Y
    have e : (HandSHeadRun.topDef (OpenLaw.row PySem.Challenge.rw_ruledpieces_k01_rules_and_books_validate).prog 36).name = ("law" : PySem.Str) := by kernel_rfl
    exact ⟨K, KX, VP.head_mk KX G (e ▸ hmg0) c⟩
