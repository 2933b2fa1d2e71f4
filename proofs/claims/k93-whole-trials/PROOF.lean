import PyProof.Rows.All
import Wide.All
import OpenK.AllK
import Wide.FinOn
import KE.KStateDown
import Lean
import HandS.ForMost
import HandS.More
import HandS.WordsExc
import HandS.Defaults
import HandS.Head0
import HandS.Head1
import HandS.Head2
import HandS.HeadEnd
import HandS.HeadHook4
import HandS.HeadWalk
import HandS.Property
import KE.KExcSuper
import HandS.TupAny
import HandS.TupMul
import HandS.Star
import HandS.IsInst
import HandS.Flow
import HandS.Style
import HandS.Strs
import HandS.Wide
import HandS.Walk
import HandS.OwnEq
import HandS.RaiseOp
import HandS.TryMany
import KE.GoesEnum
import HandS.SetFor
import HandS.Conv
import HandS.Small
import HandS.SlotsOwn
import KE.KWithOwn
import HandS.HotCalls
import HandS.Finally
import HandS.Lambda
import HandS.ExcSuper
import HandS.EndTab
import PySem.Challenge.RW_copymerges_k93_whole_trials_and_copies
set_option Elab.async false
set_option linter.all false
set_option maxRecDepth 100000
set_option maxHeartbeats 0
/-! the text by places, what the head tells -/
namespace W9
open PySem PySem.Spec PyProof.Rows L2
def top (i : Nat) : Stmt := PySem.Challenge.pw_copymerges_k93_whole_trials_and_copies.main.body.getD i (.Pass ⟨0, 0, 0, 0⟩)
abbrev R : PySem.W.OpenRow := PySem.W.OpenLaw.row PySem.Challenge.rw_copymerges_k93_whole_trials_and_copies

abbrev s_BadKind___init__ : Stmt := inClass (top 2) 0
abbrev s_BadHistory___init__ : Stmt := inClass (top 3) 0
abbrev s_BadCopy___init__ : Stmt := inClass (top 4) 0
abbrev s_BadNumber___init__ : Stmt := inClass (top 5) 0
abbrev s_TooGreat___init__ : Stmt := inClass (top 6) 0
abbrev s_is_whole : Stmt := top 11
abbrev s_are_states : Stmt := top 12
abbrev s_wrong_in_reads : Stmt := top 13
abbrev s_wrong_in_updates : Stmt := top 14
abbrev s_wrong_in_merge : Stmt := top 15
abbrev s_need_kind : Stmt := top 16
abbrev s_merged_of : Stmt := top 17
abbrev s_is_step : Stmt := top 23
abbrev s_wrong_in_history : Stmt := top 24
abbrev s_need_history : Stmt := top 25
abbrev s_stages_of : Stmt := top 26
abbrev s_heard_of : Stmt := top 27
abbrev s_need_copy : Stmt := top 28
abbrev s_split_pairs : Stmt := top 29
abbrev s_under : Stmt := top 31
abbrev s_Trial___init__ : Stmt := inClass (top 32) 0
abbrev s_Trial___enter__ : Stmt := inClass (top 32) 1
abbrev s_Trial___exit__ : Stmt := inClass (top 32) 2
abbrev s_House___init__ : Stmt := inClass (top 33) 0
abbrev s_House_table : Stmt := inClass (top 33) 1
abbrev s_House_history : Stmt := inClass (top 33) 2
abbrev s_House___len__ : Stmt := inClass (top 33) 3
abbrev s_House_states : Stmt := inClass (top 33) 4
abbrev s_House_shown : Stmt := inClass (top 33) 5
abbrev s_House_known : Stmt := inClass (top 33) 6
abbrev s_House_split : Stmt := inClass (top 33) 7
abbrev s_House_need_room : Stmt := inClass (top 33) 8
abbrev s_House_keep : Stmt := inClass (top 33) 9
abbrev s_House_do : Stmt := inClass (top 33) 10
abbrev s_House_hear : Stmt := inClass (top 33) 11
abbrev s_House_undo : Stmt := inClass (top 33) 12
abbrev s_House_redo : Stmt := inClass (top 33) 13
abbrev s_House_copy : Stmt := inClass (top 33) 14
abbrev s_House_trial : Stmt := inClass (top 33) 15
abbrev s_House___eq__ : Stmt := inClass (top 33) 16
abbrev s__law_mixed : Stmt := top 35
abbrev s__law_folded : Stmt := top 36
abbrev s__law_draw : Stmt := top 37
abbrev s__law_begun : Stmt := top 38
abbrev s__law_like : Stmt := top 39
abbrev s__law_join_table : Stmt := top 40
abbrev s__law_both_lots : Stmt := top 41
abbrev s__law_reads : Stmt := top 42
abbrev s__law_renumbered : Stmt := top 43
abbrev s__law_holding : Stmt := top 44
abbrev s__law_any : Stmt := top 45
abbrev s__law_run : Stmt := top 46
abbrev s__law_begin_house : Stmt := top 47
abbrev s__law_split_of : Stmt := top 48
abbrev s__law_stands : Stmt := top 49
abbrev s__law_gone_back : Stmt := top 50
abbrev s__law_gone_on : Stmt := top 51
abbrev s__law_step_of : Stmt := top 52
abbrev s__law_turn : Stmt := top 53
abbrev s__law_led : Stmt := top 54
abbrev s__law_twin_of : Stmt := top 55
abbrev s__law_inner : Stmt := top 56
abbrev s__law_tried : Stmt := top 57
abbrev s__law_back_right : Stmt := top 58
abbrev s__law_hand_right : Stmt := top 59
abbrev s_law : Stmt := top 60
/-- a def wherever it stands -/
structure DefA where
  adr : PySem.W.Frag → Addr
  name : Str
  qual : Str
  st : Stmt
def fnA (K : PySem.W.Frag) (a : Addr) : He.FnW :=
  match K.lookup a with
  | some ⟨_, _, .func fd, _⟩ => some (fd.name, fd.qualname, fd.params, fd.body, fd.scope, fd.globals, fd.closure, fd.builtins)
  | _ => none
def DefA.val (d : DefA) : He.FnW := some (d.name, d.qual, defArgs d.st, .stmts (defBody d.st), defScope d.st, mainGlobals, [], builtinsNs)
def noDfl : Value → Bool
  | .none => true
  | _ => false
def DefA.ok (K : PySem.W.Frag) (d : DefA) : Bool :=
  PySem.W.keepIn K (.ref (d.adr K)) &&
    (match K.lookup (d.adr K) with
    | some ⟨_, _, .func fd, _⟩ => PySem.W.codeIn K fd.code d.qual && noDfl fd.defaults
    | _ => false)
/-- what is shown of such a def: the layer's own word for it -/
theorem DefA.fun_ {K : PySem.W.Frag} {d : DefA} (e : fnA K (d.adr K) = d.val) (c : d.ok K = true) : ∃ fd, Fun K d.name d.qual d.st (d.adr K) fd := by
  have c0 := He.ba c
  have c2 := c0.2
  unfold fnA at e
  cases hq : K.lookup (d.adr K) with
  | none =>
    rw [hq] at c2
    cases c2
  | some o =>
    cases o with
    | mk oc od dt osl =>
      rw [hq] at c2 e
      cases dt with
      | func fd =>
        have c3 : (PySem.W.codeIn K fd.code d.qual && noDfl fd.defaults) = true := c2
        have c4 := He.ba c3
        have hd : fd.defaults = .none := by
          have z := c4.2
          cases hv : fd.defaults with
          | none => rfl
          | _ =>
            rw [hv] at z
            cases z
        have e2 : (some (fd.name, fd.qualname, fd.params, fd.body, fd.scope, fd.globals, fd.closure, fd.builtins) : He.FnW) = d.val := e
        unfold DefA.val at e2
        simp only [Option.some.injEq, Prod.mk.injEq] at e2
        refine ⟨fd, ⟨oc, od, fd.kwdefaults, fd.doc, fd.pyModule, fd.annotations, fd.code, fd.closureTuple, osl, ?_, hq, c4.1⟩, c0.1⟩
        cases fd with
        | mk f1 f2 f3 f4 f5 f6 f7 f8 f9 f10 f11 f12 f13 f14 f15 =>
          obtain ⟨h1, h2, h3, h4, h5, h6, h7, h8⟩ := e2
          simp only at h1 h2 h3 h4 h5 h6 h7 h8 hd
          subst h1 h2 h3 h4 h5 h6 h7 h8 hd
          rfl
      | _ => cases c2
/-- a def with captured names: all but these -/
abbrev FnC : Type := Option (Str × Str × Arguments × FuncBody × Scope × Addr × Addr)
def fnC (K : PySem.W.Frag) (a : Addr) : FnC :=
  match K.lookup a with
  | some ⟨_, _, .func fd, _⟩ => some (fd.name, fd.qualname, fd.params, fd.body, fd.scope, fd.globals, fd.builtins)
  | _ => none
def DefA.valC (d : DefA) : FnC := some (d.name, d.qual, defArgs d.st, .stmts (defBody d.st), defScope d.st, mainGlobals, builtinsNs)
/-- such a def as it stands -/
structure FunC (K : PySem.W.Frag) (x qual : Str) (st : Stmt) (f : Addr) (fd : FuncData) : Prop where
  ex : ∃ (oc : Value) (od : Option Addr) (osl : Array (Option Value)), K.lookup f = some ⟨oc, od, .func fd, osl⟩ ∧ PySem.W.codeIn K fd.code qual = true
  name : fd.name = x
  qual : fd.qualname = qual
  params : fd.params = defArgs st
  body : fd.body = .stmts (defBody st)
  scope : fd.scope = defScope st
  globals : fd.globals = mainGlobals
  builtins : fd.builtins = builtinsNs
  dfl : fd.defaults = .none
  kp : PySem.W.keepIn K (.ref f) = true
theorem noDfl_eq {v : Value} (h : noDfl v = true) : v = .none := by
  cases v with
  | none => rfl
  | _ => cases h
theorem DefA.funC {K : PySem.W.Frag} {d : DefA} (e : fnC K (d.adr K) = d.valC) (c : d.ok K = true) : ∃ fd, FunC K d.name d.qual d.st (d.adr K) fd := by
  have c0 := He.ba c
  have c2 := c0.2
  unfold fnC at e
  cases hq : K.lookup (d.adr K) with
  | none =>
    rw [hq] at c2
    cases c2
  | some o =>
    cases o with
    | mk oc od dt osl =>
      rw [hq] at c2 e
      cases dt with
      | func fd =>
        have c3 : (PySem.W.codeIn K fd.code d.qual && noDfl fd.defaults) = true := c2
        have c4 := He.ba c3
        have e2 : (some (fd.name, fd.qualname, fd.params, fd.body, fd.scope, fd.globals, fd.builtins) : FnC) = d.valC := e
        unfold DefA.valC at e2
        simp only [Option.some.injEq, Prod.mk.injEq] at e2
        obtain ⟨h1, h2, h3, h4, h5, h6, h7⟩ := e2
        exact ⟨fd, ⟨oc, od, osl, hq, c4.1⟩, h1, h2, h3, h4, h5, h6, h7, noDfl_eq c4.2, c0.1⟩
      | _ => cases c2
/-! ### the hook -/
/-! a list of numbers, a part of the heap, brought to its end form ahead of what goes on with it -/
def frcN {β : Type} : List Addr → (List Addr → β) → β
  | [], k => k []
  | a :: l, k => HandSHeadRun.frNat a fun a' => frcN l fun l' => k (a' :: l')
theorem frcN_eq {β : Type} : ∀ (l : List Addr) (k : List Addr → β), frcN l k = k l
  | [], _ => rfl
  | a :: l, k => by
    show HandSHeadRun.frNat a (fun a' => frcN l fun l' => k (a' :: l')) = _
    rw [HandSHeadRun.frNat_eq, frcN_eq l]
def frcK {β : Type} : PySem.W.Frag → (PySem.W.Frag → β) → β
  | [], k => k []
  | (a, ⟨c, d, dt, sl⟩) :: l, k => HandSHeadRun.frNat a fun a' => frcK l fun l' => k ((a', ⟨c, d, dt, sl⟩) :: l')
theorem frcK_eq {β : Type} : ∀ (l : PySem.W.Frag) (k : PySem.W.Frag → β), frcK l k = k l
  | [], _ => rfl
  | (a, ⟨c, d, dt, sl⟩) :: l, k => by
    show HandSHeadRun.frNat a (fun a' => frcK l fun l' => k ((a', ⟨c, d, dt, sl⟩) :: l')) = _
    rw [HandSHeadRun.frNat_eq, frcK_eq l]
/-- addresses not met so far are put into both lists -/
def pickN {β : Type} : List Addr → List Addr → List Addr → (List Addr → List Addr → β) → β
  | [], seen, fr, k => k seen fr
  | x :: xs, seen, fr, k => HandSHeadRun.frNat x fun y => match seen.any (Nat.beq y) with
    | true => pickN xs seen fr k
    | false => pickN xs (y :: seen) (y :: fr) k
/-- what an object names, of all objects of a list -/
def refsL (g : Addr → Option Obj) (as : List Addr) : List Addr := as.flatMap fun a => match g a with
  | some o => He.refsD o
  | none => []
def reachN (g : Addr → Option Obj) : Nat → List Addr → List Addr → List Addr
  | 0, seen, _ => seen
  | n + 1, seen, fr => pickN (refsL g fr) seen [] fun seen' fr' => reachN g n seen' fr'
def refsY (g : Addr → Option Obj) (n : Nat) : List Addr := frcN (reachN g n [mainGlobals] [mainGlobals]).reverse fun l => l ++ [cStatics]
def frY (g : Addr → Option Obj) (n : Nat) : PySem.W.Frag := He.frT g (refsY g n)
theorem frY_is (g : Addr → Option Obj) (n : Nat) : frY g n = He.frT g (refsY g n) := rfl
abbrev AlY : Type := Bool × List He.FnW × List FnC
def obsK (fa : List He.Fa) (ex : List (PySem.W.Frag → Bool)) (tf : List He.Defn) (fn fc : List DefA) (g : Addr → Option Obj) (K : PySem.W.Frag) : AlY :=
  ((fa.all fun f => f.ok K) && ((ex.all fun f => f K) && (He.tabsB g tf K && ((fn.all fun d => d.ok K) && fc.all fun d => d.ok K))), fn.map (fun d => fnA K (d.adr K)), fc.map fun d => fnC K (d.adr K))
def obsY (n : Nat) (fa : List He.Fa) (ex : List (PySem.W.Frag → Bool)) (tf : List He.Defn) (fn fc : List DefA) (g : Addr → Option Obj) : AlY :=
  frcK (frY g n) (obsK fa ex tf fn fc g)
def valY (fn fc : List DefA) : AlY := (true, fn.map DefA.val, fc.map DefA.valC)
/-- what stands behind the top -/
structure SaysY (fa : List He.Fa) (ex : List (PySem.W.Frag → Bool)) (tf : List He.Defn) (fn fc : List DefA) (h : Heap) (K : PySem.W.Frag) : Prop where
  facts : ∀ f ∈ fa, f.ok K = true
  more : ∀ f ∈ ex, f K = true
  defs : ∀ d ∈ fn, ∃ fd, Fun K d.name d.qual d.st (d.adr K) fd
  defc : ∀ d ∈ fc, ∃ fd, FunC K d.name d.qual d.st (d.adr K) fd
  hd : ∀ p ∈ tf, PySem.W.codeHdIn K (He.cT K p).1 (He.cT K p).2 = true
  out : ∀ p ∈ tf, K.lookup (He.cT K p).2 = none
  empty : ∀ p ∈ tf, h.get? (He.cT K p).2 = some { cls := .none, data := .fields #[] }
theorem saysY_of {n : Nat} {fa : List He.Fa} {ex : List (PySem.W.Frag → Bool)} {tf : List He.Defn} {fn fc : List DefA} {h : Heap} (e : obsY n fa ex tf fn fc h.get? = valY fn fc) : SaysY fa ex tf fn fc h (frY h.get? n) := by
  unfold obsY at e
  rw [frcK_eq] at e
  have e1 : ((fa.all fun f => f.ok (frY h.get? n)) && ((ex.all fun f => f (frY h.get? n)) && (He.tabsB h.get? tf (frY h.get? n) && ((fn.all fun d => d.ok (frY h.get? n)) && fc.all fun d => d.ok (frY h.get? n))))) = true := congrArg (fun z : AlY => z.1) e
  have e2 : (fn.map fun d => fnA (frY h.get? n) (d.adr (frY h.get? n))) = fn.map DefA.val := congrArg (fun z : AlY => z.2.1) e
  have e3 : (fc.map fun d => fnC (frY h.get? n) (d.adr (frY h.get? n))) = fc.map DefA.valC := congrArg (fun z : AlY => z.2.2) e
  have b1 := He.ba e1
  have b2 := He.ba b1.2
  have b3 := He.ba b2.2
  have b4 := He.ba b3.2
  have key : ∀ p ∈ tf, PySem.W.codeHdIn (frY h.get? n) (He.cT (frY h.get? n) p).1 (He.cT (frY h.get? n) p).2 = true ∧ ∃ o, h.get? (He.cT (frY h.get? n) p).2 = some o ∧ He.emptyTab o = true := fun p hp => by
    have z := He.ba (List.all_eq_true.mp b3.1 p hp)
    refine ⟨z.1, ?_⟩
    have z2 := z.2
    cases hq : h.get? (He.cT (frY h.get? n) p).2 with
    | none =>
      rw [hq] at z2
      cases z2
    | some o =>
      rw [hq] at z2
      exact ⟨o, rfl, z2⟩
  refine ⟨fun f hf => List.all_eq_true.mp b1.1 f hf, fun f hf => List.all_eq_true.mp b2.1 f hf, fun d hd => ?_, fun d hd => ?_, fun p hp => (key p hp).1, fun p hp => ?_, fun p hp => ?_⟩
  · obtain ⟨i, hi, ei⟩ := List.mem_iff_getElem.mp hd
    have e3 := congrArg (fun l : List He.FnW => l[i]?) e2
    simp only [List.getElem?_map, List.getElem?_eq_getElem hi, ei, Option.map_some, Option.some.injEq] at e3
    exact DefA.fun_ e3 (List.all_eq_true.mp b4.1 d hd)
  · obtain ⟨i, hi, ei⟩ := List.mem_iff_getElem.mp hd
    have e4 := congrArg (fun l : List FnC => l[i]?) e3
    simp only [List.getElem?_map, List.getElem?_eq_getElem hi, ei, Option.map_some, Option.some.injEq] at e4
    exact DefA.funC e4 (List.all_eq_true.mp b4.2 d hd)
  · obtain ⟨_, o, a, b⟩ := key p hp
    rw [frY_is] at a ⊢
    exact He.frT_none a b
  · obtain ⟨_, o, a, b⟩ := key p hp
    rw [a, He.emptyTab_eq b]
def hookY (n : Nat) (fa : List He.Fa) (ex : List (PySem.W.Frag → Bool)) (tf : List He.Defn) (fn fc : List DefA) : PySem.W.Hook where
  α := AlY
  obs := fun s => obsY n fa ex tf fn fc s.heap.get?
  val := fun _ => valY fn fc
  says := fun _ h => ∃ K : PySem.W.Frag, K.In h ∧ SaysY fa ex tf fn fc h K
  of := fun _ _ e => ⟨_, by rw [frY_is]; exact He.frT_in, saysY_of e⟩
  keeps := fun _ _ _ ⟨K, hK, c⟩ k => ⟨K, PySem.W.Frag.In.keeps hK k, ⟨c.facts, c.more, c.defs, c.defc, c.hd, c.out, fun p hp => k _ _ (c.empty p hp)⟩⟩
theorem obsY_eq {n : Nat} {fa : List He.Fa} {ex : List (PySem.W.Frag → Bool)} {tf : List He.Defn} {fn fc : List DefA} {g : Addr → Option Obj} {s : Shared} (h : ∀ a, g a = s.heap.get? a) : obsY n fa ex tf fn fc g = (hookY n fa ex tf fn fc).obs s := by
  have e : g = s.heap.get? := funext h
  subst e
  rfl
/-! ### what is asked of this top -/
def gAd (K : PySem.W.Frag) (x m : Str) : Addr :=
  match PySem.W.recIn K (He.ma K (He.ga K x) m) "property" with
  | some (.ref g :: _) => g
  | _ => 0
def veB : List Value := [.type "ValueError", .type "Exception", .type "BaseException", .type "object"]
def distB : List Addr → Bool
  | [] => true
  | a :: l => (l.all fun b => !(Nat.beq a b)) && distB l
def eqB (a b : Option Bool) : Bool := decide (a = b)
/-- the maker of BadCopy: where its cell stands -/
def cellB (K : PySem.W.Frag) (f C : Addr) : Bool :=
  match K.lookup f with
  | some ⟨_, _, .func fd, _⟩ => (match fd.closure with
    | [(n, c)] => decide (n = "__class__") && (match K.lookup c with
      | some ⟨_, _, .cell (some (.ref d)), _⟩ => decide (d = C)
      | _ => false) && (match fd.code with
      | .ref cda => (match K.lookup cda with
        | some ⟨_, _, .fields vs, _⟩ => (match vs[2]? with
          | some (PySem.Value.str file _) => decide (file = ("/claim/cut.py" : Str))
          | _ => false)
        | _ => false)
      | _ => false)
    | _ => false)
  | _ => false

def fa0 : List He.Fa := [He.Fa.glo "is_whole", He.Fa.glo "are_states", He.Fa.glo "wrong_in_reads", He.Fa.glo "wrong_in_updates", He.Fa.glo "wrong_in_merge", He.Fa.glo "need_kind", He.Fa.glo "merged_of", He.Fa.glo "is_step", He.Fa.glo "wrong_in_history", He.Fa.glo "need_history", He.Fa.glo "stages_of", He.Fa.glo "heard_of", He.Fa.glo "need_copy", He.Fa.glo "split_pairs", He.Fa.glo "under", He.Fa.glo "_law_mixed"]
def fa1 : List He.Fa := [He.Fa.glo "_law_folded", He.Fa.glo "_law_draw", He.Fa.glo "_law_begun", He.Fa.glo "_law_like", He.Fa.glo "_law_join_table", He.Fa.glo "_law_both_lots", He.Fa.glo "_law_reads", He.Fa.glo "_law_renumbered", He.Fa.glo "_law_holding", He.Fa.glo "_law_any", He.Fa.glo "_law_run", He.Fa.glo "_law_begin_house", He.Fa.glo "_law_split_of", He.Fa.glo "_law_stands", He.Fa.glo "_law_gone_back", He.Fa.glo "_law_gone_on"]
def fa2 : List He.Fa := [He.Fa.glo "_law_step_of", He.Fa.glo "_law_turn", He.Fa.glo "_law_led", He.Fa.glo "_law_twin_of", He.Fa.glo "_law_inner", He.Fa.glo "_law_tried", He.Fa.glo "_law_back_right", He.Fa.glo "_law_hand_right", He.Fa.glo "law", He.Fa.glo "BadCopy", He.Fa.glo "BadKind", He.Fa.glo "BadHistory", He.Fa.glo "BadNumber", He.Fa.glo "TooGreat", He.Fa.glo "Trial", He.Fa.glo "House"]
def fa3 : List He.Fa := [He.Fa.free "KeyError", He.Fa.free "all", He.Fa.free "bool", He.Fa.free "dict", He.Fa.free "enumerate", He.Fa.free "int", He.Fa.free "isinstance", He.Fa.free "len", He.Fa.free "list", He.Fa.free "max", He.Fa.free "min", He.Fa.free "range", He.Fa.free "repr", He.Fa.free "set", He.Fa.free "sorted", He.Fa.free "str"]
def fa4 : List He.Fa := [He.Fa.free "tuple", He.Fa.free "super", He.Fa.int "MOST_STATES" 8, He.Fa.int "MOST_UPDATES" 4, He.Fa.int "MOST_READ" 9, He.Fa.int "MOST_COPIES" 16, He.Fa.int "MOST_STEPS" 60, He.Fa.str "DO" "do", He.Fa.str "HEAR" "hear", He.Fa.cls "Trial", He.Fa.cls "House", He.Fa.noat "Trial" "held_house", He.Fa.noat "Trial" "kept_past", He.Fa.noat "Trial" "kept_later", He.Fa.noat "House" "own_kind", He.Fa.noat "House" "own_many"]
def fa5 : List He.Fa := [He.Fa.noat "House" "past", He.Fa.noat "House" "later", He.Fa.meth "House" "__len__", He.Fa.meth "House" "states", He.Fa.meth "House" "shown", He.Fa.meth "House" "known", He.Fa.meth "House" "split", He.Fa.meth "House" "need_room", He.Fa.meth "House" "keep", He.Fa.meth "House" "do", He.Fa.meth "House" "hear", He.Fa.meth "House" "undo", He.Fa.meth "House" "redo", He.Fa.meth "House" "copy", He.Fa.meth "House" "trial", He.Fa.meth "House" "__eq__"]
def fa6 : List He.Fa := [He.Fa.meth "Trial" "__enter__", He.Fa.meth "Trial" "__exit__", He.Fa.mkr "Trial", He.Fa.mkr "House", He.Fa.keep "BadCopy"]
def fa : List He.Fa := fa0 ++ (fa1 ++ (fa2 ++ (fa3 ++ (fa4 ++ (fa5 ++ (fa6))))))
def ex : List (PySem.W.Frag → Bool) := [
  fun K => He.eqO (PySem.W.findIn K (.ref (He.ga K "House")) "table") (some (some (.ref (He.ma K (He.ga K "House") "table")))),
  fun K => He.eqO (PySem.W.specialIn K (.ref (He.ma K (He.ga K "House") "table")) "__get__") (some (some (.builtin "property.__get__"))),
  fun K => eqB (PySem.W.takesIn K (.ref (He.ma K (He.ga K "House") "table"))) (some true),
  fun K => (match PySem.W.recIn K (He.ma K (He.ga K "House") "table") "property" with | some (.ref g :: _) => decide (g = gAd K "House" "table") | _ => false),
  fun K => He.eqO (PySem.W.findIn K (.ref (He.ga K "House")) "history") (some (some (.ref (He.ma K (He.ga K "House") "history")))),
  fun K => He.eqO (PySem.W.specialIn K (.ref (He.ma K (He.ga K "House") "history")) "__get__") (some (some (.builtin "property.__get__"))),
  fun K => eqB (PySem.W.takesIn K (.ref (He.ma K (He.ga K "House") "history"))) (some true),
  fun K => (match PySem.W.recIn K (He.ma K (He.ga K "House") "history") "property" with | some (.ref g :: _) => decide (g = gAd K "House" "history") | _ => false),
  fun K => He.eqO (PySem.W.findIn K (.ref (He.ga K "House")) "__ne__") (some (some (.builtin "object.__ne__"))),
  fun K => He.eqO (PySem.W.findIn K (.ref (He.ga K "House")) "__class__") (some (some (.builtin "object.__class__"))),
  fun K => He.eqO (PySem.W.specialIn K (.builtin "object.__class__") "__get__") (some (some (.builtin "getset_descriptor.__get__"))),
  fun K => eqB (PySem.W.takesIn K (.builtin "object.__class__")) (some true),
  fun K => eqB (PySem.W.mroIn K (He.ga K "House") (.type "object")) (some true),
  fun K => eqB (PySem.W.kitOne K (.ref (He.ga K "House")) (.ref (He.ga K "House"))) (some true),
  fun K => eqB (PySem.W.kitOne K (.type "tuple") (.ref (He.ga K "House"))) (some false),
  fun K => eqB (PySem.W.kitOne K (.type "int") (.ref (He.ga K "House"))) (some false),
  fun K => eqB (PySem.W.kitOne K (.type "NoneType") (.ref (He.ga K "House"))) (some false),
  fun K => eqB (PySem.W.subIn K (.ref (He.ga K "BadCopy")) (.type "BaseException")) (some true),
  fun K => eqB (PySem.W.subIn K (.ref (He.ga K "BadCopy")) (.type "ValueError")) (some true),
  fun K => He.eqO ((PySem.W.typeIn K (.ref (He.ga K "BadCopy"))).map some) (some (some (.type "type"))),
  fun K => PySem.W.excInitIn K (He.ga K "BadCopy") veB "ValueError.__new__",
  fun K => PySem.W.excOver K (He.ga K "BadCopy") veB,
  fun K => He.eqO (PySem.W.ks_superIn K (He.ga K "BadCopy") (He.ga K "BadCopy") "__init__") (some (some (.builtin "ValueError.__init__"))),
  fun K => He.eqO (PySem.W.findIn K (.ref (He.ga K "BadCopy")) "__init__") (some (some (.ref (He.ma K (He.ga K "BadCopy") "__init__")))),
  fun K => PySem.W.isFn K (.ref (He.ma K (He.ga K "BadCopy") "__init__")),
  fun K => cellB K (He.ma K (He.ga K "BadCopy") "__init__") (He.ga K "BadCopy"),
  fun K => He.eqO (PySem.W.takerIn K (He.ga K "BadCopy") "value") (some none),
  fun K => He.eqO (PySem.W.findIn K (.ref (He.ga K "BadCopy")) "value") (some none),
  fun K => He.eqO (PySem.W.findIn K (.ref (He.ga K "BadCopy")) "__setattr__") (some (some (.builtin "object.__setattr__"))),
  fun K => PySem.W.hasDictIn K (He.ga K "BadCopy")]
  ++ [fun K => He.eqO (PySem.W.nsIn K cStatics "thirdparty.any") (some none),
  fun K => eqB (PySem.W.exmOne K (.ref (He.ga K "BadCopy")) (.ref (He.ga K "BadCopy"))) (some true),
  fun K => eqB (PySem.W.exmOne K (.type "KeyError") (.ref (He.ga K "BadCopy"))) (some false),
  fun K => eqB (PySem.W.exmOne K (.type "KeyError") (.type "KeyError")) (some true),
  fun K => PySem.W.keepIn K (.ref (He.ga K "BadCopy")),
  fun K => eqB (PySem.W.mroIn K (He.ga K "BadCopy") (.ref (He.ga K "BadCopy"))) (some true),
  fun K => distB [(He.cT K ("_law_inner", none)).2, (He.cT K ("_law_tried", none)).2, (He.cT K ("_law_hand_right", none)).2, (He.cT K ("law", none)).2]]
def tf : List He.Defn := [("_law_inner", none), ("_law_tried", none), ("_law_hand_right", none), ("law", none)]
def d_is_whole : DefA := ⟨fun K => He.ga K "is_whole", "is_whole", "is_whole", s_is_whole⟩
def d_are_states : DefA := ⟨fun K => He.ga K "are_states", "are_states", "are_states", s_are_states⟩
def d_wrong_in_reads : DefA := ⟨fun K => He.ga K "wrong_in_reads", "wrong_in_reads", "wrong_in_reads", s_wrong_in_reads⟩
def d_wrong_in_updates : DefA := ⟨fun K => He.ga K "wrong_in_updates", "wrong_in_updates", "wrong_in_updates", s_wrong_in_updates⟩
def d_wrong_in_merge : DefA := ⟨fun K => He.ga K "wrong_in_merge", "wrong_in_merge", "wrong_in_merge", s_wrong_in_merge⟩
def d_need_kind : DefA := ⟨fun K => He.ga K "need_kind", "need_kind", "need_kind", s_need_kind⟩
def d_merged_of : DefA := ⟨fun K => He.ga K "merged_of", "merged_of", "merged_of", s_merged_of⟩
def d_is_step : DefA := ⟨fun K => He.ga K "is_step", "is_step", "is_step", s_is_step⟩
def d_wrong_in_history : DefA := ⟨fun K => He.ga K "wrong_in_history", "wrong_in_history", "wrong_in_history", s_wrong_in_history⟩
def d_need_history : DefA := ⟨fun K => He.ga K "need_history", "need_history", "need_history", s_need_history⟩
def d_stages_of : DefA := ⟨fun K => He.ga K "stages_of", "stages_of", "stages_of", s_stages_of⟩
def d_heard_of : DefA := ⟨fun K => He.ga K "heard_of", "heard_of", "heard_of", s_heard_of⟩
def d_need_copy : DefA := ⟨fun K => He.ga K "need_copy", "need_copy", "need_copy", s_need_copy⟩
def d_split_pairs : DefA := ⟨fun K => He.ga K "split_pairs", "split_pairs", "split_pairs", s_split_pairs⟩
def d_under : DefA := ⟨fun K => He.ga K "under", "under", "under", s_under⟩
def d_Trial___init__ : DefA := ⟨fun K => He.ma K (He.ga K "Trial") "__init__", "__init__", "Trial.__init__", s_Trial___init__⟩
def d_Trial___enter__ : DefA := ⟨fun K => He.ma K (He.ga K "Trial") "__enter__", "__enter__", "Trial.__enter__", s_Trial___enter__⟩
def d_Trial___exit__ : DefA := ⟨fun K => He.ma K (He.ga K "Trial") "__exit__", "__exit__", "Trial.__exit__", s_Trial___exit__⟩
def d_House___init__ : DefA := ⟨fun K => He.ma K (He.ga K "House") "__init__", "__init__", "House.__init__", s_House___init__⟩
def d_House_table : DefA := ⟨fun K => gAd K "House" "table", "table", "House.table", s_House_table⟩
def d_House_history : DefA := ⟨fun K => gAd K "House" "history", "history", "House.history", s_House_history⟩
def d_House___len__ : DefA := ⟨fun K => He.ma K (He.ga K "House") "__len__", "__len__", "House.__len__", s_House___len__⟩
def d_House_states : DefA := ⟨fun K => He.ma K (He.ga K "House") "states", "states", "House.states", s_House_states⟩
def d_House_shown : DefA := ⟨fun K => He.ma K (He.ga K "House") "shown", "shown", "House.shown", s_House_shown⟩
def d_House_known : DefA := ⟨fun K => He.ma K (He.ga K "House") "known", "known", "House.known", s_House_known⟩
def d_House_split : DefA := ⟨fun K => He.ma K (He.ga K "House") "split", "split", "House.split", s_House_split⟩
def d_House_need_room : DefA := ⟨fun K => He.ma K (He.ga K "House") "need_room", "need_room", "House.need_room", s_House_need_room⟩
def d_House_keep : DefA := ⟨fun K => He.ma K (He.ga K "House") "keep", "keep", "House.keep", s_House_keep⟩
def d_House_do : DefA := ⟨fun K => He.ma K (He.ga K "House") "do", "do", "House.do", s_House_do⟩
def d_House_hear : DefA := ⟨fun K => He.ma K (He.ga K "House") "hear", "hear", "House.hear", s_House_hear⟩
def d_House_undo : DefA := ⟨fun K => He.ma K (He.ga K "House") "undo", "undo", "House.undo", s_House_undo⟩
def d_House_redo : DefA := ⟨fun K => He.ma K (He.ga K "House") "redo", "redo", "House.redo", s_House_redo⟩
def d_House_copy : DefA := ⟨fun K => He.ma K (He.ga K "House") "copy", "copy", "House.copy", s_House_copy⟩
def d_House_trial : DefA := ⟨fun K => He.ma K (He.ga K "House") "trial", "trial", "House.trial", s_House_trial⟩
def d_House___eq__ : DefA := ⟨fun K => He.ma K (He.ga K "House") "__eq__", "__eq__", "House.__eq__", s_House___eq__⟩
def d__law_mixed : DefA := ⟨fun K => He.ga K "_law_mixed", "_law_mixed", "_law_mixed", s__law_mixed⟩
def d__law_folded : DefA := ⟨fun K => He.ga K "_law_folded", "_law_folded", "_law_folded", s__law_folded⟩
def d__law_draw : DefA := ⟨fun K => He.ga K "_law_draw", "_law_draw", "_law_draw", s__law_draw⟩
def d__law_begun : DefA := ⟨fun K => He.ga K "_law_begun", "_law_begun", "_law_begun", s__law_begun⟩
def d__law_like : DefA := ⟨fun K => He.ga K "_law_like", "_law_like", "_law_like", s__law_like⟩
def d__law_join_table : DefA := ⟨fun K => He.ga K "_law_join_table", "_law_join_table", "_law_join_table", s__law_join_table⟩
def d__law_both_lots : DefA := ⟨fun K => He.ga K "_law_both_lots", "_law_both_lots", "_law_both_lots", s__law_both_lots⟩
def d__law_reads : DefA := ⟨fun K => He.ga K "_law_reads", "_law_reads", "_law_reads", s__law_reads⟩
def d__law_renumbered : DefA := ⟨fun K => He.ga K "_law_renumbered", "_law_renumbered", "_law_renumbered", s__law_renumbered⟩
def d__law_holding : DefA := ⟨fun K => He.ga K "_law_holding", "_law_holding", "_law_holding", s__law_holding⟩
def d__law_any : DefA := ⟨fun K => He.ga K "_law_any", "_law_any", "_law_any", s__law_any⟩
def d__law_run : DefA := ⟨fun K => He.ga K "_law_run", "_law_run", "_law_run", s__law_run⟩
def d__law_begin_house : DefA := ⟨fun K => He.ga K "_law_begin_house", "_law_begin_house", "_law_begin_house", s__law_begin_house⟩
def d__law_split_of : DefA := ⟨fun K => He.ga K "_law_split_of", "_law_split_of", "_law_split_of", s__law_split_of⟩
def d__law_stands : DefA := ⟨fun K => He.ga K "_law_stands", "_law_stands", "_law_stands", s__law_stands⟩
def d__law_gone_back : DefA := ⟨fun K => He.ga K "_law_gone_back", "_law_gone_back", "_law_gone_back", s__law_gone_back⟩
def d__law_gone_on : DefA := ⟨fun K => He.ga K "_law_gone_on", "_law_gone_on", "_law_gone_on", s__law_gone_on⟩
def d__law_step_of : DefA := ⟨fun K => He.ga K "_law_step_of", "_law_step_of", "_law_step_of", s__law_step_of⟩
def d__law_turn : DefA := ⟨fun K => He.ga K "_law_turn", "_law_turn", "_law_turn", s__law_turn⟩
def d__law_led : DefA := ⟨fun K => He.ga K "_law_led", "_law_led", "_law_led", s__law_led⟩
def d__law_twin_of : DefA := ⟨fun K => He.ga K "_law_twin_of", "_law_twin_of", "_law_twin_of", s__law_twin_of⟩
def d__law_inner : DefA := ⟨fun K => He.ga K "_law_inner", "_law_inner", "_law_inner", s__law_inner⟩
def d__law_tried : DefA := ⟨fun K => He.ga K "_law_tried", "_law_tried", "_law_tried", s__law_tried⟩
def d__law_back_right : DefA := ⟨fun K => He.ga K "_law_back_right", "_law_back_right", "_law_back_right", s__law_back_right⟩
def d__law_hand_right : DefA := ⟨fun K => He.ga K "_law_hand_right", "_law_hand_right", "_law_hand_right", s__law_hand_right⟩
def d_law : DefA := ⟨fun K => He.ga K "law", "law", "law", s_law⟩
def fn : List DefA := [d_is_whole, d_are_states, d_wrong_in_reads, d_wrong_in_updates, d_wrong_in_merge, d_need_kind, d_merged_of, d_is_step, d_wrong_in_history, d_need_history, d_stages_of, d_heard_of, d_need_copy, d_split_pairs, d_under, d_Trial___init__, d_Trial___enter__, d_Trial___exit__, d_House___init__, d_House_table, d_House_history, d_House___len__, d_House_states, d_House_shown, d_House_known, d_House_split, d_House_need_room, d_House_keep, d_House_do, d_House_hear, d_House_undo, d_House_redo, d_House_copy, d_House_trial, d_House___eq__]
  ++ [d__law_mixed, d__law_folded, d__law_draw, d__law_begun, d__law_like, d__law_join_table, d__law_both_lots, d__law_reads, d__law_renumbered, d__law_holding, d__law_any, d__law_run, d__law_begin_house, d__law_split_of, d__law_stands, d__law_gone_back, d__law_gone_on, d__law_step_of, d__law_turn, d__law_led, d__law_twin_of, d__law_inner, d__law_tried, d__law_back_right, d__law_hand_right, d_law]
def fc : List DefA := [⟨fun K => He.ma K (He.ga K "BadCopy") "__init__", "__init__", "BadCopy.__init__", s_BadCopy___init__⟩]
def loose1 : List Str := ["__name__", "CopyError", "BadKind", "BadHistory", "BadCopy", "BadNumber", "TooGreat", "MOST_STATES", "MOST_UPDATES", "MOST_READ", "is_whole", "are_states", "wrong_in_reads", "wrong_in_updates", "wrong_in_merge", "need_kind", "merged_of", "MOST_COPIES", "MOST_STEPS", "DO", "HEAR", "is_step", "wrong_in_history", "need_history", "stages_of", "heard_of", "need_copy", "split_pairs", "under", "Trial"]
def loose2 : List Str := ["House", "_law_mixed", "_law_folded", "_law_draw", "_law_begun", "_law_like", "_law_join_table", "_law_both_lots", "_law_reads", "_law_renumbered", "_law_holding", "_law_any", "_law_run", "_law_begin_house", "_law_split_of", "_law_stands", "_law_gone_back", "_law_gone_on", "_law_step_of", "_law_turn", "_law_led", "_law_twin_of", "_law_inner", "_law_tried", "_law_back_right", "_law_hand_right"]
def loose : List Str := loose1 ++ loose2
abbrev hk : PySem.W.Hook := hookY 5 fa ex tf fn fc
def ob (s : PySem.W.SharedT) : AlY := obsY 5 fa ex tf fn fc (HandSHeadRun.getT s)
theorem ob_eq (s : PySem.W.SharedT) : ob s = hk.obs s.abs := obsY_eq (HandSHeadRun.getT_eq s)
end W9
set_option maxHeartbeats 0
namespace W9
open PySem PySem.Spec PyProof.Rows L2
theorem run (w : World) : HandSHeadRun.RunEq R (PySem.W.view R.prog [60]) hk ob 40000 loose w := by
  intro os
  kernel_rfl
end W9
set_option maxHeartbeats 4000000
/-! data: leaves and tuples, as they stand in the heap; what an expression gives, told by data alone -/
namespace W9
open PySem PySem.Spec PyProof.Rows L2

inductive Dt where
  | v (x : V)
  | tup (l : List Dt)
abbrev di (i : Int) : Dt := .v (.int i)
abbrev db (b : Bool) : Dt := .v (.bl b)
abbrev ds (s : Str) : Dt := .v (.str s)
abbrev dr (a : Addr) : Dt := .v (.ref a)
abbrev dnon : Dt := .v .non

mutual
inductive TD (H : Hp) : V → Dt → Prop
  | leaf (x : V) : TD H x (.v x)
  | tup {a : Addr} {xs : List V} {l : List Dt} : H a = some (.tup xs) → TDs H xs l → TD H (.ref a) (.tup l)
inductive TDs (H : Hp) : List V → List Dt → Prop
  | nil : TDs H [] []
  | cons {x : V} {xs : List V} {d : Dt} {l : List Dt} : TD H x d → TDs H xs l → TDs H (x :: xs) (d :: l)
end
/-- all tuples stay -/
def ExT (H H' : Hp) : Prop := ∀ a xs, H a = some (.tup xs) → H' a = some (.tup xs)
theorem ExT.refl (H : Hp) : ExT H H := fun _ _ h => h
theorem ExT.trans {H H1 H2 : Hp} (a : ExT H H1) (b : ExT H1 H2) : ExT H H2 := fun x o h => b x o (a x o h)
/-- all that is tracked stays -/
abbrev Ex (H H' : Hp) : Prop := Same H H'
theorem Ex.t {H H' : Hp} (e : Ex H H') : ExT H H' := fun a xs h => e a _ h
theorem ex_new {H : Hp} {p : Addr} {o : HO} (h : H p = none) : Ex H (upd H p o) := fun a u e => by
  rw [upd_ne (ne_of_none e h)]
  exact e
theorem ex_mut {H H' : Hp} {p : Addr} {o : HO} (e : Ex H H') (h : H p = none) : Ex H (upd H' p o) := fun a u q => by
  rw [upd_ne (ne_of_none q h)]
  exact e a u q
theorem ext_mut {H : Hp} {p : Addr} {o u : HO} (h : H p = some u) (n : ∀ xs, u ≠ .tup xs) : ExT H (upd H p o) := fun a xs q => by
  by_cases e : a = p
  · subst e
    rw [h] at q
    exact absurd (Option.some.inj q) (n xs)
  · rw [upd_ne e]
    exact q
mutual
theorem TD.ext {H H' : Hp} (e : ExT H H') : ∀ {x : V} {d : Dt}, TD H x d → TD H' x d
  | _, _, .leaf x => .leaf x
  | _, _, .tup h r => .tup (e _ _ h) (TDs.ext e r)
theorem TDs.ext {H H' : Hp} (e : ExT H H') : ∀ {xs : List V} {l : List Dt}, TDs H xs l → TDs H' xs l
  | _, _, .nil => .nil
  | _, _, .cons h r => .cons (TD.ext e h) (TDs.ext e r)
end
section
variable {H : Hp} {x y : V} {xs ys : List V} {d e : Dt} {l m : List Dt}
theorem TD.v_eq (h : TD H x (.v y)) : x = y := by
  cases h
  rfl
theorem TD.tup_of (h : TD H x (.tup l)) : ∃ a xs, x = .ref a ∧ H a = some (.tup xs) ∧ TDs H xs l := by
  cases h with
  | tup h r => exact ⟨_, _, rfl, h, r⟩
theorem TDs.length (h : TDs H xs l) : xs.length = l.length := by
  induction l generalizing xs with
  | nil => cases h; rfl
  | cons d l ih =>
    cases h with
    | cons a r => rw [List.length_cons, List.length_cons, ih r]
theorem TDs.get (h : TDs H xs l) {i : Nat} (q : l[i]? = some d) : ∃ x, xs[i]? = some x ∧ TD H x d := by
  induction l generalizing xs i with
  | nil => simp at q
  | cons e l ih =>
    cases h with
    | cons a r =>
      cases i with
      | zero =>
        simp at q
        subst q
        exact ⟨_, rfl, a⟩
      | succ i => exact ih r (by simpa using q)
theorem TDs.got (h : TDs H xs l) {i : Nat} (q : xs[i]? = some x) : ∃ d, l[i]? = some d ∧ TD H x d := by
  induction l generalizing xs i with
  | nil => cases h; simp at q
  | cons e l ih =>
    cases h with
    | cons a r =>
      cases i with
      | zero =>
        simp at q
        subst q
        exact ⟨_, rfl, a⟩
      | succ i => exact ih r (by simpa using q)
theorem TDs.append (h : TDs H xs l) (h' : TDs H ys m) : TDs H (xs ++ ys) (l ++ m) := by
  induction l generalizing xs with
  | nil => cases h; exact h'
  | cons d l ih =>
    cases h with
    | cons a r => exact .cons a (ih r)
theorem TDs.take (h : TDs H xs l) (n : Nat) : TDs H (xs.take n) (l.take n) := by
  induction l generalizing xs n with
  | nil => cases h; simpa using TDs.nil
  | cons d l ih =>
    cases h with
    | cons a r =>
      cases n with
      | zero => exact .nil
      | succ n => exact .cons a (ih r n)
theorem TDs.drop (h : TDs H xs l) (n : Nat) : TDs H (xs.drop n) (l.drop n) := by
  induction l generalizing xs n with
  | nil => cases h; simpa using TDs.nil
  | cons d l ih =>
    cases h with
    | cons a r =>
      cases n with
      | zero => exact .cons a r
      | succ n => exact ih r n
theorem TDs.set (h : TDs H xs l) (i : Nat) (q : TD H x d) : TDs H (xs.set i x) (l.set i d) := by
  induction l generalizing xs i with
  | nil => cases h; exact .nil
  | cons e l ih =>
    cases h with
    | cons a r =>
      cases i with
      | zero => exact .cons q r
      | succ i => exact .cons a (ih r i)
theorem TDs.rep (h : TDs H xs l) (n : Nat) : TDs H (List.replicate n xs).flatten (List.replicate n l).flatten := by
  induction n with
  | zero => exact .nil
  | succ n ih =>
    rw [List.replicate_succ, List.flatten_cons, List.replicate_succ, List.flatten_cons]
    exact h.append ih
theorem TDs.eraseIdx (h : TDs H xs l) (i : Nat) : TDs H (xs.eraseIdx i) (l.eraseIdx i) := by
  induction l generalizing xs i with
  | nil => cases h; exact .nil
  | cons e l ih =>
    cases h with
    | cons a r =>
      cases i with
      | zero => exact r
      | succ i => exact .cons a (ih r i)
theorem TDs.leaves : ∀ vs : List V, TDs H vs (vs.map .v)
  | [] => .nil
  | x :: vs => .cons (.leaf x) (TDs.leaves vs)
theorem TDs.ofLeaves {vs : List V} (h : TDs H xs (vs.map .v)) : xs = vs := by
  induction vs generalizing xs with
  | nil => cases h; rfl
  | cons v vs ih =>
    cases h with
    | cons a r =>
      rw [a.v_eq, ih r]
/-- a list whose items are data -/
def LstAt (H : Hp) (a : Addr) (l : List Dt) : Prop := ∃ xs, H a = some (.lst xs) ∧ TDs H xs l
theorem LstAt.ext {H' : Hp} {a : Addr} (e : Ex H H') (h : LstAt H a l) : LstAt H' a l := by
  obtain ⟨xs, h1, h2⟩ := h
  exact ⟨xs, e _ _ h1, h2.ext e.t⟩
/-- it stays where it is not written and tuples stay -/
theorem LstAt.keep {H' : Hp} {a : Addr} (h : LstAt H a l) (e : H' a = H a) (t : ExT H H') : LstAt H' a l := by
  obtain ⟨xs, h1, h2⟩ := h
  exact ⟨xs, e.trans h1, h2.ext t⟩
end

/-! ### what the slots hold -/
abbrev Cxt := List (Option Dt)
structure Sl (σ : L2.St) (H : Hp) (Γ : Cxt) : Prop where
  len : σ.length = Γ.length
  at_ : ∀ (i : Nat) (d : Dt), Γ[i]? = some (some d) → ∃ x, σ[i]? = some (some x) ∧ TD H x d
def wipeC (Γ : Cxt) : List Nat → Cxt
  | [] => Γ
  | v :: vs => (wipeC Γ vs).set v none
section
variable {σ : L2.St} {H H' : Hp} {Γ : Cxt} {d : Dt} {x : V} {i : Nat}
theorem Sl.ext (e : ExT H H') (s : Sl σ H Γ) : Sl σ H' Γ := ⟨s.len, fun i d q => by
  obtain ⟨x, h1, h2⟩ := s.at_ i d q
  exact ⟨x, h1, h2.ext e⟩⟩
theorem Sl.set (s : Sl σ H Γ) (h : TD H x d) (i : Nat) : Sl (σ.set i (some x)) H (Γ.set i (some d)) := ⟨by rw [List.length_set, List.length_set, s.len], fun j e q => by
  have hl := s.len
  rw [List.getElem?_set] at q
  rw [List.getElem?_set]
  by_cases hij : i = j
  · rw [if_pos hij] at q ⊢
    by_cases hj : i < Γ.length
    · rw [if_pos (by omega)] at q
      rw [if_pos (by omega)]
      cases Option.some.inj (Option.some.inj q)
      exact ⟨x, rfl, h⟩
    · rw [if_neg (by omega)] at q
      cases q
  · rw [if_neg hij] at q ⊢
    exact s.at_ j e q⟩
theorem Sl.clr (s : Sl σ H Γ) (i : Nat) : Sl (σ.set i none) H (Γ.set i none) := ⟨by rw [List.length_set, List.length_set, s.len], fun j e q => by
  have hl := s.len
  rw [List.getElem?_set] at q
  rw [List.getElem?_set]
  by_cases hij : i = j
  · rw [if_pos hij] at q
    by_cases hj : i < Γ.length
    · rw [if_pos (by omega)] at q
      cases Option.some.inj q
    · rw [if_neg (by omega)] at q
      cases q
  · rw [if_neg hij] at q ⊢
    exact s.at_ j e q⟩
/-- less is told -/
theorem Sl.less {Γ' : Cxt} (s : Sl σ H Γ) (hl : Γ'.length = Γ.length) (h : ∀ (i : Nat) d, Γ'[i]? = some (some d) → Γ[i]? = some (some d)) : Sl σ H Γ' :=
  ⟨s.len.trans hl.symm, fun i d q => s.at_ i d (h i d q)⟩
theorem Sl.wipe (s : Sl σ H Γ) : ∀ vs : List Nat, Sl (wipe σ vs) H (wipeC Γ vs)
  | [] => s
  | v :: vs => (Sl.wipe s vs).clr v
theorem wipe_at (σ : L2.St) : ∀ (vs : List Nat) (j : Nat), (wipe σ vs)[j]? = if j ∈ vs ∧ j < σ.length then some none else σ[j]?
  | [], j => by simp [L2.wipe]
  | v :: vs, j => by
    show ((L2.wipe σ vs).set v none)[j]? = _
    rw [List.getElem?_set, wipe_at σ vs j, wipe_length]
    by_cases hv : v = j
    · subst hv
      rw [if_pos rfl]
      by_cases hl : v < σ.length
      · rw [if_pos hl, if_pos ⟨List.mem_cons_self, hl⟩]
      · rw [if_neg hl, if_neg (fun z => hl z.2)]
        exact (List.getElem?_eq_none (by omega)).symm
    · rw [if_neg hv]
      have : (j ∈ v :: vs ∧ j < σ.length) ↔ (j ∈ vs ∧ j < σ.length) := by
        simp [List.mem_cons, Ne.symm hv]
      simp only [this]
theorem wipe_back (σ : L2.St) (vs : List Nat) (τ : L2.St) (hl : τ.length = σ.length) (h : ∀ j, j ∉ vs → τ[j]? = (wipe σ vs)[j]?) : wipe τ vs = wipe σ vs := by
  refine List.ext_getElem? fun j => ?_
  rw [wipe_at, wipe_at, hl]
  by_cases hj : j ∈ vs ∧ j < σ.length
  · rw [if_pos hj, if_pos hj]
  · rw [if_neg hj, if_neg hj]
    by_cases hm : j ∈ vs
    · have : ¬ j < σ.length := fun z => hj ⟨hm, z⟩
      rw [List.getElem?_eq_none (by omega), List.getElem?_eq_none (by omega)]
    · rw [h j hm, wipe_at, if_neg (fun z => hm z.1)]
theorem wipe_set (σ : L2.St) (vs : List Nat) {i : Nat} (a : Option V) (hi : i ∈ vs) : wipe ((wipe σ vs).set i a) vs = wipe σ vs := by
  refine wipe_back σ vs _ (by rw [List.length_set, wipe_length]) fun j hj => ?_
  rw [List.getElem?_set, if_neg (fun e : i = j => hj (e ▸ hi))]
theorem wipe_set2 (σ : L2.St) (vs : List Nat) {i k : Nat} (a b : Option V) (hi : i ∈ vs) (hk : k ∈ vs) : wipe (((wipe σ vs).set i a).set k b) vs = wipe σ vs := by
  refine wipe_back σ vs _ (by rw [List.length_set, List.length_set, wipe_length]) fun j hj => ?_
  rw [List.getElem?_set, if_neg (fun e : k = j => hj (e ▸ hk)), List.getElem?_set, if_neg (fun e : i = j => hj (e ▸ hi))]
end

/-! ### what is said of the heap, and stays where objects are only made -/
class Stb (P : Hp → Prop) : Prop where
  ext : ∀ {H H' : Hp}, Ex H H' → P H → P H'
instance {H0 : Hp} : Stb (fun H => Ex H0 H) := ⟨fun e h => h.trans e⟩
instance {H0 : Hp} : Stb (Same H0) := ⟨fun e h => h.trans e⟩
instance {H0 : Hp} : Stb (fun H => ExT H0 H) := ⟨fun e h => h.trans e.t⟩
instance {A B : Hp → Prop} [Stb A] [Stb B] : Stb (fun H => A H ∧ B H) := ⟨fun e h => ⟨Stb.ext e h.1, Stb.ext e h.2⟩⟩
instance {c : Prop} : Stb (fun _ => c) := ⟨fun _ h => h⟩
instance {a : Addr} {l : List Dt} : Stb (fun H => LstAt H a l) := ⟨fun e h => h.ext e⟩
instance {x : V} {d : Dt} : Stb (fun H => TD H x d) := ⟨fun e h => h.ext e.t⟩
instance {xs : List V} {l : List Dt} : Stb (fun H => TDs H xs l) := ⟨fun e h => h.ext e.t⟩
instance {a : Addr} {o : HO} : Stb (fun H => H a = some o) := ⟨fun e h => e _ _ h⟩
instance {α : Type} {A : α → Hp → Prop} [∀ x, Stb (A x)] : Stb (fun H => ∃ x, A x H) := ⟨fun e h => h.elim fun x q => ⟨x, Stb.ext e q⟩⟩

/-! ### what an expression, a test, an argument list gives: it only makes objects -/
def Pu (te : TE) (Γ : Cxt) (P : Hp → Prop) (d : Dt) : Prop :=
  ∀ (σ : L2.St) (H : Hp), Sl σ H Γ → P H → ∀ Q : VK, (∀ x H', Ex H H' → TD H' x d → Q x H') → te σ H Q
def PuT (tt : TT) (Γ : Cxt) (P : Hp → Prop) (b : Bool) : Prop :=
  ∀ (σ : L2.St) (H : Hp), Sl σ H Γ → P H → ∀ Q : Bool → Hp → Prop, (∀ H', Ex H H' → Q b H') → tt σ H Q
def PuA (ta : TA) (Γ : Cxt) (P : Hp → Prop) (l : List Dt) : Prop :=
  ∀ (σ : L2.St) (H : Hp), Sl σ H Γ → P H → ∀ Q : List V → Hp → Prop, (∀ xs H', Ex H H' → TDs H' xs l → Q xs H') → ta σ H Q
/-- a new list -/
def PuL (te : TE) (Γ : Cxt) (P : Hp → Prop) (l : List Dt) : Prop :=
  ∀ (σ : L2.St) (H : Hp), Sl σ H Γ → P H → ∀ Q : VK, (∀ p H', H p = none → Ex H H' → LstAt H' p l → Q (.ref p) H') → te σ H Q
def PuO (to : TO) (Γ : Cxt) (P : Hp → Prop) (o : Option Int) : Prop :=
  ∀ (σ : L2.St) (H : Hp), Sl σ H Γ → P H → ∀ Q : Option Int → Hp → Prop, (∀ H', Ex H H' → Q o H') → to σ H Q
/-- an operation on two values, on one, a call of values -/
def RV (r : R2) (P : Hp → Prop) (d e f : Dt) : Prop :=
  ∀ (H : Hp) (x y : V), P H → TD H x d → TD H y e → ∀ Q : VK, (∀ z H', Ex H H' → TD H' z f → Q z H') → r x y H Q
def RU (r : V → Hp → VK → Prop) (P : Hp → Prop) (d f : Dt) : Prop :=
  ∀ (H : Hp) (x : V), P H → TD H x d → ∀ Q : VK, (∀ z H', Ex H H' → TD H' z f → Q z H') → r x H Q
def RC (r : List V → Hp → VK → Prop) (P : Hp → Prop) (l : List Dt) (f : Dt) : Prop :=
  ∀ (H : Hp) (xs : List V), P H → TDs H xs l → ∀ Q : VK, (∀ z H', Ex H H' → TD H' z f → Q z H') → r xs H Q
def RCL (r : List V → Hp → VK → Prop) (P : Hp → Prop) (l m : List Dt) : Prop :=
  ∀ (H : Hp) (xs : List V), P H → TDs H xs l → ∀ Q : VK, (∀ p H', H p = none → Ex H H' → LstAt H' p m → Q (.ref p) H') → r xs H Q
section
variable {Γ : Cxt} {P : Hp → Prop} {ta tb tc te : TE} {t u : TT} {d e f : Dt} {r : R2} {l m : List Dt} {tr : TA} {b c : Bool} {D : Ends} {σ : L2.St} {H : Hp}
theorem Pu.is (h : Pu te Γ P d) (q : d = e) : Pu te Γ P e := q ▸ h
theorem PuT.is (h : PuT t Γ P b) (q : b = c) : PuT t Γ P c := q ▸ h
theorem PuL.is (h : PuL te Γ P l) (q : l = m) : PuL te Γ P m := q ▸ h
theorem pu_var {i : Nat} (h : Γ[i]? = some (some d)) : Pu (tVar i) Γ P d := fun σ H s _ Q q => by
  obtain ⟨x, h1, h2⟩ := s.at_ i d h
  exact ⟨x, h1, q x H (Same.refl H) h2⟩
theorem pu_c {x : V} : Pu (tC x) Γ P (.v x) := fun σ H _ _ Q q => q x H (Same.refl H) (.leaf x)
theorem pu_op [Stb P] (ha : Pu ta Γ P d) (hb : Pu tb Γ P e) (hr : RV r P d e f) : Pu (tOp r ta tb) Γ P f := fun σ H s p Q q =>
  ha σ H s p _ fun x H1 e1 h1 => hb σ H1 (s.ext e1.t) (Stb.ext e1 p) _ fun y H2 e2 h2 =>
    hr H2 x y (Stb.ext e2 (Stb.ext e1 p)) (h1.ext e2.t) h2 _ fun z H3 e3 h3 => q z H3 ((e1.trans e2).trans e3) h3
theorem pu_un [Stb P] {r : V → Hp → VK → Prop} (ha : Pu ta Γ P d) (hr : RU r P d f) : Pu (tUn r ta) Γ P f := fun σ H s p Q q =>
  ha σ H s p _ fun x H1 e1 h1 => hr H1 x (Stb.ext e1 p) h1 _ fun z H3 e3 h3 => q z H3 (e1.trans e3) h3
theorem pu_if [Stb P] (h : PuT t Γ P b) (h1 : b = true → Pu ta Γ P d) (h2 : b = false → Pu tb Γ P d) : Pu (tIf t ta tb) Γ P d := fun σ H s p Q q =>
  h σ H s p _ fun H1 e1 => by
    cases b with
    | true => exact h1 rfl σ H1 (s.ext e1.t) (Stb.ext e1 p) Q fun x H2 e2 => q x H2 (e1.trans e2)
    | false => exact h2 rfl σ H1 (s.ext e1.t) (Stb.ext e1 p) Q fun x H2 e2 => q x H2 (e1.trans e2)
theorem pu_ifT [Stb P] (h : PuT t Γ P true) (h1 : Pu ta Γ P d) : Pu (tIf t ta tb) Γ P d := pu_if h (fun _ => h1) (fun z => nomatch z)
theorem pu_ifF [Stb P] (h : PuT t Γ P false) (h1 : Pu tb Γ P d) : Pu (tIf t ta tb) Γ P d := pu_if h (fun z => nomatch z) (fun _ => h1)
theorem pu_andV [Stb P] (h : Pu ta Γ P (db b)) (h1 : b = true → Pu tb Γ P (db c)) : Pu (tAndV ta tb) Γ P (db (b && c)) := fun σ H s p Q q =>
  h σ H s p _ fun x H1 e1 h1' => ⟨b, h1'.v_eq, by
    cases b with
    | true =>
      rw [if_pos rfl]
      exact h1 rfl σ H1 (s.ext e1.t) (Stb.ext e1 p) Q fun x H2 e2 => q x H2 (e1.trans e2)
    | false =>
      rw [if_neg Bool.false_ne_true]
      exact q _ H1 e1 (.leaf _)⟩
theorem pu_orV [Stb P] (h : Pu ta Γ P (db b)) (h1 : b = false → Pu tb Γ P (db c)) : Pu (tOrV ta tb) Γ P (db (b || c)) := fun σ H s p Q q =>
  h σ H s p _ fun x H1 e1 h1' => ⟨b, h1'.v_eq, by
    cases b with
    | false =>
      rw [if_neg Bool.false_ne_true]
      exact h1 rfl σ H1 (s.ext e1.t) (Stb.ext e1 p) Q fun x H2 e2 => q x H2 (e1.trans e2)
    | true =>
      rw [if_pos rfl]
      exact q _ H1 e1 (.leaf _)⟩
theorem pu_notV (h : Pu ta Γ P (db b)) : Pu (tNotV ta) Γ P (db (!b)) := fun σ H s p Q q =>
  h σ H s p _ fun x H1 e1 h1 => ⟨b, h1.v_eq, q _ H1 e1 (.leaf _)⟩
theorem pt_test (h : Pu ta Γ P (db b)) : PuT (tTest ta) Γ P b := fun σ H s p Q q => h σ H s p _ fun x H1 e1 h1 => ⟨b, h1.v_eq, q H1 e1⟩
theorem pt_B (h : Pu ta Γ P (db b)) : PuT (tB ta) Γ P b := fun σ H s p Q q => h σ H s p _ fun x H1 e1 h1 => ⟨b, h1.v_eq, q H1 e1⟩
theorem pt_nt (h : PuT t Γ P b) : PuT (tNot t) Γ P (!b) := fun σ H s p Q q => h σ H s p _ fun H1 e1 => q H1 e1
theorem pt_and [Stb P] (h : PuT t Γ P b) (h1 : b = true → PuT u Γ P c) : PuT (tAnd t u) Γ P (b && c) := fun σ H s p Q q =>
  h σ H s p _ fun H1 e1 => by
    cases b with
    | true =>
      rw [if_pos rfl]
      exact h1 rfl σ H1 (s.ext e1.t) (Stb.ext e1 p) Q fun H2 e2 => q H2 (e1.trans e2)
    | false =>
      rw [if_neg Bool.false_ne_true]
      exact q H1 e1
theorem pt_or [Stb P] (h : PuT t Γ P b) (h1 : b = false → PuT u Γ P c) : PuT (tOr t u) Γ P (b || c) := fun σ H s p Q q =>
  h σ H s p _ fun H1 e1 => by
    cases b with
    | false =>
      rw [if_neg Bool.false_ne_true]
      exact h1 rfl σ H1 (s.ext e1.t) (Stb.ext e1 p) Q fun H2 e2 => q H2 (e1.trans e2)
    | true =>
      rw [if_pos rfl]
      exact q H1 e1
theorem pa_n : PuA tNil Γ P [] := fun σ H _ _ Q q => q [] H (Same.refl H) .nil
theorem pa_c [Stb P] (h : Pu te Γ P d) (hr : PuA tr Γ P l) : PuA (tCons te tr) Γ P (d :: l) := fun σ H s p Q q =>
  h σ H s p _ fun x H1 e1 h1 => hr σ H1 (s.ext e1.t) (Stb.ext e1 p) _ fun xs H2 e2 h2 => q _ H2 (e1.trans e2) (.cons (h1.ext e2.t) h2)
theorem pa_s [Stb P] {K : PySem.W.Frag} (h : Pu te Γ P (.tup m)) (hr : PuA tr Γ P l) : PuA (StX.tStar K te tr) Γ P (m ++ l) := fun σ H s p Q q =>
  h σ H s p _ fun x H1 e1 h1 => by
    obtain ⟨a, xs, rfl, ha, hx⟩ := h1.tup_of
    exact ⟨a, xs, rfl, .inl (SqT.of ha), hr σ H1 (s.ext e1.t) (Stb.ext e1 p) _ fun ys H2 e2 h2 => q _ H2 (e1.trans e2) ((hx.ext e2.t).append h2)⟩
theorem sz_n {n : Nat} (h : n ≤ 100000) : n ≤ sizeLine := Nat.le_trans h (by decide)
theorem sz_lt {n : Nat} (h : n < 100000) : n < sizeLine := Nat.lt_of_lt_of_le h (by decide)
theorem pu_tup (h : PuA tr Γ P l) (hz : l.length ≤ 100000 := by first | decide | (simp; omega)) : Pu (tTup tr) Γ P (.tup l) := fun σ H s p Q q =>
  h σ H s p _ fun xs H1 e1 h1 => ⟨by rw [h1.length]; exact sz_n hz, fun a ha => q _ _ (e1.trans (ex_new ha)) (.tup upd_same (h1.ext (ex_new ha).t))⟩
theorem pl_lst (h : PuA tr Γ P l) (hz : l.length ≤ 100000 := by first | decide | (simp; omega)) : PuL (tLst tr) Γ P l := fun σ H s p Q q =>
  h σ H s p _ fun xs H1 e1 h1 => ⟨by rw [h1.length]; exact sz_n hz, fun a ha => q _ _ (e1.free ha) (e1.trans (ex_new ha)) ⟨xs, upd_same, h1.ext (ex_new ha).t⟩⟩
theorem pu_cb [Stb P] {r : List V → Hp → VK → Prop} (h : PuA tr Γ P l) (hr : RC r P l f) : Pu (tCB r tr) Γ P f := fun σ H s p Q q =>
  h σ H s p _ fun xs H1 e1 h1 => hr H1 xs (Stb.ext e1 p) h1 _ fun z H2 e2 h2 => q z H2 (e1.trans e2) h2
theorem pl_cb [Stb P] {r : List V → Hp → VK → Prop} (h : PuA tr Γ P l) (hr : RCL r P l m) : PuL (tCB r tr) Γ P m := fun σ H s p Q q =>
  h σ H s p _ fun xs H1 e1 h1 => hr H1 xs (Stb.ext e1 p) h1 _ fun a H2 ha e2 h2 => q a H2 (e1.free ha) (e1.trans e2) h2
/-- an expression that a new list stands in: what goes on with it -/
theorem PuL.go (h : PuL te Γ P l) (s : Sl σ H Γ) (p : P H) {Q : VK} (q : ∀ a H', H a = none → Ex H H' → LstAt H' a l → Q (.ref a) H') : te σ H Q := h σ H s p Q q
theorem Pu.go (h : Pu te Γ P d) (s : Sl σ H Γ) (p : P H) {Q : VK} (q : ∀ x H', Ex H H' → TD H' x d → Q x H') : te σ H Q := h σ H s p Q q
end
end W9
set_option maxHeartbeats 4000000
/-! operators by several rules at once; what they give on data -/
namespace W9
open PySem PySem.Spec PyProof.Rows L2

theorem opr_or {X : Cx} {f : Value → Value → Sem Value} {r r' : R2} (h : OpR X f r) (h' : OpR X f r') : OpR X f (fun x y H Q => r x y H Q ∨ r' x y H Q) :=
  fun pins s σ H x y v u Q I rx ry q => q.elim (h pins s σ H x y v u Q I rx ry) (h' pins s σ H x y v u Q I rx ry)
/-- t * 1, t a tuple: itself -/
theorem tup_mul1 (l : Addr) (items : Array Value) (n : Nat) (dd : Option Addr) (sl : Array (Option Value)) (u : Tok) :
    Meets (Builtin.«tuple.__mul__» ⟨[.ref l, .int 1 u], []⟩) (fun _ R s => s.heap.get? l = some { cls := .type "tuple", dict := dd, data := .seq items n, slots := sl } ∧ R (.ok (.ret (Value.ref l))) s) :=
  .of_wp fun prog w A R s h => by
    obtain ⟨hp, g, d, tk, os⟩ := s
    obtain ⟨hl, h⟩ := h
    have f1 := AutoSeq1.idx_int
    have c0 : (decide ((1 : Int) < -(2 ^ 63)) || decide ((1 : Int) ≥ 2 ^ 63)) = false := by decide
    have c1 : (items.isEmpty || (1 : Int) == 1) = true := by simp
    wp_walk using wpAny_loadPart' hl
    repeat (first
      | (refine wpAny_ite_false (decide_eq_false (by rw [c0]; exact Bool.false_ne_true)) ?_; wp_walk using wpAny_loadPart' hl)
      | (refine wpAny_ite_true (decide_eq_true c1) ?_; wp_walk using wpAny_loadPart' hl))
    exact ⟨_, rfl, h⟩
/-- t * k, 1 ≤ k -/
def rRepA (K : PySem.W.Frag) : R2 := fun x y H Q => ∃ l k xs, x = .ref l ∧ y = .int k ∧ SqT K H l xs ∧ xs ≠ [] ∧ 1 ≤ k ∧ k ≤ 1000 ∧ xs.length ≤ 1000 ∧
  (k = 1 → Q (.ref l) H) ∧ (2 ≤ k → ∀ p, H p = none → Q (.ref p) (upd H p (.tup (List.replicate k.toNat xs).flatten)))
section
variable {X : Cx}
theorem op_repA : OpR X (binaryOp .Mult) (rRepA X.K) := by
  intro pins s σ H x y v u Q I rx ry h
  obtain ⟨l, k, xs, rfl, rfl, hT, hne, h1, h2, hz, q1, q2⟩ := h
  by_cases hk : k = 1
  · subst hk
    cases rx
    obtain ⟨t, rfl⟩ := ry
    obtain ⟨its, r, ⟨⟨cls, dd, data, sl⟩, ho, hc, n, hd⟩, hs⟩ := I.tuple hT
    simp only at hc hd
    subst hc hd
    refine wpAny_binaryOp_repeat_ref (T := "tuple") (U := "int") (by decide) ⟨_, ho, rfl⟩ (fun s' => typeIs_int s' 1 t) noFill_tuple_mul F.fills_int_mul F.slot_int_rmul repeat_tuple F.slot_int_index.lookup
      (call_meets F.slot_int_rmul (typeIs_int s 1 t) F.entry_int_rmul (F.args_int_rmul_2 _ _) (int_rmul_tuple 1 t l its.toArray n dd sl)
        ⟨ho, rfl, ⟨_, ho, rfl⟩, call_meets F.slot_tuple_mul ⟨_, ho, rfl⟩ F.entry_tuple_mul (F.args_tuple_mul_2 _ _) (tup_mul1 l its.toArray n dd sl t) ⟨ho, ?_⟩⟩)
    exact ⟨.ref l, H, I, rfl, q1 rfl⟩
  · exact op_repT pins s σ H _ _ v u Q I rx ry ⟨l, k, xs, rfl, rfl, hT, hne, by omega, h2, hz, q2 (by omega)⟩
/-- +: two ints, two tuples, two lists -/
def rAdd9 (K : PySem.W.Frag) : R2 := fun x y H Q => (rI0 (fun i j => .int (i + j)) x y H Q ∨ rCatA K x y H Q) ∨ rCat x y H Q
theorem op_add9 : OpR X (binaryOp .Add) (rAdd9 X.K) := opr_or (opr_or op_add op_catA) op_cat
/-- *: two ints, a tuple or a list a number of times -/
def rMul9 (K : PySem.W.Frag) : R2 := fun x y H Q => (rI CMulW (fun i j => .int (i * j)) x y H Q ∨ rRepA K x y H Q) ∨ rRep x y H Q
theorem op_mul9 : OpR X (binaryOp .Mult) (rMul9 X.K) := opr_or (opr_or op_mulW op_repA) op_rep
/-- ==, !=: scalars, data -/
def rEq9 (K : PySem.W.Frag) : R2 := fun x y H Q => rEq x y H Q ∨ rEqD K x y H Q
def rNe9 (K : PySem.W.Frag) : R2 := fun x y H Q => rNe x y H Q ∨ rNeD K x y H Q
theorem op_eq9 (hu : X.A.units + 64 < cLine) : OpR X (compareOp .Eq) (rEq9 X.K) := opr_or op_eq (op_eqD hu)
theorem op_ne9 (hu : X.A.units + 64 < cLine) : OpR X (compareOp .NotEq) (rNe9 X.K) := opr_or op_ne (op_neD hu)
/-- slices of lists and tuples -/
def rSl9 (K : PySem.W.Frag) : V → Option Int → Option Int → Hp → VK → Prop := fun x lo hi H Q => rSlL K x lo hi H Q ∨ rSlA K x lo hi H Q
theorem sl_9 : SlR X (rSl9 X.K) := SlR.or sl_list sl_tupA
end

/-! ### data as the layer's own word for it has it -/
mutual
def Dt.py : Dt → PyData
  | .v .non => .none
  | .v (.bl b) => .bool b
  | .v (.int i) => .int i
  | .v (.str s) => .str s
  | .v _ => .none
  | .tup l => .tuple (pys l)
def pys : List Dt → List PyData
  | [] => []
  | d :: l => d.py :: pys l
end
mutual
/-- ints, texts, bools, None and tuples of them -/
def Dt.pl : Dt → Bool
  | .v .non | .v (.bl _) | .v (.int _) | .v (.str _) => true
  | .v _ => false
  | .tup l => pls l
def pls : List Dt → Bool
  | [] => true
  | d :: l => d.pl && pls l
end
mutual
theorem TD.dp {K : PySem.W.Frag} {H : Hp} : ∀ {x : V} {d : Dt}, TD H x d → d.pl = true → Dp K H x d.py
  | _, _, .leaf x, h => by
    cases x with
    | non => exact .non
    | bl b => exact .bl b
    | int i => exact .int i
    | str s => exact .str s
    | _ => cases h
  | _, _, .tup q r, h => .tup (SqT.of q) (TDs.dps r h)
theorem TDs.dps {K : PySem.W.Frag} {H : Hp} : ∀ {xs : List V} {l : List Dt}, TDs H xs l → pls l = true → DpAll K H xs (pys l)
  | _, _, .nil, _ => .nil
  | _, _, .cons q r, h => by
    have z := Bool.and_eq_true_iff.mp (show (_ && _) = true from h)
    exact .cons (TD.dp q z.1) (TDs.dps r z.2)
end
mutual
/-- no bools: == is equality -/
def Dt.nb : Dt → Bool
  | .v .non | .v (.int _) | .v (.str _) => true
  | .v _ => false
  | .tup l => nbs l
def nbs : List Dt → Bool
  | [] => true
  | d :: l => d.nb && nbs l
end
mutual
theorem Dt.nb_pl : ∀ d : Dt, d.nb = true → d.pl = true
  | .v .non, _ | .v (.int _), _ | .v (.str _), _ => rfl
  | .v (.bl _), h | .v (.byt _), h | .v (.flt _), h | .v (.ref _), h | .v (.ty _), h => by cases h
  | .tup l, h => nbs_pls l h
theorem nbs_pls : ∀ l : List Dt, nbs l = true → pls l = true
  | [], _ => rfl
  | d :: l, h => by
    have z := Bool.and_eq_true_iff.mp (show (_ && _) = true from h)
    show (_ && _) = true
    rw [Dt.nb_pl d z.1, nbs_pls l z.2] <;> rfl
end
mutual
theorem eqv_nb : ∀ d e : Dt, d.nb = true → e.nb = true → (PyData.eqv d.py e.py = true ↔ d = e)
  | .v .non, .v .non, _, _ => by simp [Dt.py, PyData.eqv]
  | .v .non, .v (.int j), _, _ => by simp [Dt.py, PyData.eqv]
  | .v .non, .v (.str j), _, _ => by simp [Dt.py, PyData.eqv]
  | .v .non, .tup m, _, _ => by simp [Dt.py, PyData.eqv]
  | .v (.int i), .v .non, _, _ => by simp [Dt.py, PyData.eqv]
  | .v (.int i), .v (.int j), _, _ => by simp [Dt.py, PyData.eqv]
  | .v (.int i), .v (.str j), _, _ => by simp [Dt.py, PyData.eqv]
  | .v (.int i), .tup m, _, _ => by simp [Dt.py, PyData.eqv]
  | .v (.str i), .v .non, _, _ => by simp [Dt.py, PyData.eqv]
  | .v (.str i), .v (.int j), _, _ => by simp [Dt.py, PyData.eqv]
  | .v (.str i), .v (.str j), _, _ => by simp [Dt.py, PyData.eqv]
  | .v (.str i), .tup m, _, _ => by simp [Dt.py, PyData.eqv]
  | .tup l, .v .non, _, _ => by simp [Dt.py, PyData.eqv]
  | .tup l, .v (.int j), _, _ => by simp [Dt.py, PyData.eqv]
  | .tup l, .v (.str j), _, _ => by simp [Dt.py, PyData.eqv]
  | .tup l, .tup m, h, h' => by
    have z := eqvs_nb l m h h'
    simp only [Dt.py, PyData.eqv, Dt.tup.injEq]
    exact z
  | .v (.bl _), _, h, _ | .v (.byt _), _, h, _ | .v (.flt _), _, h, _ | .v (.ref _), _, h, _ | .v (.ty _), _, h, _ => by cases h
  | .v .non, .v (.bl _), _, h | .v .non, .v (.byt _), _, h | .v .non, .v (.flt _), _, h | .v .non, .v (.ref _), _, h | .v .non, .v (.ty _), _, h => by cases h
  | .v (.int _), .v (.bl _), _, h | .v (.int _), .v (.byt _), _, h | .v (.int _), .v (.flt _), _, h | .v (.int _), .v (.ref _), _, h | .v (.int _), .v (.ty _), _, h => by cases h
  | .v (.str _), .v (.bl _), _, h | .v (.str _), .v (.byt _), _, h | .v (.str _), .v (.flt _), _, h | .v (.str _), .v (.ref _), _, h | .v (.str _), .v (.ty _), _, h => by cases h
  | .tup _, .v (.bl _), _, h | .tup _, .v (.byt _), _, h | .tup _, .v (.flt _), _, h | .tup _, .v (.ref _), _, h | .tup _, .v (.ty _), _, h => by cases h
theorem eqvs_nb : ∀ l m : List Dt, nbs l = true → nbs m = true → (PyData.eqvAll (pys l) (pys m) = true ↔ l = m)
  | [], [], _, _ => by simp [pys, PyData.eqvAll]
  | [], _ :: _, _, _ => by simp [pys, PyData.eqvAll]
  | _ :: _, [], _, _ => by simp [pys, PyData.eqvAll]
  | d :: l, e :: m, h, h' => by
    have z := Bool.and_eq_true_iff.mp (show (_ && _) = true from h)
    have z' := Bool.and_eq_true_iff.mp (show (_ && _) = true from h')
    have a := eqv_nb d e z.1 z'.1
    have b := eqvs_nb l m z.2 z'.2
    simp only [pys, PyData.eqvAll, Bool.and_eq_true, List.cons.injEq, a, b]
end
noncomputable instance : DecidableEq Dt := fun d e => Classical.propDecidable (d = e)
theorem eqv_dec {d e : Dt} (h : d.nb = true) (h' : e.nb = true) : PyData.eqv d.py e.py = decide (d = e) := by
  rw [Bool.eq_iff_iff, decide_eq_true_iff]
  exact eqv_nb d e h h'

/-! ### what the operators give on data -/
theorem atI_td {H : Hp} {xs : List V} {l : List Dt} {i : Int} {d : Dt} (h : TDs H xs l) (q : atI l i = some d) : ∃ x, atI xs i = some x ∧ TD H x d := by
  unfold atI at q ⊢
  rw [h.length]
  cases z : ixN l.length i with
  | none =>
    rw [z] at q
    cases q
  | some j =>
    rw [z] at q
    exact h.get (show l[j]? = some d from q)
theorem atI_n {α : Type} {l : List α} {j : Nat} {d : α} (h : l[j]? = some d) : atI l (j : Int) = some d := by
  have hj : j < l.length := (List.getElem?_eq_some_iff.mp h).1
  unfold atI ixN
  rw [if_pos (by omega), if_pos (by omega)]
  simpa using h
theorem atI_m1 {α : Type} {l : List α} {d : α} (h : l[l.length - 1]? = some d) : atI l (-1) = some d := by
  have hj : l.length - 1 < l.length := (List.getElem?_eq_some_iff.mp h).1
  unfold atI ixN
  rw [if_neg (by omega), if_pos (by omega)]
  have e : ((-1 : Int) + (l.length : Nat)).toNat = l.length - 1 := by omega
  show l[((-1 : Int) + (l.length : Nat)).toNat]? = some d
  rw [e]
  exact h
section
variable {P : Hp → Prop} {K : PySem.W.Frag} {i j : Int} {l m : List Dt} {d e : Dt} {a b : Addr}
theorem rv_i0 {g : Int → Int → V} : RV (rI0 g) P (di i) (di j) (.v (g i j)) := fun H x y _ hx hy Q q =>
  ⟨i, j, hx.v_eq, hy.v_eq, q _ H (Same.refl H) (.leaf _)⟩
theorem rv_i {C : Int → Int → Prop} {g : Int → Int → V} (h : C i j) : RV (rI C g) P (di i) (di j) (.v (g i j)) := fun H x y _ hx hy Q q =>
  ⟨i, j, hx.v_eq, hy.v_eq, h, q _ H (Same.refl H) (.leaf _)⟩
theorem ru_neg : RU (rU fun i => .int (-i)) P (di i) (di (-i)) := fun H x _ hx Q q => ⟨i, hx.v_eq, q _ H (Same.refl H) (.leaf _)⟩
theorem rv_add : RV (rAdd9 K) P (di i) (di j) (di (i + j)) := fun H x y p hx hy Q q => .inl (.inl (rv_i0 H x y p hx hy Q q))
theorem rv_cat (hz : l.length + m.length ≤ 100000) : RV (rAdd9 K) P (.tup l) (.tup m) (.tup (l ++ m)) := fun H x y p hx hy Q q => by
  obtain ⟨a, xs, rfl, ha, hxs⟩ := hx.tup_of
  obtain ⟨b, ys, rfl, hb, hys⟩ := hy.tup_of
  have l1 := hxs.length
  have l2 := hys.length
  refine .inl (.inr ⟨a, b, xs, ys, rfl, rfl, SqT.of ha, SqT.of hb, sz_n (by omega), fun e => ?_, fun _ e => ?_, fun _ _ r hr => ?_⟩)
  · subst e
    cases hxs
    exact q _ H (Same.refl H) (.tup hb hys)
  · subst e
    cases hys
    rw [List.append_nil] at q
    exact q _ H (Same.refl H) (.tup ha hxs)
  · exact q _ _ (ex_new hr) (.tup upd_same ((hxs.append hys).ext (ex_new hr).t))
theorem rv_mul (h : CMulW i j) : RV (rMul9 K) P (di i) (di j) (di (i * j)) := fun H x y p hx hy Q q => .inl (.inl (rv_i h H x y p hx hy Q q))
/-- a tuple of one, a number of times -/
theorem rv_rep1 {k : Nat} (h1 : 1 ≤ k) (h2 : k ≤ 1000) : RV (rMul9 K) P (.tup [d]) (di (k : Int)) (.tup (List.replicate k d)) := fun H x y p hx hy Q q => by
  obtain ⟨a, xs, rfl, ha, hxs⟩ := hx.tup_of
  have l1 := hxs.length
  have ef : (List.replicate k [d]).flatten = List.replicate k d := by
    have z : ∀ n : Nat, (List.replicate n [d]).flatten = List.replicate n d := fun n => by
      induction n with
      | zero => rfl
      | succ n ih => rw [List.replicate_succ, List.flatten_cons, ih, List.replicate_succ]; rfl
    exact z k
  refine .inl (.inr ⟨a, (k : Int), xs, rfl, hy.v_eq, SqT.of ha, fun e => ?_, by omega, by omega, by rw [l1]; exact (by decide : 1 ≤ 1000), fun e => ?_, fun _ r hr => ?_⟩)
  · rw [e] at l1
    cases l1
  · have e1 : k = 1 := by omega
    subst e1
    exact q _ H (Same.refl H) (.tup ha hxs)
  · have z := hxs.rep k
    rw [ef] at z
    refine q _ _ (ex_new hr) (.tup upd_same ?_)
    have e3 : (k : Int).toNat = k := by omega
    rw [e3]
    exact z.ext (ex_new hr).t
theorem rv_ixT (h : atI l i = some d) : RV (rIx K) P (.tup l) (di i) d := fun H x y p hx hy Q q => by
  obtain ⟨a, xs, rfl, ha, hxs⟩ := hx.tup_of
  obtain ⟨z, h1, h2⟩ := atI_td hxs h
  exact .inr (.inl ⟨a, xs, i, z, rfl, hy.v_eq, SqT.of ha, h1, q _ H (Same.refl H) h2⟩)
theorem rv_ixL (hP : ∀ H, P H → LstAt H a l) (h : atI l i = some d) : RV (rIx K) P (dr a) (di i) d := fun H x y p hx hy Q q => by
  obtain ⟨xs, ha, hxs⟩ := hP H p
  obtain ⟨z, h1, h2⟩ := atI_td hxs h
  exact .inl ⟨a, xs, i, z, hx.v_eq, hy.v_eq, SqL.of ha, h1, q _ H (Same.refl H) h2⟩
theorem rv_eqI : RV (rEq9 K) P (di i) (di j) (db (decide (i = j))) := fun H x y p hx hy Q q => by
  cases hx.v_eq
  cases hy.v_eq
  refine .inl ⟨rfl, ?_⟩
  have e : decide (V.int i = V.int j) = decide (i = j) := by rw [dec_int]; exact Bool.beq_eq_decide_eq _ _
  rw [e]
  exact q _ H (Same.refl H) (.leaf _)
theorem rv_eqS {s t : Str} : RV (rEq9 K) P (ds s) (ds t) (db (decide (s = t))) := fun H x y p hx hy Q q => by
  cases hx.v_eq
  cases hy.v_eq
  refine .inl ⟨rfl, ?_⟩
  have e : decide (V.str s = V.str t) = decide (s = t) := by
    by_cases h : s = t
    · subst h; simp
    · have h2 : ¬ V.str s = V.str t := fun z => h (V.str.inj z)
      rw [decide_eq_false h, decide_eq_false h2]
  rw [e]
  exact q _ H (Same.refl H) (.leaf _)
theorem rv_eqB {s t : Bool} : RV (rEq9 K) P (db s) (db t) (db (decide (s = t))) := fun H x y p hx hy Q q => by
  cases hx.v_eq
  cases hy.v_eq
  refine .inl ⟨rfl, ?_⟩
  have e : decide (V.bl s = V.bl t) = decide (s = t) := by
    cases s <;> cases t <;> rfl
  rw [e]
  exact q _ H (Same.refl H) (.leaf _)
theorem rv_eqD (h : d.nb = true) (h' : e.nb = true) (s : SeqAt.shaped d.py = true) (s' : SeqAt.shaped e.py = true) : RV (rEq9 K) P d e (db (decide (d = e))) := fun H x y p hx hy Q q =>
  .inr ⟨d.py, e.py, hx.dp (Dt.nb_pl d h), hy.dp (Dt.nb_pl e h'), s, s', by rw [eqv_dec h h']; exact q _ H (Same.refl H) (.leaf _)⟩
theorem rv_neI : RV (rNe9 K) P (di i) (di j) (db (!decide (i = j))) := fun H x y p hx hy Q q => by
  cases hx.v_eq
  cases hy.v_eq
  refine .inl ⟨rfl, ?_⟩
  have e : decide (V.int i = V.int j) = decide (i = j) := by rw [dec_int]; exact Bool.beq_eq_decide_eq _ _
  rw [e]
  exact q _ H (Same.refl H) (.leaf _)
theorem rv_neB {s t : Bool} : RV (rNe9 K) P (db s) (db t) (db (!decide (s = t))) := fun H x y p hx hy Q q => by
  cases hx.v_eq
  cases hy.v_eq
  refine .inl ⟨rfl, ?_⟩
  have e : decide (V.bl s = V.bl t) = decide (s = t) := by
    cases s <;> cases t <;> rfl
  rw [e]
  exact q _ H (Same.refl H) (.leaf _)
theorem rv_neD (h : d.nb = true) (h' : e.nb = true) (s : SeqAt.shaped d.py = true) (s' : SeqAt.shaped e.py = true) : RV (rNe9 K) P d e (db (!decide (d = e))) := fun H x y p hx hy Q q =>
  .inr ⟨d.py, e.py, hx.dp (Dt.nb_pl d h), hy.dp (Dt.nb_pl e h'), s, s', by rw [eqv_dec h h']; exact q _ H (Same.refl H) (.leaf _)⟩
theorem rv_isB {s t : Bool} : RV rIsB P (db s) (db t) (db (decide (s = t))) := fun H x y p hx hy Q q => ⟨s, t, hx.v_eq, hy.v_eq, q _ H (Same.refl H) (.leaf _)⟩
theorem rv_notB {s t : Bool} : RV rNotB P (db s) (db t) (db (!decide (s = t))) := fun H x y p hx hy Q q => ⟨s, t, hx.v_eq, hy.v_eq, q _ H (Same.refl H) (.leaf _)⟩
end
/-! ### slices -/
def cutD {α : Type} (xs : List α) (lo hi : Option Int) : List α := (xs.drop (HT.sIx xs.length 0 lo)).take (HT.sIx xs.length xs.length hi - HT.sIx xs.length 0 lo)
theorem cut_td {H : Hp} {xs : List V} {l : List Dt} (h : TDs H xs l) (lo hi : Option Int) : TDs H (cutV xs lo hi) (cutD l lo hi) := by
  unfold cutV cutD
  rw [h.length]
  exact (h.drop _).take _
theorem cut_all {α : Type} {xs : List α} {lo hi : Option Int} (h : HT.sIx xs.length 0 lo = 0 ∧ HT.sIx xs.length xs.length hi = xs.length) : cutD xs lo hi = xs := by
  unfold cutD
  rw [h.1, h.2, List.drop_zero, Nat.sub_zero, List.take_length]
theorem cutD_to {α : Type} (xs : List α) (k : Nat) : cutD xs none (some (k : Int)) = xs.take k := by
  unfold cutD
  rw [HT.sIx_none, HT.sIx_nat, List.drop_zero, Nat.sub_zero]
  by_cases h : k ≤ xs.length
  · rw [Nat.min_eq_left h]
  · rw [Nat.min_eq_right (by omega), List.take_length, List.take_of_length_le (by omega)]
theorem cutD_from {α : Type} (xs : List α) (k : Nat) : cutD xs (some (k : Int)) none = xs.drop k := by
  unfold cutD
  rw [HT.sIx_none, HT.sIx_nat]
  by_cases h : k ≤ xs.length
  · rw [Nat.min_eq_left h]
    exact List.take_of_length_le (by rw [List.length_drop]; omega)
  · rw [Nat.min_eq_right (by omega), List.drop_length, List.drop_of_length_le (by omega)] <;> simp
theorem cutD_m1 {α : Type} (xs : List α) : cutD xs (some (-1)) none = xs.drop (xs.length - 1) := by
  unfold cutD
  have e : HT.sIx xs.length 0 (some (-1)) = xs.length - 1 := by
    show (if (-1 : Int) < 0 then ((-1 : Int) + (xs.length : Int)).toNat else min (-1 : Int).toNat xs.length) = _
    rw [if_pos (by decide)]
    omega
  rw [e, HT.sIx_none]
  exact List.take_of_length_le (by rw [List.length_drop]; omega)
theorem cutD_b1 {α : Type} (xs : List α) : cutD xs none (some (-1)) = xs.take (xs.length - 1) := by
  unfold cutD
  have e : HT.sIx xs.length xs.length (some (-1)) = xs.length - 1 := by
    show (if (-1 : Int) < 0 then ((-1 : Int) + (xs.length : Int)).toNat else min (-1 : Int).toNat xs.length) = _
    rw [if_pos (by decide)]
    omega
  rw [e, HT.sIx_none, List.drop_zero, Nat.sub_zero]
section
variable {Γ : Cxt} {P : Hp → Prop} {K : PySem.W.Frag} {te : TE} {tl th : TO} {l : List Dt} {lo hi : Option Int} {i : Int} {a : Addr}
theorem po_no : PuO tNoPart Γ P none := fun σ H _ _ Q q => q H (Same.refl H)
theorem po_so (h : Pu te Γ P (di i)) : PuO (tPart te) Γ P (some i) := fun σ H s p Q q => h σ H s p _ fun x H1 e1 h1 => ⟨i, h1.v_eq, q H1 e1⟩
/-- a slice of a tuple -/
theorem pu_sl [Stb P] (h : Pu te Γ P (.tup l)) (h1 : PuO tl Γ P lo) (h2 : PuO th Γ P hi) : Pu (tSl (rSl9 K) te tl th) Γ P (.tup (cutD l lo hi)) := fun σ H s p Q q =>
  h σ H s p _ fun x H1 e1 hx => h1 σ H1 (s.ext e1.t) (Stb.ext e1 p) _ fun H2 e2 => h2 σ H2 (s.ext (Ex.t (e1.trans e2))) (Stb.ext (e1.trans e2) p) _ fun H3 e3 => by
    obtain ⟨a, xs, rfl, ha, hxs⟩ := (hx.ext (Ex.t (e2.trans e3))).tup_of
    have e0 := (e1.trans e2).trans e3
    refine .inr ⟨a, xs, rfl, SqT.of ha, fun hw => ?_, fun _ r hr => ?_⟩
    · rw [hxs.length] at hw
      rw [cut_all hw] at q
      exact q _ H3 e0 (.tup ha hxs)
    · exact q _ _ (e0.trans (ex_new hr)) (.tup upd_same ((cut_td hxs lo hi).ext (ex_new hr).t))
/-- of a list that stands in the heap: a new list -/
theorem pl_sl [Stb P] (h : Pu te Γ P (dr a)) (hP : ∀ H, P H → LstAt H a l) (h1 : PuO tl Γ P lo) (h2 : PuO th Γ P hi) : PuL (tSl (rSl9 K) te tl th) Γ P (cutD l lo hi) := fun σ H s p Q q =>
  h σ H s p _ fun x H1 e1 hx => h1 σ H1 (s.ext e1.t) (Stb.ext e1 p) _ fun H2 e2 => h2 σ H2 (s.ext (Ex.t (e1.trans e2))) (Stb.ext (e1.trans e2) p) _ fun H3 e3 => by
    have e0 := (e1.trans e2).trans e3
    obtain ⟨xs, ha, hxs⟩ := hP H3 (Stb.ext e0 p)
    exact .inl ⟨a, xs, hx.v_eq, SqL.of ha, fun r hr => q _ _ (e0.free hr) (e0.trans (ex_new hr)) ⟨_, upd_same, (cut_td hxs lo hi).ext (ex_new hr).t⟩⟩
/-- of a new list -/
theorem pl_slL [Stb P] {m : List Dt} (h : PuL te Γ P m) (h1 : ∀ [Stb P], PuO tl Γ P lo) (h2 : PuO th Γ P hi) : PuL (tSl (rSl9 K) te tl th) Γ P (cutD m lo hi) := fun σ H s p Q q =>
  h σ H s p _ fun a H1 ha e1 hx => h1 σ H1 (s.ext e1.t) (Stb.ext e1 p) _ fun H2 e2 => h2 σ H2 (s.ext (Ex.t (e1.trans e2))) (Stb.ext (e1.trans e2) p) _ fun H3 e3 => by
    have e0 := (e1.trans e2).trans e3
    obtain ⟨xs, hb, hxs⟩ := hx.ext (e2.trans e3)
    exact .inl ⟨a, xs, rfl, SqL.of hb, fun r hr => q _ _ (e0.free hr) (e0.trans (ex_new hr)) ⟨_, upd_same, (cut_td hxs lo hi).ext (ex_new hr).t⟩⟩
end
end W9
set_option maxHeartbeats 4000000
/-! statements, loops, comprehensions, calls, told by data -/
namespace W9
open PySem PySem.Spec PyProof.Rows L2

/-! ### statements -/
/-- targets that are names, from the left -/
def gSl : List Nat → TGs
  | [] => gNil
  | i :: is => gCons (gName i) (gSl is)
def setC (Γ : Cxt) : List Nat → List Dt → Cxt
  | i :: is, d :: l => setC (Γ.set i (some d)) is l
  | _, _ => Γ
theorem g_slots {H : Hp} {Q : L2.St → Hp → Prop} : ∀ {is : List Nat} {l : List Dt} {xs : List V} {σ : L2.St} {Γ : Cxt}, TDs H xs l → Sl σ H Γ → is.length = l.length → (∀ σ', Sl σ' H (setC Γ is l) → Q σ' H) → gSl is xs σ H Q
  | [], [], _, σ, Γ, .nil, s, _, q => ⟨rfl, q σ s⟩
  | i :: is, d :: l, _, σ, Γ, .cons (x := x) (xs := xs) h r, s, e, q => ⟨x, xs, rfl, g_slots (is := is) r (s.set h i) (by simpa using e) q⟩
  | [], _ :: _, _, _, _, _, _, e, _ => by simp at e
  | _ :: _, [], _, _, _, _, _, e, _ => by simp at e
section
variable {Γ : Cxt} {P : Hp → Prop} {ta tb te tl : TE} {t : TT} {d e : Dt} {l m : List Dt} {tr : TA} {b : Bool} {D : Ends} {σ : L2.St} {H : Hp} {tu tw : TS} {i : Nat} {K : PySem.W.Frag} {g : TG}
theorem s_asg (h : Pu te Γ P d) (s : Sl σ H Γ) (p : P H) (k : ∀ σ' H', Ex H H' → Sl σ' H' (Γ.set i (some d)) → D.nx σ' H') : tAsg te (gName i) D σ H :=
  h σ H s p _ fun x H1 e1 h1 => k _ H1 e1 ((s.ext e1.t).set h1 i)
theorem s_asgL (h : PuL te Γ P l) (s : Sl σ H Γ) (p : P H) (k : ∀ a σ' H', H a = none → Ex H H' → LstAt H' a l → Sl σ' H' (Γ.set i (some (dr a))) → D.nx σ' H') : tAsg te (gName i) D σ H :=
  h σ H s p _ fun a H1 ha e1 h1 => k a _ H1 ha e1 h1 ((s.ext e1.t).set (.leaf _) i)
theorem s_unp {is : List Nat} {n : Nat} (h : Pu te Γ P (.tup l)) (s : Sl σ H Γ) (p : P H) (hl : is.length = l.length) (hn : l.length = n) (k : ∀ σ' H', Ex H H' → Sl σ' H' (setC Γ is l) → D.nx σ' H') : tAsg te (gTup K n (gSl is)) D σ H :=
  h σ H s p _ fun x H1 e1 h1 => by
    obtain ⟨a, xs, rfl, ha, hxs⟩ := h1.tup_of
    exact ⟨a, xs, rfl, SqT.of ha, by rw [hxs.length, hn], g_slots hxs (s.ext e1.t) hl fun σ' s' => k σ' H1 e1 s'⟩
theorem s_ret (h : Pu te Γ P d) (s : Sl σ H Γ) (p : P H) (k : ∀ x H', Ex H H' → TD H' x d → D.rt x H') : tRet te D σ H := h σ H s p _ k
theorem s_retL (h : PuL te Γ P l) (s : Sl σ H Γ) (p : P H) (k : ∀ a H', H a = none → Ex H H' → LstAt H' a l → D.rt (.ref a) H') : tRet te D σ H := h σ H s p _ k
theorem s_drop (h : Pu te Γ P d) (s : Sl σ H Γ) (p : P H) (k : ∀ H', Ex H H' → D.nx σ H') : tDrop te D σ H := h σ H s p _ fun _ H1 e1 _ => k H1 e1
theorem s_ifT (h : PuT t Γ P true) (s : Sl σ H Γ) (p : P H) (k : ∀ H', Ex H H' → tu D σ H') : tIfS t tu tw D σ H := h σ H s p _ fun H1 e1 => by
  rw [if_pos rfl]
  exact k H1 e1
theorem s_ifF (h : PuT t Γ P false) (s : Sl σ H Γ) (p : P H) (k : ∀ H', Ex H H' → tw D σ H') : tIfS t tu tw D σ H := h σ H s p _ fun H1 e1 => by
  rw [if_neg Bool.false_ne_true]
  exact k H1 e1
theorem s_if (h : PuT t Γ P b) (s : Sl σ H Γ) (p : P H) (k : b = true → ∀ H', Ex H H' → tu D σ H') (k' : b = false → ∀ H', Ex H H' → tw D σ H') : tIfS t tu tw D σ H := by
  cases b with
  | true => exact s_ifT h s p (k rfl)
  | false => exact s_ifF h s p (k' rfl)
theorem s_seq (h : tu { D with nx := tw D } σ H) : tSeq tu tw D σ H := h
theorem s_next (h : D.nx σ H) : tNext D σ H := h

/-! ### for -/
/-- over a tuple: J by the turn, the slots, the heap -/
theorem s_forT (h : Pu tl Γ P (.tup l)) (s : Sl σ H Γ) (p : P H) (J : Nat → L2.St → Hp → Prop) (h0 : ∀ H1, Ex H H1 → J 0 σ H1)
    (hs : ∀ H1, Ex H H1 → ∀ (i : Nat) (d : Dt) σ' H', l[i]? = some d → J i σ' H' → ExT H1 H' → ∀ x, TD H' x d →
      g x σ' H' fun σ2 H2 => tu { D with nx := fun σ3 H3 => J (i + 1) σ3 H3 ∧ ExT H1 H3, ct := fun σ3 H3 => J (i + 1) σ3 H3 ∧ ExT H1 H3, bk := D.nx } σ2 H2)
    (hd : ∀ σ' H', J l.length σ' H' → D.nx σ' H') : tFor (iTup K tl) g tu D σ H :=
  h σ H s p _ fun x H1 e1 h1 => by
    obtain ⟨a, xs, rfl, ha, hxs⟩ := h1.tup_of
    refine ⟨a, rfl, ⟨xs, SqT.of ha⟩, for_tup (xs := xs) (fun i σ' H' => J i σ' H' ∧ ExT H1 H') ⟨h0 H1 e1, ExT.refl _⟩ (fun i σ' H' _ q => SqT.of (q.2 a xs ha)) (fun i y σ' H' hy q => ?_) fun σ' H' q => ?_⟩
    · obtain ⟨d, hd, td⟩ := hxs.got hy
      exact hs H1 e1 i d σ' H' hd q.1 q.2 y (td.ext q.2)
    · rw [hxs.length] at q
      exact hd σ' H' q.1
/-- over range(n) -/
theorem s_forR {n : Nat} (h : PuA tr Γ P [di (n : Int)]) (hn : n ≤ 100000) (s : Sl σ H Γ) (p : P H) (J : Nat → L2.St → Hp → Prop) (h0 : ∀ H1, Ex H H1 → J 0 σ H1)
    (hs : ∀ (k : Nat) σ' H', k < n → J k σ' H' → tu { D with nx := J (k + 1), ct := J (k + 1), bk := D.nx } (σ'.set i (some (.int (k : Int)))) H')
    (hd : ∀ σ' H', J n σ' H' → D.nx σ' H') : tFor (iRng1 tr) (gName i) tu D σ H :=
  h σ H s p _ fun xs H1 e1 h1 => by
    have ex : xs = [.int (n : Int)] := TDs.ofLeaves (vs := [.int (n : Int)]) h1
    refine ⟨(n : Int), ex, by omega, by omega, ?_⟩
    rw [show ((n : Int)).toNat = n by omega]
    refine for_range (lo := 0) (n := n) J (h0 H1 e1) (fun k σ' H' hk q => ?_) hd
    have e0 : (0 : Int) + (k : Int) = (k : Int) := Int.zero_add _
    show tu { D with nx := J (k + 1), ct := J (k + 1), bk := D.nx } (σ'.set i (some (.int ((0 : Int) + (k : Int))))) H'
    rw [e0]
    exact hs k σ' H' hk q
/-- over range(lo, n) -/
theorem s_forR2 {lo n : Nat} (h : PuA tr Γ P [di (lo : Int), di (n : Int)]) (hn : lo ≤ 100000 ∧ n ≤ 100000) (s : Sl σ H Γ) (p : P H) (J : Nat → L2.St → Hp → Prop) (h0 : ∀ H1, Ex H H1 → J 0 σ H1)
    (hs : ∀ (k : Nat) σ' H', lo + k < n → J k σ' H' → tu { D with nx := J (k + 1), ct := J (k + 1), bk := D.nx } (σ'.set i (some (.int ((lo + k : Nat) : Int)))) H')
    (hd : ∀ σ' H', J (n - lo) σ' H' → D.nx σ' H') : tFor (iRng2 tr) (gName i) tu D σ H :=
  h σ H s p _ fun xs H1 e1 h1 => by
    have ex : xs = [.int (lo : Int), .int (n : Int)] := TDs.ofLeaves (vs := [.int (lo : Int), .int (n : Int)]) h1
    refine ⟨(lo : Int), (n : Int), ex, ⟨by omega, by omega, by omega, by omega⟩, ?_⟩
    have ez : ((n : Int) - (lo : Int)).toNat = n - lo := by omega
    rw [ez]
    refine for_range (lo := (lo : Int)) (n := n - lo) J (h0 H1 e1) (fun k σ' H' hk q => ?_) hd
    have e0 : (lo : Int) + (k : Int) = ((lo + k : Nat) : Int) := by omega
    show tu { D with nx := J (k + 1), ct := J (k + 1), bk := D.nx } (σ'.set i (some (.int ((lo : Int) + (k : Int))))) H'
    rw [e0]
    exact hs k σ' H' (by omega) q

/-! ### comprehensions -/
/-- the items of the turns that f takes -/
def giv (n : Nat) (f : Nat → Bool) (v : Nat → Dt) : List Dt := ((List.range n).filter f).map v
theorem giv_yes {n : Nat} {f : Nat → Bool} {v : Nat → Dt} (h : f n = true) : giv (n + 1) f v = giv n f v ++ [v n] := by
  unfold giv
  rw [List.range_succ, List.filter_append, List.map_append, List.filter_cons, if_pos h] <;> rfl
theorem giv_no {n : Nat} {f : Nat → Bool} {v : Nat → Dt} (h : f n = false) : giv (n + 1) f v = giv n f v := by
  unfold giv
  rw [List.range_succ, List.filter_append, List.map_append, List.filter_cons, if_neg (by rw [h]; decide)]
  show _ ++ [] = _
  rw [List.append_nil]
theorem giv_len (n : Nat) (f : Nat → Bool) (v : Nat → Dt) : (giv n f v).length ≤ n := by
  unfold giv
  rw [List.length_map]
  have h := List.length_filter_le f (List.range n)
  rw [List.length_range] at h
  exact h
theorem giv_all (n : Nat) (v : Nat → Dt) : giv n (fun _ => true) v = (List.range n).map v := by
  unfold giv
  rw [List.filter_eq_self.mpr (fun _ _ => rfl)]
theorem giv_none {n : Nat} {f : Nat → Bool} {v : Nat → Dt} (h : ∀ i, i < n → f i = false) : giv n f v = [] := by
  unfold giv
  rw [List.filter_eq_nil_iff.mpr (fun i hi => by rw [h i (List.mem_range.mp hi)]; decide)]
  rfl
/-- what stands at the new list behind i turns -/
def Cw (H : Hp) (f : Nat → Bool) (v : Nat → Dt) (a : Addr) (i : Nat) (H' : Hp) : Prop := H a = none ∧ Ex H H' ∧ LstAt H' a (giv i f v)
theorem cw_0 {H : Hp} {f : Nat → Bool} {v : Nat → Dt} {a : Addr} (ha : H a = none) : Cw H f v a 0 (upd H a (.lst [])) := ⟨ha, ex_new ha, [], upd_same, .nil⟩
theorem cw_turn {H H' : Hp} {f : Nat → Bool} {v : Nat → Dt} {a : Addr} {k : Nat} {σ2 : L2.St} {Γ2 : Cxt} [Stb P] (c : Cw H f v a k H') (p : P H) (s : Sl σ2 H' Γ2) (hk : k < 50000) (ht : PuT t Γ2 P (f k)) (he : f k = true → Pu te Γ2 P (v k)) :
    t σ2 H' fun b H3 => if b = true then te σ2 H3 fun y H4 => ∃ acc, H4 a = some (.lst acc) ∧ acc.length < sizeLine ∧ Cw H f v a (k + 1) (upd H4 a (.lst (acc ++ [y]))) else Cw H f v a (k + 1) H3 := by
  obtain ⟨c1, c2, c3⟩ := c
  refine ht σ2 H' s (Stb.ext c2 p) _ fun H3 e3 => ?_
  cases hf : f k with
  | true =>
    rw [if_pos rfl]
    refine he hf σ2 H3 (s.ext e3.t) (Stb.ext (c2.trans e3) p) _ fun y H4 e4 hy => ?_
    obtain ⟨acc, h1, h2⟩ := (c3.ext e3).ext e4
    refine ⟨acc, h1, sz_lt (by rw [h2.length]; have := giv_len k f v; omega), c1, ex_mut ((c2.trans e3).trans e4) c1, acc ++ [y], upd_same, ?_⟩
    rw [giv_yes hf]
    exact (h2.append (.cons hy .nil)).ext (ext_mut h1 fun _ z => nomatch z)
  | false =>
    rw [if_neg Bool.false_ne_true]
    refine ⟨c1, c2.trans e3, ?_⟩
    rw [giv_no hf]
    exact c3.ext e3
theorem pt_yes : PuT tYes Γ P true := fun σ H _ _ Q q => q H (Same.refl H)
theorem pl_lcT [Stb P] {vs : List Nat} (f : Nat → Bool) (v : Nat → Dt) (hi : i ∈ vs) (h : Pu tl Γ P (.tup l)) (hz : l.length ≤ 40000)
    (ht : ∀ (k : Nat) d, l[k]? = some d → PuT t ((wipeC Γ vs).set i (some d)) P (f k)) (he : ∀ (k : Nat) d, l[k]? = some d → f k = true → Pu te ((wipeC Γ vs).set i (some d)) P (v k)) :
    PuL (tLc (iTup K tl) (gName i) t te vs) Γ P (giv l.length f v) := fun σ H s p Q q =>
  h σ H s p _ fun x H1 e1 h1 => by
    obtain ⟨a, xs, rfl, ha, hxs⟩ := h1.tup_of
    refine ⟨a, rfl, ⟨xs, SqT.of ha⟩, fun A hA => lc_tup (xs := xs) (Cw H1 f v A) (cw_0 hA) (fun k H' _ c => SqT.of (c.2.1 a _ ha)) (fun k y H' hy c => ⟨wipe_set σ vs _ hi, ?_⟩) (fun H' c => ?_)⟩
    · obtain ⟨d, hd, td⟩ := hxs.got hy
      exact cw_turn c (Stb.ext e1 p) (((s.ext (Ex.t (e1.trans c.2.1))).wipe vs).set (td.ext c.2.1.t) i) (by have := (List.getElem?_eq_some_iff.mp hd).1; omega) (ht k d hd) (he k d hd)
    · rw [hxs.length] at c
      exact q A H' (e1.free c.1) (e1.trans c.2.1) c.2.2
theorem pl_lcR [Stb P] {vs : List Nat} {n : Nat} (f : Nat → Bool) (v : Nat → Dt) (hi : i ∈ vs) (h : PuA tr Γ P [di (n : Int)]) (hz : n ≤ 40000)
    (ht : ∀ (k : Nat), k < n → PuT t ((wipeC Γ vs).set i (some (di (k : Int)))) P (f k)) (he : ∀ (k : Nat), k < n → f k = true → Pu te ((wipeC Γ vs).set i (some (di (k : Int)))) P (v k)) :
    PuL (tLc (iRng1 tr) (gName i) t te vs) Γ P (giv n f v) := fun σ H s p Q q =>
  h σ H s p _ fun xs H1 e1 h1 => by
    have ex : xs = [.int (n : Int)] := TDs.ofLeaves (vs := [.int (n : Int)]) h1
    refine ⟨(n : Int), ex, by omega, by omega, ?_⟩
    rw [show ((n : Int)).toNat = n by omega]
    refine fun A hA => lc_range (lo := 0) (n := n) (Cw H1 f v A) (cw_0 hA) (fun k H' hk c => ?_) (fun H' c => q A H' (e1.free c.1) (e1.trans c.2.1) c.2.2)
    have e0 : (0 : Int) + (k : Int) = (k : Int) := Int.zero_add _
    show wipe ((wipe σ vs).set i (some (.int ((0 : Int) + (k : Int))))) vs = wipe σ vs ∧ t ((wipe σ vs).set i (some (.int ((0 : Int) + (k : Int))))) H' _
    rw [e0]
    exact ⟨wipe_set σ vs _ hi, cw_turn c (Stb.ext e1 p) (((s.ext (Ex.t (e1.trans c.2.1))).wipe vs).set (.leaf _) i) (by omega) (ht k hk) (he k hk)⟩
theorem pl_lcR2 [Stb P] {vs : List Nat} {lo n : Nat} (f : Nat → Bool) (v : Nat → Dt) (hi : i ∈ vs) (h : PuA tr Γ P [di (lo : Int), di (n : Int)]) (hz : lo ≤ 40000 ∧ n ≤ 40000)
    (ht : ∀ (k : Nat), lo + k < n → PuT t ((wipeC Γ vs).set i (some (di ((lo + k : Nat) : Int)))) P (f k)) (he : ∀ (k : Nat), lo + k < n → f k = true → Pu te ((wipeC Γ vs).set i (some (di ((lo + k : Nat) : Int)))) P (v k)) :
    PuL (tLc (iRng2 tr) (gName i) t te vs) Γ P (giv (n - lo) f v) := fun σ H s p Q q =>
  h σ H s p _ fun xs H1 e1 h1 => by
    have ex : xs = [.int (lo : Int), .int (n : Int)] := TDs.ofLeaves (vs := [.int (lo : Int), .int (n : Int)]) h1
    refine ⟨(lo : Int), (n : Int), ex, ⟨by omega, by omega, by omega, by omega⟩, ?_⟩
    have ez : ((n : Int) - (lo : Int)).toNat = n - lo := by omega
    rw [ez]
    refine fun A hA => lc_range (lo := (lo : Int)) (n := n - lo) (Cw H1 f v A) (cw_0 hA) (fun k H' hk c => ?_) (fun H' c => q A H' (e1.free c.1) (e1.trans c.2.1) c.2.2)
    have e0 : (lo : Int) + (k : Int) = ((lo + k : Nat) : Int) := by omega
    show wipe ((wipe σ vs).set i (some (.int ((lo : Int) + (k : Int))))) vs = wipe σ vs ∧ t ((wipe σ vs).set i (some (.int ((lo : Int) + (k : Int))))) H' _
    rw [e0]
    exact ⟨wipe_set σ vs _ hi, cw_turn c (Stb.ext e1 p) (((s.ext (Ex.t (e1.trans c.2.1))).wipe vs).set (.leaf _) i) (by omega) (ht k (by omega)) (he k (by omega))⟩
theorem pl_lcL [Stb P] {vs : List Nat} {a : Addr} (f : Nat → Bool) (v : Nat → Dt) (hi : i ∈ vs) (h : Pu tl Γ P (dr a)) (hP : ∀ H, P H → LstAt H a l) (hz : l.length ≤ 40000)
    (ht : ∀ (k : Nat) d, l[k]? = some d → PuT t ((wipeC Γ vs).set i (some d)) P (f k)) (he : ∀ (k : Nat) d, l[k]? = some d → f k = true → Pu te ((wipeC Γ vs).set i (some d)) P (v k)) :
    PuL (tLc (iList K tl) (gName i) t te vs) Γ P (giv l.length f v) := fun σ H s p Q q =>
  h σ H s p _ fun x H1 e1 h1 => by
    obtain ⟨xs, ha, hxs⟩ := hP H1 (Stb.ext e1 p)
    refine ⟨a, h1.v_eq, ⟨xs, SqL.of ha⟩, fun A hA => lc_list (xs := xs) (Cw H1 f v A) (cw_0 hA) (fun k H' _ c => SqL.of (c.2.1 a _ ha)) (fun k y H' hy c => ⟨wipe_set σ vs _ hi, ?_⟩) (fun H' c => ?_)⟩
    · obtain ⟨d, hd, td⟩ := hxs.got hy
      exact cw_turn c (Stb.ext e1 p) (((s.ext (Ex.t (e1.trans c.2.1))).wipe vs).set (td.ext c.2.1.t) i) (by have := (List.getElem?_eq_some_iff.mp hd).1; omega) (ht k d hd) (he k d hd)
    · rw [hxs.length] at c
      exact q A H' (e1.free c.1) (e1.trans c.2.1) c.2.2
end

/-! ### promises by data -/
/-- hands back data -/
def spP (R : List Dt → Dt → Prop) : Sp := fun vs H Q _ => ∃ l d, TDs H vs l ∧ R l d ∧ ∀ x H', Ex H H' → TD H' x d → Q x H'
/-- hands back a new list of data -/
def spL (R : List Dt → List Dt → Prop) : Sp := fun vs H Q _ => ∃ l m, TDs H vs l ∧ R l m ∧ ∀ p H', H p = none → Ex H H' → LstAt H' p m → Q (.ref p) H'
section
variable {Γ : Cxt} {P : Hp → Prop} {tr : TA} {l m : List Dt} {d : Dt} {E : XK}
theorem pu_call {R : List Dt → Dt → Prop} (h : PuA tr Γ P l) (hr : R l d) : Pu (tCall (spP R) [] E tr) Γ P d := fun σ H s p Q q =>
  h σ H s p _ fun xs H1 e1 h1 => ⟨l, d, by rw [List.append_nil]; exact h1, hr, fun x H2 e2 h2 => q x H2 (e1.trans e2) h2⟩
theorem pl_call {R : List Dt → List Dt → Prop} (h : PuA tr Γ P l) (hr : R l m) : PuL (tCall (spL R) [] E tr) Γ P m := fun σ H s p Q q =>
  h σ H s p _ fun xs H1 e1 h1 => ⟨l, m, by rw [List.append_nil]; exact h1, hr, fun a H2 ha e2 h2 => q a H2 (e1.free ha) (e1.trans e2) h2⟩
/-- the slots at a def's entry -/
def stC (n : Nat) (l : List Dt) : Cxt := l.map some ++ List.replicate (n - l.length) none
theorem sl_start {N : List Str} {vs : List V} {H : Hp} (h : TDs H vs l) (hl : l.length ≤ N.length) : Sl (L2.start N vs) H (stC N.length l) := by
  have e := h.length
  refine ⟨?_, fun i d q => ?_⟩
  · unfold L2.start stC
    rw [List.length_append, List.length_append, List.length_map, List.length_map, List.length_replicate, List.length_replicate]
    omega
  · unfold stC at q
    unfold L2.start
    by_cases hi : i < l.length
    · rw [List.getElem?_append_left (by rw [List.length_map]; exact hi), List.getElem?_map] at q
      rw [List.getElem?_append_left (by rw [List.length_map]; omega), List.getElem?_map]
      cases z : l[i]? with
      | none =>
        rw [z] at q
        cases q
      | some d' =>
        rw [z] at q
        cases Option.some.inj (Option.some.inj q)
        obtain ⟨x, h1, h2⟩ := h.get z
        exact ⟨x, by rw [h1]; rfl, h2⟩
    · rw [List.getElem?_append_right (by rw [List.length_map]; omega), List.getElem?_replicate] at q
      split at q
      · cases q
      · cases q
end

/-! ### built-ins on data -/
section
variable {P : Hp → Prop} {K : PySem.W.Frag} {l m : List Dt} {d : Dt} {i j : Int} {a : Addr}
def rLen9 (K : PySem.W.Frag) : List V → Hp → VK → Prop := fun xs H Q => ∃ p ys, xs = [.ref p] ∧ (SqL K H p ys ∨ SqT K H p ys) ∧ Q (.int ys.length) H
theorem call_len9 {X : Cx} : CallR X (.builtin "len") (rLen9 X.K) := call_len_seq
theorem rc_lenT : RC (rLen9 K) P [.tup l] (di (l.length : Nat)) := fun H xs _ h Q q => by
  cases h with
  | cons h r =>
    cases r
    obtain ⟨a, ys, rfl, ha, hy⟩ := h.tup_of
    exact ⟨a, ys, rfl, .inr (SqT.of ha), by rw [hy.length]; exact q _ H (Same.refl H) (.leaf _)⟩
theorem rc_lenL (hP : ∀ H, P H → LstAt H a l) : RC (rLen9 K) P [dr a] (di (l.length : Nat)) := fun H xs p h Q q => by
  obtain ⟨ys, ha, hy⟩ := hP H p
  have ex : xs = [.ref a] := TDs.ofLeaves (vs := [.ref a]) h
  exact ⟨a, ys, ex, .inl (SqL.of ha), by rw [hy.length]; exact q _ H (Same.refl H) (.leaf _)⟩
def rTup9 (K : PySem.W.Frag) : List V → Hp → VK → Prop := fun xs H Q => ∃ p ys, xs = [.ref p] ∧ ((SqL K H p ys ∧ ∀ l, H l = none → Q (.ref l) (upd H l (.tup ys))) ∨ (SqT K H p ys ∧ Q (.ref p) H))
theorem call_tup9 {X : Cx} : CallR X (.type "tuple") (rTup9 X.K) := call_tuple_of
def rInt9 : List V → Hp → VK → Prop := fun xs H Q => (∃ i, xs = [.int i] ∧ Q (.int i) H) ∨ ∃ k, xs = [.bl k] ∧ Q (.int (if k then 1 else 0)) H
theorem call_int9 {X : Cx} : CallR X (.type "int") rInt9 := call_int1
theorem rc_int : RC rInt9 P [di i] (di i) := fun H xs _ h Q q => .inl ⟨i, TDs.ofLeaves (vs := [.int i]) h, q _ H (Same.refl H) (.leaf _)⟩
def rMin9 : List V → Hp → VK → Prop := fun xs H Q => ∃ i j, xs = [.int i, .int j] ∧ Q (.int (if j < i then j else i)) H
def rMax9 : List V → Hp → VK → Prop := fun xs H Q => ∃ i j, xs = [.int i, .int j] ∧ Q (.int (if j > i then j else i)) H
theorem call_min9 {X : Cx} (hc : X.calm = true) : CallR X (.builtin "min") rMin9 := call_min2 hc
theorem call_max9 {X : Cx} (hc : X.calm = true) : CallR X (.builtin "max") rMax9 := call_max2 hc
theorem rc_min : RC rMin9 P [di i, di j] (di (if j < i then j else i)) := fun H xs _ h Q q => ⟨i, j, TDs.ofLeaves (vs := [.int i, .int j]) h, q _ H (Same.refl H) (.leaf _)⟩
theorem rc_max : RC rMax9 P [di i, di j] (di (if j > i then j else i)) := fun H xs _ h Q q => ⟨i, j, TDs.ofLeaves (vs := [.int i, .int j]) h, q _ H (Same.refl H) (.leaf _)⟩
/-- tuple(xs) of a new list -/
theorem pu_tupL [Stb P] {Γ : Cxt} {te : TE} (h : PuL te Γ P l) : Pu (tCB (rTup9 K) (tCons te tNil)) Γ P (.tup l) := fun σ H s p Q q =>
  h σ H s p _ fun a H1 ha e1 h1 => by
    obtain ⟨ys, h2, h3⟩ := h1
    exact ⟨a, ys, rfl, .inl ⟨SqL.of h2, fun r hr => q _ _ (e1.trans (ex_new hr)) (.tup upd_same (h3.ext (ex_new hr).t))⟩⟩
theorem rc_tupL (hP : ∀ H, P H → LstAt H a l) : RC (rTup9 K) P [dr a] (.tup l) := fun H xs p h Q q => by
  obtain ⟨ys, h2, h3⟩ := hP H p
  exact ⟨a, ys, TDs.ofLeaves (vs := [.ref a]) h, .inl ⟨SqL.of h2, fun r hr => q _ _ (ex_new hr) (.tup upd_same (h3.ext (ex_new hr).t))⟩⟩
theorem rc_tupT : RC (rTup9 K) P [.tup l] (.tup l) := fun H xs p h Q q => by
  cases h with
  | cons h r =>
    cases r
    obtain ⟨a, ys, rfl, ha, hy⟩ := h.tup_of
    exact ⟨a, ys, rfl, .inr ⟨SqT.of ha, q _ H (Same.refl H) (.tup ha hy)⟩⟩
/-- isinstance of data and a built-in type -/
def tyN : Dt → String
  | .v .non => "NoneType"
  | .v (.bl _) => "bool"
  | .v (.int _) => "int"
  | .v (.str _) => "str"
  | .v _ => "?"
  | .tup _ => "tuple"
theorem ty_td {H : Hp} : ∀ {x : V} {d : Dt}, TD H x d → d.pl = true → TyX K H x (.type (tyN d))
  | _, _, .leaf .non, _ => .base .non
  | _, _, .leaf (.bl c), _ => .base (.bl c)
  | _, _, .leaf (.int c), _ => .base (.int c)
  | _, _, .leaf (.str c), _ => .base (.str c)
  | _, _, .leaf (.byt _), h | _, _, .leaf (.flt _), h | _, _, .leaf (.ref _), h | _, _, .leaf (.ty _), h => by cases h
  | _, _, .tup ha _, _ => .base (.tup ha)
theorem rc_isi {T : String} {b : Bool} (hp : d.pl = true) (hb : kitB (tyN d) T = some b) : RC (rIsi K) P [d, .v (.ty T)] (db b) := fun H xs p h Q q => by
  cases h with
  | cons h r =>
    cases r with
    | cons h2 r =>
      cases r
      have e2 := h2.v_eq
      subst e2
      exact ⟨_, _, _, _, b, rfl, .ty T, ty_td h hp, kit_ty hb, q _ H (Same.refl H) (.leaf _)⟩
end
end W9
set_option maxHeartbeats 4000000
/-! what the derivations use: a def with its binding in one word, short rules -/
namespace W9
open PySem PySem.Spec PyProof.Rows L2

/-- a def that keeps a promise, with all that a call of it asks -/
structure Okf (P : Program) (w : World) (K : PySem.W.Frag) (mg : Str → Option Value) (base : Heap) (CX : CXT) (k : Nat) (f : Addr) (ps : List Str) (sp : Sp) : Prop where
  ex : ∃ fd : FuncData, FnOk P w K mg base CX k f fd ps sp ∧ Binds K fd ps [] ∧ PySem.W.keepIn K (.ref f) = true
section
variable {X : Cx} {CX : CXT} {k : Nat} {f C p : Addr} {ps : List Str} {sp : Sp} {E : XK} {x m : Str} {np pos apos : Pos} {e o : Expr} {es : List Expr} {ta : TE} {t : TA}
theorem pe_callF (G : Okf X.prog X.w X.K X.mg X.base CX k f ps sp) (hr : Room k X.A) (hg : Gl X x) (hm : X.mg x = some (.ref f)) (hx : Passes CX X E) (ha : PA X (e :: es) t)
    (hdb : (x == ("__debug__" : Str)) = false := by decide) (he : starEach (e :: es) X.env = (false, eval e X.env) :: starEach es X.env := by rfl) (hpl : (backTo pos (starEach es X.env)).any (·.1) = false := by rfl) :
    PE X (.Call (.Name x np) (e :: es) [] pos) (tCall sp [] E t) := by
  obtain ⟨fd, F, b, kp⟩ := G.ex
  exact pe_call F hr hg hm kp b .nil hx ha hdb he hpl
theorem pe_callF0 (G : Okf X.prog X.w X.K X.mg X.base CX k f ps sp) (hr : Room k X.A) (hg : Gl X x) (hm : X.mg x = some (.ref f)) (hx : Passes CX X E)
    (hdb : (x == ("__debug__" : Str)) = false := by decide) : PE X (.Call (.Name x np) [] [] pos) (tCall sp [] E tNil) := by
  obtain ⟨fd, F, b, kp⟩ := G.ex
  exact pe_call0 F hr hg hm kp b .nil hx hdb
theorem pe_methF {pl : Sem Bool} (he : PE X o ta) (c : Cls X.K C) (hm : Meth X.K C m f) (G : Okf X.prog X.w X.K X.mg X.base CX k f ps sp) (hr : Room k X.A) (hx : Passes CX X E) (ha : PA X (e :: es) t)
    (hst : starEach (e :: es) X.env = (false, eval e X.env) :: starEach es X.env := by rfl) (hpl : (backTo pos (starEach es X.env)).any (·.1) = false := by rfl)
    (ht : eval (.Call (.Attribute o m apos) (e :: es) [] pos) X.env = (do
      let ov ← eval o X.env
      standAt apos.atName
      let (g, first) ← holding [ov] (getMethod ov m pl)
      callWith pos g first (backTo pos (starEach (e :: es) X.env)) (backToKw pos (keywordEach [] X.env))) := by rfl) :
    PE X (.Call (.Attribute o m apos) (e :: es) [] pos) (tMeth C m sp [] E ta t) := by
  obtain ⟨fd, F, b, kp⟩ := G.ex
  exact pe_meth he c hm F hr b .nil hx ha hst hpl ht
theorem pe_methF0 {pl : Sem Bool} (he : PE X o ta) (c : Cls X.K C) (hm : Meth X.K C m f) (G : Okf X.prog X.w X.K X.mg X.base CX k f ps sp) (hr : Room k X.A) (hx : Passes CX X E)
    (ht : eval (.Call (.Attribute o m apos) [] [] pos) X.env = (do
      let ov ← eval o X.env
      standAt apos.atName
      let (g, first) ← holding [ov] (getMethod ov m pl)
      callWith pos g first (backTo pos (starEach [] X.env)) (backToKw pos (keywordEach [] X.env))) := by rfl) :
    PE X (.Call (.Attribute o m apos) [] [] pos) (tMeth C m sp [] E ta tNil) := by
  obtain ⟨fd, F, b, kp⟩ := G.ex
  exact pe_meth0 he c hm F hr b .nil hx ht
theorem pe_makeF (M : Mk X.K C f) (G : Okf X.prog X.w X.K X.mg X.base CX k f ps sp) (hr : Room (k + 1) X.A) (hg : Gl X x) (hm : X.mg x = some (.ref C)) (hx : Passes CX X E) (ha : PA X (e :: es) t)
    (hdb : (x == ("__debug__" : Str)) = false := by decide) (he : starEach (e :: es) X.env = (false, eval e X.env) :: starEach es X.env := by rfl) (hpl : (backTo pos (starEach es X.env)).any (·.1) = false := by rfl) :
    PE X (.Call (.Name x np) (e :: es) [] pos) (tMake C sp [] E t) := by
  obtain ⟨fd, F, b, kp⟩ := G.ex
  exact pe_make M F hr hg hm b .nil hx ha hdb he hpl
theorem pe_propF (he : PE X e ta) (c : Cls X.K C) (hp : PropOf X.K C m p f) (G : Okf X.prog X.w X.K X.mg X.base CX k f ps sp) (hr : Room (k + 1) X.A) (hx : Passes CX X.nox E)
    (hab : attributeBase e m X.env (eval e X.env) = eval e X.env) : PE X (.Attribute e m pos) (tProp C sp [] E ta) := by
  obtain ⟨fd, F, b, kp⟩ := G.ex
  exact pe_prop he c hp F hr b .nil hx hab
/-- a module's number, a module's text -/
theorem pe_gi {i : Int} (hg : Gl X x) (hm : ∃ t, X.mg x = some (.int i t)) (hd : (x == ("__debug__" : Str)) = false := by decide) : PE X (.Name x pos) (tC (.int i)) := by
  obtain ⟨t, h⟩ := hm
  exact pe_glob hg h ⟨t, rfl⟩ hd
theorem pe_gs {z : Str} (hg : Gl X x) (hm : ∃ t, X.mg x = some (.str z t)) (hd : (x == ("__debug__" : Str)) = false := by decide) : PE X (.Name x pos) (tC (.str z)) := by
  obtain ⟨t, h⟩ := hm
  exact pe_glob hg h ⟨t, rfl⟩ hd
end
abbrev rSub9 : R2 := rI0 fun i j => .int (i - j)
abbrev rMod9 : R2 := rI (fun _ j => j ≠ 0) fun i j => .int (i.fmod j)
abbrev rDiv9 : R2 := rI CDivN fun i j => .int (i.fdiv j)
abbrev rPow9 : R2 := rI CPow fun i j => .int (i ^ j.toNat)
abbrev rLt9 : R2 := rI0 fun i j => .bl (decide (i < j))
abbrev rLe9 : R2 := rI0 fun i j => .bl (decide (i ≤ j))
abbrev rGt9 : R2 := rI0 fun i j => .bl (decide (j < i))
abbrev rGe9 : R2 := rI0 fun i j => .bl (decide (j ≤ i))
abbrev rNeg9 : V → Hp → VK → Prop := rU fun i => .int (-i)
section
variable {Γ : Cxt} {P : Hp → Prop} {ta tb tc : TE} {d e f : Dt} {r r' : R2} {b c : Bool}
theorem pu_chain [Stb P] (ha : Pu ta Γ P d) (hb : Pu tb Γ P e) (hr : RV r P d e (db b)) (hc : b = true → Pu tc Γ P f) (hr' : b = true → RV r' P e f (db c)) : Pu (tChain r r' ta tb tc) Γ P (db (b && c)) := fun σ H s p Q q =>
  ha σ H s p _ fun x H1 e1 h1 => hb σ H1 (s.ext e1.t) (Stb.ext e1 p) _ fun y H2 e2 h2 => hr H2 x y (Stb.ext e2 (Stb.ext e1 p)) (h1.ext e2.t) h2 _ fun z H3 e3 h3 => ⟨b, h3.v_eq, by
    have e0 := (e1.trans e2).trans e3
    cases b with
    | false =>
      rw [if_neg Bool.false_ne_true]
      exact q _ H3 e0 (.leaf _)
    | true =>
      rw [if_pos rfl]
      exact hc rfl σ H3 (s.ext (Ex.t e0)) (Stb.ext e0 p) _ fun u H4 e4 h4 => hr' rfl H4 y u (Stb.ext (e0.trans e4) p) (h2.ext (Ex.t (e3.trans e4))) h4 _ fun w H5 e5 h5 => q w H5 ((e0.trans e4).trans e5) h5⟩
end
end W9
set_option maxHeartbeats 4000000
/-! enumerate over a tuple -/
namespace PySem
open Sem (wp)
set_option maxHeartbeats 1000000 in
theorem meets_enum1 {v : Value} {o : Obj} {H : Heap → Prop} (B : Begins v o H) :
    Meets (Builtin.«enumerate.__new__» ⟨[.type "enumerate", v], []⟩) (fun _ R s => H s.heap ∧
      R (.ok (.ret (.ref (s.heap.push o).objs.size))) { s with heap := (s.heap.push o).push { cls := .type "enumerate", data := .fields #[.none, .bool false, .ref s.heap.objs.size, rawInt 0, .none, .none] } }) :=
  .of_wp fun prog w A R s h => by
    obtain ⟨hp, g, d, tk, os⟩ := s; obtain ⟨h1, h⟩ := h
    have hsub := sub_enumerate
    have q1 : ∀ {A' : Around} {E : Value → Shared → Prop} {Q : Value → Shared → Prop}, Q (.ref hp.objs.size) ⟨hp.push o, g, d, tk, os⟩ → wpAny (model prog w) A' (pyIter v) Q E ⟨hp, g, d, tk, os⟩ :=
      fun q => B.iter prog w _ _ ⟨hp, g, d, tk, os⟩ _ h1 q
    wp_walk using q1
    refine wpAny_stack_any fun st => wpAny_pure ?_
    split
    · rename_i c _ _ _ _ _
      cases (c == Value.type "enumerate")
      · wp_walk using q1
        exact ⟨_, rfl, h⟩
      · wp_walk using q1
        exact ⟨_, rfl, h⟩
    · wp_walk using q1
      exact ⟨_, rfl, h⟩
theorem enum1_begins {prog : Program} {w : World} {A : Around} {E : Value → Shared → Prop} {s : Shared} {v : Value} {o : Obj} {H : Heap → Prop} {Q : Value → Shared → Prop} (B : Begins v o H) (h1 : H s.heap)
    (h : ∀ h', IsEnum h' (s.heap.objs.size + 1) s.heap.objs.size 0 .none → h'.get? s.heap.objs.size = some o → h'.objs.size = s.heap.objs.size + 2 →
      (∀ b o, s.heap.get? b = some o → h'.get? b = some o) → Q (.ref (s.heap.objs.size + 1)) { s with heap := h' }) :
    wpAny (model prog w) A (call (.type "enumerate") [v]) Q E s := by
  refine callType_new F.called_enumerate (by decide) (F.typeCall_enumerate_1 _) (F.newCall_enumerate_1 _) (fun obj => F.args_object_init_2 obj _) F.entry_enumerate_new
    (meets_enum1 B) ⟨h1, ?_⟩
  have hz : (s.heap.push o).objs.size = s.heap.objs.size + 1 := Heap.size_push ..
  show _ ∧ _
  rw [hz]
  have he : IsEnum ((s.heap.push o).push { cls := .type "enumerate", data := .fields #[.none, .bool false, .ref s.heap.objs.size, rawInt 0, .none, .none] }) (s.heap.objs.size + 1) s.heap.objs.size 0 .none := by
    have := Heap.get?_push_size (s.heap.push o) (o := { cls := .type "enumerate", data := .fields #[.none, .bool false, .ref s.heap.objs.size, rawInt 0, .none, .none] }) rfl
    rw [hz] at this; exact this
  exact ⟨⟨_, he, rfl⟩, h _ he (Heap.get?_push_of_some _ (Heap.get?_push_size _ B.free)) (by rw [Heap.size_push, hz]) fun b o x => Heap.get?_push_of_some _ (Heap.get?_push_of_some _ x)⟩
end PySem
namespace W9
open PySem PySem.Spec PyProof.Rows L2
open Sem (wp)
/-- the tuple at a, the items in new pairs -/
def IteT (K : PySem.W.Frag) (a : Addr) : It :=
  ⟨fun i H => ∃ (xs : List V) (x : V), SqT K H a xs ∧ xs[i]? = some x, fun i H v H' => ∃ T x, v = .ref T ∧ H T = none ∧ H' = upd H T (.tup [.int (i : Nat), x]) ∧ ∀ xs, SqT K H a xs → xs[i]? = some x, fun i H => ∃ xs : List V, SqT K H a xs ∧ xs.length = i⟩
theorem turn_enumT {P : Program} {w : World} {K : PySem.W.Frag} {elts : List Expr} {kk : Nat} {tpos : Pos} (a e it : Addr) (hai : a ≠ it) (hea : e ≠ a) :
    Turn P w K (.Tuple elts kk tpos) (IteT K a) [e, it] e (fun i h => (∃ old, IsEnum h e it ((i : Nat) : Int) old) ∧ h.IsTupleIter it a i ∧ e ≠ it) where
  mem := by simp
  obj := fun i h st b hb => by
    obtain ⟨⟨old, he⟩, ⟨o, ho, hc, hd⟩, _⟩ := st
    have e' : b = e ∨ b = it := by simpa using hb
    rcases e' with z | z
    · rw [z]; exact ⟨_, he, fun v q => nomatch q⟩
    · rw [z]; exact ⟨o, ho, fun v q => by rw [hd] at q; cases q⟩
  keep := fun i h h' st k => let ⟨⟨old, he⟩, hi, hne⟩ := st; ⟨⟨old, k e (by simp) _ he⟩, hi.at fun o q => k it (by simp) o q, hne⟩
  item := by
    intro X hP hw hK hc i pins s σ H E I hf st hg
    subst hP hw hK
    obtain ⟨⟨old, he⟩, hit, hne⟩ := st
    obtain ⟨xs, x, hq, hx⟩ := hg
    obtain ⟨its, rv, p⟩ := I.tuple hq
    obtain ⟨u, hu, ru⟩ := rv.get hx
    have hel : e < s.heap.objs.size := Heap.lt_size he
    have hil : it < s.heap.objs.size := by obtain ⟨_, q, _⟩ := hit; exact Heap.lt_size q
    have hlt : i < its.toArray.size := by simpa using (List.getElem?_eq_some_iff.mp hu).1
    have hd : X.A.in1.handled = none := I.ok.hd hc
    refine wpAny_pyNext_enum_itemC (c := (i : Int)) (Draws.tuple hd it a hai its.toArray) he ⟨hit, p.1⟩ hlt hne (by simp [hne, hea]) fun y h' tk hP ho hst hT hsz hk => ?_
    have ey : y = u := by
      have z : some y = some u := by rw [← hu, ← hP]; simp
      exact Option.some.inj z
    subst ey
    refine ⟨_, rfl, wpAny_letOwnedTupleGo_enum (s := { s with heap := h', toks := tk + 1 }) ho fun h'' he' sb => ?_⟩
    have hT2 : h''.get? s.heap.objs.size = some { cls := .type "tuple", data := .seq #[.int i tk, y] } := (sb.2 _ (Nat.ne_of_gt hel)).trans hT
    have new : ObjOk X.prog X.w (upd H s.heap.objs.size (.tup [.int (i : Nat), x])) h'' s.heap.objs.size (.tup [.int (i : Nat), x]) :=
      ⟨by show 2 ≤ sizeLine; decide, [.int i tk, y], .cons ⟨_, rfl⟩ (.cons ru .nil), ⟨_, hT2, rfl, _, rfl⟩⟩
    have I1 : Inv X pins σ (upd H s.heap.objs.size (.tup [.int (i : Nat), x])) { s with heap := h'', toks := tk + 1 } :=
      I.turnedNew (ch := [e, it]) (fun b ob hb q => (sb.2 b (fun z => hb (by simp [z]))).trans (hk b ob (fun z => hb (by simp [z])) (fun z => hb (by simp [z])) q)) hf (Nat.le_refl _) new
    refine ⟨.ref s.heap.objs.size, _, I1, rfl, ⟨_, x, rfl, I.hok.fresh (Nat.le_refl _), rfl, fun ys hy => by rw [I.tuple_inj hy hq]; exact hx⟩, ⟨⟨y, ?_⟩, hst.1.at fun o q => (sb.2 it (Ne.symm hne)).trans q, hne⟩, fun b hb => ?_⟩
    · have e1 : ((i + 1 : Nat) : Int) = (i : Int) + 1 := by omega
      rw [e1]; exact he'
    · have hb' : b < s.heap.objs.size := by
        have e' : b = e ∨ b = it := by simpa using hb
        rcases e' with z | z
        · rw [z]; exact hel
        · rw [z]; exact hil
      rw [upd_ne (Nat.ne_of_lt hb')]
      exact (hf b hb).1
  done := by
    intro X hP hw hK hc i pins s σ H E I hf st hg
    subst hP hw hK
    obtain ⟨⟨old, he⟩, hit, hne⟩ := st
    obtain ⟨xs, hq, hx⟩ := hg
    obtain ⟨its, rv, p⟩ := I.tuple hq
    have hl := rv.length
    have hd : X.A.in1.handled = none := I.ok.hd hc
    have es : its.toArray.size = i := by simp; omega
    refine wpAny_pyNext_enum_endD (Draws.tuple hd it a hai its.toArray) he (by rw [es]; exact ⟨hit, p.1⟩) fun h' eb => ⟨rfl, I.turnedL (t' := s.toks) (ch := [e, it]) (fun b o hb q => eb b o (fun z => hb (by simp [z])) q) hf⟩
  self := fun A i s Q E st h => let ⟨⟨_, he⟩, _⟩ := st; wpAny_pyIter_enum he h
def iEnumT (K : PySem.W.Frag) (ta : TA) : TI := fun σ H R => ta σ H fun vs H1 => ∃ a xs, vs = [.ref a] ∧ SqT K H1 a xs ∧ R (IteT K a) H1
theorem pi_enumT {X : Cx} {e : Expr} {ta : TA} {p pos tpos : Pos} {elts : List Expr} {kk : Nat} (hg : Gl X "enumerate") (hm : X.mg "enumerate" = none) (ha : PA X [e] ta) (hs : starEach [e] X.env = [(false, eval e X.env)] := by rfl) :
    PI X (.Tuple elts kk tpos) (.Call (.Name "enumerate" p) [e] [] pos) (iEnumT X.K ta) := by
  refine ⟨fun pins s σ H R I h => ?_⟩
  refine Call_ (ld_blt I hg hm boot_enumerate (PyProof.Rows.callWith_type1 (thn (ha.run pos pins s σ H _ I h) fun us s1 ⟨vs, H1, I1, r1, q1⟩ => ?_) hs rfl))
  obtain ⟨a, xs, ex, hq, q⟩ := q1
  subst ex
  cases r1 with
  | cons r rr =>
    cases rr
    cases r
    obtain ⟨its, rv, p'⟩ := I1.tuple hq
    have hla : a < s1.heap.objs.size := by obtain ⟨_, z, _⟩ := p'.1; exact Heap.lt_size z
    refine enum1_begins (begins_tuple a its.toArray) p'.1 fun h' he hit hsz hk => wpAny_pyIter_enum he ?_
    have I2 : Inv X pins σ H1 { s1 with heap := h' } := I1.kept (t' := s1.toks) hk
    refine ⟨s1.heap.objs.size + 1, [s1.heap.objs.size + 1, s1.heap.objs.size], _, _, H1, rfl, I2, turn_enumT a (s1.heap.objs.size + 1) s1.heap.objs.size (Nat.ne_of_lt hla) (Nat.ne_of_gt (Nat.lt_succ_of_lt hla)), ⟨⟨.none, he⟩, ⟨_, hit, rfl, rfl⟩, Nat.succ_ne_self _⟩, fun b hb => ?_, q⟩
    have e' : b = s1.heap.objs.size + 1 ∨ b = s1.heap.objs.size := by simpa using hb
    have hle : s1.heap.objs.size ≤ b := by
      rcases e' with z | z
      · rw [z]; exact Nat.le_add_right _ _
      · rw [z]; exact Nat.le_refl _
    exact I1.fpOk hle (I1.hok.fresh hle)
end W9
set_option maxHeartbeats 4000000
/-! sorted(set(x)), ==, != by an own __eq__, len by an own __len__ -/
namespace W9
open PySem PySem.Spec PyProof.Rows L2
open Sem (wp)

/-- what follows from what an expression gives -/
theorem PE.cl {X : Cx} {a : Expr} {ta : TE} (ha : PE X a ta) : PE X a (fun σ H Q => ∃ Q0 : VK, ta σ H Q0 ∧ ∀ x H1, Q0 x H1 → Q x H1) :=
  ⟨fun pins s σ H Q I h => by
    obtain ⟨Q0, h0, hm⟩ := h
    exact thn (ha.run pins s σ H Q0 I h0) fun v s1 ⟨x, H1, I1, r, q⟩ => ⟨x, H1, I1, r, hm x H1 q⟩⟩
/-! ### set(t), tuple(sorted(set(t))) -/
def rSetI (K : PySem.W.Frag) (w : World) : List V → Hp → VK → Prop := fun xs H Q => ∃ (p : Addr) (ns : List Int), xs = [.ref p] ∧ SqT K H p (ns.map V.int) ∧ ns.length ≤ 63 ∧ ∀ (q : Addr) (c : Nat), c ≤ ns.length → H q = none → Q (.ref q) (upd H q (SetO w q (fun j => decide (j ∈ ns)) c))
theorem call_setI {X : Cx} (hc : X.calm = true) : CallR X (.type "set") (rSetI X.K X.w) := by
  intro pins s σ H xs us Q I r h
  obtain ⟨p, ns, rfl, hq, hl, q⟩ := h
  obtain ⟨its, rv, pt, hz⟩ := I.tuple hq
  obtain rfl := Vals.ref1 r
  refine call_set_tupI ns (I.ok.hd hc) (show s.heap.IsTuple p its.toArray from pt) (ints_of_vals rv) (by unfold scanBound; omega) fun h' tk c R1 hcn k => ?_
  exact ⟨.ref _, _, I.laid (t' := tk) k (Nat.le_refl _) (setO_new R1), rfl, q _ c hcn (I.hok.fresh (Nat.le_refl _))⟩
def tTss (K : PySem.W.Frag) (te : TE) : TE := fun σ H Q => te σ H fun x H1 => ∃ (p : Addr) (ns : List Int), x = .ref p ∧ SqT K H1 p (ns.map V.int) ∧ ns.length ≤ 63 ∧
  ∀ (ms : List Int) (H2 : Hp) (q : Addr), Ex H1 H2 → ms.Pairwise (· < ·) → (∀ k, k ∈ ms ↔ k ∈ ns) → ms.length ≤ 63 → H2 q = none → Q (.ref q) (upd H2 q (.tup (ms.map V.int)))
theorem pe_tss9 {X : Cx} {a : Expr} {ta : TE} {p p2 p3 pos pos2 pos3 : Pos} (hc : X.calm = true) (g1 : Gl X "tuple") (m1 : X.mg "tuple" = none) (g2 : Gl X "sorted") (m2 : X.mg "sorted" = none) (g3 : Gl X "set") (m3 : X.mg "set" = none)
    (ha : PE X a ta) (na : starEach [a] X.env = (false, eval a X.env) :: starEach [] X.env := by rfl) :
    PE X (.Call (.Name "tuple" p) [.Call (.Name "sorted" p2) [.Call (.Name "set" p3) [a] [] pos3] [] pos2] [] pos) (tTss X.K ta) := by
  let tb : TE := fun σ H Q => ∃ Q0 : VK, ta σ H Q0 ∧ ∀ x H1, Q0 x H1 → Q x H1
  have h1 : PE X (.Call (.Name "set" p3) [a] [] pos3) (tCB (rSetI X.K X.w) (tCons tb tNil)) := pe_callTy (call_setI hc) g3 m3 PyProof.Rows.boot_set (pa_cons (PE.cl ha) pa_nil na) (he := na)
  have h2 : PE X (.Call (.Name "sorted" p2) [.Call (.Name "set" p3) [a] [] pos3] [] pos2) (tCB (rSortedSet X.w) (tCons (tCB (rSetI X.K X.w) (tCons tb tNil)) tNil)) := pe_callB (cr_sortedSet hc) g2 m2 (by decide +kernel) (pa_cons h1 pa_nil)
  have h3 : PE X (.Call (.Name "tuple" p) [.Call (.Name "sorted" p2) [.Call (.Name "set" p3) [a] [] pos3] [] pos2] [] pos) (tCB (rTup9 X.K) (tCons (tCB (rSortedSet X.w) (tCons (tCB (rSetI X.K X.w) (tCons tb tNil)) tNil)) tNil)) := pe_callTy call_tup9 g1 m1 PyProof.Rows.boot_tuple (pa_cons h2 pa_nil)
  refine ⟨fun pins s σ H Q I h => h3.run pins s σ H Q I ?_⟩
  refine ⟨_, h, fun x H1 q => ?_⟩
  obtain ⟨l, ns, rfl, hq, hl, q⟩ := q
  refine ⟨l, ns, rfl, hq, hl, fun r c hcn hr => ⟨r, _, c, rfl, upd_same, by omega, fun ms t hs hm hlen ht => ⟨t, ms.map V.int, rfl, .inl ⟨SqL.of upd_same, fun z hz => ?_⟩⟩⟩⟩
  exact q ms _ z ((ex_new hr).trans (ex_new ht)) hs (fun k => by rw [hm k, decide_eq_true_eq]) (by omega) hz
/-! ### len(o) by an own __len__ -/
def tLenO (C : Addr) (sp : Sp) (ta : TE) : TE := fun σ H Q => ta σ H fun x H1 => ∃ a dx fs, x = .ref a ∧ H1 a = some (.ins C dx fs) ∧ sp [.ref a] H1 (fun z H2 => ∃ n : Nat, z = .int n ∧ n < 100000 ∧ Q (.int n) H2) E0
section
variable {X : Cx} {CX : CXT} {k : Nat} {C f : Addr} {ps : List Str} {sp : Sp} {E : XK}
theorem Okf.raw {P : Program} {w : World} {K : PySem.W.Frag} {mg : Str → Option Value} {base : Heap} (G : Okf P w K mg base CX k f ps sp) : FnR P w K mg base CX k f sp := by
  obtain ⟨fd, F, b, kp⟩ := G.ex
  exact (F.raw b .nil).imp fun vs H Q E h => by rw [List.append_nil]; exact h
variable {e : Expr} {ta : TE} {p pos : Pos}
theorem call_lenO (hm : Meth X.K C "__len__" f) (G : Okf X.prog X.w X.K X.mg X.base CX0 k f ps sp) (hr : Room (k + 1) X.A) :
    CallR X (.builtin "len") (fun xs H Q => ∃ a dx fs, xs = [.ref a] ∧ H a = some (.ins C dx fs) ∧ sp [.ref a] H (fun z H2 => ∃ n : Nat, z = .int n ∧ n < 100000 ∧ Q (.int n) H2) E0) := by
  intro pins s σ H xs us Q I r h
  obtain ⟨a, dx, fs, rfl, ea, q⟩ := h
  obtain rfl := Vals.ref1 r
  obtain ⟨mA, J, _⟩ := ins_get I.hok ea
  obtain ⟨od, J, _⟩ := J.look
  obtain ⟨m, hF⟩ := I.fr
  refine PySem.W.len_K hF I.ok.mod.kin J hm.at_ hm.fn ?_
  refine wpAny_call (codeAny_mono (G.raw X.A.in1 X.stack s H [.ref a] [.ref a] _ E0 hr.in1 I.env0.in1 (.cons rfl .nil) q) fun r s' hq => ?_)
  cases r with
  | error e => exact hq.elim
  | ok fl =>
    cases fl with
    | ret u =>
      obtain ⟨z, H', I', rz, n, ez, hn, q⟩ := I.after hq
      subst ez
      obtain ⟨t, rfl⟩ := rz
      exact ⟨⟨by omega, by omega⟩, ⟨.int n, H', I'.tok _, ⟨_, rfl⟩, q⟩⟩
    | next => exact False.elim hq
    | brk => exact False.elim hq
    | cont => exact False.elim hq
/-- len(e), e an instance -/
theorem pe_len9 (hg : Gl X "len") (hmg : X.mg "len" = none) (he : PE X e ta) (hm : Meth X.K C "__len__" f) (G : Okf X.prog X.w X.K X.mg X.base CX0 k f ps sp) (hr : Room (k + 1) X.A) (ne : starEach [e] X.env = (false, eval e X.env) :: starEach [] X.env := by rfl) :
    PE X (.Call (.Name "len" p) [e] [] pos) (tLenO C sp ta) := by
  have h := pe_callB (p := p) (pos := pos) (call_lenO hm G hr) hg hmg PySem.boot_len (pa_cons (PE.cl he) pa_nil ne) (he := ne)
  refine ⟨fun pins s σ H Q I q => h.run pins s σ H Q I ⟨_, q, fun x H1 q => ?_⟩⟩
  obtain ⟨a, dx, fs, rfl, ea, q⟩ := q
  exact ⟨a, dx, fs, rfl, ea, q⟩

/-! ### ==, != by an own __eq__ (no own __ne__) -/
def rEqO (K : PySem.W.Frag) (C : Addr) (sp : Sp) : R2 := fun x y H Q => ∃ a dx fs t, x = .ref a ∧ H a = some (.ins C dx fs) ∧ TyX K H y t ∧ PySem.W.notFirst K C t = true ∧ sp [x, y] H Q E0
def rNeO (K : PySem.W.Frag) (C : Addr) (sp : Sp) : R2 := fun x y H Q => ∃ a dx fs t, x = .ref a ∧ H a = some (.ins C dx fs) ∧ TyX K H y t ∧ PySem.W.notFirst K C t = true ∧ sp [x, y] H (fun z H' => ∃ b, z = .bl b ∧ Q (.bl (!b)) H') E0
theorem run_O {pins : List (Addr × Obj)} {σ : L2.St} {H : Hp} {s : Shared} {A : Around} {Q : VK} {us : List Value} {vs : List V} (G : Okf X.prog X.w X.K X.mg X.base CX0 k f ps sp) (hr : Room k A) (e0 : Env0 X.prog X.w X.K X.mg X.base A X.stack s H) (I : Inv X pins σ H s) (r : Vals vs us) (h : sp vs H Q E0)
    {E' : Value → Shared → Prop} : wpAny (model X.prog X.w) A (call (.ref f) us) (EP X pins σ Q) E' s := by
  refine wpAny_call (codeAny_mono (G.raw A X.stack s H us vs Q E0 hr e0 r h) fun r s' hq => ?_)
  cases r with
  | error e => exact hq.elim
  | ok fl =>
    cases fl with
    | ret u => exact I.after hq
    | next => exact False.elim hq
    | brk => exact False.elim hq
    | cont => exact False.elim hq
theorem op_eqO (hm : Meth X.K C "__eq__" f) (G : Okf X.prog X.w X.K X.mg X.base CX0 k f ps sp) (hr : Room k X.A) : OpR X (compareOp .Eq) (rEqO X.K C sp) := by
  intro pins s σ H x y v u Q I rx ry h
  obtain ⟨a, dx, fs, t, rfl, ea, ty, hn, q⟩ := h
  cases (show v = Value.ref a from rx)
  obtain ⟨mA, J, _⟩ := ins_get I.hok ea
  obtain ⟨od, J, _⟩ := J.look
  obtain ⟨m, hF⟩ := I.fr
  obtain ⟨P, Z, pP, hu⟩ := kit_of I ry ty
  show wpAny _ _ (richCompare .Eq _ _) _ _ _
  refine PySem.W.cmp_K (op := .Eq) (tb := t) hr.units0 hF I.ok.mod.kin J (Z.ty _ _ I.kIn pP) hn hm.at_ hm.fn ?_
  refine wpAny_mono (run_O (us := [.ref a, u]) (vs := [.ref a, y]) G hr I.env0 I (.cons rfl (.cons ry .nil)) q) (fun w s' z => ?_) fun _ _ x => x
  obtain ⟨z', H', I', rz, qz⟩ := z
  exact SlX.cmpback rz ⟨z', H', I', rz, qz⟩
end
end W9
set_option maxHeartbeats 4000000
/-! != by the default __ne__ over an own __eq__ -/
namespace W9
open PySem PySem.Spec PyProof.Rows L2
open Sem (wp)
section
variable {prog : Program} {w : World} {A : Around} {E : Value → Shared → Prop} {s : Shared} {K : PySem.W.Frag} {x C L f : Addr} {h₀ : Heap} {m : Str → Option Value} {ox : Obj} {od : Option Obj} {name : Str} {b tb : Value}
theorem ifBound_B {M : Model} {A : Around} {args : List Value} {id : String} {Q : Option Value → Shared → Prop} (X : K.In s.heap) (I : PySem.W.InstAt s.heap x ox C od) (hs : PySem.W.findIn K (.ref C) name = some (some (.builtin id)))
    (hb : bindSpecial (.builtin id) (.ref x) = pure (.builtin id, [.ref x])) (h : wpAny M A (call (.builtin id) (.ref x :: args)) (fun v => Q (some v)) E s) : wpAny M A (callSpecialIfBound? (.ref x) name args) Q E s := by
  simp only [callSpecialIfBound?, bindSpecialIfBound?]
  refine wpAny_holding (wpAny_bind (wpAny_bind (wpAny_bind (I.type.here ((PySem.W.looks_findIn X hs).here ?_)))))
  refine wpAny_bind (wpAny_askSetting (wpAny_ite ?_))
  have fin : wpAny M A (call (.builtin id) ([.ref x] ++ args) >>= fun v => pure (some v)) Q E s := wpAny_bind (wpAny_mono h (fun v s' h' => wpAny_pure h') fun _ _ h' => h')
  split
  · exact wpAny_bind (wpAny_of_eq hb (wpAny_pure (by exact fin)))
  · exact wpAny_tryCatch (wpAny_bind (wpAny_of_eq hb (wpAny_pure (by exact fin))))
theorem ne_body {Q : Fin → Shared → Prop} (X : K.In s.heap) (I : PySem.W.InstAt s.heap x ox C od) (hs : PySem.W.findIn K (.ref C) "__eq__" = some (some (.ref f))) (hf : PySem.W.isFn K (.ref f) = true) (hu : A.units < cLine)
    (h : wpAny (model prog w) A (call (.ref f) [.ref x, b]) (fun v s' => ∃ c, v = .bool c ∧ Q (.done (.ret (.bool (!c)))) s') E s) :
    wpAny (model prog w) A (Builtin.«object.__ne__» ⟨[.ref x, b], []⟩) Q E s := by
  unfold Builtin.«object.__ne__»
  repeat (first
    | with_reducible refine wpAny_cRoomFor hu ?_
    | (refine wpAny_bind (m := callSpecialIfBound? (.ref x) (Str.ofString "__eq__") [b])
        (PySem.W.ifBound_K X I hs hf (wpAny_mono h (fun r s' hr => by
          obtain ⟨c, rfl, hq⟩ := hr
          repeat (first | exact hq | exact wpAny_pure hq | exact wpAny_truthy_bool hq | (refine wpAny_bind (m := truthy (.bool _)) (wpAny_truthy_bool ?_)) | wp_step)) fun _ _ e => e)))
    | wp_step)
theorem cmp_neK {Q : Value → Shared → Prop} (hu : A.units + 1 < cLine) (F : PyProof.Rows.Fr h₀ L s.heap m) (X₀ : K.In h₀) (I : PySem.W.InstAt s.heap x ox C od) (hb : PySem.W.Looks (model prog w) s.heap (typeOf b) tb) (hn : PySem.W.notFirst K C tb = true)
    (hne : PySem.W.findIn K (.ref C) "__ne__" = some (some (.builtin "object.__ne__"))) (hmr : PySem.W.mroIn K C (.type "object") = some true) (hs : PySem.W.findIn K (.ref C) "__eq__" = some (some (.ref f))) (hf : PySem.W.isFn K (.ref f) = true)
    (h : wpAny (model prog w) A.in1 (call (.ref f) [.ref x, b]) (fun v s' => ∃ c, v = .bool c ∧ Q (.bool (!c)) s') E s) : wpAny (model prog w) A (richCompare .NotEq (.ref x) b) Q E s := by
  have X := X₀.keeps F.keep
  have inst : PySem.W.Looks (model prog w) s.heap (isInstance (.ref x) (.type "object")) true := I.type.andThen (PySem.W.looks_mroIn X hmr)
  have one : wpAny (model prog w) A (tryCompare (.ref x) (cmpInfo .NotEq).2.1 b) (fun r s' => ∃ v, r = some v ∧ Q v s') E s := by
    unfold tryCompare
    refine wpAny_bind (ifBound_B X I hne (PySem.F.slot_object_ne.bind _) ?_)
    refine wpAny_call (codeAny_call_builtin PySem.F.slot_object_ne.plain PySem.F.cmpEntry_ne (@PySem.W.check_slot (model prog w) _ _ _ "object.__ne__" "object" "__ne__" (.ref x) [b] [] _ PySem.F.cmpKind_ne PySem.F.cmpSplit_ne inst (PySem.F.cmpArgs_ne _ _) ?_))
    refine ne_body (A := A.in1) X I hs hf hu (wpAny_mono h (fun v s' hv => ?_) fun _ _ e => e)
    obtain ⟨c, rfl, hq⟩ := hv
    exact ⟨c, rfl, wpAny_pure ⟨_, rfl, hq⟩⟩
  unfold richCompare
  simp only [oneThing_ref]
  refine wpAny_holding (wpAny_bind (wpAny_cRoomFor (Nat.lt_of_succ_lt hu) ?_))
  refine wpAny_bind (I.type.here (wpAny_bind (hb.here ?_)))
  split
  · rename_i q
    have e : PySem.W.subIn K tb (.ref C) = some false := by
      rcases Bool.or_eq_true_iff.mp hn with e | e
      · rw [beq_iff_eq.mp e] at q; simp at q
      · exact beq_iff_eq.mp e
    refine wpAny_bind ((PySem.W.looks_subIn X e).here ?_)
    simp only [Bool.false_eq_true, if_false]
    refine wpAny_bind (wpAny_mono one (fun r s' z => ?_) fun _ _ e => e)
    obtain ⟨v, rfl, hq⟩ := z
    exact wpAny_pure hq
  · refine wpAny_bind (wpAny_pure ?_)
    simp only [Bool.false_eq_true, if_false]
    refine wpAny_bind (wpAny_mono one (fun r s' z => ?_) fun _ _ e => e)
    obtain ⟨v, rfl, hq⟩ := z
    exact wpAny_pure hq
end
section
variable {X : Cx} {CX : CXT} {k : Nat} {C f : Addr} {ps : List Str} {sp : Sp} {E : XK}
theorem op_neO (hm : Meth X.K C "__eq__" f) (hne : PySem.W.findIn X.K (.ref C) "__ne__" = some (some (.builtin "object.__ne__"))) (hmr : PySem.W.mroIn X.K C (.type "object") = some true) (G : Okf X.prog X.w X.K X.mg X.base CX0 k f ps sp) (hr : Room (k + 1) X.A) :
    OpR X (compareOp .NotEq) (rNeO X.K C sp) := by
  intro pins s σ H x y v u Q I rx ry h
  obtain ⟨a, dx, fs, t, rfl, ea, ty, hn, q⟩ := h
  cases (show v = Value.ref a from rx)
  obtain ⟨mA, J, _⟩ := ins_get I.hok ea
  obtain ⟨od, J, _⟩ := J.look
  obtain ⟨m, hF⟩ := I.fr
  obtain ⟨P, Z, pP, hu⟩ := kit_of I ry ty
  show wpAny _ _ (richCompare .NotEq _ _) _ _ _
  refine cmp_neK (tb := t) (by have := hr.un; omega) hF I.ok.mod.kin J (Z.ty _ _ I.kIn pP) hn hne hmr hm.at_ hm.fn ?_
  refine wpAny_mono (run_O (us := [.ref a, u]) (vs := [.ref a, y]) G hr.in1 I.env0.in1 I (.cons rfl (.cons ry .nil)) q) (fun w s' z => ?_) fun _ _ x => x
  obtain ⟨z', H', I', rz, b, ez, qz⟩ := z
  subst ez
  cases (show w = Value.bool b from rz)
  exact ⟨b, rfl, .bl (!b), H', I', rfl, qz⟩
end
end W9
set_option maxHeartbeats 4000000
/-! repr of data; small data -/
namespace W9
open PySem PySem.Spec PyProof.Rows L2
open Sem (wp)
/-- what repr can show here -/
def RpOk (d : PyData) : Prop := PyData.layable0 d = true ∧ d.intsShort 13 = true ∧ d.showable = true
def rRepr (K : PySem.W.Frag) : List V → Hp → VK → Prop := fun xs H Q => ∃ x d, xs = [x] ∧ Dp K H x d ∧ RpOk d ∧ ((∃ b, d = .bool b) ∨ (∃ i, d = .int i) ∨ ∃ a, x = .ref a) ∧ Q (.str d.shown) H
theorem call_repr9 {X : Cx} (hg : X.A.guards = some []) (hu : X.A.units + 65 < cLine) : CallR X (.builtin "repr") (rRepr X.K) := by
  intro pins s σ H xs us Q I r h
  obtain ⟨x, d, rfl, hd, ⟨hl, hi, hs⟩, hx, q⟩ := h
  obtain ⟨u, rfl, ru⟩ := r.one
  obtain ⟨as, rd⟩ := Dp.reads I d x u hd ru
  have hsz := shown_le13 hl hi
  rcases hx with ⟨b, rfl⟩ | ⟨i, rfl⟩ | ⟨a, rfl⟩
  · cases hd
    cases (show u = Value.bool b from ru)
    have e : (PyData.bool b).shown = (if b then "True" else "False" : Str) := by simp only [PyData.shown]
    rw [e] at q
    exact PySem.P.repr_of_bool ⟨.str _, H, I.tok _, ⟨_, rfl⟩, q⟩
  · cases hd
    obtain ⟨t, rfl⟩ := (show ∃ t, u = Value.int i t from ru)
    have e : (PyData.int i).shown = (toString i : Str) := by simp only [PyData.shown]
    rw [e] at q
    exact PySem.P.repr_of_int (by simpa [PyData.showable] using hs) ⟨.str _, H, I.tok _, ⟨_, rfl⟩, q⟩
  · cases (show u = Value.ref a from ru)
    have h1 : (PyData.canLay0 d && decide (PyData.depth d ≤ 64) && decide (PyData.weight d ≤ 2 ^ 20)) = true := hl
    simp only [Bool.and_eq_true, decide_eq_true_eq] at h1
    refine repr_of_reads' rd hs (PyData.noDict_hsm (PyData.hasDict_of_canLay d h1.1.1)) hg (by have := h1.1.2; omega) (fun _ _ e => e) (fun h' u tk hk => ⟨.str d.shown, H, I.kept (t' := tk) hk, ⟨_, rfl⟩, q⟩) (by rw [sizeLine_eq]; omega)

/-! ### small data -/
/-- showable, of so small a depth and weight -/
structure Okd (k w : Nat) (d : Dt) : Prop where
  pl : d.pl = true
  lay : PyData.canLay0 d.py = true
  sh : d.py.showable = true
  is : d.py.intsShort 13 = true
  dp : d.py.depth ≤ k
  wt : d.py.weight ≤ w
theorem Okd.mono {k w k' w' : Nat} {d : Dt} (h : Okd k w d) (a : k ≤ k') (b : w ≤ w') : Okd k' w' d := ⟨h.pl, h.lay, h.sh, h.is, Nat.le_trans h.dp a, Nat.le_trans h.wt b⟩
theorem short1000 : ∀ i : Fin 1000, decide (((PyData.int ((i : Nat) : Int)).shown).length ≤ 13) = true ∧ decide (((i : Nat) : Int).natAbs.log2 < 10) = true := by decide +kernel
theorem okd_n {n : Nat} (h : n < 1000) : Okd 0 10 (di (n : Int)) := by
  obtain ⟨a, b⟩ := short1000 ⟨n, h⟩
  have b' : ((n : Int)).natAbs.log2 < 10 := of_decide_eq_true b
  refine ⟨rfl, by simp [Dt.py, PyData.canLay0], ?_, ?_, by simp [Dt.py, PyData.depth], ?_⟩
  · simp only [Dt.py, PyData.showable]
    exact decide_eq_true (Nat.lt_trans b' (by decide))
  · simp only [Dt.py, PyData.intsShort]
    exact a
  · simp only [Dt.py, PyData.weight]
    split
    · exact Nat.zero_le _
    · exact b'
theorem okd_b (b : Bool) : Okd 0 10 (db b) := ⟨rfl, by simp [Dt.py, PyData.canLay0], by simp [Dt.py, PyData.showable], by simp [Dt.py, PyData.intsShort], by simp [Dt.py, PyData.depth], by simp [Dt.py, PyData.weight]⟩
theorem okd_do : Okd 0 10 (ds "do") := ⟨rfl, by decide +kernel, by decide +kernel, by decide +kernel, by decide +kernel, by decide +kernel⟩
theorem okd_hear : Okd 0 10 (ds "hear") := ⟨rfl, by decide +kernel, by decide +kernel, by decide +kernel, by decide +kernel, by decide +kernel⟩
theorem okds {k w : Nat} : ∀ {l : List Dt}, (∀ d ∈ l, Okd k w d) → pls l = true ∧ PyData.canLayAll0 (pys l) = true ∧ PyData.showableAll (pys l) = true ∧ PyData.intsShortAll 13 (pys l) = true ∧ PyData.depthAll (pys l) ≤ k ∧ PyData.weightAll (pys l) ≤ l.length * (w + 1)
  | [], _ => ⟨rfl, by simp [pys, PyData.canLayAll0], by simp [pys, PyData.showableAll], by simp [pys, PyData.intsShortAll], by simp [pys, PyData.depthAll], by simp [pys, PyData.weightAll]⟩
  | d :: l, h => by
    have a := h d List.mem_cons_self
    obtain ⟨h1, h2, h3, h4, h5, h6⟩ := okds fun e he => h e (List.mem_cons_of_mem _ he)
    refine ⟨by show (_ && _) = true; rw [a.pl, h1]; rfl, ?_, ?_, ?_, ?_, ?_⟩
    · simp only [pys, PyData.canLayAll0, a.lay, h2, Bool.and_self]
    · simp only [pys, PyData.showableAll, a.sh, h3, Bool.and_self]
    · simp only [pys, PyData.intsShortAll, a.is, h4, Bool.and_self]
    · have q := a.dp
      simp only [pys, PyData.depthAll]
      omega
    · have q := a.wt
      simp only [pys, PyData.weightAll, List.length_cons]
      rw [Nat.add_mul]
      omega
theorem okd_t {k w n : Nat} {l : List Dt} (h : ∀ d ∈ l, Okd k w d) (hn : l.length ≤ n) : Okd (k + 1) (n * (w + 1)) (.tup l) := by
  obtain ⟨h1, h2, h3, h4, h5, h6⟩ := okds h
  refine ⟨h1, ?_, ?_, ?_, ?_, ?_⟩
  · simp only [Dt.py, PyData.canLay0]; exact h2
  · simp only [Dt.py, PyData.showable]; exact h3
  · simp only [Dt.py, PyData.intsShort]; exact h4
  · simp only [Dt.py, PyData.depth]; omega
  · simp only [Dt.py, PyData.weight]
    exact Nat.le_trans h6 (Nat.mul_le_mul_right _ hn)
theorem rpOk_of {k w : Nat} {d : Dt} (h : Okd k w d) (a : k ≤ 64) (b : w ≤ 1048576) : RpOk d.py := by
  have h5 := h.dp
  have h6 := h.wt
  refine ⟨?_, h.is, h.sh⟩
  show (PyData.canLay0 d.py && decide (PyData.depth d.py ≤ 64) && decide (PyData.weight d.py ≤ 2 ^ 20)) = true
  simp only [Bool.and_eq_true, decide_eq_true_eq]
  exact ⟨⟨h.lay, by omega⟩, by have e : (2 : Nat) ^ 20 = 1048576 := by decide
                               omega⟩
/-- a list of small data -/
theorem rpOk_l {k w n : Nat} {l : List Dt} (h : ∀ d ∈ l, Okd k w d) (hn : l.length ≤ n) (a : k + 1 ≤ 64) (b : n * (w + 1) ≤ 1048576) : RpOk (.list (pys l)) := by
  obtain ⟨h1, h2, h3, h4, h5, h6⟩ := okds h
  have h7 := Nat.le_trans h6 (Nat.mul_le_mul_right (w + 1) hn)
  refine ⟨?_, by simp only [PyData.intsShort]; exact h4, by simp only [PyData.showable]; exact h3⟩
  show (PyData.canLay0 (.list (pys l)) && decide (PyData.depth (.list (pys l)) ≤ 64) && decide (PyData.weight (.list (pys l)) ≤ 2 ^ 20)) = true
  have e1 : PyData.depth (.list (pys l)) ≤ 64 := by
    simp only [PyData.depth]
    omega
  have e2 : PyData.weight (.list (pys l)) ≤ 2 ^ 20 := by
    simp only [PyData.weight]
    have e : (2 : Nat) ^ 20 = 1048576 := by decide
    omega
  have e3 : PyData.canLay0 (.list (pys l)) = true := by
    simp only [PyData.canLay0]
    exact h2
  rw [e3, decide_eq_true e1, decide_eq_true e2]
  rfl
end W9
set_option maxHeartbeats 4000000
/-! with, also where the body raises -/
namespace W9
open PySem PySem.Spec PyProof.Rows L2
open Sem (wp)
section
variable {prog : Program} {w : World} {M : Model} {A : Around} {E : Value → Shared → Prop} {s : Shared} {env : Env} {K : PySem.W.Frag} {x C fe fx : Addr} {ox : Obj} {od : Option Obj} {pos : Pos}
/-- what with does where its body raises e -/
def WErr (prog : Program) (w : World) (A : Around) (E : Value → Shared → Prop) (env : Env) (x fx : Addr) (Q : Flow → Shared → Prop) (e : Value) (s : Shared) : Prop :=
  e ≠ byPass ∧ wpAny (model prog w) A (noteFrame e env) (fun _ s1 => wpAny (model prog w) A (setFlight e none) (fun _ s2 => wpAny (model prog w) A (typeOf e) (fun t s3 => wpAny (model prog w) A (tracebackOf e) (fun tb s4 =>
    codeAny (model prog w) (A.mark (some e)) (.call (.ref fx) ⟨[.ref x] ++ [t, e, tb], []⟩) (fun r s5 => match r with
      | .ok (.ret v) => v = .none ∧ wpAny (model prog w) A (PySem.passOn "with" e env : Sem Flow) Q E s5
      | .ok _ => False
      | .error e' => E e' s5) s4) E s3) E s2) E s1) E s
theorem with_core {b : Value → Sem Unit} {bdy : Sem Flow} {Q : Flow → Shared → Prop} (X : K.In s.heap) (I : PySem.W.InstAt s.heap x ox C od) (he : PySem.W.findIn K (.ref C) "__enter__" = some (some (.ref fe))) (hfe : PySem.W.isFn K (.ref fe) = true)
    (hx : PySem.W.findIn K (.ref C) "__exit__" = some (some (.ref fx))) (hfx : PySem.W.isFn K (.ref fx) = true)
    (h : wpAny (model prog w) A (call (.ref fe) [.ref x]) (fun v s₂ => wpAny (model prog w) A (b v >>= fun _ => bdy)
      (fun f s₄ => wpAny (model prog w) A (call (.ref fx) [.ref x, .none, .none, .none]) (fun _ s₅ => Q f s₅) E s₄) (WErr prog w A E env x fx Q) s₂) E s) :
    wpAny (model prog w) A (withItem false pos env (pure (.ref x)) (some b) bdy) Q E s := by
  obtain ⟨cd, hcd, ae⟩ := PySem.W.kw_along he
  obtain ⟨cd', hcd', ax⟩ := PySem.W.kw_along hx
  cases hcd.symm.trans hcd'
  obtain ⟨hh, g, d, tt, os⟩ := s
  have L1 : PySem.W.Looks (model prog w) hh (specialOnItsLine (.ref x) "__enter__") (some (.ref fe), cd.mro) := PySem.W.kw_special X I hcd ae
  have L2 : PySem.W.Looks (model prog w) hh (specialOnItsLine (.ref x) "__exit__") (some (.ref fx), cd.mro) := PySem.W.kw_special X I hcd ax
  have L3 : PySem.W.Looks (model prog w) hh (bindSpecial (.ref fe) (.ref x)) (.ref fe, [.ref x]) := PySem.W.bind_fn X _ (beq_iff_eq.mp hfe)
  have L4 : PySem.W.Looks (model prog w) hh (bindSpecial (.ref fx) (.ref x)) (.ref fx, [.ref x]) := PySem.W.bind_fn X _ (beq_iff_eq.mp hfx)
  have L5 : PySem.W.Looks (model prog w) hh (aMethodOfAnotherBuiltinTypeStops (.ref fe) cd.mro) () := PySem.W.Looks.of_pure rfl
  have L6 : PySem.W.Looks (model prog w) hh (aMethodOfAnotherBuiltinTypeStops (.ref fx) cd.mro) () := PySem.W.Looks.of_pure rfl
  unfold withItem
  refine wpAny_bind (wpAny_pure ?_)
  refine wpAny_bind (wpAny_standAt ?_)
  simp only [Bool.false_eq_true, if_false]
  kw_lk
  refine wpAny_mono h (fun v s₂ h₂ => ?_) fun _ _ z => z
  kw_lk
  refine wpAny_attempt (PySem.W.kw_held ?_)
  show wpAny _ _ (b v >>= fun _ => bdy) _ _ _
  refine wpAny_mono h₂ (fun f s₄ h₄ => ?_) fun e s₄ z => ?_
  · kw_lk
    refine wpAny_mono h₄ (fun _ s₅ h₅ => ?_) fun _ _ z => z
    kw_lk
    exact h₅
  · obtain ⟨hb, z⟩ := z
    refine wpAny_bind (wpAny_mono z (fun _ s₅ z => ?_) fun _ _ y => y)
    refine wpAny_bind (wpAny_mono z (fun _ s₆ z => ?_) fun _ _ y => y)
    refine wpAny_bind (wpAny_standAt (wpAny_holding ?_))
    refine wpAny_bind (wpAny_mono z (fun t s₇ z => ?_) fun _ _ y => y)
    refine wpAny_bind (wpAny_mono z (fun tb s₈ z => ?_) fun _ _ y => y)
    refine wpAny_bind ?_
    unfold withItem.marked
    refine wpAny_bind (wpAny_run (codeAny_mono z fun r s₉ z => ?_) (fun q => hb (Option.some.inj q)))
    cases r with
    | error e => exact z
    | ok fl =>
      cases fl with
      | ret v =>
        obtain ⟨rfl, z⟩ := z
        exact wpAny_pure (wpAny_bind (wpAny_pure (wpAny_bind (wpAny_pure (W.KFB.if_not rfl z)))))
      | _ => exact z.elim
end

/-! ### a def called while an exception is handled: it raises nothing -/
structure FnE (P : Program) (w : World) (K : PySem.W.Frag) (mg : Str → Option Value) (base : Heap) (k : Nat) (f : Addr) (fd : FuncData) (ps : List Str) (sp : Sp) : Prop where
  len : ∀ vs H Q E, sp vs H Q E → vs.length = ps.length
  run : ∀ (A : Around) (outer : List Env) (s : Shared) (H : Hp) (args : Args) (us : List Value) (vs : List V) (Q : VK) (E : XK) (p : Addr × Obj), L2H.RoomH k A → L2H.PinOk outer H s p → Env0 P w K mg base A outer s H → BindsTo s fd args (ps.zip us) → Vals vs us → sp vs H Q E →
    codeAny (model P w) A (.call (.ref f) args) (CR CX0 outer P w H s Q E) s
theorem fn_ofE {P : Program} {w : World} {K : PySem.W.Frag} {mg : Str → Option Value} {base : Heap} {k : Nat} {f : Addr} {name qual : Str} {params : Arguments} {body : List Stmt} {scope : Scope} {dV kV doc pm cdv ct oc : Value} {an od : Option Addr}
    {osl : Array (Option Value)} {N ps : List Str} {sp : Sp} (lk : K.lookup f = some ⟨oc, od, .func (PySem.W.fnOf name qual params body scope dV kV doc pm an cdv ct), osl⟩) (hcd : PySem.W.codeIn K cdv qual = true) (S : FnScope N ps scope)
    (len : ∀ vs H Q E, sp vs H Q E → vs.length = ps.length)
    (hbody : ∀ (A : Around) (outer : List Env) (s : Shared) (H : Hp) (vs : List V) (Q : VK) (E : XK) (p : Addr × Obj), L2H.RoomH k (A.deeper (envOfC qual scope s.heap.objs.size f cdv)) → sp vs H Q E →
      ∃ t, PSs (L2H.cxH CX0 P w K mg base N qual scope f cdv A outer s H E p) body t ∧ t { nx := fun _ H' => Q .non H', rt := Q } (L2.start N vs) H) :
    FnE P w K mg base (k + 1) f (PySem.W.fnOf name qual params body scope dV kV doc pm an cdv ct) ps sp := by
  refine ⟨len, fun A outer s H args us vs Q E p hr hpin e0 hb r hsp => ?_⟩
  have hl := len _ _ _ _ hsp
  have KX : K.In s.heap := e0.mod.kin.keeps fun b o e => (e0.bs b o e).1
  have lim : s.heap.NoLimit := e0.mod.nolimit.keeps fun b o e => (e0.bs b o e).1
  have hkind : ∀ y ∈ ps.zip us, scope.names.lookup y.1 = some .local ∨ (scope.names.lookup y.1 = some .cell ∧ ((cellsFrom (s.heap.objs.size + 1) scope.names []).lookup y.1).isSome = true) := fun ⟨n, v⟩ hy => by
    rcases S.par n (List.of_mem_zip hy).1 with q | q
    · exact .inl q
    · exact .inr ⟨q, PySem.W.cellsFrom_some _ _ _ (.inl q)⟩
  refine codeAny_call_function hr.depth (KX _ _ lk) rfl S.co S.gen rfl (PySem.W.codeRec_of KX hcd) (hb _ _ _ _ ?_)
  refine wpAny_newFunctionEnv_cells S.kind hkind fun env he s1 x => ?_
  subst he
  refine ⟨lim.keeps x.toInCall.keep, codeAny_func ?_⟩
  obtain ⟨t, ht, hq⟩ := hbody A outer s H vs Q E p (hr.deeper _) hsp
  have I : Inv (L2H.cxH CX0 P w K mg base N qual scope f cdv A outer s H E p) [] (L2.start N vs) H s1 := L2H.inv_startH S hpin e0 hl r x
  refine wpAny_mono (ht.run [] s1 (L2.start N vs) H _ I hq) (fun fl s' hs => ?_) fun e s' hs => hs
  have fin : ∀ {σ' : L2.St} {H' : Hp} {v : V} {u : Value}, Inv (L2H.cxH CX0 P w K mg base N qual scope f cdv A outer s H E p) [] σ' H' s' → RelV v u → Q v H' → CE outer P w H s Q u s' :=
    fun {σ' H' v u} J rv q => ⟨v, H', J.os, J.bare, J.base, J.hok, rv, q⟩
  cases fl with
  | ret u =>
    obtain ⟨v, σ', H', J, rv, q⟩ := hs
    exact fin J rv q
  | next =>
    obtain ⟨σ', H', J, q⟩ := hs
    exact fin (v := V.non) (u := Value.none) J rfl q
  | brk =>
    obtain ⟨_, _, _, q⟩ := hs
    exact False.elim q
  | cont =>
    obtain ⟨_, _, _, q⟩ := hs
    exact False.elim q
/-- with its binding -/
structure Oke (P : Program) (w : World) (K : PySem.W.Frag) (mg : Str → Option Value) (base : Heap) (k : Nat) (f : Addr) (ps : List Str) (sp : Sp) : Prop where
  ex : ∃ fd : FuncData, FnE P w K mg base k f fd ps sp ∧ Binds K fd ps []
/-- as Fun.ok -/
theorem fun_okE {P : Program} {w : World} {K : PySem.W.Frag} {mg : Str → Option Value} {base : Heap} {x qual : Str} {st : Stmt} {f : Addr} {fd : FuncData} {N ps : List Str} {k : Nat} {sp : Sp} (F : Fun K x qual st f fd) (S : FnScope N ps (defScope st)) (len : ∀ vs H Q E, sp vs H Q E → vs.length = ps.length)
    (hbody : ∀ (cdv : Value) (A : Around) (outer : List Env) (s : Shared) (H : Hp) (vs : List V) (Q : VK) (E : XK) (p : Addr × Obj), L2H.RoomH k (A.deeper (envOfC qual (defScope st) s.heap.objs.size f cdv)) → sp vs H Q E →
      ∃ t, PSs (L2H.cxH CX0 P w K mg base N qual (defScope st) f cdv A outer s H E p).nox (defBody st) t ∧ t { nx := fun _ H' => Q .non H', rt := Q } (L2.start N vs) H) : FnE P w K mg base (k + 1) f fd ps sp := by
  obtain ⟨oc, od, kV, doc, pm, an, cdv, ct, osl, rfl, lk, hcd⟩ := F.ex
  refine fn_ofE lk hcd S len fun A outer s H vs Q E p hr hsp => ?_
  obtain ⟨t, h, q⟩ := hbody cdv A outer s H vs Q E p hr hsp
  exact ⟨t, h.nox, q⟩

/-! ### with e as y: body (its body does not return, break, continue) -/
/-- what is wished of an exception of the body: __exit__ runs, on it goes -/
def wWith (a : Addr) (spX : Sp) (Wout : WX) : WX := fun cls d σ H => ∃ cv, RelV cv cls ∧ ∀ (e : Addr) (tv : V), H e = none → spX [.ref a, cv, .ref e, tv] H (fun z H' => z = .non ∧ Wout cls d σ H') E0
def tWith (C : Addr) (spE spX : Sp) (tc : TE) (g : TG) (tb : WX → TS) (Wout : WX) : TS := fun D σ H => tc σ H fun x H1 => ∃ a dx fs, x = .ref a ∧ H1 a = some (.ins C dx fs) ∧
  spE [.ref a] H1 (fun v H2 => g v σ H2 fun σ3 H3 => tb (wWith a spX Wout) { nx := fun σ4 H4 => spX [.ref a, .non, .non, .non] H4 (fun _ H5 => D.nx σ4 H5) E0, rt := fun _ _ => False } σ3 H3) E0
section
variable {X : Cx} {k : Nat} {C fe fx : Addr} {spE spX : Sp} {ctx : Expr} {y : Str} {py pos : Pos} {body : List Stmt} {tc : TE} {g : TG} {tb : WX → TS} {Wout : WX} {pse psx : List Str}
theorem ps_with (hs : X.stack = X.env :: X.outer) (hf : X.env.frame = some X.env.locals) (hex : X.ex = []) (tk : Takes X Wout) (hc : PE X ctx tc) (me : Meth X.K C "__enter__" fe) (mx : Meth X.K C "__exit__" fx)
    (Ge : Okf X.prog X.w X.K X.mg X.base CX0 k fe pse spE) (Gx : Okf X.prog X.w X.K X.mg X.base CX0 k fx psx spX) (Gh : Oke X.prog X.w X.K X.mg X.base k fx psx spX) (hr : Room k X.A)
    (hg : ∀ (pn : List (Addr × Obj)) (xe : Value → Shared → Prop), PG (X.tr pn xe) (.Name y py) g)
    (hb : ∀ (W : WX) (pn : List (Addr × Obj)) (xe : Value → Shared → Prop), Takes (X.tr pn xe) W → PSs (X.tr pn xe) body (tb W)) :
    PS X (.With [⟨ctx, some (.Name y py)⟩] body pos) (tWith C spE spX tc g tb Wout) := by
  refine ⟨fun pins s σ H D I h => ?_⟩
  have ok := I.ok
  have hfr : X.A.frames = some (X.env :: X.outer) := by rw [ok.frames, hs]
  refine PySem.W.kw_execN (thn (hc.run pins s σ H _ I h) fun u s1 ⟨x, H1, I1, rx, a, dx, fs, ex, ea, h⟩ => ?_)
  subst ex
  cases (show u = Value.ref a from rx)
  obtain ⟨mA, J1, _⟩ := ins_get I1.hok ea
  obtain ⟨od, J1, _⟩ := J1.look
  unfold PySem.W.KwIn
  refine with_core I1.kIn J1 me.at_ me.fn mx.at_ mx.fn ?_
  refine wpAny_mono (run_O (us := [.ref a]) (vs := [.ref a]) (E' := X.xe) Ge hr I1.env0 I1 (.cons rfl .nil) h) (fun v s2 hv => ?_) fun _ _ z => z
  obtain ⟨v', H2, I2, rv, h2⟩ := hv
  have plain : ∀ (σ4 : L2.St) (H4 : Hp) (s4 : Shared) (f : Flow), Inv X pins σ4 H4 s4 → spX [.ref a, .non, .non, .non] H4 (fun _ H5 => D.nx σ4 H5) E0 → f = .next → wpAny (model X.prog X.w) X.A (call (.ref fx) [.ref a, .none, .none, .none]) (fun _ s₅ => SP X pins D f s₅) X.xe s4 := fun σ4 H4 s4 f I4 h4 ef => by
    subst ef
    refine wpAny_mono (run_O (us := [.ref a, .none, .none, .none]) (vs := [.ref a, .non, .non, .non]) (E' := X.xe) Gx hr I4.env0 I4 (.cons rfl (.cons rfl (.cons rfl (.cons rfl .nil)))) h4) (fun v s5 hv => ?_) fun _ _ z => z
    obtain ⟨_, H5, I5, _, q⟩ := hv
    exact ⟨σ4, H5, I5, q⟩
  let xe' : Value → Shared → Prop := WErr X.prog X.w X.A X.xe X.env a fx (SP X pins D)
  have takes : Takes (X.tr (X.pn ++ pins) xe') (wWith a spX Wout) := fun u s' xx => by
    obtain ⟨b, B, sI, pins', σ', H', cls, d, rfl, J', nb, up, sky, na, os, ag, cv, rcv, hw⟩ := xx
    have J : Inv X pins σ' H' sI := J'.ofTry ok
    have sky' : Sky B (X.env :: X.outer) b (Zc cls d) X.env.locals s'.heap := by rw [← hs]; exact sky
    refine ⟨ref_ne_byPass b, ?_⟩
    refine Sky.land Zc.steady hfr hf sky' fun h3 fl3 up3 => ?_
    have J3 : Inv X pins σ' H' { s' with heap := h3 } := J.landed nb fl3.1 (up.trans up3) os ag
    obtain ⟨k1, k2, k3, oe, vs, T, oT, ts, he3, hz, hd, hv1, hnT, hTe, hT, hdT, ht3⟩ := id fl3
    have nT : H' T = none := (J.inGround nb).gone hnT
    have notFr : ∀ (c : Addr) (o : Obj) (fv : Array Value), h3.get? c = some o → o.data = .fields fv → c ∉ frs (X.env :: X.outer) := fun c o fv e dd hm => by
      obtain ⟨_, o', e', hnf⟩ := k3.mem hm
      have eo : o = o' := Option.some.inj (e.symm.trans e')
      rw [← eo] at hnf
      exact hnf _ dd
    have locF : X.env.locals ∈ frs (X.env :: X.outer) := List.mem_filterMap.mpr ⟨X.env, List.mem_cons_self, hf⟩
    have fsF : ∀ c, c ∈ X.fs → c ∈ frs (X.env :: X.outer) := fun c hm => by
      obtain ⟨e, he, q⟩ := List.mem_filterMap.mp hm
      exact List.mem_filterMap.mpr ⟨e, List.mem_cons_of_mem _ he, q⟩
    have fb := notFr b oe vs he3 hd
    have fT := notFr T oT ts hT hdT
    have S3 : Inv (X.suite b ((b, oe) :: (T, oT) :: (X.pn ++ pins))) [] σ' H' { s' with heap := h3 } :=
      ⟨J3.ok.suite _ _, J3.os, J3.bare, J3.base, J3.loc, J3.cell, J3.free, J3.freeC, fun p hp => by
        rw [List.append_nil] at hp
        rcases List.mem_cons.mp hp with z | hp
        · rw [z]
          exact ⟨he3, na, fun z2 => fb (by rw [show b = X.env.locals from z2]; exact locF), fun z2 => fb (fsF _ z2), fun v z2 => by
            have z3 : oe.data = .cell v := z2
            rw [hd] at z3
            cases z3⟩
        · rcases List.mem_cons.mp hp with z | hp
          · rw [z]
            exact ⟨hT, nT, fun z2 => fT (by rw [show T = X.env.locals from z2]; exact locF), fun z2 => fT (fsF _ z2), fun v z2 => by
              have z3 : oT.data = .cell v := z2
              rw [hdT] at z3
              cases z3⟩
          · exact J3.pin p hp, J3.hok, J3.len⟩
    -- the class and the traceback that are handed on
    refine wpAny_typeOf_ref he3 ?_
    rw [hz.1]
    have h1T : 1 < ts.size := by have q := (Array.getElem?_eq_some_iff.mp ht3).1; omega
    have trace : ∀ {Q : Value → Shared → Prop} {E' : Value → Shared → Prop}, (∀ (tv : V) (tu : Value), RelV tv tu → Q tu { s' with heap := h3 }) → wpAny (model X.prog X.w) X.A (tracebackOf (.ref b)) Q E' { s' with heap := h3 } := fun {Q E'} q => by
      unfold tracebackOf
      refine wpAny_bind (wpAny_field he3 hd hv1 ?_)
      refine wpAny_bind (wpAny_field hT hdT (Array.getElem?_eq_getElem h1T) ?_)
      refine wpAny_ite_split (fun _ => ?_) (fun _ => ?_)
      · exact wpAny_pure (q .non .none rfl)
      · exact wpAny_pure (q (.ref T) (.ref T) rfl)
    refine trace fun tv tu rt => ?_
    -- __exit__ runs
    obtain ⟨fd, FX, bX⟩ := Gh.ex
    have hsp := hw b tv na
    have hl := FX.len _ _ _ _ hsp
    have hpin : L2H.PinOk X.stack H' { s' with heap := h3 } (b, oe) := ⟨he3, na, by rw [hs]; exact fb, fun v z => by
      have z3 : oe.data = .cell v := z
      rw [hd] at z3
      cases z3⟩
    have bb := bX { s' with heap := h3 } ([.ref a] ++ [cls, .ref b, tu]) S3.kIn (by rw [List.append_nil, ← hl]; rfl)
    rw [List.append_nil] at bb
    have vals4 : Vals [V.ref a, cv, V.ref b, tv] ([Value.ref a] ++ [cls, Value.ref b, tu]) := Paired.cons (show RelV (V.ref a) (Value.ref a) from rfl) (Paired.cons rcv (Paired.cons (show RelV (V.ref b) (Value.ref b) from rfl) (Paired.cons rt Paired.nil)))
    refine codeAny_mono (FX.run (X.A.mark (some (.ref b))) X.stack { s' with heap := h3 } H' ⟨[.ref a] ++ [cls, .ref b, tu], []⟩ ([.ref a] ++ [cls, .ref b, tu]) [.ref a, cv, .ref b, tv] _ E0 (b, oe) ⟨hr.dp, hr.un⟩ hpin S3.env0 bb vals4 hsp) fun r s6 hq => ?_
    cases r with
    | error e => exact False.elim hq
    | ok fl =>
      cases fl with
      | next => exact False.elim hq
      | brk => exact False.elim hq
      | cont => exact False.elim hq
      | ret u6 =>
        obtain ⟨z6, H6, S6, r6, ez, q6⟩ := S3.after hq
        subst ez
        cases (show u6 = Value.none from r6)
        refine ⟨rfl, ?_⟩
        have J6 : Inv X pins σ' H6 s6 := ⟨ok, S6.os, S6.bare, S6.base, S6.loc, S6.cell, S6.free, S6.freeC, fun p hp => S6.pin p (List.mem_append_left _ (List.mem_cons_of_mem _ (List.mem_cons_of_mem _ hp))), S6.hok, S6.len⟩
        have pa := S6.pin (b, oe) (List.mem_append_left _ List.mem_cons_self)
        have pT := S6.pin (T, oT) (List.mem_append_left _ (List.mem_cons_of_mem _ List.mem_cons_self))
        have ga : s6.heap.get? b = some oe := pa.1
        have gT : s6.heap.get? T = some oT := pT.1
        have na6 : H6 b = none := pa.2.1
        have nT6 : H6 T = none := pT.2.1
        have far : ∀ c o, sI.heap.get? c = some o → c ≠ b ∧ c ≠ T := fun c o e => by
          by_cases hb : c ∈ frs X.stack
          · rw [hs] at hb
            exact ⟨fun z => fb (by rw [← z]; exact hb), fun z => fT (by rw [← z]; exact hb)⟩
          · have q := nb c o e hb
            exact ⟨fun z => by
              rw [z, k2] at q
              exact (nomatch q), fun z => by
              rw [z, hnT] at q
              cases q⟩
        have far0 : ∀ c o, X.s_0.heap.get? c = some o → c ≠ b ∧ c ≠ T := fun c o e => by
          obtain ⟨o', q⟩ := J.base.there c o e (by rw [hex]; simp)
          exact far c o' q
        have farP : ∀ p ∈ X.pn ++ pins, p.1 ≠ b ∧ p.1 ≠ T := fun p hp => far p.1 p.2 (J.pin p hp).1
        obtain ⟨G, g1, g2⟩ := restrict s6.heap fun c => !(decide (c = b) || decide (c = T))
        have gIn : ∀ c o, G.get? c = some o → s6.heap.get? c = some o ∧ c ≠ b ∧ c ≠ T := fun c o e => by
          cases q : (!(decide (c = b) || decide (c = T))) with
          | false =>
            rw [g2 c q] at e
            cases e
          | true =>
            rw [g1 c q] at e
            simp only [Bool.not_eq_true', Bool.or_eq_false_iff, decide_eq_false_iff_not] at q
            exact ⟨e, q.1, q.2⟩
        have gOf : ∀ c o, c ≠ b → c ≠ T → s6.heap.get? c = some o → G.get? c = some o := fun c o h1 h2 e => by
          rw [g1 c (by simp [h1, h2])]
          exact e
        have I6 : Inv X pins σ' H6 { s6 with heap := G } := J6.less (fun c o e => (gIn c o e).1) gOf ⟨oe, vs, ga, hd⟩ ⟨oT, ts, gT, hdT⟩ na6 nT6 far0 farP
        have B6in : ∀ c o, (PySem.W.hideAll G (frs X.stack)).get? c = some o → s6.heap.get? c = some o := fun c o e => (gIn c o (PySem.W.of_hideAll _ e)).1
        have Bno : ∀ c, (c = b ∨ c = T) → (PySem.W.hideAll G (frs X.stack)).get? c = none := fun c hc => by
          cases q : (PySem.W.hideAll G (frs X.stack)).get? c with
          | none => rfl
          | some o =>
            obtain ⟨_, n1, n2⟩ := gIn c o (PySem.W.of_hideAll _ q)
            rcases hc with z | z
            · exact absurd z n1
            · exact absurd z n2
        have fl6 : HandSPX.FlyingZ (PySem.W.hideAll G (frs X.stack)) (X.env :: X.outer) b (Zc cls d) s6.heap := by
          refine ⟨B6in, Bno b (.inl rfl), ?_, oe, vs, T, oT, ts, ga, hz, hd, hv1, Bno T (.inr rfl), hTe, gT, hdT, ht3⟩
          have ff := funFrames_none (B := PySem.W.hideAll G (frs X.stack)) J6.stack fun c hb => PySem.W.hideAll_none _ hb
          rw [← hs]
          exact ff
        unfold PySem.passOn
        refine wpAny_bind (wpAny_field ga hd hv1 ?_)
        rw [if_neg (show ¬ ((Value.ref T == Value.none) = true) from by simp)]
        have goOn : wpAny (model X.prog X.w) X.A (setFlight (.ref b) X.env.frame) (fun _ s7 => wpAny (model X.prog X.w) X.A (throw (.ref b) : Sem Flow) (SP X pins D) X.xe s7) X.xe s6 := by
          rw [hf]
          refine HandSPX.setFlight_upZ fl6 fun h7 hh7 up7 => wpAny_throw (tk _ _ ?_)
          refine ⟨b, PySem.W.hideAll G (frs X.stack), { s6 with heap := G }, pins, σ', H6, cls, d, rfl, I6, fun c o e hb => PySem.W.hideAll_get _ e hb, ?_, .inr (.inr (by rw [← hs] at hh7; exact hh7)), na6, rfl, J6.bare, q6⟩
          exact Heap.UpToSlots.trans (Heap.UpToSlots.of_keeps fun c o e => (gIn c o e).1) up7
        first
          | exact wpAny_bind (wpAny_pure (wpAny_bind goOn))
          | exact wpAny_bind goOn
  refine wpAny_bind (wpAny_mono ((hg (X.pn ++ pins) xe').run [] s2 σ H2 v' v _ (I2.toTry xe') rv h2) (fun _ s3 h3 => ?_) fun _ _ z => z)
  obtain ⟨σ3, H3, I3, h3⟩ := h3
  refine wpAny_mono ((hb (wWith a spX Wout) (X.pn ++ pins) xe' takes).run [] s3 σ3 H3 _ I3 h3) (fun f s4 h4 => ?_) fun _ _ z => z
  cases f with
  | next =>
    obtain ⟨σ4, H4, I4, q4⟩ := h4
    exact plain σ4 H4 s4 .next (I4.ofTry ok) q4 rfl
  | ret u =>
    obtain ⟨_, _, _, _, _, q⟩ := h4
    exact False.elim q
  | brk =>
    obtain ⟨_, _, _, q⟩ := h4
    exact False.elim q
  | cont =>
    obtain ⟨_, _, _, q⟩ := h4
    exact False.elim q
end
end W9
set_option maxHeartbeats 4000000
/-! defs that reach repr (no guard is up); a lambda of one name handed to a def that calls it within a with -/
namespace W9
open PySem PySem.Spec PyProof.Rows L2 LamX
open Sem (wp)
/-! ### guards -/
structure FnG (P : Program) (w : World) (K : PySem.W.Frag) (mg : Str → Option Value) (base : Heap) (CX : CXT) (k : Nat) (f : Addr) (fd : FuncData) (ps : List Str) (sp : Sp) : Prop where
  len : ∀ vs H Q E, sp vs H Q E → vs.length = ps.length
  run : ∀ (A : Around) (outer : List Env) (s : Shared) (H : Hp) (args : Args) (us : List Value) (vs : List V) (Q : VK) (E : XK), A.guards = some [] → Room k A → Env0 P w K mg base A outer s H → BindsTo s fd args (ps.zip us) → Vals vs us → sp vs H Q E →
    codeAny (model P w) A (.call (.ref f) args) (CR CX outer P w H s Q E) s
theorem FnG.mono {P : Program} {w : World} {K : PySem.W.Frag} {mg : Str → Option Value} {base : Heap} {CX : CXT} {j k : Nat} {f : Addr} {fd : FuncData} {ps : List Str} {sp : Sp} (F : FnG P w K mg base CX j f fd ps sp) (h : j ≤ k) : FnG P w K mg base CX k f fd ps sp :=
  ⟨F.len, fun A outer s H args us vs Q E hg hr => F.run A outer s H args us vs Q E hg (hr.mono h)⟩
/-- a def of the text whose body asks for no guard -/
theorem Fun.okG {P : Program} {w : World} {K : PySem.W.Frag} {mg : Str → Option Value} {base : Heap} {CX : CXT} {x qual : Str} {st : Stmt} {f : Addr} {fd : FuncData} {N ps : List Str} {k : Nat} {sp : Sp} (F : Fun K x qual st f fd) (S : FnScope N ps (defScope st)) (len : ∀ vs H Q E, sp vs H Q E → vs.length = ps.length)
    (hbody : ∀ (cdv : Value) (A : Around) (outer : List Env) (s : Shared) (H : Hp) (vs : List V) (Q : VK) (E : XK), PySem.W.codeIn K cdv qual = true → A.guards = some [] → Room k (A.deeper (envOfC qual (defScope st) s.heap.objs.size f cdv)) → sp vs H Q E →
      ∃ t, PSs (cxOf CX P w K mg base N qual (defScope st) f cdv A outer s H E) (defBody st) t ∧ t { nx := fun _ H' => Q .non H', rt := Q } (L2.start N vs) H) : FnG P w K mg base CX (k + 1) f fd ps sp := by
  obtain ⟨oc, od, kV, doc, pm, an, cdv, ct, osl, rfl, lk, hcd⟩ := F.ex
  refine ⟨len, fun A outer s H args us vs Q E hg hr e0 hb r hsp => ?_⟩
  exact run_ofS lk hcd S hr e0 hb r (len _ _ _ _ hsp) fun hr' => hbody cdv A outer s H vs Q E hcd hg hr' hsp
structure Okg (P : Program) (w : World) (K : PySem.W.Frag) (mg : Str → Option Value) (base : Heap) (CX : CXT) (k : Nat) (f : Addr) (ps : List Str) (sp : Sp) : Prop where
  ex : ∃ fd : FuncData, FnG P w K mg base CX k f fd ps sp ∧ Binds K fd ps [] ∧ PySem.W.keepIn K (.ref f) = true
section
variable {X : Cx} {CX : CXT} {k : Nat} {f : Addr} {ps : List Str} {sp : Sp} {E : XK} {x : Str} {np pos : Pos} {e : Expr} {es : List Expr} {t : TA}
theorem run_g {pins : List (Addr × Obj)} {σ : L2.St} {H : Hp} {s : Shared} {Q : VK} {us : List Value} {vs : List V} {fd : FuncData} (F : FnG X.prog X.w X.K X.mg X.base CX k f fd ps sp) (hg : X.A.guards = some []) (hr : Room k X.A) (hb : Binds X.K fd ps []) (hx : Passes CX X E)
    (I : Inv X pins σ H s) (r : Vals vs us) (h : sp vs H Q E) : wpAny (model X.prog X.w) X.A (call (.ref f) us) (EP X pins σ Q) X.xe s := by
  have hl : us.length = ps.length := by rw [← r.length]; exact F.len _ _ _ _ h
  have b := hb s us I.kIn (by rw [List.append_nil]; exact hl)
  rw [List.append_nil] at b
  refine wpAny_call (codeAny_mono (F.run X.A X.stack s H ⟨us, []⟩ us vs Q E hg hr I.env0 b r h) fun r s' hq => ?_)
  cases r with
  | error e => exact hx pins σ H s e s' I hq
  | ok fl =>
    cases fl with
    | ret u => exact I.after hq
    | next => exact False.elim hq
    | brk => exact False.elim hq
    | cont => exact False.elim hq
theorem pe_callG (G : Okg X.prog X.w X.K X.mg X.base CX k f ps sp) (hgd : X.A.guards = some []) (hr : Room k X.A) (hg : Gl X x) (hm : X.mg x = some (.ref f)) (hx : Passes CX X E) (ha : PA X (e :: es) t)
    (hdb : (x == ("__debug__" : Str)) = false := by decide) (he : starEach (e :: es) X.env = (false, eval e X.env) :: starEach es X.env := by rfl) (hpl : (backTo pos (starEach es X.env)).any (·.1) = false := by rfl) :
    PE X (.Call (.Name x np) (e :: es) [] pos) (tCall sp [] E t) := by
  obtain ⟨fd, F, b, kp⟩ := G.ex
  refine ⟨fun pins s σ H Q I h => ?_⟩
  refine wpAny_Call_Name_kw (ld_glob I hg hm ?_ hdb)
  refine PySem.W.callWith_K (h₀ := X.base) I.ok.mod.kin kp (thn (ha.run pos pins s σ H _ I h) fun us s1 ⟨vs, H1, I1, r, q⟩ => ⟨I1.kIn, ?_⟩) he hpl
  have q' : sp (vs ++ []) H1 Q E := q
  rw [List.append_nil] at q'
  exact run_g F hgd hr b hx I1 r q'
theorem pe_callG0 (G : Okg X.prog X.w X.K X.mg X.base CX k f ps sp) (hgd : X.A.guards = some []) (hr : Room k X.A) (hg : Gl X x) (hm : X.mg x = some (.ref f)) (hx : Passes CX X E)
    (hdb : (x == ("__debug__" : Str)) = false := by decide) : PE X (.Call (.Name x np) [] [] pos) (tCall sp [] E tNil) := by
  obtain ⟨fd, F, b, kp⟩ := G.ex
  refine ⟨fun pins s σ H Q I h => ?_⟩
  refine wpAny_Call_Name_kw (ld_glob I hg hm ?_ hdb)
  have h' : sp ([] ++ []) H Q E := h
  exact PySem.W.callWith_K0 I.kIn kp (run_g (us := []) (vs := []) F hgd hr b hx I .nil h')
end

/-! ### the lambda's names: one parameter, captured names, globals -/
structure LamP (sc scope : Scope) (a : Str) : Prop where
  kind : scope.kind = .function
  co : scope.isCoroutine = false
  gen : scope.isGenerator = false
  par : scope.names.lookup a = some .local
  own : ∀ y ∈ scope.names, y.2 = .local → y.1 = a
  nc : ∀ y ∈ scope.names, y.2 ≠ .cell
  free : ∀ y ∈ scope.names, y.2 = .free → sc.names.lookup y.1 = some .cell ∨ sc.names.lookup y.1 = some .free
def lamPB (sc scope : Scope) (a : Str) : Bool :=
  decide (scope.kind = .function) && !scope.isCoroutine && !scope.isGenerator && decide (scope.names.lookup a = some .local) &&
    scope.names.all fun y => (!decide (y.2 = .local) || decide (y.1 = a)) && !decide (y.2 = .cell) && (!decide (y.2 = .free) || decide (sc.names.lookup y.1 = some .cell) || decide (sc.names.lookup y.1 = some .free))
theorem lamP_by {sc scope : Scope} {a : Str} (h : lamPB sc scope a = true) : LamP sc scope a := by
  unfold lamPB at h
  simp only [Bool.and_eq_true, Bool.or_eq_true, Bool.not_eq_true', decide_eq_true_eq, decide_eq_false_iff_not, List.all_eq_true] at h
  obtain ⟨⟨⟨⟨h1, h2⟩, h3⟩, h5⟩, h4⟩ := h
  refine ⟨h1, h2, h3, h5, fun y hy e => ?_, fun y hy => (h4 y hy).1.2, fun y hy e => ?_⟩
  · rcases (h4 y hy).1.1 with z | z
    · exact absurd e z
    · exact z
  · rcases (h4 y hy).2 with (z | z) | z
    · exact absurd e z
    · exact .inl z
    · exact .inr z
theorem LamP.has {X : Cx} {scope : Scope} {a : Str} (L : LamP X.env.scope scope a) (ok : X.Ok) : ∀ y ∈ scope.names, y.2 = .free → ∃ c, X.env.cells.lookup y.1 = some c := fun y hy e => by
  rcases L.free y hy e with k | k
  · exact ok.has _ (.inl k)
  · exact ok.has _ (.inr k)
section
variable {X : Cx} {pins : List (Addr × Obj)} {σ : L2.St} {H HZ : Hp} {s s1 : Shared}
theorem lam_startP {A : Around} {outer : List Env} {E : XK} {scope : Scope} {f c' : Addr} {h₁ : Heap} {tk : Nat} {a : Str} {j : Nat} {u : Value} {v : V} (I : Inv X pins σ H s) (L : LamP X.env.scope scope a) (hN : X.N.Nodup) (hj : X.N[j]? = some a) (rv : RelV v u)
    (e0 : Env0 X.prog X.w X.K X.mg X.base A outer s1 HZ) (hd : A.handled = none)
    (un : Un (frs X.stack) [] H HZ s.heap s1.heap) (hns : h₁.Ns s1.heap.objs.size fun y => ([(a, u)] : List (Str × Value)).reverse.lookup y) (kp : ∀ b o, s1.heap.get? b = some o → h₁.get? b = some o) :
    Inv (lamCx X A outer s1 HZ E scope f c') [] (σ.set j (some v)) HZ { s1 with heap := h₁, toks := tk } := by
  have hfree := L.has I.ok
  have cm : ∀ {y c}, (cloFrom X.env.cells scope.names []).lookup y = some c → X.env.cells.lookup y = some c := fun {y c} e => by
    rcases cloFrom_mem (PySem.mem_of_lookup e) with hm | ⟨h1, h2⟩
    · cases hm
    · obtain ⟨c1, hc⟩ := hfree _ h1 rfl
      have hc : X.env.cells.lookup y = some c1 := hc
      have e2 : c = c1 := by
        rw [h2, hc] <;> rfl
      rw [e2]
      exact hc
  have look : ∀ {y}, scope.names.lookup y = some .free → ∃ c, (cloFrom X.env.cells scope.names []).lookup y = some c := fun {y} hl => by
    have hy : (y, NameKind.free) ∈ scope.names := PySem.mem_of_lookup hl
    exact mem_lookup (cloFrom_has (cells := X.env.cells) (acc := []) hy)
  have cellK : ∀ {c : Addr} {v : Option Value}, H c = none → s.heap.IsCell c v → h₁.IsCell c v := fun {c v} n ⟨o, ho, hd⟩ => by
    obtain ⟨sl, q⟩ := un.any ho n (by simp)
    exact ⟨_, kp _ _ q, hd⟩
  have noA : ∀ b : Addr, b ∉ (lamCx X A outer s1 HZ E scope f c').ex := fun b z => absurd (show b ∈ ([] : List Addr) from z) (by simp)
  refine ⟨⟨e0.mod, L.kind, rfl, rfl, Nat.le_refl _, fun y z c e1 e2 => I.ok.inj y z c (cm e1) (cm e2), fun y hy => ?_, fun y c z _ => ?_, fun _ => hd, Around.frames_deeper e0.frames, .inr ⟨rfl, rfl⟩, fun b z => absurd z (noA b), e0.bs, e0.bsz, fun b _ _ => noA b,
      fun b z => absurd z (noA b), e0.funs, e0.frf⟩,
    rfl, e0.bare, Un.kept kp, ⟨_, hns, fun i y v' e1 e2 e3 => ?_⟩, fun y c e => ?_, e0.hok.fresh (Nat.le_refl _), fun y c e => ?_, fun q hq => absurd (show q ∈ ([] : List (Addr × Obj)) ++ [] from hq) (by simp), e0.hok.kept kp, by rw [List.length_set]; exact I.len⟩
  · have hy : scope.names.lookup y = some .cell ∨ scope.names.lookup y = some .free := hy
    rcases hy with hy | hy
    · exact absurd rfl (L.nc _ (PySem.mem_of_lookup hy))
    · exact look hy
  · have z : false = true := z
    cases z
  · have e3 : Vis scope y := e3
    have e1 : X.N[i]? = some y := e1
    by_cases hij : i = j
    · subst hij
      have ey : y = a := Option.some.inj (e1.symm.trans hj)
      have hi : i < σ.length := by rw [I.len]; exact (List.getElem?_eq_some_iff.mp e1).1
      rw [List.getElem?_set_self hi] at e2
      have ev : v = v' := Option.some.inj (Option.some.inj e2)
      subst ey ev
      refine ⟨u, rv, .inl ⟨L.par, ?_⟩⟩
      show ([(y, u)] : List (Str × Value)).reverse.lookup y = some u
      simp [List.lookup]
    · rw [List.getElem?_set_ne (Ne.symm hij)] at e2
      have hya : y ≠ a := fun z => hij (nodup_ix hN e1 (z ▸ hj))
      rcases e3 with k | k | k
      · exact absurd (L.own _ (PySem.mem_of_lookup k) rfl) hya
      · exact absurd rfl (L.nc _ (PySem.mem_of_lookup k))
      · obtain ⟨m, hn, hl⟩ := I.loc
        have hvis : Vis X.env.scope y := (L.free _ (PySem.mem_of_lookup k) rfl).elim (fun k => .inr (.inl k)) (fun k => .inr (.inr k))
        obtain ⟨w', r, q⟩ := hl i y v' e1 e2 hvis
        obtain ⟨c2, h2⟩ := look k
        refine ⟨w', r, .inr ⟨.inr k, c2, h2, ?_⟩⟩
        have c1 := cm h2
        rcases q with ⟨k', _⟩ | ⟨_, c3, e', z⟩
        · have k' : X.env.scope.names.lookup y = some .local := k'
          rcases L.free _ (PySem.mem_of_lookup k) rfl with k2 | k2 <;> rw [show X.env.scope.names.lookup y = _ from k2] at k' <;> cases k'
        · rw [c1] at e'
          cases e'
          exact cellK (I.freeC y _ c1) z
  · obtain ⟨w', z⟩ := I.cell y c (cm e)
    exact ⟨w', cellK (I.freeC y c (cm e)) z⟩
  · obtain ⟨v, o, ho, hd⟩ := I.cell y c (cm e)
    exact un.free c o ho (I.freeC y c (cm e)) (by simp)
/-- x(y), in the def that got the lambda: Z is that def's context, entered at s -/
theorem pe_actP {CXg : CXT} {Eg : XK} {Ng : List Str} {qg : Str} {sg : Scope} {g f c' : Addr} {cdg pm ctv : Value} {params : Arguments} {body : Expr} {scope : Scope} {k i i2 j : Nat} {a b pname : Str} {pn : List (Addr × Obj)} {xe : Value → Shared → Prop} {W : WX} {E : XK} {tb : TE} {p1 p2 p3 : Pos}
    (I : Inv X pins σ H s) (L : LamP X.env.scope scope pname) (hNX : X.N.Nodup) (hj : X.N[j]? = some pname) (hf : s.heap.get? f = some (PySem.W.kla_obj "<lambda>" (X.env.qual ++ "<lambda>") params body scope (cloFrom X.env.cells scope.names []) pm c' ctv)) (hfn : H f = none) (hfr : f ∉ frs X.stack)
    (hbind : ∀ u : Value, bindArgs (PySem.W.kla_fn "<lambda>" (X.env.qual ++ "<lambda>") params body scope (cloFrom X.env.cells scope.names []) pm (.ref c') ctv) ⟨[u], []⟩ = pure [(pname, u)])
    (tk : Takes ((cxOf CXg X.prog X.w X.K X.mg X.base Ng qg sg g cdg X.A X.stack s H Eg).tr pn xe) W) (hW : ∀ cls d σ' H', E cls d H' → W cls d σ' H') (hr : Room (k + 1) (X.A.deeper (envOfC qg sg s.heap.objs.size g cdg)))
    (hbody : ∀ (A : Around) (outer : List Env) (s : Shared) (H : Hp), A.guards = X.A.guards → Room k (A.deeper (lamEnv X scope s.heap.objs.size f c')) → PE (lamCx X A outer s H E scope f c') body tb)
    (hN : Ng[i]? = some a) (hv : Vis sg a) (hN2 : Ng[i2]? = some b) (hv2 : Vis sg b) (hd : (a == ("__debug__" : Str)) = false := by decide) (hcd : (a == ("__classdict__" : Str)) = false := by decide) (hd2 : (b == ("__debug__" : Str)) = false := by decide) (hcd2 : (b == ("__classdict__" : Str)) = false := by decide) :
    PE ((cxOf CXg X.prog X.w X.K X.mg X.base Ng qg sg g cdg X.A X.stack s H Eg).tr pn xe) (.Call (.Name a p1) [.Name b p3] [] p2)
      (fun σZ HZ Q => σZ[i]? = some (some (.ref f)) ∧ HZ c' = some (CodeO c' (X.env.qual ++ "<lambda>")) ∧ ∃ v, σZ[i2]? = some (some v) ∧ tb (σ.set j (some v)) HZ Q) := by
  refine ⟨fun pinsZ sZ σZ HZ Q IZ h => ?_⟩
  obtain ⟨hs, hc, v, hsv, ht⟩ := h
  refine wpAny_Call_Name_kw (thn ((pe_var (pos := p1) (i := i) hN hv hd hcd).run pinsZ sZ σZ HZ (fun v H1 => v = .ref f ∧ H1 = HZ) IZ ⟨.ref f, hs, rfl, rfl⟩) fun u0 s0 ⟨v0, H0, I0, r0, q0⟩ => ?_)
  obtain ⟨ev, eH⟩ := q0
  subst ev
  rw [eH] at I0
  obtain rfl : u0 = Value.ref f := r0
  have at_ : ∀ {s1 : Shared} {σ1 : L2.St}, Inv ((cxOf CXg X.prog X.w X.K X.mg X.base Ng qg sg g cdg X.A X.stack s H Eg).tr pn xe) pinsZ σ1 HZ s1 → s1.heap.get? f = some (PySem.W.kla_obj "<lambda>" (X.env.qual ++ "<lambda>") params body scope (cloFrom X.env.cells scope.names []) pm c' ctv) := fun I1 =>
    I1.base.keep f _ hf hfn hfr (fun z => nomatch (show f ∈ ([] : List Addr) from z))
  have hp := pa_cons (X := (cxOf CXg X.prog X.w X.K X.mg X.base Ng qg sg g cdg X.A X.stack s H Eg).tr pn xe) (pe_var (pos := p3) (i := i2) hN2 hv2 hd2 hcd2) pa_nil
  refine PySem.W.callWith_F ⟨_, _, _, _, at_ I0⟩ (thn (hp.run p2 pinsZ s0 σZ HZ (fun xs H1 => xs = [v] ∧ H1 = HZ) I0 ⟨v, hsv, rfl, rfl⟩) fun us s1 ⟨vs, H1, I1, r1, q1⟩ => ?_)
  obtain ⟨ev, eH⟩ := q1
  subst ev
  rw [eH] at I1
  obtain ⟨u, rfl, ru⟩ := r1.one
  refine ⟨⟨_, _, _, _, at_ I1⟩, ?_⟩
  have of1 := at_ I1
  have un : Un (frs X.stack) [] H HZ s.heap s1.heap := I1.base
  obtain ⟨⟨oc, ws, t, hoc, hdc, hvc⟩, _, _⟩ := I1.hok c' _ hc
  have rc : codeAny (model X.prog X.w) (X.A.deeper (envOfC qg sg s.heap.objs.size g cdg)) (.call (.ref f) ⟨[u], []⟩) (CR (L2.CX X.prog X.w) (envOfC qg sg s.heap.objs.size g cdg :: X.stack) X.prog X.w HZ s1 Q E) s1 := by
    refine PySem.W.kla_callFunE hr.depth of1 rfl L.co L.gen rfl ⟨c', oc, ws, t, rfl, hoc, hdc, hvc⟩ ?_
    rw [hbind u]
    refine wpAny_pure (wpAny_newFunctionEnv (fun y hy => L.nc y hy) (fun y hy => ?_) (fun h₁ hns hsb => ⟨I1.nolimit.fresh _ hsb, ?_⟩) L.kind)
    · rw [List.mem_singleton.mp hy]
      exact L.par
    show codeAny _ _ (.expr body (lamEnv X scope s1.heap.objs.size f c')) _ _
    have kp : ∀ b o, s1.heap.get? b = some o → h₁.get? b = some o := fun b o e => hsb.extBut b o (Nat.ne_of_lt (Heap.lt_size e)) (Heap.get?_push_of_some _ e)
    have J : Inv (lamCx X (X.A.deeper (envOfC qg sg s.heap.objs.size g cdg)) (envOfC qg sg s.heap.objs.size g cdg :: X.stack) s1 HZ E scope f c') [] (σ.set j (some v)) HZ { s1 with heap := h₁, toks := s1.toks + ([(pname, u)] : List (Str × Value)).length } :=
      lam_startP I L hNX hj ru I1.env0 hr.hd un hns kp
    refine PySem.W.kla_codeExpr (wpAny_mono ((hbody (X.A.deeper (envOfC qg sg s.heap.objs.size g cdg)) _ s1 HZ rfl (hr.deeper _)).run [] _ _ HZ Q J ht) (fun v s' hq => ?_) fun e s' hq => hq)
    obtain ⟨w', H', J', rv, q⟩ := hq
    exact ⟨w', H', J'.os, J'.bare, J'.base, J'.hok, rv, q⟩
  have hx : Passes (L2.CX X.prog X.w) ((cxOf CXg X.prog X.w X.K X.mg X.base Ng qg sg g cdg X.A X.stack s H Eg).tr pn xe) E := passes_call tk hW
  show wpAny _ _ (call (.ref f) [u]) _ _ _
  refine wpAny_call (codeAny_mono rc fun r s' hq => ?_)
  cases r with
  | error e => exact hx pinsZ σZ HZ s1 e s' I1 hq
  | ok fl =>
    cases fl with
    | ret u => exact I1.after hq
    | next => exact False.elim hq
    | brk => exact False.elim hq
    | cont => exact False.elim hq
end
end W9
set_option maxHeartbeats 4000000
namespace W9
open PySem PySem.Spec PyProof.Rows L2
theorem prec_of {K : PySem.W.Frag} {p g : Addr} (h : (match PySem.W.recIn K p "property" with | some (.ref a :: _) => decide (a = g) | _ => false) = true) : ∃ rest, PySem.W.recIn K p "property" = some (.ref g :: rest) := by
  cases q : PySem.W.recIn K p "property" with
  | none =>
    rw [q] at h
    cases h
  | some l =>
    rw [q] at h
    cases l with
    | nil => cases h
    | cons v r =>
      cases v with
      | ref a =>
        have e : a = g := of_decide_eq_true h
        subst e
        exact ⟨r, rfl⟩
      | _ => cases h
/-- what the defs ask of the text -/
structure Txt (K : PySem.W.Frag) (mg : Str → Option Value) : Prop where
  g_is_whole : mg "is_whole" = some (.ref (He.ga K "is_whole"))
  g_are_states : mg "are_states" = some (.ref (He.ga K "are_states"))
  g_wrong_in_reads : mg "wrong_in_reads" = some (.ref (He.ga K "wrong_in_reads"))
  g_wrong_in_updates : mg "wrong_in_updates" = some (.ref (He.ga K "wrong_in_updates"))
  g_wrong_in_merge : mg "wrong_in_merge" = some (.ref (He.ga K "wrong_in_merge"))
  g_need_kind : mg "need_kind" = some (.ref (He.ga K "need_kind"))
  g_merged_of : mg "merged_of" = some (.ref (He.ga K "merged_of"))
  g_is_step : mg "is_step" = some (.ref (He.ga K "is_step"))
  g_wrong_in_history : mg "wrong_in_history" = some (.ref (He.ga K "wrong_in_history"))
  g_need_history : mg "need_history" = some (.ref (He.ga K "need_history"))
  g_stages_of : mg "stages_of" = some (.ref (He.ga K "stages_of"))
  g_heard_of : mg "heard_of" = some (.ref (He.ga K "heard_of"))
  g_need_copy : mg "need_copy" = some (.ref (He.ga K "need_copy"))
  g_split_pairs : mg "split_pairs" = some (.ref (He.ga K "split_pairs"))
  g_under : mg "under" = some (.ref (He.ga K "under"))
  g__law_mixed : mg "_law_mixed" = some (.ref (He.ga K "_law_mixed"))
  g__law_folded : mg "_law_folded" = some (.ref (He.ga K "_law_folded"))
  g__law_draw : mg "_law_draw" = some (.ref (He.ga K "_law_draw"))
  g__law_begun : mg "_law_begun" = some (.ref (He.ga K "_law_begun"))
  g__law_like : mg "_law_like" = some (.ref (He.ga K "_law_like"))
  g__law_join_table : mg "_law_join_table" = some (.ref (He.ga K "_law_join_table"))
  g__law_both_lots : mg "_law_both_lots" = some (.ref (He.ga K "_law_both_lots"))
  g__law_reads : mg "_law_reads" = some (.ref (He.ga K "_law_reads"))
  g__law_renumbered : mg "_law_renumbered" = some (.ref (He.ga K "_law_renumbered"))
  g__law_holding : mg "_law_holding" = some (.ref (He.ga K "_law_holding"))
  g__law_any : mg "_law_any" = some (.ref (He.ga K "_law_any"))
  g__law_run : mg "_law_run" = some (.ref (He.ga K "_law_run"))
  g__law_begin_house : mg "_law_begin_house" = some (.ref (He.ga K "_law_begin_house"))
  g__law_split_of : mg "_law_split_of" = some (.ref (He.ga K "_law_split_of"))
  g__law_stands : mg "_law_stands" = some (.ref (He.ga K "_law_stands"))
  g__law_gone_back : mg "_law_gone_back" = some (.ref (He.ga K "_law_gone_back"))
  g__law_gone_on : mg "_law_gone_on" = some (.ref (He.ga K "_law_gone_on"))
  g__law_step_of : mg "_law_step_of" = some (.ref (He.ga K "_law_step_of"))
  g__law_turn : mg "_law_turn" = some (.ref (He.ga K "_law_turn"))
  g__law_led : mg "_law_led" = some (.ref (He.ga K "_law_led"))
  g__law_twin_of : mg "_law_twin_of" = some (.ref (He.ga K "_law_twin_of"))
  g__law_inner : mg "_law_inner" = some (.ref (He.ga K "_law_inner"))
  g__law_tried : mg "_law_tried" = some (.ref (He.ga K "_law_tried"))
  g__law_back_right : mg "_law_back_right" = some (.ref (He.ga K "_law_back_right"))
  g__law_hand_right : mg "_law_hand_right" = some (.ref (He.ga K "_law_hand_right"))
  g_law : mg "law" = some (.ref (He.ga K "law"))
  g_BadCopy : mg "BadCopy" = some (.ref (He.ga K "BadCopy"))
  g_BadKind : mg "BadKind" = some (.ref (He.ga K "BadKind"))
  g_BadHistory : mg "BadHistory" = some (.ref (He.ga K "BadHistory"))
  g_BadNumber : mg "BadNumber" = some (.ref (He.ga K "BadNumber"))
  g_TooGreat : mg "TooGreat" = some (.ref (He.ga K "TooGreat"))
  g_Trial : mg "Trial" = some (.ref (He.ga K "Trial"))
  g_House : mg "House" = some (.ref (He.ga K "House"))
  f_KeyError : mg "KeyError" = none
  f_all : mg "all" = none
  f_bool : mg "bool" = none
  f_dict : mg "dict" = none
  f_enumerate : mg "enumerate" = none
  f_int : mg "int" = none
  f_isinstance : mg "isinstance" = none
  f_len : mg "len" = none
  f_list : mg "list" = none
  f_max : mg "max" = none
  f_min : mg "min" = none
  f_range : mg "range" = none
  f_repr : mg "repr" = none
  f_set : mg "set" = none
  f_sorted : mg "sorted" = none
  f_str : mg "str" = none
  f_tuple : mg "tuple" = none
  f_super : mg "super" = none
  i_MOST_STATES : ∃ t, mg "MOST_STATES" = some (.int 8 t)
  i_MOST_UPDATES : ∃ t, mg "MOST_UPDATES" = some (.int 4 t)
  i_MOST_READ : ∃ t, mg "MOST_READ" = some (.int 9 t)
  i_MOST_COPIES : ∃ t, mg "MOST_COPIES" = some (.int 16 t)
  i_MOST_STEPS : ∃ t, mg "MOST_STEPS" = some (.int 60 t)
  s_DO : ∃ t, mg "DO" = some (.str "do" t)
  s_HEAR : ∃ t, mg "HEAR" = some (.str "hear" t)
  c_Trial : Cls K (He.ga K "Trial")
  c_House : Cls K (He.ga K "House")
  n_Trial_held_house : NoAttr K (He.ga K "Trial") "held_house"
  n_Trial_kept_past : NoAttr K (He.ga K "Trial") "kept_past"
  n_Trial_kept_later : NoAttr K (He.ga K "Trial") "kept_later"
  n_House_own_kind : NoAttr K (He.ga K "House") "own_kind"
  n_House_own_many : NoAttr K (He.ga K "House") "own_many"
  n_House_past : NoAttr K (He.ga K "House") "past"
  n_House_later : NoAttr K (He.ga K "House") "later"
  m_House___len__ : Meth K (He.ga K "House") "__len__" (He.ma K (He.ga K "House") "__len__")
  m_House_states : Meth K (He.ga K "House") "states" (He.ma K (He.ga K "House") "states")
  m_House_shown : Meth K (He.ga K "House") "shown" (He.ma K (He.ga K "House") "shown")
  m_House_known : Meth K (He.ga K "House") "known" (He.ma K (He.ga K "House") "known")
  m_House_split : Meth K (He.ga K "House") "split" (He.ma K (He.ga K "House") "split")
  m_House_need_room : Meth K (He.ga K "House") "need_room" (He.ma K (He.ga K "House") "need_room")
  m_House_keep : Meth K (He.ga K "House") "keep" (He.ma K (He.ga K "House") "keep")
  m_House_do : Meth K (He.ga K "House") "do" (He.ma K (He.ga K "House") "do")
  m_House_hear : Meth K (He.ga K "House") "hear" (He.ma K (He.ga K "House") "hear")
  m_House_undo : Meth K (He.ga K "House") "undo" (He.ma K (He.ga K "House") "undo")
  m_House_redo : Meth K (He.ga K "House") "redo" (He.ma K (He.ga K "House") "redo")
  m_House_copy : Meth K (He.ga K "House") "copy" (He.ma K (He.ga K "House") "copy")
  m_House_trial : Meth K (He.ga K "House") "trial" (He.ma K (He.ga K "House") "trial")
  m_House___eq__ : Meth K (He.ga K "House") "__eq__" (He.ma K (He.ga K "House") "__eq__")
  m_Trial___enter__ : Meth K (He.ga K "Trial") "__enter__" (He.ma K (He.ga K "Trial") "__enter__")
  m_Trial___exit__ : Meth K (He.ga K "Trial") "__exit__" (He.ma K (He.ga K "Trial") "__exit__")
  mk_Trial : Mk K (He.ga K "Trial") (He.ma K (He.ga K "Trial") "__init__")
  mk_House : Mk K (He.ga K "House") (He.ma K (He.ga K "House") "__init__")
  k_BadCopy : PySem.W.keepIn K (.ref (He.ga K "BadCopy")) = true
  p_House_table : PropOf K (He.ga K "House") "table" (He.ma K (He.ga K "House") "table") (gAd K "House" "table")
  p_House_history : PropOf K (He.ga K "House") "history" (He.ma K (He.ga K "House") "history") (gAd K "House" "history")
  ne_House : PySem.W.findIn K (.ref (He.ga K "House")) "__ne__" = some (some (.builtin "object.__ne__"))
  cl_House : PySem.W.findIn K (.ref (He.ga K "House")) "__class__" = some (some (.builtin "object.__class__"))
  cg_ : PySem.W.specialIn K (.builtin "object.__class__") "__get__" = some (some (.builtin "getset_descriptor.__get__"))
  ct_ : PySem.W.takesIn K (.builtin "object.__class__") = some true
  mo_House : PySem.W.mroIn K (He.ga K "House") (.type "object") = some true
  ki_H : PySem.W.kitOne K (.ref (He.ga K "House")) (.ref (He.ga K "House")) = some true
  ki_T : PySem.W.kitOne K (.type "tuple") (.ref (He.ga K "House")) = some false
  ki_I : PySem.W.kitOne K (.type "int") (.ref (He.ga K "House")) = some false
  ki_N : PySem.W.kitOne K (.type "NoneType") (.ref (He.ga K "House")) = some false
  b_BE : PySem.W.subIn K (.ref (He.ga K "BadCopy")) (.type "BaseException") = some true
  b_VE : PySem.W.subIn K (.ref (He.ga K "BadCopy")) (.type "ValueError") = some true
  b_ty : He.eqO ((PySem.W.typeIn K (.ref (He.ga K "BadCopy"))).map some) (some (some (.type "type"))) = true
  b_in : PySem.W.excInitIn K (He.ga K "BadCopy") veB "ValueError.__new__" = true
  b_ov : PySem.W.excOver K (He.ga K "BadCopy") veB = true
  b_su : PySem.W.ks_superIn K (He.ga K "BadCopy") (He.ga K "BadCopy") "__init__" = some (some (.builtin "ValueError.__init__"))
  b_ini : PySem.W.findIn K (.ref (He.ga K "BadCopy")) "__init__" = some (some (.ref (He.ma K (He.ga K "BadCopy") "__init__")))
  b_fn : PySem.W.isFn K (.ref (He.ma K (He.ga K "BadCopy") "__init__")) = true
  b_cell : cellB K (He.ma K (He.ga K "BadCopy") "__init__") (He.ga K "BadCopy") = true
  b_tk : PySem.W.takerIn K (He.ga K "BadCopy") "value" = some none
  b_nv : PySem.W.findIn K (.ref (He.ga K "BadCopy")) "value" = some none
  b_sa : PySem.W.findIn K (.ref (He.ga K "BadCopy")) "__setattr__" = some (some (.builtin "object.__setattr__"))
  b_hd : PySem.W.hasDictIn K (He.ga K "BadCopy") = true
  st_ : PySem.W.nsIn K cStatics "thirdparty.any" = some none
  x_BB : PySem.W.exmOne K (.ref (He.ga K "BadCopy")) (.ref (He.ga K "BadCopy")) = some true
  x_KB : PySem.W.exmOne K (.type "KeyError") (.ref (He.ga K "BadCopy")) = some false
  x_KK : PySem.W.exmOne K (.type "KeyError") (.type "KeyError") = some true
  b_kp : PySem.W.keepIn K (.ref (He.ga K "BadCopy")) = true
  b_mro : PySem.W.mroIn K (He.ga K "BadCopy") (.ref (He.ga K "BadCopy")) = some true
  tb_ : distB [(He.cT K ("_law_inner", none)).2, (He.cT K ("_law_tried", none)).2, (He.cT K ("_law_hand_right", none)).2, (He.cT K ("law", none)).2] = true
theorem txt_of {K : PySem.W.Frag} {h : Heap} {mg : Str → Option Value} (X : K.In h) (G : h.Ns mainGlobals mg) (c : SaysY fa ex tf fn fc h K) : Txt K mg where
  g_is_whole := He.glo_ok X G (c.facts _ (List.mem_of_getElem? (i := 0) (by rfl)))
  g_are_states := He.glo_ok X G (c.facts _ (List.mem_of_getElem? (i := 1) (by rfl)))
  g_wrong_in_reads := He.glo_ok X G (c.facts _ (List.mem_of_getElem? (i := 2) (by rfl)))
  g_wrong_in_updates := He.glo_ok X G (c.facts _ (List.mem_of_getElem? (i := 3) (by rfl)))
  g_wrong_in_merge := He.glo_ok X G (c.facts _ (List.mem_of_getElem? (i := 4) (by rfl)))
  g_need_kind := He.glo_ok X G (c.facts _ (List.mem_of_getElem? (i := 5) (by rfl)))
  g_merged_of := He.glo_ok X G (c.facts _ (List.mem_of_getElem? (i := 6) (by rfl)))
  g_is_step := He.glo_ok X G (c.facts _ (List.mem_of_getElem? (i := 7) (by rfl)))
  g_wrong_in_history := He.glo_ok X G (c.facts _ (List.mem_of_getElem? (i := 8) (by rfl)))
  g_need_history := He.glo_ok X G (c.facts _ (List.mem_of_getElem? (i := 9) (by rfl)))
  g_stages_of := He.glo_ok X G (c.facts _ (List.mem_of_getElem? (i := 10) (by rfl)))
  g_heard_of := He.glo_ok X G (c.facts _ (List.mem_of_getElem? (i := 11) (by rfl)))
  g_need_copy := He.glo_ok X G (c.facts _ (List.mem_of_getElem? (i := 12) (by rfl)))
  g_split_pairs := He.glo_ok X G (c.facts _ (List.mem_of_getElem? (i := 13) (by rfl)))
  g_under := He.glo_ok X G (c.facts _ (List.mem_of_getElem? (i := 14) (by rfl)))
  g__law_mixed := He.glo_ok X G (c.facts _ (List.mem_of_getElem? (i := 15) (by rfl)))
  g__law_folded := He.glo_ok X G (c.facts _ (List.mem_of_getElem? (i := 16) (by rfl)))
  g__law_draw := He.glo_ok X G (c.facts _ (List.mem_of_getElem? (i := 17) (by rfl)))
  g__law_begun := He.glo_ok X G (c.facts _ (List.mem_of_getElem? (i := 18) (by rfl)))
  g__law_like := He.glo_ok X G (c.facts _ (List.mem_of_getElem? (i := 19) (by rfl)))
  g__law_join_table := He.glo_ok X G (c.facts _ (List.mem_of_getElem? (i := 20) (by rfl)))
  g__law_both_lots := He.glo_ok X G (c.facts _ (List.mem_of_getElem? (i := 21) (by rfl)))
  g__law_reads := He.glo_ok X G (c.facts _ (List.mem_of_getElem? (i := 22) (by rfl)))
  g__law_renumbered := He.glo_ok X G (c.facts _ (List.mem_of_getElem? (i := 23) (by rfl)))
  g__law_holding := He.glo_ok X G (c.facts _ (List.mem_of_getElem? (i := 24) (by rfl)))
  g__law_any := He.glo_ok X G (c.facts _ (List.mem_of_getElem? (i := 25) (by rfl)))
  g__law_run := He.glo_ok X G (c.facts _ (List.mem_of_getElem? (i := 26) (by rfl)))
  g__law_begin_house := He.glo_ok X G (c.facts _ (List.mem_of_getElem? (i := 27) (by rfl)))
  g__law_split_of := He.glo_ok X G (c.facts _ (List.mem_of_getElem? (i := 28) (by rfl)))
  g__law_stands := He.glo_ok X G (c.facts _ (List.mem_of_getElem? (i := 29) (by rfl)))
  g__law_gone_back := He.glo_ok X G (c.facts _ (List.mem_of_getElem? (i := 30) (by rfl)))
  g__law_gone_on := He.glo_ok X G (c.facts _ (List.mem_of_getElem? (i := 31) (by rfl)))
  g__law_step_of := He.glo_ok X G (c.facts _ (List.mem_of_getElem? (i := 32) (by rfl)))
  g__law_turn := He.glo_ok X G (c.facts _ (List.mem_of_getElem? (i := 33) (by rfl)))
  g__law_led := He.glo_ok X G (c.facts _ (List.mem_of_getElem? (i := 34) (by rfl)))
  g__law_twin_of := He.glo_ok X G (c.facts _ (List.mem_of_getElem? (i := 35) (by rfl)))
  g__law_inner := He.glo_ok X G (c.facts _ (List.mem_of_getElem? (i := 36) (by rfl)))
  g__law_tried := He.glo_ok X G (c.facts _ (List.mem_of_getElem? (i := 37) (by rfl)))
  g__law_back_right := He.glo_ok X G (c.facts _ (List.mem_of_getElem? (i := 38) (by rfl)))
  g__law_hand_right := He.glo_ok X G (c.facts _ (List.mem_of_getElem? (i := 39) (by rfl)))
  g_law := He.glo_ok X G (c.facts _ (List.mem_of_getElem? (i := 40) (by rfl)))
  g_BadCopy := He.glo_ok X G (c.facts _ (List.mem_of_getElem? (i := 41) (by rfl)))
  g_BadKind := He.glo_ok X G (c.facts _ (List.mem_of_getElem? (i := 42) (by rfl)))
  g_BadHistory := He.glo_ok X G (c.facts _ (List.mem_of_getElem? (i := 43) (by rfl)))
  g_BadNumber := He.glo_ok X G (c.facts _ (List.mem_of_getElem? (i := 44) (by rfl)))
  g_TooGreat := He.glo_ok X G (c.facts _ (List.mem_of_getElem? (i := 45) (by rfl)))
  g_Trial := He.glo_ok X G (c.facts _ (List.mem_of_getElem? (i := 46) (by rfl)))
  g_House := He.glo_ok X G (c.facts _ (List.mem_of_getElem? (i := 47) (by rfl)))
  f_KeyError := He.free_ok X G (c.facts _ (List.mem_of_getElem? (i := 48) (by rfl)))
  f_all := He.free_ok X G (c.facts _ (List.mem_of_getElem? (i := 49) (by rfl)))
  f_bool := He.free_ok X G (c.facts _ (List.mem_of_getElem? (i := 50) (by rfl)))
  f_dict := He.free_ok X G (c.facts _ (List.mem_of_getElem? (i := 51) (by rfl)))
  f_enumerate := He.free_ok X G (c.facts _ (List.mem_of_getElem? (i := 52) (by rfl)))
  f_int := He.free_ok X G (c.facts _ (List.mem_of_getElem? (i := 53) (by rfl)))
  f_isinstance := He.free_ok X G (c.facts _ (List.mem_of_getElem? (i := 54) (by rfl)))
  f_len := He.free_ok X G (c.facts _ (List.mem_of_getElem? (i := 55) (by rfl)))
  f_list := He.free_ok X G (c.facts _ (List.mem_of_getElem? (i := 56) (by rfl)))
  f_max := He.free_ok X G (c.facts _ (List.mem_of_getElem? (i := 57) (by rfl)))
  f_min := He.free_ok X G (c.facts _ (List.mem_of_getElem? (i := 58) (by rfl)))
  f_range := He.free_ok X G (c.facts _ (List.mem_of_getElem? (i := 59) (by rfl)))
  f_repr := He.free_ok X G (c.facts _ (List.mem_of_getElem? (i := 60) (by rfl)))
  f_set := He.free_ok X G (c.facts _ (List.mem_of_getElem? (i := 61) (by rfl)))
  f_sorted := He.free_ok X G (c.facts _ (List.mem_of_getElem? (i := 62) (by rfl)))
  f_str := He.free_ok X G (c.facts _ (List.mem_of_getElem? (i := 63) (by rfl)))
  f_tuple := He.free_ok X G (c.facts _ (List.mem_of_getElem? (i := 64) (by rfl)))
  f_super := He.free_ok X G (c.facts _ (List.mem_of_getElem? (i := 65) (by rfl)))
  i_MOST_STATES := He.int_ok X G (c.facts _ (List.mem_of_getElem? (i := 66) (by rfl)))
  i_MOST_UPDATES := He.int_ok X G (c.facts _ (List.mem_of_getElem? (i := 67) (by rfl)))
  i_MOST_READ := He.int_ok X G (c.facts _ (List.mem_of_getElem? (i := 68) (by rfl)))
  i_MOST_COPIES := He.int_ok X G (c.facts _ (List.mem_of_getElem? (i := 69) (by rfl)))
  i_MOST_STEPS := He.int_ok X G (c.facts _ (List.mem_of_getElem? (i := 70) (by rfl)))
  s_DO := He.str_ok X G (c.facts _ (List.mem_of_getElem? (i := 71) (by rfl)))
  s_HEAR := He.str_ok X G (c.facts _ (List.mem_of_getElem? (i := 72) (by rfl)))
  c_Trial := He.cls_ok (c.facts _ (List.mem_of_getElem? (i := 73) (by rfl)))
  c_House := He.cls_ok (c.facts _ (List.mem_of_getElem? (i := 74) (by rfl)))
  n_Trial_held_house := He.noat_ok (c.facts _ (List.mem_of_getElem? (i := 75) (by rfl)))
  n_Trial_kept_past := He.noat_ok (c.facts _ (List.mem_of_getElem? (i := 76) (by rfl)))
  n_Trial_kept_later := He.noat_ok (c.facts _ (List.mem_of_getElem? (i := 77) (by rfl)))
  n_House_own_kind := He.noat_ok (c.facts _ (List.mem_of_getElem? (i := 78) (by rfl)))
  n_House_own_many := He.noat_ok (c.facts _ (List.mem_of_getElem? (i := 79) (by rfl)))
  n_House_past := He.noat_ok (c.facts _ (List.mem_of_getElem? (i := 80) (by rfl)))
  n_House_later := He.noat_ok (c.facts _ (List.mem_of_getElem? (i := 81) (by rfl)))
  m_House___len__ := He.meth_ok (c.facts _ (List.mem_of_getElem? (i := 82) (by rfl)))
  m_House_states := He.meth_ok (c.facts _ (List.mem_of_getElem? (i := 83) (by rfl)))
  m_House_shown := He.meth_ok (c.facts _ (List.mem_of_getElem? (i := 84) (by rfl)))
  m_House_known := He.meth_ok (c.facts _ (List.mem_of_getElem? (i := 85) (by rfl)))
  m_House_split := He.meth_ok (c.facts _ (List.mem_of_getElem? (i := 86) (by rfl)))
  m_House_need_room := He.meth_ok (c.facts _ (List.mem_of_getElem? (i := 87) (by rfl)))
  m_House_keep := He.meth_ok (c.facts _ (List.mem_of_getElem? (i := 88) (by rfl)))
  m_House_do := He.meth_ok (c.facts _ (List.mem_of_getElem? (i := 89) (by rfl)))
  m_House_hear := He.meth_ok (c.facts _ (List.mem_of_getElem? (i := 90) (by rfl)))
  m_House_undo := He.meth_ok (c.facts _ (List.mem_of_getElem? (i := 91) (by rfl)))
  m_House_redo := He.meth_ok (c.facts _ (List.mem_of_getElem? (i := 92) (by rfl)))
  m_House_copy := He.meth_ok (c.facts _ (List.mem_of_getElem? (i := 93) (by rfl)))
  m_House_trial := He.meth_ok (c.facts _ (List.mem_of_getElem? (i := 94) (by rfl)))
  m_House___eq__ := He.meth_ok (c.facts _ (List.mem_of_getElem? (i := 95) (by rfl)))
  m_Trial___enter__ := He.meth_ok (c.facts _ (List.mem_of_getElem? (i := 96) (by rfl)))
  m_Trial___exit__ := He.meth_ok (c.facts _ (List.mem_of_getElem? (i := 97) (by rfl)))
  mk_Trial := He.mkr_ok (c.facts _ (List.mem_of_getElem? (i := 98) (by rfl)))
  mk_House := He.mkr_ok (c.facts _ (List.mem_of_getElem? (i := 99) (by rfl)))
  k_BadCopy := He.keep_ok (c.facts _ (List.mem_of_getElem? (i := 100) (by rfl)))
  p_House_table := ⟨He.eqO_ok (c.more _ (List.mem_of_getElem? (i := 0) (by rfl))), He.eqO_ok (c.more _ (List.mem_of_getElem? (i := 1) (by rfl))), of_decide_eq_true (c.more _ (List.mem_of_getElem? (i := 2) (by rfl))), prec_of (c.more _ (List.mem_of_getElem? (i := 3) (by rfl)))⟩
  p_House_history := ⟨He.eqO_ok (c.more _ (List.mem_of_getElem? (i := 4) (by rfl))), He.eqO_ok (c.more _ (List.mem_of_getElem? (i := 5) (by rfl))), of_decide_eq_true (c.more _ (List.mem_of_getElem? (i := 6) (by rfl))), prec_of (c.more _ (List.mem_of_getElem? (i := 7) (by rfl)))⟩
  ne_House := He.eqO_ok (c.more _ (List.mem_of_getElem? (i := 8) (by rfl)))
  cl_House := He.eqO_ok (c.more _ (List.mem_of_getElem? (i := 9) (by rfl)))
  cg_ := He.eqO_ok (c.more _ (List.mem_of_getElem? (i := 10) (by rfl)))
  ct_ := of_decide_eq_true (c.more _ (List.mem_of_getElem? (i := 11) (by rfl)))
  mo_House := of_decide_eq_true (c.more _ (List.mem_of_getElem? (i := 12) (by rfl)))
  ki_H := of_decide_eq_true (c.more _ (List.mem_of_getElem? (i := 13) (by rfl)))
  ki_T := of_decide_eq_true (c.more _ (List.mem_of_getElem? (i := 14) (by rfl)))
  ki_I := of_decide_eq_true (c.more _ (List.mem_of_getElem? (i := 15) (by rfl)))
  ki_N := of_decide_eq_true (c.more _ (List.mem_of_getElem? (i := 16) (by rfl)))
  b_BE := of_decide_eq_true (c.more _ (List.mem_of_getElem? (i := 17) (by rfl)))
  b_VE := of_decide_eq_true (c.more _ (List.mem_of_getElem? (i := 18) (by rfl)))
  b_ty := (c.more _ (List.mem_of_getElem? (i := 19) (by rfl)))
  b_in := (c.more _ (List.mem_of_getElem? (i := 20) (by rfl)))
  b_ov := (c.more _ (List.mem_of_getElem? (i := 21) (by rfl)))
  b_su := He.eqO_ok (c.more _ (List.mem_of_getElem? (i := 22) (by rfl)))
  b_ini := He.eqO_ok (c.more _ (List.mem_of_getElem? (i := 23) (by rfl)))
  b_fn := (c.more _ (List.mem_of_getElem? (i := 24) (by rfl)))
  b_cell := (c.more _ (List.mem_of_getElem? (i := 25) (by rfl)))
  b_tk := He.eqO_ok (c.more _ (List.mem_of_getElem? (i := 26) (by rfl)))
  b_nv := He.eqO_ok (c.more _ (List.mem_of_getElem? (i := 27) (by rfl)))
  b_sa := He.eqO_ok (c.more _ (List.mem_of_getElem? (i := 28) (by rfl)))
  b_hd := (c.more _ (List.mem_of_getElem? (i := 29) (by rfl)))
  st_ := He.eqO_ok (c.more _ (List.mem_of_getElem? (i := 30) (by rfl)))
  x_BB := of_decide_eq_true (c.more _ (List.mem_of_getElem? (i := 31) (by rfl)))
  x_KB := of_decide_eq_true (c.more _ (List.mem_of_getElem? (i := 32) (by rfl)))
  x_KK := of_decide_eq_true (c.more _ (List.mem_of_getElem? (i := 33) (by rfl)))
  b_kp := (c.more _ (List.mem_of_getElem? (i := 34) (by rfl)))
  b_mro := of_decide_eq_true (c.more _ (List.mem_of_getElem? (i := 35) (by rfl)))
  tb_ := (c.more _ (List.mem_of_getElem? (i := 36) (by rfl)))
end W9
set_option maxHeartbeats 4000000
/-! under(manager, lambda): with manager as given: told = deed(given) -/
namespace W9
open PySem PySem.Spec PyProof.Rows L2 LamX
open Sem (wp)
abbrev N_under : List Str := ["manager", "deed", "given", "told"]
theorem sc_under : FnScope N_under ["manager", "deed"] (defScope s_under) := ⟨rfl, rfl, rfl, by decide +kernel, rfl, by decide +kernel, by decide +kernel⟩
/-- what is wished of an exception of the deed -/
def wEx (a : Addr) (spX : Sp) (E : XK) : XK := fun cls d H => ∃ cv, RelV cv cls ∧ ∀ (e : Addr) (tv : V), H e = none → spX [.ref a, cv, .ref e, tv] H (fun z H' => z = .non ∧ E cls d H') E0
def tUnder (T : List (Addr × Str)) (C : Addr) (spE spX : Sp) (q : Str) (j : Nat) (to : TE) (tl : XK → TE) (E : XK) : TE := fun σ H Q => to σ H fun x H1 => Tabs T H1 ∧ ∀ (c' : Addr) (H2 : Hp), ExtN H1 H2 → Tabs T H2 → H2 c' = some (CodeO c' q) →
  ∃ a dx fs, x = .ref a ∧ H2 a = some (.ins C dx fs) ∧ spE [.ref a] H2 (fun v H3 => H3 c' = some (CodeO c' q) ∧ tl (wEx a spX E) (σ.set j (some v)) H3 (fun z H4 => spX [.ref a, .non, .non, .non] H4 (fun _ H5 => Q z H5) E0)) E0
/-- what follows from what it promises -/
def SpM (sp : Sp) : Prop := ∀ (vs : List V) (H : Hp) (Q Q' : VK), (∀ v H, Q v H → Q' v H) → sp vs H Q E0 → sp vs H Q' E0
section
variable {X : Cx}
theorem pe_under {Tt : List (Addr × Str)} {spE spX : Sp} {k j : Nat} {c P : Addr} {fd : FuncData} {params : Arguments} {body o : Expr} {scope : Scope} {pname : Str} {to : TE} {tl : XK → TE} {E : XK} {p lpos pos : Pos} (T : Txt X.K X.mg) (hg : Gl X "under")
    (Ge : Okf X.prog X.w X.K X.mg X.base CX0 (k + 1) (He.ma X.K (He.ga X.K "Trial") "__enter__") ["self"] spE) (Gx : Okf X.prog X.w X.K X.mg X.base CX0 (k + 1) (He.ma X.K (He.ga X.K "Trial") "__exit__") ["self", "kind", "told", "trace"] spX)
    (Gh : Oke X.prog X.w X.K X.mg X.base (k + 1) (He.ma X.K (He.ga X.K "Trial") "__exit__") ["self", "kind", "told", "trace"] spX) (Fu : Fun X.K "under" "under" s_under (He.ga X.K "under") fd)
    (TB : TabB X.base X.mg c P) (hcode : X.env.code = .ref c) (hmT : (P, X.env.qual ++ "<lambda>") ∈ Tt) (hu : ∀ p ∈ Tt, p.1 = P → p.2 = X.env.qual ++ "<lambda>") (hr : Room (k + 2) X.A) (L : LamP X.env.scope scope pname) (hNX : X.N.Nodup) (hj : X.N[j]? = some pname)
    (hdef : defaultsOf params X.env = ([], [])) (hbind : ∀ (q : Str) (cl : List (Str × Addr)) (pm cv ctv u : Value), bindArgs (PySem.W.kla_fn "<lambda>" q params body scope cl pm cv ctv) ⟨[u], []⟩ = pure [(pname, u)]) (hx : Passes (L2.CX X.prog X.w) X E) (mE : SpM spE) (mX : SpM spX)
    (ho : PE X o to) (no : starEach [o, .Lambda params body scope lpos] X.env = (false, eval o X.env) :: (false, eval (.Lambda params body scope lpos) X.env) :: starEach [] X.env)
    (hbody : ∀ (A : Around) (outer : List Env) (s : Shared) (H : Hp) (E' : XK) (f c' : Addr), A.guards = X.A.guards → Room k (A.deeper (lamEnv X scope s.heap.objs.size f c')) → PE (lamCx X A outer s H E' scope f c') body (tl E')) :
    PE X (.Call (.Name "under" p) [o, .Lambda params body scope lpos] [] pos) (tUnder Tt (He.ga X.K "Trial") spE spX (X.env.qual ++ "<lambda>") j to tl E) := by
  refine ⟨fun pins s σ H Q I h => ?_⟩
  refine wpAny_Call_Name_kw (ld_glob I hg T.g_under ?_ (by decide))
  refine PySem.W.callWith_K (h₀ := X.base) I.ok.mod.kin Fu.kp ?_ (by rw [no]; rfl) (by rfl)
  rw [no]
  show wpAny _ _ (spliced ((false, eval o X.env) :: (false, eval (.Lambda params body scope lpos) X.env) :: backTo pos (starEach [] X.env))) _ _ s
  refine Calls.spliced_cons (thn (ho.run pins s σ H _ I h) fun uo s1 ⟨xo, H1, I1, ro, hT, h1⟩ => ?_)
  refine Calls.spliced_cons (lam_make2 I1 TB hcode hmT hu hT hdef (L.has I1.ok) fun f c' pm' ctv H2 s2 I2 eN T2 hf hfn hfr hco => ?_)
  refine Calls.spliced_nil ⟨I2.kIn, ?_⟩
  show wpAny _ _ (call (.ref (He.ga X.K "under")) [uo, .ref f]) _ _ _
  obtain ⟨a, dx, fs, ex, ea, h2⟩ := h1 c' H2 eN T2 hco
  subst ex
  cases (show uo = Value.ref a from ro)
  have bu : Binds X.K fd ["manager", "deed"] [] := Fu.binds fun _ _ _ _ _ _ us hl => match us, hl with | [_, _], _ => rfl
  obtain ⟨oc, od, kV, doc, pm, an, cdv, ct, osl, rfl, lk, hcd⟩ := Fu.ex
  have bb := bu s2 [.ref a, .ref f] I2.kIn rfl
  have rc : codeAny (model X.prog X.w) X.A (.call (.ref (He.ga X.K "under")) ⟨[.ref a, .ref f], []⟩) (CR (L2.CX X.prog X.w) X.stack X.prog X.w H2 s2 Q E) s2 := by
    refine run_ofS (N := N_under) (ps := ["manager", "deed"]) (us := [.ref a, .ref f]) (vs := [.ref a, .ref f]) lk hcd sc_under hr I2.env0 bb (.cons rfl (.cons rfl .nil)) rfl fun hr' => ?_
    let Z : Cx := cxOf (L2.CX X.prog X.w) X.prog X.w X.K X.mg X.base N_under "under" (defScope s_under) (He.ga X.K "under") cdv X.A X.stack s2 H2 E
    have tk : Takes Z (fun cls d _ H => E cls d H) := takes_of rfl rfl rfl rfl
    have act : ∀ (W : WX) (pn : List (Addr × Obj)) (xe : Value → Shared → Prop) (Ech : XK) (p1 p2 p3 : Pos), Takes (Z.tr pn xe) W → (∀ cls d σ' H', Ech cls d H' → W cls d σ' H') → PE (Z.tr pn xe) (.Call (.Name "deed" p1) [.Name "given" p3] [] p2)
        (fun σZ HZ Q => σZ[1]? = some (some (.ref f)) ∧ HZ c' = some (CodeO c' (X.env.qual ++ "<lambda>")) ∧ ∃ v, σZ[2]? = some (some v) ∧ ∃ Q0 : VK, tl Ech (σ.set j (some v)) HZ Q0 ∧ ∀ x H1, Q0 x H1 → Q x H1) := fun W pn xe Ech p1 p2 p3 tk hW =>
      pe_actP (i := 1) (i2 := 2) I2 L hNX hj hf hfn hfr (fun u => hbind _ _ _ _ _ u) tk hW hr' (fun A outer s H hgd hr2 => PE.cl (hbody A outer s H Ech f c' hgd hr2)) rfl (.inl rfl) rfl (.inl rfl)
    refine ⟨_, pss_cons (ps_with (X := Z) (Wout := fun cls d _ H => E cls d H) (k := k + 1) (tb := fun W D σZ H => ∃ Ech : XK, (∀ cls d σ' H', Ech cls d H' → W cls d σ' H') ∧
        tAsg (fun σZ HZ Q => σZ[1]? = some (some (.ref f)) ∧ HZ c' = some (CodeO c' (X.env.qual ++ "<lambda>")) ∧ ∃ v, σZ[2]? = some (some v) ∧ ∃ Q0 : VK, tl Ech (σ.set j (some v)) HZ Q0 ∧ ∀ x H1, Q0 x H1 → Q x H1) (gName 3) D σZ H)
      rfl rfl rfl tk (pv 0) T.m_Trial___enter__ T.m_Trial___exit__ Ge Gx Gh hr' (fun pn xe => pg_name (i := 2) sc_under.nd rfl (Or.inl rfl)) (fun W pn xe tkW => ⟨fun pinsZ sZ σZ HZ D IZ hZ => ?_⟩)) (pss_one (ps_ret (pv 3))), ?_⟩
    · obtain ⟨Ech, hW, hZ⟩ := hZ
      exact (pss_one (ps_set (i := 3) sc_under.nd rfl (Or.inl rfl) (act W pn xe Ech _ _ _ tkW hW))).run pinsZ sZ σZ HZ D IZ hZ
    · refine ⟨.ref a, rfl, a, dx, fs, rfl, ea, ?_⟩
      refine mE _ _ _ _ (fun v H3 h3 => ?_) h2
      refine ⟨wEx a spX E, fun cls d σ' H' q => q, rfl, h3.1, v, rfl, _, h3.2, fun z H4 h4 => ?_⟩
      exact mX _ _ _ _ (fun _ H5 q => ⟨z, rfl, q⟩) h4
  refine wpAny_call (codeAny_mono rc fun r s3 hq => ?_)
  cases r with
  | error e => exact hx pins σ H2 s2 e s3 I2 hq
  | ok fl =>
    cases fl with
    | ret u => exact I2.after hq
    | next => exact False.elim hq
    | brk => exact False.elim hq
    | cont => exact False.elim hq
end
end W9
set_option maxHeartbeats 4000000
/-! BadCopy(x): an own exception whose __init__ says super().__init__(..) and sets a field -/
namespace W9
open PySem PySem.Spec PyProof.Rows L2
open Sem (wp)
structure PgOk (P : Program) : Prop where
  file : ((P.main.file : Str) == "/claim/cut.py") = true
  top : (P.main.scope.names.lookup ("super" : Str)).isSome = false
section
variable {prog : Program} {w : World} {A : Around} {E : Value → Shared → Prop} {R : Result → Shared → Prop} {s : Shared} {h₀ : Heap} {L x C f cc cda : Addr} {m mg mb : Str → Option Value} {news : List (Addr × Obj)} {K : PySem.W.Frag} {ox : Obj} {odx : Option Obj}
/-- super() in a def whose cell holds the class C, its self an instance of C -/
theorem super_node {body : List Stmt} {q : Str} {scope : Scope} {p0 p1 : Pos} {attr : Str} {whole : Sem Value} {fd : FuncData} {ar : Arg} {vs : Array Value} {file : Str} {tf : Tok} {oc ccl cl : Value} {od cdd cld : Option Addr} {osl ccs csl : Array (Option Value)} {cdD : ClassData} {Q : Value → Shared → Prop}
    (F : PyProof.Rows.Fr h₀ L s.heap m) (X₀ : K.In h₀) (N : News h₀ L s.heap news) (hgl : h₀.Ns mainGlobals mg) (hmg : mg "super" = none) (hbl : h₀.Ns builtinsNs mb) (hbb : mb "super" = bootBuiltins "super")
    (hf : K.lookup f = some ⟨oc, od, .func fd, osl⟩) (hp : (fd.params.posonlyargs ++ fd.params.args).head? = some ar) (hv : m ar.arg = some (.ref x)) (I : PySem.W.InstAt s.heap x ox C odx)
    (hcode : K.lookup cda = some ⟨ccl, cdd, .fields vs, ccs⟩) (hvs : vs[2]? = some (.str file tf)) (hfile : ((prog.main.file : Str) == file) = true)
    (hcell : K.lookup cc = some ⟨cl, cld, .cell (some (.ref C)), csl⟩) (hD : PySem.W.clsIn K C = some cdD) (hsub : PySem.W.mroIn K C (.ref C) = some true)
    (hat : (attr == ("__class__" : Str)) = false) (hks : scope.names.lookup ("super" : Str) = some .globalImplicit) (hkc : scope.names.lookup ("__class__" : Str) = some .free) (hka : scope.names.lookup ar.arg = some .local) (hk : scope.kind = .function)
    (htop : (prog.main.scope.names.lookup ("super" : Str)).isSome = false)
    (h : ∀ so h', PyProof.Rows.Fr h₀ L h' m → News h₀ L h' ((so, PySem.W.ks_superObj C x C) :: news) → (∀ p ∈ news, p.1 < so) → Q (.ref so) { s with heap := h' }) :
    _root_.PySem.wpAt (model prog w) A (.func body (PySem.W.ksEnv q scope L f (.ref cda) cc)) (attributeBase (.Call (.Name "super" p0) [] [] p1) attr (PySem.W.ksEnv q scope L f (.ref cda) cc) whole) Q E s := by
  have X : K.In s.heap := X₀.keeps F.keep
  have hboot : bootBuiltins "super" = some (.type "super") := by decide +kernel
  obtain ⟨hh, g, d, t, os⟩ := s
  obtain ⟨oD, hD1, hD2⟩ : ∃ oD, hh.get? C = some oD ∧ oD.data = .cls cdD := by
    unfold PySem.W.clsIn at hD
    split at hD
    · rename_i c d cd' sl ho
      cases hD
      exact ⟨_, X _ _ ho, rfl⟩
    · cases hD
  refine ks_wpAt_super_base (env := PySem.W.ksEnv q scope L f (.ref cda) cc) hks hkc hat rfl (X _ _ hf) rfl hp rfl (X _ _ hcode) rfl hvs hfile htop ?_
  refine PySem.W.ks_loadName_global hk hks (PySem.Calls.loadGlobal_builtin (env := PySem.W.ksEnv q scope L f (.ref cda) cc) (hgl.keeps F.keep) hmg (hbl.keeps F.keep) (hbb.trans hboot) ⟨rfl, ?_⟩)
  refine wpAny_loadName_free hk hkc rfl ⟨_, X _ _ hcell, rfl⟩ ?_
  refine wpAny_loadName_local hk hka F.ns hv ?_
  refine ks_wpAny_isType_cls hD1 hD2 ⟨rfl, ?_⟩
  refine ks_wpAny_call_super hD1 hD2 I.at_ I.cls (fun c e => ?_) (PySem.W.looks_mroIn X hsub) (fun h' e k => ?_)
  · have := I.no
    unfold PySem.W.notCls at this
    rw [e] at this
    exact Bool.noConfusion this
  · obtain ⟨F', N', l'⟩ := PySem.W.ks_newsPush (s := ⟨hh, g, d, t, os⟩) F N rfl e k
    exact h _ _ F' N' l'
end

theorem cellB_of {K : PySem.W.Frag} {f C : Addr} (h : cellB K f C = true) : ∃ (oc : Value) (od : Option Addr) (fd : FuncData) (osl : Array (Option Value)) (cc : Addr) (c1 : Value) (d1 : Option Addr) (s1 : Array (Option Value)) (cda : Addr) (c2 : Value) (d2 : Option Addr) (vs : Array Value) (s2 : Array (Option Value)) (tf : Tok),
    K.lookup f = some ⟨oc, od, .func fd, osl⟩ ∧ fd.closure = [(("__class__" : Str), cc)] ∧ K.lookup cc = some ⟨c1, d1, .cell (some (.ref C)), s1⟩ ∧ fd.code = .ref cda ∧ K.lookup cda = some ⟨c2, d2, .fields vs, s2⟩ ∧ vs[2]? = some (.str "/claim/cut.py" tf) := by
  unfold cellB at h
  split at h
  · rename_i oc od fd osl ho
    split at h
    · rename_i n c hc
      have h1 := He.ba h
      have h2 := He.ba h1.1
      have en := of_decide_eq_true h2.1
      have h3 := h2.2
      split at h3
      · rename_i c1 d1 d s1 hcell
        have ed := of_decide_eq_true h3
        subst en ed
        have h4 := h1.2
        split at h4
        · rename_i cda hcd
          split at h4
          · rename_i c2 d2 vs s2 hl
            split at h4
            · rename_i file tf hv
              have ef := of_decide_eq_true h4
              subst ef
              exact ⟨oc, od, fd, osl, c, c1, d1, s1, cda, c2, d2, vs, s2, tf, ho, hc, hcell, hcd, hl, hv⟩
            · cases h4
          · cases h4
        · cases h4
      · cases h3
    · cases h
  · cases h
theorem spl1 {M : Model} {A : Around} {E : Value → Shared → Prop} {s : Shared} {e : Expr} {env : Env} {pos : Pos} {Q : List Value → Shared → Prop} (he : starEach [e] env = (false, eval e env) :: starEach [] env) (h : wpAny M A (eval e env) (fun v s1 => Q [v] s1) E s) :
    wpAny M A (spliced (backTo pos (starEach [e] env))) Q E s := by
  rw [he]
  exact Calls.spliced_cons (wpAny_mono h (fun v s1 q => Calls.spliced_nil q) fun _ _ z => z)
theorem refsVE_of : ∀ {l : List Value}, PySem.W.excTail veB l = true → HandSPX.refsVE l = true
  | l, h => by
    induction l with
    | nil => exact h
    | cons a r ih =>
      cases a with
      | ref c => exact ih h
      | _ => exact h
section
variable {prog : Program} {w : World} {A : Around} {R : Result → Shared → Prop} {s : Shared} {h₀ : Heap} {mg mb : Str → Option Value} {K : PySem.W.Frag} {fd : FuncData}
theorem bad_init (T : Txt K mg) (pg : PgOk prog) (Fb : FunC K "__init__" "BadCopy.__init__" s_BadCopy___init__ (He.ma K (He.ga K "BadCopy") "__init__") fd) {x t0 : Addr} {v : Value} (X₀ : K.In h₀) (hgl : h₀.Ns mainGlobals mg) (hbl : h₀.Ns builtinsNs mb) (hbb : mb "super" = bootBuiltins "super")
    (k0 : ∀ b o, h₀.get? b = some o → s.heap.get? b = some o) (hsz : h₀.objs.size ≤ s.heap.objs.size) (hlim : s.heap.NoLimit) (hx : s.heap.get? x = some (HandSPX.excO (He.ga K "BadCopy") t0)) (hnx : h₀.get? x = none) (hroom : A.depth < recursionLimit)
    (hq : ∀ h' tk dx t1, (∀ b o, h₀.get? b = some o → h'.get? b = some o) → h'.get? x = some { cls := .ref (He.ga K "BadCopy"), dict := some dx, data := .fields #[.ref t1, .none, .none, .none, .bool false, .none] } → h₀.objs.size ≤ dx → dx ≠ x →
      h'.Ns1 dx (fun y => if y = "value" then some v else none) → R (.ok (.ret .none)) { s with heap := h', toks := tk }) :
    codeAny (model prog w) A (.call (.ref (He.ma K (He.ga K "BadCopy") "__init__")) ⟨[.ref x, v], []⟩) R s := by
  obtain ⟨oc, od, fd', osl, cc, c1, d1, s1, cda, c2, d2, vs, s2, tf, ho, hcl, hcell, hcd, hcode, hv2⟩ := cellB_of T.b_cell
  obtain ⟨⟨oc', od', osl', ho', hci⟩, e1, e2, e3, e4, e5, e6, e7, e8, _⟩ := Fb
  have efd : fd' = fd := by
    rw [ho] at ho'
    cases ho'
    rfl
  subst efd
  have X := X₀.keeps k0
  obtain ⟨cd, hcls⟩ : ∃ cd, PySem.W.clsIn K (He.ga K "BadCopy") = some cd := by
    obtain ⟨cd, hc, _⟩ := PySem.W.any_some T.b_hd
    exact ⟨cd, hc⟩
  have hdict : cd.hasDict = true := by
    obtain ⟨cd', hc, z⟩ := PySem.W.any_some T.b_hd
    rw [hcls] at hc
    cases hc
    exact z
  have hmro : HandSPX.refsVE cd.mro = true := by
    have z := T.b_ov
    unfold PySem.W.excOver at z
    rw [hcls] at z
    have z' : (match cd.mro with | .ref C' :: bm => C' == He.ga K "BadCopy" && PySem.W.excTail veB bm | _ => false) = true := z
    split at z'
    · rename_i C' bm em
      have z2 := He.ba z'
      have z3 := refsVE_of z2.2
      show HandSPX.refsVE cd.mro = true
      rw [em]
      exact z3
    · cases z'
  cases fd' with
  | mk f1 f2 f3 f4 f5 f6 f7 f8 f9 f10 f11 f12 f13 f14 f15 =>
    simp only at hcl hcd e1 e2 e3 e4 e5 e6 e7 e8 hci
    subst hcl hcd e1 e2 e3 e4 e5 e6 e7 e8
    have nc : ∀ y ∈ (defScope s_BadCopy___init__).names, y.2 ≠ .cell := by decide +kernel
    have l1 : (defScope s_BadCopy___init__).names.lookup ("self" : Str) = some .local := by decide +kernel
    have l2 : (defScope s_BadCopy___init__).names.lookup ("value" : Str) = some .local := by decide +kernel
    have lc : ∀ y ∈ ([("self", .ref x), ("value", v)] : List (Str × Value)), (defScope s_BadCopy___init__).names.lookup y.1 = some .local := fun y hy => by
      rcases List.mem_cons.mp hy with e | e
      · rw [e]; exact l1
      · rw [List.mem_singleton.mp e]; exact l2
    refine ks_codeAny_call_defAt (binds := [("self", .ref x), ("value", v)]) hroom (X _ _ ho) rfl hlim (PySem.W.codeRec_of X hci) rfl (BindsTo.of_eq (by first | rfl | with_unfolding_all rfl)) nc lc (fun h₂ hns hk => ?_) (by rfl) (by rfl) (by rfl)
    have F2 : PyProof.Rows.Fr h₀ s.heap.objs.size h₂ _ := ⟨hns, fun b o e => hk _ _ (k0 b o e), hsz⟩
    have xL : x ≠ s.heap.objs.size := Nat.ne_of_lt (Heap.lt_size hx)
    have N2 : News h₀ s.heap.objs.size h₂ [(x, PySem.W.excObj (He.ga K "BadCopy") t0 none .none)] := fun p hp => by
      rw [List.mem_singleton.mp hp]
      exact ⟨hk _ _ hx, xL, hnx⟩
    have i2 : PySem.W.InstAt h₂ x (PySem.W.excObj (He.ga K "BadCopy") t0 none .none) (He.ga K "BadCopy") none := ⟨(N2 _ (List.mem_singleton.mpr rfl)).1, rfl, rfl, trivial⟩
    have hu : PySem.W.UpdF x (PySem.W.excObj (He.ga K "BadCopy") t0 none .none) [(x, PySem.W.excObj (He.ga K "BadCopy") t0 none .none)] (fun o' => [(x, o')]) := .head fun p hp => nomatch hp
    show _root_.PySem.wpAt (model prog w) (A.deeper (PySem.W.ksEnv "BadCopy.__init__" (defScope s_BadCopy___init__) s.heap.objs.size (He.ma K (He.ga K "BadCopy") "__init__") (.ref cda) cc)) (.func (defBody s_BadCopy___init__) (PySem.W.ksEnv "BadCopy.__init__" (defScope s_BadCopy___init__) s.heap.objs.size (He.ma K (He.ga K "BadCopy") "__init__") (.ref cda) cc))
      (execs (defBody s_BadCopy___init__) (PySem.W.ksEnv "BadCopy.__init__" (defScope s_BadCopy___init__) s.heap.objs.size (He.ma K (He.ga K "BadCopy") "__init__") (.ref cda) cc)) _ _ _
    refine ks_wpAt_execs_cons (ks_wpAt_Expr_any (ks_wpAt_MethodCall (super_node (ar := ⟨"self", none, _⟩) F2 X₀ N2 hgl T.f_super hbl hbb ho (by rfl) (by rfl) i2 hcode hv2 pg.file hcell hcls T.b_mro (by decide) (by decide +kernel) (by decide +kernel) (by decide +kernel) (by rfl) pg.top fun so h3 F3 N3 l3 => ?_) (by rfl)))
    have m3 : (x, PySem.W.excObj (He.ga K "BadCopy") t0 none .none) ∈ (so, PySem.W.ks_superObj (He.ga K "BadCopy") x (He.ga K "BadCopy")) :: [(x, PySem.W.excObj (He.ga K "BadCopy") t0 none .none)] := List.mem_cons_of_mem _ (List.mem_singleton.mpr rfl)
    have i3 : PySem.W.InstAt h3 x (PySem.W.excObj (He.ga K "BadCopy") t0 none .none) (He.ga K "BadCopy") none := ⟨(N3 _ m3).1, rfl, rfl, trivial⟩
    have xso : so ≠ x := fun e => Nat.lt_irrefl _ (e ▸ l3 _ (List.mem_singleton.mpr rfl))
    refine PySem.W.kxs_method PySem.W.kxs_ValueError F3 X₀ N3 List.mem_cons_self i3 T.st_ T.b_su T.b_VE (by decide) (fun q h4 F4 N4 l4 => ?_)
    have xq : q ≠ x := fun e => Nat.lt_irrefl _ (e ▸ l4 _ m3)
    refine PySem.W.kxs_callWith1 N4 List.mem_cons_self ?_ (by rfl) (by rfl)
    refine spl1 (by rfl) ?_
    refine Calls.Constant_str ⟨PySem.W.kxs_at N4 List.mem_cons_self, ?_⟩
    refine PySem.W.kxs_call F4 X₀ N4 PySem.F.excBase_ValueError T.b_in List.mem_cons_self (.tail xq (.tail xso hu)) (by rw [sizeLine_eq]; exact (by decide : 1 ≤ 16777216)) (fun t' h5 F5 N5 l5 => ?_)
    have hx5 : h5.get? x = some (PySem.W.excObj (He.ga K "BadCopy") t' none .none) := (N5 _ (List.mem_cons_of_mem _ (List.mem_cons_of_mem _ (List.mem_cons_of_mem _ (List.mem_singleton.mpr rfl))))).1
    have X5 : K.In h5 := X₀.keeps F5.keep
    refine wpAt_of_wpAny (wpAny_execs_cons (plainObj_wpAny_Assign_Attribute ?_))
    refine wpAny_Name (wpAny_loadName_local (v := v) (by rfl) (by rfl) F5.ns (by first | rfl | with_unfolding_all rfl) ?_) (by decide)
    refine wpAny_Name (wpAny_loadName_local (v := .ref x) (by rfl) (by rfl) F5.ns (by first | rfl | with_unfolding_all rfl) ?_) (by decide)
    refine PySem.W.set_plain X5 (ox := PySem.W.excObj (He.ga K "BadCopy") t' none .none) (od := none) ⟨hx5, rfl, rfl, trivial⟩ T.b_sa ?_
    refine HandSPX.exc_osa X5 hx5 hcls hmro hdict T.b_nv (fun h6 tk6 dx k6 dn dne hx6 hn6 => ?_)
    have k5 : h₀.objs.size ≤ h5.objs.size := by
      have z := F5.ns.lt
      have z2 := F5.above
      exact Nat.le_of_lt (Nat.lt_of_le_of_lt z2 z)
    exact wpAny_execs_nil (hq h6 tk6 dx t' (fun b o e => k6 b o (fun z => by rw [z, hnx] at e; cases e) (F5.keep b o e)) hx6 (Nat.le_trans k5 dn) dne hn6)
/-- a made BadCopy -/
structure BadMade (h h' : Heap) (e C d : Addr) (v : Value) : Prop where
  keep : ∀ b o, h.get? b = some o → h'.get? b = some o
  new : h.objs.size ≤ e
  obj : ∃ oe vs, h'.get? e = some oe ∧ oe.cls = .ref C ∧ oe.dict = some d ∧ oe.data = .fields vs ∧ vs[1]? = some .none
  dbig : h.objs.size ≤ d
  dne : d ≠ e
  ns : h'.Ns1 d (fun y => if y = "value" then some v else none)
theorem bad_made (T : Txt K mg) (pg : PgOk prog) (Fb : FunC K "__init__" "BadCopy.__init__" s_BadCopy___init__ (He.ma K (He.ga K "BadCopy") "__init__") fd) {v : Value} (X : K.In s.heap) (hgl : s.heap.Ns mainGlobals mg) (hbl : s.heap.Ns builtinsNs mb) (hbb : mb "super" = bootBuiltins "super")
    (hlim : s.heap.NoLimit) (hroom : A.depth + 1 < recursionLimit)
    (hq : ∀ h' tk e d, BadMade s.heap h' e (He.ga K "BadCopy") d v → R (.ok (.ret (.ref e))) { s with heap := h', toks := tk }) :
    codeAny (model prog w) A (.call (.ref (He.ga K "BadCopy")) ⟨[v], []⟩) R s := by
  obtain ⟨nm, N, q, bs, bm, hdct, sn, sub, ab, col, dd, k0, k1, k2, k3, k5, hC, hbm⟩ := PySem.W.excInit_of X T.b_in
  obtain ⟨hp, g, dr, tk, os⟩ := s
  have k : ∀ b o, hp.get? b = some o → ((hp.push (PySem.W.kdv_tup [v])).push (HandSPX.excO (He.ga K "BadCopy") hp.objs.size)).get? b = some o := fun b o e => Heap.get?_push_of_some _ (Heap.get?_push_of_some _ e)
  have hsz : ((hp.push (PySem.W.kdv_tup [v])).push (HandSPX.excO (He.ga K "BadCopy") hp.objs.size)).objs.size = hp.objs.size + 2 := by rw [Heap.size_push, Heap.size_push]
  have hget : ((hp.push (PySem.W.kdv_tup [v])).push (HandSPX.excO (He.ga K "BadCopy") hp.objs.size)).get? (hp.objs.size + 1) = some (HandSPX.excO (He.ga K "BadCopy") hp.objs.size) := by
    have z := Heap.get?_push_size (hp.push (PySem.W.kdv_tup [v])) (o := HandSPX.excO (He.ga K "BadCopy") hp.objs.size) rfl
    rw [Heap.size_push] at z
    exact z
  have hnx : hp.get? (hp.objs.size + 1) = none := by
    cases e : hp.get? (hp.objs.size + 1) with
    | none => rfl
    | some o => exact absurd (Nat.lt_of_succ_lt (Heap.lt_size e)) (Nat.lt_irrefl _)
  refine HandSPX.call_own PySem.F.excBase_ValueError hbm hC (PySem.W.looks_findIn X T.b_ini) (fun self => PySem.W.bind_fn X self (beq_iff_eq.mp T.b_fn)) (by rw [sizeLine_eq]; exact (by decide : 1 ≤ 16777216)) ?_
  refine bad_init (h₀ := hp) (s := ⟨(hp.push (PySem.W.kdv_tup [v])).push (HandSPX.excO (He.ga K "BadCopy") hp.objs.size), g, dr, tk, os⟩) T pg Fb X hgl hbl hbb k (by rw [hsz]; exact Nat.le_add_right _ _) (hlim.keeps k) hget hnx ?_ fun h' tk' dx t1 k' hx dn dne hns => ?_
  · show A.depth + 1 < recursionLimit
    exact hroom
  · exact ⟨rfl, hq h' tk' (hp.objs.size + 1) dx ⟨k', Nat.le_succ _, ⟨_, _, hx, rfl, rfl, rfl, rfl⟩, dn, dne, hns⟩⟩
end
theorem relO_bad {v : V} {v' : Value} (r : RelV v v') (f : Str) : RelO (List.lookup f [(("value" : Str), v)]) (if f = "value" then some v' else none) := by
  by_cases hw : f = "value"
  · subst hw
    rw [if_pos rfl]
    have q : List.lookup ("value" : Str) [(("value" : Str), v)] = some v := by simp [List.lookup]
    rw [q]
    exact r
  · rw [if_neg hw]
    have qw : (f == ("value" : Str)) = false := by simpa using hw
    have q2 : List.lookup f [(("value" : Str), v)] = none := by simp [List.lookup, qw]
    rw [q2]
    trivial
section
variable {X : Cx} {fd : FuncData}
def tMkBad (C : Addr) (ta : TA) : L2.St → Hp → XK → Prop := fun σ H Q => ta σ H fun vs H1 => ∃ v, vs = [v] ∧ ∀ d, H1 d = none → Q (.ref C) (some d) (upd H1 d (.xd [(("value" : Str), v)]))
theorem pmk_bad {a : Expr} {ta : TA} {p pos : Pos} {k : Nat} (T : Txt X.K X.mg) (pg : PgOk X.prog) (Fb : FunC X.K "__init__" "BadCopy.__init__" s_BadCopy___init__ (He.ma X.K (He.ga X.K "BadCopy") "__init__") fd) (hr : Room k X.A) (ha : PA X [a] ta) (hg : Gl X "BadCopy")
    (he : starEach (a :: []) X.env = (false, eval a X.env) :: starEach [] X.env := by rfl) (hpl : (backTo pos (starEach [] X.env)).any (·.1) = false := by rfl) :
    PMk X (.Call (.Name "BadCopy" p) [a] [] pos) (tMkBad (He.ga X.K "BadCopy") ta) := by
  intro pins s σ H Q I h
  refine wpAny_Call_Name_kw (ld_glob I hg T.g_BadCopy ?_ (by decide))
  refine PySem.W.callWith_K (h₀ := X.base) I.ok.mod.kin T.k_BadCopy (thn (ha.run pos pins s σ H _ I h) fun us s1 hh => ?_) he hpl
  obtain ⟨vs, H1, I1, r1, v, ev, q1⟩ := hh
  subst ev
  refine ⟨I1.kIn, ?_⟩
  obtain ⟨v', rfl, rv⟩ := r1.one
  show wpAny _ _ (call (.ref (He.ga X.K "BadCopy")) [v']) _ _ _
  have hlim := I1.nolimit
  obtain ⟨mb, hbl, hbb⟩ := I1.mod.blt
  have hgl := I1.mod.glob.keeps I1.bk
  have hbl' := hbl.keeps I1.bk
  have hKI := I1.kIn
  obtain ⟨hp, g, dr, tk, os⟩ := s1
  refine wpAny_call (bad_made T pg Fb hKI hgl hbl' (hbb _ (by decide)) hlim (by have := hr.dp; omega) fun h' tk' e d M => ?_)
  show MkP X pins σ Q (.ref e) ⟨h', g, dr, tk', os⟩
  obtain ⟨oe, fv, hoe, hc, hd, hdat, h1⟩ := M.obj
  have hns := M.ns
  obtain ⟨G', g1, g2⟩ := restrict h' fun b => decide (b ≠ e)
  have gk : ∀ b, b ≠ e → G'.get? b = h'.get? b := fun b hb => g1 b (decide_eq_true hb)
  have ge : G'.get? e = none := g2 e (by simp)
  have old : ∀ b o, hp.get? b = some o → G'.get? b = some o := fun b o q => (gk b (Nat.ne_of_lt (Nat.lt_of_lt_of_le (Heap.lt_size q) M.new))).trans (M.keep b o q)
  have ob : ObjOk X.prog X.w (upd H1 d (.xd [(("value" : Str), v)])) G' d (.xd [(("value" : Str), v)]) :=
    ⟨_, hns.at (fun o q => (gk d M.dne).trans q), fun f => relO_bad rv f⟩
  have J : Inv X pins σ (upd H1 d (.xd [(("value" : Str), v)])) ⟨G', g, dr, tk', os⟩ := I1.laid (t' := tk') old M.dbig ob
  have tyC : PySem.W.typeIn X.K (.ref (He.ga X.K "BadCopy")) = some (.type "type") := by
    have z := He.eqO_ok T.b_ty
    cases q : PySem.W.typeIn X.K (.ref (He.ga X.K "BadCopy")) with
    | none => rw [q] at z; cases z
    | some t =>
      rw [q] at z
      exact Option.some.inj z
  refine ⟨e, oe, fv, ⟨G', g, dr, tk', os⟩, _, .ref (He.ga X.K "BadCopy"), some d, rfl, J, fun b o q => ?_, ge, hoe, ⟨hc, hd⟩, hdat, h1, ?_, rfl, I1.bare, raises_own T.b_BE tyC, q1 d (I1.hok.fresh M.dbig)⟩
  · by_cases hb : b = e
    · have q' : G'.get? b = some o := q
      rw [hb, ge] at q'; cases q'
    · exact (gk b hb).symm.trans q
  · rw [upd_ne (Ne.symm M.dne)]
    exact I1.hok.fresh M.new
/-- raise BadCopy(e) -/
def tRaiseBad (C : Addr) (W : WX) (ta : TA) : TS := fun _ σ H => tMkBad C ta σ H fun cls d H' => W cls d σ H'
theorem ps_raiseBad {a : Expr} {ta : TA} {W : WX} {p pos pos2 : Pos} {k : Nat} (hc : X.calm = true) (T : Txt X.K X.mg) (pg : PgOk X.prog) (Fb : FunC X.K "__init__" "BadCopy.__init__" s_BadCopy___init__ (He.ma X.K (He.ga X.K "BadCopy") "__init__") fd) (hr : Room k X.A) (tk : Takes X W) (ha : PA X [a] ta) (hg : Gl X "BadCopy")
    (he : starEach (a :: []) X.env = (false, eval a X.env) :: starEach [] X.env := by rfl) (hpl : (backTo pos (starEach [] X.env)).any (·.1) = false := by rfl) :
    PS X (.Raise (some (.Call (.Name "BadCopy" p) [a] [] pos)) none pos2) (tRaiseBad (He.ga X.K "BadCopy") W ta) := ps_raise hc tk (pmk_bad T pg Fb hr ha hg he hpl)
end
end W9
set_option maxHeartbeats 4000000
/-! the mirror: kinds, steps, histories; how they stand as data -/
namespace W9
open PySem PySem.Spec PyProof.Rows L2

structure Kd where
  st : Nat
  ups : List (List Nat)
  mg : List (List Nat)
  rd : List Nat
/-- so many states, each below n -/
def RowOk (n : Nat) (r : List Nat) : Prop := r.length = n ∧ ∀ x ∈ r, x < n
structure Kd.Ok (k : Kd) : Prop where
  n1 : 1 ≤ k.rd.length
  n8 : k.rd.length ≤ 8
  rd9 : ∀ x ∈ k.rd, x ≤ 9
  st : k.st < k.rd.length
  u1 : 1 ≤ k.ups.length
  u4 : k.ups.length ≤ 4
  ups : ∀ r ∈ k.ups, RowOk k.rd.length r
  m1 : k.mg.length = k.rd.length
  mg : ∀ r ∈ k.mg, RowOk k.rd.length r
abbrev dn (n : Nat) : Dt := di (n : Int)
def rowD (l : List Nat) : Dt := .tup (l.map dn)
def rowsD (l : List (List Nat)) : Dt := .tup (l.map rowD)
def kdD (k : Kd) : Dt := .tup [dn k.st, rowsD k.ups, rowsD k.mg, rowD k.rd]
inductive Stp where
  | act (c u : Nat)
  | hear (c o : Nat)
def stD : Stp → Dt
  | .act c u => .tup [ds "do", dn c, dn u]
  | .hear c o => .tup [ds "hear", dn c, dn o]
def stepsD (l : List Stp) : Dt := .tup (l.map stD)
def hisD (m : Nat) (l : List Stp) : Dt := .tup [dn m, stepsD l]
def Stp.Ok (k : Kd) (m : Nat) : Stp → Prop
  | .act c u => c < m ∧ u < k.ups.length
  | .hear c o => c < m ∧ o < m ∧ c ≠ o
structure HisOk (k : Kd) (m : Nat) (l : List Stp) : Prop where
  kd : k.Ok
  m1 : 1 ≤ m
  m16 : m ≤ 16
  len : l.length ≤ 30
  ok : ∀ s ∈ l, s.Ok k m
/-- the merge -/
def Kd.hr (k : Kd) (a b : Nat) : Nat := (k.mg.getD a []).getD b 0
def Kd.up (k : Kd) (u a : Nat) : Nat := (k.ups.getD u []).getD a 0
theorem Kd.Ok.hr_lt {k : Kd} (h : k.Ok) {a b : Nat} (ha : a < k.rd.length) (hb : b < k.rd.length) : k.hr a b < k.rd.length := by
  unfold Kd.hr
  have h1 : a < k.mg.length := by rw [h.m1]; exact ha
  have e1 : k.mg.getD a [] = k.mg[a] := by simp [List.getD, h1]
  have q := h.mg _ (List.getElem_mem h1)
  rw [e1]
  have h2 : b < k.mg[a].length := by rw [q.1]; exact hb
  have e2 : k.mg[a].getD b 0 = k.mg[a][b] := by simp [List.getD, h2]
  rw [e2]
  exact q.2 _ (List.getElem_mem h2)
theorem Kd.Ok.up_lt {k : Kd} (h : k.Ok) {u a : Nat} (hu : u < k.ups.length) (ha : a < k.rd.length) : k.up u a < k.rd.length := by
  unfold Kd.up
  have e1 : k.ups.getD u [] = k.ups[u] := by simp [List.getD, hu]
  have q := h.ups _ (List.getElem_mem hu)
  rw [e1]
  have h2 : a < k.ups[u].length := by rw [q.1]; exact ha
  have e2 : k.ups[u].getD a 0 = k.ups[u][a] := by simp [List.getD, h2]
  rw [e2]
  exact q.2 _ (List.getElem_mem h2)
theorem snocInd {α : Type} {P : List α → Prop} (nil : P []) (append_singleton : ∀ (l : List α) (a : α), P l → P (l ++ [a])) : ∀ l, P l := fun l => by
  have key : ∀ n : Nat, ∀ l : List α, l.length = n → P l := fun n => by
    induction n with
    | zero =>
      intro l h
      rw [List.eq_nil_of_length_eq_zero h]
      exact nil
    | succ n ih =>
      intro l h
      have hn : l ≠ [] := fun e => by
        rw [e] at h
        cases h
      rw [← List.dropLast_concat_getLast hn]
      exact append_singleton _ _ (ih _ (by rw [List.length_dropLast]; omega))
  exact key l.length l rfl
/-- one step's turn of the states -/
def turnS (k : Kd) (s : List Nat) : Stp → List Nat
  | .act c u => s.set c (k.up u (s.getD c 0))
  | .hear c o => s.set c (k.hr (s.getD c 0) (s.getD o 0))
def runS (k : Kd) (m : Nat) (l : List Stp) : List Nat := l.foldl (turnS k) (List.replicate m k.st)
theorem turnS_len {k : Kd} {s : List Nat} (p : Stp) : (turnS k s p).length = s.length := by
  cases p <;> simp [turnS]
theorem runS_snoc (k : Kd) (m : Nat) (l : List Stp) (p : Stp) : runS k m (l ++ [p]) = turnS k (runS k m l) p := by
  unfold runS
  rw [List.foldl_append]
  rfl
theorem runS_len (k : Kd) (m : Nat) (l : List Stp) : (runS k m l).length = m := by
  induction l using snocInd with
  | nil => simp [runS]
  | append_singleton l p ih => rw [runS_snoc, turnS_len, ih]
theorem runS_lt {k : Kd} (h : k.Ok) {m : Nat} : ∀ l : List Stp, (∀ s ∈ l, s.Ok k m) → ∀ x ∈ runS k m l, x < k.rd.length := by
  intro l
  induction l using snocInd with
  | nil =>
    intro _ x hx
    have e := List.eq_of_mem_replicate (show x ∈ List.replicate m k.st from hx)
    rw [e]
    exact h.st
  | append_singleton l p ih =>
    intro ok x hx
    have ih2 := ih fun s hs => ok s (List.mem_append_left _ hs)
    have at_ : ∀ c, c < m → (runS k m l).getD c 0 < k.rd.length := fun c hc => by
      have hc2 : c < (runS k m l).length := by rw [runS_len]; exact hc
      have e : (runS k m l).getD c 0 = (runS k m l)[c] := by simp [List.getD, hc2]
      rw [e]
      exact ih2 _ (List.getElem_mem hc2)
    have hp := ok p (List.mem_append_right _ (List.mem_singleton.mpr rfl))
    rw [runS_snoc] at hx
    cases p with
    | act c u =>
      rcases List.mem_or_eq_of_mem_set (show x ∈ (runS k m l).set c _ from hx) with z | z
      · exact ih2 x z
      · rw [z]
        exact h.up_lt hp.2 (at_ c hp.1)
    | hear c o =>
      rcases List.mem_or_eq_of_mem_set (show x ∈ (runS k m l).set c _ from hx) with z | z
      · exact ih2 x z
      · rw [z]
        exact h.hr_lt (at_ c hp.1) (at_ o hp.2.1)
/-- what the copies have heard: the numbers below n that are in either -/
def both (n : Nat) (a b : List Nat) : List Nat := (List.range n).filter fun i => decide (i ∈ a) || decide (i ∈ b)
def turnH (h : List (List Nat)) (n : Nat) : Stp → List (List Nat)
  | .act c _ => h.set c (h.getD c [] ++ [n])
  | .hear c o => h.set c (both n (h.getD c []) (h.getD o []))
def runH (m : Nat) (l : List Stp) : List (List Nat) := (l.zipIdx.foldl (fun h p => turnH h p.2 p.1) (List.replicate m []))
theorem turnH_len {h : List (List Nat)} {n : Nat} (p : Stp) : (turnH h n p).length = h.length := by
  cases p <;> simp [turnH]
theorem runH_snoc (m : Nat) (l : List Stp) (p : Stp) : runH m (l ++ [p]) = turnH (runH m l) l.length p := by
  unfold runH
  rw [List.zipIdx_append, List.foldl_append]
  simp
theorem runH_len (m : Nat) (l : List Stp) : (runH m l).length = m := by
  induction l using snocInd with
  | nil => simp [runH]
  | append_singleton l p ih => rw [runH_snoc, turnH_len, ih]
/-- rising, below n -/
def Asc (n : Nat) (a : List Nat) : Prop := a.Pairwise (· < ·) ∧ ∀ x ∈ a, x < n
theorem Asc.mono {n m : Nat} {a : List Nat} (h : Asc n a) (q : n ≤ m) : Asc m a := ⟨h.1, fun x hx => Nat.lt_of_lt_of_le (h.2 x hx) q⟩
theorem asc_both (n : Nat) (a b : List Nat) : Asc n (both n a b) := by
  refine ⟨?_, fun x hx => ?_⟩
  · exact List.Pairwise.filter _ (List.pairwise_lt_range)
  · exact List.mem_range.mp (List.mem_filter.mp hx).1
theorem Asc.snoc {n : Nat} {a : List Nat} (h : Asc n a) : Asc (n + 1) (a ++ [n]) := by
  refine ⟨?_, fun x hx => ?_⟩
  · rw [List.pairwise_append]
    refine ⟨h.1, List.pairwise_singleton _ _, fun x hx y hy => ?_⟩
    rw [List.mem_singleton.mp hy]
    exact h.2 x hx
  · rcases List.mem_append.mp hx with z | z
    · exact Nat.lt_succ_of_lt (h.2 x z)
    · rw [List.mem_singleton.mp z]
      exact Nat.lt_succ_self n
theorem runH_asc (m : Nat) : ∀ l : List Stp, ∀ a ∈ runH m l, Asc l.length a := by
  intro l
  induction l using snocInd with
  | nil =>
    intro a ha
    have e := List.eq_of_mem_replicate (show a ∈ List.replicate m [] from ha)
    subst e
    exact ⟨.nil, fun x hx => by cases hx⟩
  | append_singleton l p ih =>
    intro a ha
    rw [runH_snoc] at ha
    rw [List.length_append, List.length_singleton]
    have g : ∀ c, Asc l.length ((runH m l).getD c []) := fun c => by
      by_cases hc : c < (runH m l).length
      · have e : (runH m l).getD c [] = (runH m l)[c] := by simp [List.getD, hc]
        rw [e]
        exact ih _ (List.getElem_mem hc)
      · have e : (runH m l).getD c [] = [] := by simp [List.getD, List.getElem?_eq_none (Nat.le_of_not_lt hc)]
        rw [e]
        exact ⟨.nil, fun x hx => by cases hx⟩
    cases p with
    | act c u =>
      rcases List.mem_or_eq_of_mem_set (show a ∈ (runH m l).set c _ from ha) with z | z
      · exact (ih a z).mono (Nat.le_succ _)
      · rw [z]
        exact (g c).snoc
    | hear c o =>
      rcases List.mem_or_eq_of_mem_set (show a ∈ (runH m l).set c _ from ha) with z | z
      · exact (ih a z).mono (Nat.le_succ _)
      · rw [z]
        exact (asc_both _ _ _).mono (Nat.le_succ _)
/-- two rising lists with the same members are one -/
theorem asc_unique : ∀ {a b : List Nat}, a.Pairwise (· < ·) → b.Pairwise (· < ·) → (∀ x, x ∈ a ↔ x ∈ b) → a = b
  | [], [], _, _, _ => rfl
  | [], y :: b, _, _, h => absurd ((h y).mpr List.mem_cons_self) (by simp)
  | x :: a, [], _, _, h => absurd ((h x).mp List.mem_cons_self) (by simp)
  | x :: a, y :: b, ha, hb, h => by
    obtain ⟨h1, h2⟩ := List.pairwise_cons.mp ha
    obtain ⟨h3, h4⟩ := List.pairwise_cons.mp hb
    have e : x = y := by
      rcases List.mem_cons.mp ((h x).mp List.mem_cons_self) with z | z
      · exact z
      · rcases List.mem_cons.mp ((h y).mpr List.mem_cons_self) with w | w
        · exact w.symm
        · have := h3 x z
          have := h1 y w
          omega
    subst e
    rw [asc_unique h2 h4 fun z => ?_]
    constructor
    · intro hz
      rcases List.mem_cons.mp ((h z).mp (List.mem_cons_of_mem _ hz)) with w | w
      · have := h1 z hz
        omega
      · exact w
    · intro hz
      rcases List.mem_cons.mp ((h z).mpr (List.mem_cons_of_mem _ hz)) with w | w
      · have := h3 z hz
        omega
      · exact w
/-- the pairs of copies that have heard the same and are unlike -/
def splits (s : List Nat) (h : List (List Nat)) (m : Nat) : List (Nat × Nat) :=
  (List.range m).flatMap fun i => ((List.range (m - (i + 1))).filter fun j => decide (h.getD i [] = h.getD (i + 1 + j) []) && !decide (s.getD i 0 = s.getD (i + 1 + j) 0)).map fun j => (i, i + 1 + j)
def pairD (p : Nat × Nat) : Dt := .tup [dn p.1, dn p.2]
def splitD (k : Kd) (m : Nat) (l : List Stp) : Dt := .tup ((splits (runS k m l) (runH m l) m).map pairD)
end W9
set_option maxHeartbeats 4000000
/-! data: enumerate, sorted sets, ranges as lists, fields -/
namespace W9
open PySem PySem.Spec PyProof.Rows L2
theorem for_enT {K : PySem.W.Frag} {a : Addr} {xs : List V} {g : TG} {tb : TS} {D : Ends} {σ : L2.St} {H : Hp} (Pv : Nat → L2.St → Hp → Prop) (h0 : Pv 0 σ H) (hl : ∀ i σ H, Pv i σ H → SqT K H a xs)
    (hs : ∀ (i : Nat) x σ H T, xs[i]? = some x → Pv i σ H → H T = none → g (.ref T) σ (upd H T (.tup [.int (i : Int), x])) fun σ2 H2 => tb { D with nx := Pv (i + 1), ct := Pv (i + 1), bk := D.nx } σ2 H2) (hd : ∀ σ H, Pv xs.length σ H → D.nx σ H) :
    ∃ W : Nat → Nat → L2.St → Hp → Prop, (∃ m, W 0 m σ H) ∧ ∀ i m σ H, W i m σ H →
      ((IteT K a).stop i H ∧ D.nx σ H) ∨ ((IteT K a).go i H ∧ ∃ N : L2.St → Hp → Prop, (∀ σ' H', N σ' H' → ∃ m', m' < m ∧ W (i + 1) m' σ' H') ∧ ∀ x H', (IteT K a).yld i H x H' → g x σ H' fun σ2 H2 => tb { D with nx := N, ct := N, bk := D.nx } σ2 H2) := by
  refine ⟨fun i m σ H => m = xs.length - i ∧ i ≤ xs.length ∧ Pv i σ H, ⟨xs.length, by simp, Nat.zero_le _, h0⟩, ?_⟩
  rintro i m σ H ⟨rfl, hi, p⟩
  have q := hl i σ H p
  by_cases hlt : i < xs.length
  · refine .inr ⟨⟨xs, xs[i], q, by simp [hlt]⟩, Pv (i + 1), fun σ' H' p' => ⟨xs.length - (i + 1), by omega, rfl, hlt, p'⟩, fun x H' y => ?_⟩
    obtain ⟨T, z, ex, hT, eH, y⟩ := y
    subst ex eH
    exact hs i z σ H T (y xs q) p hT
  · have e : i = xs.length := by omega
    subst e
    exact .inl ⟨⟨xs, q, rfl⟩, hd σ H p⟩
theorem lc_enT {K : PySem.W.Frag} {a : Addr} {xs : List V} {g : TG} {tt : TT} {te : TE} {vs : List Nat} {σ : L2.St} {H1 : Hp} {D : Addr} {Qd : Hp → Prop} (Pv : Nat → Hp → Prop) (h0 : Pv 0 (upd H1 D (.lst []))) (hl : ∀ i H, Pv i H → SqT K H a xs)
    (hs : ∀ (i : Nat) x H T, xs[i]? = some x → Pv i H → H T = none → g (.ref T) (wipe σ vs) (upd H T (.tup [.int (i : Int), x])) fun σ2 H2 => wipe σ2 vs = wipe σ vs ∧ tt σ2 H2 fun b H3 =>
      if b = true then te σ2 H3 fun y H4 => ∃ acc, H4 D = some (.lst acc) ∧ acc.length < sizeLine ∧ Pv (i + 1) (upd H4 D (.lst (acc ++ [y]))) else Pv (i + 1) H3) (hd : ∀ H, Pv xs.length H → Qd H) :
    ∃ W : Nat → Nat → Hp → Prop, (∃ m, W 0 m (upd H1 D (.lst []))) ∧ ∀ i m H, W i m H →
      ((IteT K a).stop i H ∧ Qd H) ∨ ((IteT K a).go i H ∧ ∃ Nx : Hp → Prop, (∀ H', Nx H' → ∃ m', m' < m ∧ W (i + 1) m' H') ∧ ∀ x H', (IteT K a).yld i H x H' → g x (wipe σ vs) H' fun σ2 H2 => wipe σ2 vs = wipe σ vs ∧ tt σ2 H2 fun b H3 =>
        if b = true then te σ2 H3 fun y H4 => ∃ acc, H4 D = some (.lst acc) ∧ acc.length < sizeLine ∧ Nx (upd H4 D (.lst (acc ++ [y]))) else Nx H3) := by
  refine ⟨fun i m H => m = xs.length - i ∧ i ≤ xs.length ∧ Pv i H, ⟨xs.length, by simp, Nat.zero_le _, h0⟩, ?_⟩
  rintro i m H ⟨rfl, hi, p⟩
  have q := hl i H p
  by_cases hlt : i < xs.length
  · refine .inr ⟨⟨xs, xs[i], q, by simp [hlt]⟩, Pv (i + 1), fun H' p' => ⟨xs.length - (i + 1), by omega, rfl, hlt, p'⟩, fun x H' y => ?_⟩
    obtain ⟨T, z, ex, hT, eH, y⟩ := y
    subst ex eH
    exact hs i z H T (y xs q) p hT
  · have e : i = xs.length := by omega
    subst e
    exact .inl ⟨⟨xs, q, rfl⟩, hd H p⟩
section
variable {Γ : Cxt} {P : Hp → Prop} {ta tb te tl : TE} {t : TT} {d e : Dt} {l m : List Dt} {tr : TA} {b : Bool} {D : Ends} {σ : L2.St} {H : Hp} {tu tw : TS} {i j : Nat} {K : PySem.W.Frag} {g : TG}
/-- for .. in enumerate(t): the item is the pair of the number and the datum -/
theorem s_forE (h : PuA tr Γ P [.tup l]) (hz : l.length ≤ 50000) (s : Sl σ H Γ) (p : P H) (J : Nat → L2.St → Hp → Prop) (h0 : ∀ H1, Ex H H1 → J 0 σ H1)
    (hs : ∀ H1, Ex H H1 → ∀ (i : Nat) (d : Dt) σ' H' H'', l[i]? = some d → J i σ' H' → ExT H1 H' → Ex H' H'' → ∀ x, TD H'' x (.tup [di (i : Int), d]) →
      g x σ' H'' fun σ2 H2 => tu { D with nx := fun σ3 H3 => J (i + 1) σ3 H3 ∧ ExT H1 H3, ct := fun σ3 H3 => J (i + 1) σ3 H3 ∧ ExT H1 H3, bk := D.nx } σ2 H2)
    (hd : ∀ σ' H', J l.length σ' H' → D.nx σ' H') : tFor (iEnumT K tr) g tu D σ H :=
  h σ H s p _ fun vs H1 e1 h1 => by
    cases h1 with
    | cons h1 r =>
      cases r
      obtain ⟨a, xs, rfl, ha, hxs⟩ := h1.tup_of
      refine ⟨a, xs, rfl, SqT.of ha, for_enT (xs := xs) (fun i σ' H' => J i σ' H' ∧ ExT H1 H') ⟨h0 H1 e1, ExT.refl _⟩ (fun i σ' H' q => SqT.of (q.2 a xs ha)) (fun i y σ' H' T hy q hT => ?_) fun σ' H' q => ?_⟩
      · obtain ⟨d, hd, td⟩ := hxs.got hy
        exact hs H1 e1 i d σ' H' _ hd q.1 q.2 (ex_new hT) _ (.tup upd_same (.cons (.leaf _) (.cons (td.ext (q.2.trans (ex_new hT).t)) .nil)))
      · rw [hxs.length] at q
        exact hd σ' H' q.1

theorem pl_lcE [Stb P] {vs : List Nat} (f : Nat → Bool) (v : Nat → Dt) (hi : i ∈ vs) (hj : j ∈ vs) (h : PuA tr Γ P [.tup l]) (hz : l.length ≤ 40000)
    (ht : ∀ (k : Nat) d, l[k]? = some d → PuT t (((wipeC Γ vs).set i (some (di (k : Int)))).set j (some d)) P (f k)) (he : ∀ (k : Nat) d, l[k]? = some d → f k = true → Pu te (((wipeC Γ vs).set i (some (di (k : Int)))).set j (some d)) P (v k)) :
    PuL (tLc (iEnumT K tr) (gTup K 2 (gCons (gName i) (gCons (gName j) gNil))) t te vs) Γ P (giv l.length f v) := fun σ H s p Q q =>
  h σ H s p _ fun xs0 H1 e1 h1 => by
    cases h1 with
    | cons h1 r =>
      cases r
      obtain ⟨a, xs, rfl, ha, hxs⟩ := h1.tup_of
      refine ⟨a, xs, rfl, SqT.of ha, fun A hA => lc_enT (xs := xs) (Cw H1 f v A) (cw_0 hA) (fun k H' c => SqT.of (c.2.1 a _ ha)) (fun k y H' T hy c hT => ?_) (fun H' c => ?_)⟩
      · obtain ⟨d, hd, td⟩ := hxs.got hy
        have eT : Ex H' (upd H' T (.tup [.int (k : Int), y])) := ex_new hT
        have c' : Cw H1 f v A k (upd H' T (.tup [.int (k : Int), y])) := ⟨c.1, c.2.1.trans eT, c.2.2.ext eT⟩
        refine ⟨T, _, rfl, SqT.of upd_same, rfl, .int (k : Int), _, rfl, y, _, rfl, rfl, ⟨wipe_set2 σ vs _ _ hi hj, ?_⟩⟩
        refine cw_turn c' (Stb.ext e1 p) ((((s.ext (Ex.t (e1.trans c'.2.1))).wipe vs).set (.leaf _) i).set (td.ext c'.2.1.t) j) (by have := (List.getElem?_eq_some_iff.mp hd).1; omega) (ht k d hd) (he k d hd)
      · rw [hxs.length] at c
        exact q A H' (e1.free c.1) (e1.trans c.2.1) c.2.2
end
section
variable {Γ : Cxt} {P : Hp → Prop} {ta tb te tl : TE} {t : TT} {d e : Dt} {l m : List Dt} {tr : TA} {b : Bool} {D : Ends} {σ : L2.St} {H : Hp} {tu tw : TS} {i j : Nat} {K : PySem.W.Frag} {g : TG}
/-- all([..]) of a new list of bools -/
theorem pu_all [Stb P] {bs : List Bool} (h : PuL te Γ P (bs.map db)) : Pu (tCB (rAll K) (tCons te tNil)) Γ P (db (bs.all id)) := fun σ H s p Q q =>
  h σ H s p _ fun a H1 ha e1 h1 => by
    obtain ⟨xs, h2, h3⟩ := h1
    have ex : xs = bs.map V.bl := by
      have h4 : TDs H1 xs ((bs.map V.bl).map .v) := by
        rw [List.map_map]
        exact h3
      exact TDs.ofLeaves h4
    subst ex
    exact ⟨a, bs, rfl, SqL.of h2, q _ H1 e1 (.leaf _)⟩
/-- tuple(sorted(set(t))), t a tuple of numbers -/
theorem pu_tss [Stb P] {ns ms : List Nat} (h : Pu te Γ P (rowD ns)) (hz : ns.length ≤ 63) (hs : ms.Pairwise (· < ·)) (hm : ∀ k, k ∈ ms ↔ k ∈ ns) : Pu (tTss K te) Γ P (rowD ms) := fun σ H s p Q q =>
  h σ H s p _ fun x H1 e1 h1 => by
    obtain ⟨a, xs, rfl, ha, hxs⟩ := h1.tup_of
    have ex : xs = (ns.map fun n : Nat => (n : Int)).map V.int := by
      refine TDs.ofLeaves (H := H1) ?_
      rw [List.map_map, List.map_map]
      exact hxs
    subst ex
    refine ⟨a, ns.map fun n : Nat => (n : Int), rfl, SqT.of ha, by rw [List.length_map]; exact hz, fun zs H2 r e2 ps hk hl hr => ?_⟩
    have ez : zs = ms.map fun n : Nat => (n : Int) := by
      have nn : ∀ z ∈ zs, 0 ≤ z := fun z hz => by
        obtain ⟨n, _, en⟩ := List.mem_map.mp ((hk z).mp hz)
        omega
      have e1 : zs = (zs.map Int.toNat).map fun n : Nat => (n : Int) := by
        rw [List.map_map]
        conv => lhs; rw [← List.map_id zs]
        exact List.map_congr_left fun z hz => by
          have := nn z hz
          show z = ((z.toNat : Nat) : Int)
          omega
      have e2 : zs.map Int.toNat = ms := by
        refine asc_unique ?_ hs fun k => ?_
        · rw [List.pairwise_map]
          exact List.Pairwise.imp_of_mem (fun {a b} ha hb hab => by
            have := nn a ha
            have := nn b hb
            omega) ps
        · rw [hm k, List.mem_map]
          constructor
          · rintro ⟨z, hz, rfl⟩
            obtain ⟨n, hn, en⟩ := List.mem_map.mp ((hk z).mp hz)
            have e3 : z.toNat = n := by omega
            rw [e3]
            exact hn
          · intro hn
            exact ⟨(k : Int), (hk _).mpr (List.mem_map.mpr ⟨k, hn, rfl⟩), by omega⟩
      rw [e1, e2]
    subst ez
    refine q _ _ (e1.trans (e2.trans (ex_new hr))) (.tup upd_same ?_)
    have w := TDs.leaves (H := upd H2 r (.tup ((ms.map fun n : Nat => (n : Int)).map V.int))) ((ms.map fun n : Nat => (n : Int)).map V.int)
    rw [List.map_map, List.map_map] at w
    rw [List.map_map]
    exact w
theorem rgV_n (lo hi : Nat) : rgV (lo : Int) (hi : Int) = (List.range (hi - lo)).map fun i => V.int ((lo + i : Nat) : Int) := by
  unfold rgV
  have e : ((hi : Int) - (lo : Int)).toNat = hi - lo := by omega
  rw [e]
  refine List.map_congr_left fun i _ => ?_
  have e2 : (lo : Int) + (i : Int) = ((lo + i : Nat) : Int) := by omega
  rw [e2]
/-- tuple(range(lo, hi)) -/
theorem pu_tupRg [Stb P] {lo hi : Nat} (ha : Pu ta Γ P (di (lo : Int))) (hb : Pu tb Γ P (di (hi : Int))) (hz : lo ≤ 1000 ∧ hi ≤ 1000) : Pu (tTupRg (tRg2 ta tb)) Γ P (rowD ((List.range (hi - lo)).map fun i => lo + i)) := fun σ H s p Q q =>
  ha σ H s p _ fun x H1 e1 h1 => hb σ H1 (s.ext e1.t) (Stb.ext e1 p) _ fun y H2 e2 h2 => by
    refine ⟨(lo : Int), (hi : Int), h1.v_eq, h2.v_eq, RgOk.of_le (by omega) (by omega) (by omega) (by omega), fun r hr => q _ _ ((e1.trans e2).trans (ex_new hr)) (.tup upd_same ?_)⟩
    rw [rgV_n]
    have w := TDs.leaves (H := upd H2 r (.tup ((List.range (hi - lo)).map fun i => V.int ((lo + i : Nat) : Int)))) ((List.range (hi - lo)).map fun i => V.int ((lo + i : Nat) : Int))
    rw [List.map_map] at w
    rw [List.map_map]
    exact w
/-- list(range(n)) -/
theorem pl_lstRg [Stb P] {n : Nat} (ha : Pu ta Γ P (di (n : Int))) (hz : n ≤ 1000) : PuL (tLstRg (tRg1 ta)) Γ P ((List.range n).map fun i : Nat => di (i : Int)) := fun σ H s p Q q =>
  ha σ H s p _ fun x H1 e1 h1 => by
    refine ⟨(n : Int), h1.v_eq, RgOk.of_le (by omega) (by omega) (by omega) (by omega), fun r hr => q _ _ (e1.free hr) (e1.trans (ex_new hr)) ⟨_, upd_same, ?_⟩⟩
    have e : rgV (0 : Int) (n : Int) = (List.range n).map fun i : Nat => V.int (i : Int) := by
      have z := rgV_n 0 n
      rw [show ((0 : Nat) : Int) = 0 from rfl] at z
      rw [z, Nat.sub_zero]
      exact List.map_congr_left fun i _ => by rw [Nat.zero_add]
    rw [e]
    have w := TDs.leaves (H := upd H1 r (.lst ((List.range n).map fun i : Nat => V.int (i : Int)))) ((List.range n).map fun i : Nat => V.int (i : Int))
    rw [List.map_map] at w
    exact w
/-- a field that holds data -/
theorem pu_fld [Stb P] {a C : Addr} {f : Str} (h : Pu te Γ P (dr a)) (c : Cls K C) (n : NoAttr K C f) (hP : ∀ H, P H → ∃ dx fs v, H a = some (.ins C dx fs) ∧ fs.lookup f = some v ∧ TD H v d) : Pu (tFld K te f) Γ P d := fun σ H s p Q q =>
  h σ H s p _ fun x H1 e1 h1 => by
    obtain ⟨dx, fs, v, ha, hl, hv⟩ := hP H1 (Stb.ext e1 p)
    exact ⟨a, C, dx, fs, v, h1.v_eq, ha, c, n, hl, q v H1 e1 hv⟩
/-- a property that gives data -/
theorem pu_prop [Stb P] {a C : Addr} {sp : Sp} {E : XK} (h : Pu te Γ P (dr a)) (hP : ∀ H, P H → (∃ dx fs, H a = some (.ins C dx fs)) ∧ ∀ Q : VK, (∀ z H', Ex H H' → TD H' z d → Q z H') → sp [.ref a] H Q E) : Pu (tProp C sp [] E te) Γ P d := fun σ H s p Q q =>
  h σ H s p _ fun x H1 e1 h1 => by
    obtain ⟨⟨dx, fs, ha⟩, hs⟩ := hP H1 (Stb.ext e1 p)
    exact ⟨a, dx, fs, h1.v_eq, ha, hs Q fun z H2 e2 h2 => q z H2 (e1.trans e2) h2⟩
/-- a method that gives data and only makes objects -/
theorem pu_meth [Stb P] {a C : Addr} {m : Str} {sp : Sp} {E : XK} (h : Pu te Γ P (dr a)) (ht : PuA tr Γ P l) (hP : ∀ H xs, P H → TDs H xs l → ∀ Q : VK, (∀ z H', Ex H H' → TD H' z d → Q z H') → sp (.ref a :: xs) H Q E) (hi : ∀ H, P H → ∃ dx fs, H a = some (.ins C dx fs) ∧ fs.lookup m = none) :
    Pu (tMeth C m sp [] E te tr) Γ P d := fun σ H s p Q q =>
  h σ H s p _ fun x H1 e1 h1 => by
    obtain ⟨dx, fs, ha, hm⟩ := hi H1 (Stb.ext e1 p)
    refine ⟨a, dx, fs, h1.v_eq, ha, hm, ht σ H1 (s.ext e1.t) (Stb.ext e1 p) _ fun xs H2 e2 h2 => ?_⟩
    cases h1.v_eq
    rw [List.append_nil]
    exact hP H2 xs (Stb.ext (e1.trans e2) p) h2 Q fun z H3 e3 h3 => q z H3 ((e1.trans e2).trans e3) h3
end
end W9
set_option maxHeartbeats 4000000
/-! what the package's defs promise -/
namespace W9
open PySem PySem.Spec PyProof.Rows L2
def sp_is_whole (K : PySem.W.Frag) : Sp := spP fun l d => ∃ i a b : Int, l = [di i, di a, di b] ∧ d = db (decide (a ≤ i) && decide (i ≤ b))
def sp_are_states (K : PySem.W.Frag) : Sp := spP fun l d => ∃ (r : List Nat) (n : Nat), l = [rowD r, dn n] ∧ RowOk n r ∧ n ≤ 8 ∧ d = db true
def sp_wrong_in_reads (K : PySem.W.Frag) : Sp := spL fun l m => ∃ r : List Nat, l = [rowD r] ∧ 1 ≤ r.length ∧ r.length ≤ 8 ∧ (∀ x ∈ r, x ≤ 9) ∧ m = []
def sp_wrong_in_updates (K : PySem.W.Frag) : Sp := spL fun l m => ∃ (u : List (List Nat)) (n : Nat), l = [rowsD u, dn n] ∧ 1 ≤ u.length ∧ u.length ≤ 4 ∧ n ≤ 8 ∧ (∀ r ∈ u, RowOk n r) ∧ m = []
def sp_wrong_in_merge (K : PySem.W.Frag) : Sp := spL fun l m => ∃ (u : List (List Nat)) (n : Nat), l = [rowsD u, dn n] ∧ u.length = n ∧ n ≤ 8 ∧ (∀ r ∈ u, RowOk n r) ∧ m = []
def sp_need_kind (K : PySem.W.Frag) : Sp := spP fun l d => ∃ k : Kd, k.Ok ∧ l = [kdD k] ∧ d = kdD k
def sp_merged_of (K : PySem.W.Frag) : Sp := spP fun l d => ∃ (k : Kd) (a b : Nat), k.Ok ∧ a < k.rd.length ∧ b < k.rd.length ∧ l = [kdD k, dn a, dn b] ∧ d = dn (k.hr a b)
def sp_is_step (K : PySem.W.Frag) : Sp := spP fun l d => ∃ (k : Kd) (m : Nat) (s : Stp), s.Ok k m ∧ l = [kdD k, dn m, stD s] ∧ d = db true
def sp_wrong_in_history (K : PySem.W.Frag) : Sp := spL fun l m => ∃ (k : Kd) (n : Nat) (h : List Stp), HisOk k n h ∧ l = [kdD k, hisD n h] ∧ m = []
def sp_need_history (K : PySem.W.Frag) : Sp := spP fun l d => ∃ (k : Kd) (n : Nat) (h : List Stp), HisOk k n h ∧ l = [kdD k, hisD n h] ∧ d = hisD n h
def sp_stages_of (K : PySem.W.Frag) : Sp := spL fun l m => ∃ (k : Kd) (n : Nat) (h : List Stp), HisOk k n h ∧ l = [kdD k, hisD n h] ∧ m = (List.range (h.length + 1)).map fun i => rowD (runS k n (h.take i))
def sp_heard_of (K : PySem.W.Frag) : Sp := spL fun l m => ∃ (k : Kd) (n : Nat) (h : List Stp), HisOk k n h ∧ l = [hisD n h] ∧ m = (runH n h).map rowD
def sp_split_pairs (K : PySem.W.Frag) : Sp := spP fun l d => ∃ (k : Kd) (n : Nat) (h : List Stp), HisOk k n h ∧ l = [kdD k, hisD n h] ∧ d = splitD k n h
/-- the number of a copy, or BadCopy -/
def sp_need_copy (K : PySem.W.Frag) : Sp := fun vs H Q E => ∃ (m : Nat) (h : List Stp) (i : Int), TDs H vs [hisD m h, di i] ∧ 1 ≤ m ∧ ((0 ≤ i ∧ i < m) → ∀ H', Ex H H' → Q (.int i) H') ∧ (¬(0 ≤ i ∧ i < m) → ∀ H' d, Ex H H' → E (.ref (He.ga K "BadCopy")) d H')
end W9
set_option maxHeartbeats 4000000
namespace W9
open PySem PySem.Spec PyProof.Rows L2
abbrev N_is_whole : List Str := ["value", "least", "most"]
theorem sc_is_whole : FnScope N_is_whole ["value", "least", "most"] (defScope s_is_whole) := ⟨rfl, rfl, rfl, by decide +kernel, rfl, by decide +kernel, by decide +kernel⟩
def t_is_whole (K : PySem.W.Frag) : TS :=
  (tRet (tAndV (tCB (rIsi K) (tCons (tVar 0) (tCons (tC (.ty "int")) tNil))) (tAndV (tNotV (tCB (rIsi K) (tCons (tVar 0) (tCons (tC (.ty "bool")) tNil)))) (tChain rLe9 rLe9 (tVar 1) (tVar 0) (tVar 2)))))
theorem pd_is_whole {P : Program} {w : World} {K : PySem.W.Frag} {mg : Str → Option Value} {base : Heap} (T : Txt K mg)  {cdv : Value} {A : Around} {outer : List Env} {s : Shared} {H : Hp} {E : XK}
    (hr : Room 0 (A.deeper (envOfC "is_whole" (defScope s_is_whole) s.heap.objs.size (He.ga K "is_whole") cdv))) :
    PSs (cxOf CX0 P w K mg base N_is_whole "is_whole" (defScope s_is_whole) (He.ga K "is_whole") cdv A outer s H E).nox (defBody s_is_whole) (t_is_whole K) :=
  (pss_one (ps_ret (pe_and (pe_callB call_isi (by rfl) T.f_isinstance (by decide +kernel) (pa_cons (pv 0) (pa_cons (pe_bltn (v := .ty "int") (by rfl) T.f_int (by decide +kernel) rfl) pa_nil))) (pe_and (pe_not (pe_callB call_isi (by rfl) T.f_isinstance (by decide +kernel) (pa_cons (pv 0) (pa_cons (pe_bltn (v := .ty "bool") (by rfl) T.f_bool (by decide +kernel) rfl) pa_nil)))) (pe_one (pe_chain op_le op_le (pv 1) (pv 0) (pv 2)))))))

abbrev N_are_states : List Str := ["value", "many", "one"]
theorem sc_are_states : FnScope N_are_states ["value", "many"] (defScope s_are_states) := ⟨rfl, rfl, rfl, by decide +kernel, rfl, by decide +kernel, by decide +kernel⟩
def t_are_states (K : PySem.W.Frag) : TS :=
  (tRet (tAndV (tCB (rIsi K) (tCons (tVar 0) (tCons (tC (.ty "tuple")) tNil))) (tAndV (tOp (rEq9 K) (tCB (rLen9 K) (tCons (tVar 0) tNil)) (tVar 1)) (tCB (rAll K) (tCons (tLc (iTup K (tVar 0)) (gName 2) tYes (tCall (sp_is_whole K) [] E0 (tCons (tVar 2) (tCons (tC (.int 0)) (tCons (tOp rSub9 (tVar 1) (tC (.int 1))) tNil)))) [2]) tNil)))))
theorem pd_are_states {P : Program} {w : World} {K : PySem.W.Frag} {mg : Str → Option Value} {base : Heap} (T : Txt K mg) (G_is_whole : Okf P w K mg base CX0 1 (He.ga K "is_whole") ["value", "least", "most"] (sp_is_whole K)) {cdv : Value} {A : Around} {outer : List Env} {s : Shared} {H : Hp} {E : XK}
    (hr : Room 1 (A.deeper (envOfC "are_states" (defScope s_are_states) s.heap.objs.size (He.ga K "are_states") cdv))) :
    PSs (cxOf CX0 P w K mg base N_are_states "are_states" (defScope s_are_states) (He.ga K "are_states") cdv A outer s H E).nox (defBody s_are_states) (t_are_states K) :=
  (pss_one (ps_ret (pe_and (pe_callB call_isi (by rfl) T.f_isinstance (by decide +kernel) (pa_cons (pv 0) (pa_cons (pe_bltn (v := .ty "tuple") (by rfl) T.f_tuple (by decide +kernel) rfl) pa_nil))) (pe_and (pe_cmpR (op_eq9 hr.units) (pe_callB call_len9 (by rfl) T.f_len PySem.boot_len (pa_cons (pv 0) pa_nil)) (pv 1) (nomark _)) (pe_one (pe_callB (cr_all rfl) (by rfl) T.f_all (by decide +kernel) (pa_cons (pe_lc (own := [("one", 2)]) (g := (gName 2)) rfl sc_are_states.nd (pi_tup (pv 0)) (blkOk_by (own := [("one", 2)]) (N := ["value", "many", "one"]) (sc := defScope s_are_states) (by decide +kernel)) (fun _ _ _ _ _ => (pg_name (i := 2) sc_are_states.nd rfl (Or.inl rfl))) (fun _ _ _ _ _ => pts_nil) (fun _ _ _ _ _ => (pe_callF G_is_whole (hr.mono (by decide)) (by rfl) T.g_is_whole pass0 (pa_cons (pv 2) (pa_cons pe_int (pa_cons (pe_op op_sub (pv 1) pe_int) pa_nil)))))) pa_nil)))))))

abbrev N_wrong_in_reads : List Str := ["value", "number", "one"]
theorem sc_wrong_in_reads : FnScope N_wrong_in_reads ["value"] (defScope s_wrong_in_reads) := ⟨rfl, rfl, rfl, by decide +kernel, rfl, by decide +kernel, by decide +kernel⟩
def t_wrong_in_reads (K : PySem.W.Frag) : TS :=
  (tSeq (tIfS (tOr (tNot (tB (tCB (rIsi K) (tCons (tVar 0) (tCons (tC (.ty "tuple")) tNil))))) (tNot (tTest (tChain rLe9 rLe9 (tC (.int 1)) (tCB (rLen9 K) (tCons (tVar 0) tNil)) (tC (.int 8)))))) (tRet (tLst (tCons (tTup tNil) tNil))) tNext)
  (tRet (tSl (rSl9 K) (tLc (iEnumT K (tCons (tVar 0) tNil)) (gTup K 2 (gCons (gName 1) (gCons (gName 2) gNil))) (tNot (tB (tCall (sp_is_whole K) [] E0 (tCons (tVar 2) (tCons (tC (.int 0)) (tCons (tC (.int 9)) tNil)))))) (tTup (tCons (tVar 1) tNil)) [1, 2]) tNoPart (tPart (tC (.int 1))))))
theorem pd_wrong_in_reads {P : Program} {w : World} {K : PySem.W.Frag} {mg : Str → Option Value} {base : Heap} (T : Txt K mg) (G_is_whole : Okf P w K mg base CX0 1 (He.ga K "is_whole") ["value", "least", "most"] (sp_is_whole K)) {cdv : Value} {A : Around} {outer : List Env} {s : Shared} {H : Hp} {E : XK}
    (hr : Room 1 (A.deeper (envOfC "wrong_in_reads" (defScope s_wrong_in_reads) s.heap.objs.size (He.ga K "wrong_in_reads") cdv))) :
    PSs (cxOf CX0 P w K mg base N_wrong_in_reads "wrong_in_reads" (defScope s_wrong_in_reads) (He.ga K "wrong_in_reads") cdv A outer s H E).nox (defBody s_wrong_in_reads) (t_wrong_in_reads K) :=
  (pss_cons (ps_if (PW.pt (pw_or (pt_not (pt_val (pe_callB call_isi (by rfl) T.f_isinstance (by decide +kernel) (pa_cons (pv 0) (pa_cons (pe_bltn (v := .ty "tuple") (by rfl) T.f_tuple (by decide +kernel) rfl) pa_nil))))) (pw_or1 (pt_not (pt_chain op_le op_le pe_int (pe_callB call_len9 (by rfl) T.f_len PySem.boot_len (pa_cons (pv 0) pa_nil)) (pe_gi (by rfl) T.i_MOST_STATES)))))) (pss_one (ps_ret (pe_lst (pa_cons (pe_tup pa_nil) pa_nil)))) pss_nil)
  (pss_one (ps_ret (pe_slice sl_9 (pe_lc (own := [("number", 1), ("one", 2)]) (g := (gTup K 2 (gCons (gName 1) (gCons (gName 2) gNil)))) rfl sc_wrong_in_reads.nd (pi_enumT (by rfl) T.f_enumerate (pa_cons (pv 0) pa_nil)) (blkOk_by (own := [("number", 1), ("one", 2)]) (N := ["value", "number", "one"]) (sc := defScope s_wrong_in_reads) (by decide +kernel)) (fun _ _ _ _ _ => (pg_tup rfl (pgs_cons (pg_name (i := 1) sc_wrong_in_reads.nd rfl (Or.inl rfl)) (pgs_cons (pg_name (i := 2) sc_wrong_in_reads.nd rfl (Or.inl rfl)) pgs_nil)))) (fun _ _ _ _ _ => (pts_one (pt_not (pt_val (pe_callF G_is_whole (hr.mono (by decide)) (by rfl) T.g_is_whole pass0 (pa_cons (pv 2) (pa_cons pe_int (pa_cons (pe_gi (by rfl) T.i_MOST_READ) pa_nil)))))))) (fun _ _ _ _ _ => (pe_tup (pa_cons (pv 1) pa_nil)))) po_none (po_some pe_int)))))

abbrev N_wrong_in_updates : List Str := ["value", "many", "number", "one"]
theorem sc_wrong_in_updates : FnScope N_wrong_in_updates ["value", "many"] (defScope s_wrong_in_updates) := ⟨rfl, rfl, rfl, by decide +kernel, rfl, by decide +kernel, by decide +kernel⟩
def t_wrong_in_updates (K : PySem.W.Frag) : TS :=
  (tSeq (tIfS (tOr (tNot (tB (tCB (rIsi K) (tCons (tVar 0) (tCons (tC (.ty "tuple")) tNil))))) (tNot (tTest (tChain rLe9 rLe9 (tC (.int 1)) (tCB (rLen9 K) (tCons (tVar 0) tNil)) (tC (.int 4)))))) (tRet (tLst (tCons (tTup tNil) tNil))) tNext)
  (tRet (tSl (rSl9 K) (tLc (iEnumT K (tCons (tVar 0) tNil)) (gTup K 2 (gCons (gName 2) (gCons (gName 3) gNil))) (tNot (tB (tCall (sp_are_states K) [] E0 (tCons (tVar 3) (tCons (tVar 1) tNil))))) (tTup (tCons (tVar 2) tNil)) [2, 3]) tNoPart (tPart (tC (.int 1))))))
theorem pd_wrong_in_updates {P : Program} {w : World} {K : PySem.W.Frag} {mg : Str → Option Value} {base : Heap} (T : Txt K mg) (G_are_states : Okf P w K mg base CX0 2 (He.ga K "are_states") ["value", "many"] (sp_are_states K)) {cdv : Value} {A : Around} {outer : List Env} {s : Shared} {H : Hp} {E : XK}
    (hr : Room 2 (A.deeper (envOfC "wrong_in_updates" (defScope s_wrong_in_updates) s.heap.objs.size (He.ga K "wrong_in_updates") cdv))) :
    PSs (cxOf CX0 P w K mg base N_wrong_in_updates "wrong_in_updates" (defScope s_wrong_in_updates) (He.ga K "wrong_in_updates") cdv A outer s H E).nox (defBody s_wrong_in_updates) (t_wrong_in_updates K) :=
  (pss_cons (ps_if (PW.pt (pw_or (pt_not (pt_val (pe_callB call_isi (by rfl) T.f_isinstance (by decide +kernel) (pa_cons (pv 0) (pa_cons (pe_bltn (v := .ty "tuple") (by rfl) T.f_tuple (by decide +kernel) rfl) pa_nil))))) (pw_or1 (pt_not (pt_chain op_le op_le pe_int (pe_callB call_len9 (by rfl) T.f_len PySem.boot_len (pa_cons (pv 0) pa_nil)) (pe_gi (by rfl) T.i_MOST_UPDATES)))))) (pss_one (ps_ret (pe_lst (pa_cons (pe_tup pa_nil) pa_nil)))) pss_nil)
  (pss_one (ps_ret (pe_slice sl_9 (pe_lc (own := [("number", 2), ("one", 3)]) (g := (gTup K 2 (gCons (gName 2) (gCons (gName 3) gNil)))) rfl sc_wrong_in_updates.nd (pi_enumT (by rfl) T.f_enumerate (pa_cons (pv 0) pa_nil)) (blkOk_by (own := [("number", 2), ("one", 3)]) (N := ["value", "many", "number", "one"]) (sc := defScope s_wrong_in_updates) (by decide +kernel)) (fun _ _ _ _ _ => (pg_tup rfl (pgs_cons (pg_name (i := 2) sc_wrong_in_updates.nd rfl (Or.inl rfl)) (pgs_cons (pg_name (i := 3) sc_wrong_in_updates.nd rfl (Or.inl rfl)) pgs_nil)))) (fun _ _ _ _ _ => (pts_one (pt_not (pt_val (pe_callF G_are_states (hr.mono (by decide)) (by rfl) T.g_are_states pass0 (pa_cons (pv 3) (pa_cons (pv 1) pa_nil))))))) (fun _ _ _ _ _ => (pe_tup (pa_cons (pv 2) pa_nil)))) po_none (po_some pe_int)))))

abbrev N_wrong_in_merge : List Str := ["value", "many", "number", "one"]
theorem sc_wrong_in_merge : FnScope N_wrong_in_merge ["value", "many"] (defScope s_wrong_in_merge) := ⟨rfl, rfl, rfl, by decide +kernel, rfl, by decide +kernel, by decide +kernel⟩
def t_wrong_in_merge (K : PySem.W.Frag) : TS :=
  (tSeq (tIfS (tOr (tNot (tB (tCB (rIsi K) (tCons (tVar 0) (tCons (tC (.ty "tuple")) tNil))))) (tTest (tOp (rNe9 K) (tCB (rLen9 K) (tCons (tVar 0) tNil)) (tVar 1)))) (tRet (tLst (tCons (tTup tNil) tNil))) tNext)
  (tRet (tSl (rSl9 K) (tLc (iEnumT K (tCons (tVar 0) tNil)) (gTup K 2 (gCons (gName 2) (gCons (gName 3) gNil))) (tNot (tB (tCall (sp_are_states K) [] E0 (tCons (tVar 3) (tCons (tVar 1) tNil))))) (tTup (tCons (tVar 2) tNil)) [2, 3]) tNoPart (tPart (tC (.int 1))))))
theorem pd_wrong_in_merge {P : Program} {w : World} {K : PySem.W.Frag} {mg : Str → Option Value} {base : Heap} (T : Txt K mg) (G_are_states : Okf P w K mg base CX0 2 (He.ga K "are_states") ["value", "many"] (sp_are_states K)) {cdv : Value} {A : Around} {outer : List Env} {s : Shared} {H : Hp} {E : XK}
    (hr : Room 2 (A.deeper (envOfC "wrong_in_merge" (defScope s_wrong_in_merge) s.heap.objs.size (He.ga K "wrong_in_merge") cdv))) :
    PSs (cxOf CX0 P w K mg base N_wrong_in_merge "wrong_in_merge" (defScope s_wrong_in_merge) (He.ga K "wrong_in_merge") cdv A outer s H E).nox (defBody s_wrong_in_merge) (t_wrong_in_merge K) :=
  (pss_cons (ps_if (PW.pt (pw_or (pt_not (pt_val (pe_callB call_isi (by rfl) T.f_isinstance (by decide +kernel) (pa_cons (pv 0) (pa_cons (pe_bltn (v := .ty "tuple") (by rfl) T.f_tuple (by decide +kernel) rfl) pa_nil))))) (pw_or1 (pt_cmpR (op_ne9 hr.units) (pe_callB call_len9 (by rfl) T.f_len PySem.boot_len (pa_cons (pv 0) pa_nil)) (pv 1) (nomark _))))) (pss_one (ps_ret (pe_lst (pa_cons (pe_tup pa_nil) pa_nil)))) pss_nil)
  (pss_one (ps_ret (pe_slice sl_9 (pe_lc (own := [("number", 2), ("one", 3)]) (g := (gTup K 2 (gCons (gName 2) (gCons (gName 3) gNil)))) rfl sc_wrong_in_merge.nd (pi_enumT (by rfl) T.f_enumerate (pa_cons (pv 0) pa_nil)) (blkOk_by (own := [("number", 2), ("one", 3)]) (N := ["value", "many", "number", "one"]) (sc := defScope s_wrong_in_merge) (by decide +kernel)) (fun _ _ _ _ _ => (pg_tup rfl (pgs_cons (pg_name (i := 2) sc_wrong_in_merge.nd rfl (Or.inl rfl)) (pgs_cons (pg_name (i := 3) sc_wrong_in_merge.nd rfl (Or.inl rfl)) pgs_nil)))) (fun _ _ _ _ _ => (pts_one (pt_not (pt_val (pe_callF G_are_states (hr.mono (by decide)) (by rfl) T.g_are_states pass0 (pa_cons (pv 3) (pa_cons (pv 1) pa_nil))))))) (fun _ _ _ _ _ => (pe_tup (pa_cons (pv 2) pa_nil)))) po_none (po_some pe_int)))))

abbrev N_need_kind : List Str := ["kind", "path", "many"]
theorem sc_need_kind : FnScope N_need_kind ["kind"] (defScope s_need_kind) := ⟨rfl, rfl, rfl, by decide +kernel, rfl, by decide +kernel, by decide +kernel⟩
def t_need_kind (K : PySem.W.Frag) : TS :=
  (tSeq (tIfS (tOr (tNot (tB (tCB (rIsi K) (tCons (tVar 0) (tCons (tC (.ty "tuple")) tNil))))) (tTest (tOp (rNe9 K) (tCB (rLen9 K) (tCons (tVar 0) tNil)) (tC (.int 4))))) tNever tNext)
  (tSeq (tFor (iList K (tCall (sp_wrong_in_reads K) [] E0 (tCons (tOp (rIx K) (tVar 0) (tC (.int 3))) tNil))) (gName 1) tNever)
  (tSeq (tAsg (tCB (rLen9 K) (tCons (tOp (rIx K) (tVar 0) (tC (.int 3))) tNil)) (gName 2))
  (tSeq (tIfS (tNot (tB (tCall (sp_is_whole K) [] E0 (tCons (tOp (rIx K) (tVar 0) (tC (.int 0))) (tCons (tC (.int 0)) (tCons (tOp rSub9 (tVar 2) (tC (.int 1))) tNil)))))) tNever tNext)
  (tSeq (tFor (iList K (tCall (sp_wrong_in_updates K) [] E0 (tCons (tOp (rIx K) (tVar 0) (tC (.int 1))) (tCons (tVar 2) tNil)))) (gName 1) tNever)
  (tSeq (tFor (iList K (tCall (sp_wrong_in_merge K) [] E0 (tCons (tOp (rIx K) (tVar 0) (tC (.int 2))) (tCons (tVar 2) tNil)))) (gName 1) tNever)
  (tRet (tVar 0))))))))
theorem pd_need_kind {P : Program} {w : World} {K : PySem.W.Frag} {mg : Str → Option Value} {base : Heap} (T : Txt K mg) (G_wrong_in_reads : Okf P w K mg base CX0 2 (He.ga K "wrong_in_reads") ["value"] (sp_wrong_in_reads K)) (G_is_whole : Okf P w K mg base CX0 1 (He.ga K "is_whole") ["value", "least", "most"] (sp_is_whole K)) (G_wrong_in_updates : Okf P w K mg base CX0 3 (He.ga K "wrong_in_updates") ["value", "many"] (sp_wrong_in_updates K)) (G_wrong_in_merge : Okf P w K mg base CX0 3 (He.ga K "wrong_in_merge") ["value", "many"] (sp_wrong_in_merge K)) {cdv : Value} {A : Around} {outer : List Env} {s : Shared} {H : Hp} {E : XK}
    (hr : Room 3 (A.deeper (envOfC "need_kind" (defScope s_need_kind) s.heap.objs.size (He.ga K "need_kind") cdv))) :
    PSs (cxOf CX0 P w K mg base N_need_kind "need_kind" (defScope s_need_kind) (He.ga K "need_kind") cdv A outer s H E).nox (defBody s_need_kind) (t_need_kind K) :=
  (pss_cons (ps_if (PW.pt (pw_or (pt_not (pt_val (pe_callB call_isi (by rfl) T.f_isinstance (by decide +kernel) (pa_cons (pv 0) (pa_cons (pe_bltn (v := .ty "tuple") (by rfl) T.f_tuple (by decide +kernel) rfl) pa_nil))))) (pw_or1 (pt_cmpR (op_ne9 hr.units) (pe_callB call_len9 (by rfl) T.f_len PySem.boot_len (pa_cons (pv 0) pa_nil)) pe_int (nomark _))))) (pss_one ps_never) pss_nil)
  (pss_cons (ps_for PassesOwn.never rfl (pi_list (pe_callF G_wrong_in_reads (hr.mono (by decide)) (by rfl) T.g_wrong_in_reads pass0 (pa_cons (pe_ix ix_seq (pv 0) pe_int (fun _ _ => rfl)) pa_nil))) (pg_name (i := 1) sc_need_kind.nd rfl (Or.inl rfl)) (pss_one ps_never))
  (pss_cons (ps_set (i := 2) sc_need_kind.nd rfl (Or.inl rfl) (pe_callB call_len9 (by rfl) T.f_len PySem.boot_len (pa_cons (pe_ix ix_seq (pv 0) pe_int (fun _ _ => rfl)) pa_nil)))
  (pss_cons (ps_if (pt_not (pt_val (pe_callF G_is_whole (hr.mono (by decide)) (by rfl) T.g_is_whole pass0 (pa_cons (pe_ix ix_seq (pv 0) pe_int (fun _ _ => rfl)) (pa_cons pe_int (pa_cons (pe_op op_sub (pv 2) pe_int) pa_nil)))))) (pss_one ps_never) pss_nil)
  (pss_cons (ps_for PassesOwn.never rfl (pi_list (pe_callF G_wrong_in_updates (hr.mono (by decide)) (by rfl) T.g_wrong_in_updates pass0 (pa_cons (pe_ix ix_seq (pv 0) pe_int (fun _ _ => rfl)) (pa_cons (pv 2) pa_nil)))) (pg_name (i := 1) sc_need_kind.nd rfl (Or.inl rfl)) (pss_one ps_never))
  (pss_cons (ps_for PassesOwn.never rfl (pi_list (pe_callF G_wrong_in_merge (hr.mono (by decide)) (by rfl) T.g_wrong_in_merge pass0 (pa_cons (pe_ix ix_seq (pv 0) pe_int (fun _ _ => rfl)) (pa_cons (pv 2) pa_nil)))) (pg_name (i := 1) sc_need_kind.nd rfl (Or.inl rfl)) (pss_one ps_never))
  (pss_one (ps_ret (pv 0)))))))))

abbrev N_merged_of : List Str := ["kind", "one", "other"]
theorem sc_merged_of : FnScope N_merged_of ["kind", "one", "other"] (defScope s_merged_of) := ⟨rfl, rfl, rfl, by decide +kernel, rfl, by decide +kernel, by decide +kernel⟩
def t_merged_of (K : PySem.W.Frag) : TS :=
  (tRet (tOp (rIx K) (tOp (rIx K) (tOp (rIx K) (tVar 0) (tC (.int 2))) (tVar 1)) (tVar 2)))
theorem pd_merged_of {P : Program} {w : World} {K : PySem.W.Frag} {mg : Str → Option Value} {base : Heap} (T : Txt K mg)  {cdv : Value} {A : Around} {outer : List Env} {s : Shared} {H : Hp} {E : XK}
    (hr : Room 0 (A.deeper (envOfC "merged_of" (defScope s_merged_of) s.heap.objs.size (He.ga K "merged_of") cdv))) :
    PSs (cxOf CX0 P w K mg base N_merged_of "merged_of" (defScope s_merged_of) (He.ga K "merged_of") cdv A outer s H E).nox (defBody s_merged_of) (t_merged_of K) :=
  (pss_one (ps_ret (pe_ix ix_seq (pe_ix ix_seq (pe_ix ix_seq (pv 0) pe_int (fun _ _ => rfl)) (pv 1) (fun _ _ => rfl)) (pv 2) (fun _ _ => rfl))))

abbrev N_is_step : List Str := ["kind", "copies", "value"]
theorem sc_is_step : FnScope N_is_step ["kind", "copies", "value"] (defScope s_is_step) := ⟨rfl, rfl, rfl, by decide +kernel, rfl, by decide +kernel, by decide +kernel⟩
def t_is_step (K : PySem.W.Frag) : TS :=
  (tSeq (tIfS (tOr (tNot (tB (tCB (rIsi K) (tCons (tVar 2) (tCons (tC (.ty "tuple")) tNil))))) (tOr (tTest (tOp (rNe9 K) (tCB (rLen9 K) (tCons (tVar 2) tNil)) (tC (.int 3)))) (tNot (tB (tCB (rIsi K) (tCons (tOp (rIx K) (tVar 2) (tC (.int 0))) (tCons (tC (.ty "str")) tNil))))))) (tRet (tC (.bl false))) tNext)
  (tSeq (tIfS (tNot (tB (tCall (sp_is_whole K) [] E0 (tCons (tOp (rIx K) (tVar 2) (tC (.int 1))) (tCons (tC (.int 0)) (tCons (tOp rSub9 (tVar 1) (tC (.int 1))) tNil)))))) (tRet (tC (.bl false))) tNext)
  (tSeq (tIfS (tTest (tOp (rEq9 K) (tOp (rIx K) (tVar 2) (tC (.int 0))) (tC (.str "do")))) (tRet (tCall (sp_is_whole K) [] E0 (tCons (tOp (rIx K) (tVar 2) (tC (.int 2))) (tCons (tC (.int 0)) (tCons (tOp rSub9 (tCB (rLen9 K) (tCons (tOp (rIx K) (tVar 0) (tC (.int 1))) tNil)) (tC (.int 1))) tNil))))) tNext)
  (tRet (tAndV (tOp (rEq9 K) (tOp (rIx K) (tVar 2) (tC (.int 0))) (tC (.str "hear"))) (tAndV (tCall (sp_is_whole K) [] E0 (tCons (tOp (rIx K) (tVar 2) (tC (.int 2))) (tCons (tC (.int 0)) (tCons (tOp rSub9 (tVar 1) (tC (.int 1))) tNil)))) (tOp (rNe9 K) (tOp (rIx K) (tVar 2) (tC (.int 1))) (tOp (rIx K) (tVar 2) (tC (.int 2))))))))))
theorem pd_is_step {P : Program} {w : World} {K : PySem.W.Frag} {mg : Str → Option Value} {base : Heap} (T : Txt K mg) (G_is_whole : Okf P w K mg base CX0 1 (He.ga K "is_whole") ["value", "least", "most"] (sp_is_whole K)) {cdv : Value} {A : Around} {outer : List Env} {s : Shared} {H : Hp} {E : XK}
    (hr : Room 1 (A.deeper (envOfC "is_step" (defScope s_is_step) s.heap.objs.size (He.ga K "is_step") cdv))) :
    PSs (cxOf CX0 P w K mg base N_is_step "is_step" (defScope s_is_step) (He.ga K "is_step") cdv A outer s H E).nox (defBody s_is_step) (t_is_step K) :=
  (pss_cons (ps_if (PW.pt (pw_or (pt_not (pt_val (pe_callB call_isi (by rfl) T.f_isinstance (by decide +kernel) (pa_cons (pv 2) (pa_cons (pe_bltn (v := .ty "tuple") (by rfl) T.f_tuple (by decide +kernel) rfl) pa_nil))))) (pw_or (pt_cmpR (op_ne9 hr.units) (pe_callB call_len9 (by rfl) T.f_len PySem.boot_len (pa_cons (pv 2) pa_nil)) pe_int (nomark _)) (pw_or1 (pt_not (pt_val (pe_callB call_isi (by rfl) T.f_isinstance (by decide +kernel) (pa_cons (pe_ix ix_seq (pv 2) pe_int (fun _ _ => rfl)) (pa_cons (pe_bltn (v := .ty "str") (by rfl) T.f_str (by decide +kernel) rfl) pa_nil))))))))) (pss_one (ps_ret pe_bl)) pss_nil)
  (pss_cons (ps_if (pt_not (pt_val (pe_callF G_is_whole (hr.mono (by decide)) (by rfl) T.g_is_whole pass0 (pa_cons (pe_ix ix_seq (pv 2) pe_int (fun _ _ => rfl)) (pa_cons pe_int (pa_cons (pe_op op_sub (pv 1) pe_int) pa_nil)))))) (pss_one (ps_ret pe_bl)) pss_nil)
  (pss_cons (ps_if (pt_cmpR (op_eq9 hr.units) (pe_ix ix_seq (pv 2) pe_int (fun _ _ => rfl)) (pe_gs (by rfl) T.s_DO) (nomark _)) (pss_one (ps_ret (pe_callF G_is_whole (hr.mono (by decide)) (by rfl) T.g_is_whole pass0 (pa_cons (pe_ix ix_seq (pv 2) pe_int (fun _ _ => rfl)) (pa_cons pe_int (pa_cons (pe_op op_sub (pe_callB call_len9 (by rfl) T.f_len PySem.boot_len (pa_cons (pe_ix ix_seq (pv 0) pe_int (fun _ _ => rfl)) pa_nil)) pe_int) pa_nil)))))) pss_nil)
  (pss_one (ps_ret (pe_and (pe_cmpR (op_eq9 hr.units) (pe_ix ix_seq (pv 2) pe_int (fun _ _ => rfl)) (pe_gs (by rfl) T.s_HEAR) (nomark _)) (pe_and (pe_callF G_is_whole (hr.mono (by decide)) (by rfl) T.g_is_whole pass0 (pa_cons (pe_ix ix_seq (pv 2) pe_int (fun _ _ => rfl)) (pa_cons pe_int (pa_cons (pe_op op_sub (pv 1) pe_int) pa_nil)))) (pe_one (pe_cmpR (op_ne9 hr.units) (pe_ix ix_seq (pv 2) pe_int (fun _ _ => rfl)) (pe_ix ix_seq (pv 2) pe_int (fun _ _ => rfl)) (nomark _))))))))))

abbrev N_wrong_in_history : List Str := ["kind", "value", "number", "step"]
theorem sc_wrong_in_history : FnScope N_wrong_in_history ["kind", "value"] (defScope s_wrong_in_history) := ⟨rfl, rfl, rfl, by decide +kernel, rfl, by decide +kernel, by decide +kernel⟩
def t_wrong_in_history (K : PySem.W.Frag) : TS :=
  (tSeq (tIfS (tOr (tNot (tB (tCB (rIsi K) (tCons (tVar 1) (tCons (tC (.ty "tuple")) tNil))))) (tTest (tOp (rNe9 K) (tCB (rLen9 K) (tCons (tVar 1) tNil)) (tC (.int 2))))) (tRet (tLst (tCons (tTup tNil) tNil))) tNext)
  (tSeq (tIfS (tNot (tB (tCall (sp_is_whole K) [] E0 (tCons (tOp (rIx K) (tVar 1) (tC (.int 0))) (tCons (tC (.int 1)) (tCons (tC (.int 16)) tNil)))))) (tRet (tLst (tCons (tTup (tCons (tC (.int 0)) tNil)) tNil))) tNext)
  (tSeq (tIfS (tOr (tNot (tB (tCB (rIsi K) (tCons (tOp (rIx K) (tVar 1) (tC (.int 1))) (tCons (tC (.ty "tuple")) tNil))))) (tTest (tOp rGt9 (tCB (rLen9 K) (tCons (tOp (rIx K) (tVar 1) (tC (.int 1))) tNil)) (tC (.int 60))))) (tRet (tLst (tCons (tTup (tCons (tC (.int 1)) tNil)) tNil))) tNext)
  (tRet (tSl (rSl9 K) (tLc (iEnumT K (tCons (tOp (rIx K) (tVar 1) (tC (.int 1))) tNil)) (gTup K 2 (gCons (gName 2) (gCons (gName 3) gNil))) (tNot (tB (tCall (sp_is_step K) [] E0 (tCons (tVar 0) (tCons (tOp (rIx K) (tVar 1) (tC (.int 0))) (tCons (tVar 3) tNil)))))) (tTup (tCons (tC (.int 1)) (tCons (tVar 2) tNil))) [2, 3]) tNoPart (tPart (tC (.int 1))))))))
theorem pd_wrong_in_history {P : Program} {w : World} {K : PySem.W.Frag} {mg : Str → Option Value} {base : Heap} (T : Txt K mg) (G_is_whole : Okf P w K mg base CX0 1 (He.ga K "is_whole") ["value", "least", "most"] (sp_is_whole K)) (G_is_step : Okf P w K mg base CX0 2 (He.ga K "is_step") ["kind", "copies", "value"] (sp_is_step K)) {cdv : Value} {A : Around} {outer : List Env} {s : Shared} {H : Hp} {E : XK}
    (hr : Room 2 (A.deeper (envOfC "wrong_in_history" (defScope s_wrong_in_history) s.heap.objs.size (He.ga K "wrong_in_history") cdv))) :
    PSs (cxOf CX0 P w K mg base N_wrong_in_history "wrong_in_history" (defScope s_wrong_in_history) (He.ga K "wrong_in_history") cdv A outer s H E).nox (defBody s_wrong_in_history) (t_wrong_in_history K) :=
  (pss_cons (ps_if (PW.pt (pw_or (pt_not (pt_val (pe_callB call_isi (by rfl) T.f_isinstance (by decide +kernel) (pa_cons (pv 1) (pa_cons (pe_bltn (v := .ty "tuple") (by rfl) T.f_tuple (by decide +kernel) rfl) pa_nil))))) (pw_or1 (pt_cmpR (op_ne9 hr.units) (pe_callB call_len9 (by rfl) T.f_len PySem.boot_len (pa_cons (pv 1) pa_nil)) pe_int (nomark _))))) (pss_one (ps_ret (pe_lst (pa_cons (pe_tup pa_nil) pa_nil)))) pss_nil)
  (pss_cons (ps_if (pt_not (pt_val (pe_callF G_is_whole (hr.mono (by decide)) (by rfl) T.g_is_whole pass0 (pa_cons (pe_ix ix_seq (pv 1) pe_int (fun _ _ => rfl)) (pa_cons pe_int (pa_cons (pe_gi (by rfl) T.i_MOST_COPIES) pa_nil)))))) (pss_one (ps_ret (pe_lst (pa_cons (pe_tup (pa_cons pe_int pa_nil)) pa_nil)))) pss_nil)
  (pss_cons (ps_if (PW.pt (pw_or (pt_not (pt_val (pe_callB call_isi (by rfl) T.f_isinstance (by decide +kernel) (pa_cons (pe_ix ix_seq (pv 1) pe_int (fun _ _ => rfl)) (pa_cons (pe_bltn (v := .ty "tuple") (by rfl) T.f_tuple (by decide +kernel) rfl) pa_nil))))) (pw_or1 (pt_cmpR op_gt (pe_callB call_len9 (by rfl) T.f_len PySem.boot_len (pa_cons (pe_ix ix_seq (pv 1) pe_int (fun _ _ => rfl)) pa_nil)) (pe_gi (by rfl) T.i_MOST_STEPS) (nomark _))))) (pss_one (ps_ret (pe_lst (pa_cons (pe_tup (pa_cons pe_int pa_nil)) pa_nil)))) pss_nil)
  (pss_one (ps_ret (pe_slice sl_9 (pe_lc (own := [("number", 2), ("step", 3)]) (g := (gTup K 2 (gCons (gName 2) (gCons (gName 3) gNil)))) rfl sc_wrong_in_history.nd (pi_enumT (by rfl) T.f_enumerate (pa_cons (pe_ix ix_seq (pv 1) pe_int (fun _ _ => rfl)) pa_nil)) (blkOk_by (own := [("number", 2), ("step", 3)]) (N := ["kind", "value", "number", "step"]) (sc := defScope s_wrong_in_history) (by decide +kernel)) (fun _ _ _ _ _ => (pg_tup rfl (pgs_cons (pg_name (i := 2) sc_wrong_in_history.nd rfl (Or.inl rfl)) (pgs_cons (pg_name (i := 3) sc_wrong_in_history.nd rfl (Or.inl rfl)) pgs_nil)))) (fun _ _ _ _ _ => (pts_one (pt_not (pt_val (pe_callF G_is_step (hr.mono (by decide)) (by rfl) T.g_is_step pass0 (pa_cons (pv 0) (pa_cons (pe_ix ix_seq (pv 1) pe_int (fun _ _ => rfl)) (pa_cons (pv 3) pa_nil)))))))) (fun _ _ _ _ _ => (pe_tup (pa_cons pe_int (pa_cons (pv 2) pa_nil))))) po_none (po_some pe_int)))))))

abbrev N_need_history : List Str := ["kind", "history", "path"]
theorem sc_need_history : FnScope N_need_history ["kind", "history"] (defScope s_need_history) := ⟨rfl, rfl, rfl, by decide +kernel, rfl, by decide +kernel, by decide +kernel⟩
def t_need_history (K : PySem.W.Frag) : TS :=
  (tSeq (tDrop (tCall (sp_need_kind K) [] E0 (tCons (tVar 0) tNil)))
  (tSeq (tFor (iList K (tCall (sp_wrong_in_history K) [] E0 (tCons (tVar 0) (tCons (tVar 1) tNil)))) (gName 2) tNever)
  (tRet (tVar 1))))
theorem pd_need_history {P : Program} {w : World} {K : PySem.W.Frag} {mg : Str → Option Value} {base : Heap} (T : Txt K mg) (G_need_kind : Okf P w K mg base CX0 4 (He.ga K "need_kind") ["kind"] (sp_need_kind K)) (G_wrong_in_history : Okf P w K mg base CX0 3 (He.ga K "wrong_in_history") ["kind", "value"] (sp_wrong_in_history K)) {cdv : Value} {A : Around} {outer : List Env} {s : Shared} {H : Hp} {E : XK}
    (hr : Room 4 (A.deeper (envOfC "need_history" (defScope s_need_history) s.heap.objs.size (He.ga K "need_history") cdv))) :
    PSs (cxOf CX0 P w K mg base N_need_history "need_history" (defScope s_need_history) (He.ga K "need_history") cdv A outer s H E).nox (defBody s_need_history) (t_need_history K) :=
  (pss_cons (ps_expr (pe_callF G_need_kind (hr.mono (by decide)) (by rfl) T.g_need_kind pass0 (pa_cons (pv 0) pa_nil)))
  (pss_cons (ps_for PassesOwn.never rfl (pi_list (pe_callF G_wrong_in_history (hr.mono (by decide)) (by rfl) T.g_wrong_in_history pass0 (pa_cons (pv 0) (pa_cons (pv 1) pa_nil)))) (pg_name (i := 2) sc_need_history.nd rfl (Or.inl rfl)) (pss_one ps_never))
  (pss_one (ps_ret (pv 1)))))

abbrev N_stages_of : List Str := ["kind", "history", "states", "found", "word", "copy", "other", "state"]
theorem sc_stages_of : FnScope N_stages_of ["kind", "history"] (defScope s_stages_of) := ⟨rfl, rfl, rfl, by decide +kernel, rfl, by decide +kernel, by decide +kernel⟩
def t_stages_of (K : PySem.W.Frag) : TS :=
  (tSeq (tAsg (tOp (rMul9 K) (tTup (tCons (tOp (rIx K) (tVar 0) (tC (.int 0))) tNil)) (tOp (rIx K) (tVar 1) (tC (.int 0)))) (gName 2))
  (tSeq (tAsg (tLst (tCons (tVar 2) tNil)) (gName 3))
  (tSeq (tFor (iTup K (tOp (rIx K) (tVar 1) (tC (.int 1)))) (gTup K 3 (gCons (gName 4) (gCons (gName 5) (gCons (gName 6) gNil)))) (tSeq (tAsg (tIf (tTest (tOp (rEq9 K) (tVar 4) (tC (.str "do")))) (tOp (rIx K) (tOp (rIx K) (tOp (rIx K) (tVar 0) (tC (.int 1))) (tVar 6)) (tOp (rIx K) (tVar 2) (tVar 5))) (tCall (sp_merged_of K) [] E0 (tCons (tVar 0) (tCons (tOp (rIx K) (tVar 2) (tVar 5)) (tCons (tOp (rIx K) (tVar 2) (tVar 6)) tNil))))) (gName 7))
  (tSeq (tAsg (tOp (rAdd9 K) (tOp (rAdd9 K) (tSl (rSl9 K) (tVar 2) tNoPart (tPart (tVar 5))) (tTup (tCons (tVar 7) tNil))) (tSl (rSl9 K) (tVar 2) (tPart (tOp (rAdd9 K) (tVar 5) (tC (.int 1)))) tNoPart)) (gName 2))
  (tDrop (tBM K "list" rAppend (tVar 3) (tCons (tVar 2) tNil))))))
  (tRet (tVar 3)))))
theorem pd_stages_of {P : Program} {w : World} {K : PySem.W.Frag} {mg : Str → Option Value} {base : Heap} (T : Txt K mg) (G_merged_of : Okf P w K mg base CX0 1 (He.ga K "merged_of") ["kind", "one", "other"] (sp_merged_of K)) {cdv : Value} {A : Around} {outer : List Env} {s : Shared} {H : Hp} {E : XK}
    (hr : Room 1 (A.deeper (envOfC "stages_of" (defScope s_stages_of) s.heap.objs.size (He.ga K "stages_of") cdv))) :
    PSs (cxOf CX0 P w K mg base N_stages_of "stages_of" (defScope s_stages_of) (He.ga K "stages_of") cdv A outer s H E).nox (defBody s_stages_of) (t_stages_of K) :=
  (pss_cons (ps_set (i := 2) sc_stages_of.nd rfl (Or.inl rfl) (pe_op op_mul9 (pe_tup (pa_cons (pe_ix ix_seq (pv 0) pe_int (fun _ _ => rfl)) pa_nil)) (pe_ix ix_seq (pv 1) pe_int (fun _ _ => rfl))))
  (pss_cons (ps_set (i := 3) sc_stages_of.nd rfl (Or.inl rfl) (pe_lst (pa_cons (pv 2) pa_nil)))
  (pss_cons (ps_for PassesOwn.never rfl (pi_tup (pe_ix ix_seq (pv 1) pe_int (fun _ _ => rfl))) (pg_tup rfl (pgs_cons (pg_name (i := 4) sc_stages_of.nd rfl (Or.inl rfl)) (pgs_cons (pg_name (i := 5) sc_stages_of.nd rfl (Or.inl rfl)) (pgs_cons (pg_name (i := 6) sc_stages_of.nd rfl (Or.inl rfl)) pgs_nil)))) (pss_cons (ps_set (i := 7) sc_stages_of.nd rfl (Or.inl rfl) (pe_ifExp (pt_cmpR (op_eq9 hr.units) (pv 4) (pe_gs (by rfl) T.s_DO) (nomark _)) (pe_ix ix_seq (pe_ix ix_seq (pe_ix ix_seq (pv 0) pe_int (fun _ _ => rfl)) (pv 6) (fun _ _ => rfl)) (pe_ix ix_seq (pv 2) (pv 5) (fun _ _ => rfl)) (fun _ _ => rfl)) (pe_callF G_merged_of (hr.mono (by decide)) (by rfl) T.g_merged_of pass0 (pa_cons (pv 0) (pa_cons (pe_ix ix_seq (pv 2) (pv 5) (fun _ _ => rfl)) (pa_cons (pe_ix ix_seq (pv 2) (pv 6) (fun _ _ => rfl)) pa_nil))))))
  (pss_cons (ps_set (i := 2) sc_stages_of.nd rfl (Or.inl rfl) (pe_op op_add9 (pe_op op_add9 (pe_slice sl_9 (pv 2) po_none (po_some (pv 5))) (pe_tup (pa_cons (pv 7) pa_nil))) (pe_slice sl_9 (pv 2) (po_some (pe_op op_add9 (pv 5) pe_int)) po_none)))
  (pss_one (ps_expr (pe_bm PySem.F.plainAttrs_list PySem.F.slot_list_append PySem.F.type_list_append mt_append (pv 3) (pa_cons (pv 2) pa_nil)))))))
  (pss_one (ps_ret (pv 3))))))

abbrev N_heard_of : List Str := ["history", "found", "number", "word", "copy", "other", "more"]
theorem sc_heard_of : FnScope N_heard_of ["history"] (defScope s_heard_of) := ⟨rfl, rfl, rfl, by decide +kernel, rfl, by decide +kernel, by decide +kernel⟩
def t_heard_of (K : PySem.W.Frag) : TS :=
  (tSeq (tAsg (tOp (rMul9 K) (tLst (tCons (tTup tNil) tNil)) (tOp (rIx K) (tVar 0) (tC (.int 0)))) (gName 1))
  (tSeq (tFor (iEnumT K (tCons (tOp (rIx K) (tVar 0) (tC (.int 1))) tNil)) (gTup K 2 (gCons (gName 2) (gCons (gTup K 3 (gCons (gName 3) (gCons (gName 4) (gCons (gName 5) gNil)))) gNil))) (tSeq (tAsg (tIf (tTest (tOp (rEq9 K) (tVar 3) (tC (.str "do")))) (tTup (tCons (tVar 2) tNil)) (tOp (rIx K) (tVar 1) (tVar 5))) (gName 6))
  (tAsg (tTss K (tOp (rAdd9 K) (tOp (rIx K) (tVar 1) (tVar 4)) (tVar 6))) (gSub (tVar 1) (tVar 4) rSetL))))
  (tRet (tVar 1))))
theorem pd_heard_of {P : Program} {w : World} {K : PySem.W.Frag} {mg : Str → Option Value} {base : Heap} (T : Txt K mg)  {cdv : Value} {A : Around} {outer : List Env} {s : Shared} {H : Hp} {E : XK}
    (hr : Room 0 (A.deeper (envOfC "heard_of" (defScope s_heard_of) s.heap.objs.size (He.ga K "heard_of") cdv))) :
    PSs (cxOf CX0 P w K mg base N_heard_of "heard_of" (defScope s_heard_of) (He.ga K "heard_of") cdv A outer s H E).nox (defBody s_heard_of) (t_heard_of K) :=
  (pss_cons (ps_set (i := 1) sc_heard_of.nd rfl (Or.inl rfl) (pe_op op_mul9 (pe_lst (pa_cons (pe_tup pa_nil) pa_nil)) (pe_ix ix_seq (pv 0) pe_int (fun _ _ => rfl))))
  (pss_cons (ps_for PassesOwn.never rfl (pi_enumT (by rfl) T.f_enumerate (pa_cons (pe_ix ix_seq (pv 0) pe_int (fun _ _ => rfl)) pa_nil)) (pg_tup rfl (pgs_cons (pg_name (i := 2) sc_heard_of.nd rfl (Or.inl rfl)) (pgs_cons (pg_tup rfl (pgs_cons (pg_name (i := 3) sc_heard_of.nd rfl (Or.inl rfl)) (pgs_cons (pg_name (i := 4) sc_heard_of.nd rfl (Or.inl rfl)) (pgs_cons (pg_name (i := 5) sc_heard_of.nd rfl (Or.inl rfl)) pgs_nil)))) pgs_nil))) (pss_cons (ps_set (i := 6) sc_heard_of.nd rfl (Or.inl rfl) (pe_ifExp (pt_cmpR (op_eq9 hr.units) (pv 3) (pe_gs (by rfl) T.s_DO) (nomark _)) (pe_tup (pa_cons (pv 2) pa_nil)) (pe_ix ix_seq (pv 1) (pv 5) (fun _ _ => rfl))))
  (pss_one (ps_asg (pe_tss9 rfl (by rfl) T.f_tuple (by rfl) T.f_sorted (by rfl) T.f_set (pe_op op_add9 (pe_ix ix_seq (pv 1) (pv 4) (fun _ _ => rfl)) (pv 6))) (pg_sub (pv 1) (pv 4) set_list)))))
  (pss_one (ps_ret (pv 1)))))

abbrev N_split_pairs : List Str := ["kind", "history", "states", "known", "found", "one", "other"]
theorem sc_split_pairs : FnScope N_split_pairs ["kind", "history"] (defScope s_split_pairs) := ⟨rfl, rfl, rfl, by decide +kernel, rfl, by decide +kernel, by decide +kernel⟩
def t_split_pairs (K : PySem.W.Frag) : TS :=
  (tSeq (tDrop (tCall (sp_need_history K) [] E0 (tCons (tVar 0) (tCons (tVar 1) tNil))))
  (tSeq (tAsg (tTup (tCons (tOp (rIx K) (tCall (sp_stages_of K) [] E0 (tCons (tVar 0) (tCons (tVar 1) tNil))) (tUn rNeg9 (tC (.int 1)))) (tCons (tCall (sp_heard_of K) [] E0 (tCons (tVar 1) tNil)) tNil))) (gTup K 2 (gCons (gName 2) (gCons (gName 3) gNil))))
  (tSeq (tAsg (tLst tNil) (gName 4))
  (tSeq (tFor (iRng1 (tCons (tOp (rIx K) (tVar 1) (tC (.int 0))) tNil)) (gName 5) (tDrop (tBM K "list" rExtend (tVar 4) (tCons (tLc (iRng2 (tCons (tOp (rAdd9 K) (tVar 5) (tC (.int 1))) (tCons (tOp (rIx K) (tVar 1) (tC (.int 0))) tNil))) (gName 6) (tAnd (tTest (tOp (rEq9 K) (tOp (rIx K) (tVar 3) (tVar 5)) (tOp (rIx K) (tVar 3) (tVar 6)))) (tTest (tOp (rNe9 K) (tOp (rIx K) (tVar 2) (tVar 5)) (tOp (rIx K) (tVar 2) (tVar 6))))) (tTup (tCons (tVar 5) (tCons (tVar 6) tNil))) [6]) tNil))))
  (tRet (tCB (rTup9 K) (tCons (tVar 4) tNil)))))))
theorem pd_split_pairs {P : Program} {w : World} {K : PySem.W.Frag} {mg : Str → Option Value} {base : Heap} (T : Txt K mg) (G_need_history : Okf P w K mg base CX0 5 (He.ga K "need_history") ["kind", "history"] (sp_need_history K)) (G_heard_of : Okf P w K mg base CX0 1 (He.ga K "heard_of") ["history"] (sp_heard_of K)) (G_stages_of : Okf P w K mg base CX0 2 (He.ga K "stages_of") ["kind", "history"] (sp_stages_of K)) {cdv : Value} {A : Around} {outer : List Env} {s : Shared} {H : Hp} {E : XK}
    (hr : Room 5 (A.deeper (envOfC "split_pairs" (defScope s_split_pairs) s.heap.objs.size (He.ga K "split_pairs") cdv))) :
    PSs (cxOf CX0 P w K mg base N_split_pairs "split_pairs" (defScope s_split_pairs) (He.ga K "split_pairs") cdv A outer s H E).nox (defBody s_split_pairs) (t_split_pairs K) :=
  (pss_cons (ps_expr (pe_callF G_need_history (hr.mono (by decide)) (by rfl) T.g_need_history pass0 (pa_cons (pv 0) (pa_cons (pv 1) pa_nil))))
  (pss_cons (ps_asg (pe_tup (pa_cons (pe_ix ix_seq (pe_callF G_stages_of (hr.mono (by decide)) (by rfl) T.g_stages_of pass0 (pa_cons (pv 0) (pa_cons (pv 1) pa_nil))) (pe_un un_neg pe_int) (fun _ _ => rfl)) (pa_cons (pe_callF G_heard_of (hr.mono (by decide)) (by rfl) T.g_heard_of pass0 (pa_cons (pv 1) pa_nil)) pa_nil))) (pg_tup rfl (pgs_cons (pg_name (i := 2) sc_split_pairs.nd rfl (Or.inr rfl)) (pgs_cons (pg_name (i := 3) sc_split_pairs.nd rfl (Or.inr rfl)) pgs_nil))))
  (pss_cons (ps_set (i := 4) sc_split_pairs.nd rfl (Or.inl rfl) (pe_lst pa_nil))
  (pss_cons (ps_for PassesOwn.never rfl (pi_range1 (by rfl) T.f_range (pa_cons (pe_ix ix_seq (pv 1) pe_int (fun _ _ => rfl)) pa_nil)) (pg_name (i := 5) sc_split_pairs.nd rfl (Or.inr rfl)) (pss_one (ps_expr (pe_bm PySem.F.plainAttrs_list PySem.F.slot_list_extend PySem.F.type_list_extend mt_extend (pv 4) (pa_cons (pe_lc (own := [("other", 6)]) (g := (gName 6)) rfl sc_split_pairs.nd (pi_range2 (by rfl) T.f_range (pa_cons (pe_op op_add9 (pv 5) pe_int) (pa_cons (pe_ix ix_seq (pv 1) pe_int (fun _ _ => rfl)) pa_nil))) (blkOk_by (own := [("other", 6)]) (N := ["kind", "history", "states", "known", "found", "one", "other"]) (sc := defScope s_split_pairs) (by decide +kernel)) (fun _ _ _ _ _ => (pg_name (i := 6) sc_split_pairs.nd rfl (Or.inl rfl))) (fun _ _ _ _ _ => (pts_one (PW.pt (pw_and (pt_cmpR (op_eq9 hr.units) (pe_ix ix_seq (pv 3) (pv 5) (fun _ _ => rfl)) (pe_ix ix_seq (pv 3) (pv 6) (fun _ _ => rfl)) (nomark _)) (pw_and1 (pt_cmpR (op_ne9 hr.units) (pe_ix ix_seq (pv 2) (pv 5) (fun _ _ => rfl)) (pe_ix ix_seq (pv 2) (pv 6) (fun _ _ => rfl)) (nomark _))))))) (fun _ _ _ _ _ => (pe_tup (pa_cons (pv 5) (pa_cons (pv 6) pa_nil))))) pa_nil)))))
  (pss_one (ps_ret (pe_callTy call_tup9 (by rfl) T.f_tuple (by decide +kernel) (pa_cons (pv 4) pa_nil))))))))
end W9
set_option maxHeartbeats 4000000
/-! the package's defs: their readings keep their promises -/
namespace W9
open PySem PySem.Spec PyProof.Rows L2
abbrev Dn (Q : VK) : Ends := { nx := fun _ H' => Q .non H', rt := Q }
theorem isw_lt {x n : Nat} (h : x < n) : db (decide ((0 : Int) ≤ (x : Int)) && decide ((x : Int) ≤ (n : Int) - 1)) = db true := by
  rw [decide_eq_true (by omega), decide_eq_true (by omega)] <;> rfl
theorem isw_le {x n : Nat} (h : x ≤ n) : db (decide ((0 : Int) ≤ (x : Int)) && decide ((x : Int) ≤ (n : Int))) = db true := by
  rw [decide_eq_true (by omega), decide_eq_true (by omega)] <;> rfl
variable {K : PySem.W.Frag} {vs : List V} {H : Hp} {Q : VK} {E : XK}
theorem rc_isiI {P : Hp → Prop} {i : Int} {T : String} {b : Bool} (hb : kitB "int" T = some b) : RC (rIsi K) P [di i, .v (.ty T)] (db b) := rc_isi rfl hb
theorem rc_isiS {P : Hp → Prop} {i : Str} {T : String} {b : Bool} (hb : kitB "str" T = some b) : RC (rIsi K) P [ds i, .v (.ty T)] (db b) := rc_isi rfl hb
theorem rc_isiT {P : Hp → Prop} {l : List Dt} {T : String} {b : Bool} (hb : kitB "tuple" T = some b) : RC (rIsi K) P [.tup l, .v (.ty T)] (db b) := fun H xs p h Q q => by
  cases h with
  | cons h r =>
    cases r with
    | cons h2 r =>
      cases r
      have e2 := h2.v_eq
      subst e2
      obtain ⟨a, ys, rfl, ha, hy⟩ := h.tup_of
      exact ⟨_, _, _, _, b, rfl, .ty T, .base (.tup ha), kit_ty hb, q _ H (Same.refl H) (.leaf _)⟩
theorem rd_is_whole (h : sp_is_whole K vs H Q E) : t_is_whole K (Dn Q) (L2.start N_is_whole vs) H := by
  obtain ⟨l, d, hl, ⟨i, a, b, rfl, rfl⟩, q⟩ := h
  refine s_ret (P := fun _ => True) ?_ (sl_start hl (Nat.le_of_ble_eq_true rfl)) trivial q
  refine Pu.is (pu_andV (b := true) (c := (!false) && (decide (a ≤ i) && decide (i ≤ b))) (pu_cb (pa_c (pu_var rfl) (pa_c pu_c pa_n)) (rc_isiI (by decide +kernel))) fun _ =>
    pu_andV (pu_notV (b := false) (pu_cb (pa_c (pu_var rfl) (pa_c pu_c pa_n)) (rc_isiI (by decide +kernel)))) fun _ =>
      pu_chain (pu_var rfl) (pu_var rfl) rv_i0 (fun _ => pu_var rfl) (fun _ => rv_i0)) ?_
  rfl
theorem giv_true (n : Nat) : giv n (fun _ => true) (fun _ => db true) = (List.replicate n true).map db := by
  rw [giv_all]
  rw [List.map_replicate, List.map_const', List.length_range]
theorem row_get {r : List Nat} {k : Nat} {d : Dt} (h : (r.map dn)[k]? = some d) : ∃ x, r[k]? = some x ∧ x ∈ r ∧ d = dn x := by
  rw [List.getElem?_map] at h
  cases q : r[k]? with
  | none => rw [q] at h; cases h
  | some x =>
    rw [q] at h
    cases h
    exact ⟨x, rfl, List.mem_of_getElem? q, rfl⟩
theorem rows_get {r : List (List Nat)} {k : Nat} {d : Dt} (h : (r.map rowD)[k]? = some d) : ∃ x, r[k]? = some x ∧ x ∈ r ∧ d = rowD x := by
  rw [List.getElem?_map] at h
  cases q : r[k]? with
  | none => rw [q] at h; cases h
  | some x =>
    rw [q] at h
    cases h
    exact ⟨x, rfl, List.mem_of_getElem? q, rfl⟩
theorem rd_are_states (h : sp_are_states K vs H Q E) : t_are_states K (Dn Q) (L2.start N_are_states vs) H := by
  obtain ⟨l, d, hl, ⟨r, n, rfl, ⟨h1, h2⟩, hn, rfl⟩, q⟩ := h
  refine s_ret (P := fun _ => True) ?_ (sl_start hl (Nat.le_of_ble_eq_true rfl)) trivial q
  refine Pu.is (pu_andV (b := true) (c := decide (((r.map dn).length : Int) = (n : Int)) && (List.replicate (r.map dn).length true).all id) (pu_cb (pa_c (pu_var rfl) (pa_c pu_c pa_n)) (rc_isiT (by decide +kernel))) fun _ =>
    pu_andV (pu_op (pu_cb (pa_c (pu_var rfl) pa_n) rc_lenT) (pu_var rfl) rv_eqI) fun _ => pu_all (PuL.is (pl_lcT (l := r.map dn) (fun _ => true) (fun _ => db true) (by decide) (pu_var rfl) (by rw [List.length_map]; omega) (fun k d _ => pt_yes) (fun k d hd _ => ?_)) (giv_true _))) ?_
  · obtain ⟨x, _, hx, rfl⟩ := row_get hd
    exact pu_call (pa_c (pu_var rfl) (pa_c pu_c (pa_c (pu_op (pu_var rfl) pu_c rv_i0) pa_n))) ⟨_, _, _, rfl, (isw_lt (h2 x hx)).symm⟩
  · rw [List.length_map, h1]
    simp

section
variable {Γ : Cxt} {P : Hp → Prop} {te tl : TE} {d : Dt} {l : List Dt} {i : Int} {D : Ends} {σ : L2.St} {g : TG} {tu tw : TS} {t : TT} {tr : TA}
theorem pu_ix [Stb P] (h : Pu te Γ P (.tup l)) (hi : atI l i = some d) : Pu (tOp (rIx K) te (tC (.int i))) Γ P d := pu_op h pu_c (rv_ixT hi)
/-- over a new list with nothing in it -/
theorem s_forNil (h : PuL tl Γ P []) (s : Sl σ H Γ) (p : P H) (k : ∀ H', Ex H H' → D.nx σ H') : tFor (iList K tl) g tu D σ H :=
  h σ H s p _ fun a H1 ha e1 h1 => by
    obtain ⟨xs, h2, h3⟩ := h1
    cases h3
    refine ⟨a, rfl, ⟨[], SqL.of h2⟩, for_list (xs := []) (fun i σ' H' => σ' = σ ∧ H' = H1) ⟨rfl, rfl⟩ (fun i σ' H' _ q => ?_) (fun i x σ' H' hx _ => ?_) fun σ' H' q => ?_⟩
    · rw [q.2]
      exact SqL.of h2
    · cases hx
    · rw [q.1, q.2]
      exact k H1 e1
/-- a test that fails ahead of the rest -/
theorem s_chk (h : PuT t Γ P false) (s : Sl σ H Γ) (p : P H) (k : ∀ H', Ex H H' → tw D σ H') : tSeq (tIfS t tu tNext) tw D σ H := s_seq (s_ifF h s p fun H' e => s_next (k H' e))
theorem pt_isT (h : Pu te Γ P (.tup l)) [Stb P] : PuT (tNot (tB (tCB (rIsi K) (tCons te (tCons (tC (.ty "tuple")) tNil))))) Γ P false := pt_nt (b := true) (pt_B (pu_cb (pa_c h (pa_c pu_c pa_n)) (rc_isiT (by decide +kernel))))
theorem pt_len [Stb P] {n : Int} (h : Pu te Γ P (.tup l)) (hn : (l.length : Int) = n) : PuT (tTest (tOp (rNe9 K) (tCB (rLen9 K) (tCons te tNil)) (tC (.int n)))) Γ P false := pt_test (Pu.is (pu_op (pu_cb (pa_c h pa_n) rc_lenT) pu_c rv_neI) (by rw [decide_eq_true hn]; rfl))
theorem pt_lenV [Stb P] {n : Int} (h : Pu te Γ P (.tup l)) (h' : Pu tl Γ P (di n)) (hn : (l.length : Int) = n) : PuT (tTest (tOp (rNe9 K) (tCB (rLen9 K) (tCons te tNil)) tl)) Γ P false := pt_test (Pu.is (pu_op (pu_cb (pa_c h pa_n) rc_lenT) h' rv_neI) (by rw [decide_eq_true hn]; rfl))
theorem pt_or0 [Stb P] {u : TT} (h : PuT t Γ P false) (h' : PuT u Γ P false) : PuT (tOr t u) Γ P false := pt_or (c := false) h fun _ => h'
/-- is_whole of a number below another -/
theorem pu_isw [Stb P] {x n : Nat} (h : Pu te Γ P (dn x)) (h' : Pu tl Γ P (dn n)) (hx : x < n) : Pu (tCall (sp_is_whole K) [] E (tCons te (tCons (tC (.int 0)) (tCons (tOp rSub9 tl (tC (.int 1))) tNil)))) Γ P (db true) :=
  pu_call (pa_c h (pa_c pu_c (pa_c (pu_op h' pu_c rv_i0) pa_n))) ⟨_, _, _, rfl, (isw_lt hx).symm⟩
theorem pt_isw [Stb P] {x n : Nat} (h : Pu te Γ P (dn x)) (h' : Pu tl Γ P (dn n)) (hx : x < n) : PuT (tNot (tB (tCall (sp_is_whole K) [] E (tCons te (tCons (tC (.int 0)) (tCons (tOp rSub9 tl (tC (.int 1))) tNil)))))) Γ P false :=
  pt_nt (b := true) (pt_B (pu_isw h h' hx))
theorem cut1_nil {lo hi : Option Int} : cutD ([] : List Dt) lo hi = [] := by
  unfold cutD
  simp
end
theorem rd_wrong_in_reads (h : sp_wrong_in_reads K vs H Q E) : t_wrong_in_reads K (Dn Q) (L2.start N_wrong_in_reads vs) H := by
  obtain ⟨l, m, hl, ⟨r, rfl, h1, h8, h9, rfl⟩, q⟩ := h
  have s := sl_start (N := N_wrong_in_reads) hl (Nat.le_of_ble_eq_true rfl)
  refine s_chk (P := fun _ => True) (pt_or0 (pt_isT (pu_var rfl)) (pt_nt (b := true) (pt_test (Pu.is (pu_chain pu_c (pu_cb (pa_c (pu_var rfl) pa_n) rc_lenT) rv_i0 (fun _ => pu_c) (fun _ => rv_i0)) ?_)))) s trivial fun H1 e1 => ?_
  · rw [List.length_map, decide_eq_true (by omega), decide_eq_true (by omega)] <;> rfl
  refine s_retL (P := fun _ => True) (PuL.is (pl_slL (pl_lcE (l := r.map dn) (fun _ => false) (fun _ => db true) (by decide) (by decide) (pa_c (pu_var rfl) pa_n) (by rw [List.length_map]; omega) (fun k d hd => ?_) (fun k d hd z => nomatch z)) po_no (po_so pu_c)) ?_) (s.ext e1.t) trivial fun a H2 ha e2 h2 => q a H2 (e1.free ha) (e1.trans e2) h2
  · obtain ⟨x, _, hx, rfl⟩ := row_get hd
    exact pt_nt (b := true) (pt_B (pu_call (pa_c (pu_var rfl) (pa_c pu_c (pa_c pu_c pa_n))) ⟨_, _, _, rfl, (isw_le (h9 x hx)).symm⟩))
  · rw [giv_none fun _ _ => rfl, cut1_nil]
theorem rd_wrong_in_updates (h : sp_wrong_in_updates K vs H Q E) : t_wrong_in_updates K (Dn Q) (L2.start N_wrong_in_updates vs) H := by
  obtain ⟨l, m, hl, ⟨u, n, rfl, h1, h4, hn, hr, rfl⟩, q⟩ := h
  have s := sl_start (N := N_wrong_in_updates) hl (Nat.le_of_ble_eq_true rfl)
  refine s_chk (P := fun _ => True) (pt_or0 (pt_isT (pu_var rfl)) (pt_nt (b := true) (pt_test (Pu.is (pu_chain pu_c (pu_cb (pa_c (pu_var rfl) pa_n) rc_lenT) rv_i0 (fun _ => pu_c) (fun _ => rv_i0)) ?_)))) s trivial fun H1 e1 => ?_
  · rw [List.length_map, decide_eq_true (by omega), decide_eq_true (by omega)] <;> rfl
  refine s_retL (P := fun _ => True) (PuL.is (pl_slL (pl_lcE (l := u.map rowD) (fun _ => false) (fun _ => db true) (by decide) (by decide) (pa_c (pu_var rfl) pa_n) (by rw [List.length_map]; omega) (fun k d hd => ?_) (fun k d hd z => nomatch z)) po_no (po_so pu_c)) ?_) (s.ext e1.t) trivial fun a H2 ha e2 h2 => q a H2 (e1.free ha) (e1.trans e2) h2
  · obtain ⟨x, _, hx, rfl⟩ := rows_get hd
    exact pt_nt (b := true) (pt_B (pu_call (pa_c (pu_var rfl) (pa_c (pu_var rfl) pa_n)) ⟨_, _, rfl, hr x hx, hn, rfl⟩))
  · rw [giv_none fun _ _ => rfl, cut1_nil]
theorem rd_wrong_in_merge (h : sp_wrong_in_merge K vs H Q E) : t_wrong_in_merge K (Dn Q) (L2.start N_wrong_in_merge vs) H := by
  obtain ⟨l, m, hl, ⟨u, n, rfl, h1, hn, hr, rfl⟩, q⟩ := h
  have s := sl_start (N := N_wrong_in_merge) hl (Nat.le_of_ble_eq_true rfl)
  refine s_chk (P := fun _ => True) (pt_or0 (pt_isT (pu_var rfl)) (pt_lenV (pu_var rfl) (pu_var rfl) (by rw [List.length_map, h1]))) s trivial fun H1 e1 => ?_
  refine s_retL (P := fun _ => True) (PuL.is (pl_slL (pl_lcE (l := u.map rowD) (fun _ => false) (fun _ => db true) (by decide) (by decide) (pa_c (pu_var rfl) pa_n) (by rw [List.length_map]; omega) (fun k d hd => ?_) (fun k d hd z => nomatch z)) po_no (po_so pu_c)) ?_) (s.ext e1.t) trivial fun a H2 ha e2 h2 => q a H2 (e1.free ha) (e1.trans e2) h2
  · obtain ⟨x, _, hx, rfl⟩ := rows_get hd
    exact pt_nt (b := true) (pt_B (pu_call (pa_c (pu_var rfl) (pa_c (pu_var rfl) pa_n)) ⟨_, _, rfl, hr x hx, hn, rfl⟩))
  · rw [giv_none fun _ _ => rfl, cut1_nil]
theorem rd_need_kind (h : sp_need_kind K vs H Q E) : t_need_kind K (Dn Q) (L2.start N_need_kind vs) H := by
  obtain ⟨l, d, hl, ⟨k, ok, rfl, rfl⟩, q⟩ := h
  have s := sl_start (N := N_need_kind) hl (Nat.le_of_ble_eq_true rfl)
  refine s_chk (P := fun _ => True) (pt_or0 (pt_isT (pu_var rfl)) (pt_len (pu_var rfl) rfl)) s trivial fun H1 e1 => ?_
  refine s_seq (s_forNil (P := fun _ => True) (pl_call (pa_c (pu_ix (pu_var rfl) rfl) pa_n) ⟨k.rd, rfl, ok.n1, ok.n8, ok.rd9, rfl⟩) (s.ext e1.t) trivial fun H2 e2 => ?_)
  have e2' := e1.trans e2
  refine s_seq (s_asg (P := fun _ => True) (pu_cb (pa_c (pu_ix (l := _) (pu_var rfl) rfl) pa_n) (rc_lenT (l := k.rd.map dn))) (s.ext (Ex.t e2')) trivial fun σ3 H3 e3 s3 => ?_)
  rw [List.length_map] at s3
  have e3' := e2'.trans e3
  refine s_chk (P := fun _ => True) (pt_isw (pu_ix (pu_var rfl) rfl) (pu_var rfl) ok.st) s3 trivial fun H4 e4 => ?_
  refine s_seq (s_forNil (P := fun _ => True) (pl_call (pa_c (pu_ix (pu_var rfl) rfl) (pa_c (pu_var rfl) pa_n)) ⟨k.ups, k.rd.length, rfl, ok.u1, ok.u4, ok.n8, ok.ups, rfl⟩) (s3.ext e4.t) trivial fun H5 e5 => ?_)
  have e5' := e4.trans e5
  refine s_seq (s_forNil (P := fun _ => True) (pl_call (pa_c (pu_ix (pu_var rfl) rfl) (pa_c (pu_var rfl) pa_n)) ⟨k.mg, k.rd.length, rfl, ok.m1, ok.n8, ok.mg, rfl⟩) (s3.ext (Ex.t e5')) trivial fun H6 e6 => ?_)
  have e6' := e5'.trans e6
  exact s_ret (P := fun _ => True) (pu_var rfl) (s3.ext (Ex.t e6')) trivial fun x H7 e7 h7 => q x H7 ((e3'.trans e6').trans e7) h7

theorem getD_get {α : Type} {l : List α} {i : Nat} (h : i < l.length) (z : α) : l[i]? = some (l.getD i z) := by simp [List.getD, h]
theorem atI_map {α : Type} {l : List α} {f : α → Dt} {i : Nat} (h : i < l.length) (z : α) : atI (l.map f) (i : Int) = some (f (l.getD i z)) := by
  refine atI_n ?_
  rw [List.getElem?_map, getD_get h z]
  rfl
theorem rd_merged_of (h : sp_merged_of K vs H Q E) : t_merged_of K (Dn Q) (L2.start N_merged_of vs) H := by
  obtain ⟨l, d, hl, ⟨k, a, b, ok, ha, hb, rfl, rfl⟩, q⟩ := h
  have hm : a < k.mg.length := by rw [ok.m1]; exact ha
  have hr : RowOk k.rd.length (k.mg.getD a []) := by
    have e := getD_get hm ([] : List Nat)
    exact ok.mg _ (List.mem_of_getElem? e)
  refine s_ret (P := fun _ => True) ?_ (sl_start hl (Nat.le_of_ble_eq_true rfl)) trivial q
  exact pu_op (pu_op (pu_ix (pu_var rfl) rfl) (pu_var rfl) (rv_ixT (atI_map hm []))) (pu_var rfl) (rv_ixT (atI_map (by rw [hr.1]; exact hb) 0))
theorem rd_is_step (h : sp_is_step K vs H Q E) : t_is_step K (Dn Q) (L2.start N_is_step vs) H := by
  obtain ⟨l, d, hl, ⟨k, m, st, ok, rfl, rfl⟩, q⟩ := h
  have s := sl_start (N := N_is_step) hl (Nat.le_of_ble_eq_true rfl)
  cases st with
  | act c u =>
    refine s_chk (P := fun _ => True) (pt_or0 (pt_isT (pu_var rfl)) (pt_or0 (pt_len (pu_var rfl) rfl) (pt_nt (b := true) (pt_B (pu_cb (pa_c (pu_ix (pu_var rfl) rfl) (pa_c pu_c pa_n)) (rc_isiS (by decide +kernel))))))) s trivial fun H1 e1 => ?_
    refine s_chk (P := fun _ => True) (pt_isw (pu_ix (pu_var rfl) rfl) (pu_var rfl) ok.1) (s.ext e1.t) trivial fun H2 e2 => ?_
    have e2' := e1.trans e2
    refine s_seq (s_ifT (P := fun _ => True) (pt_test (Pu.is (pu_op (pu_ix (pu_var rfl) rfl) pu_c rv_eqS) (by rw [decide_eq_true rfl]))) (s.ext (Ex.t e2')) trivial fun H3 e3 => ?_)
    have e3' := e2'.trans e3
    exact s_ret (P := fun _ => True) (pu_isw (pu_ix (pu_var rfl) rfl) (Pu.is (pu_cb (pa_c (pu_ix (pu_var rfl) rfl) pa_n) (rc_lenT (l := k.ups.map rowD))) (by rw [List.length_map])) ok.2) (s.ext (Ex.t e3')) trivial fun x H4 e4 h4 => q x H4 (e3'.trans e4) h4
  | hear c o =>
    refine s_chk (P := fun _ => True) (pt_or0 (pt_isT (pu_var rfl)) (pt_or0 (pt_len (pu_var rfl) rfl) (pt_nt (b := true) (pt_B (pu_cb (pa_c (pu_ix (pu_var rfl) rfl) (pa_c pu_c pa_n)) (rc_isiS (by decide +kernel))))))) s trivial fun H1 e1 => ?_
    refine s_chk (P := fun _ => True) (pt_isw (pu_ix (pu_var rfl) rfl) (pu_var rfl) ok.1) (s.ext e1.t) trivial fun H2 e2 => ?_
    have e2' := e1.trans e2
    refine s_seq (s_ifF (P := fun _ => True) (pt_test (Pu.is (pu_op (pu_ix (pu_var rfl) rfl) pu_c rv_eqS) (by rw [decide_eq_false (by decide)]))) (s.ext (Ex.t e2')) trivial fun H3 e3 => s_next ?_)
    have e3' := e2'.trans e3
    refine s_ret (P := fun _ => True) (Pu.is (pu_andV (b := true) (pu_op (pu_ix (pu_var rfl) rfl) pu_c (by
      have z : RV (rEq9 K) (fun _ => True) (ds "hear") (ds "hear") (db (decide (("hear" : Str) = "hear"))) := rv_eqS
      rw [decide_eq_true rfl] at z
      exact z)) fun _ => pu_andV (b := true) (pu_isw (pu_ix (pu_var rfl) rfl) (pu_var rfl) ok.2.1) fun _ => pu_op (pu_ix (pu_var rfl) rfl) (pu_ix (pu_var rfl) rfl) rv_neI) ?_) (s.ext (Ex.t e3')) trivial fun x H4 e4 h4 => q x H4 (e3'.trans e4) h4
    have hne : ¬ (c : Int) = (o : Int) := fun z => ok.2.2 (by omega)
    rw [decide_eq_false hne]
    rfl
theorem rd_wrong_in_history (h : sp_wrong_in_history K vs H Q E) : t_wrong_in_history K (Dn Q) (L2.start N_wrong_in_history vs) H := by
  obtain ⟨l, m, hl, ⟨k, n, st, ok, rfl, rfl⟩, q⟩ := h
  have s := sl_start (N := N_wrong_in_history) hl (Nat.le_of_ble_eq_true rfl)
  have hlen : (st.map stD).length ≤ 60 := by rw [List.length_map]; have := ok.len; omega
  refine s_chk (P := fun _ => True) (pt_or0 (pt_isT (pu_var rfl)) (pt_len (pu_var rfl) rfl)) s trivial fun H1 e1 => ?_
  refine s_chk (P := fun _ => True) (pt_nt (b := true) (pt_B (pu_call (pa_c (pu_ix (pu_var rfl) rfl) (pa_c pu_c (pa_c pu_c pa_n))) ⟨_, _, _, rfl, ?_⟩))) (s.ext e1.t) trivial fun H2 e2 => ?_
  · have h1 := ok.m1
    have h2 := ok.m16
    rw [decide_eq_true (by omega), decide_eq_true (by omega)] <;> rfl
  have e2' := e1.trans e2
  refine s_chk (P := fun _ => True) (pt_or0 (pt_isT (pu_ix (pu_var rfl) rfl)) (pt_test (Pu.is (pu_op (pu_cb (pa_c (pu_ix (pu_var rfl) rfl) pa_n) (rc_lenT (l := st.map stD))) pu_c rv_i0) (by rw [decide_eq_false (by omega)])))) (s.ext (Ex.t e2')) trivial fun H3 e3 => ?_
  have e3' := e2'.trans e3
  refine s_retL (P := fun _ => True) (PuL.is (pl_slL (pl_lcE (l := st.map stD) (fun _ => false) (fun _ => db true) (by decide) (by decide) (pa_c (pu_ix (pu_var rfl) rfl) pa_n) (by omega) (fun k' d hd => ?_) (fun k d hd z => nomatch z)) po_no (po_so pu_c)) ?_) (s.ext (Ex.t e3')) trivial fun a H4 ha e4 h4 => q a H4 (e3'.free ha) (e3'.trans e4) h4
  · rw [List.getElem?_map] at hd
    cases z : st[k']? with
    | none => rw [z] at hd; cases hd
    | some x =>
      rw [z] at hd
      cases hd
      exact pt_nt (b := true) (pt_B (pu_call (pa_c (pu_var rfl) (pa_c (pu_ix (pu_var rfl) rfl) (pa_c (pu_var rfl) pa_n))) ⟨k, n, x, ok.ok x (List.mem_of_getElem? z), rfl, rfl⟩))
  · rw [giv_none fun _ _ => rfl, cut1_nil]
theorem rd_need_history (h : sp_need_history K vs H Q E) : t_need_history K (Dn Q) (L2.start N_need_history vs) H := by
  obtain ⟨l, d, hl, ⟨k, n, st, ok, rfl, rfl⟩, q⟩ := h
  have s := sl_start (N := N_need_history) hl (Nat.le_of_ble_eq_true rfl)
  refine s_seq (s_drop (P := fun _ => True) (pu_call (pa_c (pu_var rfl) pa_n) ⟨k, ok.kd, rfl, rfl⟩) s trivial fun H1 e1 => ?_)
  refine s_seq (s_forNil (P := fun _ => True) (pl_call (pa_c (pu_var rfl) (pa_c (pu_var rfl) pa_n)) ⟨k, n, st, ok, rfl, rfl⟩) (s.ext e1.t) trivial fun H2 e2 => ?_)
  have e2' := e1.trans e2
  exact s_ret (P := fun _ => True) (pu_var rfl) (s.ext (Ex.t e2')) trivial fun x H3 e3 h3 => q x H3 (e2'.trans e3) h3
end W9
set_option maxHeartbeats 4000000
/-! lists that grow; stages_of, heard_of, split_pairs -/
namespace W9
open PySem PySem.Spec PyProof.Rows L2
variable {K : PySem.W.Frag} {vs : List V} {H : Hp} {Q : VK} {E : XK}
/-- less is told of the slots -/
def LessC : Cxt → Cxt → Prop
  | [], [] => True
  | none :: a, _ :: b => LessC a b
  | some d :: a, some e :: b => d = e ∧ LessC a b
  | _, _ => False
theorem lessC_len : ∀ {a b : Cxt}, LessC a b → a.length = b.length
  | [], [], _ => rfl
  | none :: a, none :: b, h | none :: a, some _ :: b, h => by
    have h' : LessC a b := h
    simp [lessC_len h']
  | some d :: a, some e :: b, h => by simp [lessC_len h.2]
  | some d :: a, none :: b, h => h.elim
  | [], _ :: _, h | none :: _, [], h | some _ :: _, [], h => by cases h
theorem lessC_at : ∀ {a b : Cxt}, LessC a b → ∀ (i : Nat) d, a[i]? = some (some d) → b[i]? = some (some d)
  | [], _, _, i, d, q => by simp at q
  | none :: a, b0 :: b, h, 0, d, q => by simp at q
  | none :: a, none :: b, h, i + 1, d, q | none :: a, some _ :: b, h, i + 1, d, q => by
    have h' : LessC a b := h
    exact lessC_at h' i d (by simpa using q)
  | some d' :: a, some e :: b, h, 0, d, q => by
    simp at q ⊢
    rw [← h.1, q]
  | some d' :: a, some e :: b, h, i + 1, d, q => lessC_at h.2 i d (by simpa using q)
  | some _ :: _, none :: _, h, _, _, _ => h.elim
  | none :: _, [], h, _, _, _ | some _ :: _, [], h, _, _, _ => by cases h
theorem Sl.lessL {σ : L2.St} {Γ Γ' : Cxt} (s : Sl σ H Γ) (h : LessC Γ' Γ) : Sl σ H Γ' := s.less (lessC_len h) (lessC_at h)
/-- all that is tracked but a stays -/
def ExB (a : Addr) (H H' : Hp) : Prop := ∀ b o, b ≠ a → H b = some o → H' b = some o
theorem ExB.of {a : Addr} {H H' : Hp} (e : Ex H H') : ExB a H H' := fun b o _ h => e b o h
theorem ExB.trans {a : Addr} {H H1 H2 : Hp} (x : ExB a H H1) (y : ExB a H1 H2) : ExB a H H2 := fun b o n h => y b o n (x b o n h)
theorem ExB.upd {a : Addr} {H : Hp} {o : HO} : ExB a H (upd H a o) := fun b u n h => by rw [upd_ne n]; exact h
theorem ExB.ex {a : Addr} {H0 H H' : Hp} (x : ExB a H H') (n : H0 a = none) (e : Ex H0 H) : Ex H0 H' := fun b o h => x b o (ne_of_none h n) (e b o h)
theorem tyL {a : Addr} {l : List Dt} (h : LstAt H a l) : tyV K "list" (.ref a) H := by
  obtain ⟨xs, h1, _⟩ := h
  exact .inl ⟨rfl, xs, SqL.of h1⟩
section
variable {Γ : Cxt} {P : Hp → Prop} {te to ti : TE} {d : Dt} {l m : List Dt} {D : Ends} {σ : L2.St} {a : Addr} {n : Nat} {is : List Nat} {x : V}
theorem s_append (ho : Pu to Γ P (dr a)) (he : Pu te Γ P d) [Stb P] (s : Sl σ H Γ) (p : P H) (hL : ∀ H, P H → LstAt H a l) (hz : l.length < 100000) (k : ∀ H', ExT H H' → ExB a H H' → LstAt H' a (l ++ [d]) → D.nx σ H') : tDrop (tBM K "list" rAppend to (tCons te tNil)) D σ H :=
  ho σ H s p _ fun x H1 e1 h1 => by
    cases h1.v_eq
    refine ⟨tyL (hL H1 (Stb.ext e1 p)), he σ H1 (s.ext e1.t) (Stb.ext e1 p) _ fun y H2 e2 h2 => ?_⟩
    obtain ⟨xs, h3, h4⟩ := hL H2 (Stb.ext (e1.trans e2) p)
    refine ⟨a, xs, y, rfl, rfl, h3, sz_lt (by rw [h4.length]; exact hz), k _ ?_ ?_ ⟨_, upd_same, ?_⟩⟩
    · exact (Ex.t (e1.trans e2)).trans (ext_mut h3 fun _ z => nomatch z)
    · exact (ExB.of (e1.trans e2)).trans ExB.upd
    · exact (h4.append (.cons h2 .nil)).ext (ext_mut h3 fun _ z => nomatch z)
/-- xs.extend(new list) -/
theorem s_extend (ho : Pu to Γ P (dr a)) (he : PuL te Γ P m) [Stb P] (s : Sl σ H Γ) (p : P H) (hL : ∀ H, P H → LstAt H a l) (hz : l.length + m.length < 100000) (k : ∀ H', ExT H H' → ExB a H H' → LstAt H' a (l ++ m) → D.nx σ H') : tDrop (tBM K "list" rExtend to (tCons te tNil)) D σ H :=
  ho σ H s p _ fun x H1 e1 h1 => by
    cases h1.v_eq
    refine ⟨tyL (hL H1 (Stb.ext e1 p)), he σ H1 (s.ext e1.t) (Stb.ext e1 p) _ fun y H2 hy e2 h2 => ?_⟩
    obtain ⟨xs, h3, h4⟩ := hL H2 (Stb.ext (e1.trans e2) p)
    obtain ⟨zs, h5, h6⟩ := h2
    refine ⟨a, y, xs, zs, rfl, rfl, h3, h5, sz_n (by rw [h4.length, h6.length]; omega), k _ ?_ ?_ ⟨_, upd_same, ?_⟩⟩
    · exact (Ex.t (e1.trans e2)).trans (ext_mut h3 fun _ z => nomatch z)
    · exact (ExB.of (e1.trans e2)).trans ExB.upd
    · exact (h4.append h6).ext (ext_mut h3 fun _ z => nomatch z)
/-- xs[i] = e -/
theorem s_setL {i : Nat} (he : Pu te Γ P d) (ho : Pu to Γ P (dr a)) (hi : Pu ti Γ P (di (i : Int))) [Stb P] (s : Sl σ H Γ) (p : P H) (hL : ∀ H, P H → LstAt H a l) (hz : i < l.length) (k : ∀ H', ExT H H' → ExB a H H' → LstAt H' a (l.set i d) → D.nx σ H') : tAsg te (gSub to ti rSetL) D σ H :=
  he σ H s p _ fun x H1 e1 h1 => ho σ H1 (s.ext e1.t) (Stb.ext e1 p) _ fun y H2 e2 h2 => hi σ H2 (s.ext (Ex.t (e1.trans e2))) (Stb.ext (e1.trans e2) p) _ fun z H3 e3 h3 => by
    have e0 := (e1.trans e2).trans e3
    obtain ⟨xs, h4, h5⟩ := hL H3 (Stb.ext e0 p)
    refine ⟨a, xs, (i : Int), i, h2.v_eq, h3.v_eq, h4, ?_, k _ ?_ ?_ ⟨_, upd_same, ?_⟩⟩
    · unfold ixN
      rw [if_pos (by omega), if_pos (by rw [h5.length]; omega)]
      simp
    · exact (Ex.t e0).trans (ext_mut h4 fun _ z => nomatch z)
    · exact (ExB.of e0).trans ExB.upd
    · exact (h5.set i (h1.ext (Ex.t (e2.trans e3)))).ext (ext_mut h4 fun _ z => nomatch z)
/-- a tuple taken apart -/
theorem g_tup {Qn : L2.St → Hp → Prop} (h : TD H x (.tup l)) (s : Sl σ H Γ) (hl : is.length = l.length) (hn : l.length = n) (k : ∀ σ', Sl σ' H (setC Γ is l) → Qn σ' H) : gTup K n (gSl is) x σ H Qn := by
  obtain ⟨a, xs, rfl, ha, hxs⟩ := h.tup_of
  exact ⟨a, xs, rfl, SqT.of ha, by rw [hxs.length, hn], g_slots hxs s hl k⟩
end
theorem set_cat {α : Type} {l : List α} {c : Nat} (h : c < l.length) (v : α) : (l.take c ++ [v]) ++ l.drop (c + 1) = l.set c v := by
  rw [List.set_eq_take_append_cons_drop, if_pos h, List.append_assoc]
  rfl
theorem rd_stages_of (h : sp_stages_of K vs H Q E) : t_stages_of K (Dn Q) (L2.start N_stages_of vs) H := by
  obtain ⟨l, m, hl, ⟨k, n, st, ok, rfl, rfl⟩, q⟩ := h
  have s := sl_start (N := N_stages_of) hl (Nat.le_of_ble_eq_true rfl)
  have m1 := ok.m1
  have m16 := ok.m16
  have rep : (List.replicate n (dn k.st)) = (runS k n []).map dn := by
    show _ = (List.replicate n k.st).map dn
    rw [List.map_replicate]
  refine s_seq (s_asg (P := fun _ => True) (Pu.is (pu_op (pu_tup (pa_c (pu_ix (pu_var rfl) rfl) pa_n) (by simp)) (pu_ix (pu_var rfl) rfl) (rv_rep1 m1 (by omega))) (congrArg Dt.tup rep)) s trivial fun σ1 H1 e1 s1 => ?_)
  refine s_seq (s_asgL (P := fun _ => True) (pl_lst (pa_c (pu_var rfl) pa_n) (by simp)) s1 trivial fun a σ2 H2 ha e2 hL s2 => ?_)
  have e2' := e1.trans e2
  have ha0 : H a = none := e1.free ha
  have hst : (st.map stD).length = st.length := List.length_map _
  let G : Nat → Cxt := fun i => [some (kdD k), some (hisD n st), some (rowD (runS k n (st.take i))), some (dr a), none, none, none, none]
  let J : Nat → L2.St → Hp → Prop := fun i σ' H' => Sl σ' H' (G i) ∧ Ex H H' ∧ LstAt H' a ((List.range (i + 1)).map fun j => rowD (runS k n (st.take j)))
  refine s_seq (s_forT (P := fun _ => True) (l := st.map stD) (g := gTup K 3 (gSl [4, 5, 6])) (pu_ix (pu_var rfl) rfl) s2 trivial J ?_ ?_ ?_)
  · intro H3 e3
    refine ⟨(s2.ext e3.t).lessL ⟨rfl, rfl, rfl, rfl, trivial⟩, e2'.trans e3, hL.ext e3⟩
  · intro H3 e3 i d σ' H' hd hJ x3 x hx
    obtain ⟨sJ, eJ, lJ⟩ := hJ
    rw [List.getElem?_map] at hd
    cases z : st[i]? with
    | none => rw [z] at hd; cases hd
    | some p =>
      rw [z] at hd
      cases hd
      have hi : i < st.length := (List.getElem?_eq_some_iff.mp z).1
      have okp := ok.ok p (List.mem_of_getElem? z)
      have etk : st.take (i + 1) = st.take i ++ [p] := by
        rw [List.take_succ, z]
        rfl
      have lenR : (runS k n (st.take i)).length = n := runS_len k n _
      -- the rest of a turn, once the new state is known
      have fin : ∀ (c v : Nat) (d4 d6 : Dt) (σ5 : L2.St) (H5 : Hp), c < n → turnS k (runS k n (st.take i)) p = (runS k n (st.take i)).set c v → Ex H' H5 →
          Sl σ5 H5 [some (kdD k), some (hisD n st), some (rowD (runS k n (st.take i))), some (dr a), some d4, some (dn c), some d6, some (dn v)] →
          tSeq (tAsg (tOp (rAdd9 K) (tOp (rAdd9 K) (tSl (rSl9 K) (tVar 2) tNoPart (tPart (tVar 5))) (tTup (tCons (tVar 7) tNil))) (tSl (rSl9 K) (tVar 2) (tPart (tOp (rAdd9 K) (tVar 5) (tC (.int 1)))) tNoPart)) (gName 2)) (tDrop (tBM K "list" rAppend (tVar 3) (tCons (tVar 2) tNil)))
            { nx := fun σ3 H3' => J (i + 1) σ3 H3' ∧ ExT H3 H3', ct := fun σ3 H3' => J (i + 1) σ3 H3' ∧ ExT H3 H3', bk := fun _ _ => True, rt := Q } σ5 H5 := by
        intro c v d4 d6 σ5 H5 hc ht e5 s5
        have hcl : c < ((runS k n (st.take i)).map dn).length := by rw [List.length_map, lenR]; exact hc
        have hz8 : ((runS k n (st.take i)).map dn).length = n := by rw [List.length_map, lenR]
        have ec : (c : Int) + 1 = ((c + 1 : Nat) : Int) := by omega
        refine s_seq (s_asg (P := fun _ => True) (d := rowD (runS k n (st.take (i + 1)))) (Pu.is (pu_op (pu_op (pu_sl (pu_var rfl) po_no (po_so (pu_var rfl))) (pu_tup (pa_c (pu_var rfl) pa_n) (by simp)) (rv_cat (by rw [cutD_to, List.length_take]; simp; omega)))
          (pu_sl (pu_var rfl) (po_so (Pu.is (pu_op (pu_var rfl) pu_c rv_add) (congrArg di ec))) po_no) (rv_cat (by rw [cutD_to, cutD_from, List.length_append, List.length_take, List.length_drop]; simp; omega))) ?_) s5 trivial fun σ6 H6 e6 s6 => ?_)
        · rw [cutD_to, cutD_from, set_cat hcl, etk, runS_snoc, ht]
          show Dt.tup _ = Dt.tup _
          rw [List.map_set]
        have l6 : LstAt H6 a ((List.range (i + 1)).map fun j => rowD (runS k n (st.take j))) := lJ.ext (e5.trans e6)
        refine s_append (P := fun H' => LstAt H' a ((List.range (i + 1)).map fun j => rowD (runS k n (st.take j)))) (pu_var rfl) (pu_var rfl) s6 l6 (fun _ h => h) (by rw [List.length_map, List.length_range]; have := ok.len; omega) fun H7 x7 b7 l7 => ?_
        refine ⟨⟨(s6.ext x7).lessL ⟨rfl, rfl, rfl, rfl, trivial⟩, b7.ex ha0 (eJ.trans (e5.trans e6)), ?_⟩, x3.trans ((Ex.t (e5.trans e6)).trans x7)⟩
        rw [List.range_succ, List.map_append]
        exact l7
      cases p with
      | act c u =>
        refine g_tup (l := [ds "do", dn c, dn u]) hx sJ rfl rfl fun σ4 s4 => ?_
        refine s_seq (s_asg (P := fun _ => True) (d := dn (k.up u ((runS k n (st.take i)).getD c 0))) (pu_ifT (pt_test (Pu.is (pu_op (pu_var rfl) pu_c rv_eqS) (by rw [decide_eq_true rfl]))) ?_) s4 trivial fun σ5 H5 e5 s5 => ?_)
        · have hs : (runS k n (st.take i)).getD c 0 < k.rd.length := by
            have e := getD_get (l := runS k n (st.take i)) (by rw [lenR]; exact okp.1) 0
            exact runS_lt ok.kd _ (fun s hs => ok.ok s (List.mem_of_mem_take hs)) _ (List.mem_of_getElem? e)
          have hr := ok.kd.ups _ (List.mem_of_getElem? (getD_get okp.2 ([] : List Nat)))
          exact pu_op (pu_op (pu_ix (pu_var rfl) rfl) (pu_var rfl) (rv_ixT (atI_map okp.2 []))) (pu_op (pu_var rfl) (pu_var rfl) (rv_ixT (atI_map (by rw [lenR]; exact okp.1) 0))) (rv_ixT (atI_map (by rw [hr.1]; exact hs) 0))
        exact fin c _ _ _ σ5 H5 okp.1 rfl e5 s5
      | hear c o =>
        refine g_tup (l := [ds "hear", dn c, dn o]) hx sJ rfl rfl fun σ4 s4 => ?_
        have lt : ∀ j, j < n → (runS k n (st.take i)).getD j 0 < k.rd.length := fun j hj => by
          have e := getD_get (l := runS k n (st.take i)) (by rw [lenR]; exact hj) 0
          exact runS_lt ok.kd _ (fun s hs => ok.ok s (List.mem_of_mem_take hs)) _ (List.mem_of_getElem? e)
        refine s_seq (s_asg (P := fun _ => True) (d := dn (k.hr ((runS k n (st.take i)).getD c 0) ((runS k n (st.take i)).getD o 0))) (pu_ifF (pt_test (Pu.is (pu_op (pu_var rfl) pu_c rv_eqS) (by rw [decide_eq_false (by decide)]))) ?_) s4 trivial fun σ5 H5 e5 s5 => ?_)
        · exact pu_call (pa_c (pu_var rfl) (pa_c (pu_op (pu_var rfl) (pu_var rfl) (rv_ixT (atI_map (by rw [lenR]; exact okp.1) 0))) (pa_c (pu_op (pu_var rfl) (pu_var rfl) (rv_ixT (atI_map (by rw [lenR]; exact okp.2.1) 0))) pa_n))) ⟨k, _, _, ok.kd, lt c okp.1, lt o okp.2.1, rfl, rfl⟩
        exact fin c _ _ _ σ5 H5 okp.1 rfl e5 s5
  · intro σ' H' hJ
    obtain ⟨sJ, eJ, lJ⟩ := hJ
    refine s_ret (P := fun _ => True) (pu_var rfl) sJ trivial fun x H4 e4 h4 => ?_
    cases h4.v_eq
    rw [hst] at lJ
    exact q a H4 ha0 (eJ.trans e4) (lJ.ext e4)

theorem asc_len : ∀ {a : List Nat} {lo n : Nat}, a.Pairwise (· < ·) → (∀ x ∈ a, lo ≤ x ∧ x < n) → a.length ≤ n - lo
  | [], _, _, _, _ => Nat.zero_le _
  | x :: r, lo, n, h, hb => by
    obtain ⟨h1, h2⟩ := List.pairwise_cons.mp h
    have hx := hb x List.mem_cons_self
    have ih := asc_len (lo := x + 1) (n := n) h2 fun y hy => ⟨h1 y hy, (hb y (List.mem_cons_of_mem _ hy)).2⟩
    rw [List.length_cons]
    omega
theorem Asc.len {n : Nat} {a : List Nat} (h : Asc n a) : a.length ≤ n := asc_len (lo := 0) h.1 fun x hx => ⟨Nat.zero_le _, h.2 x hx⟩
section
variable {Γ : Cxt} {P : Hp → Prop} {te to ti ta tb : TE} {d e : Dt} {l m : List Dt} {D : Ends} {σ : L2.St} {a : Addr} {n i j : Nat} {is : List Nat} {x : V} {k : Int}
/-- [x] * n -/
theorem pl_rep1 [Stb P] (h : PuL te Γ P [d]) (hi : Pu ti Γ P (di (n : Int))) (h2 : n ≤ 1000) : PuL (tOp (rMul9 K) te ti) Γ P (List.replicate n d) := fun σ H s p Q q =>
  h σ H s p _ fun a H1 ha e1 h1 => hi σ H1 (s.ext e1.t) (Stb.ext e1 p) _ fun y H2 e2 hy => by
    obtain ⟨xs, h3, h4⟩ := h1.ext e2
    have l1 := h4.length
    have ef : ∀ n : Nat, (List.replicate n [d]).flatten = List.replicate n d := fun n => by
      induction n with
      | zero => rfl
      | succ n ih => rw [List.replicate_succ, List.flatten_cons, ih, List.replicate_succ]; rfl
    refine .inr ⟨a, (n : Int), xs, rfl, hy.v_eq, h3, by omega, by omega, ?_, fun r hr => q _ _ ((e1.trans e2).free hr) ((e1.trans e2).trans (ex_new hr)) ⟨_, upd_same, ?_⟩⟩
    · rw [l1]
      refine sz_n ?_
      show 1 * (n : Int).toNat ≤ 100000
      omega
    · have z := h4.rep n
      rw [ef] at z
      have e3 : (n : Int).toNat = n := by omega
      rw [e3]
      exact z.ext (ex_new hr).t
/-- an item of a new list -/
theorem pu_ixN [Stb P] (h : PuL te Γ P l) (hi : Pu ti Γ P (di k)) (hk : atI l k = some d) : Pu (tOp (rIx K) te ti) Γ P d := fun σ H s p Q q =>
  h σ H s p _ fun a H1 ha e1 h1 => hi σ H1 (s.ext e1.t) (Stb.ext e1 p) _ fun y H2 e2 hy => by
    obtain ⟨xs, h3, h4⟩ := h1.ext e2
    obtain ⟨z, h5, h6⟩ := atI_td h4 hk
    exact .inl ⟨a, xs, k, z, rfl, hy.v_eq, SqL.of h3, h5, q _ H2 (e1.trans e2) h6⟩
/-- x, y = (.., a new list) -/
theorem s_asgTL (hA : Pu ta Γ P d) (hB : PuL tb Γ P l) [Stb P] (s : Sl σ H Γ) (p : P H) (k : ∀ a σ' H', H a = none → Ex H H' → LstAt H' a l → Sl σ' H' ((Γ.set i (some d)).set j (some (dr a))) → D.nx σ' H') :
    tAsg (tTup (tCons ta (tCons tb tNil))) (gTup K 2 (gSl [i, j])) D σ H :=
  hA σ H s p _ fun x H1 e1 h1 => hB σ H1 (s.ext e1.t) (Stb.ext e1 p) _ fun a H2 ha e2 h2 => by
    refine ⟨sz_n (by show 2 ≤ 100000; omega), fun t ht => ?_⟩
    have e3 : Ex H2 (upd H2 t (.tup [x, .ref a])) := ex_new ht
    have e0 := (e1.trans e2).trans e3
    exact ⟨t, _, rfl, SqT.of upd_same, rfl, g_slots (l := [d, dr a]) (.cons (h1.ext (Ex.t (e2.trans e3))) (.cons (.leaf _) .nil)) (s.ext (Ex.t e0)) rfl fun σ' s' => k a σ' _ (e1.free ha) e0 (h2.ext e3) s'⟩
end
theorem row_nb (l : List Nat) : (rowD l).nb = true := by
  show nbs (l.map dn) = true
  induction l with
  | nil => rfl
  | cons x l ih =>
    show (_ && _) = true
    rw [ih]
    rfl
theorem row_pys : ∀ l : List Nat, PyData.canLayAll0 (pys (l.map dn)) = true ∧ PyData.depthAll (pys (l.map dn)) = 0
  | [] => ⟨by simp [pys, PyData.canLayAll0], by simp [pys, PyData.depthAll]⟩
  | x :: l => by
    obtain ⟨h1, h2⟩ := row_pys l
    refine ⟨?_, ?_⟩
    · simp only [List.map_cons, pys, Dt.py, PyData.canLayAll0, PyData.canLay0, h1, Bool.and_self]
    · simp only [List.map_cons, pys, Dt.py, PyData.depthAll, PyData.depth, h2]
      rfl
theorem row_shaped (l : List Nat) : SeqAt.shaped (rowD l).py = true := by
  obtain ⟨h1, h2⟩ := row_pys l
  have a : PyData.canLay0 (rowD l).py = true := by
    simp only [rowD, Dt.py, PyData.canLay0]
    exact h1
  have b : PyData.depth (rowD l).py ≤ 64 := by
    simp only [rowD, Dt.py, PyData.depth]
    omega
  show (PyData.canLay0 (rowD l).py && decide (PyData.depth (rowD l).py ≤ 64)) = true
  rw [a, decide_eq_true b]
  rfl
theorem dn_inj {a b : Nat} (h : dn a = dn b) : a = b := by
  have z : (a : Int) = (b : Int) := V.int.inj (Dt.v.inj h)
  omega
theorem map_inj {α : Type} {f : α → Dt} (hf : ∀ a b, f a = f b → a = b) : ∀ {l m : List α}, l.map f = m.map f → l = m
  | [], [], _ => rfl
  | [], _ :: _, h => by cases h
  | _ :: _, [], h => by cases h
  | a :: l, b :: m, h => by
    rw [List.map_cons, List.map_cons] at h
    rw [hf a b (List.cons.inj h).1, map_inj hf (List.cons.inj h).2]
theorem rowD_inj {a b : List Nat} (h : rowD a = rowD b) : a = b := map_inj (fun _ _ => dn_inj) (Dt.tup.inj h)
theorem dec_rowD (a b : List Nat) : decide (rowD a = rowD b) = decide (a = b) := by
  by_cases h : a = b
  · subst h
    rw [decide_eq_true rfl, decide_eq_true rfl]
  · rw [decide_eq_false h, decide_eq_false fun z => h (rowD_inj z)]

theorem getD_lt {α : Type} {l : List α} {i : Nat} (h : i < l.length) (z : α) : l.getD i z ∈ l := List.mem_of_getElem? (getD_get h z)
theorem rd_heard_of (h : sp_heard_of K vs H Q E) : t_heard_of K (Dn Q) (L2.start N_heard_of vs) H := by
  obtain ⟨l, m, hl, ⟨k, n, st, ok, rfl, rfl⟩, q⟩ := h
  have s := sl_start (N := N_heard_of) hl (Nat.le_of_ble_eq_true rfl)
  have m1 := ok.m1
  have m16 := ok.m16
  have len30 := ok.len
  have rep : (List.replicate n (.tup [] : Dt)) = (runH n []).map rowD := by
    show _ = (List.replicate n []).map rowD
    rw [List.map_replicate]
    rfl
  refine s_seq (s_asgL (P := fun _ => True) (PuL.is (pl_rep1 (pl_lst (pa_c (pu_tup pa_n (by simp)) pa_n) (by simp)) (pu_ix (pu_var rfl) rfl) (by omega)) rep) s trivial fun a σ1 H1 ha e1 hL s1 => ?_)
  have hst : (st.map stD).length = st.length := List.length_map _
  let G : Cxt := [some (hisD n st), some (dr a), none, none, none, none, none]
  let J : Nat → L2.St → Hp → Prop := fun i σ' H' => Sl σ' H' G ∧ Ex H H' ∧ LstAt H' a ((runH n (st.take i)).map rowD)
  refine s_seq (s_forE (P := fun _ => True) (l := st.map stD) (g := gTup K 2 (gCons (gName 2) (gCons (gTup K 3 (gSl [3, 4, 5])) gNil))) (pa_c (pu_ix (pu_var rfl) rfl) pa_n) (by omega) s1 trivial J ?_ ?_ ?_)
  · intro H3 e3
    exact ⟨(s1.ext e3.t).lessL ⟨rfl, rfl, trivial⟩, e1.trans e3, hL.ext e3⟩
  · intro H3 e3 i d σ' H' H'' hd hJ x3 eT x hx
    obtain ⟨sJ, eJ, lJ⟩ := hJ
    rw [List.getElem?_map] at hd
    cases z : st[i]? with
    | none => rw [z] at hd; cases hd
    | some p =>
      rw [z] at hd
      cases hd
      have hi : i < st.length := (List.getElem?_eq_some_iff.mp z).1
      have okp := ok.ok p (List.mem_of_getElem? z)
      have etk : st.take (i + 1) = st.take i ++ [p] := by
        rw [List.take_succ, z]
        rfl
      have lt : (st.take i).length = i := by rw [List.length_take]; omega
      have lenR : (runH n (st.take i)).length = n := runH_len n _
      have asc : ∀ c, c < n → Asc i ((runH n (st.take i)).getD c []) := fun c hc => by
        have z := runH_asc n (st.take i) _ (getD_lt (by rw [lenR]; exact hc) [])
        rw [lt] at z
        exact z
      -- the pair, its second item
      obtain ⟨t, xs, rfl, ht, hxs⟩ := hx.tup_of
      cases hxs with
      | cons h1 hxs =>
      cases hxs with
      | cons h2 hxs =>
      cases hxs
      refine ⟨t, _, rfl, SqT.of ht, rfl, _, _, rfl, _, _, rfl, ?_⟩
      have s2 := (sJ.ext eT.t).set h1 2
      have l2 := lJ.ext eT
      -- the rest of a turn
      have fin : ∀ (c : Nat) (mo ms : List Nat) (d3 d5 : Dt) (σ5 : L2.St) (H5 : Hp), c < n → turnH (runH n (st.take i)) (st.take i).length p = (runH n (st.take i)).set c ms → ms.Pairwise (· < ·) → (∀ z, z ∈ ms ↔ z ∈ (runH n (st.take i)).getD c [] ++ mo) → ((runH n (st.take i)).getD c [] ++ mo).length ≤ 63 → Ex H'' H5 →
          Sl σ5 H5 [some (hisD n st), some (dr a), some (dn i), some d3, some (dn c), some d5, some (rowD mo)] →
          tAsg (tTss K (tOp (rAdd9 K) (tOp (rIx K) (tVar 1) (tVar 4)) (tVar 6))) (gSub (tVar 1) (tVar 4) rSetL)
            { nx := fun σ3 H3' => J (i + 1) σ3 H3' ∧ ExT H3 H3', ct := fun σ3 H3' => J (i + 1) σ3 H3' ∧ ExT H3 H3', bk := fun _ _ => True, rt := Q } σ5 H5 := by
        intro c mo ms d3 d5 σ5 H5 hc ht' hp hm h63 e5 s5
        have l5 := l2.ext e5
        have hcl : c < ((runH n (st.take i)).map rowD).length := by rw [List.length_map, lenR]; exact hc
        refine s_setL (P := fun H' => LstAt H' a ((runH n (st.take i)).map rowD)) (i := c) (d := rowD ms) (pu_tss (ns := (runH n (st.take i)).getD c [] ++ mo) (Pu.is (pu_op (pu_op (pu_var rfl) (pu_var rfl) (rv_ixL (fun _ h => h) (atI_map (by rw [lenR]; exact hc) []))) (pu_var rfl) (rv_cat (by rw [List.length_map, List.length_map]; rw [List.length_append] at h63; omega))) (congrArg Dt.tup (List.map_append).symm)) h63 hp hm) (pu_var rfl) (pu_var rfl) s5 l5 (fun _ h => h) hcl fun H6 x6 b6 l6 => ?_
        refine ⟨⟨(s5.ext x6).lessL ⟨rfl, rfl, trivial⟩, b6.ex ha ((eJ.trans eT).trans e5), ?_⟩, x3.trans ((Ex.t (eT.trans e5)).trans x6)⟩
        rw [etk, runH_snoc, ht', List.map_set]
        exact l6
      cases p with
      | act c u =>
        refine g_tup (l := [ds "do", dn c, dn u]) h2 s2 rfl rfl fun σ4 s4 => ⟨rfl, ?_⟩
        refine s_seq (s_asg (P := fun _ => True) (d := rowD [i]) (pu_ifT (pt_test (Pu.is (pu_op (pu_var rfl) pu_c rv_eqS) (by rw [decide_eq_true rfl]))) (pu_tup (pa_c (pu_var rfl) pa_n) (by simp))) s4 trivial fun σ5 H5 e5 s5 => ?_)
        have a1 := asc c okp.1
        refine fin c [i] _ _ _ σ5 H5 okp.1 rfl (by rw [lt]; exact a1.snoc.1) (fun z => by rw [lt]) ?_ e5 s5
        have := a1.len
        rw [List.length_append, List.length_singleton]
        omega
      | hear c o =>
        refine g_tup (l := [ds "hear", dn c, dn o]) h2 s2 rfl rfl fun σ4 s4 => ⟨rfl, ?_⟩
        have a1 := asc c okp.1
        have a2 := asc o okp.2.1
        refine s_seq (s_asg (P := fun H' => LstAt H' a ((runH n (st.take i)).map rowD)) (d := rowD ((runH n (st.take i)).getD o [])) (pu_ifF (pt_test (Pu.is (pu_op (pu_var rfl) pu_c rv_eqS) (by rw [decide_eq_false (by decide)]))) (pu_op (pu_var rfl) (pu_var rfl) (rv_ixL (fun _ h => h) (atI_map (by rw [lenR]; exact okp.2.1) [])))) s4 l2 fun σ5 H5 e5 s5 => ?_)
        refine fin c _ _ _ _ σ5 H5 okp.1 rfl (asc_both _ _ _).1 (fun z => ?_) ?_ e5 s5
        · rw [lt]
          unfold both
          rw [List.mem_filter, List.mem_range, Bool.or_eq_true, decide_eq_true_eq, decide_eq_true_eq, List.mem_append]
          constructor
          · exact fun h => h.2
          · intro h
            refine ⟨?_, h⟩
            rcases h with h | h
            · exact a1.2 z h
            · exact a2.2 z h
        · have := a1.len
          have := a2.len
          rw [List.length_append]
          omega
  · intro σ' H' hJ
    obtain ⟨sJ, eJ, lJ⟩ := hJ
    refine s_ret (P := fun _ => True) (pu_var rfl) sJ trivial fun x H4 e4 h4 => ?_
    cases h4.v_eq
    rw [hst, List.take_length] at lJ
    exact q a H4 ha (eJ.trans e4) (lJ.ext e4)

/-- the pairs of the first i copies -/
def splitsTo (s : List Nat) (h : List (List Nat)) (m i : Nat) : List (Nat × Nat) :=
  (List.range i).flatMap fun i => ((List.range (m - (i + 1))).filter fun j => decide (h.getD i [] = h.getD (i + 1 + j) []) && !decide (s.getD i 0 = s.getD (i + 1 + j) 0)).map fun j => (i, i + 1 + j)
theorem splitsTo_succ (s : List Nat) (h : List (List Nat)) (m i : Nat) : splitsTo s h m (i + 1) = splitsTo s h m i ++ ((List.range (m - (i + 1))).filter fun j => decide (h.getD i [] = h.getD (i + 1 + j) []) && !decide (s.getD i 0 = s.getD (i + 1 + j) 0)).map fun j => (i, i + 1 + j) := by
  unfold splitsTo
  rw [List.range_succ, List.flatMap_append]
  simp
theorem splitsTo_len (s : List Nat) (h : List (List Nat)) (m i : Nat) : (splitsTo s h m i).length ≤ i * m := by
  induction i with
  | zero => exact Nat.zero_le _
  | succ i ih =>
    rw [splitsTo_succ, List.length_append, List.length_map, Nat.succ_mul]
    have z := List.length_filter_le (fun j => decide (h.getD i [] = h.getD (i + 1 + j) []) && !decide (s.getD i 0 = s.getD (i + 1 + j) 0)) (List.range (m - (i + 1)))
    rw [List.length_range] at z
    omega
theorem rd_split_pairs (h : sp_split_pairs K vs H Q E) : t_split_pairs K (Dn Q) (L2.start N_split_pairs vs) H := by
  obtain ⟨l, d, hl, ⟨k, n, st, ok, rfl, rfl⟩, q⟩ := h
  have s := sl_start (N := N_split_pairs) hl (Nat.le_of_ble_eq_true rfl)
  have m1 := ok.m1
  have m16 := ok.m16
  have lenS : (runS k n st).length = n := runS_len k n st
  have lenH : (runH n st).length = n := runH_len n st
  refine s_seq (s_drop (P := fun _ => True) (pu_call (pa_c (pu_var rfl) (pa_c (pu_var rfl) pa_n)) ⟨k, n, st, ok, rfl, rfl⟩) s trivial fun H1 e1 => ?_)
  have last : atI ((List.range (st.length + 1)).map fun i => rowD (runS k n (st.take i))) (-1) = some (rowD (runS k n st)) := by
    refine atI_m1 ?_
    rw [List.length_map, List.length_range, List.getElem?_map, List.getElem?_range (by omega), Nat.add_sub_cancel]
    show some (rowD (runS k n (st.take st.length))) = _
    rw [List.take_length]
  refine s_seq (s_asgTL (P := fun _ => True) (i := 2) (j := 3) (d := rowD (runS k n st)) (l := (runH n st).map rowD) (pu_ixN (pl_call (pa_c (pu_var rfl) (pa_c (pu_var rfl) pa_n)) ⟨k, n, st, ok, rfl, rfl⟩) (pu_un pu_c ru_neg) last) (pl_call (pa_c (pu_var rfl) pa_n) ⟨k, n, st, ok, rfl, rfl⟩) (s.ext e1.t) trivial fun ak σ2 H2 hak e2 hLk s2 => ?_)
  have e2' := e1.trans e2
  refine s_seq (s_asgL (P := fun _ => True) (pl_lst pa_n (by simp)) s2 trivial fun af σ3 H3 haf e3 hLf s3 => ?_)
  have e3' := e2'.trans e3
  have haf0 : H af = none := e2'.free haf
  have hLk3 := hLk.ext e3
  have nak : ak ≠ af := fun z => by
    obtain ⟨xs, h1, _⟩ := hLk
    rw [z, haf] at h1
    cases h1
  let G : Cxt := [some (kdD k), some (hisD n st), some (rowD (runS k n st)), some (dr ak), some (dr af), none, none]
  let J : Nat → L2.St → Hp → Prop := fun i σ' H' => Sl σ' H' G ∧ Ex H H' ∧ LstAt H' ak ((runH n st).map rowD) ∧ LstAt H' af ((splitsTo (runS k n st) (runH n st) n i).map pairD)
  refine s_seq (s_forR (P := fun _ => True) (n := n) (pa_c (pu_ix (pu_var rfl) rfl) pa_n) (by omega) s3 trivial J ?_ ?_ ?_)
  · intro H4 e4
    exact ⟨(s3.ext e4.t).lessL ⟨rfl, rfl, rfl, rfl, rfl, trivial⟩, e3'.trans e4, hLk3.ext e4, hLf.ext e4⟩
  · intro i σ' H' hi hJ
    obtain ⟨sJ, eJ, kJ, fJ⟩ := hJ
    have s4 := sJ.set (x := .int (i : Int)) (d := dn i) (.leaf _) 5
    have ei : (i : Int) + 1 = ((i + 1 : Nat) : Int) := by omega
    refine s_extend (P := fun H' => LstAt H' ak ((runH n st).map rowD) ∧ LstAt H' af ((splitsTo (runS k n st) (runH n st) n i).map pairD)) (m := giv (n - (i + 1)) (fun j => decide ((runH n st).getD i [] = (runH n st).getD (i + 1 + j) []) && !decide ((runS k n st).getD i 0 = (runS k n st).getD (i + 1 + j) 0)) (fun j => pairD (i, i + 1 + j))) (pu_var rfl)
      (pl_lcR2 (lo := i + 1) (n := n) _ _ (by decide) (pa_c (Pu.is (pu_op (pu_var rfl) pu_c rv_add) (congrArg di ei)) (pa_c (pu_ix (pu_var rfl) rfl) pa_n)) (by omega) (fun j hj => ?_) (fun j hj _ => ?_)) s4 ⟨kJ, fJ⟩ (fun _ h => h.2) ?_ fun H5 x5 b5 f5 => ?_
    · refine pt_and (pt_test (Pu.is (pu_op (pu_op (pu_var rfl) (pu_var rfl) (rv_ixL (fun _ h => h.1) (atI_map (by rw [lenH]; exact hi) []))) (pu_op (pu_var rfl) (pu_var rfl) (rv_ixL (fun _ h => h.1) (atI_map (by rw [lenH]; exact hj) []))) (rv_eqD (row_nb _) (row_nb _) (row_shaped _) (row_shaped _))) (by rw [dec_rowD]))) fun _ =>
        pt_test (Pu.is (pu_op (pu_op (pu_var rfl) (pu_var rfl) (rv_ixT (atI_map (by rw [lenS]; exact hi) 0))) (pu_op (pu_var rfl) (pu_var rfl) (rv_ixT (atI_map (by rw [lenS]; exact hj) 0))) rv_neI) ?_)
      refine congrArg (fun b => db (!b)) ?_
      by_cases z : (runS k n st).getD i 0 = (runS k n st).getD (i + 1 + j) 0
      · rw [decide_eq_true z, decide_eq_true (by rw [z])]
      · rw [decide_eq_false z, decide_eq_false (by omega)]
    · exact pu_tup (pa_c (pu_var rfl) (pa_c (pu_var rfl) pa_n)) (by simp)
    · rw [List.length_map]
      have z1 := splitsTo_len (runS k n st) (runH n st) n i
      have z2 := giv_len (n - (i + 1)) (fun j => decide ((runH n st).getD i [] = (runH n st).getD (i + 1 + j) []) && !decide ((runS k n st).getD i 0 = (runS k n st).getD (i + 1 + j) 0)) (fun j => pairD (i, i + 1 + j))
      have z3 : i * n ≤ 16 * 16 := Nat.mul_le_mul (by omega) m16
      omega
    · have kJ5 : LstAt H5 ak ((runH n st).map rowD) := by
        obtain ⟨xs, h1, h2⟩ := kJ
        exact ⟨xs, b5 _ _ nak h1, h2.ext x5⟩
      refine ⟨(s4.ext x5).lessL ⟨rfl, rfl, rfl, rfl, rfl, trivial⟩, b5.ex haf0 eJ, kJ5, ?_⟩
      rw [splitsTo_succ, List.map_append, List.map_map]
      exact f5
  · intro σ' H' hJ
    obtain ⟨sJ, eJ, kJ, fJ⟩ := hJ
    refine s_ret (P := fun H' => LstAt H' af ((splitsTo (runS k n st) (runH n st) n n).map pairD)) (pu_cb (pa_c (pu_var rfl) pa_n) (rc_tupL fun _ h => h)) sJ fJ fun x H4 e4 h4 => ?_
    exact q x H4 (eJ.trans e4) h4
end W9
set_option maxHeartbeats 4000000
/-! houses, trials: how they stand, what their methods promise -/
namespace W9
open PySem PySem.Spec PyProof.Rows L2
/-- a house -/
structure Hs where
  k : Kd
  m : Nat
  past : List Stp
  later : List Stp
structure Hs.Ok (h : Hs) : Prop where
  kd : h.k.Ok
  m1 : 1 ≤ h.m
  m16 : h.m ≤ 16
  okp : ∀ s ∈ h.past, s.Ok h.k h.m
  okl : ∀ s ∈ h.later, s.Ok h.k h.m
  sz : h.past.length + h.later.length ≤ 30
theorem Hs.Ok.his {h : Hs} (o : h.Ok) : HisOk h.k h.m h.past := ⟨o.kd, o.m1, o.m16, by have := o.sz; omega, o.okp⟩
def HsAt (K : PySem.W.Frag) (H : Hp) (a : Addr) (h : Hs) : Prop := ∃ dx xk xp xl, H a = some (.ins (He.ga K "House") dx [("own_kind", xk), ("own_many", .int (h.m : Int)), ("past", xp), ("later", xl)]) ∧ TD H xk (kdD h.k) ∧ TD H xp (stepsD h.past) ∧ TD H xl (stepsD h.later)
/-- a trial of the house at a, what it keeps -/
def TrAt (K : PySem.W.Frag) (H : Hp) (t a : Addr) (p l : List Stp) : Prop := ∃ dx xp xl, H t = some (.ins (He.ga K "Trial") dx [("held_house", .ref a), ("kept_past", xp), ("kept_later", xl)]) ∧ TD H xp (stepsD p) ∧ TD H xl (stepsD l)
section
variable {K : PySem.W.Frag} {H H' : Hp} {a b t : Addr} {h : Hs} {p l : List Stp}
theorem HsAt.keep (x : HsAt K H a h) (e : ∀ o, H a = some o → H' a = some o) (et : ExT H H') : HsAt K H' a h := by
  obtain ⟨dx, xk, xp, xl, h1, h2, h3, h4⟩ := x
  exact ⟨dx, xk, xp, xl, e _ h1, h2.ext et, h3.ext et, h4.ext et⟩
theorem HsAt.ext (e : Ex H H') (x : HsAt K H a h) : HsAt K H' a h := x.keep (e a) e.t
theorem HsAt.but (x : HsAt K H a h) (e : ExB b H H') (et : ExT H H') (n : a ≠ b) : HsAt K H' a h := x.keep (fun o q => e a o n q) et
theorem TrAt.keep (x : TrAt K H t a p l) (e : ∀ o, H t = some o → H' t = some o) (et : ExT H H') : TrAt K H' t a p l := by
  obtain ⟨dx, xp, xl, h1, h2, h3⟩ := x
  exact ⟨dx, xp, xl, e _ h1, h2.ext et, h3.ext et⟩
theorem TrAt.ext (e : Ex H H') (x : TrAt K H t a p l) : TrAt K H' t a p l := x.keep (e t) e.t
theorem TrAt.but (x : TrAt K H t a p l) (e : ExB b H H') (et : ExT H H') (n : t ≠ b) : TrAt K H' t a p l := x.keep (fun o q => e t o n q) et
instance : Stb (fun H => HsAt K H a h) := ⟨fun e x => x.ext e⟩
instance : Stb (fun H => TrAt K H t a p l) := ⟨fun e x => x.ext e⟩
end
/-- a method that gives data of the house and changes nothing -/
def spH (K : PySem.W.Frag) (d : Hs → Dt) : Sp := fun vs H Q _ => ∃ a h, vs = [.ref a] ∧ HsAt K H a h ∧ h.Ok ∧ ∀ z H', Ex H H' → TD H' z (d h) → Q z H'
/-- .. of the house and a copy's number -/
def spHi (K : PySem.W.Frag) (d : Hs → Nat → Dt) : Sp := fun vs H Q _ => ∃ a h i, vs = [.ref a, .int ((i : Nat) : Int)] ∧ HsAt K H a h ∧ h.Ok ∧ i < h.m ∧ ∀ z H', Ex H H' → TD H' z (d h i) → Q z H'
/-- the house at a is h' behind it -/
def Turned (K : PySem.W.Frag) (a : Addr) (h' : Hs) (H H' : Hp) : Prop := ExT H H' ∧ ExB a H H' ∧ HsAt K H' a h'
def shownD (h : Hs) (i : Nat) : Dt := dn (h.k.rd.getD ((runS h.k h.m h.past).getD i 0) 0)
def knownD (h : Hs) (i : Nat) : Dt := rowD ((runH h.m h.past).getD i [])
def sp_House_table (K : PySem.W.Frag) : Sp := spH K fun h => kdD h.k
def sp_House_history (K : PySem.W.Frag) : Sp := spH K fun h => hisD h.m h.past
def sp_House___len__ (K : PySem.W.Frag) : Sp := spH K fun h => dn h.past.length
def sp_House_states (K : PySem.W.Frag) : Sp := spH K fun h => rowD (runS h.k h.m h.past)
def sp_House_split (K : PySem.W.Frag) : Sp := spH K fun h => splitD h.k h.m h.past
def sp_House_need_room (K : PySem.W.Frag) : Sp := spH K fun _ => dnon
def sp_House_shown (K : PySem.W.Frag) : Sp := spHi K shownD
def sp_House_known (K : PySem.W.Frag) : Sp := spHi K knownD
def sp_House___init__ (K : PySem.W.Frag) : Sp := fun vs H Q _ => ∃ a dx xk k m, vs = [.ref a, xk, .int ((m : Nat) : Int)] ∧ H a = some (.ins (He.ga K "House") dx []) ∧ TD H xk (kdD k) ∧ k.Ok ∧ 1 ≤ m ∧ m ≤ 16 ∧ ∀ H', Turned K a ⟨k, m, [], []⟩ H H' → Q .non H'
def sp_House_keep (K : PySem.W.Frag) : Sp := fun vs H Q _ => ∃ a h x st, vs = [.ref a, x] ∧ HsAt K H a h ∧ h.Ok ∧ TD H x (stD st) ∧ ∀ H', Turned K a { h with past := h.past ++ [st], later := [] } H H' → Q .non H'
def Hs.did (h : Hs) (s : Stp) : Hs := { h with past := h.past ++ [s], later := [] }
def sp_House_do (K : PySem.W.Frag) : Sp := fun vs H Q E => ∃ a h i u, vs = [.ref a, .int i, .int ((u : Nat) : Int)] ∧ HsAt K H a h ∧ h.Ok ∧ (∀ j : Nat, i = (j : Int) → j < h.m → u < h.k.ups.length ∧ h.past.length < 30 ∧ ∀ z H', Turned K a (h.did (.act j u)) H H' → TD H' z (shownD (h.did (.act j u)) j) → Q z H') ∧
  (¬(0 ≤ i ∧ i < h.m) → ∀ H' d, Ex H H' → E (.ref (He.ga K "BadCopy")) d H')
def sp_House_hear (K : PySem.W.Frag) : Sp := fun vs H Q _ => ∃ a h i o, vs = [.ref a, .int ((i : Nat) : Int), .int ((o : Nat) : Int)] ∧ HsAt K H a h ∧ h.Ok ∧ i < h.m ∧ o < h.m ∧ i ≠ o ∧ h.past.length < 30 ∧ ∀ z H', Turned K a (h.did (.hear i o)) H H' → TD H' z (shownD (h.did (.hear i o)) i) → Q z H'
/-- one step back, one on -/
def Hs.back (h : Hs) : Hs := { h with past := h.past.take (h.past.length - 1), later := h.past.drop (h.past.length - 1) ++ h.later }
def Hs.on (h : Hs) : Hs := { h with past := h.past ++ h.later.take 1, later := h.later.drop 1 }
def sp_House_undo (K : PySem.W.Frag) : Sp := fun vs H Q _ => ∃ a h, vs = [.ref a] ∧ HsAt K H a h ∧ h.Ok ∧ ∀ H', Turned K a h.back H H' → Q (.bl (!h.past.isEmpty)) H'
def sp_House_redo (K : PySem.W.Frag) : Sp := fun vs H Q _ => ∃ a h, vs = [.ref a] ∧ HsAt K H a h ∧ h.Ok ∧ ∀ H', Turned K a h.on H H' → Q (.bl (!h.later.isEmpty)) H'
def sp_House_copy (K : PySem.W.Frag) : Sp := fun vs H Q _ => ∃ a h, vs = [.ref a] ∧ HsAt K H a h ∧ h.Ok ∧ ∀ b H', H b = none → Ex H H' → HsAt K H' b h → Q (.ref b) H'
def sp_House_trial (K : PySem.W.Frag) : Sp := fun vs H Q _ => ∃ a h, vs = [.ref a] ∧ HsAt K H a h ∧ ∀ b H', H b = none → Ex H H' → TrAt K H' b a [] [] → Q (.ref b) H'
def sp_House___eq__ (K : PySem.W.Frag) : Sp := fun vs H Q _ => ∃ a h y, vs = [.ref a, y] ∧ HsAt K H a h ∧ h.Ok ∧ ((∃ b h', y = .ref b ∧ HsAt K H b h' ∧ h'.Ok ∧ ∀ H', Ex H H' → Q (.bl (decide (kdD h.k = kdD h'.k) && (decide (h.m = h'.m) && decide (stepsD h.past = stepsD h'.past)))) H') ∨
  ((∃ d, TD H y d ∧ (tyN d = "tuple" ∨ tyN d = "int" ∨ tyN d = "NoneType") ∧ d.pl = true) ∧ ∀ H', Ex H H' → Q (.bl false) H'))
def sp_Trial___init__ (K : PySem.W.Frag) : Sp := fun vs H Q _ => ∃ t a dx, vs = [.ref t, .ref a] ∧ H t = some (.ins (He.ga K "Trial") dx []) ∧ ∀ H', ExT H H' → ExB t H H' → TrAt K H' t a [] [] → Q .non H'
def sp_Trial___enter__ (K : PySem.W.Frag) : Sp := fun vs H Q _ => ∃ t a p l h, vs = [.ref t] ∧ TrAt K H t a p l ∧ HsAt K H a h ∧ t ≠ a ∧ ∀ H', ExT H H' → ExB t H H' → TrAt K H' t a h.past h.later → HsAt K H' a h → Q (.ref a) H'
def sp_Trial___exit__ (K : PySem.W.Frag) : Sp := fun vs H Q _ => ∃ t a p l h x y z, vs = [.ref t, x, y, z] ∧ TrAt K H t a p l ∧ HsAt K H a h ∧ t ≠ a ∧ ∀ H', Turned K a { h with past := p, later := l } H H' → Q .non H'
end W9
set_option maxHeartbeats 4000000
namespace W9
open PySem PySem.Spec PyProof.Rows L2
abbrev N_need_copy : List Str := ["history", "copy"]
theorem sc_need_copy : FnScope N_need_copy ["history", "copy"] (defScope s_need_copy) := ⟨rfl, rfl, rfl, by decide +kernel, rfl, by decide +kernel, by decide +kernel⟩
def t_need_copy (K : PySem.W.Frag) (E : XK) : TS :=
  (tSeq (tIfS (tNot (tB (tCall (sp_is_whole K) [] E0 (tCons (tVar 1) (tCons (tC (.int 0)) (tCons (tOp rSub9 (tOp (rIx K) (tVar 0) (tC (.int 0))) (tC (.int 1))) tNil)))))) (tRaiseBad (He.ga K "BadCopy") (fun cls d _ H => E cls d H) (tCons (tVar 1) tNil)) tNext)
  (tRet (tVar 1)))
theorem pd_need_copy {P : Program} {w : World} {K : PySem.W.Frag} {mg : Str → Option Value} {base : Heap} (T : Txt K mg) (pg : PgOk P) {fd : FuncData} (Fb : FunC K "__init__" "BadCopy.__init__" s_BadCopy___init__ (He.ma K (He.ga K "BadCopy") "__init__") fd) (G_is_whole : Okf P w K mg base CX0 1 (He.ga K "is_whole") ["value", "least", "most"] (sp_is_whole K)) {cdv : Value} {A : Around} {outer : List Env} {s : Shared} {H : Hp} {E : XK}
    (hr : Room 2 (A.deeper (envOfC "need_copy" (defScope s_need_copy) s.heap.objs.size (He.ga K "need_copy") cdv))) :
    PSs (cxOf (L2.CX P w) P w K mg base N_need_copy "need_copy" (defScope s_need_copy) (He.ga K "need_copy") cdv A outer s H E) (defBody s_need_copy) (t_need_copy K E) :=
  (pss_cons (ps_if (pt_not (pt_val (pe_callF G_is_whole (hr.mono (by decide)) (by rfl) T.g_is_whole pass0 (pa_cons (pv 1) (pa_cons pe_int (pa_cons (pe_op op_sub (pe_ix ix_seq (pv 0) pe_int (fun _ _ => rfl)) pe_int) pa_nil)))))) (pss_one (ps_raiseBad rfl T pg Fb hr (takes_of rfl rfl rfl rfl) (pa_cons (pv 1) pa_nil) (by rfl))) pss_nil)
  (pss_one (ps_ret (pv 1))))

abbrev N_Trial___init__ : List Str := ["self", "held_house"]
theorem sc_Trial___init__ : FnScope N_Trial___init__ ["self", "held_house"] (defScope s_Trial___init__) := ⟨rfl, rfl, rfl, by decide +kernel, rfl, by decide +kernel, by decide +kernel⟩
def t_Trial___init__ (K : PySem.W.Frag) : TS :=
  (tSeq (sFld K (tVar 0) (tVar 1) "held_house")
  (tSeq (sFld K (tVar 0) (tTup tNil) "kept_past")
  (sFld K (tVar 0) (tTup tNil) "kept_later")))
theorem pd_Trial___init__ {P : Program} {w : World} {K : PySem.W.Frag} {mg : Str → Option Value} {base : Heap} (T : Txt K mg)  {cdv : Value} {A : Around} {outer : List Env} {s : Shared} {H : Hp} {E : XK}
    (hr : Room 0 (A.deeper (envOfC "Trial.__init__" (defScope s_Trial___init__) s.heap.objs.size (He.ma K (He.ga K "Trial") "__init__") cdv))) :
    PSs (cxOf CX0 P w K mg base N_Trial___init__ "Trial.__init__" (defScope s_Trial___init__) (He.ma K (He.ga K "Trial") "__init__") cdv A outer s H E).nox (defBody s_Trial___init__) (t_Trial___init__ K) :=
  (pss_cons (ps_fld (pv 0) (pv 1) rfl)
  (pss_cons (ps_fld (pv 0) (pe_tup pa_nil) rfl)
  (pss_one (ps_fld (pv 0) (pe_tup pa_nil) rfl))))

abbrev N_Trial___enter__ : List Str := ["self"]
theorem sc_Trial___enter__ : FnScope N_Trial___enter__ ["self"] (defScope s_Trial___enter__) := ⟨rfl, rfl, rfl, by decide +kernel, rfl, by decide +kernel, by decide +kernel⟩
def t_Trial___enter__ (K : PySem.W.Frag) : TS :=
  (tSeq (sFld K (tVar 0) (tFld K (tFld K (tVar 0) "held_house") "past") "kept_past")
  (tSeq (sFld K (tVar 0) (tFld K (tFld K (tVar 0) "held_house") "later") "kept_later")
  (tRet (tFld K (tVar 0) "held_house"))))
theorem pd_Trial___enter__ {P : Program} {w : World} {K : PySem.W.Frag} {mg : Str → Option Value} {base : Heap} (T : Txt K mg)  {cdv : Value} {A : Around} {outer : List Env} {s : Shared} {H : Hp} {E : XK}
    (hr : Room 0 (A.deeper (envOfC "Trial.__enter__" (defScope s_Trial___enter__) s.heap.objs.size (He.ma K (He.ga K "Trial") "__enter__") cdv))) :
    PSs (cxOf CX0 P w K mg base N_Trial___enter__ "Trial.__enter__" (defScope s_Trial___enter__) (He.ma K (He.ga K "Trial") "__enter__") cdv A outer s H E).nox (defBody s_Trial___enter__) (t_Trial___enter__ K) :=
  (pss_cons (ps_fld (pv 0) (pe_fld (pe_fld (pv 0) rfl) rfl) rfl)
  (pss_cons (ps_fld (pv 0) (pe_fld (pe_fld (pv 0) rfl) rfl) rfl)
  (pss_one (ps_ret (pe_fld (pv 0) rfl)))))

abbrev N_Trial___exit__ : List Str := ["self", "kind", "told", "trace"]
theorem sc_Trial___exit__ : FnScope N_Trial___exit__ ["self", "kind", "told", "trace"] (defScope s_Trial___exit__) := ⟨rfl, rfl, rfl, by decide +kernel, rfl, by decide +kernel, by decide +kernel⟩
def t_Trial___exit__ (K : PySem.W.Frag) : TS :=
  (tSeq (sFld K (tFld K (tVar 0) "held_house") (tFld K (tVar 0) "kept_past") "past")
  (sFld K (tFld K (tVar 0) "held_house") (tFld K (tVar 0) "kept_later") "later"))
theorem pd_Trial___exit__ {P : Program} {w : World} {K : PySem.W.Frag} {mg : Str → Option Value} {base : Heap} (T : Txt K mg)  {cdv : Value} {A : Around} {outer : List Env} {s : Shared} {H : Hp} {E : XK}
    (hr : Room 0 (A.deeper (envOfC "Trial.__exit__" (defScope s_Trial___exit__) s.heap.objs.size (He.ma K (He.ga K "Trial") "__exit__") cdv))) :
    PSs (cxOf CX0 P w K mg base N_Trial___exit__ "Trial.__exit__" (defScope s_Trial___exit__) (He.ma K (He.ga K "Trial") "__exit__") cdv A outer s H E).nox (defBody s_Trial___exit__) (t_Trial___exit__ K) :=
  (pss_cons (ps_fld (pe_fld (pv 0) rfl) (pe_fld (pv 0) rfl) rfl)
  (pss_one (ps_fld (pe_fld (pv 0) rfl) (pe_fld (pv 0) rfl) rfl)))

abbrev N_House___init__ : List Str := ["self", "kind", "many"]
theorem sc_House___init__ : FnScope N_House___init__ ["self", "kind", "many"] (defScope s_House___init__) := ⟨rfl, rfl, rfl, by decide +kernel, rfl, by decide +kernel, by decide +kernel⟩
def t_House___init__ (K : PySem.W.Frag) : TS :=
  (tSeq (tDrop (tCall (sp_need_kind K) [] E0 (tCons (tVar 1) tNil)))
  (tSeq (tIfS (tNot (tB (tCall (sp_is_whole K) [] E0 (tCons (tVar 2) (tCons (tC (.int 1)) (tCons (tC (.int 16)) tNil)))))) tNever tNext)
  (tSeq (sFld K (tVar 0) (tVar 1) "own_kind")
  (tSeq (sFld K (tVar 0) (tVar 2) "own_many")
  (tSeq (sFld K (tVar 0) (tTup tNil) "past")
  (sFld K (tVar 0) (tTup tNil) "later"))))))
theorem pd_House___init__ {P : Program} {w : World} {K : PySem.W.Frag} {mg : Str → Option Value} {base : Heap} (T : Txt K mg) (G_need_kind : Okf P w K mg base CX0 4 (He.ga K "need_kind") ["kind"] (sp_need_kind K)) (G_is_whole : Okf P w K mg base CX0 1 (He.ga K "is_whole") ["value", "least", "most"] (sp_is_whole K)) {cdv : Value} {A : Around} {outer : List Env} {s : Shared} {H : Hp} {E : XK}
    (hr : Room 4 (A.deeper (envOfC "House.__init__" (defScope s_House___init__) s.heap.objs.size (He.ma K (He.ga K "House") "__init__") cdv))) :
    PSs (cxOf CX0 P w K mg base N_House___init__ "House.__init__" (defScope s_House___init__) (He.ma K (He.ga K "House") "__init__") cdv A outer s H E).nox (defBody s_House___init__) (t_House___init__ K) :=
  (pss_cons (ps_expr (pe_callF G_need_kind (hr.mono (by decide)) (by rfl) T.g_need_kind pass0 (pa_cons (pv 1) pa_nil)))
  (pss_cons (ps_if (pt_not (pt_val (pe_callF G_is_whole (hr.mono (by decide)) (by rfl) T.g_is_whole pass0 (pa_cons (pv 2) (pa_cons pe_int (pa_cons (pe_gi (by rfl) T.i_MOST_COPIES) pa_nil)))))) (pss_one ps_never) pss_nil)
  (pss_cons (ps_fld (pv 0) (pv 1) rfl)
  (pss_cons (ps_fld (pv 0) (pv 2) rfl)
  (pss_cons (ps_fld (pv 0) (pe_tup pa_nil) rfl)
  (pss_one (ps_fld (pv 0) (pe_tup pa_nil) rfl)))))))

abbrev N_House_table : List Str := ["self"]
theorem sc_House_table : FnScope N_House_table ["self"] (defScope s_House_table) := ⟨rfl, rfl, rfl, by decide +kernel, rfl, by decide +kernel, by decide +kernel⟩
def t_House_table (K : PySem.W.Frag) : TS :=
  (tRet (tFld K (tVar 0) "own_kind"))
theorem pd_House_table {P : Program} {w : World} {K : PySem.W.Frag} {mg : Str → Option Value} {base : Heap} (T : Txt K mg)  {cdv : Value} {A : Around} {outer : List Env} {s : Shared} {H : Hp} {E : XK}
    (hr : Room 0 (A.deeper (envOfC "House.table" (defScope s_House_table) s.heap.objs.size (gAd K "House" "table") cdv))) :
    PSs (cxOf CX0 P w K mg base N_House_table "House.table" (defScope s_House_table) (gAd K "House" "table") cdv A outer s H E).nox (defBody s_House_table) (t_House_table K) :=
  (pss_one (ps_ret (pe_fld (pv 0) rfl)))

abbrev N_House_history : List Str := ["self"]
theorem sc_House_history : FnScope N_House_history ["self"] (defScope s_House_history) := ⟨rfl, rfl, rfl, by decide +kernel, rfl, by decide +kernel, by decide +kernel⟩
def t_House_history (K : PySem.W.Frag) : TS :=
  (tRet (tTup (tCons (tFld K (tVar 0) "own_many") (tCons (tFld K (tVar 0) "past") tNil))))
theorem pd_House_history {P : Program} {w : World} {K : PySem.W.Frag} {mg : Str → Option Value} {base : Heap} (T : Txt K mg)  {cdv : Value} {A : Around} {outer : List Env} {s : Shared} {H : Hp} {E : XK}
    (hr : Room 0 (A.deeper (envOfC "House.history" (defScope s_House_history) s.heap.objs.size (gAd K "House" "history") cdv))) :
    PSs (cxOf CX0 P w K mg base N_House_history "House.history" (defScope s_House_history) (gAd K "House" "history") cdv A outer s H E).nox (defBody s_House_history) (t_House_history K) :=
  (pss_one (ps_ret (pe_tup (pa_cons (pe_fld (pv 0) rfl) (pa_cons (pe_fld (pv 0) rfl) pa_nil)))))

abbrev N_House___len__ : List Str := ["self"]
theorem sc_House___len__ : FnScope N_House___len__ ["self"] (defScope s_House___len__) := ⟨rfl, rfl, rfl, by decide +kernel, rfl, by decide +kernel, by decide +kernel⟩
def t_House___len__ (K : PySem.W.Frag) : TS :=
  (tRet (tCB (rLen9 K) (tCons (tFld K (tVar 0) "past") tNil)))
theorem pd_House___len__ {P : Program} {w : World} {K : PySem.W.Frag} {mg : Str → Option Value} {base : Heap} (T : Txt K mg)  {cdv : Value} {A : Around} {outer : List Env} {s : Shared} {H : Hp} {E : XK}
    (hr : Room 0 (A.deeper (envOfC "House.__len__" (defScope s_House___len__) s.heap.objs.size (He.ma K (He.ga K "House") "__len__") cdv))) :
    PSs (cxOf CX0 P w K mg base N_House___len__ "House.__len__" (defScope s_House___len__) (He.ma K (He.ga K "House") "__len__") cdv A outer s H E).nox (defBody s_House___len__) (t_House___len__ K) :=
  (pss_one (ps_ret (pe_callB call_len9 (by rfl) T.f_len PySem.boot_len (pa_cons (pe_fld (pv 0) rfl) pa_nil))))

abbrev N_House_states : List Str := ["self"]
theorem sc_House_states : FnScope N_House_states ["self"] (defScope s_House_states) := ⟨rfl, rfl, rfl, by decide +kernel, rfl, by decide +kernel, by decide +kernel⟩
def t_House_states (K : PySem.W.Frag) : TS :=
  (tRet (tOp (rIx K) (tCall (sp_stages_of K) [] E0 (tCons (tFld K (tVar 0) "own_kind") (tCons (tProp (He.ga K "House") (sp_House_history K) [] E0 (tVar 0)) tNil))) (tUn rNeg9 (tC (.int 1)))))
theorem pd_House_states {P : Program} {w : World} {K : PySem.W.Frag} {mg : Str → Option Value} {base : Heap} (T : Txt K mg) (G_stages_of : Okf P w K mg base CX0 2 (He.ga K "stages_of") ["kind", "history"] (sp_stages_of K)) (G_House_history : Okf P w K mg base CX0 1 (gAd K "House" "history") ["self"] (sp_House_history K)) {cdv : Value} {A : Around} {outer : List Env} {s : Shared} {H : Hp} {E : XK}
    (hr : Room 2 (A.deeper (envOfC "House.states" (defScope s_House_states) s.heap.objs.size (He.ma K (He.ga K "House") "states") cdv))) :
    PSs (cxOf CX0 P w K mg base N_House_states "House.states" (defScope s_House_states) (He.ma K (He.ga K "House") "states") cdv A outer s H E).nox (defBody s_House_states) (t_House_states K) :=
  (pss_one (ps_ret (pe_ix ix_seq (pe_callF G_stages_of (hr.mono (by decide)) (by rfl) T.g_stages_of pass0 (pa_cons (pe_fld (pv 0) rfl) (pa_cons (pe_propF (pv 0) T.c_House T.p_House_history G_House_history (hr.mono (by decide)) pass0 rfl) pa_nil))) (pe_un un_neg pe_int) (fun _ _ => rfl))))

abbrev N_House_shown : List Str := ["self", "number"]
theorem sc_House_shown : FnScope N_House_shown ["self", "number"] (defScope s_House_shown) := ⟨rfl, rfl, rfl, by decide +kernel, rfl, by decide +kernel, by decide +kernel⟩
def t_House_shown (K : PySem.W.Frag) : TS :=
  (tRet (tOp (rIx K) (tOp (rIx K) (tFld K (tVar 0) "own_kind") (tC (.int 3))) (tOp (rIx K) (tMeth (He.ga K "House") "states" (sp_House_states K) [] E0 (tVar 0) tNil) (tCall (sp_need_copy K) [] E0 (tCons (tProp (He.ga K "House") (sp_House_history K) [] E0 (tVar 0)) (tCons (tVar 1) tNil))))))
theorem pd_House_shown {P : Program} {w : World} {K : PySem.W.Frag} {mg : Str → Option Value} {base : Heap} (T : Txt K mg) (G_House_states : Okf P w K mg base CX0 3 (He.ma K (He.ga K "House") "states") ["self"] (sp_House_states K)) (G_need_copy : Okf P w K mg base (L2.CX P w) 3 (He.ga K "need_copy") ["history", "copy"] (sp_need_copy K)) (G_House_history : Okf P w K mg base CX0 1 (gAd K "House" "history") ["self"] (sp_House_history K)) {cdv : Value} {A : Around} {outer : List Env} {s : Shared} {H : Hp} {E : XK}
    (hr : Room 3 (A.deeper (envOfC "House.shown" (defScope s_House_shown) s.heap.objs.size (He.ma K (He.ga K "House") "shown") cdv))) :
    PSs (cxOf CX0 P w K mg base N_House_shown "House.shown" (defScope s_House_shown) (He.ma K (He.ga K "House") "shown") cdv A outer s H E).nox (defBody s_House_shown) (t_House_shown K) :=
  (pss_one (ps_ret (pe_ix ix_seq (pe_ix ix_seq (pe_fld (pv 0) rfl) pe_int (fun _ _ => rfl)) (pe_ix ix_seq (pe_methF0 (pv 0) T.c_House T.m_House_states G_House_states (hr.mono (by decide)) pass0) (pe_callF G_need_copy (hr.mono (by decide)) (by rfl) T.g_need_copy passL (pa_cons (pe_propF (pv 0) T.c_House T.p_House_history G_House_history (hr.mono (by decide)) pass0 rfl) (pa_cons (pv 1) pa_nil))) (fun _ _ => rfl)) (fun _ _ => rfl))))

abbrev N_House_known : List Str := ["self", "number"]
theorem sc_House_known : FnScope N_House_known ["self", "number"] (defScope s_House_known) := ⟨rfl, rfl, rfl, by decide +kernel, rfl, by decide +kernel, by decide +kernel⟩
def t_House_known (K : PySem.W.Frag) : TS :=
  (tRet (tOp (rIx K) (tCall (sp_heard_of K) [] E0 (tCons (tProp (He.ga K "House") (sp_House_history K) [] E0 (tVar 0)) tNil)) (tCall (sp_need_copy K) [] E0 (tCons (tProp (He.ga K "House") (sp_House_history K) [] E0 (tVar 0)) (tCons (tVar 1) tNil)))))
theorem pd_House_known {P : Program} {w : World} {K : PySem.W.Frag} {mg : Str → Option Value} {base : Heap} (T : Txt K mg) (G_heard_of : Okf P w K mg base CX0 1 (He.ga K "heard_of") ["history"] (sp_heard_of K)) (G_House_history : Okf P w K mg base CX0 1 (gAd K "House" "history") ["self"] (sp_House_history K)) (G_need_copy : Okf P w K mg base (L2.CX P w) 3 (He.ga K "need_copy") ["history", "copy"] (sp_need_copy K)) {cdv : Value} {A : Around} {outer : List Env} {s : Shared} {H : Hp} {E : XK}
    (hr : Room 3 (A.deeper (envOfC "House.known" (defScope s_House_known) s.heap.objs.size (He.ma K (He.ga K "House") "known") cdv))) :
    PSs (cxOf CX0 P w K mg base N_House_known "House.known" (defScope s_House_known) (He.ma K (He.ga K "House") "known") cdv A outer s H E).nox (defBody s_House_known) (t_House_known K) :=
  (pss_one (ps_ret (pe_ix ix_seq (pe_callF G_heard_of (hr.mono (by decide)) (by rfl) T.g_heard_of pass0 (pa_cons (pe_propF (pv 0) T.c_House T.p_House_history G_House_history (hr.mono (by decide)) pass0 rfl) pa_nil)) (pe_callF G_need_copy (hr.mono (by decide)) (by rfl) T.g_need_copy passL (pa_cons (pe_propF (pv 0) T.c_House T.p_House_history G_House_history (hr.mono (by decide)) pass0 rfl) (pa_cons (pv 1) pa_nil))) (fun _ _ => rfl))))

abbrev N_House_split : List Str := ["self"]
theorem sc_House_split : FnScope N_House_split ["self"] (defScope s_House_split) := ⟨rfl, rfl, rfl, by decide +kernel, rfl, by decide +kernel, by decide +kernel⟩
def t_House_split (K : PySem.W.Frag) : TS :=
  (tRet (tCall (sp_split_pairs K) [] E0 (tCons (tFld K (tVar 0) "own_kind") (tCons (tProp (He.ga K "House") (sp_House_history K) [] E0 (tVar 0)) tNil))))
theorem pd_House_split {P : Program} {w : World} {K : PySem.W.Frag} {mg : Str → Option Value} {base : Heap} (T : Txt K mg) (G_split_pairs : Okf P w K mg base CX0 6 (He.ga K "split_pairs") ["kind", "history"] (sp_split_pairs K)) (G_House_history : Okf P w K mg base CX0 1 (gAd K "House" "history") ["self"] (sp_House_history K)) {cdv : Value} {A : Around} {outer : List Env} {s : Shared} {H : Hp} {E : XK}
    (hr : Room 6 (A.deeper (envOfC "House.split" (defScope s_House_split) s.heap.objs.size (He.ma K (He.ga K "House") "split") cdv))) :
    PSs (cxOf CX0 P w K mg base N_House_split "House.split" (defScope s_House_split) (He.ma K (He.ga K "House") "split") cdv A outer s H E).nox (defBody s_House_split) (t_House_split K) :=
  (pss_one (ps_ret (pe_callF G_split_pairs (hr.mono (by decide)) (by rfl) T.g_split_pairs pass0 (pa_cons (pe_fld (pv 0) rfl) (pa_cons (pe_propF (pv 0) T.c_House T.p_House_history G_House_history (hr.mono (by decide)) pass0 rfl) pa_nil)))))

abbrev N_House_need_room : List Str := ["self"]
theorem sc_House_need_room : FnScope N_House_need_room ["self"] (defScope s_House_need_room) := ⟨rfl, rfl, rfl, by decide +kernel, rfl, by decide +kernel, by decide +kernel⟩
def t_House_need_room (K : PySem.W.Frag) : TS :=
  (tIfS (tTest (tOp (rEq9 K) (tLenO (He.ga K "House") (sp_House___len__ K) (tVar 0)) (tC (.int 60)))) tNever tNext)
theorem pd_House_need_room {P : Program} {w : World} {K : PySem.W.Frag} {mg : Str → Option Value} {base : Heap} (T : Txt K mg) (G_House___len__ : Okf P w K mg base CX0 1 (He.ma K (He.ga K "House") "__len__") ["self"] (sp_House___len__ K)) {cdv : Value} {A : Around} {outer : List Env} {s : Shared} {H : Hp} {E : XK}
    (hr : Room 2 (A.deeper (envOfC "House.need_room" (defScope s_House_need_room) s.heap.objs.size (He.ma K (He.ga K "House") "need_room") cdv))) :
    PSs (cxOf CX0 P w K mg base N_House_need_room "House.need_room" (defScope s_House_need_room) (He.ma K (He.ga K "House") "need_room") cdv A outer s H E).nox (defBody s_House_need_room) (t_House_need_room K) :=
  (pss_one (ps_if (pt_cmpR (op_eq9 hr.units) (pe_len9 (by rfl) T.f_len (pv 0) T.m_House___len__ G_House___len__ (hr.mono (by decide))) (pe_gi (by rfl) T.i_MOST_STEPS) (nomark _)) (pss_one ps_never) pss_nil))

abbrev N_House_keep : List Str := ["self", "step"]
theorem sc_House_keep : FnScope N_House_keep ["self", "step"] (defScope s_House_keep) := ⟨rfl, rfl, rfl, by decide +kernel, rfl, by decide +kernel, by decide +kernel⟩
def t_House_keep (K : PySem.W.Frag) : TS :=
  (tSeq (sFld K (tVar 0) (tTup (StX.tStar K (tFld K (tVar 0) "past") (tCons (tVar 1) tNil))) "past")
  (sFld K (tVar 0) (tTup tNil) "later"))
theorem pd_House_keep {P : Program} {w : World} {K : PySem.W.Frag} {mg : Str → Option Value} {base : Heap} (T : Txt K mg)  {cdv : Value} {A : Around} {outer : List Env} {s : Shared} {H : Hp} {E : XK}
    (hr : Room 0 (A.deeper (envOfC "House.keep" (defScope s_House_keep) s.heap.objs.size (He.ma K (He.ga K "House") "keep") cdv))) :
    PSs (cxOf CX0 P w K mg base N_House_keep "House.keep" (defScope s_House_keep) (He.ma K (He.ga K "House") "keep") cdv A outer s H E).nox (defBody s_House_keep) (t_House_keep K) :=
  (pss_cons (ps_fld (pv 0) (pe_tup (StX.pa_star (pe_fld (pv 0) rfl) (pa_cons (pv 1) pa_nil))) rfl)
  (pss_one (ps_fld (pv 0) (pe_tup pa_nil) rfl)))

abbrev N_House_do : List Str := ["self", "number", "update"]
theorem sc_House_do : FnScope N_House_do ["self", "number", "update"] (defScope s_House_do) := ⟨rfl, rfl, rfl, by decide +kernel, rfl, by decide +kernel, by decide +kernel⟩
def t_House_do (K : PySem.W.Frag) (E : XK) : TS :=
  (tSeq (tDrop (tCall (sp_need_copy K) [] E (tCons (tProp (He.ga K "House") (sp_House_history K) [] E0 (tVar 0)) (tCons (tVar 1) tNil))))
  (tSeq (tIfS (tNot (tB (tCall (sp_is_whole K) [] E0 (tCons (tVar 2) (tCons (tC (.int 0)) (tCons (tOp rSub9 (tCB (rLen9 K) (tCons (tOp (rIx K) (tFld K (tVar 0) "own_kind") (tC (.int 1))) tNil)) (tC (.int 1))) tNil)))))) tNever tNext)
  (tSeq (tDrop (tMeth (He.ga K "House") "need_room" (sp_House_need_room K) [] E0 (tVar 0) tNil))
  (tSeq (tDrop (tMeth (He.ga K "House") "keep" (sp_House_keep K) [] E0 (tVar 0) (tCons (tTup (tCons (tC (.str "do")) (tCons (tVar 1) (tCons (tVar 2) tNil)))) tNil)))
  (tRet (tMeth (He.ga K "House") "shown" (sp_House_shown K) [] E0 (tVar 0) (tCons (tVar 1) tNil)))))))
theorem pd_House_do {P : Program} {w : World} {K : PySem.W.Frag} {mg : Str → Option Value} {base : Heap} (T : Txt K mg) (G_need_copy : Okf P w K mg base (L2.CX P w) 3 (He.ga K "need_copy") ["history", "copy"] (sp_need_copy K)) (G_House_history : Okf P w K mg base CX0 1 (gAd K "House" "history") ["self"] (sp_House_history K)) (G_is_whole : Okf P w K mg base CX0 1 (He.ga K "is_whole") ["value", "least", "most"] (sp_is_whole K)) (G_House_need_room : Okf P w K mg base CX0 3 (He.ma K (He.ga K "House") "need_room") ["self"] (sp_House_need_room K)) (G_House_keep : Okf P w K mg base CX0 1 (He.ma K (He.ga K "House") "keep") ["self", "step"] (sp_House_keep K)) (G_House_shown : Okf P w K mg base CX0 4 (He.ma K (He.ga K "House") "shown") ["self", "number"] (sp_House_shown K)) {cdv : Value} {A : Around} {outer : List Env} {s : Shared} {H : Hp} {E : XK}
    (hr : Room 4 (A.deeper (envOfC "House.do" (defScope s_House_do) s.heap.objs.size (He.ma K (He.ga K "House") "do") cdv))) :
    PSs (cxOf (L2.CX P w) P w K mg base N_House_do "House.do" (defScope s_House_do) (He.ma K (He.ga K "House") "do") cdv A outer s H E) (defBody s_House_do) (t_House_do K E) :=
  (pss_cons (ps_expr (pe_callF G_need_copy (hr.mono (by decide)) (by rfl) T.g_need_copy (passes_call (takes_of rfl rfl rfl rfl) (fun _ _ _ _ h => h)) (pa_cons (pe_propF (pv 0) T.c_House T.p_House_history G_House_history (hr.mono (by decide)) pass0 rfl) (pa_cons (pv 1) pa_nil))))
  (pss_cons (ps_if (pt_not (pt_val (pe_callF G_is_whole (hr.mono (by decide)) (by rfl) T.g_is_whole pass0 (pa_cons (pv 2) (pa_cons pe_int (pa_cons (pe_op op_sub (pe_callB call_len9 (by rfl) T.f_len PySem.boot_len (pa_cons (pe_ix ix_seq (pe_fld (pv 0) rfl) pe_int (fun _ _ => rfl)) pa_nil)) pe_int) pa_nil)))))) (pss_one ps_never) pss_nil)
  (pss_cons (ps_expr (pe_methF0 (pv 0) T.c_House T.m_House_need_room G_House_need_room (hr.mono (by decide)) pass0))
  (pss_cons (ps_expr (pe_methF (pv 0) T.c_House T.m_House_keep G_House_keep (hr.mono (by decide)) pass0 (pa_cons (pe_tup (pa_cons (pe_gs (by rfl) T.s_DO) (pa_cons (pv 1) (pa_cons (pv 2) pa_nil)))) pa_nil)))
  (pss_one (ps_ret (pe_methF (pv 0) T.c_House T.m_House_shown G_House_shown (hr.mono (by decide)) pass0 (pa_cons (pv 1) pa_nil))))))))

abbrev N_House_hear : List Str := ["self", "number", "other"]
theorem sc_House_hear : FnScope N_House_hear ["self", "number", "other"] (defScope s_House_hear) := ⟨rfl, rfl, rfl, by decide +kernel, rfl, by decide +kernel, by decide +kernel⟩
def t_House_hear (K : PySem.W.Frag) : TS :=
  (tSeq (tDrop (tCall (sp_need_copy K) [] E0 (tCons (tProp (He.ga K "House") (sp_House_history K) [] E0 (tVar 0)) (tCons (tVar 1) tNil))))
  (tSeq (tIfS (tTest (tOp (rEq9 K) (tCall (sp_need_copy K) [] E0 (tCons (tProp (He.ga K "House") (sp_House_history K) [] E0 (tVar 0)) (tCons (tVar 2) tNil))) (tVar 1))) tNever tNext)
  (tSeq (tDrop (tMeth (He.ga K "House") "need_room" (sp_House_need_room K) [] E0 (tVar 0) tNil))
  (tSeq (tDrop (tMeth (He.ga K "House") "keep" (sp_House_keep K) [] E0 (tVar 0) (tCons (tTup (tCons (tC (.str "hear")) (tCons (tVar 1) (tCons (tVar 2) tNil)))) tNil)))
  (tRet (tMeth (He.ga K "House") "shown" (sp_House_shown K) [] E0 (tVar 0) (tCons (tVar 1) tNil)))))))
theorem pd_House_hear {P : Program} {w : World} {K : PySem.W.Frag} {mg : Str → Option Value} {base : Heap} (T : Txt K mg) (G_need_copy : Okf P w K mg base (L2.CX P w) 3 (He.ga K "need_copy") ["history", "copy"] (sp_need_copy K)) (G_House_history : Okf P w K mg base CX0 1 (gAd K "House" "history") ["self"] (sp_House_history K)) (G_House_need_room : Okf P w K mg base CX0 3 (He.ma K (He.ga K "House") "need_room") ["self"] (sp_House_need_room K)) (G_House_keep : Okf P w K mg base CX0 1 (He.ma K (He.ga K "House") "keep") ["self", "step"] (sp_House_keep K)) (G_House_shown : Okf P w K mg base CX0 4 (He.ma K (He.ga K "House") "shown") ["self", "number"] (sp_House_shown K)) {cdv : Value} {A : Around} {outer : List Env} {s : Shared} {H : Hp} {E : XK}
    (hr : Room 4 (A.deeper (envOfC "House.hear" (defScope s_House_hear) s.heap.objs.size (He.ma K (He.ga K "House") "hear") cdv))) :
    PSs (cxOf CX0 P w K mg base N_House_hear "House.hear" (defScope s_House_hear) (He.ma K (He.ga K "House") "hear") cdv A outer s H E).nox (defBody s_House_hear) (t_House_hear K) :=
  (pss_cons (ps_expr (pe_callF G_need_copy (hr.mono (by decide)) (by rfl) T.g_need_copy passL (pa_cons (pe_propF (pv 0) T.c_House T.p_House_history G_House_history (hr.mono (by decide)) pass0 rfl) (pa_cons (pv 1) pa_nil))))
  (pss_cons (ps_if (pt_cmpR (op_eq9 hr.units) (pe_callF G_need_copy (hr.mono (by decide)) (by rfl) T.g_need_copy passL (pa_cons (pe_propF (pv 0) T.c_House T.p_House_history G_House_history (hr.mono (by decide)) pass0 rfl) (pa_cons (pv 2) pa_nil))) (pv 1) (nomark _)) (pss_one ps_never) pss_nil)
  (pss_cons (ps_expr (pe_methF0 (pv 0) T.c_House T.m_House_need_room G_House_need_room (hr.mono (by decide)) pass0))
  (pss_cons (ps_expr (pe_methF (pv 0) T.c_House T.m_House_keep G_House_keep (hr.mono (by decide)) pass0 (pa_cons (pe_tup (pa_cons (pe_gs (by rfl) T.s_HEAR) (pa_cons (pv 1) (pa_cons (pv 2) pa_nil)))) pa_nil)))
  (pss_one (ps_ret (pe_methF (pv 0) T.c_House T.m_House_shown G_House_shown (hr.mono (by decide)) pass0 (pa_cons (pv 1) pa_nil))))))))

abbrev N_House_undo : List Str := ["self"]
theorem sc_House_undo : FnScope N_House_undo ["self"] (defScope s_House_undo) := ⟨rfl, rfl, rfl, by decide +kernel, rfl, by decide +kernel, by decide +kernel⟩
def t_House_undo (K : PySem.W.Frag) : TS :=
  (tSeq (tIfS (tTest (tOp (rEq9 K) (tFld K (tVar 0) "past") (tTup tNil))) (tRet (tC (.bl false))) tNext)
  (tSeq (sFld K (tVar 0) (tTup (tCons (tOp (rIx K) (tFld K (tVar 0) "past") (tUn rNeg9 (tC (.int 1)))) (StX.tStar K (tFld K (tVar 0) "later") tNil))) "later")
  (tSeq (sFld K (tVar 0) (tSl (rSl9 K) (tFld K (tVar 0) "past") tNoPart (tPart (tUn rNeg9 (tC (.int 1))))) "past")
  (tRet (tC (.bl true))))))
theorem pd_House_undo {P : Program} {w : World} {K : PySem.W.Frag} {mg : Str → Option Value} {base : Heap} (T : Txt K mg)  {cdv : Value} {A : Around} {outer : List Env} {s : Shared} {H : Hp} {E : XK}
    (hr : Room 0 (A.deeper (envOfC "House.undo" (defScope s_House_undo) s.heap.objs.size (He.ma K (He.ga K "House") "undo") cdv))) :
    PSs (cxOf CX0 P w K mg base N_House_undo "House.undo" (defScope s_House_undo) (He.ma K (He.ga K "House") "undo") cdv A outer s H E).nox (defBody s_House_undo) (t_House_undo K) :=
  (pss_cons (ps_if (pt_cmpR (op_eq9 hr.units) (pe_fld (pv 0) rfl) (pe_tup pa_nil) (nomark _)) (pss_one (ps_ret pe_bl)) pss_nil)
  (pss_cons (ps_fld (pv 0) (pe_tup (pa_cons (pe_ix ix_seq (pe_fld (pv 0) rfl) (pe_un un_neg pe_int) (fun _ _ => rfl)) (StX.pa_star (pe_fld (pv 0) rfl) pa_nil))) rfl)
  (pss_cons (ps_fld (pv 0) (pe_slice sl_9 (pe_fld (pv 0) rfl) po_none (po_some (pe_un un_neg pe_int))) rfl)
  (pss_one (ps_ret pe_bl)))))

abbrev N_House_redo : List Str := ["self"]
theorem sc_House_redo : FnScope N_House_redo ["self"] (defScope s_House_redo) := ⟨rfl, rfl, rfl, by decide +kernel, rfl, by decide +kernel, by decide +kernel⟩
def t_House_redo (K : PySem.W.Frag) : TS :=
  (tSeq (tIfS (tTest (tOp (rEq9 K) (tFld K (tVar 0) "later") (tTup tNil))) (tRet (tC (.bl false))) tNext)
  (tSeq (sFld K (tVar 0) (tTup (StX.tStar K (tFld K (tVar 0) "past") (tCons (tOp (rIx K) (tFld K (tVar 0) "later") (tC (.int 0))) tNil))) "past")
  (tSeq (sFld K (tVar 0) (tSl (rSl9 K) (tFld K (tVar 0) "later") (tPart (tC (.int 1))) tNoPart) "later")
  (tRet (tC (.bl true))))))
theorem pd_House_redo {P : Program} {w : World} {K : PySem.W.Frag} {mg : Str → Option Value} {base : Heap} (T : Txt K mg)  {cdv : Value} {A : Around} {outer : List Env} {s : Shared} {H : Hp} {E : XK}
    (hr : Room 0 (A.deeper (envOfC "House.redo" (defScope s_House_redo) s.heap.objs.size (He.ma K (He.ga K "House") "redo") cdv))) :
    PSs (cxOf CX0 P w K mg base N_House_redo "House.redo" (defScope s_House_redo) (He.ma K (He.ga K "House") "redo") cdv A outer s H E).nox (defBody s_House_redo) (t_House_redo K) :=
  (pss_cons (ps_if (pt_cmpR (op_eq9 hr.units) (pe_fld (pv 0) rfl) (pe_tup pa_nil) (nomark _)) (pss_one (ps_ret pe_bl)) pss_nil)
  (pss_cons (ps_fld (pv 0) (pe_tup (StX.pa_star (pe_fld (pv 0) rfl) (pa_cons (pe_ix ix_seq (pe_fld (pv 0) rfl) pe_int (fun _ _ => rfl)) pa_nil))) rfl)
  (pss_cons (ps_fld (pv 0) (pe_slice sl_9 (pe_fld (pv 0) rfl) (po_some pe_int) po_none) rfl)
  (pss_one (ps_ret pe_bl)))))

abbrev N_House_copy : List Str := ["self", "found"]
theorem sc_House_copy : FnScope N_House_copy ["self"] (defScope s_House_copy) := ⟨rfl, rfl, rfl, by decide +kernel, rfl, by decide +kernel, by decide +kernel⟩
def t_House_copy (K : PySem.W.Frag) : TS :=
  (tSeq (tAsg (tMake (He.ga K "House") (sp_House___init__ K) [] E0 (tCons (tFld K (tVar 0) "own_kind") (tCons (tFld K (tVar 0) "own_many") tNil))) (gName 1))
  (tSeq (sFld K (tVar 1) (tFld K (tVar 0) "past") "past")
  (tSeq (sFld K (tVar 1) (tFld K (tVar 0) "later") "later")
  (tRet (tVar 1)))))
theorem pd_House_copy {P : Program} {w : World} {K : PySem.W.Frag} {mg : Str → Option Value} {base : Heap} (T : Txt K mg) (G_House___init__ : Okf P w K mg base CX0 5 (He.ma K (He.ga K "House") "__init__") ["self", "kind", "many"] (sp_House___init__ K)) {cdv : Value} {A : Around} {outer : List Env} {s : Shared} {H : Hp} {E : XK}
    (hr : Room 6 (A.deeper (envOfC "House.copy" (defScope s_House_copy) s.heap.objs.size (He.ma K (He.ga K "House") "copy") cdv))) :
    PSs (cxOf CX0 P w K mg base N_House_copy "House.copy" (defScope s_House_copy) (He.ma K (He.ga K "House") "copy") cdv A outer s H E).nox (defBody s_House_copy) (t_House_copy K) :=
  (pss_cons (ps_set (i := 1) sc_House_copy.nd rfl (Or.inl rfl) (pe_makeF T.mk_House G_House___init__ (hr.mono (by decide)) (by rfl) T.g_House pass0 (pa_cons (pe_fld (pv 0) rfl) (pa_cons (pe_fld (pv 0) rfl) pa_nil))))
  (pss_cons (ps_fld (pv 1) (pe_fld (pv 0) rfl) rfl)
  (pss_cons (ps_fld (pv 1) (pe_fld (pv 0) rfl) rfl)
  (pss_one (ps_ret (pv 1))))))

abbrev N_House_trial : List Str := ["self"]
theorem sc_House_trial : FnScope N_House_trial ["self"] (defScope s_House_trial) := ⟨rfl, rfl, rfl, by decide +kernel, rfl, by decide +kernel, by decide +kernel⟩
def t_House_trial (K : PySem.W.Frag) : TS :=
  (tRet (tMake (He.ga K "Trial") (sp_Trial___init__ K) [] E0 (tCons (tVar 0) tNil)))
theorem pd_House_trial {P : Program} {w : World} {K : PySem.W.Frag} {mg : Str → Option Value} {base : Heap} (T : Txt K mg) (G_Trial___init__ : Okf P w K mg base CX0 1 (He.ma K (He.ga K "Trial") "__init__") ["self", "held_house"] (sp_Trial___init__ K)) {cdv : Value} {A : Around} {outer : List Env} {s : Shared} {H : Hp} {E : XK}
    (hr : Room 2 (A.deeper (envOfC "House.trial" (defScope s_House_trial) s.heap.objs.size (He.ma K (He.ga K "House") "trial") cdv))) :
    PSs (cxOf CX0 P w K mg base N_House_trial "House.trial" (defScope s_House_trial) (He.ma K (He.ga K "House") "trial") cdv A outer s H E).nox (defBody s_House_trial) (t_House_trial K) :=
  (pss_one (ps_ret (pe_makeF T.mk_Trial G_Trial___init__ (hr.mono (by decide)) (by rfl) T.g_Trial pass0 (pa_cons (pv 0) pa_nil))))

abbrev N_House___eq__ : List Str := ["self", "other"]
theorem sc_House___eq__ : FnScope N_House___eq__ ["self", "other"] (defScope s_House___eq__) := ⟨rfl, rfl, rfl, by decide +kernel, rfl, by decide +kernel, by decide +kernel⟩
def t_House___eq__ (K : PySem.W.Frag) : TS :=
  (tSeq (tIfS (tOr (tNot (tB (tCB (rIsi K) (tCons (tVar 1) (tCons (tC (.ref (He.ga K "House"))) tNil))))) (tTest (tOp (rNe9 K) (tFld K (tVar 0) "own_kind") (tFld K (tVar 1) "own_kind")))) (tRet (tC (.bl false))) tNext)
  (tRet (tAndV (tOp (rEq9 K) (tFld K (tVar 0) "own_many") (tFld K (tVar 1) "own_many")) (tOp (rEq9 K) (tFld K (tVar 0) "past") (tFld K (tVar 1) "past")))))
theorem pd_House___eq__ {P : Program} {w : World} {K : PySem.W.Frag} {mg : Str → Option Value} {base : Heap} (T : Txt K mg)  {cdv : Value} {A : Around} {outer : List Env} {s : Shared} {H : Hp} {E : XK}
    (hr : Room 0 (A.deeper (envOfC "House.__eq__" (defScope s_House___eq__) s.heap.objs.size (He.ma K (He.ga K "House") "__eq__") cdv))) :
    PSs (cxOf CX0 P w K mg base N_House___eq__ "House.__eq__" (defScope s_House___eq__) (He.ma K (He.ga K "House") "__eq__") cdv A outer s H E).nox (defBody s_House___eq__) (t_House___eq__ K) :=
  (pss_cons (ps_if (PW.pt (pw_or (pt_not (pt_val (pe_callB call_isi (by rfl) T.f_isinstance (by decide +kernel) (pa_cons (pv 1) (pa_cons (pe_glob (v := .ref (He.ga K "House")) (by rfl) T.g_House rfl) pa_nil))))) (pw_or1 (pt_cmpR (op_ne9 hr.units) (pe_fld (pv 0) rfl) (pe_fld (pv 1) rfl) (nomark _))))) (pss_one (ps_ret pe_bl)) pss_nil)
  (pss_one (ps_ret (pe_and (pe_cmpR (op_eq9 hr.units) (pe_fld (pv 0) rfl) (pe_fld (pv 1) rfl) (nomark _)) (pe_one (pe_cmpR (op_eq9 hr.units) (pe_fld (pv 0) rfl) (pe_fld (pv 1) rfl) (nomark _)))))))
end W9
set_option maxHeartbeats 4000000
/-! the houses' methods: their readings keep their promises -/
namespace W9
open PySem PySem.Spec PyProof.Rows L2
variable {K : PySem.W.Frag} {mg : Str → Option Value} {vs : List V} {H : Hp} {Q : VK} {E : XK}
theorem ExB.rfl' {a : Addr} {H : Hp} : ExB a H H := fun _ _ _ h => h
theorem Turned.of_ex {a : Addr} {h : Hs} {H H1 H2 : Hp} (e : Ex H H1) (t : Turned K a h H1 H2) : Turned K a h H H2 := ⟨e.t.trans t.1, (ExB.of e).trans t.2.1, t.2.2⟩
theorem Turned.ex {a : Addr} {h : Hs} {H H1 H2 : Hp} (t : Turned K a h H H1) (e : Ex H1 H2) : Turned K a h H H2 := ⟨t.1.trans e.t, t.2.1.trans (ExB.of e), t.2.2.ext e⟩
theorem Turned.trans {a : Addr} {h h' : Hs} {H H1 H2 : Hp} (t : Turned K a h H H1) (u : Turned K a h' H1 H2) : Turned K a h' H H2 := ⟨t.1.trans u.1, t.2.1.trans u.2.1, u.2.2⟩
section
variable {Γ : Cxt} {P : Hp → Prop} {te to tv : TE} {d : Dt} {D : Ends} {σ : L2.St} {a t C dx : Addr} {h : Hs} {f : Str} {fs : List (Str × V)} {p l p' : List Stp}
/-- o.f = e, o as it stands -/
theorem s_fldI (hv : Pu tv Γ P d) (ho : Pu to Γ P (dr a)) [Stb P] (s : Sl σ H Γ) (p : P H) (hP : ∀ H, P H → H a = some (.ins C dx fs)) (c : Cls K C) (n : NoAttr K C f) (hl : fs.length < 1000)
    (k : ∀ y H2, Ex H H2 → TD H2 y d → P H2 → H2 a = some (.ins C dx fs) → D.nx σ (upd H2 a (.ins C dx (putF f y fs)))) : sFld K to tv f D σ H :=
  hv σ H s p _ fun y H1 e1 h1 => ho σ H1 (s.ext e1.t) (Stb.ext e1 p) _ fun x H2 e2 h2 =>
    have pa := hP H2 (Stb.ext (e1.trans e2) p)
    ⟨a, C, dx, fs, h2.v_eq, pa, c, n, hl, k y H2 (e1.trans e2) (h1.ext e2.t) (Stb.ext (e1.trans e2) p) pa⟩
theorem fl_kind (T : Txt K mg) (he : Pu te Γ P (dr a)) [Stb P] (hP : ∀ H, P H → HsAt K H a h) : Pu (tFld K te "own_kind") Γ P (kdD h.k) := pu_fld he T.c_House T.n_House_own_kind fun H p => by
  obtain ⟨dx, xk, xp, xl, h1, h2, h3, h4⟩ := hP H p
  exact ⟨dx, _, xk, h1, rfl, h2⟩
theorem fl_many (T : Txt K mg) (he : Pu te Γ P (dr a)) [Stb P] (hP : ∀ H, P H → HsAt K H a h) : Pu (tFld K te "own_many") Γ P (dn h.m) := pu_fld he T.c_House T.n_House_own_many fun H p => by
  obtain ⟨dx, xk, xp, xl, h1, h2, h3, h4⟩ := hP H p
  exact ⟨dx, _, _, h1, rfl, .leaf _⟩
theorem fl_past (T : Txt K mg) (he : Pu te Γ P (dr a)) [Stb P] (hP : ∀ H, P H → HsAt K H a h) : Pu (tFld K te "past") Γ P (stepsD h.past) := pu_fld he T.c_House T.n_House_past fun H p => by
  obtain ⟨dx, xk, xp, xl, h1, h2, h3, h4⟩ := hP H p
  exact ⟨dx, _, xp, h1, rfl, h3⟩
theorem fl_later (T : Txt K mg) (he : Pu te Γ P (dr a)) [Stb P] (hP : ∀ H, P H → HsAt K H a h) : Pu (tFld K te "later") Γ P (stepsD h.later) := pu_fld he T.c_House T.n_House_later fun H p => by
  obtain ⟨dx, xk, xp, xl, h1, h2, h3, h4⟩ := hP H p
  exact ⟨dx, _, xl, h1, rfl, h4⟩
theorem s_past (T : Txt K mg) (hv : Pu tv Γ P (stepsD p')) (ho : Pu to Γ P (dr a)) [Stb P] (s : Sl σ H Γ) (p : P H) (hP : ∀ H, P H → HsAt K H a h) (k : ∀ H', Turned K a { h with past := p' } H H' → D.nx σ H') : sFld K to tv "past" D σ H :=
  hv σ H s p _ fun y H1 e1 h1 => ho σ H1 (s.ext e1.t) (Stb.ext e1 p) _ fun x H2 e2 h2 => by
    obtain ⟨dx, xk, xp, xl, h3, h4, h5, h6⟩ := hP H2 (Stb.ext (e1.trans e2) p)
    have et := ext_mut (o := .ins (He.ga K "House") dx (putF "past" y [("own_kind", xk), ("own_many", .int (h.m : Int)), ("past", xp), ("later", xl)])) h3 fun _ z => nomatch z
    refine ⟨a, _, dx, _, h2.v_eq, h3, T.c_House, T.n_House_past, (show 4 < 1000 by decide), k _ ⟨(Ex.t (e1.trans e2)).trans et, (ExB.of (e1.trans e2)).trans ExB.upd, dx, xk, y, xl, upd_same, h4.ext et, (h1.ext e2.t).ext et, h6.ext et⟩⟩
theorem s_later (T : Txt K mg) (hv : Pu tv Γ P (stepsD p')) (ho : Pu to Γ P (dr a)) [Stb P] (s : Sl σ H Γ) (p : P H) (hP : ∀ H, P H → HsAt K H a h) (k : ∀ H', Turned K a { h with later := p' } H H' → D.nx σ H') : sFld K to tv "later" D σ H :=
  hv σ H s p _ fun y H1 e1 h1 => ho σ H1 (s.ext e1.t) (Stb.ext e1 p) _ fun x H2 e2 h2 => by
    obtain ⟨dx, xk, xp, xl, h3, h4, h5, h6⟩ := hP H2 (Stb.ext (e1.trans e2) p)
    have et := ext_mut (o := .ins (He.ga K "House") dx (putF "later" y [("own_kind", xk), ("own_many", .int (h.m : Int)), ("past", xp), ("later", xl)])) h3 fun _ z => nomatch z
    refine ⟨a, _, dx, _, h2.v_eq, h3, T.c_House, T.n_House_later, (show 4 < 1000 by decide), k _ ⟨(Ex.t (e1.trans e2)).trans et, (ExB.of (e1.trans e2)).trans ExB.upd, dx, xk, xp, y, upd_same, h4.ext et, h5.ext et, (h1.ext e2.t).ext et⟩⟩
theorem fl_held (T : Txt K mg) (he : Pu te Γ P (dr t)) [Stb P] (hP : ∀ H, P H → TrAt K H t a p l) : Pu (tFld K te "held_house") Γ P (dr a) := pu_fld he T.c_Trial T.n_Trial_held_house fun H q => by
  obtain ⟨dx, xp, xl, h1, h2, h3⟩ := hP H q
  exact ⟨dx, _, _, h1, rfl, .leaf _⟩
theorem fl_kp (T : Txt K mg) (he : Pu te Γ P (dr t)) [Stb P] (hP : ∀ H, P H → TrAt K H t a p l) : Pu (tFld K te "kept_past") Γ P (stepsD p) := pu_fld he T.c_Trial T.n_Trial_kept_past fun H q => by
  obtain ⟨dx, xp, xl, h1, h2, h3⟩ := hP H q
  exact ⟨dx, _, _, h1, rfl, h2⟩
theorem fl_kl (T : Txt K mg) (he : Pu te Γ P (dr t)) [Stb P] (hP : ∀ H, P H → TrAt K H t a p l) : Pu (tFld K te "kept_later") Γ P (stepsD l) := pu_fld he T.c_Trial T.n_Trial_kept_later fun H q => by
  obtain ⟨dx, xp, xl, h1, h2, h3⟩ := hP H q
  exact ⟨dx, _, _, h1, rfl, h3⟩
theorem s_kp (T : Txt K mg) (hv : Pu tv Γ P (stepsD p')) (ho : Pu to Γ P (dr t)) [Stb P] (s : Sl σ H Γ) (q : P H) (hP : ∀ H, P H → TrAt K H t a p l) (k : ∀ H', ExT H H' → ExB t H H' → TrAt K H' t a p' l → D.nx σ H') : sFld K to tv "kept_past" D σ H :=
  hv σ H s q _ fun y H1 e1 h1 => ho σ H1 (s.ext e1.t) (Stb.ext e1 q) _ fun x H2 e2 h2 => by
    obtain ⟨dx, xp, xl, h3, h4, h5⟩ := hP H2 (Stb.ext (e1.trans e2) q)
    have et := ext_mut (o := .ins (He.ga K "Trial") dx (putF "kept_past" y [("held_house", .ref a), ("kept_past", xp), ("kept_later", xl)])) h3 fun _ z => nomatch z
    exact ⟨t, _, dx, _, h2.v_eq, h3, T.c_Trial, T.n_Trial_kept_past, (show 3 < 1000 by decide), k _ ((Ex.t (e1.trans e2)).trans et) ((ExB.of (e1.trans e2)).trans ExB.upd) ⟨dx, y, xl, upd_same, (h1.ext e2.t).ext et, h5.ext et⟩⟩
theorem s_kl (T : Txt K mg) (hv : Pu tv Γ P (stepsD p')) (ho : Pu to Γ P (dr t)) [Stb P] (s : Sl σ H Γ) (q : P H) (hP : ∀ H, P H → TrAt K H t a p l) (k : ∀ H', ExT H H' → ExB t H H' → TrAt K H' t a p p' → D.nx σ H') : sFld K to tv "kept_later" D σ H :=
  hv σ H s q _ fun y H1 e1 h1 => ho σ H1 (s.ext e1.t) (Stb.ext e1 q) _ fun x H2 e2 h2 => by
    obtain ⟨dx, xp, xl, h3, h4, h5⟩ := hP H2 (Stb.ext (e1.trans e2) q)
    have et := ext_mut (o := .ins (He.ga K "Trial") dx (putF "kept_later" y [("held_house", .ref a), ("kept_past", xp), ("kept_later", xl)])) h3 fun _ z => nomatch z
    exact ⟨t, _, dx, _, h2.v_eq, h3, T.c_Trial, T.n_Trial_kept_later, (show 3 < 1000 by decide), k _ ((Ex.t (e1.trans e2)).trans et) ((ExB.of (e1.trans e2)).trans ExB.upd) ⟨dx, xp, y, upd_same, h4.ext et, (h1.ext e2.t).ext et⟩⟩
/-- a property, a method of a house that gives data -/
theorem pu_propH {f : Hs → Dt} (he : Pu te Γ P (dr a)) [Stb P] (hP : ∀ H, P H → HsAt K H a h) (ok : h.Ok) : Pu (tProp (He.ga K "House") (spH K f) [] E te) Γ P (f h) := pu_prop he fun H p => by
  refine ⟨?_, fun Q q => ⟨a, h, rfl, hP H p, ok, q⟩⟩
  obtain ⟨dx, xk, xp, xl, h1, _⟩ := hP H p
  exact ⟨dx, _, h1⟩
theorem hs_no (T : HsAt K H a h) {m : Str} (hm : (m == ("own_kind" : Str)) = false ∧ (m == ("own_many" : Str)) = false ∧ (m == ("past" : Str)) = false ∧ (m == ("later" : Str)) = false) : ∃ dx fs, H a = some (.ins (He.ga K "House") dx fs) ∧ fs.lookup m = none := by
  obtain ⟨dx, xk, xp, xl, h1, _⟩ := T
  refine ⟨dx, _, h1, ?_⟩
  simp [List.lookup, hm.1, hm.2.1, hm.2.2.1, hm.2.2.2]
theorem pu_methH {f : Hs → Dt} {m : Str} (he : Pu te Γ P (dr a)) [Stb P] (hP : ∀ H, P H → HsAt K H a h) (ok : h.Ok) (hm : (m == ("own_kind" : Str)) = false ∧ (m == ("own_many" : Str)) = false ∧ (m == ("past" : Str)) = false ∧ (m == ("later" : Str)) = false := by decide) :
    Pu (tMeth (He.ga K "House") m (spH K f) [] E te tNil) Γ P (f h) := pu_meth (l := []) he pa_n (fun H xs p hx Q q => by
  cases hx
  exact ⟨a, h, rfl, hP H p, ok, q⟩) fun H p => hs_no (hP H p) hm
theorem pu_methHi {f : Hs → Nat → Dt} {m : Str} {ti : TE} {i : Nat} (he : Pu te Γ P (dr a)) (hi : Pu ti Γ P (dn i)) [Stb P] (hP : ∀ H, P H → HsAt K H a h) (ok : h.Ok) (him : i < h.m) (hm : (m == ("own_kind" : Str)) = false ∧ (m == ("own_many" : Str)) = false ∧ (m == ("past" : Str)) = false ∧ (m == ("later" : Str)) = false := by decide) :
    Pu (tMeth (He.ga K "House") m (spHi K f) [] E te (tCons ti tNil)) Γ P (f h i) := pu_meth (l := [dn i]) he (pa_c hi pa_n) (fun H xs p hx Q q => by
  have ex : xs = [.int (i : Int)] := TDs.ofLeaves (vs := [.int (i : Int)]) hx
  subst ex
  exact ⟨a, h, i, rfl, hP H p, ok, him, q⟩) fun H p => hs_no (hP H p) hm
/-- need_copy of a number that is one -/
theorem pu_need {ti : TE} {i m : Nat} {st : List Stp} (he : Pu te Γ P (hisD m st)) (hi : Pu ti Γ P (dn i)) [Stb P] (m1 : 1 ≤ m) (him : i < m) : Pu (tCall (sp_need_copy K) [] E (tCons te (tCons ti tNil))) Γ P (dn i) := fun σ H s p Q q =>
  he σ H s p _ fun x H1 e1 h1 => hi σ H1 (s.ext e1.t) (Stb.ext e1 p) _ fun y H2 e2 h2 =>
    ⟨m, st, (i : Int), .cons (h1.ext e2.t) (.cons h2 .nil), m1, fun _ H3 e3 => q _ H3 ((e1.trans e2).trans e3) (.leaf _), fun z => absurd ⟨by omega, by omega⟩ z⟩
end
/-- a slot list at a method's entry: self, then data -/
theorem sl_self {N : List Str} {a : Addr} {l : List Dt} {xs : List V} (h : TDs H xs l) (hl : l.length + 1 ≤ N.length) : Sl (L2.start N (.ref a :: xs)) H (stC N.length (dr a :: l)) := sl_start (.cons (.leaf _) h) hl
theorem rd_need_copy (h : sp_need_copy K vs H Q E) : t_need_copy K E (Dn Q) (L2.start N_need_copy vs) H := by
  obtain ⟨m, st, i, hl, m1, h1, h2⟩ := h
  have s := sl_start (N := N_need_copy) hl (Nat.le_of_ble_eq_true rfl)
  have tst : PuT (tNot (tB (tCall (sp_is_whole K) [] E0 (tCons (tVar 1) (tCons (tC (.int 0)) (tCons (tOp rSub9 (tOp (rIx K) (tVar 0) (tC (.int 0))) (tC (.int 1))) tNil)))))) (stC N_need_copy.length [hisD m st, di i]) (fun _ => True) (!(decide (0 ≤ i) && decide (i ≤ (m : Int) - 1))) :=
    pt_nt (pt_B (pu_call (pa_c (pu_var rfl) (pa_c pu_c (pa_c (pu_op (pu_ix (pu_var rfl) rfl) pu_c rv_i0) pa_n))) ⟨_, _, _, rfl, rfl⟩))
  refine s_seq (s_if tst s trivial (fun hb H1 e1 => ?_) fun hb H1 e1 => s_next ?_)
  · have hn : ¬(0 ≤ i ∧ i < (m : Int)) := fun z => by
      rw [decide_eq_true z.1, decide_eq_true (by omega)] at hb
      cases hb
    refine pu_var (P := fun _ => True) (d := di i) rfl _ H1 (s.ext e1.t) trivial _ fun x H2 e2 hx => ?_
    refine ⟨x, rfl, fun d hd => h2 hn _ d ((e1.trans e2).trans (ex_new hd))⟩
  · have hy : 0 ≤ i ∧ i < (m : Int) := by
      have z : (decide (0 ≤ i) && decide (i ≤ (m : Int) - 1)) = true := by
        cases q : (decide (0 ≤ i) && decide (i ≤ (m : Int) - 1)) with
        | true => rfl
        | false => rw [q] at hb; cases hb
      have z2 := Bool.and_eq_true_iff.mp z
      have a1 := of_decide_eq_true z2.1
      have a2 := of_decide_eq_true z2.2
      omega
    refine s_ret (P := fun _ => True) (pu_var rfl) (s.ext e1.t) trivial fun x H2 e2 hx => ?_
    cases hx.v_eq
    exact h1 hy H2 (e1.trans e2)

theorem steps_nil : stepsD [] = .tup [] := rfl
theorem rd_Trial___init__ (T : Txt K mg) (h : sp_Trial___init__ K vs H Q E) : t_Trial___init__ K (Dn Q) (L2.start N_Trial___init__ vs) H := by
  obtain ⟨t, a, dx, rfl, ht, q⟩ := h
  have s : Sl (L2.start N_Trial___init__ [.ref t, .ref a]) H [some (dr t), some (dr a)] := sl_self (l := [dr a]) (.cons (.leaf _) .nil) (Nat.le_of_ble_eq_true rfl)
  refine s_seq (s_fldI (P := fun H' => H' t = some (.ins (He.ga K "Trial") dx [])) (pu_var (d := dr a) rfl) (pu_var rfl) s ht (fun _ h => h) T.c_Trial T.n_Trial_held_house (by show 0 < 1000; omega) fun y H1 e1 h1 _ p1 => ?_)
  have x1 := ext_mut (o := .ins (He.ga K "Trial") dx (putF "held_house" y [])) p1 fun _ z => nomatch z
  cases h1.v_eq
  refine s_seq (s_fldI (P := fun H' => H' t = some (.ins (He.ga K "Trial") dx [("held_house", .ref a)])) (pu_tup pa_n (by simp)) (pu_var rfl) ((s.ext e1.t).ext x1) upd_same (fun _ h => h) T.c_Trial T.n_Trial_kept_past (by show 1 < 1000; omega) fun y2 H2 e2 h2 _ p2 => ?_)
  have x2 := ext_mut (o := .ins (He.ga K "Trial") dx (putF "kept_past" y2 [("held_house", .ref a)])) p2 fun _ z => nomatch z
  refine s_fldI (P := fun H' => H' t = some (.ins (He.ga K "Trial") dx [("held_house", .ref a), ("kept_past", y2)])) (pu_tup pa_n (by simp)) (pu_var rfl) ((((s.ext e1.t).ext x1).ext e2.t).ext x2) upd_same (fun _ h => h) T.c_Trial T.n_Trial_kept_later (by show 2 < 1000; omega) fun y3 H3 e3 h3 _ p3 => ?_
  have x3 := ext_mut (o := .ins (He.ga K "Trial") dx (putF "kept_later" y3 [("held_house", .ref a), ("kept_past", y2)])) p3 fun _ z => nomatch z
  refine q _ ((((e1.t.trans x1).trans (e2.t.trans x2)).trans e3.t).trans x3) ?_ ⟨dx, y2, y3, upd_same, (((h2.ext x2).ext e3.t).ext x3), h3.ext x3⟩
  exact ((((ExB.of e1).trans ExB.upd).trans ((ExB.of e2).trans ExB.upd)).trans (ExB.of e3)).trans ExB.upd
theorem rd_Trial___enter__ (T : Txt K mg) (h : sp_Trial___enter__ K vs H Q E) : t_Trial___enter__ K (Dn Q) (L2.start N_Trial___enter__ vs) H := by
  obtain ⟨t, a, p, l, h, rfl, ht, ha, nta, q⟩ := h
  have s : Sl (L2.start N_Trial___enter__ [.ref t]) H [some (dr t)] := sl_self (l := []) .nil (Nat.le_of_ble_eq_true rfl)
  have nat : a ≠ t := fun z => nta z.symm
  refine s_seq (s_kp (P := fun H' => TrAt K H' t a p l ∧ HsAt K H' a h) T (fl_past T (fl_held T (pu_var rfl) fun _ h => h.1) fun _ h => h.2) (pu_var rfl) s ⟨ht, ha⟩ (fun _ h => h.1) fun H1 x1 b1 t1 => ?_)
  have a1 := ha.but b1 x1 nat
  refine s_seq (s_kl (P := fun H' => TrAt K H' t a h.past l ∧ HsAt K H' a h) T (fl_later T (fl_held T (pu_var rfl) fun _ h => h.1) fun _ h => h.2) (pu_var rfl) (s.ext x1) ⟨t1, a1⟩ (fun _ h => h.1) fun H2 x2 b2 t2 => ?_)
  have a2 := a1.but b2 x2 nat
  refine s_ret (P := fun H' => TrAt K H' t a h.past h.later) (fl_held T (pu_var rfl) fun _ h => h) ((s.ext x1).ext x2) t2 fun x H3 e3 h3 => ?_
  cases h3.v_eq
  exact q H3 ((x1.trans x2).trans e3.t) ((b1.trans b2).trans (ExB.of e3)) (t2.ext e3) (a2.ext e3)
theorem rd_Trial___exit__ (T : Txt K mg) (h : sp_Trial___exit__ K vs H Q E) : t_Trial___exit__ K (Dn Q) (L2.start N_Trial___exit__ vs) H := by
  obtain ⟨t, a, p, l, h, x, y, z, rfl, ht, ha, nta, q⟩ := h
  have s : Sl (L2.start N_Trial___exit__ [.ref t, x, y, z]) H [some (dr t), some (.v x), some (.v y), some (.v z)] := sl_self (l := [.v x, .v y, .v z]) (.cons (.leaf _) (.cons (.leaf _) (.cons (.leaf _) .nil))) (Nat.le_of_ble_eq_true rfl)
  refine s_seq (s_past (P := fun H' => TrAt K H' t a p l ∧ HsAt K H' a h) T (fl_kp T (pu_var rfl) fun _ h => h.1) (fl_held T (pu_var rfl) fun _ h => h.1) s ⟨ht, ha⟩ (fun _ h => h.2) fun H1 t1 => ?_)
  have tr1 := ht.but t1.2.1 t1.1 nta
  refine s_later (P := fun H' => TrAt K H' t a p l ∧ HsAt K H' a { h with past := p }) T (fl_kl T (pu_var rfl) fun _ h => h.1) (fl_held T (pu_var rfl) fun _ h => h.1) (s.ext t1.1) ⟨tr1, t1.2.2⟩ (fun _ h => h.2) fun H2 t2 => ?_
  exact q H2 (t1.trans t2)
theorem rd_House___init__ (T : Txt K mg) (h : sp_House___init__ K vs H Q E) : t_House___init__ K (Dn Q) (L2.start N_House___init__ vs) H := by
  obtain ⟨a, dx, xk, k, m, rfl, ha, hk, ok, m1, m16, q⟩ := h
  have s : Sl (L2.start N_House___init__ [.ref a, xk, .int (m : Int)]) H [some (dr a), some (kdD k), some (dn m)] := sl_self (l := [kdD k, dn m]) (.cons hk (.cons (.leaf _) .nil)) (Nat.le_of_ble_eq_true rfl)
  have hm16 : db true = db (decide ((1 : Int) ≤ (m : Int)) && decide ((m : Int) ≤ 16)) := by
    rw [decide_eq_true (by omega), decide_eq_true (by omega)] <;> rfl
  refine s_seq (s_drop (P := fun _ => True) (pu_call (pa_c (pu_var rfl) pa_n) ⟨k, ok, rfl, rfl⟩) s trivial fun H0 e0 => ?_)
  refine s_chk (P := fun _ => True) (pt_nt (b := true) (pt_B (pu_call (pa_c (pu_var rfl) (pa_c pu_c (pa_c pu_c pa_n))) ⟨_, _, _, rfl, hm16⟩))) (s.ext e0.t) trivial fun H1 e1 => ?_
  have e01 := e0.trans e1
  have s1 := s.ext (Ex.t e01)
  refine s_seq (s_fldI (P := fun H' => H' a = some (.ins (He.ga K "House") dx [])) (pu_var (d := kdD k) rfl) (pu_var rfl) s1 (e01 _ _ ha) (fun _ h => h) T.c_House T.n_House_own_kind (by show 0 < 1000; omega) fun y2 H2 e2 h2 _ p2 => ?_)
  have x2 := ext_mut (o := .ins (He.ga K "House") dx (putF "own_kind" y2 [])) p2 fun _ z => nomatch z
  have s2 := (s1.ext e2.t).ext x2
  refine s_seq (s_fldI (P := fun H' => H' a = some (.ins (He.ga K "House") dx [("own_kind", y2)])) (pu_var (d := dn m) rfl) (pu_var rfl) s2 upd_same (fun _ h => h) T.c_House T.n_House_own_many (by show 1 < 1000; omega) fun y3 H3 e3 h3 _ p3 => ?_)
  have x3 := ext_mut (o := .ins (He.ga K "House") dx (putF "own_many" y3 [("own_kind", y2)])) p3 fun _ z => nomatch z
  have s3 := (s2.ext e3.t).ext x3
  cases h3.v_eq
  refine s_seq (s_fldI (P := fun H' => H' a = some (.ins (He.ga K "House") dx [("own_kind", y2), ("own_many", .int (m : Int))])) (pu_tup pa_n (by simp)) (pu_var rfl) s3 upd_same (fun _ h => h) T.c_House T.n_House_past (by show 2 < 1000; omega) fun y4 H4 e4 h4 _ p4 => ?_)
  have x4 := ext_mut (o := .ins (He.ga K "House") dx (putF "past" y4 [("own_kind", y2), ("own_many", .int (m : Int))])) p4 fun _ z => nomatch z
  have s4 := (s3.ext e4.t).ext x4
  refine s_fldI (P := fun H' => H' a = some (.ins (He.ga K "House") dx [("own_kind", y2), ("own_many", .int (m : Int)), ("past", y4)])) (pu_tup pa_n (by simp)) (pu_var rfl) s4 upd_same (fun _ h => h) T.c_House T.n_House_later (by show 3 < 1000; omega) fun y5 H5 e5 h5 _ p5 => ?_
  have x5 := ext_mut (o := .ins (He.ga K "House") dx (putF "later" y5 [("own_kind", y2), ("own_many", .int (m : Int)), ("past", y4)])) p5 fun _ z => nomatch z
  refine q _ ⟨(((((Ex.t e01).trans (e2.t.trans x2)).trans (e3.t.trans x3)).trans (e4.t.trans x4)).trans e5.t).trans x5, ?_, dx, y2, y4, y5, upd_same, ?_, (h4.ext x4).ext (e5.t.trans x5), h5.ext x5⟩
  · exact (((((ExB.of e01).trans ((ExB.of e2).trans ExB.upd)).trans ((ExB.of e3).trans ExB.upd)).trans ((ExB.of e4).trans ExB.upd)).trans (ExB.of e5)).trans ExB.upd
  · exact (((h2.ext x2).ext (e3.t.trans x3)).ext (e4.t.trans x4)).ext (e5.t.trans x5)
section
variable {f : Hs → Dt}
theorem rd_House_table (T : Txt K mg) (h : sp_House_table K vs H Q E) : t_House_table K (Dn Q) (L2.start N_House_table vs) H := by
  obtain ⟨a, h, rfl, ha, ok, q⟩ := h
  exact s_ret (P := fun H' => HsAt K H' a h) (fl_kind T (pu_var rfl) fun _ h => h) (sl_self (l := []) .nil (Nat.le_of_ble_eq_true rfl)) ha q
theorem rd_House_history (T : Txt K mg) (h : sp_House_history K vs H Q E) : t_House_history K (Dn Q) (L2.start N_House_history vs) H := by
  obtain ⟨a, h, rfl, ha, ok, q⟩ := h
  exact s_ret (P := fun H' => HsAt K H' a h) (pu_tup (pa_c (fl_many T (pu_var rfl) fun _ h => h) (pa_c (fl_past T (pu_var rfl) fun _ h => h) pa_n)) (by simp)) (sl_self (l := []) .nil (Nat.le_of_ble_eq_true rfl)) ha q
theorem rd_House___len__ (T : Txt K mg) (h : sp_House___len__ K vs H Q E) : t_House___len__ K (Dn Q) (L2.start N_House___len__ vs) H := by
  obtain ⟨a, h, rfl, ha, ok, q⟩ := h
  exact s_ret (P := fun H' => HsAt K H' a h) (Pu.is (pu_cb (pa_c (fl_past T (pu_var rfl) fun _ h => h) pa_n) rc_lenT) (by rw [List.length_map])) (sl_self (l := []) .nil (Nat.le_of_ble_eq_true rfl)) ha q
theorem last_state (k : Kd) (m : Nat) (st : List Stp) : atI ((List.range (st.length + 1)).map fun i => rowD (runS k m (st.take i))) (-1) = some (rowD (runS k m st)) := by
  refine atI_m1 ?_
  rw [List.length_map, List.length_range, List.getElem?_map, List.getElem?_range (by omega), Nat.add_sub_cancel]
  show some (rowD (runS k m (st.take st.length))) = _
  rw [List.take_length]
theorem rd_House_states (T : Txt K mg) (h : sp_House_states K vs H Q E) : t_House_states K (Dn Q) (L2.start N_House_states vs) H := by
  obtain ⟨a, h, rfl, ha, ok, q⟩ := h
  exact s_ret (P := fun H' => HsAt K H' a h) (pu_ixN (pl_call (pa_c (fl_kind T (pu_var rfl) fun _ h => h) (pa_c (pu_propH (pu_var rfl) (fun _ h => h) ok) pa_n)) ⟨h.k, h.m, h.past, ok.his, rfl, rfl⟩) (pu_un pu_c ru_neg) (last_state _ _ _)) (sl_self (l := []) .nil (Nat.le_of_ble_eq_true rfl)) ha q
theorem rd_House_split (T : Txt K mg) (h : sp_House_split K vs H Q E) : t_House_split K (Dn Q) (L2.start N_House_split vs) H := by
  obtain ⟨a, h, rfl, ha, ok, q⟩ := h
  exact s_ret (P := fun H' => HsAt K H' a h) (pu_call (pa_c (fl_kind T (pu_var rfl) fun _ h => h) (pa_c (pu_propH (pu_var rfl) (fun _ h => h) ok) pa_n)) ⟨h.k, h.m, h.past, ok.his, rfl, rfl⟩) (sl_self (l := []) .nil (Nat.le_of_ble_eq_true rfl)) ha q
theorem state_lt {h : Hs} (ok : h.Ok) {i : Nat} (hi : i < h.m) : (runS h.k h.m h.past).getD i 0 < h.k.rd.length :=
  runS_lt ok.kd _ ok.okp _ (getD_lt (by rw [runS_len]; exact hi) 0)
theorem rd_House_shown (T : Txt K mg) (h : sp_House_shown K vs H Q E) : t_House_shown K (Dn Q) (L2.start N_House_shown vs) H := by
  obtain ⟨a, h, i, rfl, ha, ok, hi, q⟩ := h
  refine s_ret (P := fun H' => HsAt K H' a h) (d := shownD h i) (pu_op (pu_ix (fl_kind T (pu_var rfl) fun _ h => h) rfl) (pu_op (pu_methH (pu_var rfl) (fun _ h => h) ok) (pu_need (pu_propH (pu_var rfl) (fun _ h => h) ok) (pu_var rfl) ok.m1 hi) (rv_ixT (atI_map (by rw [runS_len]; exact hi) 0))) (rv_ixT (atI_map (state_lt ok hi) 0))) (sl_self (l := [dn i]) (.cons (.leaf _) .nil) (Nat.le_of_ble_eq_true rfl)) ha q
theorem rd_House_known (T : Txt K mg) (h : sp_House_known K vs H Q E) : t_House_known K (Dn Q) (L2.start N_House_known vs) H := by
  obtain ⟨a, h, i, rfl, ha, ok, hi, q⟩ := h
  refine s_ret (P := fun H' => HsAt K H' a h) (d := knownD h i) (pu_ixN (pl_call (pa_c (pu_propH (pu_var rfl) (fun _ h => h) ok) pa_n) ⟨h.k, h.m, h.past, ok.his, rfl, rfl⟩) (pu_need (pu_propH (pu_var rfl) (fun _ h => h) ok) (pu_var rfl) ok.m1 hi) (atI_map (by rw [runH_len]; exact hi) [])) (sl_self (l := [dn i]) (.cons (.leaf _) .nil) (Nat.le_of_ble_eq_true rfl)) ha q
end
end W9
set_option maxHeartbeats 4000000
/-! the houses' methods that change, make, compare -/
namespace W9
open PySem PySem.Spec PyProof.Rows L2
variable {K : PySem.W.Frag} {mg : Str → Option Value} {vs : List V} {H : Hp} {Q : VK} {E : XK}
/-- a new object of which R is told -/
def PuN (te : TE) (Γ : Cxt) (P : Hp → Prop) (R : Addr → Hp → Prop) : Prop := ∀ (σ : L2.St) (H : Hp), Sl σ H Γ → P H → ∀ Q : VK, (∀ b H', H b = none → Ex H H' → R b H' → Q (.ref b) H') → te σ H Q
section
variable {Γ : Cxt} {P : Hp → Prop} {te to tv tk tm : TE} {tr : TA} {d : Dt} {l : List Dt} {D : Ends} {σ : L2.St} {a t C dx : Addr} {h : Hs} {f m : Str} {fs : List (Str × V)} {R : Addr → Hp → Prop} {i : Nat} {sp : Sp}
theorem pu_lenH (he : Pu te Γ P (dr a)) [Stb P] (hP : ∀ H, P H → HsAt K H a h) (ok : h.Ok) : Pu (tLenO (He.ga K "House") (sp_House___len__ K) te) Γ P (dn h.past.length) := fun σ H s p Q q =>
  he σ H s p _ fun x H1 e1 h1 => by
    have hh := hP H1 (Stb.ext e1 p)
    obtain ⟨dx, xk, xp, xl, h2, _⟩ := id hh
    refine ⟨a, dx, _, h1.v_eq, h2, a, h, rfl, hh, ok, fun z H2 e2 hz => ⟨h.past.length, hz.v_eq, by have := ok.sz; omega, q _ H2 (e1.trans e2) (.leaf _)⟩⟩
/-- o.m(..) as a statement, by the promise itself -/
theorem s_meth (ho : Pu to Γ P (dr a)) (ht : PuA tr Γ P l) [Stb P] (s : Sl σ H Γ) (p : P H) (hi : ∀ H, P H → ∃ dx fs, H a = some (.ins C dx fs) ∧ fs.lookup m = none)
    (k : ∀ H' xs, Ex H H' → P H' → TDs H' xs l → Sl σ H' Γ → sp (.ref a :: xs) H' (fun _ H2 => D.nx σ H2) E) : tDrop (tMeth C m sp [] E to tr) D σ H :=
  ho σ H s p _ fun x H1 e1 h1 => by
    obtain ⟨dx, fs, h2, h3⟩ := hi H1 (Stb.ext e1 p)
    cases h1.v_eq
    refine ⟨a, dx, fs, rfl, h2, h3, ht σ H1 (s.ext e1.t) (Stb.ext e1 p) _ fun xs H2 e2 h4 => ?_⟩
    rw [List.append_nil]
    exact k H2 xs (e1.trans e2) (Stb.ext (e1.trans e2) p) h4 (s.ext (Ex.t (e1.trans e2)))
theorem pn_house {k : Kd} {m : Nat} (ht : PuA tr Γ P [kdD k, dn m]) (ok : k.Ok) (m1 : 1 ≤ m) (m16 : m ≤ 16) : PuN (tMake (He.ga K "House") (sp_House___init__ K) [] E tr) Γ P (fun b H => HsAt K H b ⟨k, m, [], []⟩) := fun σ H s p Q q =>
  ht σ H s p _ fun xs H1 e1 hx x dx hxn hdn hne => by
    cases hx with
    | cons hk hx =>
    cases hx with
    | cons hm hx =>
    cases hx
    cases hm.v_eq
    have eA : Ex H1 (upd (upd H1 dx (.own x)) x (.ins (He.ga K "House") dx [])) := (ex_new hdn).trans (ex_new (by rw [upd_ne (Ne.symm hne)]; exact hxn))
    refine ⟨x, dx, _, k, m, rfl, upd_same, hk.ext eA.t, ok, m1, m16, fun H2 t => ⟨rfl, q x H2 (e1.free hxn) (e1.trans ?_) t.2.2⟩⟩
    exact fun b o hb => t.2.1 b o (ne_of_none hb hxn) (eA b o hb)
theorem pn_trial (ht : PuA tr Γ P [dr a]) : PuN (tMake (He.ga K "Trial") (sp_Trial___init__ K) [] E tr) Γ P (fun b H => TrAt K H b a [] []) := fun σ H s p Q q =>
  ht σ H s p _ fun xs H1 e1 hx x dx hxn hdn hne => by
    have ex : xs = [.ref a] := TDs.ofLeaves (vs := [.ref a]) hx
    subst ex
    have eA : Ex H1 (upd (upd H1 dx (.own x)) x (.ins (He.ga K "Trial") dx [])) := (ex_new hdn).trans (ex_new (by rw [upd_ne (Ne.symm hne)]; exact hxn))
    refine ⟨x, a, dx, rfl, upd_same, fun H2 x2 b2 t2 => ⟨rfl, q x H2 (e1.free hxn) (e1.trans ?_) t2⟩⟩
    exact fun b o hb => b2 b o (ne_of_none hb hxn) (eA b o hb)
theorem s_asgN (hn : PuN te Γ P R) (s : Sl σ H Γ) (p : P H) (k : ∀ b σ' H', H b = none → Ex H H' → R b H' → Sl σ' H' (Γ.set i (some (dr b))) → D.nx σ' H') : tAsg te (gName i) D σ H :=
  hn σ H s p _ fun b H1 hb e1 r => k b _ H1 hb e1 r ((s.ext e1.t).set (.leaf _) i)
theorem s_retN (hn : PuN te Γ P R) (s : Sl σ H Γ) (p : P H) (k : ∀ b H', H b = none → Ex H H' → R b H' → D.rt (.ref b) H') : tRet te D σ H := hn σ H s p _ k
end
theorem stD_nb : ∀ s : Stp, (stD s).nb = true
  | .act _ _ | .hear _ _ => rfl
theorem steps_nb (l : List Stp) : (stepsD l).nb = true := by
  show nbs (l.map stD) = true
  induction l with
  | nil => rfl
  | cons x l ih =>
    show (_ && _) = true
    rw [ih, stD_nb x]
    rfl
theorem str_lay_do : PyData.canLay0 (.str "do") = true := by decide +kernel
theorem str_lay_hear : PyData.canLay0 (.str "hear") = true := by decide +kernel
theorem stD_lay : ∀ s : Stp, PyData.canLay0 (stD s).py = true ∧ PyData.depth (stD s).py ≤ 1
  | .act c u => by
    refine ⟨?_, ?_⟩
    · have a := str_lay_do
      simp only [stD, Dt.py, pys, PyData.canLay0, PyData.canLayAll0] at a ⊢
      simp [a]
    · simp [stD, Dt.py, pys, PyData.depth, PyData.depthAll]
  | .hear c u => by
    refine ⟨?_, ?_⟩
    · have a := str_lay_hear
      simp only [stD, Dt.py, pys, PyData.canLay0, PyData.canLayAll0] at a ⊢
      simp [a]
    · simp [stD, Dt.py, pys, PyData.depth, PyData.depthAll]
theorem steps_pys : ∀ l : List Stp, PyData.canLayAll0 (pys (l.map stD)) = true ∧ PyData.depthAll (pys (l.map stD)) ≤ 1
  | [] => ⟨by simp [pys, PyData.canLayAll0], by simp [pys, PyData.depthAll]⟩
  | x :: l => by
    obtain ⟨h1, h2⟩ := steps_pys l
    obtain ⟨h3, h4⟩ := stD_lay x
    refine ⟨?_, ?_⟩
    · simp only [List.map_cons, pys, PyData.canLayAll0, h1, h3, Bool.and_self]
    · simp only [List.map_cons, pys, PyData.depthAll]
      omega
theorem shaped_tup {l : List Dt} (h1 : PyData.canLayAll0 (pys l) = true) (h2 : PyData.depthAll (pys l) ≤ 60) : SeqAt.shaped (Dt.tup l).py = true := by
  have a : PyData.canLay0 (Dt.tup l).py = true := by
    simp only [Dt.py, PyData.canLay0]
    exact h1
  have b : PyData.depth (Dt.tup l).py ≤ 64 := by
    simp only [Dt.py, PyData.depth]
    omega
  show (PyData.canLay0 (Dt.tup l).py && decide (PyData.depth (Dt.tup l).py ≤ 64)) = true
  rw [a, decide_eq_true b]
  rfl
theorem steps_shaped (l : List Stp) : SeqAt.shaped (stepsD l).py = true := shaped_tup (steps_pys l).1 (Nat.le_trans (steps_pys l).2 (by decide))
theorem dec_steps_nil (l : List Stp) : decide (stepsD l = .tup []) = l.isEmpty := by
  cases l with
  | nil => exact decide_eq_true rfl
  | cons x l =>
    refine decide_eq_false fun z => ?_
    have z' := Dt.tup.inj z
    cases z'
theorem rd_House_need_room (T : Txt K mg) (h : sp_House_need_room K vs H Q E) : t_House_need_room K (Dn Q) (L2.start N_House_need_room vs) H := by
  obtain ⟨a, h, rfl, ha, ok, q⟩ := h
  refine s_ifF (P := fun H' => HsAt K H' a h) (pt_test (Pu.is (pu_op (pu_lenH (pu_var rfl) (fun _ h => h) ok) pu_c rv_eqI) (by rw [decide_eq_false (by have := ok.sz; omega)]))) (sl_self (l := []) .nil (Nat.le_of_ble_eq_true rfl)) ha fun H1 e1 => s_next (q _ H1 e1 (.leaf _))
theorem rd_House_keep (T : Txt K mg) (h : sp_House_keep K vs H Q E) : t_House_keep K (Dn Q) (L2.start N_House_keep vs) H := by
  obtain ⟨a, h, x, st, rfl, ha, ok, hx, q⟩ := h
  have s : Sl (L2.start N_House_keep [.ref a, x]) H [some (dr a), some (stD st)] := sl_self (l := [stD st]) (.cons hx .nil) (Nat.le_of_ble_eq_true rfl)
  refine s_seq (s_past (P := fun H' => HsAt K H' a h) T (p' := h.past ++ [st]) (Pu.is (pu_tup (pa_s (fl_past T (pu_var rfl) fun _ h => h) (pa_c (pu_var rfl) pa_n)) ?_) ?_) (pu_var rfl) s ha (fun _ h => h) fun H1 t1 => ?_)
  · rw [List.length_append, List.length_map]
    have := ok.sz
    simp
    omega
  · show Dt.tup _ = Dt.tup _
    rw [List.map_append]
    rfl
  · refine s_later (P := fun H' => HsAt K H' a { h with past := h.past ++ [st] }) T (p' := []) (pu_tup pa_n (by simp)) (pu_var rfl) (s.ext t1.1) t1.2.2 (fun _ h => h) fun H2 t2 => q H2 (t1.trans t2)
theorem did_ok {h : Hs} (ok : h.Ok) {s : Stp} (hs : s.Ok h.k h.m) (hl : h.past.length < 30) : (h.did s).Ok := by
  refine ⟨ok.kd, ok.m1, ok.m16, fun t ht => ?_, (fun t ht => nomatch ht), ?_⟩
  · rcases List.mem_append.mp ht with z | z
    · exact ok.okp t z
    · rw [List.mem_singleton.mp z]
      exact hs
  · show (h.past ++ [s]).length + 0 ≤ 30
    rw [List.length_append, List.length_singleton]
    omega
theorem s_dropX {Γ : Cxt} {P : Hp → Prop} {tr : TA} {l : List Dt} {sp : Sp} {D : Ends} {σ : L2.St} (hp : PuA tr Γ P l) (s : Sl σ H Γ) (p : P H) (k : ∀ H' xs, Ex H H' → TDs H' xs l → sp (xs ++ []) H' (fun _ H2 => D.nx σ H2) E) : tDrop (tCall sp [] E tr) D σ H := hp σ H s p _ fun xs H1 e1 h1 => k H1 xs e1 h1
theorem hs_meth {a : Addr} {h : Hs} {m : Str} (x : HsAt K H a h) (hm : (m == ("own_kind" : Str)) = false ∧ (m == ("own_many" : Str)) = false ∧ (m == ("past" : Str)) = false ∧ (m == ("later" : Str)) = false := by decide) : ∃ dx fs, H a = some (.ins (He.ga K "House") dx fs) ∧ fs.lookup m = none := hs_no x hm
theorem rd_House_do (T : Txt K mg) (h : sp_House_do K vs H Q E) : t_House_do K E (Dn Q) (L2.start N_House_do vs) H := by
  obtain ⟨a, h, i, u, rfl, ha, ok, q1, q2⟩ := h
  have s : Sl (L2.start N_House_do [.ref a, .int i, .int (u : Int)]) H [some (dr a), some (di i), some (dn u)] := sl_self (l := [di i, dn u]) (.cons (.leaf _) (.cons (.leaf _) .nil)) (Nat.le_of_ble_eq_true rfl)
  by_cases hi : 0 ≤ i ∧ i < h.m
  · obtain ⟨j, rfl⟩ : ∃ j : Nat, i = (j : Int) := ⟨i.toNat, by omega⟩
    have hj : j < h.m := by omega
    obtain ⟨hu, hl, q⟩ := q1 j rfl hj
    refine s_seq (s_drop (P := fun H' => HsAt K H' a h) (pu_need (pu_propH (pu_var rfl) (fun _ h => h) ok) (pu_var rfl) ok.m1 hj) s ha fun H1 e1 => ?_)
    refine s_chk (P := fun H' => HsAt K H' a h) (pt_isw (pu_var rfl) (Pu.is (pu_cb (pa_c (pu_ix (fl_kind T (pu_var rfl) fun _ h => h) rfl) pa_n) (rc_lenT (l := h.k.ups.map rowD))) (by rw [List.length_map])) hu) (s.ext e1.t) (ha.ext e1) fun H2 e2 => ?_
    have e2' := e1.trans e2
    refine s_seq (s_drop (P := fun H' => HsAt K H' a h) (pu_methH (pu_var rfl) (fun _ h => h) ok) (s.ext (Ex.t e2')) (ha.ext e2') fun H3 e3 => ?_)
    have e3' := e2'.trans e3
    refine s_seq (s_meth (P := fun H' => HsAt K H' a h) (l := [stD (.act j u)]) (pu_var rfl) (pa_c (pu_tup (pa_c pu_c (pa_c (pu_var rfl) (pa_c (pu_var rfl) pa_n))) (by simp)) pa_n) (s.ext (Ex.t e3')) (ha.ext e3') (fun _ h => hs_meth h) fun H4 xs e4 p4 hx s4 => ?_)
    cases hx with
    | cons hx r =>
      cases r
      refine ⟨a, h, _, .act j u, rfl, p4, ok, hx, fun H5 t5 => ?_⟩
      have okd : (h.did (.act j u)).Ok := did_ok ok ⟨hj, hu⟩ hl
      refine s_ret (P := fun H' => HsAt K H' a (h.did (.act j u))) (d := shownD (h.did (.act j u)) j) (pu_methHi (pu_var rfl) (pu_var rfl) (fun _ h => h) okd hj) (s4.ext t5.1) t5.2.2 fun z H6 e6 hz => ?_
      exact q z H6 ((Turned.of_ex (e3'.trans e4) t5).ex e6) hz
  · have hp : PuA (tCons (tProp (He.ga K "House") (sp_House_history K) [] E0 (tVar 0)) (tCons (tVar 1) tNil)) [some (dr a), some (di i), some (dn u)] (fun H' => HsAt K H' a h) [hisD h.m h.past, di i] := pa_c (pu_propH (pu_var rfl) (fun _ h => h) ok) (pa_c (pu_var rfl) pa_n)
    refine s_seq (s_dropX hp s ha fun H1 xs e1 h1 => ⟨h.m, h.past, i, by rw [List.append_nil]; exact h1, ok.m1, fun z => absurd z hi, fun _ H2 d e2 => q2 hi H2 d (e1.trans e2)⟩)
theorem rd_House_hear (T : Txt K mg) (h : sp_House_hear K vs H Q E) : t_House_hear K (Dn Q) (L2.start N_House_hear vs) H := by
  obtain ⟨a, h, i, o, rfl, ha, ok, hi, ho, hne, hl, q⟩ := h
  have s : Sl (L2.start N_House_hear [.ref a, .int (i : Int), .int (o : Int)]) H [some (dr a), some (dn i), some (dn o)] := sl_self (l := [dn i, dn o]) (.cons (.leaf _) (.cons (.leaf _) .nil)) (Nat.le_of_ble_eq_true rfl)
  refine s_seq (s_drop (P := fun H' => HsAt K H' a h) (pu_need (pu_propH (pu_var rfl) (fun _ h => h) ok) (pu_var rfl) ok.m1 hi) s ha fun H1 e1 => ?_)
  have hno : ¬ ((o : Int) = (i : Int)) := by omega
  refine s_chk (P := fun H' => HsAt K H' a h) (pt_test (Pu.is (pu_op (pu_need (m := h.m) (st := h.past) (pu_propH (f := fun h => hisD h.m h.past) (pu_var rfl) (fun _ h => h) ok) (pu_var (i := 2) rfl) ok.m1 ho) (pu_var (i := 1) rfl) rv_eqI) (congrArg db (decide_eq_false hno)))) (s.ext e1.t) (ha.ext e1) fun H2 e2 => ?_
  have e2' := e1.trans e2
  refine s_seq (s_drop (P := fun H' => HsAt K H' a h) (pu_methH (pu_var rfl) (fun _ h => h) ok) (s.ext (Ex.t e2')) (ha.ext e2') fun H3 e3 => ?_)
  have e3' := e2'.trans e3
  refine s_seq (s_meth (P := fun H' => HsAt K H' a h) (l := [stD (.hear i o)]) (pu_var rfl) (pa_c (pu_tup (pa_c pu_c (pa_c (pu_var rfl) (pa_c (pu_var rfl) pa_n))) (by simp)) pa_n) (s.ext (Ex.t e3')) (ha.ext e3') (fun _ h => hs_meth h) fun H4 xs e4 p4 hx s4 => ?_)
  cases hx with
  | cons hx r =>
    cases r
    refine ⟨a, h, _, .hear i o, rfl, p4, ok, hx, fun H5 t5 => ?_⟩
    have okd : (h.did (.hear i o)).Ok := did_ok ok ⟨hi, ho, hne⟩ hl
    refine s_ret (P := fun H' => HsAt K H' a (h.did (.hear i o))) (d := shownD (h.did (.hear i o)) i) (pu_methHi (pu_var rfl) (pu_var rfl) (fun _ h => h) okd hi) (s4.ext t5.1) t5.2.2 fun z H6 e6 hz => ?_
    exact q z H6 ((Turned.of_ex (e3'.trans e4) t5).ex e6) hz

theorem back_nil {h : Hs} (e : h.past = []) : h.back = h := by
  cases h
  cases e
  rfl
theorem on_nil {h : Hs} (e : h.later = []) : h.on = h := by
  cases h with
  | mk k m p l =>
    cases e
    show Hs.mk k m (p ++ []) [] = _
    rw [List.append_nil]
theorem Turned.same {a : Addr} {h h' : Hs} {H H' : Hp} (e : Ex H H') (x : HsAt K H a h) (eh : h' = h) : Turned K a h' H H' := ⟨e.t, ExB.of e, eh ▸ x.ext e⟩
theorem pu_emp {Γ : Cxt} {P : Hp → Prop} {te : TE} {l : List Stp} [Stb P] (h : Pu te Γ P (stepsD l)) : PuT (tTest (tOp (rEq9 K) te (tTup tNil))) Γ P l.isEmpty :=
  pt_test (Pu.is (pu_op h (pu_tup pa_n (by simp)) (rv_eqD (steps_nb l) rfl (steps_shaped l) (steps_shaped []))) (congrArg db (dec_steps_nil l)))
theorem drop_last {α : Type} {l : List α} (h : l ≠ []) : ∃ x, l[l.length - 1]? = some x ∧ l.drop (l.length - 1) = [x] := by
  have hl : 0 < l.length := List.length_pos_iff.mpr h
  refine ⟨l[l.length - 1], List.getElem?_eq_getElem (by omega), ?_⟩
  rw [List.drop_eq_getElem_cons (by omega), show l.length - 1 + 1 = l.length by omega, List.drop_length]
theorem rd_House_undo (T : Txt K mg) (h : sp_House_undo K vs H Q E) : t_House_undo K (Dn Q) (L2.start N_House_undo vs) H := by
  obtain ⟨a, h, rfl, ha, ok, q⟩ := h
  have s : Sl (L2.start N_House_undo [.ref a]) H [some (dr a)] := sl_self (l := []) .nil (Nat.le_of_ble_eq_true rfl)
  have h30 := ok.sz
  refine s_seq (s_if (P := fun H' => HsAt K H' a h) (pu_emp (fl_past T (pu_var rfl) fun _ h => h)) s ha (fun hb H1 e1 => ?_) fun hb H1 e1 => s_next ?_)
  · have e0 : h.past = [] := List.isEmpty_iff.mp hb
    refine s_ret (P := fun _ => True) pu_c (s.ext e1.t) trivial fun x H2 e2 hx => ?_
    cases hx.v_eq
    have z := q H2 (Turned.same (e1.trans e2) ha (back_nil e0))
    rw [hb] at z
    exact z
  · have ne : h.past ≠ [] := fun z => by
      rw [z] at hb
      cases hb
    obtain ⟨st, g1, g2⟩ := drop_last ne
    have lm : (h.past.map stD).length = h.past.length := List.length_map _
    refine s_seq (s_later (P := fun H' => HsAt K H' a h) T (p' := h.past.drop (h.past.length - 1) ++ h.later) (Pu.is (pu_tup (l := stD st :: (h.later.map stD ++ [])) (pa_c (pu_op (fl_past T (pu_var rfl) fun _ h => h) (pu_un pu_c ru_neg) (rv_ixT (atI_m1 (by rw [lm, List.getElem?_map, g1]; rfl)))) (pa_s (fl_later T (pu_var rfl) fun _ h => h) pa_n)) ?_) ?_) (pu_var rfl) (s.ext e1.t) (ha.ext e1) (fun _ h => h) fun H2 t2 => ?_)
    · rw [List.append_nil, List.length_cons, List.length_map]
      omega
    · rw [g2, List.append_nil]
      rfl
    refine s_seq (s_past (P := fun H' => HsAt K H' a { h with later := h.past.drop (h.past.length - 1) ++ h.later }) T (p' := h.past.take (h.past.length - 1)) (Pu.is (pu_sl (l := h.past.map stD) (fl_past (h := { h with later := h.past.drop (h.past.length - 1) ++ h.later }) T (pu_var rfl) fun _ h => h) po_no (po_so (pu_un pu_c ru_neg))) ?_) (pu_var rfl) ((s.ext e1.t).ext t2.1) t2.2.2 (fun _ h => h) fun H3 t3 => ?_)
    · show Dt.tup (cutD _ none (some (-1))) = _
      rw [cutD_b1, lm, ← List.map_take]
      rfl
    show tRet (tC (.bl true)) (Dn Q) (L2.start N_House_undo [.ref a]) H3
    refine s_ret (P := fun _ => True) pu_c (((s.ext e1.t).ext t2.1).ext t3.1) trivial fun x H4 e4 hx => ?_
    cases hx.v_eq
    have z := q H4 ((Turned.of_ex e1 (t2.trans t3)).ex e4)
    rw [hb] at z
    exact z
theorem rd_House_redo (T : Txt K mg) (h : sp_House_redo K vs H Q E) : t_House_redo K (Dn Q) (L2.start N_House_redo vs) H := by
  obtain ⟨a, h, rfl, ha, ok, q⟩ := h
  have s : Sl (L2.start N_House_redo [.ref a]) H [some (dr a)] := sl_self (l := []) .nil (Nat.le_of_ble_eq_true rfl)
  have h30 := ok.sz
  refine s_seq (s_if (P := fun H' => HsAt K H' a h) (pu_emp (fl_later T (pu_var rfl) fun _ h => h)) s ha (fun hb H1 e1 => ?_) fun hb H1 e1 => s_next ?_)
  · have e0 : h.later = [] := List.isEmpty_iff.mp hb
    refine s_ret (P := fun _ => True) pu_c (s.ext e1.t) trivial fun x H2 e2 hx => ?_
    cases hx.v_eq
    have z := q H2 (Turned.same (e1.trans e2) ha (on_nil e0))
    rw [hb] at z
    exact z
  · obtain ⟨st, r, er⟩ : ∃ st r, h.later = st :: r := by
      cases z : h.later with
      | nil => rw [z] at hb; cases hb
      | cons st r => exact ⟨st, r, rfl⟩
    have lp : (h.past.map stD).length = h.past.length := List.length_map _
    refine s_seq (s_past (P := fun H' => HsAt K H' a h) T (p' := h.past ++ h.later.take 1) (Pu.is (pu_tup (l := h.past.map stD ++ [stD st]) (pa_s (fl_past T (pu_var rfl) fun _ h => h) (pa_c (pu_op (fl_later T (pu_var rfl) fun _ h => h) pu_c (rv_ixT (by rw [er]; exact atI_n (j := 0) rfl))) pa_n)) ?_) ?_) (pu_var rfl) (s.ext e1.t) (ha.ext e1) (fun _ h => h) fun H2 t2 => ?_)
    · rw [List.length_append, lp, List.length_singleton]
      omega
    · rw [er]
      show Dt.tup _ = Dt.tup _
      rw [List.map_append]
      rfl
    refine s_seq (s_later (P := fun H' => HsAt K H' a { h with past := h.past ++ h.later.take 1 }) T (p' := h.later.drop 1) (Pu.is (pu_sl (l := h.later.map stD) (fl_later (h := { h with past := h.past ++ h.later.take 1 }) T (pu_var rfl) fun _ h => h) (po_so pu_c) po_no) ?_) (pu_var rfl) ((s.ext e1.t).ext t2.1) t2.2.2 (fun _ h => h) fun H3 t3 => ?_)
    · have z := cutD_from (h.later.map stD) 1
      show Dt.tup (cutD (h.later.map stD) (some ((1 : Nat) : Int)) none) = _
      rw [z, ← List.map_drop]
      rfl
    show tRet (tC (.bl true)) (Dn Q) (L2.start N_House_redo [.ref a]) H3
    refine s_ret (P := fun _ => True) pu_c (((s.ext e1.t).ext t2.1).ext t3.1) trivial fun x H4 e4 hx => ?_
    cases hx.v_eq
    have z := q H4 ((Turned.of_ex e1 (t2.trans t3)).ex e4)
    rw [hb] at z
    exact z
theorem rd_House_copy (T : Txt K mg) (h : sp_House_copy K vs H Q E) : t_House_copy K (Dn Q) (L2.start N_House_copy vs) H := by
  obtain ⟨a, h, rfl, ha, ok, q⟩ := h
  have s : Sl (L2.start N_House_copy [.ref a]) H [some (dr a), none] := sl_self (l := []) .nil (Nat.le_of_ble_eq_true rfl)
  refine s_seq (s_asgN (P := fun H' => HsAt K H' a h) (pn_house (pa_c (fl_kind T (pu_var rfl) fun _ h => h) (pa_c (fl_many T (pu_var rfl) fun _ h => h) pa_n)) ok.kd ok.m1 ok.m16) s ha fun b σ1 H1 hb e1 h1 s1 => ?_)
  have nab : a ≠ b := fun z => by
    obtain ⟨dx, _, _, _, h2, _⟩ := ha
    rw [z, hb] at h2
    cases h2
  have a1 := ha.ext e1
  refine s_seq (s_past (P := fun H' => HsAt K H' a h ∧ HsAt K H' b ⟨h.k, h.m, [], []⟩) T (fl_past T (pu_var rfl) fun _ h => h.1) (pu_var rfl) s1 ⟨a1, h1⟩ (fun _ h => h.2) fun H2 t2 => ?_)
  have a2 := a1.but t2.2.1 t2.1 nab
  refine s_seq (s_later (P := fun H' => HsAt K H' a h ∧ HsAt K H' b ⟨h.k, h.m, h.past, []⟩) T (fl_later T (pu_var rfl) fun _ h => h.1) (pu_var rfl) (s1.ext t2.1) ⟨a2, t2.2.2⟩ (fun _ h => h.2) fun H3 t3 => ?_)
  refine s_ret (P := fun _ => True) (pu_var rfl) ((s1.ext t2.1).ext t3.1) trivial fun x H4 e4 hx => ?_
  cases hx.v_eq
  refine q b H4 hb ?_ (t3.2.2.ext e4)
  exact (((t2.2.1.trans t3.2.1).ex hb e1)).trans e4
theorem rd_House_trial (T : Txt K mg) (h : sp_House_trial K vs H Q E) : t_House_trial K (Dn Q) (L2.start N_House_trial vs) H := by
  obtain ⟨a, h, rfl, ha, q⟩ := h
  exact s_retN (P := fun _ => True) (pn_trial (pa_c (pu_var rfl) pa_n)) (sl_self (l := []) .nil (Nat.le_of_ble_eq_true rfl)) trivial q

theorem rows_nb (l : List (List Nat)) : (rowsD l).nb = true := by
  show nbs (l.map rowD) = true
  induction l with
  | nil => rfl
  | cons x l ih =>
    show (_ && _) = true
    rw [ih, row_nb x]
    rfl
theorem rows_pys : ∀ l : List (List Nat), PyData.canLayAll0 (pys (l.map rowD)) = true ∧ PyData.depthAll (pys (l.map rowD)) ≤ 1
  | [] => ⟨by simp [pys, PyData.canLayAll0], by simp [pys, PyData.depthAll]⟩
  | x :: l => by
    obtain ⟨h1, h2⟩ := rows_pys l
    obtain ⟨h3, h4⟩ := row_pys x
    refine ⟨?_, ?_⟩
    · have z : PyData.canLay0 (rowD x).py = true := by
        simp only [rowD, Dt.py, PyData.canLay0]
        exact h3
      simp only [List.map_cons, pys, PyData.canLayAll0, h1, z, Bool.and_self]
    · have z : PyData.depth (rowD x).py ≤ 1 := by
        simp only [rowD, Dt.py, PyData.depth]
        omega
      simp only [List.map_cons, pys, PyData.depthAll]
      omega
theorem kd_nb (k : Kd) : (kdD k).nb = true := by
  show (true && ((rowsD k.ups).nb && ((rowsD k.mg).nb && ((rowD k.rd).nb && true)))) = true
  rw [rows_nb, rows_nb, row_nb]
  rfl
theorem kd_shaped (k : Kd) : SeqAt.shaped (kdD k).py = true := by
  have a1 : PyData.canLay0 (rowsD k.ups).py = true ∧ PyData.depth (rowsD k.ups).py ≤ 2 := by
    obtain ⟨h1, h2⟩ := rows_pys k.ups
    refine ⟨?_, ?_⟩
    · simp only [rowsD, Dt.py, PyData.canLay0]; exact h1
    · simp only [rowsD, Dt.py, PyData.depth]; omega
  have a2 : PyData.canLay0 (rowsD k.mg).py = true ∧ PyData.depth (rowsD k.mg).py ≤ 2 := by
    obtain ⟨h1, h2⟩ := rows_pys k.mg
    refine ⟨?_, ?_⟩
    · simp only [rowsD, Dt.py, PyData.canLay0]; exact h1
    · simp only [rowsD, Dt.py, PyData.depth]; omega
  have a3 : PyData.canLay0 (rowD k.rd).py = true ∧ PyData.depth (rowD k.rd).py ≤ 2 := by
    obtain ⟨h1, h2⟩ := row_pys k.rd
    refine ⟨?_, ?_⟩
    · simp only [rowD, Dt.py, PyData.canLay0]; exact h1
    · simp only [rowD, Dt.py, PyData.depth]; omega
  refine shaped_tup ?_ ?_
  · simp only [pys, PyData.canLayAll0, a1.1, a2.1, a3.1, Bool.and_self, Bool.and_true]
    simp [Dt.py, PyData.canLay0]
  · have a4 : PyData.depth (dn k.st).py = 0 := by simp [Dt.py, PyData.depth]
    have b1 := a1.2
    have b2 := a2.2
    have b3 := a3.2
    simp only [pys, PyData.depthAll]
    omega
theorem ty_house (T : Txt K mg) {b : Addr} {h : Hs} (hb : HsAt K H b h) : TyX K H (.ref b) (.ref (He.ga K "House")) := by
  obtain ⟨dx, xk, xp, xl, h1, _⟩ := hb
  exact .base (.ins h1 T.c_House T.cl_House T.cg_ T.ct_ T.mo_House)
section
variable {Γ : Cxt} {P : Hp → Prop} {te : TE} {b : Addr} {h : Hs} {d : Dt}
theorem pu_isiH (T : Txt K mg) (he : Pu te Γ P (dr b)) [Stb P] (hP : ∀ H, P H → HsAt K H b h) : Pu (tCB (rIsi K) (tCons te (tCons (tC (.ref (He.ga K "House"))) tNil))) Γ P (db true) :=
  pu_cb (pa_c he (pa_c pu_c pa_n)) fun H xs p hx Q q => by
    have ex : xs = [.ref b, .ref (He.ga K "House")] := TDs.ofLeaves (vs := [.ref b, .ref (He.ga K "House")]) hx
    exact ⟨_, _, _, _, true, ex, .own _, ty_house T (hP H p), T.ki_H, q _ H (Same.refl H) (.leaf _)⟩
theorem pu_isiN (T : Txt K mg) (he : Pu te Γ P d) [Stb P] (hd : tyN d = "tuple" ∨ tyN d = "int" ∨ tyN d = "NoneType") (hp : d.pl = true) : Pu (tCB (rIsi K) (tCons te (tCons (tC (.ref (He.ga K "House"))) tNil))) Γ P (db false) :=
  pu_cb (pa_c he (pa_c pu_c pa_n)) fun H xs p hx Q q => by
    cases hx with
    | cons h1 hx =>
    cases hx with
    | cons h2 hx =>
    cases hx
    cases h2.v_eq
    have hk : PySem.W.kitOne K (.type (tyN d)) (.ref (He.ga K "House")) = some false := by
      rcases hd with e | e | e
      · rw [e]; exact T.ki_T
      · rw [e]; exact T.ki_I
      · rw [e]; exact T.ki_N
    exact ⟨_, _, _, _, false, rfl, .own _, ty_td h1 hp, hk, q _ H (Same.refl H) (.leaf _)⟩
end
theorem rd_House___eq__ (T : Txt K mg) (h : sp_House___eq__ K vs H Q E) : t_House___eq__ K (Dn Q) (L2.start N_House___eq__ vs) H := by
  obtain ⟨a, h, y, rfl, ha, ok, hy⟩ := h
  rcases hy with ⟨b, h', rfl, hb, ok', q⟩ | ⟨⟨d, hd, ht, hp⟩, q⟩
  · have s : Sl (L2.start N_House___eq__ [.ref a, .ref b]) H [some (dr a), some (dr b)] := sl_self (l := [dr b]) (.cons (.leaf _) .nil) (Nat.le_of_ble_eq_true rfl)
    have tst : PuT (tOr (tNot (tB (tCB (rIsi K) (tCons (tVar 1) (tCons (tC (.ref (He.ga K "House"))) tNil))))) (tTest (tOp (rNe9 K) (tFld K (tVar 0) "own_kind") (tFld K (tVar 1) "own_kind")))) [some (dr a), some (dr b)] (fun H' => HsAt K H' a h ∧ HsAt K H' b h') (false || !decide (kdD h.k = kdD h'.k)) :=
      pt_or (pt_nt (b := true) (pt_B (pu_isiH T (pu_var rfl) fun _ h => h.2))) fun _ => pt_test (pu_op (fl_kind T (pu_var (i := 0) rfl) fun _ h => h.1) (fl_kind T (pu_var (i := 1) rfl) fun _ h => h.2) (rv_neD (kd_nb _) (kd_nb _) (kd_shaped _) (kd_shaped _)))
    refine s_seq (s_if tst s ⟨ha, hb⟩ (fun hb' H1 e1 => ?_) fun hb' H1 e1 => s_next ?_)
    · have e : decide (kdD h.k = kdD h'.k) = false := by
        cases z : decide (kdD h.k = kdD h'.k) with
        | false => rfl
        | true => rw [z] at hb'; cases hb'
      refine s_ret (P := fun _ => True) pu_c (s.ext e1.t) trivial fun x H2 e2 hx => ?_
      cases hx.v_eq
      have z := q H2 (e1.trans e2)
      rw [e] at z
      exact z
    · have e : decide (kdD h.k = kdD h'.k) = true := by
        cases z : decide (kdD h.k = kdD h'.k) with
        | true => rfl
        | false => rw [z] at hb'; cases hb'
      show tRet (tAndV (tOp (rEq9 K) (tFld K (tVar 0) "own_many") (tFld K (tVar 1) "own_many")) (tOp (rEq9 K) (tFld K (tVar 0) "past") (tFld K (tVar 1) "past"))) (Dn Q) (L2.start N_House___eq__ [.ref a, .ref b]) H1
      refine s_ret (P := fun H' => HsAt K H' a h ∧ HsAt K H' b h') (pu_andV (pu_op (fl_many T (pu_var (i := 0) rfl) fun _ h => h.1) (fl_many T (pu_var (i := 1) rfl) fun _ h => h.2) rv_eqI) fun _ => pu_op (fl_past T (pu_var (i := 0) rfl) fun _ h => h.1) (fl_past T (pu_var (i := 1) rfl) fun _ h => h.2) (rv_eqD (steps_nb _) (steps_nb _) (steps_shaped _) (steps_shaped _))) (s.ext e1.t) ⟨ha.ext e1, hb.ext e1⟩ fun x H2 e2 hx => ?_
      cases hx.v_eq
      have z := q H2 (e1.trans e2)
      rw [e] at z
      have em : decide ((h.m : Int) = (h'.m : Int)) = decide (h.m = h'.m) := by
        by_cases z : h.m = h'.m
        · rw [decide_eq_true z, decide_eq_true (by omega)]
        · rw [decide_eq_false z, decide_eq_false (by omega)]
      rw [em]
      exact z
  · have s : Sl (L2.start N_House___eq__ [.ref a, y]) H [some (dr a), some d] := sl_self (l := [d]) (.cons hd .nil) (Nat.le_of_ble_eq_true rfl)
    have tst : PuT (tOr (tNot (tB (tCB (rIsi K) (tCons (tVar 1) (tCons (tC (.ref (He.ga K "House"))) tNil))))) (tTest (tOp (rNe9 K) (tFld K (tVar 0) "own_kind") (tFld K (tVar 1) "own_kind")))) [some (dr a), some d] (fun _ => True) (true || true) :=
      pt_or (pt_nt (b := false) (pt_B (pu_isiN T (pu_var rfl) ht hp))) fun z => nomatch z
    refine s_seq (s_ifT tst s trivial fun H1 e1 => ?_)
    refine s_ret (P := fun _ => True) pu_c (s.ext e1.t) trivial fun x H2 e2 hx => ?_
    cases hx.v_eq
    exact q H2 (e1.trans e2)
end W9
set_option maxHeartbeats 4000000
namespace W9
open PySem PySem.Spec PyProof.Rows L2
theorem ok_is_whole {P : Program} {w : World} {K : PySem.W.Frag} {mg : Str → Option Value} {base : Heap} (T : Txt K mg) (F : ∃ fd, Fun K "is_whole" "is_whole" s_is_whole (He.ga K "is_whole") fd)  :
    Okf P w K mg base CX0 1 (He.ga K "is_whole") ["value", "least", "most"] (sp_is_whole K) := by
  obtain ⟨fd, F⟩ := F
  exact ⟨fd, F.ok sc_is_whole (fun vs H Q E h => by obtain ⟨l, _, hl, ⟨_, _, _, rfl, _⟩, _⟩ := h; exact hl.length) (fun cdv A outer s H vs Q E hr h => ⟨_, pd_is_whole T  hr, rd_is_whole h⟩), F.binds (fun _ _ _ _ _ _ us hl => match us, hl with | [_, _, _], _ => rfl), F.kp⟩
theorem ok_are_states {P : Program} {w : World} {K : PySem.W.Frag} {mg : Str → Option Value} {base : Heap} (T : Txt K mg) (F : ∃ fd, Fun K "are_states" "are_states" s_are_states (He.ga K "are_states") fd) (G_is_whole : Okf P w K mg base CX0 1 (He.ga K "is_whole") ["value", "least", "most"] (sp_is_whole K)) :
    Okf P w K mg base CX0 2 (He.ga K "are_states") ["value", "many"] (sp_are_states K) := by
  obtain ⟨fd, F⟩ := F
  exact ⟨fd, F.ok sc_are_states (fun vs H Q E h => by obtain ⟨l, _, hl, ⟨_, _, rfl, _⟩, _⟩ := h; exact hl.length) (fun cdv A outer s H vs Q E hr h => ⟨_, pd_are_states T G_is_whole hr, rd_are_states h⟩), F.binds (fun _ _ _ _ _ _ us hl => match us, hl with | [_, _], _ => rfl), F.kp⟩
theorem ok_wrong_in_reads {P : Program} {w : World} {K : PySem.W.Frag} {mg : Str → Option Value} {base : Heap} (T : Txt K mg) (F : ∃ fd, Fun K "wrong_in_reads" "wrong_in_reads" s_wrong_in_reads (He.ga K "wrong_in_reads") fd) (G_is_whole : Okf P w K mg base CX0 1 (He.ga K "is_whole") ["value", "least", "most"] (sp_is_whole K)) :
    Okf P w K mg base CX0 2 (He.ga K "wrong_in_reads") ["value"] (sp_wrong_in_reads K) := by
  obtain ⟨fd, F⟩ := F
  exact ⟨fd, F.ok sc_wrong_in_reads (fun vs H Q E h => by obtain ⟨l, _, hl, ⟨_, rfl, _⟩, _⟩ := h; exact hl.length) (fun cdv A outer s H vs Q E hr h => ⟨_, pd_wrong_in_reads T G_is_whole hr, rd_wrong_in_reads h⟩), F.binds (fun _ _ _ _ _ _ us hl => match us, hl with | [_], _ => rfl), F.kp⟩
theorem ok_wrong_in_updates {P : Program} {w : World} {K : PySem.W.Frag} {mg : Str → Option Value} {base : Heap} (T : Txt K mg) (F : ∃ fd, Fun K "wrong_in_updates" "wrong_in_updates" s_wrong_in_updates (He.ga K "wrong_in_updates") fd) (G_are_states : Okf P w K mg base CX0 2 (He.ga K "are_states") ["value", "many"] (sp_are_states K)) :
    Okf P w K mg base CX0 3 (He.ga K "wrong_in_updates") ["value", "many"] (sp_wrong_in_updates K) := by
  obtain ⟨fd, F⟩ := F
  exact ⟨fd, F.ok sc_wrong_in_updates (fun vs H Q E h => by obtain ⟨l, _, hl, ⟨_, _, rfl, _⟩, _⟩ := h; exact hl.length) (fun cdv A outer s H vs Q E hr h => ⟨_, pd_wrong_in_updates T G_are_states hr, rd_wrong_in_updates h⟩), F.binds (fun _ _ _ _ _ _ us hl => match us, hl with | [_, _], _ => rfl), F.kp⟩
theorem ok_wrong_in_merge {P : Program} {w : World} {K : PySem.W.Frag} {mg : Str → Option Value} {base : Heap} (T : Txt K mg) (F : ∃ fd, Fun K "wrong_in_merge" "wrong_in_merge" s_wrong_in_merge (He.ga K "wrong_in_merge") fd) (G_are_states : Okf P w K mg base CX0 2 (He.ga K "are_states") ["value", "many"] (sp_are_states K)) :
    Okf P w K mg base CX0 3 (He.ga K "wrong_in_merge") ["value", "many"] (sp_wrong_in_merge K) := by
  obtain ⟨fd, F⟩ := F
  exact ⟨fd, F.ok sc_wrong_in_merge (fun vs H Q E h => by obtain ⟨l, _, hl, ⟨_, _, rfl, _⟩, _⟩ := h; exact hl.length) (fun cdv A outer s H vs Q E hr h => ⟨_, pd_wrong_in_merge T G_are_states hr, rd_wrong_in_merge h⟩), F.binds (fun _ _ _ _ _ _ us hl => match us, hl with | [_, _], _ => rfl), F.kp⟩
theorem ok_need_kind {P : Program} {w : World} {K : PySem.W.Frag} {mg : Str → Option Value} {base : Heap} (T : Txt K mg) (F : ∃ fd, Fun K "need_kind" "need_kind" s_need_kind (He.ga K "need_kind") fd) (G_wrong_in_reads : Okf P w K mg base CX0 2 (He.ga K "wrong_in_reads") ["value"] (sp_wrong_in_reads K)) (G_is_whole : Okf P w K mg base CX0 1 (He.ga K "is_whole") ["value", "least", "most"] (sp_is_whole K)) (G_wrong_in_updates : Okf P w K mg base CX0 3 (He.ga K "wrong_in_updates") ["value", "many"] (sp_wrong_in_updates K)) (G_wrong_in_merge : Okf P w K mg base CX0 3 (He.ga K "wrong_in_merge") ["value", "many"] (sp_wrong_in_merge K)) :
    Okf P w K mg base CX0 4 (He.ga K "need_kind") ["kind"] (sp_need_kind K) := by
  obtain ⟨fd, F⟩ := F
  exact ⟨fd, F.ok sc_need_kind (fun vs H Q E h => by obtain ⟨l, _, hl, ⟨_, _, rfl, _⟩, _⟩ := h; exact hl.length) (fun cdv A outer s H vs Q E hr h => ⟨_, pd_need_kind T G_wrong_in_reads G_is_whole G_wrong_in_updates G_wrong_in_merge hr, rd_need_kind h⟩), F.binds (fun _ _ _ _ _ _ us hl => match us, hl with | [_], _ => rfl), F.kp⟩
theorem ok_merged_of {P : Program} {w : World} {K : PySem.W.Frag} {mg : Str → Option Value} {base : Heap} (T : Txt K mg) (F : ∃ fd, Fun K "merged_of" "merged_of" s_merged_of (He.ga K "merged_of") fd)  :
    Okf P w K mg base CX0 1 (He.ga K "merged_of") ["kind", "one", "other"] (sp_merged_of K) := by
  obtain ⟨fd, F⟩ := F
  exact ⟨fd, F.ok sc_merged_of (fun vs H Q E h => by obtain ⟨l, _, hl, ⟨_, _, _, _, _, _, rfl, _⟩, _⟩ := h; exact hl.length) (fun cdv A outer s H vs Q E hr h => ⟨_, pd_merged_of T  hr, rd_merged_of h⟩), F.binds (fun _ _ _ _ _ _ us hl => match us, hl with | [_, _, _], _ => rfl), F.kp⟩
theorem ok_is_step {P : Program} {w : World} {K : PySem.W.Frag} {mg : Str → Option Value} {base : Heap} (T : Txt K mg) (F : ∃ fd, Fun K "is_step" "is_step" s_is_step (He.ga K "is_step") fd) (G_is_whole : Okf P w K mg base CX0 1 (He.ga K "is_whole") ["value", "least", "most"] (sp_is_whole K)) :
    Okf P w K mg base CX0 2 (He.ga K "is_step") ["kind", "copies", "value"] (sp_is_step K) := by
  obtain ⟨fd, F⟩ := F
  exact ⟨fd, F.ok sc_is_step (fun vs H Q E h => by obtain ⟨l, _, hl, ⟨_, _, _, _, rfl, _⟩, _⟩ := h; exact hl.length) (fun cdv A outer s H vs Q E hr h => ⟨_, pd_is_step T G_is_whole hr, rd_is_step h⟩), F.binds (fun _ _ _ _ _ _ us hl => match us, hl with | [_, _, _], _ => rfl), F.kp⟩
theorem ok_wrong_in_history {P : Program} {w : World} {K : PySem.W.Frag} {mg : Str → Option Value} {base : Heap} (T : Txt K mg) (F : ∃ fd, Fun K "wrong_in_history" "wrong_in_history" s_wrong_in_history (He.ga K "wrong_in_history") fd) (G_is_whole : Okf P w K mg base CX0 1 (He.ga K "is_whole") ["value", "least", "most"] (sp_is_whole K)) (G_is_step : Okf P w K mg base CX0 2 (He.ga K "is_step") ["kind", "copies", "value"] (sp_is_step K)) :
    Okf P w K mg base CX0 3 (He.ga K "wrong_in_history") ["kind", "value"] (sp_wrong_in_history K) := by
  obtain ⟨fd, F⟩ := F
  exact ⟨fd, F.ok sc_wrong_in_history (fun vs H Q E h => by obtain ⟨l, _, hl, ⟨_, _, _, _, rfl, _⟩, _⟩ := h; exact hl.length) (fun cdv A outer s H vs Q E hr h => ⟨_, pd_wrong_in_history T G_is_whole G_is_step hr, rd_wrong_in_history h⟩), F.binds (fun _ _ _ _ _ _ us hl => match us, hl with | [_, _], _ => rfl), F.kp⟩
theorem ok_need_history {P : Program} {w : World} {K : PySem.W.Frag} {mg : Str → Option Value} {base : Heap} (T : Txt K mg) (F : ∃ fd, Fun K "need_history" "need_history" s_need_history (He.ga K "need_history") fd) (G_need_kind : Okf P w K mg base CX0 4 (He.ga K "need_kind") ["kind"] (sp_need_kind K)) (G_wrong_in_history : Okf P w K mg base CX0 3 (He.ga K "wrong_in_history") ["kind", "value"] (sp_wrong_in_history K)) :
    Okf P w K mg base CX0 5 (He.ga K "need_history") ["kind", "history"] (sp_need_history K) := by
  obtain ⟨fd, F⟩ := F
  exact ⟨fd, F.ok sc_need_history (fun vs H Q E h => by obtain ⟨l, _, hl, ⟨_, _, _, _, rfl, _⟩, _⟩ := h; exact hl.length) (fun cdv A outer s H vs Q E hr h => ⟨_, pd_need_history T G_need_kind G_wrong_in_history hr, rd_need_history h⟩), F.binds (fun _ _ _ _ _ _ us hl => match us, hl with | [_, _], _ => rfl), F.kp⟩
theorem ok_stages_of {P : Program} {w : World} {K : PySem.W.Frag} {mg : Str → Option Value} {base : Heap} (T : Txt K mg) (F : ∃ fd, Fun K "stages_of" "stages_of" s_stages_of (He.ga K "stages_of") fd) (G_merged_of : Okf P w K mg base CX0 1 (He.ga K "merged_of") ["kind", "one", "other"] (sp_merged_of K)) :
    Okf P w K mg base CX0 2 (He.ga K "stages_of") ["kind", "history"] (sp_stages_of K) := by
  obtain ⟨fd, F⟩ := F
  exact ⟨fd, F.ok sc_stages_of (fun vs H Q E h => by obtain ⟨l, _, hl, ⟨_, _, _, _, rfl, _⟩, _⟩ := h; exact hl.length) (fun cdv A outer s H vs Q E hr h => ⟨_, pd_stages_of T G_merged_of hr, rd_stages_of h⟩), F.binds (fun _ _ _ _ _ _ us hl => match us, hl with | [_, _], _ => rfl), F.kp⟩
theorem ok_heard_of {P : Program} {w : World} {K : PySem.W.Frag} {mg : Str → Option Value} {base : Heap} (T : Txt K mg) (F : ∃ fd, Fun K "heard_of" "heard_of" s_heard_of (He.ga K "heard_of") fd)  :
    Okf P w K mg base CX0 1 (He.ga K "heard_of") ["history"] (sp_heard_of K) := by
  obtain ⟨fd, F⟩ := F
  exact ⟨fd, F.ok sc_heard_of (fun vs H Q E h => by obtain ⟨l, _, hl, ⟨_, _, _, _, rfl, _⟩, _⟩ := h; exact hl.length) (fun cdv A outer s H vs Q E hr h => ⟨_, pd_heard_of T  hr, rd_heard_of h⟩), F.binds (fun _ _ _ _ _ _ us hl => match us, hl with | [_], _ => rfl), F.kp⟩
theorem ok_split_pairs {P : Program} {w : World} {K : PySem.W.Frag} {mg : Str → Option Value} {base : Heap} (T : Txt K mg) (F : ∃ fd, Fun K "split_pairs" "split_pairs" s_split_pairs (He.ga K "split_pairs") fd) (G_need_history : Okf P w K mg base CX0 5 (He.ga K "need_history") ["kind", "history"] (sp_need_history K)) (G_heard_of : Okf P w K mg base CX0 1 (He.ga K "heard_of") ["history"] (sp_heard_of K)) (G_stages_of : Okf P w K mg base CX0 2 (He.ga K "stages_of") ["kind", "history"] (sp_stages_of K)) :
    Okf P w K mg base CX0 6 (He.ga K "split_pairs") ["kind", "history"] (sp_split_pairs K) := by
  obtain ⟨fd, F⟩ := F
  exact ⟨fd, F.ok sc_split_pairs (fun vs H Q E h => by obtain ⟨l, _, hl, ⟨_, _, _, _, rfl, _⟩, _⟩ := h; exact hl.length) (fun cdv A outer s H vs Q E hr h => ⟨_, pd_split_pairs T G_need_history G_heard_of G_stages_of hr, rd_split_pairs h⟩), F.binds (fun _ _ _ _ _ _ us hl => match us, hl with | [_, _], _ => rfl), F.kp⟩
theorem ok_need_copy {P : Program} {w : World} {K : PySem.W.Frag} {mg : Str → Option Value} {base : Heap} (T : Txt K mg) (F : ∃ fd, Fun K "need_copy" "need_copy" s_need_copy (He.ga K "need_copy") fd) (pg : PgOk P) (Fb : ∃ fd, FunC K "__init__" "BadCopy.__init__" s_BadCopy___init__ (He.ma K (He.ga K "BadCopy") "__init__") fd) (G_is_whole : Okf P w K mg base CX0 1 (He.ga K "is_whole") ["value", "least", "most"] (sp_is_whole K)) :
    Okf P w K mg base (L2.CX P w) 3 (He.ga K "need_copy") ["history", "copy"] (sp_need_copy K) := by
  obtain ⟨fd, F⟩ := F
  obtain ⟨fdb, Fb⟩ := Fb
  exact ⟨fd, F.okX sc_need_copy (fun vs H Q E h => by obtain ⟨_, _, _, hl, _⟩ := h; exact hl.length) (fun cdv A outer s H vs Q E hr h => ⟨_, pd_need_copy T pg Fb G_is_whole hr, rd_need_copy h⟩), F.binds (fun _ _ _ _ _ _ us hl => match us, hl with | [_, _], _ => rfl), F.kp⟩
theorem ok_Trial___init__ {P : Program} {w : World} {K : PySem.W.Frag} {mg : Str → Option Value} {base : Heap} (T : Txt K mg) (F : ∃ fd, Fun K "__init__" "Trial.__init__" s_Trial___init__ (He.ma K (He.ga K "Trial") "__init__") fd)  :
    Okf P w K mg base CX0 1 (He.ma K (He.ga K "Trial") "__init__") ["self", "held_house"] (sp_Trial___init__ K) := by
  obtain ⟨fd, F⟩ := F
  exact ⟨fd, F.ok sc_Trial___init__ (fun vs H Q E h => by obtain ⟨_, _, _, rfl, _⟩ := h; rfl) (fun cdv A outer s H vs Q E hr h => ⟨_, pd_Trial___init__ T  hr, rd_Trial___init__ T h⟩), F.binds (fun _ _ _ _ _ _ us hl => match us, hl with | [_, _], _ => rfl), F.kp⟩
theorem ok_Trial___enter__ {P : Program} {w : World} {K : PySem.W.Frag} {mg : Str → Option Value} {base : Heap} (T : Txt K mg) (F : ∃ fd, Fun K "__enter__" "Trial.__enter__" s_Trial___enter__ (He.ma K (He.ga K "Trial") "__enter__") fd)  :
    Okf P w K mg base CX0 1 (He.ma K (He.ga K "Trial") "__enter__") ["self"] (sp_Trial___enter__ K) := by
  obtain ⟨fd, F⟩ := F
  exact ⟨fd, F.ok sc_Trial___enter__ (fun vs H Q E h => by obtain ⟨_, _, _, _, _, rfl, _⟩ := h; rfl) (fun cdv A outer s H vs Q E hr h => ⟨_, pd_Trial___enter__ T  hr, rd_Trial___enter__ T h⟩), F.binds (fun _ _ _ _ _ _ us hl => match us, hl with | [_], _ => rfl), F.kp⟩
theorem ok_Trial___exit__ {P : Program} {w : World} {K : PySem.W.Frag} {mg : Str → Option Value} {base : Heap} (T : Txt K mg) (F : ∃ fd, Fun K "__exit__" "Trial.__exit__" s_Trial___exit__ (He.ma K (He.ga K "Trial") "__exit__") fd)  :
    Okf P w K mg base CX0 1 (He.ma K (He.ga K "Trial") "__exit__") ["self", "kind", "told", "trace"] (sp_Trial___exit__ K) := by
  obtain ⟨fd, F⟩ := F
  exact ⟨fd, F.ok sc_Trial___exit__ (fun vs H Q E h => by obtain ⟨_, _, _, _, _, _, _, _, rfl, _⟩ := h; rfl) (fun cdv A outer s H vs Q E hr h => ⟨_, pd_Trial___exit__ T  hr, rd_Trial___exit__ T h⟩), F.binds (fun _ _ _ _ _ _ us hl => match us, hl with | [_, _, _, _], _ => rfl), F.kp⟩
theorem ok_House___init__ {P : Program} {w : World} {K : PySem.W.Frag} {mg : Str → Option Value} {base : Heap} (T : Txt K mg) (F : ∃ fd, Fun K "__init__" "House.__init__" s_House___init__ (He.ma K (He.ga K "House") "__init__") fd) (G_need_kind : Okf P w K mg base CX0 4 (He.ga K "need_kind") ["kind"] (sp_need_kind K)) (G_is_whole : Okf P w K mg base CX0 1 (He.ga K "is_whole") ["value", "least", "most"] (sp_is_whole K)) :
    Okf P w K mg base CX0 5 (He.ma K (He.ga K "House") "__init__") ["self", "kind", "many"] (sp_House___init__ K) := by
  obtain ⟨fd, F⟩ := F
  exact ⟨fd, F.ok sc_House___init__ (fun vs H Q E h => by obtain ⟨_, _, _, _, _, rfl, _⟩ := h; rfl) (fun cdv A outer s H vs Q E hr h => ⟨_, pd_House___init__ T G_need_kind G_is_whole hr, rd_House___init__ T h⟩), F.binds (fun _ _ _ _ _ _ us hl => match us, hl with | [_, _, _], _ => rfl), F.kp⟩
theorem ok_House_table {P : Program} {w : World} {K : PySem.W.Frag} {mg : Str → Option Value} {base : Heap} (T : Txt K mg) (F : ∃ fd, Fun K "table" "House.table" s_House_table (gAd K "House" "table") fd)  :
    Okf P w K mg base CX0 1 (gAd K "House" "table") ["self"] (sp_House_table K) := by
  obtain ⟨fd, F⟩ := F
  exact ⟨fd, F.ok sc_House_table (fun vs H Q E h => by obtain ⟨_, _, rfl, _⟩ := h; rfl) (fun cdv A outer s H vs Q E hr h => ⟨_, pd_House_table T  hr, rd_House_table T h⟩), F.binds (fun _ _ _ _ _ _ us hl => match us, hl with | [_], _ => rfl), F.kp⟩
theorem ok_House_history {P : Program} {w : World} {K : PySem.W.Frag} {mg : Str → Option Value} {base : Heap} (T : Txt K mg) (F : ∃ fd, Fun K "history" "House.history" s_House_history (gAd K "House" "history") fd)  :
    Okf P w K mg base CX0 1 (gAd K "House" "history") ["self"] (sp_House_history K) := by
  obtain ⟨fd, F⟩ := F
  exact ⟨fd, F.ok sc_House_history (fun vs H Q E h => by obtain ⟨_, _, rfl, _⟩ := h; rfl) (fun cdv A outer s H vs Q E hr h => ⟨_, pd_House_history T  hr, rd_House_history T h⟩), F.binds (fun _ _ _ _ _ _ us hl => match us, hl with | [_], _ => rfl), F.kp⟩
theorem ok_House___len__ {P : Program} {w : World} {K : PySem.W.Frag} {mg : Str → Option Value} {base : Heap} (T : Txt K mg) (F : ∃ fd, Fun K "__len__" "House.__len__" s_House___len__ (He.ma K (He.ga K "House") "__len__") fd)  :
    Okf P w K mg base CX0 1 (He.ma K (He.ga K "House") "__len__") ["self"] (sp_House___len__ K) := by
  obtain ⟨fd, F⟩ := F
  exact ⟨fd, F.ok sc_House___len__ (fun vs H Q E h => by obtain ⟨_, _, rfl, _⟩ := h; rfl) (fun cdv A outer s H vs Q E hr h => ⟨_, pd_House___len__ T  hr, rd_House___len__ T h⟩), F.binds (fun _ _ _ _ _ _ us hl => match us, hl with | [_], _ => rfl), F.kp⟩
theorem ok_House_states {P : Program} {w : World} {K : PySem.W.Frag} {mg : Str → Option Value} {base : Heap} (T : Txt K mg) (F : ∃ fd, Fun K "states" "House.states" s_House_states (He.ma K (He.ga K "House") "states") fd) (G_stages_of : Okf P w K mg base CX0 2 (He.ga K "stages_of") ["kind", "history"] (sp_stages_of K)) (G_House_history : Okf P w K mg base CX0 1 (gAd K "House" "history") ["self"] (sp_House_history K)) :
    Okf P w K mg base CX0 3 (He.ma K (He.ga K "House") "states") ["self"] (sp_House_states K) := by
  obtain ⟨fd, F⟩ := F
  exact ⟨fd, F.ok sc_House_states (fun vs H Q E h => by obtain ⟨_, _, rfl, _⟩ := h; rfl) (fun cdv A outer s H vs Q E hr h => ⟨_, pd_House_states T G_stages_of G_House_history hr, rd_House_states T h⟩), F.binds (fun _ _ _ _ _ _ us hl => match us, hl with | [_], _ => rfl), F.kp⟩
theorem ok_House_shown {P : Program} {w : World} {K : PySem.W.Frag} {mg : Str → Option Value} {base : Heap} (T : Txt K mg) (F : ∃ fd, Fun K "shown" "House.shown" s_House_shown (He.ma K (He.ga K "House") "shown") fd) (G_House_states : Okf P w K mg base CX0 3 (He.ma K (He.ga K "House") "states") ["self"] (sp_House_states K)) (G_need_copy : Okf P w K mg base (L2.CX P w) 3 (He.ga K "need_copy") ["history", "copy"] (sp_need_copy K)) (G_House_history : Okf P w K mg base CX0 1 (gAd K "House" "history") ["self"] (sp_House_history K)) :
    Okf P w K mg base CX0 4 (He.ma K (He.ga K "House") "shown") ["self", "number"] (sp_House_shown K) := by
  obtain ⟨fd, F⟩ := F
  exact ⟨fd, F.ok sc_House_shown (fun vs H Q E h => by obtain ⟨_, _, _, rfl, _⟩ := h; rfl) (fun cdv A outer s H vs Q E hr h => ⟨_, pd_House_shown T G_House_states G_need_copy G_House_history hr, rd_House_shown T h⟩), F.binds (fun _ _ _ _ _ _ us hl => match us, hl with | [_, _], _ => rfl), F.kp⟩
theorem ok_House_known {P : Program} {w : World} {K : PySem.W.Frag} {mg : Str → Option Value} {base : Heap} (T : Txt K mg) (F : ∃ fd, Fun K "known" "House.known" s_House_known (He.ma K (He.ga K "House") "known") fd) (G_heard_of : Okf P w K mg base CX0 1 (He.ga K "heard_of") ["history"] (sp_heard_of K)) (G_House_history : Okf P w K mg base CX0 1 (gAd K "House" "history") ["self"] (sp_House_history K)) (G_need_copy : Okf P w K mg base (L2.CX P w) 3 (He.ga K "need_copy") ["history", "copy"] (sp_need_copy K)) :
    Okf P w K mg base CX0 4 (He.ma K (He.ga K "House") "known") ["self", "number"] (sp_House_known K) := by
  obtain ⟨fd, F⟩ := F
  exact ⟨fd, F.ok sc_House_known (fun vs H Q E h => by obtain ⟨_, _, _, rfl, _⟩ := h; rfl) (fun cdv A outer s H vs Q E hr h => ⟨_, pd_House_known T G_heard_of G_House_history G_need_copy hr, rd_House_known T h⟩), F.binds (fun _ _ _ _ _ _ us hl => match us, hl with | [_, _], _ => rfl), F.kp⟩
theorem ok_House_split {P : Program} {w : World} {K : PySem.W.Frag} {mg : Str → Option Value} {base : Heap} (T : Txt K mg) (F : ∃ fd, Fun K "split" "House.split" s_House_split (He.ma K (He.ga K "House") "split") fd) (G_split_pairs : Okf P w K mg base CX0 6 (He.ga K "split_pairs") ["kind", "history"] (sp_split_pairs K)) (G_House_history : Okf P w K mg base CX0 1 (gAd K "House" "history") ["self"] (sp_House_history K)) :
    Okf P w K mg base CX0 7 (He.ma K (He.ga K "House") "split") ["self"] (sp_House_split K) := by
  obtain ⟨fd, F⟩ := F
  exact ⟨fd, F.ok sc_House_split (fun vs H Q E h => by obtain ⟨_, _, rfl, _⟩ := h; rfl) (fun cdv A outer s H vs Q E hr h => ⟨_, pd_House_split T G_split_pairs G_House_history hr, rd_House_split T h⟩), F.binds (fun _ _ _ _ _ _ us hl => match us, hl with | [_], _ => rfl), F.kp⟩
theorem ok_House_need_room {P : Program} {w : World} {K : PySem.W.Frag} {mg : Str → Option Value} {base : Heap} (T : Txt K mg) (F : ∃ fd, Fun K "need_room" "House.need_room" s_House_need_room (He.ma K (He.ga K "House") "need_room") fd) (G_House___len__ : Okf P w K mg base CX0 1 (He.ma K (He.ga K "House") "__len__") ["self"] (sp_House___len__ K)) :
    Okf P w K mg base CX0 3 (He.ma K (He.ga K "House") "need_room") ["self"] (sp_House_need_room K) := by
  obtain ⟨fd, F⟩ := F
  exact ⟨fd, F.ok sc_House_need_room (fun vs H Q E h => by obtain ⟨_, _, rfl, _⟩ := h; rfl) (fun cdv A outer s H vs Q E hr h => ⟨_, pd_House_need_room T G_House___len__ hr, rd_House_need_room T h⟩), F.binds (fun _ _ _ _ _ _ us hl => match us, hl with | [_], _ => rfl), F.kp⟩
theorem ok_House_keep {P : Program} {w : World} {K : PySem.W.Frag} {mg : Str → Option Value} {base : Heap} (T : Txt K mg) (F : ∃ fd, Fun K "keep" "House.keep" s_House_keep (He.ma K (He.ga K "House") "keep") fd)  :
    Okf P w K mg base CX0 1 (He.ma K (He.ga K "House") "keep") ["self", "step"] (sp_House_keep K) := by
  obtain ⟨fd, F⟩ := F
  exact ⟨fd, F.ok sc_House_keep (fun vs H Q E h => by obtain ⟨_, _, _, _, rfl, _⟩ := h; rfl) (fun cdv A outer s H vs Q E hr h => ⟨_, pd_House_keep T  hr, rd_House_keep T h⟩), F.binds (fun _ _ _ _ _ _ us hl => match us, hl with | [_, _], _ => rfl), F.kp⟩
theorem ok_House_do {P : Program} {w : World} {K : PySem.W.Frag} {mg : Str → Option Value} {base : Heap} (T : Txt K mg) (F : ∃ fd, Fun K "do" "House.do" s_House_do (He.ma K (He.ga K "House") "do") fd) (G_need_copy : Okf P w K mg base (L2.CX P w) 3 (He.ga K "need_copy") ["history", "copy"] (sp_need_copy K)) (G_House_history : Okf P w K mg base CX0 1 (gAd K "House" "history") ["self"] (sp_House_history K)) (G_is_whole : Okf P w K mg base CX0 1 (He.ga K "is_whole") ["value", "least", "most"] (sp_is_whole K)) (G_House_need_room : Okf P w K mg base CX0 3 (He.ma K (He.ga K "House") "need_room") ["self"] (sp_House_need_room K)) (G_House_keep : Okf P w K mg base CX0 1 (He.ma K (He.ga K "House") "keep") ["self", "step"] (sp_House_keep K)) (G_House_shown : Okf P w K mg base CX0 4 (He.ma K (He.ga K "House") "shown") ["self", "number"] (sp_House_shown K)) :
    Okf P w K mg base (L2.CX P w) 5 (He.ma K (He.ga K "House") "do") ["self", "number", "update"] (sp_House_do K) := by
  obtain ⟨fd, F⟩ := F
  exact ⟨fd, F.okX sc_House_do (fun vs H Q E h => by obtain ⟨_, _, _, _, rfl, _⟩ := h; rfl) (fun cdv A outer s H vs Q E hr h => ⟨_, pd_House_do T G_need_copy G_House_history G_is_whole G_House_need_room G_House_keep G_House_shown hr, rd_House_do T h⟩), F.binds (fun _ _ _ _ _ _ us hl => match us, hl with | [_, _, _], _ => rfl), F.kp⟩
theorem ok_House_hear {P : Program} {w : World} {K : PySem.W.Frag} {mg : Str → Option Value} {base : Heap} (T : Txt K mg) (F : ∃ fd, Fun K "hear" "House.hear" s_House_hear (He.ma K (He.ga K "House") "hear") fd) (G_need_copy : Okf P w K mg base (L2.CX P w) 3 (He.ga K "need_copy") ["history", "copy"] (sp_need_copy K)) (G_House_history : Okf P w K mg base CX0 1 (gAd K "House" "history") ["self"] (sp_House_history K)) (G_House_need_room : Okf P w K mg base CX0 3 (He.ma K (He.ga K "House") "need_room") ["self"] (sp_House_need_room K)) (G_House_keep : Okf P w K mg base CX0 1 (He.ma K (He.ga K "House") "keep") ["self", "step"] (sp_House_keep K)) (G_House_shown : Okf P w K mg base CX0 4 (He.ma K (He.ga K "House") "shown") ["self", "number"] (sp_House_shown K)) :
    Okf P w K mg base CX0 5 (He.ma K (He.ga K "House") "hear") ["self", "number", "other"] (sp_House_hear K) := by
  obtain ⟨fd, F⟩ := F
  exact ⟨fd, F.ok sc_House_hear (fun vs H Q E h => by obtain ⟨_, _, _, _, rfl, _⟩ := h; rfl) (fun cdv A outer s H vs Q E hr h => ⟨_, pd_House_hear T G_need_copy G_House_history G_House_need_room G_House_keep G_House_shown hr, rd_House_hear T h⟩), F.binds (fun _ _ _ _ _ _ us hl => match us, hl with | [_, _, _], _ => rfl), F.kp⟩
theorem ok_House_undo {P : Program} {w : World} {K : PySem.W.Frag} {mg : Str → Option Value} {base : Heap} (T : Txt K mg) (F : ∃ fd, Fun K "undo" "House.undo" s_House_undo (He.ma K (He.ga K "House") "undo") fd)  :
    Okf P w K mg base CX0 1 (He.ma K (He.ga K "House") "undo") ["self"] (sp_House_undo K) := by
  obtain ⟨fd, F⟩ := F
  exact ⟨fd, F.ok sc_House_undo (fun vs H Q E h => by obtain ⟨_, _, rfl, _⟩ := h; rfl) (fun cdv A outer s H vs Q E hr h => ⟨_, pd_House_undo T  hr, rd_House_undo T h⟩), F.binds (fun _ _ _ _ _ _ us hl => match us, hl with | [_], _ => rfl), F.kp⟩
theorem ok_House_redo {P : Program} {w : World} {K : PySem.W.Frag} {mg : Str → Option Value} {base : Heap} (T : Txt K mg) (F : ∃ fd, Fun K "redo" "House.redo" s_House_redo (He.ma K (He.ga K "House") "redo") fd)  :
    Okf P w K mg base CX0 1 (He.ma K (He.ga K "House") "redo") ["self"] (sp_House_redo K) := by
  obtain ⟨fd, F⟩ := F
  exact ⟨fd, F.ok sc_House_redo (fun vs H Q E h => by obtain ⟨_, _, rfl, _⟩ := h; rfl) (fun cdv A outer s H vs Q E hr h => ⟨_, pd_House_redo T  hr, rd_House_redo T h⟩), F.binds (fun _ _ _ _ _ _ us hl => match us, hl with | [_], _ => rfl), F.kp⟩
theorem ok_House_copy {P : Program} {w : World} {K : PySem.W.Frag} {mg : Str → Option Value} {base : Heap} (T : Txt K mg) (F : ∃ fd, Fun K "copy" "House.copy" s_House_copy (He.ma K (He.ga K "House") "copy") fd) (G_House___init__ : Okf P w K mg base CX0 5 (He.ma K (He.ga K "House") "__init__") ["self", "kind", "many"] (sp_House___init__ K)) :
    Okf P w K mg base CX0 7 (He.ma K (He.ga K "House") "copy") ["self"] (sp_House_copy K) := by
  obtain ⟨fd, F⟩ := F
  exact ⟨fd, F.ok sc_House_copy (fun vs H Q E h => by obtain ⟨_, _, rfl, _⟩ := h; rfl) (fun cdv A outer s H vs Q E hr h => ⟨_, pd_House_copy T G_House___init__ hr, rd_House_copy T h⟩), F.binds (fun _ _ _ _ _ _ us hl => match us, hl with | [_], _ => rfl), F.kp⟩
theorem ok_House_trial {P : Program} {w : World} {K : PySem.W.Frag} {mg : Str → Option Value} {base : Heap} (T : Txt K mg) (F : ∃ fd, Fun K "trial" "House.trial" s_House_trial (He.ma K (He.ga K "House") "trial") fd) (G_Trial___init__ : Okf P w K mg base CX0 1 (He.ma K (He.ga K "Trial") "__init__") ["self", "held_house"] (sp_Trial___init__ K)) :
    Okf P w K mg base CX0 3 (He.ma K (He.ga K "House") "trial") ["self"] (sp_House_trial K) := by
  obtain ⟨fd, F⟩ := F
  exact ⟨fd, F.ok sc_House_trial (fun vs H Q E h => by obtain ⟨_, _, rfl, _⟩ := h; rfl) (fun cdv A outer s H vs Q E hr h => ⟨_, pd_House_trial T G_Trial___init__ hr, rd_House_trial T h⟩), F.binds (fun _ _ _ _ _ _ us hl => match us, hl with | [_], _ => rfl), F.kp⟩
theorem ok_House___eq__ {P : Program} {w : World} {K : PySem.W.Frag} {mg : Str → Option Value} {base : Heap} (T : Txt K mg) (F : ∃ fd, Fun K "__eq__" "House.__eq__" s_House___eq__ (He.ma K (He.ga K "House") "__eq__") fd)  :
    Okf P w K mg base CX0 1 (He.ma K (He.ga K "House") "__eq__") ["self", "other"] (sp_House___eq__ K) := by
  obtain ⟨fd, F⟩ := F
  exact ⟨fd, F.ok sc_House___eq__ (fun vs H Q E h => by obtain ⟨_, _, _, rfl, _⟩ := h; rfl) (fun cdv A outer s H vs Q E hr h => ⟨_, pd_House___eq__ T  hr, rd_House___eq__ T h⟩), F.binds (fun _ _ _ _ _ _ us hl => match us, hl with | [_, _], _ => rfl), F.kp⟩
end W9
set_option maxHeartbeats 4000000
namespace W9
open PySem PySem.Spec PyProof.Rows L2
theorem pdH_Trial___exit__ {P : Program} {w : World} {K : PySem.W.Frag} {mg : Str → Option Value} {base : Heap} (T : Txt K mg) {cdv : Value} {A : Around} {outer : List Env} {s : Shared} {H : Hp} {E : XK} {p : Addr × Obj} :
    PSs (L2H.cxH CX0 P w K mg base N_Trial___exit__ "Trial.__exit__" (defScope s_Trial___exit__) (He.ma K (He.ga K "Trial") "__exit__") cdv A outer s H E p).nox (defBody s_Trial___exit__) (t_Trial___exit__ K) :=
  (pss_cons (ps_fld (pe_fld (pv 0) rfl) (pe_fld (pv 0) rfl) rfl)
  (pss_one (ps_fld (pe_fld (pv 0) rfl) (pe_fld (pv 0) rfl) rfl)))
theorem oke_Trial___exit__ {P : Program} {w : World} {K : PySem.W.Frag} {mg : Str → Option Value} {base : Heap} (T : Txt K mg) (F : ∃ fd, Fun K "__exit__" "Trial.__exit__" s_Trial___exit__ (He.ma K (He.ga K "Trial") "__exit__") fd) (k : Nat) :
    Oke P w K mg base (k + 1) (He.ma K (He.ga K "Trial") "__exit__") ["self", "kind", "told", "trace"] (sp_Trial___exit__ K) := by
  obtain ⟨fd, F⟩ := F
  exact ⟨fd, fun_okE F sc_Trial___exit__ (fun vs H Q E h => by obtain ⟨_, _, _, _, _, _, _, _, rfl, _⟩ := h; rfl) (fun cdv A outer s H vs Q E p hr h => ⟨_, pdH_Trial___exit__ T, rd_Trial___exit__ T h⟩), F.binds (fun _ _ _ _ _ _ us hl => match us, hl with | [_, _, _, _], _ => rfl)⟩
end W9
set_option maxHeartbeats 4000000
/-! the law's defs: what they promise -/
namespace W9
open PySem PySem.Spec PyProof.Rows L2
def rDictC : List V → Hp → VK → Prop := fun xs H Q => ∃ (a : Addr) (kvs : List (Key × V)), xs = [.ref a] ∧ Rd H a (.dK kvs) ∧ ∀ p, H p = none → Q (.ref p) (upd H p (.dK kvs))
theorem call_dictC9 {X : Cx} : CallR X (.type "dict") rDictC := call_dictD
theorem hu_65 {k : Nat} {A : Around} (hr : Room k A) : A.units + 65 < cLine := by have := hr.un; omega
/-- all that is tracked but these stays -/
def ExS (l : List Addr) (H H' : Hp) : Prop := ∀ b o, b ∉ l → H b = some o → H' b = some o
theorem ExS.of {l : List Addr} {H H' : Hp} (e : Ex H H') : ExS l H H' := fun b o _ h => e b o h
theorem ExS.trans {l : List Addr} {H H1 H2 : Hp} (x : ExS l H H1) (y : ExS l H1 H2) : ExS l H H2 := fun b o n h => y b o n (x b o n h)
theorem ExS.mono {l m : List Addr} {H H1 : Hp} (x : ExS l H H1) (h : ∀ a ∈ l, a ∈ m) : ExS m H H1 := fun b o n q => x b o (fun z => n (h b z)) q
theorem ExS.ofB {a : Addr} {l : List Addr} {H H1 : Hp} (x : ExB a H H1) (h : a ∈ l) : ExS l H H1 := fun b o n q => x b o (fun z => n (z ▸ h)) q
theorem ExS.upd {a : Addr} {l : List Addr} {H : Hp} {o : HO} (h : a ∈ l) : ExS l H (upd H a o) := ExS.ofB ExB.upd h
/-- the state that the draws are made from: the dict at m, its two lists, the count -/
def DrAt (H : Hp) (m c g : Addr) (n : Nat) : Prop := ∃ cs gs : List Int, H m = some (.dK [(.inr "cells", .ref c), (.inr "great", .ref g), (.inr "spot", .int (n : Int))]) ∧ c ≠ g ∧
  H c = some (.lst (cs.map V.int)) ∧ cs.length = 64 ∧ (∀ x ∈ cs, 0 ≤ x ∧ x < 2147483647) ∧ H g = some (.lst (gs.map V.int)) ∧ ∀ x ∈ gs, 0 ≤ x
/-- behind some draws -/
def DrTo (m c g : Addr) (n : Nat) (H H' : Hp) : Prop := ExT H H' ∧ ExS [m, g] H H' ∧ DrAt H' m c g n
theorem DrAt.ext {H H' : Hp} {m c g : Addr} {n : Nat} (e : Ex H H') (d : DrAt H m c g n) : DrAt H' m c g n := by
  obtain ⟨cs, gs, h1, h2, h3, h4, h5, h6, h7⟩ := d
  exact ⟨cs, gs, e _ _ h1, h2, e _ _ h3, h4, h5, e _ _ h6, h7⟩
/-- it stays where its three objects stay -/
theorem DrAt.keep {H H' : Hp} {m c g : Addr} {n : Nat} {l : List Addr} (d : DrAt H m c g n) (e : ExS l H H') (hm : m ∉ l) (hc : c ∉ l) (hg : g ∉ l) : DrAt H' m c g n := by
  obtain ⟨cs, gs, h1, h2, h3, h4, h5, h6, h7⟩ := d
  exact ⟨cs, gs, e _ _ hm h1, h2, e _ _ hc h3, h4, h5, e _ _ hg h6, h7⟩
theorem DrTo.of {H H' : Hp} {m c g : Addr} {n : Nat} (e : Ex H H') (d : DrAt H m c g n) : DrTo m c g n H H' := ⟨e.t, ExS.of e, d.ext e⟩
theorem DrTo.trans {H H1 H2 : Hp} {m c g : Addr} {n n' : Nat} (a : DrTo m c g n H H1) (b : DrTo m c g n' H1 H2) : DrTo m c g n' H H2 := ⟨a.1.trans b.1, a.2.1.trans b.2.1, b.2.2⟩
theorem DrTo.ex {H H1 H2 : Hp} {m c g : Addr} {n : Nat} (a : DrTo m c g n H H1) (e : Ex H1 H2) : DrTo m c g n H H2 := a.trans (DrTo.of e a.2.2)
/-- the record of a house in the law: a dict -/
def OwAt (H : Hp) (o : Addr) (h : Hs) : Prop := ∃ xk xp xl, H o = some (.dK [(.inr "kind", xk), (.inr "many", .int (h.m : Int)), (.inr "past", xp), (.inr "later", xl)]) ∧ TD H xk (kdD h.k) ∧ TD H xp (stepsD h.past) ∧ TD H xl (stepsD h.later)
theorem OwAt.keep {H H' : Hp} {o : Addr} {h : Hs} (x : OwAt H o h) (e : ∀ u, H o = some u → H' o = some u) (et : ExT H H') : OwAt H' o h := by
  obtain ⟨xk, xp, xl, h1, h2, h3, h4⟩ := x
  exact ⟨xk, xp, xl, e _ h1, h2.ext et, h3.ext et, h4.ext et⟩
theorem OwAt.ext {H H' : Hp} {o : Addr} {h : Hs} (e : Ex H H') (x : OwAt H o h) : OwAt H' o h := x.keep (e o) e.t
theorem OwAt.but {H H' : Hp} {o : Addr} {h : Hs} {l : List Addr} (x : OwAt H o h) (e : ExS l H H') (et : ExT H H') (n : o ∉ l) : OwAt H' o h := x.keep (fun u q => e o u n q) et
instance {o : Addr} {h : Hs} : Stb (fun H => OwAt H o h) := ⟨fun e x => x.ext e⟩
instance {m c g : Addr} {n : Nat} : Stb (fun H => DrAt H m c g n) := ⟨fun e x => x.ext e⟩
def Recd (o : Addr) (h' : Hs) (H H' : Hp) : Prop := ExT H H' ∧ ExB o H H' ∧ OwAt H' o h'

def mixI (x : Int) (n : Nat) : Int := (((((x * (1 + 2 * (n : Int))) * 48271).fmod 2147483647 + 7919 * (n : Int) * (n : Int) + 104729 * (n : Int)) * 69621).fmod 2147483629).fdiv 7
def sp__law_mixed (K : PySem.W.Frag) : Sp := spP fun l d => ∃ (x : Int) (n : Nat), l = [di x, dn n] ∧ 0 ≤ x ∧ x < 1000000000000000000 ∧ n ≤ 6000 ∧ d = di (mixI x n)
def sp__law_folded (K : PySem.W.Frag) : Sp := fun vs H Q _ => ∃ (a : Addr) (ns : List Int), vs = [.ref a] ∧ SqL K H a (ns.map V.int) ∧ ns.length ≤ 63 ∧ ∀ (p : Addr) (H' : Hp) (cs : List Int), H p = none → Ex H H' → H' p = some (.lst (cs.map V.int)) → cs.length = 64 → (∀ x ∈ cs, 0 ≤ x ∧ x < 2147483647) → Q (.ref p) H'
def sp__law_draw (K : PySem.W.Frag) : Sp := fun vs H Q _ => ∃ (m c g : Addr) (n lim : Nat), vs = [.ref m, .int ((lim : Nat) : Int)] ∧ DrAt H m c g n ∧ n < 5000 ∧ 1 ≤ lim ∧ lim ≤ 64 ∧ ∀ H' (r : Nat), r < lim → DrTo m c g (n + 1) H H' → Q (.int (r : Int)) H'
def sp__law_begun (K : PySem.W.Frag) : Sp := fun vs H Q _ => ∃ (a : Addr) (ns : List Int), vs = [.ref a] ∧ SqL K H a (ns.map V.int) ∧ ns.length ≤ 63 ∧ ∀ (m c g : Addr) (H' : Hp), H m = none → H c = none → H g = none → Ex H H' → DrAt H' m c g 0 → Q (.ref m) H'
/-- two values that are shown alike -/
def sp__law_like (K : PySem.W.Frag) : Sp := fun vs H Q _ => ∃ x y d, vs = [x, y] ∧ Dp K H x d ∧ Dp K H y d ∧ RpOk d ∧ ((∃ b, d = .bool b) ∨ (∃ i, d = .int i) ∨ ((∃ a, x = .ref a) ∧ ∃ a, y = .ref a)) ∧ ∀ H', Ex H H' → Q (.bl true) H'
/-- the powers in either -/
def lotA (x y k : Nat) : Nat := if x / k % 2 = 1 ∨ y / k % 2 = 1 then k else 0
def lots (x y : Nat) : Nat := lotA x y 1 + lotA x y 2 + lotA x y 4
def sp__law_both_lots (K : PySem.W.Frag) : Sp := spP fun l d => ∃ x y : Nat, l = [dn x, dn y] ∧ x < 8 ∧ y < 8 ∧ d = dn (lots x y)
/-- a table: its ups in a new list -/
structure TbOk (u : List (List Nat)) (g : List (List Nat)) (n : Nat) : Prop where
  n1 : 1 ≤ n
  n8 : n ≤ 8
  u1 : 1 ≤ u.length
  u3 : u.length ≤ 3
  ups : ∀ r ∈ u, RowOk n r
  g1 : g.length = n
  mg : ∀ r ∈ g, RowOk n r
def sp__law_join_table (K : PySem.W.Frag) : Sp := fun vs H Q _ => ∃ m c g n, vs = [.ref m] ∧ DrAt H m c g n ∧ n + 2 ≤ 5000 ∧ ∀ H' n' t a u w sz, n ≤ n' → n' ≤ n + 2 → DrTo m c g n' H H' → TbOk u w sz → H a = none → LstAt H' a (u.map rowD) → TD H' (.ref t) (.tup [dn 0, dr a, rowsD w, dn sz]) → Q (.ref t) H'
def sp__law_reads (K : PySem.W.Frag) : Sp := fun vs H Q _ => ∃ m c g n sz, vs = [.ref m, .int ((sz : Nat) : Int)] ∧ DrAt H m c g n ∧ sz ≤ 8 ∧ n + 16 ≤ 5000 ∧ ∀ H' n' x r, n ≤ n' → n' ≤ n + 16 → DrTo m c g n' H H' → r.length = sz → (∀ z ∈ r, z ≤ 9) → TD H' x (rowD r) → Q x H'
def sp__law_renumbered (K : PySem.W.Frag) : Sp := fun vs H Q _ => ∃ (xk : V) (k : Kd) (a : Addr) (ps : List Nat), vs = [xk, .ref a] ∧ TD H xk (kdD k) ∧ k.Ok ∧ LstAt H a (ps.map dn) ∧ ps.length = k.rd.length ∧ (∀ y, y < ps.length → y ∈ ps) ∧ (∀ p ∈ ps, p < ps.length) ∧ ∀ (x : V) (H' : Hp) (k' : Kd), Ex H H' → k'.Ok → TD H' x (kdD k') → Q x H'
/-- a drawn kind -/
def spK (B : Nat) : Sp := fun vs H Q _ => ∃ m c g n, vs = [.ref m] ∧ DrAt H m c g n ∧ n + B ≤ 5000 ∧ ∀ H' n' x k, n ≤ n' → n' ≤ n + B → DrTo m c g n' H H' → k.Ok → TD H' x (kdD k) → Q x H'
def sp__law_holding (K : PySem.W.Frag) : Sp := spK 40
def sp__law_any (K : PySem.W.Frag) : Sp := spK 120
def runD (k : Kd) (m : Nat) (h : List Stp) : Dt := .tup [rowD (runS k m h), rowsD (runH m h)]
def sp__law_run (K : PySem.W.Frag) : Sp := spP fun l d => ∃ (k : Kd) (n : Nat) (h : List Stp), HisOk k n h ∧ l = [kdD k, hisD n h] ∧ d = runD k n h
def sp__law_begin_house (K : PySem.W.Frag) : Sp := fun vs H Q _ => ∃ (xk : V) (k : Kd) (m : Nat), vs = [xk, .int ((m : Nat) : Int)] ∧ TD H xk (kdD k) ∧ ∀ p H', H p = none → Ex H H' → OwAt H' p ⟨k, m, [], []⟩ → Q (.ref p) H'
def sp__law_split_of (K : PySem.W.Frag) : Sp := spP fun l d => ∃ (s : List Nat) (t : List (List Nat)), l = [rowD s, rowsD t] ∧ s.length = t.length ∧ t.length ≤ 16 ∧ d = .tup ((splits s t t.length).map pairD)
def sp__law_stands (K : PySem.W.Frag) : Sp := fun vs H Q _ => ∃ a o h, vs = [.ref a, .ref o] ∧ HsAt K H a h ∧ OwAt H o h ∧ h.Ok ∧ h.m ≤ 5 ∧ ∀ H', Ex H H' → Q (.bl true) H'
def sp__law_gone_back (K : PySem.W.Frag) : Sp := fun vs H Q _ => ∃ o h, vs = [.ref o] ∧ OwAt H o h ∧ h.Ok ∧ ∀ H', Recd o h.back H H' → Q (.bl (!h.past.isEmpty)) H'
def sp__law_gone_on (K : PySem.W.Frag) : Sp := fun vs H Q _ => ∃ o h, vs = [.ref o] ∧ OwAt H o h ∧ h.Ok ∧ ∀ H', Recd o h.on H H' → Q (.bl (!h.later.isEmpty)) H'
/-- the record's next step, and what it answers -/
def sp__law_step_of (K : PySem.W.Frag) : Sp := fun vs H Q _ => ∃ m c g n o h, vs = [.ref m, .ref o] ∧ DrAt H m c g n ∧ OwAt H o h ∧ o ≠ m ∧ o ≠ c ∧ o ≠ g ∧ h.Ok ∧ h.m ≤ 5 ∧ h.past.length < 30 ∧ n + 3 ≤ 5000 ∧
  ∀ H' n' x s i, n ≤ n' → n' ≤ n + 3 → ExT H H' → ExS [m, g, o] H H' → DrAt H' m c g n' → OwAt H' o (h.did s) → s.Ok h.k h.m → (s = .act i (match s with | .act _ u => u | .hear _ u => u) ∨ s = .hear i (match s with | .act _ u => u | .hear _ u => u)) → TD H' x (.tup [stD s, shownD (h.did s) i]) → Q x H'
def sp__law_twin_of (K : PySem.W.Frag) : Sp := fun vs H Q _ => ∃ o h, vs = [.ref o] ∧ OwAt H o h ∧ ∀ p H', H p = none → Ex H H' → OwAt H' p h → Q (.ref p) H'
/-- the draws, the house at a, its record at o: apart -/
structure Apart (m c g a o : Addr) : Prop where
  om : o ≠ m
  oc : o ≠ c
  og : o ≠ g
  am : a ≠ m
  ac : a ≠ c
  ag : a ≠ g
  ao : a ≠ o
/-- house and record, both turned to h -/
def Led (K : PySem.W.Frag) (m c g a o : Addr) (n : Nat) (h : Hs) (H H' : Hp) : Prop := ExT H H' ∧ ExS [m, g, a, o] H H' ∧ DrAt H' m c g n ∧ HsAt K H' a h ∧ OwAt H' o h
def sp__law_turn (K : PySem.W.Frag) : Sp := fun vs H Q _ => ∃ m c g n a o h, vs = [.ref m, .ref a, .ref o] ∧ DrAt H m c g n ∧ HsAt K H a h ∧ OwAt H o h ∧ Apart m c g a o ∧ h.Ok ∧ h.m ≤ 5 ∧ h.past.length + h.later.length < 30 ∧ n + 4 ≤ 5000 ∧
  ∀ H' n' h', n ≤ n' → n' ≤ n + 4 → Led K m c g a o n' h' H H' → h'.k = h.k → h'.m = h.m → h'.Ok → h'.past.length + h'.later.length ≤ h.past.length + h.later.length + 1 → Q (.bl true) H'
def sp__law_led (K : PySem.W.Frag) : Sp := fun vs H Q _ => ∃ m c g n a o h w, vs = [.ref m, .ref a, .ref o, .int ((w : Nat) : Int)] ∧ DrAt H m c g n ∧ HsAt K H a h ∧ OwAt H o h ∧ Apart m c g a o ∧ h.Ok ∧ h.m ≤ 5 ∧ h.past.length + h.later.length + w ≤ 30 ∧ n + 4 * w ≤ 5000 ∧
  ∀ H' n' h', n ≤ n' → n' ≤ n + 4 * w → Led K m c g a o n' h' H H' → h'.k = h.k → h'.m = h.m → h'.Ok → h'.past.length + h'.later.length ≤ h.past.length + h.later.length + w → Q (.bl true) H'
end W9
set_option maxHeartbeats 4000000
namespace W9
open PySem PySem.Spec PyProof.Rows L2
abbrev N__law_mixed : List Str := ["_law_cell", "_law_n", "_law_blend"]
theorem sc__law_mixed : FnScope N__law_mixed ["_law_cell", "_law_n"] (defScope s__law_mixed) := ⟨rfl, rfl, rfl, by decide +kernel, rfl, by decide +kernel, by decide +kernel⟩
def t__law_mixed (K : PySem.W.Frag) : TS :=
  (tSeq (tAsg (tOp (rAdd9 K) (tOp (rAdd9 K) (tOp rMod9 (tCB rInt9 (tCons (tOp (rMul9 K) (tOp (rMul9 K) (tVar 0) (tOp (rAdd9 K) (tC (.int 1)) (tOp (rMul9 K) (tC (.int 2)) (tVar 1)))) (tC (.int 48271))) tNil)) (tC (.int 2147483647))) (tOp (rMul9 K) (tOp (rMul9 K) (tC (.int 7919)) (tVar 1)) (tVar 1))) (tOp (rMul9 K) (tC (.int 104729)) (tVar 1))) (gName 2))
  (tRet (tOp rDiv9 (tOp rMod9 (tCB rInt9 (tCons (tOp (rMul9 K) (tVar 2) (tC (.int 69621))) tNil)) (tC (.int 2147483629))) (tC (.int 7)))))
theorem pd__law_mixed {P : Program} {w : World} {K : PySem.W.Frag} {mg : Str → Option Value} {base : Heap} (T : Txt K mg)  {cdv : Value} {A : Around} {outer : List Env} {s : Shared} {H : Hp} {E : XK}
    (hr : Room 0 (A.deeper (envOfC "_law_mixed" (defScope s__law_mixed) s.heap.objs.size (He.ga K "_law_mixed") cdv))) :
    PSs (cxOf CX0 P w K mg base N__law_mixed "_law_mixed" (defScope s__law_mixed) (He.ga K "_law_mixed") cdv A outer s H E).nox (defBody s__law_mixed) (t__law_mixed K) :=
  (pss_cons (ps_set (i := 2) sc__law_mixed.nd rfl (Or.inl rfl) (pe_op op_add9 (pe_op op_add9 (pe_op op_modN (pe_callTy call_int9 (by rfl) T.f_int (by decide +kernel) (pa_cons (pe_op op_mul9 (pe_op op_mul9 (pv 0) (pe_op op_add9 pe_int (pe_op op_mul9 pe_int (pv 1)))) pe_int) pa_nil)) pe_int) (pe_op op_mul9 (pe_op op_mul9 pe_int (pv 1)) (pv 1))) (pe_op op_mul9 pe_int (pv 1))))
  (pss_one (ps_ret (pe_op op_fdivN (pe_op op_modN (pe_callTy call_int9 (by rfl) T.f_int (by decide +kernel) (pa_cons (pe_op op_mul9 (pv 2) pe_int) pa_nil)) pe_int) pe_int))))

abbrev N__law_folded : List Str := ["_law_script", "_law_n", "_law_found", "_law_cell"]
theorem sc__law_folded : FnScope N__law_folded ["_law_script"] (defScope s__law_folded) := ⟨rfl, rfl, rfl, by decide +kernel, rfl, by decide +kernel, by decide +kernel⟩
def t__law_folded (K : PySem.W.Frag) : TS :=
  (tSeq (tAsg (tLc (iRng1 (tCons (tC (.int 64)) tNil)) (gName 1) tYes (tOp (rAdd9 K) (tC (.int 17)) (tVar 1)) [1]) (gName 2))
  (tSeq (tFor (iEnum K (tCons (tVar 0) tNil)) (gTup K 2 (gCons (gName 1) (gCons (gName 3) gNil))) (tAsg (tOp rMod9 (tCB rInt9 (tCons (tOp (rAdd9 K) (tOp (rMul9 K) (tOp (rIx K) (tVar 2) (tOp rMod9 (tCB rInt9 (tCons (tVar 1) tNil)) (tC (.int 64)))) (tC (.int 48271))) (tVar 3)) tNil)) (tC (.int 2147483647))) (gSub (tVar 2) (tOp rMod9 (tCB rInt9 (tCons (tVar 1) tNil)) (tC (.int 64))) rSetL)))
  (tSeq (tFor (iRng2 (tCons (tC (.int 1)) (tCons (tC (.int 64)) tNil))) (gName 1) (tAsg (tOp rMod9 (tCB rInt9 (tCons (tOp (rAdd9 K) (tOp (rIx K) (tVar 2) (tVar 1)) (tOp (rMul9 K) (tOp (rIx K) (tVar 2) (tOp rSub9 (tVar 1) (tC (.int 1)))) (tC (.int 16807)))) tNil)) (tC (.int 2147483647))) (gSub (tVar 2) (tVar 1) rSetL)))
  (tRet (tVar 2)))))
theorem pd__law_folded {P : Program} {w : World} {K : PySem.W.Frag} {mg : Str → Option Value} {base : Heap} (T : Txt K mg)  {cdv : Value} {A : Around} {outer : List Env} {s : Shared} {H : Hp} {E : XK}
    (hr : Room 0 (A.deeper (envOfC "_law_folded" (defScope s__law_folded) s.heap.objs.size (He.ga K "_law_folded") cdv))) :
    PSs (cxOf CX0 P w K mg base N__law_folded "_law_folded" (defScope s__law_folded) (He.ga K "_law_folded") cdv A outer s H E).nox (defBody s__law_folded) (t__law_folded K) :=
  (pss_cons (ps_setLc (i := 2) (own := [("_law_n", 1)]) (g := (gName 1)) rfl sc__law_folded.nd rfl rfl (sw_true rfl rfl rfl (by decide +kernel)) (pi_range1 (by rfl) T.f_range (pa_cons pe_int pa_nil)) (blkOk_by (own := [("_law_n", 1)]) (N := ["_law_script", "_law_n", "_law_found", "_law_cell"]) (sc := defScope s__law_folded) (by decide +kernel)) (fun _ _ _ _ _ => (pg_name (i := 1) sc__law_folded.nd rfl (Or.inl rfl))) (fun _ _ _ _ _ => pts_nil) (fun _ _ _ _ _ => (pe_op op_add9 pe_int (pv 1))))
  (pss_cons (ps_for PassesOwn.never rfl (pi_enum (by rfl) T.f_enumerate (pa_cons (pv 0) pa_nil)) (pg_tup rfl (pgs_cons (pg_name (i := 1) sc__law_folded.nd rfl (Or.inl rfl)) (pgs_cons (pg_name (i := 3) sc__law_folded.nd rfl (Or.inl rfl)) pgs_nil))) (pss_one (ps_asg (pe_op op_modN (pe_callTy call_int9 (by rfl) T.f_int (by decide +kernel) (pa_cons (pe_op op_add9 (pe_op op_mul9 (pe_ix ix_seq (pv 2) (pe_op op_modN (pe_callTy call_int9 (by rfl) T.f_int (by decide +kernel) (pa_cons (pv 1) pa_nil)) pe_int) (fun _ _ => rfl)) pe_int) (pv 3)) pa_nil)) pe_int) (pg_sub (pv 2) (pe_op op_modN (pe_callTy call_int9 (by rfl) T.f_int (by decide +kernel) (pa_cons (pv 1) pa_nil)) pe_int) set_list))))
  (pss_cons (ps_for PassesOwn.never rfl (pi_range2 (by rfl) T.f_range (pa_cons pe_int (pa_cons pe_int pa_nil))) (pg_name (i := 1) sc__law_folded.nd rfl (Or.inl rfl)) (pss_one (ps_asg (pe_op op_modN (pe_callTy call_int9 (by rfl) T.f_int (by decide +kernel) (pa_cons (pe_op op_add9 (pe_ix ix_seq (pv 2) (pv 1) (fun _ _ => rfl)) (pe_op op_mul9 (pe_ix ix_seq (pv 2) (pe_op op_sub (pv 1) pe_int) (fun _ _ => rfl)) pe_int)) pa_nil)) pe_int) (pg_sub (pv 2) (pv 1) set_list))))
  (pss_one (ps_ret (pv 2))))))

abbrev N__law_draw : List Str := ["_law_m", "_law_limit", "_law_n", "_law_lot", "_law_here", "_law_cell"]
theorem sc__law_draw : FnScope N__law_draw ["_law_m", "_law_limit"] (defScope s__law_draw) := ⟨rfl, rfl, rfl, by decide +kernel, rfl, by decide +kernel, by decide +kernel⟩
def t__law_draw (K : PySem.W.Frag) : TS :=
  (tSeq (tAsg (tDGet (tVar 0) (tC (.str "spot"))) (gName 2))
  (tSeq (sDPut (tVar 0) (tC (.str "spot")) (tOp (rAdd9 K) (tVar 2) (tC (.int 1))))
  (tSeq (tIfS (tTest (tOp (rNe9 K) (tDGet (tVar 0) (tC (.str "great"))) (tLst tNil))) (tSeq (tAsg (tDGet (tVar 0) (tC (.str "great"))) (gName 3))
  (tSeq (tAsg (tOp rMod9 (tCB rInt9 (tCons (tVar 2) tNil)) (tCB (rLen9 K) (tCons (tVar 3) tNil))) (gName 4))
  (tSeq (tAsg (tOp (rIx K) (tVar 3) (tVar 4)) (gName 5))
  (tIfS (tTest (tOp rGt9 (tVar 5) (tC (.int 0)))) (tSeq (tAsg (tOp rDiv9 (tVar 5) (tVar 1)) (gSub (tVar 3) (tVar 4) rSetL))
  (tRet (tOp rMod9 (tCB rInt9 (tCons (tVar 5) tNil)) (tVar 1)))) tNext)))) tNext)
  (tSeq (tAsg (tDGet (tVar 0) (tC (.str "cells"))) (gName 3))
  (tRet (tOp rMod9 (tCB rInt9 (tCons (tCall (sp__law_mixed K) [] E0 (tCons (tCall (sp__law_mixed K) [] E0 (tCons (tOp (rAdd9 K) (tOp (rIx K) (tVar 3) (tOp rMod9 (tCB rInt9 (tCons (tVar 2) tNil)) (tC (.int 64)))) (tOp (rMul9 K) (tC (.int 31)) (tOp rDiv9 (tVar 2) (tC (.int 64))))) (tCons (tVar 2) tNil))) (tCons (tOp (rAdd9 K) (tVar 2) (tC (.int 7))) tNil))) tNil)) (tVar 1)))))))
theorem pd__law_draw {P : Program} {w : World} {K : PySem.W.Frag} {mg : Str → Option Value} {base : Heap} (T : Txt K mg) (G__law_mixed : Okf P w K mg base CX0 1 (He.ga K "_law_mixed") ["_law_cell", "_law_n"] (sp__law_mixed K)) {cdv : Value} {A : Around} {outer : List Env} {s : Shared} {H : Hp} {E : XK}
    (hr : Room 1 (A.deeper (envOfC "_law_draw" (defScope s__law_draw) s.heap.objs.size (He.ga K "_law_draw") cdv))) :
    PSs (cxOf CX0 P w K mg base N__law_draw "_law_draw" (defScope s__law_draw) (He.ga K "_law_draw") cdv A outer s H E).nox (defBody s__law_draw) (t__law_draw K) :=
  (pss_cons (ps_set (i := 2) sc__law_draw.nd rfl (Or.inl rfl) (pe_dget (hu_of hr) (pv 0) pe_str (fun _ _ => rfl)))
  (pss_cons (ps_dput (hu_of hr) (pv 0) pe_str (pe_op op_add9 (pv 2) pe_int) rfl)
  (pss_cons (ps_if (pt_cmpR (op_ne9 hr.units) (pe_dget (hu_of hr) (pv 0) pe_str (fun _ _ => rfl)) (pe_lst pa_nil) (nomark _)) (pss_cons (ps_set (i := 3) sc__law_draw.nd rfl (Or.inl rfl) (pe_dget (hu_of hr) (pv 0) pe_str (fun _ _ => rfl)))
  (pss_cons (ps_set (i := 4) sc__law_draw.nd rfl (Or.inl rfl) (pe_op op_modN (pe_callTy call_int9 (by rfl) T.f_int (by decide +kernel) (pa_cons (pv 2) pa_nil)) (pe_callB call_len9 (by rfl) T.f_len PySem.boot_len (pa_cons (pv 3) pa_nil))))
  (pss_cons (ps_set (i := 5) sc__law_draw.nd rfl (Or.inl rfl) (pe_ix ix_seq (pv 3) (pv 4) (fun _ _ => rfl)))
  (pss_one (ps_if (pt_cmpR op_gt (pv 5) pe_int (nomark _)) (pss_cons (ps_asg (pe_op op_fdivN (pv 5) (pv 1)) (pg_sub (pv 3) (pv 4) set_list))
  (pss_one (ps_ret (pe_op op_modN (pe_callTy call_int9 (by rfl) T.f_int (by decide +kernel) (pa_cons (pv 5) pa_nil)) (pv 1))))) pss_nil))))) pss_nil)
  (pss_cons (ps_set (i := 3) sc__law_draw.nd rfl (Or.inl rfl) (pe_dget (hu_of hr) (pv 0) pe_str (fun _ _ => rfl)))
  (pss_one (ps_ret (pe_op op_modN (pe_callTy call_int9 (by rfl) T.f_int (by decide +kernel) (pa_cons (pe_callF G__law_mixed (hr.mono (by decide)) (by rfl) T.g__law_mixed pass0 (pa_cons (pe_callF G__law_mixed (hr.mono (by decide)) (by rfl) T.g__law_mixed pass0 (pa_cons (pe_op op_add9 (pe_ix ix_seq (pv 3) (pe_op op_modN (pe_callTy call_int9 (by rfl) T.f_int (by decide +kernel) (pa_cons (pv 2) pa_nil)) pe_int) (fun _ _ => rfl)) (pe_op op_mul9 pe_int (pe_op op_fdivN (pv 2) pe_int))) (pa_cons (pv 2) pa_nil))) (pa_cons (pe_op op_add9 (pv 2) pe_int) pa_nil))) pa_nil)) (pv 1))))))))

abbrev N__law_begun : List Str := ["_law_script", "_law_m", "_law_cell"]
theorem sc__law_begun : FnScope N__law_begun ["_law_script"] (defScope s__law_begun) := ⟨rfl, rfl, rfl, by decide +kernel, rfl, by decide +kernel, by decide +kernel⟩
def t__law_begun (K : PySem.W.Frag) : TS :=
  (tSeq (tAsg (tDisp [((tC (.str "cells")), (tCall (sp__law_folded K) [] E0 (tCons (tVar 0) tNil))), ((tC (.str "great")), (tLst tNil)), ((tC (.str "spot")), (tC (.int 0)))]) (gName 1))
  (tSeq (sDPut (tVar 1) (tC (.str "great")) (tLc (iList K (tVar 0)) (gName 2) tYes (tIf (tTest (tOp rGe9 (tVar 2) (tOp rPow9 (tC (.int 10)) (tC (.int 18))))) (tVar 2) (tC (.int 0))) [2]))
  (tRet (tVar 1))))
theorem pd__law_begun {P : Program} {w : World} {K : PySem.W.Frag} {mg : Str → Option Value} {base : Heap} (T : Txt K mg) (G__law_folded : Okf P w K mg base CX0 1 (He.ga K "_law_folded") ["_law_script"] (sp__law_folded K)) {cdv : Value} {A : Around} {outer : List Env} {s : Shared} {H : Hp} {E : XK}
    (hr : Room 1 (A.deeper (envOfC "_law_begun" (defScope s__law_begun) s.heap.objs.size (He.ga K "_law_begun") cdv))) :
    PSs (cxOf CX0 P w K mg base N__law_begun "_law_begun" (defScope s__law_begun) (He.ga K "_law_begun") cdv A outer s H E).nox (defBody s__law_begun) (t__law_begun K) :=
  (pss_cons (ps_set (i := 1) sc__law_begun.nd rfl (Or.inl rfl) (pe_disp (pps_cons pe_str (pe_callF G__law_folded (hr.mono (by decide)) (by rfl) T.g__law_folded pass0 (pa_cons (pv 0) pa_nil)) (pps_cons pe_str (pe_lst pa_nil) (pps_cons pe_str pe_int pps_nil))) rfl rfl (by simp) (by decide)))
  (pss_cons (ps_dput (hu_of hr) (pv 1) pe_str (pe_lc (own := [("_law_cell", 2)]) (g := (gName 2)) rfl sc__law_begun.nd (pi_list (pv 0)) (blkOk_by (own := [("_law_cell", 2)]) (N := ["_law_script", "_law_m", "_law_cell"]) (sc := defScope s__law_begun) (by decide +kernel)) (fun _ _ _ _ _ => (pg_name (i := 2) sc__law_begun.nd rfl (Or.inl rfl))) (fun _ _ _ _ _ => pts_nil) (fun _ _ _ _ _ => (pe_ifExp (pt_cmpR op_ge (pv 2) (pe_op op_pow pe_int pe_int) (nomark _)) (pv 2) pe_int))) rfl)
  (pss_one (ps_ret (pv 1)))))

abbrev N__law_like : List Str := ["_law_answer", "_law_due"]
theorem sc__law_like : FnScope N__law_like ["_law_answer", "_law_due"] (defScope s__law_like) := ⟨rfl, rfl, rfl, by decide +kernel, rfl, by decide +kernel, by decide +kernel⟩
def t__law_like (K : PySem.W.Frag) : TS :=
  (tRet (tOp (rEq9 K) (tCB (rRepr K) (tCons (tVar 0) tNil)) (tCB (rRepr K) (tCons (tVar 1) tNil))))
theorem pd__law_like {P : Program} {w : World} {K : PySem.W.Frag} {mg : Str → Option Value} {base : Heap} (T : Txt K mg)  {cdv : Value} {A : Around} {outer : List Env} {s : Shared} {H : Hp} {E : XK} (hgd : A.guards = some [])
    (hr : Room 0 (A.deeper (envOfC "_law_like" (defScope s__law_like) s.heap.objs.size (He.ga K "_law_like") cdv))) :
    PSs (cxOf CX0 P w K mg base N__law_like "_law_like" (defScope s__law_like) (He.ga K "_law_like") cdv A outer s H E).nox (defBody s__law_like) (t__law_like K) :=
  (pss_one (ps_ret (pe_cmpR (op_eq9 hr.units) (pe_callB (call_repr9 hgd (hu_65 hr)) (by rfl) T.f_repr (by decide +kernel) (pa_cons (pv 0) pa_nil)) (pe_callB (call_repr9 hgd (hu_65 hr)) (by rfl) T.f_repr (by decide +kernel) (pa_cons (pv 1) pa_nil)) (nomark _))))

abbrev N__law_join_table : List Str := ["_law_m", "_law_pick", "_law_size", "_law_x", "_law_steps_so", "_law_merge", "_law_y", "_law_k"]
theorem sc__law_join_table : FnScope N__law_join_table ["_law_m"] (defScope s__law_join_table) := ⟨rfl, rfl, rfl, by decide +kernel, rfl, by decide +kernel, by decide +kernel⟩
def t__law_join_table (K : PySem.W.Frag) : TS :=
  (tSeq (tAsg (tCall (sp__law_draw K) [] E0 (tCons (tVar 0) (tCons (tC (.int 5)) tNil))) (gName 1))
  (tSeq (tIfS (tTest (tOp (rEq9 K) (tVar 1) (tC (.int 0)))) (tSeq (tAsg (tOp (rAdd9 K) (tC (.int 2)) (tCall (sp__law_draw K) [] E0 (tCons (tVar 0) (tCons (tC (.int 6)) tNil)))) (gName 2))
  (tSeq (tAsg (tLst (tCons (tCB (rTup9 K) (tCons (tLc (iRng1 (tCons (tVar 2) tNil)) (gName 3) tYes (tCB rMin9 (tCons (tOp rSub9 (tVar 2) (tC (.int 1))) (tCons (tOp (rAdd9 K) (tVar 3) (tC (.int 1))) tNil))) [3]) tNil)) tNil)) (gName 4))
  (tSeq (tDrop (tBM K "list" rAppend (tVar 4) (tCons (tCB (rTup9 K) (tCons (tLc (iRng1 (tCons (tVar 2) tNil)) (gName 3) tYes (tCB rMax9 (tCons (tVar 3) (tCons (tOp rDiv9 (tVar 2) (tC (.int 2))) tNil))) [3]) tNil)) tNil)))
  (tRet (tTup (tCons (tC (.int 0)) (tCons (tVar 4) (tCons (tCB (rTup9 K) (tCons (tLc (iRng1 (tCons (tVar 2) tNil)) (gName 3) tYes (tCB (rTup9 K) (tCons (tLc (iRng1 (tCons (tVar 2) tNil)) (gName 6) tYes (tCB rMax9 (tCons (tVar 3) (tCons (tVar 6) tNil))) [6]) tNil)) [3]) tNil)) (tCons (tVar 2) tNil))))))))) tNext)
  (tSeq (tAsg (tOp (rIx K) (tLst (tCons (tC (.int 4)) (tCons (tC (.int 8)) (tCons (tC (.int 6)) (tCons (tC (.int 8)) tNil))))) (tOp rSub9 (tVar 1) (tC (.int 1)))) (gName 2))
  (tSeq (tIfS (tTest (tOp (rNe9 K) (tVar 1) (tC (.int 3)))) (tSeq (tAsg (tLc (iTup K (tSl (rSl9 K) (tTup (tCons (tC (.int 1)) (tCons (tC (.int 2)) (tCons (tC (.int 4)) tNil)))) tNoPart (tPart (tOp (rAdd9 K) (tVar 1) (tC (.int 1)))))) (gName 7) tYes (tCB (rTup9 K) (tCons (tLc (iRng1 (tCons (tVar 2) tNil)) (gName 3) tYes (tIf (tTest (tOp (rEq9 K) (tOp rMod9 (tCB rInt9 (tCons (tOp rDiv9 (tVar 3) (tVar 7)) tNil)) (tC (.int 2))) (tC (.int 0)))) (tOp (rAdd9 K) (tVar 3) (tVar 7)) (tVar 3)) [3]) tNil)) [7]) (gName 4))
  (tSeq (tIfS (tTest (tOp (rEq9 K) (tVar 1) (tC (.int 4)))) (tAsg (tLc (iTup K (tTup (tCons (tC (.int 1)) (tCons (tC (.int 2)) (tCons (tC (.int 4)) tNil))))) (gName 7) tYes (tOp (rAdd9 K) (tTup (tCons (tVar 7) tNil)) (tTupRg (tRg2 (tC (.int 1)) (tC (.int 8))))) [7]) (gName 4)) tNext)
  (tSeq (tAsg (tLc (iRng1 (tCons (tVar 2) tNil)) (gName 3) tYes (tCB (rTup9 K) (tCons (tLc (iRng1 (tCons (tVar 2) tNil)) (gName 6) tYes (tCall (sp__law_both_lots K) [] E0 (tCons (tVar 3) (tCons (tVar 6) tNil))) [6]) tNil)) [3]) (gName 5))
  (tRet (tTup (tCons (tC (.int 0)) (tCons (tVar 4) (tCons (tCB (rTup9 K) (tCons (tVar 5) tNil)) (tCons (tVar 2) tNil))))))))) tNext)
  (tSeq (tAsg (tLst (tCons (tCB (rTup9 K) (tCons (tLc (iRng1 (tCons (tC (.int 6)) tNil)) (gName 3) tYes (tOp (rAdd9 K) (tOp (rMul9 K) (tCB rMin9 (tCons (tOp (rAdd9 K) (tOp rDiv9 (tVar 3) (tC (.int 2))) (tC (.int 1))) (tCons (tC (.int 2)) tNil))) (tC (.int 2))) (tOp rMod9 (tCB rInt9 (tCons (tVar 3) tNil)) (tC (.int 2)))) [3]) tNil)) (tCons (tCB (rTup9 K) (tCons (tLc (iRng1 (tCons (tC (.int 6)) tNil)) (gName 3) tYes (tOp (rAdd9 K) (tOp (rMul9 K) (tOp rDiv9 (tVar 3) (tC (.int 2))) (tC (.int 2))) (tC (.int 1))) [3]) tNil)) tNil))) (gName 4))
  (tSeq (tAsg (tLst tNil) (gName 5))
  (tSeq (tFor (iRng1 (tCons (tC (.int 6)) tNil)) (gName 3) (tDrop (tBM K "list" rAppend (tVar 5) (tCons (tCB (rTup9 K) (tCons (tLc (iRng1 (tCons (tC (.int 6)) tNil)) (gName 6) tYes (tOp (rAdd9 K) (tOp (rMul9 K) (tCB rMax9 (tCons (tOp rDiv9 (tVar 3) (tC (.int 2))) (tCons (tOp rDiv9 (tVar 6) (tC (.int 2))) tNil))) (tC (.int 2))) (tCB rMax9 (tCons (tOp rMod9 (tCB rInt9 (tCons (tVar 3) tNil)) (tC (.int 2))) (tCons (tOp rMod9 (tCB rInt9 (tCons (tVar 6) tNil)) (tC (.int 2))) tNil)))) [6]) tNil)) tNil))))
  (tRet (tTup (tCons (tC (.int 0)) (tCons (tVar 4) (tCons (tCB (rTup9 K) (tCons (tVar 5) tNil)) (tCons (tVar 2) tNil)))))))))))))
theorem pd__law_join_table {P : Program} {w : World} {K : PySem.W.Frag} {mg : Str → Option Value} {base : Heap} (T : Txt K mg) (G__law_draw : Okf P w K mg base CX0 2 (He.ga K "_law_draw") ["_law_m", "_law_limit"] (sp__law_draw K)) (G__law_both_lots : Okf P w K mg base CX0 1 (He.ga K "_law_both_lots") ["_law_x", "_law_y"] (sp__law_both_lots K)) {cdv : Value} {A : Around} {outer : List Env} {s : Shared} {H : Hp} {E : XK}
    (hr : Room 2 (A.deeper (envOfC "_law_join_table" (defScope s__law_join_table) s.heap.objs.size (He.ga K "_law_join_table") cdv))) :
    PSs (cxOf CX0 P w K mg base N__law_join_table "_law_join_table" (defScope s__law_join_table) (He.ga K "_law_join_table") cdv A outer s H E).nox (defBody s__law_join_table) (t__law_join_table K) :=
  (pss_cons (ps_set (i := 1) sc__law_join_table.nd rfl (Or.inl rfl) (pe_callF G__law_draw (hr.mono (by decide)) (by rfl) T.g__law_draw pass0 (pa_cons (pv 0) (pa_cons pe_int pa_nil))))
  (pss_cons (ps_if (pt_cmpR (op_eq9 hr.units) (pv 1) pe_int (nomark _)) (pss_cons (ps_set (i := 2) sc__law_join_table.nd rfl (Or.inr rfl) (pe_op op_add9 pe_int (pe_callF G__law_draw (hr.mono (by decide)) (by rfl) T.g__law_draw pass0 (pa_cons (pv 0) (pa_cons pe_int pa_nil)))))
  (pss_cons (ps_set (i := 4) sc__law_join_table.nd rfl (Or.inl rfl) (pe_lst (pa_cons (pe_callTy call_tup9 (by rfl) T.f_tuple (by decide +kernel) (pa_cons (pe_lc (own := [("_law_x", 3)]) (g := (gName 3)) rfl sc__law_join_table.nd (pi_range1 (by rfl) T.f_range (pa_cons (pv 2) pa_nil)) (blkOk_by (own := [("_law_x", 3)]) (N := ["_law_m", "_law_pick", "_law_size", "_law_x", "_law_steps_so", "_law_merge", "_law_y", "_law_k"]) (sc := defScope s__law_join_table) (by decide +kernel)) (fun _ _ _ _ _ => (pg_name (i := 3) sc__law_join_table.nd rfl (Or.inl rfl))) (fun _ _ _ _ _ => pts_nil) (fun _ _ _ _ _ => (pe_callB (call_min9 rfl) (by rfl) T.f_min (by decide +kernel) (pa_cons (pe_op op_sub (pv 2) pe_int) (pa_cons (pe_op op_add9 (pv 3) pe_int) pa_nil))))) pa_nil)) pa_nil)))
  (pss_cons (ps_expr (pe_bm PySem.F.plainAttrs_list PySem.F.slot_list_append PySem.F.type_list_append mt_append (pv 4) (pa_cons (pe_callTy call_tup9 (by rfl) T.f_tuple (by decide +kernel) (pa_cons (pe_lc (own := [("_law_x", 3)]) (g := (gName 3)) rfl sc__law_join_table.nd (pi_range1 (by rfl) T.f_range (pa_cons (pv 2) pa_nil)) (blkOk_by (own := [("_law_x", 3)]) (N := ["_law_m", "_law_pick", "_law_size", "_law_x", "_law_steps_so", "_law_merge", "_law_y", "_law_k"]) (sc := defScope s__law_join_table) (by decide +kernel)) (fun _ _ _ _ _ => (pg_name (i := 3) sc__law_join_table.nd rfl (Or.inl rfl))) (fun _ _ _ _ _ => pts_nil) (fun _ _ _ _ _ => (pe_callB (call_max9 rfl) (by rfl) T.f_max (by decide +kernel) (pa_cons (pv 3) (pa_cons (pe_op op_fdivN (pv 2) pe_int) pa_nil))))) pa_nil)) pa_nil)))
  (pss_one (ps_ret (pe_tup (pa_cons pe_int (pa_cons (pv 4) (pa_cons (pe_callTy call_tup9 (by rfl) T.f_tuple (by decide +kernel) (pa_cons (pe_lc (own := [("_law_x", 3)]) (g := (gName 3)) rfl sc__law_join_table.nd (pi_range1 (by rfl) T.f_range (pa_cons (pv 2) pa_nil)) (blkOk_by (own := [("_law_x", 3)]) (N := ["_law_m", "_law_pick", "_law_size", "_law_x", "_law_steps_so", "_law_merge", "_law_y", "_law_k"]) (sc := defScope s__law_join_table) (by decide +kernel)) (fun _ _ _ _ _ => (pg_name (i := 3) sc__law_join_table.nd rfl (Or.inr rfl))) (fun _ _ _ _ _ => pts_nil) (fun _ _ _ _ _ => (pe_callTy call_tup9 (by rfl) T.f_tuple (by decide +kernel) (pa_cons (pe_lc (own := [("_law_y", 6)]) (g := (gName 6)) rfl sc__law_join_table.nd (pi_range1 (by rfl) T.f_range (pa_cons (pv 2) pa_nil)) (blkOk_by (own := [("_law_y", 6)]) (by kernel_rfl)) (fun _ _ _ _ _ => (pg_name (i := 6) sc__law_join_table.nd rfl (Or.inl rfl))) (fun _ _ _ _ _ => pts_nil) (fun _ _ _ _ _ => (pe_callB (call_max9 rfl) (by rfl) T.f_max (by decide +kernel) (pa_cons (pv 3) (pa_cons (pv 6) pa_nil))))) pa_nil)))) pa_nil)) (pa_cons (pv 2) pa_nil)))))))))) pss_nil)
  (pss_cons (ps_set (i := 2) sc__law_join_table.nd rfl (Or.inr rfl) (pe_ix ix_seq (pe_lst (pa_cons pe_int (pa_cons pe_int (pa_cons pe_int (pa_cons pe_int pa_nil))))) (pe_op op_sub (pv 1) pe_int) (fun _ _ => rfl)))
  (pss_cons (ps_if (pt_cmpR (op_ne9 hr.units) (pv 1) pe_int (nomark _)) (pss_cons (ps_setLc (i := 4) (own := [("_law_k", 7)]) (g := (gName 7)) rfl sc__law_join_table.nd rfl rfl (sw_true rfl rfl rfl (by decide +kernel)) (pi_tup (pe_slice sl_9 (pe_tup (pa_cons pe_int (pa_cons pe_int (pa_cons pe_int pa_nil)))) po_none (po_some (pe_op op_add9 (pv 1) pe_int)))) (blkOk_by (own := [("_law_k", 7)]) (N := ["_law_m", "_law_pick", "_law_size", "_law_x", "_law_steps_so", "_law_merge", "_law_y", "_law_k"]) (sc := defScope s__law_join_table) (by decide +kernel)) (fun _ _ _ _ _ => (pg_name (i := 7) sc__law_join_table.nd rfl (Or.inr rfl))) (fun _ _ _ _ _ => pts_nil) (fun _ _ _ _ _ => (pe_callTy call_tup9 (by rfl) T.f_tuple (by decide +kernel) (pa_cons (pe_lc (own := [("_law_x", 3)]) (g := (gName 3)) rfl sc__law_join_table.nd (pi_range1 (by rfl) T.f_range (pa_cons (pv 2) pa_nil)) (blkOk_by (own := [("_law_x", 3)]) (by kernel_rfl)) (fun _ _ _ _ _ => (pg_name (i := 3) sc__law_join_table.nd rfl (Or.inl rfl))) (fun _ _ _ _ _ => pts_nil) (fun _ _ _ _ _ => (pe_ifExp (pt_cmpR (op_eq9 hr.units) (pe_op op_modN (pe_callTy call_int9 (by rfl) T.f_int (by decide +kernel) (pa_cons (pe_op op_fdivN (pv 3) (pv 7)) pa_nil)) pe_int) pe_int (nomark _)) (pe_op op_add9 (pv 3) (pv 7)) (pv 3)))) pa_nil))))
  (pss_cons (ps_if (pt_cmpR (op_eq9 hr.units) (pv 1) pe_int (nomark _)) (pss_one (ps_setLc (i := 4) (own := [("_law_k", 7)]) (g := (gName 7)) rfl sc__law_join_table.nd rfl rfl (sw_true rfl rfl rfl (by decide +kernel)) (pi_tup (pe_tup (pa_cons pe_int (pa_cons pe_int (pa_cons pe_int pa_nil))))) (blkOk_by (own := [("_law_k", 7)]) (N := ["_law_m", "_law_pick", "_law_size", "_law_x", "_law_steps_so", "_law_merge", "_law_y", "_law_k"]) (sc := defScope s__law_join_table) (by decide +kernel)) (fun _ _ _ _ _ => (pg_name (i := 7) sc__law_join_table.nd rfl (Or.inl rfl))) (fun _ _ _ _ _ => pts_nil) (fun _ _ _ _ _ => (pe_op op_add9 (pe_tup (pa_cons (pv 7) pa_nil)) (pe_tupRg rfl (by rfl) T.f_tuple (prg_2 (by rfl) T.f_range pe_int pe_int)))))) pss_nil)
  (pss_cons (ps_setLc (i := 5) (own := [("_law_x", 3)]) (g := (gName 3)) rfl sc__law_join_table.nd rfl rfl (sw_true rfl rfl rfl (by decide +kernel)) (pi_range1 (by rfl) T.f_range (pa_cons (pv 2) pa_nil)) (blkOk_by (own := [("_law_x", 3)]) (N := ["_law_m", "_law_pick", "_law_size", "_law_x", "_law_steps_so", "_law_merge", "_law_y", "_law_k"]) (sc := defScope s__law_join_table) (by decide +kernel)) (fun _ _ _ _ _ => (pg_name (i := 3) sc__law_join_table.nd rfl (Or.inr rfl))) (fun _ _ _ _ _ => pts_nil) (fun _ _ _ _ _ => (pe_callTy call_tup9 (by rfl) T.f_tuple (by decide +kernel) (pa_cons (pe_lc (own := [("_law_y", 6)]) (g := (gName 6)) rfl sc__law_join_table.nd (pi_range1 (by rfl) T.f_range (pa_cons (pv 2) pa_nil)) (blkOk_by (own := [("_law_y", 6)]) (by kernel_rfl)) (fun _ _ _ _ _ => (pg_name (i := 6) sc__law_join_table.nd rfl (Or.inl rfl))) (fun _ _ _ _ _ => pts_nil) (fun _ _ _ _ _ => (pe_callF G__law_both_lots (hr.mono (by decide)) (by rfl) T.g__law_both_lots pass0 (pa_cons (pv 3) (pa_cons (pv 6) pa_nil))))) pa_nil))))
  (pss_one (ps_ret (pe_tup (pa_cons pe_int (pa_cons (pv 4) (pa_cons (pe_callTy call_tup9 (by rfl) T.f_tuple (by decide +kernel) (pa_cons (pv 5) pa_nil)) (pa_cons (pv 2) pa_nil)))))))))) pss_nil)
  (pss_cons (ps_set (i := 4) sc__law_join_table.nd rfl (Or.inl rfl) (pe_lst (pa_cons (pe_callTy call_tup9 (by rfl) T.f_tuple (by decide +kernel) (pa_cons (pe_lc (own := [("_law_x", 3)]) (g := (gName 3)) rfl sc__law_join_table.nd (pi_range1 (by rfl) T.f_range (pa_cons pe_int pa_nil)) (blkOk_by (own := [("_law_x", 3)]) (N := ["_law_m", "_law_pick", "_law_size", "_law_x", "_law_steps_so", "_law_merge", "_law_y", "_law_k"]) (sc := defScope s__law_join_table) (by decide +kernel)) (fun _ _ _ _ _ => (pg_name (i := 3) sc__law_join_table.nd rfl (Or.inl rfl))) (fun _ _ _ _ _ => pts_nil) (fun _ _ _ _ _ => (pe_op op_add9 (pe_op op_mul9 (pe_callB (call_min9 rfl) (by rfl) T.f_min (by decide +kernel) (pa_cons (pe_op op_add9 (pe_op op_fdivN (pv 3) pe_int) pe_int) (pa_cons pe_int pa_nil))) pe_int) (pe_op op_modN (pe_callTy call_int9 (by rfl) T.f_int (by decide +kernel) (pa_cons (pv 3) pa_nil)) pe_int)))) pa_nil)) (pa_cons (pe_callTy call_tup9 (by rfl) T.f_tuple (by decide +kernel) (pa_cons (pe_lc (own := [("_law_x", 3)]) (g := (gName 3)) rfl sc__law_join_table.nd (pi_range1 (by rfl) T.f_range (pa_cons pe_int pa_nil)) (blkOk_by (own := [("_law_x", 3)]) (N := ["_law_m", "_law_pick", "_law_size", "_law_x", "_law_steps_so", "_law_merge", "_law_y", "_law_k"]) (sc := defScope s__law_join_table) (by decide +kernel)) (fun _ _ _ _ _ => (pg_name (i := 3) sc__law_join_table.nd rfl (Or.inl rfl))) (fun _ _ _ _ _ => pts_nil) (fun _ _ _ _ _ => (pe_op op_add9 (pe_op op_mul9 (pe_op op_fdivN (pv 3) pe_int) pe_int) pe_int))) pa_nil)) pa_nil))))
  (pss_cons (ps_set (i := 5) sc__law_join_table.nd rfl (Or.inl rfl) (pe_lst pa_nil))
  (pss_cons (ps_for PassesOwn.never rfl (pi_range1 (by rfl) T.f_range (pa_cons pe_int pa_nil)) (pg_name (i := 3) sc__law_join_table.nd rfl (Or.inr rfl)) (pss_one (ps_expr (pe_bm PySem.F.plainAttrs_list PySem.F.slot_list_append PySem.F.type_list_append mt_append (pv 5) (pa_cons (pe_callTy call_tup9 (by rfl) T.f_tuple (by decide +kernel) (pa_cons (pe_lc (own := [("_law_y", 6)]) (g := (gName 6)) rfl sc__law_join_table.nd (pi_range1 (by rfl) T.f_range (pa_cons pe_int pa_nil)) (blkOk_by (own := [("_law_y", 6)]) (N := ["_law_m", "_law_pick", "_law_size", "_law_x", "_law_steps_so", "_law_merge", "_law_y", "_law_k"]) (sc := defScope s__law_join_table) (by decide +kernel)) (fun _ _ _ _ _ => (pg_name (i := 6) sc__law_join_table.nd rfl (Or.inl rfl))) (fun _ _ _ _ _ => pts_nil) (fun _ _ _ _ _ => (pe_op op_add9 (pe_op op_mul9 (pe_callB (call_max9 rfl) (by rfl) T.f_max (by decide +kernel) (pa_cons (pe_op op_fdivN (pv 3) pe_int) (pa_cons (pe_op op_fdivN (pv 6) pe_int) pa_nil))) pe_int) (pe_callB (call_max9 rfl) (by rfl) T.f_max (by decide +kernel) (pa_cons (pe_op op_modN (pe_callTy call_int9 (by rfl) T.f_int (by decide +kernel) (pa_cons (pv 3) pa_nil)) pe_int) (pa_cons (pe_op op_modN (pe_callTy call_int9 (by rfl) T.f_int (by decide +kernel) (pa_cons (pv 6) pa_nil)) pe_int) pa_nil)))))) pa_nil)) pa_nil)))))
  (pss_one (ps_ret (pe_tup (pa_cons pe_int (pa_cons (pv 4) (pa_cons (pe_callTy call_tup9 (by rfl) T.f_tuple (by decide +kernel) (pa_cons (pv 5) pa_nil)) (pa_cons (pv 2) pa_nil))))))))))))))

abbrev N__law_both_lots : List Str := ["_law_x", "_law_y", "_law_found", "_law_k"]
theorem sc__law_both_lots : FnScope N__law_both_lots ["_law_x", "_law_y"] (defScope s__law_both_lots) := ⟨rfl, rfl, rfl, by decide +kernel, rfl, by decide +kernel, by decide +kernel⟩
def t__law_both_lots (K : PySem.W.Frag) : TS :=
  (tSeq (tAsg (tC (.int 0)) (gName 2))
  (tSeq (tFor (iTup K (tTup (tCons (tC (.int 1)) (tCons (tC (.int 2)) (tCons (tC (.int 4)) tNil))))) (gName 3) (tAsg (tOp (rAdd9 K) (tVar 2) (tIf (tOr (tTest (tOp (rEq9 K) (tOp rMod9 (tCB rInt9 (tCons (tOp rDiv9 (tVar 0) (tVar 3)) tNil)) (tC (.int 2))) (tC (.int 1)))) (tTest (tOp (rEq9 K) (tOp rMod9 (tCB rInt9 (tCons (tOp rDiv9 (tVar 1) (tVar 3)) tNil)) (tC (.int 2))) (tC (.int 1))))) (tVar 3) (tC (.int 0)))) (gName 2)))
  (tRet (tVar 2))))
theorem pd__law_both_lots {P : Program} {w : World} {K : PySem.W.Frag} {mg : Str → Option Value} {base : Heap} (T : Txt K mg)  {cdv : Value} {A : Around} {outer : List Env} {s : Shared} {H : Hp} {E : XK}
    (hr : Room 0 (A.deeper (envOfC "_law_both_lots" (defScope s__law_both_lots) s.heap.objs.size (He.ga K "_law_both_lots") cdv))) :
    PSs (cxOf CX0 P w K mg base N__law_both_lots "_law_both_lots" (defScope s__law_both_lots) (He.ga K "_law_both_lots") cdv A outer s H E).nox (defBody s__law_both_lots) (t__law_both_lots K) :=
  (pss_cons (ps_set (i := 2) sc__law_both_lots.nd rfl (Or.inl rfl) pe_int)
  (pss_cons (ps_for PassesOwn.never rfl (pi_tup (pe_tup (pa_cons pe_int (pa_cons pe_int (pa_cons pe_int pa_nil))))) (pg_name (i := 3) sc__law_both_lots.nd rfl (Or.inl rfl)) (pss_one (ps_set (i := 2) sc__law_both_lots.nd rfl (Or.inl rfl) (pe_op op_add9 (pv 2) (pe_ifExp (PW.pt (pw_or (pt_cmpR (op_eq9 hr.units) (pe_op op_modN (pe_callTy call_int9 (by rfl) T.f_int (by decide +kernel) (pa_cons (pe_op op_fdivN (pv 0) (pv 3)) pa_nil)) pe_int) pe_int (nomark _)) (pw_or1 (pt_cmpR (op_eq9 hr.units) (pe_op op_modN (pe_callTy call_int9 (by rfl) T.f_int (by decide +kernel) (pa_cons (pe_op op_fdivN (pv 1) (pv 3)) pa_nil)) pe_int) pe_int (nomark _))))) (pv 3) pe_int)))))
  (pss_one (ps_ret (pv 2)))))

abbrev N__law_reads : List Str := ["_law_m", "_law_size", "_law_x"]
theorem sc__law_reads : FnScope N__law_reads ["_law_m", "_law_size"] (defScope s__law_reads) := ⟨rfl, rfl, rfl, by decide +kernel, rfl, by decide +kernel, by decide +kernel⟩
def t__law_reads (K : PySem.W.Frag) : TS :=
  (tRet (tCB (rTup9 K) (tCons (tLc (iRng1 (tCons (tVar 1) tNil)) (gName 2) tYes (tIf (tTest (tOp rGt9 (tCall (sp__law_draw K) [] E0 (tCons (tVar 0) (tCons (tC (.int 3)) tNil))) (tC (.int 0)))) (tVar 2) (tCall (sp__law_draw K) [] E0 (tCons (tVar 0) (tCons (tC (.int 10)) tNil)))) [2]) tNil)))
theorem pd__law_reads {P : Program} {w : World} {K : PySem.W.Frag} {mg : Str → Option Value} {base : Heap} (T : Txt K mg) (G__law_draw : Okf P w K mg base CX0 2 (He.ga K "_law_draw") ["_law_m", "_law_limit"] (sp__law_draw K)) {cdv : Value} {A : Around} {outer : List Env} {s : Shared} {H : Hp} {E : XK}
    (hr : Room 2 (A.deeper (envOfC "_law_reads" (defScope s__law_reads) s.heap.objs.size (He.ga K "_law_reads") cdv))) :
    PSs (cxOf CX0 P w K mg base N__law_reads "_law_reads" (defScope s__law_reads) (He.ga K "_law_reads") cdv A outer s H E).nox (defBody s__law_reads) (t__law_reads K) :=
  (pss_one (ps_ret (pe_callTy call_tup9 (by rfl) T.f_tuple (by decide +kernel) (pa_cons (pe_lc (own := [("_law_x", 2)]) (g := (gName 2)) rfl sc__law_reads.nd (pi_range1 (by rfl) T.f_range (pa_cons (pv 1) pa_nil)) (blkOk_by (own := [("_law_x", 2)]) (N := ["_law_m", "_law_size", "_law_x"]) (sc := defScope s__law_reads) (by decide +kernel)) (fun _ _ _ _ _ => (pg_name (i := 2) sc__law_reads.nd rfl (Or.inl rfl))) (fun _ _ _ _ _ => pts_nil) (fun _ _ _ _ _ => (pe_ifExp (pt_cmpR op_gt (pe_callF G__law_draw (hr.mono (by decide)) (by rfl) T.g__law_draw pass0 (pa_cons (pv 0) (pa_cons pe_int pa_nil))) pe_int (nomark _)) (pv 2) (pe_callF G__law_draw (hr.mono (by decide)) (by rfl) T.g__law_draw pass0 (pa_cons (pv 0) (pa_cons pe_int pa_nil)))))) pa_nil))))

abbrev N__law_renumbered : List Str := ["_law_kind_so", "_law_places", "_law_size", "_law_back", "_law_x", "_law_steps_so", "_law_merge", "_law_y", "_law_row"]
theorem sc__law_renumbered : FnScope N__law_renumbered ["_law_kind_so", "_law_places"] (defScope s__law_renumbered) := ⟨rfl, rfl, rfl, by decide +kernel, rfl, by decide +kernel, by decide +kernel⟩
def t__law_renumbered (K : PySem.W.Frag) : TS :=
  (tSeq (tAsg (tCB (rLen9 K) (tCons (tVar 1) tNil)) (gName 2))
  (tSeq (tAsg (tLc (iRng1 (tCons (tVar 2) tNil)) (gName 7) tYes (tBM K "list" (rIndex K) (tVar 1) (tCons (tVar 7) tNil)) [7]) (gName 3))
  (tSeq (tAsg (tCB (rTup9 K) (tCons (tLc (iTup K (tOp (rIx K) (tVar 0) (tC (.int 1)))) (gName 8) tYes (tCB (rTup9 K) (tCons (tLc (iList K (tVar 3)) (gName 4) tYes (tOp (rIx K) (tVar 1) (tOp (rIx K) (tVar 8) (tVar 4))) [4]) tNil)) [8]) tNil)) (gName 5))
  (tSeq (tAsg (tLst tNil) (gName 6))
  (tSeq (tFor (iList K (tVar 3)) (gName 4) (tDrop (tBM K "list" rAppend (tVar 6) (tCons (tCB (rTup9 K) (tCons (tLc (iList K (tVar 3)) (gName 7) tYes (tOp (rIx K) (tVar 1) (tOp (rIx K) (tOp (rIx K) (tOp (rIx K) (tVar 0) (tC (.int 2))) (tVar 4)) (tVar 7))) [7]) tNil)) tNil))))
  (tRet (tTup (tCons (tOp (rIx K) (tVar 1) (tOp (rIx K) (tVar 0) (tC (.int 0)))) (tCons (tVar 5) (tCons (tCB (rTup9 K) (tCons (tVar 6) tNil)) (tCons (tCB (rTup9 K) (tCons (tLc (iList K (tVar 3)) (gName 4) tYes (tOp (rIx K) (tOp (rIx K) (tVar 0) (tC (.int 3))) (tVar 4)) [4]) tNil)) tNil)))))))))))
theorem pd__law_renumbered {P : Program} {w : World} {K : PySem.W.Frag} {mg : Str → Option Value} {base : Heap} (T : Txt K mg)  {cdv : Value} {A : Around} {outer : List Env} {s : Shared} {H : Hp} {E : XK}
    (hr : Room 0 (A.deeper (envOfC "_law_renumbered" (defScope s__law_renumbered) s.heap.objs.size (He.ga K "_law_renumbered") cdv))) :
    PSs (cxOf CX0 P w K mg base N__law_renumbered "_law_renumbered" (defScope s__law_renumbered) (He.ga K "_law_renumbered") cdv A outer s H E).nox (defBody s__law_renumbered) (t__law_renumbered K) :=
  (pss_cons (ps_set (i := 2) sc__law_renumbered.nd rfl (Or.inl rfl) (pe_callB call_len9 (by rfl) T.f_len PySem.boot_len (pa_cons (pv 1) pa_nil)))
  (pss_cons (ps_set (i := 3) sc__law_renumbered.nd rfl (Or.inr rfl) (pe_lc (own := [("_law_y", 7)]) (g := (gName 7)) rfl sc__law_renumbered.nd (pi_range1 (by rfl) T.f_range (pa_cons (pv 2) pa_nil)) (blkOk_by (own := [("_law_y", 7)]) (N := ["_law_kind_so", "_law_places", "_law_size", "_law_back", "_law_x", "_law_steps_so", "_law_merge", "_law_y", "_law_row"]) (sc := defScope s__law_renumbered) (by decide +kernel)) (fun _ _ _ _ _ => (pg_name (i := 7) sc__law_renumbered.nd rfl (Or.inl rfl))) (fun _ _ _ _ _ => pts_nil) (fun _ _ _ _ _ => (pe_bm PySem.F.plainAttrs_list PySem.F.slot_list_index PySem.F.type_list_index mt_index (pv 1) (pa_cons (pv 7) pa_nil)))))
  (pss_cons (ps_set (i := 5) sc__law_renumbered.nd rfl (Or.inl rfl) (pe_callTy call_tup9 (by rfl) T.f_tuple (by decide +kernel) (pa_cons (pe_lc (own := [("_law_row", 8)]) (g := (gName 8)) rfl sc__law_renumbered.nd (pi_tup (pe_ix ix_seq (pv 0) pe_int (fun _ _ => rfl))) (blkOk_by (own := [("_law_row", 8)]) (N := ["_law_kind_so", "_law_places", "_law_size", "_law_back", "_law_x", "_law_steps_so", "_law_merge", "_law_y", "_law_row"]) (sc := defScope s__law_renumbered) (by decide +kernel)) (fun _ _ _ _ _ => (pg_name (i := 8) sc__law_renumbered.nd rfl (Or.inr rfl))) (fun _ _ _ _ _ => pts_nil) (fun _ _ _ _ _ => (pe_callTy call_tup9 (by rfl) T.f_tuple (by decide +kernel) (pa_cons (pe_lc (own := [("_law_x", 4)]) (g := (gName 4)) rfl sc__law_renumbered.nd (pi_list (pv 3)) (blkOk_by (own := [("_law_x", 4)]) (by kernel_rfl)) (fun _ _ _ _ _ => (pg_name (i := 4) sc__law_renumbered.nd rfl (Or.inl rfl))) (fun _ _ _ _ _ => pts_nil) (fun _ _ _ _ _ => (pe_ix ix_seq (pv 1) (pe_ix ix_seq (pv 8) (pv 4) (fun _ _ => rfl)) (fun _ _ => rfl)))) pa_nil)))) pa_nil)))
  (pss_cons (ps_set (i := 6) sc__law_renumbered.nd rfl (Or.inl rfl) (pe_lst pa_nil))
  (pss_cons (ps_for PassesOwn.never rfl (pi_list (pv 3)) (pg_name (i := 4) sc__law_renumbered.nd rfl (Or.inr rfl)) (pss_one (ps_expr (pe_bm PySem.F.plainAttrs_list PySem.F.slot_list_append PySem.F.type_list_append mt_append (pv 6) (pa_cons (pe_callTy call_tup9 (by rfl) T.f_tuple (by decide +kernel) (pa_cons (pe_lc (own := [("_law_y", 7)]) (g := (gName 7)) rfl sc__law_renumbered.nd (pi_list (pv 3)) (blkOk_by (own := [("_law_y", 7)]) (N := ["_law_kind_so", "_law_places", "_law_size", "_law_back", "_law_x", "_law_steps_so", "_law_merge", "_law_y", "_law_row"]) (sc := defScope s__law_renumbered) (by decide +kernel)) (fun _ _ _ _ _ => (pg_name (i := 7) sc__law_renumbered.nd rfl (Or.inl rfl))) (fun _ _ _ _ _ => pts_nil) (fun _ _ _ _ _ => (pe_ix ix_seq (pv 1) (pe_ix ix_seq (pe_ix ix_seq (pe_ix ix_seq (pv 0) pe_int (fun _ _ => rfl)) (pv 4) (fun _ _ => rfl)) (pv 7) (fun _ _ => rfl)) (fun _ _ => rfl)))) pa_nil)) pa_nil)))))
  (pss_one (ps_ret (pe_tup (pa_cons (pe_ix ix_seq (pv 1) (pe_ix ix_seq (pv 0) pe_int (fun _ _ => rfl)) (fun _ _ => rfl)) (pa_cons (pv 5) (pa_cons (pe_callTy call_tup9 (by rfl) T.f_tuple (by decide +kernel) (pa_cons (pv 6) pa_nil)) (pa_cons (pe_callTy call_tup9 (by rfl) T.f_tuple (by decide +kernel) (pa_cons (pe_lc (own := [("_law_x", 4)]) (g := (gName 4)) rfl sc__law_renumbered.nd (pi_list (pv 3)) (blkOk_by (own := [("_law_x", 4)]) (N := ["_law_kind_so", "_law_places", "_law_size", "_law_back", "_law_x", "_law_steps_so", "_law_merge", "_law_y", "_law_row"]) (sc := defScope s__law_renumbered) (by decide +kernel)) (fun _ _ _ _ _ => (pg_name (i := 4) sc__law_renumbered.nd rfl (Or.inl rfl))) (fun _ _ _ _ _ => pts_nil) (fun _ _ _ _ _ => (pe_ix ix_seq (pe_ix ix_seq (pv 0) pe_int (fun _ _ => rfl)) (pv 4) (fun _ _ => rfl)))) pa_nil)) pa_nil))))))))))))

abbrev N__law_holding : List Str := ["_law_m", "_law_begin", "_law_steps_so", "_law_merge", "_law_size", "_law_some", "_law_kind_so", "_law_left", "_law_places", "_law_one"]
theorem sc__law_holding : FnScope N__law_holding ["_law_m"] (defScope s__law_holding) := ⟨rfl, rfl, rfl, by decide +kernel, rfl, by decide +kernel, by decide +kernel⟩
def t__law_holding (K : PySem.W.Frag) : TS :=
  (tSeq (tAsg (tCall (sp__law_join_table K) [] E0 (tCons (tVar 0) tNil)) (gTup K 4 (gCons (gName 1) (gCons (gName 2) (gCons (gName 3) (gCons (gName 4) gNil))))))
  (tSeq (tAsg (tLc (iList K (tVar 2)) (gName 9) (tTest (tOp rGt9 (tCall (sp__law_draw K) [] E0 (tCons (tVar 0) (tCons (tC (.int 4)) tNil))) (tC (.int 0)))) (tVar 9) [9]) (gName 5))
  (tSeq (tAsg (tTup (tCons (tVar 1) (tCons (tCB (rTup9 K) (tCons (tIf (tTest (tOp (rNe9 K) (tVar 5) (tLst tNil))) (tVar 5) (tSl (rSl9 K) (tVar 2) tNoPart (tPart (tC (.int 1))))) tNil)) (tCons (tVar 3) (tCons (tCall (sp__law_reads K) [] E0 (tCons (tVar 0) (tCons (tVar 4) tNil))) tNil))))) (gName 6))
  (tSeq (tPar 7 8 (tCons (tLstRg (tRg1 (tVar 4))) (tCons (tLst tNil) tNil)))
  (tSeq (tIfS (tTest (tOp (rEq9 K) (tCall (sp__law_draw K) [] E0 (tCons (tVar 0) (tCons (tC (.int 2)) tNil))) (tC (.int 0)))) (tRet (tVar 6)) tNext)
  (tSeq (tWhile (tTest (tOp (rNe9 K) (tVar 7) (tLst tNil))) (tDrop (tBM K "list" rAppend (tVar 8) (tCons (tBM K "list" rPopAt (tVar 7) (tCons (tCall (sp__law_draw K) [] E0 (tCons (tVar 0) (tCons (tCB (rLen9 K) (tCons (tVar 7) tNil)) tNil))) tNil)) tNil))))
  (tRet (tCall (sp__law_renumbered K) [] E0 (tCons (tVar 6) (tCons (tVar 8) tNil))))))))))
theorem pd__law_holding {P : Program} {w : World} {K : PySem.W.Frag} {mg : Str → Option Value} {base : Heap} (T : Txt K mg) (G__law_join_table : Okf P w K mg base CX0 3 (He.ga K "_law_join_table") ["_law_m"] (sp__law_join_table K)) (G__law_draw : Okf P w K mg base CX0 2 (He.ga K "_law_draw") ["_law_m", "_law_limit"] (sp__law_draw K)) (G__law_reads : Okf P w K mg base CX0 3 (He.ga K "_law_reads") ["_law_m", "_law_size"] (sp__law_reads K)) (G__law_renumbered : Okf P w K mg base CX0 1 (He.ga K "_law_renumbered") ["_law_kind_so", "_law_places"] (sp__law_renumbered K)) {cdv : Value} {A : Around} {outer : List Env} {s : Shared} {H : Hp} {E : XK}
    (hr : Room 3 (A.deeper (envOfC "_law_holding" (defScope s__law_holding) s.heap.objs.size (He.ga K "_law_holding") cdv))) :
    PSs (cxOf CX0 P w K mg base N__law_holding "_law_holding" (defScope s__law_holding) (He.ga K "_law_holding") cdv A outer s H E).nox (defBody s__law_holding) (t__law_holding K) :=
  (pss_cons (ps_asg (pe_callF G__law_join_table (hr.mono (by decide)) (by rfl) T.g__law_join_table pass0 (pa_cons (pv 0) pa_nil)) (pg_tup rfl (pgs_cons (pg_name (i := 1) sc__law_holding.nd rfl (Or.inl rfl)) (pgs_cons (pg_name (i := 2) sc__law_holding.nd rfl (Or.inl rfl)) (pgs_cons (pg_name (i := 3) sc__law_holding.nd rfl (Or.inl rfl)) (pgs_cons (pg_name (i := 4) sc__law_holding.nd rfl (Or.inl rfl)) pgs_nil))))))
  (pss_cons (ps_setLc (i := 5) (own := [("_law_one", 9)]) (g := (gName 9)) rfl sc__law_holding.nd rfl rfl (sw_true rfl rfl rfl (by decide +kernel)) (pi_list (pv 2)) (blkOk_by (own := [("_law_one", 9)]) (N := ["_law_m", "_law_begin", "_law_steps_so", "_law_merge", "_law_size", "_law_some", "_law_kind_so", "_law_left", "_law_places", "_law_one"]) (sc := defScope s__law_holding) (by decide +kernel)) (fun _ _ _ _ _ => (pg_name (i := 9) sc__law_holding.nd rfl (Or.inl rfl))) (fun _ _ _ _ _ => (pts_one (pt_cmpR op_gt (pe_callF G__law_draw (hr.mono (by decide)) (by rfl) T.g__law_draw pass0 (pa_cons (pv 0) (pa_cons pe_int pa_nil))) pe_int (nomark _)))) (fun _ _ _ _ _ => (pv 9)))
  (pss_cons (ps_set (i := 6) sc__law_holding.nd rfl (Or.inl rfl) (pe_tup (pa_cons (pv 1) (pa_cons (pe_callTy call_tup9 (by rfl) T.f_tuple (by decide +kernel) (pa_cons (pe_ifExp (pt_cmpR (op_ne9 hr.units) (pv 5) (pe_lst pa_nil) (nomark _)) (pv 5) (pe_slice sl_9 (pv 2) po_none (po_some pe_int))) pa_nil)) (pa_cons (pv 3) (pa_cons (pe_callF G__law_reads (hr.mono (by decide)) (by rfl) T.g__law_reads pass0 (pa_cons (pv 0) (pa_cons (pv 4) pa_nil))) pa_nil))))))
  (pss_cons (ps_par (i := 7) (j := 8) rfl sc__law_holding.nd rfl rfl (by decide) rfl rfl (pa_cons (pe_listRg rfl (by rfl) T.f_list (prg_1 (by rfl) T.f_range (pv 4))) (pa_cons (pe_lst pa_nil) pa_nil)) (by rfl))
  (pss_cons (ps_if (pt_cmpR (op_eq9 hr.units) (pe_callF G__law_draw (hr.mono (by decide)) (by rfl) T.g__law_draw pass0 (pa_cons (pv 0) (pa_cons pe_int pa_nil))) pe_int (nomark _)) (pss_one (ps_ret (pv 6))) pss_nil)
  (pss_cons (ps_while PassesOwn.never (pt_cmpR (op_ne9 hr.units) (pv 7) (pe_lst pa_nil) (nomark _)) (pss_one (ps_expr (pe_bm PySem.F.plainAttrs_list PySem.F.slot_list_append PySem.F.type_list_append mt_append (pv 8) (pa_cons (pe_bm PySem.F.plainAttrs_list PySem.F.slot_list_pop PySem.F.type_list_pop mt_popAt (pv 7) (pa_cons (pe_callF G__law_draw (hr.mono (by decide)) (by rfl) T.g__law_draw pass0 (pa_cons (pv 0) (pa_cons (pe_callB call_len9 (by rfl) T.f_len PySem.boot_len (pa_cons (pv 7) pa_nil)) pa_nil))) pa_nil)) pa_nil)))))
  (pss_one (ps_ret (pe_callF G__law_renumbered (hr.mono (by decide)) (by rfl) T.g__law_renumbered pass0 (pa_cons (pv 6) (pa_cons (pv 8) pa_nil)))))))))))

abbrev N__law_any : List Str := ["_law_m", "_law_size", "_law_k", "_law_rows", "_law_begin", "_law_steps_so", "_law_merge", "_law_read_so", "_law_row", "_law_spot", "_law_x"]
theorem sc__law_any : FnScope N__law_any ["_law_m"] (defScope s__law_any) := ⟨rfl, rfl, rfl, by decide +kernel, rfl, by decide +kernel, by decide +kernel⟩
def t__law_any (K : PySem.W.Frag) : TS :=
  (tSeq (tIfS (tTest (tOp (rEq9 K) (tCall (sp__law_draw K) [] E0 (tCons (tVar 0) (tCons (tC (.int 3)) tNil))) (tC (.int 0)))) (tSeq (tAsg (tOp (rAdd9 K) (tC (.int 1)) (tCall (sp__law_draw K) [] E0 (tCons (tVar 0) (tCons (tC (.int 5)) tNil)))) (gName 1))
  (tSeq (tAsg (tLc (iRng1 (tCons (tOp (rAdd9 K) (tOp (rAdd9 K) (tVar 1) (tC (.int 1))) (tCall (sp__law_draw K) [] E0 (tCons (tVar 0) (tCons (tC (.int 3)) tNil)))) tNil)) (gName 2) tYes (tCB (rTup9 K) (tCons (tLc (iRng1 (tCons (tVar 1) tNil)) (gName 10) tYes (tCall (sp__law_draw K) [] E0 (tCons (tVar 0) (tCons (tVar 1) tNil))) [10]) tNil)) [2]) (gName 3))
  (tRet (tTup (tCons (tCall (sp__law_draw K) [] E0 (tCons (tVar 0) (tCons (tVar 1) tNil))) (tCons (tCB (rTup9 K) (tCons (tSl (rSl9 K) (tVar 3) (tPart (tVar 1)) tNoPart) tNil)) (tCons (tCB (rTup9 K) (tCons (tSl (rSl9 K) (tVar 3) tNoPart (tPart (tVar 1))) tNil)) (tCons (tCall (sp__law_reads K) [] E0 (tCons (tVar 0) (tCons (tVar 1) tNil))) tNil)))))))) tNext)
  (tSeq (tAsg (tCall (sp__law_holding K) [] E0 (tCons (tVar 0) tNil)) (gTup K 4 (gCons (gName 4) (gCons (gName 5) (gCons (gName 6) (gCons (gName 7) gNil))))))
  (tSeq (tAsg (tTup (tCons (tCB (rLen9 K) (tCons (tVar 7) tNil)) (tCons (tCall (sp__law_draw K) [] E0 (tCons (tVar 0) (tCons (tCB (rLen9 K) (tCons (tVar 7) tNil)) tNil))) tNil))) (gTup K 2 (gCons (gName 1) (gCons (gName 2) gNil))))
  (tSeq (tAsg (tOp (rIx K) (tVar 6) (tVar 2)) (gName 8))
  (tSeq (tIfS (tTest (tOp (rEq9 K) (tCall (sp__law_draw K) [] E0 (tCons (tVar 0) (tCons (tC (.int 3)) tNil))) (tC (.int 0)))) (tSeq (tAsg (tCall (sp__law_draw K) [] E0 (tCons (tVar 0) (tCons (tVar 1) tNil))) (gName 9))
  (tAsg (tOp (rAdd9 K) (tOp (rAdd9 K) (tSl (rSl9 K) (tVar 8) tNoPart (tPart (tVar 9))) (tTup (tCons (tCall (sp__law_draw K) [] E0 (tCons (tVar 0) (tCons (tVar 1) tNil))) tNil))) (tSl (rSl9 K) (tVar 8) (tPart (tOp (rAdd9 K) (tVar 9) (tC (.int 1)))) tNoPart)) (gName 8))) tNext)
  (tSeq (tIfS (tTest (tOp (rEq9 K) (tCall (sp__law_draw K) [] E0 (tCons (tVar 0) (tCons (tC (.int 4)) tNil))) (tC (.int 0)))) (tAsg (tOp (rAdd9 K) (tSl (rSl9 K) (tVar 5) tNoPart (tPart (tC (.int 3)))) (tTup (tCons (tCB (rTup9 K) (tCons (tLc (iRng1 (tCons (tVar 1) tNil)) (gName 10) tYes (tCall (sp__law_draw K) [] E0 (tCons (tVar 0) (tCons (tVar 1) tNil))) [10]) tNil)) tNil))) (gName 5)) tNext)
  (tRet (tTup (tCons (tVar 4) (tCons (tVar 5) (tCons (tOp (rAdd9 K) (tOp (rAdd9 K) (tSl (rSl9 K) (tVar 6) tNoPart (tPart (tVar 2))) (tTup (tCons (tVar 8) tNil))) (tSl (rSl9 K) (tVar 6) (tPart (tOp (rAdd9 K) (tVar 2) (tC (.int 1)))) tNoPart)) (tCons (tVar 7) tNil))))))))))))
theorem pd__law_any {P : Program} {w : World} {K : PySem.W.Frag} {mg : Str → Option Value} {base : Heap} (T : Txt K mg) (G__law_draw : Okf P w K mg base CX0 2 (He.ga K "_law_draw") ["_law_m", "_law_limit"] (sp__law_draw K)) (G__law_reads : Okf P w K mg base CX0 3 (He.ga K "_law_reads") ["_law_m", "_law_size"] (sp__law_reads K)) (G__law_holding : Okf P w K mg base CX0 4 (He.ga K "_law_holding") ["_law_m"] (sp__law_holding K)) {cdv : Value} {A : Around} {outer : List Env} {s : Shared} {H : Hp} {E : XK}
    (hr : Room 4 (A.deeper (envOfC "_law_any" (defScope s__law_any) s.heap.objs.size (He.ga K "_law_any") cdv))) :
    PSs (cxOf CX0 P w K mg base N__law_any "_law_any" (defScope s__law_any) (He.ga K "_law_any") cdv A outer s H E).nox (defBody s__law_any) (t__law_any K) :=
  (pss_cons (ps_if (pt_cmpR (op_eq9 hr.units) (pe_callF G__law_draw (hr.mono (by decide)) (by rfl) T.g__law_draw pass0 (pa_cons (pv 0) (pa_cons pe_int pa_nil))) pe_int (nomark _)) (pss_cons (ps_set (i := 1) sc__law_any.nd rfl (Or.inr rfl) (pe_op op_add9 pe_int (pe_callF G__law_draw (hr.mono (by decide)) (by rfl) T.g__law_draw pass0 (pa_cons (pv 0) (pa_cons pe_int pa_nil)))))
  (pss_cons (ps_setLc (i := 3) (own := [("_law_k", 2)]) (g := (gName 2)) rfl sc__law_any.nd rfl rfl (sw_true rfl rfl rfl (by decide +kernel)) (pi_range1 (by rfl) T.f_range (pa_cons (pe_op op_add9 (pe_op op_add9 (pv 1) pe_int) (pe_callF G__law_draw (hr.mono (by decide)) (by rfl) T.g__law_draw pass0 (pa_cons (pv 0) (pa_cons pe_int pa_nil)))) pa_nil)) (blkOk_by (own := [("_law_k", 2)]) (N := ["_law_m", "_law_size", "_law_k", "_law_rows", "_law_begin", "_law_steps_so", "_law_merge", "_law_read_so", "_law_row", "_law_spot", "_law_x"]) (sc := defScope s__law_any) (by decide +kernel)) (fun _ _ _ _ _ => (pg_name (i := 2) sc__law_any.nd rfl (Or.inl rfl))) (fun _ _ _ _ _ => pts_nil) (fun _ _ _ _ _ => (pe_callTy call_tup9 (by rfl) T.f_tuple (by decide +kernel) (pa_cons (pe_lc (own := [("_law_x", 10)]) (g := (gName 10)) rfl sc__law_any.nd (pi_range1 (by rfl) T.f_range (pa_cons (pv 1) pa_nil)) (blkOk_by (own := [("_law_x", 10)]) (by kernel_rfl)) (fun _ _ _ _ _ => (pg_name (i := 10) sc__law_any.nd rfl (Or.inl rfl))) (fun _ _ _ _ _ => pts_nil) (fun _ _ _ _ _ => (pe_callF G__law_draw (hr.mono (by decide)) (by rfl) T.g__law_draw pass0 (pa_cons (pv 0) (pa_cons (pv 1) pa_nil))))) pa_nil))))
  (pss_one (ps_ret (pe_tup (pa_cons (pe_callF G__law_draw (hr.mono (by decide)) (by rfl) T.g__law_draw pass0 (pa_cons (pv 0) (pa_cons (pv 1) pa_nil))) (pa_cons (pe_callTy call_tup9 (by rfl) T.f_tuple (by decide +kernel) (pa_cons (pe_slice sl_9 (pv 3) (po_some (pv 1)) po_none) pa_nil)) (pa_cons (pe_callTy call_tup9 (by rfl) T.f_tuple (by decide +kernel) (pa_cons (pe_slice sl_9 (pv 3) po_none (po_some (pv 1))) pa_nil)) (pa_cons (pe_callF G__law_reads (hr.mono (by decide)) (by rfl) T.g__law_reads pass0 (pa_cons (pv 0) (pa_cons (pv 1) pa_nil))) pa_nil))))))))) pss_nil)
  (pss_cons (ps_asg (pe_callF G__law_holding (hr.mono (by decide)) (by rfl) T.g__law_holding pass0 (pa_cons (pv 0) pa_nil)) (pg_tup rfl (pgs_cons (pg_name (i := 4) sc__law_any.nd rfl (Or.inl rfl)) (pgs_cons (pg_name (i := 5) sc__law_any.nd rfl (Or.inl rfl)) (pgs_cons (pg_name (i := 6) sc__law_any.nd rfl (Or.inl rfl)) (pgs_cons (pg_name (i := 7) sc__law_any.nd rfl (Or.inl rfl)) pgs_nil))))))
  (pss_cons (ps_asg (pe_tup (pa_cons (pe_callB call_len9 (by rfl) T.f_len PySem.boot_len (pa_cons (pv 7) pa_nil)) (pa_cons (pe_callF G__law_draw (hr.mono (by decide)) (by rfl) T.g__law_draw pass0 (pa_cons (pv 0) (pa_cons (pe_callB call_len9 (by rfl) T.f_len PySem.boot_len (pa_cons (pv 7) pa_nil)) pa_nil))) pa_nil))) (pg_tup rfl (pgs_cons (pg_name (i := 1) sc__law_any.nd rfl (Or.inr rfl)) (pgs_cons (pg_name (i := 2) sc__law_any.nd rfl (Or.inl rfl)) pgs_nil))))
  (pss_cons (ps_set (i := 8) sc__law_any.nd rfl (Or.inl rfl) (pe_ix ix_seq (pv 6) (pv 2) (fun _ _ => rfl)))
  (pss_cons (ps_if (pt_cmpR (op_eq9 hr.units) (pe_callF G__law_draw (hr.mono (by decide)) (by rfl) T.g__law_draw pass0 (pa_cons (pv 0) (pa_cons pe_int pa_nil))) pe_int (nomark _)) (pss_cons (ps_set (i := 9) sc__law_any.nd rfl (Or.inl rfl) (pe_callF G__law_draw (hr.mono (by decide)) (by rfl) T.g__law_draw pass0 (pa_cons (pv 0) (pa_cons (pv 1) pa_nil))))
  (pss_one (ps_set (i := 8) sc__law_any.nd rfl (Or.inl rfl) (pe_op op_add9 (pe_op op_add9 (pe_slice sl_9 (pv 8) po_none (po_some (pv 9))) (pe_tup (pa_cons (pe_callF G__law_draw (hr.mono (by decide)) (by rfl) T.g__law_draw pass0 (pa_cons (pv 0) (pa_cons (pv 1) pa_nil))) pa_nil))) (pe_slice sl_9 (pv 8) (po_some (pe_op op_add9 (pv 9) pe_int)) po_none))))) pss_nil)
  (pss_cons (ps_if (pt_cmpR (op_eq9 hr.units) (pe_callF G__law_draw (hr.mono (by decide)) (by rfl) T.g__law_draw pass0 (pa_cons (pv 0) (pa_cons pe_int pa_nil))) pe_int (nomark _)) (pss_one (ps_set (i := 5) sc__law_any.nd rfl (Or.inl rfl) (pe_op op_add9 (pe_slice sl_9 (pv 5) po_none (po_some pe_int)) (pe_tup (pa_cons (pe_callTy call_tup9 (by rfl) T.f_tuple (by decide +kernel) (pa_cons (pe_lc (own := [("_law_x", 10)]) (g := (gName 10)) rfl sc__law_any.nd (pi_range1 (by rfl) T.f_range (pa_cons (pv 1) pa_nil)) (blkOk_by (own := [("_law_x", 10)]) (N := ["_law_m", "_law_size", "_law_k", "_law_rows", "_law_begin", "_law_steps_so", "_law_merge", "_law_read_so", "_law_row", "_law_spot", "_law_x"]) (sc := defScope s__law_any) (by decide +kernel)) (fun _ _ _ _ _ => (pg_name (i := 10) sc__law_any.nd rfl (Or.inl rfl))) (fun _ _ _ _ _ => pts_nil) (fun _ _ _ _ _ => (pe_callF G__law_draw (hr.mono (by decide)) (by rfl) T.g__law_draw pass0 (pa_cons (pv 0) (pa_cons (pv 1) pa_nil))))) pa_nil)) pa_nil))))) pss_nil)
  (pss_one (ps_ret (pe_tup (pa_cons (pv 4) (pa_cons (pv 5) (pa_cons (pe_op op_add9 (pe_op op_add9 (pe_slice sl_9 (pv 6) po_none (po_some (pv 2))) (pe_tup (pa_cons (pv 8) pa_nil))) (pe_slice sl_9 (pv 6) (po_some (pe_op op_add9 (pv 2) pe_int)) po_none)) (pa_cons (pv 7) pa_nil)))))))))))))

abbrev N__law_run : List Str := ["_law_kind_so", "_law_story", "_law_states_so", "_law_told", "_law_k", "_law_word", "_law_one", "_law_other"]
theorem sc__law_run : FnScope N__law_run ["_law_kind_so", "_law_story"] (defScope s__law_run) := ⟨rfl, rfl, rfl, by decide +kernel, rfl, by decide +kernel, by decide +kernel⟩
def t__law_run (K : PySem.W.Frag) : TS :=
  (tSeq (tPar 2 3 (tCons (tOp (rMul9 K) (tLst (tCons (tOp (rIx K) (tVar 0) (tC (.int 0))) tNil)) (tOp (rIx K) (tVar 1) (tC (.int 0)))) (tCons (tOp (rMul9 K) (tLst (tCons (tTup tNil) tNil)) (tOp (rIx K) (tVar 1) (tC (.int 0)))) tNil)))
  (tSeq (tFor (iRng1 (tCons (tCB (rLen9 K) (tCons (tOp (rIx K) (tVar 1) (tC (.int 1))) tNil)) tNil)) (gName 4) (tSeq (tAsg (tOp (rIx K) (tOp (rIx K) (tVar 1) (tC (.int 1))) (tVar 4)) (gTup K 3 (gCons (gName 5) (gCons (gName 6) (gCons (gName 7) gNil)))))
  (tIfS (tTest (tOp (rEq9 K) (tVar 5) (tC (.str "do")))) (tSeq (tAsg (tOp (rIx K) (tOp (rIx K) (tOp (rIx K) (tVar 0) (tC (.int 1))) (tVar 7)) (tOp (rIx K) (tVar 2) (tVar 6))) (gSub (tVar 2) (tVar 6) rSetL))
  (tAsg (tOp (rAdd9 K) (tOp (rIx K) (tVar 3) (tVar 6)) (tTup (tCons (tVar 4) tNil))) (gSub (tVar 3) (tVar 6) rSetL))) (tSeq (tAsg (tOp (rIx K) (tOp (rIx K) (tOp (rIx K) (tVar 0) (tC (.int 2))) (tOp (rIx K) (tVar 2) (tVar 6))) (tOp (rIx K) (tVar 2) (tVar 7))) (gSub (tVar 2) (tVar 6) rSetL))
  (tAsg (tTss K (tOp (rAdd9 K) (tOp (rIx K) (tVar 3) (tVar 6)) (tOp (rIx K) (tVar 3) (tVar 7)))) (gSub (tVar 3) (tVar 6) rSetL))))))
  (tRet (tTup (tCons (tCB (rTup9 K) (tCons (tVar 2) tNil)) (tCons (tCB (rTup9 K) (tCons (tVar 3) tNil)) tNil))))))
theorem pd__law_run {P : Program} {w : World} {K : PySem.W.Frag} {mg : Str → Option Value} {base : Heap} (T : Txt K mg)  {cdv : Value} {A : Around} {outer : List Env} {s : Shared} {H : Hp} {E : XK}
    (hr : Room 0 (A.deeper (envOfC "_law_run" (defScope s__law_run) s.heap.objs.size (He.ga K "_law_run") cdv))) :
    PSs (cxOf CX0 P w K mg base N__law_run "_law_run" (defScope s__law_run) (He.ga K "_law_run") cdv A outer s H E).nox (defBody s__law_run) (t__law_run K) :=
  (pss_cons (ps_par (i := 2) (j := 3) rfl sc__law_run.nd rfl rfl (by decide) rfl rfl (pa_cons (pe_op op_mul9 (pe_lst (pa_cons (pe_ix ix_seq (pv 0) pe_int (fun _ _ => rfl)) pa_nil)) (pe_ix ix_seq (pv 1) pe_int (fun _ _ => rfl))) (pa_cons (pe_op op_mul9 (pe_lst (pa_cons (pe_tup pa_nil) pa_nil)) (pe_ix ix_seq (pv 1) pe_int (fun _ _ => rfl))) pa_nil)) (by rfl))
  (pss_cons (ps_for PassesOwn.never rfl (pi_range1 (by rfl) T.f_range (pa_cons (pe_callB call_len9 (by rfl) T.f_len PySem.boot_len (pa_cons (pe_ix ix_seq (pv 1) pe_int (fun _ _ => rfl)) pa_nil)) pa_nil)) (pg_name (i := 4) sc__law_run.nd rfl (Or.inl rfl)) (pss_cons (ps_asg (pe_ix ix_seq (pe_ix ix_seq (pv 1) pe_int (fun _ _ => rfl)) (pv 4) (fun _ _ => rfl)) (pg_tup rfl (pgs_cons (pg_name (i := 5) sc__law_run.nd rfl (Or.inl rfl)) (pgs_cons (pg_name (i := 6) sc__law_run.nd rfl (Or.inl rfl)) (pgs_cons (pg_name (i := 7) sc__law_run.nd rfl (Or.inl rfl)) pgs_nil)))))
  (pss_one (ps_if (pt_cmpR (op_eq9 hr.units) (pv 5) pe_str (nomark _)) (pss_cons (ps_asg (pe_ix ix_seq (pe_ix ix_seq (pe_ix ix_seq (pv 0) pe_int (fun _ _ => rfl)) (pv 7) (fun _ _ => rfl)) (pe_ix ix_seq (pv 2) (pv 6) (fun _ _ => rfl)) (fun _ _ => rfl)) (pg_sub (pv 2) (pv 6) set_list))
  (pss_one (ps_asg (pe_op op_add9 (pe_ix ix_seq (pv 3) (pv 6) (fun _ _ => rfl)) (pe_tup (pa_cons (pv 4) pa_nil))) (pg_sub (pv 3) (pv 6) set_list)))) (pss_cons (ps_asg (pe_ix ix_seq (pe_ix ix_seq (pe_ix ix_seq (pv 0) pe_int (fun _ _ => rfl)) (pe_ix ix_seq (pv 2) (pv 6) (fun _ _ => rfl)) (fun _ _ => rfl)) (pe_ix ix_seq (pv 2) (pv 7) (fun _ _ => rfl)) (fun _ _ => rfl)) (pg_sub (pv 2) (pv 6) set_list))
  (pss_one (ps_asg (pe_tss9 rfl (by rfl) T.f_tuple (by rfl) T.f_sorted (by rfl) T.f_set (pe_op op_add9 (pe_ix ix_seq (pv 3) (pv 6) (fun _ _ => rfl)) (pe_ix ix_seq (pv 3) (pv 7) (fun _ _ => rfl)))) (pg_sub (pv 3) (pv 6) set_list))))))))
  (pss_one (ps_ret (pe_tup (pa_cons (pe_callTy call_tup9 (by rfl) T.f_tuple (by decide +kernel) (pa_cons (pv 2) pa_nil)) (pa_cons (pe_callTy call_tup9 (by rfl) T.f_tuple (by decide +kernel) (pa_cons (pv 3) pa_nil)) pa_nil)))))))

abbrev N__law_begin_house : List Str := ["_law_kind_so", "_law_many"]
theorem sc__law_begin_house : FnScope N__law_begin_house ["_law_kind_so", "_law_many"] (defScope s__law_begin_house) := ⟨rfl, rfl, rfl, by decide +kernel, rfl, by decide +kernel, by decide +kernel⟩
def t__law_begin_house (K : PySem.W.Frag) : TS :=
  (tRet (tDisp [((tC (.str "kind")), (tVar 0)), ((tC (.str "many")), (tVar 1)), ((tC (.str "past")), (tTup tNil)), ((tC (.str "later")), (tTup tNil))]))
theorem pd__law_begin_house {P : Program} {w : World} {K : PySem.W.Frag} {mg : Str → Option Value} {base : Heap} (T : Txt K mg)  {cdv : Value} {A : Around} {outer : List Env} {s : Shared} {H : Hp} {E : XK}
    (hr : Room 0 (A.deeper (envOfC "_law_begin_house" (defScope s__law_begin_house) s.heap.objs.size (He.ga K "_law_begin_house") cdv))) :
    PSs (cxOf CX0 P w K mg base N__law_begin_house "_law_begin_house" (defScope s__law_begin_house) (He.ga K "_law_begin_house") cdv A outer s H E).nox (defBody s__law_begin_house) (t__law_begin_house K) :=
  (pss_one (ps_ret (pe_disp (pps_cons pe_str (pv 0) (pps_cons pe_str (pv 1) (pps_cons pe_str (pe_tup pa_nil) (pps_cons pe_str (pe_tup pa_nil) pps_nil)))) rfl rfl (by simp) (by decide))))

abbrev N__law_split_of : List Str := ["_law_states_so", "_law_told", "_law_found", "_law_one", "_law_other", "_law_is_so"]
theorem sc__law_split_of : FnScope N__law_split_of ["_law_states_so", "_law_told"] (defScope s__law_split_of) := ⟨rfl, rfl, rfl, by decide +kernel, rfl, by decide +kernel, by decide +kernel⟩
def t__law_split_of (K : PySem.W.Frag) : TS :=
  (tSeq (tAsg (tTup tNil) (gName 2))
  (tSeq (tFor (iRng1 (tCons (tCB (rLen9 K) (tCons (tVar 1) tNil)) tNil)) (gName 3) (tFor (iRng2 (tCons (tOp (rAdd9 K) (tVar 3) (tC (.int 1))) (tCons (tCB (rLen9 K) (tCons (tVar 1) tNil)) tNil))) (gName 4) (tSeq (tAsg (tAndV (tOp (rEq9 K) (tOp (rIx K) (tVar 1) (tVar 3)) (tOp (rIx K) (tVar 1) (tVar 4))) (tOp (rNe9 K) (tOp (rIx K) (tVar 0) (tVar 3)) (tOp (rIx K) (tVar 0) (tVar 4)))) (gName 5))
  (tAsg (tOp (rAdd9 K) (tVar 2) (tIf (tB (tVar 5)) (tTup (tCons (tTup (tCons (tVar 3) (tCons (tVar 4) tNil))) tNil)) (tTup tNil))) (gName 2)))))
  (tRet (tVar 2))))
theorem pd__law_split_of {P : Program} {w : World} {K : PySem.W.Frag} {mg : Str → Option Value} {base : Heap} (T : Txt K mg)  {cdv : Value} {A : Around} {outer : List Env} {s : Shared} {H : Hp} {E : XK}
    (hr : Room 0 (A.deeper (envOfC "_law_split_of" (defScope s__law_split_of) s.heap.objs.size (He.ga K "_law_split_of") cdv))) :
    PSs (cxOf CX0 P w K mg base N__law_split_of "_law_split_of" (defScope s__law_split_of) (He.ga K "_law_split_of") cdv A outer s H E).nox (defBody s__law_split_of) (t__law_split_of K) :=
  (pss_cons (ps_set (i := 2) sc__law_split_of.nd rfl (Or.inl rfl) (pe_tup pa_nil))
  (pss_cons (ps_for PassesOwn.never rfl (pi_range1 (by rfl) T.f_range (pa_cons (pe_callB call_len9 (by rfl) T.f_len PySem.boot_len (pa_cons (pv 1) pa_nil)) pa_nil)) (pg_name (i := 3) sc__law_split_of.nd rfl (Or.inl rfl)) (pss_one (ps_for PassesOwn.never rfl (pi_range2 (by rfl) T.f_range (pa_cons (pe_op op_add9 (pv 3) pe_int) (pa_cons (pe_callB call_len9 (by rfl) T.f_len PySem.boot_len (pa_cons (pv 1) pa_nil)) pa_nil))) (pg_name (i := 4) sc__law_split_of.nd rfl (Or.inl rfl)) (pss_cons (ps_set (i := 5) sc__law_split_of.nd rfl (Or.inl rfl) (pe_and (pe_cmpR (op_eq9 hr.units) (pe_ix ix_seq (pv 1) (pv 3) (fun _ _ => rfl)) (pe_ix ix_seq (pv 1) (pv 4) (fun _ _ => rfl)) (nomark _)) (pe_one (pe_cmpR (op_ne9 hr.units) (pe_ix ix_seq (pv 0) (pv 3) (fun _ _ => rfl)) (pe_ix ix_seq (pv 0) (pv 4) (fun _ _ => rfl)) (nomark _)))))
  (pss_one (ps_set (i := 2) sc__law_split_of.nd rfl (Or.inl rfl) (pe_op op_add9 (pv 2) (pe_ifExp (pt_val (pv 5)) (pe_tup (pa_cons (pe_tup (pa_cons (pv 3) (pa_cons (pv 4) pa_nil))) pa_nil)) (pe_tup pa_nil)))))))))
  (pss_one (ps_ret (pv 2)))))

abbrev N__law_stands : List Str := ["_law_house_so", "_law_own", "_law_states_so", "_law_told", "_law_told_so", "_law_due", "_law_k"]
theorem sc__law_stands : FnScope N__law_stands ["_law_house_so", "_law_own"] (defScope s__law_stands) := ⟨rfl, rfl, rfl, by decide +kernel, rfl, by decide +kernel, by decide +kernel⟩
def t__law_stands (K : PySem.W.Frag) : TS :=
  (tSeq (tAsg (tCall (sp__law_run K) [] E0 (tCons (tDGet (tVar 1) (tC (.str "kind"))) (tCons (tTup (tCons (tDGet (tVar 1) (tC (.str "many"))) (tCons (tDGet (tVar 1) (tC (.str "past"))) tNil))) tNil))) (gTup K 2 (gCons (gName 2) (gCons (gName 3) gNil))))
  (tSeq (tAsg (tLst (tCons (tProp (He.ga K "House") (sp_House_table K) [] E0 (tVar 0)) (tCons (tProp (He.ga K "House") (sp_House_history K) [] E0 (tVar 0)) (tCons (tLenO (He.ga K "House") (sp_House___len__ K) (tVar 0)) (tCons (tMeth (He.ga K "House") "states" (sp_House_states K) [] E0 (tVar 0) tNil) (tCons (tMeth (He.ga K "House") "split" (sp_House_split K) [] E0 (tVar 0) tNil) tNil)))))) (gName 4))
  (tSeq (tAsg (tLst (tCons (tDGet (tVar 1) (tC (.str "kind"))) (tCons (tTup (tCons (tDGet (tVar 1) (tC (.str "many"))) (tCons (tDGet (tVar 1) (tC (.str "past"))) tNil))) (tCons (tCB (rLen9 K) (tCons (tDGet (tVar 1) (tC (.str "past"))) tNil)) (tCons (tVar 2) (tCons (tCall (sp__law_split_of K) [] E0 (tCons (tVar 2) (tCons (tVar 3) tNil))) tNil)))))) (gName 5))
  (tSeq (tIfS (tNot (tB (tCall (sp__law_like K) [] E0 (tCons (tVar 4) (tCons (tVar 5) tNil))))) (tRet (tC (.bl false))) tNext)
  (tSeq (tAsg (tLc (iRng1 (tCons (tDGet (tVar 1) (tC (.str "many"))) tNil)) (gName 6) tYes (tTup (tCons (tMeth (He.ga K "House") "shown" (sp_House_shown K) [] E0 (tVar 0) (tCons (tVar 6) tNil)) (tCons (tMeth (He.ga K "House") "known" (sp_House_known K) [] E0 (tVar 0) (tCons (tVar 6) tNil)) tNil))) [6]) (gName 4))
  (tRet (tCall (sp__law_like K) [] E0 (tCons (tVar 4) (tCons (tLc (iRng1 (tCons (tDGet (tVar 1) (tC (.str "many"))) tNil)) (gName 6) tYes (tTup (tCons (tOp (rIx K) (tOp (rIx K) (tDGet (tVar 1) (tC (.str "kind"))) (tC (.int 3))) (tOp (rIx K) (tVar 2) (tVar 6))) (tCons (tOp (rIx K) (tVar 3) (tVar 6)) tNil))) [6]) tNil)))))))))
theorem pd__law_stands {P : Program} {w : World} {K : PySem.W.Frag} {mg : Str → Option Value} {base : Heap} (T : Txt K mg) (G__law_run : Okf P w K mg base CX0 1 (He.ga K "_law_run") ["_law_kind_so", "_law_story"] (sp__law_run K)) (G_House_split : Okf P w K mg base CX0 7 (He.ma K (He.ga K "House") "split") ["self"] (sp_House_split K)) (G_House_states : Okf P w K mg base CX0 3 (He.ma K (He.ga K "House") "states") ["self"] (sp_House_states K)) (G_House___len__ : Okf P w K mg base CX0 1 (He.ma K (He.ga K "House") "__len__") ["self"] (sp_House___len__ K)) (G_House_history : Okf P w K mg base CX0 1 (gAd K "House" "history") ["self"] (sp_House_history K)) (G_House_table : Okf P w K mg base CX0 1 (gAd K "House" "table") ["self"] (sp_House_table K)) (G__law_split_of : Okf P w K mg base CX0 1 (He.ga K "_law_split_of") ["_law_states_so", "_law_told"] (sp__law_split_of K)) (G__law_like : Okg P w K mg base CX0 1 (He.ga K "_law_like") ["_law_answer", "_law_due"] (sp__law_like K)) (G_House_known : Okf P w K mg base CX0 4 (He.ma K (He.ga K "House") "known") ["self", "number"] (sp_House_known K)) (G_House_shown : Okf P w K mg base CX0 4 (He.ma K (He.ga K "House") "shown") ["self", "number"] (sp_House_shown K)) {cdv : Value} {A : Around} {outer : List Env} {s : Shared} {H : Hp} {E : XK} (hgd : A.guards = some [])
    (hr : Room 7 (A.deeper (envOfC "_law_stands" (defScope s__law_stands) s.heap.objs.size (He.ga K "_law_stands") cdv))) :
    PSs (cxOf CX0 P w K mg base N__law_stands "_law_stands" (defScope s__law_stands) (He.ga K "_law_stands") cdv A outer s H E).nox (defBody s__law_stands) (t__law_stands K) :=
  (pss_cons (ps_asg (pe_callF G__law_run (hr.mono (by decide)) (by rfl) T.g__law_run pass0 (pa_cons (pe_dget (hu_of hr) (pv 1) pe_str (fun _ _ => rfl)) (pa_cons (pe_tup (pa_cons (pe_dget (hu_of hr) (pv 1) pe_str (fun _ _ => rfl)) (pa_cons (pe_dget (hu_of hr) (pv 1) pe_str (fun _ _ => rfl)) pa_nil))) pa_nil))) (pg_tup rfl (pgs_cons (pg_name (i := 2) sc__law_stands.nd rfl (Or.inr rfl)) (pgs_cons (pg_name (i := 3) sc__law_stands.nd rfl (Or.inr rfl)) pgs_nil))))
  (pss_cons (ps_set (i := 4) sc__law_stands.nd rfl (Or.inl rfl) (pe_lst (pa_cons (pe_propF (pv 0) T.c_House T.p_House_table G_House_table (hr.mono (by decide)) pass0 rfl) (pa_cons (pe_propF (pv 0) T.c_House T.p_House_history G_House_history (hr.mono (by decide)) pass0 rfl) (pa_cons (pe_len9 (by rfl) T.f_len (pv 0) T.m_House___len__ G_House___len__ (hr.mono (by decide))) (pa_cons (pe_methF0 (pv 0) T.c_House T.m_House_states G_House_states (hr.mono (by decide)) pass0) (pa_cons (pe_methF0 (pv 0) T.c_House T.m_House_split G_House_split (hr.mono (by decide)) pass0) pa_nil)))))))
  (pss_cons (ps_set (i := 5) sc__law_stands.nd rfl (Or.inl rfl) (pe_lst (pa_cons (pe_dget (hu_of hr) (pv 1) pe_str (fun _ _ => rfl)) (pa_cons (pe_tup (pa_cons (pe_dget (hu_of hr) (pv 1) pe_str (fun _ _ => rfl)) (pa_cons (pe_dget (hu_of hr) (pv 1) pe_str (fun _ _ => rfl)) pa_nil))) (pa_cons (pe_callB call_len9 (by rfl) T.f_len PySem.boot_len (pa_cons (pe_dget (hu_of hr) (pv 1) pe_str (fun _ _ => rfl)) pa_nil)) (pa_cons (pv 2) (pa_cons (pe_callF G__law_split_of (hr.mono (by decide)) (by rfl) T.g__law_split_of pass0 (pa_cons (pv 2) (pa_cons (pv 3) pa_nil))) pa_nil)))))))
  (pss_cons (ps_if (pt_not (pt_val (pe_callG G__law_like hgd (hr.mono (by decide)) (by rfl) T.g__law_like pass0 (pa_cons (pv 4) (pa_cons (pv 5) pa_nil))))) (pss_one (ps_ret pe_bl)) pss_nil)
  (pss_cons (ps_setLc (i := 4) (own := [("_law_k", 6)]) (g := (gName 6)) rfl sc__law_stands.nd rfl rfl (sw_true rfl rfl rfl (by decide +kernel)) (pi_range1 (by rfl) T.f_range (pa_cons (pe_dget (hu_of hr) (pv 1) pe_str (fun _ _ => rfl)) pa_nil)) (blkOk_by (own := [("_law_k", 6)]) (N := ["_law_house_so", "_law_own", "_law_states_so", "_law_told", "_law_told_so", "_law_due", "_law_k"]) (sc := defScope s__law_stands) (by decide +kernel)) (fun _ _ _ _ _ => (pg_name (i := 6) sc__law_stands.nd rfl (Or.inl rfl))) (fun _ _ _ _ _ => pts_nil) (fun _ _ _ _ _ => (pe_tup (pa_cons (pe_methF (pv 0) T.c_House T.m_House_shown G_House_shown (hr.mono (by decide)) pass0 (pa_cons (pv 6) pa_nil)) (pa_cons (pe_methF (pv 0) T.c_House T.m_House_known G_House_known (hr.mono (by decide)) pass0 (pa_cons (pv 6) pa_nil)) pa_nil)))))
  (pss_one (ps_ret (pe_callG G__law_like hgd (hr.mono (by decide)) (by rfl) T.g__law_like pass0 (pa_cons (pv 4) (pa_cons (pe_lc (own := [("_law_k", 6)]) (g := (gName 6)) rfl sc__law_stands.nd (pi_range1 (by rfl) T.f_range (pa_cons (pe_dget (hu_of hr) (pv 1) pe_str (fun _ _ => rfl)) pa_nil)) (blkOk_by (own := [("_law_k", 6)]) (N := ["_law_house_so", "_law_own", "_law_states_so", "_law_told", "_law_told_so", "_law_due", "_law_k"]) (sc := defScope s__law_stands) (by decide +kernel)) (fun _ _ _ _ _ => (pg_name (i := 6) sc__law_stands.nd rfl (Or.inl rfl))) (fun _ _ _ _ _ => pts_nil) (fun _ _ _ _ _ => (pe_tup (pa_cons (pe_ix ix_seq (pe_ix ix_seq (pe_dget (hu_of hr) (pv 1) pe_str (fun _ _ => rfl)) pe_int (fun _ _ => rfl)) (pe_ix ix_seq (pv 2) (pv 6) (fun _ _ => rfl)) (fun _ _ => rfl)) (pa_cons (pe_ix ix_seq (pv 3) (pv 6) (fun _ _ => rfl)) pa_nil))))) pa_nil))))))))))

abbrev N__law_gone_back : List Str := ["_law_own", "_law_is_so"]
theorem sc__law_gone_back : FnScope N__law_gone_back ["_law_own"] (defScope s__law_gone_back) := ⟨rfl, rfl, rfl, by decide +kernel, rfl, by decide +kernel, by decide +kernel⟩
def t__law_gone_back (K : PySem.W.Frag) : TS :=
  (tSeq (tAsg (tOp (rNe9 K) (tDGet (tVar 0) (tC (.str "past"))) (tTup tNil)) (gName 1))
  (tSeq (sDPut (tVar 0) (tC (.str "later")) (tOp (rAdd9 K) (tSl (rSl9 K) (tDGet (tVar 0) (tC (.str "past"))) (tPart (tUn rNeg9 (tC (.int 1)))) tNoPart) (tDGet (tVar 0) (tC (.str "later")))))
  (tSeq (sDPut (tVar 0) (tC (.str "past")) (tSl (rSl9 K) (tDGet (tVar 0) (tC (.str "past"))) tNoPart (tPart (tUn rNeg9 (tC (.int 1))))))
  (tRet (tVar 1)))))
theorem pd__law_gone_back {P : Program} {w : World} {K : PySem.W.Frag} {mg : Str → Option Value} {base : Heap} (T : Txt K mg)  {cdv : Value} {A : Around} {outer : List Env} {s : Shared} {H : Hp} {E : XK}
    (hr : Room 0 (A.deeper (envOfC "_law_gone_back" (defScope s__law_gone_back) s.heap.objs.size (He.ga K "_law_gone_back") cdv))) :
    PSs (cxOf CX0 P w K mg base N__law_gone_back "_law_gone_back" (defScope s__law_gone_back) (He.ga K "_law_gone_back") cdv A outer s H E).nox (defBody s__law_gone_back) (t__law_gone_back K) :=
  (pss_cons (ps_set (i := 1) sc__law_gone_back.nd rfl (Or.inl rfl) (pe_cmpR (op_ne9 hr.units) (pe_dget (hu_of hr) (pv 0) pe_str (fun _ _ => rfl)) (pe_tup pa_nil) (nomark _)))
  (pss_cons (ps_dput (hu_of hr) (pv 0) pe_str (pe_op op_add9 (pe_slice sl_9 (pe_dget (hu_of hr) (pv 0) pe_str (fun _ _ => rfl)) (po_some (pe_un un_neg pe_int)) po_none) (pe_dget (hu_of hr) (pv 0) pe_str (fun _ _ => rfl))) rfl)
  (pss_cons (ps_dput (hu_of hr) (pv 0) pe_str (pe_slice sl_9 (pe_dget (hu_of hr) (pv 0) pe_str (fun _ _ => rfl)) po_none (po_some (pe_un un_neg pe_int))) rfl)
  (pss_one (ps_ret (pv 1))))))

abbrev N__law_gone_on : List Str := ["_law_own", "_law_is_so"]
theorem sc__law_gone_on : FnScope N__law_gone_on ["_law_own"] (defScope s__law_gone_on) := ⟨rfl, rfl, rfl, by decide +kernel, rfl, by decide +kernel, by decide +kernel⟩
def t__law_gone_on (K : PySem.W.Frag) : TS :=
  (tSeq (tAsg (tOp (rNe9 K) (tDGet (tVar 0) (tC (.str "later"))) (tTup tNil)) (gName 1))
  (tSeq (sDPut (tVar 0) (tC (.str "past")) (tOp (rAdd9 K) (tDGet (tVar 0) (tC (.str "past"))) (tSl (rSl9 K) (tDGet (tVar 0) (tC (.str "later"))) tNoPart (tPart (tC (.int 1))))))
  (tSeq (sDPut (tVar 0) (tC (.str "later")) (tSl (rSl9 K) (tDGet (tVar 0) (tC (.str "later"))) (tPart (tC (.int 1))) tNoPart))
  (tRet (tVar 1)))))
theorem pd__law_gone_on {P : Program} {w : World} {K : PySem.W.Frag} {mg : Str → Option Value} {base : Heap} (T : Txt K mg)  {cdv : Value} {A : Around} {outer : List Env} {s : Shared} {H : Hp} {E : XK}
    (hr : Room 0 (A.deeper (envOfC "_law_gone_on" (defScope s__law_gone_on) s.heap.objs.size (He.ga K "_law_gone_on") cdv))) :
    PSs (cxOf CX0 P w K mg base N__law_gone_on "_law_gone_on" (defScope s__law_gone_on) (He.ga K "_law_gone_on") cdv A outer s H E).nox (defBody s__law_gone_on) (t__law_gone_on K) :=
  (pss_cons (ps_set (i := 1) sc__law_gone_on.nd rfl (Or.inl rfl) (pe_cmpR (op_ne9 hr.units) (pe_dget (hu_of hr) (pv 0) pe_str (fun _ _ => rfl)) (pe_tup pa_nil) (nomark _)))
  (pss_cons (ps_dput (hu_of hr) (pv 0) pe_str (pe_op op_add9 (pe_dget (hu_of hr) (pv 0) pe_str (fun _ _ => rfl)) (pe_slice sl_9 (pe_dget (hu_of hr) (pv 0) pe_str (fun _ _ => rfl)) po_none (po_some pe_int))) rfl)
  (pss_cons (ps_dput (hu_of hr) (pv 0) pe_str (pe_slice sl_9 (pe_dget (hu_of hr) (pv 0) pe_str (fun _ _ => rfl)) (po_some pe_int) po_none) rfl)
  (pss_one (ps_ret (pv 1))))))

abbrev N__law_step_of : List Str := ["_law_m", "_law_own", "_law_one", "_law_many", "_law_step", "_law_states_so", "_law_told"]
theorem sc__law_step_of : FnScope N__law_step_of ["_law_m", "_law_own"] (defScope s__law_step_of) := ⟨rfl, rfl, rfl, by decide +kernel, rfl, by decide +kernel, by decide +kernel⟩
def t__law_step_of (K : PySem.W.Frag) : TS :=
  (tSeq (tPar 2 3 (tCons (tCall (sp__law_draw K) [] E0 (tCons (tVar 0) (tCons (tDGet (tVar 1) (tC (.str "many"))) tNil))) (tCons (tDGet (tVar 1) (tC (.str "many"))) tNil)))
  (tSeq (tIfS (tOr (tTest (tOp (rEq9 K) (tVar 3) (tC (.int 1)))) (tTest (tOp (rEq9 K) (tCall (sp__law_draw K) [] E0 (tCons (tVar 0) (tCons (tC (.int 2)) tNil))) (tC (.int 0))))) (tAsg (tTup (tCons (tC (.str "do")) (tCons (tVar 2) (tCons (tCall (sp__law_draw K) [] E0 (tCons (tVar 0) (tCons (tCB (rLen9 K) (tCons (tOp (rIx K) (tDGet (tVar 1) (tC (.str "kind"))) (tC (.int 1))) tNil)) tNil))) tNil)))) (gName 4)) (tAsg (tTup (tCons (tC (.str "hear")) (tCons (tVar 2) (tCons (tOp rMod9 (tCB rInt9 (tCons (tOp (rAdd9 K) (tOp (rAdd9 K) (tVar 2) (tC (.int 1))) (tCall (sp__law_draw K) [] E0 (tCons (tVar 0) (tCons (tOp rSub9 (tVar 3) (tC (.int 1))) tNil)))) tNil)) (tVar 3)) tNil)))) (gName 4)))
  (tSeq (tAsg (tTup (tCons (tOp (rAdd9 K) (tDGet (tVar 1) (tC (.str "past"))) (tTup (tCons (tVar 4) tNil))) (tCons (tTup tNil) tNil))) (gTup K 2 (gCons (gSub (tVar 1) (tC (.str "past")) rSetD) (gCons (gSub (tVar 1) (tC (.str "later")) rSetD) gNil))))
  (tSeq (tAsg (tCall (sp__law_run K) [] E0 (tCons (tDGet (tVar 1) (tC (.str "kind"))) (tCons (tTup (tCons (tVar 3) (tCons (tDGet (tVar 1) (tC (.str "past"))) tNil))) tNil))) (gTup K 2 (gCons (gName 5) (gCons (gName 6) gNil))))
  (tRet (tTup (tCons (tVar 4) (tCons (tOp (rIx K) (tOp (rIx K) (tDGet (tVar 1) (tC (.str "kind"))) (tC (.int 3))) (tOp (rIx K) (tVar 5) (tVar 2))) tNil))))))))
theorem pd__law_step_of {P : Program} {w : World} {K : PySem.W.Frag} {mg : Str → Option Value} {base : Heap} (T : Txt K mg) (G__law_draw : Okf P w K mg base CX0 2 (He.ga K "_law_draw") ["_law_m", "_law_limit"] (sp__law_draw K)) (G__law_run : Okf P w K mg base CX0 1 (He.ga K "_law_run") ["_law_kind_so", "_law_story"] (sp__law_run K)) {cdv : Value} {A : Around} {outer : List Env} {s : Shared} {H : Hp} {E : XK}
    (hr : Room 2 (A.deeper (envOfC "_law_step_of" (defScope s__law_step_of) s.heap.objs.size (He.ga K "_law_step_of") cdv))) :
    PSs (cxOf CX0 P w K mg base N__law_step_of "_law_step_of" (defScope s__law_step_of) (He.ga K "_law_step_of") cdv A outer s H E).nox (defBody s__law_step_of) (t__law_step_of K) :=
  (pss_cons (ps_par (i := 2) (j := 3) rfl sc__law_step_of.nd rfl rfl (by decide) rfl rfl (pa_cons (pe_callF G__law_draw (hr.mono (by decide)) (by rfl) T.g__law_draw pass0 (pa_cons (pv 0) (pa_cons (pe_dget (hu_of hr) (pv 1) pe_str (fun _ _ => rfl)) pa_nil))) (pa_cons (pe_dget (hu_of hr) (pv 1) pe_str (fun _ _ => rfl)) pa_nil)) (by rfl))
  (pss_cons (ps_if (PW.pt (pw_or (pt_cmpR (op_eq9 hr.units) (pv 3) pe_int (nomark _)) (pw_or1 (pt_cmpR (op_eq9 hr.units) (pe_callF G__law_draw (hr.mono (by decide)) (by rfl) T.g__law_draw pass0 (pa_cons (pv 0) (pa_cons pe_int pa_nil))) pe_int (nomark _))))) (pss_one (ps_set (i := 4) sc__law_step_of.nd rfl (Or.inl rfl) (pe_tup (pa_cons pe_str (pa_cons (pv 2) (pa_cons (pe_callF G__law_draw (hr.mono (by decide)) (by rfl) T.g__law_draw pass0 (pa_cons (pv 0) (pa_cons (pe_callB call_len9 (by rfl) T.f_len PySem.boot_len (pa_cons (pe_ix ix_seq (pe_dget (hu_of hr) (pv 1) pe_str (fun _ _ => rfl)) pe_int (fun _ _ => rfl)) pa_nil)) pa_nil))) pa_nil)))))) (pss_one (ps_set (i := 4) sc__law_step_of.nd rfl (Or.inl rfl) (pe_tup (pa_cons pe_str (pa_cons (pv 2) (pa_cons (pe_op op_modN (pe_callTy call_int9 (by rfl) T.f_int (by decide +kernel) (pa_cons (pe_op op_add9 (pe_op op_add9 (pv 2) pe_int) (pe_callF G__law_draw (hr.mono (by decide)) (by rfl) T.g__law_draw pass0 (pa_cons (pv 0) (pa_cons (pe_op op_sub (pv 3) pe_int) pa_nil)))) pa_nil)) (pv 3)) pa_nil)))))))
  (pss_cons (ps_asg (pe_tup (pa_cons (pe_op op_add9 (pe_dget (hu_of hr) (pv 1) pe_str (fun _ _ => rfl)) (pe_tup (pa_cons (pv 4) pa_nil))) (pa_cons (pe_tup pa_nil) pa_nil))) (pg_tup rfl (pgs_cons (pg_sub (pv 1) pe_str (set_dict (hu_of hr))) (pgs_cons (pg_sub (pv 1) pe_str (set_dict (hu_of hr))) pgs_nil))))
  (pss_cons (ps_asg (pe_callF G__law_run (hr.mono (by decide)) (by rfl) T.g__law_run pass0 (pa_cons (pe_dget (hu_of hr) (pv 1) pe_str (fun _ _ => rfl)) (pa_cons (pe_tup (pa_cons (pv 3) (pa_cons (pe_dget (hu_of hr) (pv 1) pe_str (fun _ _ => rfl)) pa_nil))) pa_nil))) (pg_tup rfl (pgs_cons (pg_name (i := 5) sc__law_step_of.nd rfl (Or.inl rfl)) (pgs_cons (pg_name (i := 6) sc__law_step_of.nd rfl (Or.inl rfl)) pgs_nil))))
  (pss_one (ps_ret (pe_tup (pa_cons (pv 4) (pa_cons (pe_ix ix_seq (pe_ix ix_seq (pe_dget (hu_of hr) (pv 1) pe_str (fun _ _ => rfl)) pe_int (fun _ _ => rfl)) (pe_ix ix_seq (pv 5) (pv 2) (fun _ _ => rfl)) (fun _ _ => rfl)) pa_nil)))))))))

abbrev N__law_turn : List Str := ["_law_m", "_law_house_so", "_law_own", "_law_pick", "_law_step", "_law_due"]
theorem sc__law_turn : FnScope N__law_turn ["_law_m", "_law_house_so", "_law_own"] (defScope s__law_turn) := ⟨rfl, rfl, rfl, by decide +kernel, rfl, by decide +kernel, by decide +kernel⟩
def t__law_turn (K : PySem.W.Frag) : TS :=
  (tSeq (tAsg (tCall (sp__law_draw K) [] E0 (tCons (tVar 0) (tCons (tC (.int 6)) tNil))) (gName 3))
  (tSeq (tIfS (tTest (tOp (rEq9 K) (tVar 3) (tC (.int 0)))) (tRet (tCall (sp__law_like K) [] E0 (tCons (tMeth (He.ga K "House") "undo" (sp_House_undo K) [] E0 (tVar 1) tNil) (tCons (tCall (sp__law_gone_back K) [] E0 (tCons (tVar 2) tNil)) tNil)))) tNext)
  (tSeq (tIfS (tTest (tOp (rEq9 K) (tVar 3) (tC (.int 1)))) (tRet (tCall (sp__law_like K) [] E0 (tCons (tMeth (He.ga K "House") "redo" (sp_House_redo K) [] E0 (tVar 1) tNil) (tCons (tCall (sp__law_gone_on K) [] E0 (tCons (tVar 2) tNil)) tNil)))) tNext)
  (tSeq (tAsg (tCall (sp__law_step_of K) [] E0 (tCons (tVar 0) (tCons (tVar 2) tNil))) (gTup K 2 (gCons (gName 4) (gCons (gName 5) gNil))))
  (tSeq (tIfS (tTest (tOp (rEq9 K) (tOp (rIx K) (tVar 4) (tC (.int 0))) (tC (.str "do")))) (tRet (tCall (sp__law_like K) [] E0 (tCons (tMeth (He.ga K "House") "do" (sp_House_do K) [] E0 (tVar 1) (tCons (tOp (rIx K) (tVar 4) (tC (.int 1))) (tCons (tOp (rIx K) (tVar 4) (tC (.int 2))) tNil))) (tCons (tVar 5) tNil)))) tNext)
  (tRet (tCall (sp__law_like K) [] E0 (tCons (tMeth (He.ga K "House") "hear" (sp_House_hear K) [] E0 (tVar 1) (tCons (tOp (rIx K) (tVar 4) (tC (.int 1))) (tCons (tOp (rIx K) (tVar 4) (tC (.int 2))) tNil))) (tCons (tVar 5) tNil)))))))))
theorem pd__law_turn {P : Program} {w : World} {K : PySem.W.Frag} {mg : Str → Option Value} {base : Heap} (T : Txt K mg) (G__law_draw : Okf P w K mg base CX0 2 (He.ga K "_law_draw") ["_law_m", "_law_limit"] (sp__law_draw K)) (G__law_like : Okg P w K mg base CX0 1 (He.ga K "_law_like") ["_law_answer", "_law_due"] (sp__law_like K)) (G__law_gone_back : Okf P w K mg base CX0 1 (He.ga K "_law_gone_back") ["_law_own"] (sp__law_gone_back K)) (G_House_undo : Okf P w K mg base CX0 1 (He.ma K (He.ga K "House") "undo") ["self"] (sp_House_undo K)) (G__law_gone_on : Okf P w K mg base CX0 1 (He.ga K "_law_gone_on") ["_law_own"] (sp__law_gone_on K)) (G_House_redo : Okf P w K mg base CX0 1 (He.ma K (He.ga K "House") "redo") ["self"] (sp_House_redo K)) (G__law_step_of : Okf P w K mg base CX0 3 (He.ga K "_law_step_of") ["_law_m", "_law_own"] (sp__law_step_of K)) (G_House_do : Okf P w K mg base (L2.CX P w) 5 (He.ma K (He.ga K "House") "do") ["self", "number", "update"] (sp_House_do K)) (G_House_hear : Okf P w K mg base CX0 5 (He.ma K (He.ga K "House") "hear") ["self", "number", "other"] (sp_House_hear K)) {cdv : Value} {A : Around} {outer : List Env} {s : Shared} {H : Hp} {E : XK} (hgd : A.guards = some [])
    (hr : Room 5 (A.deeper (envOfC "_law_turn" (defScope s__law_turn) s.heap.objs.size (He.ga K "_law_turn") cdv))) :
    PSs (cxOf CX0 P w K mg base N__law_turn "_law_turn" (defScope s__law_turn) (He.ga K "_law_turn") cdv A outer s H E).nox (defBody s__law_turn) (t__law_turn K) :=
  (pss_cons (ps_set (i := 3) sc__law_turn.nd rfl (Or.inl rfl) (pe_callF G__law_draw (hr.mono (by decide)) (by rfl) T.g__law_draw pass0 (pa_cons (pv 0) (pa_cons pe_int pa_nil))))
  (pss_cons (ps_if (pt_cmpR (op_eq9 hr.units) (pv 3) pe_int (nomark _)) (pss_one (ps_ret (pe_callG G__law_like hgd (hr.mono (by decide)) (by rfl) T.g__law_like pass0 (pa_cons (pe_methF0 (pv 1) T.c_House T.m_House_undo G_House_undo (hr.mono (by decide)) pass0) (pa_cons (pe_callF G__law_gone_back (hr.mono (by decide)) (by rfl) T.g__law_gone_back pass0 (pa_cons (pv 2) pa_nil)) pa_nil))))) pss_nil)
  (pss_cons (ps_if (pt_cmpR (op_eq9 hr.units) (pv 3) pe_int (nomark _)) (pss_one (ps_ret (pe_callG G__law_like hgd (hr.mono (by decide)) (by rfl) T.g__law_like pass0 (pa_cons (pe_methF0 (pv 1) T.c_House T.m_House_redo G_House_redo (hr.mono (by decide)) pass0) (pa_cons (pe_callF G__law_gone_on (hr.mono (by decide)) (by rfl) T.g__law_gone_on pass0 (pa_cons (pv 2) pa_nil)) pa_nil))))) pss_nil)
  (pss_cons (ps_asg (pe_callF G__law_step_of (hr.mono (by decide)) (by rfl) T.g__law_step_of pass0 (pa_cons (pv 0) (pa_cons (pv 2) pa_nil))) (pg_tup rfl (pgs_cons (pg_name (i := 4) sc__law_turn.nd rfl (Or.inl rfl)) (pgs_cons (pg_name (i := 5) sc__law_turn.nd rfl (Or.inl rfl)) pgs_nil))))
  (pss_cons (ps_if (pt_cmpR (op_eq9 hr.units) (pe_ix ix_seq (pv 4) pe_int (fun _ _ => rfl)) pe_str (nomark _)) (pss_one (ps_ret (pe_callG G__law_like hgd (hr.mono (by decide)) (by rfl) T.g__law_like pass0 (pa_cons (pe_methF (pv 1) T.c_House T.m_House_do G_House_do (hr.mono (by decide)) passL (pa_cons (pe_ix ix_seq (pv 4) pe_int (fun _ _ => rfl)) (pa_cons (pe_ix ix_seq (pv 4) pe_int (fun _ _ => rfl)) pa_nil))) (pa_cons (pv 5) pa_nil))))) pss_nil)
  (pss_one (ps_ret (pe_callG G__law_like hgd (hr.mono (by decide)) (by rfl) T.g__law_like pass0 (pa_cons (pe_methF (pv 1) T.c_House T.m_House_hear G_House_hear (hr.mono (by decide)) pass0 (pa_cons (pe_ix ix_seq (pv 4) pe_int (fun _ _ => rfl)) (pa_cons (pe_ix ix_seq (pv 4) pe_int (fun _ _ => rfl)) pa_nil))) (pa_cons (pv 5) pa_nil))))))))))

abbrev N__law_led : List Str := ["_law_m", "_law_house_so", "_law_own", "_law_many", "_law_again"]
theorem sc__law_led : FnScope N__law_led ["_law_m", "_law_house_so", "_law_own", "_law_many"] (defScope s__law_led) := ⟨rfl, rfl, rfl, by decide +kernel, rfl, by decide +kernel, by decide +kernel⟩
def t__law_led (K : PySem.W.Frag) : TS :=
  (tSeq (tFor (iRng1 (tCons (tVar 3) tNil)) (gName 4) (tIfS (tOr (tNot (tB (tCall (sp__law_turn K) [] E0 (tCons (tVar 0) (tCons (tVar 1) (tCons (tVar 2) tNil)))))) (tNot (tB (tCall (sp__law_stands K) [] E0 (tCons (tVar 1) (tCons (tVar 2) tNil)))))) (tRet (tC (.bl false))) tNext))
  (tRet (tC (.bl true))))
theorem pd__law_led {P : Program} {w : World} {K : PySem.W.Frag} {mg : Str → Option Value} {base : Heap} (T : Txt K mg) (G__law_turn : Okg P w K mg base CX0 6 (He.ga K "_law_turn") ["_law_m", "_law_house_so", "_law_own"] (sp__law_turn K)) (G__law_stands : Okg P w K mg base CX0 8 (He.ga K "_law_stands") ["_law_house_so", "_law_own"] (sp__law_stands K)) {cdv : Value} {A : Around} {outer : List Env} {s : Shared} {H : Hp} {E : XK} (hgd : A.guards = some [])
    (hr : Room 8 (A.deeper (envOfC "_law_led" (defScope s__law_led) s.heap.objs.size (He.ga K "_law_led") cdv))) :
    PSs (cxOf CX0 P w K mg base N__law_led "_law_led" (defScope s__law_led) (He.ga K "_law_led") cdv A outer s H E).nox (defBody s__law_led) (t__law_led K) :=
  (pss_cons (ps_for PassesOwn.never rfl (pi_range1 (by rfl) T.f_range (pa_cons (pv 3) pa_nil)) (pg_name (i := 4) sc__law_led.nd rfl (Or.inl rfl)) (pss_one (ps_if (PW.pt (pw_or (pt_not (pt_val (pe_callG G__law_turn hgd (hr.mono (by decide)) (by rfl) T.g__law_turn pass0 (pa_cons (pv 0) (pa_cons (pv 1) (pa_cons (pv 2) pa_nil)))))) (pw_or1 (pt_not (pt_val (pe_callG G__law_stands hgd (hr.mono (by decide)) (by rfl) T.g__law_stands pass0 (pa_cons (pv 1) (pa_cons (pv 2) pa_nil)))))))) (pss_one (ps_ret pe_bl)) pss_nil)))
  (pss_one (ps_ret pe_bl)))

abbrev N__law_twin_of : List Str := ["_law_own"]
theorem sc__law_twin_of : FnScope N__law_twin_of ["_law_own"] (defScope s__law_twin_of) := ⟨rfl, rfl, rfl, by decide +kernel, rfl, by decide +kernel, by decide +kernel⟩
def t__law_twin_of (K : PySem.W.Frag) : TS :=
  (tRet (tCB rDictC (tCons (tVar 0) tNil)))
theorem pd__law_twin_of {P : Program} {w : World} {K : PySem.W.Frag} {mg : Str → Option Value} {base : Heap} (T : Txt K mg)  {cdv : Value} {A : Around} {outer : List Env} {s : Shared} {H : Hp} {E : XK}
    (hr : Room 0 (A.deeper (envOfC "_law_twin_of" (defScope s__law_twin_of) s.heap.objs.size (He.ga K "_law_twin_of") cdv))) :
    PSs (cxOf CX0 P w K mg base N__law_twin_of "_law_twin_of" (defScope s__law_twin_of) (He.ga K "_law_twin_of") cdv A outer s H E).nox (defBody s__law_twin_of) (t__law_twin_of K) :=
  (pss_one (ps_ret (pe_callTy call_dictC9 (by rfl) T.f_dict (by decide +kernel) (pa_cons (pv 0) pa_nil))))
end W9
set_option maxHeartbeats 4000000
/-! dicts by data; expressions that draw -/
namespace W9
open PySem PySem.Spec PyProof.Rows L2
section
variable {K : PySem.W.Frag} {Γ : Cxt} {P : Hp → Prop} {td tv te tl : TE} {d e : Dt} {l : List Dt} {D : Ends} {σ : L2.St} {H : Hp} {a o : Addr} {k : Str} {h : Hs}
theorem pu_dget [Stb P] (h : Pu td Γ P (dr a)) (hP : ∀ H, P H → ∃ kvs v, H a = some (.dK kvs) ∧ valV kvs (.inr k) = some v ∧ TD H v d) : Pu (tDGet td (tC (.str k))) Γ P d := fun σ H s p Q q =>
  h σ H s p _ fun x H1 e1 h1 => by
    obtain ⟨kvs, v, hd, hv, ht⟩ := hP H1 (Stb.ext e1 p)
    exact ⟨a, v, h1.v_eq, by rw [← hv]; exact DGet.k (k := .inr k) hd, q v H1 e1 ht⟩
theorem s_dput [Stb P] {kvs : List (Key × V)} (hv : Pu tv Γ P d) (ho : Pu td Γ P (dr a)) (s : Sl σ H Γ) (p : P H) (hP : ∀ H, P H → H a = some (.dK kvs)) (hl : kvs.length < 100)
    (q : ∀ v H', ExT H H' → ExB a H H' → H' a = some (.dK (putK kvs (.inr k) v)) → TD H' v d → D.nx σ H') : sDPut td (tC (.str k)) tv D σ H :=
  hv σ H s p _ fun v H1 e1 h1 => ho σ H1 (s.ext e1.t) (Stb.ext e1 p) _ fun x H2 e2 h2 => by
    have hd := hP H2 (Stb.ext (e1.trans e2) p)
    have et : ExT H2 (upd H2 a (.dK (putK kvs (.inr k) v))) := ext_mut hd fun _ z => nomatch z
    exact ⟨a, _, h2.v_eq, DPut.k (k := .inr k) hd (sz_lt (by omega)), q v _ ((Ex.t (e1.trans e2)).trans et) ((ExB.of (e1.trans e2)).trans ExB.upd) upd_same ((h1.ext e2.t).ext et)⟩
theorem s_dputL [Stb P] {kvs : List (Key × V)} (hv : PuL tv Γ P l) (ho : Pu td Γ P (dr a)) (s : Sl σ H Γ) (p : P H) (hP : ∀ H, P H → H a = some (.dK kvs)) (hl : kvs.length < 100)
    (q : ∀ b H', H b = none → ExT H H' → ExB a H H' → H' a = some (.dK (putK kvs (.inr k) (.ref b))) → LstAt H' b l → D.nx σ H') : sDPut td (tC (.str k)) tv D σ H :=
  hv σ H s p _ fun b H1 hb e1 h1 => ho σ H1 (s.ext e1.t) (Stb.ext e1 p) _ fun x H2 e2 h2 => by
    have hd := hP H2 (Stb.ext (e1.trans e2) p)
    have et : ExT H2 (upd H2 a (.dK (putK kvs (.inr k) (.ref b)))) := ext_mut hd fun _ z => nomatch z
    have nb : b ≠ a := fun z => by
      have := hP H p
      rw [← z, hb] at this
      cases this
    exact ⟨a, _, h2.v_eq, DPut.k (k := .inr k) hd (sz_lt (by omega)), q b _ hb ((Ex.t (e1.trans e2)).trans et) ((ExB.of (e1.trans e2)).trans ExB.upd) upd_same ((h1.ext e2).keep (upd_ne nb) et)⟩
/-! the record of a house -/
theorem pu_oK [Stb P] (ht : Pu td Γ P (dr o)) (hP : ∀ H, P H → OwAt H o h) : Pu (tDGet td (tC (.str "kind"))) Γ P (kdD h.k) := pu_dget ht fun H p => by
  obtain ⟨xk, xp, xl, h1, h2, h3, h4⟩ := hP H p
  exact ⟨_, xk, h1, rfl, h2⟩
theorem pu_oM [Stb P] (ht : Pu td Γ P (dr o)) (hP : ∀ H, P H → OwAt H o h) : Pu (tDGet td (tC (.str "many"))) Γ P (dn h.m) := pu_dget ht fun H p => by
  obtain ⟨xk, xp, xl, h1, h2, h3, h4⟩ := hP H p
  exact ⟨_, .int (h.m : Int), h1, rfl, .leaf _⟩
theorem pu_oP [Stb P] (ht : Pu td Γ P (dr o)) (hP : ∀ H, P H → OwAt H o h) : Pu (tDGet td (tC (.str "past"))) Γ P (stepsD h.past) := pu_dget ht fun H p => by
  obtain ⟨xk, xp, xl, h1, h2, h3, h4⟩ := hP H p
  exact ⟨_, xp, h1, rfl, h3⟩
theorem pu_oL [Stb P] (ht : Pu td Γ P (dr o)) (hP : ∀ H, P H → OwAt H o h) : Pu (tDGet td (tC (.str "later"))) Γ P (stepsD h.later) := pu_dget ht fun H p => by
  obtain ⟨xk, xp, xl, h1, h2, h3, h4⟩ := hP H p
  exact ⟨_, xl, h1, rfl, h4⟩
theorem s_oP {l : List Stp} (hv : Pu tv Γ (fun H => OwAt H o h) (stepsD l)) (ho : Pu td Γ (fun H => OwAt H o h) (dr o)) (s : Sl σ H Γ) (p : OwAt H o h) (q : ∀ H', Recd o { h with past := l } H H' → D.nx σ H') : sDPut td (tC (.str "past")) tv D σ H := by
  obtain ⟨xk, xp, xl, h1, h2, h3, h4⟩ := id p
  refine s_dput (P := fun H' => OwAt H' o h ∧ H' o = some (.dK [(.inr "kind", xk), (.inr "many", .int (h.m : Int)), (.inr "past", xp), (.inr "later", xl)])) (fun σ H s p => hv σ H s p.1) (fun σ H s p => ho σ H s p.1) s ⟨p, h1⟩ (fun _ p => p.2) (by show 4 < 100; decide) fun v H' et eb hd ht => ?_
  exact q H' ⟨et, eb, xk, v, xl, by rw [hd]; rfl, h2.ext et, ht, h4.ext et⟩
theorem s_oL {l : List Stp} (hv : Pu tv Γ (fun H => OwAt H o h) (stepsD l)) (ho : Pu td Γ (fun H => OwAt H o h) (dr o)) (s : Sl σ H Γ) (p : OwAt H o h) (q : ∀ H', Recd o { h with later := l } H H' → D.nx σ H') : sDPut td (tC (.str "later")) tv D σ H := by
  obtain ⟨xk, xp, xl, h1, h2, h3, h4⟩ := id p
  refine s_dput (P := fun H' => OwAt H' o h ∧ H' o = some (.dK [(.inr "kind", xk), (.inr "many", .int (h.m : Int)), (.inr "past", xp), (.inr "later", xl)])) (fun σ H s p => hv σ H s p.1) (fun σ H s p => ho σ H s p.1) s ⟨p, h1⟩ (fun _ p => p.2) (by show 4 < 100; decide) fun v H' et eb hd ht => ?_
  exact q H' ⟨et, eb, xk, xp, v, by rw [hd]; rfl, h2.ext et, h3.ext et, ht⟩
theorem Recd.trans {h1 h2 : Hs} {H1 H2 : Hp} (a : Recd o h1 H H1) (b : Recd o h2 H1 H2) : Recd o h2 H H2 := ⟨a.1.trans b.1, a.2.1.trans b.2.1, b.2.2⟩
theorem Recd.pre {h1 : Hs} {H1 H2 : Hp} (e : Ex H H1) (b : Recd o h1 H1 H2) : Recd o h1 H H2 := ⟨e.t.trans b.1, (ExB.of e).trans b.2.1, b.2.2⟩
theorem Recd.post {h1 : Hs} {H1 H2 : Hp} (b : Recd o h1 H H1) (e : Ex H1 H2) : Recd o h1 H H2 := ⟨b.1.trans e.t, b.2.1.trans (ExB.of e), b.2.2.ext e⟩
end

/-! ### expressions that draw -/
structure StbD (m g : Addr) (P : Hp → Prop) : Prop where
  keep : ∀ {H H' : Hp}, ExT H H' → ExS [m, g] H H' → P H → P H'
section
variable {m c g : Addr} {P R : Hp → Prop}
theorem StbD.stb (h : StbD m g P) : Stb P := ⟨fun e p => h.keep e.t (ExS.of e) p⟩
theorem stbD_T : StbD m g (fun _ => True) := ⟨fun _ _ _ => trivial⟩
theorem stbD_and (h : StbD m g P) (h' : StbD m g R) : StbD m g (fun H => P H ∧ R H) := ⟨fun a b p => ⟨h.keep a b p.1, h'.keep a b p.2⟩⟩
theorem LstAt.but {H H' : Hp} {a : Addr} {l : List Dt} {ls : List Addr} (h : LstAt H a l) (t : ExT H H') (e : ExS ls H H') (n : a ∉ ls) : LstAt H' a l := by
  obtain ⟨xs, h1, h2⟩ := h
  exact ⟨xs, e _ _ n h1, h2.ext t⟩
theorem stbD_L {a : Addr} {l : List Dt} (n : a ∉ [m, g]) : StbD m g (fun H => LstAt H a l) := ⟨fun t e p => p.but t e n⟩
theorem stbD_ow {o : Addr} {h : Hs} (n : o ∉ [m, g]) : StbD m g (fun H => OwAt H o h) := ⟨fun t e p => p.but e t n⟩
end
section
variable (m c g : Addr)
def PD (te : TE) (Γ : Cxt) (P : Hp → Prop) (B : Nat) (S : Dt → Prop) : Prop := ∀ (σ : L2.St) (H : Hp) (n : Nat), Sl σ H Γ → P H → DrAt H m c g n → n + B ≤ 5000 → ∀ Q : VK, (∀ x H' n' d, n ≤ n' → n' ≤ n + B → DrTo m c g n' H H' → S d → TD H' x d → Q x H') → te σ H Q
def PDA (ta : TA) (Γ : Cxt) (P : Hp → Prop) (B : Nat) (S : List Dt → Prop) : Prop := ∀ (σ : L2.St) (H : Hp) (n : Nat), Sl σ H Γ → P H → DrAt H m c g n → n + B ≤ 5000 → ∀ Q : List V → Hp → Prop, (∀ xs H' n' l, n ≤ n' → n' ≤ n + B → DrTo m c g n' H H' → S l → TDs H' xs l → Q xs H') → ta σ H Q
def PDL (te : TE) (Γ : Cxt) (P : Hp → Prop) (B : Nat) (S : List Dt → Prop) : Prop := ∀ (σ : L2.St) (H : Hp) (n : Nat), Sl σ H Γ → P H → DrAt H m c g n → n + B ≤ 5000 → ∀ Q : VK, (∀ p H' n' l, H p = none → n ≤ n' → n' ≤ n + B → DrTo m c g n' H H' → S l → LstAt H' p l → Q (.ref p) H') → te σ H Q
def PDT (tt : TT) (Γ : Cxt) (P : Hp → Prop) (B : Nat) : Prop := ∀ (σ : L2.St) (H : Hp) (n : Nat), Sl σ H Γ → P H → DrAt H m c g n → n + B ≤ 5000 → ∀ Q : Bool → Hp → Prop, (∀ b H' n', n ≤ n' → n' ≤ n + B → DrTo m c g n' H H' → Q b H') → tt σ H Q
end
section
variable {m c g : Addr} {K : PySem.W.Frag} {Γ : Cxt} {P : Hp → Prop} {ta tb te tl tm : TE} {tt : TT} {tr : TA} {d e : Dt} {l : List Dt} {B B1 B2 n : Nat} {S S1 S2 : Dt → Prop} {T T1 : List Dt → Prop} {D : Ends} {σ : L2.St} {H : Hp} {i : Nat} {tu tw : TS}
theorem pd_pu (h : Pu te Γ P d) (hs : S d) : PD m c g te Γ P 0 S := fun σ H n s p dr hn Q q => h σ H s p Q fun x H' e1 h1 => q x H' n d (Nat.le_refl _) (Nat.le_refl _) (DrTo.of e1 dr) hs h1
theorem pd_mono (h : PD m c g te Γ P B S) (hb : B ≤ B1) (hs : ∀ d, S d → S1 d) : PD m c g te Γ P B1 S1 := fun σ H n s p dr hn Q q => h σ H n s p dr (by omega) Q fun x H' n' d a b t hd ht => q x H' n' d a (by omega) t (hs d hd) ht
theorem pdt_mono (h : PDT m c g tt Γ P B) (hb : B ≤ B1) : PDT m c g tt Γ P B1 := fun σ H n s p dr hn Q q => h σ H n s p dr (by omega) Q fun x H' n' a b t => q x H' n' a (by omega) t
theorem pdl_mono (h : PDL m c g te Γ P B T) (hb : B ≤ B1) (hs : ∀ d, T d → T1 d) : PDL m c g te Γ P B1 T1 := fun σ H n s p dr hn Q q => h σ H n s p dr (by omega) Q fun x H' n' d z a b t hd ht => q x H' n' d z a (by omega) t (hs d hd) ht
theorem pd_draw {lim : Nat} {E : XK} (hP : StbD m g P) (hm : Pu tm Γ P (dr m)) (hl : Pu tl Γ P (dn lim)) (h1 : 1 ≤ lim) (h64 : lim ≤ 64) : PD m c g (tCall (sp__law_draw K) [] E (tCons tm (tCons tl tNil))) Γ P 1 (fun d => ∃ r : Nat, r < lim ∧ d = dn r) := fun σ H n s p dr hn Q q => by
  haveI := hP.stb
  refine hm σ H s p _ fun x H1 e1 x1 => hl σ H1 (s.ext e1.t) (Stb.ext e1 p) _ fun y H2 e2 y2 => ?_
  cases x1.v_eq
  cases y2.v_eq
  exact ⟨m, c, g, n, lim, rfl, dr.ext (e1.trans e2), by omega, h1, h64, fun H' r hr t => q _ H' (n + 1) _ (by omega) (by omega) ((DrTo.of (e1.trans e2) dr).trans t) ⟨r, hr, rfl⟩ (.leaf _)⟩
theorem pd_op (hP : StbD m g P) {r : R2} (ha : PD m c g ta Γ P B1 S1) (hb : PD m c g tb Γ P B2 S2) (hr : ∀ d e, S1 d → S2 e → ∃ f, S f ∧ RV r (fun _ => True) d e f) : PD m c g (tOp r ta tb) Γ P (B1 + B2) S := fun σ H n s p dr hn Q q =>
  ha σ H n s p dr (by omega) _ fun x H1 n1 d l1 u1 t1 s1 h1 => hb σ H1 n1 (s.ext t1.1) (hP.keep t1.1 t1.2.1 p) t1.2.2 (by omega) _ fun y H2 n2 e l2 u2 t2 s2 h2 => by
    obtain ⟨f, hf, r⟩ := hr d e s1 s2
    exact r H2 x y trivial (h1.ext t2.1) h2 Q fun z H3 e3 h3 => q z H3 n2 f (by omega) (by omega) ((t1.trans t2).ex e3) hf h3
theorem pda_n : PDA m c g tNil Γ P 0 (fun l => l = []) := fun σ H n s p dr hn Q q => q [] H n [] (Nat.le_refl _) (Nat.le_refl _) (DrTo.of (Same.refl H) dr) rfl .nil
theorem pda_pu (h : PuA tr Γ P l) (hs : T l) : PDA m c g tr Γ P 0 T := fun σ H n s p dr hn Q q => h σ H s p Q fun x H' e1 h1 => q x H' n l (Nat.le_refl _) (Nat.le_refl _) (DrTo.of e1 dr) hs h1
theorem pda_c (hP : StbD m g P) (h : PD m c g te Γ P B1 S) (hr : PDA m c g tr Γ P B2 T) : PDA m c g (tCons te tr) Γ P (B1 + B2) (fun l => ∃ d r, l = d :: r ∧ S d ∧ T r) := fun σ H n s p dr hn Q q =>
  h σ H n s p dr (by omega) _ fun x H1 n1 d l1 u1 t1 s1 h1 => hr σ H1 n1 (s.ext t1.1) (hP.keep t1.1 t1.2.1 p) t1.2.2 (by omega) _ fun ys H2 n2 r l2 u2 t2 s2 h2 =>
    q _ H2 n2 _ (by omega) (by omega) (t1.trans t2) ⟨d, r, rfl, s1, s2⟩ (.cons (h1.ext t2.1) h2)
theorem pd_tup (h : PDA m c g tr Γ P B T) (hz : ∀ l, T l → l.length ≤ 1000 ∧ S (.tup l)) : PD m c g (tTup tr) Γ P B S := fun σ H n s p dr hn Q q =>
  h σ H n s p dr hn _ fun xs H1 n1 l a b t hl hx => ⟨by rw [hx.length]; exact sz_n (by have := (hz l hl).1; omega), fun r hr => q _ _ n1 (.tup l) a b (t.ex (ex_new hr)) (hz l hl).2 (.tup upd_same (hx.ext (ex_new hr).t))⟩
theorem pd_cb {r : List V → Hp → VK → Prop} (h : PDA m c g tr Γ P B T) (hr : ∀ l, T l → ∃ f, S f ∧ RC r (fun _ => True) l f) : PD m c g (tCB r tr) Γ P B S := fun σ H n s p dr hn Q q =>
  h σ H n s p dr hn _ fun xs H1 n1 l a b t hl hx => by
    obtain ⟨f, hf, hr⟩ := hr l hl
    exact hr H1 xs trivial hx Q fun z H2 e2 h2 => q z H2 n1 f a b (t.ex e2) hf h2
/-- any answer -/
theorem pdt_test (h : PD m c g te Γ P B (fun d => ∃ b, d = db b)) : PDT m c g (tTest te) Γ P B := fun σ H n s p dr hn Q q => h σ H n s p dr hn _ fun x H' n' d a b t hd ht => by
  obtain ⟨z, rfl⟩ := hd
  exact ⟨z, ht.v_eq, q z H' n' a b t⟩
theorem pdt_or (hP : StbD m g P) {t u : TT} (h : PDT m c g t Γ P B1) (h' : PDT m c g u Γ P B2) : PDT m c g (tOr t u) Γ P (B1 + B2) := fun σ H n s p dr hn Q q =>
  h σ H n s p dr (by omega) _ fun b H1 n1 l1 u1 t1 => by
    cases b with
    | true =>
      rw [if_pos rfl]
      exact q _ H1 n1 l1 (by omega) t1
    | false =>
      rw [if_neg Bool.false_ne_true]
      exact h' σ H1 n1 (s.ext t1.1) (hP.keep t1.1 t1.2.1 p) t1.2.2 (by omega) _ fun b H2 n2 l2 u2 t2 => q b H2 n2 (by omega) (by omega) (t1.trans t2)
theorem pd_if (hP : StbD m g P) (h : PDT m c g tt Γ P B1) (ha : PD m c g ta Γ P B2 S) (hb : PD m c g tb Γ P B2 S) : PD m c g (tIf tt ta tb) Γ P (B1 + B2) S := fun σ H n s p dr hn Q q =>
  h σ H n s p dr (by omega) _ fun b H1 n1 l1 u1 t1 => by
    cases b with
    | true => exact ha σ H1 n1 (s.ext t1.1) (hP.keep t1.1 t1.2.1 p) t1.2.2 (by omega) Q fun x H2 n2 d l2 u2 t2 => q x H2 n2 d (by omega) (by omega) (t1.trans t2)
    | false => exact hb σ H1 n1 (s.ext t1.1) (hP.keep t1.1 t1.2.1 p) t1.2.2 (by omega) Q fun x H2 n2 d l2 u2 t2 => q x H2 n2 d (by omega) (by omega) (t1.trans t2)
theorem pd_tupL (h : PDL m c g te Γ P B T) (hs : ∀ l, T l → S (.tup l)) : PD m c g (tCB (rTup9 K) (tCons te tNil)) Γ P B S := fun σ H n s p dr hn Q q =>
  h σ H n s p dr hn _ fun a H1 n1 l ha l1 u1 t1 s1 h1 => by
    obtain ⟨xs, h2, h3⟩ := h1
    exact ⟨a, xs, rfl, .inl ⟨SqL.of h2, fun r hr => q _ _ n1 (.tup l) l1 u1 (t1.ex (ex_new hr)) (hs l s1) (.tup upd_same (h3.ext (ex_new hr).t))⟩⟩
/-- a draw's 0 -/
theorem pdt_is0 {K} (hP : StbD m g P) {lim : Nat} (h : PD m c g te Γ P B (fun d => ∃ r : Nat, r < lim ∧ d = dn r)) : PDT m c g (tTest (tOp (rEq9 K) te (tC (.int 0)))) Γ P B := by
  haveI := hP.stb
  refine pdt_test (pd_op (B2 := 0) (S2 := fun d => d = di 0) hP h (pd_pu pu_c rfl) fun d e hd he => ?_)
  obtain ⟨r, _, rfl⟩ := hd
  subst he
  exact ⟨_, ⟨_, rfl⟩, rv_eqI⟩
theorem pdt_gt0 (hP : StbD m g P) {lim : Nat} (h : PD m c g te Γ P B (fun d => ∃ r : Nat, r < lim ∧ d = dn r)) : PDT m c g (tTest (tOp rGt9 te (tC (.int 0)))) Γ P B := by
  haveI := hP.stb
  refine pdt_test (pd_op (B2 := 0) (S2 := fun d => d = di 0) hP h (pd_pu pu_c rfl) fun d e hd he => ?_)
  obtain ⟨r, _, rfl⟩ := hd
  subst he
  exact ⟨_, ⟨_, rfl⟩, rv_i0⟩
/-- a new object written: what was stays -/
theorem DrTo.mut {H' : Hp} {n0 : Nat} {a : Addr} {u : HO} (d0 : DrAt H m c g n0) (t : DrTo m c g n H H') (ha : H a = none) : DrTo m c g n H (upd H' a u) := by
  obtain ⟨cs, gs, h1, h2, h3, h4, h5, h6, h7⟩ := d0
  obtain ⟨t1, t2, cs', gs', k1, k2, k3, k4, k5, k6, k7⟩ := t
  refine ⟨fun b xs q => ?_, fun b o nb q => ?_, cs', gs', ?_, k2, ?_, k4, k5, ?_, k7⟩
  · rw [upd_ne (ne_of_none q ha)]
    exact t1 b xs q
  · rw [upd_ne (ne_of_none q ha)]
    exact t2 b o nb q
  · rw [upd_ne (ne_of_none h1 ha)]
    exact k1
  · rw [upd_ne (ne_of_none h3 ha)]
    exact k3
  · rw [upd_ne (ne_of_none h6 ha)]
    exact k6
def CwD (m c g : Addr) (H : Hp) (n B : Nat) (T : Nat → List Dt → Prop) (a : Addr) (k : Nat) (H' : Hp) : Prop := H a = none ∧ ∃ n' l, n ≤ n' ∧ n' ≤ n + k * B ∧ DrTo m c g n' H H' ∧ LstAt H' a l ∧ T k l
theorem yes_go {Q1 : VK} {R : Hp → Prop} (h : te σ H Q1) : tYes σ H (fun b H3 => if b = true then te σ H3 Q1 else R H3) := by
  show (if true = true then te σ H Q1 else R H)
  rw [if_pos rfl]
  exact h
theorem pdl_lcR {vs : List Nat} {B0 N : Nat} {R : Nat → Prop} (hP : StbD m g P) (hi : i ∈ vs) (hr : PDA m c g tr Γ P B0 (fun l => ∃ n : Nat, n ≤ N ∧ R n ∧ l = [dn n])) (hN : N ≤ 1000)
    (he : ∀ n k : Nat, R n → k < n → PD m c g te ((wipeC Γ vs).set i (some (dn k))) P B S) :
    PDL m c g (tLc (iRng1 tr) (gName i) tYes te vs) Γ P (B0 + N * B) (fun l => ∃ n, n ≤ N ∧ R n ∧ l.length = n ∧ ∀ d ∈ l, S d) := fun σ H n0 s p dr hn Q q =>
  hr σ H n0 s p dr (by omega) _ fun xs H1 n1 l l1 u1 t1 hl h1 => by
    obtain ⟨n, hnN, hR, rfl⟩ := hl
    have ex : xs = [.int (n : Int)] := TDs.ofLeaves (vs := [.int (n : Int)]) h1
    have hmul : n * B ≤ N * B := Nat.mul_le_mul_right B hnN
    have d1 := t1.2.2
    refine ⟨(n : Int), ex, by omega, by omega, ?_⟩
    rw [show ((n : Int)).toNat = n by omega]
    refine fun A hA => lc_range (lo := 0) (n := n) (CwD m c g H1 n1 B (fun k l => l.length = k ∧ ∀ d ∈ l, S d) A) ⟨hA, n1, [], Nat.le_refl _, by omega, (DrTo.of (Same.refl H1) d1).mut d1 hA, ⟨[], upd_same, .nil⟩, rfl, fun _ h => by cases h⟩ (fun k H' hk c => ?_) (fun H' c => ?_)
    · have e0 : (0 : Int) + (k : Int) = (k : Int) := Int.zero_add _
      show wipe ((wipe σ vs).set i (some (.int ((0 : Int) + (k : Int))))) vs = wipe σ vs ∧ tYes ((wipe σ vs).set i (some (.int ((0 : Int) + (k : Int))))) H' _
      rw [e0]
      refine ⟨wipe_set σ vs _ hi, ?_⟩
      obtain ⟨c1, n', l, c2, c3, c4, c5, c6, c7⟩ := c
      have hk1 : (k + 1) * B ≤ n * B := Nat.mul_le_mul_right B hk
      have hk2 : (k + 1) * B = k * B + B := Nat.succ_mul k B
      refine yes_go (he n k hR hk ((wipe σ vs).set i (some (.int (k : Int)))) H' n' (((s.ext (t1.1.trans c4.1)).wipe vs).set (.leaf _) i) (hP.keep (t1.trans c4).1 (t1.trans c4).2.1 p) c4.2.2 (by omega) _ fun y H4 n4 d l4 u4 t4 s4 h4 => ?_)
      have nA : A ∉ [m, g] := fun z => by
        obtain ⟨cs, gs, k1, k2, k3, k4, k5, k6, k7⟩ := d1
        rcases List.mem_cons.mp z with z | z
        · rw [z, k1] at c1; cases c1
        · rw [List.mem_singleton.mp z, k6] at c1; cases c1
      obtain ⟨acc, h6, h7⟩ := c5.but t4.1 t4.2.1 nA
      refine ⟨acc, h6, sz_lt (by rw [h7.length, c6]; omega), c1, n4, l ++ [d], by omega, by omega, (c4.trans t4).mut d1 c1, ⟨acc ++ [y], upd_same, (h7.append (.cons h4 .nil)).ext (ext_mut h6 fun _ z => nomatch z)⟩, by rw [List.length_append, c6]; rfl, fun e he => ?_⟩
      rcases List.mem_append.mp he with z | z
      · exact c7 e z
      · rw [List.mem_singleton.mp z]; exact s4
    · obtain ⟨c1, n', l, c2, c3, c4, c5, c6, c7⟩ := c
      have hA0 : H A = none := by
        cases hz : H A with
        | none => rfl
        | some o =>
          by_cases hm : A ∈ [m, g]
          · exfalso
            obtain ⟨cs, gs, k1, k2, k3, k4, k5, k6, k7⟩ := d1
            rcases List.mem_cons.mp hm with z | z
            · rw [z, k1] at c1; cases c1
            · rw [List.mem_singleton.mp z, k6] at c1; cases c1
          · have := t1.2.1 A o hm hz
            rw [c1] at this
            cases this
      exact q A H' n' l hA0 (by omega) (by omega) (t1.trans c4) ⟨n, hnN, hR, c6, c7⟩ c5
/-! statements -/
theorem s_asgD (h : PD m c g te Γ P B S) (s : Sl σ H Γ) (p : P H) (dr : DrAt H m c g n) (hn : n + B ≤ 5000) (k : ∀ σ' H' n' d, n ≤ n' → n' ≤ n + B → DrTo m c g n' H H' → S d → Sl σ' H' (Γ.set i (some d)) → D.nx σ' H') : tAsg te (gName i) D σ H :=
  h σ H n s p dr hn _ fun x H1 n1 d l1 u1 t1 s1 h1 => k _ H1 n1 d l1 u1 t1 s1 ((s.ext t1.1).set h1 i)
theorem s_asgDL (h : PDL m c g te Γ P B T) (s : Sl σ H Γ) (p : P H) (hd : DrAt H m c g n) (hn : n + B ≤ 5000) (k : ∀ a σ' H' n' l, H a = none → n ≤ n' → n' ≤ n + B → DrTo m c g n' H H' → T l → LstAt H' a l → Sl σ' H' (Γ.set i (some (dr a))) → D.nx σ' H') : tAsg te (gName i) D σ H :=
  h σ H n s p hd hn _ fun a H1 n1 l ha l1 u1 t1 s1 h1 => k a _ H1 n1 l ha l1 u1 t1 s1 h1 ((s.ext t1.1).set (.leaf _) i)
theorem s_retD (h : PD m c g te Γ P B S) (s : Sl σ H Γ) (p : P H) (dr : DrAt H m c g n) (hn : n + B ≤ 5000) (k : ∀ x H' n' d, n ≤ n' → n' ≤ n + B → DrTo m c g n' H H' → S d → TD H' x d → D.rt x H') : tRet te D σ H :=
  h σ H n s p dr hn _ k
theorem s_unpD {is : List Nat} {k : Nat} (h : PD m c g te Γ P B S) (hk : is.length = k) (hS : ∀ d, S d → ∃ l, d = .tup l ∧ l.length = k) (s : Sl σ H Γ) (p : P H) (dr : DrAt H m c g n) (hn : n + B ≤ 5000) (q : ∀ σ' H' n' l, n ≤ n' → n' ≤ n + B → DrTo m c g n' H H' → S (.tup l) → Sl σ' H' (setC Γ is l) → D.nx σ' H') : tAsg te (gTup K k (gSl is)) D σ H :=
  h σ H n s p dr hn _ fun x H1 n1 d l1 u1 t1 s1 h1 => by
    obtain ⟨l, rfl, hl⟩ := hS d s1
    exact g_tup h1 (s.ext t1.1) (hk.trans hl.symm) hl fun σ' s' => q σ' H1 n1 l l1 u1 t1 s1 s'
theorem s_ifD (h : PDT m c g tt Γ P B) (s : Sl σ H Γ) (p : P H) (dr : DrAt H m c g n) (hn : n + B ≤ 5000) (k : ∀ H' n', n ≤ n' → n' ≤ n + B → DrTo m c g n' H H' → tu D σ H') (k' : ∀ H' n', n ≤ n' → n' ≤ n + B → DrTo m c g n' H H' → tw D σ H') : tIfS tt tu tw D σ H :=
  h σ H n s p dr hn _ fun b H1 n1 l1 u1 t1 => by
    cases b with
    | true =>
      rw [if_pos rfl]
      exact k H1 n1 l1 u1 t1
    | false =>
      rw [if_neg Bool.false_ne_true]
      exact k' H1 n1 l1 u1 t1
end
end W9
set_option maxHeartbeats 4000000
/-! mixed, draw, begun, folded -/
namespace W9
open PySem PySem.Spec PyProof.Rows L2
section
variable {K : PySem.W.Frag} {Γ : Cxt} {P : Hp → Prop} {te : TE} {l : List Dt} {a : Addr}
theorem eqvL_nil (l : List Dt) : (!PyData.eqv (.list (pys l)) (.list [])) = !l.isEmpty := by
  cases l with
  | nil => simp [pys, PyData.eqv, PyData.eqvAll]
  | cons d l => simp [pys, PyData.eqv, PyData.eqvAll]
theorem pt_neL [Stb P] (h : Pu te Γ P (dr a)) (hP : ∀ H, P H → LstAt H a l) (h1 : pls l = true) (h2 : PyData.canLayAll0 (pys l) = true) (h3 : PyData.depthAll (pys l) ≤ 60) : PuT (tTest (tOp (rNe9 K) te (tLst tNil))) Γ P (!l.isEmpty) := fun σ H s p Q q =>
  h σ H s p _ fun x H1 e1 x1 => by
    cases x1.v_eq
    refine ⟨sz_n (by simp), fun r hr => ?_⟩
    have e2 := ex_new (o := .lst []) hr
    obtain ⟨xs, k1, k2⟩ := (hP H1 (Stb.ext e1 p)).ext e2
    have sh : SeqAt.shaped (.list (pys l)) = true := by
      have e1 : PyData.depth (.list (pys l)) ≤ 64 := by
        simp only [PyData.depth]
        omega
      have e2 : PyData.canLay0 (.list (pys l)) = true := by
        simp only [PyData.canLay0]
        exact h2
      show (_ && decide _) = true
      rw [e2, decide_eq_true e1]
      rfl
    refine .inr ⟨.list (pys l), .list [], .lst (SqL.of k1) (k2.dps h1), .lst (SqL.of upd_same) .nil, sh, by decide +kernel, ?_⟩
    rw [eqvL_nil]
    exact ⟨_, rfl, q _ (e1.trans e2)⟩
theorem ints_pys : ∀ l : List Int, pls (l.map di) = true ∧ PyData.canLayAll0 (pys (l.map di)) = true ∧ PyData.depthAll (pys (l.map di)) ≤ 0
  | [] => ⟨rfl, by simp [pys, PyData.canLayAll0], by simp [pys, PyData.depthAll]⟩
  | i :: l => by
    obtain ⟨h1, h2, h3⟩ := ints_pys l
    refine ⟨h1, ?_, ?_⟩
    · show PyData.canLayAll0 (Dt.py (di i) :: pys (l.map di)) = true
      simp only [PyData.canLayAll0, Dt.py, PyData.canLay0, h2, Bool.and_self]
    · show PyData.depthAll (Dt.py (di i) :: pys (l.map di)) ≤ 0
      simp only [PyData.depthAll, Dt.py, PyData.depth]
      omega
theorem LstAt.ints {H : Hp} {is : List Int} (h : LstAt H a (is.map di)) : H a = some (.lst (is.map V.int)) := by
  obtain ⟨xs, h1, h2⟩ := h
  have e : xs = is.map V.int := TDs.ofLeaves (H := H) (by rw [List.map_map]; exact h2)
  rw [h1, e]
theorem LstAt.of_ints {H : Hp} {is : List Int} (h : H a = some (.lst (is.map V.int))) : LstAt H a (is.map di) := ⟨_, h, by
  have w := TDs.leaves (H := H) (is.map V.int)
  rw [List.map_map] at w
  exact w⟩
end
theorem na_mul {i j : Int} {a b : Nat} (hi : i.natAbs < 2 ^ a) (hj : j.natAbs < 2 ^ b) : (i * j).natAbs < 2 ^ (a + b) := by
  rw [Int.natAbs_mul, Nat.pow_add]
  exact Nat.mul_lt_mul'' hi hj
theorem log_le {n a : Nat} (h : n < 2 ^ a) : n.log2 ≤ a := by
  by_cases h0 : n = 0
  · subst h0; simp
  · exact Nat.le_of_lt ((Nat.log2_lt h0).mpr h)
theorem cmw {i j : Int} {a b : Nat} (hi : i.natAbs < 2 ^ a) (hj : j.natAbs < 2 ^ b) (h : a + b < 1000000) : CMulW i j := by
  have := log_le hi
  have := log_le hj
  show _ + _ < _
  omega
theorem fm_b (x : Int) {k : Int} (h : 0 < k) : 0 ≤ x.fmod k ∧ x.fmod k < k := by
  rw [Int.fmod_eq_emod_of_nonneg _ (Int.le_of_lt h)]
  exact ⟨Int.emod_nonneg _ (by omega), Int.emod_lt_of_pos _ h⟩
theorem fm_n (x k : Nat) : (x : Int).fmod (k : Int) = ((x % k : Nat) : Int) := by
  rw [Int.fmod_eq_emod_of_nonneg _ (Int.natCast_nonneg k)]
  rfl
theorem fd_n (x k : Nat) : (x : Int).fdiv (k : Int) = ((x / k : Nat) : Int) := by
  rw [Int.fdiv_eq_ediv_of_nonneg _ (Int.natCast_nonneg k)]
  rfl
theorem fd_nn {x : Int} (h : 0 ≤ x) (k : Nat) : 0 ≤ x.fdiv (k : Int) := by
  rw [Int.fdiv_eq_ediv_of_nonneg _ (Int.natCast_nonneg k)]
  exact Int.ediv_nonneg h (Int.natCast_nonneg k)
theorem mixI_b (x : Int) (n : Nat) : 0 ≤ mixI x n ∧ mixI x n < 1000000000 := by
  unfold mixI
  have h := fm_b ((((x * (1 + 2 * (n : Int))) * 48271).fmod 2147483647 + 7919 * (n : Int) * (n : Int) + 104729 * (n : Int)) * 69621) (k := 2147483629) (by decide)
  rw [Int.fdiv_eq_ediv_of_nonneg _ (by decide)]
  omega
section
variable {K : PySem.W.Frag} {P : Hp → Prop} {i j : Int}
theorem rv_mod (h : j ≠ 0) : RV rMod9 P (di i) (di j) (di (i.fmod j)) := rv_i h
theorem rv_div (h : CDivN i j) : RV rDiv9 P (di i) (di j) (di (i.fdiv j)) := rv_i h
end
variable {K : PySem.W.Frag} {vs : List V} {H : Hp} {Q : VK} {E : XK}
theorem rd__law_mixed (h : sp__law_mixed K vs H Q E) : t__law_mixed K (Dn Q) (L2.start N__law_mixed vs) H := by
  obtain ⟨l, d, hl, ⟨x, n, rfl, h0, h1, hn, rfl⟩, q⟩ := h
  have s := sl_start (N := N__law_mixed) hl (Nat.le_of_ble_eq_true rfl)
  have a1 : x.natAbs < 2 ^ 60 := by have e : (2 : Nat) ^ 60 = 1152921504606846976 := by decide
                                    omega
  have a2 : (1 + 2 * (n : Int)).natAbs < 2 ^ 14 := by have e : (2 : Nat) ^ 14 = 16384 := by decide
                                                      omega
  have a3 : (n : Int).natAbs < 2 ^ 13 := by have e : (2 : Nat) ^ 13 = 8192 := by decide
                                            omega
  have a4 := na_mul a1 a2
  have a5 := na_mul (i := 7919) (a := 13) (by decide) a3
  have a6 := na_mul (i := 104729) (a := 17) (by decide) a3
  have a7 := na_mul a5 a3
  have b1 := fm_b ((x * (1 + 2 * (n : Int))) * 48271) (k := 2147483647) (by decide)
  have a8 : (((x * (1 + 2 * (n : Int))) * 48271).fmod 2147483647 + 7919 * (n : Int) * (n : Int) + 104729 * (n : Int)).natAbs < 2 ^ 45 := by
    have e : (2 : Nat) ^ 45 = 35184372088832 := by decide
    have e1 : (2 : Nat) ^ (13 + 13 + 13) = 549755813888 := by decide
    have e2 : (2 : Nat) ^ (17 + 13) = 1073741824 := by decide
    rw [e1] at a7
    rw [e2] at a6
    omega
  refine s_seq (s_asg (P := fun _ => True) (pu_op (pu_op (pu_op (pu_cb (pa_c (pu_op (pu_op (pu_var rfl) (pu_op pu_c (pu_op pu_c (pu_var rfl) (rv_mul (cmw (a := 2) (by decide) a3 (by decide)))) rv_add) (rv_mul (cmw a1 a2 (by decide)))) pu_c (rv_mul (cmw (b := 16) a4 (by decide) (by decide)))) pa_n) rc_int) pu_c (rv_mod (by decide)))
    (pu_op (pu_op pu_c (pu_var rfl) (rv_mul (cmw (a := 13) (by decide) a3 (by decide)))) (pu_var rfl) (rv_mul (cmw a5 a3 (by decide)))) rv_add) (pu_op pu_c (pu_var rfl) (rv_mul (cmw (a := 17) (by decide) a3 (by decide)))) rv_add) s trivial fun σ1 H1 e1 s1 => ?_)
  exact s_ret (P := fun _ => True) (pu_op (pu_op (pu_cb (pa_c (pu_op (pu_var rfl) pu_c (rv_mul (cmw (b := 17) a8 (by decide) (by decide)))) pa_n) rc_int) pu_c (rv_mod (by decide))) pu_c (rv_div ⟨by decide, by decide⟩)) s1 trivial fun x H2 e2 h2 => q x H2 (e1.trans e2) h2
def drK (c g : Addr) (n : Nat) : List (Key × V) := [(.inr "cells", .ref c), (.inr "great", .ref g), (.inr "spot", .int (n : Int))]
theorem rd__law_draw (h : sp__law_draw K vs H Q E) : t__law_draw K (Dn Q) (L2.start N__law_draw vs) H := by
  obtain ⟨m, c, g, n, lim, rfl, ⟨cs, gs, hm, hcg, hc, hcl, hcb, hg, hgb⟩, hn, l1, l64, q⟩ := h
  have s := sl_start (N := N__law_draw) (l := [dr m, dn lim]) (vs := [.ref m, .int (lim : Int)]) (H := H) (.cons (.leaf _) (.cons (.leaf _) .nil)) (Nat.le_of_ble_eq_true rfl)
  have ncm : c ≠ m := fun z => by rw [z, hm] at hc; cases hc
  have ngm : g ≠ m := fun z => by rw [z, hm] at hg; cases hg
  let R : Nat → Hp → Prop := fun n H' => H' m = some (.dK (drK c g n)) ∧ H' c = some (.lst (cs.map V.int)) ∧ H' g = some (.lst (gs.map V.int))
  have stR : ∀ n, Stb (R n) := fun n => inferInstanceAs (Stb fun H' : Hp => H' m = some (.dK (drK c g n)) ∧ H' c = some (.lst (cs.map V.int)) ∧ H' g = some (.lst (gs.map V.int)))
  have gC : ∀ {te : TE} {Γ : Cxt} n, Pu te Γ (R n) (dr m) → Pu (tDGet te (tC (.str "cells"))) Γ (R n) (dr c) := fun n h => by
    haveI := stR n
    exact pu_dget h fun H p => ⟨_, .ref c, p.1, rfl, .leaf _⟩
  have gG : ∀ {te : TE} {Γ : Cxt} n, Pu te Γ (R n) (dr m) → Pu (tDGet te (tC (.str "great"))) Γ (R n) (dr g) := fun n h => by
    haveI := stR n
    exact pu_dget h fun H p => ⟨_, .ref g, p.1, rfl, .leaf _⟩
  have gN : ∀ {te : TE} {Γ : Cxt} n, Pu te Γ (R n) (dr m) → Pu (tDGet te (tC (.str "spot"))) Γ (R n) (dn n) := fun n h => by
    haveI := stR n
    exact pu_dget h fun H p => ⟨_, .int (n : Int), p.1, rfl, .leaf _⟩
  haveI := stR n
  haveI := stR (n + 1)
  refine s_seq (s_asg (P := R n) (gN n (pu_var rfl)) s ⟨hm, hc, hg⟩ fun σ1 H1 e1 s1 => ?_)
  have p1 : R n H1 := Stb.ext e1 ⟨hm, hc, hg⟩
  refine s_seq (s_dput (P := R n) (kvs := drK c g n) (pu_op (pu_var rfl) pu_c rv_add) (pu_var rfl) s1 p1 (fun _ p => p.1) (by show 3 < 100; decide) fun v H2 t2 b2 hd hv => ?_)
  have p2 : R (n + 1) H2 := by
    refine ⟨?_, b2 _ _ ncm p1.2.1, b2 _ _ ngm p1.2.2⟩
    rw [hd, hv.v_eq]
    rfl
  have s2 := s1.ext t2
  have t02 : ExT H H2 := e1.t.trans t2
  have b02 : ExS [m, g] H H2 := (ExS.of e1).trans (ExS.ofB b2 (by simp))
  have hgl : LstAt H2 g (gs.map di) := .of_ints p2.2.2
  -- behind the great ones
  have rest : ∀ (σ' : L2.St) (H' : Hp), Ex H2 H' → Sl σ' H' [some (dr m), some (dn lim), some (dn n), none, none, none] →
      tSeq (tAsg (tDGet (tVar 0) (tC (.str "cells"))) (gName 3))
        (tRet (tOp rMod9 (tCB rInt9 (tCons (tCall (sp__law_mixed K) [] E0 (tCons (tCall (sp__law_mixed K) [] E0 (tCons (tOp (rAdd9 K) (tOp (rIx K) (tVar 3) (tOp rMod9 (tCB rInt9 (tCons (tVar 2) tNil)) (tC (.int 64)))) (tOp (rMul9 K) (tC (.int 31)) (tOp rDiv9 (tVar 2) (tC (.int 64))))) (tCons (tVar 2) tNil))) (tCons (tOp (rAdd9 K) (tVar 2) (tC (.int 7))) tNil))) tNil)) (tVar 1))) (Dn Q) σ' H' := by
    intro σ' H' e' s'
    have p' : R (n + 1) H' := Stb.ext e' p2
    refine s_seq (s_asg (P := R (n + 1)) (gC (n + 1) (pu_var rfl)) s' p' fun σ3 H3 e3 s3 => ?_)
    have hi : n % 64 < cs.length := by rw [hcl]; exact Nat.mod_lt _ (by decide)
    have hx := hcb _ (List.getElem_mem hi)
    have e7 : (n : Int) + 7 = ((n + 7 : Nat) : Int) := by omega
    have em : (n : Int).fmod 64 = ((n % 64 : Nat) : Int) := fm_n n 64
    have ed : (n : Int).fdiv 64 = ((n / 64 : Nat) : Int) := fd_n n 64
    have c13 : ((n : Int).fdiv 64).natAbs < 2 ^ 13 := by
      rw [ed]
      have e : (2 : Nat) ^ 13 = 8192 := by decide
      omega
    have cm : CMulW 31 ((n : Int).fdiv 64) := cmw (a := 5) (b := 13) (by decide) c13 (by decide)
    have hat : atI (cs.map di) ((n : Int).fmod 64) = some (di cs[n % 64]) := by
      rw [em]
      refine atI_n ?_
      rw [List.getElem?_map, List.getElem?_eq_getElem hi]
      rfl
    have hb := mixI_b (cs[n % 64] + 31 * (n : Int).fdiv 64) n
    have hv := fm_b (mixI (mixI (cs[n % 64] + 31 * (n : Int).fdiv 64) n) (n + 7)) (k := (lim : Int)) (by omega)
    refine s_ret (P := R (n + 1)) (pu_op (pu_cb (pa_c (pu_call (pa_c (pu_call (pa_c (pu_op (pu_op (pu_var rfl) (pu_op (pu_cb (pa_c (pu_var rfl) pa_n) rc_int) pu_c (rv_mod (by decide))) (rv_ixL (fun H (p : R (n + 1) H) => .of_ints p.2.1) hat)) (pu_op pu_c (pu_op (pu_var rfl) pu_c (rv_div ⟨by decide, by decide⟩)) (rv_mul cm)) rv_add) (pa_c (pu_var rfl) pa_n))
      ⟨_, n, rfl, by rw [ed]; omega, by rw [ed]; omega, by omega, rfl⟩) (pa_c (Pu.is (pu_op (pu_var rfl) pu_c rv_add) (congrArg di e7)) pa_n)) ⟨_, n + 7, rfl, hb.1, by omega, by omega, rfl⟩) pa_n) rc_int) (pu_var rfl) (rv_mod (by omega))) s3 (Stb.ext e3 p') fun x H4 e4 h4 => ?_
    rw [h4.v_eq]
    obtain ⟨r, hr⟩ := Int.eq_ofNat_of_zero_le hv.1
    rw [hr]
    have e24 : Ex H2 H4 := (e'.trans e3).trans e4
    have p4 : R (n + 1) H4 := Stb.ext e24 p2
    exact q H4 r (by omega) ⟨t02.trans e24.t, b02.trans (ExS.of e24), cs, gs, p4.1, hcg, p4.2.1, hcl, hcb, p4.2.2, hgb⟩
  refine s_seq (s_if (P := R (n + 1)) (pt_neL (gG (n + 1) (pu_var rfl)) (fun _ p => .of_ints p.2.2) (ints_pys gs).1 (ints_pys gs).2.1 (Nat.le_trans (ints_pys gs).2.2 (by decide))) s2 p2 (fun hne H3 e3 => ?_) (fun _ H3 e3 => s_next (rest _ _ e3 ((s2.ext e3.t).lessL ⟨rfl, rfl, rfl, trivial⟩))))
  have p3 : R (n + 1) H3 := Stb.ext e3 p2
  refine s_seq (s_asg (P := R (n + 1)) (gG (n + 1) (pu_var rfl)) (s2.ext e3.t) p3 fun σ4 H4 e4 s4 => ?_)
  have p4 : R (n + 1) H4 := Stb.ext e4 p3
  have hgl0 : 0 < gs.length := by
    cases gs with
    | nil => cases hne
    | cons x r => simp
  have hlen : (((gs.map di).length : Nat) : Int) ≠ 0 := by rw [List.length_map]; omega
  refine s_seq (s_asg (P := R (n + 1)) (pu_op (pu_cb (pa_c (pu_var rfl) pa_n) rc_int) (pu_cb (pa_c (pu_var rfl) pa_n) (rc_lenL fun _ p => .of_ints p.2.2)) (rv_mod hlen)) s4 p4 fun σ5 H5 e5 s5 => ?_)
  have p5 : R (n + 1) H5 := Stb.ext e5 p4
  rw [List.length_map, fm_n] at s5
  have hi : n % gs.length < gs.length := Nat.mod_lt _ hgl0
  have hx := hgb _ (List.getElem_mem hi)
  have hat : atI (gs.map di) ((n % gs.length : Nat) : Int) = some (di gs[n % gs.length]) := by
    refine atI_n ?_
    rw [List.getElem?_map, List.getElem?_eq_getElem hi]
    rfl
  refine s_seq (s_asg (P := R (n + 1)) (pu_op (pu_var rfl) (pu_var rfl) (rv_ixL (fun H (p : R (n + 1) H) => .of_ints p.2.2) hat)) s5 p5 fun σ6 H6 e6 s6 => ?_)
  have p6 : R (n + 1) H6 := Stb.ext e6 p5
  have e26 : Ex H2 H6 := ((e3.trans e4).trans e5).trans e6
  refine s_if (P := R (n + 1)) (pt_test (pu_op (pu_var rfl) pu_c rv_i0)) s6 p6 (fun hpos H7 e7 => ?_) (fun _ H7 e7 => s_next (rest _ _ (e26.trans e7) ((s6.ext e7.t).lessL ⟨rfl, rfl, rfl, trivial⟩)))
  have p7 : R (n + 1) H7 := Stb.ext e7 p6
  have hnz : (lim : Int) ≠ 0 := by omega
  refine s_seq (s_setL (P := R (n + 1)) (i := n % gs.length) (l := gs.map di) (d := di ((gs[n % gs.length]).fdiv (lim : Int))) (pu_op (pu_var rfl) (pu_var rfl) (rv_div ⟨hnz, by omega⟩)) (pu_var rfl) (pu_var rfl) (s6.ext e7.t) p7 (fun _ p => .of_ints p.2.2) (by rw [List.length_map]; exact hi) fun H8 t8 b8 l8 => ?_)
  have p8 : H8 m = some (.dK (drK c g (n + 1))) ∧ H8 c = some (.lst (cs.map V.int)) := ⟨b8 _ _ (fun z => ngm z.symm) p7.1, b8 _ _ hcg p7.2.1⟩
  have hv := fm_b (gs[n % gs.length]) (k := (lim : Int)) (by omega)
  refine s_ret (P := fun _ => True) (pu_op (pu_cb (pa_c (pu_var rfl) pa_n) rc_int) (pu_var rfl) (rv_mod hnz)) ((s6.ext e7.t).ext t8) trivial fun x H9 e9 h9 => ?_
  rw [h9.v_eq]
  obtain ⟨r, hr⟩ := Int.eq_ofNat_of_zero_le hv.1
  rw [hr]
  have l9 : H9 g = some (.lst ((gs.set (n % gs.length) ((gs[n % gs.length]).fdiv (lim : Int))).map V.int)) := by
    refine LstAt.ints ?_
    rw [List.map_set]
    exact l8.ext e9
  refine q H9 r (by omega) ⟨((t02.trans (Ex.t (e26.trans e7))).trans t8).trans e9.t, ((b02.trans (ExS.of (e26.trans e7))).trans (ExS.ofB b8 (by simp))).trans (ExS.of e9), cs, _, e9 _ _ p8.1, hcg, e9 _ _ p8.2, hcl, hcb, l9, fun y hy => ?_⟩
  rcases List.mem_or_eq_of_mem_set hy with z | z
  · exact hgb y z
  · rw [z]
    exact fd_nn hx lim
end W9
set_option maxHeartbeats 4000000
/-! folded, begun, like, both_lots, records -/
namespace W9
open PySem PySem.Spec PyProof.Rows L2
theorem sqL_ex {K : PySem.W.Frag} {H H' : Hp} {a : Addr} {xs : List V} (e : Ex H H') (h : SqL K H a xs) : SqL K H' a xs := by
  rcases h with (h | ⟨o, h⟩) | h
  · exact .inl (.inl (e a _ h))
  · exact .inl (.inr ⟨o, e a _ h⟩)
  · exact .inr h
instance {K : PySem.W.Frag} {a : Addr} {xs : List V} : Stb (fun H => SqL K H a xs) := ⟨fun e h => sqL_ex e h⟩
theorem map_range_getD {α β : Type} (l : List α) (z : α) (f : α → β) : (List.range l.length).map (fun i => f (l.getD i z)) = l.map f := by
  refine List.ext_getElem? fun i => ?_
  rw [List.getElem?_map, List.getElem?_map]
  by_cases h : i < l.length
  · rw [List.getElem?_range h, getD_get h z]
    rfl
  · rw [List.getElem?_eq_none (by rw [List.length_range]; omega), List.getElem?_eq_none (by omega)]
    rfl
section
variable {Γ : Cxt} {P : Hp → Prop} {ta tb te tl : TE} {t : TT} {d e : Dt} {l : List Dt} {tr : TA} {D : Ends} {σ : L2.St} {H : Hp} {tu tw : TS} {i : Nat} {K : PySem.W.Frag} {g : TG}
theorem s_forEnL {a : Addr} {xs : List V} (h : PuA tr Γ P [dr a]) (hx : ∀ H, P H → SqL K H a xs) [Stb P] (s : Sl σ H Γ) (p : P H) (J : Nat → L2.St → Hp → Prop) (h0 : ∀ H1, Ex H H1 → J 0 σ H1) (hl : ∀ i σ' H', J i σ' H' → SqL K H' a xs)
    (hs : ∀ (i : Nat) x σ' H' H'', xs[i]? = some x → J i σ' H' → Ex H' H'' → ∀ T, TD H'' T (.tup [di (i : Int), .v x]) → g T σ' H'' fun σ2 H2 => tu { D with nx := J (i + 1), ct := J (i + 1), bk := D.nx } σ2 H2)
    (hd : ∀ σ' H', J xs.length σ' H' → D.nx σ' H') : tFor (iEnum K tr) g tu D σ H :=
  h σ H s p _ fun vs H1 e1 h1 => by
    have ex : vs = [.ref a] := TDs.ofLeaves (vs := [.ref a]) h1
    refine ⟨a, xs, ex, hx H1 (Stb.ext e1 p), for_it walk_enum J (h0 H1 e1) (fun i σ' H' _ q => hl i σ' H' q) (fun i x σ' H' H'' hi q y => ?_) hd⟩
    obtain ⟨T, x1, y1, rfl, hT, rfl, hx1, hy⟩ := y
    cases hx1
    exact hs i y1 σ' H' _ hy q (ex_new hT) _ (.tup upd_same (.cons (.leaf _) (.cons (.leaf _) .nil)))
/-- over a list of leaves -/
theorem pl_lcS [Stb P] {vs : List Nat} {a : Addr} {xs : List V} (f : Nat → Bool) (v : Nat → Dt) (hi : i ∈ vs) (h : Pu tl Γ P (dr a)) (hP : ∀ H, P H → SqL K H a xs) (hz : xs.length ≤ 40000)
    (ht : ∀ (k : Nat) x, xs[k]? = some x → PuT t ((wipeC Γ vs).set i (some (.v x))) P (f k)) (he : ∀ (k : Nat) x, xs[k]? = some x → f k = true → Pu te ((wipeC Γ vs).set i (some (.v x))) P (v k)) :
    PuL (tLc (iList K tl) (gName i) t te vs) Γ P (giv xs.length f v) := fun σ H s p Q q =>
  h σ H s p _ fun x H1 e1 h1 => by
    have ha := hP H1 (Stb.ext e1 p)
    exact ⟨a, h1.v_eq, ⟨xs, ha⟩, fun A hA => lc_list (xs := xs) (Cw H1 f v A) (cw_0 hA) (fun k H' _ c => sqL_ex c.2.1 ha) (fun k y H' hy c => ⟨wipe_set σ vs _ hi, cw_turn c (Stb.ext e1 p) (((s.ext (Ex.t (e1.trans c.2.1))).wipe vs).set (.leaf _) i) (by have := (List.getElem?_eq_some_iff.mp hy).1; omega) (ht k y hy) (he k y hy)⟩) (fun H' c => q A H' (e1.free c.1) (e1.trans c.2.1) c.2.2)⟩
end
theorem rvp {P : Hp → Prop} : RV rPow9 P (di 10) (di 18) (di 1000000000000000000) := by
  have ep : (10 : Int) ^ ((18 : Int).toNat) = 1000000000000000000 := by decide
  have z : RV rPow9 P (di 10) (di 18) (di ((10 : Int) ^ ((18 : Int).toNat))) := rv_i ⟨by decide, by decide, by decide⟩
  rw [ep] at z
  exact z
variable {K : PySem.W.Frag} {vs : List V} {H : Hp} {Q : VK} {E : XK}
theorem rd__law_folded (h : sp__law_folded K vs H Q E) : t__law_folded K (Dn Q) (L2.start N__law_folded vs) H := by
  obtain ⟨a, ns, rfl, ha, hn, q⟩ := h
  have s := sl_start (N := N__law_folded) (l := [dr a]) (vs := [.ref a]) (H := H) (.cons (.leaf _) .nil) (Nat.le_of_ble_eq_true rfl)
  have c1 : giv 64 (fun _ => true) (fun k => di (17 + (k : Int))) = (((List.range 64).map fun k : Nat => 17 + (k : Int)).map di) := by
    rw [giv_all, List.map_map]
    rfl
  refine s_seq (s_asgL (P := fun _ => True) (PuL.is (pl_lcR (n := 64) (fun _ => true) (fun k => di (17 + (k : Int))) (by decide) (pa_c pu_c pa_n) (by decide) (fun k hk => pt_yes) (fun k hk _ => pu_op pu_c (pu_var rfl) rv_add)) c1) s trivial fun p σ1 H1 hp e1 l1 s1 => ?_)
  let B : List Int → Prop := fun cs => cs.length = 64 ∧ ∀ x ∈ cs, 0 ≤ x ∧ x < 2147483647
  have b1 : B ((List.range 64).map fun k : Nat => 17 + (k : Int)) := by
    refine ⟨by rw [List.length_map, List.length_range], fun x hx => ?_⟩
    obtain ⟨k, hk, rfl⟩ := List.mem_map.mp hx
    have := List.mem_range.mp hk
    omega
  have bset : ∀ (cs : List Int) i x, B cs → B (cs.set i (Int.fmod x 2147483647)) := fun cs i x b => by
    refine ⟨by rw [List.length_set]; exact b.1, fun y hy => ?_⟩
    rcases List.mem_or_eq_of_mem_set hy with z | z
    · exact b.2 y z
    · rw [z]
      exact fm_b x (by decide)
  have at_ : ∀ (cs : List Int) (k : Nat), B cs → (hk : k < 64) → atI (cs.map di) (k : Int) = some (di (cs.getD k 0)) ∧ 0 ≤ cs.getD k 0 ∧ cs.getD k 0 < 2147483647 := fun cs k b hk => by
    have hk' : k < cs.length := by rw [b.1]; exact hk
    exact ⟨atI_map hk' 0, b.2 _ (getD_lt hk' 0)⟩
  have na : ∀ x : Int, 0 ≤ x ∧ x < 2147483647 → x.natAbs < 2 ^ 31 := fun x hx => by
    have e : (2 : Nat) ^ 31 = 2147483648 := by decide
    omega
  let G : Cxt := [some (dr a), none, some (dr p), none]
  let J : Nat → L2.St → Hp → Prop := fun i σ' H' => Sl σ' H' G ∧ Ex H H' ∧ ∃ cs, B cs ∧ LstAt H' p (cs.map di)
  refine s_seq (s_forEnL (P := fun H' => Ex H H') (a := a) (xs := ns.map V.int) (g := gTup K 2 (gSl [1, 3])) (pa_c (pu_var rfl) pa_n) (fun H' e => sqL_ex e ha) s1 e1 J ?_ (fun i σ' H' j => sqL_ex j.2.1 ha) ?_ ?_)
  · exact fun H2 e2 => ⟨(s1.ext e2.t).lessL ⟨rfl, rfl, trivial⟩, e1.trans e2, _, b1, l1.ext e2⟩
  · intro i x σ' H' H'' hx hJ e2 T hT
    obtain ⟨sJ, eJ, cs, bJ, lJ⟩ := hJ
    have hi : i < 64 := by
      have := (List.getElem?_eq_some_iff.mp hx).1
      rw [List.length_map] at this
      omega
    rw [List.getElem?_map] at hx
    cases hx0 : ns[i]? with
    | none => rw [hx0] at hx; cases hx
    | some y =>
      rw [hx0] at hx
      cases hx
      refine g_tup (l := [di (i : Int), di y]) hT (sJ.ext e2.t) rfl rfl fun σ3 s3 => ?_
      have em : (i : Int).fmod 64 = ((i % 64 : Nat) : Int) := fm_n i 64
      have hm : i % 64 < 64 := Nat.mod_lt _ (by decide)
      obtain ⟨k1, k2⟩ := at_ cs (i % 64) bJ hm
      have ix : ∀ {P : Hp → Prop} [Stb P], Pu (tOp rMod9 (tCB rInt9 (tCons (tVar 1) tNil)) (tC (.int 64))) [some (dr a), some (di (i : Int)), some (dr p), some (di y)] P (di ((i % 64 : Nat) : Int)) := fun {P} _ =>
        Pu.is (pu_op (pu_cb (pa_c (pu_var rfl) pa_n) rc_int) pu_c (rv_mod (by decide))) (congrArg di em)
      refine s_setL (P := fun H' => LstAt H' p (cs.map di)) (i := i % 64) (d := di (Int.fmod (cs.getD (i % 64) 0 * 48271 + y) 2147483647)) (pu_op (pu_cb (pa_c (pu_op (pu_op (pu_op (pu_var rfl) ix (rv_ixL (fun _ h => h) k1)) pu_c (rv_mul (cmw (b := 16) (na _ k2) (by decide) (by decide)))) (pu_var rfl) rv_add) pa_n) rc_int) pu_c (rv_mod (by decide)))
        (pu_var rfl) ix s3 (lJ.ext e2) (fun _ h => h) (by rw [List.length_map, bJ.1]; exact hm) fun H3 x3 b3 l3 => ?_
      refine ⟨(s3.ext x3).lessL ⟨rfl, rfl, trivial⟩, b3.ex hp (eJ.trans e2), _, bset cs (i % 64) (cs.getD (i % 64) 0 * 48271 + y) bJ, ?_⟩
      rw [List.map_set]
      exact l3
  intro σ2 H2 hJ
  obtain ⟨s2, e2, cs2, b2, l2⟩ := hJ
  let J2 : Nat → L2.St → Hp → Prop := fun i σ' H' => Sl σ' H' G ∧ Ex H H' ∧ ∃ cs, B cs ∧ LstAt H' p (cs.map di)
  refine s_seq (s_forR2 (P := fun _ => True) (lo := 1) (n := 64) (pa_c pu_c (pa_c pu_c pa_n)) (by decide) s2 trivial J2 ?_ ?_ ?_)
  · exact fun H3 e3 => ⟨s2.ext e3.t, e2.trans e3, cs2, b2, l2.ext e3⟩
  · intro k σ' H' hk hJ
    obtain ⟨sJ, eJ, cs, bJ, lJ⟩ := hJ
    have s3 := sJ.set (x := .int ((1 + k : Nat) : Int)) (d := dn (1 + k)) (.leaf _) 1
    obtain ⟨k1, k2⟩ := at_ cs (1 + k) bJ hk
    obtain ⟨k3, k4⟩ := at_ cs k bJ (by omega)
    have es : ((1 + k : Nat) : Int) - 1 = (k : Int) := by omega
    have ix : ∀ {P : Hp → Prop} [Stb P], Pu (tOp rSub9 (tVar 1) (tC (.int 1))) [some (dr a), some (dn (1 + k)), some (dr p), none] P (di (k : Int)) := fun {P} _ => Pu.is (pu_op (pu_var rfl) pu_c rv_i0) (congrArg di es)
    refine s_setL (P := fun H' => LstAt H' p (cs.map di)) (i := 1 + k) (d := di (Int.fmod (cs.getD (1 + k) 0 + cs.getD k 0 * 16807) 2147483647)) (pu_op (pu_cb (pa_c (pu_op (pu_op (pu_var rfl) (pu_var rfl) (rv_ixL (fun _ h => h) k1)) (pu_op (pu_op (pu_var rfl) ix (rv_ixL (fun _ h => h) k3)) pu_c (rv_mul (cmw (b := 15) (na _ k4) (by decide) (by decide)))) rv_add) pa_n) rc_int) pu_c (rv_mod (by decide)))
      (pu_var rfl) (pu_var rfl) s3 lJ (fun _ h => h) (by rw [List.length_map, bJ.1]; exact hk) fun H3 x3 b3 l3 => ?_
    refine ⟨(s3.ext x3).lessL ⟨rfl, rfl, trivial⟩, b3.ex hp eJ, _, bset cs (1 + k) (cs.getD (1 + k) 0 + cs.getD k 0 * 16807) bJ, ?_⟩
    rw [List.map_set]
    exact l3
  intro σ3 H3 hJ
  obtain ⟨s3, e3, cs3, b3, l3⟩ := hJ
  refine s_ret (P := fun _ => True) (pu_var rfl) s3 trivial fun x H4 e4 h4 => ?_
  cases h4.v_eq
  exact q p H4 cs3 hp (e3.trans e4) (l3.ext e4).ints b3.1 b3.2
theorem rd__law_begun (h : sp__law_begun K vs H Q E) : t__law_begun K (Dn Q) (L2.start N__law_begun vs) H := by
  obtain ⟨a, ns, rfl, ha, hn, q⟩ := h
  have s := sl_start (N := N__law_begun) (l := [dr a]) (vs := [.ref a]) (H := H) (.cons (.leaf _) .nil) (Nat.le_of_ble_eq_true rfl)
  refine s_seq fun m hm => ?_
  have e0 : Ex H (upd H m (.dK [])) := ex_new hm
  refine ⟨.ref a, rfl, a, ns, rfl, sqL_ex e0 ha, hn, fun c H1 cs hc e1 hcs hcl hcb => ?_⟩
  refine ⟨sz_n (by simp), fun g0 hg0 => ?_⟩
  have e2 : Ex H1 (upd H1 g0 (.lst [])) := ex_new hg0
  have hm2 : (upd H1 g0 (.lst [])) m = some (.dK []) := e2 _ _ (e1 _ _ upd_same)
  refine ⟨hm2, [(.inr "cells", .ref c), (.inr "great", .ref g0), (.inr "spot", .int 0)], rfl, by show 3 ≤ 15; decide, ?_⟩
  have hmc : m ≠ c := fun z => by rw [← z, upd_same] at hc; cases hc
  have hmg : m ≠ g0 := fun z => by rw [← z, e1 _ _ upd_same] at hg0; cases hg0
  have hc0 : H c = none := e0.free hc
  have hg00 : H g0 = none := e0.free (e1.free hg0)
  have eAll : Ex H (upd (upd H1 g0 (.lst [])) m (.dK (mergeK [] [(.inr "cells", .ref c), (.inr "great", .ref g0), (.inr "spot", .int 0)]))) := ex_mut ((e0.trans e1).trans e2) hm
  have hc3 : (upd (upd H1 g0 (.lst [])) m (.dK (mergeK [] [(.inr "cells", .ref c), (.inr "great", .ref g0), (.inr "spot", .int 0)]))) c = some (.lst (cs.map V.int)) := by
    rw [upd_ne (fun z => hmc z.symm)]
    exact e2 _ _ hcs
  have hm3 : (upd (upd H1 g0 (.lst [])) m (.dK (mergeK [] [(.inr "cells", .ref c), (.inr "great", .ref g0), (.inr "spot", .int 0)]))) m = some (.dK [(.inr "cells", .ref c), (.inr "great", .ref g0), (.inr "spot", .int 0)]) := by
    rw [upd_same]
    rfl
  revert eAll hc3 hm3
  generalize (upd (upd H1 g0 (.lst [])) m (.dK (mergeK [] [(.inr "cells", .ref c), (.inr "great", .ref g0), (.inr "spot", .int 0)]))) = H3
  intro e3 hc3 hm3
  have s3 : Sl ((L2.start N__law_begun [.ref a]).set 1 (some (.ref m))) H3 [some (dr a), some (dr m), none] := (s.ext e3.t).set (d := dr m) (.leaf _) 1
  let f : Int → Int := fun x => if x ≥ 1000000000000000000 then x else 0
  have c1 : giv (ns.map V.int).length (fun _ => true) (fun k => di (f (ns.getD k 0))) = (ns.map f).map di := by
    rw [giv_all, List.length_map, List.map_map]
    exact map_range_getD ns 0 (fun x => di (f x))
  refine s_seq (s_dputL (P := fun H' => Ex H H' ∧ H' m = some (.dK [(.inr "cells", .ref c), (.inr "great", .ref g0), (.inr "spot", .int 0)])) (kvs := [(.inr "cells", .ref c), (.inr "great", .ref g0), (.inr "spot", .int 0)])
    (PuL.is (pl_lcS (a := a) (xs := ns.map V.int) (fun _ => true) (fun k => di (f (ns.getD k 0))) (by decide) (pu_var rfl) (fun _ p => sqL_ex p.1 ha) (by rw [List.length_map]; omega) (fun _ _ _ => pt_yes) (fun k x hx _ => ?_)) c1)
    (pu_var rfl) s3 ⟨e3, hm3⟩ (fun _ p => p.2) (by show 3 < 100; decide) fun g H4 hg x4 b4 hm4 l4 => ?_)
  · rw [List.getElem?_map] at hx
    cases hx0 : ns[k]? with
    | none => rw [hx0] at hx; cases hx
    | some y =>
      rw [hx0] at hx
      cases hx
      have ey : ns.getD k 0 = y := by simp [List.getD, hx0]
      rw [ey]
      refine Pu.is (pu_if (b := decide (y ≥ 1000000000000000000)) (d := di (f y)) (pt_test (pu_op (pu_var rfl) (pu_op pu_c pu_c rvp) rv_i0)) (fun hb => ?_) (fun hb => ?_)) rfl
      · have hb' := of_decide_eq_true hb
        exact Pu.is (pu_var rfl) (congrArg di (by show y = if y ≥ 1000000000000000000 then y else 0; rw [if_pos hb']))
      · have hb' := of_decide_eq_false hb
        exact Pu.is pu_c (congrArg di (by show (0 : Int) = if y ≥ 1000000000000000000 then y else 0; rw [if_neg hb']))
  have e4 : Ex H H4 := b4.ex hm e3
  refine s_ret (P := fun _ => True) (pu_var rfl) (s3.ext x4) trivial fun x H5 e5 h5 => ?_
  cases h5.v_eq
  have hc4 : H4 c = some (.lst (cs.map V.int)) := b4 _ _ (fun z => hmc z.symm) hc3
  have ncg : c ≠ g := fun z => by rw [← z, hc3] at hg; cases hg
  refine q m c g H5 hm hc0 (e3.free hg) (e4.trans e5) ⟨cs, ns.map f, e5 _ _ (by rw [hm4]; rfl), ncg, e5 _ _ hc4, hcl, hcb, (l4.ext e5).ints, fun x hx => ?_⟩
  obtain ⟨y, _, rfl⟩ := List.mem_map.mp hx
  show (0 : Int) ≤ if y ≥ 1000000000000000000 then y else 0
  split <;> omega
theorem rd__law_like (h : sp__law_like K vs H Q E) : t__law_like K (Dn Q) (L2.start N__law_like vs) H := by
  obtain ⟨x, y, d, rfl, dx, dy, ok, hk, q⟩ := h
  refine ⟨x, rfl, x, d, rfl, dx, ok, ?_, y, rfl, y, d, rfl, dy, ok, ?_, ?_⟩
  · rcases hk with h | h | h
    · exact .inl h
    · exact .inr (.inl h)
    · exact .inr (.inr h.1)
  · rcases hk with h | h | h
    · exact .inl h
    · exact .inr (.inl h)
    · exact .inr (.inr h.2)
  · refine rv_eqS (P := fun _ => True) H (.str d.shown) (.str d.shown) trivial (.leaf _) (.leaf _) _ fun z H' e h => ?_
    cases h.v_eq
    rw [decide_eq_true rfl]
    exact q H' e
theorem rd__law_begin_house (h : sp__law_begin_house K vs H Q E) : t__law_begin_house K (Dn Q) (L2.start N__law_begin_house vs) H := by
  obtain ⟨xk, k, m, rfl, hk, q⟩ := h
  intro p hp
  have e0 : Ex H (upd H p (.dK [])) := ex_new hp
  refine ⟨xk, rfl, .int (m : Int), rfl, sz_n (by simp), fun t1 ht1 => ?_⟩
  have e1 := ex_new (o := .tup []) ht1
  refine ⟨sz_n (by simp), fun t2 ht2 => ?_⟩
  have e2 := ex_new (o := .tup []) ht2
  have n1 : t1 ≠ p := fun z => by rw [z, upd_same] at ht1; cases ht1
  refine ⟨e2 _ _ (e1 _ _ upd_same), [(.inr "kind", xk), (.inr "many", .int (m : Int)), (.inr "past", .ref t1), (.inr "later", .ref t2)], rfl, by show 4 ≤ 15; decide, ?_⟩
  have n2 : t2 ≠ p := fun z => by rw [z, e1 _ _ upd_same] at ht2; cases ht2
  refine q p _ hp (ex_mut ((e0.trans e1).trans e2) hp) ⟨xk, .ref t1, .ref t2, by rw [upd_same]; rfl, hk.ext (Ex.t (ex_mut ((e0.trans e1).trans e2) hp)), .tup (xs := []) ?_ .nil, .tup (xs := []) ?_ .nil⟩
  · rw [upd_ne n1]
    exact e2 _ _ upd_same
  · rw [upd_ne n2]
    exact upd_same
theorem rd__law_twin_of (h : sp__law_twin_of K vs H Q E) : t__law_twin_of K (Dn Q) (L2.start N__law_twin_of vs) H := by
  obtain ⟨o, h, rfl, ho, q⟩ := h
  obtain ⟨xk, xp, xl, h1, h2, h3, h4⟩ := ho
  refine ⟨.ref o, rfl, o, _, rfl, .inl h1, fun p hp => ?_⟩
  have e := ex_new (o := .dK [(.inr "kind", xk), (.inr "many", .int (h.m : Int)), (.inr "past", xp), (.inr "later", xl)]) hp
  exact q p _ hp e ⟨xk, xp, xl, upd_same, h2.ext e.t, h3.ext e.t, h4.ext e.t⟩
end W9
set_option maxHeartbeats 4000000
/-! both_lots, gone_back, gone_on, run, split_of -/
namespace W9
open PySem PySem.Spec PyProof.Rows L2
section
variable {Γ : Cxt} {P : Hp → Prop} {ta tb te tl : TE} {l m : List Dt} {D : Ends} {σ : L2.St} {H : Hp} {i j : Nat}
/-- x, y = a new list, a new list -/
theorem s_parLL (hA : PuL ta Γ P l) (hB : PuL tb Γ P m) [Stb P] (s : Sl σ H Γ) (p : P H) (k : ∀ a b σ' H', H a = none → H b = none → a ≠ b → Ex H H' → LstAt H' a l → LstAt H' b m → Sl σ' H' ((Γ.set i (some (dr a))).set j (some (dr b))) → D.nx σ' H') :
    tPar i j (tCons ta (tCons tb tNil)) D σ H :=
  hA σ H s p _ fun a H1 ha e1 h1 => hB σ H1 (s.ext e1.t) (Stb.ext e1 p) _ fun b H2 hb e2 h2 => by
    refine ⟨_, _, rfl, k a b _ H2 ha (e1.free hb) (fun z => ?_) (e1.trans e2) (h1.ext e2) h2 (((s.ext (Ex.t (e1.trans e2))).set (.leaf _) i).set (.leaf _) j)⟩
    obtain ⟨xs, h3, _⟩ := h1
    rw [z, hb] at h3
    cases h3
end
variable {K : PySem.W.Frag} {vs : List V} {H : Hp} {Q : VK} {E : XK}
theorem lots_lt : ∀ x y : Fin 8, lots x y < 8 := by decide +kernel
theorem lots_lt4 : ∀ x y : Fin 4, lots x y < 4 := by decide +kernel
/-- the first i of the three -/
def lotTo (x y i : Nat) : Nat := ((([1, 2, 4] : List Nat).take i).map (lotA x y)).sum
theorem rd__law_both_lots (h : sp__law_both_lots K vs H Q E) : t__law_both_lots K (Dn Q) (L2.start N__law_both_lots vs) H := by
  obtain ⟨l, d, hl, ⟨x, y, rfl, hx, hy, rfl⟩, q⟩ := h
  have s := sl_start (N := N__law_both_lots) hl (Nat.le_of_ble_eq_true rfl)
  refine s_seq (s_asg (P := fun _ => True) (d := dn 0) pu_c s trivial fun σ1 H1 e1 s1 => ?_)
  let J : Nat → L2.St → Hp → Prop := fun i σ' H' => Sl σ' H' [some (dn x), some (dn y), some (dn (lotTo x y i)), none] ∧ Ex H H'
  refine s_seq (s_forT (P := fun _ => True) (l := [dn 1, dn 2, dn 4]) (g := gName 3) (pu_tup (pa_c pu_c (pa_c pu_c (pa_c pu_c pa_n))) (by simp)) s1 trivial J ?_ ?_ ?_)
  · exact fun H2 e2 => ⟨(s1.ext e2.t).lessL ⟨rfl, rfl, rfl, trivial⟩, e1.trans e2⟩
  · intro H2 e2 i d σ' H' hd hJ x2 v hv
    obtain ⟨sJ, eJ⟩ := hJ
    obtain ⟨k, hk, rfl⟩ : ∃ k, ([1, 2, 4] : List Nat)[i]? = some k ∧ d = dn k := by
      have z : (([1, 2, 4] : List Nat).map dn)[i]? = some d := hd
      rw [List.getElem?_map] at z
      cases w : ([1, 2, 4] : List Nat)[i]? with
      | none => rw [w] at z; cases z
      | some k =>
        rw [w] at z
        cases z
        exact ⟨k, rfl, rfl⟩
    have k0 : k = 1 ∨ k = 2 ∨ k = 4 := by
      have := List.mem_of_getElem? hk
      simpa using this
    have kz : (k : Int) ≠ 0 := by omega
    have kb : CDivN (x : Int) (k : Int) := ⟨kz, by omega⟩
    have kb' : CDivN (y : Int) (k : Int) := ⟨kz, by omega⟩
    have s3 := sJ.set hv 3
    have tst : ∀ (z : Nat) (i : Nat), [some (dn x), some (dn y), some (dn (lotTo x y i)), some (dn k)][i]? = some (some (dn z)) → True := fun _ _ _ => trivial
    have e5 : ∀ z : Nat, ((z : Int).fdiv (k : Int)).fmod 2 = ((z / k % 2 : Nat) : Int) := fun z => by
      rw [fd_n]
      exact fm_n _ 2
    have dd : ∀ z : Nat, db (decide (((z : Int).fdiv (k : Int)).fmod 2 = 1)) = db (decide (z / k % 2 = 1)) := fun z => by
      rw [e5]
      by_cases w : z / k % 2 = 1
      · rw [decide_eq_true w, decide_eq_true (by omega)]
      · rw [decide_eq_false w, decide_eq_false (by omega)]
    have es : dn (lotTo x y (i + 1)) = di ((lotTo x y i : Int) + (lotA x y k : Int)) := by
      have : lotTo x y (i + 1) = lotTo x y i + lotA x y k := by
        unfold lotTo
        rw [List.take_succ, hk, List.map_append, List.sum_append]
        simp
      rw [this]
      exact congrArg di (by omega)
    refine s_asg (P := fun _ => True) (d := dn (lotTo x y (i + 1))) (Pu.is (pu_op (pu_var rfl) (pu_if (b := decide (x / k % 2 = 1) || decide (y / k % 2 = 1)) (d := dn (lotA x y k)) (pt_or (pt_test (Pu.is (pu_op (pu_op (pu_cb (pa_c (pu_op (pu_var rfl) (pu_var rfl) (rv_div kb)) pa_n) rc_int) pu_c (rv_mod (by decide))) pu_c rv_eqI) (dd x)))
      fun _ => pt_test (Pu.is (pu_op (pu_op (pu_cb (pa_c (pu_op (pu_var rfl) (pu_var rfl) (rv_div kb')) pa_n) rc_int) pu_c (rv_mod (by decide))) pu_c rv_eqI) (dd y))) (fun hb => ?_) (fun hb => ?_)) rv_add) es.symm) s3 trivial fun σ4 H4 e4 s4 => ⟨⟨s4.lessL ⟨rfl, rfl, rfl, trivial⟩, eJ.trans e4⟩, x2.trans e4.t⟩
    · have hb' : x / k % 2 = 1 ∨ y / k % 2 = 1 := by simpa using hb
      refine Pu.is (pu_var rfl) ?_
      show dn k = dn (if _ then _ else _)
      rw [if_pos hb']
    · have hb' : ¬(x / k % 2 = 1 ∨ y / k % 2 = 1) := fun z => by
        have : (decide (x / k % 2 = 1) || decide (y / k % 2 = 1)) = true := by simpa using z
        rw [this] at hb
        cases hb
      refine Pu.is pu_c ?_
      show di 0 = dn (if _ then _ else _)
      rw [if_neg hb']
      rfl
  · intro σ2 H2 hJ
    refine s_ret (P := fun _ => True) (pu_var rfl) hJ.1 trivial fun v H3 e3 h3 => q v H3 (hJ.2.trans e3) (?_)
    have e : lotTo x y ([dn 1, dn 2, dn 4] : List Dt).length = lots x y := by
      show (([1, 2, 4] : List Nat).map (lotA x y)).sum = _
      simp [lots, Nat.add_assoc]
    rw [e] at h3
    exact h3
theorem ne_steps {P : Hp → Prop} (l : List Stp) : RV (rNe9 K) P (stepsD l) (.tup []) (db (!l.isEmpty)) := by
  have z : RV (rNe9 K) P (stepsD l) (.tup []) (db (!decide (stepsD l = .tup []))) := rv_neD (steps_nb l) rfl (steps_shaped l) (steps_shaped [])
  rw [dec_steps_nil] at z
  exact z
theorem rd__law_gone_back (h : sp__law_gone_back K vs H Q E) : t__law_gone_back K (Dn Q) (L2.start N__law_gone_back vs) H := by
  obtain ⟨o, h, rfl, ho, ok, q⟩ := h
  have s := sl_start (N := N__law_gone_back) (l := [dr o]) (vs := [.ref o]) (H := H) (.cons (.leaf _) .nil) (Nat.le_of_ble_eq_true rfl)
  have sz := ok.sz
  refine s_seq (s_asg (P := fun H' => OwAt H' o h) (pu_op (pu_oP (pu_var rfl) fun _ p => p) (pu_tup pa_n (by simp)) (ne_steps h.past)) s ho fun σ1 H1 e1 s1 => ?_)
  refine s_seq (s_oL (h := h) (l := h.past.drop (h.past.length - 1) ++ h.later) (Pu.is (pu_op (pu_sl (pu_oP (pu_var rfl) fun _ p => p) (po_so (pu_un pu_c ru_neg)) po_no) (pu_oL (pu_var rfl) fun _ p => p) (rv_cat ?_)) ?_) (pu_var rfl) s1 (ho.ext e1) fun H2 r2 => ?_)
  · rw [show (-(1 : Int)) = -1 from rfl, cutD_m1, List.length_drop, List.length_map, List.length_map]
    omega
  · rw [show (-(1 : Int)) = -1 from rfl, cutD_m1, List.length_map, ← List.map_drop, ← List.map_append]
    rfl
  refine s_seq (s_oP (h := { h with later := h.past.drop (h.past.length - 1) ++ h.later }) (l := h.past.take (h.past.length - 1)) (Pu.is (pu_sl (pu_oP (pu_var rfl) fun _ p => p) po_no (po_so (pu_un pu_c ru_neg))) ?_) (pu_var rfl) (s1.ext r2.1) r2.2.2 fun H3 r3 => ?_)
  · rw [show (-(1 : Int)) = -1 from rfl, cutD_b1, List.length_map, ← List.map_take]
    rfl
  have r : Recd o h.back H H3 := Recd.pre e1 (r2.trans r3)
  refine s_ret (P := fun _ => True) (pu_var rfl) ((s1.ext r2.1).ext r3.1) trivial fun x H4 e4 h4 => ?_
  cases h4.v_eq
  exact q H4 (r.post e4)
theorem rd__law_gone_on (h : sp__law_gone_on K vs H Q E) : t__law_gone_on K (Dn Q) (L2.start N__law_gone_on vs) H := by
  obtain ⟨o, h, rfl, ho, ok, q⟩ := h
  have s := sl_start (N := N__law_gone_on) (l := [dr o]) (vs := [.ref o]) (H := H) (.cons (.leaf _) .nil) (Nat.le_of_ble_eq_true rfl)
  have sz := ok.sz
  refine s_seq (s_asg (P := fun H' => OwAt H' o h) (pu_op (pu_oL (pu_var rfl) fun _ p => p) (pu_tup pa_n (by simp)) (ne_steps h.later)) s ho fun σ1 H1 e1 s1 => ?_)
  refine s_seq (s_oP (h := h) (l := h.past ++ h.later.take 1) (Pu.is (pu_op (pu_oP (pu_var rfl) fun _ p => p) (pu_sl (pu_oL (pu_var rfl) fun _ p => p) po_no (po_so pu_c)) (rv_cat ?_)) ?_) (pu_var rfl) s1 (ho.ext e1) fun H2 r2 => ?_)
  · rw [show (1 : Int) = ((1 : Nat) : Int) from rfl, cutD_to, List.length_take, List.length_map, List.length_map]
    omega
  · rw [show (1 : Int) = ((1 : Nat) : Int) from rfl, cutD_to, ← List.map_take, ← List.map_append]
    rfl
  refine s_seq (s_oL (h := { h with past := h.past ++ h.later.take 1 }) (l := h.later.drop 1) (Pu.is (pu_sl (pu_oL (pu_var rfl) fun _ p => p) (po_so pu_c) po_no) ?_) (pu_var rfl) (s1.ext r2.1) r2.2.2 fun H3 r3 => ?_)
  · rw [show (1 : Int) = ((1 : Nat) : Int) from rfl, cutD_from, ← List.map_drop]
    rfl
  have r : Recd o h.on H H3 := Recd.pre e1 (r2.trans r3)
  refine s_ret (P := fun _ => True) (pu_var rfl) ((s1.ext r2.1).ext r3.1) trivial fun x H4 e4 h4 => ?_
  cases h4.v_eq
  exact q H4 (r.post e4)
end W9
set_option maxHeartbeats 4000000
/-! run, split_of -/
namespace W9
open PySem PySem.Spec PyProof.Rows L2
variable {K : PySem.W.Frag} {vs : List V} {H : Hp} {Q : VK} {E : XK}
theorem LstAt.at' {H H' : Hp} {a b : Addr} {l : List Dt} (h : LstAt H a l) (t : ExT H H') (e : ExB b H H') (n : a ≠ b) : LstAt H' a l := by
  obtain ⟨xs, h1, h2⟩ := h
  exact ⟨xs, e _ _ n h1, h2.ext t⟩
theorem rd__law_run (h : sp__law_run K vs H Q E) : t__law_run K (Dn Q) (L2.start N__law_run vs) H := by
  obtain ⟨l, d, hl, ⟨k, n, st, ok, rfl, rfl⟩, q⟩ := h
  have s := sl_start (N := N__law_run) hl (Nat.le_of_ble_eq_true rfl)
  have m1 := ok.m1
  have m16 := ok.m16
  have len30 := ok.len
  have repS : (List.replicate n (dn k.st)) = (runS k n []).map dn := by
    show _ = (List.replicate n k.st).map dn
    rw [List.map_replicate]
  have repH : (List.replicate n (.tup [] : Dt)) = (runH n []).map rowD := by
    show _ = (List.replicate n []).map rowD
    rw [List.map_replicate]
    rfl
  refine s_seq (s_parLL (P := fun _ => True) (PuL.is (pl_rep1 (pl_lst (pa_c (pu_ix (pu_var rfl) rfl) pa_n) (by simp)) (pu_ix (pu_var rfl) rfl) (by omega)) repS) (PuL.is (pl_rep1 (pl_lst (pa_c (pu_tup pa_n (by simp)) pa_n) (by simp)) (pu_ix (pu_var rfl) rfl) (by omega)) repH) s trivial fun a b σ1 H1 ha hb nab e1 lA lB s1 => ?_)
  have hst : (st.map stD).length = st.length := List.length_map _
  let G : Cxt := [some (kdD k), some (hisD n st), some (dr a), some (dr b), none, none, none, none]
  let J : Nat → L2.St → Hp → Prop := fun i σ' H' => Sl σ' H' G ∧ Ex H H' ∧ LstAt H' a ((runS k n (st.take i)).map dn) ∧ LstAt H' b ((runH n (st.take i)).map rowD)
  refine s_seq (s_forR (P := fun _ => True) (n := st.length) (pa_c (Pu.is (pu_cb (pa_c (pu_ix (pu_var rfl) rfl) pa_n) (rc_lenT (l := st.map stD))) (by rw [hst])) pa_n) (by omega) s1 trivial J ?_ ?_ ?_)
  · exact fun H2 e2 => ⟨(s1.ext e2.t).lessL ⟨rfl, rfl, rfl, rfl, trivial⟩, e1.trans e2, lA.ext e2, lB.ext e2⟩
  · intro i σ' H' hi hJ
    obtain ⟨sJ, eJ, aJ, bJ⟩ := hJ
    have s2 := sJ.set (x := .int (i : Int)) (d := dn i) (.leaf _) 4
    have z : st[i]? = some st[i] := List.getElem?_eq_getElem hi
    generalize st[i] = p at z
    have okp := ok.ok p (List.mem_of_getElem? z)
    have etk : st.take (i + 1) = st.take i ++ [p] := by
      rw [List.take_succ, z]
      rfl
    have lt : (st.take i).length = i := by rw [List.length_take]; omega
    have lenS : (runS k n (st.take i)).length = n := runS_len k n _
    have lenH : (runH n (st.take i)).length = n := runH_len n _
    have ltS : ∀ c, c < n → (runS k n (st.take i)).getD c 0 < k.rd.length := fun c hc => runS_lt ok.kd (st.take i) (fun s hs => ok.ok s (List.mem_of_mem_take hs)) _ (getD_lt (by rw [lenS]; exact hc) 0)
    have asc : ∀ c, c < n → Asc i ((runH n (st.take i)).getD c []) := fun c hc => by
      have z := runH_asc n (st.take i) _ (getD_lt (by rw [lenH]; exact hc) [])
      rw [lt] at z
      exact z
    have hat : atI (st.map stD) (i : Int) = some (stD p) := atI_n (by rw [List.getElem?_map, z]; rfl)
    have ixS : ∀ c, c < n → atI ((runS k n (st.take i)).map dn) (c : Int) = some (dn ((runS k n (st.take i)).getD c 0)) := fun c hc => atI_map (by rw [lenS]; exact hc) 0
    have ixH : ∀ c, c < n → atI ((runH n (st.take i)).map rowD) (c : Int) = some (rowD ((runH n (st.take i)).getD c [])) := fun c hc => atI_map (by rw [lenH]; exact hc) []
    cases p with
    | act c u =>
      refine s_seq (s_unp (P := fun _ => True) (is := [5, 6, 7]) (l := [ds "do", dn c, dn u]) (pu_op (pu_ix (pu_var rfl) rfl) (pu_var rfl) (rv_ixT hat)) s2 trivial rfl rfl fun σ3 H3 e3 s3 => ?_)
      refine s_ifT (P := fun _ => True) (pt_test (Pu.is (pu_op (pu_var rfl) pu_c rv_eqS) (by rw [decide_eq_true rfl]))) s3 trivial fun H4 e4 => ?_
      have e34 := e3.trans e4
      have hu : u < k.ups.length := okp.2
      have hr : RowOk k.rd.length (k.ups.getD u []) := ok.kd.ups _ (getD_lt hu [])
      have v1 := ltS c okp.1
      refine s_seq (s_setL (P := fun H' => LstAt H' a ((runS k n (st.take i)).map dn)) (i := c) (d := dn (k.up u ((runS k n (st.take i)).getD c 0))) (pu_op (pu_op (pu_ix (pu_var rfl) rfl) (pu_var rfl) (rv_ixT (atI_map hu []))) (pu_op (pu_var rfl) (pu_var rfl) (rv_ixL (fun _ h => h) (ixS c okp.1))) (rv_ixT (atI_map (by rw [hr.1]; exact v1) 0)))
        (pu_var rfl) (pu_var rfl) (s3.ext e4.t) (aJ.ext e34) (fun _ h => h) (by rw [List.length_map, lenS]; exact okp.1) fun H5 x5 b5 l5 => ?_)
      have bB : LstAt H5 b ((runH n (st.take i)).map rowD) := (bJ.ext e34).at' x5 b5 (Ne.symm nab)
      refine s_setL (P := fun H' => LstAt H' b ((runH n (st.take i)).map rowD)) (i := c) (d := rowD ((runH n (st.take i)).getD c [] ++ [i])) (Pu.is (pu_op (pu_op (pu_var rfl) (pu_var rfl) (rv_ixL (fun _ h => h) (ixH c okp.1))) (pu_tup (pa_c (pu_var rfl) pa_n) (by simp)) (rv_cat (by rw [List.length_map, List.length_singleton]; have := (asc c okp.1).len; omega))) (congrArg Dt.tup (List.map_append (l₂ := [i])).symm))
        (pu_var rfl) (pu_var rfl) ((s3.ext e4.t).ext x5) bB (fun _ h => h) (by rw [List.length_map, lenH]; exact okp.1) fun H6 x6 b6 l6 => ?_
      refine ⟨(((s3.ext e4.t).ext x5).ext x6).lessL ⟨rfl, rfl, rfl, rfl, trivial⟩, b6.ex hb (b5.ex ha (eJ.trans e34)), ?_, ?_⟩
      · rw [etk, runS_snoc]
        have z2 := l5.at' x6 b6 nab
        rw [← List.map_set] at z2
        exact z2
      · rw [etk, runH_snoc, lt]
        rw [← List.map_set] at l6
        exact l6
    | hear c o =>
      refine s_seq (s_unp (P := fun _ => True) (is := [5, 6, 7]) (l := [ds "hear", dn c, dn o]) (pu_op (pu_ix (pu_var rfl) rfl) (pu_var rfl) (rv_ixT hat)) s2 trivial rfl rfl fun σ3 H3 e3 s3 => ?_)
      refine s_ifF (P := fun _ => True) (pt_test (Pu.is (pu_op (pu_var rfl) pu_c rv_eqS) (by rw [decide_eq_false (by decide)]))) s3 trivial fun H4 e4 => ?_
      have e34 := e3.trans e4
      have v1 := ltS c okp.1
      have v2 := ltS o okp.2.1
      have hm : (runS k n (st.take i)).getD c 0 < k.mg.length := by rw [ok.kd.m1]; exact v1
      have hr : RowOk k.rd.length (k.mg.getD ((runS k n (st.take i)).getD c 0) []) := ok.kd.mg _ (getD_lt hm [])
      refine s_seq (s_setL (P := fun H' => LstAt H' a ((runS k n (st.take i)).map dn)) (i := c) (d := dn (k.hr ((runS k n (st.take i)).getD c 0) ((runS k n (st.take i)).getD o 0))) (pu_op (pu_op (pu_ix (pu_var rfl) rfl) (pu_op (pu_var rfl) (pu_var rfl) (rv_ixL (fun _ h => h) (ixS c okp.1))) (rv_ixT (atI_map hm []))) (pu_op (pu_var rfl) (pu_var rfl) (rv_ixL (fun _ h => h) (ixS o okp.2.1))) (rv_ixT (atI_map (by rw [hr.1]; exact v2) 0)))
        (pu_var rfl) (pu_var rfl) (s3.ext e4.t) (aJ.ext e34) (fun _ h => h) (by rw [List.length_map, lenS]; exact okp.1) fun H5 x5 b5 l5 => ?_)
      have bB : LstAt H5 b ((runH n (st.take i)).map rowD) := (bJ.ext e34).at' x5 b5 (Ne.symm nab)
      have a1 := asc c okp.1
      have a2 := asc o okp.2.1
      have h63 : ((runH n (st.take i)).getD c [] ++ (runH n (st.take i)).getD o []).length ≤ 63 := by
        have := a1.len
        have := a2.len
        rw [List.length_append]
        omega
      refine s_setL (P := fun H' => LstAt H' b ((runH n (st.take i)).map rowD)) (i := c) (d := rowD (both i ((runH n (st.take i)).getD c []) ((runH n (st.take i)).getD o []))) (pu_tss (ns := (runH n (st.take i)).getD c [] ++ (runH n (st.take i)).getD o []) (Pu.is (pu_op (pu_op (pu_var rfl) (pu_var rfl) (rv_ixL (fun _ h => h) (ixH c okp.1))) (pu_op (pu_var rfl) (pu_var rfl) (rv_ixL (fun _ h => h) (ixH o okp.2.1))) (rv_cat (by rw [List.length_map, List.length_map]; rw [List.length_append] at h63; omega))) (congrArg Dt.tup (List.map_append).symm)) h63 (asc_both _ _ _).1 (fun z => ?_))
        (pu_var rfl) (pu_var rfl) ((s3.ext e4.t).ext x5) bB (fun _ h => h) (by rw [List.length_map, lenH]; exact okp.1) fun H6 x6 b6 l6 => ?_
      · unfold both
        rw [List.mem_filter, List.mem_range, Bool.or_eq_true, decide_eq_true_eq, decide_eq_true_eq, List.mem_append]
        constructor
        · exact fun h => h.2
        · intro h
          refine ⟨?_, h⟩
          rcases h with h | h
          · exact a1.2 z h
          · exact a2.2 z h
      refine ⟨(((s3.ext e4.t).ext x5).ext x6).lessL ⟨rfl, rfl, rfl, rfl, trivial⟩, b6.ex hb (b5.ex ha (eJ.trans e34)), ?_, ?_⟩
      · rw [etk, runS_snoc]
        have z2 := l5.at' x6 b6 nab
        rw [← List.map_set] at z2
        exact z2
      · rw [etk, runH_snoc, lt]
        rw [← List.map_set] at l6
        exact l6
  · intro σ' H' hJ
    obtain ⟨sJ, eJ, aJ, bJ⟩ := hJ
    rw [List.take_length] at aJ bJ
    refine s_ret (P := fun H' => LstAt H' a ((runS k n st).map dn) ∧ LstAt H' b ((runH n st).map rowD)) (pu_tup (pa_c (pu_cb (pa_c (pu_var rfl) pa_n) (rc_tupL fun _ h => h.1)) (pa_c (pu_cb (pa_c (pu_var rfl) pa_n) (rc_tupL fun _ h => h.2)) pa_n)) (by simp)) sJ ⟨aJ, bJ⟩ fun x H4 e4 h4 => ?_
    exact q x H4 (eJ.trans e4) h4
theorem filt_succ {n : Nat} {f : Nat → Bool} : (List.range (n + 1)).filter f = (List.range n).filter f ++ (if f n = true then [n] else []) := by
  rw [List.range_succ, List.filter_append]
  congr 1
  cases h : f n <;> simp [h]
theorem rd__law_split_of (h : sp__law_split_of K vs H Q E) : t__law_split_of K (Dn Q) (L2.start N__law_split_of vs) H := by
  obtain ⟨l, d, hl, ⟨r, t, rfl, hrt, h16, rfl⟩, q⟩ := h
  have s := sl_start (N := N__law_split_of) hl (Nat.le_of_ble_eq_true rfl)
  have ht : (t.map rowD).length = t.length := List.length_map _
  refine s_seq (s_asg (P := fun _ => True) (d := .tup []) (pu_tup pa_n (by simp)) s trivial fun σ1 H1 e1 s1 => ?_)
  let G : List (Nat × Nat) → Cxt := fun f => [some (rowD r), some (rowsD t), some (.tup (f.map pairD)), none, none, none]
  let J : Nat → L2.St → Hp → Prop := fun i σ' H' => Sl σ' H' (G (splitsTo r t t.length i)) ∧ Ex H H'
  have pln : ∀ {P : Hp → Prop} [Stb P] {Γ : Cxt}, Γ[1]? = some (some (rowsD t)) → Pu (tCB (rLen9 K) (tCons (tVar 1) tNil)) Γ P (dn t.length) := fun {P} _ {Γ} h => Pu.is (pu_cb (pa_c (pu_var h) pa_n) (rc_lenT (l := t.map rowD))) (by rw [ht])
  refine s_seq (s_forR (P := fun _ => True) (n := t.length) (pa_c (pln rfl) pa_n) (by omega) s1 trivial J ?_ ?_ ?_)
  · exact fun H2 e2 => ⟨(s1.ext e2.t).lessL ⟨rfl, rfl, rfl, trivial⟩, e1.trans e2⟩
  · intro i σ' H' hi hJ
    obtain ⟨sJ, eJ⟩ := hJ
    have s2 := sJ.set (x := .int (i : Int)) (d := dn i) (.leaf _) 3
    have ei : (i : Int) + 1 = ((i + 1 : Nat) : Int) := by omega
    let F : Nat → Bool := fun j => decide (t.getD i [] = t.getD (i + 1 + j) []) && !decide (r.getD i 0 = r.getD (i + 1 + j) 0)
    let J2 : Nat → L2.St → Hp → Prop := fun j σ' H' => Sl σ' H' [some (rowD r), some (rowsD t), some (.tup ((splitsTo r t t.length i ++ ((List.range j).filter F).map fun j => (i, i + 1 + j)).map pairD)), some (dn i), none, none] ∧ Ex H H'
    refine s_forR2 (P := fun _ => True) (lo := i + 1) (n := t.length) (pa_c (Pu.is (pu_op (pu_var rfl) pu_c rv_add) (congrArg di ei)) (pa_c (pln rfl) pa_n)) (by omega) s2 trivial J2 ?_ ?_ ?_
    · intro H3 e3
      refine ⟨?_, eJ.trans e3⟩
      have z : (splitsTo r t t.length i ++ ((List.range 0).filter F).map fun j => (i, i + 1 + j)) = splitsTo r t t.length i := by simp
      rw [z]
      exact (s2.ext e3.t).lessL ⟨rfl, rfl, rfl, rfl, trivial⟩
    · intro j σ3 H3 hj hJ2
      obtain ⟨s3, e3⟩ := hJ2
      have s4 := s3.set (x := .int ((i + 1 + j : Nat) : Int)) (d := dn (i + 1 + j)) (.leaf _) 4
      have xT : ∀ c, c < t.length → atI (t.map rowD) (c : Int) = some (rowD (t.getD c [])) := fun c hc => atI_map hc []
      have xR : ∀ c, c < t.length → atI (r.map dn) (c : Int) = some (dn (r.getD c 0)) := fun c hc => atI_map (by omega) 0
      have edn : ∀ a b : Nat, db (!decide ((a : Int) = (b : Int))) = db (!decide (a = b)) := fun a b => by
        by_cases z : a = b
        · rw [decide_eq_true z, decide_eq_true (by rw [z])]
        · rw [decide_eq_false z, decide_eq_false (by omega)]
      refine s_seq (s_asg (P := fun _ => True) (d := db (F j)) (pu_andV (Pu.is (pu_op (pu_op (pu_var rfl) (pu_var rfl) (rv_ixT (xT i hi))) (pu_op (pu_var rfl) (pu_var rfl) (rv_ixT (xT _ hj))) (rv_eqD (row_nb _) (row_nb _) (row_shaped _) (row_shaped _))) (by rw [dec_rowD])) fun _ => Pu.is (pu_op (pu_op (pu_var rfl) (pu_var rfl) (rv_ixT (xR i hi))) (pu_op (pu_var rfl) (pu_var rfl) (rv_ixT (xR _ hj))) rv_neI) (edn _ _)) s4 trivial fun σ5 H5 e5 s5 => ?_)
      have zl : (splitsTo r t t.length i ++ ((List.range j).filter F).map fun j => (i, i + 1 + j)).length ≤ 1000 := by
        have z1 := splitsTo_len r t t.length i
        have z2 := List.length_filter_le F (List.range j)
        rw [List.length_range] at z2
        have z3 : i * t.length ≤ 16 * 16 := Nat.mul_le_mul (by omega) h16
        rw [List.length_append, List.length_map]
        omega
      refine s_asg (P := fun _ => True) (d := .tup ((splitsTo r t t.length i ++ ((List.range (j + 1)).filter F).map fun j => (i, i + 1 + j)).map pairD)) (Pu.is (pu_op (f := .tup (((splitsTo r t t.length i ++ ((List.range j).filter F).map fun j => (i, i + 1 + j)).map pairD) ++ (if F j = true then [pairD (i, i + 1 + j)] else []))) (e := .tup (if F j = true then [pairD (i, i + 1 + j)] else [])) (pu_var rfl) (pu_if (b := F j) (pt_B (pu_var rfl)) (fun hb => ?_) (fun hb => ?_)) (rv_cat ?_)) ?_) s5 trivial fun σ6 H6 e6 s6 => ⟨s6.lessL ⟨rfl, rfl, rfl, rfl, trivial⟩, (e3.trans e5).trans e6⟩
      · rw [if_pos hb]
        exact pu_tup (pa_c (pu_tup (pa_c (pu_var rfl) (pa_c (pu_var rfl) pa_n)) (by simp)) pa_n) (by simp)
      · rw [if_neg (by rw [hb]; decide)]
        exact pu_tup pa_n (by simp)
      · rw [List.length_map]
        split <;> simp only [List.length_cons, List.length_nil] <;> omega
      · rw [filt_succ, List.map_append, List.map_append, List.map_append, List.map_append, List.append_assoc]
        cases hF : F j <;> rfl
    · intro σ3 H3 hJ2
      refine ⟨?_, hJ2.2⟩
      have z := hJ2.1
      rw [show (fun j => (i, i + 1 + j)) = (fun j => (i, i + 1 + j)) from rfl] at z
      show Sl σ3 H3 (G (splitsTo r t t.length (i + 1)))
      rw [splitsTo_succ]
      exact z.lessL ⟨rfl, rfl, rfl, trivial⟩
  · intro σ2 H2 hJ
    exact s_ret (P := fun _ => True) (pu_var rfl) hJ.1 trivial fun x H3 e3 h3 => q x H3 (hJ.2.trans e3) h3
end W9
set_option maxHeartbeats 4000000
/-! reads, join_table -/
namespace W9
open PySem PySem.Spec PyProof.Rows L2
def DnS (n : Nat) (d : Dt) : Prop := ∃ z : Nat, z < n ∧ d = dn z
def RowS (n : Nat) (d : Dt) : Prop := ∃ r, RowOk n r ∧ d = rowD r
theorem dn_of {i : Int} {n : Nat} (h : 0 ≤ i ∧ i < n) : DnS n (di i) := ⟨i.toNat, by omega, congrArg di (by omega)⟩
theorem dns_of {R : Nat → Prop} : ∀ {l : List Dt}, (∀ d ∈ l, ∃ z : Nat, R z ∧ d = dn z) → ∃ r : List Nat, l = r.map dn ∧ r.length = l.length ∧ ∀ z ∈ r, R z
  | [], _ => ⟨[], rfl, rfl, fun _ h => by cases h⟩
  | d :: l, h => by
    obtain ⟨r, h1, h2, h3⟩ := dns_of fun e he => h e (List.mem_cons_of_mem _ he)
    obtain ⟨z, hz, rfl⟩ := h d List.mem_cons_self
    refine ⟨z :: r, by rw [List.map_cons, h1], by rw [List.length_cons, List.length_cons, h2], fun y hy => ?_⟩
    rcases List.mem_cons.mp hy with e | e
    · rw [e]; exact hz
    · exact h3 y e
theorem rows_of {n : Nat} : ∀ {l : List Dt}, (∀ d ∈ l, RowS n d) → ∃ u : List (List Nat), l = u.map rowD ∧ u.length = l.length ∧ ∀ r ∈ u, RowOk n r
  | [], _ => ⟨[], rfl, rfl, fun _ h => by cases h⟩
  | d :: l, h => by
    obtain ⟨r, h1, h2, h3⟩ := rows_of fun e he => h e (List.mem_cons_of_mem _ he)
    obtain ⟨z, hz, rfl⟩ := h d List.mem_cons_self
    refine ⟨z :: r, by rw [List.map_cons, h1], by rw [List.length_cons, List.length_cons, h2], fun y hy => ?_⟩
    rcases List.mem_cons.mp hy with e | e
    · rw [e]; exact hz
    · exact h3 y e
theorem row_of {n : Nat} {l : List Dt} (hl : l.length = n) (h : ∀ d ∈ l, DnS n d) : RowS n (.tup l) := by
  obtain ⟨r, h1, h2, h3⟩ := dns_of h
  exact ⟨r, ⟨by rw [h2, hl], h3⟩, by rw [h1]; rfl⟩
section
variable {m c g : Addr} {K : PySem.W.Frag} {Γ : Cxt} {P : Hp → Prop} {ta tb te tl tm : TE} {tr : TA} {B n : Nat} {i : Nat} {H H1 H2 : Hp} {a : Addr}
/-- tuple([.. for i in range(n)]) -/
theorem pd_row {vs : List Nat} {N : Nat} (hP : StbD m g P) (hi : i ∈ vs) (hr : Pu tl Γ P (dn N)) (hN : N ≤ 1000) (he : ∀ k : Nat, k < N → PD m c g te ((wipeC Γ vs).set i (some (dn k))) P B (DnS N)) :
    PD m c g (tCB (rTup9 K) (tCons (tLc (iRng1 (tCons tl tNil)) (gName i) tYes te vs) tNil)) Γ P (N * B) (RowS N) := by
  haveI := hP.stb
  refine pd_mono (pd_tupL (S := RowS N) (pdl_lcR (S := DnS N) (B := B) (N := N) (B0 := 0) (R := fun n => n = N) hP hi (pda_pu (pa_c hr pa_n) ⟨N, Nat.le_refl _, rfl, rfl⟩) hN fun n k hn hk => ?_) fun l hl => ?_) (Nat.le_of_eq (Nat.zero_add _)) fun _ h => h
  · subst hn
    exact he k hk
  · obtain ⟨n, _, rfl, h1, h2⟩ := hl
    exact row_of h1 h2
/-- [tuple([.. for j in range(n)]) for i in range(n)] -/
theorem pdl_rows {vs : List Nat} {N : Nat} (hP : StbD m g P) (hi : i ∈ vs) (hr : Pu tl Γ P (dn N)) (hN : N ≤ 1000) (he : ∀ k : Nat, k < N → PD m c g te ((wipeC Γ vs).set i (some (dn k))) P B (RowS N)) :
    PDL m c g (tLc (iRng1 (tCons tl tNil)) (gName i) tYes te vs) Γ P (N * B) (fun l => l.length = N ∧ ∀ d ∈ l, RowS N d) := by
  haveI := hP.stb
  refine pdl_mono (pdl_lcR (S := RowS N) (B := B) (N := N) (B0 := 0) (R := fun n => n = N) hP hi (pda_pu (pa_c hr pa_n) ⟨N, Nat.le_refl _, rfl, rfl⟩) hN fun n k hn hk => ?_) (Nat.le_of_eq (Nat.zero_add _)) fun l hl => ?_
  · subst hn
    exact he k hk
  · obtain ⟨n, _, rfl, h1, h2⟩ := hl
    exact ⟨h1, h2⟩
theorem pd_cst {d : Dt} {N : Nat} {j : Int} (h : Pu te Γ P d) (e : d = di j) (hj : 0 ≤ j ∧ j < N) : PD m c g te Γ P 0 (DnS N) := pd_pu h (by rw [e]; exact dn_of hj)
theorem DrTo.exb {n0 : Nat} (t : DrTo m c g n H H1) (d0 : DrAt H m c g n0) (ha : H a = none) (x : ExT H1 H2) (b : ExB a H1 H2) : DrTo m c g n H H2 := by
  obtain ⟨cs, gs, h1, h2, h3, h4, h5, h6, h7⟩ := d0
  obtain ⟨t1, t2, cs', gs', k1, k2, k3, k4, k5, k6, k7⟩ := t
  exact ⟨t1.trans x, fun y o ny q => b y o (ne_of_none q ha) (t2 y o ny q), cs', gs', b _ _ (ne_of_none h1 ha) k1, k2, b _ _ (ne_of_none h3 ha) k3, k4, k5, b _ _ (ne_of_none h6 ha) k6, k7⟩
end
variable {K : PySem.W.Frag} {vs : List V} {H : Hp} {Q : VK} {E : XK}
theorem rd__law_reads (h : sp__law_reads K vs H Q E) : t__law_reads K (Dn Q) (L2.start N__law_reads vs) H := by
  obtain ⟨m, c, g, n, sz, rfl, dr0, h8, hn, q⟩ := h
  have s := sl_start (N := N__law_reads) (l := [dr m, dn sz]) (vs := [.ref m, .int (sz : Int)]) (H := H) (.cons (.leaf _) (.cons (.leaf _) .nil)) (Nat.le_of_ble_eq_true rfl)
  refine s_retD (P := fun _ => True) (m := m) (c := c) (g := g) (n := n) (B := 0 + sz * (1 + 1)) (S := fun d => ∃ r : List Nat, r.length = sz ∧ (∀ z ∈ r, z ≤ 9) ∧ d = rowD r) (pd_tupL (pdl_lcR (S := fun d => ∃ z : Nat, z ≤ 9 ∧ d = dn z) (R := fun n => n = sz) stbD_T (by decide) (pda_pu (pa_c (pu_var rfl) pa_n) ⟨sz, Nat.le_refl _, rfl, rfl⟩) (by omega) fun k j hk hj => ?_) fun l hl => ?_) s trivial dr0 (by omega) fun x H' n' d l1 u1 t1 hd hx => ?_
  · subst hk
    refine pd_if stbD_T (pdt_gt0 stbD_T (pd_draw (lim := 3) stbD_T (pu_var rfl) pu_c (by decide) (by decide))) (pd_mono (S := fun d => d = dn j) (pd_pu (pu_var rfl) rfl) (Nat.zero_le 1) fun d hd => ⟨j, by omega, hd⟩) (pd_mono (pd_draw (lim := 10) stbD_T (pu_var rfl) pu_c (by decide) (by decide)) (Nat.le_refl 1) fun d hd => ?_)
    obtain ⟨z, hz, rfl⟩ := hd
    exact ⟨z, by omega, rfl⟩
  · obtain ⟨k, _, rfl, h1, h2⟩ := hl
    obtain ⟨r, k1, k2, k3⟩ := dns_of h2
    exact ⟨r, by rw [k2, h1], k3, by rw [k1]; rfl⟩
  · obtain ⟨r, r1, r2, rfl⟩ := hd
    exact q H' n' x r l1 (by omega) t1 r1 r2 hx
end W9
set_option maxHeartbeats 4000000
/-! join_table -/
namespace W9
open PySem PySem.Spec PyProof.Rows L2
variable {K : PySem.W.Frag} {vs : List V} {H : Hp} {Q : VK} {E : XK}
section
variable {Γ : Cxt} {P : Hp → Prop} {te tl : TE} {i N : Nat} {ws : List Nat}
/-- tuple([.. for i in range(N)]) -/
theorem pu_rowE [Stb P] (f : Nat → Nat) (hi : i ∈ ws) (hr : Pu tl Γ P (dn N)) (hN : N ≤ 1000) (he : ∀ k : Nat, k < N → Pu te ((wipeC Γ ws).set i (some (dn k))) P (dn (f k))) :
    Pu (tCB (rTup9 K) (tCons (tLc (iRng1 (tCons tl tNil)) (gName i) tYes te ws) tNil)) Γ P (rowD ((List.range N).map f)) := by
  refine Pu.is (pu_tupL (pl_lcR (n := N) (fun _ => true) (fun k => dn (f k)) hi (pa_c hr pa_n) (by omega) (fun _ _ => pt_yes) (fun k hk _ => he k hk))) ?_
  rw [giv_all]
  unfold rowD
  rw [List.map_map]
  rfl
theorem pl_rowsE [Stb P] (F : Nat → List Nat) (hi : i ∈ ws) (hr : Pu tl Γ P (dn N)) (hN : N ≤ 1000) (he : ∀ k : Nat, k < N → Pu te ((wipeC Γ ws).set i (some (dn k))) P (rowD (F k))) :
    PuL (tLc (iRng1 (tCons tl tNil)) (gName i) tYes te ws) Γ P (((List.range N).map F).map rowD) := by
  refine PuL.is (pl_lcR (n := N) (fun _ => true) (fun k => rowD (F k)) hi (pa_c hr pa_n) (by omega) (fun _ _ => pt_yes) (fun k hk _ => he k hk)) ?_
  rw [giv_all, List.map_map]
  rfl
end
theorem rowOk_rng {n : Nat} {f : Nat → Nat} (h : ∀ k, k < n → f k < n) : RowOk n ((List.range n).map f) := by
  refine ⟨by rw [List.length_map, List.length_range], fun x hx => ?_⟩
  obtain ⟨k, hk, rfl⟩ := List.mem_map.mp hx
  exact h k (List.mem_range.mp hk)
theorem rowsOk_rng {n : Nat} {F : Nat → Nat → Nat} (h : ∀ k j, k < n → j < n → F k j < n) : ∀ r ∈ (List.range n).map (fun k => (List.range n).map (F k)), RowOk n r := fun r hr => by
  obtain ⟨k, hk, rfl⟩ := List.mem_map.mp hr
  exact rowOk_rng fun j hj => h k j (List.mem_range.mp hk) hj
theorem lots_S {n x y : Nat} (h : n = 4 ∨ n = 8) (hx : x < n) (hy : y < n) : lots x y < n := by
  rcases h with rfl | rfl
  · exact lots_lt4 ⟨x, hx⟩ ⟨y, hy⟩
  · exact lots_lt ⟨x, hx⟩ ⟨y, hy⟩
theorem fdn2 (k : Nat) : (k : Int).fdiv 2 = ((k / 2 : Nat) : Int) := fd_n k 2
theorem fmn2 (k : Nat) : (k : Int).fmod 2 = ((k % 2 : Nat) : Int) := fm_n k 2
theorem cdv2 (k : Nat) : CDivN (k : Int) 2 := ⟨by decide, by decide⟩
theorem cm2 {i : Int} (hi : i.natAbs < 8) : CMulW i 2 := cmw (a := 3) (b := 2) hi (by decide) (by decide)
theorem dec_n (a b : Nat) : decide ((a : Int) = (b : Int)) = decide (a = b) := by
  by_cases z : a = b
  · rw [decide_eq_true z, decide_eq_true (by rw [z])]
  · rw [decide_eq_false z, decide_eq_false (by omega)]
def upE (k x : Nat) : Nat := if x / k % 2 = 0 then x + k else x
def upR (n k : Nat) : List Nat := (List.range n).map (upE k)
theorem upR_ok : ∀ n ∈ [4, 8], ∀ k ∈ [1, 2, 4], (n = 8 ∨ k ≠ 4) → (upR n k).length = n ∧ ∀ x ∈ upR n k, x < n := by decide +kernel
def inR (k : Nat) : List Nat := k :: (List.range 7).map fun i => 1 + i
theorem inR_ok : ∀ k ∈ [1, 2, 4], (inR k).length = 8 ∧ ∀ x ∈ inR k, x < 8 := by decide +kernel
theorem rd__law_join_table (h : sp__law_join_table K vs H Q E) : t__law_join_table K (Dn Q) (L2.start N__law_join_table vs) H := by
  obtain ⟨m, c, g, n, rfl, dr0, hn, q⟩ := h
  have s := sl_start (N := N__law_join_table) (l := [dr m]) (vs := [.ref m]) (H := H) (.cons (.leaf _) .nil) (Nat.le_of_ble_eq_true rfl)
  have fin : ∀ {H4 : Hp} {n' : Nat} {a : Addr} {u w : List (List Nat)} {sz : Nat} (x : V), n ≤ n' → n' ≤ n + 2 → DrTo m c g n' H H4 → TbOk u w sz → H a = none → LstAt H4 a (u.map rowD) → TD H4 x (.tup [dn 0, dr a, rowsD w, dn sz]) → Q x H4 := by
    intro H4 n' a u w sz x h1 h2 h3 h4 h9 h10 h13
    obtain ⟨t, xs, rfl, ht, hx⟩ := h13.tup_of
    exact q H4 n' t a u w sz h1 h2 h3 h4 h9 h10 (.tup ht hx)
  have new : ∀ {H4 : Hp} {n' : Nat} {a : Addr}, DrTo m c g n' H H4 → H4 a = none → H a = none := by
    intro H4 n' a t ha
    cases hz : H a with
    | none => rfl
    | some o =>
      exfalso
      obtain ⟨cs, gs, k1, k2, k3, k4, k5, k6, k7⟩ := t.2.2
      by_cases hm : a ∈ [m, g]
      · rcases List.mem_cons.mp hm with z | z
        · rw [z, k1] at ha; cases ha
        · rw [List.mem_singleton.mp z, k6] at ha; cases ha
      · have := t.2.1 a o hm hz
        rw [ha] at this
        cases this
  refine s_seq (s_asgD (P := fun _ => True) (pd_draw (lim := 5) stbD_T (pu_var rfl) pu_c (by decide) (by decide)) s trivial dr0 (by omega) fun σ1 H1 n1 d1 l1 u1 t1 hd1 s1 => ?_)
  obtain ⟨pick, hp, rfl⟩ := hd1
  by_cases h0 : pick = 0
  · -- a chain
    subst h0
    refine s_seq (s_ifT (P := fun _ => True) (pt_test (Pu.is (pu_op (pu_var rfl) pu_c rv_eqI) (congrArg db (decide_eq_true (by decide))))) s1 trivial fun H2 e2 => ?_)
    have t2 := t1.ex e2
    refine s_seq (s_asgD (P := fun _ => True) (B := 0 + 1) (S := fun d => ∃ z : Nat, 2 ≤ z ∧ z < 8 ∧ d = dn z) (pd_op (S1 := fun d => d = dn 2) stbD_T (pd_pu pu_c rfl) (pd_draw (lim := 6) stbD_T (pu_var rfl) pu_c (by decide) (by decide)) fun d e hd he => ?_) (s1.ext e2.t) trivial t2.2.2 (by omega) fun σ3 H3 n3 d3 l3 u3 t3 hd3 s3 => ?_)
    · subst hd
      obtain ⟨r, hr, rfl⟩ := he
      exact ⟨_, ⟨2 + r, by omega, by omega, congrArg di (by omega)⟩, rv_add⟩
    obtain ⟨sz, z2, z8, rfl⟩ := hd3
    have t03 := t2.trans t3
    have zd : ((sz : Int)).fdiv 2 = ((sz / 2 : Nat) : Int) := fdn2 sz
    refine s_seq (s_asgL (P := fun _ => True) (l := [(List.range sz).map fun x => if x + 1 < sz - 1 then x + 1 else sz - 1].map rowD) (pl_lst (pa_c (pu_rowE (fun x => if x + 1 < sz - 1 then x + 1 else sz - 1) (by decide) (pu_var rfl) (by omega) fun k hk => ?_) pa_n) (by simp)) s3 trivial fun a σ4 H4 ha e4 la s4 => ?_)
    · refine Pu.is (pu_cb (pa_c (pu_op (pu_var rfl) pu_c rv_i0) (pa_c (pu_op (pu_var rfl) pu_c rv_add) pa_n)) rc_min) (congrArg di ?_)
      split <;> split <;> omega
    have t4 := t03.ex e4
    have ha0 := new t03 ha
    refine s_seq (s_append (P := fun H' => LstAt H' a [rowD ((List.range sz).map fun x => if x + 1 < sz - 1 then x + 1 else sz - 1)]) (pu_var rfl) (pu_rowE (fun x => if sz / 2 > x then sz / 2 else x) (by decide) (pu_var rfl) (by omega) fun k hk => ?_) s4 la (fun _ h => h) (by simp) fun H5 x5 b5 la5 => ?_)
    · refine Pu.is (pu_cb (pa_c (pu_var rfl) (pa_c (pu_op (pu_var rfl) pu_c (rv_div (cdv2 sz))) pa_n)) rc_max) (congrArg di ?_)
      rw [zd]
      split <;> split <;> omega
    have t5 : DrTo m c g n3 H H5 := t4.exb dr0 ha0 x5 b5
    refine s_ret (P := fun _ => True) (d := .tup [dn 0, dr a, rowsD ((List.range sz).map fun x => (List.range sz).map fun y => if y > x then y else x), dn sz]) (pu_tup (pa_c pu_c (pa_c (pu_var rfl) (pa_c (pu_tupL (pl_rowsE (fun x => (List.range sz).map fun y => if y > x then y else x) (by decide) (pu_var rfl) (by omega) fun k hk => pu_rowE (fun y => if y > k then y else k) (by decide) (pu_var rfl) (by omega) fun j hj => ?_)) (pa_c (pu_var rfl) pa_n)))) (by simp)) (s4.ext x5) trivial fun x H6 e6 h6 => ?_
    · refine Pu.is (pu_cb (pa_c (pu_var rfl) (pa_c (pu_var rfl) pa_n)) rc_max) (congrArg di ?_)
      split <;> split <;> omega
    refine fin x (by omega) (by omega) (t5.ex e6) (u := [(List.range sz).map fun x => if x + 1 < sz - 1 then x + 1 else sz - 1, (List.range sz).map fun x => if sz / 2 > x then sz / 2 else x]) ⟨by omega, by omega, by simp, by simp, fun r hr => ?_, by simp, rowsOk_rng fun k j hk hj => by split <;> omega⟩ ha0 (la5.ext e6) h6
    rcases List.mem_cons.mp hr with rfl | hr
    · exact rowOk_rng fun k hk => by split <;> omega
    · rw [List.mem_singleton.mp hr]
      exact rowOk_rng fun k hk => by split <;> omega
  refine s_seq (s_ifF (P := fun _ => True) (pt_test (Pu.is (pu_op (pu_var rfl) pu_c rv_eqI) (congrArg db (decide_eq_false (by omega))))) s1 trivial fun H2 e2 => s_next ?_)
  have t2 : DrTo m c g n1 H H2 := t1.ex e2
  have s2 := s1.ext e2.t
  have dcase : pick = 1 ∨ pick = 2 ∨ pick = 3 ∨ pick = 4 := by omega
  obtain ⟨sz, hsz, hszc⟩ : ∃ sz : Nat, atI [dn 4, dn 8, dn 6, dn 8] ((pick : Int) - 1) = some (dn sz) ∧ ((pick = 1 ∧ sz = 4) ∨ (pick = 2 ∧ sz = 8) ∨ (pick = 3 ∧ sz = 6) ∨ (pick = 4 ∧ sz = 8)) := by
    rcases dcase with rfl | rfl | rfl | rfl
    · exact ⟨4, rfl, .inl ⟨rfl, rfl⟩⟩
    · exact ⟨8, rfl, .inr (.inl ⟨rfl, rfl⟩)⟩
    · exact ⟨6, rfl, .inr (.inr (.inl ⟨rfl, rfl⟩))⟩
    · exact ⟨8, rfl, .inr (.inr (.inr ⟨rfl, rfl⟩))⟩
  refine s_seq (s_asg (P := fun _ => True) (pu_ixN (pl_lst (pa_c pu_c (pa_c pu_c (pa_c pu_c (pa_c pu_c pa_n)))) (by simp)) (pu_op (pu_var rfl) pu_c rv_i0) hsz) s2 trivial fun σ3 H3 e3 s3 => ?_)
  have t3 := t2.ex e3
  by_cases h3 : pick = 3
  · -- six states
    have hs6 : sz = 6 := by omega
    subst h3
    subst hs6
    refine s_seq (s_ifF (P := fun _ => True) (pt_test (Pu.is (pu_op (pu_var rfl) pu_c rv_neI) (congrArg (fun b => db (!b)) (decide_eq_true (by decide))))) s3 trivial fun H4 e4 => s_next ?_)
    have t4 := t3.ex e4
    have s4 := s3.ext e4.t
    let r1 : Nat → Nat := fun x => (if 2 < x / 2 + 1 then 2 else x / 2 + 1) * 2 + x % 2
    let r2 : Nat → Nat := fun x => x / 2 * 2 + 1
    let w1 : Nat → Nat → Nat := fun x y => (if y / 2 > x / 2 then y / 2 else x / 2) * 2 + (if y % 2 > x % 2 then y % 2 else x % 2)
    refine s_seq (s_asgL (P := fun _ => True) (l := [(List.range 6).map r1, (List.range 6).map r2].map rowD) (pl_lst (pa_c (pu_rowE (N := 6) r1 (by decide) pu_c (by decide) fun k hk => ?_) (pa_c (pu_rowE (N := 6) r2 (by decide) pu_c (by decide) fun k hk => ?_) pa_n)) (by simp)) s4 trivial fun a σ5 H5 ha e5 la s5 => ?_)
    · refine Pu.is (pu_op (pu_op (pu_cb (pa_c (pu_op (pu_op (pu_var rfl) pu_c (rv_div (cdv2 k))) pu_c rv_add) (pa_c pu_c pa_n)) rc_min) pu_c (rv_mul (cm2 ?_))) (pu_op (pu_cb (pa_c (pu_var rfl) pa_n) rc_int) pu_c (rv_mod (by decide))) rv_add) (congrArg di ?_)
      · rw [fdn2]
        split <;> omega
      · rw [fdn2, fmn2]
        show _ = (((if 2 < k / 2 + 1 then 2 else k / 2 + 1) * 2 + k % 2 : Nat) : Int)
        split <;> split <;> omega
    · refine Pu.is (pu_op (pu_op (pu_op (pu_var rfl) pu_c (rv_div (cdv2 k))) pu_c (rv_mul (cm2 ?_))) pu_c rv_add) (congrArg di ?_)
      · rw [fdn2]
        omega
      · rw [fdn2]
        show _ = ((k / 2 * 2 + 1 : Nat) : Int)
        omega
    have t5 := t4.ex e5
    have ha0 := new t4 ha
    refine s_seq (s_asgL (P := fun _ => True) (pl_lst pa_n (by simp)) s5 trivial fun b σ6 H6 hb e6 lb s6 => ?_)
    have t6 := t5.ex e6
    have hb0 := new t5 hb
    have hab : a ≠ b := fun z => by
      obtain ⟨ys, h1, _⟩ := la
      rw [z, hb] at h1
      cases h1
    let J : Nat → L2.St → Hp → Prop := fun i σ' H' => Sl σ' H' [some (dr m), some (dn 3), some (dn 6), none, some (dr a), some (dr b), none, none] ∧ DrTo m c g n1 H H' ∧ LstAt H' a ([(List.range 6).map r1, (List.range 6).map r2].map rowD) ∧ LstAt H' b (((List.range i).map fun x => (List.range 6).map (w1 x)).map rowD)
    refine s_seq (s_forR (P := fun _ => True) (n := 6) (pa_c pu_c pa_n) (by decide) s6 trivial J ?_ ?_ ?_)
    · exact fun H7 e7 => ⟨(s6.ext e7.t).lessL ⟨rfl, rfl, rfl, rfl, rfl, trivial⟩, t6.ex e7, (la.ext e6).ext e7, lb.ext e7⟩
    · intro x σ' H' hx6 hJ
      obtain ⟨sJ, tJ, aJ, bJ⟩ := hJ
      have s8 := sJ.set (x := .int (x : Int)) (d := dn x) (.leaf _) 3
      refine s_append (P := fun H' => LstAt H' b (((List.range x).map fun x => (List.range 6).map (w1 x)).map rowD)) (pu_var rfl) (pu_rowE (N := 6) (w1 x) (by decide) pu_c (by decide) fun k hk => ?_) s8 bJ (fun _ h => h) (by rw [List.length_map, List.length_map, List.length_range]; omega) fun H9 x9 b9 l9 => ?_
      · refine Pu.is (pu_op (pu_op (pu_cb (pa_c (pu_op (pu_var rfl) pu_c (rv_div (cdv2 x))) (pa_c (pu_op (pu_var rfl) pu_c (rv_div (cdv2 k))) pa_n)) rc_max) pu_c (rv_mul (cm2 ?_))) (pu_cb (pa_c (pu_op (pu_cb (pa_c (pu_var rfl) pa_n) rc_int) pu_c (rv_mod (by decide))) (pa_c (pu_op (pu_cb (pa_c (pu_var rfl) pa_n) rc_int) pu_c (rv_mod (by decide))) pa_n)) rc_max) rv_add) (congrArg di ?_)
        · rw [fdn2, fdn2]
          split <;> omega
        · rw [fdn2, fdn2, fmn2, fmn2]
          show _ = (((if k / 2 > x / 2 then k / 2 else x / 2) * 2 + (if k % 2 > x % 2 then k % 2 else x % 2) : Nat) : Int)
          split <;> split <;> split <;> split <;> omega
      · refine ⟨(s8.ext x9).lessL ⟨rfl, rfl, rfl, rfl, rfl, trivial⟩, tJ.exb dr0 hb0 x9 b9, aJ.at' x9 b9 hab, ?_⟩
        rw [List.range_succ (n := x), List.map_append, List.map_append]
        exact l9
    · intro σ' H' hJ
      obtain ⟨sJ, tJ, aJ, bJ⟩ := hJ
      refine s_ret (P := fun H' => LstAt H' b (((List.range 6).map fun x => (List.range 6).map (w1 x)).map rowD)) (d := .tup [dn 0, dr a, rowsD ((List.range 6).map fun x => (List.range 6).map (w1 x)), dn 6]) (pu_tup (pa_c pu_c (pa_c (pu_var rfl) (pa_c (pu_cb (pa_c (pu_var rfl) pa_n) (rc_tupL fun _ h => h)) (pa_c (pu_var rfl) pa_n)))) (by simp)) sJ bJ fun x H8 e8 h8 => ?_
      refine fin x l1 (by omega) (tJ.ex e8) (u := [(List.range 6).map r1, (List.range 6).map r2]) ⟨by decide, by decide, by simp, by simp, ?_, by simp, ?_⟩ ha0 (aJ.ext e8) h8
      · intro r hr
        rcases List.mem_cons.mp hr with rfl | hr
        · refine rowOk_rng fun k hk => ?_
          show (if 2 < k / 2 + 1 then 2 else k / 2 + 1) * 2 + k % 2 < 6
          split <;> omega
        · rw [List.mem_singleton.mp hr]
          refine rowOk_rng fun k hk => ?_
          show k / 2 * 2 + 1 < 6
          omega
      · refine rowsOk_rng fun k j hk hj => ?_
        show (if j / 2 > k / 2 then j / 2 else k / 2) * 2 + (if j % 2 > k % 2 then j % 2 else k % 2) < 6
        split <;> split <;> omega
  -- four or eight
  have hs48 : sz = 4 ∨ sz = 8 := by omega
  refine s_seq (s_ifT (P := fun _ => True) (pt_test (Pu.is (pu_op (pu_var rfl) pu_c rv_neI) (congrArg (fun b => db (!b)) (decide_eq_false (by omega))))) s3 trivial fun H4 e4 => ?_)
  have t4 := t3.ex e4
  have s4 := s3.ext e4.t
  let ks : List Nat := ([1, 2, 4] : List Nat).take (pick + 1)
  have ecut : cutD [dn 1, dn 2, dn 4] none (some ((pick : Int) + 1)) = ks.map dn := by
    rw [show (pick : Int) + 1 = ((pick + 1 : Nat) : Int) by omega, cutD_to]
    show _ = (([1, 2, 4] : List Nat).take (pick + 1)).map dn
    rw [List.map_take]
    rfl
  have kmem : ∀ k ∈ ks, k ∈ ([1, 2, 4] : List Nat) ∧ (sz = 8 ∨ k ≠ 4) := by
    rcases hszc with ⟨rfl, rfl⟩ | ⟨rfl, rfl⟩ | ⟨rfl, rfl⟩ | ⟨rfl, rfl⟩
    · decide +kernel
    · decide +kernel
    · exact absurd rfl h3
    · decide +kernel
  have klen : 1 ≤ ks.length ∧ ks.length ≤ 3 := by
    rcases hszc with ⟨rfl, rfl⟩ | ⟨rfl, rfl⟩ | ⟨rfl, rfl⟩ | ⟨rfl, rfl⟩ <;> decide +kernel
  have kget : ∀ {j : Nat} {d : Dt}, (ks.map dn)[j]? = some d → ∃ k, k ∈ ks ∧ ks.getD j 0 = k ∧ d = dn k := fun {j d} h => by
    obtain ⟨x, h1, h2, rfl⟩ := row_get h
    exact ⟨x, h2, by simp [List.getD, h1], rfl⟩
  refine s_seq (s_asgL (P := fun _ => True) (l := (ks.map (upR sz)).map rowD) (PuL.is (pl_lcT (l := ks.map dn) (fun _ => true) (fun j => rowD (upR sz (ks.getD j 0))) (by decide) (Pu.is (pu_sl (pu_tup (pa_c pu_c (pa_c pu_c (pa_c pu_c pa_n))) (by simp)) po_no (po_so (pu_op (pu_var rfl) pu_c rv_add))) (congrArg Dt.tup ecut)) (by rw [List.length_map]; omega) (fun _ _ _ => pt_yes) (fun j d hd _ => ?_)) ?_) s4 trivial fun a σ5 H5 ha e5 la s5 => ?_)
  · obtain ⟨k, hk, ek, rfl⟩ := kget hd
    rw [ek]
    have hk1 := (kmem k hk).1
    have kz : (k : Int) ≠ 0 ∧ (k : Int).natAbs < 1073741824 := by
      have : k = 1 ∨ k = 2 ∨ k = 4 := by simpa using hk1
      omega
    refine pu_rowE (upE k) (by decide) (pu_var rfl) (by omega) fun x hx => ?_
    have e5 : ((x : Int).fdiv (k : Int)).fmod 2 = ((x / k % 2 : Nat) : Int) := by
      rw [fd_n]
      exact fm_n _ 2
    have dd : db (decide (((x : Int).fdiv (k : Int)).fmod 2 = 0)) = db (decide (x / k % 2 = 0)) := by
      rw [e5]
      exact congrArg db (dec_n _ 0)
    refine pu_if (b := decide (x / k % 2 = 0)) (pt_test (Pu.is (pu_op (pu_op (pu_cb (pa_c (pu_op (pu_var rfl) (pu_var rfl) (rv_div kz)) pa_n) rc_int) pu_c (rv_mod (by decide))) pu_c rv_eqI) dd)) (fun hb => ?_) (fun hb => ?_)
    · refine Pu.is (pu_op (pu_var rfl) (pu_var rfl) rv_add) ?_
      unfold upE
      rw [if_pos (of_decide_eq_true hb)]
      exact congrArg di (by omega)
    · refine Pu.is (pu_var rfl) ?_
      unfold upE
      rw [if_neg (of_decide_eq_false hb)]
  · rw [giv_all, List.length_map, List.map_map]
    exact map_range_getD ks 0 (fun k => rowD (upR sz k))
  have t5 := t4.ex e5
  have ha0 := new t4 ha
  -- the ups, whichever they are
  have rest : ∀ (a : Addr) (u : List (List Nat)) (σ6 : L2.St) (H6 : Hp), DrTo m c g n1 H H6 → H a = none → LstAt H6 a (u.map rowD) → 1 ≤ u.length → u.length ≤ 3 → (∀ r ∈ u, RowOk sz r) → Sl σ6 H6 [some (dr m), some (dn pick), some (dn sz), none, some (dr a), none, none, none] →
      tSeq (tAsg (tLc (iRng1 (tCons (tVar 2) tNil)) (gName 3) tYes (tCB (rTup9 K) (tCons (tLc (iRng1 (tCons (tVar 2) tNil)) (gName 6) tYes (tCall (sp__law_both_lots K) [] E0 (tCons (tVar 3) (tCons (tVar 6) tNil))) [6]) tNil)) [3]) (gName 5))
        (tRet (tTup (tCons (tC (.int 0)) (tCons (tVar 4) (tCons (tCB (rTup9 K) (tCons (tVar 5) tNil)) (tCons (tVar 2) tNil))))))
        (Dn Q) σ6 H6 := by
    intro a u σ6 H6 t6 ha0 la hu1 hu3 huo s6
    refine s_seq (s_asgL (P := fun _ => True) (pl_rowsE (fun x => (List.range sz).map (lots x)) (by decide) (pu_var rfl) (by omega) fun x hx => pu_rowE (lots x) (by decide) (pu_var rfl) (by omega) fun y hy => pu_call (pa_c (pu_var rfl) (pa_c (pu_var rfl) pa_n)) ⟨x, y, rfl, by omega, by omega, rfl⟩) s6 trivial fun b σ7 H7 hb e7 lb s7 => ?_)
    refine s_ret (P := fun H' => LstAt H' b (((List.range sz).map fun x => (List.range sz).map (lots x)).map rowD)) (d := .tup [dn 0, dr a, rowsD ((List.range sz).map fun x => (List.range sz).map (lots x)), dn sz]) (pu_tup (pa_c pu_c (pa_c (pu_var rfl) (pa_c (pu_cb (pa_c (pu_var rfl) pa_n) (rc_tupL fun _ h => h)) (pa_c (pu_var rfl) pa_n)))) (by simp)) s7 lb fun x H8 e8 h8 => ?_
    exact fin x l1 (by omega) ((t6.ex e7).ex e8) ⟨by omega, by omega, hu1, hu3, huo, by simp, rowsOk_rng fun k j hk hj => lots_S hs48 hk hj⟩ ha0 ((la.ext e7).ext e8) h8
  by_cases h4 : pick = 4
  · have hs8 : sz = 8 := by omega
    subst h4
    subst hs8
    refine s_seq (s_ifT (P := fun _ => True) (pt_test (Pu.is (pu_op (pu_var rfl) pu_c rv_eqI) (congrArg db (decide_eq_true (by decide))))) s5 trivial fun H6 e6 => ?_)
    refine s_asgL (P := fun _ => True) (l := (([1, 2, 4] : List Nat).map inR).map rowD) (PuL.is (pl_lcT (l := [dn 1, dn 2, dn 4]) (fun _ => true) (fun j => rowD (inR (([1, 2, 4] : List Nat).getD j 0))) (by decide) (pu_tup (pa_c pu_c (pa_c pu_c (pa_c pu_c pa_n))) (by simp)) (by decide) (fun _ _ _ => pt_yes) (fun j d hd _ => ?_)) (by rw [giv_all]; rfl)) (s5.ext e6.t) trivial fun a2 σ7 H7 ha2 e7 la2 s7 => ?_
    · have hd' : (([1, 2, 4] : List Nat).map dn)[j]? = some d := hd
      obtain ⟨k, h1, h2, rfl⟩ := row_get hd'
      have ek : ([1, 2, 4] : List Nat).getD j 0 = k := by simp [List.getD, h1]
      rw [ek]
      exact Pu.is (pu_op (pu_tup (pa_c (pu_var rfl) pa_n) (by simp)) (pu_tupRg (lo := 1) (hi := 8) pu_c pu_c (by decide)) (rv_cat (by simp))) rfl
    · refine rest a2 _ σ7 H7 ((t5.ex e6).ex e7) (new (t5.ex e6) ha2) la2 (by simp) (by simp) (fun r hr => ?_) (s7.lessL ⟨rfl, rfl, rfl, rfl, trivial⟩)
      obtain ⟨k, hk, rfl⟩ := List.mem_map.mp hr
      exact inR_ok k hk
  · refine s_seq (s_ifF (P := fun _ => True) (pt_test (Pu.is (pu_op (pu_var rfl) pu_c rv_eqI) (congrArg db (decide_eq_false (by omega))))) s5 trivial fun H6 e6 => s_next ?_)
    refine rest a _ σ5 H6 (t5.ex e6) ha0 (la.ext e6) (by rw [List.length_map]; exact klen.1) (by rw [List.length_map]; exact klen.2) (fun r hr => ?_) ((s5.ext e6.t).lessL ⟨rfl, rfl, rfl, rfl, trivial⟩)
    obtain ⟨k, hk, rfl⟩ := List.mem_map.mp hr
    have := kmem k hk
    exact upR_ok sz (by simp; exact hs48) k this.1 this.2
end W9
set_option maxHeartbeats 4000000
/-! renumbered -/
namespace W9
open PySem PySem.Spec PyProof.Rows L2
theorem idx_min {y : Nat} : ∀ (ps : List Nat) (m : Nat), m < ps.idxOf y → ps[m]? ≠ some y
  | [], m, h => by simp at h
  | x :: ps, m, h => by
    rw [List.idxOf_cons] at h
    cases hx : (x == y) with
    | true =>
      rw [hx] at h
      simp at h
    | false =>
      rw [hx] at h
      cases m with
      | zero =>
        have ne : x ≠ y := fun z => by rw [z] at hx; simp at hx
        simpa using ne
      | succ m =>
        have h' : m < ps.idxOf y := by simpa using h
        simpa using idx_min ps m h'
section
variable {K : PySem.W.Frag} {Γ : Cxt} {P : Hp → Prop} {te tl to : TE} {l : List Dt} {i n : Nat} {ws : List Nat} {a : Addr} {D : Ends} {σ : L2.St} {H : Hp} {tu : TS}
theorem flat_ints (ys : List Int) : (ys.map V.int).all flatV = true := by
  rw [List.all_eq_true]
  intro x hx
  obtain ⟨y, _, rfl⟩ := List.mem_map.mp hx
  rfl
/-- places.index(y) -/
theorem pu_index [Stb P] {ps : List Nat} {y : Nat} (ho : Pu to Γ P (dr a)) (he : Pu te Γ P (dn y)) (hP : ∀ H, P H → LstAt H a (ps.map dn)) (hy : y ∈ ps) : Pu (tBM K "list" (rIndex K) to (tCons te tNil)) Γ P (dn (ps.idxOf y)) := fun σ H s p Q q =>
  ho σ H s p _ fun x H1 e1 h1 => by
    cases h1.v_eq
    refine ⟨tyL (hP H1 (Stb.ext e1 p)), he σ H1 (s.ext e1.t) (Stb.ext e1 p) _ fun z H2 e2 h2 => ?_⟩
    have e12 := e1.trans e2
    have hl := hP H2 (Stb.ext e12 p)
    have hl2 : LstAt H2 a ((ps.map fun n : Nat => (n : Int)).map di) := by
      rw [List.map_map]
      exact hl
    have hi : ps.idxOf y < ps.length := List.idxOf_lt_length_iff.mpr hy
    refine ⟨a, _, z, ps.idxOf y, .int (y : Int), rfl, rfl, SqL.of hl2.ints, by rw [h2.v_eq]; rfl, flat_ints _, ?_, by rw [h2.v_eq]; simp [eqV], fun m z' hm hz' => ?_, q _ H2 e12 (.leaf _)⟩
    · rw [List.getElem?_map, List.getElem?_map, List.getElem?_eq_getElem hi, List.getElem_idxOf]
      rfl
    · rw [List.getElem?_map, List.getElem?_map] at hz'
      have hm2 : m < ps.length := Nat.lt_trans hm hi
      rw [List.getElem?_eq_getElem hm2] at hz'
      cases hz'
      rw [h2.v_eq]
      have ne : ps[m] ≠ y := fun z => idx_min ps m hm (by rw [List.getElem?_eq_getElem hm2, z])
      show ((ps[m] : Int) == (y : Int)) = false
      rw [beq_eq_false_iff_ne]
      exact fun z => ne (by omega)
/-- over a list of numbers that stays -/
theorem s_forLn {ns : List Nat} (h : Pu tl Γ P (dr a)) (hP : ∀ H, P H → LstAt H a (ns.map dn)) [Stb P] (s : Sl σ H Γ) (p : P H) (J : Nat → L2.St → Hp → Prop) (h0 : ∀ H1, Ex H H1 → J 0 σ H1) (hl : ∀ i σ' H', J i σ' H' → LstAt H' a (ns.map dn))
    (hs : ∀ (k : Nat) x σ' H', ns[k]? = some x → J k σ' H' → tu { D with nx := J (k + 1), ct := J (k + 1), bk := D.nx } (σ'.set i (some (.int (x : Int)))) H')
    (hd : ∀ σ' H', J ns.length σ' H' → D.nx σ' H') : tFor (iList K tl) (gName i) tu D σ H :=
  h σ H s p _ fun x H1 e1 h1 => by
    have got : ∀ H', LstAt H' a (ns.map dn) → SqL K H' a (ns.map fun n : Nat => V.int (n : Int)) := fun H' hh => by
      have hl2 : LstAt H' a ((ns.map fun n : Nat => (n : Int)).map di) := by
        rw [List.map_map]
        exact hh
      have z := hl2.ints
      rw [List.map_map] at z
      exact SqL.of z
    have hl1 := hP H1 (Stb.ext e1 p)
    refine ⟨a, h1.v_eq, ⟨_, got H1 hl1⟩, for_list (xs := ns.map fun n : Nat => V.int (n : Int)) J (h0 H1 e1) (fun i σ' H' _ q => got H' (hl i σ' H' q)) (fun k x σ' H' hx q => ?_) fun σ' H' q => hd σ' H' (by rw [List.length_map] at q; exact q)⟩
    rw [List.getElem?_map] at hx
    cases hn : ns[k]? with
    | none => rw [hn] at hx; cases hx
    | some y =>
      rw [hn] at hx
      cases hx
      exact hs k y σ' H' hn q
end
def ren (ps back row : List Nat) : List Nat := back.map fun x => ps.getD (row.getD x 0) 0
variable {K : PySem.W.Frag} {vs : List V} {H : Hp} {Q : VK} {E : XK}
theorem rd__law_renumbered (h : sp__law_renumbered K vs H Q E) : t__law_renumbered K (Dn Q) (L2.start N__law_renumbered vs) H := by
  obtain ⟨xk, k, a, ps, rfl, hk, ok, ha, hl, hall, hlt, q⟩ := h
  have s := sl_start (N := N__law_renumbered) (l := [kdD k, dr a]) (vs := [xk, .ref a]) (H := H) (.cons hk (.cons (.leaf _) .nil)) (Nat.le_of_ble_eq_true rfl)
  let sz := k.rd.length
  have n8 : sz ≤ 8 := ok.n8
  have hn : ps.length = sz := hl
  let back : List Nat := (List.range ps.length).map fun y => ps.idxOf y
  have blen : back.length = sz := by rw [List.length_map, List.length_range, hn]
  have blt : ∀ x ∈ back, x < sz := fun x hx => by
    obtain ⟨y, hy, rfl⟩ := List.mem_map.mp hx
    rw [← hn]
    exact List.idxOf_lt_length_iff.mpr (hall y (List.mem_range.mp hy))
  let P : Hp → Prop := fun H' => LstAt H' a (ps.map dn)
  refine s_seq (s_asg (P := P) (d := dn ps.length) (Pu.is (pu_cb (pa_c (pu_var rfl) pa_n) (rc_lenL (l := ps.map dn) fun _ h => h)) (by rw [List.length_map])) s ha fun σ1 H1 e1 s1 => ?_)
  have ha1 := ha.ext e1
  refine s_seq (s_asgL (P := P) (l := back.map dn) (PuL.is (pl_lcR (n := ps.length) (fun _ => true) (fun y => dn (ps.idxOf y)) (by decide) (pa_c (pu_var rfl) pa_n) (by omega) (fun _ _ => pt_yes) (fun y hy _ => pu_index (pu_var rfl) (pu_var rfl) (fun _ h => h) (hall y hy))) ?_) s1 ha1 fun b σ2 H2 hb e2 lb s2 => ?_)
  · rw [giv_all, List.map_map]
    rfl
  have ha2 := ha1.ext e2
  let P2 : Hp → Prop := fun H' => LstAt H' a (ps.map dn) ∧ LstAt H' b (back.map dn)
  haveI : Stb P2 := inferInstanceAs (Stb fun H' => LstAt H' a (ps.map dn) ∧ LstAt H' b (back.map dn))
  have ixP : ∀ y, y < sz → atI (ps.map dn) (y : Int) = some (dn (ps.getD y 0)) := fun y hy => atI_map (by rw [hn]; exact hy) 0
  have bget : ∀ {j : Nat} {d : Dt}, (back.map dn)[j]? = some d → ∃ x, x < sz ∧ back.getD j 0 = x ∧ d = dn x := fun {j d} h => by
    obtain ⟨x, h1, h2, rfl⟩ := row_get h
    exact ⟨x, blt x h2, by simp [List.getD, h1], rfl⟩
  have rowL : ∀ (f : Nat → Nat), giv (back.map dn).length (fun _ => true) (fun j => dn (f (back.getD j 0))) = (back.map f).map dn := fun f => by
    rw [giv_all, List.length_map, List.map_map]
    exact map_range_getD back 0 (fun x => dn (f x))
  have upsl : ∀ {j : Nat} {d : Dt}, (k.ups.map rowD)[j]? = some d → ∃ r, RowOk sz r ∧ k.ups.getD j [] = r ∧ d = rowD r := fun {j d} h => by
    obtain ⟨x, h1, h2, rfl⟩ := rows_get h
    exact ⟨x, ok.ups x h2, by simp [List.getD, h1], rfl⟩
  refine s_seq (s_asg (P := P2) (d := rowsD (k.ups.map (ren ps back))) (Pu.is (pu_tupL (pl_lcT (l := k.ups.map rowD) (fun _ => true) (fun j => rowD (ren ps back (k.ups.getD j []))) (by decide) (pu_ix (pu_var rfl) rfl) (by rw [List.length_map]; have := ok.u4; omega) (fun _ _ _ => pt_yes) (fun j d hd _ => ?_))) ?_) s2 ⟨ha2, lb⟩ fun σ3 H3 e3 s3 => ?_)
  · obtain ⟨r, hr, er, rfl⟩ := upsl hd
    rw [er]
    refine pu_tupL (PuL.is (pl_lcL (a := b) (l := back.map dn) (fun _ => true) (fun j => dn (ps.getD (r.getD (back.getD j 0) 0) 0)) (by decide) (pu_var rfl) (fun _ h => h.2) (by rw [List.length_map, blen]; omega) (fun _ _ _ => pt_yes) (fun j d hd _ => ?_)) (rowL fun x => ps.getD (r.getD x 0) 0))
    obtain ⟨x, hx, ex, rfl⟩ := bget hd
    rw [ex]
    exact pu_op (pu_var rfl) (pu_op (pu_var rfl) (pu_var rfl) (rv_ixT (atI_map (by rw [hr.1]; exact hx) 0))) (rv_ixL (fun _ h => h.1) (ixP _ (hr.2 _ (getD_lt (by rw [hr.1]; exact hx) 0))))
  · rw [giv_all, List.length_map]
    show Dt.tup _ = Dt.tup _
    rw [List.map_map]
    exact congrArg Dt.tup (map_range_getD k.ups [] (fun r => rowD (ren ps back r)))
  have p3 : P2 H3 := Stb.ext e3 ⟨ha2, lb⟩
  have hb0 : H b = none := e1.free hb
  refine s_seq (s_asgL (P := fun _ => True) (pl_lst pa_n (by simp)) s3 trivial fun f σ4 H4 hf e4 lf s4 => ?_)
  have p4 : P2 H4 := Stb.ext e4 p3
  have e04 : Ex H H4 := ((e1.trans e2).trans e3).trans e4
  have hf0 : H f = none := ((e1.trans e2).trans e3).free hf
  have naf : a ≠ f := fun z => by
    obtain ⟨xs, h1, _⟩ := p3.1
    rw [z, hf] at h1
    cases h1
  have nbf : b ≠ f := fun z => by
    obtain ⟨xs, h1, _⟩ := p3.2
    rw [z, hf] at h1
    cases h1
  let J : Nat → L2.St → Hp → Prop := fun i σ' H' => Sl σ' H' [some (kdD k), some (dr a), some (dn ps.length), some (dr b), none, some (rowsD (k.ups.map (ren ps back))), some (dr f), none, none] ∧ Ex H H' ∧ P2 H' ∧ LstAt H' f (((back.take i).map fun x => ren ps back (k.mg.getD x [])).map rowD)
  refine s_seq (s_forLn (P := P2) (ns := back) (pu_var rfl) (fun _ h => h.2) s4 p4 J ?_ (fun _ _ _ j => j.2.2.1.2) ?_ ?_)
  · exact fun H5 e5 => ⟨(s4.ext e5.t).lessL ⟨rfl, rfl, rfl, rfl, rfl, rfl, trivial⟩, e04.trans e5, Stb.ext e5 p4, lf.ext e5⟩
  · intro i x σ' H' hx hJ
    obtain ⟨sJ, eJ, pJ, fJ⟩ := hJ
    have s5 := sJ.set (x := .int (x : Int)) (d := dn x) (.leaf _) 4
    have hxs : x < sz := blt x (List.mem_of_getElem? hx)
    have hxm : x < k.mg.length := by rw [ok.m1]; exact hxs
    have hr : RowOk sz (k.mg.getD x []) := ok.mg _ (getD_lt hxm [])
    refine s_append (P := fun H' => P2 H' ∧ LstAt H' f (((back.take i).map fun x => ren ps back (k.mg.getD x [])).map rowD)) (d := rowD (ren ps back (k.mg.getD x []))) (pu_var rfl) (pu_tupL (PuL.is (pl_lcL (a := b) (l := back.map dn) (fun _ => true) (fun j => dn (ps.getD ((k.mg.getD x []).getD (back.getD j 0) 0) 0)) (by decide) (pu_var rfl) (fun _ h => h.1.2) (by rw [List.length_map, blen]; omega) (fun _ _ _ => pt_yes) (fun j d hd _ => ?_)) (rowL fun y => ps.getD ((k.mg.getD x []).getD y 0) 0))) s5 ⟨pJ, fJ⟩ (fun _ h => h.2) (by rw [List.length_map, List.length_map, List.length_take]; omega) fun H6 x6 b6 l6 => ?_
    · obtain ⟨y, hy, ey, rfl⟩ := bget hd
      rw [ey]
      exact pu_op (pu_var rfl) (pu_op (pu_op (pu_ix (pu_var rfl) rfl) (pu_var rfl) (rv_ixT (atI_map hxm []))) (pu_var rfl) (rv_ixT (atI_map (by rw [hr.1]; exact hy) 0))) (rv_ixL (fun _ h => h.1.1) (ixP _ (hr.2 _ (getD_lt (by rw [hr.1]; exact hy) 0))))
    · refine ⟨(s5.ext x6).lessL ⟨rfl, rfl, rfl, rfl, rfl, rfl, trivial⟩, b6.ex hf0 eJ, ⟨pJ.1.at' x6 b6 naf, pJ.2.at' x6 b6 nbf⟩, ?_⟩
      rw [List.take_succ, hx, List.map_append, List.map_append]
      exact l6
  intro σ5 H5 hJ
  obtain ⟨s5, e5, p5, f5⟩ := hJ
  rw [List.take_length] at f5
  have st' : ps.getD k.st 0 < sz := by rw [← hn]; exact hlt _ (getD_lt (by rw [hn]; exact ok.st) 0)
  refine s_ret (P := fun H' => P2 H' ∧ LstAt H' f ((back.map fun x => ren ps back (k.mg.getD x [])).map rowD)) (d := kdD ⟨ps.getD k.st 0, k.ups.map (ren ps back), back.map fun x => ren ps back (k.mg.getD x []), back.map fun x => k.rd.getD x 0⟩) (pu_tup (pa_c (pu_op (pu_var rfl) (pu_ix (pu_var rfl) rfl) (rv_ixL (fun _ h => h.1.1) (ixP _ ok.st))) (pa_c (pu_var rfl) (pa_c (pu_cb (pa_c (pu_var rfl) pa_n) (rc_tupL fun _ h => h.2))
    (pa_c (pu_tupL (PuL.is (pl_lcL (a := b) (l := back.map dn) (fun _ => true) (fun j => dn (k.rd.getD (back.getD j 0) 0)) (by decide) (pu_var rfl) (fun _ h => h.1.2) (by rw [List.length_map, blen]; omega) (fun _ _ _ => pt_yes) (fun j d hd _ => ?_)) (rowL fun x => k.rd.getD x 0))) pa_n)))) (by simp)) s5 ⟨p5, f5⟩ fun x H6 e6 h6 => ?_
  · obtain ⟨y, hy, ey, rfl⟩ := bget hd
    rw [ey]
    exact pu_op (pu_ix (pu_var rfl) rfl) (pu_var rfl) (rv_ixT (atI_map hy 0))
  have renOk : ∀ r, RowOk sz r → RowOk sz (ren ps back r) := fun r hr => by
    refine ⟨by unfold ren; rw [List.length_map, blen], fun x hx => ?_⟩
    obtain ⟨y, hy, rfl⟩ := List.mem_map.mp hx
    rw [← hn]
    refine hlt _ (getD_lt ?_ 0)
    rw [hn]
    exact hr.2 _ (getD_lt (by rw [hr.1]; exact blt y hy) 0)
  have rl : (back.map fun x => k.rd.getD x 0).length = sz := by rw [List.length_map, blen]
  refine q x H6 _ (e5.trans e6) ⟨?_, ?_, ?_, ?_, ?_, ?_, ?_, ?_, ?_⟩ h6
  · show 1 ≤ (back.map fun x => k.rd.getD x 0).length
    rw [rl]; exact ok.n1
  · show (back.map fun x => k.rd.getD x 0).length ≤ 8
    rw [rl]; exact n8
  · intro y hy
    obtain ⟨z, hz, rfl⟩ := List.mem_map.mp hy
    exact ok.rd9 _ (getD_lt (blt z hz) 0)
  · show _ < (back.map fun x => k.rd.getD x 0).length
    rw [rl]; exact st'
  · show 1 ≤ (k.ups.map _).length
    rw [List.length_map]; exact ok.u1
  · show (k.ups.map _).length ≤ 4
    rw [List.length_map]; exact ok.u4
  · intro r hr
    obtain ⟨z, hz, rfl⟩ := List.mem_map.mp hr
    show RowOk (back.map fun x => k.rd.getD x 0).length _
    rw [rl]
    exact renOk z (ok.ups z hz)
  · show (back.map _).length = (back.map fun x => k.rd.getD x 0).length
    rw [rl, List.length_map, blen]
  · intro r hr
    obtain ⟨z, hz, rfl⟩ := List.mem_map.mp hr
    show RowOk (back.map fun x => k.rd.getD x 0).length _
    rw [rl]
    exact renOk _ (ok.mg _ (getD_lt (by rw [ok.m1]; exact blt z hz) []))
end W9
set_option maxHeartbeats 4000000
/-! holding, any -/
namespace W9
open PySem PySem.Spec PyProof.Rows L2
section
variable {m c g : Addr} {K : PySem.W.Frag} {Γ : Cxt} {P : Hp → Prop} {ta tb te tl tm : TE} {tt : TT} {tr : TA} {l l1 l2 : List Dt} {B n : Nat} {i : Nat} {H H4 : Hp} {a a1 : Addr} {b : Bool} {E : XK}
theorem DrTo.newOf (t : DrTo m c g n H H4) (ha : H4 a = none) : H a = none := by
  cases hz : H a with
  | none => rfl
  | some o =>
    exfalso
    obtain ⟨cs, gs, k1, k2, k3, k4, k5, k6, k7⟩ := t.2.2
    by_cases hm : a ∈ [m, g]
    · rcases List.mem_cons.mp hm with z | z
      · rw [z, k1] at ha; cases ha
      · rw [List.mem_singleton.mp z, k6] at ha; cases ha
    · have := t.2.1 a o hm hz
      rw [ha] at this
      cases this
theorem DrAt.nmg (d : DrAt H m c g n) (ha : H a = none) : a ∉ [m, g] := fun z => by
  obtain ⟨cs, gs, k1, k2, k3, k4, k5, k6, k7⟩ := d
  rcases List.mem_cons.mp z with z | z
  · rw [z, k1] at ha; cases ha
  · rw [List.mem_singleton.mp z, k6] at ha; cases ha
/-- [x for x in xs if ..] -/
theorem pdl_lcF {vs : List Nat} (hP : StbD m g P) (hi : i ∈ vs) (hiL : i < Γ.length) (h : Pu tl Γ P (dr a)) (hL : ∀ H, P H → LstAt H a l) (na : a ∉ [m, g]) (hz : l.length ≤ 1000) (ht : ∀ d, PDT m c g tt ((wipeC Γ vs).set i (some d)) P B) :
    PDL m c g (tLc (iList K tl) (gName i) tt (tVar i) vs) Γ P (l.length * B) (fun l' => l'.length ≤ l.length ∧ ∀ d ∈ l', d ∈ l) := fun σ H n s p dr0 hn Q q => by
  haveI := hP.stb
  refine h σ H s p _ fun x H1 e1 x1 => ?_
  have dr1 := dr0.ext e1
  have p1 : P H1 := Stb.ext e1 p
  obtain ⟨xs, hx, hxs⟩ := hL H1 p1
  refine ⟨a, x1.v_eq, ⟨xs, SqL.of hx⟩, fun A hA => lc_list (xs := xs) (CwD m c g H1 n B (fun k l' => l'.length ≤ k ∧ ∀ d ∈ l', d ∈ l) A) ⟨hA, n, [], Nat.le_refl _, by omega, (DrTo.of (Same.refl H1) dr1).mut dr1 hA, ⟨[], upd_same, .nil⟩, Nat.zero_le _, fun _ h => by cases h⟩ (fun k H' _ c => ?_) (fun k y H' hy c => ⟨wipe_set σ vs _ hi, ?_⟩) (fun H' c => ?_)⟩
  · obtain ⟨c1, n', l', c2, c3, c4, c5, c6⟩ := c
    exact SqL.of (c4.2.1 a _ na hx)
  · obtain ⟨c1, n', l', c2, c3, c4, c5, c6, c7⟩ := c
    obtain ⟨d, hd, td⟩ := hxs.got hy
    have hk : k < l.length := (List.getElem?_eq_some_iff.mp hd).1
    have hk1 : (k + 1) * B ≤ l.length * B := Nat.mul_le_mul_right B hk
    have hk2 : (k + 1) * B = k * B + B := Nat.succ_mul k B
    have s' := (((s.ext (e1.t.trans c4.1)).wipe vs).set (td.ext c4.1) i)
    have nA := dr1.nmg c1
    refine ht d _ H' n' s' (hP.keep c4.1 c4.2.1 p1) c4.2.2 (by omega) _ fun b H3 n3 l3 u3 t3 => ?_
    have c8 := c5.but t3.1 t3.2.1 nA
    cases b with
    | true =>
      rw [if_pos rfl]
      have hlen : (wipeC Γ vs).length = Γ.length := by
        have h1 := (s.wipe vs).len
        rw [wipe_length, s.len] at h1
        exact h1.symm
      obtain ⟨y', hy1, hy2⟩ := (s'.ext t3.1).at_ i d (by rw [List.getElem?_set_self (by rw [hlen]; exact hiL)])
      obtain ⟨acc, h6, h7⟩ := c8
      refine ⟨y', hy1, acc, h6, sz_lt (by rw [h7.length]; omega), c1, n3, l' ++ [d], by omega, by omega, (c4.trans t3).mut dr1 c1, ⟨acc ++ [y'], upd_same, (h7.append (.cons hy2 .nil)).ext (ext_mut h6 fun _ z => nomatch z)⟩, by rw [List.length_append, List.length_singleton]; omega, fun e he => ?_⟩
      rcases List.mem_append.mp he with z | z
      · exact c7 e z
      · rw [List.mem_singleton.mp z]; exact List.mem_of_getElem? hd
    | false =>
      rw [if_neg Bool.false_ne_true]
      exact ⟨c1, n3, l', by omega, by omega, c4.trans t3, c8, by omega, c7⟩
  · obtain ⟨c1, n', l', c2, c3, c4, c5, c6, c7⟩ := c
    rw [hxs.length] at c3 c6
    exact q A H' n' l' (e1.free c1) c2 c3 ((DrTo.of e1 dr0).trans c4) ⟨c6, c7⟩ c5
/-- tuple(a if .. else a new list) -/
theorem pu_tupIf [Stb P] (ht : PuT tt Γ P b) (h1 : b = true → Pu ta Γ P (dr a1)) (hL : ∀ H, P H → LstAt H a1 l1) (h2 : b = false → PuL tb Γ P l2) : Pu (tCB (rTup9 K) (tCons (tIf tt ta tb) tNil)) Γ P (.tup (if b = true then l1 else l2)) := fun σ H s p Q q =>
  ht σ H s p _ fun H1 e1 => by
    cases b with
    | true =>
      refine h1 rfl σ H1 (s.ext e1.t) (Stb.ext e1 p) _ fun x H2 e2 x2 => ?_
      obtain ⟨ys, k1, k2⟩ := hL H2 (Stb.ext (e1.trans e2) p)
      exact ⟨a1, ys, by rw [x2.v_eq], .inl ⟨SqL.of k1, fun r hr => q _ _ ((e1.trans e2).trans (ex_new hr)) (.tup upd_same (k2.ext (ex_new hr).t))⟩⟩
    | false =>
      refine h2 rfl σ H1 (s.ext e1.t) (Stb.ext e1 p) _ fun x H2 hx e2 x2 => ?_
      obtain ⟨ys, k1, k2⟩ := x2
      exact ⟨x, ys, rfl, .inl ⟨SqL.of k1, fun r hr => q _ _ ((e1.trans e2).trans (ex_new hr)) (.tup upd_same (k2.ext (ex_new hr).t))⟩⟩
theorem pd_reads {sz : Nat} (hP : StbD m g P) (hm : Pu tm Γ P (dr m)) (hl : Pu tl Γ P (dn sz)) (h8 : sz ≤ 8) : PD m c g (tCall (sp__law_reads K) [] E (tCons tm (tCons tl tNil))) Γ P 16 (fun d => ∃ r : List Nat, r.length = sz ∧ (∀ z ∈ r, z ≤ 9) ∧ d = rowD r) := fun σ H n s p dr hn Q q => by
  haveI := hP.stb
  refine hm σ H s p _ fun x H1 e1 x1 => hl σ H1 (s.ext e1.t) (Stb.ext e1 p) _ fun y H2 e2 y2 => ?_
  cases x1.v_eq
  cases y2.v_eq
  exact ⟨m, c, g, n, sz, rfl, dr.ext (e1.trans e2), h8, hn, fun H' n' x r l1 u1 t1 r1 r2 hx => q x H' n' _ l1 u1 ((DrTo.of (e1.trans e2) dr).trans t1) ⟨r, r1, r2, rfl⟩ hx⟩
end
theorem rowS_okd {n : Nat} (h8 : n ≤ 8) {d : Dt} (h : RowS n d) : Okd 1 88 d := by
  obtain ⟨r, ⟨h1, h2⟩, rfl⟩ := h
  refine okd_t (k := 0) (w := 10) (n := 8) (fun d hd => ?_) (by rw [List.length_map]; omega)
  obtain ⟨x, hx, rfl⟩ := List.mem_map.mp hd
  exact okd_n (by have := h2 x hx; omega)
theorem erase_split {α : Type} {L : List α} {r : Nat} (h : r < L.length) : ∀ y, y ∈ L ↔ y ∈ L.eraseIdx r ∨ y = L[r] := fun y => by
  have e : L = L.take r ++ L[r] :: L.drop (r + 1) := by
    conv => lhs; rw [← List.take_append_drop r L, List.drop_eq_getElem_cons h]
  rw [List.eraseIdx_eq_take_drop_succ, List.mem_append]
  constructor
  · intro hy
    rw [e] at hy
    rcases List.mem_append.mp hy with z | z
    · exact .inl (.inl z)
    · rcases List.mem_cons.mp z with z | z
      · exact .inr z
      · exact .inl (.inr z)
  · rintro ((z | z) | z)
    · exact List.mem_of_mem_take z
    · exact List.mem_of_mem_drop z
    · rw [z]
      exact List.getElem_mem h
variable {K : PySem.W.Frag} {vs : List V} {H : Hp} {Q : VK} {E : XK}
theorem rd__law_holding (h : sp__law_holding K vs H Q E) : t__law_holding K (Dn Q) (L2.start N__law_holding vs) H := by
  obtain ⟨m, c, g, n, rfl, dr0, hn, q⟩ := h
  have s := sl_start (N := N__law_holding) (l := [dr m]) (vs := [.ref m]) (H := H) (.cons (.leaf _) .nil) (Nat.le_of_ble_eq_true rfl)
  refine s_seq ⟨.ref m, rfl, m, c, g, n, rfl, dr0, by omega, fun H1 n1 t a u w sz ln1 un1 t1 tb ha la ht => ?_⟩
  refine g_tup (l := [dn 0, dr a, rowsD w, dn sz]) (is := [1, 2, 3, 4]) ht (s.ext t1.1) rfl rfl fun σ1 s1 => ?_
  have na := dr0.nmg ha
  have n8 := tb.n8
  have u3 := tb.u3
  have hul : (u.map rowD).length = u.length := List.length_map _
  have hb3 : u.length * 1 ≤ 3 := by omega
  refine s_seq (s_asgDL (P := fun H' => LstAt H' a (u.map rowD)) (m := m) (c := c) (g := g) (pdl_lcF (B := 1) (i := 9) (vs := [9]) (l := u.map rowD) (stbD_L na) (by decide) (by show 9 < 10; decide) (pu_var rfl) (fun _ h => h) na (by omega) (fun d => pdt_gt0 (stbD_L na) (pd_draw (lim := 4) (stbD_L na) (pu_var rfl) pu_c (by decide) (by decide)))) s1 la t1.2.2 (by rw [hul]; omega) fun b σ2 H2 n2 l' hb l2 un2 t2 hl' lb s2 => ?_)
  rw [hul] at un2 hl'
  have t02 := t1.trans t2
  have hb0 := t1.newOf hb
  have nb := dr0.nmg hb0
  have la2 := la.but t2.1 t2.2.1 na
  have rs : ∀ d ∈ u.map rowD, RowS sz d := fun d hd => by
    obtain ⟨r, hr, rfl⟩ := List.mem_map.mp hd
    exact ⟨r, tb.ups r hr, rfl⟩
  have ok' := okds fun d hd => rowS_okd n8 (rs d (hl'.2 d hd))
  let P2 : Hp → Prop := fun H' => LstAt H' a (u.map rowD) ∧ LstAt H' b l'
  have st2 : StbD m g P2 := stbD_and (stbD_L na) (stbD_L nb)
  haveI := st2.stb
  refine s_seq (s_asgD (P := P2) (B := 0 + (0 + (0 + (16 + 0)))) (S := fun d => ∃ k : Kd, k.Ok ∧ k.rd.length = sz ∧ d = kdD k) (m := m) (c := c) (g := g) (pd_tup (pda_c st2 (pd_pu (S := fun d => d = dn 0) (pu_var rfl) rfl) (pda_c st2 (pd_pu (S := fun d => d = .tup (if (!l'.isEmpty) = true then l' else cutD (u.map rowD) none (some ((1 : Nat) : Int)))) (pu_tupIf (pt_neL (pu_var rfl) (fun _ h => h.2) ok'.1 ok'.2.1 (Nat.le_trans ok'.2.2.2.2.1 (by decide))) (fun _ => pu_var rfl) (fun _ h => h.2) (fun _ => pl_sl (pu_var rfl) (fun _ h => h.1) po_no (po_so pu_c))) rfl)
    (pda_c st2 (pd_pu (S := fun d => d = rowsD w) (pu_var rfl) rfl) (pda_c st2 (pd_reads st2 (pu_var rfl) (pu_var rfl) n8) pda_n)))) fun l hl => ?_) s2 ⟨la2, lb⟩ t02.2.2 (by omega) fun σ3 H3 n3 d3 l3 un3 t3 hd3 s3 => ?_)
  · obtain ⟨d1, r1, rfl, rfl, d2, r2, rfl, rfl, d3, r3, rfl, rfl, d4, r4, rfl, ⟨r, hr1, hr2, rfl⟩, rfl⟩ := hl
    have hu' : ∀ d ∈ (if (!l'.isEmpty) = true then l' else cutD (u.map rowD) none (some ((1 : Nat) : Int))), RowS sz d := fun d hd => by
      split at hd
      · exact rs d (hl'.2 d hd)
      · rw [cutD_to] at hd
        exact rs d (List.mem_of_mem_take hd)
    have hul' : 1 ≤ (if (!l'.isEmpty) = true then l' else cutD (u.map rowD) none (some ((1 : Nat) : Int))).length ∧ (if (!l'.isEmpty) = true then l' else cutD (u.map rowD) none (some ((1 : Nat) : Int))).length ≤ 3 := by
      have u1 := tb.u1
      split
      · rename_i hne
        cases l' with
        | nil => cases hne
        | cons x y =>
          have := hl'.1
          simp only [List.length_cons] at this ⊢
          omega
      · rw [cutD_to, List.length_take, hul]
        omega
    obtain ⟨u', e1, e2, e3⟩ := rows_of hu'
    refine ⟨by simp, ⟨0, u', w, r⟩, ⟨?_, ?_, hr2, ?_, ?_, ?_, ?_, ?_, ?_⟩, hr1, ?_⟩
    · show 1 ≤ r.length
      rw [hr1]; exact tb.n1
    · show r.length ≤ 8
      rw [hr1]; exact n8
    · show 0 < r.length
      rw [hr1]; exact tb.n1
    · show 1 ≤ u'.length
      rw [e2]; exact hul'.1
    · show u'.length ≤ 4
      rw [e2]; have := hul'.2; omega
    · show ∀ x ∈ u', RowOk r.length x
      rw [hr1]; exact e3
    · show w.length = r.length
      rw [hr1]; exact tb.g1
    · show ∀ x ∈ w, RowOk r.length x
      rw [hr1]; exact tb.mg
    · rw [e1]
      rfl
  obtain ⟨k, ok, ksz, rfl⟩ := hd3
  have t03 := t02.trans t3
  refine s_seq (s_parLL (P := fun _ => True) (pl_lstRg (pu_var rfl) (by omega)) (pl_lst pa_n (by simp)) s3 trivial fun lf pl σ4 H4 hlf hpl nlp e4 ll lp s4 => ?_)
  have t04 := t03.ex e4
  have lf0 := t03.newOf hlf
  have pl0 := t03.newOf hpl
  have nlf := dr0.nmg lf0
  have npl := dr0.nmg pl0
  have s4' : Sl σ4 H4 [some (dr m), none, none, none, none, none, some (kdD k), some (dr lf), some (dr pl), none] := s4.lessL ⟨rfl, rfl, rfl, rfl, trivial⟩
  refine s_seq (s_ifD (P := fun _ => True) (m := m) (c := c) (g := g) (pdt_is0 stbD_T (pd_draw (lim := 2) stbD_T (pu_var rfl) pu_c (by decide) (by decide))) s4' trivial t04.2.2 (by omega) (fun H5 n5 l5 u5 t5 => ?_) (fun H5 n5 l5 u5 t5 => s_next ?_))
  · refine s_ret (P := fun _ => True) (pu_var rfl) (s4'.ext t5.1) trivial fun x H6 e6 h6 => ?_
    exact q H6 n5 x k (by omega) (by omega) ((t04.trans t5).ex e6) ok h6
  have t05 := t04.trans t5
  have s5 := s4'.ext t5.1
  have ll5 := ll.but t5.1 t5.2.1 nlf
  have lp5 := lp.but t5.1 t5.2.1 npl
  let W : Nat → L2.St → Hp → Prop := fun j σ' H' => Sl σ' H' [some (dr m), none, none, none, none, none, some (kdD k), some (dr lf), some (dr pl), none] ∧ ∃ (n' : Nat) (L R : List Nat), L.length = j ∧ n5 ≤ n' ∧ n' + j ≤ n5 + sz ∧ DrTo m c g n' H H' ∧ LstAt H' lf (L.map dn) ∧ LstAt H' pl (R.map dn) ∧ L.length + R.length = sz ∧ (∀ y, y < sz → y ∈ L ∨ y ∈ R) ∧ (∀ y ∈ L, y < sz) ∧ ∀ y ∈ R, y < sz
  refine s_seq ⟨W, ⟨sz, s5, n5, List.range sz, [], List.length_range, Nat.le_refl _, Nat.le_refl _, t05, ?_, lp5, by simp, fun y hy => .inl (List.mem_range.mpr hy), fun y hy => List.mem_range.mp hy, fun y hy => by cases hy⟩, ?_⟩
  · exact ll5
  rintro j σ' H' ⟨s', n', L, R, hLj, h1, h2, t', lL, lR, hLR, hall, hLlt, hRlt⟩
  refine pt_neL (P := fun H' => LstAt H' lf (L.map dn)) (l := L.map dn) (pu_var rfl) (fun _ h => h) (nbs_pls _ (row_nb L)) (row_pys L).1 (Nat.le_trans (Nat.le_of_eq (row_pys L).2) (by decide)) σ' H' s' lL _ fun H7 e7 => ?_
  have t7 := t'.ex e7
  cases L with
  | nil =>
    rw [if_neg (by decide)]
    obtain ⟨xk, hx6, tk⟩ := (s'.ext e7.t).at_ 6 (kdD k) rfl
    obtain ⟨xp, hx8, tp⟩ := (s'.ext e7.t).at_ 8 (dr pl) rfl
    cases tp.v_eq
    have hR : R.length = sz := by simpa using hLR
    refine ⟨xk, hx6, .ref pl, hx8, xk, k, pl, R, rfl, tk, ok, lR.ext e7, by rw [hR, ksz], fun y hy => ?_, fun p hp => by rw [hR]; exact hRlt p hp, fun x H8 k' e8 ok' hx => ?_⟩
    · rcases hall y (by rw [← hR]; exact hy) with z | z
      · cases z
      · exact z
    · exact q H8 n' x k' (by omega) (by omega) (t7.ex e8) ok' hx
  | cons y0 L0 =>
    rw [if_pos (show (!(List.map dn (y0 :: L0)).isEmpty) = true from rfl)]
    refine ⟨W (j - 1), fun σ'' H'' w' => ⟨j - 1, by simp at hLj; omega, w'⟩, ?_⟩
    have s7 := s'.ext e7.t
    have lL7 := lL.ext e7
    have lR7 := lR.ext e7
    obtain ⟨xp, hx8, tp⟩ := s7.at_ 8 (dr pl) rfl
    cases tp.v_eq
    obtain ⟨xl, hx7, tl⟩ := s7.at_ 7 (dr lf) rfl
    cases tl.v_eq
    refine ⟨.ref pl, hx8, tyL lR7, .ref lf, hx7, tyL lL7, ?_⟩
    generalize hLe : y0 :: L0 = L at *
    have hLpos : 0 < L.length := by rw [← hLe]; simp
    refine pd_draw (m := m) (c := c) (g := g) (lim := L.length) (P := fun H' => LstAt H' lf (L.map dn)) (stbD_L nlf) (pu_var rfl) (Pu.is (pu_cb (pa_c (pu_var rfl) pa_n) (rc_lenL (l := L.map dn) fun _ h => h)) (by rw [List.length_map])) (by omega) (by omega) σ' H7 n' s7 lL7 t7.2.2 (by omega) _ fun x H8 n8' d l8 u8 t8 hd hx => ?_
    obtain ⟨r, hr, rfl⟩ := hd
    cases hx.v_eq
    obtain ⟨xs, g1, g2⟩ := lL7.but t8.1 t8.2.1 nlf
    obtain ⟨ys, g3, g4⟩ := lR7.but t8.1 t8.2.1 npl
    have hxl : xs.length = L.length := by rw [g2.length, List.length_map]
    obtain ⟨y, hy1, hy2⟩ := g2.get (i := r) (d := dn L[r]) (by rw [List.getElem?_map, List.getElem?_eq_getElem hr]; rfl)
    have et1 : ExT H8 (upd H8 lf (.lst (xs.eraseIdx r))) := ext_mut g1 fun _ z => nomatch z
    have g5 : (upd H8 lf (.lst (xs.eraseIdx r))) pl = some (.lst ys) := by
      rw [upd_ne (Ne.symm nlp)]
      exact g3
    have et2 : ExT (upd H8 lf (.lst (xs.eraseIdx r))) (upd (upd H8 lf (.lst (xs.eraseIdx r))) pl (.lst (ys ++ [y]))) := ext_mut g5 fun _ z => nomatch z
    have et := et1.trans et2
    refine ⟨lf, xs, (r : Int), r, y, rfl, rfl, g1, by omega, by have e63 : (2 : Int) ^ 63 = 9223372036854775808 := by decide
                                                                omega, ?_, hy1, ?_⟩
    · unfold seqIndex?
      simp only [show ¬ ((r : Int) < 0) by omega, if_false]
      rw [if_pos (by rw [Bool.and_eq_true, decide_eq_true_eq, decide_eq_true_eq]; omega)]
      simp
    refine ⟨pl, ys, y, rfl, rfl, g5, sz_lt (by rw [g4.length, List.length_map]; omega), ?_⟩
    have hsp := erase_split hr
    refine ⟨(s7.ext (t8.1.trans et)), n8', L.eraseIdx r, R ++ [L[r]], by rw [List.length_eraseIdx_of_lt hr]; omega, by omega, by omega, ((t7.trans t8).mut dr0 lf0).mut dr0 pl0, ?_, ?_, ?_, fun y hy => ?_, fun y hy => ?_, fun y hy => ?_⟩
    · refine ⟨xs.eraseIdx r, ?_, ?_⟩
      · rw [upd_ne nlp]
        exact upd_same
      · have z := (g2.eraseIdx r).ext et
        rw [show (L.map dn).eraseIdx r = (L.eraseIdx r).map dn from by rw [List.eraseIdx_eq_take_drop_succ, List.eraseIdx_eq_take_drop_succ, List.map_append, List.map_take, List.map_drop]] at z
        exact z
    · refine ⟨ys ++ [y], upd_same, ?_⟩
      rw [List.map_append]
      exact (g4.append (.cons hy2 .nil)).ext et
    · rw [List.length_append, List.length_singleton, List.length_eraseIdx_of_lt hr]
      omega
    · rcases hall y hy with z | z
      · rcases (hsp y).mp z with z | z
        · exact .inl z
        · exact .inr (List.mem_append_right _ (by rw [z]; exact List.mem_singleton_self _))
      · exact .inr (List.mem_append_left _ z)
    · exact hLlt y ((hsp y).mpr (.inl hy))
    · rcases List.mem_append.mp hy with z | z
      · exact hRlt y z
      · rw [List.mem_singleton.mp z]
        exact hLlt _ (List.getElem_mem hr)
theorem DrAt.nmg' {m c g a : Addr} {n : Nat} {H : Hp} (d : DrAt H m c g n) (ha : H a = none) : a ≠ m ∧ a ≠ c ∧ a ≠ g := by
  obtain ⟨cs, gs, k1, k2, k3, k4, k5, k6, k7⟩ := d
  refine ⟨fun z => ?_, fun z => ?_, fun z => ?_⟩
  · rw [z, k1] at ha; cases ha
  · rw [z, k3] at ha; cases ha
  · rw [z, k6] at ha; cases ha
theorem rowOk_set {n : Nat} {r : List Nat} (h : RowOk n r) {i v : Nat} (hv : v < n) : RowOk n (r.set i v) := by
  refine ⟨by rw [List.length_set]; exact h.1, fun x hx => ?_⟩
  rcases List.mem_or_eq_of_mem_set hx with z | z
  · exact h.2 x z
  · rw [z]; exact hv
end W9
set_option maxHeartbeats 4000000
/-! any -/
namespace W9
open PySem PySem.Spec PyProof.Rows L2
theorem pda_mono {m c g : Addr} {tr : TA} {Γ : Cxt} {P : Hp → Prop} {B B1 : Nat} {T T1 : List Dt → Prop} (h : PDA m c g tr Γ P B T) (hb : B ≤ B1) (hs : ∀ d, T d → T1 d) : PDA m c g tr Γ P B1 T1 := fun σ H n s p dr hn Q q => h σ H n s p dr (by omega) Q fun x H' n' d a b t hd ht => q x H' n' d a (by omega) t (hs d hd) ht
theorem cut_mid {u : List (List Nat)} {k : Nat} (hk : k < u.length) (r : List Nat) : ((u.map rowD).take k ++ [rowD r]) ++ (u.map rowD).drop (k + 1) = (u.set k r).map rowD := by
  rw [set_cat (by rw [List.length_map]; exact hk), List.map_set]
variable {K : PySem.W.Frag} {vs : List V} {H : Hp} {Q : VK} {E : XK}
theorem rd__law_any (h : sp__law_any K vs H Q E) : t__law_any K (Dn Q) (L2.start N__law_any vs) H := by
  obtain ⟨m, c, g, n, rfl, dr0, hn, q⟩ := h
  have s := sl_start (N := N__law_any) (l := [dr m]) (vs := [.ref m]) (H := H) (.cons (.leaf _) .nil) (Nat.le_of_ble_eq_true rfl)
  refine s_seq (s_ifD (P := fun _ => True) (m := m) (c := c) (g := g) (pdt_is0 stbD_T (pd_draw (lim := 3) stbD_T (pu_var rfl) pu_c (by decide) (by decide))) s trivial dr0 (by omega) (fun H1 n1 l1 u1 t1 => ?_) (fun H1 n1 l1 u1 t1 => s_next ?_))
  · refine s_seq (s_asgD (P := fun _ => True) (m := m) (c := c) (g := g) (B := 0 + 1) (S := fun d => ∃ z : Nat, 1 ≤ z ∧ z ≤ 5 ∧ d = dn z) (pd_op (S1 := fun d => d = dn 1) stbD_T (pd_pu pu_c rfl) (pd_draw (lim := 5) stbD_T (pu_var rfl) pu_c (by decide) (by decide)) fun d e hd he => ?_) (s.ext t1.1) trivial t1.2.2 (by omega) fun σ2 H2 n2 d2 l2 u2 t2 hd2 s2 => ?_)
    · subst hd
      obtain ⟨r, hr, rfl⟩ := he
      exact ⟨_, ⟨1 + r, by omega, by omega, congrArg di (by omega)⟩, rv_add⟩
    obtain ⟨sz, z1, z5, rfl⟩ := hd2
    have t02 := t1.trans t2
    refine s_seq (s_asgDL (P := fun _ => True) (m := m) (c := c) (g := g) (B := 1 + 8 * (sz * 1)) (pdl_lcR (i := 2) (vs := [2]) (B := sz * 1) (B0 := 1) (S := RowS sz) (N := 8) (R := fun k => sz + 1 ≤ k ∧ k ≤ sz + 3) stbD_T (by decide) (pda_mono (pda_c (S := fun d => ∃ k : Nat, sz + 1 ≤ k ∧ k ≤ sz + 3 ∧ d = dn k) (B1 := 0 + 1) stbD_T (pd_op (S1 := fun d => d = dn (sz + 1)) stbD_T (pd_pu (Pu.is (pu_op (pu_var rfl) pu_c rv_add) (congrArg di (by omega))) rfl) (pd_draw (lim := 3) stbD_T (pu_var rfl) pu_c (by decide) (by decide)) fun d e hd he => ?_) pda_n) (Nat.le_refl 1) fun l hl => ?_) (by decide) fun k j hk hj => pd_row (i := 10) (vs := [10]) stbD_T (by decide) (pu_var rfl) (by omega) fun x hx => pd_draw stbD_T (pu_var rfl) (pu_var rfl) (by omega) (by omega)) s2 trivial t02.2.2 (by omega) fun b σ3 H3 n3 l hb l3 u3 t3 hl lb s3 => ?_)
    · subst hd
      obtain ⟨r, hr, rfl⟩ := he
      exact ⟨_, ⟨sz + 1 + r, by omega, by omega, congrArg di (by omega)⟩, rv_add⟩
    · obtain ⟨d, r, rfl, ⟨k, k1, k2, rfl⟩, rfl⟩ := hl
      exact ⟨k, by omega, ⟨k1, k2⟩, rfl⟩
    have t03 := t02.trans t3
    obtain ⟨N, _, ⟨N1, N3⟩, hN, hrow⟩ := hl
    obtain ⟨u, ue, ul, uo⟩ := rows_of hrow
    have nb := dr0.nmg (t02.newOf hb)
    let P3 : Hp → Prop := fun H' => LstAt H' b l
    have st3 : StbD m g P3 := stbD_L nb
    haveI := st3.stb
    refine s_retD (P := P3) (m := m) (c := c) (g := g) (B := 1 + (0 + (0 + (16 + 0)))) (S := fun d => ∃ k : Kd, k.Ok ∧ d = kdD k) (pd_tup (pda_c st3 (pd_draw st3 (pu_var rfl) (pu_var rfl) (by omega) (by omega)) (pda_c st3 (pd_pu (S := fun d => d = rowsD (u.drop sz)) (Pu.is (pu_tupL (pl_sl (pu_var rfl) (fun _ h => h) (po_so (pu_var rfl)) po_no)) (by rw [cutD_from, ue, ← List.map_drop]; rfl)) rfl) (pda_c st3 (pd_pu (S := fun d => d = rowsD (u.take sz)) (Pu.is (pu_tupL (pl_sl (pu_var rfl) (fun _ h => h) po_no (po_so (pu_var rfl)))) (by rw [cutD_to, ue, ← List.map_take]; rfl)) rfl) (pda_c st3 (pd_reads st3 (pu_var rfl) (pu_var rfl) (by omega)) pda_n)))) fun l hl => ?_) s3 lb t03.2.2 (by omega) fun x H4 n4 d l4 u4 t4 hd hx => ?_
    · obtain ⟨d1, r1, rfl, ⟨z, hz, rfl⟩, d2, r2, rfl, rfl, d3, r3, rfl, rfl, d4, r4, rfl, ⟨r, hr1, hr2, rfl⟩, rfl⟩ := hl
      refine ⟨by simp, ⟨z, u.drop sz, u.take sz, r⟩, ⟨?_, ?_, hr2, ?_, ?_, ?_, ?_, ?_, ?_⟩, rfl⟩
      · show 1 ≤ r.length
        omega
      · show r.length ≤ 8
        omega
      · show z < r.length
        omega
      · show 1 ≤ (u.drop sz).length
        rw [List.length_drop]; omega
      · show (u.drop sz).length ≤ 4
        rw [List.length_drop]; omega
      · show ∀ x ∈ u.drop sz, RowOk r.length x
        rw [hr1]; exact fun x hx => uo x (List.mem_of_mem_drop hx)
      · show (u.take sz).length = r.length
        rw [List.length_take]; omega
      · show ∀ x ∈ u.take sz, RowOk r.length x
        rw [hr1]; exact fun x hx => uo x (List.mem_of_mem_take hx)
    · obtain ⟨k, ok, rfl⟩ := hd
      exact q H4 n4 x k (by omega) (by omega) (t03.trans t4) ok hx
  · refine s_seq ⟨.ref m, by rw [(s.ext t1.1).at_ 0 (dr m) rfl |>.choose_spec.1, ((s.ext t1.1).at_ 0 (dr m) rfl).choose_spec.2.v_eq], m, c, g, n1, rfl, t1.2.2, by omega, fun H2 n2 x k l2 u2 t2 ok hx => ?_⟩
    refine g_tup (l := [dn k.st, rowsD k.ups, rowsD k.mg, rowD k.rd]) (is := [4, 5, 6, 7]) hx ((s.ext t1.1).ext t2.1) rfl rfl fun σ2 s2 => ?_
    have t02 := t1.trans t2
    have k1 := ok.n1
    have k8 := ok.n8
    have k4 := ok.u4
    have hrl : (k.rd.map dn).length = k.rd.length := List.length_map _
    have pln : ∀ {P : Hp → Prop} [Stb P] {Γ : Cxt}, Γ[7]? = some (some (rowD k.rd)) → Pu (tCB (rLen9 K) (tCons (tVar 7) tNil)) Γ P (dn k.rd.length) := fun {P} _ {Γ} h => Pu.is (pu_cb (pa_c (pu_var h) pa_n) (rc_lenT (l := k.rd.map dn))) (by rw [hrl])
    refine s_seq (s_unpD (is := [1, 2]) (P := fun _ => True) (m := m) (c := c) (g := g) (B := 0 + (1 + 0)) (S := fun d => ∃ z : Nat, z < k.rd.length ∧ d = .tup [dn k.rd.length, dn z]) (pd_tup (pda_c (S := fun d => d = dn k.rd.length) stbD_T (pd_pu (pln rfl) rfl) (pda_c stbD_T (pd_draw stbD_T (pu_var rfl) (pln rfl) k1 (by omega)) pda_n)) fun l hl => ?_) rfl (fun d hd => ?_) s2 trivial t02.2.2 (by omega) fun σ3 H3 n3 l l3 u3 t3 hd3 s3 => ?_)
    · obtain ⟨d1, r1, rfl, rfl, d2, r2, rfl, ⟨z, hz, rfl⟩, rfl⟩ := hl
      exact ⟨by simp, z, hz, rfl⟩
    · obtain ⟨z, hz, rfl⟩ := hd
      exact ⟨_, rfl, rfl⟩
    obtain ⟨z, hz, el⟩ := hd3
    cases el
    have t03 := t02.trans t3
    have hzm : z < k.mg.length := by rw [ok.m1]; exact hz
    have hr0 : RowOk k.rd.length (k.mg.getD z []) := ok.mg _ (getD_lt hzm [])
    refine s_seq (s_asg (P := fun _ => True) (d := rowD (k.mg.getD z [])) (pu_op (pu_var rfl) (pu_var rfl) (rv_ixT (atI_map hzm []))) s3 trivial fun σ4 H4 e4 s4 => ?_)
    have t04 := t03.ex e4
    -- the last step, whichever the ups and the row
    have fin : ∀ (σ6 : L2.St) (H6 : Hp) (n6 : Nat) (r : List Nat) (u : List (List Nat)), n ≤ n6 → n6 ≤ n + 120 → DrTo m c g n6 H H6 → RowOk k.rd.length r → 1 ≤ u.length → u.length ≤ 4 → (∀ x ∈ u, RowOk k.rd.length x) → Sl σ6 H6 [some (dr m), some (dn k.rd.length), some (dn z), none, some (dn k.st), some (rowsD u), some (rowsD k.mg), some (rowD k.rd), some (rowD r), none, none] →
        tRet (tTup (tCons (tVar 4) (tCons (tVar 5) (tCons (tOp (rAdd9 K) (tOp (rAdd9 K) (tSl (rSl9 K) (tVar 6) tNoPart (tPart (tVar 2))) (tTup (tCons (tVar 8) tNil))) (tSl (rSl9 K) (tVar 6) (tPart (tOp (rAdd9 K) (tVar 2) (tC (.int 1)))) tNoPart)) (tCons (tVar 7) tNil))))) (Dn Q) σ6 H6 := by
      intro σ6 H6 n6 r u h1 h2 t6 hr hu1 hu4 huo s6
      have ez : (z : Int) + 1 = ((z + 1 : Nat) : Int) := by omega
      have hml : (k.mg.map rowD).length = k.rd.length := by rw [List.length_map, ok.m1]
      refine s_ret (P := fun _ => True) (d := kdD ⟨k.st, u, k.mg.set z r, k.rd⟩) (pu_tup (pa_c (pu_var rfl) (pa_c (pu_var rfl) (pa_c (Pu.is (pu_op (pu_op (pu_sl (pu_var rfl) po_no (po_so (pu_var rfl))) (pu_tup (pa_c (pu_var rfl) pa_n) (by simp)) (rv_cat (by rw [cutD_to, List.length_take, hml, List.length_singleton]; omega))) (pu_sl (pu_var rfl) (po_so (Pu.is (pu_op (pu_var rfl) pu_c rv_add) (congrArg di ez))) po_no) (rv_cat (by rw [cutD_to, cutD_from, List.length_append, List.length_take, List.length_drop, hml, List.length_singleton]; omega)))
        (by rw [cutD_to, cutD_from, cut_mid hzm r]; rfl)) (pa_c (pu_var rfl) pa_n)))) (by simp)) s6 trivial fun x H7 e7 h7 => ?_
      refine q H7 n6 x ⟨k.st, u, k.mg.set z r, k.rd⟩ h1 h2 (t6.ex e7) ⟨k1, k8, ok.rd9, ok.st, hu1, hu4, huo, ?_, ?_⟩ h7
      · show (k.mg.set z r).length = k.rd.length
        rw [List.length_set, ok.m1]
      · intro x hx
        rcases List.mem_or_eq_of_mem_set hx with w | w
        · exact ok.mg x w
        · rw [w]; exact hr
    -- the ups drawn or kept
    have mid : ∀ (σ5 : L2.St) (H5 : Hp) (n5 : Nat) (r : List Nat), n ≤ n5 → n5 ≤ n + 100 → DrTo m c g n5 H H5 → RowOk k.rd.length r → Sl σ5 H5 [some (dr m), some (dn k.rd.length), some (dn z), none, some (dn k.st), some (rowsD k.ups), some (rowsD k.mg), some (rowD k.rd), some (rowD r), none, none] →
        tSeq (tIfS (tTest (tOp (rEq9 K) (tCall (sp__law_draw K) [] E0 (tCons (tVar 0) (tCons (tC (.int 4)) tNil))) (tC (.int 0)))) (tAsg (tOp (rAdd9 K) (tSl (rSl9 K) (tVar 5) tNoPart (tPart (tC (.int 3)))) (tTup (tCons (tCB (rTup9 K) (tCons (tLc (iRng1 (tCons (tVar 1) tNil)) (gName 10) tYes (tCall (sp__law_draw K) [] E0 (tCons (tVar 0) (tCons (tVar 1) tNil))) [10]) tNil)) tNil))) (gName 5)) tNext)
          (tRet (tTup (tCons (tVar 4) (tCons (tVar 5) (tCons (tOp (rAdd9 K) (tOp (rAdd9 K) (tSl (rSl9 K) (tVar 6) tNoPart (tPart (tVar 2))) (tTup (tCons (tVar 8) tNil))) (tSl (rSl9 K) (tVar 6) (tPart (tOp (rAdd9 K) (tVar 2) (tC (.int 1)))) tNoPart)) (tCons (tVar 7) tNil)))))) (Dn Q) σ5 H5 := by
      intro σ5 H5 n5 r h1 h2 t5 hr s5
      refine s_seq (s_ifD (P := fun _ => True) (m := m) (c := c) (g := g) (pdt_is0 stbD_T (pd_draw (lim := 4) stbD_T (pu_var rfl) pu_c (by decide) (by decide))) s5 trivial t5.2.2 (by omega) (fun H6 n6 l6 u6 t6 => ?_) (fun H6 n6 l6 u6 t6 => s_next ?_))
      · refine s_asgD (P := fun _ => True) (m := m) (c := c) (g := g) (B := 0 + (k.rd.length * 1 + 0)) (S := fun d => ∃ u : List (List Nat), 1 ≤ u.length ∧ u.length ≤ 4 ∧ (∀ x ∈ u, RowOk k.rd.length x) ∧ d = rowsD u) (pd_op (S1 := fun d => d = rowsD (k.ups.take 3)) (S2 := fun d => ∃ r, RowOk k.rd.length r ∧ d = .tup [rowD r]) stbD_T (pd_pu (Pu.is (pu_sl (pu_var rfl) po_no (po_so (pu_c (x := .int ((3 : Nat) : Int))))) (by rw [cutD_to, ← List.map_take]; rfl)) rfl) (pd_tup (pda_c stbD_T (pd_row stbD_T (by decide) (pu_var rfl) (by omega) fun x hx => pd_draw stbD_T (pu_var rfl) (pu_var rfl) k1 (by omega)) pda_n) fun l hl => ?_) fun d e hd he => ?_) (s5.ext t6.1) trivial t6.2.2 (by omega) fun σ7 H7 n7 d7 l7 u7 t7 hd7 s7 => ?_
        · obtain ⟨d1, r1, rfl, ⟨r, hr, rfl⟩, rfl⟩ := hl
          exact ⟨by simp, r, hr, rfl⟩
        · subst hd
          obtain ⟨r, hr, rfl⟩ := he
          refine ⟨rowsD (k.ups.take 3 ++ [r]), ⟨k.ups.take 3 ++ [r], by simp, by rw [List.length_append, List.length_take, List.length_singleton]; omega, fun x hx => ?_, rfl⟩, ?_⟩
          · rcases List.mem_append.mp hx with w | w
            · exact ok.ups x (List.mem_of_mem_take w)
            · rw [List.mem_singleton.mp w]; exact hr
          · have z := rv_cat (K := K) (P := fun _ => True) (l := (k.ups.take 3).map rowD) (m := [rowD r]) (by rw [List.length_map, List.length_take, List.length_singleton]; omega)
            have e : rowsD (k.ups.take 3 ++ [r]) = .tup ((k.ups.take 3).map rowD ++ [rowD r]) := by
              unfold rowsD
              rw [List.map_append]
              rfl
            rw [e]
            exact z
        · obtain ⟨u, hu1, hu4, huo, rfl⟩ := hd7
          exact fin σ7 H7 n7 r u (by omega) (by omega) ((t5.trans t6).trans t7) hr hu1 hu4 huo (s7.lessL ⟨rfl, rfl, rfl, rfl, rfl, rfl, rfl, rfl, trivial⟩)
      · exact fin σ5 H6 n6 r k.ups (by omega) (by omega) (t5.trans t6) hr ok.u1 k4 ok.ups (s5.ext t6.1)
    have s4' : Sl σ4 H4 [some (dr m), some (dn k.rd.length), some (dn z), none, some (dn k.st), some (rowsD k.ups), some (rowsD k.mg), some (rowD k.rd), some (rowD (k.mg.getD z [])), none, none] := s4.lessL ⟨rfl, rfl, rfl, rfl, rfl, rfl, rfl, rfl, trivial⟩
    refine s_seq (s_ifD (P := fun _ => True) (m := m) (c := c) (g := g) (pdt_is0 stbD_T (pd_draw (lim := 3) stbD_T (pu_var rfl) pu_c (by decide) (by decide))) s4' trivial t04.2.2 (by omega) (fun H5 n5 l5 u5 t5 => ?_) (fun H5 n5 l5 u5 t5 => s_next ?_))
    · refine s_seq (s_asgD (P := fun _ => True) (m := m) (c := c) (g := g) (pd_draw stbD_T (pu_var rfl) (pu_var rfl) k1 (by omega)) (s4'.ext t5.1) trivial t5.2.2 (by omega) fun σ6 H6 n6 d6 l6 u6 t6 hd6 s6 => ?_)
      obtain ⟨p, hp, rfl⟩ := hd6
      have ep : (p : Int) + 1 = ((p + 1 : Nat) : Int) := by omega
      have hrl0 : ((k.mg.getD z []).map dn).length = k.rd.length := by rw [List.length_map, hr0.1]
      refine s_asgD (P := fun _ => True) (m := m) (c := c) (g := g) (B := (0 + (1 + 0)) + 0) (S := RowS k.rd.length) (pd_op (S1 := fun d => ∃ v : Nat, v < k.rd.length ∧ d = .tup ((((k.mg.getD z []).map dn).take p) ++ [dn v])) (S2 := fun d => d = .tup (((k.mg.getD z []).map dn).drop (p + 1))) stbD_T (pd_op (S1 := fun d => d = .tup (((k.mg.getD z []).map dn).take p)) (S2 := fun d => ∃ v : Nat, v < k.rd.length ∧ d = .tup [dn v]) stbD_T (pd_pu (Pu.is (pu_sl (pu_var rfl) po_no (po_so (pu_var rfl))) (by rw [cutD_to])) rfl) (pd_tup (pda_c stbD_T (pd_draw stbD_T (pu_var rfl) (pu_var rfl) k1 (by omega)) pda_n) fun l hl => ?_) fun d e hd he => ?_) (pd_pu (Pu.is (pu_sl (pu_var rfl) (po_so (Pu.is (pu_op (pu_var rfl) pu_c rv_add) (congrArg di ep))) po_no) (by rw [cutD_from])) rfl) fun d e hd he => ?_) s6 trivial t6.2.2 (by omega) fun σ7 H7 n7 d7 l7 u7 t7 hd7 s7 => ?_
      · obtain ⟨d1, r1, rfl, ⟨v, hv, rfl⟩, rfl⟩ := hl
        exact ⟨by simp, v, hv, rfl⟩
      · subst hd
        obtain ⟨v, hv, rfl⟩ := he
        exact ⟨_, ⟨v, hv, rfl⟩, rv_cat (by rw [List.length_take, hrl0, List.length_singleton]; omega)⟩
      · obtain ⟨v, hv, rfl⟩ := hd
        subst he
        have ec : ((((k.mg.getD z []).map dn).take p) ++ [dn v]) ++ ((k.mg.getD z []).map dn).drop (p + 1) = ((k.mg.getD z []).set p v).map dn := by
          rw [set_cat (by rw [hrl0]; exact hp), List.map_set]
        refine ⟨rowD ((k.mg.getD z []).set p v), ⟨_, rowOk_set hr0 hv, rfl⟩, ?_⟩
        have w := rv_cat (K := K) (P := fun _ => True) (l := (((k.mg.getD z []).map dn).take p) ++ [dn v]) (m := ((k.mg.getD z []).map dn).drop (p + 1)) (by rw [List.length_append, List.length_take, List.length_drop, hrl0, List.length_singleton]; omega)
        rw [ec] at w
        exact w
      · obtain ⟨r, hr, rfl⟩ := hd7
        exact mid σ7 H7 n7 r (by omega) (by omega) (((t04.trans t5).trans t6).trans t7) hr (s7.lessL ⟨rfl, rfl, rfl, rfl, rfl, rfl, rfl, rfl, trivial⟩)
    · exact mid σ4 H5 n5 _ (by omega) (by omega) (t04.trans t5) hr0 (s4'.ext t5.1)
end W9
set_option maxHeartbeats 4000000
/-! stands -/
namespace W9
open PySem PySem.Spec PyProof.Rows L2
theorem okd_row {l : List Nat} {N : Nat} (hl : l.length ≤ N) (hx : ∀ x ∈ l, x < 1000) : Okd 1 (N * 11) (rowD l) :=
  okd_t (k := 0) (w := 10) (fun d hd => by
    obtain ⟨x, h, rfl⟩ := List.mem_map.mp hd
    exact okd_n (hx x h)) (by rw [List.length_map]; exact hl)
theorem okd_rows {u : List (List Nat)} {M N : Nat} (hl : u.length ≤ M) (hr : ∀ r ∈ u, r.length ≤ N ∧ ∀ x ∈ r, x < 1000) : Okd 2 (M * (N * 11 + 1)) (rowsD u) :=
  okd_t (k := 1) (fun d hd => by
    obtain ⟨r, h, rfl⟩ := List.mem_map.mp hd
    exact okd_row (hr r h).1 (hr r h).2) (by rw [List.length_map]; exact hl)
theorem okd_kd {k : Kd} (ok : k.Ok) : Okd 5 10000 (kdD k) := by
  have n8 := ok.n8
  have st := ok.st
  have u4 := ok.u4
  refine (okd_t (k := 2) (w := 1000) (n := 4) (l := [dn k.st, rowsD k.ups, rowsD k.mg, rowD k.rd]) (fun d hd => ?_) (by simp)).mono (by decide) (by decide)
  rcases List.mem_cons.mp hd with rfl | hd
  · exact (okd_n (by omega)).mono (by decide) (by decide)
  rcases List.mem_cons.mp hd with rfl | hd
  · exact (okd_rows (M := 8) (N := 8) (by omega) fun r hr => ⟨by rw [(ok.ups r hr).1]; exact n8, fun x hx => by have := (ok.ups r hr).2 x hx; omega⟩).mono (by decide) (by decide)
  rcases List.mem_cons.mp hd with rfl | hd
  · exact (okd_rows (M := 8) (N := 8) (by rw [ok.m1]; exact n8) fun r hr => ⟨by rw [(ok.mg r hr).1]; exact n8, fun x hx => by have := (ok.mg r hr).2 x hx; omega⟩).mono (by decide) (by decide)
  · rw [List.mem_singleton.mp hd]
    exact (okd_row (N := 8) n8 fun x hx => by have := ok.rd9 x hx; omega).mono (by decide) (by decide)
theorem okd_st {k : Kd} {m : Nat} (ok : k.Ok) (m16 : m ≤ 16) {s : Stp} (h : s.Ok k m) : Okd 1 33 (stD s) := by
  have u4 := ok.u4
  cases s with
  | act c u =>
    have h1 := h.1
    have h2 := h.2
    refine okd_t (k := 0) (w := 10) (n := 3) (l := [ds "do", dn c, dn u]) (fun d hd => ?_) (by simp)
    rcases List.mem_cons.mp hd with rfl | hd
    · exact okd_do
    rcases List.mem_cons.mp hd with rfl | hd
    · exact okd_n (by omega)
    · rw [List.mem_singleton.mp hd]; exact okd_n (by omega)
  | hear c o =>
    have h1 := h.1
    have h2 := h.2.1
    refine okd_t (k := 0) (w := 10) (n := 3) (l := [ds "hear", dn c, dn o]) (fun d hd => ?_) (by simp)
    rcases List.mem_cons.mp hd with rfl | hd
    · exact okd_hear
    rcases List.mem_cons.mp hd with rfl | hd
    · exact okd_n (by omega)
    · rw [List.mem_singleton.mp hd]; exact okd_n (by omega)
theorem okd_his {k : Kd} {m : Nat} {l : List Stp} (ok : HisOk k m l) : Okd 5 10000 (hisD m l) := by
  have m16 := ok.m16
  have len := ok.len
  refine (okd_t (k := 2) (w := 1020) (n := 2) (l := [dn m, stepsD l]) (fun d hd => ?_) (by simp)).mono (by decide) (by decide)
  rcases List.mem_cons.mp hd with rfl | hd
  · exact (okd_n (by omega)).mono (by decide) (by decide)
  · rw [List.mem_singleton.mp hd]
    refine okd_t (k := 1) (w := 33) (n := 30) (fun d hd => ?_) (by rw [List.length_map]; exact len)
    obtain ⟨s, hs, rfl⟩ := List.mem_map.mp hd
    exact okd_st ok.kd m16 (ok.ok s hs)
theorem okd_S {k : Kd} {m : Nat} {l : List Stp} (ok : HisOk k m l) : Okd 5 10000 (rowD (runS k m l)) := by
  have m16 := ok.m16
  have n8 := ok.kd.n8
  exact (okd_row (N := 16) (by rw [runS_len]; exact m16) fun x hx => by have := runS_lt ok.kd l ok.ok x hx; omega).mono (by decide) (by decide)
theorem okd_H1 {k : Kd} {m : Nat} {l : List Stp} (ok : HisOk k m l) {r : List Nat} (hr : r ∈ runH m l) : Okd 1 330 (rowD r) := by
  have len := ok.len
  have a := runH_asc m l r hr
  have al := a.len
  exact (okd_row (N := 30) (by omega) fun x hx => by have := a.2 x hx; omega)
theorem okd_sp {k : Kd} {m : Nat} {l : List Stp} (ok : HisOk k m l) : Okd 5 10000 (splitD k m l) := by
  have m16 := ok.m16
  have zl : (splits (runS k m l) (runH m l) m).length ≤ 256 := by
    have z := splitsTo_len (runS k m l) (runH m l) m m
    have z2 : m * m ≤ 16 * 16 := Nat.mul_le_mul m16 m16
    exact Nat.le_trans z z2
  refine (okd_t (k := 1) (w := 22) (n := 256) (fun d hd => ?_) (by rw [List.length_map]; exact zl)).mono (by decide) (by decide)
  obtain ⟨p, hp, rfl⟩ := List.mem_map.mp hd
  have hlt : p.1 < 16 ∧ p.2 < 16 := by
    unfold splits at hp
    obtain ⟨i, hi, hj⟩ := List.mem_flatMap.mp hp
    obtain ⟨j, hj2, rfl⟩ := List.mem_map.mp hj
    have h1 := List.mem_range.mp hi
    have h2 := List.mem_range.mp (List.mem_filter.mp hj2).1
    exact ⟨by show i < 16; omega, by show i + 1 + j < 16; omega⟩
  refine okd_t (k := 0) (w := 10) (n := 2) (l := [dn p.1, dn p.2]) (fun d hd => ?_) (by simp)
  rcases List.mem_cons.mp hd with rfl | hd
  · exact okd_n (by omega)
  · rw [List.mem_singleton.mp hd]; exact okd_n (by omega)
theorem shown_lt {h : Hs} (ok : h.Ok) {i : Nat} (hi : i < h.m) : h.k.rd.getD ((runS h.k h.m h.past).getD i 0) 0 < 1000 := by
  have := ok.kd.rd9 _ (getD_lt (state_lt ok hi) 0)
  omega
section
variable {K : PySem.W.Frag} {Γ : Cxt} {P : Hp → Prop} {ta tb : TE} {l : List Dt} {a b : Addr} {E : XK}
/-- like(a, b), two lists of the same data -/
theorem pu_likeL [Stb P] (h : Pu ta Γ P (dr a)) (h' : Pu tb Γ P (dr b)) (hP : ∀ H, P H → LstAt H a l ∧ LstAt H b l) (hl : pls l = true) (hr : RpOk (.list (pys l))) : Pu (tCall (sp__law_like K) [] E (tCons ta (tCons tb tNil))) Γ P (db true) := fun σ H s p Q q =>
  h σ H s p _ fun x H1 e1 x1 => h' σ H1 (s.ext e1.t) (Stb.ext e1 p) _ fun y H2 e2 x2 => by
    obtain ⟨⟨xs, h1, h2⟩, ys, h3, h4⟩ := hP H2 (Stb.ext (e1.trans e2) p)
    cases x1.v_eq
    cases x2.v_eq
    exact ⟨_, _, .list (pys l), rfl, .lst (SqL.of h1) (h2.dps hl), .lst (SqL.of h3) (h4.dps hl), hr, .inr (.inr ⟨⟨_, rfl⟩, _, rfl⟩), fun H' e => q _ H' ((e1.trans e2).trans e) (.leaf _)⟩
theorem pu_likeN [Stb P] (h : Pu ta Γ P (dr a)) (h' : PuL tb Γ P l) (hP : ∀ H, P H → LstAt H a l) (hl : pls l = true) (hr : RpOk (.list (pys l))) : Pu (tCall (sp__law_like K) [] E (tCons ta (tCons tb tNil))) Γ P (db true) := fun σ H s p Q q =>
  h σ H s p _ fun x H1 e1 x1 => h' σ H1 (s.ext e1.t) (Stb.ext e1 p) _ fun b H2 hb e2 x2 => by
    obtain ⟨xs, h1, h2⟩ := hP H2 (Stb.ext (e1.trans e2) p)
    obtain ⟨ys, h3, h4⟩ := x2
    cases x1.v_eq
    exact ⟨_, _, .list (pys l), rfl, .lst (SqL.of h1) (h2.dps hl), .lst (SqL.of h3) (h4.dps hl), hr, .inr (.inr ⟨⟨_, rfl⟩, _, rfl⟩), fun H' e => q _ H' ((e1.trans e2).trans e) (.leaf _)⟩
end
variable {K : PySem.W.Frag} {vs : List V} {H : Hp} {Q : VK} {E : XK}
theorem rd__law_stands (h : sp__law_stands K vs H Q E) : t__law_stands K (Dn Q) (L2.start N__law_stands vs) H := by
  obtain ⟨a, o, h, rfl, ha, ho, ok, m5, q⟩ := h
  have s := sl_start (N := N__law_stands) (l := [dr a, dr o]) (vs := [.ref a, .ref o]) (H := H) (.cons (.leaf _) (.cons (.leaf _) .nil)) (Nat.le_of_ble_eq_true rfl)
  have his := ok.his
  have len := his.len
  let P : Hp → Prop := fun H' => HsAt K H' a h ∧ OwAt H' o h
  haveI stP : Stb P := inferInstanceAs (Stb fun H' => HsAt K H' a h ∧ OwAt H' o h)
  have lS : (runS h.k h.m h.past).length = h.m := runS_len _ _ _
  have lH : (runH h.m h.past).length = h.m := runH_len _ _
  refine s_seq (s_unp (P := P) (is := [2, 3]) (l := [rowD (runS h.k h.m h.past), rowsD (runH h.m h.past)]) (pu_call (pa_c (pu_oK (pu_var rfl) fun _ p => p.2) (pa_c (pu_tup (pa_c (pu_oM (pu_var rfl) fun _ p => p.2) (pa_c (pu_oP (pu_var rfl) fun _ p => p.2) pa_n)) (by simp)) pa_n)) ⟨h.k, h.m, h.past, his, rfl, rfl⟩) s ⟨ha, ho⟩ rfl rfl fun σ1 H1 e1 s1 => ?_)
  have p1 : P H1 := Stb.ext e1 ⟨ha, ho⟩
  let L5 : List Dt := [kdD h.k, hisD h.m h.past, dn h.past.length, rowD (runS h.k h.m h.past), splitD h.k h.m h.past]
  have ok5 : ∀ d ∈ L5, Okd 5 10000 d := fun d hd => by
    rcases List.mem_cons.mp hd with rfl | hd
    · exact okd_kd ok.kd
    rcases List.mem_cons.mp hd with rfl | hd
    · exact okd_his his
    rcases List.mem_cons.mp hd with rfl | hd
    · exact (okd_n (by omega)).mono (by decide) (by decide)
    rcases List.mem_cons.mp hd with rfl | hd
    · exact okd_S his
    · rw [List.mem_singleton.mp hd]; exact okd_sp his
  have g1 : ∀ {Γ : Cxt}, Γ[0]? = some (some (dr a)) → Pu (tProp (He.ga K "House") (sp_House_table K) [] E0 (tVar 0)) Γ P (kdD h.k) := fun h0 => pu_propH (f := fun h => kdD h.k) (pu_var h0) (fun _ p => p.1) ok
  have g2 : ∀ {Γ : Cxt}, Γ[0]? = some (some (dr a)) → Pu (tProp (He.ga K "House") (sp_House_history K) [] E0 (tVar 0)) Γ P (hisD h.m h.past) := fun h0 => pu_propH (f := fun h => hisD h.m h.past) (pu_var h0) (fun _ p => p.1) ok
  have g3 : ∀ {Γ : Cxt}, Γ[0]? = some (some (dr a)) → Pu (tMeth (He.ga K "House") "states" (sp_House_states K) [] E0 (tVar 0) tNil) Γ P (rowD (runS h.k h.m h.past)) := fun h0 => pu_methH (f := fun h => rowD (runS h.k h.m h.past)) (pu_var h0) (fun _ p => p.1) ok
  have g4 : ∀ {Γ : Cxt}, Γ[0]? = some (some (dr a)) → Pu (tMeth (He.ga K "House") "split" (sp_House_split K) [] E0 (tVar 0) tNil) Γ P (splitD h.k h.m h.past) := fun h0 => pu_methH (f := fun h => splitD h.k h.m h.past) (pu_var h0) (fun _ p => p.1) ok
  have g5 : ∀ {Γ : Cxt} {k : Nat}, k < h.m → Γ[0]? = some (some (dr a)) → Γ[6]? = some (some (dn k)) → Pu (tMeth (He.ga K "House") "shown" (sp_House_shown K) [] E0 (tVar 0) (tCons (tVar 6) tNil)) Γ P (shownD h k) := fun hk h0 h6 => pu_methHi (f := shownD) (pu_var h0) (pu_var h6) (fun _ p => p.1) ok hk
  have g6 : ∀ {Γ : Cxt} {k : Nat}, k < h.m → Γ[0]? = some (some (dr a)) → Γ[6]? = some (some (dn k)) → Pu (tMeth (He.ga K "House") "known" (sp_House_known K) [] E0 (tVar 0) (tCons (tVar 6) tNil)) Γ P (knownD h k) := fun hk h0 h6 => pu_methHi (f := knownD) (pu_var h0) (pu_var h6) (fun _ p => p.1) ok hk
  refine s_seq (s_asgL (P := P) (l := L5) (pl_lst (pa_c (g1 rfl) (pa_c (g2 rfl) (pa_c (pu_lenH (pu_var rfl) (fun _ p => p.1) ok) (pa_c (g3 rfl) (pa_c (g4 rfl) pa_n))))) (by show 5 ≤ 100000; decide)) s1 p1 fun b1 σ2 H2 hb1 e2 lb1 s2 => ?_)
  have p2 : P H2 := Stb.ext e2 p1
  have e12 := e1.trans e2
  refine s_seq (s_asgL (P := P) (l := L5) (pl_lst (pa_c (pu_oK (pu_var rfl) fun _ p => p.2) (pa_c (pu_tup (pa_c (pu_oM (pu_var rfl) fun _ p => p.2) (pa_c (pu_oP (pu_var rfl) fun _ p => p.2) pa_n)) (by simp)) (pa_c (Pu.is (pu_cb (pa_c (pu_oP (pu_var rfl) fun _ p => p.2) pa_n) (rc_lenT (l := h.past.map stD))) (by rw [List.length_map])) (pa_c (pu_var rfl) (pa_c (Pu.is (pu_call (pa_c (pu_var rfl) (pa_c (pu_var rfl) pa_n)) ⟨_, _, rfl, by rw [lS, lH], by rw [lH]; omega, rfl⟩) (by rw [lH]; rfl)) pa_n))))) (by show 5 ≤ 100000; decide)) s2 p2 fun b2 σ3 H3 hb2 e3 lb2 s3 => ?_)
  have p3 : P H3 := Stb.ext e3 p2
  refine s_seq (s_ifF (P := fun H' => LstAt H' b1 L5 ∧ LstAt H' b2 L5) (pt_nt (b := true) (pt_B (pu_likeL (pu_var rfl) (pu_var rfl) (fun _ h => h) (okds ok5).1 (rpOk_l ok5 (n := 5) (by show 5 ≤ 5; decide) (by decide) (by decide))))) s3 ⟨lb1.ext e3, lb2⟩ fun H4 e4 => s_next ?_)
  have p4 : P H4 := Stb.ext e4 p3
  have e14 := (e12.trans e3).trans e4
  let v : Nat → Dt := fun k => .tup [shownD h k, knownD h k]
  have okv : ∀ d ∈ giv h.m (fun _ => true) v, Okd 5 10000 d := fun d hd => by
    rw [giv_all] at hd
    obtain ⟨k, hk, rfl⟩ := List.mem_map.mp hd
    have hk := List.mem_range.mp hk
    refine (okd_t (k := 1) (w := 330) (n := 2) (l := [shownD h k, knownD h k]) (fun d hd => ?_) (by simp)).mono (by decide) (by decide)
    rcases List.mem_cons.mp hd with rfl | hd
    · exact (okd_n (shown_lt ok hk)).mono (by decide) (by decide)
    · rw [List.mem_singleton.mp hd]
      exact okd_H1 his (getD_lt (by rw [lH]; exact hk) [])
  have lv : (giv h.m (fun _ => true) v).length ≤ 5 := Nat.le_trans (giv_len _ _ _) m5
  refine s_seq (s_asgL (P := P) (l := giv h.m (fun _ => true) v) (pl_lcR (n := h.m) (fun _ => true) v (by decide) (pa_c (pu_oM (pu_var rfl) fun _ p => p.2) pa_n) (by omega) (fun _ _ => pt_yes) (fun k hk _ => pu_tup (pa_c (g5 hk rfl rfl) (pa_c (g6 hk rfl rfl) pa_n)) (by simp))) (s3.ext e4.t) p4 fun b3 σ5 H5 hb3 e5 lb3 s5 => ?_)
  have p5 : P H5 := Stb.ext e5 p4
  have i1 : ∀ k, k < h.m → atI ((runS h.k h.m h.past).map dn) (k : Int) = some (dn ((runS h.k h.m h.past).getD k 0)) := fun k hk => atI_map (by rw [lS]; exact hk) 0
  have i2 : ∀ k, k < h.m → atI (h.k.rd.map dn) (((runS h.k h.m h.past).getD k 0 : Nat) : Int) = some (shownD h k) := fun k hk => atI_map (state_lt ok hk) 0
  have i3 : ∀ k, k < h.m → atI ((runH h.m h.past).map rowD) (k : Int) = some (knownD h k) := fun k hk => atI_map (by rw [lH]; exact hk) []
  refine s_ret (P := fun H' => P H' ∧ LstAt H' b3 (giv h.m (fun _ => true) v)) (d := db true) (pu_likeN (pu_var rfl) (pl_lcR (n := h.m) (fun _ => true) v (by decide) (pa_c (pu_oM (pu_var rfl) fun _ p => p.1.2) pa_n) (by omega) (fun _ _ => pt_yes) (fun k hk _ => pu_tup (pa_c (pu_op (pu_ix (pu_oK (pu_var rfl) fun _ p => p.1.2) rfl) (pu_op (pu_var rfl) (pu_var rfl) (rv_ixT (i1 k hk))) (rv_ixT (i2 k hk))) (pa_c (pu_op (pu_var rfl) (pu_var rfl) (rv_ixT (i3 k hk))) pa_n)) (by simp))) (fun _ h => h.2) (okds okv).1 (rpOk_l okv (n := 5) lv (by decide) (by decide))) s5 ⟨p5, lb3⟩ fun x H6 e6 h6 => ?_
  rw [h6.v_eq]
  exact q H6 ((e14.trans e5).trans e6)
end W9
set_option maxHeartbeats 4000000
/-! step_of, turn, led -/
namespace W9
open PySem PySem.Spec PyProof.Rows L2
section
variable {m c g o : Addr} {K : PySem.W.Frag} {Γ : Cxt} {P : Hp → Prop} {tt : TT} {tr : TA} {T : List Dt → Prop} {B n : Nat} {b : Bool} {D : Ends} {σ : L2.St} {H : Hp} {i j : Nat} {x : V} {h : Hs}
theorem pdt_pu (h : PuT tt Γ P b) : PDT m c g tt Γ P 0 := fun σ H n s p dr hn Q q => h σ H s p Q fun H' e1 => q b H' n (Nat.le_refl _) (Nat.le_refl _) (DrTo.of e1 dr)
theorem s_parD (h : PDA m c g tr Γ P B T) (hT : ∀ l, T l → ∃ d e, l = [d, e]) (s : Sl σ H Γ) (p : P H) (dr : DrAt H m c g n) (hn : n + B ≤ 5000) (k : ∀ σ' H' n' d e, n ≤ n' → n' ≤ n + B → DrTo m c g n' H H' → T [d, e] → Sl σ' H' ((Γ.set i (some d)).set j (some e)) → D.nx σ' H') : tPar i j tr D σ H :=
  h σ H n s p dr hn _ fun xs H1 n1 l l1 u1 t1 hl hx => by
    obtain ⟨d, e, rfl⟩ := hT l hl
    cases hx with
    | cons h1 hx =>
    cases hx with
    | cons h2 hx =>
    cases hx
    exact ⟨_, _, rfl, k _ H1 n1 d e l1 u1 t1 hl (((s.ext t1.1).set h1 i).set h2 j)⟩
theorem g_oP {l : List Stp} {Q : L2.St → Hp → Prop} (ho : OwAt H o h) (hx : TD H x (stepsD l)) (s : Sl σ H Γ) (hj : Γ[j]? = some (some (dr o))) (q : ∀ H', Recd o { h with past := l } H H' → Q σ H') : gSub (tVar j) (tC (.str "past")) rSetD x σ H Q := by
  obtain ⟨y, hy1, hy2⟩ := s.at_ j _ hj
  obtain ⟨xk, xp, xl, h1, h2, h3, h4⟩ := ho
  cases hy2.v_eq
  have et : ExT H (upd H o (.dK (putK [(.inr "kind", xk), (.inr "many", .int (h.m : Int)), (.inr "past", xp), (.inr "later", xl)] (.inr "past") x))) := ext_mut h1 fun _ z => nomatch z
  exact ⟨.ref o, hy1, o, _, rfl, DPut.k (k := .inr "past") h1 (sz_lt (by show 4 < 100000; decide)), q _ ⟨et, ExB.upd, xk, x, xl, by rw [upd_same]; rfl, h2.ext et, hx.ext et, h4.ext et⟩⟩
theorem g_oL {l : List Stp} {Q : L2.St → Hp → Prop} (ho : OwAt H o h) (hx : TD H x (stepsD l)) (s : Sl σ H Γ) (hj : Γ[j]? = some (some (dr o))) (q : ∀ H', Recd o { h with later := l } H H' → Q σ H') : gSub (tVar j) (tC (.str "later")) rSetD x σ H Q := by
  obtain ⟨y, hy1, hy2⟩ := s.at_ j _ hj
  obtain ⟨xk, xp, xl, h1, h2, h3, h4⟩ := ho
  cases hy2.v_eq
  have et : ExT H (upd H o (.dK (putK [(.inr "kind", xk), (.inr "many", .int (h.m : Int)), (.inr "past", xp), (.inr "later", xl)] (.inr "later") x))) := ext_mut h1 fun _ z => nomatch z
  exact ⟨.ref o, hy1, o, _, rfl, DPut.k (k := .inr "later") h1 (sz_lt (by show 4 < 100000; decide)), q _ ⟨et, ExB.upd, xk, xp, x, by rw [upd_same]; rfl, h2.ext et, h3.ext et, hx.ext et⟩⟩
end
theorem hear_ne {i r m : Nat} (hi : i < m) (hr : r < m - 1) : (i + 1 + r) % m < m ∧ i ≠ (i + 1 + r) % m := by
  refine ⟨Nat.mod_lt _ (by omega), fun z => ?_⟩
  by_cases h : i + 1 + r < m
  · rw [Nat.mod_eq_of_lt h] at z
    omega
  · rw [Nat.mod_eq_sub_mod (by omega), Nat.mod_eq_of_lt (by omega)] at z
    omega
variable {K : PySem.W.Frag} {vs : List V} {H : Hp} {Q : VK} {E : XK}
theorem rd__law_step_of (h : sp__law_step_of K vs H Q E) : t__law_step_of K (Dn Q) (L2.start N__law_step_of vs) H := by
  obtain ⟨m, c, g, n, o, h, rfl, dr0, ho, om, oc, og, ok, m5, h30, hn, q⟩ := h
  have s := sl_start (N := N__law_step_of) (l := [dr m, dr o]) (vs := [.ref m, .ref o]) (H := H) (.cons (.leaf _) (.cons (.leaf _) .nil)) (Nat.le_of_ble_eq_true rfl)
  have m1 := ok.m1
  have u4 := ok.kd.u4
  have u1 := ok.kd.u1
  have no : o ∉ [m, g] := by simp [om, og]
  let P : Hp → Prop := fun H' => OwAt H' o h
  have stP : StbD m g P := stbD_ow no
  haveI := stP.stb
  refine s_seq (s_parD (P := P) (m := m) (c := c) (g := g) (B := 1 + (0 + 0)) (pda_c stP (pd_draw (lim := h.m) stP (pu_var rfl) (pu_oM (pu_var rfl) fun _ p => p) m1 (by omega)) (pda_c (S := fun d => d = dn h.m) stP (pd_pu (pu_oM (pu_var rfl) fun _ p => p) rfl) pda_n)) (fun l hl => ?_) s ho dr0 (by omega) fun σ1 H1 n1 d e l1 n1u t1 hl s1 => ?_)
  · obtain ⟨d, r, rfl, _, e, r2, rfl, _, rfl⟩ := hl
    exact ⟨_, _, rfl⟩
  obtain ⟨d', r, ed, ⟨i, hi, rfl⟩, e', r2, er, rfl, er2⟩ := hl
  cases ed
  cases er
  have p1 : P H1 := stP.keep t1.1 t1.2.1 ho
  -- once the step is there
  have fin : ∀ (σ2 : L2.St) (H2 : Hp) (n2 : Nat) (s : Stp), n ≤ n2 → n2 ≤ n + 3 → DrTo m c g n2 H H2 → s.Ok h.k h.m → (s = .act i (match s with | .act _ u => u | .hear _ u => u) ∨ s = .hear i (match s with | .act _ u => u | .hear _ u => u)) → Sl σ2 H2 [some (dr m), some (dr o), some (dn i), some (dn h.m), some (stD s), none, none] →
      tSeq (tAsg (tTup (tCons (tOp (rAdd9 K) (tDGet (tVar 1) (tC (.str "past"))) (tTup (tCons (tVar 4) tNil))) (tCons (tTup tNil) tNil))) (gTup K 2 (gCons (gSub (tVar 1) (tC (.str "past")) rSetD) (gCons (gSub (tVar 1) (tC (.str "later")) rSetD) gNil))))
        (tSeq (tAsg (tCall (sp__law_run K) [] E0 (tCons (tDGet (tVar 1) (tC (.str "kind"))) (tCons (tTup (tCons (tVar 3) (tCons (tDGet (tVar 1) (tC (.str "past"))) tNil))) tNil))) (gTup K 2 (gCons (gName 5) (gCons (gName 6) gNil))))
          (tRet (tTup (tCons (tVar 4) (tCons (tOp (rIx K) (tOp (rIx K) (tDGet (tVar 1) (tC (.str "kind"))) (tC (.int 3))) (tOp (rIx K) (tVar 5) (tVar 2))) tNil))))) (Dn Q) σ2 H2 := by
    intro σ2 H2 n2 st h1 h2 t2 hst hsi s2
    have p2 : P H2 := stP.keep t2.1 t2.2.1 ho
    have okd := did_ok ok hst h30
    have te : Pu (tTup (tCons (tOp (rAdd9 K) (tDGet (tVar 1) (tC (.str "past"))) (tTup (tCons (tVar 4) tNil))) (tCons (tTup tNil) tNil))) [some (dr m), some (dr o), some (dn i), some (dn h.m), some (stD st), none, none] P (.tup [stepsD (h.past ++ [st]), stepsD []]) :=
      pu_tup (pa_c (Pu.is (pu_op (pu_oP (pu_var rfl) fun _ p => p) (pu_tup (pa_c (pu_var rfl) pa_n) (by simp)) (rv_cat (by rw [List.length_map, List.length_singleton]; omega))) (by unfold stepsD; rw [List.map_append]; rfl)) (pa_c (pu_tup pa_n (by simp)) pa_n)) (by simp)
    refine s_seq (te σ2 H2 s2 p2 _ fun x H3 e3 hx => ?_)
    have p3 : P H3 := Stb.ext e3 p2
    have t3 := t2.ex e3
    have s3 := s2.ext e3.t
    obtain ⟨a, xs, rfl, ha, hxs⟩ := hx.tup_of
    cases hxs with
    | cons x1 hxs =>
    cases hxs with
    | cons x2 hxs =>
    cases hxs
    refine ⟨a, _, rfl, SqT.of ha, rfl, _, _, rfl, g_oP p3 x1 s3 rfl fun H4 r4 => ?_⟩
    refine ⟨_, _, rfl, g_oL r4.2.2 (x2.ext r4.1) (s3.ext r4.1) rfl fun H5 r5 => ⟨rfl, ?_⟩⟩
    have r : Recd o (h.did st) H3 H5 := r4.trans r5
    have s5 := s3.ext r.1
    have o5 : OwAt H5 o (h.did st) := r.2.2
    have kk : (h.did st).k = h.k := rfl
    have lS : (runS h.k h.m (h.past ++ [st])).length = h.m := runS_len _ _ _
    refine s_seq (s_unp (P := fun H' => OwAt H' o (h.did st)) (is := [5, 6]) (l := [rowD (runS h.k h.m (h.past ++ [st])), rowsD (runH h.m (h.past ++ [st]))]) (pu_call (pa_c (pu_oK (pu_var rfl) fun _ p => p) (pa_c (pu_tup (pa_c (pu_var rfl) (pa_c (pu_oP (pu_var rfl) fun _ p => p) pa_n)) (by simp)) pa_n)) ⟨h.k, h.m, h.past ++ [st], okd.his, rfl, rfl⟩) s5 o5 rfl rfl fun σ6 H6 e6 s6 => ?_)
    have i1 : atI ((runS h.k h.m (h.past ++ [st])).map dn) (i : Int) = some (dn ((runS h.k h.m (h.past ++ [st])).getD i 0)) := atI_map (by rw [lS]; exact hi) 0
    have i2 : atI (h.k.rd.map dn) (((runS h.k h.m (h.past ++ [st])).getD i 0 : Nat) : Int) = some (shownD (h.did st) i) := atI_map (state_lt okd hi) 0
    refine s_ret (P := fun H' => OwAt H' o (h.did st)) (d := .tup [stD st, shownD (h.did st) i]) (pu_tup (pa_c (pu_var rfl) (pa_c (pu_op (pu_ix (l := [dn h.k.st, rowsD h.k.ups, rowsD h.k.mg, rowD h.k.rd]) (pu_oK (h := h.did st) (pu_var rfl) fun _ p => p) rfl) (pu_op (pu_var rfl) (pu_var rfl) (rv_ixT i1)) (rv_ixT i2)) pa_n)) (by simp)) s6 (o5.ext e6) fun x H7 e7 h7 => ?_
    have e67 := e6.trans e7
    have bx : ExS [m, g, o] H3 H7 := (ExS.ofB r.2.1 (by simp)).trans (ExS.of e67)
    refine q H7 n2 x st i h1 h2 ((t3.1.trans r.1).trans (Ex.t e67)) ((t3.2.1.mono (by simp)).trans bx) ?_ (o5.ext e67) hst hsi h7
    have d5 : DrAt H5 m c g n2 := t3.2.2.keep (l := [o]) (ExS.ofB r.2.1 (by simp)) (by simp [Ne.symm om]) (by simp [Ne.symm oc]) (by simp [Ne.symm og])
    exact d5.ext e67
  have tst : ∀ (b : Bool), decide (h.m = 1) = b → PuT (tTest (tOp (rEq9 K) (tVar 3) (tC (.int 1)))) [some (dr m), some (dr o), some (dn i), some (dn h.m), none, none, none] P b := fun b hb => pt_test (Pu.is (pu_op (pu_var rfl) pu_c rv_eqI) (by rw [← hb]; exact congrArg db (dec_n h.m 1)))
  have actB : ∀ (H2 : Hp) (n2 : Nat), n ≤ n2 → n2 ≤ n + 2 → DrTo m c g n2 H H2 → Sl σ1 H2 [some (dr m), some (dr o), some (dn i), some (dn h.m), none, none, none] → ∀ {D : Ends}, (∀ σ2 H3 n3 s, n ≤ n3 → n3 ≤ n + 3 → DrTo m c g n3 H H3 → s.Ok h.k h.m → (s = .act i (match s with | .act _ u => u | .hear _ u => u) ∨ s = .hear i (match s with | .act _ u => u | .hear _ u => u)) → Sl σ2 H3 [some (dr m), some (dr o), some (dn i), some (dn h.m), some (stD s), none, none] → D.nx σ2 H3) →
      tAsg (tTup (tCons (tC (.str "do")) (tCons (tVar 2) (tCons (tCall (sp__law_draw K) [] E0 (tCons (tVar 0) (tCons (tCB (rLen9 K) (tCons (tOp (rIx K) (tDGet (tVar 1) (tC (.str "kind"))) (tC (.int 1))) tNil)) tNil))) tNil)))) (gName 4) D σ1 H2 := by
    intro H2 n2 h1 h2 t2 s2 D k
    refine s_asgD (P := P) (m := m) (c := c) (g := g) (B := 0 + (0 + (1 + 0))) (S := fun d => ∃ u : Nat, u < h.k.ups.length ∧ d = stD (.act i u)) (pd_tup (pda_c (S := fun d => d = ds "do") stP (pd_pu pu_c rfl) (pda_c (S := fun d => d = dn i) stP (pd_pu (pu_var rfl) rfl) (pda_c stP (pd_draw (lim := h.k.ups.length) stP (pu_var rfl) (Pu.is (pu_cb (pa_c (pu_ix (l := [dn h.k.st, rowsD h.k.ups, rowsD h.k.mg, rowD h.k.rd]) (pu_oK (pu_var rfl) fun _ p => p) rfl) pa_n) (rc_lenT (l := h.k.ups.map rowD))) (by rw [List.length_map])) u1 (by omega)) pda_n))) fun l hl => ?_) s2 (stP.keep t2.1 t2.2.1 ho) t2.2.2 (by omega) fun σ3 H3 n3 d l3 u3 t3 hd s3 => ?_
    · obtain ⟨d1, r1, rfl, rfl, d2, r2, rfl, rfl, d3, r3, rfl, ⟨u, hu, rfl⟩, rfl⟩ := hl
      exact ⟨by simp, u, hu, rfl⟩
    · obtain ⟨u, hu, rfl⟩ := hd
      exact k σ3 H3 n3 (.act i u) (by omega) (by omega) (t2.trans t3) ⟨hi, hu⟩ (.inl rfl) s3
  have s1' : Sl σ1 H1 [some (dr m), some (dr o), some (dn i), some (dn h.m), none, none, none] := s1
  by_cases hm : h.m = 1
  · refine s_seq (s_ifT (P := P) (pt_or (b := true) (c := true) (tst true (decide_eq_true hm)) fun z => nomatch z) s1' p1 fun H2 e2 => actB H2 n1 l1 (by omega) (t1.ex e2) (s1'.ext e2.t) fin)
  · refine s_seq (s_ifD (P := P) (m := m) (c := c) (g := g) (B := 0 + 1) (pdt_or stP (pdt_pu (tst false (decide_eq_false hm))) (pdt_is0 stP (pd_draw (lim := 2) stP (pu_var rfl) pu_c (by decide) (by decide)))) s1' p1 t1.2.2 (by omega) (fun H2 n2 l2 u2 t2 => actB H2 n2 (by omega) (by omega) (t1.trans t2) (s1'.ext t2.1) fin) (fun H2 n2 l2 u2 t2 => ?_))
    have t02 := t1.trans t2
    have em : (h.m : Int) - 1 = ((h.m - 1 : Nat) : Int) := by omega
    refine s_asgD (P := P) (m := m) (c := c) (g := g) (B := 0 + (0 + (((0 + 1) + 0 + 0) + 0))) (S := fun d => ∃ u : Nat, u < h.m ∧ i ≠ u ∧ d = stD (.hear i u)) (pd_tup (pda_c (S := fun d => d = ds "hear") stP (pd_pu pu_c rfl) (pda_c (S := fun d => d = dn i) stP (pd_pu (pu_var rfl) rfl) (pda_c (S := fun d => ∃ u : Nat, u < h.m ∧ i ≠ u ∧ d = dn u) stP (pd_op (S1 := fun d => ∃ r : Nat, r < h.m - 1 ∧ d = dn (i + 1 + r)) (S2 := fun d => d = dn h.m) stP (pd_cb (pda_c (S := fun d => ∃ r : Nat, r < h.m - 1 ∧ d = dn (i + 1 + r)) stP (pd_op (S1 := fun d => d = dn (i + 1)) stP (pd_pu (Pu.is (pu_op (pu_var rfl) pu_c rv_add) (congrArg di (by omega))) rfl) (pd_draw (lim := h.m - 1) stP (pu_var rfl) (Pu.is (pu_op (pu_var rfl) pu_c rv_i0) (congrArg di em)) (by omega) (by omega)) fun d e hd he => ?_) pda_n) fun l hl => ?_) (pd_pu (pu_var rfl) rfl) fun d e hd he => ?_) pda_n))) fun l hl => ?_) (s1'.ext t2.1) (stP.keep t02.1 t02.2.1 ho) t02.2.2 (by omega) fun σ3 H3 n3 d l3 u3 t3 hd s3 => ?_
    · subst hd
      obtain ⟨r, hr, rfl⟩ := he
      exact ⟨_, ⟨r, hr, congrArg di (by omega)⟩, rv_add⟩
    · obtain ⟨d1, r1, rfl, ⟨r, hr, rfl⟩, rfl⟩ := hl
      exact ⟨_, ⟨r, hr, rfl⟩, rc_int⟩
    · obtain ⟨r, hr, rfl⟩ := hd
      subst he
      have hh := hear_ne hi hr
      refine ⟨_, ⟨(i + 1 + r) % h.m, hh.1, hh.2, rfl⟩, ?_⟩
      have z : RV rMod9 (fun _ => True) (dn (i + 1 + r)) (dn h.m) (di (((i + 1 + r : Nat) : Int).fmod (h.m : Int))) := rv_mod (by omega)
      rw [fm_n] at z
      exact z
    · obtain ⟨d1, r1, rfl, rfl, d2, r2, rfl, rfl, d3, r3, rfl, ⟨u, hu, hne, rfl⟩, rfl⟩ := hl
      exact ⟨by simp, u, hu, hne, rfl⟩
    · obtain ⟨u, hu, hne, rfl⟩ := hd
      exact fin σ3 H3 n3 (.hear i u) (by omega) (by omega) (t02.trans t3) ⟨hi, hu, hne⟩ (.inr rfl) s3
/-! turn, led -/
theorem back_ok {h : Hs} (ok : h.Ok) : h.back.Ok ∧ h.back.past.length + h.back.later.length = h.past.length + h.later.length := by
  have sz := ok.sz
  have e : h.back.past.length + h.back.later.length = h.past.length + h.later.length := by
    show (h.past.take (h.past.length - 1)).length + (h.past.drop (h.past.length - 1) ++ h.later).length = _
    rw [List.length_take, List.length_append, List.length_drop]
    omega
  refine ⟨⟨ok.kd, ok.m1, ok.m16, fun s hs => ok.okp s (List.mem_of_mem_take hs), fun s hs => ?_, by rw [e]; exact sz⟩, e⟩
  rcases List.mem_append.mp hs with z | z
  · exact ok.okp s (List.mem_of_mem_drop z)
  · exact ok.okl s z
theorem on_ok {h : Hs} (ok : h.Ok) : h.on.Ok ∧ h.on.past.length + h.on.later.length = h.past.length + h.later.length := by
  have sz := ok.sz
  have e : h.on.past.length + h.on.later.length = h.past.length + h.later.length := by
    show (h.past ++ h.later.take 1).length + (h.later.drop 1).length = _
    rw [List.length_append, List.length_take, List.length_drop]
    omega
  refine ⟨⟨ok.kd, ok.m1, ok.m16, fun s hs => ?_, fun s hs => ok.okl s (List.mem_of_mem_drop hs), by rw [e]; exact sz⟩, e⟩
  rcases List.mem_append.mp hs with z | z
  · exact ok.okp s z
  · exact ok.okl s (List.mem_of_mem_take z)
theorem rp_b (b : Bool) : RpOk (.bool b) := rpOk_of (okd_b b) (by decide) (by decide)
theorem rp_n {n : Nat} (h : n < 1000) : RpOk (.int (n : Int)) := rpOk_of (okd_n h) (by decide) (by decide)
section
variable {m c g a o : Addr} {H H' H1 H2 : Hp} {n : Nat} {h h' : Hs}
theorem HsAt.butS {l : List Addr} (x : HsAt K H a h) (e : ExS l H H') (et : ExT H H') (n : a ∉ l) : HsAt K H' a h := x.keep (fun u q => e a u n q) et
theorem Led.of (e : Ex H H') (d : DrAt H m c g n) (ha : HsAt K H a h) (ho : OwAt H o h) : Led K m c g a o n h H H' := ⟨e.t, ExS.of e, d.ext e, ha.ext e, ho.ext e⟩
theorem Led.ex (x : Led K m c g a o n h H H1) (e : Ex H1 H2) : Led K m c g a o n h H H2 := ⟨x.1.trans e.t, x.2.1.trans (ExS.of e), x.2.2.1.ext e, x.2.2.2.1.ext e, x.2.2.2.2.ext e⟩
theorem Led.trans {n' : Nat} (x : Led K m c g a o n h H H1) (y : Led K m c g a o n' h' H1 H2) : Led K m c g a o n' h' H H2 := ⟨x.1.trans y.1, x.2.1.trans y.2.1, y.2.2⟩
end
theorem rd__law_turn (h : sp__law_turn K vs H Q E) : t__law_turn K (Dn Q) (L2.start N__law_turn vs) H := by
  obtain ⟨m, c, g, n, a, o, h, rfl, dr0, ha, ho, ap, ok, m5, h30, hn, q⟩ := h
  have s := sl_start (N := N__law_turn) (l := [dr m, dr a, dr o]) (vs := [.ref m, .ref a, .ref o]) (H := H) (.cons (.leaf _) (.cons (.leaf _) (.cons (.leaf _) .nil))) (Nat.le_of_ble_eq_true rfl)
  have na : a ∉ [m, g] := by simp [ap.am, ap.ag]
  have no : o ∉ [m, g] := by simp [ap.om, ap.og]
  have nao : a ≠ o := ap.ao
  refine s_seq (s_asgD (P := fun _ => True) (m := m) (c := c) (g := g) (pd_draw (lim := 6) stbD_T (pu_var rfl) pu_c (by decide) (by decide)) s trivial dr0 (by omega) fun σ1 H1 n1 d1 l1 u1 t1 hd1 s1 => ?_)
  obtain ⟨pick, hp, rfl⟩ := hd1
  have ha1 : HsAt K H1 a h := ha.butS t1.2.1 t1.1 na
  have ho1 : OwAt H1 o h := ho.but t1.2.1 t1.1 no
  have s1' : Sl σ1 H1 [some (dr m), some (dr a), some (dr o), some (dn pick), none, none] := s1
  have tst : ∀ (j : Nat) (b : Bool), decide (pick = j) = b → PuT (tTest (tOp (rEq9 K) (tVar 3) (tC (.int (j : Int))))) [some (dr m), some (dr a), some (dr o), some (dn pick), none, none] (fun _ => True) b := fun j b hb => pt_test (Pu.is (pu_op (pu_var rfl) pu_c rv_eqI) (by rw [← hb]; exact congrArg db (dec_n pick j)))
  have frame : ∀ {H2 H3 : Hp} {h' : Hs}, DrTo m c g n1 H H2 → Turned K a h' H2 H3 → OwAt H2 o h → ExT H H3 ∧ ExS [m, g, a, o] H H3 ∧ DrAt H3 m c g n1 ∧ HsAt K H3 a h' ∧ OwAt H3 o h := by
    intro H2 H3 h' t2 r ho2
    exact ⟨t2.1.trans r.1, (t2.2.1.mono (by simp)).trans (ExS.ofB r.2.1 (by simp)), t2.2.2.keep (l := [a]) (ExS.ofB r.2.1 (by simp)) (by simp [Ne.symm ap.am]) (by simp [Ne.symm ap.ac]) (by simp [Ne.symm ap.ag]), r.2.2, ho2.keep (fun u z => r.2.1 o u (Ne.symm nao) z) r.1⟩
  have led2 : ∀ {H3 H4 : Hp} {h' : Hs}, ExT H H3 ∧ ExS [m, g, a, o] H H3 ∧ DrAt H3 m c g n1 ∧ HsAt K H3 a h' ∧ OwAt H3 o h → Recd o h' H3 H4 → Led K m c g a o n1 h' H H4 := by
    intro H3 H4 h' f r
    obtain ⟨f1, f2, f3, f4, f5⟩ := f
    exact ⟨f1.trans r.1, f2.trans (ExS.ofB r.2.1 (by simp)), f3.keep (l := [o]) (ExS.ofB r.2.1 (by simp)) (by simp [Ne.symm ap.om]) (by simp [Ne.symm ap.oc]) (by simp [Ne.symm ap.og]), f4.but r.2.1 r.1 nao, r.2.2⟩
  have at1 : ∀ {σ' : L2.St} {H' : Hp} {Γ : Cxt}, Sl σ' H' Γ → Γ[1]? = some (some (dr a)) → σ'[1]? = some (some (.ref a)) := fun s h => by
    obtain ⟨y, h1, h2⟩ := s.at_ 1 _ h
    rw [h1, h2.v_eq]
  have at2 : ∀ {σ' : L2.St} {H' : Hp} {Γ : Cxt}, Sl σ' H' Γ → Γ[2]? = some (some (dr o)) → σ'[2]? = some (some (.ref o)) := fun s h => by
    obtain ⟨y, h1, h2⟩ := s.at_ 2 _ h
    rw [h1, h2.v_eq]
  have meth : ∀ {H' : Hp} {m : Str}, HsAt K H' a h → (m == ("own_kind" : Str)) = false ∧ (m == ("own_many" : Str)) = false ∧ (m == ("past" : Str)) = false ∧ (m == ("later" : Str)) = false → ∃ dx fs, H' a = some (.ins (He.ga K "House") dx fs) ∧ fs.lookup m = none := fun x hm => hs_no x hm
  by_cases h0 : pick = 0
  · refine s_seq (s_ifT (P := fun _ => True) (tst 0 true (decide_eq_true h0)) s1' trivial fun H2 e2 => ?_)
    have ha2 := ha1.ext e2
    have s2 := s1'.ext e2.t
    obtain ⟨dx, fs, hi1, hi2⟩ := meth (m := "undo") ha2 (by decide)
    refine ⟨.ref a, at1 s2 rfl, a, dx, fs, rfl, hi1, hi2, a, h, rfl, ha2, ok, fun H3 r3 => ?_⟩
    have f3 := frame (t1.ex e2) r3 (ho1.ext e2)
    refine ⟨.ref o, at2 s2 rfl, o, h, rfl, f3.2.2.2.2, ok, fun H4 r4 => ?_⟩
    have L4 := led2 f3 r4
    refine ⟨_, _, .bool (!h.past.isEmpty), rfl, .bl _, .bl _, rp_b _, .inl ⟨_, rfl⟩, fun H5 e5 => ?_⟩
    have bk := back_ok ok
    exact q H5 n1 h.back (by omega) (by omega) (L4.ex e5) rfl rfl bk.1 (by rw [bk.2]; omega)
  refine s_seq (s_ifF (P := fun _ => True) (tst 0 false (decide_eq_false h0)) s1' trivial fun H2 e2 => s_next ?_)
  have s2 := s1'.ext e2.t
  have ha2 := ha1.ext e2
  have ho2 := ho1.ext e2
  have t2 := t1.ex e2
  by_cases h1 : pick = 1
  · refine s_seq (s_ifT (P := fun _ => True) (tst 1 true (decide_eq_true h1)) s2 trivial fun H3 e3 => ?_)
    have ha3 := ha2.ext e3
    have s3 := s2.ext e3.t
    obtain ⟨dx, fs, hi1, hi2⟩ := meth (m := "redo") ha3 (by decide)
    refine ⟨.ref a, at1 s3 rfl, a, dx, fs, rfl, hi1, hi2, a, h, rfl, ha3, ok, fun H4 r4 => ?_⟩
    have f4 := frame (t2.ex e3) r4 (ho2.ext e3)
    refine ⟨.ref o, at2 s3 rfl, o, h, rfl, f4.2.2.2.2, ok, fun H5 r5 => ?_⟩
    have L5 := led2 f4 r5
    refine ⟨_, _, .bool (!h.later.isEmpty), rfl, .bl _, .bl _, rp_b _, .inl ⟨_, rfl⟩, fun H6 e6 => ?_⟩
    have bk := on_ok ok
    exact q H6 n1 h.on (by omega) (by omega) (L5.ex e6) rfl rfl bk.1 (by rw [bk.2]; omega)
  refine s_seq (s_ifF (P := fun _ => True) (tst 1 false (decide_eq_false h1)) s2 trivial fun H3 e3 => s_next ?_)
  have s3 := s2.ext e3.t
  have ha3 := ha2.ext e3
  have ho3 := ho2.ext e3
  have t3 := t2.ex e3
  have sz := ok.sz
  have at0 : σ1[0]? = some (some (.ref m)) := by
    obtain ⟨y, h1, h2⟩ := s3.at_ 0 _ rfl
    rw [h1, h2.v_eq]
  refine s_seq ⟨.ref m, at0, .ref o, at2 s3 rfl, m, c, g, n1, o, h, rfl, t3.2.2, ho3, ap.om, ap.oc, ap.og, ok, m5, by omega, by omega, fun H4 n4 x st i l4 u4 x4 b4 d4 o4 hst hsi hx => ?_⟩
  have na4 : a ∉ [m, g, o] := by simp [ap.am, ap.ag, nao]
  have ha4 : HsAt K H4 a h := ha3.butS b4 x4 na4
  refine g_tup (l := [stD st, shownD (h.did st) i]) (is := [4, 5]) hx (s3.ext x4) rfl rfl fun σ5 s5 => ?_
  have okd := did_ok ok hst (by omega)
  have sl : (h.did st).past.length + (h.did st).later.length ≤ h.past.length + h.later.length + 1 := by
    show (h.past ++ [st]).length + 0 ≤ _
    rw [List.length_append, List.length_singleton]
    omega
  -- the last words, whichever it was
  have fin : ∀ {H5 : Hp} (z : V) (y : V), ExT H4 H5 → ExB a H4 H5 → HsAt K H5 a (h.did st) → z = .int (((h.did st).k.rd.getD ((runS (h.did st).k (h.did st).m (h.did st).past).getD i 0) 0 : Nat) : Int) → y = z → i < h.m → sp__law_like K [z, y] H5 Q E0 := by
    intro H5 z y x5 b5 ha5 hz hy him
    subst hy
    subst hz
    refine ⟨_, _, .int _, rfl, .int _, .int _, rp_n (shown_lt okd him), .inr (.inl ⟨_, rfl⟩), fun H6 e6 => ?_⟩
    refine q H6 n4 (h.did st) (by omega) (by omega) (Led.ex ⟨(t3.1.trans x4).trans x5, ((t3.2.1.mono (by simp)).trans (b4.mono (by simp))).trans (ExS.ofB b5 (by simp)), d4.keep (l := [a]) (ExS.ofB b5 (by simp)) (by simp [Ne.symm ap.am]) (by simp [Ne.symm ap.ac]) (by simp [Ne.symm ap.ag]), ha5, o4.keep (fun u w => b5 o u (Ne.symm nao) w) x5⟩ e6) rfl rfl okd sl
  cases st with
  | act j u =>
    have hji : j = i := by
      rcases hsi with z | z
      · exact (Stp.act.inj z).1
      · cases z
    subst hji
    refine s_seq (s_ifT (P := fun _ => True) (pt_test (Pu.is (pu_op (pu_ix (l := [ds "do", dn j, dn u]) (pu_var rfl) rfl) pu_c rv_eqS) (congrArg db (decide_eq_true rfl)))) s5 trivial fun H5 e5 => ?_)
    have s6 := s5.ext e5.t
    have ha5 := ha4.ext e5
    obtain ⟨dx, fs, hi1, hi2⟩ := meth (m := "do") ha5 (by decide)
    refine ⟨.ref a, at1 s6 rfl, a, dx, fs, rfl, hi1, hi2, ?_⟩
    refine (pa_c (P := fun _ => True) (pu_ix (l := [ds "do", dn j, dn u]) (pu_var rfl) rfl) (pa_c (pu_ix (l := [ds "do", dn j, dn u]) (pu_var rfl) rfl) pa_n) : PuA _ _ _ [dn j, dn u]) σ5 H5 s6 trivial _ fun xs H6 e6 hxs => ?_
    have ex : xs = [.int (j : Int), .int (u : Int)] := TDs.ofLeaves (vs := [.int (j : Int), .int (u : Int)]) hxs
    subst ex
    refine ⟨a, h, (j : Int), u, rfl, ha5.ext e6, ok, fun j' hj' hjm => ⟨hst.2, by omega, fun z H7 r7 hz => ?_⟩, fun hno => absurd ⟨by omega, by have := hst.1; omega⟩ hno⟩
    have : j' = j := by omega
    subst this
    obtain ⟨y, hy1, hy2⟩ := (((s6.ext e6.t).ext r7.1)).at_ 5 (shownD (h.did (.act j' u)) j') rfl
    refine ⟨y, hy1, fin z y ((Ex.t (e5.trans e6)).trans r7.1) ((ExB.of (e5.trans e6)).trans r7.2.1) r7.2.2 hz.v_eq (hy2.v_eq.trans hz.v_eq.symm) hjm⟩
  | hear j u =>
    have hji : j = i := by
      rcases hsi with z | z
      · cases z
      · exact (Stp.hear.inj z).1
    subst hji
    refine s_seq (s_ifF (P := fun _ => True) (pt_test (Pu.is (pu_op (pu_ix (l := [ds "hear", dn j, dn u]) (pu_var rfl) rfl) pu_c rv_eqS) (congrArg db (decide_eq_false (by decide))))) s5 trivial fun H5 e5 => s_next ?_)
    have s6 := s5.ext e5.t
    have ha5 := ha4.ext e5
    obtain ⟨dx, fs, hi1, hi2⟩ := meth (m := "hear") ha5 (by decide)
    refine ⟨.ref a, at1 s6 rfl, a, dx, fs, rfl, hi1, hi2, ?_⟩
    refine (pa_c (P := fun _ => True) (pu_ix (l := [ds "hear", dn j, dn u]) (pu_var rfl) rfl) (pa_c (pu_ix (l := [ds "hear", dn j, dn u]) (pu_var rfl) rfl) pa_n) : PuA _ _ _ [dn j, dn u]) σ5 H5 s6 trivial _ fun xs H6 e6 hxs => ?_
    have ex : xs = [.int (j : Int), .int (u : Int)] := TDs.ofLeaves (vs := [.int (j : Int), .int (u : Int)]) hxs
    subst ex
    refine ⟨a, h, j, u, rfl, ha5.ext e6, ok, hst.1, hst.2.1, hst.2.2, by omega, fun z H7 r7 hz => ?_⟩
    obtain ⟨y, hy1, hy2⟩ := (((s6.ext e6.t).ext r7.1)).at_ 5 (shownD (h.did (.hear j u)) j) rfl
    refine ⟨y, hy1, fin z y ((Ex.t (e5.trans e6)).trans r7.1) ((ExB.of (e5.trans e6)).trans r7.2.1) r7.2.2 hz.v_eq (hy2.v_eq.trans hz.v_eq.symm) hst.1⟩
theorem rd__law_led (h : sp__law_led K vs H Q E) : t__law_led K (Dn Q) (L2.start N__law_led vs) H := by
  obtain ⟨m, c, g, n, a, o, h, w, rfl, dr0, ha, ho, ap, ok, m5, h30, hn, q⟩ := h
  have s := sl_start (N := N__law_led) (l := [dr m, dr a, dr o, dn w]) (vs := [.ref m, .ref a, .ref o, .int (w : Int)]) (H := H) (.cons (.leaf _) (.cons (.leaf _) (.cons (.leaf _) (.cons (.leaf _) .nil)))) (Nat.le_of_ble_eq_true rfl)
  let J : Nat → L2.St → Hp → Prop := fun i σ' H' => Sl σ' H' [some (dr m), some (dr a), some (dr o), some (dn w), none] ∧ ∃ n' h', n ≤ n' ∧ n' ≤ n + 4 * i ∧ Led K m c g a o n' h' H H' ∧ h'.k = h.k ∧ h'.m = h.m ∧ h'.Ok ∧ h'.past.length + h'.later.length ≤ h.past.length + h.later.length + i
  refine s_seq (s_forR (P := fun _ => True) (n := w) (pa_c (pu_var rfl) pa_n) (by omega) s trivial J ?_ ?_ ?_)
  · exact fun H1 e1 => ⟨s.ext e1.t, n, h, Nat.le_refl _, by omega, Led.of e1 dr0 ha ho, rfl, rfl, ok, by omega⟩
  · rintro i σ' H' hi ⟨s', n', h', l', u', L, hk, hm, ok', hl⟩
    have at_ : ∀ {H2 : Hp}, Sl (σ'.set 4 (some (.int (i : Int)))) H2 [some (dr m), some (dr a), some (dr o), some (dn w), some (dn i)] → (σ'.set 4 (some (.int (i : Int))))[0]? = some (some (.ref m)) ∧ (σ'.set 4 (some (.int (i : Int))))[1]? = some (some (.ref a)) ∧ (σ'.set 4 (some (.int (i : Int))))[2]? = some (some (.ref o)) := fun {H2} s => by
      obtain ⟨y0, h1, h2⟩ := s.at_ 0 _ rfl
      obtain ⟨y1, h3, h4⟩ := s.at_ 1 _ rfl
      obtain ⟨y2, h5, h6⟩ := s.at_ 2 _ rfl
      exact ⟨by rw [h1, h2.v_eq], by rw [h3, h4.v_eq], by rw [h5, h6.v_eq]⟩
    have s1 := s'.set (x := .int (i : Int)) (d := dn i) (.leaf _) 4
    obtain ⟨z0, z1, z2⟩ := at_ s1
    obtain ⟨L1, L2', L3, L4, L5⟩ := id L
    refine ⟨.ref m, z0, .ref a, z1, .ref o, z2, m, c, g, n', a, o, h', rfl, L3, L4, L5, ap, ok', by rw [hm]; exact m5, by omega, by omega, fun H2 n2 h2 ln2 un2 Lt hk2 hm2 ok2 hl2 => ⟨true, rfl, ?_⟩⟩
    have LL := L.trans Lt
    refine ⟨.ref a, z1, .ref o, z2, a, o, h2, rfl, LL.2.2.2.1, LL.2.2.2.2, ok2, by rw [hm2, hm]; exact m5, fun H3 e3 => ⟨true, rfl, ?_⟩⟩
    refine ⟨((s1.ext Lt.1).ext e3.t).lessL ⟨rfl, rfl, rfl, rfl, trivial⟩, n2, h2, by omega, by omega, LL.ex e3, hk2.trans hk, hm2.trans hm, ok2, by omega⟩
  · rintro σ' H' ⟨s', n', h', l', u', L, hk, hm, ok', hl⟩
    exact q H' n' h' l' u' L hk hm ok' hl
end W9
set_option maxHeartbeats 4000000
namespace W9
open PySem PySem.Spec PyProof.Rows L2
theorem ok__law_mixed {P : Program} {w : World} {K : PySem.W.Frag} {mg : Str → Option Value} {base : Heap} (T : Txt K mg) (F : ∃ fd, Fun K "_law_mixed" "_law_mixed" s__law_mixed (He.ga K "_law_mixed") fd)  :
    Okf P w K mg base CX0 1 (He.ga K "_law_mixed") ["_law_cell", "_law_n"] (sp__law_mixed K) := by
  obtain ⟨fd, F⟩ := F
  exact ⟨fd, F.ok sc__law_mixed (fun vs H Q E h => by obtain ⟨l, _, hl, ⟨_, _, rfl, _⟩, _⟩ := h; exact hl.length) (fun cdv A outer s H vs Q E hr h => ⟨_, pd__law_mixed T  hr, rd__law_mixed h⟩), F.binds (fun _ _ _ _ _ _ us hl => match us, hl with | [_, _], _ => rfl), F.kp⟩
theorem ok__law_folded {P : Program} {w : World} {K : PySem.W.Frag} {mg : Str → Option Value} {base : Heap} (T : Txt K mg) (F : ∃ fd, Fun K "_law_folded" "_law_folded" s__law_folded (He.ga K "_law_folded") fd)  :
    Okf P w K mg base CX0 1 (He.ga K "_law_folded") ["_law_script"] (sp__law_folded K) := by
  obtain ⟨fd, F⟩ := F
  exact ⟨fd, F.ok sc__law_folded (fun vs H Q E h => by obtain ⟨_, _, rfl, _⟩ := h; rfl) (fun cdv A outer s H vs Q E hr h => ⟨_, pd__law_folded T  hr, rd__law_folded h⟩), F.binds (fun _ _ _ _ _ _ us hl => match us, hl with | [_], _ => rfl), F.kp⟩
theorem ok__law_draw {P : Program} {w : World} {K : PySem.W.Frag} {mg : Str → Option Value} {base : Heap} (T : Txt K mg) (F : ∃ fd, Fun K "_law_draw" "_law_draw" s__law_draw (He.ga K "_law_draw") fd) (G__law_mixed : Okf P w K mg base CX0 1 (He.ga K "_law_mixed") ["_law_cell", "_law_n"] (sp__law_mixed K)) :
    Okf P w K mg base CX0 2 (He.ga K "_law_draw") ["_law_m", "_law_limit"] (sp__law_draw K) := by
  obtain ⟨fd, F⟩ := F
  exact ⟨fd, F.ok sc__law_draw (fun vs H Q E h => by obtain ⟨_, _, _, _, _, rfl, _⟩ := h; rfl) (fun cdv A outer s H vs Q E hr h => ⟨_, pd__law_draw T G__law_mixed hr, rd__law_draw h⟩), F.binds (fun _ _ _ _ _ _ us hl => match us, hl with | [_, _], _ => rfl), F.kp⟩
theorem ok__law_begun {P : Program} {w : World} {K : PySem.W.Frag} {mg : Str → Option Value} {base : Heap} (T : Txt K mg) (F : ∃ fd, Fun K "_law_begun" "_law_begun" s__law_begun (He.ga K "_law_begun") fd) (G__law_folded : Okf P w K mg base CX0 1 (He.ga K "_law_folded") ["_law_script"] (sp__law_folded K)) :
    Okf P w K mg base CX0 2 (He.ga K "_law_begun") ["_law_script"] (sp__law_begun K) := by
  obtain ⟨fd, F⟩ := F
  exact ⟨fd, F.ok sc__law_begun (fun vs H Q E h => by obtain ⟨_, _, rfl, _⟩ := h; rfl) (fun cdv A outer s H vs Q E hr h => ⟨_, pd__law_begun T G__law_folded hr, rd__law_begun h⟩), F.binds (fun _ _ _ _ _ _ us hl => match us, hl with | [_], _ => rfl), F.kp⟩
theorem ok__law_like {P : Program} {w : World} {K : PySem.W.Frag} {mg : Str → Option Value} {base : Heap} (T : Txt K mg) (F : ∃ fd, Fun K "_law_like" "_law_like" s__law_like (He.ga K "_law_like") fd)  :
    Okg P w K mg base CX0 1 (He.ga K "_law_like") ["_law_answer", "_law_due"] (sp__law_like K) := by
  obtain ⟨fd, F⟩ := F
  exact ⟨fd, W9.Fun.okG F sc__law_like (fun vs H Q E h => by obtain ⟨_, _, _, rfl, _⟩ := h; rfl) (fun cdv A outer s H vs Q E hcd hgd hr h => ⟨_, (pd__law_like T  hgd hr).nox, rd__law_like h⟩), F.binds (fun _ _ _ _ _ _ us hl => match us, hl with | [_, _], _ => rfl), F.kp⟩
theorem ok__law_join_table {P : Program} {w : World} {K : PySem.W.Frag} {mg : Str → Option Value} {base : Heap} (T : Txt K mg) (F : ∃ fd, Fun K "_law_join_table" "_law_join_table" s__law_join_table (He.ga K "_law_join_table") fd) (G__law_draw : Okf P w K mg base CX0 2 (He.ga K "_law_draw") ["_law_m", "_law_limit"] (sp__law_draw K)) (G__law_both_lots : Okf P w K mg base CX0 1 (He.ga K "_law_both_lots") ["_law_x", "_law_y"] (sp__law_both_lots K)) :
    Okf P w K mg base CX0 3 (He.ga K "_law_join_table") ["_law_m"] (sp__law_join_table K) := by
  obtain ⟨fd, F⟩ := F
  exact ⟨fd, F.ok sc__law_join_table (fun vs H Q E h => by obtain ⟨_, _, _, _, rfl, _⟩ := h; rfl) (fun cdv A outer s H vs Q E hr h => ⟨_, pd__law_join_table T G__law_draw G__law_both_lots hr, rd__law_join_table h⟩), F.binds (fun _ _ _ _ _ _ us hl => match us, hl with | [_], _ => rfl), F.kp⟩
theorem ok__law_both_lots {P : Program} {w : World} {K : PySem.W.Frag} {mg : Str → Option Value} {base : Heap} (T : Txt K mg) (F : ∃ fd, Fun K "_law_both_lots" "_law_both_lots" s__law_both_lots (He.ga K "_law_both_lots") fd)  :
    Okf P w K mg base CX0 1 (He.ga K "_law_both_lots") ["_law_x", "_law_y"] (sp__law_both_lots K) := by
  obtain ⟨fd, F⟩ := F
  exact ⟨fd, F.ok sc__law_both_lots (fun vs H Q E h => by obtain ⟨l, _, hl, ⟨_, _, rfl, _⟩, _⟩ := h; exact hl.length) (fun cdv A outer s H vs Q E hr h => ⟨_, pd__law_both_lots T  hr, rd__law_both_lots h⟩), F.binds (fun _ _ _ _ _ _ us hl => match us, hl with | [_, _], _ => rfl), F.kp⟩
theorem ok__law_reads {P : Program} {w : World} {K : PySem.W.Frag} {mg : Str → Option Value} {base : Heap} (T : Txt K mg) (F : ∃ fd, Fun K "_law_reads" "_law_reads" s__law_reads (He.ga K "_law_reads") fd) (G__law_draw : Okf P w K mg base CX0 2 (He.ga K "_law_draw") ["_law_m", "_law_limit"] (sp__law_draw K)) :
    Okf P w K mg base CX0 3 (He.ga K "_law_reads") ["_law_m", "_law_size"] (sp__law_reads K) := by
  obtain ⟨fd, F⟩ := F
  exact ⟨fd, F.ok sc__law_reads (fun vs H Q E h => by obtain ⟨_, _, _, _, _, rfl, _⟩ := h; rfl) (fun cdv A outer s H vs Q E hr h => ⟨_, pd__law_reads T G__law_draw hr, rd__law_reads h⟩), F.binds (fun _ _ _ _ _ _ us hl => match us, hl with | [_, _], _ => rfl), F.kp⟩
theorem ok__law_renumbered {P : Program} {w : World} {K : PySem.W.Frag} {mg : Str → Option Value} {base : Heap} (T : Txt K mg) (F : ∃ fd, Fun K "_law_renumbered" "_law_renumbered" s__law_renumbered (He.ga K "_law_renumbered") fd)  :
    Okf P w K mg base CX0 1 (He.ga K "_law_renumbered") ["_law_kind_so", "_law_places"] (sp__law_renumbered K) := by
  obtain ⟨fd, F⟩ := F
  exact ⟨fd, F.ok sc__law_renumbered (fun vs H Q E h => by obtain ⟨_, _, _, _, rfl, _⟩ := h; rfl) (fun cdv A outer s H vs Q E hr h => ⟨_, pd__law_renumbered T  hr, rd__law_renumbered h⟩), F.binds (fun _ _ _ _ _ _ us hl => match us, hl with | [_, _], _ => rfl), F.kp⟩
theorem ok__law_holding {P : Program} {w : World} {K : PySem.W.Frag} {mg : Str → Option Value} {base : Heap} (T : Txt K mg) (F : ∃ fd, Fun K "_law_holding" "_law_holding" s__law_holding (He.ga K "_law_holding") fd) (G__law_join_table : Okf P w K mg base CX0 3 (He.ga K "_law_join_table") ["_law_m"] (sp__law_join_table K)) (G__law_draw : Okf P w K mg base CX0 2 (He.ga K "_law_draw") ["_law_m", "_law_limit"] (sp__law_draw K)) (G__law_reads : Okf P w K mg base CX0 3 (He.ga K "_law_reads") ["_law_m", "_law_size"] (sp__law_reads K)) (G__law_renumbered : Okf P w K mg base CX0 1 (He.ga K "_law_renumbered") ["_law_kind_so", "_law_places"] (sp__law_renumbered K)) :
    Okf P w K mg base CX0 4 (He.ga K "_law_holding") ["_law_m"] (sp__law_holding K) := by
  obtain ⟨fd, F⟩ := F
  exact ⟨fd, F.ok sc__law_holding (fun vs H Q E h => by obtain ⟨_, _, _, _, rfl, _⟩ := h; rfl) (fun cdv A outer s H vs Q E hr h => ⟨_, pd__law_holding T G__law_join_table G__law_draw G__law_reads G__law_renumbered hr, rd__law_holding h⟩), F.binds (fun _ _ _ _ _ _ us hl => match us, hl with | [_], _ => rfl), F.kp⟩
theorem ok__law_any {P : Program} {w : World} {K : PySem.W.Frag} {mg : Str → Option Value} {base : Heap} (T : Txt K mg) (F : ∃ fd, Fun K "_law_any" "_law_any" s__law_any (He.ga K "_law_any") fd) (G__law_draw : Okf P w K mg base CX0 2 (He.ga K "_law_draw") ["_law_m", "_law_limit"] (sp__law_draw K)) (G__law_reads : Okf P w K mg base CX0 3 (He.ga K "_law_reads") ["_law_m", "_law_size"] (sp__law_reads K)) (G__law_holding : Okf P w K mg base CX0 4 (He.ga K "_law_holding") ["_law_m"] (sp__law_holding K)) :
    Okf P w K mg base CX0 5 (He.ga K "_law_any") ["_law_m"] (sp__law_any K) := by
  obtain ⟨fd, F⟩ := F
  exact ⟨fd, F.ok sc__law_any (fun vs H Q E h => by obtain ⟨_, _, _, _, rfl, _⟩ := h; rfl) (fun cdv A outer s H vs Q E hr h => ⟨_, pd__law_any T G__law_draw G__law_reads G__law_holding hr, rd__law_any h⟩), F.binds (fun _ _ _ _ _ _ us hl => match us, hl with | [_], _ => rfl), F.kp⟩
theorem ok__law_run {P : Program} {w : World} {K : PySem.W.Frag} {mg : Str → Option Value} {base : Heap} (T : Txt K mg) (F : ∃ fd, Fun K "_law_run" "_law_run" s__law_run (He.ga K "_law_run") fd)  :
    Okf P w K mg base CX0 1 (He.ga K "_law_run") ["_law_kind_so", "_law_story"] (sp__law_run K) := by
  obtain ⟨fd, F⟩ := F
  exact ⟨fd, F.ok sc__law_run (fun vs H Q E h => by obtain ⟨l, _, hl, ⟨_, _, _, _, rfl, _⟩, _⟩ := h; exact hl.length) (fun cdv A outer s H vs Q E hr h => ⟨_, pd__law_run T  hr, rd__law_run h⟩), F.binds (fun _ _ _ _ _ _ us hl => match us, hl with | [_, _], _ => rfl), F.kp⟩
theorem ok__law_begin_house {P : Program} {w : World} {K : PySem.W.Frag} {mg : Str → Option Value} {base : Heap} (T : Txt K mg) (F : ∃ fd, Fun K "_law_begin_house" "_law_begin_house" s__law_begin_house (He.ga K "_law_begin_house") fd)  :
    Okf P w K mg base CX0 1 (He.ga K "_law_begin_house") ["_law_kind_so", "_law_many"] (sp__law_begin_house K) := by
  obtain ⟨fd, F⟩ := F
  exact ⟨fd, F.ok sc__law_begin_house (fun vs H Q E h => by obtain ⟨_, _, _, rfl, _⟩ := h; rfl) (fun cdv A outer s H vs Q E hr h => ⟨_, pd__law_begin_house T  hr, rd__law_begin_house h⟩), F.binds (fun _ _ _ _ _ _ us hl => match us, hl with | [_, _], _ => rfl), F.kp⟩
theorem ok__law_split_of {P : Program} {w : World} {K : PySem.W.Frag} {mg : Str → Option Value} {base : Heap} (T : Txt K mg) (F : ∃ fd, Fun K "_law_split_of" "_law_split_of" s__law_split_of (He.ga K "_law_split_of") fd)  :
    Okf P w K mg base CX0 1 (He.ga K "_law_split_of") ["_law_states_so", "_law_told"] (sp__law_split_of K) := by
  obtain ⟨fd, F⟩ := F
  exact ⟨fd, F.ok sc__law_split_of (fun vs H Q E h => by obtain ⟨l, _, hl, ⟨_, _, rfl, _⟩, _⟩ := h; exact hl.length) (fun cdv A outer s H vs Q E hr h => ⟨_, pd__law_split_of T  hr, rd__law_split_of h⟩), F.binds (fun _ _ _ _ _ _ us hl => match us, hl with | [_, _], _ => rfl), F.kp⟩
theorem ok__law_stands {P : Program} {w : World} {K : PySem.W.Frag} {mg : Str → Option Value} {base : Heap} (T : Txt K mg) (F : ∃ fd, Fun K "_law_stands" "_law_stands" s__law_stands (He.ga K "_law_stands") fd) (G__law_run : Okf P w K mg base CX0 1 (He.ga K "_law_run") ["_law_kind_so", "_law_story"] (sp__law_run K)) (G_House_split : Okf P w K mg base CX0 7 (He.ma K (He.ga K "House") "split") ["self"] (sp_House_split K)) (G_House_states : Okf P w K mg base CX0 3 (He.ma K (He.ga K "House") "states") ["self"] (sp_House_states K)) (G_House___len__ : Okf P w K mg base CX0 1 (He.ma K (He.ga K "House") "__len__") ["self"] (sp_House___len__ K)) (G_House_history : Okf P w K mg base CX0 1 (gAd K "House" "history") ["self"] (sp_House_history K)) (G_House_table : Okf P w K mg base CX0 1 (gAd K "House" "table") ["self"] (sp_House_table K)) (G__law_split_of : Okf P w K mg base CX0 1 (He.ga K "_law_split_of") ["_law_states_so", "_law_told"] (sp__law_split_of K)) (G__law_like : Okg P w K mg base CX0 1 (He.ga K "_law_like") ["_law_answer", "_law_due"] (sp__law_like K)) (G_House_known : Okf P w K mg base CX0 4 (He.ma K (He.ga K "House") "known") ["self", "number"] (sp_House_known K)) (G_House_shown : Okf P w K mg base CX0 4 (He.ma K (He.ga K "House") "shown") ["self", "number"] (sp_House_shown K)) :
    Okg P w K mg base CX0 8 (He.ga K "_law_stands") ["_law_house_so", "_law_own"] (sp__law_stands K) := by
  obtain ⟨fd, F⟩ := F
  exact ⟨fd, W9.Fun.okG F sc__law_stands (fun vs H Q E h => by obtain ⟨_, _, _, rfl, _⟩ := h; rfl) (fun cdv A outer s H vs Q E hcd hgd hr h => ⟨_, (pd__law_stands T G__law_run G_House_split G_House_states G_House___len__ G_House_history G_House_table G__law_split_of G__law_like G_House_known G_House_shown hgd hr).nox, rd__law_stands h⟩), F.binds (fun _ _ _ _ _ _ us hl => match us, hl with | [_, _], _ => rfl), F.kp⟩
theorem ok__law_gone_back {P : Program} {w : World} {K : PySem.W.Frag} {mg : Str → Option Value} {base : Heap} (T : Txt K mg) (F : ∃ fd, Fun K "_law_gone_back" "_law_gone_back" s__law_gone_back (He.ga K "_law_gone_back") fd)  :
    Okf P w K mg base CX0 1 (He.ga K "_law_gone_back") ["_law_own"] (sp__law_gone_back K) := by
  obtain ⟨fd, F⟩ := F
  exact ⟨fd, F.ok sc__law_gone_back (fun vs H Q E h => by obtain ⟨_, _, rfl, _⟩ := h; rfl) (fun cdv A outer s H vs Q E hr h => ⟨_, pd__law_gone_back T  hr, rd__law_gone_back h⟩), F.binds (fun _ _ _ _ _ _ us hl => match us, hl with | [_], _ => rfl), F.kp⟩
theorem ok__law_gone_on {P : Program} {w : World} {K : PySem.W.Frag} {mg : Str → Option Value} {base : Heap} (T : Txt K mg) (F : ∃ fd, Fun K "_law_gone_on" "_law_gone_on" s__law_gone_on (He.ga K "_law_gone_on") fd)  :
    Okf P w K mg base CX0 1 (He.ga K "_law_gone_on") ["_law_own"] (sp__law_gone_on K) := by
  obtain ⟨fd, F⟩ := F
  exact ⟨fd, F.ok sc__law_gone_on (fun vs H Q E h => by obtain ⟨_, _, rfl, _⟩ := h; rfl) (fun cdv A outer s H vs Q E hr h => ⟨_, pd__law_gone_on T  hr, rd__law_gone_on h⟩), F.binds (fun _ _ _ _ _ _ us hl => match us, hl with | [_], _ => rfl), F.kp⟩
theorem ok__law_step_of {P : Program} {w : World} {K : PySem.W.Frag} {mg : Str → Option Value} {base : Heap} (T : Txt K mg) (F : ∃ fd, Fun K "_law_step_of" "_law_step_of" s__law_step_of (He.ga K "_law_step_of") fd) (G__law_draw : Okf P w K mg base CX0 2 (He.ga K "_law_draw") ["_law_m", "_law_limit"] (sp__law_draw K)) (G__law_run : Okf P w K mg base CX0 1 (He.ga K "_law_run") ["_law_kind_so", "_law_story"] (sp__law_run K)) :
    Okf P w K mg base CX0 3 (He.ga K "_law_step_of") ["_law_m", "_law_own"] (sp__law_step_of K) := by
  obtain ⟨fd, F⟩ := F
  exact ⟨fd, F.ok sc__law_step_of (fun vs H Q E h => by obtain ⟨_, _, _, _, _, _, rfl, _⟩ := h; rfl) (fun cdv A outer s H vs Q E hr h => ⟨_, pd__law_step_of T G__law_draw G__law_run hr, rd__law_step_of h⟩), F.binds (fun _ _ _ _ _ _ us hl => match us, hl with | [_, _], _ => rfl), F.kp⟩
theorem ok__law_turn {P : Program} {w : World} {K : PySem.W.Frag} {mg : Str → Option Value} {base : Heap} (T : Txt K mg) (F : ∃ fd, Fun K "_law_turn" "_law_turn" s__law_turn (He.ga K "_law_turn") fd) (G__law_draw : Okf P w K mg base CX0 2 (He.ga K "_law_draw") ["_law_m", "_law_limit"] (sp__law_draw K)) (G__law_like : Okg P w K mg base CX0 1 (He.ga K "_law_like") ["_law_answer", "_law_due"] (sp__law_like K)) (G__law_gone_back : Okf P w K mg base CX0 1 (He.ga K "_law_gone_back") ["_law_own"] (sp__law_gone_back K)) (G_House_undo : Okf P w K mg base CX0 1 (He.ma K (He.ga K "House") "undo") ["self"] (sp_House_undo K)) (G__law_gone_on : Okf P w K mg base CX0 1 (He.ga K "_law_gone_on") ["_law_own"] (sp__law_gone_on K)) (G_House_redo : Okf P w K mg base CX0 1 (He.ma K (He.ga K "House") "redo") ["self"] (sp_House_redo K)) (G__law_step_of : Okf P w K mg base CX0 3 (He.ga K "_law_step_of") ["_law_m", "_law_own"] (sp__law_step_of K)) (G_House_do : Okf P w K mg base (L2.CX P w) 5 (He.ma K (He.ga K "House") "do") ["self", "number", "update"] (sp_House_do K)) (G_House_hear : Okf P w K mg base CX0 5 (He.ma K (He.ga K "House") "hear") ["self", "number", "other"] (sp_House_hear K)) :
    Okg P w K mg base CX0 6 (He.ga K "_law_turn") ["_law_m", "_law_house_so", "_law_own"] (sp__law_turn K) := by
  obtain ⟨fd, F⟩ := F
  exact ⟨fd, W9.Fun.okG F sc__law_turn (fun vs H Q E h => by obtain ⟨_, _, _, _, _, _, _, rfl, _⟩ := h; rfl) (fun cdv A outer s H vs Q E hcd hgd hr h => ⟨_, (pd__law_turn T G__law_draw G__law_like G__law_gone_back G_House_undo G__law_gone_on G_House_redo G__law_step_of G_House_do G_House_hear hgd hr).nox, rd__law_turn h⟩), F.binds (fun _ _ _ _ _ _ us hl => match us, hl with | [_, _, _], _ => rfl), F.kp⟩
theorem ok__law_led {P : Program} {w : World} {K : PySem.W.Frag} {mg : Str → Option Value} {base : Heap} (T : Txt K mg) (F : ∃ fd, Fun K "_law_led" "_law_led" s__law_led (He.ga K "_law_led") fd) (G__law_turn : Okg P w K mg base CX0 6 (He.ga K "_law_turn") ["_law_m", "_law_house_so", "_law_own"] (sp__law_turn K)) (G__law_stands : Okg P w K mg base CX0 8 (He.ga K "_law_stands") ["_law_house_so", "_law_own"] (sp__law_stands K)) :
    Okg P w K mg base CX0 9 (He.ga K "_law_led") ["_law_m", "_law_house_so", "_law_own", "_law_many"] (sp__law_led K) := by
  obtain ⟨fd, F⟩ := F
  exact ⟨fd, W9.Fun.okG F sc__law_led (fun vs H Q E h => by obtain ⟨_, _, _, _, _, _, _, _, rfl, _⟩ := h; rfl) (fun cdv A outer s H vs Q E hcd hgd hr h => ⟨_, (pd__law_led T G__law_turn G__law_stands hgd hr).nox, rd__law_led h⟩), F.binds (fun _ _ _ _ _ _ us hl => match us, hl with | [_, _, _, _], _ => rfl), F.kp⟩
theorem ok__law_twin_of {P : Program} {w : World} {K : PySem.W.Frag} {mg : Str → Option Value} {base : Heap} (T : Txt K mg) (F : ∃ fd, Fun K "_law_twin_of" "_law_twin_of" s__law_twin_of (He.ga K "_law_twin_of") fd)  :
    Okf P w K mg base CX0 1 (He.ga K "_law_twin_of") ["_law_own"] (sp__law_twin_of K) := by
  obtain ⟨fd, F⟩ := F
  exact ⟨fd, F.ok sc__law_twin_of (fun vs H Q E h => by obtain ⟨_, _, rfl, _⟩ := h; rfl) (fun cdv A outer s H vs Q E hr h => ⟨_, pd__law_twin_of T  hr, rd__law_twin_of h⟩), F.binds (fun _ _ _ _ _ _ us hl => match us, hl with | [_], _ => rfl), F.kp⟩
end W9
set_option maxHeartbeats 4000000
/-! under(manager, lambda), where what the lambda raises may speak of the slots; a def whose code object is known -/
namespace W9
open PySem PySem.Spec PyProof.Rows L2 LamX
open Sem (wp)
/-- a def with a table of its own: its body knows its code object -/
theorem okT {P : Program} {w : World} {K : PySem.W.Frag} {mg : Str → Option Value} {base : Heap} {CX : CXT} {x qual : Str} {st : Stmt} {p : He.Defn} {fd : FuncData} {N ps : List Str} {k : Nat} {sp : Sp} (F : Fun K x qual st (He.fAd K p) fd) (S : FnScope N ps (defScope st)) (len : ∀ vs H Q E, sp vs H Q E → vs.length = ps.length)
    (hbody : ∀ (cdv : Value) (A : Around) (outer : List Env) (s : Shared) (H : Hp) (vs : List V) (Q : VK) (E : XK), cdv = .ref (He.cT K p).1 → A.guards = some [] → Room k (A.deeper (envOfC qual (defScope st) s.heap.objs.size (He.fAd K p) cdv)) → sp vs H Q E →
      ∃ t, PSs (cxOf CX P w K mg base N qual (defScope st) (He.fAd K p) cdv A outer s H E) (defBody st) t ∧ t { nx := fun _ H' => Q .non H', rt := Q } (L2.start N vs) H) : FnG P w K mg base CX (k + 1) (He.fAd K p) fd ps sp := by
  obtain ⟨oc, od, kV, doc, pm, an, cdv, ct, osl, rfl, lk, hcd⟩ := F.ex
  obtain ⟨c, rfl⟩ := He.codeIn_ref hcd
  refine ⟨len, fun A outer s H args us vs Q E hg hr e0 hb r hsp => ?_⟩
  exact run_ofS lk hcd S hr e0 hb r (len _ _ _ _ hsp) fun hr' => hbody _ A outer s H vs Q E (by rw [show (He.cT K p).1 = He.codeOf K p from rfl, He.codeOf_eq lk rfl]) hg hr' hsp
section
variable {X : Cx}
theorem pe_underS {Tt : List (Addr × Str)} {spE spX : Sp} {k j : Nat} {c P : Addr} {fd : FuncData} {params : Arguments} {body o : Expr} {scope : Scope} {pname : Str} {to : TE} {tl : XK → TE} {ES : L2.St → XK} {p lpos pos : Pos} (T : Txt X.K X.mg) (hg : Gl X "under")
    (Ge : Okf X.prog X.w X.K X.mg X.base CX0 (k + 1) (He.ma X.K (He.ga X.K "Trial") "__enter__") ["self"] spE) (Gx : Okf X.prog X.w X.K X.mg X.base CX0 (k + 1) (He.ma X.K (He.ga X.K "Trial") "__exit__") ["self", "kind", "told", "trace"] spX)
    (Gh : Oke X.prog X.w X.K X.mg X.base (k + 1) (He.ma X.K (He.ga X.K "Trial") "__exit__") ["self", "kind", "told", "trace"] spX) (Fu : Fun X.K "under" "under" s_under (He.ga X.K "under") fd)
    (TB : TabB X.base X.mg c P) (hcode : X.env.code = .ref c) (hmT : (P, X.env.qual ++ "<lambda>") ∈ Tt) (hu : ∀ p ∈ Tt, p.1 = P → p.2 = X.env.qual ++ "<lambda>") (hr : Room (k + 2) X.A) (L : LamP X.env.scope scope pname) (hNX : X.N.Nodup) (hj : X.N[j]? = some pname)
    (hdef : defaultsOf params X.env = ([], [])) (hbind : ∀ (q : Str) (cl : List (Str × Addr)) (pm cv ctv u : Value), bindArgs (PySem.W.kla_fn "<lambda>" q params body scope cl pm cv ctv) ⟨[u], []⟩ = pure [(pname, u)]) (hxs : ∀ σ, PassesAt (L2.CX X.prog X.w) X σ (ES σ)) (mE : SpM spE) (mX : SpM spX)
    (ho : PE X o to) (no : starEach [o, .Lambda params body scope lpos] X.env = (false, eval o X.env) :: (false, eval (.Lambda params body scope lpos) X.env) :: starEach [] X.env)
    (hbody : ∀ (A : Around) (outer : List Env) (s : Shared) (H : Hp) (E' : XK) (f c' : Addr), A.guards = X.A.guards → Room k (A.deeper (lamEnv X scope s.heap.objs.size f c')) → PE (lamCx X A outer s H E' scope f c') body (tl E')) :
    PE X (.Call (.Name "under" p) [o, .Lambda params body scope lpos] [] pos) (fun σ H Q => tUnder Tt (He.ga X.K "Trial") spE spX (X.env.qual ++ "<lambda>") j to tl (ES σ) σ H Q) := by
  refine ⟨fun pins s σ H Q I h => ?_⟩
  have hx := hxs σ
  revert h hx
  generalize ES σ = E
  intro h hx
  refine wpAny_Call_Name_kw (ld_glob I hg T.g_under ?_ (by decide))
  refine PySem.W.callWith_K (h₀ := X.base) I.ok.mod.kin Fu.kp ?_ (by rw [no]; rfl) (by rfl)
  rw [no]
  show wpAny _ _ (spliced ((false, eval o X.env) :: (false, eval (.Lambda params body scope lpos) X.env) :: backTo pos (starEach [] X.env))) _ _ s
  refine Calls.spliced_cons (thn (ho.run pins s σ H _ I h) fun uo s1 ⟨xo, H1, I1, ro, hT, h1⟩ => ?_)
  refine Calls.spliced_cons (lam_make2 I1 TB hcode hmT hu hT hdef (L.has I1.ok) fun f c' pm' ctv H2 s2 I2 eN T2 hf hfn hfr hco => ?_)
  refine Calls.spliced_nil ⟨I2.kIn, ?_⟩
  show wpAny _ _ (call (.ref (He.ga X.K "under")) [uo, .ref f]) _ _ _
  obtain ⟨a, dx, fs, ex, ea, h2⟩ := h1 c' H2 eN T2 hco
  subst ex
  cases (show uo = Value.ref a from ro)
  have bu : Binds X.K fd ["manager", "deed"] [] := Fu.binds fun _ _ _ _ _ _ us hl => match us, hl with | [_, _], _ => rfl
  obtain ⟨oc, od, kV, doc, pm, an, cdv, ct, osl, rfl, lk, hcd⟩ := Fu.ex
  have bb := bu s2 [.ref a, .ref f] I2.kIn rfl
  have rc : codeAny (model X.prog X.w) X.A (.call (.ref (He.ga X.K "under")) ⟨[.ref a, .ref f], []⟩) (CR (L2.CX X.prog X.w) X.stack X.prog X.w H2 s2 Q E) s2 := by
    refine run_ofS (N := N_under) (ps := ["manager", "deed"]) (us := [.ref a, .ref f]) (vs := [.ref a, .ref f]) lk hcd sc_under hr I2.env0 bb (.cons rfl (.cons rfl .nil)) rfl fun hr' => ?_
    let Z : Cx := cxOf (L2.CX X.prog X.w) X.prog X.w X.K X.mg X.base N_under "under" (defScope s_under) (He.ga X.K "under") cdv X.A X.stack s2 H2 E
    have tk : Takes Z (fun cls d _ H => E cls d H) := takes_of rfl rfl rfl rfl
    have act : ∀ (W : WX) (pn : List (Addr × Obj)) (xe : Value → Shared → Prop) (Ech : XK) (p1 p2 p3 : Pos), Takes (Z.tr pn xe) W → (∀ cls d σ' H', Ech cls d H' → W cls d σ' H') → PE (Z.tr pn xe) (.Call (.Name "deed" p1) [.Name "given" p3] [] p2)
        (fun σZ HZ Q => σZ[1]? = some (some (.ref f)) ∧ HZ c' = some (CodeO c' (X.env.qual ++ "<lambda>")) ∧ ∃ v, σZ[2]? = some (some v) ∧ ∃ Q0 : VK, tl Ech (σ.set j (some v)) HZ Q0 ∧ ∀ x H1, Q0 x H1 → Q x H1) := fun W pn xe Ech p1 p2 p3 tk hW =>
      pe_actP (i := 1) (i2 := 2) I2 L hNX hj hf hfn hfr (fun u => hbind _ _ _ _ _ u) tk hW hr' (fun A outer s H hgd hr2 => PE.cl (hbody A outer s H Ech f c' hgd hr2)) rfl (.inl rfl) rfl (.inl rfl)
    refine ⟨_, pss_cons (ps_with (X := Z) (Wout := fun cls d _ H => E cls d H) (k := k + 1) (tb := fun W D σZ H => ∃ Ech : XK, (∀ cls d σ' H', Ech cls d H' → W cls d σ' H') ∧
        tAsg (fun σZ HZ Q => σZ[1]? = some (some (.ref f)) ∧ HZ c' = some (CodeO c' (X.env.qual ++ "<lambda>")) ∧ ∃ v, σZ[2]? = some (some v) ∧ ∃ Q0 : VK, tl Ech (σ.set j (some v)) HZ Q0 ∧ ∀ x H1, Q0 x H1 → Q x H1) (gName 3) D σZ H)
      rfl rfl rfl tk (pv 0) T.m_Trial___enter__ T.m_Trial___exit__ Ge Gx Gh hr' (fun pn xe => pg_name (i := 2) sc_under.nd rfl (Or.inl rfl)) (fun W pn xe tkW => ⟨fun pinsZ sZ σZ HZ D IZ hZ => ?_⟩)) (pss_one (ps_ret (pv 3))), ?_⟩
    · obtain ⟨Ech, hW, hZ⟩ := hZ
      exact (pss_one (ps_set (i := 3) sc_under.nd rfl (Or.inl rfl) (act W pn xe Ech _ _ _ tkW hW))).run pinsZ sZ σZ HZ D IZ hZ
    · refine ⟨.ref a, rfl, a, dx, fs, rfl, ea, ?_⟩
      refine mE _ _ _ _ (fun v H3 h3 => ?_) h2
      refine ⟨wEx a spX E, fun cls d σ' H' q => q, rfl, h3.1, v, rfl, _, h3.2, fun z H4 h4 => ?_⟩
      exact mX _ _ _ _ (fun _ H5 q => ⟨z, rfl, q⟩) h4
  refine wpAny_call (codeAny_mono rc fun r s3 hq => ?_)
  cases r with
  | error e => exact hx pins H2 s2 e s3 I2 hq
  | ok fl =>
    cases fl with
    | ret u => exact I2.after hq
    | next => exact False.elim hq
    | brk => exact False.elim hq
    | cont => exact False.elim hq
end
end W9
set_option maxHeartbeats 4000000
/-! the defs with lambdas: tables, frames, promises -/
namespace W9
open PySem PySem.Spec PyProof.Rows L2 LamX
abbrev Ta (K : PySem.W.Frag) (x : Str) : Addr := (He.cT K (x, none)).2
/-- the tables of the four defs, the name that each tells -/
def Tt (K : PySem.W.Frag) : List (Addr × Str) := [(Ta K "_law_inner", "_law_inner" ++ ".<locals>." ++ "<lambda>"), (Ta K "_law_tried", "_law_tried" ++ ".<locals>." ++ "<lambda>"), (Ta K "_law_hand_right", "_law_hand_right" ++ ".<locals>." ++ "<lambda>"), (Ta K "law", "law" ++ ".<locals>." ++ "<lambda>")]
theorem distB_cons {a : Addr} {l : List Addr} (h : distB (a :: l) = true) : (∀ b ∈ l, a ≠ b) ∧ distB l = true := by
  have z : ((l.all fun b => !(Nat.beq a b)) && distB l) = true := h
  rw [Bool.and_eq_true] at z
  refine ⟨fun b hb e => ?_, z.2⟩
  have w := List.all_eq_true.mp z.1 b hb
  rw [e, Nat.beq_refl] at w
  cases w
theorem hu4 {a b c d : Addr} {q1 q2 q3 q4 : Str} (h : distB [a, b, c, d] = true) : ∀ q ∈ [(a, q1), (b, q2), (c, q3), (d, q4)], ∀ p ∈ [(a, q1), (b, q2), (c, q3), (d, q4)], p.1 = q.1 → p.2 = q.2 := by
  obtain ⟨h1, h⟩ := distB_cons h
  obtain ⟨h2, h⟩ := distB_cons h
  obtain ⟨h3, _⟩ := distB_cons h
  have n1 := h1 b (by simp)
  have n2 := h1 c (by simp)
  have n3 := h1 d (by simp)
  have n4 := h2 c (by simp)
  have n5 := h2 d (by simp)
  have n6 := h3 d (by simp)
  intro q hq p hp e
  simp only [List.mem_cons, List.not_mem_nil, or_false] at hq hp
  rcases hq with rfl | rfl | rfl | rfl <;> rcases hp with rfl | rfl | rfl | rfl <;> first | rfl | exact absurd e n1 | exact absurd e n2 | exact absurd e n3 | exact absurd e n4 | exact absurd e n5 | exact absurd e n6 | exact absurd e.symm n1 | exact absurd e.symm n2 | exact absurd e.symm n3 | exact absurd e.symm n4 | exact absurd e.symm n5 | exact absurd e.symm n6
theorem tt_hu {K : PySem.W.Frag} (h : distB [(He.cT K ("_law_inner", none)).2, (He.cT K ("_law_tried", none)).2, (He.cT K ("_law_hand_right", none)).2, (He.cT K ("law", none)).2] = true) : ∀ q ∈ Tt K, ∀ p ∈ Tt K, p.1 = q.1 → p.2 = q.2 := hu4 h
/-- all but the tables and these stays; the tables stay tables -/
structure ExK (K : PySem.W.Frag) (l : List Addr) (H H' : Hp) : Prop where
  t : ExT H H'
  s : ∀ b o, b ∉ l → (∀ ps, o ≠ .tbl ps) → H b = some o → H' b = some o
  tb : Tabs (Tt K) H'
theorem ExK.trans {K : PySem.W.Frag} {l : List Addr} {H H1 H2 : Hp} (a : ExK K l H H1) (b : ExK K l H1 H2) : ExK K l H H2 := ⟨a.t.trans b.t, fun x o n p q => b.s x o n p (a.s x o n p q), b.tb⟩
theorem ExK.mono {K : PySem.W.Frag} {l m : List Addr} {H H1 : Hp} (a : ExK K l H H1) (h : ∀ x ∈ l, x ∈ m) : ExK K m H H1 := ⟨a.t, fun x o n p q => a.s x o (fun z => n (h x z)) p q, a.tb⟩
/-- what is written holds no table, no code object -/
def NoT (H : Hp) (l : List Addr) : Prop := ∀ a ∈ l, ∃ o, H a = some o ∧ (∀ ps, o ≠ .tbl ps) ∧ ∀ c q, o ≠ CodeO c q
theorem tabs_but {T : List (Addr × Str)} {H H' : Hp} {l : List Addr} (t : Tabs T H) (e : ExS l H H') (n : NoT H l) : Tabs T H' := fun p hp => by
  obtain ⟨ps, h1, h2, h3⟩ := t p hp
  have f : ∀ {b o}, H b = some o → ((∃ ps, o = .tbl ps) ∨ ∃ c q, o = CodeO c q) → H' b = some o := fun {b o} hb ho => by
    refine e b o (fun z => ?_) hb
    obtain ⟨o', k1, k2, k3⟩ := n b z
    rw [hb] at k1
    cases k1
    rcases ho with ⟨ps, rfl⟩ | ⟨c, q, rfl⟩
    · exact k2 ps rfl
    · exact k3 c q rfl
  refine ⟨ps, f h1 (.inl ⟨ps, rfl⟩), h2, fun pos cv hc => ?_⟩
  obtain ⟨c, e1, e2⟩ := h3 pos cv hc
  exact ⟨c, e1, f e2 (.inr ⟨c, _, rfl⟩)⟩
theorem ExK.of {K : PySem.W.Frag} {l : List Addr} {H H' : Hp} (t : Tabs (Tt K) H) (x : ExT H H') (e : ExS l H H') (n : NoT H l) : ExK K l H H' := ⟨x, fun b o nb _ q => e b o nb q, tabs_but t e n⟩
theorem ExK.of_ex {K : PySem.W.Frag} {l : List Addr} {H H' : Hp} (t : Tabs (Tt K) H) (e : Ex H H') : ExK K l H H' := ⟨e.t, fun b o _ _ q => e b o q, t.ext e⟩
theorem ExK.of_n {K : PySem.W.Frag} {l : List Addr} {H H' : Hp} (t : Tabs (Tt K) H') (e : ExtN H H') : ExK K l H H' := ⟨fun a xs q => e a _ q (fun _ z => nomatch z), fun b o _ p q => e b o q p, t⟩
theorem code_ne_d {c : Addr} {q : Str} {kvs : List (Key × V)} : HO.dK kvs ≠ CodeO c q := fun z => nomatch z
theorem code_ne_i {c C dx : Addr} {q : Str} {fs : List (Str × V)} : HO.ins C dx fs ≠ CodeO c q := fun z => nomatch z
theorem code_ne_l {c : Addr} {q : Str} {xs : List V} : HO.lst xs ≠ CodeO c q := fun z => nomatch z
section
variable {K : PySem.W.Frag} {H H' H1 : Hp} {m c g a o t L : Addr} {n : Nat} {h : Hs} {l : List Addr} {p q : List Stp}
theorem HsAt.k (x : HsAt K H a h) (e : ExK K l H H') (n : a ∉ l) : HsAt K H' a h := by
  obtain ⟨dx, xk, xp, xl, h1, h2, h3, h4⟩ := x
  exact ⟨dx, xk, xp, xl, e.s _ _ n (fun _ z => nomatch z) h1, h2.ext e.t, h3.ext e.t, h4.ext e.t⟩
theorem TrAt.k (x : TrAt K H t a p q) (e : ExK K l H H') (n : t ∉ l) : TrAt K H' t a p q := by
  obtain ⟨dx, xp, xl, h1, h2, h3⟩ := x
  exact ⟨dx, xp, xl, e.s _ _ n (fun _ z => nomatch z) h1, h2.ext e.t, h3.ext e.t⟩
theorem OwAt.k (x : OwAt H o h) (e : ExK K l H H') (n : o ∉ l) : OwAt H' o h := by
  obtain ⟨xk, xp, xl, h1, h2, h3, h4⟩ := x
  exact ⟨xk, xp, xl, e.s _ _ n (fun _ z => nomatch z) h1, h2.ext e.t, h3.ext e.t, h4.ext e.t⟩
theorem DrAt.k (x : DrAt H m c g n) (e : ExK K l H H') (n1 : m ∉ l) (n2 : c ∉ l) (n3 : g ∉ l) : DrAt H' m c g n := by
  obtain ⟨cs, gs, h1, h2, h3, h4, h5, h6, h7⟩ := x
  exact ⟨cs, gs, e.s _ _ n1 (fun _ z => nomatch z) h1, h2, e.s _ _ n2 (fun _ z => nomatch z) h3, h4, h5, e.s _ _ n3 (fun _ z => nomatch z) h6, h7⟩
theorem NoT.hs (x : HsAt K H a h) : ∃ o, H a = some o ∧ (∀ ps, o ≠ .tbl ps) ∧ ∀ c q, o ≠ CodeO c q := by
  obtain ⟨dx, xk, xp, xl, h1, _⟩ := x
  exact ⟨_, h1, (fun _ z => nomatch z), (fun _ _ z => nomatch z)⟩
theorem NoT.tr (x : TrAt K H t a p q) : ∃ o, H t = some o ∧ (∀ ps, o ≠ .tbl ps) ∧ ∀ c q, o ≠ CodeO c q := by
  obtain ⟨dx, xp, xl, h1, _⟩ := x
  exact ⟨_, h1, (fun _ z => nomatch z), (fun _ _ z => nomatch z)⟩
theorem NoT.ow (x : OwAt H o h) : ∃ o', H o = some o' ∧ (∀ ps, o' ≠ .tbl ps) ∧ ∀ c q, o' ≠ CodeO c q := by
  obtain ⟨xk, xp, xl, h1, _⟩ := x
  exact ⟨_, h1, (fun _ z => nomatch z), (fun _ _ z => nomatch z)⟩
theorem NoT.dr (x : DrAt H m c g n) : ∀ b ∈ [m, g], ∃ o, H b = some o ∧ (∀ ps, o ≠ .tbl ps) ∧ ∀ c q, o ≠ CodeO c q := by
  obtain ⟨cs, gs, h1, h2, h3, h4, h5, h6, h7⟩ := x
  intro b hb
  rcases List.mem_cons.mp hb with rfl | hb
  · exact ⟨_, h1, (fun _ z => nomatch z), (fun _ _ z => nomatch z)⟩
  · rw [List.mem_singleton.mp hb]
    exact ⟨_, h6, (fun _ z => nomatch z), (fun _ _ z => nomatch z)⟩
end
/-- what is handed to the lambda of tried: the house, a record of its own -/
def LedAt (H : Hp) (L a o : Addr) : Prop := H L = some (.dK [(.inr "house", .ref a), (.inr "inner", .ref o)])
theorem LedAt.k {K : PySem.W.Frag} {H H' : Hp} {L a o : Addr} {l : List Addr} (x : LedAt H L a o) (e : ExK K l H H') (n : L ∉ l) : LedAt H' L a o := e.s _ _ n (fun _ z => nomatch z) x
instance {L a o : Addr} : Stb (fun H => LedAt H L a o) := ⟨fun e x => e _ _ x⟩
/-- house and record turned, the tables with them -/
structure LedK (K : PySem.W.Frag) (m c g a o : Addr) (n : Nat) (h : Hs) (H H' : Hp) : Prop where
  k : ExK K [m, g, a, o] H H'
  d : DrAt H' m c g n
  a : HsAt K H' a h
  o : OwAt H' o h
theorem LedK.of {K : PySem.W.Frag} {m c g a o : Addr} {n n0 : Nat} {h h0 : Hs} {H H' : Hp} (t : Tabs (Tt K) H) (d0 : DrAt H m c g n0) (a0 : HsAt K H a h0) (o0 : OwAt H o h0) (x : Led K m c g a o n h H H') : LedK K m c g a o n h H H' :=
  ⟨.of t x.1 x.2.1 (fun b hb => by
    simp only [List.mem_cons, List.not_mem_nil, or_false] at hb
    rcases hb with rfl | rfl | rfl | rfl
    · exact NoT.dr d0 _ (by simp)
    · exact NoT.dr d0 _ (by simp)
    · exact NoT.hs a0
    · exact NoT.ow o0), x.2.2.1, x.2.2.2.1, x.2.2.2.2⟩
def sp__law_inner (K : PySem.W.Frag) : Sp := fun vs H Q E => ∃ (m c g a o L : Addr) (n w : Nat) (h : Hs), vs = [.ref m, .ref L, .ref a, .int (w : Int)] ∧ DrAt H m c g n ∧ HsAt K H a h ∧ OwAt H o h ∧ LedAt H L a o ∧ Tabs (Tt K) H ∧ Apart m c g a o ∧ L ∉ [m, g, a, o] ∧ h.Ok ∧ h.m ≤ 5 ∧ h.past.length + h.later.length + 4 ≤ 30 ∧ n + 16 ≤ 5000 ∧ w < 4 ∧
  (w = 0 ∨ w = 2 → ∀ H' n' h', n ≤ n' → n' ≤ n + 16 → LedK K m c g a o n' h' H H' → h'.k = h.k → h'.m = h.m → Q (.str "right") H') ∧
  (w = 1 → ∀ H' n' h' d, n ≤ n' → n' ≤ n + 16 → LedK K m c g a o n' h' H H' → h'.k = h.k → h'.m = h.m → E (.ref (He.ga K "BadCopy")) d H') ∧
  (w = 3 → ∀ H' n' h' d, n ≤ n' → n' ≤ n + 16 → LedK K m c g a o n' h' H H' → h'.k = h.k → h'.m = h.m → E (.type "KeyError") d H')
def sp__law_tried (K : PySem.W.Frag) : Sp := fun vs H Q _ => ∃ (m c g a o : Addr) (n w : Nat) (h : Hs), vs = [.ref m, .ref a, .ref o, .int (w : Int)] ∧ DrAt H m c g n ∧ HsAt K H a h ∧ OwAt H o h ∧ Tabs (Tt K) H ∧ Apart m c g a o ∧ h.Ok ∧ h.m ≤ 5 ∧ h.past.length + h.later.length + 4 ≤ 30 ∧ n + 16 ≤ 5000 ∧ w < 4 ∧
  ∀ H' n', n ≤ n' → n' ≤ n + 16 → ExK K [m, g, a] H H' → DrAt H' m c g n' → HsAt K H' a h → Q (.bl true) H'
/-- all done again, then all undone -/
def Hs.home (h : Hs) : Hs := { h with past := [], later := h.past ++ h.later }
def sp__law_back_right (K : PySem.W.Frag) : Sp := fun vs H Q _ => ∃ (a o : Addr) (h : Hs), vs = [.ref a, .ref o] ∧ HsAt K H a h ∧ OwAt H o h ∧ a ≠ o ∧ h.Ok ∧ h.m ≤ 5 ∧ ∀ H', ExT H H' → ExS [a, o] H H' → HsAt K H' a h.home → OwAt H' o h.home → Q (.bl true) H'
def sp__law_hand_right (K : PySem.W.Frag) : Sp := fun vs H Q _ => vs = [] ∧ Tabs (Tt K) H ∧ ∀ H', Q (.bl true) H'
def sp_law (K : PySem.W.Frag) : Sp := fun vs H Q _ => ∃ (a : Addr) (ns : List Int), vs = [.ref a] ∧ SqL K H a (ns.map V.int) ∧ ns.length ≤ 63 ∧ Tabs (Tt K) H ∧ ∀ H', Q (.bl true) H'
end W9
set_option maxHeartbeats 4000000
namespace W9
open PySem PySem.Spec PyProof.Rows L2
open LamX
def tUS (T : List (Addr × Str)) (C : Addr) (spE spX : Sp) (q : Str) (j : Nat) (to : TE) (tl : XK → TE) (ES : L2.St → XK) : TE := fun σ H Q => tUnder T C spE spX q j to tl (ES σ) σ H Q
theorem Okf.up {P : Program} {w : World} {K : PySem.W.Frag} {mg : Str → Option Value} {base : Heap} {CX : CXT} {j k : Nat} {f : Addr} {ps : List Str} {sp : Sp} (G : Okf P w K mg base CX j f ps sp) (h : j ≤ k := by decide) : Okf P w K mg base CX k f ps sp := by
  obtain ⟨fd, F, b, kp⟩ := G.ex
  exact ⟨fd, F.mono h, b, kp⟩
abbrev N__law_inner : List Str := ["_law_m", "_law_led_so", "_law_held", "_law_way", "_law_own", "_law_told_so", "_law_fresh", "_law_here"]
theorem sc__law_inner : FnScope N__law_inner ["_law_m", "_law_led_so", "_law_held", "_law_way"] (defScope s__law_inner) := ⟨rfl, rfl, rfl, by decide +kernel, rfl, by decide +kernel, by decide +kernel⟩
def t__law_inner (K : PySem.W.Frag) (E : XK) : TS :=
  (tSeq (tAsg (tDGet (tVar 1) (tC (.str "inner"))) (gName 4))
  (tSeq (tIfS (tOr (tNot (tB (tCall (sp__law_led K) [] E0 (tCons (tVar 0) (tCons (tVar 2) (tCons (tVar 4) (tCons (tC (.int 2)) tNil))))))) (tNot (tB (tCall (sp__law_stands K) [] E0 (tCons (tDGet (tVar 1) (tC (.str "house"))) (tCons (tVar 4) tNil)))))) (tRet (tC (.str "deeds"))) tNext)
  (tSeq (tIfS (tTest (tOp (rEq9 K) (tVar 3) (tC (.int 1)))) (tDrop (tMeth (He.ga K "House") "do" (sp_House_do K) [] E (tVar 2) (tCons (tC (.int 99)) (tCons (tC (.int 0)) tNil)))) tNext)
  (tSeq (tIfS (tTest (tOp (rEq9 K) (tVar 3) (tC (.int 3)))) (tRet (tDGetX (fun cls d _ H => E cls d H) (tVar 1) (tC (.str "none")))) tNext)
  (tSeq (tIfS (tTest (tOp (rEq9 K) (tVar 3) (tC (.int 2)))) (tSeq (tAsg (tCall (sp__law_twin_of K) [] E0 (tCons (tVar 4) tNil)) (gName 6))
  (tSeq (tAsg (tUS (Tt K) (He.ga K "Trial") (sp_Trial___enter__ K) (sp_Trial___exit__ K) ("_law_inner" ++ ".<locals>." ++ "<lambda>") 7 (tMeth (He.ga K "House") "trial" (sp_House_trial K) [] E0 (tVar 2) tNil) (fun E9 => (tCall (sp__law_led K) [] E0 (tCons (tVar 0) (tCons (tVar 7) (tCons (tVar 6) (tCons (tC (.int 2)) tNil)))))) (fun _ => E0)) (gName 5))
  (tIfS (tOr (tNot (tB (tVar 5))) (tNot (tB (tCall (sp__law_stands K) [] E0 (tCons (tVar 2) (tCons (tVar 4) tNil)))))) (tRet (tC (.str "within"))) tNext))) tNext)
  (tRet (tC (.str "right"))))))))
theorem pd__law_inner {P : Program} {w : World} {K : PySem.W.Frag} {mg : Str → Option Value} {base : Heap} (T : Txt K mg) {fdU : FuncData} (Fu : Fun K "under" "under" s_under (He.ga K "under") fdU) (TB : TabB base mg (He.cT K ("_law_inner", none)).1 (Ta K "_law_inner")) (Gh : Oke P w K mg base (9 + 1) (He.ma K (He.ga K "Trial") "__exit__") ["self", "kind", "told", "trace"] (sp_Trial___exit__ K)) (mE : SpM (sp_Trial___enter__ K)) (mX : SpM (sp_Trial___exit__ K)) (G__law_led : Okg P w K mg base CX0 9 (He.ga K "_law_led") ["_law_m", "_law_house_so", "_law_own", "_law_many"] (sp__law_led K)) (G__law_stands : Okg P w K mg base CX0 8 (He.ga K "_law_stands") ["_law_house_so", "_law_own"] (sp__law_stands K)) (G_House_do : Okf P w K mg base (L2.CX P w) 5 (He.ma K (He.ga K "House") "do") ["self", "number", "update"] (sp_House_do K)) (G__law_twin_of : Okf P w K mg base CX0 1 (He.ga K "_law_twin_of") ["_law_own"] (sp__law_twin_of K)) (G_Trial___enter__ : Okf P w K mg base CX0 1 (He.ma K (He.ga K "Trial") "__enter__") ["self"] (sp_Trial___enter__ K)) (G_Trial___exit__ : Okf P w K mg base CX0 1 (He.ma K (He.ga K "Trial") "__exit__") ["self", "kind", "told", "trace"] (sp_Trial___exit__ K)) (G_House_trial : Okf P w K mg base CX0 3 (He.ma K (He.ga K "House") "trial") ["self"] (sp_House_trial K)) {cdv : Value} {A : Around} {outer : List Env} {s : Shared} {H : Hp} {E : XK} (hgd : A.guards = some []) (hcd : cdv = .ref (He.cT K ("_law_inner", none)).1)
    (hr : Room 11 (A.deeper (envOfC "_law_inner" (defScope s__law_inner) s.heap.objs.size (He.ga K "_law_inner") cdv))) :
    PSs (cxOf (L2.CX P w) P w K mg base N__law_inner "_law_inner" (defScope s__law_inner) (He.ga K "_law_inner") cdv A outer s H E) (defBody s__law_inner) (t__law_inner K E) :=
  (pss_cons (ps_set (i := 4) sc__law_inner.nd rfl (Or.inl rfl) (pe_dget (hu_of hr) (pv 1) pe_str (fun _ _ => rfl)))
  (pss_cons (ps_if (PW.pt (pw_or (pt_not (pt_val (pe_callG G__law_led hgd (hr.mono (by decide)) (by rfl) T.g__law_led pass0 (pa_cons (pv 0) (pa_cons (pv 2) (pa_cons (pv 4) (pa_cons pe_int pa_nil))))))) (pw_or1 (pt_not (pt_val (pe_callG G__law_stands hgd (hr.mono (by decide)) (by rfl) T.g__law_stands pass0 (pa_cons (pe_dget (hu_of hr) (pv 1) pe_str (fun _ _ => rfl)) (pa_cons (pv 4) pa_nil)))))))) (pss_one (ps_ret pe_str)) pss_nil)
  (pss_cons (ps_if (pt_cmpR (op_eq9 hr.units) (pv 3) pe_int (nomark _)) (pss_one (ps_expr (pe_methF (pv 2) T.c_House T.m_House_do G_House_do (hr.mono (by decide)) (passes_call (takes_of rfl rfl rfl rfl) (fun _ _ _ _ h => h)) (pa_cons pe_int (pa_cons pe_int pa_nil))))) pss_nil)
  (pss_cons (ps_if (pt_cmpR (op_eq9 hr.units) (pv 3) pe_int (nomark _)) (pss_one (ps_ret (pe_dgetX rfl (hu_of hr) (takes_of rfl rfl rfl rfl) (pv 1) pe_str (fun _ _ => rfl)))) pss_nil)
  (pss_cons (ps_if (pt_cmpR (op_eq9 hr.units) (pv 3) pe_int (nomark _)) (pss_cons (ps_set (i := 6) sc__law_inner.nd rfl (Or.inr rfl) (pe_callF G__law_twin_of (hr.mono (by decide)) (by rfl) T.g__law_twin_of pass0 (pa_cons (pv 4) pa_nil)))
  (pss_cons (ps_set (i := 5) sc__law_inner.nd rfl (Or.inl rfl) (pe_underS (Tt := Tt K) (ES := (fun _ => E0)) (tl := fun E9 => (tCall (sp__law_led K) [] E0 (tCons (tVar 0) (tCons (tVar 7) (tCons (tVar 6) (tCons (tC (.int 2)) tNil)))))) (j := 7) (k := 9) T (by rfl) G_Trial___enter__.up G_Trial___exit__.up Gh Fu TB (by rw [hcd]; rfl) (List.mem_of_getElem? (i := 0) (by rfl)) (fun p hp e => tt_hu T.tb_ (Ta K "_law_inner", "_law_inner" ++ ".<locals>." ++ "<lambda>") (List.mem_of_getElem? (i := 0) (by rfl)) p hp e) (hr.mono (by decide)) (lamP_by (sc := defScope s__law_inner) (by decide +kernel)) sc__law_inner.nd rfl rfl (fun _ _ _ _ _ _ => rfl) (fun σ pins H s e s' I h => passL pins σ H s e s' I h) mE mX (pe_methF0 (pv 2) T.c_House T.m_House_trial G_House_trial (hr.mono (by decide)) pass0) rfl (fun A outer s H E' f c' hgA hrL => (pe_callG G__law_led (hgA.trans hgd) (hrL.mono (by decide)) (by rfl) T.g__law_led pass0 (pa_cons (pv 0) (pa_cons (pv 7) (pa_cons (pv 6) (pa_cons pe_int pa_nil))))))))
  (pss_one (ps_if (PW.pt (pw_or (pt_not (pt_val (pv 5))) (pw_or1 (pt_not (pt_val (pe_callG G__law_stands hgd (hr.mono (by decide)) (by rfl) T.g__law_stands pass0 (pa_cons (pv 2) (pa_cons (pv 4) pa_nil)))))))) (pss_one (ps_ret pe_str)) pss_nil)))) pss_nil)
  (pss_one (ps_ret pe_str)))))))

abbrev N__law_tried : List Str := ["_law_m", "_law_house_so", "_law_own", "_law_way", "_law_told_so", "_law_led_so", "_law_held"]
theorem sc__law_tried : FnScope N__law_tried ["_law_m", "_law_house_so", "_law_own", "_law_way"] (defScope s__law_tried) := ⟨rfl, rfl, rfl, by decide +kernel, rfl, by decide +kernel, by decide +kernel⟩
def t__law_tried (K : PySem.W.Frag) (E : XK) : TS :=
  (tSeq (tAsg (tDisp [((tC (.str "house")), (tVar 1)), ((tC (.str "inner")), (tCall (sp__law_twin_of K) [] E0 (tCons (tVar 2) tNil)))]) (gName 5))
  (tSeq (tAsg (tC (.str "none")) (gName 4))
  (tSeq (fun D σ H => (fun W => (tAsg (tUS (Tt K) (He.ga K "Trial") (sp_Trial___enter__ K) (sp_Trial___exit__ K) ("_law_tried" ++ ".<locals>." ++ "<lambda>") 6 (tMeth (He.ga K "House") "trial" (sp_House_trial K) [] E0 (tVar 1) tNil) (fun E9 => (tCall (sp__law_inner K) [] E9 (tCons (tVar 0) (tCons (tVar 5) (tCons (tVar 6) (tCons (tVar 3) tNil)))))) (WE W)) (gName 4))) (wMany K (fun cls d _ H => E cls d H) D [((.ref (He.ga K "BadCopy")), fun _ _ _ => (tAsg (tC (.str "raised")) (gName 4))), ((.type "KeyError"), fun _ _ _ => (tAsg (tC (.str "lost")) (gName 4)))]) D σ H)
  (tRet (tAndV (tOp (rEq9 K) (tVar 4) (tOp (rIx K) (tLst (tCons (tC (.str "right")) (tCons (tC (.str "raised")) (tCons (tC (.str "right")) (tCons (tC (.str "lost")) tNil))))) (tVar 3))) (tCall (sp__law_stands K) [] E0 (tCons (tVar 1) (tCons (tVar 2) tNil))))))))
theorem pd__law_tried {P : Program} {w : World} {K : PySem.W.Frag} {mg : Str → Option Value} {base : Heap} (T : Txt K mg) {fdU : FuncData} (Fu : Fun K "under" "under" s_under (He.ga K "under") fdU) (TB : TabB base mg (He.cT K ("_law_tried", none)).1 (Ta K "_law_tried")) (Gh : Oke P w K mg base (12 + 1) (He.ma K (He.ga K "Trial") "__exit__") ["self", "kind", "told", "trace"] (sp_Trial___exit__ K)) (mE : SpM (sp_Trial___enter__ K)) (mX : SpM (sp_Trial___exit__ K)) (G__law_twin_of : Okf P w K mg base CX0 1 (He.ga K "_law_twin_of") ["_law_own"] (sp__law_twin_of K)) (G_Trial___enter__ : Okf P w K mg base CX0 1 (He.ma K (He.ga K "Trial") "__enter__") ["self"] (sp_Trial___enter__ K)) (G_Trial___exit__ : Okf P w K mg base CX0 1 (He.ma K (He.ga K "Trial") "__exit__") ["self", "kind", "told", "trace"] (sp_Trial___exit__ K)) (G_House_trial : Okf P w K mg base CX0 3 (He.ma K (He.ga K "House") "trial") ["self"] (sp_House_trial K)) (G__law_inner : Okg P w K mg base (L2.CX P w) 12 (He.ga K "_law_inner") ["_law_m", "_law_led_so", "_law_held", "_law_way"] (sp__law_inner K)) (G__law_stands : Okg P w K mg base CX0 8 (He.ga K "_law_stands") ["_law_house_so", "_law_own"] (sp__law_stands K)) {cdv : Value} {A : Around} {outer : List Env} {s : Shared} {H : Hp} {E : XK} (hgd : A.guards = some []) (hcd : cdv = .ref (He.cT K ("_law_tried", none)).1)
    (hr : Room 14 (A.deeper (envOfC "_law_tried" (defScope s__law_tried) s.heap.objs.size (He.ga K "_law_tried") cdv))) :
    PSs (cxOf (L2.CX P w) P w K mg base N__law_tried "_law_tried" (defScope s__law_tried) (He.ga K "_law_tried") cdv A outer s H E) (defBody s__law_tried) (t__law_tried K E) :=
  (pss_cons (ps_set (i := 5) sc__law_tried.nd rfl (Or.inr rfl) (pe_disp (pps_cons pe_str (pv 1) (pps_cons pe_str (pe_callF G__law_twin_of (hr.mono (by decide)) (by rfl) T.g__law_twin_of pass0 (pa_cons (pv 2) pa_nil)) pps_nil)) rfl rfl (by simp) (by decide)))
  (pss_cons (ps_set (i := 4) sc__law_tried.nd rfl (Or.inl rfl) pe_str)
  (pss_cons (ps_try_many (tb := fun W => (tAsg (tUS (Tt K) (He.ga K "Trial") (sp_Trial___enter__ K) (sp_Trial___exit__ K) ("_law_tried" ++ ".<locals>." ++ "<lambda>") 6 (tMeth (He.ga K "House") "trial" (sp_House_trial K) [] E0 (tVar 1) tNil) (fun E9 => (tCall (sp__law_inner K) [] E9 (tCons (tVar 0) (tCons (tVar 5) (tCons (tVar 6) (tCons (tVar 3) tNil)))))) (WE W)) (gName 4))) rfl rfl (takes_of rfl rfl rfl rfl) (fun W pn xe tkW _ => (pss_one (ps_set (i := 4) sc__law_tried.nd rfl (Or.inl rfl) (pe_underS (Tt := Tt K) (ES := (WE W)) (tl := fun E9 => (tCall (sp__law_inner K) [] E9 (tCons (tVar 0) (tCons (tVar 5) (tCons (tVar 6) (tCons (tVar 3) tNil)))))) (j := 6) (k := 12) T (by rfl) G_Trial___enter__.up G_Trial___exit__.up Gh Fu TB (by rw [hcd]; rfl) (List.mem_of_getElem? (i := 1) (by rfl)) (fun p hp e => tt_hu T.tb_ (Ta K "_law_tried", "_law_tried" ++ ".<locals>." ++ "<lambda>") (List.mem_of_getElem? (i := 1) (by rfl)) p hp e) (hr.mono (by decide)) (lamP_by (sc := defScope s__law_tried) (by decide +kernel)) sc__law_tried.nd rfl rfl (fun _ _ _ _ _ _ => rfl) (fun σ => passAt tkW σ) mE mX (pe_methF0 (pv 1) T.c_House T.m_House_trial G_House_trial (hr.mono (by decide)) pass0) rfl (fun A outer s H E' f c' hgA hrL => (pe_callG G__law_inner (hgA.trans hgd) (hrL.mono (by decide)) (by rfl) T.g__law_inner (passes_call (takes_of rfl rfl rfl rfl) (fun _ _ _ _ h => h)) (pa_cons (pv 0) (pa_cons (pv 5) (pa_cons (pv 6) (pa_cons (pv 3) pa_nil)))))))))) (HdsOk.cons ⟨(by rfl), (by decide), Or.inl T.g_BadCopy⟩ (fun _ _ _ _ _ _ _ => (pss_one (ps_set (i := 4) sc__law_tried.nd rfl (Or.inl rfl) pe_str))) (HdsOk.cons ⟨(by rfl), (by decide), Or.inr ⟨T.f_KeyError, (by decide +kernel), (by decide)⟩⟩ (fun _ _ _ _ _ _ _ => (pss_one (ps_set (i := 4) sc__law_tried.nd rfl (Or.inl rfl) pe_str))) HdsOk.nil)))
  (pss_one (ps_ret (pe_and (pe_cmpR (op_eq9 hr.units) (pv 4) (pe_ix ix_seq (pe_lst (pa_cons pe_str (pa_cons pe_str (pa_cons pe_str (pa_cons pe_str pa_nil))))) (pv 3) (fun _ _ => rfl)) (nomark _)) (pe_one (pe_callG G__law_stands hgd (hr.mono (by decide)) (by rfl) T.g__law_stands pass0 (pa_cons (pv 1) (pa_cons (pv 2) pa_nil))))))))))

abbrev N__law_back_right : List Str := ["_law_house_so", "_law_own", "_law_again"]
theorem sc__law_back_right : FnScope N__law_back_right ["_law_house_so", "_law_own"] (defScope s__law_back_right) := ⟨rfl, rfl, rfl, by decide +kernel, rfl, by decide +kernel, by decide +kernel⟩
def t__law_back_right (K : PySem.W.Frag) : TS :=
  (tSeq (tFor (iRng1 (tCons (tCB (rLen9 K) (tCons (tDGet (tVar 1) (tC (.str "later"))) tNil)) tNil)) (gName 2) (tSeq (tDrop (tCall (sp__law_gone_on K) [] E0 (tCons (tVar 1) tNil)))
  (tIfS (tOr (tTest (tOp rNotB (tMeth (He.ga K "House") "redo" (sp_House_redo K) [] E0 (tVar 0) tNil) (tC (.bl true)))) (tNot (tB (tCall (sp__law_stands K) [] E0 (tCons (tVar 0) (tCons (tVar 1) tNil)))))) (tRet (tC (.bl false))) tNext)))
  (tSeq (tIfS (tTest (tOp rNotB (tMeth (He.ga K "House") "redo" (sp_House_redo K) [] E0 (tVar 0) tNil) (tC (.bl false)))) (tRet (tC (.bl false))) tNext)
  (tSeq (tFor (iRng1 (tCons (tCB (rLen9 K) (tCons (tDGet (tVar 1) (tC (.str "past"))) tNil)) tNil)) (gName 2) (tSeq (tDrop (tCall (sp__law_gone_back K) [] E0 (tCons (tVar 1) tNil)))
  (tIfS (tOr (tTest (tOp rNotB (tMeth (He.ga K "House") "undo" (sp_House_undo K) [] E0 (tVar 0) tNil) (tC (.bl true)))) (tNot (tB (tCall (sp__law_stands K) [] E0 (tCons (tVar 0) (tCons (tVar 1) tNil)))))) (tRet (tC (.bl false))) tNext)))
  (tRet (tAndV (tOp rIsB (tMeth (He.ga K "House") "undo" (sp_House_undo K) [] E0 (tVar 0) tNil) (tC (.bl false))) (tCall (sp__law_stands K) [] E0 (tCons (tVar 0) (tCons (tVar 1) tNil))))))))
theorem pd__law_back_right {P : Program} {w : World} {K : PySem.W.Frag} {mg : Str → Option Value} {base : Heap} (T : Txt K mg) (G__law_gone_on : Okf P w K mg base CX0 1 (He.ga K "_law_gone_on") ["_law_own"] (sp__law_gone_on K)) (G_House_redo : Okf P w K mg base CX0 1 (He.ma K (He.ga K "House") "redo") ["self"] (sp_House_redo K)) (G__law_stands : Okg P w K mg base CX0 8 (He.ga K "_law_stands") ["_law_house_so", "_law_own"] (sp__law_stands K)) (G__law_gone_back : Okf P w K mg base CX0 1 (He.ga K "_law_gone_back") ["_law_own"] (sp__law_gone_back K)) (G_House_undo : Okf P w K mg base CX0 1 (He.ma K (He.ga K "House") "undo") ["self"] (sp_House_undo K)) {cdv : Value} {A : Around} {outer : List Env} {s : Shared} {H : Hp} {E : XK} (hgd : A.guards = some [])
    (hr : Room 8 (A.deeper (envOfC "_law_back_right" (defScope s__law_back_right) s.heap.objs.size (He.ga K "_law_back_right") cdv))) :
    PSs (cxOf CX0 P w K mg base N__law_back_right "_law_back_right" (defScope s__law_back_right) (He.ga K "_law_back_right") cdv A outer s H E).nox (defBody s__law_back_right) (t__law_back_right K) :=
  (pss_cons (ps_for PassesOwn.never rfl (pi_range1 (by rfl) T.f_range (pa_cons (pe_callB call_len9 (by rfl) T.f_len PySem.boot_len (pa_cons (pe_dget (hu_of hr) (pv 1) pe_str (fun _ _ => rfl)) pa_nil)) pa_nil)) (pg_name (i := 2) sc__law_back_right.nd rfl (Or.inl rfl)) (pss_cons (ps_expr (pe_callF G__law_gone_on (hr.mono (by decide)) (by rfl) T.g__law_gone_on pass0 (pa_cons (pv 1) pa_nil)))
  (pss_one (ps_if (PW.pt (pw_or (pt_cmpR op_notBl (pe_methF0 (pv 0) T.c_House T.m_House_redo G_House_redo (hr.mono (by decide)) pass0) pe_bl (nomark _)) (pw_or1 (pt_not (pt_val (pe_callG G__law_stands hgd (hr.mono (by decide)) (by rfl) T.g__law_stands pass0 (pa_cons (pv 0) (pa_cons (pv 1) pa_nil)))))))) (pss_one (ps_ret pe_bl)) pss_nil))))
  (pss_cons (ps_if (pt_cmpR op_notBl (pe_methF0 (pv 0) T.c_House T.m_House_redo G_House_redo (hr.mono (by decide)) pass0) pe_bl (nomark _)) (pss_one (ps_ret pe_bl)) pss_nil)
  (pss_cons (ps_for PassesOwn.never rfl (pi_range1 (by rfl) T.f_range (pa_cons (pe_callB call_len9 (by rfl) T.f_len PySem.boot_len (pa_cons (pe_dget (hu_of hr) (pv 1) pe_str (fun _ _ => rfl)) pa_nil)) pa_nil)) (pg_name (i := 2) sc__law_back_right.nd rfl (Or.inl rfl)) (pss_cons (ps_expr (pe_callF G__law_gone_back (hr.mono (by decide)) (by rfl) T.g__law_gone_back pass0 (pa_cons (pv 1) pa_nil)))
  (pss_one (ps_if (PW.pt (pw_or (pt_cmpR op_notBl (pe_methF0 (pv 0) T.c_House T.m_House_undo G_House_undo (hr.mono (by decide)) pass0) pe_bl (nomark _)) (pw_or1 (pt_not (pt_val (pe_callG G__law_stands hgd (hr.mono (by decide)) (by rfl) T.g__law_stands pass0 (pa_cons (pv 0) (pa_cons (pv 1) pa_nil)))))))) (pss_one (ps_ret pe_bl)) pss_nil))))
  (pss_one (ps_ret (pe_and (pe_cmpR op_isBl (pe_methF0 (pv 0) T.c_House T.m_House_undo G_House_undo (hr.mono (by decide)) pass0) pe_bl (nomark _)) (pe_one (pe_callG G__law_stands hgd (hr.mono (by decide)) (by rfl) T.g__law_stands pass0 (pa_cons (pv 0) (pa_cons (pv 1) pa_nil))))))))))

abbrev N__law_hand_right : List Str := ["_law_flag", "_law_far", "_law_one", "_law_two", "_law_near", "_law_told_so", "_law_twin", "_law_due", "_law_held"]
theorem sc__law_hand_right : FnScope N__law_hand_right [] (defScope s__law_hand_right) := ⟨rfl, rfl, rfl, by decide +kernel, rfl, by decide +kernel, by decide +kernel⟩
def t__law_hand_right (K : PySem.W.Frag) : TS :=
  (tSeq (tAsg (tTup (tCons (tTup (tCons (tC (.int 0)) (tCons (tTup (tCons (tTup (tCons (tC (.int 1)) (tCons (tC (.int 1)) tNil))) tNil)) (tCons (tTup (tCons (tTup (tCons (tC (.int 0)) (tCons (tC (.int 1)) tNil))) (tCons (tTup (tCons (tC (.int 1)) (tCons (tC (.int 1)) tNil))) tNil))) (tCons (tTup (tCons (tC (.int 0)) (tCons (tC (.int 1)) tNil))) tNil))))) (tCons (tTup (tCons (tC (.int 0)) (tCons (tTup (tCons (tTup (tCons (tC (.int 1)) (tCons (tC (.int 1)) tNil))) tNil)) (tCons (tTup (tCons (tTup (tCons (tC (.int 0)) (tCons (tC (.int 1)) tNil))) (tCons (tTup (tCons (tC (.int 1)) (tCons (tC (.int 1)) tNil))) tNil))) (tCons (tTup (tCons (tC (.int 1)) (tCons (tC (.int 0)) tNil))) tNil))))) tNil))) (gTup K 2 (gCons (gName 0) (gCons (gName 1) gNil))))
  (tSeq (tPar3 2 3 4 (tCons (tMake (He.ga K "House") (sp_House___init__ K) [] E0 (tCons (tVar 0) (tCons (tC (.int 2)) tNil))) (tCons (tMake (He.ga K "House") (sp_House___init__ K) [] E0 (tCons (tVar 0) (tCons (tC (.int 3)) tNil))) (tCons (tMake (He.ga K "House") (sp_House___init__ K) [] E0 (tCons (tVar 0) (tCons (tC (.int 2)) tNil))) tNil))))
  (tSeq (tDrop (tMeth (He.ga K "House") "do" (sp_House_do K) [] E0 (tVar 4) (tCons (tC (.int 0)) (tCons (tC (.int 0)) tNil))))
  (tSeq (tAsg (tLst (tCons (tOp (rEqO K (He.ga K "House") (sp_House___eq__ K)) (tVar 2) (tVar 3)) (tCons (tOp (rEqO K (He.ga K "House") (sp_House___eq__ K)) (tVar 2) (tMake (He.ga K "House") (sp_House___init__ K) [] E0 (tCons (tVar 1) (tCons (tC (.int 2)) tNil)))) (tCons (tOp (rEqO K (He.ga K "House") (sp_House___eq__ K)) (tVar 2) (tVar 4)) (tCons (tMeth (He.ga K "House") "undo" (sp_House_undo K) [] E0 (tVar 4) tNil) (tCons (tOp (rEqO K (He.ga K "House") (sp_House___eq__ K)) (tVar 2) (tVar 4)) tNil)))))) (gName 5))
  (tSeq (tAsg (tMeth (He.ga K "House") "copy" (sp_House_copy K) [] E0 (tVar 4) tNil) (gName 6))
  (tSeq (tAsg (tOp (rAdd9 K) (tVar 5) (tLst (tCons (tMeth (He.ga K "House") "redo" (sp_House_redo K) [] E0 (tVar 6) tNil) (tCons (tMeth (He.ga K "House") "redo" (sp_House_redo K) [] E0 (tVar 6) tNil) (tCons (tOp (rEqO K (He.ga K "House") (sp_House___eq__ K)) (tVar 4) (tVar 2)) (tCons (tMeth (He.ga K "House") "redo" (sp_House_redo K) [] E0 (tVar 4) tNil) (tCons (tOp (rEqO K (He.ga K "House") (sp_House___eq__ K)) (tVar 6) (tVar 4)) tNil))))))) (gName 5))
  (tSeq (tAsg (tOp (rAdd9 K) (tVar 5) (tLst (tCons (tMeth (He.ga K "House") "hear" (sp_House_hear K) [] E0 (tVar 2) (tCons (tC (.int 0)) (tCons (tC (.int 1)) tNil))) (tCons (tOp (rEqO K (He.ga K "House") (sp_House___eq__ K)) (tVar 2) (tVar 4)) (tCons (tOp (rEq9 K) (tLenO (He.ga K "House") (sp_House___len__ K) (tVar 2)) (tLenO (He.ga K "House") (sp_House___len__ K) (tVar 4))) (tCons (tMeth (He.ga K "House") "undo" (sp_House_undo K) [] E0 (tVar 2) tNil) tNil)))))) (gName 5))
  (tSeq (tDrop (tBM K "list" rAppend (tVar 5) (tCons (tUS (Tt K) (He.ga K "Trial") (sp_Trial___enter__ K) (sp_Trial___exit__ K) ("_law_hand_right" ++ ".<locals>." ++ "<lambda>") 8 (tMeth (He.ga K "House") "trial" (sp_House_trial K) [] E0 (tVar 2) tNil) (fun E9 => (tMeth (He.ga K "House") "do" (sp_House_do K) [] E9 (tVar 8) (tCons (tC (.int 1)) (tCons (tC (.int 0)) tNil)))) (fun _ => E0)) tNil)))
  (tSeq (tAsg (tOp (rAdd9 K) (tVar 5) (tLst (tCons (tLenO (He.ga K "House") (sp_House___len__ K) (tVar 2)) (tCons (tMeth (He.ga K "House") "redo" (sp_House_redo K) [] E0 (tVar 2) tNil) (tCons (tProp (He.ga K "House") (sp_House_history K) [] E0 (tVar 2)) tNil))))) (gName 5))
  (tSeq (tAsg (tLst (tCons (tC (.bl false)) (tCons (tC (.bl false)) (tCons (tC (.bl false)) (tCons (tC (.bl true)) (tCons (tC (.bl true)) (tCons (tC (.bl true)) (tCons (tC (.bl false)) (tCons (tC (.bl true)) (tCons (tC (.bl true)) (tCons (tC (.bl true)) (tCons (tC (.int 0)) (tCons (tC (.bl false)) (tCons (tC (.bl true)) (tCons (tC (.bl true)) tNil))))))))))))))) (gName 7))
  (tRet (tCall (sp__law_like K) [] E0 (tCons (tVar 5) (tCons (tOp (rAdd9 K) (tVar 7) (tLst (tCons (tC (.int 1)) (tCons (tC (.int 0)) (tCons (tC (.bl true)) (tCons (tTup (tCons (tC (.int 2)) (tCons (tTup (tCons (tTup (tCons (tC (.str "hear")) (tCons (tC (.int 0)) (tCons (tC (.int 1)) tNil)))) tNil)) tNil))) tNil)))))) tNil))))))))))))))
theorem pd__law_hand_right {P : Program} {w : World} {K : PySem.W.Frag} {mg : Str → Option Value} {base : Heap} (T : Txt K mg) {fdU : FuncData} (Fu : Fun K "under" "under" s_under (He.ga K "under") fdU) (TB : TabB base mg (He.cT K ("_law_hand_right", none)).1 (Ta K "_law_hand_right")) (Gh : Oke P w K mg base (6 + 1) (He.ma K (He.ga K "Trial") "__exit__") ["self", "kind", "told", "trace"] (sp_Trial___exit__ K)) (mE : SpM (sp_Trial___enter__ K)) (mX : SpM (sp_Trial___exit__ K)) (G_House___init__ : Okf P w K mg base CX0 5 (He.ma K (He.ga K "House") "__init__") ["self", "kind", "many"] (sp_House___init__ K)) (G_House_do : Okf P w K mg base (L2.CX P w) 5 (He.ma K (He.ga K "House") "do") ["self", "number", "update"] (sp_House_do K)) (G_House___eq__ : Okf P w K mg base CX0 1 (He.ma K (He.ga K "House") "__eq__") ["self", "other"] (sp_House___eq__ K)) (G_House_undo : Okf P w K mg base CX0 1 (He.ma K (He.ga K "House") "undo") ["self"] (sp_House_undo K)) (G_House_copy : Okf P w K mg base CX0 7 (He.ma K (He.ga K "House") "copy") ["self"] (sp_House_copy K)) (G_House_redo : Okf P w K mg base CX0 1 (He.ma K (He.ga K "House") "redo") ["self"] (sp_House_redo K)) (G_House___len__ : Okf P w K mg base CX0 1 (He.ma K (He.ga K "House") "__len__") ["self"] (sp_House___len__ K)) (G_House_hear : Okf P w K mg base CX0 5 (He.ma K (He.ga K "House") "hear") ["self", "number", "other"] (sp_House_hear K)) (G_Trial___enter__ : Okf P w K mg base CX0 1 (He.ma K (He.ga K "Trial") "__enter__") ["self"] (sp_Trial___enter__ K)) (G_Trial___exit__ : Okf P w K mg base CX0 1 (He.ma K (He.ga K "Trial") "__exit__") ["self", "kind", "told", "trace"] (sp_Trial___exit__ K)) (G_House_trial : Okf P w K mg base CX0 3 (He.ma K (He.ga K "House") "trial") ["self"] (sp_House_trial K)) (G_House_history : Okf P w K mg base CX0 1 (gAd K "House" "history") ["self"] (sp_House_history K)) (G__law_like : Okg P w K mg base CX0 1 (He.ga K "_law_like") ["_law_answer", "_law_due"] (sp__law_like K)) {cdv : Value} {A : Around} {outer : List Env} {s : Shared} {H : Hp} {E : XK} (hgd : A.guards = some []) (hcd : cdv = .ref (He.cT K ("_law_hand_right", none)).1)
    (hr : Room 8 (A.deeper (envOfC "_law_hand_right" (defScope s__law_hand_right) s.heap.objs.size (He.ga K "_law_hand_right") cdv))) :
    PSs (cxOf CX0 P w K mg base N__law_hand_right "_law_hand_right" (defScope s__law_hand_right) (He.ga K "_law_hand_right") cdv A outer s H E).nox (defBody s__law_hand_right) (t__law_hand_right K) :=
  (pss_cons (ps_asg (pe_tup (pa_cons (pe_tup (pa_cons pe_int (pa_cons (pe_tup (pa_cons (pe_tup (pa_cons pe_int (pa_cons pe_int pa_nil))) pa_nil)) (pa_cons (pe_tup (pa_cons (pe_tup (pa_cons pe_int (pa_cons pe_int pa_nil))) (pa_cons (pe_tup (pa_cons pe_int (pa_cons pe_int pa_nil))) pa_nil))) (pa_cons (pe_tup (pa_cons pe_int (pa_cons pe_int pa_nil))) pa_nil))))) (pa_cons (pe_tup (pa_cons pe_int (pa_cons (pe_tup (pa_cons (pe_tup (pa_cons pe_int (pa_cons pe_int pa_nil))) pa_nil)) (pa_cons (pe_tup (pa_cons (pe_tup (pa_cons pe_int (pa_cons pe_int pa_nil))) (pa_cons (pe_tup (pa_cons pe_int (pa_cons pe_int pa_nil))) pa_nil))) (pa_cons (pe_tup (pa_cons pe_int (pa_cons pe_int pa_nil))) pa_nil))))) pa_nil))) (pg_tup rfl (pgs_cons (pg_name (i := 0) sc__law_hand_right.nd rfl (Or.inl rfl)) (pgs_cons (pg_name (i := 1) sc__law_hand_right.nd rfl (Or.inl rfl)) pgs_nil))))
  (pss_cons (ps_par3 (i := 2) (j := 3) (l := 4) rfl sc__law_hand_right.nd rfl rfl rfl (by decide) (by decide) (by decide) rfl rfl rfl (pa_cons (pe_makeF T.mk_House G_House___init__ (hr.mono (by decide)) (by rfl) T.g_House pass0 (pa_cons (pv 0) (pa_cons pe_int pa_nil))) (pa_cons (pe_makeF T.mk_House G_House___init__ (hr.mono (by decide)) (by rfl) T.g_House pass0 (pa_cons (pv 0) (pa_cons pe_int pa_nil))) (pa_cons (pe_makeF T.mk_House G_House___init__ (hr.mono (by decide)) (by rfl) T.g_House pass0 (pa_cons (pv 0) (pa_cons pe_int pa_nil))) pa_nil))) (by rfl))
  (pss_cons (ps_expr (pe_methF (pv 4) T.c_House T.m_House_do G_House_do (hr.mono (by decide)) passL (pa_cons pe_int (pa_cons pe_int pa_nil))))
  (pss_cons (ps_set (i := 5) sc__law_hand_right.nd rfl (Or.inl rfl) (pe_lst (pa_cons (pe_cmpR (op_eqO T.m_House___eq__ G_House___eq__ (hr.mono (by decide))) (pv 2) (pv 3) (nomark _)) (pa_cons (pe_cmpR (op_eqO T.m_House___eq__ G_House___eq__ (hr.mono (by decide))) (pv 2) (pe_makeF T.mk_House G_House___init__ (hr.mono (by decide)) (by rfl) T.g_House pass0 (pa_cons (pv 1) (pa_cons pe_int pa_nil))) (nomark _)) (pa_cons (pe_cmpR (op_eqO T.m_House___eq__ G_House___eq__ (hr.mono (by decide))) (pv 2) (pv 4) (nomark _)) (pa_cons (pe_methF0 (pv 4) T.c_House T.m_House_undo G_House_undo (hr.mono (by decide)) pass0) (pa_cons (pe_cmpR (op_eqO T.m_House___eq__ G_House___eq__ (hr.mono (by decide))) (pv 2) (pv 4) (nomark _)) pa_nil)))))))
  (pss_cons (ps_set (i := 6) sc__law_hand_right.nd rfl (Or.inl rfl) (pe_methF0 (pv 4) T.c_House T.m_House_copy G_House_copy (hr.mono (by decide)) pass0))
  (pss_cons (ps_set (i := 5) sc__law_hand_right.nd rfl (Or.inl rfl) (pe_op op_add9 (pv 5) (pe_lst (pa_cons (pe_methF0 (pv 6) T.c_House T.m_House_redo G_House_redo (hr.mono (by decide)) pass0) (pa_cons (pe_methF0 (pv 6) T.c_House T.m_House_redo G_House_redo (hr.mono (by decide)) pass0) (pa_cons (pe_cmpR (op_eqO T.m_House___eq__ G_House___eq__ (hr.mono (by decide))) (pv 4) (pv 2) (nomark _)) (pa_cons (pe_methF0 (pv 4) T.c_House T.m_House_redo G_House_redo (hr.mono (by decide)) pass0) (pa_cons (pe_cmpR (op_eqO T.m_House___eq__ G_House___eq__ (hr.mono (by decide))) (pv 6) (pv 4) (nomark _)) pa_nil))))))))
  (pss_cons (ps_set (i := 5) sc__law_hand_right.nd rfl (Or.inl rfl) (pe_op op_add9 (pv 5) (pe_lst (pa_cons (pe_methF (pv 2) T.c_House T.m_House_hear G_House_hear (hr.mono (by decide)) pass0 (pa_cons pe_int (pa_cons pe_int pa_nil))) (pa_cons (pe_cmpR (op_eqO T.m_House___eq__ G_House___eq__ (hr.mono (by decide))) (pv 2) (pv 4) (nomark _)) (pa_cons (pe_cmpR (op_eq9 hr.units) (pe_len9 (by rfl) T.f_len (pv 2) T.m_House___len__ G_House___len__ (hr.mono (by decide))) (pe_len9 (by rfl) T.f_len (pv 4) T.m_House___len__ G_House___len__ (hr.mono (by decide))) (nomark _)) (pa_cons (pe_methF0 (pv 2) T.c_House T.m_House_undo G_House_undo (hr.mono (by decide)) pass0) pa_nil)))))))
  (pss_cons (ps_expr (pe_bm PySem.F.plainAttrs_list PySem.F.slot_list_append PySem.F.type_list_append mt_append (pv 5) (pa_cons (pe_underS (Tt := Tt K) (ES := (fun _ => E0)) (tl := fun E9 => (tMeth (He.ga K "House") "do" (sp_House_do K) [] E9 (tVar 8) (tCons (tC (.int 1)) (tCons (tC (.int 0)) tNil)))) (j := 8) (k := 6) T (by rfl) G_Trial___enter__.up G_Trial___exit__.up Gh Fu TB (by rw [hcd]; rfl) (List.mem_of_getElem? (i := 2) (by rfl)) (fun p hp e => tt_hu T.tb_ (Ta K "_law_hand_right", "_law_hand_right" ++ ".<locals>." ++ "<lambda>") (List.mem_of_getElem? (i := 2) (by rfl)) p hp e) (hr.mono (by decide)) (lamP_by (sc := defScope s__law_hand_right) (by decide +kernel)) sc__law_hand_right.nd rfl rfl (fun _ _ _ _ _ _ => rfl) (fun σ pins H s e s' I h => passL pins σ H s e s' I h) mE mX (pe_methF0 (pv 2) T.c_House T.m_House_trial G_House_trial (hr.mono (by decide)) pass0) rfl (fun A outer s H E' f c' hgA hrL => (pe_methF (pv 8) T.c_House T.m_House_do G_House_do (hrL.mono (by decide)) (passes_call (takes_of rfl rfl rfl rfl) (fun _ _ _ _ h => h)) (pa_cons pe_int (pa_cons pe_int pa_nil))))) pa_nil)))
  (pss_cons (ps_set (i := 5) sc__law_hand_right.nd rfl (Or.inl rfl) (pe_op op_add9 (pv 5) (pe_lst (pa_cons (pe_len9 (by rfl) T.f_len (pv 2) T.m_House___len__ G_House___len__ (hr.mono (by decide))) (pa_cons (pe_methF0 (pv 2) T.c_House T.m_House_redo G_House_redo (hr.mono (by decide)) pass0) (pa_cons (pe_propF (pv 2) T.c_House T.p_House_history G_House_history (hr.mono (by decide)) pass0 rfl) pa_nil))))))
  (pss_cons (ps_set (i := 7) sc__law_hand_right.nd rfl (Or.inl rfl) (pe_lst (pa_cons pe_bl (pa_cons pe_bl (pa_cons pe_bl (pa_cons pe_bl (pa_cons pe_bl (pa_cons pe_bl (pa_cons pe_bl (pa_cons pe_bl (pa_cons pe_bl (pa_cons pe_bl (pa_cons pe_int (pa_cons pe_bl (pa_cons pe_bl (pa_cons pe_bl pa_nil))))))))))))))))
  (pss_one (ps_ret (pe_callG G__law_like hgd (hr.mono (by decide)) (by rfl) T.g__law_like pass0 (pa_cons (pv 5) (pa_cons (pe_op op_add9 (pv 7) (pe_lst (pa_cons pe_int (pa_cons pe_int (pa_cons pe_bl (pa_cons (pe_tup (pa_cons pe_int (pa_cons (pe_tup (pa_cons (pe_tup (pa_cons pe_str (pa_cons pe_int (pa_cons pe_int pa_nil)))) pa_nil)) pa_nil))) pa_nil)))))) pa_nil)))))))))))))))

abbrev N_law : List Str := ["_law_script", "_law_turn_here", "_law_kind_so", "_law_many", "_law_house_so", "_law_own", "_law_early", "_law_way", "_law_twin", "_law_other", "_law_fresh", "_law_m", "_law_held", "_law_thing"]
theorem sc_law : FnScope N_law ["_law_script"] (defScope s_law) := ⟨rfl, rfl, rfl, by decide +kernel, rfl, by decide +kernel, by decide +kernel⟩
def t_law (K : PySem.W.Frag) : TS :=
  (tSeq (tAsg (tCall (sp__law_begun K) [] E0 (tCons (tVar 0) tNil)) (gName 11))
  (tSeq (tFor (iRng1 (tCons (tOp (rAdd9 K) (tC (.int 2)) (tCB rMin9 (tCons (tC (.int 3)) (tCons (tCB (rLen9 K) (tCons (tVar 0) tNil)) tNil)))) tNil)) (gName 1) (tSeq (tPar 2 3 (tCons (tCall (sp__law_any K) [] E0 (tCons (tVar 11) tNil)) (tCons (tOp (rAdd9 K) (tC (.int 1)) (tCall (sp__law_draw K) [] E0 (tCons (tVar 11) (tCons (tC (.int 5)) tNil)))) tNil)))
  (tSeq (tAsg (tTup (tCons (tMake (He.ga K "House") (sp_House___init__ K) [] E0 (tCons (tVar 2) (tCons (tVar 3) tNil))) (tCons (tCall (sp__law_begin_house K) [] E0 (tCons (tVar 2) (tCons (tVar 3) tNil))) tNil))) (gTup K 2 (gCons (gName 4) (gCons (gName 5) gNil))))
  (tSeq (tAsg (tMeth (He.ga K "House") "trial" (sp_House_trial K) [] E0 (tVar 4) tNil) (gName 6))
  (tSeq (tIfS (tNot (tB (tCall (sp__law_led K) [] E0 (tCons (tVar 11) (tCons (tVar 4) (tCons (tVar 5) (tCons (tOp (rAdd9 K) (tC (.int 3)) (tCall (sp__law_draw K) [] E0 (tCons (tVar 11) (tCons (tC (.int 5)) tNil)))) tNil))))))) (tRet (tC (.bl false))) tNext)
  (tSeq (tFor (iRng1 (tCons (tC (.int 4)) tNil)) (gName 7) (tIfS (tNot (tB (tCall (sp__law_tried K) [] E0 (tCons (tVar 11) (tCons (tVar 4) (tCons (tVar 5) (tCons (tVar 7) tNil))))))) (tRet (tC (.bl false))) tNext))
  (tSeq (tAsg (tCall (sp__law_twin_of K) [] E0 (tCons (tVar 5) tNil)) (gName 10))
  (tSeq (tIfS (tTest (tOp rNotB (tUS (Tt K) (He.ga K "Trial") (sp_Trial___enter__ K) (sp_Trial___exit__ K) ("law" ++ ".<locals>." ++ "<lambda>") 12 (tVar 6) (fun E9 => (tCall (sp__law_led K) [] E0 (tCons (tVar 11) (tCons (tVar 12) (tCons (tVar 10) (tCons (tC (.int 2)) tNil)))))) (fun _ => E0)) (tC (.bl true)))) (tRet (tC (.bl false))) tNext)
  (tSeq (tIfS (tNot (tB (tCall (sp__law_stands K) [] E0 (tCons (tVar 4) (tCons (tVar 5) tNil))))) (tRet (tC (.bl false))) tNext)
  (tSeq (tPar 8 9 (tCons (tMeth (He.ga K "House") "copy" (sp_House_copy K) [] E0 (tVar 4) tNil) (tCons (tCall (sp__law_twin_of K) [] E0 (tCons (tVar 5) tNil)) tNil)))
  (tSeq (tIfS (tOr (tTest (tOp (rNeO K (He.ga K "House") (sp_House___eq__ K)) (tVar 8) (tVar 4))) (tOr (tNot (tTest (tOp (rEqO K (He.ga K "House") (sp_House___eq__ K)) (tVar 8) (tVar 4)))) (tNot (tB (tCall (sp__law_led K) [] E0 (tCons (tVar 11) (tCons (tVar 8) (tCons (tVar 9) (tCons (tC (.int 3)) tNil))))))))) (tRet (tC (.bl false))) tNext)
  (tSeq (tIfS (tOr (tTest (tOp (rNe9 K) (tOp (rEqO K (He.ga K "House") (sp_House___eq__ K)) (tVar 8) (tVar 4)) (tOp (rEq9 K) (tDGet (tVar 5) (tC (.str "past"))) (tDGet (tVar 9) (tC (.str "past")))))) (tNot (tB (tCall (sp__law_stands K) [] E0 (tCons (tVar 4) (tCons (tVar 5) tNil)))))) (tRet (tC (.bl false))) tNext)
  (tSeq (tIfS (tOr (tNot (tB (tCall (sp__law_back_right K) [] E0 (tCons (tVar 4) (tCons (tVar 5) tNil))))) (tNot (tB (tCall (sp__law_stands K) [] E0 (tCons (tVar 8) (tCons (tVar 9) tNil)))))) (tRet (tC (.bl false))) tNext)
  (tSeq (tIfS (tTest (tOp (rNeO K (He.ga K "House") (sp_House___eq__ K)) (tVar 4) (tMake (He.ga K "House") (sp_House___init__ K) [] E0 (tCons (tVar 2) (tCons (tVar 3) tNil))))) (tRet (tC (.bl false))) tNext)
  (tIfS (tTest (tOp (rNe9 K) (tLc (iTup K (tTup (tCons (tVar 2) (tCons (tC .non) (tCons (tC (.int 5)) (tCons (tTup tNil) tNil)))))) (gName 13) tYes (tOp (rEqO K (He.ga K "House") (sp_House___eq__ K)) (tVar 4) (tVar 13)) [13]) (tOp (rMul9 K) (tLst (tCons (tC (.bl false)) tNil)) (tC (.int 4))))) (tRet (tC (.bl false))) tNext)))))))))))))))
  (tRet (tCall (sp__law_hand_right K) [] E0 tNil))))
theorem pd_law {P : Program} {w : World} {K : PySem.W.Frag} {mg : Str → Option Value} {base : Heap} (T : Txt K mg) {fdU : FuncData} (Fu : Fun K "under" "under" s_under (He.ga K "under") fdU) (TB : TabB base mg (He.cT K ("law", none)).1 (Ta K "law")) (Gh : Oke P w K mg base (13 + 1) (He.ma K (He.ga K "Trial") "__exit__") ["self", "kind", "told", "trace"] (sp_Trial___exit__ K)) (mE : SpM (sp_Trial___enter__ K)) (mX : SpM (sp_Trial___exit__ K)) (G__law_begun : Okf P w K mg base CX0 2 (He.ga K "_law_begun") ["_law_script"] (sp__law_begun K)) (G__law_draw : Okf P w K mg base CX0 2 (He.ga K "_law_draw") ["_law_m", "_law_limit"] (sp__law_draw K)) (G__law_any : Okf P w K mg base CX0 5 (He.ga K "_law_any") ["_law_m"] (sp__law_any K)) (G__law_begin_house : Okf P w K mg base CX0 1 (He.ga K "_law_begin_house") ["_law_kind_so", "_law_many"] (sp__law_begin_house K)) (G_House___init__ : Okf P w K mg base CX0 5 (He.ma K (He.ga K "House") "__init__") ["self", "kind", "many"] (sp_House___init__ K)) (G_House_trial : Okf P w K mg base CX0 3 (He.ma K (He.ga K "House") "trial") ["self"] (sp_House_trial K)) (G__law_led : Okg P w K mg base CX0 9 (He.ga K "_law_led") ["_law_m", "_law_house_so", "_law_own", "_law_many"] (sp__law_led K)) (G__law_tried : Okg P w K mg base (L2.CX P w) 15 (He.ga K "_law_tried") ["_law_m", "_law_house_so", "_law_own", "_law_way"] (sp__law_tried K)) (G__law_twin_of : Okf P w K mg base CX0 1 (He.ga K "_law_twin_of") ["_law_own"] (sp__law_twin_of K)) (G_Trial___enter__ : Okf P w K mg base CX0 1 (He.ma K (He.ga K "Trial") "__enter__") ["self"] (sp_Trial___enter__ K)) (G_Trial___exit__ : Okf P w K mg base CX0 1 (He.ma K (He.ga K "Trial") "__exit__") ["self", "kind", "told", "trace"] (sp_Trial___exit__ K)) (G__law_stands : Okg P w K mg base CX0 8 (He.ga K "_law_stands") ["_law_house_so", "_law_own"] (sp__law_stands K)) (G_House_copy : Okf P w K mg base CX0 7 (He.ma K (He.ga K "House") "copy") ["self"] (sp_House_copy K)) (G_House___eq__ : Okf P w K mg base CX0 1 (He.ma K (He.ga K "House") "__eq__") ["self", "other"] (sp_House___eq__ K)) (G__law_back_right : Okg P w K mg base CX0 9 (He.ga K "_law_back_right") ["_law_house_so", "_law_own"] (sp__law_back_right K)) (G__law_hand_right : Okg P w K mg base CX0 9 (He.ga K "_law_hand_right") [] (sp__law_hand_right K)) {cdv : Value} {A : Around} {outer : List Env} {s : Shared} {H : Hp} {E : XK} (hgd : A.guards = some []) (hcd : cdv = .ref (He.cT K ("law", none)).1)
    (hr : Room 15 (A.deeper (envOfC "law" (defScope s_law) s.heap.objs.size (He.ga K "law") cdv))) :
    PSs (cxOf CX0 P w K mg base N_law "law" (defScope s_law) (He.ga K "law") cdv A outer s H E).nox (defBody s_law) (t_law K) :=
  (pss_cons (ps_set (i := 11) sc_law.nd rfl (Or.inr rfl) (pe_callF G__law_begun (hr.mono (by decide)) (by rfl) T.g__law_begun pass0 (pa_cons (pv 0) pa_nil)))
  (pss_cons (ps_for PassesOwn.never rfl (pi_range1 (by rfl) T.f_range (pa_cons (pe_op op_add9 pe_int (pe_callB (call_min9 rfl) (by rfl) T.f_min (by decide +kernel) (pa_cons pe_int (pa_cons (pe_callB call_len9 (by rfl) T.f_len PySem.boot_len (pa_cons (pv 0) pa_nil)) pa_nil)))) pa_nil)) (pg_name (i := 1) sc_law.nd rfl (Or.inl rfl)) (pss_cons (ps_par (i := 2) (j := 3) rfl sc_law.nd rfl rfl (by decide) rfl rfl (pa_cons (pe_callF G__law_any (hr.mono (by decide)) (by rfl) T.g__law_any pass0 (pa_cons (pv 11) pa_nil)) (pa_cons (pe_op op_add9 pe_int (pe_callF G__law_draw (hr.mono (by decide)) (by rfl) T.g__law_draw pass0 (pa_cons (pv 11) (pa_cons pe_int pa_nil)))) pa_nil)) (by rfl))
  (pss_cons (ps_asg (pe_tup (pa_cons (pe_makeF T.mk_House G_House___init__ (hr.mono (by decide)) (by rfl) T.g_House pass0 (pa_cons (pv 2) (pa_cons (pv 3) pa_nil))) (pa_cons (pe_callF G__law_begin_house (hr.mono (by decide)) (by rfl) T.g__law_begin_house pass0 (pa_cons (pv 2) (pa_cons (pv 3) pa_nil))) pa_nil))) (pg_tup rfl (pgs_cons (pg_name (i := 4) sc_law.nd rfl (Or.inr rfl)) (pgs_cons (pg_name (i := 5) sc_law.nd rfl (Or.inl rfl)) pgs_nil))))
  (pss_cons (ps_set (i := 6) sc_law.nd rfl (Or.inl rfl) (pe_methF0 (pv 4) T.c_House T.m_House_trial G_House_trial (hr.mono (by decide)) pass0))
  (pss_cons (ps_if (pt_not (pt_val (pe_callG G__law_led hgd (hr.mono (by decide)) (by rfl) T.g__law_led pass0 (pa_cons (pv 11) (pa_cons (pv 4) (pa_cons (pv 5) (pa_cons (pe_op op_add9 pe_int (pe_callF G__law_draw (hr.mono (by decide)) (by rfl) T.g__law_draw pass0 (pa_cons (pv 11) (pa_cons pe_int pa_nil)))) pa_nil))))))) (pss_one (ps_ret pe_bl)) pss_nil)
  (pss_cons (ps_for PassesOwn.never rfl (pi_range1 (by rfl) T.f_range (pa_cons pe_int pa_nil)) (pg_name (i := 7) sc_law.nd rfl (Or.inl rfl)) (pss_one (ps_if (pt_not (pt_val (pe_callG G__law_tried hgd (hr.mono (by decide)) (by rfl) T.g__law_tried passL (pa_cons (pv 11) (pa_cons (pv 4) (pa_cons (pv 5) (pa_cons (pv 7) pa_nil))))))) (pss_one (ps_ret pe_bl)) pss_nil)))
  (pss_cons (ps_set (i := 10) sc_law.nd rfl (Or.inr rfl) (pe_callF G__law_twin_of (hr.mono (by decide)) (by rfl) T.g__law_twin_of pass0 (pa_cons (pv 5) pa_nil)))
  (pss_cons (ps_if (pt_cmpR op_notBl (pe_underS (Tt := Tt K) (ES := (fun _ => E0)) (tl := fun E9 => (tCall (sp__law_led K) [] E0 (tCons (tVar 11) (tCons (tVar 12) (tCons (tVar 10) (tCons (tC (.int 2)) tNil)))))) (j := 12) (k := 13) T (by rfl) G_Trial___enter__.up G_Trial___exit__.up Gh Fu TB (by rw [hcd]; rfl) (List.mem_of_getElem? (i := 3) (by rfl)) (fun p hp e => tt_hu T.tb_ (Ta K "law", "law" ++ ".<locals>." ++ "<lambda>") (List.mem_of_getElem? (i := 3) (by rfl)) p hp e) (hr.mono (by decide)) (lamP_by (sc := defScope s_law) (by decide +kernel)) sc_law.nd rfl rfl (fun _ _ _ _ _ _ => rfl) (fun σ pins H s e s' I h => passL pins σ H s e s' I h) mE mX (pv 6) rfl (fun A outer s H E' f c' hgA hrL => (pe_callG G__law_led (hgA.trans hgd) (hrL.mono (by decide)) (by rfl) T.g__law_led pass0 (pa_cons (pv 11) (pa_cons (pv 12) (pa_cons (pv 10) (pa_cons pe_int pa_nil))))))) pe_bl (nomark _)) (pss_one (ps_ret pe_bl)) pss_nil)
  (pss_cons (ps_if (pt_not (pt_val (pe_callG G__law_stands hgd (hr.mono (by decide)) (by rfl) T.g__law_stands pass0 (pa_cons (pv 4) (pa_cons (pv 5) pa_nil))))) (pss_one (ps_ret pe_bl)) pss_nil)
  (pss_cons (ps_par (i := 8) (j := 9) rfl sc_law.nd rfl rfl (by decide) rfl rfl (pa_cons (pe_methF0 (pv 4) T.c_House T.m_House_copy G_House_copy (hr.mono (by decide)) pass0) (pa_cons (pe_callF G__law_twin_of (hr.mono (by decide)) (by rfl) T.g__law_twin_of pass0 (pa_cons (pv 5) pa_nil)) pa_nil)) (by rfl))
  (pss_cons (ps_if (PW.pt (pw_or (pt_cmpR (op_neO T.m_House___eq__ T.ne_House T.mo_House G_House___eq__ (hr.mono (by decide))) (pv 8) (pv 4) (nomark _)) (pw_or (pt_not (pt_cmpR (op_eqO T.m_House___eq__ G_House___eq__ (hr.mono (by decide))) (pv 8) (pv 4) (nomark _))) (pw_or1 (pt_not (pt_val (pe_callG G__law_led hgd (hr.mono (by decide)) (by rfl) T.g__law_led pass0 (pa_cons (pv 11) (pa_cons (pv 8) (pa_cons (pv 9) (pa_cons pe_int pa_nil))))))))))) (pss_one (ps_ret pe_bl)) pss_nil)
  (pss_cons (ps_if (PW.pt (pw_or (pt_cmpR (op_ne9 hr.units) (pe_cmpR (op_eqO T.m_House___eq__ G_House___eq__ (hr.mono (by decide))) (pv 8) (pv 4) (nomark _)) (pe_cmpR (op_eq9 hr.units) (pe_dget (hu_of hr) (pv 5) pe_str (fun _ _ => rfl)) (pe_dget (hu_of hr) (pv 9) pe_str (fun _ _ => rfl)) (nomark _)) (nomark _)) (pw_or1 (pt_not (pt_val (pe_callG G__law_stands hgd (hr.mono (by decide)) (by rfl) T.g__law_stands pass0 (pa_cons (pv 4) (pa_cons (pv 5) pa_nil)))))))) (pss_one (ps_ret pe_bl)) pss_nil)
  (pss_cons (ps_if (PW.pt (pw_or (pt_not (pt_val (pe_callG G__law_back_right hgd (hr.mono (by decide)) (by rfl) T.g__law_back_right pass0 (pa_cons (pv 4) (pa_cons (pv 5) pa_nil))))) (pw_or1 (pt_not (pt_val (pe_callG G__law_stands hgd (hr.mono (by decide)) (by rfl) T.g__law_stands pass0 (pa_cons (pv 8) (pa_cons (pv 9) pa_nil)))))))) (pss_one (ps_ret pe_bl)) pss_nil)
  (pss_cons (ps_if (pt_cmpR (op_neO T.m_House___eq__ T.ne_House T.mo_House G_House___eq__ (hr.mono (by decide))) (pv 4) (pe_makeF T.mk_House G_House___init__ (hr.mono (by decide)) (by rfl) T.g_House pass0 (pa_cons (pv 2) (pa_cons (pv 3) pa_nil))) (nomark _)) (pss_one (ps_ret pe_bl)) pss_nil)
  (pss_one (ps_if (pt_cmpR (op_ne9 hr.units) (pe_lc (own := [("_law_thing", 13)]) (g := (gName 13)) rfl sc_law.nd (pi_tup (pe_tup (pa_cons (pv 2) (pa_cons pe_non (pa_cons pe_int (pa_cons (pe_tup pa_nil) pa_nil)))))) (blkOk_by (own := [("_law_thing", 13)]) (N := ["_law_script", "_law_turn_here", "_law_kind_so", "_law_many", "_law_house_so", "_law_own", "_law_early", "_law_way", "_law_twin", "_law_other", "_law_fresh", "_law_m", "_law_held", "_law_thing"]) (sc := defScope s_law) (by decide +kernel)) (fun _ _ _ _ _ => (pg_name (i := 13) sc_law.nd rfl (Or.inl rfl))) (fun _ _ _ _ _ => pts_nil) (fun _ _ _ _ _ => (pe_cmpR (op_eqO T.m_House___eq__ G_House___eq__ (hr.mono (by decide))) (pv 4) (pv 13) (nomark _)))) (pe_op op_mul9 (pe_lst (pa_cons pe_bl pa_nil)) pe_int) (nomark _)) (pss_one (ps_ret pe_bl)) pss_nil))))))))))))))))
  (pss_one (ps_ret (pe_callG0 G__law_hand_right hgd (hr.mono (by decide)) (by rfl) T.g__law_hand_right pass0)))))
end W9
set_option maxHeartbeats 4000000
/-! back_right -/
namespace W9
open PySem PySem.Spec PyProof.Rows L2 LamX
variable {K : PySem.W.Frag} {vs : List V} {H : Hp} {Q : VK} {E : XK}
/-- house and record, both turned -/
def Both (K : PySem.W.Frag) (a o : Addr) (h : Hs) (H H' : Hp) : Prop := ExT H H' ∧ ExS [a, o] H H' ∧ HsAt K H' a h ∧ OwAt H' o h
theorem Both.ex {a o : Addr} {h : Hs} {H H1 H2 : Hp} (x : Both K a o h H H1) (e : Ex H1 H2) : Both K a o h H H2 := ⟨x.1.trans e.t, x.2.1.trans (ExS.of e), x.2.2.1.ext e, x.2.2.2.ext e⟩
theorem Both.rec {a o : Addr} {h h' : Hs} {H H1 H2 : Hp} (x : Both K a o h H H1) (n : a ≠ o) (r : Recd o h' H1 H2) : ExT H H2 ∧ ExS [a, o] H H2 ∧ HsAt K H2 a h ∧ OwAt H2 o h' := ⟨x.1.trans r.1, x.2.1.trans (ExS.ofB r.2.1 (by simp)), x.2.2.1.but r.2.1 r.1 n, r.2.2⟩
theorem both_turn {a o : Addr} {h h' h'' : Hs} {H H2 H3 : Hp} (x : ExT H H2 ∧ ExS [a, o] H H2 ∧ HsAt K H2 a h ∧ OwAt H2 o h') (n : a ≠ o) (r : Turned K a h'' H2 H3) (e : h'' = h') : Both K a o h' H H3 := ⟨x.1.trans r.1, x.2.1.trans (ExS.ofB r.2.1 (by simp)), e ▸ r.2.2, x.2.2.2.keep (fun u z => r.2.1 o u (Ne.symm n) z) r.1⟩
/-- i steps on, i steps back -/
def Hs.onN (h : Hs) (i : Nat) : Hs := { h with past := h.past ++ h.later.take i, later := h.later.drop i }
theorem onN_on (h : Hs) (i : Nat) : (h.onN i).on = h.onN (i + 1) := by
  have e1 : (h.past ++ h.later.take i) ++ (h.later.drop i).take 1 = h.past ++ h.later.take (i + 1) := by
    rw [List.append_assoc, ← List.take_add]
  have e2 : (h.later.drop i).drop 1 = h.later.drop (i + 1) := by rw [List.drop_drop]
  show Hs.mk h.k h.m _ _ = Hs.mk h.k h.m _ _
  rw [show (h.onN i).past = h.past ++ h.later.take i from rfl, show (h.onN i).later = h.later.drop i from rfl, e1, e2]
theorem onN_ok {h : Hs} (ok : h.Ok) (i : Nat) : (h.onN i).Ok := by
  have sz := ok.sz
  refine ⟨ok.kd, ok.m1, ok.m16, fun s hs => ?_, fun s hs => ok.okl s (List.mem_of_mem_drop hs), ?_⟩
  · rcases List.mem_append.mp hs with z | z
    · exact ok.okp s z
    · exact ok.okl s (List.mem_of_mem_take z)
  · show (h.past ++ h.later.take i).length + (h.later.drop i).length ≤ 30
    rw [List.length_append, List.length_take, List.length_drop]
    omega
/-- all l steps: the first j done -/
def Hs.at_ (h : Hs) (l : List Stp) (j : Nat) : Hs := { h with past := l.take j, later := l.drop j }
theorem at_back (h : Hs) (l : List Stp) {j : Nat} (hj : j + 1 ≤ l.length) : (h.at_ l (j + 1)).back = h.at_ l j := by
  have e0 : (l.take (j + 1)).length - 1 = j := by rw [List.length_take]; omega
  have e1 : (l.take (j + 1)).take j = l.take j := by rw [List.take_take]; congr 1; omega
  have e2 : (l.take (j + 1)).drop j ++ l.drop (j + 1) = l.drop j := by
    have hl : j < l.length := by omega
    rw [List.drop_eq_getElem_cons hl, List.take_succ, List.getElem?_eq_getElem hl, List.drop_append, List.length_take]
    rw [List.drop_eq_nil_of_le (by rw [List.length_take]; omega)]
    rw [show j - min j l.length = 0 by omega]
    rfl
  show Hs.mk h.k h.m ((l.take (j + 1)).take ((l.take (j + 1)).length - 1)) ((l.take (j + 1)).drop ((l.take (j + 1)).length - 1) ++ l.drop (j + 1)) = Hs.mk h.k h.m _ _
  rw [e0, e1, e2]
theorem rd__law_back_right (h : sp__law_back_right K vs H Q E) : t__law_back_right K (Dn Q) (L2.start N__law_back_right vs) H := by
  obtain ⟨a, o, h, rfl, ha, ho, nao, ok, m5, q⟩ := h
  have s : Sl (L2.start N__law_back_right [.ref a, .ref o]) H [some (dr a), some (dr o), none] := sl_start (N := N__law_back_right) (l := [dr a, dr o]) (vs := [.ref a, .ref o]) (H := H) (.cons (.leaf _) (.cons (.leaf _) .nil)) (Nat.le_of_ble_eq_true rfl)
  have sz := ok.sz
  have at2 : ∀ {σ' : L2.St} {H' : Hp} {d : Option Dt}, Sl σ' H' [some (dr a), some (dr o), d] → σ'[0]? = some (some (.ref a)) ∧ σ'[1]? = some (some (.ref o)) := fun s => by
    obtain ⟨y0, h1, h2⟩ := s.at_ 0 _ rfl
    obtain ⟨y1, h3, h4⟩ := s.at_ 1 _ rfl
    exact ⟨by rw [h1, h2.v_eq], by rw [h3, h4.v_eq]⟩
  have lenP : ∀ {h' : Hs} {Γ : Cxt}, Γ[1]? = some (some (dr o)) → Pu (tCB (rLen9 K) (tCons (tDGet (tVar 1) (tC (.str "past"))) tNil)) Γ (fun H' => OwAt H' o h') (dn h'.past.length) := fun {h' Γ} hg => Pu.is (pu_cb (pa_c (pu_oP (pu_var hg) fun _ p => p) pa_n) (rc_lenT (l := h'.past.map stD))) (by rw [List.length_map])
  have lenL : ∀ {h' : Hs} {Γ : Cxt}, Γ[1]? = some (some (dr o)) → Pu (tCB (rLen9 K) (tCons (tDGet (tVar 1) (tC (.str "later"))) tNil)) Γ (fun H' => OwAt H' o h') (dn h'.later.length) := fun {h' Γ} hg => Pu.is (pu_cb (pa_c (pu_oL (pu_var hg) fun _ p => p) pa_n) (rc_lenT (l := h'.later.map stD))) (by rw [List.length_map])
  let J : Nat → L2.St → Hp → Prop := fun i σ' H' => Sl σ' H' [some (dr a), some (dr o), none] ∧ Both K a o (h.onN i) H H'
  have on0 : h.onN 0 = h := by
    show Hs.mk h.k h.m (h.past ++ h.later.take 0) (h.later.drop 0) = h
    simp
  refine s_seq (s_forR (P := fun H' => OwAt H' o h) (n := h.later.length) (pa_c (lenL rfl) pa_n) (by omega) s ho J ?_ ?_ ?_)
  · intro H1 e1
    refine ⟨s.ext e1.t, ?_⟩
    rw [on0]
    exact ⟨e1.t, ExS.of e1, ha.ext e1, ho.ext e1⟩
  · rintro i σ' H' hi ⟨s', B⟩
    have s1 := s'.set (x := .int (i : Int)) (d := dn i) (.leaf _) 2
    obtain ⟨z0, z1⟩ := at2 s1
    have oki := onN_ok ok i
    have hne : (h.onN i).later ≠ [] := fun z => by
      have : (h.later.drop i).length = 0 := by rw [show h.later.drop i = [] from z]; rfl
      rw [List.length_drop] at this
      omega
    have hb : (!(h.onN i).later.isEmpty) = true := by
      cases hl : (h.onN i).later with
      | nil => exact absurd hl hne
      | cons x y => rfl
    refine s_seq ⟨.ref o, z1, o, h.onN i, rfl, B.2.2.2, oki, fun H2 r2 => ?_⟩
    have B2 := B.rec nao r2
    obtain ⟨dx, fs, hi1, hi2⟩ := hs_meth (m := "redo") B2.2.2.1
    refine ⟨.ref a, z0, a, dx, fs, rfl, hi1, hi2, a, h.onN i, rfl, B2.2.2.1, oki, fun H3 r3 => ?_⟩
    have B3 : Both K a o (h.onN (i + 1)) H H3 := by
      have z := both_turn B2 nao r3 rfl
      rw [onN_on] at z
      exact z
    refine ⟨_, _, rfl, rfl, false, by rw [hb]; rfl, ?_⟩
    refine ⟨.ref a, z0, .ref o, z1, a, o, h.onN (i + 1), rfl, B3.2.2.1, B3.2.2.2, onN_ok ok (i + 1), m5, fun H4 e4 => ⟨true, rfl, ?_⟩⟩
    exact ⟨((((s1.ext r2.1).ext r3.1).ext e4.t)).lessL ⟨rfl, rfl, trivial⟩, B3.ex e4⟩
  rintro σ1 H1 ⟨s1, B1⟩
  let all : List Stp := h.past ++ h.later
  have onE : h.onN h.later.length = h.at_ all all.length := by
    show Hs.mk h.k h.m (h.past ++ h.later.take h.later.length) (h.later.drop h.later.length) = Hs.mk h.k h.m (all.take all.length) (all.drop all.length)
    rw [List.take_length, List.take_length, List.drop_length, List.drop_length]
  have all30 : all.length ≤ 30 := by
    show (h.past ++ h.later).length ≤ 30
    rw [List.length_append]
    exact sz
  have okA : ∀ j, (h.at_ all j).Ok := fun j => by
    have okl : ∀ s ∈ all, s.Ok h.k h.m := fun s hs => by
      rcases List.mem_append.mp hs with z | z
      · exact ok.okp s z
      · exact ok.okl s z
    refine ⟨ok.kd, ok.m1, ok.m16, fun s hs => okl s (List.mem_of_mem_take hs), fun s hs => okl s (List.mem_of_mem_drop hs), ?_⟩
    show (all.take j).length + (all.drop j).length ≤ 30
    rw [List.length_take, List.length_drop]
    omega
  rw [onE] at B1
  obtain ⟨z0, z1⟩ := at2 s1
  obtain ⟨dx, fs, hi1, hi2⟩ := hs_meth (m := "redo") B1.2.2.1
  have nl : (h.at_ all all.length).later = [] := List.drop_length
  -- nothing to do again
  refine s_seq ⟨.ref a, z0, a, dx, fs, rfl, hi1, hi2, a, h.at_ all all.length, rfl, B1.2.2.1, okA _, fun H2 r2 => ⟨_, _, rfl, rfl, false, by rw [nl]; rfl, (if_neg Bool.false_ne_true).mpr (s_next ?_)⟩⟩
  have B2 : Both K a o (h.at_ all all.length) H H2 := both_turn B1 nao r2 (on_nil nl)
  have s2 := s1.ext r2.1
  let J2 : Nat → L2.St → Hp → Prop := fun i σ' H' => Sl σ' H' [some (dr a), some (dr o), none] ∧ i ≤ all.length ∧ Both K a o (h.at_ all (all.length - i)) H H'
  have lenA : (h.at_ all all.length).past.length = all.length := by
    show (all.take all.length).length = _
    rw [List.take_length]
  refine s_seq (s_forR (P := fun H' => OwAt H' o (h.at_ all all.length)) (n := all.length) (pa_c (Pu.is (lenP (h' := h.at_ all all.length) rfl) (by rw [lenA])) pa_n) (by omega) s2 B2.2.2.2 J2 ?_ ?_ ?_)
  · exact fun H3 e3 => ⟨s2.ext e3.t, Nat.zero_le _, B2.ex e3⟩
  · rintro i σ' H' hi ⟨s', _, B⟩
    have s3 := s'.set (x := .int (i : Int)) (d := dn i) (.leaf _) 2
    obtain ⟨y0, y1⟩ := at2 s3
    have ej : all.length - i = (all.length - (i + 1)) + 1 := by omega
    rw [ej] at B
    have hb : (!(h.at_ all ((all.length - (i + 1)) + 1)).past.isEmpty) = true := by
      have hl : (h.at_ all ((all.length - (i + 1)) + 1)).past.length ≠ 0 := by
        show (all.take ((all.length - (i + 1)) + 1)).length ≠ 0
        rw [List.length_take]
        omega
      cases hp : (h.at_ all ((all.length - (i + 1)) + 1)).past with
      | nil => rw [hp] at hl; exact absurd rfl hl
      | cons x y => rfl
    refine s_seq ⟨.ref o, y1, o, _, rfl, B.2.2.2, okA _, fun H3 r3 => ?_⟩
    have B3 := B.rec nao r3
    obtain ⟨dx, fs, hi1, hi2⟩ := hs_meth (m := "undo") B3.2.2.1
    refine ⟨.ref a, y0, a, dx, fs, rfl, hi1, hi2, a, _, rfl, B3.2.2.1, okA _, fun H4 r4 => ?_⟩
    have B4 : Both K a o (h.at_ all (all.length - (i + 1))) H H4 := by
      have z := both_turn B3 nao r4 rfl
      rw [at_back h all (by omega)] at z
      exact z
    refine ⟨_, _, rfl, rfl, false, by rw [hb]; rfl, ?_⟩
    refine ⟨.ref a, y0, .ref o, y1, a, o, _, rfl, B4.2.2.1, B4.2.2.2, okA _, m5, fun H5 e5 => ⟨true, rfl, ?_⟩⟩
    exact ⟨((((s3.ext r3.1).ext r4.1).ext e5.t)).lessL ⟨rfl, rfl, trivial⟩, hi, B4.ex e5⟩
  · rintro σ' H' ⟨s', _, B⟩
    rw [Nat.sub_self] at B
    have hm : h.at_ all 0 = h.home := rfl
    rw [hm] at B
    obtain ⟨y0, y1⟩ := at2 s'
    have np : h.home.past = [] := rfl
    obtain ⟨dx, fs, hi1, hi2⟩ := hs_meth (m := "undo") B.2.2.1
    have okh : h.home.Ok := hm ▸ okA 0
    refine ⟨.ref a, y0, a, dx, fs, rfl, hi1, hi2, a, _, rfl, B.2.2.1, okh, fun H4 r4 => ⟨_, _, rfl, rfl, true, by rw [np]; rfl, ?_⟩⟩
    have B4 : Both K a o h.home H H4 := both_turn B nao r4 (back_nil np)
    refine (if_pos rfl).mpr ?_
    refine ⟨.ref a, y0, .ref o, y1, a, o, _, rfl, B4.2.2.1, B4.2.2.2, okh, m5, fun H5 e5 => ?_⟩
    have B5 := B4.ex e5
    exact q H5 B5.1 B5.2.1 B5.2.2.1 B5.2.2.2
end W9
set_option maxHeartbeats 4000000
/-! inner -/
namespace W9
open PySem PySem.Spec PyProof.Rows L2 LamX
variable {K : PySem.W.Frag} {vs : List V} {H : Hp} {Q : VK} {E : XK}
theorem LedK.ex {m c g a o : Addr} {n : Nat} {h : Hs} {H H1 H2 : Hp} (x : LedK K m c g a o n h H H1) (e : Ex H1 H2) : LedK K m c g a o n h H H2 := ⟨x.k.trans (.of_ex x.k.tb e), x.d.ext e, x.a.ext e, x.o.ext e⟩
theorem LedK.trans {m c g a o : Addr} {n n' : Nat} {h h' : Hs} {H H1 H2 : Hp} (x : LedK K m c g a o n h H H1) (y : LedK K m c g a o n' h' H1 H2) : LedK K m c g a o n' h' H H2 := ⟨x.k.trans y.k, y.d, y.a, y.o⟩
theorem Sl.at2 {σ : L2.St} {H : Hp} {Γ : Cxt} {i : Nat} {a : Addr} (s : Sl σ H Γ) (h : Γ[i]? = some (some (dr a))) : σ[i]? = some (some (.ref a)) := by
  obtain ⟨y, h1, h2⟩ := s.at_ i _ h
  rw [h1, h2.v_eq]
/-- under(a trial, the leading of the house and a new record): all is back behind it -/
theorem under_led {q : Str} {j i0 i6 : Nat} {to : TE} {σ : L2.St} {Γ : Cxt} {m c g a p t : Addr} {n : Nat} {h : Hs} {pp pl : List Stp} (hq : ∀ H, Tabs (Tt K) H → Tabs (Tt K) H) (s : Sl σ H Γ) (hj : j < Γ.length) (h0 : Γ[i0]? = some (some (dr m))) (h6 : Γ[i6]? = some (some (dr p))) (n0 : i0 ≠ j) (n6 : i6 ≠ j)
    (tb : Tabs (Tt K) H) (d : DrAt H m c g n) (ha : HsAt K H a h) (hp : OwAt H p h) (ht : TrAt K H t a pp pl) (ap : Apart m c g a p) (nt : t ∉ [m, c, g, a, p]) (ok : h.Ok) (m5 : h.m ≤ 5) (h28 : h.past.length + h.later.length + 2 ≤ 30) (hn : n + 8 ≤ 5000)
    (hto : ∀ R : VK, R (.ref t) H → to σ H R) (k : ∀ H' n', n ≤ n' → n' ≤ n + 8 → ExK K [m, g, a, p, t] H H' → DrAt H' m c g n' → HsAt K H' a h → Q (.bl true) H') :
    tUS (Tt K) (He.ga K "Trial") (sp_Trial___enter__ K) (sp_Trial___exit__ K) q j to (fun E9 => (tCall (sp__law_led K) [] E0 (tCons (tVar i0) (tCons (tVar j) (tCons (tVar i6) (tCons (tC (.int 2)) tNil)))))) (fun _ => E0) σ H Q := by
  have nta : t ≠ a := fun z => nt (by rw [z]; simp)
  refine hto _ ⟨tb, fun c' H2 eN tb2 hc => ?_⟩
  have k2 : ExK K [m, g, a, p, t] H H2 := .of_n tb2 eN
  have nil : ∀ x : Addr, x ∉ ([] : List Addr) := fun x => by simp
  have k2n : ExK K [] H H2 := .of_n tb2 eN
  have ht2 := ht.k k2n (nil _)
  have ha2 := ha.k k2n (nil _)
  have hp2 := hp.k k2n (nil _)
  have d2 := d.k k2n (nil _) (nil _) (nil _)
  obtain ⟨dxt, xp, xl, hti, _⟩ := id ht2
  refine ⟨t, dxt, _, rfl, hti, t, a, pp, pl, h, rfl, ht2, ha2, nta, fun H3 x3 b3 tr3 ha3 => ?_⟩
  have ntc : c' ≠ t := fun z => by
    rw [z, hti] at hc
    exact nomatch hc
  have b3' : ExS [t] H2 H3 := ExS.ofB b3 (by simp)
  have k3 : ExK K [t] H2 H3 := .of tb2 x3 b3' (fun b hb => by rw [List.mem_singleton.mp hb]; exact NoT.tr ht2)
  have ne : ∀ {x : Addr}, x ∈ [m, c, g, a, p] → x ∉ [t] := fun {x} hx z => nt (by rw [← List.mem_singleton.mp z]; exact hx)
  have d3 := d2.k k3 (ne (by simp)) (ne (by simp)) (ne (by simp))
  have hp3 := hp2.k k3 (ne (by simp))
  refine ⟨b3 _ _ ntc hc, ?_⟩
  have g0 : (σ.set j (some (.ref a)))[i0]? = some (some (.ref m)) := by rw [List.getElem?_set_ne (Ne.symm n0)]; exact s.at2 h0
  have g6 : (σ.set j (some (.ref a)))[i6]? = some (some (.ref p)) := by rw [List.getElem?_set_ne (Ne.symm n6)]; exact s.at2 h6
  have gj : (σ.set j (some (.ref a)))[j]? = some (some (.ref a)) := List.getElem?_set_self (by rw [s.len]; exact hj)
  refine ⟨.ref m, g0, .ref a, gj, .ref p, g6, m, c, g, n, a, p, h, 2, rfl, d3, ha3, hp3, ap, ok, m5, by omega, by omega, fun H4 n4 h4 l4 u4 L4 hk4 hm4 ok4 hl4 => ?_⟩
  have K4 : LedK K m c g a p n4 h4 H3 H4 := .of k3.tb d3 ha3 hp3 L4
  have tr4 : TrAt K H4 t a h.past h.later := tr3.k K4.k (fun z => nt (by simp at z; rcases z with z | z | z | z <;> simp [z]))
  refine ⟨t, a, h.past, h.later, h4, .non, .non, .non, rfl, tr4, K4.a, nta, fun H5 T5 => ?_⟩
  have k5 : ExK K [a] H4 H5 := .of K4.k.tb T5.1 (ExS.ofB T5.2.1 (by simp)) (fun b hb => by rw [List.mem_singleton.mp hb]; exact NoT.hs K4.a)
  have d5 := K4.d.k k5 (by simp [Ne.symm ap.am]) (by simp [Ne.symm ap.ac]) (by simp [Ne.symm ap.ag])
  have eh : ({ h4 with past := h.past, later := h.later } : Hs) = h := by
    show Hs.mk h4.k h4.m h.past h.later = h
    rw [hk4, hm4]
  have a5 := T5.2.2
  rw [eh] at a5
  refine k H5 n4 l4 (by omega) (((k2.trans (k3.mono (by simp))).trans (K4.k.mono (by intro x hx; simp at hx ⊢; rcases hx with z | z | z | z <;> simp [z]))).trans (k5.mono (by simp))) d5 a5
end W9
set_option maxHeartbeats 4000000
/-! inner -/
namespace W9
open PySem PySem.Spec PyProof.Rows L2 LamX
variable {K : PySem.W.Frag} {vs : List V} {H : Hp} {Q : VK} {E : XK}
theorem s_asgX {te : TE} {i : Nat} {D : Ends} {σ : L2.St} (h : te σ H fun x H' => D.nx (σ.set i (some x)) H') : tAsg te (gName i) D σ H := h
theorem s_twin {i j : Nat} {o : Addr} {h : Hs} {D : Ends} {σ : L2.St} (ho : σ[j]? = some (some (.ref o))) (x : OwAt H o h) (k : ∀ p H', H p = none → Ex H H' → OwAt H' p h → D.nx (σ.set i (some (.ref p))) H') : tAsg (tCall (sp__law_twin_of K) [] E (tCons (tVar j) tNil)) (gName i) D σ H := ⟨.ref o, ho, o, h, rfl, x, k⟩
theorem tAsgX {te : TE} {i : Nat} {D : Ends} {σ : L2.St} {H : Hp} (h : te σ H fun x H' => D.nx (σ.set i (some x)) H') : tAsg te (gName i) D σ H := h
theorem seq_go {te : TE} {i : Nat} {tw : TS} {D D' : Ends} {σ : L2.St} {H : Hp} (h : te σ H fun x H' => tw D (σ.set i (some x)) H') : Ends.nx { D' with nx := tSeq (tAsg te (gName i)) tw D } σ H := h
theorem ExK.thenNew {l l' : List Addr} {H H1 H2 : Hp} (a : ExK K l H H1) (b : ExK K l' H1 H2) (h : ∀ x ∈ l', x ∈ l ∨ H x = none) : ExK K l H H2 := ⟨a.t.trans b.t, fun y o ny nt q => b.s y o (fun z => by
  rcases h y z with w | w
  · exact ny w
  · rw [w] at q
    cases q) nt (a.s y o ny nt q), b.tb⟩
theorem rd__law_inner (h : sp__law_inner K vs H Q E) : t__law_inner K E (Dn Q) (L2.start N__law_inner vs) H := by
  obtain ⟨m, c, g, a, o, L, n, w, h, rfl, dr0, ha, ho, hL, tb, ap, nL, ok, m5, h26, hn, w4, q0, q1, q3⟩ := h
  have s := sl_start (N := N__law_inner) (l := [dr m, dr L, dr a, dn w]) (vs := [.ref m, .ref L, .ref a, .int (w : Int)]) (H := H) (.cons (.leaf _) (.cons (.leaf _) (.cons (.leaf _) (.cons (.leaf _) .nil)))) (Nat.le_of_ble_eq_true rfl)
  refine s_seq (s_asg (P := fun H' => LedAt H' L a o) (d := dr o) (pu_dget (pu_var rfl) fun H p => ⟨_, .ref o, p, rfl, .leaf _⟩) s hL fun σ1 H1 e1 s1 => ?_)
  have s1' : Sl σ1 H1 [some (dr m), some (dr L), some (dr a), some (dn w), some (dr o), none, none, none] := s1
  have tb1 := tb.ext e1
  have dr1 := dr0.ext e1
  have ha1 := ha.ext e1
  have ho1 := ho.ext e1
  refine s_seq ⟨.ref m, s1'.at2 rfl, .ref a, s1'.at2 rfl, .ref o, s1'.at2 rfl, m, c, g, n, a, o, h, 2, rfl, dr1, ha1, ho1, ap, ok, m5, by omega, by omega, fun H2 n2 h2 l2 u2 L2 hk2 hm2 ok2 hl2 => ⟨true, rfl, ?_⟩⟩
  have K2 : LedK K m c g a o n2 h2 H H2 := ⟨(ExK.of_ex tb e1).trans (LedK.of tb1 dr1 ha1 ho1 L2).k, L2.2.2.1, L2.2.2.2.1, L2.2.2.2.2⟩
  have hL2 : LedAt H2 L a o := hL.k K2.k nL
  have s2 := s1'.ext L2.1
  have m52 : h2.m ≤ 5 := by rw [hm2]; exact m5
  refine ⟨.ref L, s1'.at2 rfl, L, .ref a, rfl, DGet.k (k := .inr "house") hL2, .ref o, s1'.at2 rfl, a, o, h2, rfl, K2.a, K2.o, ok2, m52, fun H3 e3 => ⟨true, rfl, (if_neg (show ¬((!true) = true) by decide)).mpr (s_next ?_)⟩⟩
  have K3 := K2.ex e3
  have s3 := s2.ext e3.t
  have tst : ∀ (j : Nat) (b : Bool) {Γ : Cxt}, Γ[3]? = some (some (dn w)) → decide (w = j) = b → PuT (tTest (tOp (rEq9 K) (tVar 3) (tC (.int (j : Int))))) Γ (fun _ => True) b := fun j b Γ hg hb => pt_test (Pu.is (pu_op (pu_var hg) pu_c rv_eqI) (by rw [← hb]; exact congrArg db (dec_n w j)))
  have meth : ∀ {H' : Hp} {h' : Hs} {m : Str}, HsAt K H' a h' → (m == ("own_kind" : Str)) = false ∧ (m == ("own_many" : Str)) = false ∧ (m == ("past" : Str)) = false ∧ (m == ("later" : Str)) = false → ∃ dx fs, H' a = some (.ins (He.ga K "House") dx fs) ∧ fs.lookup m = none := fun x hm => hs_no x hm
  by_cases w1 : w = 1
  · refine s_seq (s_ifT (P := fun _ => True) (tst 1 true rfl (decide_eq_true w1)) s3 trivial fun H4 e4 => ?_)
    have K4 := K3.ex e4
    obtain ⟨dx, fs, hi1, hi2⟩ := meth (m := "do") K4.a (by decide)
    refine ⟨.ref a, (s3.ext e4.t).at2 rfl, a, dx, fs, rfl, hi1, hi2, a, h2, 99, 0, rfl, K4.a, ok2, fun j hj hjm => absurd hjm (by omega), fun _ H5 d e5 => ?_⟩
    exact q1 w1 H5 n2 h2 d l2 (by omega) (K4.ex e5) hk2 hm2
  refine s_seq (s_ifF (P := fun _ => True) (tst 1 false rfl (decide_eq_false w1)) s3 trivial fun H4 e4 => s_next ?_)
  have K4 := K3.ex e4
  have s4 := s3.ext e4.t
  by_cases w3 : w = 3
  · refine s_seq (s_ifT (P := fun _ => True) (tst 3 true rfl (decide_eq_true w3)) s4 trivial fun H5 e5 => ?_)
    have K5 := K4.ex e5
    have hL5 : LedAt H5 L a o := hL.k K5.k nL
    refine ⟨.ref L, (s4.ext e5.t).at2 rfl, L, none, rfl, DGet.k (k := .inr "none") hL5, fun v hv => (nomatch hv), fun _ d => ?_⟩
    exact q3 w3 H5 n2 h2 d l2 (by omega) K5 hk2 hm2
  refine s_seq (s_ifF (P := fun _ => True) (tst 3 false rfl (decide_eq_false w3)) s4 trivial fun H5 e5 => s_next ?_)
  have K5 := K4.ex e5
  have s5 := s4.ext e5.t
  by_cases w2 : w = 2
  · refine s_seq (s_ifT (P := fun _ => True) (tst 2 true rfl (decide_eq_true w2)) s5 trivial fun H6 e6 => ?_)
    have K6 := K5.ex e6
    have s6 := s5.ext e6.t
    refine s_seq (s_twin (s6.at2 rfl) K6.o fun p H7 hp e7 op => ?_)
    have K7 := K6.ex e7
    have s7 := (s6.ext e7.t).set (x := .ref p) (d := dr p) (.leaf _) 6
    obtain ⟨dx, fs, hi1, hi2⟩ := meth (m := "trial") K7.a (by decide)
    have pm : p ≠ m ∧ p ≠ c ∧ p ≠ g := DrAt.nmg' K6.d hp
    have pa : a ≠ p := fun z => by obtain ⟨o', k1, _⟩ := NoT.hs K6.a; rw [z, hp] at k1; cases k1
    have po : o ≠ p := fun z => by obtain ⟨o', k1, _⟩ := NoT.ow K6.o; rw [z, hp] at k1; cases k1
    have app : Apart m c g a p := ⟨pm.1, pm.2.1, pm.2.2, ap.am, ap.ac, ap.ag, pa⟩
    refine seq_go ?_
    refine ⟨.ref a, s7.at2 rfl, a, dx, fs, rfl, hi1, hi2, a, h2, rfl, K7.a, fun t H8 ht e8 tr8 => ?_⟩
    have K8 := K7.ex e8
    have op8 := op.ext e8
    have s8 := s7.ext e8.t
    have tm : t ≠ m ∧ t ≠ c ∧ t ≠ g := DrAt.nmg' K7.d ht
    have ta : t ≠ a := fun z => by obtain ⟨o', k1, _⟩ := NoT.hs K7.a; rw [← z, ht] at k1; cases k1
    have to' : t ≠ o := fun z => by obtain ⟨o', k1, _⟩ := NoT.ow K7.o; rw [← z, ht] at k1; cases k1
    have tp : t ≠ p := fun z => by obtain ⟨o', k1, _⟩ := NoT.ow op; rw [← z, ht] at k1; cases k1
    refine under_led (i0 := 0) (i6 := 6) (to := fun _ H R => R (.ref t) H) (H := H8) (fun _ h => h) s8 (by show 7 < 8; decide) rfl rfl (by decide) (by decide) K8.k.tb K8.d K8.a op8 tr8 app (by simp [tm.1, tm.2.1, tm.2.2, ta, tp]) ok2 m52 (by omega) (by omega) (fun R r => r) fun H9 n9 l9 u9 k9 d9 a9 => ?_
    have o9 : OwAt H9 o h2 := K8.o.k k9 (by simp [ap.om, ap.og, Ne.symm ap.ao, po, Ne.symm to'])
    have s9 := (s8.ext k9.t).set (x := .bl true) (d := db true) (.leaf _) 5
    have k69 : ExK K [m, g, a] _ H9 := ExK.thenNew (ExK.of_ex K6.k.tb (e7.trans e8)) k9 fun x hx => by
      simp only [List.mem_cons, List.not_mem_nil, or_false] at hx
      rcases hx with rfl | rfl | rfl | rfl | rfl
      · exact .inl (by simp)
      · exact .inl (by simp)
      · exact .inl (by simp)
      · exact .inr hp
      · exact .inr (e7.free ht)
    refine ⟨.bl true, by obtain ⟨y, h1, h2⟩ := s9.at_ 5 (db true) rfl; rw [h1, h2.v_eq], true, rfl, .ref a, s9.at2 rfl, .ref o, s9.at2 rfl, a, o, h2, rfl, a9, o9, ok2, m52, fun H10 e10 => ⟨true, rfl, (if_neg (show ¬((!true) = true) by decide)).mpr (s_next ?_)⟩⟩
    have K9 : LedK K m c g a o n9 h2 H H9 := ⟨K6.k.trans (k69.mono (by intro x hx; simp at hx ⊢; rcases hx with z | z | z <;> simp [z])), d9, a9, o9⟩
    exact q0 (.inr w2) H10 n9 h2 (by omega) (by omega) (K9.ex e10) hk2 hm2
  refine s_seq (s_ifF (P := fun _ => True) (tst 2 false rfl (decide_eq_false w2)) s5 trivial fun H6 e6 => s_next ?_)
  have K6 := K5.ex e6
  exact q0 (by omega) H6 n2 h2 l2 (by omega) K6 hk2 hm2
end W9
set_option maxHeartbeats 4000000
/-! tried -/
namespace W9
open PySem PySem.Spec PyProof.Rows L2 LamX
variable {K : PySem.W.Frag} {mg : Str → Option Value} {vs : List V} {H : Hp} {Q : VK} {E : XK}
/-- under(a trial, inner): the house is back behind it, whatever came -/
theorem under_inner {q : Str} {to : TE} {σ : L2.St} {Γ : Cxt} {W : WX} {m c g a p t L : Addr} {n w : Nat} {h : Hs} {pp pl : List Stp} (s : Sl σ H Γ) (hj : 6 < Γ.length) (h0 : Γ[0]? = some (some (dr m))) (h5 : Γ[5]? = some (some (dr L))) (h3 : Γ[3]? = some (some (dn w)))
    (tb : Tabs (Tt K) H) (d : DrAt H m c g n) (ha : HsAt K H a h) (hp : OwAt H p h) (hL : LedAt H L a p) (ht : TrAt K H t a pp pl) (ap : Apart m c g a p) (nL : L ∉ [m, g, a, p]) (nLt : L ≠ t) (nt : t ∉ [m, c, g, a, p]) (ok : h.Ok) (m5 : h.m ≤ 5) (h26 : h.past.length + h.later.length + 4 ≤ 30) (hn : n + 16 ≤ 5000) (w4 : w < 4)
    (hto : ∀ R : VK, R (.ref t) H → to σ H R)
    (k0 : w = 0 ∨ w = 2 → ∀ H' n', n ≤ n' → n' ≤ n + 16 → ExK K [m, g, a, p, t] H H' → DrAt H' m c g n' → HsAt K H' a h → Q (.str "right") H')
    (k1 : w = 1 → ∀ H' n' d, n ≤ n' → n' ≤ n + 16 → ExK K [m, g, a, p, t] H H' → DrAt H' m c g n' → HsAt K H' a h → W (.ref (He.ga K "BadCopy")) d σ H')
    (k3 : w = 3 → ∀ H' n' d, n ≤ n' → n' ≤ n + 16 → ExK K [m, g, a, p, t] H H' → DrAt H' m c g n' → HsAt K H' a h → W (.type "KeyError") d σ H') :
    tUS (Tt K) (He.ga K "Trial") (sp_Trial___enter__ K) (sp_Trial___exit__ K) q 6 to (fun E9 => (tCall (sp__law_inner K) [] E9 (tCons (tVar 0) (tCons (tVar 5) (tCons (tVar 6) (tCons (tVar 3) tNil)))))) (WE W) σ H Q := by
  have nta : t ≠ a := fun z => nt (by rw [z]; simp)
  refine hto _ ⟨tb, fun c' H2 eN tb2 hc => ?_⟩
  have k2 : ExK K [m, g, a, p, t] H H2 := .of_n tb2 eN
  have nil : ∀ x : Addr, x ∉ ([] : List Addr) := fun x => by simp
  have k2n : ExK K [] H H2 := .of_n tb2 eN
  have ht2 := ht.k k2n (nil _)
  have ha2 := ha.k k2n (nil _)
  have hp2 := hp.k k2n (nil _)
  have hL2 := hL.k k2n (nil _)
  have d2 := d.k k2n (nil _) (nil _) (nil _)
  obtain ⟨dxt, xp, xl, hti, _⟩ := id ht2
  refine ⟨t, dxt, _, rfl, hti, t, a, pp, pl, h, rfl, ht2, ha2, nta, fun H3 x3 b3 tr3 ha3 => ?_⟩
  have ntc : c' ≠ t := fun z => by
    rw [z, hti] at hc
    exact nomatch hc
  have k3' : ExK K [t] H2 H3 := .of tb2 x3 (ExS.ofB b3 (by simp)) (fun b hb => by rw [List.mem_singleton.mp hb]; exact NoT.tr ht2)
  have ne : ∀ {x : Addr}, x ∈ [m, c, g, a, p] → x ∉ [t] := fun {x} hx z => nt (by rw [← List.mem_singleton.mp z]; exact hx)
  have d3 := d2.k k3' (ne (by simp)) (ne (by simp)) (ne (by simp))
  have hp3 := hp2.k k3' (ne (by simp))
  have hL3 := hL2.k k3' (by simp [nLt])
  refine ⟨b3 _ _ ntc hc, ?_⟩
  have g0 : (σ.set 6 (some (.ref a)))[0]? = some (some (.ref m)) := by rw [List.getElem?_set_ne (by decide)]; exact s.at2 h0
  have g5 : (σ.set 6 (some (.ref a)))[5]? = some (some (.ref L)) := by rw [List.getElem?_set_ne (by decide)]; exact s.at2 h5
  have g3 : (σ.set 6 (some (.ref a)))[3]? = some (some (.int (w : Int))) := by
    rw [List.getElem?_set_ne (by decide)]
    obtain ⟨y, h1, h2⟩ := s.at_ 3 _ h3
    rw [h1, h2.v_eq]
  have gj : (σ.set 6 (some (.ref a)))[6]? = some (some (.ref a)) := List.getElem?_set_self (by rw [s.len]; exact hj)
  -- behind inner, ahead of the exit
  have back : ∀ {H4 n4 h4 R} {x y z : V}, LedK K m c g a p n4 h4 H3 H4 → h4.k = h.k → h4.m = h.m → (∀ H5, ExK K [m, g, a, p, t] H H5 → DrAt H5 m c g n4 → HsAt K H5 a h → R .non H5) → sp_Trial___exit__ K [.ref t, x, y, z] H4 R E0 := by
    intro H4 n4 h4 R x y z K4 hk4 hm4 kk
    have tr4 : TrAt K H4 t a h.past h.later := tr3.k K4.k (fun z => nt (by simp at z; rcases z with z | z | z | z <;> simp [z]))
    refine ⟨t, a, h.past, h.later, h4, x, y, z, rfl, tr4, K4.a, nta, fun H5 T5 => ?_⟩
    have k5 : ExK K [a] H4 H5 := .of K4.k.tb T5.1 (ExS.ofB T5.2.1 (by simp)) (fun b hb => by rw [List.mem_singleton.mp hb]; exact NoT.hs K4.a)
    have d5 := K4.d.k k5 (by simp [Ne.symm ap.am]) (by simp [Ne.symm ap.ac]) (by simp [Ne.symm ap.ag])
    have eh : ({ h4 with past := h.past, later := h.later } : Hs) = h := by
      show Hs.mk h4.k h4.m h.past h.later = h
      rw [hk4, hm4]
    have a5 := T5.2.2
    rw [eh] at a5
    exact kk H5 (((k2.trans (k3'.mono (by simp))).trans (K4.k.mono (by intro x hx; simp at hx ⊢; rcases hx with z | z | z | z <;> simp [z]))).trans (k5.mono (by simp))) d5 a5
  refine ⟨.ref m, g0, .ref L, g5, .ref a, gj, .int (w : Int), g3, m, c, g, a, p, L, n, w, h, rfl, d3, ha3, hp3, hL3, k3'.tb, ap, nL, ok, m5, h26, hn, w4, fun hw H4 n4 h4 l4 u4 K4 hk4 hm4 => ?_, fun hw H4 n4 h4 dd l4 u4 K4 hk4 hm4 => ⟨.ref (He.ga K "BadCopy"), rfl, fun e tv he => ?_⟩, fun hw H4 n4 h4 dd l4 u4 K4 hk4 hm4 => ⟨.ty "KeyError", rfl, fun e tv he => ?_⟩⟩
  · exact back K4 hk4 hm4 fun H5 k5 d5 a5 => k0 hw H5 n4 l4 u4 k5 d5 a5
  · exact back K4 hk4 hm4 fun H5 k5 d5 a5 => ⟨rfl, k1 hw H5 n4 dd l4 u4 k5 d5 a5⟩
  · exact back K4 hk4 hm4 fun H5 k5 d5 a5 => ⟨rfl, k3 hw H5 n4 dd l4 u4 k5 d5 a5⟩
theorem rd__law_tried (T : Txt K mg) (h : sp__law_tried K vs H Q E) : t__law_tried K E (Dn Q) (L2.start N__law_tried vs) H := by
  obtain ⟨m, c, g, a, o, n, w, h, rfl, dr0, ha, ho, tb, ap, ok, m5, h26, hn, w4, q⟩ := h
  have s := sl_start (N := N__law_tried) (l := [dr m, dr a, dr o, dn w]) (vs := [.ref m, .ref a, .ref o, .int (w : Int)]) (H := H) (.cons (.leaf _) (.cons (.leaf _) (.cons (.leaf _) (.cons (.leaf _) .nil)))) (Nat.le_of_ble_eq_true rfl)
  refine s_seq fun L hL => ?_
  have e0 : Ex H (upd H L (.dK [])) := ex_new hL
  refine ⟨.ref a, rfl, .ref o, rfl, o, h, rfl, ho.ext e0, fun p H1 hp e1 op => ⟨e1 _ _ upd_same, [(.inr "house", .ref a), (.inr "inner", .ref p)], rfl, by show 2 ≤ 15; decide, ?_⟩⟩
  have hp0 : H p = none := e0.free hp
  have npL : p ≠ L := fun z => by rw [z, upd_same] at hp; cases hp
  have e2 : Ex H (upd H1 L (.dK (mergeK [] [(.inr "house", .ref a), (.inr "inner", .ref p)]))) := ex_mut (e0.trans e1) hL
  have hL2 : LedAt (upd H1 L (.dK (mergeK [] [(.inr "house", .ref a), (.inr "inner", .ref p)]))) L a p := by
    show upd H1 L _ L = _
    rw [upd_same]
    rfl
  have op2 : OwAt (upd H1 L (.dK (mergeK [] [(.inr "house", .ref a), (.inr "inner", .ref p)]))) p h := op.keep (fun u z => by rw [upd_ne npL]; exact z) (ext_mut (e1 _ _ upd_same) fun _ z => nomatch z)
  revert e2 hL2 op2
  generalize (upd H1 L (.dK (mergeK [] [(.inr "house", .ref a), (.inr "inner", .ref p)]))) = H2
  intro e2 hL2 op2
  have s2 := ((s.ext e2.t).set (x := .ref L) (d := dr L) (.leaf _) 5).set (x := .str "none") (d := ds "none") (.leaf _) 4
  have ha2 := ha.ext e2
  obtain ⟨dx, fs, hi1, hi2⟩ := hs_meth (m := "trial") ha2
  refine seq_go (σ := (L2.start N__law_tried [.ref m, .ref a, .ref o, .int (w : Int)]).set 5 (some (.ref L))) ?_
  refine ⟨.ref a, s2.at2 rfl, a, dx, fs, rfl, hi1, hi2, a, h, rfl, ha2, fun t H3 ht e3 tr3 => ?_⟩
  have pm := DrAt.nmg' dr0 hp0
  have pa : a ≠ p := fun z => by obtain ⟨o', k1, _⟩ := NoT.hs ha; rw [z, hp0] at k1; cases k1
  have app : Apart m c g a p := ⟨pm.1, pm.2.1, pm.2.2, ap.am, ap.ac, ap.ag, pa⟩
  have Lm := DrAt.nmg' dr0 hL
  have La : L ≠ a := fun z => by obtain ⟨o', k1, _⟩ := NoT.hs ha; rw [← z, hL] at k1; cases k1
  have d2 := dr0.ext e2
  have tm := DrAt.nmg' d2 ht
  have ta : t ≠ a := fun z => by obtain ⟨o', k1, _⟩ := NoT.hs ha2; rw [← z, ht] at k1; cases k1
  have tp : t ≠ p := fun z => by obtain ⟨o', k1, _⟩ := NoT.ow op2; rw [← z, ht] at k1; cases k1
  have tL : L ≠ t := fun z => by rw [← z, show H2 L = _ from hL2] at ht; cases ht
  have fin : ∀ (x : Str) (H4 : Hp) (n' : Nat) (σ' : L2.St), ([ds "right", ds "raised", ds "right", ds "lost"] : List Dt)[w]? = some (ds x) → n ≤ n' → n' ≤ n + 16 → ExK K [m, g, a, p, t] H3 H4 → DrAt H4 m c g n' → HsAt K H4 a h → Sl σ' H4 [some (dr m), some (dr a), some (dr o), some (dn w), some (ds x), some (dr L), none] →
      tRet (tAndV (tOp (rEq9 K) (tVar 4) (tOp (rIx K) (tLst (tCons (tC (.str "right")) (tCons (tC (.str "raised")) (tCons (tC (.str "right")) (tCons (tC (.str "lost")) tNil))))) (tVar 3))) (tCall (sp__law_stands K) [] E0 (tCons (tVar 1) (tCons (tVar 2) tNil)))) (Dn Q) σ' H4 := by
    intro x H4 n' σ' hx l4 u4 k4 d4 a4 s4
    have ho3 : OwAt H3 o h := (ho.ext e2).ext e3
    have no : o ∉ [m, g, a, p, t] := by
      have op' : o ≠ p := fun z => by obtain ⟨o', k1, _⟩ := NoT.ow ho; rw [z, hp0] at k1; cases k1
      have ot : o ≠ t := fun z => by obtain ⟨o', k1, _⟩ := NoT.ow (ho.ext e2); rw [z, ht] at k1; cases k1
      simp [ap.om, ap.og, Ne.symm ap.ao, op', ot]
    have o4 := ho3.k k4 no
    refine (pu_op (P := fun _ => True) (pu_var rfl) (pu_ixN (pl_lst (pa_c pu_c (pa_c pu_c (pa_c pu_c (pa_c pu_c pa_n)))) (by simp)) (pu_var rfl) (atI_n hx)) rv_eqS) σ' H4 s4 trivial _ fun z H5 e5 hz => ⟨true, hz.v_eq.trans (by rw [decide_eq_true rfl]), ?_⟩
    refine (if_pos rfl).mpr ?_
    refine ⟨.ref a, s4.at2 rfl, .ref o, s4.at2 rfl, a, o, h, rfl, a4.ext e5, o4.ext e5, ok, m5, fun H6 e6 => ?_⟩
    have k04 : ExK K [m, g, a] H H4 := ExK.thenNew (ExK.of_ex tb (e2.trans e3)) k4 fun x hx => by
      simp only [List.mem_cons, List.not_mem_nil, or_false] at hx
      rcases hx with rfl | rfl | rfl | rfl | rfl
      · exact .inl (by simp)
      · exact .inl (by simp)
      · exact .inl (by simp)
      · exact .inr hp0
      · exact .inr (e2.free ht)
    have e56 := e5.trans e6
    exact q H6 n' l4 u4 (k04.trans ((ExK.of_ex k4.tb e56))) (d4.ext e56) (a4.ext e56)
  refine under_inner (to := fun _ H R => R (.ref t) H) (s2.ext e3.t) (by show 6 < 7; decide) rfl rfl rfl ((tb.ext e2).ext e3) (d2.ext e3) (ha2.ext e3) (op2.ext e3) (e3 _ _ hL2) tr3 app (by simp [Lm.1, Lm.2.2, La, Ne.symm npL]) tL (by simp [tm.1, tm.2.1, tm.2.2, ta, tp]) ok m5 h26 hn w4 (fun R r => r) ?_ ?_ ?_
  · intro hw H4 n' l4 u4 k4 d4 a4
    have s4 := ((s2.ext e3.t).ext k4.t).set (x := .str "right") (d := ds "right") (.leaf _) 4
    refine fin "right" H4 n' _ ?_ l4 u4 k4 d4 a4 (s4.lessL ⟨rfl, rfl, rfl, rfl, rfl, rfl, trivial⟩)
    rcases hw with rfl | rfl <;> rfl
  · intro hw H4 n' dd l4 u4 k4 d4 a4
    have s4 := ((s2.ext e3.t).ext k4.t).set (x := .str "raised") (d := ds "raised") (.leaf _) 4
    exact ⟨true, T.x_BB, fun _ b hb => fin "raised" H4 n' _ (by rw [hw]; rfl) l4 u4 k4 d4 a4 (s4.lessL ⟨rfl, rfl, rfl, rfl, rfl, rfl, trivial⟩), fun z => nomatch z⟩
  · intro hw H4 n' dd l4 u4 k4 d4 a4
    have s4 := ((s2.ext e3.t).ext k4.t).set (x := .str "lost") (d := ds "lost") (.leaf _) 4
    exact ⟨false, T.x_KB, (fun z => nomatch z), fun _ => ⟨true, T.x_KK, fun _ b hb => fin "lost" H4 n' _ (by rw [hw]; rfl) l4 u4 k4 d4 a4 (s4.lessL ⟨rfl, rfl, rfl, rfl, rfl, rfl, trivial⟩), fun z => nomatch z⟩⟩
end W9
set_option maxHeartbeats 4000000
/-! == and != of houses -/
namespace W9
open PySem PySem.Spec PyProof.Rows L2 LamX
variable {K : PySem.W.Frag} {mg : Str → Option Value} {vs : List V} {H : Hp} {Q : VK} {E : XK}
theorem nf_self (C : Addr) : PySem.W.notFirst K C (.ref C) = true := by
  unfold PySem.W.notFirst
  simp
theorem nf_tup (C : Addr) : PySem.W.notFirst K C (.type "tuple") = true := by
  unfold PySem.W.notFirst
  rfl
theorem nf_int (C : Addr) : PySem.W.notFirst K C (.type "int") = true := by
  unfold PySem.W.notFirst
  rfl
theorem nf_non (C : Addr) : PySem.W.notFirst K C (.type "NoneType") = true := by
  unfold PySem.W.notFirst
  rfl
noncomputable def eqH (h h' : Hs) : Bool := decide (kdD h.k = kdD h'.k) && (decide (h.m = h'.m) && decide (stepsD h.past = stepsD h'.past))
theorem eq_hs (T : Txt K mg) {a b : Addr} {h h' : Hs} (ha : HsAt K H a h) (hb : HsAt K H b h') (ok : h.Ok) (ok' : h'.Ok) (k : ∀ H', Ex H H' → Q (.bl (eqH h h')) H') : rEqO K (He.ga K "House") (sp_House___eq__ K) (.ref a) (.ref b) H Q := by
  obtain ⟨dx, xk, xp, xl, h1, _⟩ := id ha
  obtain ⟨dy, yk, yp, yl, h2, _⟩ := id hb
  exact ⟨a, dx, _, .ref (He.ga K "House"), rfl, h1, .base (.ins h2 T.c_House T.cl_House T.cg_ T.ct_ T.mo_House), nf_self _, a, h, .ref b, rfl, ha, ok, .inl ⟨b, h', rfl, hb, ok', k⟩⟩
theorem ne_hs (T : Txt K mg) {a b : Addr} {h h' : Hs} (ha : HsAt K H a h) (hb : HsAt K H b h') (ok : h.Ok) (ok' : h'.Ok) (k : ∀ H', Ex H H' → Q (.bl (!eqH h h')) H') : rNeO K (He.ga K "House") (sp_House___eq__ K) (.ref a) (.ref b) H Q := by
  obtain ⟨dx, xk, xp, xl, h1, _⟩ := id ha
  obtain ⟨dy, yk, yp, yl, h2, _⟩ := id hb
  exact ⟨a, dx, _, .ref (He.ga K "House"), rfl, h1, .base (.ins h2 T.c_House T.cl_House T.cg_ T.ct_ T.mo_House), nf_self _, a, h, .ref b, rfl, ha, ok, .inl ⟨b, h', rfl, hb, ok', fun H' e => ⟨_, rfl, k H' e⟩⟩⟩
theorem eqH_t {h h' : Hs} (k : h.k = h'.k) (m : h.m = h'.m) (p : h.past = h'.past) : eqH h h' = true := by
  unfold eqH
  rw [k, m, p, decide_eq_true rfl, decide_eq_true rfl, decide_eq_true rfl]
  rfl
theorem eqH_k {h h' : Hs} (k : kdD h.k ≠ kdD h'.k) : eqH h h' = false := by
  unfold eqH
  rw [decide_eq_false k]
  rfl
theorem eqH_m {h h' : Hs} (m : h.m ≠ h'.m) : eqH h h' = false := by
  unfold eqH
  rw [decide_eq_false m, Bool.false_and, Bool.and_false]
theorem eqH_p {h h' : Hs} (p : stepsD h.past ≠ stepsD h'.past) : eqH h h' = false := by
  unfold eqH
  rw [decide_eq_false p, Bool.and_false, Bool.and_false]
theorem eqH_same {h h' : Hs} (k : h.k = h'.k) (m : h.m = h'.m) : eqH h h' = decide (stepsD h.past = stepsD h'.past) := by
  unfold eqH
  rw [k, m, decide_eq_true rfl, decide_eq_true rfl, Bool.true_and, Bool.true_and]
section
variable {Γ : Cxt} {P P1 P2 R : Hp → Prop} {te ta tb to : TE} {tr : TA} {d e : Dt} {l m : List Dt} {D : Ends} {σ : L2.St} {a b c p : Addr} {h h' ha hb hc : Hs} {i : Nat}
theorem pu_eqH (T : Txt K mg) (hx : Pu ta Γ P (dr a)) [Stb P] (hy : Pu tb Γ P (dr b)) (hP : ∀ H, P H → HsAt K H a h ∧ HsAt K H b h') (ok : h.Ok) (ok' : h'.Ok) : Pu (tOp (rEqO K (He.ga K "House") (sp_House___eq__ K)) ta tb) Γ P (db (eqH h h')) := fun σ H s p Q q =>
  hx σ H s p _ fun x H1 e1 x1 => hy σ H1 (s.ext e1.t) (Stb.ext e1 p) _ fun y H2 e2 x2 => by
    cases x1.v_eq
    cases x2.v_eq
    have z := hP H2 (Stb.ext (e1.trans e2) p)
    exact eq_hs T z.1 z.2 ok ok' fun H3 e3 => q _ H3 ((e1.trans e2).trans e3) (.leaf _)
theorem pu_neH (T : Txt K mg) (hx : Pu ta Γ P (dr a)) [Stb P] (hy : Pu tb Γ P (dr b)) (hP : ∀ H, P H → HsAt K H a h ∧ HsAt K H b h') (ok : h.Ok) (ok' : h'.Ok) : Pu (tOp (rNeO K (He.ga K "House") (sp_House___eq__ K)) ta tb) Γ P (db (!eqH h h')) := fun σ H s p Q q =>
  hx σ H s p _ fun x H1 e1 x1 => hy σ H1 (s.ext e1.t) (Stb.ext e1 p) _ fun y H2 e2 x2 => by
    cases x1.v_eq
    cases x2.v_eq
    have z := hP H2 (Stb.ext (e1.trans e2) p)
    exact ne_hs T z.1 z.2 ok ok' fun H3 e3 => q _ H3 ((e1.trans e2).trans e3) (.leaf _)
/-- .. with a house made for it -/
theorem pu_eqN (T : Txt K mg) (hx : Pu ta Γ P (dr a)) [Stb P] (hy : PuN tb Γ P fun b H => HsAt K H b h') (hP : ∀ H, P H → HsAt K H a h) (ok : h.Ok) (ok' : h'.Ok) : Pu (tOp (rEqO K (He.ga K "House") (sp_House___eq__ K)) ta tb) Γ P (db (eqH h h')) := fun σ H s p Q q =>
  hx σ H s p _ fun x H1 e1 x1 => hy σ H1 (s.ext e1.t) (Stb.ext e1 p) _ fun b H2 hb e2 x2 => by
    cases x1.v_eq
    exact eq_hs T (hP H2 (Stb.ext (e1.trans e2) p)) x2 ok ok' fun H3 e3 => q _ H3 ((e1.trans e2).trans e3) (.leaf _)
theorem pu_neN (T : Txt K mg) (hx : Pu ta Γ P (dr a)) [Stb P] (hy : PuN tb Γ P fun b H => HsAt K H b h') (hP : ∀ H, P H → HsAt K H a h) (ok : h.Ok) (ok' : h'.Ok) : Pu (tOp (rNeO K (He.ga K "House") (sp_House___eq__ K)) ta tb) Γ P (db (!eqH h h')) := fun σ H s p Q q =>
  hx σ H s p _ fun x H1 e1 x1 => hy σ H1 (s.ext e1.t) (Stb.ext e1 p) _ fun b H2 hb e2 x2 => by
    cases x1.v_eq
    exact ne_hs T (hP H2 (Stb.ext (e1.trans e2) p)) x2 ok ok' fun H3 e3 => q _ H3 ((e1.trans e2).trans e3) (.leaf _)
/-- a house and what is no house -/
theorem pu_eqX (T : Txt K mg) (hx : Pu ta Γ P (dr a)) [Stb P] (hy : Pu tb Γ P d) (hP : ∀ H, P H → HsAt K H a h) (ok : h.Ok) (ht : tyN d = "tuple" ∨ tyN d = "int" ∨ tyN d = "NoneType") (hp : d.pl = true) : Pu (tOp (rEqO K (He.ga K "House") (sp_House___eq__ K)) ta tb) Γ P (db false) := fun σ H s p Q q =>
  hx σ H s p _ fun x H1 e1 x1 => hy σ H1 (s.ext e1.t) (Stb.ext e1 p) _ fun y H2 e2 x2 => by
    cases x1.v_eq
    have z := hP H2 (Stb.ext (e1.trans e2) p)
    obtain ⟨dx, xk, xp, xl, h1, _⟩ := id z
    refine ⟨a, dx, _, .type (tyN d), rfl, h1, ty_td x2 hp, ?_, a, h, y, rfl, z, ok, .inr ⟨⟨d, x2, ht, hp⟩, fun H3 e3 => q _ H3 ((e1.trans e2).trans e3) (.leaf _)⟩⟩
    rcases ht with w | w | w <;> rw [w]
    · exact nf_tup _
    · exact nf_int _
    · exact nf_non _
/-! ### what an expression gives that changes what it finds -/
def PX (te : TE) (Γ : Cxt) (P R : Hp → Prop) (d : Dt) : Prop := ∀ (σ : L2.St) (H : Hp), Sl σ H Γ → P H → ∀ Q : VK, (∀ x H', ExT H H' → TD H' x d → R H' → Q x H') → te σ H Q
def PXA (ta : TA) (Γ : Cxt) (P R : Hp → Prop) (l : List Dt) : Prop := ∀ (σ : L2.St) (H : Hp), Sl σ H Γ → P H → ∀ Q : List V → Hp → Prop, (∀ xs H', ExT H H' → TDs H' xs l → R H' → Q xs H') → ta σ H Q
def PXL (te : TE) (Γ : Cxt) (P R : Hp → Prop) (l : List Dt) : Prop := ∀ (σ : L2.St) (H : Hp), Sl σ H Γ → P H → ∀ Q : VK, (∀ p H', ExT H H' → LstAt H' p l → R H' → Q (.ref p) H') → te σ H Q
theorem px_pu [Stb P] (h : Pu te Γ P d) (q : d = e) : PX te Γ P P e := fun σ H s p Q k => h σ H s p Q fun x H' e1 t => k x H' e1.t (q ▸ t) (Stb.ext e1 p)
theorem PX.is (h : PX te Γ P R d) (q : d = e) : PX te Γ P R e := q ▸ h
theorem pxa_n : PXA tNil Γ P P [] := fun σ H s p Q q => q [] H (ExT.refl H) .nil p
theorem pxa_c (h : PX te Γ P P1 d) (hr : PXA tr Γ P1 P2 l) : PXA (tCons te tr) Γ P P2 (d :: l) := fun σ H s p Q q =>
  h σ H s p _ fun x H1 e1 h1 p1 => hr σ H1 (s.ext e1) p1 _ fun xs H2 e2 h2 p2 => q _ H2 (e1.trans e2) (.cons (h1.ext e2) h2) p2
theorem pxl_lst [Stb P1] (h : PXA tr Γ P P1 l) (hz : l.length ≤ 100000 := by first | decide | (simp; omega)) : PXL (tLst tr) Γ P P1 l := fun σ H s p Q q =>
  h σ H s p _ fun xs H1 e1 h1 p1 => ⟨by rw [h1.length]; exact sz_n hz, fun a ha => q _ _ (e1.trans (ex_new ha).t) ⟨xs, upd_same, h1.ext (ex_new ha).t⟩ (Stb.ext (ex_new ha) p1)⟩
theorem pxl_cat (hx : Pu ta Γ P (dr p)) [Stb P] [Stb P1] (hy : PXL tb Γ P P1 m) (hP : ∀ H, P1 H → LstAt H p l) (hz : l.length + m.length ≤ 100000 := by first | decide | (simp; omega)) : PXL (tOp (rAdd9 K) ta tb) Γ P P1 (l ++ m) := fun σ H s q0 Q q =>
  hx σ H s q0 _ fun x H1 e1 x1 => hy σ H1 (s.ext e1.t) (Stb.ext e1 q0) _ fun b H2 e2 lb p1 => by
    obtain ⟨xs, k1, k2⟩ := hP H2 p1
    obtain ⟨ys, k3, k4⟩ := lb
    exact .inr ⟨p, b, xs, ys, x1.v_eq, rfl, k1, k3, by rw [k2.length, k4.length]; exact sz_n hz, fun r hr => q r _ ((Ex.t e1).trans (e2.trans (ex_new hr).t)) ⟨_, upd_same, (k2.append k4).ext (ex_new hr).t⟩ (Stb.ext (ex_new hr) p1)⟩
theorem pl_cat (hx : Pu ta Γ P (dr p)) [Stb P] (hy : PuL tb Γ P m) (hP : ∀ H, P H → LstAt H p l) (hz : l.length + m.length ≤ 100000 := by first | decide | (simp; omega)) : PuL (tOp (rAdd9 K) ta tb) Γ P (l ++ m) := fun σ H s q0 Q q =>
  hx σ H s q0 _ fun x H1 e1 x1 => hy σ H1 (s.ext e1.t) (Stb.ext e1 q0) _ fun b H2 hb e2 lb => by
    have e12 := e1.trans e2
    obtain ⟨xs, k1, k2⟩ := hP H2 (Stb.ext e12 q0)
    obtain ⟨ys, k3, k4⟩ := lb
    exact .inr ⟨p, b, xs, ys, x1.v_eq, rfl, k1, k3, by rw [k2.length, k4.length]; exact sz_n hz, fun r hr => q r _ (e12.free hr) (e12.trans (ex_new hr)) ⟨_, upd_same, (k2.append k4).ext (ex_new hr).t⟩⟩
theorem s_asgPX (hx : PXL te Γ P P1 l) (s : Sl σ H Γ) (q0 : P H) (k : ∀ a σ' H', ExT H H' → LstAt H' a l → P1 H' → Sl σ' H' (Γ.set i (some (dr a))) → D.nx σ' H') : tAsg te (gName i) D σ H :=
  hx σ H s q0 _ fun a H1 e1 h1 p1 => k a _ H1 e1 h1 p1 ((s.ext e1).set (.leaf _) i)
/-! ### three houses, and what else is told -/
structure S3 (K : PySem.W.Frag) (a b c : Addr) (ha hb hc : Hs) (R : Hp → Prop) (H : Hp) : Prop where
  a : HsAt K H a ha
  b : HsAt K H b hb
  c : HsAt K H c hc
  t : Tabs (Tt K) H
  r : R H
class StbK (K : PySem.W.Frag) (ls : List Addr) (R : Hp → Prop) : Prop where
  keep : ∀ {H H' : Hp}, ExK K ls H H' → R H → R H'
instance {ls : List Addr} : StbK K ls (fun _ => True) := ⟨fun _ _ => trivial⟩
theorem stbK_L {ls : List Addr} (n : p ∉ ls) : StbK K ls (fun H => LstAt H p l) := ⟨fun e x => by
  obtain ⟨xs, h1, h2⟩ := x
  exact ⟨xs, e.s _ _ n (fun _ z => nomatch z) h1, h2.ext e.t⟩⟩
instance [StbK K [a, b, c] R] : Stb (S3 K a b c ha hb hc R) := ⟨fun e x => ⟨x.a.ext e, x.b.ext e, x.c.ext e, x.t.ext e, StbK.keep (ls := [a, b, c]) (K := K) (ExK.of_ex x.t e) x.r⟩⟩
structure Nd3 (a b c : Addr) : Prop where
  ab : a ≠ b
  ac : a ≠ c
  bc : b ≠ c
theorem exK_turn {H' : Hp} (t : Tabs (Tt K) H) (x : HsAt K H a h) (e : Turned K a h' H H') : ExK K [a] H H' := .of t e.1 (ExS.ofB e.2.1 (by simp)) (fun y hy => by rw [List.mem_singleton.mp hy]; exact NoT.hs x)
theorem S3.keepA {H' : Hp} (nd : Nd3 a b c) [StbK K [a, b, c] R] (x : S3 K a b c ha hb hc R H) (k : ExK K [a] H H') (a' : HsAt K H' a h') : S3 K a b c h' hb hc R H' :=
  ⟨a', x.b.k k (by simp [Ne.symm nd.ab]), x.c.k k (by simp [Ne.symm nd.ac]), k.tb, StbK.keep (ls := [a, b, c]) (k.mono (by simp)) x.r⟩
theorem S3.turnA {H' : Hp} (nd : Nd3 a b c) [StbK K [a, b, c] R] (x : S3 K a b c ha hb hc R H) (t : Turned K a h' H H') : S3 K a b c h' hb hc R H' := x.keepA nd (exK_turn x.t x.a t) t.2.2
theorem S3.turnB {H' : Hp} (nd : Nd3 a b c) [StbK K [a, b, c] R] (x : S3 K a b c ha hb hc R H) (t : Turned K b h' H H') : S3 K a b c ha h' hc R H' := by
  have k := exK_turn x.t x.b t
  exact ⟨x.a.k k (by simp [nd.ab]), t.2.2, x.c.k k (by simp [Ne.symm nd.bc]), k.tb, StbK.keep (ls := [a, b, c]) (k.mono (by simp)) x.r⟩
theorem S3.turnC {H' : Hp} (nd : Nd3 a b c) [StbK K [a, b, c] R] (x : S3 K a b c ha hb hc R H) (t : Turned K c h' H H') : S3 K a b c ha hb h' R H' := by
  have k := exK_turn x.t x.c t
  exact ⟨x.a.k k (by simp [nd.ac]), x.b.k k (by simp [nd.bc]), t.2.2, k.tb, StbK.keep (ls := [a, b, c]) (k.mono (by simp)) x.r⟩
theorem S3.with {R' : Hp → Prop} (x : S3 K a b c ha hb hc R H) (r : R' H) : S3 K a b c ha hb hc R' H := ⟨x.a, x.b, x.c, x.t, r⟩
theorem HsAt.ne_l (x : HsAt K H a h) (y : LstAt H p l) : p ≠ a := fun z => by
  obtain ⟨dx, xk, xp, xl, h1, _⟩ := x
  obtain ⟨xs, h2, _⟩ := y
  rw [z, h1] at h2
  cases h2
theorem S3.nl (x : S3 K a b c ha hb hc R H) (y : LstAt H p l) : p ∉ [a, b, c] := by
  simp [x.a.ne_l y, x.b.ne_l y, x.c.ne_l y]
/-- a method of a house that turns it -/
theorem px_undo (hx : Pu te Γ P (dr a)) [Stb P] (hP : ∀ H, P H → HsAt K H a h) (ok : h.Ok) (ht : ∀ H H', P H → Turned K a h.back H H' → R H') {b : Bool} (eb : (!h.past.isEmpty) = b) : PX (tMeth (He.ga K "House") "undo" (sp_House_undo K) [] E te tNil) Γ P R (db b) := fun σ H s q0 Q q =>
  hx σ H s q0 _ fun x H1 e1 x1 => by
    cases x1.v_eq
    have p1 := Stb.ext e1 q0
    obtain ⟨dx, fs, h1, h2⟩ := hs_meth (m := "undo") (hP H1 p1)
    subst eb
    exact ⟨a, dx, fs, rfl, h1, h2, a, h, rfl, hP H1 p1, ok, fun H2 t => q _ H2 ((Ex.t e1).trans t.1) (.leaf _) (ht H1 H2 p1 t)⟩
theorem px_redo (hx : Pu te Γ P (dr a)) [Stb P] (hP : ∀ H, P H → HsAt K H a h) (ok : h.Ok) (ht : ∀ H H', P H → Turned K a h.on H H' → R H') {b : Bool} (eb : (!h.later.isEmpty) = b) : PX (tMeth (He.ga K "House") "redo" (sp_House_redo K) [] E te tNil) Γ P R (db b) := fun σ H s q0 Q q =>
  hx σ H s q0 _ fun x H1 e1 x1 => by
    cases x1.v_eq
    have p1 := Stb.ext e1 q0
    obtain ⟨dx, fs, h1, h2⟩ := hs_meth (m := "redo") (hP H1 p1)
    subst eb
    exact ⟨a, dx, fs, rfl, h1, h2, a, h, rfl, hP H1 p1, ok, fun H2 t => q _ H2 ((Ex.t e1).trans t.1) (.leaf _) (ht H1 H2 p1 t)⟩
theorem px_hear01 (hx : Pu te Γ P (dr a)) [Stb P] (hP : ∀ H, P H → HsAt K H a h) (ok : h.Ok) (m2 : 1 < h.m) (hl : h.past.length < 30) (ht : ∀ H H', P H → Turned K a (h.did (.hear 0 1)) H H' → R H') (ed : shownD (h.did (.hear 0 1)) 0 = d) : PX (tMeth (He.ga K "House") "hear" (sp_House_hear K) [] E te (tCons (tC (.int 0)) (tCons (tC (.int 1)) tNil))) Γ P R d := fun σ H s q0 Q q =>
  hx σ H s q0 _ fun x H1 e1 x1 => by
    cases x1.v_eq
    have p1 := Stb.ext e1 q0
    obtain ⟨dx, fs, h1, h2⟩ := hs_meth (m := "hear") (hP H1 p1)
    subst ed
    exact ⟨a, dx, fs, rfl, h1, h2, a, h, 0, 1, rfl, hP H1 p1, ok, by omega, m2, by decide, hl, fun z H2 t tz => q _ H2 ((Ex.t e1).trans t.1) tz (ht H1 H2 p1 t)⟩
/-- under(one.trial(), lambda held: held.do(1, 0)) -/
theorem px_under {q : Str} (nd : Nd3 a b c) [StbK K [a, b, c] R] (hi : Γ[2]? = some (some (dr a))) (hl : 8 < Γ.length) (ok : ha.Ok) (m2 : 1 < ha.m) (hu : 0 < ha.k.ups.length) (h30 : ha.past.length < 30) (ed : shownD (ha.did (.act 1 0)) 1 = d) :
    PX (tUS (Tt K) (He.ga K "Trial") (sp_Trial___enter__ K) (sp_Trial___exit__ K) q 8 (tMeth (He.ga K "House") "trial" (sp_House_trial K) [] E0 (tVar 2) tNil) (fun E9 => (tMeth (He.ga K "House") "do" (sp_House_do K) [] E9 (tVar 8) (tCons (tC (.int 1)) (tCons (tC (.int 0)) tNil)))) (fun _ => E0)) Γ (S3 K a b c ha hb hc R) (S3 K a b c ha hb hc R) d := by
  intro σ H s p Q k
  obtain ⟨dx, fs, hi1, hi2⟩ := hs_meth (m := "trial") p.a
  refine ⟨.ref a, s.at2 hi, a, dx, fs, rfl, hi1, hi2, a, ha, rfl, p.a, fun t H1 ht e1 tr1 => ?_⟩
  have tb1 := p.t.ext e1
  refine ⟨tb1, fun c' H2 eN tb2 hc => ?_⟩
  have k2 : ExK K [] H1 H2 := .of_n tb2 eN
  have nta : t ≠ a := fun z => by
    rw [z, hi1] at ht
    cases ht
  have tr2 := tr1.k k2 (by simp)
  have a2 := (p.a.ext e1).k k2 (by simp)
  obtain ⟨dxt, xp, xl, hti, _⟩ := id tr2
  refine ⟨t, dxt, _, rfl, hti, t, a, [], [], ha, rfl, tr2, a2, nta, fun H3 x3 b3 tr3 a3 => ?_⟩
  have ntc : c' ≠ t := fun z => by
    rw [z, hti] at hc
    exact nomatch hc
  have k3 : ExK K [t] H2 H3 := .of tb2 x3 (ExS.ofB b3 (by simp)) (fun y hy => by rw [List.mem_singleton.mp hy]; exact NoT.tr tr2)
  refine ⟨b3 _ _ ntc hc, ?_⟩
  have gj : (σ.set 8 (some (.ref a)))[8]? = some (some (.ref a)) := List.getElem?_set_self (by rw [s.len]; exact hl)
  obtain ⟨dx3, fs3, j1, j2⟩ := hs_meth (m := "do") a3
  refine ⟨.ref a, gj, a, dx3, fs3, rfl, j1, j2, a, ha, (1 : Int), 0, rfl, a3, ok, fun j hj hm => ?_, fun hn => absurd ⟨by decide, by omega⟩ hn⟩
  have ej : j = 1 := by omega
  subst ej
  refine ⟨hu, h30, fun z H4 t4 hz => ?_⟩
  have k4 := exK_turn k3.tb a3 t4
  have tr4 := tr3.k k4 (by simp [nta])
  refine ⟨t, a, ha.past, ha.later, _, .non, .non, .non, rfl, tr4, t4.2.2, nta, fun H5 t5 => ?_⟩
  have k5 := exK_turn k4.tb t4.2.2 t5
  have a5 : HsAt K H5 a ha := t5.2.2
  have kk : ExK K [a] H H5 := ExK.thenNew (ExK.of_ex p.t e1) ((((k2.mono (by simp)).trans (k3.mono (by simp))).trans (k4.mono (by simp))).trans (k5.mono (by simp)) : ExK K [a, t] H1 H5) fun x hx => by
    simp only [List.mem_cons, List.not_mem_nil, or_false] at hx
    rcases hx with rfl | rfl
    · exact .inl (by simp)
    · exact .inr ht
  exact k z H5 kk.t (ed ▸ hz.ext t5.1) (p.keepA nd kk a5)
end
end W9
set_option maxHeartbeats 4000000
/-! hand_right -/
namespace W9
open PySem PySem.Spec PyProof.Rows L2 LamX
variable {K : PySem.W.Frag} {mg : Str → Option Value} {vs : List V} {H : Hp} {Q : VK} {E : XK}
def kF : Kd := ⟨0, [[1, 1]], [[0, 1], [1, 1]], [0, 1]⟩
def kG : Kd := ⟨0, [[1, 1]], [[0, 1], [1, 1]], [1, 0]⟩
theorem kF_ok : kF.Ok := ⟨by decide, by decide, by decide, by decide, by decide, by decide, by simp [kF, RowOk], by decide, by simp [kF, RowOk]⟩
theorem kG_ok : kG.Ok := ⟨by decide, by decide, by decide, by decide, by decide, by decide, by simp [kG, RowOk], by decide, by simp [kG, RowOk]⟩
def hF (m : Nat) (p l : List Stp) : Hs := ⟨kF, m, p, l⟩
theorem hF_ok {m : Nat} (h1 : 2 ≤ m) (h2 : m ≤ 16) {p l : List Stp} (hp : ∀ s ∈ p, s = .act 0 0 ∨ s = .hear 0 1) (hl : ∀ s ∈ l, s = .act 0 0 ∨ s = .hear 0 1) (hs : p.length + l.length ≤ 30) : (hF m p l).Ok := by
  have key : ∀ s : Stp, s = .act 0 0 ∨ s = .hear 0 1 → s.Ok kF m := fun s z => by
    rcases z with rfl | rfl
    · exact ⟨by omega, by decide⟩
    · exact ⟨by omega, by omega, by decide⟩
  exact ⟨kF_ok, by show 1 ≤ m; omega, h2, fun s z => key s (hp s z), fun s z => key s (hl s z), hs⟩
theorem HsAt.ne_n {a b : Addr} {h : Hs} (x : HsAt K H a h) (n : H b = none) : a ≠ b := fun z => by
  obtain ⟨dx, xk, xp, xl, h1, _⟩ := x
  rw [z, n] at h1
  cases h1
theorem go_seq {tu tw : TS} {D D' : Ends} {σ : L2.St} (h : tu { D with nx := tw D } σ H) : Ends.nx { D' with nx := tSeq tu tw D } σ H := h
/-- three new objects at once -/
theorem s_par3N {Γ : Cxt} {P : Hp → Prop} [Stb P] {t1 t2 t3 : TE} {R1 R2 R3 : Addr → Hp → Prop} {D : Ends} {σ : L2.St} {i j l : Nat} (h1 : PuN t1 Γ P R1) (h2 : PuN t2 Γ P R2) (h3 : PuN t3 Γ P R3) (s : Sl σ H Γ) (p : P H)
    (k : ∀ x y z H1 H2 H3, H x = none → Ex H H1 → R1 x H1 → H1 y = none → Ex H1 H2 → R2 y H2 → H2 z = none → Ex H2 H3 → R3 z H3 → D.nx (((σ.set i (some (.ref x))).set j (some (.ref y))).set l (some (.ref z))) H3) :
    tPar3 i j l (tCons t1 (tCons t2 (tCons t3 tNil))) D σ H :=
  h1 σ H s p _ fun x H1 n1 e1 r1 => h2 σ H1 (s.ext e1.t) (Stb.ext e1 p) _ fun y H2 n2 e2 r2 => h3 σ H2 ((s.ext e1.t).ext e2.t) (Stb.ext e2 (Stb.ext e1 p)) _ fun z H3 n3 e3 r3 => ⟨_, _, _, rfl, k x y z H1 H2 H3 n1 e1 r1 n2 e2 r2 n3 e3 r3⟩
theorem rd__law_hand_right (T : Txt K mg) (h : sp__law_hand_right K vs H Q E) : t__law_hand_right K (Dn Q) (L2.start N__law_hand_right vs) H := by
  obtain ⟨rfl, tb, q⟩ := h
  have s := sl_start (N := N__law_hand_right) (l := []) (vs := []) (H := H) .nil (Nat.zero_le _)
  have kd : ∀ (x y : Int) {Γ : Cxt}, Pu (tTup (tCons (tC (.int 0)) (tCons (tTup (tCons (tTup (tCons (tC (.int 1)) (tCons (tC (.int 1)) tNil))) tNil)) (tCons (tTup (tCons (tTup (tCons (tC (.int 0)) (tCons (tC (.int 1)) tNil))) (tCons (tTup (tCons (tC (.int 1)) (tCons (tC (.int 1)) tNil))) tNil))) (tCons (tTup (tCons (tC (.int x)) (tCons (tC (.int y)) tNil))) tNil))))) Γ (fun _ => True) (.tup [di 0, .tup [.tup [di 1, di 1]], .tup [.tup [di 0, di 1], .tup [di 1, di 1]], .tup [di x, di y]]) := fun x y Γ =>
    have two : ∀ (i j : Int) {Γ : Cxt}, Pu (tTup (tCons (tC (.int i)) (tCons (tC (.int j)) tNil))) Γ (fun _ => True) (.tup [di i, di j]) := fun i j Γ => pu_tup (pa_c pu_c (pa_c pu_c pa_n)) (by simp)
    pu_tup (pa_c pu_c (pa_c (pu_tup (pa_c (two 1 1) pa_n) (by simp)) (pa_c (pu_tup (pa_c (two 0 1) (pa_c (two 1 1) pa_n)) (by simp)) (pa_c (two x y) pa_n)))) (by simp)
  refine s_seq (s_unp (P := fun _ => True) (is := [0, 1]) (l := [kdD kF, kdD kG]) (pu_tup (l := [kdD kF, kdD kG]) (pa_c (kd 0 1) (pa_c (kd 1 0) pa_n)) (by simp)) s trivial rfl rfl fun σ1 H1 e1 s1 => ?_)
  have s1' : Sl σ1 H1 [some (kdD kF), some (kdD kG), none, none, none, none, none, none, none] := s1
  have mkH : ∀ {Γ : Cxt} {P : Hp → Prop} [Stb P] (i m : Nat) (k : Kd), k.Ok → 1 ≤ m → m ≤ 16 → Γ[i]? = some (some (kdD k)) → PuN (tMake (He.ga K "House") (sp_House___init__ K) [] E0 (tCons (tVar i) (tCons (tC (.int (m : Int))) tNil))) Γ P (fun b H => HsAt K H b ⟨k, m, [], []⟩) := fun i m k ok h1 h2 hg => pn_house (pa_c (pu_var hg) (pa_c pu_c pa_n)) ok h1 h2
  refine go_seq (s_par3N (P := fun _ => True) (mkH 0 2 kF kF_ok (by decide) (by decide) rfl) (mkH 0 3 kF kF_ok (by decide) (by decide) rfl) (mkH 0 2 kF kF_ok (by decide) (by decide) rfl) s1' trivial fun a c b H2 H3 H4 na e2 ra nc e3 rc nb e4 rb => ?_)
  have ra4 := (ra.ext e3).ext e4
  have rc4 := rc.ext e4
  have nd : Nd3 a b c := ⟨(ra.ext e3).ne_n nb, ra.ne_n nc, Ne.symm (rc.ne_n nb)⟩
  have x4 : S3 K a b c (hF 2 [] []) (hF 2 [] []) (hF 3 [] []) (fun _ => True) H4 := ⟨ra4, rb, rc4, ((((tb.ext e1).ext e2).ext e3).ext e4), trivial⟩
  have s4 : Sl _ H4 [some (kdD kF), some (kdD kG), some (dr a), some (dr c), some (dr b), none, none, none, none] := (((((s1'.ext e2.t).ext e3.t).ext e4.t).set (x := .ref a) (d := dr a) (.leaf _) 2).set (x := .ref c) (d := dr c) (.leaf _) 3).set (x := .ref b) (d := dr b) (.leaf _) 4
  have nil : ∀ s ∈ ([] : List Stp), s = .act 0 0 ∨ s = .hear 0 1 := fun s z => nomatch z
  have oA : ∀ s ∈ [Stp.act 0 0], s = .act 0 0 ∨ s = .hear 0 1 := fun s z => .inl (List.mem_singleton.mp z)
  have oH : ∀ s ∈ [Stp.hear 0 1], s = .act 0 0 ∨ s = .hear 0 1 := fun s z => .inr (List.mem_singleton.mp z)
  have ok0 : (hF 2 [] []).Ok := hF_ok (by decide) (by decide) nil nil (by decide)
  have ok3 : (hF 3 [] []).Ok := hF_ok (by decide) (by decide) nil nil (by decide)
  have okP : (hF 2 [.act 0 0] []).Ok := hF_ok (by decide) (by decide) oA nil (by decide)
  have okL : (hF 2 [] [.act 0 0]).Ok := hF_ok (by decide) (by decide) nil oA (by decide)
  have okHP : (hF 2 [.hear 0 1] []).Ok := hF_ok (by decide) (by decide) oH nil (by decide)
  have okHL : (hF 2 [] [.hear 0 1]).Ok := hF_ok (by decide) (by decide) nil oH (by decide)
  have okG : (Hs.mk kG 2 [] []).Ok := ⟨kG_ok, by decide, by decide, (fun s z => nomatch z), (fun s z => nomatch z), by decide⟩
  obtain ⟨dx, fs, i1, i2⟩ := hs_meth (m := "do") x4.b
  refine go_seq ⟨.ref b, s4.at2 rfl, b, dx, fs, rfl, i1, i2, b, hF 2 [] [], 0, 0, rfl, x4.b, ok0, fun j hj hjm => ⟨by decide, by decide, fun z H5 t5 hz => ?_⟩, fun hn => absurd ⟨by decide, by decide⟩ hn⟩
  have ej : j = 0 := by omega
  subst ej
  have x5 : S3 K a b c (hF 2 [] []) (hF 2 [.act 0 0] []) (hF 3 [] []) (fun _ => True) H5 := x4.turnB nd t5
  have s5 := s4.ext t5.1
  have nPd : stepsD [] ≠ stepsD [.act 0 0] := fun z => by cases z
  have nHd : stepsD [.hear 0 1] ≠ stepsD [.act 0 0] := fun z => by
    have z1 := Dt.tup.inj z
    have z2 := (List.cons.inj z1).1
    have z3 := (List.cons.inj (Dt.tup.inj z2)).1
    have z4 := V.str.inj (Dt.v.inj z3)
    exact absurd z4 (by decide)
  have nKd : kdD kF ≠ kdD kG := fun z => by
    have z1 := Dt.tup.inj z
    have z2 := (List.cons.inj (List.cons.inj (List.cons.inj (List.cons.inj z1).2).2).2).1
    have z3 := (List.cons.inj (Dt.tup.inj z2)).1
    have z4 := V.int.inj (Dt.v.inj z3)
    exact absurd z4 (by decide)
  -- the first answers
  refine go_seq (s_asgPX (l := [db false, db false, db false, db true, db true]) (P := S3 K a b c (hF 2 [] []) (hF 2 [.act 0 0] []) (hF 3 [] []) (fun _ => True)) (P1 := S3 K a b c (hF 2 [] []) (hF 2 [] [.act 0 0]) (hF 3 [] []) (fun _ => True))
    (pxl_lst (pxa_c (px_pu (pu_eqH T (pu_var rfl) (pu_var rfl) (fun _ x => ⟨x.a, x.c⟩) ok0 ok3) (congrArg db (eqH_m (by decide))))
      (pxa_c (px_pu (pu_eqN T (pu_var rfl) (mkH 1 2 kG kG_ok (by decide) (by decide) rfl) (fun _ x => x.a) ok0 okG) (congrArg db (eqH_k nKd)))
      (pxa_c (px_pu (pu_eqH T (pu_var rfl) (pu_var rfl) (fun _ x => ⟨x.a, x.b⟩) ok0 okP) (congrArg db (eqH_p nPd)))
      (pxa_c (px_undo (pu_var rfl) (fun _ x => x.b) okP (fun _ _ x t => x.turnB nd t) rfl)
      (pxa_c (px_pu (pu_eqH T (pu_var rfl) (pu_var rfl) (fun _ x => ⟨x.a, x.b⟩) ok0 okL) (congrArg db (eqH_t rfl rfl rfl))) pxa_n)))))) s5 x5 fun p5 σ6 H6 e6 l6 x6 s6 => ?_)
  -- the copy
  haveI : StbK K [a, b, c] (fun H => LstAt H p5 [db false, db false, db false, db true, db true]) := stbK_L (x6.nl l6)
  obtain ⟨dx, fs, i1, i2⟩ := hs_meth (m := "copy") x6.b
  refine go_seq ⟨.ref b, s6.at2 rfl, b, dx, fs, rfl, i1, i2, b, hF 2 [] [.act 0 0], rfl, x6.b, okL, fun d H7 hd e7 hd7 => ?_⟩
  have nd7 : Nd3 a b d := ⟨nd.ab, x6.a.ne_n hd, x6.b.ne_n hd⟩
  have x7 : S3 K a b d (hF 2 [] []) (hF 2 [] [.act 0 0]) (hF 2 [] [.act 0 0]) (fun _ => True) H7 := ⟨x6.a.ext e7, x6.b.ext e7, hd7, x6.t.ext e7, trivial⟩
  have l7 := l6.ext e7
  have x7' := x7.with (R' := fun H => LstAt H p5 [db false, db false, db false, db true, db true]) l7
  haveI : StbK K [a, b, d] (fun H => LstAt H p5 [db false, db false, db false, db true, db true]) := stbK_L (x7.nl l7)
  have s7 := (s6.ext e7.t).set (x := .ref d) (d := dr d) (.leaf _) 6
  -- more answers
  refine go_seq (s_asgPX (l := [db false, db false, db false, db true, db true] ++ [db true, db false, db true, db true, db true]) (P := S3 K a b d (hF 2 [] []) (hF 2 [] [.act 0 0]) (hF 2 [] [.act 0 0]) (fun H => LstAt H p5 [db false, db false, db false, db true, db true])) (P1 := S3 K a b d (hF 2 [] []) (hF 2 [.act 0 0] []) (hF 2 [.act 0 0] []) (fun H => LstAt H p5 [db false, db false, db false, db true, db true]))
    (pxl_cat (pu_var rfl) (pxl_lst (pxa_c (px_redo (R := S3 K a b d (hF 2 [] []) (hF 2 [] [.act 0 0]) (hF 2 [.act 0 0] []) (fun H => LstAt H p5 [db false, db false, db false, db true, db true])) (pu_var rfl) (fun _ x => x.c) okL (fun _ _ x t => x.turnC nd7 t) rfl)
      (pxa_c (px_redo (R := S3 K a b d (hF 2 [] []) (hF 2 [] [.act 0 0]) (hF 2 [.act 0 0] []) (fun H => LstAt H p5 [db false, db false, db false, db true, db true])) (pu_var rfl) (fun _ x => x.c) okP (fun _ _ x t => x.turnC nd7 t) rfl)
      (pxa_c (px_pu (pu_eqH T (pu_var rfl) (pu_var rfl) (fun _ x => ⟨x.b, x.a⟩) okL ok0) (congrArg db (eqH_t rfl rfl rfl)))
      (pxa_c (px_redo (R := S3 K a b d (hF 2 [] []) (hF 2 [.act 0 0] []) (hF 2 [.act 0 0] []) (fun H => LstAt H p5 [db false, db false, db false, db true, db true])) (pu_var rfl) (fun _ x => x.b) okL (fun _ _ x t => x.turnB nd7 t) rfl)
      (pxa_c (px_pu (pu_eqH T (pu_var rfl) (pu_var rfl) (fun _ x => ⟨x.c, x.b⟩) okP okP) (congrArg db (eqH_t rfl rfl rfl))) pxa_n)))))) (fun _ x => x.r)) s7 x7' fun p8 σ8 H8 e8 l8 x8 s8 => ?_)
  have x8' := x8.with (R' := fun H => LstAt H p8 ([db false, db false, db false, db true, db true] ++ [db true, db false, db true, db true, db true])) l8
  haveI : StbK K [a, b, d] (fun H => LstAt H p8 ([db false, db false, db false, db true, db true] ++ [db true, db false, db true, db true, db true])) := stbK_L (x8.nl l8)
  let L8 : List Dt := [db false, db false, db false, db true, db true] ++ [db true, db false, db true, db true, db true]
  refine go_seq (s_asgPX (l := L8 ++ [di 0, db false, db true, db true]) (P := S3 K a b d (hF 2 [] []) (hF 2 [.act 0 0] []) (hF 2 [.act 0 0] []) (fun H => LstAt H p8 L8)) (P1 := S3 K a b d (hF 2 [] [.hear 0 1]) (hF 2 [.act 0 0] []) (hF 2 [.act 0 0] []) (fun H => LstAt H p8 L8))
    (pxl_cat (pu_var rfl) (pxl_lst (pxa_c (px_hear01 (R := S3 K a b d (hF 2 [.hear 0 1] []) (hF 2 [.act 0 0] []) (hF 2 [.act 0 0] []) (fun H => LstAt H p8 L8)) (pu_var rfl) (fun _ x => x.a) ok0 (by decide) (by decide) (fun _ _ x t => x.turnA nd7 t) rfl)
      (pxa_c (px_pu (pu_eqH T (pu_var rfl) (pu_var rfl) (fun _ x => ⟨x.a, x.b⟩) okHP okP) (congrArg db (eqH_p nHd)))
      (pxa_c (px_pu (pu_op (pu_lenH (pu_var rfl) (fun _ x => x.a) okHP) (pu_lenH (pu_var rfl) (fun _ x => x.b) okP) rv_eqI) (congrArg db (decide_eq_true rfl)))
      (pxa_c (px_undo (pu_var rfl) (fun _ x => x.a) okHP (fun _ _ x t => x.turnA nd7 t) rfl) pxa_n))))) (fun _ x => x.r)) s8 x8' fun p9 σ9 H9 e9 l9 x9 s9 => ?_)
  let L9 : List Dt := L8 ++ [di 0, db false, db true, db true]
  have x9' := x9.with (R' := fun H => LstAt H p9 L9) l9
  haveI : StbK K [a, b, d] (fun H => LstAt H p9 L9) := stbK_L (x9.nl l9)
  -- the trial
  obtain ⟨xs9, h91, h92⟩ := id l9
  refine go_seq ⟨.ref p9, s9.at2 rfl, .inl ⟨rfl, xs9, SqL.of h91⟩, px_under nd7 rfl (by show 8 < 9; decide) okHL (by decide) (by decide) (by decide) (rfl : _ = di 1) σ9 H9 s9 x9' _ fun z H10 e10 hz x10 => ?_⟩
  obtain ⟨xs, h1, h2⟩ := x10.r
  have n9 := x10.nl x10.r
  refine ⟨p9, xs, z, rfl, rfl, h1, sz_lt (by rw [h2.length]; decide), ?_⟩
  have et : ExT H10 (upd H10 p9 (.lst (xs ++ [z]))) := ext_mut h1 fun _ z => nomatch z
  have k10 : ExK K [p9] H10 (upd H10 p9 (.lst (xs ++ [z]))) := .of x10.t et (ExS.ofB ExB.upd (by simp)) (fun y hy => by rw [List.mem_singleton.mp hy]; exact ⟨_, h1, (fun _ z => nomatch z), (fun _ _ z => nomatch z)⟩)
  let L10 : List Dt := L9 ++ [di 1]
  have l11 : LstAt (upd H10 p9 (.lst (xs ++ [z]))) p9 L10 := ⟨_, upd_same, (h2.append (.cons hz .nil)).ext et⟩
  have n9' : p9 ≠ a ∧ p9 ≠ b ∧ p9 ≠ d := by simpa using n9
  have x11 : S3 K a b d (hF 2 [] [.hear 0 1]) (hF 2 [.act 0 0] []) (hF 2 [.act 0 0] []) (fun H => LstAt H p9 L10) _ := ⟨x10.a.k k10 (by simp [Ne.symm n9'.1]), x10.b.k k10 (by simp [Ne.symm n9'.2.1]), x10.c.k k10 (by simp [Ne.symm n9'.2.2]), k10.tb, l11⟩
  have s11 := (s9.ext e10).ext et
  revert l11 x11 s11
  generalize (upd H10 p9 (.lst (xs ++ [z]))) = H11
  intro l11 x11 s11
  haveI : StbK K [a, b, d] (fun H => LstAt H p9 L10) := stbK_L (x11.nl l11)
  refine go_seq (s_asgPX (l := L10 ++ [di 0, db true, hisD 2 [.hear 0 1]]) (P := S3 K a b d (hF 2 [] [.hear 0 1]) (hF 2 [.act 0 0] []) (hF 2 [.act 0 0] []) (fun H => LstAt H p9 L10)) (P1 := S3 K a b d (hF 2 [.hear 0 1] []) (hF 2 [.act 0 0] []) (hF 2 [.act 0 0] []) (fun H => LstAt H p9 L10))
    (pxl_cat (pu_var rfl) (pxl_lst (pxa_c (px_pu (pu_lenH (pu_var rfl) (fun _ x => x.a) okHL) rfl)
      (pxa_c (px_redo (R := S3 K a b d (hF 2 [.hear 0 1] []) (hF 2 [.act 0 0] []) (hF 2 [.act 0 0] []) (fun H => LstAt H p9 L10)) (pu_var rfl) (fun _ x => x.a) okHL (fun _ _ x t => x.turnA nd7 t) rfl)
      (pxa_c (px_pu (pu_propH (f := fun h => hisD h.m h.past) (pu_var rfl) (fun _ x => x.a) okHP) rfl) pxa_n)))) (fun _ x => x.r)) s11 x11 fun p12 σ12 H12 e12 l12 x12 s12 => ?_)
  let L12 : List Dt := L10 ++ [di 0, db true, hisD 2 [.hear 0 1]]
  let D14 : List Dt := [db false, db false, db false, db true, db true, db true, db false, db true, db true, db true, di 0, db false, db true, db true]
  refine go_seq (s_asgL (P := fun H => LstAt H p12 L12) (l := D14) (pl_lst (pa_c pu_c (pa_c pu_c (pa_c pu_c (pa_c pu_c (pa_c pu_c (pa_c pu_c (pa_c pu_c (pa_c pu_c (pa_c pu_c (pa_c pu_c (pa_c pu_c (pa_c pu_c (pa_c pu_c (pa_c pu_c pa_n)))))))))))))) (by show 14 ≤ 100000; decide)) s12 l12 fun p13 σ13 H13 h13 e13 l13 s13 => ?_)
  have okd : ∀ x ∈ L12, Okd 5 10000 x := fun x hx => by
    rcases List.mem_append.mp hx with hx | hx
    · rcases List.mem_append.mp hx with hx | hx
      · rcases List.mem_append.mp hx with hx | hx
        · rcases List.mem_append.mp hx with hx | hx <;> simp only [List.mem_cons, List.not_mem_nil, or_false] at hx <;> rcases hx with rfl | rfl | rfl | rfl | rfl <;> exact (okd_b _).mono (by decide) (by decide)
        · simp only [List.mem_cons, List.not_mem_nil, or_false] at hx
          rcases hx with rfl | rfl | rfl | rfl
          · exact (okd_n (n := 0) (by decide)).mono (by decide) (by decide)
          all_goals exact (okd_b _).mono (by decide) (by decide)
      · rw [List.mem_singleton.mp hx]
        exact (okd_n (n := 1) (by decide)).mono (by decide) (by decide)
    · simp only [List.mem_cons, List.not_mem_nil, or_false] at hx
      rcases hx with rfl | rfl | rfl
      · exact (okd_n (n := 0) (by decide)).mono (by decide) (by decide)
      · exact (okd_b _).mono (by decide) (by decide)
      · exact okd_his okHP.his
  refine s_ret (P := fun H => LstAt H p12 L12 ∧ LstAt H p13 D14) (d := db true) (pu_likeN (l := L12) (pu_var rfl) (pl_cat (l := D14) (m := [di 1, di 0, db true, hisD 2 [.hear 0 1]]) (pu_var rfl) (pl_lst (pa_c pu_c (pa_c pu_c (pa_c pu_c (pa_c (pu_tup (l := [di 2, stepsD [.hear 0 1]]) (pa_c pu_c (pa_c (pu_tup (l := [stD (.hear 0 1)]) (pa_c (pu_tup (l := [ds "hear", di 0, di 1]) (pa_c pu_c (pa_c pu_c (pa_c pu_c pa_n))) (by simp)) pa_n) (by simp)) pa_n)) (by simp)) pa_n)))) (by simp)) (fun _ x => x.2) (by decide)) (fun _ x => x.1) (okds okd).1 (rpOk_l okd (n := 18) (by decide) (by decide) (by decide))) s13 ⟨l12.ext e13, l13⟩ fun x H14 e14 h14 => ?_
  rw [h14.v_eq]
  exact q H14
end W9
set_option maxHeartbeats 4000000
/-! law: one turn -/
namespace W9
open PySem PySem.Spec PyProof.Rows L2 LamX
variable {K : PySem.W.Frag} {mg : Str → Option Value} {vs : List V} {H : Hp} {Q : VK} {E : XK}
section
variable {Γ : Cxt} {P : Hp → Prop} {tm tk ti tj tw te : TE} {t u : TT} {tu tv : TS} {R1 R2 : Addr → Hp → Prop} {t1 t2 : TE} {d e : Dt} {D : Ends} {σ : L2.St} {m c g a b o p : Addr} {n B W i j l : Nat} {h h' : Hs} {k : Kd}
theorem pd_any (hm : Pu tm Γ P (dr m)) : PD m c g (tCall (sp__law_any K) [] E (tCons tm tNil)) Γ P 120 (fun d => ∃ k : Kd, k.Ok ∧ d = kdD k) := fun σ H n s p dr hn Q q =>
  hm σ H s p _ fun x H1 e1 x1 => by
    cases x1.v_eq
    exact ⟨m, c, g, n, rfl, dr.ext e1, hn, fun H' n' x k l u t ok hx => q x H' n' _ l u ((DrTo.of e1 dr).trans t) ⟨k, ok, rfl⟩ hx⟩
theorem pn_begin [Stb P] {w : Nat} (hk : Pu tk Γ P (kdD k)) (hw : Pu tw Γ P (dn w)) : PuN (tCall (sp__law_begin_house K) [] E (tCons tk (tCons tw tNil))) Γ P (fun o H => OwAt H o ⟨k, w, [], []⟩) := fun σ H s p Q q =>
  hk σ H s p _ fun x H1 e1 x1 => hw σ H1 (s.ext e1.t) (Stb.ext e1 p) _ fun y H2 e2 x2 => by
    cases x2.v_eq
    exact ⟨x, k, w, rfl, x1.ext e2.t, fun o H' no e3 ow => q o H' ((e1.trans e2).free no) ((e1.trans e2).trans e3) ow⟩
theorem pn_copy [Stb P] (hx : Pu te Γ P (dr a)) (hP : ∀ H, P H → HsAt K H a h) (ok : h.Ok) : PuN (tMeth (He.ga K "House") "copy" (sp_House_copy K) [] E te tNil) Γ P (fun b H => HsAt K H b h) := fun σ H s p Q q =>
  hx σ H s p _ fun x H1 e1 x1 => by
    cases x1.v_eq
    have ha := hP H1 (Stb.ext e1 p)
    obtain ⟨dx, fs, h1, h2⟩ := hs_meth (m := "copy") ha
    exact ⟨a, dx, fs, rfl, h1, h2, a, h, rfl, ha, ok, fun b H2 nb e2 hb => q b H2 (e1.free nb) (e1.trans e2) hb⟩
theorem pn_twin [Stb P] (hx : Pu te Γ P (dr o)) (hP : ∀ H, P H → OwAt H o h) : PuN (tCall (sp__law_twin_of K) [] E (tCons te tNil)) Γ P (fun b H => OwAt H b h) := fun σ H s p Q q =>
  hx σ H s p _ fun x H1 e1 x1 => by
    cases x1.v_eq
    exact ⟨o, h, rfl, hP H1 (Stb.ext e1 p), fun b H2 nb e2 hb => q b H2 (e1.free nb) (e1.trans e2) hb⟩
theorem s_tup2N [Stb P] (h1 : PuN t1 Γ P R1) (h2 : PuN t2 Γ P R2) (s : Sl σ H Γ) (p : P H) (k : ∀ x y H1 H2 H3, H x = none → Ex H H1 → R1 x H1 → H1 y = none → Ex H1 H2 → R2 y H2 → Ex H2 H3 → D.nx ((σ.set i (some (.ref x))).set j (some (.ref y))) H3) :
    tAsg (tTup (tCons t1 (tCons t2 tNil))) (gTup K 2 (gCons (gName i) (gCons (gName j) gNil))) D σ H :=
  h1 σ H s p _ fun x H1 n1 e1 r1 => h2 σ H1 (s.ext e1.t) (Stb.ext e1 p) _ fun y H2 n2 e2 r2 =>
    ⟨sz_n (by show 2 ≤ 100000; decide), fun a ha => ⟨a, _, rfl, SqT.of upd_same, rfl, _, _, rfl, _, _, rfl, rfl, k x y H1 H2 _ n1 e1 r1 n2 e2 r2 (ex_new ha)⟩⟩
theorem s_par2N [Stb P] (h1 : PuN t1 Γ P R1) (h2 : PuN t2 Γ P R2) (s : Sl σ H Γ) (p : P H) (k : ∀ x y H1 H2, H x = none → Ex H H1 → R1 x H1 → H1 y = none → Ex H1 H2 → R2 y H2 → D.nx ((σ.set i (some (.ref x))).set j (some (.ref y))) H2) : tPar i j (tCons t1 (tCons t2 tNil)) D σ H :=
  h1 σ H s p _ fun x H1 n1 e1 r1 => h2 σ H1 (s.ext e1.t) (Stb.ext e1 p) _ fun y H2 n2 e2 r2 => ⟨_, _, rfl, k x y H1 H2 n1 e1 r1 n2 e2 r2⟩
theorem s_ifK (h : t σ H fun b H1 => if b = true then tu D σ H1 else tv D σ H1) : tIfS t tu tv D σ H := h
theorem t_orF {Qb : Bool → Hp → Prop} (hx : PuT t Γ P false) (s : Sl σ H Γ) (p : P H) (k : ∀ H1, Ex H H1 → u σ H1 Qb) : tOr t u σ H Qb := hx σ H s p _ fun H1 e1 => by
  rw [if_neg Bool.false_ne_true]
  exact k H1 e1
theorem pu_stands [Stb P] (hx : Pu ti Γ P (dr a)) (hy : Pu tj Γ P (dr o)) (hP : ∀ H, P H → HsAt K H a h ∧ OwAt H o h) (ok : h.Ok) (m5 : h.m ≤ 5) : Pu (tCall (sp__law_stands K) [] E (tCons ti (tCons tj tNil))) Γ P (db true) := fun σ H s p Q q =>
  hx σ H s p _ fun x H1 e1 x1 => hy σ H1 (s.ext e1.t) (Stb.ext e1 p) _ fun y H2 e2 x2 => by
    cases x1.v_eq
    cases x2.v_eq
    have z := hP H2 (Stb.ext (e1.trans e2) p)
    exact ⟨a, o, h, rfl, z.1, z.2, ok, m5, fun H3 e3 => q _ H3 ((e1.trans e2).trans e3) (.leaf _)⟩
theorem pt_stands [Stb P] (hx : Pu ti Γ P (dr a)) (hy : Pu tj Γ P (dr o)) (hP : ∀ H, P H → HsAt K H a h ∧ OwAt H o h) (ok : h.Ok) (m5 : h.m ≤ 5) : PuT (tNot (tB (tCall (sp__law_stands K) [] E (tCons ti (tCons tj tNil))))) Γ P false := pt_nt (b := true) (pt_B (pu_stands hx hy hP ok m5))
/-- led, with a number of turns that may be drawn -/
theorem t_led {Qb : Bool → Hp → Prop} (hi : Γ[i]? = some (some (dr m))) (hj : Γ[j]? = some (some (dr a))) (hl : Γ[l]? = some (some (dr o))) (hw : PD m c g tw Γ (fun _ => True) B (fun d => ∃ w : Nat, w ≤ W ∧ d = dn w)) (s : Sl σ H Γ) (d : DrAt H m c g n) (ha : HsAt K H a h) (ho : OwAt H o h) (tb : Tabs (Tt K) H) (ap : Apart m c g a o) (ok : h.Ok) (m5 : h.m ≤ 5)
    (sz : h.past.length + h.later.length + W ≤ 30) (hn : n + B + 4 * W ≤ 5000) (k : ∀ H' n' h', n ≤ n' → n' ≤ n + B + 4 * W → LedK K m c g a o n' h' H H' → h'.k = h.k → h'.m = h.m → h'.Ok → h'.past.length + h'.later.length ≤ h.past.length + h.later.length + W → Qb true H') :
    tB (tCall (sp__law_led K) [] E (tCons (tVar i) (tCons (tVar j) (tCons (tVar l) (tCons tw tNil))))) σ H Qb := by
  refine ⟨.ref m, s.at2 hi, .ref a, s.at2 hj, .ref o, s.at2 hl, hw σ H n s trivial d (by omega) _ fun x H1 n1 dd l1 u1 t1 hd hx => ?_⟩
  obtain ⟨w, hwW, rfl⟩ := hd
  cases hx.v_eq
  have na : a ∉ [m, g] := by simp [ap.am, ap.ag]
  have no : o ∉ [m, g] := by simp [ap.om, ap.og]
  have ha1 := ha.butS t1.2.1 t1.1 na
  have ho1 := ho.but t1.2.1 t1.1 no
  have k1 : ExK K [m, g] H H1 := .of tb t1.1 t1.2.1 (NoT.dr d)
  refine ⟨m, c, g, n1, a, o, h, w, rfl, t1.2.2, ha1, ho1, ap, ok, m5, by omega, by omega, fun H2 n2 h2 l2 u2 L2 hk hm ok2 sz2 => ⟨true, rfl, k H2 n2 h2 (by omega) (by omega) ?_ hk hm ok2 (by omega)⟩⟩
  have KK := LedK.of k1.tb t1.2.2 ha1 ho1 L2
  exact ⟨(k1.mono (by intro x hx; simp at hx ⊢; rcases hx with z | z <;> simp [z])).trans KK.k, KK.d, KK.a, KK.o⟩
theorem s_ifNotB {R : Hp → Prop} (hx : ∀ Q : VK, (∀ H', R H' → Q (.bl true) H') → te σ H Q) (k : ∀ H', R H' → tv D σ H') : tIfS (tTest (tOp rNotB te (tC (.bl true)))) tu tv D σ H := hx _ fun H' r => ⟨true, true, rfl, rfl, false, rfl, k H' r⟩
/-- two lists of the same data are not unequal -/
theorem pt_neLs [Stb P] {l : List Dt} (hx : PuL t1 Γ P l) (hy : PuL t2 Γ P l) (hl : pls l = true) (hs : SeqAt.shaped (.list (pys l)) = true) (he : PyData.eqv (.list (pys l)) (.list (pys l)) = true) : PuT (tTest (tOp (rNe9 K) t1 t2)) Γ P false := fun σ H s p Q q =>
  hx σ H s p _ fun a H1 na e1 la => hy σ H1 (s.ext e1.t) (Stb.ext e1 p) _ fun b H2 nb e2 lb => by
    obtain ⟨xs, k1, k2⟩ := la.ext e2
    obtain ⟨ys, k3, k4⟩ := lb
    exact .inr ⟨.list (pys l), .list (pys l), .lst (SqL.of k1) (k2.dps hl), .lst (SqL.of k3) (k4.dps hl), hs, hs, by rw [he]; exact ⟨false, rfl, q H2 (e1.trans e2)⟩⟩
end
theorem law_body (T : Txt K mg) {D : Ends} {σ : L2.St} {m c g a0 : Addr} {n : Nat} {ti : Dt} (s : Sl σ H [some (dr a0), some ti, none, none, none, none, none, none, none, none, none, some (dr m), none, none]) (dr0 : DrAt H m c g n) (tb : Tabs (Tt K) H) (hn : n + 400 ≤ 5000)
    (fin : ∀ σ' H' n', Sl σ' H' [some (dr a0), none, none, none, none, none, none, none, none, none, none, some (dr m), none, none] → DrAt H' m c g n' → Tabs (Tt K) H' → n' ≤ n + 400 → D.nx σ' H') :
    (tSeq (tPar 2 3 (tCons (tCall (sp__law_any K) [] E0 (tCons (tVar 11) tNil)) (tCons (tOp (rAdd9 K) (tC (.int 1)) (tCall (sp__law_draw K) [] E0 (tCons (tVar 11) (tCons (tC (.int 5)) tNil)))) tNil))) (tSeq (tAsg (tTup (tCons (tMake (He.ga K "House") (sp_House___init__ K) [] E0 (tCons (tVar 2) (tCons (tVar 3) tNil))) (tCons (tCall (sp__law_begin_house K) [] E0 (tCons (tVar 2) (tCons (tVar 3) tNil))) tNil))) (gTup K 2 (gCons (gName 4) (gCons (gName 5) gNil)))) (tSeq (tAsg (tMeth (He.ga K "House") "trial" (sp_House_trial K) [] E0 (tVar 4) tNil) (gName 6)) (tSeq (tIfS (tNot (tB (tCall (sp__law_led K) [] E0 (tCons (tVar 11) (tCons (tVar 4) (tCons (tVar 5) (tCons (tOp (rAdd9 K) (tC (.int 3)) (tCall (sp__law_draw K) [] E0 (tCons (tVar 11) (tCons (tC (.int 5)) tNil)))) tNil))))))) (tRet (tC (.bl false))) tNext) (tSeq (tFor (iRng1 (tCons (tC (.int 4)) tNil)) (gName 7) (tIfS (tNot (tB (tCall (sp__law_tried K) [] E0 (tCons (tVar 11) (tCons (tVar 4) (tCons (tVar 5) (tCons (tVar 7) tNil))))))) (tRet (tC (.bl false))) tNext)) (tSeq (tAsg (tCall (sp__law_twin_of K) [] E0 (tCons (tVar 5) tNil)) (gName 10)) (tSeq (tIfS (tTest (tOp rNotB (tUS (Tt K) (He.ga K "Trial") (sp_Trial___enter__ K) (sp_Trial___exit__ K) ("law" ++ ".<locals>." ++ "<lambda>") 12 (tVar 6) (fun E9 => (tCall (sp__law_led K) [] E0 (tCons (tVar 11) (tCons (tVar 12) (tCons (tVar 10) (tCons (tC (.int 2)) tNil)))))) (fun _ => E0)) (tC (.bl true)))) (tRet (tC (.bl false))) tNext) (tSeq (tIfS (tNot (tB (tCall (sp__law_stands K) [] E0 (tCons (tVar 4) (tCons (tVar 5) tNil))))) (tRet (tC (.bl false))) tNext) (tSeq (tPar 8 9 (tCons (tMeth (He.ga K "House") "copy" (sp_House_copy K) [] E0 (tVar 4) tNil) (tCons (tCall (sp__law_twin_of K) [] E0 (tCons (tVar 5) tNil)) tNil))) (tSeq (tIfS (tOr (tTest (tOp (rNeO K (He.ga K "House") (sp_House___eq__ K)) (tVar 8) (tVar 4))) (tOr (tNot (tTest (tOp (rEqO K (He.ga K "House") (sp_House___eq__ K)) (tVar 8) (tVar 4)))) (tNot (tB (tCall (sp__law_led K) [] E0 (tCons (tVar 11) (tCons (tVar 8) (tCons (tVar 9) (tCons (tC (.int 3)) tNil))))))))) (tRet (tC (.bl false))) tNext) (tSeq (tIfS (tOr (tTest (tOp (rNe9 K) (tOp (rEqO K (He.ga K "House") (sp_House___eq__ K)) (tVar 8) (tVar 4)) (tOp (rEq9 K) (tDGet (tVar 5) (tC (.str "past"))) (tDGet (tVar 9) (tC (.str "past")))))) (tNot (tB (tCall (sp__law_stands K) [] E0 (tCons (tVar 4) (tCons (tVar 5) tNil)))))) (tRet (tC (.bl false))) tNext) (tSeq (tIfS (tOr (tNot (tB (tCall (sp__law_back_right K) [] E0 (tCons (tVar 4) (tCons (tVar 5) tNil))))) (tNot (tB (tCall (sp__law_stands K) [] E0 (tCons (tVar 8) (tCons (tVar 9) tNil)))))) (tRet (tC (.bl false))) tNext) (tSeq (tIfS (tTest (tOp (rNeO K (He.ga K "House") (sp_House___eq__ K)) (tVar 4) (tMake (He.ga K "House") (sp_House___init__ K) [] E0 (tCons (tVar 2) (tCons (tVar 3) tNil))))) (tRet (tC (.bl false))) tNext) (tIfS (tTest (tOp (rNe9 K) (tLc (iTup K (tTup (tCons (tVar 2) (tCons (tC .non) (tCons (tC (.int 5)) (tCons (tTup tNil) tNil)))))) (gName 13) tYes (tOp (rEqO K (He.ga K "House") (sp_House___eq__ K)) (tVar 4) (tVar 13)) [13]) (tOp (rMul9 K) (tLst (tCons (tC (.bl false)) tNil)) (tC (.int 4))))) (tRet (tC (.bl false))) tNext)))))))))))))) D σ H := by
  have stT : StbD m g (fun _ => True) := stbD_T
  have noD := NoT.dr dr0
  refine s_seq (s_parD (P := fun _ => True) (m := m) (c := c) (g := g) (B := 120 + ((0 + 1) + 0)) (pda_c stT (pd_any (pu_var rfl)) (pda_c (S := fun d => ∃ r : Nat, 1 ≤ r ∧ r ≤ 5 ∧ d = dn r) stT (pd_op (S1 := fun d => d = di 1) stT (pd_pu pu_c rfl) (pd_draw (lim := 5) stT (pu_var rfl) pu_c (by decide) (by decide)) fun d e hd he => ?_) pda_n)) (fun l hl => ?_) s trivial dr0 (by omega) fun σ1 H1 n1 d e l1 u1 t1 hl s1 => ?_)
  · subst hd
    obtain ⟨r, hr, rfl⟩ := he
    exact ⟨_, ⟨1 + r, by omega, by omega, congrArg di (by omega)⟩, rv_add⟩
  · obtain ⟨d1, r1, rfl, _, d2, r2, rfl, _, rfl⟩ := hl
    exact ⟨_, _, rfl⟩
  obtain ⟨d1, r1, ed, ⟨k, okk, rfl⟩, d2, r2, er, ⟨w, w1, w5, rfl⟩, er2⟩ := hl
  subst er2
  subst er
  cases ed
  have tb1 : Tabs (Tt K) H1 := tabs_but tb t1.2.1 noD
  have s1' : Sl σ1 H1 [some (dr a0), some ti, some (kdD k), some (dn w), none, none, none, none, none, none, none, some (dr m), none, none] := s1
  have dr1 := t1.2.2
  -- the house, its record
  refine go_seq (s_tup2N (P := fun _ => True) (pn_house (pa_c (pu_var rfl) (pa_c (pu_var rfl) pa_n)) okk w1 (by omega)) (pn_begin (pu_var rfl) (pu_var rfl)) s1' trivial fun a o H2 H3 H4 na e2 ha2 no e3 ho3 e4 => ?_)
  have e34 := e3.trans e4
  have e24 := e2.trans e34
  have ha4 := ha2.ext e34
  have ho4 := ho3.ext e4
  have s4 : Sl _ H4 [some (dr a0), some ti, some (kdD k), some (dn w), some (dr a), some (dr o), none, none, none, none, none, some (dr m), none, none] := ((s1'.ext (Ex.t e24)).set (x := .ref a) (d := dr a) (.leaf _) 4).set (x := .ref o) (d := dr o) (.leaf _) 5
  have pa := DrAt.nmg' dr1 na
  have po := DrAt.nmg' dr1 (e2.free no)
  have ap : Apart m c g a o := ⟨po.1, po.2.1, po.2.2, pa.1, pa.2.1, pa.2.2, ha2.ne_n no⟩
  have ok0 : (Hs.mk k w [] []).Ok := ⟨okk, w1, by show w ≤ 16; omega, (fun s z => nomatch z), (fun s z => nomatch z), by show 0 + 0 ≤ 30; decide⟩
  -- the trial that is made ahead
  obtain ⟨dx, fs, hi1, hi2⟩ := hs_meth (m := "trial") ha4
  refine go_seq ⟨.ref a, s4.at2 rfl, a, dx, fs, rfl, hi1, hi2, a, _, rfl, ha4, fun t H5 nt e5 tr5 => ?_⟩
  have e15 := e24.trans e5
  have s5 : Sl _ H5 [some (dr a0), some ti, some (kdD k), some (dn w), some (dr a), some (dr o), some (dr t), none, none, none, none, some (dr m), none, none] := (s4.ext e5.t).set (x := .ref t) (d := dr t) (.leaf _) 6
  have ptm := DrAt.nmg' (dr1.ext e24) nt
  have pta : t ≠ a := Ne.symm (ha4.ne_n nt)
  have pto : t ≠ o := fun z => by
    obtain ⟨o', k1, _⟩ := NoT.ow ho4
    rw [← z, nt] at k1
    cases k1
  -- led
  refine go_seq (s_ifK (t_led (B := 0 + 1) (W := 7) rfl rfl rfl (pd_op (S1 := fun d => d = di 3) stT (pd_pu pu_c rfl) (pd_draw (lim := 5) stT (pu_var rfl) pu_c (by decide) (by decide)) fun d e hd he => ?_) s5 (dr1.ext e15) (ha4.ext e5) (ho4.ext e5) (tb1.ext e15) ap ok0 w5 (by show 0 + 0 + 7 ≤ 30; decide) (by omega) fun H6 n6 h l6 u6 L6 hk hm ok sz => s_next ?_))
  · subst hd
    obtain ⟨r, hr, rfl⟩ := he
    exact ⟨_, ⟨3 + r, by omega, congrArg di (by omega)⟩, rv_add⟩
  have s6 := s5.ext L6.k.t
  have m5 : h.m ≤ 5 := by rw [hm]; exact w5
  have sz7 : h.past.length + h.later.length ≤ 7 := sz
  have tr6 : TrAt K H6 t a [] [] := tr5.k L6.k (by simp [ptm.1, ptm.2.2, pta, pto])
  let J : Nat → L2.St → Hp → Prop := fun i σ' H' => Sl σ' H' [some (dr a0), some ti, some (kdD k), some (dn w), some (dr a), some (dr o), some (dr t), none, none, none, none, some (dr m), none, none] ∧ ∃ n', n6 ≤ n' ∧ n' ≤ n6 + 16 * i ∧ DrAt H' m c g n' ∧ HsAt K H' a h ∧ OwAt H' o h ∧ TrAt K H' t a [] [] ∧ Tabs (Tt K) H'
  refine go_seq (s_forR (P := fun _ => True) (n := 4) (pa_c pu_c pa_n) (by decide) s6 trivial J ?_ ?_ ?_)
  · exact fun H7 e7 => ⟨s6.ext e7.t, n6, Nat.le_refl _, by omega, L6.d.ext e7, L6.a.ext e7, L6.o.ext e7, tr6.ext e7, L6.k.tb.ext e7⟩
  · rintro i σ' H' hi ⟨s', n', l', u', d', a', o', t', tb'⟩
    have s7 := s'.set (x := .int (i : Int)) (d := dn i) (.leaf _) 7
    obtain ⟨y7, y1, y2⟩ := s7.at_ 7 _ rfl
    cases y2.v_eq
    refine s_ifK ⟨.ref m, s7.at2 rfl, .ref a, s7.at2 rfl, .ref o, s7.at2 rfl, .int (i : Int), y1, m, c, g, a, o, n', i, h, rfl, d', a', o', tb', ap, ok, m5, by omega, by omega, hi, fun H8 n8 l8 u8 k8 d8 a8 => ⟨true, rfl, (if_neg (show ¬((!true) = true) by decide)).mpr (s_next ?_)⟩⟩
    exact ⟨(s7.ext k8.t).lessL ⟨rfl, rfl, rfl, rfl, rfl, rfl, rfl, rfl, trivial⟩, n8, by omega, by omega, d8, a8, o'.k k8 (by simp [ap.om, ap.og, Ne.symm ap.ao]), t'.k k8 (by simp [ptm.1, ptm.2.2, pta]), k8.tb⟩
  rintro σ9 H9 ⟨s9, n9, l9, u9, d9, a9, o9, t9, tb9⟩
  -- under the trial that was made ahead
  refine go_seq (s_asgN (P := fun H => OwAt H o h) (pn_twin (pu_var rfl) fun _ p => p) s9 o9 fun f σ10 H10 nf e10 of s10' => ?_)
  have s10 : Sl σ10 H10 [some (dr a0), some ti, some (kdD k), some (dn w), some (dr a), some (dr o), some (dr t), none, none, none, some (dr f), some (dr m), none, none] := s10'
  have pf := DrAt.nmg' d9 nf
  have paf : a ≠ f := a9.ne_n nf
  have pof : o ≠ f := fun z => by
    obtain ⟨o', k1, _⟩ := NoT.ow o9
    rw [z, nf] at k1
    cases k1
  have ptf : t ≠ f := fun z => by
    obtain ⟨o', k1, _⟩ := NoT.tr t9
    rw [z, nf] at k1
    cases k1
  have apf : Apart m c g a f := ⟨pf.1, pf.2.1, pf.2.2, ap.am, ap.ac, ap.ag, paf⟩
  refine go_seq (s_ifNotB (R := fun H' => ∃ n', n9 ≤ n' ∧ n' ≤ n9 + 8 ∧ ExK K [m, g, a, f, t] H10 H' ∧ DrAt H' m c g n' ∧ HsAt K H' a h) (fun Q q => under_led (i0 := 11) (i6 := 10) (fun _ x => x) s10 (by show 12 < 14; decide) rfl rfl (by decide) (by decide) (tb9.ext e10) (d9.ext e10) (a9.ext e10) of (t9.ext e10) apf (by simp [ptm.1, ptm.2.1, ptm.2.2, pta, ptf]) ok m5 (by omega) (by omega) (fun R r => ⟨.ref t, s10.at2 rfl, r⟩) (fun H' n' l u k d a => q H' ⟨n', l, u, k, d, a⟩)) ?_)
  rintro H11 ⟨n11, l11, u11, k11, d11, a11⟩
  refine s_next ?_
  have o11 : OwAt H11 o h := (o9.ext e10).k k11 (by simp [ap.om, ap.og, Ne.symm ap.ao, pof, Ne.symm pto])
  have s11 := s10.ext k11.t
  refine go_seq (s_ifF (P := fun H => HsAt K H a h ∧ OwAt H o h) (pt_stands (pu_var rfl) (pu_var rfl) (fun _ p => p) ok m5) s11 ⟨a11, o11⟩ fun H12 e12 => s_next ?_)
  -- a copy
  refine go_seq (s_par2N (P := fun H => HsAt K H a h ∧ OwAt H o h) (pn_copy (pu_var rfl) (fun _ p => p.1) ok) (pn_twin (pu_var rfl) fun _ p => p.2) (s11.ext e12.t) ⟨a11.ext e12, o11.ext e12⟩ fun b f2 H13 H14 nb e13 hb nf2 e14 of2 => ?_)
  have e134 := e13.trans e14
  have e24' := e12.trans e134
  have a14 := a11.ext e24'
  have o14 := o11.ext e24'
  have d14 := d11.ext e24'
  have tb14 := k11.tb.ext e24'
  have b14 := hb.ext e14
  have s14 : Sl _ H14 [some (dr a0), some ti, some (kdD k), some (dn w), some (dr a), some (dr o), some (dr t), none, some (dr b), some (dr f2), some (dr f), some (dr m), none, none] := ((s11.ext (Ex.t e24')).set (x := .ref b) (d := dr b) (.leaf _) 8).set (x := .ref f2) (d := dr f2) (.leaf _) 9
  have d12 := d11.ext e12
  have pb := DrAt.nmg' d12 nb
  have pf2 := DrAt.nmg' d12 (e13.free nf2)
  have pab : a ≠ b := (a11.ext e12).ne_n nb
  have pob : o ≠ b := fun z => by
    obtain ⟨o', k1, _⟩ := NoT.ow (o11.ext e12)
    rw [z, nb] at k1
    cases k1
  have paf2 : a ≠ f2 := (a11.ext e12).ne_n (e13.free nf2)
  have pof2 : o ≠ f2 := fun z => by
    obtain ⟨o', k1, _⟩ := NoT.ow (o11.ext e12)
    rw [z, e13.free nf2] at k1
    cases k1
  have ap2 : Apart m c g b f2 := ⟨pf2.1, pf2.2.1, pf2.2.2, pb.1, pb.2.1, pb.2.2, hb.ne_n nf2⟩
  refine go_seq (s_ifK (t_orF (P := fun H => HsAt K H b h ∧ HsAt K H a h) (pt_test (Pu.is (pu_neH T (pu_var rfl) (pu_var rfl) (fun _ p => p) ok ok) (congrArg (fun z => db (!z)) (eqH_t rfl rfl rfl)))) s14 ⟨b14, a14⟩ fun H15 e15 => t_orF (P := fun H => HsAt K H b h ∧ HsAt K H a h) (pt_nt (b := true) (pt_test (Pu.is (pu_eqH T (pu_var rfl) (pu_var rfl) (fun _ p => p) ok ok) (congrArg db (eqH_t rfl rfl rfl))))) (s14.ext e15.t) ⟨b14.ext e15, a14.ext e15⟩ fun H16 e16 =>
    t_led (B := 0) (W := 3) rfl rfl rfl (pd_pu pu_c ⟨3, by decide, rfl⟩) ((s14.ext e15.t).ext e16.t) (d14.ext (e15.trans e16)) (b14.ext (e15.trans e16)) (of2.ext (e15.trans e16)) (tb14.ext (e15.trans e16)) ap2 ok m5 (by omega) (by omega) fun H17 n17 h2 l17 u17 L17 hk2 hm2 ok2 sz2 => s_next ?_))
  have e156 := e15.trans e16
  have a17 := (a14.ext e156).k L17.k (by simp [ap.am, ap.ag, pab, paf2])
  have o17 := (o14.ext e156).k L17.k (by simp [ap.om, ap.og, pob, pof2])
  have s17 := (s14.ext (Ex.t e156)).ext L17.k.t
  have m52 : h2.m ≤ 5 := by rw [hm2]; exact m5
  have eqs : (db (!decide (eqH h2 h = decide (stepsD h.past = stepsD h2.past))) : Dt) = db false := by
    have e1 : eqH h2 h = decide (stepsD h.past = stepsD h2.past) := by
      rw [eqH_same hk2 hm2]
      exact decide_eq_decide.mpr ⟨Eq.symm, Eq.symm⟩
    rw [decide_eq_true e1]
    rfl
  refine go_seq (s_ifF (P := fun H => (HsAt K H b h2 ∧ HsAt K H a h) ∧ (OwAt H o h ∧ OwAt H f2 h2)) (PuT.is (pt_or (b := false) (c := false) (pt_test (Pu.is (pu_op (pu_eqH T (pu_var rfl) (pu_var rfl) (fun _ p => p.1) ok2 ok) (pu_op (pu_oP (pu_var rfl) fun _ p => p.2.1) (pu_oP (pu_var rfl) fun _ p => p.2.2) (rv_eqD (steps_nb _) (steps_nb _) (steps_shaped _) (steps_shaped _))) rv_neB) eqs)) fun _ => pt_stands (pu_var rfl) (pu_var rfl) (fun _ p => ⟨p.1.2, p.2.1⟩) ok m5) rfl) s17 ⟨⟨L17.a, a17⟩, o17, L17.o⟩ fun H18 e18 => s_next ?_)
  have a18 := a17.ext e18
  have o18 := o17.ext e18
  have s18 := s17.ext e18.t
  have b18 := L17.a.ext e18
  have f18 := L17.o.ext e18
  have tb18 := L17.k.tb.ext e18
  have d18 := L17.d.ext e18
  -- back and on
  refine go_seq (s_ifK ⟨.ref a, s18.at2 rfl, .ref o, s18.at2 rfl, a, o, h, rfl, a18, o18, ap.ao, ok, m5, fun H20 x20 b20 a20 o20 => ⟨true, rfl, (if_neg (show ¬((!true) = true) by decide)).mpr ?_⟩⟩)
  have k20 : ExK K [a, o] H18 H20 := .of tb18 x20 b20 (fun y hy => by
    simp only [List.mem_cons, List.not_mem_nil, or_false] at hy
    rcases hy with rfl | rfl
    · exact NoT.hs a18
    · exact NoT.ow o18)
  have b20' := b18.k k20 (by simp [Ne.symm pab, Ne.symm pob])
  have f20 := f18.k k20 (by simp [Ne.symm paf2, Ne.symm pof2])
  have d20 := d18.k k20 (by simp [Ne.symm ap.am, Ne.symm ap.om]) (by simp [Ne.symm ap.ac, Ne.symm ap.oc]) (by simp [Ne.symm ap.ag, Ne.symm ap.og])
  have s20 := s18.ext x20
  refine pt_stands (P := fun H => HsAt K H b h2 ∧ OwAt H f2 h2) (pu_var rfl) (pu_var rfl) (fun _ p => p) ok2 m52 _ H20 s20 ⟨b20', f20⟩ _ fun H21 e21 => (if_neg Bool.false_ne_true).mpr (s_next ?_)
  have okh : h.home.Ok := by
    refine ⟨ok.kd, ok.m1, ok.m16, (fun s z => nomatch z), fun s z => ?_, ?_⟩
    · rcases List.mem_append.mp z with z | z
      · exact ok.okp s z
      · exact ok.okl s z
    · show 0 + (h.past ++ h.later).length ≤ 30
      rw [List.length_append]
      omega
  have s21 := s20.ext e21.t
  refine go_seq (s_ifF (P := fun H => HsAt K H a h.home) (pt_test (Pu.is (pu_neN T (pu_var rfl) (pn_house (pa_c (pu_var rfl) (pa_c (pu_var rfl) pa_n)) okk w1 (by omega)) (fun _ p => p) okh ok0) (congrArg (fun z => db (!z)) (eqH_t (h := h.home) hk hm rfl)))) s21 (a20.ext e21) fun H22 e22 => s_next ?_)
  have a22 := (a20.ext e21).ext e22
  have s22 := s21.ext e22.t
  have L4 : PuL (tLc (iTup K (tTup (tCons (tVar 2) (tCons (tC .non) (tCons (tC (.int 5)) (tCons (tTup tNil) tNil)))))) (gName 13) tYes (tOp (rEqO K (He.ga K "House") (sp_House___eq__ K)) (tVar 4) (tVar 13)) [13]) [some (dr a0), some ti, some (kdD k), some (dn w), some (dr a), some (dr o), some (dr t), none, some (dr b), some (dr f2), some (dr f), some (dr m), none, none] (fun H => HsAt K H a h.home) (List.replicate 4 (db false)) := by
    refine PuL.is (pl_lcT (l := [kdD k, dnon, di 5, .tup []]) (fun _ => true) (fun _ => db false) (by decide) (pu_tup (pa_c (pu_var rfl) (pa_c pu_c (pa_c pu_c (pa_c (pu_tup pa_n (by simp)) pa_n)))) (by simp)) (by simp) (fun _ _ _ => pt_yes) fun i d hd _ => ?_) rfl
    have ht : (tyN d = "tuple" ∨ tyN d = "int" ∨ tyN d = "NoneType") ∧ d.pl = true := by
      have hm := List.mem_of_getElem? hd
      simp only [List.mem_cons, List.not_mem_nil, or_false] at hm
      rcases hm with rfl | rfl | rfl | rfl
      · exact ⟨.inl rfl, (okd_kd okk).pl⟩
      · exact ⟨.inr (.inr rfl), rfl⟩
      · exact ⟨.inr (.inl rfl), rfl⟩
      · exact ⟨.inl rfl, rfl⟩
    exact pu_eqX T (pu_var rfl) (pu_var rfl) (fun _ p => p) okh ht.1 ht.2
  refine s_ifF (P := fun H => HsAt K H a h.home) (pt_neLs L4 (pl_rep1 (n := 4) (pl_lst (pa_c pu_c pa_n) (by simp)) pu_c (by decide)) (by decide) (by decide +kernel) (by decide +kernel)) s22 a22 fun H23 e23 => s_next ?_
  have e123 := (e21.trans e22).trans e23
  exact fin _ H23 n17 ((s22.ext e23.t).lessL ⟨rfl, rfl, trivial⟩) (d20.ext e123) (k20.tb.ext e123) (by omega)
end W9
set_option maxHeartbeats 4000000
/-! law -/
namespace W9
open PySem PySem.Spec PyProof.Rows L2 LamX
variable {K : PySem.W.Frag} {mg : Str → Option Value} {vs : List V} {H : Hp} {Q : VK} {E : XK}
theorem pu_lenS {Γ : Cxt} {P : Hp → Prop} {te : TE} {a : Addr} {xs : List V} [Stb P] (h : Pu te Γ P (dr a)) (hP : ∀ H, P H → SqL K H a xs) : Pu (tCB (rLen9 K) (tCons te tNil)) Γ P (dn xs.length) := fun σ H s p Q q =>
  h σ H s p _ fun x H1 e1 x1 => ⟨a, xs, by rw [x1.v_eq], .inl (hP H1 (Stb.ext e1 p)), q _ H1 e1 (.leaf _)⟩
theorem rd_law (T : Txt K mg) (h : sp_law K vs H Q E) : t_law K (Dn Q) (L2.start N_law vs) H := by
  obtain ⟨a0, ns, rfl, sq, len, tb, q⟩ := h
  have s := sl_start (N := N_law) (l := [dr a0]) (vs := [.ref a0]) (H := H) (.cons (.leaf _) .nil) (Nat.le_of_ble_eq_true rfl)
  refine s_seq ⟨.ref a0, s.at2 rfl, a0, ns, rfl, sq, len, fun m c g H1 nm nc ng e1 dr1 => ?_⟩
  have s1 : Sl _ H1 [some (dr a0), none, none, none, none, none, none, none, none, none, none, some (dr m), none, none] := (s.ext e1.t).set (x := .ref m) (d := dr m) (.leaf _) 11
  let J : Nat → L2.St → Hp → Prop := fun i σ' H' => Sl σ' H' [some (dr a0), none, none, none, none, none, none, none, none, none, none, some (dr m), none, none] ∧ ∃ n', n' ≤ 400 * i ∧ DrAt H' m c g n' ∧ Tabs (Tt K) H'
  have lm : (ns.map V.int).length = ns.length := List.length_map _
  have num : (2 : Int) + (if ((ns.map V.int).length : Int) < 3 then ((ns.map V.int).length : Int) else 3) = ((2 + (if ns.length < 3 then ns.length else 3) : Nat) : Int) := by
    rw [lm]
    by_cases z : ns.length < 3
    · rw [if_pos z, if_pos (by omega)]
      omega
    · rw [if_neg z, if_neg (by omega)]
      omega
  have n5 : 2 + (if ns.length < 3 then ns.length else 3) ≤ 5 := by split <;> omega
  refine go_seq (s_forR (P := fun H => SqL K H a0 (ns.map V.int)) (n := 2 + (if ns.length < 3 then ns.length else 3)) (pa_c (Pu.is (pu_op pu_c (pu_cb (pa_c pu_c (pa_c (pu_lenS (pu_var rfl) fun _ p => p) pa_n)) rc_min) rv_add) (congrArg di num)) pa_n) (by omega) s1 (sqL_ex e1 sq) J ?_ ?_ ?_)
  · exact fun H2 e2 => ⟨s1.ext e2.t, 0, by omega, dr1.ext e2, (tb.ext e1).ext e2⟩
  · rintro i σ' H' hi ⟨s', n', u', d', tb'⟩
    exact law_body (ti := dn i) T (s'.set (x := .int (i : Int)) (d := dn i) (.leaf _) 1) d' tb' (by omega) fun σ3 H3 n3 s3 d3 t3 u3 => ⟨s3, n3, by omega, d3, t3⟩
  · rintro σ' H' ⟨s', n', u', d', tb'⟩
    exact ⟨rfl, tb', fun H3 => q H3⟩
end W9
set_option maxHeartbeats 4000000
namespace W9
open PySem PySem.Spec PyProof.Rows L2 LamX
theorem spM_enter (K : PySem.W.Frag) : SpM (sp_Trial___enter__ K) := fun vs H Q Q' k h => by
  obtain ⟨t, a, p, l, hh, e, h1, h2, h3, h4⟩ := h
  exact ⟨t, a, p, l, hh, e, h1, h2, h3, fun H' x y z u => k _ _ (h4 H' x y z u)⟩
theorem spM_exit (K : PySem.W.Frag) : SpM (sp_Trial___exit__ K) := fun vs H Q Q' k h => by
  obtain ⟨t, a, p, l, hh, x, y, z, e, h1, h2, h3, h4⟩ := h
  exact ⟨t, a, p, l, hh, x, y, z, e, h1, h2, h3, fun H' u => k _ _ (h4 H' u)⟩
theorem ok__law_inner {P : Program} {w : World} {K : PySem.W.Frag} {mg : Str → Option Value} {base : Heap} (T : Txt K mg) (F : ∃ fd, Fun K "_law_inner" "_law_inner" s__law_inner (He.ga K "_law_inner") fd) (FU : ∃ fd, Fun K "under" "under" s_under (He.ga K "under") fd) (TB : TabB base mg (He.cT K ("_law_inner", none)).1 (Ta K "_law_inner")) (Gh : Oke P w K mg base (9 + 1) (He.ma K (He.ga K "Trial") "__exit__") ["self", "kind", "told", "trace"] (sp_Trial___exit__ K)) (mE : SpM (sp_Trial___enter__ K)) (mX : SpM (sp_Trial___exit__ K)) (G__law_led : Okg P w K mg base CX0 9 (He.ga K "_law_led") ["_law_m", "_law_house_so", "_law_own", "_law_many"] (sp__law_led K)) (G__law_stands : Okg P w K mg base CX0 8 (He.ga K "_law_stands") ["_law_house_so", "_law_own"] (sp__law_stands K)) (G_House_do : Okf P w K mg base (L2.CX P w) 5 (He.ma K (He.ga K "House") "do") ["self", "number", "update"] (sp_House_do K)) (G__law_twin_of : Okf P w K mg base CX0 1 (He.ga K "_law_twin_of") ["_law_own"] (sp__law_twin_of K)) (G_Trial___enter__ : Okf P w K mg base CX0 1 (He.ma K (He.ga K "Trial") "__enter__") ["self"] (sp_Trial___enter__ K)) (G_Trial___exit__ : Okf P w K mg base CX0 1 (He.ma K (He.ga K "Trial") "__exit__") ["self", "kind", "told", "trace"] (sp_Trial___exit__ K)) (G_House_trial : Okf P w K mg base CX0 3 (He.ma K (He.ga K "House") "trial") ["self"] (sp_House_trial K)) :
    Okg P w K mg base (L2.CX P w) 12 (He.ga K "_law_inner") ["_law_m", "_law_led_so", "_law_held", "_law_way"] (sp__law_inner K) := by
  obtain ⟨fd, F⟩ := F
  obtain ⟨fdU, Fu⟩ := FU
  exact ⟨fd, okT (p := ("_law_inner", none)) F sc__law_inner (fun vs H Q E h => by obtain ⟨_, _, _, _, _, _, _, _, _, rfl, _⟩ := h; rfl) (fun cdv A outer s H vs Q E hcd hgd hr h => ⟨_, (pd__law_inner T Fu TB Gh mE mX G__law_led G__law_stands G_House_do G__law_twin_of G_Trial___enter__ G_Trial___exit__ G_House_trial hgd hcd hr), rd__law_inner h⟩), F.binds (fun _ _ _ _ _ _ us hl => match us, hl with | [_, _, _, _], _ => rfl), F.kp⟩
theorem ok__law_tried {P : Program} {w : World} {K : PySem.W.Frag} {mg : Str → Option Value} {base : Heap} (T : Txt K mg) (F : ∃ fd, Fun K "_law_tried" "_law_tried" s__law_tried (He.ga K "_law_tried") fd) (FU : ∃ fd, Fun K "under" "under" s_under (He.ga K "under") fd) (TB : TabB base mg (He.cT K ("_law_tried", none)).1 (Ta K "_law_tried")) (Gh : Oke P w K mg base (12 + 1) (He.ma K (He.ga K "Trial") "__exit__") ["self", "kind", "told", "trace"] (sp_Trial___exit__ K)) (mE : SpM (sp_Trial___enter__ K)) (mX : SpM (sp_Trial___exit__ K)) (G__law_twin_of : Okf P w K mg base CX0 1 (He.ga K "_law_twin_of") ["_law_own"] (sp__law_twin_of K)) (G_Trial___enter__ : Okf P w K mg base CX0 1 (He.ma K (He.ga K "Trial") "__enter__") ["self"] (sp_Trial___enter__ K)) (G_Trial___exit__ : Okf P w K mg base CX0 1 (He.ma K (He.ga K "Trial") "__exit__") ["self", "kind", "told", "trace"] (sp_Trial___exit__ K)) (G_House_trial : Okf P w K mg base CX0 3 (He.ma K (He.ga K "House") "trial") ["self"] (sp_House_trial K)) (G__law_inner : Okg P w K mg base (L2.CX P w) 12 (He.ga K "_law_inner") ["_law_m", "_law_led_so", "_law_held", "_law_way"] (sp__law_inner K)) (G__law_stands : Okg P w K mg base CX0 8 (He.ga K "_law_stands") ["_law_house_so", "_law_own"] (sp__law_stands K)) :
    Okg P w K mg base (L2.CX P w) 15 (He.ga K "_law_tried") ["_law_m", "_law_house_so", "_law_own", "_law_way"] (sp__law_tried K) := by
  obtain ⟨fd, F⟩ := F
  obtain ⟨fdU, Fu⟩ := FU
  exact ⟨fd, okT (p := ("_law_tried", none)) F sc__law_tried (fun vs H Q E h => by obtain ⟨_, _, _, _, _, _, _, _, rfl, _⟩ := h; rfl) (fun cdv A outer s H vs Q E hcd hgd hr h => ⟨_, (pd__law_tried T Fu TB Gh mE mX G__law_twin_of G_Trial___enter__ G_Trial___exit__ G_House_trial G__law_inner G__law_stands hgd hcd hr), rd__law_tried T h⟩), F.binds (fun _ _ _ _ _ _ us hl => match us, hl with | [_, _, _, _], _ => rfl), F.kp⟩
theorem ok__law_back_right {P : Program} {w : World} {K : PySem.W.Frag} {mg : Str → Option Value} {base : Heap} (T : Txt K mg) (F : ∃ fd, Fun K "_law_back_right" "_law_back_right" s__law_back_right (He.ga K "_law_back_right") fd) (G__law_gone_on : Okf P w K mg base CX0 1 (He.ga K "_law_gone_on") ["_law_own"] (sp__law_gone_on K)) (G_House_redo : Okf P w K mg base CX0 1 (He.ma K (He.ga K "House") "redo") ["self"] (sp_House_redo K)) (G__law_stands : Okg P w K mg base CX0 8 (He.ga K "_law_stands") ["_law_house_so", "_law_own"] (sp__law_stands K)) (G__law_gone_back : Okf P w K mg base CX0 1 (He.ga K "_law_gone_back") ["_law_own"] (sp__law_gone_back K)) (G_House_undo : Okf P w K mg base CX0 1 (He.ma K (He.ga K "House") "undo") ["self"] (sp_House_undo K)) :
    Okg P w K mg base CX0 9 (He.ga K "_law_back_right") ["_law_house_so", "_law_own"] (sp__law_back_right K) := by
  obtain ⟨fd, F⟩ := F
  exact ⟨fd, W9.Fun.okG F sc__law_back_right (fun vs H Q E h => by obtain ⟨_, _, _, rfl, _⟩ := h; rfl) (fun cdv A outer s H vs Q E hcd hgd hr h => ⟨_, (pd__law_back_right T G__law_gone_on G_House_redo G__law_stands G__law_gone_back G_House_undo hgd hr).nox, rd__law_back_right h⟩), F.binds (fun _ _ _ _ _ _ us hl => match us, hl with | [_, _], _ => rfl), F.kp⟩
theorem ok__law_hand_right {P : Program} {w : World} {K : PySem.W.Frag} {mg : Str → Option Value} {base : Heap} (T : Txt K mg) (F : ∃ fd, Fun K "_law_hand_right" "_law_hand_right" s__law_hand_right (He.ga K "_law_hand_right") fd) (FU : ∃ fd, Fun K "under" "under" s_under (He.ga K "under") fd) (TB : TabB base mg (He.cT K ("_law_hand_right", none)).1 (Ta K "_law_hand_right")) (Gh : Oke P w K mg base (6 + 1) (He.ma K (He.ga K "Trial") "__exit__") ["self", "kind", "told", "trace"] (sp_Trial___exit__ K)) (mE : SpM (sp_Trial___enter__ K)) (mX : SpM (sp_Trial___exit__ K)) (G_House___init__ : Okf P w K mg base CX0 5 (He.ma K (He.ga K "House") "__init__") ["self", "kind", "many"] (sp_House___init__ K)) (G_House_do : Okf P w K mg base (L2.CX P w) 5 (He.ma K (He.ga K "House") "do") ["self", "number", "update"] (sp_House_do K)) (G_House___eq__ : Okf P w K mg base CX0 1 (He.ma K (He.ga K "House") "__eq__") ["self", "other"] (sp_House___eq__ K)) (G_House_undo : Okf P w K mg base CX0 1 (He.ma K (He.ga K "House") "undo") ["self"] (sp_House_undo K)) (G_House_copy : Okf P w K mg base CX0 7 (He.ma K (He.ga K "House") "copy") ["self"] (sp_House_copy K)) (G_House_redo : Okf P w K mg base CX0 1 (He.ma K (He.ga K "House") "redo") ["self"] (sp_House_redo K)) (G_House___len__ : Okf P w K mg base CX0 1 (He.ma K (He.ga K "House") "__len__") ["self"] (sp_House___len__ K)) (G_House_hear : Okf P w K mg base CX0 5 (He.ma K (He.ga K "House") "hear") ["self", "number", "other"] (sp_House_hear K)) (G_Trial___enter__ : Okf P w K mg base CX0 1 (He.ma K (He.ga K "Trial") "__enter__") ["self"] (sp_Trial___enter__ K)) (G_Trial___exit__ : Okf P w K mg base CX0 1 (He.ma K (He.ga K "Trial") "__exit__") ["self", "kind", "told", "trace"] (sp_Trial___exit__ K)) (G_House_trial : Okf P w K mg base CX0 3 (He.ma K (He.ga K "House") "trial") ["self"] (sp_House_trial K)) (G_House_history : Okf P w K mg base CX0 1 (gAd K "House" "history") ["self"] (sp_House_history K)) (G__law_like : Okg P w K mg base CX0 1 (He.ga K "_law_like") ["_law_answer", "_law_due"] (sp__law_like K)) :
    Okg P w K mg base CX0 9 (He.ga K "_law_hand_right") [] (sp__law_hand_right K) := by
  obtain ⟨fd, F⟩ := F
  obtain ⟨fdU, Fu⟩ := FU
  exact ⟨fd, okT (p := ("_law_hand_right", none)) F sc__law_hand_right (fun vs H Q E h => by obtain ⟨rfl, _⟩ := h; rfl) (fun cdv A outer s H vs Q E hcd hgd hr h => ⟨_, (pd__law_hand_right T Fu TB Gh mE mX G_House___init__ G_House_do G_House___eq__ G_House_undo G_House_copy G_House_redo G_House___len__ G_House_hear G_Trial___enter__ G_Trial___exit__ G_House_trial G_House_history G__law_like hgd hcd hr).nox, rd__law_hand_right T h⟩), F.binds (fun _ _ _ _ _ _ us hl => match us, hl with | [], _ => rfl), F.kp⟩
theorem ok_law {P : Program} {w : World} {K : PySem.W.Frag} {mg : Str → Option Value} {base : Heap} (T : Txt K mg) (F : ∃ fd, Fun K "law" "law" s_law (He.ga K "law") fd) (FU : ∃ fd, Fun K "under" "under" s_under (He.ga K "under") fd) (TB : TabB base mg (He.cT K ("law", none)).1 (Ta K "law")) (Gh : Oke P w K mg base (13 + 1) (He.ma K (He.ga K "Trial") "__exit__") ["self", "kind", "told", "trace"] (sp_Trial___exit__ K)) (mE : SpM (sp_Trial___enter__ K)) (mX : SpM (sp_Trial___exit__ K)) (G__law_begun : Okf P w K mg base CX0 2 (He.ga K "_law_begun") ["_law_script"] (sp__law_begun K)) (G__law_draw : Okf P w K mg base CX0 2 (He.ga K "_law_draw") ["_law_m", "_law_limit"] (sp__law_draw K)) (G__law_any : Okf P w K mg base CX0 5 (He.ga K "_law_any") ["_law_m"] (sp__law_any K)) (G__law_begin_house : Okf P w K mg base CX0 1 (He.ga K "_law_begin_house") ["_law_kind_so", "_law_many"] (sp__law_begin_house K)) (G_House___init__ : Okf P w K mg base CX0 5 (He.ma K (He.ga K "House") "__init__") ["self", "kind", "many"] (sp_House___init__ K)) (G_House_trial : Okf P w K mg base CX0 3 (He.ma K (He.ga K "House") "trial") ["self"] (sp_House_trial K)) (G__law_led : Okg P w K mg base CX0 9 (He.ga K "_law_led") ["_law_m", "_law_house_so", "_law_own", "_law_many"] (sp__law_led K)) (G__law_tried : Okg P w K mg base (L2.CX P w) 15 (He.ga K "_law_tried") ["_law_m", "_law_house_so", "_law_own", "_law_way"] (sp__law_tried K)) (G__law_twin_of : Okf P w K mg base CX0 1 (He.ga K "_law_twin_of") ["_law_own"] (sp__law_twin_of K)) (G_Trial___enter__ : Okf P w K mg base CX0 1 (He.ma K (He.ga K "Trial") "__enter__") ["self"] (sp_Trial___enter__ K)) (G_Trial___exit__ : Okf P w K mg base CX0 1 (He.ma K (He.ga K "Trial") "__exit__") ["self", "kind", "told", "trace"] (sp_Trial___exit__ K)) (G__law_stands : Okg P w K mg base CX0 8 (He.ga K "_law_stands") ["_law_house_so", "_law_own"] (sp__law_stands K)) (G_House_copy : Okf P w K mg base CX0 7 (He.ma K (He.ga K "House") "copy") ["self"] (sp_House_copy K)) (G_House___eq__ : Okf P w K mg base CX0 1 (He.ma K (He.ga K "House") "__eq__") ["self", "other"] (sp_House___eq__ K)) (G__law_back_right : Okg P w K mg base CX0 9 (He.ga K "_law_back_right") ["_law_house_so", "_law_own"] (sp__law_back_right K)) (G__law_hand_right : Okg P w K mg base CX0 9 (He.ga K "_law_hand_right") [] (sp__law_hand_right K)) :
    Okg P w K mg base CX0 16 (He.ga K "law") ["_law_script"] (sp_law K) := by
  obtain ⟨fd, F⟩ := F
  obtain ⟨fdU, Fu⟩ := FU
  exact ⟨fd, okT (p := ("law", none)) F sc_law (fun vs H Q E h => by obtain ⟨_, _, rfl, _⟩ := h; rfl) (fun cdv A outer s H vs Q E hcd hgd hr h => ⟨_, (pd_law T Fu TB Gh mE mX G__law_begun G__law_draw G__law_any G__law_begin_house G_House___init__ G_House_trial G__law_led G__law_tried G__law_twin_of G_Trial___enter__ G_Trial___exit__ G__law_stands G_House_copy G_House___eq__ G__law_back_right G__law_hand_right hgd hcd hr).nox, rd_law T h⟩), F.binds (fun _ _ _ _ _ _ us hl => match us, hl with | [_], _ => rfl), F.kp⟩
end W9
set_option maxHeartbeats 4000000
/-! the law's call: what is tracked at first, and what the end tells -/
namespace W9
open PySem PySem.Spec PyProof.Rows L2 LamX
/-- a code object's table as the head leaves it -/
abbrev tabO : Obj := { cls := .none, data := .fields #[] }
abbrev scrO (us : List Value) : Obj := { cls := .type "list", data := .seq us.toArray }
/-- only the tables T and, where told, the script at a are tracked -/
structure Trk (K : PySem.W.Frag) (T : List Addr) (a : Addr) (us : List Value) (xs : List V) (H : Hp) : Prop where
  only : ∀ b u, H b = some u → (b ∈ T ∧ u = .tbl #[]) ∨ (b = a ∧ u = .frz (scrO us) (.lst xs) ∧ K.lookup a = none)
  tabs : ∀ b ∈ T, H b = some (.tbl #[])
section
variable {P : Program} {w : World} {K : PySem.W.Frag} {mg mb : Str → Option Value} {h h' : Heap} {T : List Addr} {a b : Addr} {us : List Value} {xs : List V} {H H' : Hp} {o : Obj} {m : Str → Option Value}
theorem Trk.none_of (t : Trk K T a us xs H) (hT : ∀ b ∈ T, h.get? b = some tabO) (ha : h.get? a = some (scrO us)) (g : h.get? b = some o) (n1 : o ≠ tabO) (n2 : o ≠ scrO us) : H b = none := by
  cases q : H b with
  | none => rfl
  | some u =>
    rcases t.only b u q with ⟨i, _⟩ | ⟨e, _, _⟩
    · exact absurd (Option.some.inj (g.symm.trans (hT b i))) n1
    · subst e
      exact absurd (Option.some.inj (g.symm.trans ha)) n2
theorem Trk.ns (t : Trk K T a us xs H) (hT : ∀ b ∈ T, h.get? b = some tabO) (ha : h.get? a = some (scrO us)) (n : h.Ns b m) : (hidT h H).Ns b m := by
  obtain ⟨o, es, ep, g, d, r⟩ := n
  have n1 : o ≠ tabO := fun z => by
    rw [z] at d
    cases d
  have n2 : o ≠ scrO us := fun z => by
    rw [z] at d
    cases d
  exact ⟨o, es, ep, hidT_get g (t.none_of hT ha g n1 n2), d, r⟩
theorem Trk.kin (t : Trk K T a us xs H) (nT : ∀ b ∈ T, K.lookup b = none) (X : K.In h) : K.In (hidT h H) := fun b o e => by
  refine hidT_get (X b o e) ?_
  cases q : H b with
  | none => rfl
  | some u =>
    rcases t.only b u q with ⟨i, _⟩ | ⟨z, _, n⟩
    · rw [nT b i] at e
      cases e
    · rw [z, n] at e
      cases e
theorem Trk.hok (t : Trk K T a us xs H) (hT : ∀ b ∈ T, h.get? b = some tabO) (ha : h.get? a = some (scrO us)) (r : Vals xs us) (hl : xs.length ≤ sizeLine) : HOk P w H h := fun b u e => by
  rcases t.only b u e with ⟨i, rfl⟩ | ⟨rfl, rfl, _⟩
  · exact hT b i
  · exact ⟨ha, hl, us, _, r, ha⟩
/-- what was there is there, but for tables that grew -/
theorem Trk.old (t : Trk K T a us xs H) (hT : ∀ b ∈ T, h.get? b = some tabO) (ha : h.get? a = some (scrO us)) (C : ∀ b ∈ T, ∃ c, PySem.W.CodeHd h c b) (un : Un [] [] H H' h h') (ok : HOk P w H' h') : OldK h h' := by
  refine ⟨fun b o g => ?_, fun b o g => un.there b o g (by simp)⟩
  cases q : H b with
  | none => exact .inl (un.keep b o g q (by simp) (by simp))
  | some u =>
    rcases t.only b u q with ⟨i, _⟩ | ⟨e, eu, _⟩
    · obtain ⟨more, z⟩ := un.tbls b #[] (t.tabs b i)
      obtain ⟨c, hc⟩ := C b i
      have eo := Option.some.inj (g.symm.trans (hT b i))
      subst eo
      refine .inr (.inl ⟨(hc.tab (hT b i)).isCodeTable, rfl, #[], more, rfl, ?_⟩)
      have k := ok b _ z
      exact k
    · subst e
      have z := un.frzs b _ _ (q.trans (congrArg some eu))
      have eo := Option.some.inj (g.symm.trans ha)
      subst eo
      exact .inl (ok b _ z).1
theorem tabs_new {L : List (Addr × Str)} (hL : ∀ p ∈ L, H p.1 = some (.tbl #[])) : Tabs L H := fun p hp => ⟨#[], hL p hp, trivial, fun pos cv z => by cases z⟩
end
/-- the law's call, of a def that keeps its promise where no guard is up -/
theorem law_end {P : Program} {w : World} {K : PySem.W.Frag} {mg mb : Str → Option Value} {k : Nat} {fa a bm : Addr} {ob : Obj} {x : Str} {sp : Sp} {T : List Addr} {s1 : Shared} {us : List Value} {ns : List Int}
    (X : K.In s1.heap) (G : s1.heap.Ns mainGlobals mg) (B : s1.heap.Ns builtinsNs mb) (bb : ∀ y : Str, y ≠ "__name__" → mb y = bootBuiltins y) (lim : s1.heap.NoLimit) (gens : s1.gens = #[])
    (hT : ∀ b ∈ T, s1.heap.get? b = some tabO) (nT : ∀ b ∈ T, K.lookup b = none) (C : ∀ b ∈ T, ∃ c, PySem.W.CodeHd s1.heap c b) (ebm : s1.heap.get? bm = some ob) (cbm : ob.cls = .type "module")
    (ha : s1.heap.get? a = some (scrO us)) (hi : IntsAre us ns) (hl : ns.length ≤ sizeLine) (hr : Room k callerA)
    (F : ∀ base : Heap, K.In base → base.Ns mainGlobals mg → base.get? bm = some ob → Okg P w K mg base CX0 k fa [x] sp)
    (hsp : ∀ H : Hp, (∀ b ∈ T, H b = some (.tbl #[])) → SqL K H a (ns.map V.int) → sp [.ref a] H (fun v _ => v = .bl true) fun _ _ _ => False) :
    codeAny (model P w) callerA (.call (.ref fa) ⟨[.ref a], []⟩) (fun r s' => r = .ok (.ret (.bool true)) ∧ OldK s1.heap s'.heap ∧ s'.os = s1.os ∧ AllBare s'.gens) s1 := by
  have rv : Vals (ns.map V.int) us := vals_ints hi
  have lv : (ns.map V.int).length ≤ sizeLine := by rw [List.length_map]; exact hl
  have go : ∀ H : Hp, Trk K T a us (ns.map V.int) H → SqL K H a (ns.map V.int) → codeAny (model P w) callerA (.call (.ref fa) ⟨[.ref a], []⟩) (fun r s' => r = .ok (.ret (.bool true)) ∧ OldK s1.heap s'.heap ∧ s'.os = s1.os ∧ AllBare s'.gens) s1 := by
    intro H t hS
    have nbm : H bm = none := t.none_of hT ha ebm (fun z => by rw [z] at cbm; cases cbm) fun z => by
      rw [z] at cbm
      exact absurd (Value.type.inj cbm) (by decide)
    have kin := t.kin nT X
    have gl := t.ns hT ha G
    have hk : HOk P w H s1.heap := t.hok hT ha rv lv
    obtain ⟨mc, l1, l2⟩ := lim
    have e0 : Env0 P w K mg (hidT s1.heap H) callerA [] s1 H :=
      { frames := rfl, mod := ⟨kin, gl, ⟨mb, t.ns hT ha B, bb⟩, ⟨mc, t.ns hT ha l1, l2⟩⟩, bs := fun b o e => of_hidT e, bsz := Nat.le_of_eq (hidT_size _ _), funs := trivial, frf := (fun b z => nomatch z), hok := hk, bare := .of_eq gens }
    obtain ⟨fd, Fg, bd, _⟩ := (F _ kin gl (hidT_get ebm nbm)).ex
    have bind := bd s1 [.ref a] X rfl
    rw [List.append_nil] at bind
    refine codeAny_mono (Fg.run callerA [] s1 H _ [.ref a] [.ref a] _ _ rfl hr e0 bind (.cons rfl .nil) (hsp H t.tabs hS)) fun r s' z => ?_
    match r, z with
    | .ok (.ret u), ⟨v, H', os, bare, un, ok, ru, q⟩ =>
      cases (show v = .bl true from q)
      cases (show u = Value.bool true from ru)
      exact ⟨rfl, t.old hT ha C un ok, os, bare⟩
  have aT : a ∉ T := fun z => by
    have e := Option.some.inj ((hT a z).symm.trans ha)
    have e2 : Value.none = Value.type "list" := congrArg Obj.cls e
    cases e2
  cases ek : K.lookup a with
  | some o =>
    have eo := Option.some.inj ((X a o ek).symm.trans ha)
    subst eo
    refine go (fun b => if b ∈ T then some (.tbl #[]) else none) ⟨fun b u e => ?_, fun b i => if_pos i⟩ (.inr ⟨_, us.toArray, _, ek, rfl, rfl, rfl, by rw [List.size_toArray, ← rv.length]; exact lv, rv⟩)
    by_cases i : b ∈ T
    · exact .inl ⟨i, (Option.some.inj ((if_pos i).symm.trans e)).symm⟩
    · exact absurd ((if_neg i).symm.trans e) (fun z => nomatch z)
  | none =>
    refine go (fun b => if b ∈ T then some (.tbl #[]) else if b = a then some (.frz (scrO us) (.lst (ns.map V.int))) else none) ⟨fun b u e => ?_, fun b i => if_pos i⟩ (.inl (.inr ⟨_, (if_neg aT).trans (if_pos rfl)⟩))
    by_cases i : b ∈ T
    · exact .inl ⟨i, (Option.some.inj ((if_pos i).symm.trans e)).symm⟩
    · have e2 := (if_neg i).symm.trans e
      by_cases j : b = a
      · exact .inr ⟨j, (Option.some.inj ((if_pos j).symm.trans e2)).symm, ek⟩
      · exact absurd ((if_neg j).symm.trans e2) (fun z => nomatch z)
theorem mem4 {p : Addr → Prop} {a b c d : Addr} (h1 : p a) (h2 : p b) (h3 : p c) (h4 : p d) : ∀ x ∈ [a, b, c, d], p x := fun x hx => by
  simp only [List.mem_cons, List.not_mem_nil, or_false] at hx
  rcases hx with rfl | rfl | rfl | rfl <;> assumption
theorem tabs4 {H : Hp} {a b c d : Addr} {q1 q2 q3 q4 : Str} (h : ∀ x ∈ [a, b, c, d], H x = some (.tbl #[])) : Tabs [(a, q1), (b, q2), (c, q3), (d, q4)] H := tabs_new fun p hp => by
  simp only [List.mem_cons, List.not_mem_nil, or_false] at hp
  rcases hp with rfl | rfl | rfl | rfl
  · exact h a (by simp)
  · exact h b (by simp)
  · exact h c (by simp)
  · exact h d (by simp)
theorem tabT {K : PySem.W.Frag} {H : Hp} (h : ∀ x ∈ [Ta K "_law_inner", Ta K "_law_tried", Ta K "_law_hand_right", Ta K "law"], H x = some (.tbl #[])) : Tabs (Tt K) H := tabs4 h
end W9
set_option maxHeartbeats 4000000
/-! the law keeps its promise, over what the head tells -/
namespace W9
open PySem PySem.Spec PyProof.Rows L2 LamX
theorem law_ok {P : Program} {w : World} {K : PySem.W.Frag} {mg : Str → Option Value} {base h : Heap} (T : Txt K mg) (c : SaysY fa ex tf fn fc h K) (pg : PgOk P) (TB : ∀ p ∈ tf, TabB base mg (He.cT K p).1 (He.cT K p).2) :
    Okg P w K mg base CX0 16 (He.ga K "law") ["_law_script"] (sp_law K) := by
  have G_is_whole := ok_is_whole (P := P) (w := w) (base := base) T (c.defs _ (List.mem_of_getElem? (i := 0) (by rfl)))
  have G_are_states := ok_are_states (P := P) (w := w) (base := base) T (c.defs _ (List.mem_of_getElem? (i := 1) (by rfl))) G_is_whole
  have G_wrong_in_reads := ok_wrong_in_reads (P := P) (w := w) (base := base) T (c.defs _ (List.mem_of_getElem? (i := 2) (by rfl))) G_is_whole
  have G_wrong_in_updates := ok_wrong_in_updates (P := P) (w := w) (base := base) T (c.defs _ (List.mem_of_getElem? (i := 3) (by rfl))) G_are_states
  have G_wrong_in_merge := ok_wrong_in_merge (P := P) (w := w) (base := base) T (c.defs _ (List.mem_of_getElem? (i := 4) (by rfl))) G_are_states
  have G_need_kind := ok_need_kind (P := P) (w := w) (base := base) T (c.defs _ (List.mem_of_getElem? (i := 5) (by rfl))) G_wrong_in_reads G_is_whole G_wrong_in_updates G_wrong_in_merge
  have G_merged_of := ok_merged_of (P := P) (w := w) (base := base) T (c.defs _ (List.mem_of_getElem? (i := 6) (by rfl)))
  have G_is_step := ok_is_step (P := P) (w := w) (base := base) T (c.defs _ (List.mem_of_getElem? (i := 7) (by rfl))) G_is_whole
  have G_wrong_in_history := ok_wrong_in_history (P := P) (w := w) (base := base) T (c.defs _ (List.mem_of_getElem? (i := 8) (by rfl))) G_is_whole G_is_step
  have G_need_history := ok_need_history (P := P) (w := w) (base := base) T (c.defs _ (List.mem_of_getElem? (i := 9) (by rfl))) G_need_kind G_wrong_in_history
  have G_stages_of := ok_stages_of (P := P) (w := w) (base := base) T (c.defs _ (List.mem_of_getElem? (i := 10) (by rfl))) G_merged_of
  have G_heard_of := ok_heard_of (P := P) (w := w) (base := base) T (c.defs _ (List.mem_of_getElem? (i := 11) (by rfl)))
  have G_split_pairs := ok_split_pairs (P := P) (w := w) (base := base) T (c.defs _ (List.mem_of_getElem? (i := 13) (by rfl))) G_need_history G_heard_of G_stages_of
  have G_need_copy := ok_need_copy (P := P) (w := w) (base := base) T (c.defs _ (List.mem_of_getElem? (i := 12) (by rfl))) pg (c.defc _ (List.mem_of_getElem? (i := 0) (by rfl))) G_is_whole
  have G_Trial___init__ := ok_Trial___init__ (P := P) (w := w) (base := base) T (c.defs _ (List.mem_of_getElem? (i := 15) (by rfl)))
  have G_Trial___enter__ := ok_Trial___enter__ (P := P) (w := w) (base := base) T (c.defs _ (List.mem_of_getElem? (i := 16) (by rfl)))
  have G_Trial___exit__ := ok_Trial___exit__ (P := P) (w := w) (base := base) T (c.defs _ (List.mem_of_getElem? (i := 17) (by rfl)))
  have G_House___init__ := ok_House___init__ (P := P) (w := w) (base := base) T (c.defs _ (List.mem_of_getElem? (i := 18) (by rfl))) G_need_kind G_is_whole
  have G_House_table := ok_House_table (P := P) (w := w) (base := base) T (c.defs _ (List.mem_of_getElem? (i := 19) (by rfl)))
  have G_House_history := ok_House_history (P := P) (w := w) (base := base) T (c.defs _ (List.mem_of_getElem? (i := 20) (by rfl)))
  have G_House___len__ := ok_House___len__ (P := P) (w := w) (base := base) T (c.defs _ (List.mem_of_getElem? (i := 21) (by rfl)))
  have G_House_states := ok_House_states (P := P) (w := w) (base := base) T (c.defs _ (List.mem_of_getElem? (i := 22) (by rfl))) G_stages_of G_House_history
  have G_House_shown := ok_House_shown (P := P) (w := w) (base := base) T (c.defs _ (List.mem_of_getElem? (i := 23) (by rfl))) G_House_states G_need_copy G_House_history
  have G_House_known := ok_House_known (P := P) (w := w) (base := base) T (c.defs _ (List.mem_of_getElem? (i := 24) (by rfl))) G_heard_of G_House_history G_need_copy
  have G_House_split := ok_House_split (P := P) (w := w) (base := base) T (c.defs _ (List.mem_of_getElem? (i := 25) (by rfl))) G_split_pairs G_House_history
  have G_House_need_room := ok_House_need_room (P := P) (w := w) (base := base) T (c.defs _ (List.mem_of_getElem? (i := 26) (by rfl))) G_House___len__
  have G_House_keep := ok_House_keep (P := P) (w := w) (base := base) T (c.defs _ (List.mem_of_getElem? (i := 27) (by rfl)))
  have G_House_do := ok_House_do (P := P) (w := w) (base := base) T (c.defs _ (List.mem_of_getElem? (i := 28) (by rfl))) G_need_copy G_House_history G_is_whole G_House_need_room G_House_keep G_House_shown
  have G_House_hear := ok_House_hear (P := P) (w := w) (base := base) T (c.defs _ (List.mem_of_getElem? (i := 29) (by rfl))) G_need_copy G_House_history G_House_need_room G_House_keep G_House_shown
  have G_House_undo := ok_House_undo (P := P) (w := w) (base := base) T (c.defs _ (List.mem_of_getElem? (i := 30) (by rfl)))
  have G_House_redo := ok_House_redo (P := P) (w := w) (base := base) T (c.defs _ (List.mem_of_getElem? (i := 31) (by rfl)))
  have G_House_copy := ok_House_copy (P := P) (w := w) (base := base) T (c.defs _ (List.mem_of_getElem? (i := 32) (by rfl))) G_House___init__
  have G_House_trial := ok_House_trial (P := P) (w := w) (base := base) T (c.defs _ (List.mem_of_getElem? (i := 33) (by rfl))) G_Trial___init__
  have G_House___eq__ := ok_House___eq__ (P := P) (w := w) (base := base) T (c.defs _ (List.mem_of_getElem? (i := 34) (by rfl)))
  have G__law_mixed := ok__law_mixed (P := P) (w := w) (base := base) T (c.defs _ (List.mem_of_getElem? (i := 35) (by rfl)))
  have G__law_folded := ok__law_folded (P := P) (w := w) (base := base) T (c.defs _ (List.mem_of_getElem? (i := 36) (by rfl)))
  have G__law_draw := ok__law_draw (P := P) (w := w) (base := base) T (c.defs _ (List.mem_of_getElem? (i := 37) (by rfl))) G__law_mixed
  have G__law_begun := ok__law_begun (P := P) (w := w) (base := base) T (c.defs _ (List.mem_of_getElem? (i := 38) (by rfl))) G__law_folded
  have G__law_like := ok__law_like (P := P) (w := w) (base := base) T (c.defs _ (List.mem_of_getElem? (i := 39) (by rfl)))
  have G__law_both_lots := ok__law_both_lots (P := P) (w := w) (base := base) T (c.defs _ (List.mem_of_getElem? (i := 41) (by rfl)))
  have G__law_join_table := ok__law_join_table (P := P) (w := w) (base := base) T (c.defs _ (List.mem_of_getElem? (i := 40) (by rfl))) G__law_draw G__law_both_lots
  have G__law_reads := ok__law_reads (P := P) (w := w) (base := base) T (c.defs _ (List.mem_of_getElem? (i := 42) (by rfl))) G__law_draw
  have G__law_renumbered := ok__law_renumbered (P := P) (w := w) (base := base) T (c.defs _ (List.mem_of_getElem? (i := 43) (by rfl)))
  have G__law_holding := ok__law_holding (P := P) (w := w) (base := base) T (c.defs _ (List.mem_of_getElem? (i := 44) (by rfl))) G__law_join_table G__law_draw G__law_reads G__law_renumbered
  have G__law_any := ok__law_any (P := P) (w := w) (base := base) T (c.defs _ (List.mem_of_getElem? (i := 45) (by rfl))) G__law_draw G__law_reads G__law_holding
  have G__law_run := ok__law_run (P := P) (w := w) (base := base) T (c.defs _ (List.mem_of_getElem? (i := 46) (by rfl)))
  have G__law_begin_house := ok__law_begin_house (P := P) (w := w) (base := base) T (c.defs _ (List.mem_of_getElem? (i := 47) (by rfl)))
  have G__law_split_of := ok__law_split_of (P := P) (w := w) (base := base) T (c.defs _ (List.mem_of_getElem? (i := 48) (by rfl)))
  have G__law_stands := ok__law_stands (P := P) (w := w) (base := base) T (c.defs _ (List.mem_of_getElem? (i := 49) (by rfl))) G__law_run G_House_split G_House_states G_House___len__ G_House_history G_House_table G__law_split_of G__law_like G_House_known G_House_shown
  have G__law_gone_back := ok__law_gone_back (P := P) (w := w) (base := base) T (c.defs _ (List.mem_of_getElem? (i := 50) (by rfl)))
  have G__law_gone_on := ok__law_gone_on (P := P) (w := w) (base := base) T (c.defs _ (List.mem_of_getElem? (i := 51) (by rfl)))
  have G__law_step_of := ok__law_step_of (P := P) (w := w) (base := base) T (c.defs _ (List.mem_of_getElem? (i := 52) (by rfl))) G__law_draw G__law_run
  have G__law_turn := ok__law_turn (P := P) (w := w) (base := base) T (c.defs _ (List.mem_of_getElem? (i := 53) (by rfl))) G__law_draw G__law_like G__law_gone_back G_House_undo G__law_gone_on G_House_redo G__law_step_of G_House_do G_House_hear
  have G__law_led := ok__law_led (P := P) (w := w) (base := base) T (c.defs _ (List.mem_of_getElem? (i := 54) (by rfl))) G__law_turn G__law_stands
  have G__law_twin_of := ok__law_twin_of (P := P) (w := w) (base := base) T (c.defs _ (List.mem_of_getElem? (i := 55) (by rfl)))
  have G__law_inner := ok__law_inner (P := P) (w := w) (base := base) T (c.defs _ (List.mem_of_getElem? (i := 56) (by rfl))) (c.defs _ (List.mem_of_getElem? (i := 14) (by rfl))) (TB _ (List.mem_of_getElem? (i := 0) (by rfl))) (oke_Trial___exit__ T (c.defs _ (List.mem_of_getElem? (i := 17) (by rfl))) 9) (spM_enter K) (spM_exit K) G__law_led G__law_stands G_House_do G__law_twin_of G_Trial___enter__ G_Trial___exit__ G_House_trial
  have G__law_tried := ok__law_tried (P := P) (w := w) (base := base) T (c.defs _ (List.mem_of_getElem? (i := 57) (by rfl))) (c.defs _ (List.mem_of_getElem? (i := 14) (by rfl))) (TB _ (List.mem_of_getElem? (i := 1) (by rfl))) (oke_Trial___exit__ T (c.defs _ (List.mem_of_getElem? (i := 17) (by rfl))) 12) (spM_enter K) (spM_exit K) G__law_twin_of G_Trial___enter__ G_Trial___exit__ G_House_trial G__law_inner G__law_stands
  have G__law_back_right := ok__law_back_right (P := P) (w := w) (base := base) T (c.defs _ (List.mem_of_getElem? (i := 58) (by rfl))) G__law_gone_on G_House_redo G__law_stands G__law_gone_back G_House_undo
  have G__law_hand_right := ok__law_hand_right (P := P) (w := w) (base := base) T (c.defs _ (List.mem_of_getElem? (i := 59) (by rfl))) (c.defs _ (List.mem_of_getElem? (i := 14) (by rfl))) (TB _ (List.mem_of_getElem? (i := 2) (by rfl))) (oke_Trial___exit__ T (c.defs _ (List.mem_of_getElem? (i := 17) (by rfl))) 6) (spM_enter K) (spM_exit K) G_House___init__ G_House_do G_House___eq__ G_House_undo G_House_copy G_House_redo G_House___len__ G_House_hear G_Trial___enter__ G_Trial___exit__ G_House_trial G_House_history G__law_like
  have G_law := ok_law (P := P) (w := w) (base := base) T (c.defs _ (List.mem_of_getElem? (i := 60) (by rfl))) (c.defs _ (List.mem_of_getElem? (i := 14) (by rfl))) (TB _ (List.mem_of_getElem? (i := 3) (by rfl))) (oke_Trial___exit__ T (c.defs _ (List.mem_of_getElem? (i := 17) (by rfl))) 13) (spM_enter K) (spM_exit K) G__law_begun G__law_draw G__law_any G__law_begin_house G_House___init__ G_House_trial G__law_led G__law_tried G__law_twin_of G_Trial___enter__ G_Trial___exit__ G__law_stands G_House_copy G_House___eq__ G__law_back_right G__law_hand_right
  exact G_law
end W9
set_option maxHeartbeats 8000000
/-! the law -/
namespace W9
open PySem PySem.Spec PyProof.Rows L2 LamX
abbrev Lw : PySem.W.OpenLaw := PySem.Challenge.rw_copymerges_k93_whole_trials_and_copies
abbrev dLw : DefRec := HandSHeadRun.topDef (PySem.W.OpenLaw.row Lw).prog 60
theorem pg_ok : PgOk Lw.prog := ⟨by decide +kernel, by decide +kernel⟩
theorem law_at {w : World} {mg mb : Str → Option Value} {fa a : Addr} {s1 : Shared} {us : List Value} {ns : List Int} (Y : hk.says w s1.heap) (G : s1.heap.Ns mainGlobals mg) (B : s1.heap.Ns builtinsNs mb) (bb : ∀ y : Str, y ≠ "__name__" → mb y = bootBuiltins y) (lim : s1.heap.NoLimit) (gens : s1.gens = #[])
    (hbm : ∃ (bm : Addr) (ob : Obj), mg "__builtins__" = some (.ref bm) ∧ bm ≠ builtinsNs ∧ s1.heap.get? bm = some ob ∧ ob.cls = .type "module" ∧ ob.dict = some builtinsNs ∧ ob.data = .plain)
    (hmg : mg "law" = some (.ref fa)) (ha : s1.heap.get? a = some (scrO us)) (hi : IntsAre us ns) (hl : ns.length ≤ 63) :
    codeAny (model Lw.prog w) callerA (.call (.ref fa) ⟨[.ref a], []⟩) (fun r s' => r = .ok (.ret (.bool true)) ∧ OldK s1.heap s'.heap ∧ s'.os = s1.os ∧ AllBare s'.gens) s1 := by
  obtain ⟨K, X, c⟩ := Y
  have T : Txt K mg := txt_of X G c
  obtain ⟨bm, ob, b1, b2, b3, b4, b5, b6⟩ := hbm
  have e := hmg.symm.trans T.g_law
  cases e
  have i0 : (("_law_inner", none) : He.Defn) ∈ tf := List.mem_of_getElem? (i := 0) (by rfl)
  have i1 : (("_law_tried", none) : He.Defn) ∈ tf := List.mem_of_getElem? (i := 1) (by rfl)
  have i2 : (("_law_hand_right", none) : He.Defn) ∈ tf := List.mem_of_getElem? (i := 2) (by rfl)
  have i3 : (("law", none) : He.Defn) ∈ tf := List.mem_of_getElem? (i := 3) (by rfl)
  have nG : bm ≠ mainGlobals := fun z => by
    obtain ⟨o, es, ep, e, d, _⟩ := G
    rw [z, e] at b3
    cases b3
    rw [d] at b6
    cases b6
  have nP : ∀ p ∈ tf, bm ≠ (He.cT K p).2 := fun p hp z => by
    rw [z, c.empty p hp] at b3
    cases b3
    cases b4
  have gP : ∀ p ∈ tf, mainGlobals ≠ (He.cT K p).2 := fun p hp z => by
    obtain ⟨o, es, ep, e, d, _⟩ := G
    rw [z, c.empty p hp] at e
    cases e
    cases d
  refine law_end (T := [Ta K "_law_inner", Ta K "_law_tried", Ta K "_law_hand_right", Ta K "law"]) (sp := sp_law K) (k := 16) (x := "_law_script") X G B bb lim gens (mem4 (c.empty _ i0) (c.empty _ i1) (c.empty _ i2) (c.empty _ i3)) (mem4 (c.out _ i0) (c.out _ i1) (c.out _ i2) (c.out _ i3))
    (mem4 ⟨_, PySem.W.codeHd_of_K X (c.hd _ i0)⟩ ⟨_, PySem.W.codeHd_of_K X (c.hd _ i1)⟩ ⟨_, PySem.W.codeHd_of_K X (c.hd _ i2)⟩ ⟨_, PySem.W.codeHd_of_K X (c.hd _ i3)⟩) b3 b4 ha hi (Nat.le_trans hl (by decide)) ⟨rfl, by decide, by decide⟩ (fun base kin gl eb => ?_) (fun H hH hS => ⟨a, ns, rfl, hS, hl, tabT hH, fun _ => rfl⟩)
  exact law_ok T c pg_ok fun p hp => ⟨PySem.W.codeHd_of_K kin (c.hd p hp), ⟨bm, ob, b1, b2, nG, nP p hp, eb, b4, b5, b6⟩, gP p hp⟩
theorem dlw_name : dLw.name = ("law" : Str) := by kernel_rfl
theorem law_walk {q : Program} {XP : (Str → Option Value) → Heap → Prop} : PySem.W.WalkO q loose XP hk.says Lw.row.toRowW dLw [] (fun f vs => PySem.call f vs) := by
  refine Att.attach_callB (n := 63) rfl (by kernel_rfl) fun w s0 s1 mg mb fa o pm cd doc a vs ns G Y ho hd hcd hmg hobj hints hlen hbits hg => ?_
  rw [dlw_name] at hmg
  exact law_at Y G.T.g G.T.b G.T.builtins G.T.nolimit hg G.T.bmain hmg hobj hints hlen
end W9
open PySem PySem.W PySem.Calls PyProof.Rows
theorem PySem.Challenge.cw_copymerges_k93_whole_trials_and_copies_holds : PySem.Challenge.rw_copymerges_k93_whole_trials_and_copies.Holds := by
  w_on; o_law
  refine HandSHeadRun.head_any (r := OpenLaw.row PySem.Challenge.rw_copymerges_k93_whole_trials_and_copies) (q := view (OpenLaw.row PySem.Challenge.rw_copymerges_k93_whole_trials_and_copies).prog [60]) (H := W9.hk) (ob := W9.ob) (M := 40000) (loose := W9.loose) (d := W9.dLw) (kwd := []) W9.ob_eq
    (by kernel_rfl) (fun s => by kernel_rfl) W9.run (by kernel_rfl) (by kernel_rfl) (by kernel_rfl) (by rfl) (by first | assumption | decide +kernel) (by decide +kernel) ⟨rfl, rfl, rfl, rfl, rfl, by decide +kernel⟩ ?hw ?hc
  case hw => w_witness2
  case hc => exact W9.law_walk
