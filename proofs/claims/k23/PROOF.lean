import PyProof.Rows.All
import Wide.All
import OpenK.AllK
import Wide.FinOn
import KE.KStateDown
import HandS.Base
import HandS.Call
import HandS.Ends
import HandS.More
import HandS.Words
import HandS.WordsExc
import HandS.Defaults
import HandS.Head0
import HandS.Head1
import HandS.Head2
import HandS.HeadEnd
import HandS.HeadHook1
import HandS.HeadHook2
import HandS.HeadHook3
import HandS.ForMost
import HandS.NoneIn
import HandS.SortInts
import HandS.Wide
import HandS.IsInst
import HandS.EndBits
import HandS.TupAny
import HandS.Walk
import HandS.ForExc
import HandS.TryMany
import HandS.ExcInit
import HandS.ExcField
import HandS.ExcIs
import HandS.Strs
import HandS.ExcOwn
import HandS.TupSets
import HandS.SetTxt0
import HandS.SetTxtIn
import PyProof.SeqIndex
import KE.GoesSet
import HandS.Dict
import PyProof.EnumMake
import PyProof.Draws
import KE.GoesMore
import HandS.OwnEq
import KE.KUnpack
import HandS.RevTup
import HandS.Text
import HandS.MakeKwOnly
import HandS.Style
import HandS.FStr
import PyProof.DictRoads
import HandS.CallLocal
import HandS.DictComp
import HandS.Conv
import HandS.Finally
import HandS.Remove
import HandS.SetFor
import PyProof.Rows.StrInSeq3
import PyProof.StrOps2
import HandS.Exc
import HandS.Flow
import PySem.Challenge.RW_pactford_k23_worlds_at_first
set_option Elab.async false
set_option linter.all false
set_option maxRecDepth 100000
set_option maxHeartbeats 4000000
namespace Pf
open PySem L2
def yEnts : List DictEntry → List (Str × Addr) → Bool
  | [], [] => true
  | e :: es, k :: r => e.key.isStr k.1 && (e.val == .ref k.2) && yEnts es r
  | _, _ => false
abbrev YFn : Type := Option (Str × Str × Arguments × FuncBody × Scope × Addr × List (Str × Addr) × Addr × Value × Value × Value)
inductive YOb where
  | ov (x : Option (Option Value))
  | tv (x : Option Value)
  | bb (x : Bool)
  | ob (x : Option Bool)
  | fn (x : YFn)
  | sq (x : Option (Value × List Value))
  | ex (x : Option (String × List Value × Bool × Bool × Option Value))
  | ks (x : Option (List (Option (Str × Int))))
def yFn (K : PySem.W.Frag) (f : Addr) : YFn := match K.lookup f with
  | some ⟨_, _, .func fd, _⟩ => some (fd.name, fd.qualname, fd.params, fd.body, fd.scope, fd.globals, fd.closure, fd.builtins, fd.defaults, fd.kwdefaults, fd.code)
  | _ => none
def ySq (K : PySem.W.Frag) (a : Addr) : Option (Value × List Value) := match K.lookup a with
  | some ⟨c, _, .seq its _, _⟩ => some (c, its.toList)
  | _ => none
def yEx (K : PySem.W.Frag) (C : Addr) : Option (String × List Value × Bool × Bool × Option Value) := match K.lookup C with
  | some ⟨.type t, _, .cls cd, sl⟩ => (match sl.toList with
    | [_, _, _, _, x, _] => some (t, cd.mro, cd.hasDict, cd.hasDel, x)
    | _ => none)
  | _ => none
def yEnt (K : PySem.W.Frag) (a : Addr) (l : List (Str × Addr)) : Bool := match K.lookup a with
  | some ⟨_, _, .dict es _, _⟩ => yEnts es.toList l
  | _ => false
def yG (K : PySem.W.Frag) (x : Str) (f cd : Addr) (q : Str) : List YOb := [.ov (PySem.W.nsIn K mainGlobals x), .fn (yFn K f), .bb (PySem.W.codeIn K (.ref cd) q), .bb (PySem.W.keepIn K (.ref f))]
def yGv (x q : Str) (st : Stmt) (f cd : Addr) (yKv : Value) : List YOb := [.ov (some (some (.ref f))), .fn (some (x, q, defArgs st, .stmts (defBody st), defScope st, mainGlobals, [], builtinsNs, .none, yKv, .ref cd)), .bb true, .bb true]
def yM (K : PySem.W.Frag) (C : Addr) (x : Str) (f cd : Addr) (q : Str) : List YOb := [.ov (PySem.W.findIn K (.ref C) x), .fn (yFn K f), .bb (PySem.W.codeIn K (.ref cd) q), .bb (PySem.W.keepIn K (.ref f)), .bb (PySem.W.isFn K (.ref f))]
def yMv (x q : Str) (st : Stmt) (f cd : Addr) (yKv : Value) : List YOb := [.ov (some (some (.ref f))), .fn (some (x, q, defArgs st, .stmts (defBody st), defScope st, mainGlobals, [], builtinsNs, .none, yKv, .ref cd)), .bb true, .bb true, .bb true]
def yN (K : PySem.W.Frag) (C : Addr) (l : List Str) : List YOb := l.map fun y => .ov (PySem.W.findIn K (.ref C) y)
def yNv (l : List Str) : List YOb := l.map fun _ => .ov (some none)
def yC (K : PySem.W.Frag) (x : Str) (C : Addr) : List YOb := [.ov (PySem.W.nsIn K mainGlobals x), .bb (PySem.W.plainGet K C Str.empty), .bb (PySem.W.hasDictIn K C), .bb (PySem.W.plainOver K C), .ov (PySem.W.findIn K (.ref C) "__setattr__"), .bb (PySem.W.makesIn K C), .bb (PySem.W.keepIn K (.ref C))]
def yCv (C : Addr) : List YOb := [.ov (some (some (.ref C))), .bb true, .bb true, .bb true, .ov (some (some (.builtin "object.__setattr__"))), .bb true, .bb true]
def yO (K : PySem.W.Frag) (C : Addr) : List YOb := [.ov (PySem.W.findIn K (.ref C) "__ne__"), .ob (PySem.W.subIn K (.ref C) (.type "object")), .ob (PySem.W.subIn K (.ref C) (.type "str")), .ob (PySem.W.subIn K (.ref C) (.type "int")), .ob (PySem.W.subIn K (.ref C) (.type "NoneType")), .ob (PySem.W.subIn K (.ref C) (.type "list")),
  .ov (PySem.W.findIn K (.ref C) "__class__"), .ov (PySem.W.specialIn K (.builtin "object.__class__") "__get__"), .ob (PySem.W.takesIn K (.builtin "object.__class__")), .ob (PySem.W.mroIn K C (.type "object")), .ob (PySem.W.kitOne K (.type "str") (.ref C)), .ob (PySem.W.kitOne K (.type "int") (.ref C)), .ob (PySem.W.kitOne K (.type "NoneType") (.ref C)), .ob (PySem.W.kitOne K (.type "list") (.ref C))]
def yOv : List YOb := [.ov (some (some (.builtin "object.__ne__"))), .ob (some true), .ob (some false), .ob (some false), .ob (some false), .ob (some false), .ov (some (some (.builtin "object.__class__"))), .ov (some (some (.builtin "getset_descriptor.__get__"))), .ob (some true), .ob (some true), .ob (some false), .ob (some false), .ob (some false), .ob (some false)]
def yB (K : PySem.W.Frag) (x : Str) (C : Addr) : List YOb := [.ov (PySem.W.nsIn K mainGlobals x), .ob (PySem.W.subIn K (.ref C) (.type "BaseException")), .bb (PySem.W.hasDictIn K C), .tv (PySem.W.typeIn K (.ref C))]
def yBv (C : Addr) : List YOb := [.ov (some (some (.ref C))), .ob (some true), .bb true, .tv (some (.type "type"))]
def yE (K : PySem.W.Frag) (C : Addr) : List YOb := [.ex (yEx K C), .ov (PySem.W.findIn K (.ref C) "__setattr__"), .ov (PySem.W.findIn K (.ref C) "__getattribute__"), .ov (PySem.W.findIn K (.ref C) "__getattr__"), .bb (PySem.W.keepIn K (.ref C)), .ov (PySem.W.findIn K (.ref C) "__class__"), .ob (PySem.W.mroIn K C (.type "object")),
  .ov (PySem.W.specialIn K (.builtin "object.__class__") "__get__"), .ob (PySem.W.takesIn K (.builtin "object.__class__"))]
def yEv (C : Addr) (bm : List Value) : List YOb := [.ex (some ("type", .ref C :: bm, true, false, some (.builtin "ValueError.__new__"))), .ov (some (some (.builtin "object.__setattr__"))), .ov (some (some (.builtin "BaseException.__getattribute__"))), .ov (some none), .bb true, .ov (some (some (.builtin "object.__class__"))), .ob (some true), .ov (some (some (.builtin "getset_descriptor.__get__"))), .ob (some true)]
def yS (K : PySem.W.Frag) (l : List (Addr × Value × Bool)) : List YOb := l.map fun t => .ob (PySem.W.subIn K (.ref t.1) t.2.1)
def ySv (l : List (Addr × Value × Bool)) : List YOb := l.map fun t => .ob (some t.2.2)
def yK (K : PySem.W.Frag) (l : List (Addr × Addr)) : List YOb := l.map fun t => .ob (PySem.W.kitOne K (.ref t.1) (.ref t.2))
def yKv (l : List (Addr × Addr)) : List YOb := l.map fun _ => .ob (some false)
def yZ (K : PySem.W.Frag) (l : List Str) : List YOb := l.map fun x => .ov (PySem.W.nsIn K mainGlobals x)
def yZv (l : List Str) : List YOb := l.map fun _ => .ov (some none)
def yV (K : PySem.W.Frag) (l : List (Str × Value)) : List YOb := l.map fun t => .ov (PySem.W.nsIn K mainGlobals t.1)
def yVv (l : List (Str × Value)) : List YOb := l.map fun t => .ov (some (some t.2))
def yT (K : PySem.W.Frag) (x : Str) (a : Addr) : List YOb := [.ov (PySem.W.nsIn K mainGlobals x), .sq (ySq K a)]
def yTv (a : Addr) (l : List (Str × Nat)) : List YOb := [.ov (some (some (.ref a))), .sq (some (.type "tuple", l.map fun t => .str t.1 t.2))]
def yD (K : PySem.W.Frag) (x : Str) (a : Addr) (l : List (Str × Addr)) : List YOb := [.ov (PySem.W.nsIn K mainGlobals x), .ks (He.dicW K a), .bb (yEnt K a l)]
def yDv (w : World) (a : Addr) (l : List (Str × Addr)) : List YOb := [.ov (some (some (.ref a))), .ks (some (He.keysIn w.params (l.map (·.1)))), .bb true]
def yHook (as : List Addr) (obs : PySem.W.Frag → List (List (List YOb))) (val : World → List (List (List YOb))) : PySem.W.Hook where
  α := List (List (List YOb))
  obs := fun s => obs (He.frG s.heap.get? as)
  val := val
  says := fun w h => ∃ K : PySem.W.Frag, K.In h ∧ obs K = val w
  of := fun _ _ e => ⟨_, He.frG_in, e⟩
  keeps := fun _ _ _ ⟨K, hK, c⟩ k => ⟨K, PySem.W.Frag.In.keeps hK k, c⟩
theorem yHook_eq {as : List Addr} {obs : PySem.W.Frag → List (List (List YOb))} {val : World → List (List (List YOb))} (s : PySem.W.SharedT) : obs (He.frG (HandSHeadRun.getT s) as) = (yHook as obs val).obs s.abs := by
  have e : HandSHeadRun.getT s = s.abs.heap.get? := funext (HandSHeadRun.getT_eq s)
  rw [e] <;> rfl
def yRunL (r : PySem.W.OpenRow) (q : Program) (M : Nat) (loose : List PySem.Str) (w : World) : Prop :=
  ∀ os : OsState, (HandSHeadRun.endF (HandSHeadRun.stepQ (HandSHeadRun.denQ HandSHeadRun.tabQ) r.prog w) M r.prog w os).map (fun s => (HandSHeadRun.looksF r.prog (PySem.W.boot_heap w.params) s.abs, HandSHeadRun.seenQ q loose (PySem.importedModules r.prog.main.body) (fun s => PySem.W.xlAt q [] s && PySem.W.recOk r.toRowW.records s) s.abs)) = some (true, PySem.W.openGood q loose)
def yRunO {α : Type} (r : PySem.W.OpenRow) (M : Nat) (ob : PySem.W.SharedT → α) (val : World → α) (w : World) : Prop :=
  ∀ os : OsState, (HandSHeadRun.endF (HandSHeadRun.stepQ (HandSHeadRun.denQ HandSHeadRun.tabQ) r.prog w) M r.prog w os).map ob = some (val w)
theorem yRunO_at {α : Type} {r : PySem.W.OpenRow} {M : Nat} {ob : PySem.W.SharedT → α} {val : World → α} {w : World} {os : OsState} {s : PySem.W.SharedT} (h : yRunO r M ob val w) (e : HandSHeadRun.endF (HandSHeadRun.stepQ (HandSHeadRun.denQ HandSHeadRun.tabQ) r.prog w) M r.prog w os = some s) : ob s = val w := by
  have h1 := h os
  rw [e] at h1
  exact Option.some.inj h1
def yRunA (r : PySem.W.OpenRow) (M : Nat) (w : World) : Prop := yRunO r M (fun s => HandSHeadRun.looksF r.prog (PySem.W.boot_heap w.params) s.abs) (fun _ => true) w
def yRunB (r : PySem.W.OpenRow) (q : Program) (M : Nat) (loose : List PySem.Str) (w : World) : Prop :=
  yRunO r M (fun s => HandSHeadRun.seenQ q loose (PySem.importedModules r.prog.main.body) (fun s => PySem.W.xlAt q [] s && PySem.W.recOk r.toRowW.records s) s.abs) (fun _ => PySem.W.openGood q loose) w
theorem yRunL_of {r : PySem.W.OpenRow} {q : Program} {M : Nat} {loose : List PySem.Str} {w : World} (h1 : yRunA r M w) (h2 : yRunB r q M loose w) : yRunL r q M loose w := by
  intro os
  obtain ⟨s, e, hs⟩ := Option.map_eq_some_iff.mp (h1 os)
  have hb := yRunO_at h2 e
  rw [e]
  show some (_, _) = some (_, _)
  rw [hs, hb]
theorem yRun_of {r : PySem.W.OpenRow} {q : Program} {H : PySem.W.Hook} {ob : PySem.W.SharedT → H.α} {M : Nat} {loose : List PySem.Str} {w : World} (h : yRunL r q M loose w)
    (h2 : ∀ os s, HandSHeadRun.endF (HandSHeadRun.stepQ (HandSHeadRun.denQ HandSHeadRun.tabQ) r.prog w) M r.prog w os = some s → ob s = H.val w) : HandSHeadRun.RunEq r q H ob M loose w := by
  intro os
  obtain ⟨s, e, hs⟩ := Option.map_eq_some_iff.mp (h os)
  have h3 := h2 os s e
  rw [e]
  obtain ⟨a, b⟩ := Prod.mk.inj hs
  show some (_, _, _) = _
  rw [a, b, h3]
end Pf
set_option Elab.async false
set_option linter.all false
set_option maxRecDepth 100000
set_option maxHeartbeats 4000000
namespace Pf
open PySem L2
def top (i : Nat) : Stmt := PySem.Challenge.pw_pactford_k23_worlds_at_first.main.body.getD i (.Pass ⟨0, 0, 0, 0⟩)
abbrev s_NoWord___init__ : Stmt := inClass (top 6) 0
abbrev n_NoWord___init__ : List Str := ["self", "word"]
theorem sc_NoWord___init__ : FnScope n_NoWord___init__ ["self", "word"] (defScope s_NoWord___init__) := ⟨rfl, rfl, rfl, by decide +kernel, rfl, by decide +kernel, by decide +kernel⟩
abbrev s_NoPact___init__ : Stmt := inClass (top 7) 0
abbrev n_NoPact___init__ : List Str := ["self", "at"]
theorem sc_NoPact___init__ : FnScope n_NoPact___init__ ["self", "at"] (defScope s_NoPact___init__) := ⟨rfl, rfl, rfl, by decide +kernel, rfl, by decide +kernel, by decide +kernel⟩
abbrev s_NoHelper___init__ : Stmt := inClass (top 8) 0
abbrev n_NoHelper___init__ : List Str := ["self", "name"]
theorem sc_NoHelper___init__ : FnScope n_NoHelper___init__ ["self", "name"] (defScope s_NoHelper___init__) := ⟨rfl, rfl, rfl, by decide +kernel, rfl, by decide +kernel, by decide +kernel⟩
abbrev s_NoBody___init__ : Stmt := inClass (top 11) 0
abbrev n_NoBody___init__ : List Str := ["self", "name", "at"]
theorem sc_NoBody___init__ : FnScope n_NoBody___init__ ["self", "name", "at"] (defScope s_NoBody___init__) := ⟨rfl, rfl, rfl, by decide +kernel, rfl, by decide +kernel, by decide +kernel⟩
abbrev s_NoSide___init__ : Stmt := inClass (top 13) 0
abbrev n_NoSide___init__ : List Str := ["self", "at"]
theorem sc_NoSide___init__ : FnScope n_NoSide___init__ ["self", "at"] (defScope s_NoSide___init__) := ⟨rfl, rfl, rfl, by decide +kernel, rfl, by decide +kernel, by decide +kernel⟩
abbrev s_NoThing___init__ : Stmt := inClass (top 14) 0
abbrev n_NoThing___init__ : List Str := ["self", "at"]
theorem sc_NoThing___init__ : FnScope n_NoThing___init__ ["self", "at"] (defScope s_NoThing___init__) := ⟨rfl, rfl, rfl, by decide +kernel, rfl, by decide +kernel, by decide +kernel⟩
abbrev s_Table___init__ : Stmt := inClass (top 16) 0
abbrev n_Table___init__ : List Str := ["self"]
theorem sc_Table___init__ : FnScope n_Table___init__ ["self"] (defScope s_Table___init__) := ⟨rfl, rfl, rfl, by decide +kernel, rfl, by decide +kernel, by decide +kernel⟩
abbrev s_Table_twin : Stmt := inClass (top 16) 7
abbrev n_Table_twin : List Str := ["self", "other"]
theorem sc_Table_twin : FnScope n_Table_twin ["self"] (defScope s_Table_twin) := ⟨rfl, rfl, rfl, by decide +kernel, rfl, by decide +kernel, by decide +kernel⟩
abbrev s_Stand___init__ : Stmt := inClass (top 21) 0
abbrev n_Stand___init__ : List Str := ["self", "sides"]
theorem sc_Stand___init__ : FnScope n_Stand___init__ ["self", "sides"] (defScope s_Stand___init__) := ⟨rfl, rfl, rfl, by decide +kernel, rfl, by decide +kernel, by decide +kernel⟩
abbrev s_Stand_copied : Stmt := inClass (top 21) 1
abbrev n_Stand_copied : List Str := ["self", "other", "table", "holds", "rows"]
theorem sc_Stand_copied : FnScope n_Stand_copied ["self"] (defScope s_Stand_copied) := ⟨rfl, rfl, rfl, by decide +kernel, rfl, by decide +kernel, by decide +kernel⟩
abbrev s_Stand_pacts_told : Stmt := inClass (top 21) 2
abbrev n_Stand_pacts_told : List Str := ["self"]
theorem sc_Stand_pacts_told : FnScope n_Stand_pacts_told ["self"] (defScope s_Stand_pacts_told) := ⟨rfl, rfl, rfl, by decide +kernel, rfl, by decide +kernel, by decide +kernel⟩
abbrev s_Stand_is_own : Stmt := inClass (top 21) 6
abbrev n_Stand_is_own : List Str := ["self", "team", "handle"]
theorem sc_Stand_is_own : FnScope n_Stand_is_own ["self", "team", "handle"] (defScope s_Stand_is_own) := ⟨rfl, rfl, rfl, by decide +kernel, rfl, by decide +kernel, by decide +kernel⟩
abbrev s_close_shelf : Stmt := top 56
abbrev n_close_shelf : List Str := ["stand", "team", "handle", "thing"]
theorem sc_close_shelf : FnScope n_close_shelf ["stand", "team"] (defScope s_close_shelf) := ⟨rfl, rfl, rfl, by decide +kernel, rfl, by decide +kernel, by decide +kernel⟩
abbrev s_shut_all : Stmt := top 57
abbrev n_shut_all : List Str := ["stand", "team", "thing"]
theorem sc_shut_all : FnScope n_shut_all ["stand"] (defScope s_shut_all) := ⟨rfl, rfl, rfl, by decide +kernel, rfl, by decide +kernel, by decide +kernel⟩
abbrev s_row_number : Stmt := top 78
abbrev n_row_number : List Str := ["word", "many", "number", "sign"]
theorem sc_row_number : FnScope n_row_number ["word", "many"] (defScope s_row_number) := ⟨rfl, rfl, rfl, by decide +kernel, rfl, by decide +kernel, by decide +kernel⟩
abbrev s_jump_step : Stmt := top 83
abbrev n_jump_step : List Str := ["words", "at", "many", "word", "rest", "goal"]
theorem sc_jump_step : FnScope n_jump_step ["words", "at", "many"] (defScope s_jump_step) := ⟨rfl, rfl, rfl, by decide +kernel, rfl, by decide +kernel, by decide +kernel⟩
abbrev s_done_step : Stmt := top 88
abbrev n_done_step : List Str := ["pact", "rest"]
theorem sc_done_step : FnScope n_done_step ["pact", "rest"] (defScope s_done_step) := ⟨rfl, rfl, rfl, by decide +kernel, rfl, by decide +kernel, by decide +kernel⟩
abbrev s_throw_step : Stmt := top 89
abbrev n_throw_step : List Str := ["pacts", "side", "rest", "word", "more", "laden"]
theorem sc_throw_step : FnScope n_throw_step ["pacts", "side", "rest"] (defScope s_throw_step) := ⟨rfl, rfl, rfl, by decide +kernel, rfl, by decide +kernel, by decide +kernel⟩
abbrev s_arguments : Stmt := top 90
abbrev n_arguments : List Str := ["takes", "rest", "found", "how", "word", "holders"]
theorem sc_arguments : FnScope n_arguments ["takes", "rest"] (defScope s_arguments) := ⟨rfl, rfl, rfl, by decide +kernel, rfl, by decide +kernel, by decide +kernel⟩
abbrev s_one_catch : Stmt := top 91
abbrev n_one_catch : List Str := ["pacts", "side", "known", "rest", "many", "pocket", "spot", "goal"]
theorem sc_one_catch : FnScope n_one_catch ["pacts", "side", "known", "rest", "many"] (defScope s_one_catch) := ⟨rfl, rfl, rfl, by decide +kernel, rfl, by decide +kernel, by decide +kernel⟩
abbrev s_catches_of : Stmt := top 92
abbrev n_catches_of : List Str := ["pacts", "side", "known", "rest", "many", "found", "left", "told", "catch"]
theorem sc_catches_of : FnScope n_catches_of ["pacts", "side", "known", "rest", "many"] (defScope s_catches_of) := ⟨rfl, rfl, rfl, by decide +kernel, rfl, by decide +kernel, by decide +kernel⟩
abbrev s_call_step : Stmt := top 93
abbrev n_call_step : List Str := ["pacts", "side", "words", "many", "pact", "told", "given", "rest", "pocket", "catches"]
theorem sc_call_step : FnScope n_call_step ["pacts", "side", "words", "many"] (defScope s_call_step) := ⟨rfl, rfl, rfl, by decide +kernel, rfl, by decide +kernel, by decide +kernel⟩
abbrev s_step_of : Stmt := top 94
abbrev n_step_of : List Str := ["pacts", "name", "words", "at", "many", "pact", "word", "rest", "read"]
theorem sc_step_of : FnScope n_step_of ["pacts", "name", "words", "at", "many"] (defScope s_step_of) := ⟨rfl, rfl, rfl, by decide +kernel, rfl, by decide +kernel, by decide +kernel⟩
abbrev s_steps_of : Stmt := top 95
abbrev n_steps_of : List Str := ["pacts", "name", "rows", "found", "at", "row", "step"]
theorem sc_steps_of : FnScope n_steps_of ["pacts", "name", "rows"] (defScope s_steps_of) := ⟨rfl, rfl, rfl, by decide +kernel, rfl, by decide +kernel, by decide +kernel⟩
abbrev s_read_rows : Stmt := top 96
abbrev n_read_rows : List Str := ["pacts", "name", "text", "rows", "at", "row"]
theorem sc_read_rows : FnScope n_read_rows ["pacts", "name", "text"] (defScope s_read_rows) := ⟨rfl, rfl, rfl, by decide +kernel, rfl, by decide +kernel, by decide +kernel⟩
abbrev s_Side___init__ : Stmt := inClass (top 135) 0
abbrev n_Side___init__ : List Str := ["self", "pacts", "number", "bodies", "names", "name"]
theorem sc_Side___init__ : FnScope n_Side___init__ ["self", "pacts", "number", "bodies"] (defScope s_Side___init__) := ⟨rfl, rfl, rfl, by decide +kernel, rfl, by decide +kernel, by decide +kernel⟩
abbrev s_Side_read_body : Stmt := inClass (top 135) 1
abbrev n_Side_read_body : List Str := ["self", "name", "text", "said", "rows", "places"]
theorem sc_Side_read_body : FnScope n_Side_read_body ["self", "name"] (defScope s_Side_read_body) := ⟨rfl, rfl, rfl, by decide +kernel, rfl, by decide +kernel, by decide +kernel⟩
abbrev s_Side_pacts : Stmt := inClass (top 135) 3
abbrev n_Side_pacts : List Str := ["self"]
theorem sc_Side_pacts : FnScope n_Side_pacts ["self"] (defScope s_Side_pacts) := ⟨rfl, rfl, rfl, by decide +kernel, rfl, by decide +kernel, by decide +kernel⟩
abbrev s_Side_number : Stmt := inClass (top 135) 4
abbrev n_Side_number : List Str := ["self"]
theorem sc_Side_number : FnScope n_Side_number ["self"] (defScope s_Side_number) := ⟨rfl, rfl, rfl, by decide +kernel, rfl, by decide +kernel, by decide +kernel⟩
abbrev s_World___init__ : Stmt := inClass (top 142) 0
abbrev n_World___init__ : List Str := ["self", "near", "far"]
theorem sc_World___init__ : FnScope n_World___init__ ["self", "near", "far"] (defScope s_World___init__) := ⟨rfl, rfl, rfl, by decide +kernel, rfl, by decide +kernel, by decide +kernel⟩
abbrev s_World_opened_anew : Stmt := inClass (top 142) 1
abbrev n_World_opened_anew : List Str := ["self"]
theorem sc_World_opened_anew : FnScope n_World_opened_anew ["self"] (defScope s_World_opened_anew) := ⟨rfl, rfl, rfl, by decide +kernel, rfl, by decide +kernel, by decide +kernel⟩
abbrev s_World_did : Stmt := inClass (top 142) 2
abbrev n_World_did : List Str := ["self", "stand"]
theorem sc_World_did : FnScope n_World_did ["self", "stand"] (defScope s_World_did) := ⟨rfl, rfl, rfl, by decide +kernel, rfl, by decide +kernel, by decide +kernel⟩
abbrev s_World_call : Stmt := inClass (top 142) 3
abbrev n_World_call : List Str := ["self", "name", "things", "picks", "most", "stand", "takes"]
theorem sc_World_call : FnScope n_World_call ["self", "name", "things", "picks", "most"] (defScope s_World_call) := ⟨rfl, rfl, rfl, by decide +kernel, rfl, by decide +kernel, by decide +kernel⟩
abbrev s_World_let_go : Stmt := inClass (top 142) 4
abbrev n_World_let_go : List Str := ["self", "thing", "stand"]
theorem sc_World_let_go : FnScope n_World_let_go ["self", "thing"] (defScope s_World_let_go) := ⟨rfl, rfl, rfl, by decide +kernel, rfl, by decide +kernel, by decide +kernel⟩
abbrev s_World_close : Stmt := inClass (top 142) 6
abbrev n_World_close : List Str := ["self", "stand"]
theorem sc_World_close : FnScope n_World_close ["self"] (defScope s_World_close) := ⟨rfl, rfl, rfl, by decide +kernel, rfl, by decide +kernel, by decide +kernel⟩
abbrev s_World_back : Stmt := inClass (top 142) 7
abbrev n_World_back : List Str := ["self"]
theorem sc_World_back : FnScope n_World_back ["self"] (defScope s_World_back) := ⟨rfl, rfl, rfl, by decide +kernel, rfl, by decide +kernel, by decide +kernel⟩
abbrev s_World_held : Stmt := inClass (top 142) 8
abbrev n_World_held : List Str := ["self"]
theorem sc_World_held : FnScope n_World_held ["self"] (defScope s_World_held) := ⟨rfl, rfl, rfl, by decide +kernel, rfl, by decide +kernel, by decide +kernel⟩
abbrev s_World_shelf : Stmt := inClass (top 142) 9
abbrev n_World_shelf : List Str := ["self", "number", "handle"]
theorem sc_World_shelf : FnScope n_World_shelf ["self", "number"] (defScope s_World_shelf) := ⟨rfl, rfl, rfl, by decide +kernel, rfl, by decide +kernel, by decide +kernel⟩
abbrev s_World_closed : Stmt := inClass (top 142) 10
abbrev n_World_closed : List Str := ["self"]
theorem sc_World_closed : FnScope n_World_closed ["self"] (defScope s_World_closed) := ⟨rfl, rfl, rfl, by decide +kernel, rfl, by decide +kernel, by decide +kernel⟩
abbrev s_World_broken : Stmt := inClass (top 142) 11
abbrev n_World_broken : List Str := ["self"]
theorem sc_World_broken : FnScope n_World_broken ["self"] (defScope s_World_broken) := ⟨rfl, rfl, rfl, by decide +kernel, rfl, by decide +kernel, by decide +kernel⟩
abbrev s_World_log : Stmt := inClass (top 142) 12
abbrev n_World_log : List Str := ["self"]
theorem sc_World_log : FnScope n_World_log ["self"] (defScope s_World_log) := ⟨rfl, rfl, rfl, by decide +kernel, rfl, by decide +kernel, by decide +kernel⟩
abbrev s_World_story : Stmt := inClass (top 142) 13
abbrev n_World_story : List Str := ["self", "event"]
theorem sc_World_story : FnScope n_World_story ["self"] (defScope s_World_story) := ⟨rfl, rfl, rfl, by decide +kernel, rfl, by decide +kernel, by decide +kernel⟩
abbrev s_World___len__ : Stmt := inClass (top 142) 15
abbrev n_World___len__ : List Str := ["self"]
theorem sc_World___len__ : FnScope n_World___len__ ["self"] (defScope s_World___len__) := ⟨rfl, rfl, rfl, by decide +kernel, rfl, by decide +kernel, by decide +kernel⟩
abbrev s_World___eq__ : Stmt := inClass (top 142) 16
abbrev n_World___eq__ : List Str := ["self", "other"]
theorem sc_World___eq__ : FnScope n_World___eq__ ["self", "other"] (defScope s_World___eq__) := ⟨rfl, rfl, rfl, by decide +kernel, rfl, by decide +kernel, by decide +kernel⟩
abbrev s_is_name : Stmt := top 147
abbrev n_is_name : List Str := ["word", "sign"]
theorem sc_is_name : FnScope n_is_name ["word"] (defScope s_is_name) := ⟨rfl, rfl, rfl, by decide +kernel, rfl, by decide +kernel, by decide +kernel⟩
abbrev s_Pacts___init__ : Stmt := inClass (top 154) 0
abbrev n_Pacts___init__ : List Str := ["self", "pairs", "helpers", "at", "pair", "helper"]
theorem sc_Pacts___init__ : FnScope n_Pacts___init__ ["self", "pairs", "helpers"] (defScope s_Pacts___init__) := ⟨rfl, rfl, rfl, by decide +kernel, rfl, by decide +kernel, by decide +kernel⟩
abbrev s_Pacts_fits_pair : Stmt := inClass (top 154) 1
abbrev n_Pacts_fits_pair : List Str := ["self", "pair", "near", "far", "laden"]
theorem sc_Pacts_fits_pair : FnScope n_Pacts_fits_pair ["self", "pair"] (defScope s_Pacts_fits_pair) := ⟨rfl, rfl, rfl, by decide +kernel, rfl, by decide +kernel, by decide +kernel⟩
abbrev s_Pacts_fits_helper : Stmt := inClass (top 154) 2
abbrev n_Pacts_fits_helper : List Str := ["self", "helper", "name", "side", "takes", "gives", "throws", "how", "word"]
theorem sc_Pacts_fits_helper : FnScope n_Pacts_fits_helper ["self", "helper"] (defScope s_Pacts_fits_helper) := ⟨rfl, rfl, rfl, by decide +kernel, rfl, by decide +kernel, by decide +kernel⟩
abbrev s_Pacts_words_called : Stmt := inClass (top 154) 3
abbrev n_Pacts_words_called : List Str := ["self", "side", "pair"]
theorem sc_Pacts_words_called : FnScope n_Pacts_words_called ["self", "side"] (defScope s_Pacts_words_called) := ⟨rfl, rfl, rfl, by decide +kernel, rfl, by decide +kernel, by decide +kernel⟩
abbrev s_Pacts_pair_of : Stmt := inClass (top 154) 4
abbrev n_Pacts_pair_of : List Str := ["self", "word", "side", "pair"]
theorem sc_Pacts_pair_of : FnScope n_Pacts_pair_of ["self", "word", "side"] (defScope s_Pacts_pair_of) := ⟨rfl, rfl, rfl, by decide +kernel, rfl, by decide +kernel, by decide +kernel⟩
abbrev s_Pacts_names : Stmt := inClass (top 154) 6
abbrev n_Pacts_names : List Str := ["self", "side", "name", "pact"]
theorem sc_Pacts_names : FnScope n_Pacts_names ["self", "side"] (defScope s_Pacts_names) := ⟨rfl, rfl, rfl, by decide +kernel, rfl, by decide +kernel, by decide +kernel⟩
abbrev s_Pacts_pact : Stmt := inClass (top 154) 7
abbrev n_Pacts_pact : List Str := ["self", "name"]
theorem sc_Pacts_pact : FnScope n_Pacts_pact ["self", "name"] (defScope s_Pacts_pact) := ⟨rfl, rfl, rfl, by decide +kernel, rfl, by decide +kernel, by decide +kernel⟩
abbrev s_Pacts_laden : Stmt := inClass (top 154) 8
abbrev n_Pacts_laden : List Str := ["self", "word", "side", "near", "far", "laden"]
theorem sc_Pacts_laden : FnScope n_Pacts_laden ["self", "word", "side"] (defScope s_Pacts_laden) := ⟨rfl, rfl, rfl, by decide +kernel, rfl, by decide +kernel, by decide +kernel⟩
abbrev s_Pacts_over : Stmt := inClass (top 154) 9
abbrev n_Pacts_over : List Str := ["self", "word", "side"]
theorem sc_Pacts_over : FnScope n_Pacts_over ["self", "word", "side"] (defScope s_Pacts_over) := ⟨rfl, rfl, rfl, by decide +kernel, rfl, by decide +kernel, by decide +kernel⟩
abbrev s_Pacts_errors : Stmt := inClass (top 154) 10
abbrev n_Pacts_errors : List Str := ["self", "name", "side", "own", "throws", "word"]
theorem sc_Pacts_errors : FnScope n_Pacts_errors ["self", "name", "side"] (defScope s_Pacts_errors) := ⟨rfl, rfl, rfl, by decide +kernel, rfl, by decide +kernel, by decide +kernel⟩
abbrev s_Pacts___eq__ : Stmt := inClass (top 154) 12
abbrev n_Pacts___eq__ : List Str := ["self", "other"]
theorem sc_Pacts___eq__ : FnScope n_Pacts___eq__ ["self", "other"] (defScope s_Pacts___eq__) := ⟨rfl, rfl, rfl, by decide +kernel, rfl, by decide +kernel, by decide +kernel⟩
abbrev s_Pacts_lines_told : Stmt := inClass (top 154) 13
abbrev n_Pacts_lines_told : List Str := ["self", "pact"]
theorem sc_Pacts_lines_told : FnScope n_Pacts_lines_told ["self"] (defScope s_Pacts_lines_told) := ⟨rfl, rfl, rfl, by decide +kernel, rfl, by decide +kernel, by decide +kernel⟩
abbrev s_helper_line : Stmt := top 156
abbrev n_helper_line : List Str := ["pact", "name", "side", "takes", "gives", "throws", "words"]
theorem sc_helper_line : FnScope n_helper_line ["pact"] (defScope s_helper_line) := ⟨rfl, rfl, rfl, by decide +kernel, rfl, by decide +kernel, by decide +kernel⟩
abbrev s__law_box : Stmt := top 158
abbrev n__law_box : List Str := ["_law_script", "_law_great", "_law_cell"]
theorem sc__law_box : FnScope n__law_box ["_law_script"] (defScope s__law_box) := ⟨rfl, rfl, rfl, by decide +kernel, rfl, by decide +kernel, by decide +kernel⟩
abbrev s__law_mixed : Stmt := top 159
abbrev n__law_mixed : List Str := ["_law_cell", "_law_k", "_law_whole"]
theorem sc__law_mixed : FnScope n__law_mixed ["_law_cell", "_law_k"] (defScope s__law_mixed) := ⟨rfl, rfl, rfl, by decide +kernel, rfl, by decide +kernel, by decide +kernel⟩
abbrev s__law_take : Stmt := top 160
abbrev n__law_take : List Str := ["_law_box_here", "_law_size", "_law_found", "_law_cell", "_law_reach"]
theorem sc__law_take : FnScope n__law_take ["_law_box_here", "_law_size"] (defScope s__law_take) := ⟨rfl, rfl, rfl, by decide +kernel, rfl, by decide +kernel, by decide +kernel⟩
abbrev s__law_name : Stmt := top 161
abbrev n__law_name : List Str := ["_law_box_here", "_law_many", "_law_k"]
theorem sc__law_name : FnScope n__law_name ["_law_box_here"] (defScope s__law_name) := ⟨rfl, rfl, rfl, by decide +kernel, rfl, by decide +kernel, by decide +kernel⟩
abbrev s__law_names : Stmt := top 162
abbrev n__law_names : List Str := ["_law_box_here", "_law_many", "_law_found", "_law_k", "_law_name_here", "_law_spare"]
theorem sc__law_names : FnScope n__law_names ["_law_box_here", "_law_many"] (defScope s__law_names) := ⟨rfl, rfl, rfl, by decide +kernel, rfl, by decide +kernel, by decide +kernel⟩
abbrev s__law_drawn : Stmt := top 163
abbrev n__law_drawn : List Str := ["_law_box_here", "_law_names_here", "_law_pacts", "_law_bodies", "_law_team", "_law_k", "_law_takes", "_law_pact", "_law_rows", "_law_j"]
theorem sc__law_drawn : FnScope n__law_drawn ["_law_box_here"] (defScope s__law_drawn) := ⟨rfl, rfl, rfl, by decide +kernel, rfl, by decide +kernel, by decide +kernel⟩
abbrev s__law_bare : Stmt := top 164
abbrev n__law_bare : List Str := ["_law_world"]
theorem sc__law_bare : FnScope n__law_bare ["_law_world"] (defScope s__law_bare) := ⟨rfl, rfl, rfl, by decide +kernel, rfl, by decide +kernel, by decide +kernel⟩
abbrev s__law_refused : Stmt := top 165
abbrev n__law_refused : List Str := ["_law_world", "_law_way", "_law_value", "_law_found", "e", "_law_kinds"]
theorem sc__law_refused : FnScope n__law_refused ["_law_world", "_law_way", "_law_value"] (defScope s__law_refused) := ⟨rfl, rfl, rfl, by decide +kernel, rfl, by decide +kernel, by decide +kernel⟩
abbrev s__law_all_refused : Stmt := top 166
abbrev n__law_all_refused : List Str := ["_law_box_here", "_law_world", "_law_names_here", "_law_far", "_law_other", "_law_name_here"]
theorem sc__law_all_refused : FnScope n__law_all_refused ["_law_box_here", "_law_world", "_law_names_here"] (defScope s__law_all_refused) := ⟨rfl, rfl, rfl, by decide +kernel, rfl, by decide +kernel, by decide +kernel⟩
abbrev s_law : Stmt := top 167
abbrev n_law : List Str := ["_law_script", "_law_box_here", "_law_pacts", "_law_bodies", "_law_deal", "_law_near", "_law_far", "_law_world", "_law_other", "_law_pact"]
theorem sc_law : FnScope n_law ["_law_script"] (defScope s_law) := ⟨rfl, rfl, rfl, by decide +kernel, rfl, by decide +kernel, by decide +kernel⟩
abbrev s_pocket_step : Stmt := top 79
abbrev n_pocket_step : List Str := ["words", "word", "rest"]
theorem sc_pocket_step : FnScope n_pocket_step ["words"] (defScope s_pocket_step) := ⟨rfl, rfl, rfl, by decide +kernel, rfl, by decide +kernel, by decide +kernel⟩
abbrev s_use_step : Stmt := top 80
abbrev n_use_step : List Str := ["words", "word", "rest"]
theorem sc_use_step : FnScope n_use_step ["words"] (defScope s_use_step) := ⟨rfl, rfl, rfl, by decide +kernel, rfl, by decide +kernel, by decide +kernel⟩
abbrev s_move_step : Stmt := top 81
abbrev n_move_step : List Str := ["words", "word", "rest"]
theorem sc_move_step : FnScope n_move_step ["words"] (defScope s_move_step) := ⟨rfl, rfl, rfl, by decide +kernel, rfl, by decide +kernel, by decide +kernel⟩
abbrev s_Side___eq__ : Stmt := inClass (top 135) 11
abbrev n_Side___eq__ : List Str := ["self", "other"]
theorem sc_Side___eq__ : FnScope n_Side___eq__ ["self", "other"] (defScope s_Side___eq__) := ⟨rfl, rfl, rfl, by decide +kernel, rfl, by decide +kernel, by decide +kernel⟩
end Pf
set_option Elab.async false
set_option linter.all false
set_option maxRecDepth 100000
set_option maxHeartbeats 4000000
namespace Pf
open PySem L2
def zcon : List (Str × Value) := [("LETTERS_naming", .str "abcdefghijklmnopqrstuvwxyz" 2274), ("MOST", .int (8) 2276), ("MOST_PAIRS", .int (6) 2286), ("MOST_HELPERS", .int (4) 2288), ("MOST_TAKES", .int (3) 2290), ("MOST_THROWS", .int (4) 2292), ("FIGURES", .str "0123456789" 1262), ("MOST_FIGURES", .int (6) 1264), ("MOST_ROWS", .int (200) 1330), ("LEND", .str "lend" 1332), ("GIVE", .str "give" 1334)]
def zobs0 (K : PySem.W.Frag) : List (List YOb) := [yC K "Table" 314,
 yN K 314 ["turns", "kept", "peak"],
 yC K "Stand" 430,
 yN K 430 ["sides", "tables", "live", "loaners", "on_shelf", "lent_out", "pile", "things", "entered", "room", "hands", "told", "wanted", "on_way", "fault", "outcome", "shut"],
 yC K "Side" 1218,
 yO K 1218,
 yN K 1218 ["deal", "which", "written", "trees", "row_texts", "row_places", "row_steps"],
 yC K "World" 1381,
 yO K 1381,
 yN K 1381 ["now", "past"],
 yC K "Pacts" 1499,
 yO K 1499,
 yN K 1499 ["kept_pairs", "kept_pacts"],
 yB K "PactError" 31,
 yB K "NoWord" 87,
 yE K 87,
 yN K 87 ["word"],
 yB K "NoPact" 106,
 yE K 106,
 yN K 106 ["at"],
 yB K "NoHelper" 125,
 yE K 125,
 yN K 125 ["name"],
 yB K "NoBody" 182,
 yE K 182,
 yN K 182 ["name", "at"],
 yB K "NoSide" 220,
 yE K 220,
 yN K 220 ["at"],
 yB K "NoThing" 239]
def zval0 (w : World) : List (List YOb) := [yCv 314,
 yNv ["turns", "kept", "peak"],
 yCv 430,
 yNv ["sides", "tables", "live", "loaners", "on_shelf", "lent_out", "pile", "things", "entered", "room", "hands", "told", "wanted", "on_way", "fault", "outcome", "shut"],
 yCv 1218,
 yOv,
 yNv ["deal", "which", "written", "trees", "row_texts", "row_places", "row_steps"],
 yCv 1381,
 yOv,
 yNv ["now", "past"],
 yCv 1499,
 yOv,
 yNv ["kept_pairs", "kept_pacts"],
 yBv 31,
 yBv 87,
 yEv 87 [.ref 31, .type "ValueError", .type "Exception", .type "BaseException", .type "object"],
 yNv ["word"],
 yBv 106,
 yEv 106 [.ref 31, .type "ValueError", .type "Exception", .type "BaseException", .type "object"],
 yNv ["at"],
 yBv 125,
 yEv 125 [.ref 31, .type "ValueError", .type "Exception", .type "BaseException", .type "object"],
 yNv ["name"],
 yBv 182,
 yEv 182 [.ref 31, .type "ValueError", .type "Exception", .type "BaseException", .type "object"],
 yNv ["name", "at"],
 yBv 220,
 yEv 220 [.ref 31, .type "ValueError", .type "Exception", .type "BaseException", .type "object"],
 yNv ["at"],
 yBv 239]
def zobs1 (K : PySem.W.Frag) : List (List YOb) := [yE K 239,
 yN K 239 ["at"],
 yB K "Closed" 44,
 yE K 44,
 [.ov (PySem.W.findIn K (.ref 44) "__init__")],
 yB K "NothingDone" 68,
 yE K 68,
 [.ov (PySem.W.findIn K (.ref 68) "__init__")],
 yS K [(87, .ref 87, true), (125, .ref 125, true), (182, .ref 182, true), (125, .ref 182, false), (220, .ref 220, true), (220, .ref 125, false), (220, .ref 239, false), (220, .ref 68, false), (220, .ref 44, false), (125, .ref 220, false), (125, .ref 239, false), (125, .ref 68, false), (125, .ref 44, false), (239, .ref 220, false), (239, .ref 125, false), (239, .ref 239, true), (239, .ref 68, false), (239, .ref 44, false), (68, .ref 220, false), (68, .ref 125, false), (68, .ref 239, false), (68, .ref 68, true), (68, .ref 44, false), (220, .ref 31, true), (125, .ref 31, true), (239, .ref 31, true), (68, .ref 31, true), (1381, .ref 1218, false)],
 yK K [(1381, 1218)],
 yM K 87 "__init__" 84 83 "NoWord.__init__",
 yM K 106 "__init__" 103 102 "NoPact.__init__",
 yM K 125 "__init__" 122 121 "NoHelper.__init__",
 yM K 182 "__init__" 179 178 "NoBody.__init__",
 yM K 220 "__init__" 217 216 "NoSide.__init__",
 yM K 239 "__init__" 236 235 "NoThing.__init__",
 yM K 314 "__init__" 255 254 "Table.__init__",
 yM K 314 "twin" 304 303 "Table.twin",
 yM K 430 "__init__" 372 371 "Stand.__init__",
 yM K 430 "copied" 377 376 "Stand.copied",
 yM K 430 "pacts_told" 384 383 "Stand.pacts_told",
 yM K 430 "is_own" 412 411 "Stand.is_own",
 yG K "close_shelf" 636 635 "close_shelf",
 yG K "shut_all" 643 642 "shut_all",
 yG K "row_number" 736 735 "row_number",
 yG K "jump_step" 765 764 "jump_step",
 yG K "done_step" 772 771 "done_step",
 yG K "throw_step" 779 778 "throw_step",
 yG K "arguments" 786 785 "arguments",
 yG K "one_catch" 793 792 "one_catch"]
def zval1 (w : World) : List (List YOb) := [yEv 239 [.ref 31, .type "ValueError", .type "Exception", .type "BaseException", .type "object"],
 yNv ["at"],
 yBv 44,
 yEv 44 [.ref 31, .type "ValueError", .type "Exception", .type "BaseException", .type "object"],
 [.ov (some (some (.builtin "ValueError.__init__")))],
 yBv 68,
 yEv 68 [.ref 31, .type "ValueError", .type "Exception", .type "BaseException", .type "object"],
 [.ov (some (some (.builtin "ValueError.__init__")))],
 ySv [(87, .ref 87, true), (125, .ref 125, true), (182, .ref 182, true), (125, .ref 182, false), (220, .ref 220, true), (220, .ref 125, false), (220, .ref 239, false), (220, .ref 68, false), (220, .ref 44, false), (125, .ref 220, false), (125, .ref 239, false), (125, .ref 68, false), (125, .ref 44, false), (239, .ref 220, false), (239, .ref 125, false), (239, .ref 239, true), (239, .ref 68, false), (239, .ref 44, false), (68, .ref 220, false), (68, .ref 125, false), (68, .ref 239, false), (68, .ref 68, true), (68, .ref 44, false), (220, .ref 31, true), (125, .ref 31, true), (239, .ref 31, true), (68, .ref 31, true), (1381, .ref 1218, false)],
 yKv [(1381, 1218)],
 yMv "__init__" "NoWord.__init__" s_NoWord___init__ 84 83 .none,
 yMv "__init__" "NoPact.__init__" s_NoPact___init__ 103 102 .none,
 yMv "__init__" "NoHelper.__init__" s_NoHelper___init__ 122 121 .none,
 yMv "__init__" "NoBody.__init__" s_NoBody___init__ 179 178 .none,
 yMv "__init__" "NoSide.__init__" s_NoSide___init__ 217 216 .none,
 yMv "__init__" "NoThing.__init__" s_NoThing___init__ 236 235 .none,
 yMv "__init__" "Table.__init__" s_Table___init__ 255 254 .none,
 yMv "twin" "Table.twin" s_Table_twin 304 303 .none,
 yMv "__init__" "Stand.__init__" s_Stand___init__ 372 371 .none,
 yMv "copied" "Stand.copied" s_Stand_copied 377 376 .none,
 yMv "pacts_told" "Stand.pacts_told" s_Stand_pacts_told 384 383 .none,
 yMv "is_own" "Stand.is_own" s_Stand_is_own 412 411 .none,
 yGv "close_shelf" "close_shelf" s_close_shelf 636 635 .none,
 yGv "shut_all" "shut_all" s_shut_all 643 642 .none,
 yGv "row_number" "row_number" s_row_number 736 735 .none,
 yGv "jump_step" "jump_step" s_jump_step 765 764 .none,
 yGv "done_step" "done_step" s_done_step 772 771 .none,
 yGv "throw_step" "throw_step" s_throw_step 779 778 .none,
 yGv "arguments" "arguments" s_arguments 786 785 .none,
 yGv "one_catch" "one_catch" s_one_catch 793 792 .none]
def zobs2 (K : PySem.W.Frag) : List (List YOb) := [yG K "catches_of" 800 799 "catches_of",
 yG K "call_step" 807 806 "call_step",
 yG K "step_of" 814 813 "step_of",
 yG K "steps_of" 821 820 "steps_of",
 yG K "read_rows" 828 827 "read_rows",
 yM K 1218 "__init__" 1138 1137 "Side.__init__",
 yM K 1218 "read_body" 1145 1144 "Side.read_body",
 yM K 1218 "pacts" 1159 1158 "Side.pacts",
 yM K 1218 "number" 1166 1165 "Side.number",
 yM K 1381 "__init__" 1264 1263 "World.__init__",
 yM K 1381 "opened_anew" 1271 1270 "World.opened_anew",
 yM K 1381 "did" 1278 1277 "World.did",
 [.ov (PySem.W.findIn K (.ref 1381) "call"), .bb (PySem.W.isFn K (.ref 1289)), .bb (PySem.W.codeIn K (.ref 1288) "World.call"), .bb (PySem.W.keepIn K (.ref 1289)), .sq (ySq K 1281), .ov (PySem.W.nsIn K 1282 "picks"), .ov (PySem.W.nsIn K 1282 "most"), .fn (yFn K 1289)],
 yM K 1381 "let_go" 1296 1295 "World.let_go",
 yM K 1381 "close" 1310 1309 "World.close",
 yM K 1381 "back" 1317 1316 "World.back",
 yM K 1381 "held" 1324 1323 "World.held",
 yM K 1381 "shelf" 1331 1330 "World.shelf",
 yM K 1381 "closed" 1338 1337 "World.closed",
 yM K 1381 "broken" 1345 1344 "World.broken",
 yM K 1381 "log" 1352 1351 "World.log",
 yM K 1381 "story" 1357 1356 "World.story",
 yM K 1381 "__len__" 1371 1370 "World.__len__",
 yM K 1381 "__eq__" 1378 1377 "World.__eq__",
 yG K "is_name" 1395 1394 "is_name",
 yM K 1499 "__init__" 1410 1409 "Pacts.__init__",
 yM K 1499 "fits_pair" 1417 1416 "Pacts.fits_pair",
 yM K 1499 "fits_helper" 1422 1421 "Pacts.fits_helper",
 yM K 1499 "words_called" 1427 1426 "Pacts.words_called",
 yM K 1499 "pair_of" 1434 1433 "Pacts.pair_of"]
def zval2 (w : World) : List (List YOb) := [yGv "catches_of" "catches_of" s_catches_of 800 799 .none,
 yGv "call_step" "call_step" s_call_step 807 806 .none,
 yGv "step_of" "step_of" s_step_of 814 813 .none,
 yGv "steps_of" "steps_of" s_steps_of 821 820 .none,
 yGv "read_rows" "read_rows" s_read_rows 828 827 .none,
 yMv "__init__" "Side.__init__" s_Side___init__ 1138 1137 .none,
 yMv "read_body" "Side.read_body" s_Side_read_body 1145 1144 .none,
 yMv "pacts" "Side.pacts" s_Side_pacts 1159 1158 .none,
 yMv "number" "Side.number" s_Side_number 1166 1165 .none,
 yMv "__init__" "World.__init__" s_World___init__ 1264 1263 .none,
 yMv "opened_anew" "World.opened_anew" s_World_opened_anew 1271 1270 .none,
 yMv "did" "World.did" s_World_did 1278 1277 .none,
 [.ov (some (some (.ref 1289))), .bb (true), .bb (true), .bb (true), .sq (some (.type "tuple", [.ref 1279])), .ov (some (some (.ref 1280))), .ov (some (some (.int (200) 2051))), .fn (some ("call", "World.call", defArgs s_World_call, .stmts (defBody s_World_call), defScope s_World_call, mainGlobals, [], builtinsNs, (.ref 1281), (.ref 1282), .ref 1288))],
 yMv "let_go" "World.let_go" s_World_let_go 1296 1295 .none,
 yMv "close" "World.close" s_World_close 1310 1309 .none,
 yMv "back" "World.back" s_World_back 1317 1316 .none,
 yMv "held" "World.held" s_World_held 1324 1323 .none,
 yMv "shelf" "World.shelf" s_World_shelf 1331 1330 .none,
 yMv "closed" "World.closed" s_World_closed 1338 1337 .none,
 yMv "broken" "World.broken" s_World_broken 1345 1344 .none,
 yMv "log" "World.log" s_World_log 1352 1351 .none,
 yMv "story" "World.story" s_World_story 1357 1356 .none,
 yMv "__len__" "World.__len__" s_World___len__ 1371 1370 .none,
 yMv "__eq__" "World.__eq__" s_World___eq__ 1378 1377 .none,
 yGv "is_name" "is_name" s_is_name 1395 1394 .none,
 yMv "__init__" "Pacts.__init__" s_Pacts___init__ 1410 1409 .none,
 yMv "fits_pair" "Pacts.fits_pair" s_Pacts_fits_pair 1417 1416 .none,
 yMv "fits_helper" "Pacts.fits_helper" s_Pacts_fits_helper 1422 1421 .none,
 yMv "words_called" "Pacts.words_called" s_Pacts_words_called 1427 1426 .none,
 yMv "pair_of" "Pacts.pair_of" s_Pacts_pair_of 1434 1433 .none]
def zobs3 (K : PySem.W.Frag) : List (List YOb) := [yM K 1499 "names" 1446 1445 "Pacts.names",
 yM K 1499 "pact" 1453 1452 "Pacts.pact",
 yM K 1499 "laden" 1460 1459 "Pacts.laden",
 yM K 1499 "over" 1467 1466 "Pacts.over",
 yM K 1499 "errors" 1472 1471 "Pacts.errors",
 yM K 1499 "__eq__" 1486 1485 "Pacts.__eq__",
 yM K 1499 "lines_told" 1491 1490 "Pacts.lines_told",
 yG K "helper_line" 1517 1516 "helper_line",
 yG K "_law_box" 1522 1521 "_law_box",
 yG K "_law_mixed" 1529 1528 "_law_mixed",
 yG K "_law_take" 1536 1535 "_law_take",
 yG K "_law_name" 1541 1540 "_law_name",
 yG K "_law_names" 1548 1547 "_law_names",
 yG K "_law_drawn" 1553 1552 "_law_drawn",
 yG K "_law_bare" 1560 1559 "_law_bare",
 yG K "_law_refused" 1567 1566 "_law_refused",
 yG K "_law_all_refused" 1572 1571 "_law_all_refused",
 yG K "law" 1577 1576 "law",
 yG K "pocket_step" 743 742 "pocket_step",
 yG K "use_step" 750 749 "use_step",
 yG K "move_step" 757 756 "move_step",
 yM K 1218 "__eq__" 1215 1214 "Side.__eq__",
 yZ K ["list", "dict", "len", "int", "all", "str", "tuple", "enumerate", "sorted", "set", "range", "isinstance", "any"],
 yV K zcon,
 yT K "HOWS" 1396,
 yT K "POCKETS_rowtext" 729,
 yT K "HOLDERS" 731,
 yD K "PLAIN" 758 [("make", 743), ("use", 750), ("free", 743), ("clear", 743), ("forget", 743), ("move", 757), ("put", 743), ("take", 743)]]
def zval3 (w : World) : List (List YOb) := [yMv "names" "Pacts.names" s_Pacts_names 1446 1445 .none,
 yMv "pact" "Pacts.pact" s_Pacts_pact 1453 1452 .none,
 yMv "laden" "Pacts.laden" s_Pacts_laden 1460 1459 .none,
 yMv "over" "Pacts.over" s_Pacts_over 1467 1466 .none,
 yMv "errors" "Pacts.errors" s_Pacts_errors 1472 1471 .none,
 yMv "__eq__" "Pacts.__eq__" s_Pacts___eq__ 1486 1485 .none,
 yMv "lines_told" "Pacts.lines_told" s_Pacts_lines_told 1491 1490 .none,
 yGv "helper_line" "helper_line" s_helper_line 1517 1516 .none,
 yGv "_law_box" "_law_box" s__law_box 1522 1521 .none,
 yGv "_law_mixed" "_law_mixed" s__law_mixed 1529 1528 .none,
 yGv "_law_take" "_law_take" s__law_take 1536 1535 .none,
 yGv "_law_name" "_law_name" s__law_name 1541 1540 .none,
 yGv "_law_names" "_law_names" s__law_names 1548 1547 .none,
 yGv "_law_drawn" "_law_drawn" s__law_drawn 1553 1552 .none,
 yGv "_law_bare" "_law_bare" s__law_bare 1560 1559 .none,
 yGv "_law_refused" "_law_refused" s__law_refused 1567 1566 .none,
 yGv "_law_all_refused" "_law_all_refused" s__law_all_refused 1572 1571 .none,
 yGv "law" "law" s_law 1577 1576 .none,
 yGv "pocket_step" "pocket_step" s_pocket_step 743 742 .none,
 yGv "use_step" "use_step" s_use_step 750 749 .none,
 yGv "move_step" "move_step" s_move_step 757 756 .none,
 yMv "__eq__" "Side.__eq__" s_Side___eq__ 1215 1214 .none,
 yZv ["list", "dict", "len", "int", "all", "str", "tuple", "enumerate", "sorted", "set", "range", "isinstance", "any"],
 yVv zcon,
 yTv 1396 [("lent", 2294), ("given", 2295)],
 yTv 729 [("a", 1253), ("b", 1254), ("c", 1255), ("d", 1256), ("e", 1257)],
 yTv 731 [("a", 1253), ("b", 1254), ("c", 1255), ("d", 1256), ("e", 1257), ("shelf", 1259)],
 yDv w 758 [("make", 743), ("use", 750), ("free", 743), ("clear", 743), ("forget", 743), ("move", 757), ("put", 743), ("take", 743)]]
def zobs (K : PySem.W.Frag) : List (List (List YOb)) := [zobs0 K, zobs1 K, zobs2 K, zobs3 K]
def zval (w : World) : List (List (List YOb)) := [zval0 w, zval1 w, zval2 w, zval3 w]
def zas0 : List Addr := [mainGlobals, 314, 313, 430, 429, 1218, 1217, 1381, 1380, 1499, 1498, 31, 30, 87, 86, 106, 105, 125, 124, 182, 181, 220, 219, 239, 238, 44, 43, 68, 67, 1396, 729, 731, 758, 84, 83, 103, 102, 122, 121, 179]
def zas1 : List Addr := [178, 217, 216, 236, 235, 255, 254, 304, 303, 372, 371, 377, 376, 384, 383, 412, 411, 636, 635, 643, 642, 736, 735, 765, 764, 772, 771, 779, 778, 786, 785, 793, 792, 800, 799, 807, 806, 814, 813, 821]
def zas2 : List Addr := [820, 828, 827, 1138, 1137, 1145, 1144, 1159, 1158, 1166, 1165, 1264, 1263, 1271, 1270, 1278, 1277, 1289, 1288, 1281, 1282, 1279, 1280, 1296, 1295, 1310, 1309, 1317, 1316, 1324, 1323, 1331, 1330, 1338, 1337, 1345, 1344, 1352, 1351, 1357]
def zas3 : List Addr := [1356, 1371, 1370, 1378, 1377, 1395, 1394, 1410, 1409, 1417, 1416, 1422, 1421, 1427, 1426, 1434, 1433, 1446, 1445, 1453, 1452, 1460, 1459, 1467, 1466, 1472, 1471, 1486, 1485, 1491, 1490, 1517, 1516, 1522, 1521, 1529, 1528, 1536, 1535, 1541]
def zas4 : List Addr := [1540, 1548, 1547, 1553, 1552, 1560, 1559, 1567, 1566, 1572, 1571, 1577, 1576, 743, 742, 750, 749, 757, 756, 1215, 1214]
def zas : List Addr := zas0 ++ zas1 ++ zas2 ++ zas3 ++ zas4
def znm0 : List PySem.Str := ["_wall", "PactError", "Closed", "TooLong", "NothingDone", "NoWord", "NoPact", "NoHelper", "NoHandle", "Ended", "NoBody", "NoRow", "NoSide", "NoThing", "Table", "POCKETS_stand", "Snap", "Opened", "Stand", "need_living", "need_own", "need_room", "need_bare", "look_make", "look_use", "look_free", "look_forget", "look_move", "look_put", "look_take"]
def znm1 : List PySem.Str := ["look_call", "look_done", "look_throw", "LOOKS", "look_first", "TAKERS", "OUTER", "entered", "taken_in", "handed_over", "enter_from", "enter_first", "close_last", "carried_off", "came_out", "brought", "catch_of", "caught", "travels", "close_call", "close_shelf", "shut_all", "broke", "let_go_of", "do_make", "do_use", "do_free", "do_clear", "do_forget", "do_move"]
def znm2 : List PySem.Str := ["do_put", "do_take", "DEEDS", "goal_of", "do_step", "POCKETS_rowtext", "SHELF_rowtext", "HOLDERS", "FIGURES", "MOST_FIGURES", "row_number", "pocket_step", "use_step", "move_step", "PLAIN", "jump_step", "MOST_ROWS", "LEND", "GIVE", "done_step", "throw_step", "arguments", "one_catch", "catches_of", "call_step", "step_of", "steps_of", "read_rows", "OPEN", "SHUT"]
def znm3 : List PySem.Str := ["BLANK", "is_amiss", "read_lists", "is_list", "is_row", "LETTERS_said", "MOST_LETTERS", "MOST_NAMES", "MOST_STATEMENTS", "DEEPEST", "SHELF_said", "is_called", "name_shape", "use_shape", "pick_shape", "again_shape", "SHAPES", "done_shape", "throw_shape", "arm_shape", "arms_shape", "fits", "call_shape", "shape_of", "own_names", "Reading", "read_said", "POCKETS_turning", "SPARE", "SHELF_turning"]
def znm4 : List PySem.Str := ["Turning", "turned", "Side", "CALLS", "HANDLE_AT", "run_on", "need_things", "fresh_ones", "World", "bare_event", "LETTERS_naming", "MOST", "is_name", "MOST_PAIRS", "MOST_HELPERS", "MOST_TAKES", "MOST_THROWS", "HOWS", "Pacts", "pair_line", "helper_line", "_law_box", "_law_mixed", "_law_take", "_law_name", "_law_names", "_law_drawn", "_law_bare", "_law_refused", "_law_all_refused"]
def znm : List PySem.Str := znm0 ++ znm1 ++ znm2 ++ znm3 ++ znm4
abbrev zR : PySem.W.OpenRow := PySem.W.OpenLaw.row PySem.Challenge.rw_pactford_k23_worlds_at_first
abbrev zq : Program := PySem.W.view zR.prog [167]
abbrev zk : PySem.W.Hook := yHook zas zobs zval
def zob (s : PySem.W.SharedT) : List (List (List YOb)) := zobs (He.frG (HandSHeadRun.getT s) zas)
theorem zob_eq (s : PySem.W.SharedT) : zob s = zk.obs s.abs := yHook_eq s
def zobP0 (s : PySem.W.SharedT) : List (List (List YOb)) := [zobs0 (He.frG (HandSHeadRun.getT s) zas), zobs1 (He.frG (HandSHeadRun.getT s) zas)]
def zvalP0 (w : World) : List (List (List YOb)) := [zval0 w, zval1 w]
def zobP1 (s : PySem.W.SharedT) : List (List (List YOb)) := [zobs2 (He.frG (HandSHeadRun.getT s) zas)]
def zvalP1 (w : World) : List (List (List YOb)) := [zval2 w]
def zobP2 (s : PySem.W.SharedT) : List (List (List YOb)) := [zobs3 (He.frG (HandSHeadRun.getT s) zas)]
def zvalP2 (w : World) : List (List (List YOb)) := [zval3 w]
theorem zrunA_false (w : World) : yRunA zR 11776 (w.withFollow "special-get-raises" false) := by
  intro os
  kernel_rfl
theorem zrunA_true (w : World) : yRunA zR 11776 (w.withFollow "special-get-raises" true) := by
  intro os
  kernel_rfl
theorem zrunA (w : World) : yRunA zR 11776 w := PySem.W.byRow2 "special-get-raises" (P := fun w => yRunA zR 11776 w) zrunA_false zrunA_true w
theorem zrunB_false (w : World) : yRunB zR zq 11776 znm (w.withFollow "special-get-raises" false) := by
  intro os
  kernel_rfl
theorem zrunB_true (w : World) : yRunB zR zq 11776 znm (w.withFollow "special-get-raises" true) := by
  intro os
  kernel_rfl
theorem zrunB (w : World) : yRunB zR zq 11776 znm w := PySem.W.byRow2 "special-get-raises" (P := fun w => yRunB zR zq 11776 znm w) zrunB_false zrunB_true w
theorem zrunP0_false (w : World) : yRunO zR 11776 zobP0 zvalP0 (w.withFollow "special-get-raises" false) := by
  intro os
  kernel_rfl
theorem zrunP0_true (w : World) : yRunO zR 11776 zobP0 zvalP0 (w.withFollow "special-get-raises" true) := by
  intro os
  kernel_rfl
theorem zrunP0 (w : World) : yRunO zR 11776 zobP0 zvalP0 w := PySem.W.byRow2 "special-get-raises" (P := fun w => yRunO zR 11776 zobP0 zvalP0 w) zrunP0_false zrunP0_true w
theorem zrunP1_false (w : World) : yRunO zR 11776 zobP1 zvalP1 (w.withFollow "special-get-raises" false) := by
  intro os
  kernel_rfl
theorem zrunP1_true (w : World) : yRunO zR 11776 zobP1 zvalP1 (w.withFollow "special-get-raises" true) := by
  intro os
  kernel_rfl
theorem zrunP1 (w : World) : yRunO zR 11776 zobP1 zvalP1 w := PySem.W.byRow2 "special-get-raises" (P := fun w => yRunO zR 11776 zobP1 zvalP1 w) zrunP1_false zrunP1_true w
theorem zrunP2_false (w : World) : yRunO zR 11776 zobP2 zvalP2 (w.withFollow "special-get-raises" false) := by
  intro os
  kernel_rfl
theorem zrunP2_true (w : World) : yRunO zR 11776 zobP2 zvalP2 (w.withFollow "special-get-raises" true) := by
  intro os
  kernel_rfl
theorem zrunP2 (w : World) : yRunO zR 11776 zobP2 zvalP2 w := PySem.W.byRow2 "special-get-raises" (P := fun w => yRunO zR 11776 zobP2 zvalP2 w) zrunP2_false zrunP2_true w
theorem zrunL (w : World) : yRunL zR zq 11776 znm w := yRunL_of (zrunA w) (zrunB w)
theorem zrun (w : World) : HandSHeadRun.RunEq zR zq zk zob 11776 znm w := by
  refine yRun_of (zrunL w) fun os s h => ?_
  have h0 : zobP0 s = zvalP0 w := yRunO_at (zrunP0 w) h
  have h1 : zobP1 s = zvalP1 w := yRunO_at (zrunP1 w) h
  have h2 : zobP2 s = zvalP2 w := yRunO_at (zrunP2 w) h
  show zobs _ = zval w
  show zobP0 s ++ zobP1 s ++ zobP2 s = zvalP0 w ++ zvalP1 w ++ zvalP2 w
  rw [h0, h1, h2]
theorem zlaw (h : (PySem.W.OpenLaw.row PySem.Challenge.rw_pactford_k23_worlds_at_first).wellSaid = true → (PySem.W.OpenLaw.row PySem.Challenge.rw_pactford_k23_worlds_at_first).Holds) : PySem.Challenge.rw_pactford_k23_worlds_at_first.Holds := by
  w_on; o_law
  exact h (by assumption)
end Pf
set_option Elab.async false
set_option linter.all false
set_option maxRecDepth 100000
set_option maxHeartbeats 4000000
namespace L2
open PySem PySem.Spec PyProof.Rows
section
variable {X : Cx}
theorem get_list : PGet X (rIxL X.K) := by
  intro pins s σ H x y v u Q I rx ry h
  obtain ⟨p, xs, i, z, rfl, rfl, hq, he, q⟩ := h
  cases rx
  obtain ⟨t, rfl⟩ := ry
  obtain ⟨its, r, pl, hz⟩ := I.list hq
  obtain ⟨j, h1, h2, h3, h4, h5⟩ := atI_get he
  obtain ⟨w, ew, rw'⟩ := r.get h2
  have hl := r.length
  have hn := line63
  have fin : EP X pins σ Q w s := ⟨z, H, I, rw', q⟩
  by_cases h0 : 0 ≤ i
  · have hj : i.toNat = j := by
      rw [seqIndex_of h0 h5] at h1
      exact Option.some.inj h1
    exact wpAny_getItem_list pl.isList h0 (by omega) (by rw [hj]; simpa using ew) fin
  · have hj : (i + (its.toArray.size : Int)).toNat = j := by
      rw [seqIndex_neg (by omega) h4] at h1
      rw [List.size_toArray, ← hl]
      exact Option.some.inj h1
    exact wpAny_getItem_list_neg pl.isList (by omega) (by rw [List.size_toArray] <;> omega) (by omega) (by rw [hj]; simpa using ew) fin
end
section
variable {X : Cx} {CX : CXT} {k : Nat} {f C : Addr} {fd : FuncData} {ps ks : List Str} {sp : Sp} {E : XK} {x m : Str} {p pos apos kpos : Pos} {e o : Expr} {es : List Expr} {kws : List Keyword} {te ta : TE} {t tk : TA} {nm : Option Str}
variable {g : List Value → List Value → List Value} {gV : List V → List V → List V}
def tMethK (C : Addr) (m : Str) (sp : Sp) (gV : List V → List V → List V) (E : XK) (ta : TE) (t tk : TA) : TE := fun σ H Q => ta σ H fun x H1 => ∃ a dx fs, x = .ref a ∧ H1 a = some (.ins C dx fs) ∧ fs.lookup m = none ∧
  t σ H1 fun vs H2 => tk σ H2 fun zs H3 => sp (gV (x :: vs) zs) H3 Q E
theorem pe_methK0 {pl : Sem Bool} (he : PE X o ta) (c : Cls X.K C) (hm : Meth X.K C m f) (F : FnOk X.prog X.w X.K X.mg X.base CX k f fd ps sp) (hr : Room k X.A) (hb : KBinds X.K fd ps ks g gV) (hx : Passes CX X E) (hkw : PK X kws tk)
    (hall : (backToKw pos (keywordEach kws X.env)).all (·.1.isSome) = true := by rfl) (hks : (backToKw pos (keywordEach kws X.env)).filterMap (·.1) = ks := by rfl)
    (hpl : ((backTo pos (starEach [] X.env)).any (·.1) || (backToKw pos (keywordEach kws X.env)).any (·.1.isNone)) = false := by rfl)
    (ht : eval (.Call (.Attribute o m apos) [] kws pos) X.env = (do
      let ov ← eval o X.env
      standAt apos.atName
      let (f, first) ← holding [ov] (getMethod ov m pl)
      callWith pos f first (backTo pos (starEach [] X.env)) (backToKw pos (keywordEach kws X.env))) := by rfl) :
    PE X (.Call (.Attribute o m apos) [] kws pos) (tMethK C m sp gV E ta tNil tk) := by
  refine ⟨fun pins s σ H Q I h => ?_⟩
  refine PySem.W.methodCall_KW (pl := pl) (thn (he.run pins s σ H _ I h) fun u s1 ⟨x, H1, I1, rx, a, dx, fs, ex, ea, l, q⟩ => ?_) ht
  subst ex
  obtain rfl : u = Value.ref a := rx
  refine getmeth_ok I1 ea c hm l ?_
  refine PySem.W.callWith_KW0 (first := [.ref a]) (h₀ := X.base) I.ok.mod.kin hm.kp hall (thn (hkw.run pos pins s1 σ H1 _ I1 q) fun ws s2 ⟨zs, H2, I2, rz, q2⟩ => ⟨I2.kIn, ?_⟩) hpl
  rw [hks]
  exact run_fnk (us := [.ref a]) (vs := [.ref a]) F hr hb hx I2 (.cons rfl .nil) rz q2
theorem pe_methK {pl : Sem Bool} (he : PE X o ta) (c : Cls X.K C) (hm : Meth X.K C m f) (F : FnOk X.prog X.w X.K X.mg X.base CX k f fd ps sp) (hr : Room k X.A) (hb : KBinds X.K fd ps ks g gV) (hx : Passes CX X E) (ha : PA X (e :: es) t) (hkw : PK X kws tk)
    (hall : (backToKw pos (keywordEach kws X.env)).all (·.1.isSome) = true := by rfl) (hks : (backToKw pos (keywordEach kws X.env)).filterMap (·.1) = ks := by rfl)
    (hst : starEach (e :: es) X.env = (false, eval e X.env) :: starEach es X.env := by rfl)
    (hpl : ((backTo pos (starEach (e :: es) X.env)).any (·.1) || (backToKw pos (keywordEach kws X.env)).any (·.1.isNone)) = false := by rfl)
    (ht : eval (.Call (.Attribute o m apos) (e :: es) kws pos) X.env = (do
      let ov ← eval o X.env
      standAt apos.atName
      let (f, first) ← holding [ov] (getMethod ov m pl)
      callWith pos f first (backTo pos (starEach (e :: es) X.env)) (backToKw pos (keywordEach kws X.env))) := by rfl) :
    PE X (.Call (.Attribute o m apos) (e :: es) kws pos) (tMethK C m sp gV E ta t tk) := by
  refine ⟨fun pins s σ H Q I h => ?_⟩
  refine PySem.W.methodCall_KW (pl := pl) (thn (he.run pins s σ H _ I h) fun u s1 ⟨x, H1, I1, rx, a, dx, fs, ex, ea, l, q⟩ => ?_) ht
  subst ex
  obtain rfl : u = Value.ref a := rx
  refine getmeth_ok I1 ea c hm l ?_
  refine PySem.W.callWith_KW (first := [.ref a]) (h₀ := X.base) I.ok.mod.kin hm.kp hall (thn (ha.run pos pins s1 σ H1 _ I1 q) fun us s2 ⟨vs, H2, I2, r, q2⟩ => ?_) hpl hst
  refine thn (hkw.run pos pins s2 σ H2 _ I2 q2) fun ws s3 ⟨zs, H3, I3, rz, q3⟩ => ⟨I3.kIn, ?_⟩
  rw [hks]
  exact run_fnk (us := .ref a :: us) (vs := .ref a :: vs) F hr hb hx I3 (.cons rfl r) rz q3
theorem call_lenO (hm : Meth X.K C "__len__" f) (F : FnOk X.prog X.w X.K X.mg X.base CX k f fd ps sp) (hr : Room (k + 1) X.A) (hb : Binds X.K fd ps []) (hx : Passes CX X E) :
    CallR X (.builtin "len") (fun xs H Q => ∃ a dx fs, xs = [V.ref a] ∧ H a = some (.ins C dx fs) ∧ sp [.ref a] H (fun v H2 => ∃ n : Int, v = .int n ∧ 0 ≤ n ∧ n < 2 ^ 63 ∧ Q (.int n) H2) E) := by
  intro pins s σ H xs us Q I r h
  obtain ⟨a, dx, fs, rfl, ea, q⟩ := h
  obtain ⟨u, rfl, ru⟩ := vals1 r
  cases ru
  obtain ⟨m', hF⟩ := I.fr
  obtain ⟨mA, O, _, _, _, _⟩ := ins_get I.hok ea
  obtain ⟨od, J, _⟩ := O.look
  have hl : ([Value.ref a] ++ ([] : List Value)).length = ps.length := by
    have := F.len _ _ _ _ q
    simpa using this
  refine PySem.W.len_K hF I.ok.mod.kin J hm.at_ hm.fn (wpAny_call (codeAny_mono (F.run X.A.in1 X.stack s H ⟨[.ref a], []⟩ [.ref a] [.ref a] _ E hr.in1 I.env0.in1 (hb s [.ref a] I.kIn hl) (.cons rfl .nil) q) fun r s' hq => ?_))
  cases r with
  | error e => exact hx pins σ H s e s' I hq
  | ok fl =>
    cases fl with
    | ret u =>
      obtain ⟨v, H', I', rv, n, rfl, h0, h1, q'⟩ := I.after hq
      obtain ⟨t, rfl⟩ := rv
      exact ⟨⟨h0, h1⟩, .int n, H', I'.tok _, ⟨_, rfl⟩, q'⟩
    | next => exact False.elim hq
    | brk => exact False.elim hq
    | cont => exact False.elim hq
end
section
variable {X : Cx}
theorem gathered {P : Program} {w : World} {vs : List (Key × Value)} {acc : Array Value} {ks : List Int} (hk : vs.map (·.1) = ks.map Sum.inl) (hn : acc.size = vs.length)
    (ha : ∀ (j : Nat) (v : Value), acc[j]? = some v → ∃ k x, vs[j]? = some (k, x) ∧ (mixKind P w).is k v = true) : IntsAre acc.toList ks := by
  have hlk : vs.length = ks.length := by simpa using congrArg List.length hk
  refine ints_each (by rw [Array.length_toList, hn, hlk]) fun j v ev => ?_
  obtain ⟨k, x, hv, hi⟩ := ha j v (by rw [← Array.getElem?_toList]; exact ev)
  have hj : (ks.map (Sum.inl : Int → Key))[j]? = some k := by rw [← hk, List.getElem?_map, hv]; rfl
  rw [List.getElem?_map] at hj
  cases hz : ks[j]? with
  | none => rw [hz] at hj; cases hj
  | some n =>
    rw [hz] at hj
    cases hj
    rcases keyIs_shape (show keyIs (Sum.inl n) v = true from hi) with ⟨i, t, hl, hr⟩ | ⟨z, t, hl, _⟩
    · cases hl
      exact ⟨n, t, rfl, hr⟩
    · cases hl
def rSortD : List V → Hp → VK → Prop := fun xs H Q => ∃ (d : Addr) (kvs : List (Key × V)) (ks : List Int), xs = [.ref d] ∧ Rd H d (.dK kvs) ∧ kvs.map (·.1) = ks.map Sum.inl ∧
  ∀ (ys : List Int) (l : Addr), ys.Perm ks → ys.Pairwise (· ≤ ·) → H l = none → Q (.ref l) (upd H l (.lst (ys.map V.int)))
theorem call_sortedDX (hcalm : X.calm = true) : CallR X (.builtin "sorted") rSortD := by
  intro pins s σ H xs us Q I r h
  obtain ⟨d, kvs, ks, rfl, hd, hks, q⟩ := h
  obtain ⟨u, rfl, ru⟩ := vals1 r
  cases ru
  obtain ⟨hsz, hmod, vs, hkv, hD⟩ := dk_rd I.hok hd
  obtain ⟨ep, hat⟩ := hD.dictAt
  have hvk : vs.map (·.1) = ks.map Sum.inl := hkv.keys.symm.trans hks
  have hvl : vs.length = kvs.length := by
    have e1 : vs.length = ks.length := by simpa using congrArg List.length hvk
    have e2 : kvs.length = ks.length := by simpa using congrArg List.length hks
    omega
  have hvs : vs.length ≤ sizeLine := hvl ▸ hsz
  refine Calls.call_function_entry kind_sorted plain_sorted entry_sorted (args_sorted1 _) ?_
  unfold Builtin.«sorted»
  refine wpAny_bind (m := checkCount "sorted" 1 1 _) (wpAny_pure (wpAny_bind ?_))
  refine PySem.W.kdu_collect (A := X.A.in1) (PySem.W.kdl_dict (knd := mixKind X.prog X.w) (kvs := vs) (ep := ep) hmod) (I.ok.hd hcalm) hat hvs fun hp tk acc hold hacc => ?_
  have J : Inv X pins σ H { s with heap := hp, toks := tk } := I.kept hold
  have hint : IntsAre acc.toList ks := gathered hvk hacc.1 hacc.2
  have hal : acc.toList.length ≤ sizeLine := by rw [Array.length_toList, hacc.1]; exact hvs
  refine wpAny_bind (wpAny_newList ?_ hal)
  have hnew : (hp.push (seqObj "list" acc.toList.toArray 0)).get? hp.objs.size = some (seqObj "list" acc.toList.toArray 0) := Heap.get?_push_size _ rfl
  show wpAny _ _ _ _ _ (Shared.mk (hp.push (seqObj "list" acc.toList.toArray 0)) s.gens s.drawn tk s.os)
  refine wpAny_bind (wpAny_holding (wpAny_call_entry slot_list_sort ⟨_, hnew, rfl⟩ entry_list_sort ?_ (args_list_sort _)))
  refine SrtO.list_sort_ord (s := Shared.mk (hp.push (seqObj "list" acc.toList.toArray 0)) s.gens s.drawn tk s.os) SrtO.swo_int hnew hal (fun h2 => SrtO.ints_sortable hint h2) fun out h1 h2 => ⟨_, rfl, ?_⟩
  obtain ⟨k1, k2, k3⟩ := SrtO.ints_out hint h1 h2
  obtain ⟨e', he'⟩ := sortedHeap_at (vs := acc.toList) (out := out.toArray) hnew
  have hol : ((out.map SrtO.iv).map V.int).length ≤ sizeLine := by
    have : ks.length = vs.length := by simpa using (congrArg List.length hvk).symm
    rw [List.length_map, k2.length_eq, this]
    exact hvs
  refine wpAny_pure ⟨_, rfl, .ref hp.objs.size, upd H hp.objs.size (.lst ((out.map SrtO.iv).map V.int)), ?_, rfl, q _ _ k2 k3 (J.hok.fresh (Nat.le_refl _))⟩
  refine J.laid (t' := tk) (fun b u e => ?_) (Nat.le_refl _) (show ObjOk X.prog X.w _ _ _ (.lst ((out.map SrtO.iv).map V.int)) from ⟨hol, out, e', vals_of_ints k1, he'⟩)
  have hb : b < hp.objs.size := Heap.lt_size e
  rw [sortedHeap_old (Nat.ne_of_lt hb) (by rw [size_push']; exact Nat.lt_succ_of_lt hb)]
  exact Heap.get?_push_of_some _ e
end
section
variable {X : Cx}
@[irreducible] def tMid (t u : TS) : TS := fun D σ H => ∃ Mid : St → Hp → Prop, t { D with nx := Mid } σ H ∧ ∀ σ' H', Mid σ' H' → u D σ' H'
theorem pss_mid {st : Stmt} {rest : List Stmt} {t u : TS} (h1 : PS X st t) (h2 : PSs X rest u) : PSs X (st :: rest) (tMid t u) := by
  refine ⟨fun pins s σ H D I h => ?_⟩
  unfold tMid at h
  obtain ⟨Mid, hm, hu⟩ := h
  refine wpAny_execs_cons (thn (h1.run pins s σ H { D with nx := Mid } I hm) fun f s1 q => ?_)
  cases f with
  | next =>
    obtain ⟨σ', H', I', q⟩ := q
    exact h2.run pins s1 σ' H' D I' (hu σ' H' q)
  | ret v => exact q
  | brk => exact q
  | cont => exact q
end
@[irreducible] def Wait (p : Prop) : Prop := p
theorem wait {p : Prop} (h : p) : Wait p := by
  unfold Wait
  exact h
theorem Wait.out {p : Prop} (h : Wait p) : p := by
  unfold Wait at h
  exact h
theorem mid_of {t u : TS} {D : Ends} {σ : St} {H : Hp} (Mid : St → Hp → Prop) (h1 : t { D with nx := fun σ H => Wait (Mid σ H) } σ H) (h2 : ∀ σ' H', Mid σ' H' → u D σ' H') : tMid t u D σ H := by
  unfold tMid
  exact ⟨fun σ H => Wait (Mid σ H), h1, fun σ' H' h => h2 σ' H' h.out⟩
@[irreducible] def tStop (t : TS) : TS := t
theorem ps_stop {X : Cx} {st : Stmt} {t : TS} (h : PS X st t) : PS X st (tStop t) := by
  unfold tStop
  exact h
theorem stop_in {t : TS} {D : Ends} {σ : St} {H : Hp} (h : t D σ H) : tStop t D σ H := by
  unfold tStop
  exact h
theorem sq_seq {t u : TS} {D : Ends} {σ : St} {H : Hp} (h : t { D with nx := u D } σ H) : tSeq t u D σ H := h
theorem ifT {c : Bool} {A B : Prop} (hc : c = true) (h : A) : if c = true then A else B := by rw [if_pos hc]; exact h
theorem ifF {c : Bool} {A B : Prop} (hc : c = false) (h : B) : if c = true then A else B := by rw [hc, if_neg Bool.false_ne_true]; exact h
theorem ifD {p : Prop} [Decidable p] {A B : Prop} (h1 : p → A) (h2 : ¬ p → B) : if decide p = true then A else B := by
  by_cases h : p
  · rw [if_pos (decide_eq_true h)]; exact h1 h
  · rw [if_neg (by rw [decide_eq_false h]; exact Bool.false_ne_true)]; exact h2 h
theorem ifN {p : Prop} [Decidable p] {A B : Prop} (h1 : ¬ p → A) (h2 : p → B) : if (!decide p) = true then A else B := by
  by_cases h : p
  · rw [decide_eq_true h, if_neg (by decide)]; exact h2 h
  · rw [decide_eq_false h, if_pos (by decide)]; exact h1 h
theorem ifB {c : Bool} {A B : Prop} (h1 : c = true → A) (h2 : c = false → B) : if c = true then A else B := by
  cases c with
  | true => rw [if_pos rfl]; exact h1 rfl
  | false => rw [if_neg Bool.false_ne_true]; exact h2 rfl
theorem upd_get {H : Hp} {a b : Addr} {o : HO} {u : Option HO} (h : b ≠ a) (e : H b = u) : upd H a o b = u := (upd_ne h).trans e
theorem fmod_pos {i j : Int} (h : 0 < j) : 0 ≤ i.fmod j ∧ i.fmod j < j := ⟨Int.fmod_nonneg_of_pos _ h, Int.fmod_lt_of_pos _ h⟩
theorem atI_in {α : Type} {xs : List α} {i : Int} (h0 : 0 ≤ i) (h1 : i < (xs.length : Int)) : ∃ v, atI xs i = some v ∧ xs[i.toNat]? = some v := by
  obtain ⟨j, rfl⟩ : ∃ j : Nat, i = (j : Int) := ⟨i.toNat, by omega⟩
  have hj : j < xs.length := by omega
  have e : xs[j]? = some xs[j] := List.getElem?_eq_getElem hj
  exact ⟨_, atI_nat e, by rw [Int.toNat_natCast]; exact e⟩
theorem atI_ints {ns : List Int} {i : Int} (h0 : 0 ≤ i) (h1 : i < (ns.length : Int)) : ∃ z, atI (ns.map V.int) i = some (.int z) ∧ ns[i.toNat]? = some z := by
  obtain ⟨v, e1, e2⟩ := atI_in (xs := ns.map V.int) h0 (by rw [List.length_map]; exact h1)
  rw [List.getElem?_map] at e2
  cases e : ns[i.toNat]? with
  | none => rw [e] at e2; cases e2
  | some z =>
    rw [e] at e2
    cases e2
    exact ⟨z, e1, rfl⟩
theorem while_W {c : TT} {tb : TS} {D : Ends} {σ : St} {H : Hp} (W : Nat → St → Hp → Prop) (m : Nat) (h0 : W m σ H)
    (hs : ∀ m σ H, W m σ H → c σ H fun b H1 => if b = true then ∃ N : St → Hp → Prop, (∀ σ' H', N σ' H' → ∃ m', m' < m ∧ W m' σ' H') ∧ tb { D with nx := N, ct := N, bk := D.nx } σ H1 else D.nx σ H1) : tStop (tWhile c tb) D σ H :=
  stop_in ⟨W, ⟨m, h0⟩, hs⟩
theorem next_W {tb : TS} {D : Ends} {σ : St} {H : Hp} {W : Nat → St → Hp → Prop} {m : Nat}
    (h : tb { D with nx := fun σ' H' => Wait (∃ m', m' < m ∧ W m' σ' H'), ct := fun σ' H' => Wait (∃ m', m' < m ∧ W m' σ' H'), bk := D.nx } σ H) :
    ∃ N : St → Hp → Prop, (∀ σ' H', N σ' H' → ∃ m', m' < m ∧ W m' σ' H') ∧ tb { D with nx := N, ct := N, bk := D.nx } σ H := ⟨_, fun _ _ h => h.out, h⟩
theorem forL {K : PySem.W.Frag} {a : Addr} {xs : List V} {g : TG} {tb : TS} {D : Ends} {σ : St} {H : Hp} (Pv : Nat → St → Hp → Prop) (h0 : Pv 0 σ H) (hl : ∀ i σ H, i ≤ xs.length → Pv i σ H → SqL K H a xs)
    (hs : ∀ i x σ H, xs[i]? = some x → Pv i σ H → g x σ H fun σ2 H2 => tb { D with nx := fun σ H => Wait (Pv (i + 1) σ H), ct := fun σ H => Wait (Pv (i + 1) σ H), bk := D.nx } σ2 H2) (hd : ∀ σ H, Pv xs.length σ H → D.nx σ H) :
    ∃ W : Nat → Nat → St → Hp → Prop, (∃ m, W 0 m σ H) ∧ ∀ i m σ H, W i m σ H →
      ((Itl K a).stop i H ∧ D.nx σ H) ∨ ((Itl K a).go i H ∧ ∃ N : St → Hp → Prop, (∀ σ' H', N σ' H' → ∃ m', m' < m ∧ W (i + 1) m' σ' H') ∧ ∀ x H', (Itl K a).yld i H x H' → g x σ H' fun σ2 H2 => tb { D with nx := N, ct := N, bk := D.nx } σ2 H2) :=
  for_list (fun i σ H => Wait (Pv i σ H)) (wait h0) (fun i σ H hi p => hl i σ H hi p.out) (fun i x σ H hx p => hs i x σ H hx p.out) fun σ H p => hd σ H p.out
theorem forT {K : PySem.W.Frag} {a : Addr} {xs : List V} {g : TG} {tb : TS} {D : Ends} {σ : St} {H : Hp} (Pv : Nat → St → Hp → Prop) (h0 : Pv 0 σ H) (hl : ∀ i σ H, i ≤ xs.length → Pv i σ H → SqT K H a xs)
    (hs : ∀ i x σ H, xs[i]? = some x → Pv i σ H → g x σ H fun σ2 H2 => tb { D with nx := fun σ H => Wait (Pv (i + 1) σ H), ct := fun σ H => Wait (Pv (i + 1) σ H), bk := D.nx } σ2 H2) (hd : ∀ σ H, Pv xs.length σ H → D.nx σ H) :
    ∃ W : Nat → Nat → St → Hp → Prop, (∃ m, W 0 m σ H) ∧ ∀ i m σ H, W i m σ H →
      ((Itt K a).stop i H ∧ D.nx σ H) ∨ ((Itt K a).go i H ∧ ∃ N : St → Hp → Prop, (∀ σ' H', N σ' H' → ∃ m', m' < m ∧ W (i + 1) m' σ' H') ∧ ∀ x H', (Itt K a).yld i H x H' → g x σ H' fun σ2 H2 => tb { D with nx := N, ct := N, bk := D.nx } σ2 H2) :=
  for_tup (fun i σ H => Wait (Pv i σ H)) (wait h0) (fun i σ H hi p => hl i σ H hi p.out) (fun i x σ H hx p => hs i x σ H hx p.out) fun σ H p => hd σ H p.out
theorem forR {lo : Int} {n : Nat} {g : TG} {tb : TS} {D : Ends} {σ : St} {H : Hp} (Pv : Nat → St → Hp → Prop) (h0 : Pv 0 σ H)
    (hs : ∀ i σ H, i < n → Pv i σ H → g (.int (lo + i)) σ H fun σ2 H2 => tb { D with nx := fun σ H => Wait (Pv (i + 1) σ H), ct := fun σ H => Wait (Pv (i + 1) σ H), bk := D.nx } σ2 H2) (hd : ∀ σ H, Pv n σ H → D.nx σ H) :
    ∃ W : Nat → Nat → St → Hp → Prop, (∃ m, W 0 m σ H) ∧ ∀ i m σ H, W i m σ H →
      ((Itr lo n).stop i H ∧ D.nx σ H) ∨ ((Itr lo n).go i H ∧ ∃ N : St → Hp → Prop, (∀ σ' H', N σ' H' → ∃ m', m' < m ∧ W (i + 1) m' σ' H') ∧ ∀ x H', (Itr lo n).yld i H x H' → g x σ H' fun σ2 H2 => tb { D with nx := N, ct := N, bk := D.nx } σ2 H2) :=
  for_range (fun i σ H => Wait (Pv i σ H)) (wait h0) (fun i σ H hi p => hs i σ H hi p.out) fun σ H p => hd σ H p.out
theorem lcL {K : PySem.W.Frag} {a : Addr} {xs : List V} {g : TG} {tt : TT} {te : TE} {vs : List Nat} {σ : St} {H1 : Hp} {D : Addr} {Qd : Hp → Prop} (Pv : Nat → Hp → Prop) (h0 : Pv 0 (upd H1 D (.lst []))) (hl : ∀ i H, i ≤ xs.length → Pv i H → SqL K H a xs)
    (hs : ∀ i x H, xs[i]? = some x → Pv i H → g x (wipe σ vs) H fun σ2 H2 => wipe σ2 vs = wipe σ vs ∧ tt σ2 H2 fun b H3 =>
      if b = true then te σ2 H3 fun y H4 => ∃ acc, H4 D = some (.lst acc) ∧ acc.length < sizeLine ∧ Wait (Pv (i + 1) (upd H4 D (.lst (acc ++ [y])))) else Wait (Pv (i + 1) H3)) (hd : ∀ H, Pv xs.length H → Qd H) :
    ∃ W : Nat → Nat → Hp → Prop, (∃ m, W 0 m (upd H1 D (.lst []))) ∧ ∀ i m H, W i m H →
      ((Itl K a).stop i H ∧ Qd H) ∨ ((Itl K a).go i H ∧ ∃ Nx : Hp → Prop, (∀ H', Nx H' → ∃ m', m' < m ∧ W (i + 1) m' H') ∧ ∀ x H', (Itl K a).yld i H x H' → g x (wipe σ vs) H' fun σ2 H2 => wipe σ2 vs = wipe σ vs ∧ tt σ2 H2 fun b H3 =>
        if b = true then te σ2 H3 fun y H4 => ∃ acc, H4 D = some (.lst acc) ∧ acc.length < sizeLine ∧ Nx (upd H4 D (.lst (acc ++ [y]))) else Nx H3) :=
  lc_list (fun i H => Wait (Pv i H)) (wait h0) (fun i H hi p => hl i H hi p.out) (fun i x H hx p => hs i x H hx p.out) fun H p => hd H p.out
theorem lcT {K : PySem.W.Frag} {a : Addr} {xs : List V} {g : TG} {tt : TT} {te : TE} {vs : List Nat} {σ : St} {H1 : Hp} {D : Addr} {Qd : Hp → Prop} (Pv : Nat → Hp → Prop) (h0 : Pv 0 (upd H1 D (.lst []))) (hl : ∀ i H, i ≤ xs.length → Pv i H → SqT K H a xs)
    (hs : ∀ i x H, xs[i]? = some x → Pv i H → g x (wipe σ vs) H fun σ2 H2 => wipe σ2 vs = wipe σ vs ∧ tt σ2 H2 fun b H3 =>
      if b = true then te σ2 H3 fun y H4 => ∃ acc, H4 D = some (.lst acc) ∧ acc.length < sizeLine ∧ Wait (Pv (i + 1) (upd H4 D (.lst (acc ++ [y])))) else Wait (Pv (i + 1) H3)) (hd : ∀ H, Pv xs.length H → Qd H) :
    ∃ W : Nat → Nat → Hp → Prop, (∃ m, W 0 m (upd H1 D (.lst []))) ∧ ∀ i m H, W i m H →
      ((Itt K a).stop i H ∧ Qd H) ∨ ((Itt K a).go i H ∧ ∃ Nx : Hp → Prop, (∀ H', Nx H' → ∃ m', m' < m ∧ W (i + 1) m' H') ∧ ∀ x H', (Itt K a).yld i H x H' → g x (wipe σ vs) H' fun σ2 H2 => wipe σ2 vs = wipe σ vs ∧ tt σ2 H2 fun b H3 =>
        if b = true then te σ2 H3 fun y H4 => ∃ acc, H4 D = some (.lst acc) ∧ acc.length < sizeLine ∧ Nx (upd H4 D (.lst (acc ++ [y]))) else Nx H3) :=
  lc_tup (fun i H => Wait (Pv i H)) (wait h0) (fun i H hi p => hl i H hi p.out) (fun i x H hx p => hs i x H hx p.out) fun H p => hd H p.out
theorem lcR {lo : Int} {n : Nat} {g : TG} {tt : TT} {te : TE} {vs : List Nat} {σ : St} {H1 : Hp} {D : Addr} {Qd : Hp → Prop} (Pv : Nat → Hp → Prop) (h0 : Pv 0 (upd H1 D (.lst [])))
    (hs : ∀ i H, i < n → Pv i H → g (.int (lo + i)) (wipe σ vs) H fun σ2 H2 => wipe σ2 vs = wipe σ vs ∧ tt σ2 H2 fun b H3 =>
      if b = true then te σ2 H3 fun y H4 => ∃ acc, H4 D = some (.lst acc) ∧ acc.length < sizeLine ∧ Wait (Pv (i + 1) (upd H4 D (.lst (acc ++ [y])))) else Wait (Pv (i + 1) H3)) (hd : ∀ H, Pv n H → Qd H) :
    ∃ W : Nat → Nat → Hp → Prop, (∃ m, W 0 m (upd H1 D (.lst []))) ∧ ∀ i m H, W i m H →
      ((Itr lo n).stop i H ∧ Qd H) ∨ ((Itr lo n).go i H ∧ ∃ Nx : Hp → Prop, (∀ H', Nx H' → ∃ m', m' < m ∧ W (i + 1) m' H') ∧ ∀ x H', (Itr lo n).yld i H x H' → g x (wipe σ vs) H' fun σ2 H2 => wipe σ2 vs = wipe σ vs ∧ tt σ2 H2 fun b H3 =>
        if b = true then te σ2 H3 fun y H4 => ∃ acc, H4 D = some (.lst acc) ∧ acc.length < sizeLine ∧ Nx (upd H4 D (.lst (acc ++ [y]))) else Nx H3) :=
  lc_range (fun i H => Wait (Pv i H)) (wait h0) (fun i H hi p => hs i H hi p.out) fun H p => hd H p.out
theorem ints_at {ns : List Int} {i : Nat} {y : V} (h : (ns.map V.int)[i]? = some y) : ∃ u, y = V.int u ∧ ns[i]? = some u ∧ i < ns.length := by
  rw [List.getElem?_map] at h
  cases e : ns[i]? with
  | none => rw [e] at h; cases h
  | some u =>
    rw [e] at h
    exact ⟨u, (Option.some.inj h).symm, rfl, (List.getElem?_eq_some_iff.mp e).1⟩
theorem filt_len {α : Type} (p : α → Bool) (xs : List α) (i : Nat) : ((xs.take i).filter p).length ≤ xs.length := Nat.le_trans (List.length_filter_le _ _) (by rw [List.length_take]; omega)
theorem take_filt_yes {α : Type} {p : α → Bool} {xs : List α} {i : Nat} {x : α} (h : xs[i]? = some x) (hp : p x = true) : (xs.take (i + 1)).filter p = (xs.take i).filter p ++ [x] := by
  rw [List.take_add_one, h, Option.toList_some, List.filter_append, List.filter_cons, if_pos hp] <;> rfl
theorem take_filt_no {α : Type} {p : α → Bool} {xs : List α} {i : Nat} {x : α} (h : xs[i]? = some x) (hp : p x = false) : (xs.take (i + 1)).filter p = (xs.take i).filter p := by
  rw [List.take_add_one, h, Option.toList_some, List.filter_append, List.filter_cons, if_neg (by rw [hp]; decide), List.filter_nil, List.append_nil]
theorem small_lt {n : Nat} (h : n ≤ 100000) : n < sizeLine := Nat.lt_of_le_of_lt h (by decide)
theorem small_le {n : Nat} (h : n ≤ 100000) : n ≤ sizeLine := Nat.le_of_lt (small_lt h)
theorem isi_b {K : PySem.W.Frag} {H : Hp} {Q : VK} {x : V} {t c : String} {b : Bool} (ty : TyX K H x (.type t)) (h : kitB t c = some b) (q : Q (.bl b) H) : rIsi K [x, .ty c] H Q :=
  ⟨x, .ty c, .type t, .type c, b, rfl, .ty c, ty, kit_ty h, q⟩
theorem Same.seqT {K : PySem.W.Frag} {H H' : Hp} {a : Addr} {xs : List V} (e : Same H H') (h : SqT K H a xs) : SqT K H' a xs := by
  rcases h with (h | ⟨o, h⟩) | h
  · exact .inl (.inl (e _ _ h))
  · exact .inl (.inr ⟨o, e _ _ h⟩)
  · exact .inr h
theorem Same.upd_new {H : Hp} {p : Addr} {o : HO} (h : H p = none) : Same H (upd H p o) := fun b u e => by rw [upd_ne (ne_of_none e h)]; exact e
mutual
theorem Dp.same {K : PySem.W.Frag} {H H' : Hp} (e : Same H H') : ∀ {v : V} {d : PyData}, Dp K H v d → Dp K H' v d
  | _, _, .non => .non
  | _, _, .bl b => .bl b
  | _, _, .int i => .int i
  | _, _, .str x => .str x
  | _, _, .lst h r => .lst (e.seq h) (DpAll.same e r)
  | _, _, .tup h r => .tup (e.seqT h) (DpAll.same e r)
theorem DpAll.same {K : PySem.W.Frag} {H H' : Hp} (e : Same H H') : ∀ {vs : List V} {ds : List PyData}, DpAll K H vs ds → DpAll K H' vs ds
  | _, _, .nil => .nil
  | _, _, .cons h r => .cons (Dp.same e h) (DpAll.same e r)
end
theorem DpAll.snoc {K : PySem.W.Frag} {H : Hp} : ∀ {vs : List V} {ds : List PyData} {v : V} {d : PyData}, DpAll K H vs ds → Dp K H v d → DpAll K H (vs ++ [v]) (ds ++ [d])
  | _, _, _, _, .nil, h => .cons h .nil
  | _, _, _, _, .cons a r, h => .cons a (DpAll.snoc r h)
theorem DpAll.len {K : PySem.W.Frag} {H : Hp} : ∀ {vs : List V} {ds : List PyData}, DpAll K H vs ds → vs.length = ds.length
  | _, _, .nil => rfl
  | _, _, .cons _ r => by rw [List.length_cons, List.length_cons, DpAll.len r]
def pairD (p : Int × Int) : PyData := .tuple [.int p.1, .int p.2]
theorem pairD_of {K : PySem.W.Frag} {H : Hp} {t : Addr} {p : Int × Int} (h : H t = some (.tup [.int p.1, .int p.2])) : Dp K H (.ref t) (pairD p) := .tup (SqT.of h) (.cons (.int _) (.cons (.int _) .nil))
theorem lay_pairs : ∀ l : List (Int × Int), PyData.canLayAll0 (l.map pairD) = true
  | [] => rfl
  | p :: r => by
    show (PyData.canLay0 (pairD p) && PyData.canLayAll0 (r.map pairD)) = true
    rw [lay_pairs r] <;> rfl
theorem depth_pairs : ∀ l : List (Int × Int), PyData.depthAll (l.map pairD) ≤ 1
  | [] => Nat.zero_le _
  | p :: r => by
    show max (PyData.depth (pairD p)) (PyData.depthAll (r.map pairD)) ≤ 1
    have := depth_pairs r
    have e : PyData.depth (pairD p) = 1 := rfl
    omega
theorem shaped_pairs (l : List (Int × Int)) : SeqAt.shaped (.list (l.map pairD)) = true := by
  unfold SeqAt.shaped
  rw [Bool.and_eq_true]
  refine ⟨lay_pairs l, decide_eq_true ?_⟩
  show PyData.depthAll (l.map pairD) + 1 ≤ 64
  have := depth_pairs l
  omega
theorem shaped_pair (p : Int × Int) : SeqAt.shaped (pairD p) = true := rfl
theorem eqv_self {d : PyData} (h : SeqAt.shaped d = true) : PyData.eqv d d = true := SeqAt.eqv_refl d (SeqAt.canLay_of_shaped h)
theorem ifYes {p : Prop} [Decidable p] {A B : Prop} (h : p) (hA : A) : if decide p = true then A else B := ifT (decide_eq_true h) hA
theorem ifNo {p : Prop} [Decidable p] {A B : Prop} (h : ¬ p) (hB : B) : if decide p = true then A else B := ifF (decide_eq_false h) hB
theorem ifNY {p : Prop} [Decidable p] {A B : Prop} (h : ¬ p) (hA : A) : if (!decide p) = true then A else B := ifT (by rw [decide_eq_false h]; rfl) hA
theorem ifNN {p : Prop} [Decidable p] {A B : Prop} (h : p) (hB : B) : if (!decide p) = true then A else B := ifF (by rw [decide_eq_true h]; rfl) hB
theorem forK {d : Addr} {o : Obj} {kvs : List (Key × V)} {g : TG} {tb : TS} {D : Ends} {σ : St} {H : Hp} (Pv : Nat → St → Hp → Prop) (h0 : Pv 0 σ H) (hl : ∀ i σ H, i ≤ kvs.length → Pv i σ H → H d = some (.frz o (.dK kvs)))
    (hs : ∀ (i : Nat) (k : Key) (v : V) (σ : St) (H : Hp), kvs[i]? = some (k, v) → Pv i σ H → g (kV k) σ H fun σ2 H2 => tb { D with nx := fun σ H => Wait (Pv (i + 1) σ H), ct := fun σ H => Wait (Pv (i + 1) σ H), bk := D.nx } σ2 H2) (hd : ∀ σ H, Pv kvs.length σ H → D.nx σ H) :
    ∃ W : Nat → Nat → St → Hp → Prop, (∃ m, W 0 m σ H) ∧ ∀ i m σ H, W i m σ H →
      ((Itk d o kvs).stop i H ∧ D.nx σ H) ∨ ((Itk d o kvs).go i H ∧ ∃ N : St → Hp → Prop, (∀ σ' H', N σ' H' → ∃ m', m' < m ∧ W (i + 1) m' σ' H') ∧ ∀ x H', (Itk d o kvs).yld i H x H' → g x σ H' fun σ2 H2 => tb { D with nx := N, ct := N, bk := D.nx } σ2 H2) := by
  refine ⟨fun i m σ H => m = kvs.length - i ∧ i ≤ kvs.length ∧ Wait (Pv i σ H), ⟨kvs.length, by simp, Nat.zero_le _, wait h0⟩, ?_⟩
  rintro i m σ H ⟨rfl, hi, p⟩
  have q := hl i σ H hi p.out
  by_cases hlt : i < kvs.length
  · refine .inr ⟨⟨q, hlt⟩, fun σ H => Wait (Pv (i + 1) σ H), fun σ' H' p' => ⟨kvs.length - (i + 1), by omega, rfl, hlt, p'⟩, fun x H' y => ?_⟩
    obtain ⟨rfl, k, v, e, rfl⟩ := y
    exact hs i k v σ _ e p.out
  · have e : i = kvs.length := by omega
    subst e
    exact .inl ⟨⟨q, Nat.le_refl _⟩, hd σ H p.out⟩
def Tups (H : Hp) (ts : List Addr) (ps : List (Int × Int)) : Prop := Paired (fun (t : Addr) (p : Int × Int) => H t = some (.tup [.int p.1, .int p.2])) ts ps
theorem Tups.keep {H H' : Hp} {ts : List Addr} {ps : List (Int × Int)} (h : Tups H ts ps) (k : ∀ t xs, H t = some (.tup xs) → H' t = some (.tup xs)) : Tups H' ts ps := Paired.mapP h fun _ _ e => k _ _ e
theorem Tups.dp {K : PySem.W.Frag} {H : Hp} {ts : List Addr} {ps : List (Int × Int)} (h : Tups H ts ps) : DpAll K H (ts.map V.ref) (ps.map pairD) := by
  unfold Tups at h
  induction h with
  | nil => exact .nil
  | cons e _ ih => exact .cons (pairD_of e) ih
theorem Tups.snoc {H : Hp} {ts : List Addr} {ps : List (Int × Int)} {t : Addr} {p : Int × Int} (h : Tups H ts ps) (e : H t = some (.tup [.int p.1, .int p.2])) : Tups H (ts ++ [t]) (ps ++ [p]) := Paired.snoc h e
theorem Tups.len {H : Hp} {ts : List Addr} {ps : List (Int × Int)} (h : Tups H ts ps) : ts.length = ps.length := Paired.length h
theorem keepT_upd {H : Hp} {D : Addr} {o : HO} {xs : List V} (h : H D = some (.lst xs)) : ∀ t ys, H t = some (.tup ys) → upd H D o t = some (.tup ys) := fun t ys e => by
  rw [upd_ne (ne_of e h (by intro z; cases z))]
  exact e
theorem kV_int (i : Int) : V.int i = kV (Sum.inl i) := rfl
theorem kV_str (x : Str) : V.str x = kV (Sum.inr x) := rfl
def rLenK (K : PySem.W.Frag) : List V → Hp → VK → Prop := fun xs H Q => ∃ p ys, xs = [V.ref p] ∧ (SqL K H p ys ∨ SqT K H p ys) ∧ Q (.int ys.length) H
theorem call_lenK {X : Cx} : CallR X (.builtin "len") (rLenK X.K) := call_len_seq
theorem sorted_same {a b : List Int} (hp : a.Perm b) (ha : a.Pairwise (· ≤ ·)) (hb : b.Pairwise (· ≤ ·)) : a = b := hp.eq_of_pairwise (fun _ _ _ _ h1 h2 => Int.le_antisymm h1 h2) ha hb
@[irreducible] def tMidT (t : TT) : TT := fun σ H Q => ∃ M : Bool → Hp → Prop, t σ H M ∧ ∀ b H', M b H' → Q b H'
theorem pt_mid {X : Cx} {e : Expr} {t : TT} (h : PT X e t) : PT X e (tMidT t) := by
  refine ⟨fun pins s σ H Q I q => ?_⟩
  unfold tMidT at q
  obtain ⟨M, h1, h2⟩ := q
  exact thn (h.run pins s σ H M I h1) fun b s' ⟨H', I', m⟩ => ⟨H', I', h2 b H' m⟩
theorem midT_of {t : TT} {σ : St} {H : Hp} {Q : Bool → Hp → Prop} (M : Bool → Hp → Prop) (h1 : t σ H fun b H' => Wait (M b H')) (h2 : ∀ b H', M b H' → Q b H') : tMidT t σ H Q := by
  unfold tMidT
  exact ⟨fun b H' => Wait (M b H'), h1, fun b H' m => h2 b H' m.out⟩
@[irreducible] def tMidE (t : TE) : TE := fun σ H Q => ∃ M : V → Hp → Prop, t σ H M ∧ ∀ b H', M b H' → Q b H'
theorem pe_mid {X : Cx} {e : Expr} {t : TE} (h : PE X e t) : PE X e (tMidE t) := by
  refine ⟨fun pins s σ H Q I q => ?_⟩
  unfold tMidE at q
  obtain ⟨M, h1, h2⟩ := q
  exact thn (h.run pins s σ H M I h1) fun b s' ⟨v, H', I', r, m⟩ => ⟨v, H', I', r, h2 v H' m⟩
theorem midE_of {t : TE} {σ : St} {H : Hp} {Q : VK} (M : V → Hp → Prop) (h1 : t σ H fun b H' => Wait (M b H')) (h2 : ∀ b H', M b H' → Q b H') : tMidE t σ H Q := by
  unfold tMidE
  exact ⟨fun b H' => Wait (M b H'), h1, fun b H' m => h2 b H' m.out⟩
theorem forZ {K : PySem.W.Frag} {a b : Addr} {xs ys : List V} {g : TG} {tb : TS} {D : Ends} {σ : St} {H : Hp} (hl : xs.length = ys.length) (Pv : Nat → St → Hp → Prop) (h0 : Pv 0 σ H) (hq : ∀ i σ H, Pv i σ H → SqL K H a xs ∧ SqL K H b ys)
    (hs : ∀ (i : Nat) (x y : V) (t : Addr) (σ : St) (H : Hp), xs[i]? = some x → ys[i]? = some y → Pv i σ H → H t = none →
      g (.ref t) σ (upd H t (.tup [x, y])) fun σ2 H2 => tb { D with nx := fun σ H => Wait (Pv (i + 1) σ H), ct := fun σ H => Wait (Pv (i + 1) σ H), bk := D.nx } σ2 H2) (hd : ∀ σ H, Pv xs.length σ H → D.nx σ H) :
    ∃ W : Nat → Nat → St → Hp → Prop, (∃ m, W 0 m σ H) ∧ ∀ i m σ H, W i m σ H →
      ((Itz K a b).stop i H ∧ D.nx σ H) ∨ ((Itz K a b).go i H ∧ ∃ N : St → Hp → Prop, (∀ σ' H', N σ' H' → ∃ m', m' < m ∧ W (i + 1) m' σ' H') ∧ ∀ v H', (Itz K a b).yld i H v H' → g v σ H' fun σ2 H2 => tb { D with nx := N, ct := N, bk := D.nx } σ2 H2) := by
  refine ⟨fun i m σ H => m = xs.length - i ∧ i ≤ xs.length ∧ Wait (Pv i σ H), ⟨xs.length, by simp, Nat.zero_le _, wait h0⟩, ?_⟩
  rintro i m σ H ⟨rfl, hi, p⟩
  obtain ⟨q1, q2⟩ := hq i σ H p.out
  by_cases hlt : i < xs.length
  · have e1 : xs[i]? = some xs[i] := List.getElem?_eq_getElem hlt
    have e2 : ys[i]? = some ys[i] := List.getElem?_eq_getElem (by omega)
    refine .inr ⟨⟨xs, ys, _, _, q1, q2, e1, e2⟩, fun σ H => Wait (Pv (i + 1) σ H), fun σ' H' p' => ⟨xs.length - (i + 1), by omega, rfl, hlt, p'⟩, fun v H' y => ?_⟩
    obtain ⟨t, x, z, rfl, ht, rfl, f1, f2⟩ := y
    exact hs i x z t σ H (f1 xs q1) (f2 ys q2) p.out ht
  · have e : i = xs.length := by omega
    subst e
    exact .inl ⟨⟨xs, ys, q1, q2, .inl (Nat.le_refl _)⟩, hd σ H p.out⟩
end L2
set_option Elab.async false
set_option linter.all false
set_option maxRecDepth 100000
set_option maxHeartbeats 4000000
namespace PySem.W
open PySem PySem.Spec PySem.Calls PyProof.Rows
section
variable {prog : Program} {w : World} {A : Around} {E : Value → Shared → Prop} {s : Shared} {K : Frag} {x D : Addr} {ox od : Obj}
theorem pf_class {Q : Option Value → Shared → Prop} (C : L2.ExcC K D) (X : K.In s.heap) (I : InstAt s.heap x ox D (some od)) (h : Q (some (.ref D)) { s with toks := s.toks + 1 }) :
    wpAny (model prog w) A (getAttr? (.ref x) "__class__") Q E s := by
  obtain ⟨cd, hcd, _⟩ := any_some C.hd
  have hfo : findObj K D (some od) "__class__" = some (.bind (.builtin "getset_descriptor.__get__") (.builtin "object.__class__")) := findObj_data (by rw [hcd]; rfl) C.ha C.hn C.ht
  obtain ⟨hp, g, dr, t, os⟩ := s
  have lt := I.type (M := model prog w)
  have lg := looks_findIn (M := model prog w) X C.hg
  have lh := looks_findIn (M := model prog w) X C.hk
  have lf := looks_find (M := model prog w) X I hfo
  have lb : Looks (model prog w) hp (isInstance (.ref x) (.type "BaseException")) true := lt.andThen (looks_subIn X C.hs)
  have b2 : (Value.builtin "BaseException.__getattribute__" == Value.builtin "object.__getattribute__") = false := by decide +kernel
  unfold getAttr? getAttrBy? getAttrBy
  refine wpAny_bind (wpAny_mkText (wpAny_bind (wpAny_attempt (wpAny_holding (wpAny_bind (lt.at (wpAny_bind (lg.at ?_))))))))
  show wpAny _ _ (if (onTheHeap (Value.ref D) && Value.builtin "BaseException.__getattribute__" == Value.builtin "object.__getattribute__") = true then _ else _) _ _ _
  rw [b2, Bool.and_false, if_neg Bool.false_ne_true]
  unfold getAttrByItsOwn hookBefore
  refine wpAny_bind ?_
  rw [if_pos (show onTheHeap (Value.ref D) = true from rfl)]
  refine lh.at (wpAny_bind (wpAny_attempt (wpAny_holding ?_)))
  unfold callGetattribute
  rw [if_neg (show ¬ (false && onTheHeap (Value.builtin "BaseException.__getattribute__")) = true from Bool.false_ne_true)]
  unfold boundAndCalled
  rw [PySem.F.excAttr_ValueError.ga.bind (.ref x)]
  refine wpAny_bind (wpAny_pure ?_)
  show wpAny _ _ (call (.builtin "BaseException.__getattribute__") [.ref x, .str "__class__" t]) _ _ _
  refine wpAny_call (codeAny_call_builtin PySem.F.excAttr_ValueError.ga.plain PySem.F.entry_bexc_ga ?_)
  refine @check_slot (model prog w) _ _ ⟨hp, g, dr, t + 1, os⟩ "BaseException.__getattribute__" "BaseException" "__getattribute__" (.ref x) [.str "__class__" t] [] _ (by decide +kernel) (by decide +kernel) lb (PySem.F.args_bexc_ga (.ref x) (.str "__class__" t)) ?_
  unfold Builtin.«object.__getattribute__»
  refine wpAny_bind (wpAny_of_eq (a := ((Value.ref x : Value), [Value.str "__class__" t])) (by first | rfl | (simp only [slotArgs]; rfl)) ?_)
  refine wpAny_bind (wpAny_pure (wpAny_bind (lt.at (wpAny_bind (lf.at ?_)))))
  show wpAny _ _ (holding [Value.builtin "object.__class__"] (call (.builtin "getset_descriptor.__get__") [.builtin "object.__class__", .ref x, .ref D]) >>= ret) _ _ _
  refine wpAny_bind (wpAny_holding (wpAny_call (class_get (s := ⟨hp, g, dr, t + 1, os⟩) (ox := ox) (od := some od) X I C.hm ?_)))
  refine wpAny_pure ?_
  show wpAny _ _ (handedOut (.ref D)) _ _ _
  rw [handedOut_of (v := .ref D) rfl]
  first
    | exact wpAny_pure (wpAny_pure h)
    | exact wpAny_pure h
    | exact wpAny_pure (wpAny_bind (wpAny_pure (wpAny_pure h)))
theorem pf_kitx (C : L2.ExcC K D) : KitX K (.ref x) (.ref D) (fun h => InstAt h x ox D (some od)) := by
  obtain ⟨cd, hcd, _⟩ := any_some C.hd
  have hob : ∃ o sl c dd, K.lookup D = some ⟨c, dd, .cls o, sl⟩ := by
    unfold clsIn at hcd
    split at hcd
    · rename_i c' d' cd' sl' ho
      exact ⟨_, _, _, _, ho⟩
    · cases hcd
  obtain ⟨cl, sl, c, dd, hl⟩ := hob
  refine ⟨fun _ _ _ I => I.type, fun _ _ X _ => ?_, fun h tp d' its n sl' X htp => ?_, fun X I k => pf_class C X I k⟩
  · intro A' Q' E' s' k q
    unfold isType loadHead
    exact wpAny_bind (wpAny_loadPart (k _ _ (X _ _ hl)) (wpAny_pure q))
  · refine Bool.eq_false_iff.mpr fun q => ?_
    have e : D = tp := Value.ref.inj (beq_iff_eq.mp q)
    subst e
    have z := (X _ _ hl).symm.trans htp
    cases z
end
end PySem.W
namespace L2
open PySem PySem.Spec PyProof.Rows
section
variable {X : Cx} {CX : CXT} {k : Nat} {f C : Addr} {fd : FuncData} {ps : List Str} {sp : Sp} {E : St → XK} {x m : Str} {p pos apos : Pos} {e o : Expr} {es : List Expr} {ta : TE} {t : TA}
def tMethW (C : Addr) (m : Str) (sp : Sp) (E : St → XK) (ta : TE) (t : TA) : TE := fun σ H Q => ta σ H fun x H1 => ∃ a dx fs, x = .ref a ∧ H1 a = some (.ins C dx fs) ∧ fs.lookup m = none ∧ t σ H1 fun vs H2 => sp (x :: vs) H2 Q (E σ)
theorem pe_methW {pl : Sem Bool} (he : PE X o ta) (c : Cls X.K C) (hm : Meth X.K C m f) (F : FnOk X.prog X.w X.K X.mg X.base CX k f fd ps sp) (hr : Room k X.A) (hb : Binds X.K fd ps []) (hx : ∀ σ, PassesAt CX X σ (E σ)) (ha : PA X (e :: es) t)
    (hst : starEach (e :: es) X.env = (false, eval e X.env) :: starEach es X.env := by rfl) (hpl : (backTo pos (starEach es X.env)).any (·.1) = false := by rfl)
    (ht : eval (.Call (.Attribute o m apos) (e :: es) [] pos) X.env = (do
      let ov ← eval o X.env
      standAt apos.atName
      let (f, first) ← holding [ov] (getMethod ov m pl)
      callWith pos f first (backTo pos (starEach (e :: es) X.env)) (backToKw pos (keywordEach [] X.env))) := by rfl) :
    PE X (.Call (.Attribute o m apos) (e :: es) [] pos) (tMethW C m sp E ta t) := by
  refine ⟨fun pins s σ H Q I h => ?_⟩
  refine PySem.W.methodCall_KW (pl := pl) (thn (he.run pins s σ H _ I h) fun u s1 ⟨x, H1, I1, rx, a, dx, fs, ex, ea, l, q⟩ => ?_) ht
  subst ex
  obtain rfl : u = Value.ref a := rx
  refine getmeth_ok I1 ea c hm l ?_
  refine PySem.W.callWith_K (first := [.ref a]) (h₀ := X.base) I.ok.mod.kin hm.kp (thn (ha.run pos pins s1 σ H1 _ I1 q) fun us s2 ⟨vs, H2, I2, r, q2⟩ => ⟨I2.kIn, ?_⟩) hst hpl
  exact run_fnS (us := .ref a :: us) (vs := .ref a :: vs) F hr hb (hx σ) I2 (.cons rfl r) q2
end
theorem forW {J : It} {n : Nat} {G : Hp → Prop} {Y : Nat → Hp → V → Hp → Prop} (w : Walk J n G Y) {g : TG} {tb : TS} {D : Ends} {σ : St} {H : Hp} (Pv : Nat → St → Hp → Prop) (h0 : Pv 0 σ H) (hG : ∀ i σ H, i ≤ n → Pv i σ H → G H)
    (hs : ∀ i x σ H H', i < n → Pv i σ H → Y i H x H' → g x σ H' fun σ2 H2 => tb { D with nx := fun σ H => Wait (Pv (i + 1) σ H), ct := fun σ H => Wait (Pv (i + 1) σ H), bk := D.nx } σ2 H2) (hd : ∀ σ H, Pv n σ H → D.nx σ H) :
    ∃ W : Nat → Nat → St → Hp → Prop, (∃ m, W 0 m σ H) ∧ ∀ i m σ H, W i m σ H →
      (J.stop i H ∧ D.nx σ H) ∨ (J.go i H ∧ ∃ N : St → Hp → Prop, (∀ σ' H', N σ' H' → ∃ m', m' < m ∧ W (i + 1) m' σ' H') ∧ ∀ x H', J.yld i H x H' → g x σ H' fun σ2 H2 => tb { D with nx := N, ct := N, bk := D.nx } σ2 H2) :=
  for_it w (fun i σ H => Wait (Pv i σ H)) (wait h0) (fun i σ H hi p => hG i σ H hi p.out) (fun i x σ H H' hi p y => hs i x σ H H' hi p.out y) fun σ H p => hd σ H p.out
theorem lcW {J : It} {n : Nat} {G : Hp → Prop} {Y : Nat → Hp → V → Hp → Prop} (w : Walk J n G Y) {g : TG} {tt : TT} {te : TE} {vs : List Nat} {σ : St} {H1 : Hp} {D : Addr} {Qd : Hp → Prop} (Pv : Nat → Hp → Prop) (h0 : Pv 0 (upd H1 D (.lst []))) (hG : ∀ i H, i ≤ n → Pv i H → G H)
    (hs : ∀ i x H H', i < n → Pv i H → Y i H x H' → g x (wipe σ vs) H' fun σ2 H2 => wipe σ2 vs = wipe σ vs ∧ tt σ2 H2 fun b H3 =>
      if b = true then te σ2 H3 fun y H4 => ∃ acc, H4 D = some (.lst acc) ∧ acc.length < sizeLine ∧ Wait (Pv (i + 1) (upd H4 D (.lst (acc ++ [y])))) else Wait (Pv (i + 1) H3)) (hd : ∀ H, Pv n H → Qd H) :
    ∃ W : Nat → Nat → Hp → Prop, (∃ m, W 0 m (upd H1 D (.lst []))) ∧ ∀ i m H, W i m H →
      (J.stop i H ∧ Qd H) ∨ (J.go i H ∧ ∃ Nx : Hp → Prop, (∀ H', Nx H' → ∃ m', m' < m ∧ W (i + 1) m' H') ∧ ∀ x H', J.yld i H x H' → g x (wipe σ vs) H' fun σ2 H2 => wipe σ2 vs = wipe σ vs ∧ tt σ2 H2 fun b H3 =>
        if b = true then te σ2 H3 fun y H4 => ∃ acc, H4 D = some (.lst acc) ∧ acc.length < sizeLine ∧ Nx (upd H4 D (.lst (acc ++ [y]))) else Nx H3) :=
  lc_it w (fun i H => Wait (Pv i H)) (wait h0) (fun i H hi p => hG i H hi p.out) (fun i x H H' hi p y => hs i x H H' hi p.out y) fun H p => hd H p.out
def kbGn (n : Nat) (us ws : List Value) : List Value := if us.length = n then us ++ ws else []
def kbVn (n : Nat) (us ws : List V) : List V := if us.length = n then us ++ ws else []
theorem kb_ofn {K : PySem.W.Frag} {x qual : Str} {st : Stmt} {f : Addr} {fd : FuncData} {ps ks : List Str} {n m : Nat} (F : Fun K x qual st f fd) (hp : ps.length = n + m) (h0 : 0 < n + m)
    (h : ∀ (kV doc pm : Value) (an : Option Addr) (cdv ct : Value) (us ws : List Value), us.length = n → ws.length = m → bindArgs (PySem.W.fnOf x qual (defArgs st) (defBody st) (defScope st) .none kV doc pm an cdv ct) ⟨us, ks.zip ws⟩ = pure (ps.zip (us ++ ws))) : KBinds K fd ps ks (kbGn n) (kbVn n) := by
  obtain ⟨oc, od, kV, doc, pm, an, cdv, ct, osl, rfl, lk, hcd⟩ := F.ex
  constructor
  · intro s us ws _ hl
    by_cases e : us.length = n
    · have hg : kbGn n us ws = us ++ ws := if_pos e
      rw [hg] at hl ⊢
      rw [List.length_append, e, hp] at hl
      exact .of_eq (h kV doc pm an cdv ct us ws e (by omega))
    · have hg : kbGn n us ws = [] := if_neg e
      rw [hg, hp] at hl
      have : 0 = n + m := hl
      omega
  · intro vs us zs ws r1 r2
    have hl := r1.length
    by_cases e : us.length = n
    · rw [show kbGn n us ws = us ++ ws from if_pos e, show kbVn n vs zs = vs ++ zs from if_pos (hl.trans e)]
      exact r1.append r2
    · rw [show kbGn n us ws = [] from if_neg e, show kbVn n vs zs = [] from if_neg (fun z => e (hl.symm.trans z))]
      exact .nil
section
variable {X : Cx} {CX : CXT} {k : Nat} {f C : Addr} {fd : FuncData} {ps ks : List Str} {sp : Sp} {E : St → XK} {x m : Str} {p pos apos kpos : Pos} {e o : Expr} {es : List Expr} {kws : List Keyword} {te ta : TE} {t tk : TA} {nm : Option Str}
variable {g : List Value → List Value → List Value} {gV : List V → List V → List V}
theorem run_fnkS {pins : List (Addr × Obj)} {σ : St} {H : Hp} {s : Shared} {Q : VK} {us ws : List Value} {vs zs : List V} (F : FnOk X.prog X.w X.K X.mg X.base CX k f fd ps sp) (hr : Room k X.A) (hb : KBinds X.K fd ps ks g gV) (hx : PassesAt CX X σ (E σ))
    (I : Inv X pins σ H s) (r : Vals vs us) (rz : Vals zs ws) (h : sp (gV vs zs) H Q (E σ)) : wpAny (model X.prog X.w) X.A (call (.ref f) us (ks.zip ws)) (EP X pins σ Q) X.xe s := by
  have r2 := hb.rel r rz
  have hl : (g us ws).length = ps.length := by rw [← r2.length]; exact F.len _ _ _ _ h
  refine wpAny_call (codeAny_mono (F.run X.A X.stack s H ⟨us, ks.zip ws⟩ (g us ws) (gV vs zs) Q (E σ) hr I.env0 (hb.to s us ws I.kIn hl) r2 h) fun r s' hq => ?_)
  cases r with
  | error e => exact hx pins H s e s' I hq
  | ok fl =>
    cases fl with
    | ret u => exact I.after hq
    | next => exact False.elim hq
    | brk => exact False.elim hq
    | cont => exact False.elim hq
def tMethKW (C : Addr) (m : Str) (sp : Sp) (gV : List V → List V → List V) (E : St → XK) (ta : TE) (t tk : TA) : TE := fun σ H Q => ta σ H fun x H1 => ∃ a dx fs, x = .ref a ∧ H1 a = some (.ins C dx fs) ∧ fs.lookup m = none ∧
  t σ H1 fun vs H2 => tk σ H2 fun zs H3 => sp (gV (x :: vs) zs) H3 Q (E σ)
theorem pe_methKW {pl : Sem Bool} (he : PE X o ta) (c : Cls X.K C) (hm : Meth X.K C m f) (F : FnOk X.prog X.w X.K X.mg X.base CX k f fd ps sp) (hr : Room k X.A) (hb : KBinds X.K fd ps ks g gV) (hx : ∀ σ, PassesAt CX X σ (E σ)) (ha : PA X (e :: es) t) (hkw : PK X kws tk)
    (hall : (backToKw pos (keywordEach kws X.env)).all (·.1.isSome) = true := by rfl) (hks : (backToKw pos (keywordEach kws X.env)).filterMap (·.1) = ks := by rfl)
    (hst : starEach (e :: es) X.env = (false, eval e X.env) :: starEach es X.env := by rfl)
    (hpl : ((backTo pos (starEach (e :: es) X.env)).any (·.1) || (backToKw pos (keywordEach kws X.env)).any (·.1.isNone)) = false := by rfl)
    (ht : eval (.Call (.Attribute o m apos) (e :: es) kws pos) X.env = (do
      let ov ← eval o X.env
      standAt apos.atName
      let (f, first) ← holding [ov] (getMethod ov m pl)
      callWith pos f first (backTo pos (starEach (e :: es) X.env)) (backToKw pos (keywordEach kws X.env))) := by rfl) :
    PE X (.Call (.Attribute o m apos) (e :: es) kws pos) (tMethKW C m sp gV E ta t tk) := by
  refine ⟨fun pins s σ H Q I h => ?_⟩
  refine PySem.W.methodCall_KW (pl := pl) (thn (he.run pins s σ H _ I h) fun u s1 ⟨x, H1, I1, rx, a, dx, fs, ex, ea, l, q⟩ => ?_) ht
  subst ex
  obtain rfl : u = Value.ref a := rx
  refine getmeth_ok I1 ea c hm l ?_
  refine PySem.W.callWith_KW (first := [.ref a]) (h₀ := X.base) I.ok.mod.kin hm.kp hall (thn (ha.run pos pins s1 σ H1 _ I1 q) fun us s2 ⟨vs, H2, I2, r, q2⟩ => ?_) hpl hst
  refine thn (hkw.run pos pins s2 σ H2 _ I2 q2) fun ws s3 ⟨zs, H3, I3, rz, q3⟩ => ⟨I3.kIn, ?_⟩
  rw [hks]
  exact run_fnkS (us := .ref a :: us) (vs := .ref a :: vs) F hr hb (hx σ) I3 (.cons rfl r) rz q3
end
def rIsX (K : PySem.W.Frag) (D a dd : Addr) : List V → Hp → VK → Prop := fun xs H Q => ∃ (c : V) (cv : Value) (b : Bool) (fs : List (Str × V)), xs = [.ref a, c] ∧ (∀ u, RelV c u → u = cv) ∧ H dd = some (.xd fs) ∧ PySem.W.kitOne K (.ref D) cv = some b ∧ Q (.bl b) H
theorem call_isX {X : Cx} {a D dd : Addr} {oe : Obj} {pn : List (Addr × Obj)} (C : ExcC X.K D) (hz : Zc (.ref D) (some dd) oe) (hf : ∃ vs, oe.data = .fields vs) : CallR (X.suite a ((a, oe) :: pn)) (.builtin "isinstance") (rIsX X.K D a dd) := by
  intro pins s σ H xs us Q I r h
  obtain ⟨c, cv, b, fs, rfl, hcv, hx, e, q⟩ := h
  obtain ⟨u1, u2, rfl, r1, r2⟩ := vals2 r
  cases r1
  have ec := hcv _ r2
  subst ec
  obtain ⟨hget, _⟩ := I.pin (a, oe) (List.mem_append.mpr (.inl List.mem_cons_self))
  obtain ⟨vs, hv⟩ := hf
  obtain ⟨mA, ⟨od, es, ep, ho, _⟩, _⟩ := (show ObjOk X.prog X.w H s.heap dd (.xd fs) from I.hok dd _ hx)
  have J : PySem.W.InstAt s.heap a oe D (some od) := ⟨hget, hz.1, by unfold PySem.W.notCls; rw [hv] <;> rfl, by rw [hz.2]; exact ho⟩
  exact PySem.W.kia_one (PySem.W.pf_kitx C) I.kIn J e (fun z => nomatch z) fun tk => ⟨.bl b, H, I.kept (t' := tk) fun _ _ z => z, rfl, q⟩
def rIsW (K : PySem.W.Frag) (a : Addr) (cls : Value) (d : Option Addr) : List V → Hp → VK → Prop := fun xs H Q => ∃ D dd : Addr, cls = .ref D ∧ d = some dd ∧ ExcC K D ∧ rIsX K D a dd xs H Q
theorem call_isW {X : Cx} {a : Addr} {oe : Obj} {cls : Value} {d : Option Addr} {pn : List (Addr × Obj)} (hz : Zc cls d oe) (hf : ∃ vs, oe.data = .fields vs) : CallR (X.suite a ((a, oe) :: pn)) (.builtin "isinstance") (rIsW X.K a cls d) := by
  intro pins s σ H xs us Q I r h
  obtain ⟨D, dd, rfl, rfl, C, h⟩ := h
  exact call_isX C hz hf pins s σ H xs us Q I r h
theorem kit_exm {K : PySem.W.Frag} {A B : Addr} {b : Bool} (h1 : PySem.W.exmOne K (.ref A) (.ref A) = some true) (h2 : PySem.W.exmOne K (.ref A) (.ref B) = some b) : PySem.W.kitOne K (.ref A) (.ref B) = some b := by
  unfold PySem.W.kitOne
  by_cases e : A = B
  · subst e
    rw [h1] at h2
    rw [if_pos (by simp)]
    exact h2
  · rw [if_neg (by simpa using e)]
    unfold PySem.W.exmOne at h2
    split at h2
    · exact h2
    · cases h2
theorem kit_bl {K : PySem.W.Frag} {A : Addr} {T : String} {b : Bool} (h1 : PySem.W.subIn K (.ref A) (.type T) = some b) (h2 : PySem.W.kitMeta T = true) : PySem.W.kitOne K (.ref A) (.type T) = some b := by
  unfold PySem.W.kitOne
  rw [if_neg (by simp)]
  show (if PySem.W.kitMeta T = true then PySem.W.subIn K (.ref A) (.type T) else none) = some b
  rw [if_pos h2]
  exact h1
structure Cl where
  c : Value
  i : Option Nat
  ts : Addr → Value → Option Addr → TS
def Cl.at (cl : Cl) (a : Addr) (cls : Value) (d : Option Addr) (D : Ends) (σ : St) (H : Hp) : Prop := match cl.i with
  | none => cl.ts a cls d D σ H
  | some i => cl.ts a cls d { nx := fun σ' H' => D.nx (σ'.set i none) H', rt := D.rt, bk := fun σ' H' => D.bk (σ'.set i none) H', ct := fun σ' H' => D.ct (σ'.set i none) H' } (σ.set i (some (.ref a))) H
def wCls (K : PySem.W.Frag) (Wout : WX) (D : Ends) : List Cl → WX
  | [] => Wout
  | cl :: r => fun cls d σ H => ∃ b, PySem.W.exmOne K cls cl.c = some b ∧ (b = true → ∀ a, H a = none → cl.at a cls d D σ H) ∧ (b = false → wCls K Wout D r cls d σ H)
inductive ClsOk (X : Cx) : List ExceptHandler → List Cl → Prop
  | nil : ClsOk X [] []
  | plain {x : Str} {c : Value} {ts : Addr → Value → Option Addr → TS} {b₀ : Stmt} {suite : List Stmt} {np pos' : Pos} {hds : List ExceptHandler} {l : List Cl} (hc : Names X x c)
      (hsu : ∀ (a : Addr) (oe : Obj) (cls : Value) (d : Option Addr) (pn : List (Addr × Obj)), Zc cls d oe → (∃ vs, oe.data = .fields vs) → PSs (X.suite a ((a, oe) :: pn)) (b₀ :: suite) (ts a cls d)) (r : ClsOk X hds l) :
      ClsOk X (.ExceptHandler (some (.Name x np)) none (b₀ :: suite) pos' :: hds) (⟨c, none, ts⟩ :: l)
  | named {x n : Str} {i : Nat} {c : Value} {ts : Addr → Value → Option Addr → TS} {b₀ : Stmt} {suite : List Stmt} {np pos' : Pos} {hds : List ExceptHandler} {l : List Cl} (hN : X.N.Nodup) (hi : X.N[i]? = some n) (hln : X.env.kindOf n = some .local) (hc : Names X x c)
      (hsu : ∀ (a : Addr) (oe : Obj) (cls : Value) (d : Option Addr) (pn : List (Addr × Obj)), Zc cls d oe → (∃ vs, oe.data = .fields vs) → PSs (X.suite a ((a, oe) :: pn)) (b₀ :: suite) (ts a cls d)) (r : ClsOk X hds l) :
      ClsOk X (.ExceptHandler (some (.Name x np)) (some n) (b₀ :: suite) pos' :: hds) (⟨c, some i, ts⟩ :: l)
section
variable {X : Cx} {body : List Stmt} {h₀ : ExceptHandler} {hds : List ExceptHandler} {l : List Cl} {pos : Pos} {tb : WX → TS} {Wout : WX}
structure Ground (X : Cx) (pins : List (Addr × Obj)) (a : Addr) (B : Heap) (sI s' : Shared) (h3 : Heap) (σ : St) (H : Hp) (cls : Value) (d : Option Addr) : Prop where
  J : Inv X pins σ H sI
  nb : ∀ b o, sI.heap.get? b = some o → b ∉ frs X.stack → B.get? b = some o
  up : sI.heap.UpToSlots h3
  fl : HandSPX.FlyingZ B (X.env :: X.outer) a (Zc cls d) h3
  na : H a = none
  os : s'.os = sI.os
  ag : AllBare s'.gens
theorem Ground.inv {pins : List (Addr × Obj)} {a : Addr} {B : Heap} {sI s' : Shared} {h3 : Heap} {σ : St} {H : Hp} {cls : Value} {d : Option Addr} (G : Ground X pins a B sI s' h3 σ H cls d) : Inv X pins σ H { s' with heap := h3 } :=
  G.J.landed G.nb G.fl.1 G.up G.os G.ag
theorem Ground.off {pins : List (Addr × Obj)} {a : Addr} {B : Heap} {sI s' : Shared} {h3 : Heap} {σ : St} {H : Hp} {cls : Value} {d : Option Addr} (G : Ground X pins a B sI s' h3 σ H cls d) (hf : X.env.frame = some X.env.locals) : a ≠ X.env.locals ∧ a ∉ X.fs := by
  obtain ⟨oe, vs, he, _, hd⟩ := G.fl.there
  have nfr : a ∉ frs (X.env :: X.outer) := fun hm => by
    obtain ⟨_, o', e', hnf⟩ := G.fl.2.2.1.mem hm
    rw [he] at e'
    cases e'
    exact hnf _ hd
  refine ⟨fun z => nfr (List.mem_filterMap.mpr ⟨X.env, List.mem_cons_self, by rw [hf, z]⟩), fun hm => ?_⟩
  obtain ⟨ev, hev, q⟩ := List.mem_filterMap.mp hm
  exact nfr (List.mem_filterMap.mpr ⟨ev, List.mem_cons_of_mem _ hev, q⟩)
theorem clauses (hs : X.stack = X.env :: X.outer) (hf : X.env.frame = some X.env.locals) (tk : Takes X Wout) {pins : List (Addr × Obj)} {a : Addr} {B : Heap} {sI s' : Shared} {h3 : Heap} {σ : St} {H : Hp} {cls : Value} {d : Option Addr} {D : Ends}
    (G : Ground X pins a B sI s' h3 σ H cls d) (ok : X.Ok) {hds : List ExceptHandler} {l : List Cl} (hk : ClsOk X hds l) (w : wCls X.K Wout D l cls d σ H) :
    wpAny (model X.prog X.w) X.A (handleBy (.ref a) X.env hds) (SP X pins D) X.xe { s' with heap := h3 } := by
  obtain ⟨nL, nF⟩ := G.off hf
  have J3 := G.inv
  obtain ⟨oe3, vs3, he3, hz3, hd3⟩ := G.fl.there
  have S3 := J3.suite he3 hd3 G.na nL nF
  have LT : PySem.W.Looks (model X.prog X.w) h3 (typeOf (.ref a)) cls := fun A Q E s k q => wpAny_typeOf_ref (k _ _ he3) (by rw [hz3.1]; exact q)
  have name : ∀ {x : Str} {c : Value} {np : Pos} {Q : Value → Shared → Prop} {E : Value → Shared → Prop}, Names X x c → Q c { s' with heap := h3 } → wpAny (model X.prog X.w) (X.A.mark (some (.ref a))) (eval (.Name x np) X.env) Q E { s' with heap := h3 } := fun {x c np Q E} hc q => by
    obtain ⟨hg, hdbg, hm | ⟨hm, hv, hnn⟩⟩ := hc
    · exact ld_glob (X := X.suite a ((a, oe3) :: (X.pn ++ pins))) S3 hg hm q hdbg
    · exact ld_blt (X := X.suite a ((a, oe3) :: (X.pn ++ pins))) S3 hg hm hv q hnn hdbg
  have again : ∀ {h4 : Heap}, HandSPX.FlyingZ B (X.env :: X.outer) a (Zc cls d) h4 → Heap.UpToSlots h3 h4 → ∃ oe4 vs4, Zc cls d oe4 ∧ oe4.data = .fields vs4 ∧ Inv (X.suite a ((a, oe4) :: (X.pn ++ pins))) [] σ H { s' with heap := h4 } := fun {h4} fl4 up4 => by
    have J4 : Inv X pins σ H { s' with heap := h4 } := G.J.landed G.nb fl4.1 (G.up.trans up4) G.os G.ag
    obtain ⟨oe4, vs4, he4, hz4, hd4⟩ := fl4.there
    exact ⟨oe4, vs4, hz4, hd4, J4.suite he4 hd4 G.na nL nF⟩
  induction hk with
  | nil =>
    refine wpAny_handleBy_nil ?_
    obtain ⟨k1, k2, k3, oe, vs, T, oT, ts', he, hz, hd, h1, hr⟩ := id G.fl
    unfold PySem.passOn
    refine wpAny_bind (wpAny_field he hd h1 ?_)
    rw [if_neg (show ¬ ((Value.ref T == Value.none) = true) from by simp)]
    have fin : wpAny (model X.prog X.w) X.A (setFlight (.ref a) X.env.frame) (fun _ s4 => wpAny (model X.prog X.w) X.A (throw (.ref a) : Sem Flow) (SP X pins D) X.xe s4) X.xe { s' with heap := h3 } := by
      rw [hf]
      refine HandSPX.setFlight_upZ G.fl fun h4 hh4 up4 => wpAny_throw (tk _ _ ?_)
      exact ⟨a, B, sI, pins, σ, H, cls, d, rfl, G.J, G.nb, G.up.trans up4, .inr (.inr (by rw [hs]; exact hh4)), G.na, G.os, G.ag, w⟩
    first
      | exact wpAny_bind (wpAny_pure (wpAny_bind fin))
      | exact wpAny_bind fin
  | @plain x c ts b₀ suite np pos' hds2 l2 hc hsu r ih =>
    obtain ⟨b, hb1, hyes, hno⟩ := w
    refine wpAny_handleBy_cons (codeAny_handlers_test ?_) (by intro q; cases q)
    refine name hc ((PySem.W.exm_one (M := model X.prog X.w) J3.kIn LT hb1).here ?_)
    cases b with
    | true =>
      refine codeAny_handlers_suite (HandSPX.lands_againZ G.fl fun h4 fl4 up4 => ?_)
      obtain ⟨oe4, vs4, hz4, hd4, S4⟩ := again fl4 up4
      refine wpAny_mono ((hsu a oe4 cls d (X.pn ++ pins) hz4 ⟨_, hd4⟩).run [] _ _ H _ S4 (hyes rfl a G.na)) (fun f s6 hsp => ?_) (fun _ _ z => False.elim z)
      cases f with
      | next => obtain ⟨σ6, H6, S6, q6⟩ := hsp; exact ⟨_, _, S6.unsuite ok, q6⟩
      | brk => obtain ⟨σ6, H6, S6, q6⟩ := hsp; exact ⟨_, _, S6.unsuite ok, q6⟩
      | cont => obtain ⟨σ6, H6, S6, q6⟩ := hsp; exact ⟨_, _, S6.unsuite ok, q6⟩
      | ret u => obtain ⟨v6, σ6, H6, S6, r6, q6⟩ := hsp; exact ⟨_, _, _, S6.unsuite ok, r6, q6⟩
    | false =>
      show wpAny _ X.A (handleBy (.ref a) X.env hds2) _ _ _
      exact ih (hno rfl)
  | @named x n i c ts b₀ suite np pos' hds2 l2 hN hi hln hc hsu r ih =>
    obtain ⟨b, hb1, hyes, hno⟩ := w
    refine wpAny_handleBy_cons (codeAny_handlers_test ?_) (by intro q; cases q)
    refine name hc ((PySem.W.exm_one (M := model X.prog X.w) J3.kIn LT hb1).here ?_)
    cases b with
    | true =>
      refine codeAny_handlers_suite_as (HandSPX.lands_againZ G.fl fun h4 fl4 up4 => ?_)
      obtain ⟨oe4, vs4, hz4, hd4, S4⟩ := again fl4 up4
      refine store_ok (X := X.suite a ((a, oe4) :: (X.pn ++ pins))) (v := .ref a) S4 hN hi (.inl hln) rfl (fun s5 S5 => ?_) (.inr hln)
      refine wpAny_mono ((hsu a oe4 cls d (X.pn ++ pins) hz4 ⟨_, hd4⟩).run [] s5 _ H _ S5 (hyes rfl a G.na)) (fun f s6 hsp => ?_) (fun _ _ z => False.elim z)
      have fin : ∀ {σ6 : St} {H6 : Hp} {Q : Shared → Prop}, Inv (X.suite a ((a, oe4) :: (X.pn ++ pins))) [] σ6 H6 s6 → (∀ s7, Inv X pins (σ6.set i none) H6 s7 → Q s7) →
          wpAny (model X.prog X.w) X.A (do bindName X.env n .none; unbindBehindTheSuite X.env n pos') (fun _ s7 => Q s7) X.xe s6 := fun {σ6 H6 Q} S6 hq => gone_ok (S6.unsuite ok) hN hi hln hq
      cases f with
      | next => obtain ⟨σ6, H6, S6, q6⟩ := hsp; exact fin S6 fun s7 J7 => ⟨_, _, J7, q6⟩
      | brk => obtain ⟨σ6, H6, S6, q6⟩ := hsp; exact fin S6 fun s7 J7 => ⟨_, _, J7, q6⟩
      | cont => obtain ⟨σ6, H6, S6, q6⟩ := hsp; exact fin S6 fun s7 J7 => ⟨_, _, J7, q6⟩
      | ret u => obtain ⟨v6, σ6, H6, S6, r6, q6⟩ := hsp; exact fin S6 fun s7 J7 => ⟨_, _, _, J7, r6, q6⟩
    | false =>
      show wpAny _ X.A (handleBy (.ref a) X.env hds2) _ _ _
      exact ih (hno rfl)
theorem ps_try_cls (hs : X.stack = X.env :: X.outer) (hf : X.env.frame = some X.env.locals) (tk : Takes X Wout)
    (hb : ∀ (W : WX) (pn : List (Addr × Obj)) (xe : Value → Shared → Prop), Takes (X.tr pn xe) W → PassesOwn (model X.prog X.w) X.A X.env xe → PSs (X.tr pn xe) body (tb W))
    (hh : ClsOk X (h₀ :: hds) l) : PS X (.Try body (h₀ :: hds) [] [] pos) (fun D σ H => tb (wCls X.K Wout D l) D σ H) := by
  refine ⟨fun pins s σ H D I h => ?_⟩
  have ok := I.ok
  have hfr : X.A.frames = some (X.env :: X.outer) := by rw [ok.frames, hs]
  refine wpAny_Try_except ?_
  refine wpAny_mono ((hb (wCls X.K Wout D l) (X.pn ++ pins) (fun e s₁ => wpAny (model X.prog X.w) X.A (noteFrame e X.env) (fun _ s₂ => wpAny (model X.prog X.w) X.A (setFlight e none) (fun _ s₃ =>
    wpAny (model X.prog X.w) X.A (handleBy e X.env (h₀ :: hds)) (SP X pins D) X.xe s₃) X.xe s₂) X.xe s₁) (fun u s' xx => ?_) PassesOwn.looking).run [] s σ H D (I.toTry _) h) (fun f s1 hsp => ?_) (fun e s1 he => he)
  · obtain ⟨a, B, sI, pins', σ', H', cls, d, rfl, J', nb, up, sky, na, os, ag, w⟩ := xx
    have sky' : Sky B (X.env :: X.outer) a (Zc cls d) X.env.locals s'.heap := by rw [← hs]; exact sky
    show wpAny (model X.prog X.w) X.A (noteFrame (.ref a) X.env) _ _ _
    refine Sky.land Zc.steady hfr hf sky' fun h3 fl3 up3 => ?_
    exact clauses hs hf tk ⟨J'.ofTry ok, nb, up.trans up3, fl3, na, os, ag⟩ ok hh w
  · cases f with
    | next => obtain ⟨σ', H', J', q⟩ := hsp; exact wpAny_execs_nil ⟨σ', H', J'.ofTry ok, q⟩
    | brk => obtain ⟨σ', H', J', q⟩ := hsp; exact ⟨σ', H', J'.ofTry ok, q⟩
    | cont => obtain ⟨σ', H', J', q⟩ := hsp; exact ⟨σ', H', J'.ofTry ok, q⟩
    | ret u => obtain ⟨v, σ', H', J', r, q⟩ := hsp; exact ⟨v, σ', H', J'.ofTry ok, r, q⟩
end
def spErr (C : Addr) (f : Str) : Sp := fun vs H Q _ => ∃ (e : Addr) (v : V), vs = [.ref e, v] ∧ H e = some (exo e C none) ∧ ∀ d, H d = none → d ≠ e → Q .non (upd (upd H d (exd d [(f, v)])) e (exo e C (some d)))
theorem raise_err {C : Addr} {f : Str} {v : V} {H : Hp} {W : Value → Option Addr → Hp → Prop} (h : ∀ d H', H d = none → H' d = some (.xd [(f, v)]) → Same H H' → W (.ref C) (some d) H') :
    [v].length ≤ 1000 ∧ ∀ a, H a = none → spErr C f (.ref a :: ([v] ++ [])) (upd H a (exo a C none))
      (fun u H2 => u = .non ∧ ∃ (d : Addr) (fs : List (Str × V)), H2 a = some (exo a C (some d)) ∧ H2 d = some (exd d fs) ∧ H d = none ∧ W (.ref C) (some d) (upd (del H2 a) d (.xd fs))) (fun _ _ _ => False) := by
  refine ⟨by show 1 ≤ 1000; decide, fun a ha => ⟨a, v, rfl, upd_same, fun d hd nd => ⟨rfl, d, [(f, v)], upd_same, ?_, ?_, ?_⟩⟩⟩
  · rw [upd_ne nd, upd_same]
  · rw [upd_ne nd] at hd
    exact hd
  · rw [upd_ne nd] at hd
    refine h d _ hd upd_same fun b o e => ?_
    have nb : b ≠ d := ne_of_none e hd
    have na : b ≠ a := ne_of_none e ha
    rw [upd_ne nb, del_ne na, upd_ne na, upd_ne nb, upd_ne na]
    exact e
section
variable {X : Cx}
theorem pe_globI {x : Str} {n : Int} {pos : Pos} (hg : Gl X x) (hm : ∃ t, X.mg x = some (.int n t)) (hd : (x == ("__debug__" : Str)) = false := by decide) : PE X (.Name x pos) (tC (.int n)) := by
  obtain ⟨t, h⟩ := hm
  exact pe_glob hg h ⟨t, rfl⟩ hd
theorem pe_globS {x z : Str} {pos : Pos} (hg : Gl X x) (hm : ∃ t, X.mg x = some (.str z t)) (hd : (x == ("__debug__" : Str)) = false := by decide) : PE X (.Name x pos) (tC (.str z)) := by
  obtain ⟨t, h⟩ := hm
  exact pe_glob hg h ⟨t, rfl⟩ hd
def iWait (w : TI) : TI := fun σ H R => w σ H fun J H1 => Wait (R J H1)
theorem pi_wait {tg iter : Expr} {w : TI} (h : PI X tg iter w) : PI X tg iter (iWait w) :=
  ⟨fun pins s σ H R I q => thn (h.run pins s σ H _ I q) fun v s1 h1 => thn h1 fun itv s2 ⟨it, fp, tn, J, H2, e, I2, T, st2, f2, r⟩ => ⟨it, fp, tn, J, H2, e, I2, T, st2, f2, r.out⟩⟩
end
end L2
set_option Elab.async false
set_option linter.all false
set_option maxRecDepth 100000
set_option maxHeartbeats 4000000
namespace PfS
open PySem PySem.Spec PyProof.Rows
def uniq (ws : List Str) : List Str := ws.foldl (fun acc z => if z ∈ acc then acc else acc ++ [z]) []
theorem uniq_snoc (ws : List Str) (z : Str) : uniq (ws ++ [z]) = if z ∈ uniq ws then uniq ws else uniq ws ++ [z] := by
  unfold uniq
  rw [List.foldl_append] <;> rfl
theorem snoc_ind {α : Type} {p : List α → Prop} (h0 : p []) (hs : ∀ l x, p l → p (l ++ [x])) (l : List α) : p l := by
  have : ∀ r : List α, p r.reverse := fun r => by
    induction r with
    | nil => exact h0
    | cons x r ih =>
      rw [List.reverse_cons]
      exact hs _ _ ih
  have := this l.reverse
  rwa [List.reverse_reverse] at this
theorem mem_uniq (ws : List Str) : ∀ z, z ∈ uniq ws ↔ z ∈ ws := by
  refine snoc_ind (p := fun ws => ∀ z, z ∈ uniq ws ↔ z ∈ ws) (fun z => Iff.rfl) (fun l x ih z => ?_) ws
  rw [uniq_snoc]
  split
  · rename_i h
    rw [ih z, List.mem_append, List.mem_singleton]
    constructor
    · exact .inl
    · rintro (q | q)
      · exact q
      · rw [q]; exact (ih x).mp h
  · rw [List.mem_append, List.mem_append, ih z]
theorem uniq_le (ws : List Str) : (uniq ws).length ≤ ws.length := by
  refine snoc_ind (p := fun ws => (uniq ws).length ≤ ws.length) (Nat.le_refl _) (fun l x ih => ?_) ws
  rw [uniq_snoc, List.length_append]
  split
  · exact Nat.le_trans ih (Nat.le_add_right _ _)
  · rw [List.length_append]
    exact Nat.add_le_add_right ih _
theorem uniq_len (ws : List Str) : (uniq ws).length = ws.length ↔ ws.Nodup := by
  refine snoc_ind (p := fun ws => (uniq ws).length = ws.length ↔ ws.Nodup) ⟨fun _ => List.nodup_nil, fun _ => rfl⟩ (fun l x ih => ?_) ws
  rw [uniq_snoc, List.length_append]
  have hle := uniq_le l
  split
  · rename_i h
    have hx := (mem_uniq l x).mp h
    constructor
    · intro e
      exact absurd e (by show ¬ _ = _ + 1; omega)
    · intro nd
      rw [List.nodup_append] at nd
      exact absurd rfl (nd.2.2 x hx x List.mem_cons_self)
  · rename_i h
    have hx : x ∉ l := fun q => h ((mem_uniq l x).mpr q)
    rw [List.length_append]
    constructor
    · intro e
      have e2 : (uniq l).length = l.length := by
        have : (uniq l).length + 1 = l.length + 1 := e
        omega
      rw [List.nodup_append]
      refine ⟨ih.mp e2, List.nodup_cons.mpr ⟨(fun z => nomatch z), List.nodup_nil⟩, fun y hy z hz => ?_⟩
      rw [List.mem_singleton.mp hz]
      exact fun q => hx (q ▸ hy)
    · intro nd
      rw [List.nodup_append] at nd
      show (uniq l).length + 1 = l.length + 1
      rw [ih.mpr nd.1]
theorem any_uniq (ws : List Str) (z y : Str) : (ws.any (· == y) || decide (y = z)) = (ws ++ [z]).any (· == y) := by
  rw [List.any_append]
  by_cases e : y = z
  · subst e; simp
  · have hb : (z == y) = false := by simpa [beq_iff_eq] using (fun q : z = y => e q.symm)
    simp [hb, e]
section
variable {prog : Program} {w : World} {A : Around} {R : Result → Shared → Prop} {J : Addr} {fp wr : List Addr} {G : Array GenState → Array GenState → Prop} {n : Nat} {P : Nat → Value → Prop} {St : Nat → Shared → Prop}
theorem loopU (W : WalksS prog w A.in1 J fp wr G n P St) (S : Addr) (hSf : S ∉ fp) (ws : List Str) (hsz : ws.length = n) (hn1 : n ≤ 4000)
    (hval : ∀ i v, P i v → ∃ t, v = .str (ws.getD i Str.empty) t) :
    ∀ (k i : Nat) (s : Shared), n - i = k → i ≤ n → St i s → s.heap.SetOf (PySem.strKind prog w) S (fun y => (ws.take i).any (· == y)) (uniq (ws.take i)).length →
      (∀ s', Moved (S :: wr) G s s' → s'.heap.SetOf (PySem.strKind prog w) S (fun y => (ws.take n).any (· == y)) (uniq (ws.take n)).length → R (.ok (.ret .none)) s') →
      codeAny (model prog w) A (.builtin "set.update.loop" ⟨[.ref S, .ref J], []⟩) R s := by
  have hSw : S ∉ wr := fun q => hSf (W.sub _ q)
  have sub1 : ∀ b ∈ wr, b ∈ S :: wr := fun b q => List.mem_cons_of_mem _ q
  intro k
  induction k with
  | zero =>
    intro i s hk hi st hS hR
    have e : i = n := by omega
    subst e
    refine codeAny_builtin F.entry_set_update_loop ?_
    rw [Around.under_plainId F.plain_set_update_loop _]
    show wpAny _ A.in1 (pyNext (.ref J) >>= _) _ _ s
    refine wpAny_bind (W.done s _ _ st fun s1 mv => ?_)
    show wpAny _ A.in1 (ret Value.none) _ _ s1
    refine wpAny_pure (hR s1 (mv.mono sub1) ?_)
    obtain ⟨o, es, ep, tb, ho, q⟩ := hS
    exact ⟨o, es, ep, tb, mv.heap S _ hSw ho, q⟩
  | succ k ih =>
    intro i s hk hi st hS hR
    have lt : i < n := by omega
    refine codeAny_builtin F.entry_set_update_loop ?_
    rw [Around.under_plainId F.plain_set_update_loop _]
    show wpAny _ A.in1 (pyNext (.ref J) >>= _) _ _ s
    refine wpAny_bind (W.item i s _ _ lt st fun v s1 hP st1 mv => ?_)
    obtain ⟨t, rfl⟩ := hval i v hP
    obtain ⟨z, ez⟩ : ∃ z, z = ws.getD i Str.empty := ⟨_, rfl⟩
    rw [← ez]
    have hz : ws[i]? = some z := by
      rw [ez, List.getD_eq_getElem?_getD, List.getElem?_eq_getElem (by omega)] <;> rfl
    have S1 : s1.heap.SetOf (PySem.strKind prog w) S (fun y => (ws.take i).any (· == y)) (uniq (ws.take i)).length := by
      obtain ⟨o, es, ep, tb, ho, q⟩ := hS
      exact ⟨o, es, ep, tb, mv.heap S _ hSw ho, q⟩
    have few : (uniq (ws.take i)).length ≤ 4000 := Nat.le_trans (uniq_le _) (by rw [List.length_take]; omega)
    show wpAny _ A.in1 (holding [Value.str z t] (setAdd S (.str z t)) >>= _) _ _ s1
    refine wpAny_bind (wpAny_holding ?_)
    unfold setAdd
    refine wpAny_holding (wpAny_bind ((PySem.strKind prog w).pyHash (k := z) (strKind_is _ _ _ _) ?_))
    refine wpAny_setAddHashed_of (knd := PySem.strKind prog w) (s := { s1 with toks := s1.toks + 1 }) (strKind_is _ _ _ _) rfl S1 (by unfold scanBound; omega) fun h2 sb S2 => ?_
    have tk : ws.take (i + 1) = ws.take i ++ [z] := by rw [List.take_add_one, hz] <;> rfl
    have S3 : h2.SetOf (PySem.strKind prog w) S (fun y => (ws.take (i + 1)).any (· == y)) (uniq (ws.take (i + 1))).length := by
      rw [tk]
      refine SetOf_congr S2 (fun y => any_uniq _ _ _) ?_
      rw [uniq_snoc]
      have hany : (ws.take i).any (· == z) = decide (z ∈ uniq (ws.take i)) := by
        by_cases q : z ∈ ws.take i
        · rw [decide_eq_true ((mem_uniq _ _).mpr q)]
          exact List.any_eq_true.mpr ⟨z, q, by simp⟩
        · rw [decide_eq_false (fun y => q ((mem_uniq _ _).mp y))]
          refine List.any_eq_false.mpr fun y hy e => q ?_
          rw [← beq_iff_eq.mp e]
          exact hy
      rw [hany]
      by_cases q : z ∈ uniq (ws.take i)
      · rw [if_pos (decide_eq_true q), if_pos q]
      · rw [if_neg (by rw [decide_eq_false q]; exact Bool.false_ne_true), if_neg q, List.length_append] <;> rfl
    refine wpAny_pure ⟨plainId_quiet F.plain_set_update_loop _, ih (i + 1) _ (by omega) lt (W.frame _ s1 _ _ st1 (Nat.le_succ _) fun b hb o e => ?_) S3 fun s3 mv3 q3 => ?_⟩
    · rw [sb.2 b (fun q : b = S => hSf (by rw [← q]; exact hb))]
      exact e
    · refine hR s3 (Moved.trans W.gtrans ((mv.mono sub1).then_heap (Nat.le_succ _) fun b o hb e => ?_) mv3) q3
      rw [sb.2 b (fun q : b = S => hb (by rw [q]; exact List.mem_cons_self))]
      exact e
end
section
variable {prog : Program} {w : World} {A : Around} {E : Value → Shared → Prop} {s : Shared}
abbrev emptySet (ld : Bool) : Obj := { cls := .type "set", dict := none, data := .set #[] 0 (.fresh 0 0 ld) }
theorem callSetT {l : Addr} {its : Array Value} {ws : List Str} {Q : Value → Shared → Prop} (hh : A.handled = none) (hl : s.heap.IsTuple l its) (hi : StrsAre its.toList ws) (hn : ws.length ≤ 4000)
    (q : ∀ (h2 : Heap) (tk : Nat), h2.SetOf (PySem.strKind prog w) s.heap.objs.size (fun y => ws.any (· == y)) (uniq ws).length → (∀ b o, b < s.heap.objs.size → s.heap.get? b = some o → h2.get? b = some o) → Q (.ref s.heap.objs.size) { s with heap := h2, toks := tk }) :
    wpAny (model prog w) A (call (.type "set") [.ref l]) Q E s := by
  obtain ⟨c, tl, hmro⟩ := PySem.F.called_set.mro
  have g1 := PySem.F.called_set.made
  have g2 := PySem.F.called_set.sub
  have g3 := PySem.F.called_set.notType
  have g4 := PySem.F.called_set.canCreate
  have g5 := PySem.F.typeCall_set_1 (.ref l)
  have hsz : ws.length = its.size := by rw [← StrsAre.len_eq hi, Array.length_toList]
  refine wpAny_call (codeAny_of_tree ?_)
  show wpAny _ _ (callAny (.type "set") _) _ _ _
  refine wpAny_pure ⟨Code.quiet_builtin _ (by decide +kernel), codeAny_builtin PySem.F.entry_type_call ?_⟩
  rw [Around.under_plain (weight_type_call_type "set" [.ref l] []) rfl]
  repeat (any_goals (first | assumption | wp_step))
  refine codeAny_mono (code_set_new_1 (.ref l) (E := E) (Q₁ := fun ob s1 => ∃ ld : Bool, ob = .ref s.heap.objs.size ∧ s1 = { s with heap := s.heap.push (emptySet ld) }) fun ld => ⟨ld, rfl, rfl⟩) fun r s1 hr => ?_
  cases r with
  | error e => exact hr
  | ok fl =>
    cases fl with
    | ret ob =>
      obtain ⟨ld, rfl, rfl⟩ := hr
      have hS : (s.heap.push (emptySet ld)).get? s.heap.objs.size = some (emptySet ld) := Heap.get?_push_size _ rfl
      have hT : Shared.TypeIs { s with heap := s.heap.push (emptySet ld) } (.ref s.heap.objs.size) "set" := ⟨_, hS, rfl⟩
      have g6 := PySem.F.called_set.init.lookup
      have g7 := PySem.F.called_set.init.bind (.ref s.heap.objs.size)
      repeat (any_goals (first | assumption | wp_step))
      refine codeAny_mono (codeAny_call_builtin (R := wants (fun r s2 => r = .none ∧ ∃ h2 tk, s2 = { s with heap := h2, toks := tk } ∧ h2.SetOf (PySem.strKind prog w) s.heap.objs.size (fun y => ws.any (· == y)) (uniq ws).length ∧
          (∀ b o, b < s.heap.objs.size → s.heap.get? b = some o → h2.get? b = some o)) E) PySem.F.called_set.init.plain PySem.F.entry_set_init (check_set_init_1 hT ?_)) fun r2 s2 hr2 => ?_
      · obtain ⟨ol, hol, hcl, nl, hdl⟩ := hl
        obtain ⟨oc, od, odt, os⟩ := ol
        simp only at hcl hdl
        subst hcl
        subst hdl
        have hol2 : (s.heap.push (emptySet ld)).get? l = some { cls := .type "tuple", dict := od, data := .seq its nl, slots := os } := Heap.get?_push_of_some _ hol
        have g8 := PySem.F.sub_tuple_set
        have g9 := PySem.F.sub_tuple_frozenset
        have g10 : (Value.type "tuple" == Value.type "dict") = false := by decide
        have hl1 : (s.heap.push (emptySet ld)).IsTuple l its := ⟨_, hol2, rfl, nl, rfl⟩
        unfold Builtin.«set.__init__» noKeywords Builtin.Frozenset.updateFrom
        generalize ePI : pyIter = PI
        wp_walk
        subst ePI
        refine wpAny_pyIter_tuple hl1 (wpAny_bind (wpAny_runValue ?_))
        have lS : l < s.heap.objs.size := Heap.lt_size hol
        have hh3 : A.in1.in1.in1.handled = none := by simp [hh]
        have neI : l ≠ (s.heap.push (emptySet ld)).objs.size := by
          rw [Heap.size_push]
          exact Nat.ne_of_lt (Nat.lt_succ_of_lt lS)
        have hSf : s.heap.objs.size ∉ [(s.heap.push (emptySet ld)).objs.size, l] := by
          rw [Heap.size_push]
          simp only [List.mem_cons, List.mem_singleton, List.not_mem_nil, or_false, not_or]
          exact ⟨Nat.ne_of_lt (Nat.lt_succ_self _), Nat.ne_of_gt lS⟩
        have hval : ∀ (i : Nat) (v : Value), its[i]? = some v → ∃ t, v = .str (ws.getD i Str.empty) t := fun i v hv => SS.strs_at hi i v (by rw [Array.getElem?_toList]; exact hv)
        have tkall : ws.take its.size = ws := by rw [← hsz, List.take_length]
        refine loopU ((Walks.tuple hh3 _ l neI its).toS) s.heap.objs.size hSf ws hsz (by omega) hval (its.size - 0) 0 _ (by omega) (Nat.zero_le _) ⟨⟨_, Heap.get?_push_size _ rfl, rfl, rfl⟩, (hl1.push _)⟩ ?hS0 ?hR
        case hS0 =>
          have hget : ((s.heap.push (emptySet ld)).push { cls := .type "tuple_iterator", data := .fields #[.ref l, .int 0 0] }).get? s.heap.objs.size = some (emptySet ld) := Heap.get?_push_of_some _ hS
          exact SetOf_congr ((setObjOf_fresh (knd := PySem.strKind prog w) ld).setOf hget (by unfold scanBound; omega)) (fun _ => rfl) rfl
        case hR =>
          intro s3 mv S3
          rw [tkall] at S3
          obtain ⟨h3, gn, dr, tk, os3⟩ := s3
          have eg : gn = s.gens := mv.gens
          have ed : dr = s.drawn := mv.drawn
          have eo : os3 = s.os := mv.os
          subst eg
          subst ed
          subst eo
          show wpAny _ _ _ _ _ _
          refine wpAny_pure ?_
          show wpAny _ _ (ret Value.none) _ _ _
          refine wpAny_pure ⟨rfl, h3, tk, rfl, S3, fun b o hb e => ?_⟩
          have b1 : b ≠ s.heap.objs.size := Nat.ne_of_lt hb
          have b2 : b ≠ (s.heap.push (emptySet ld)).objs.size := by
            rw [Heap.size_push]
            exact Nat.ne_of_lt (Nat.lt_succ_of_lt hb)
          refine mv.heap b o ?_ (Heap.get?_push_of_some _ (Heap.get?_push_of_some _ e))
          simp only [List.mem_cons, List.mem_singleton, List.not_mem_nil, or_false, not_or]
          exact ⟨b1, b2⟩
      · cases r2 with
        | error e => exact hr2
        | ok fl2 =>
          cases fl2 with
          | ret r =>
            obtain ⟨rfl, h2, tk, rfl, S2, k2⟩ := hr2
            repeat (any_goals (first | assumption | wp_step))
            exact q _ _ S2 k2
          | _ => exact hr2.elim
    | _ => exact hr.elim
end
end PfS
namespace L2
open PySem PySem.Spec PyProof.Rows
def tLenU (K : PySem.W.Frag) (ta : TE) : TE := fun σ H Q => ta σ H fun x H1 => ∃ l, ∃ ws : List Str, x = .ref l ∧ SqT K H1 l (ws.map V.str) ∧ ws.length ≤ 4000 ∧ Q (.int (PfS.uniq ws).length) H1
section
variable {X : Cx}
theorem pe_lenU {a : Expr} {ta : TE} {p p2 q pos : Pos} (hc : X.calm = true) (hg : Gl X "len") (hm : X.mg "len" = none) (hg2 : Gl X "set") (hm2 : X.mg "set" = none) (ha : PE X a ta)
    (na : starEach [a] X.env = (false, eval a X.env) :: starEach [] X.env := by rfl) : PE X (.Call (.Name "len" p) [.Call (.Name "set" p2) [a] [] q] [] pos) (tLenU X.K ta) := by
  refine ⟨fun pins s σ H Q I h => ?_⟩
  refine Call_ (ld_blt I hg hm boot_len (callWith_builtin1 (args_cons ?_ rfl) rfl rfl))
  refine Call_ (ld_blt I hg2 hm2 boot_set (callWith_type1 (args_cons (thn (ha.run pins s σ H _ I h) fun v s1 ⟨x, H1, I1, r1, q1⟩ => args_nil ?_) na) na rfl))
  obtain ⟨l, ws, rfl, hq, hn, q1⟩ := q1
  cases r1
  obtain ⟨its, r, pl, hz⟩ := I1.tuple hq
  refine PfS.callSetT (I1.ok.hd hc) pl (by simpa using strsAre_of r) (by omega) fun h2 tk S2 k2 => args_nil ?_
  have hle := PfS.uniq_le ws
  obtain ⟨o, es, ep, t, ho, hex, hd, _, _, _, hf, hcn⟩ := S2
  have I2 : Inv X pins σ H1 { s1 with heap := h2, toks := tk } := I1.kept fun b o e => k2 b o (Heap.lt_size e) e
  exact call_len_set ho hex hd hf (by rw [hcn] <;> omega) ⟨.int (PfS.uniq ws).length, H1, I2.tok _, ⟨_, by rw [hcn]⟩, q1⟩
end
section
variable {X : Cx} {CX : CXT} {k : Nat} {f C : Addr} {fd : FuncData} {ps : List Str} {sp : Sp} {E : St → XK} {x : Str} {p pos : Pos} {e : Expr} {es : List Expr} {t : TA}
def tMakeW (C : Addr) (sp : Sp) (E : St → XK) (t : TA) : TE := fun σ H Q => t σ H fun vs H1 => ∀ x dx, H1 x = none → H1 dx = none → dx ≠ x →
  sp (.ref x :: vs) (upd (upd H1 dx (.own x)) x (.ins C dx [])) (fun v H2 => v = .non ∧ Q (.ref x) H2) (E σ)
theorem pe_makeW (M : Mk X.K C f) (F : FnOk X.prog X.w X.K X.mg X.base CX k f fd ps sp) (hr : Room (k + 1) X.A) (hg : Gl X x) (hm : X.mg x = some (.ref C)) (hb : Binds X.K fd ps []) (hx : ∀ σ, PassesAt CX X σ (E σ))
    (ha : PA X (e :: es) t) (hdb : (x == ("__debug__" : Str)) = false := by decide) (he : starEach (e :: es) X.env = (false, eval e X.env) :: starEach es X.env := by rfl) (hpl : (backTo pos (starEach es X.env)).any (·.1) = false := by rfl) :
    PE X (.Call (.Name x p) (e :: es) [] pos) (tMakeW C sp E t) := by
  refine ⟨fun pins s σ H Q I h => ?_⟩
  refine wpAny_Call_Name_kw (ld_glob I hg hm ?_ hdb)
  refine PySem.W.callWith_K (h₀ := X.base) I.ok.mod.kin M.kp (thn (ha.run pos pins s σ H _ I h) fun us s1 ⟨vs, H1, I1, r, q⟩ => ⟨I1.kIn, ?_⟩) he hpl
  have hq := q (s1.heap.objs.size + 1) s1.heap.objs.size (I1.hok.fresh (Nat.le_succ _)) (I1.hok.fresh (Nat.le_refl _)) (Nat.ne_of_lt (Nat.lt_succ_self _))
  have I2 := Inv.made (C := C) I1
  have r2 : Vals (V.ref (s1.heap.objs.size + 1) :: vs) (Value.ref (s1.heap.objs.size + 1) :: us) := .cons rfl r
  have hl : (Value.ref (s1.heap.objs.size + 1) :: us).length = ps.length := by
    rw [← r2.length]
    exact F.len _ _ _ _ hq
  refine wpAny_call (make_map (f := f) I1.kIn M.makes M.init (beq_iff_eq.mp M.fn) (codeAny_mono (F.run _ X.stack _ _ ⟨Value.ref (s1.heap.objs.size + 1) :: us, []⟩ (Value.ref (s1.heap.objs.size + 1) :: us) _ _ (E σ) (hr.make C us [])
    (I2.env0.make C us []) (by
      have := hb _ (Value.ref (s1.heap.objs.size + 1) :: us) I2.kIn (by rw [List.append_nil]; exact hl)
      rw [List.append_nil] at this
      exact this) r2 hq) fun r s2 hq2 => ?_))
  cases r with
  | error er => exact hx σ pins _ _ er s2 I2 hq2
  | ok fl =>
    cases fl with
    | ret u =>
      obtain ⟨v, H3, I3, rv, ev, q3⟩ := I2.after hq2
      subst ev
      exact ⟨rv, ⟨V.ref (s1.heap.objs.size + 1), H3, I3, rfl, q3⟩⟩
    | next => exact False.elim hq2
    | brk => exact False.elim hq2
    | cont => exact False.elim hq2
end
end L2
set_option Elab.async false
set_option linter.all false
set_option maxRecDepth 100000
set_option maxHeartbeats 4000000
namespace PfX
open PySem PySem.Spec PyProof.Rows PySem.Froz L2
abbrev newSet (ld : Bool) : Obj := { cls := .type "set", dict := none, data := .set #[] 0 (.fresh 0 0 ld) }
theorem lay_led (t : SetTable) (es : Array (Int × Value)) (h : Int) (v : Value) : (layNew t es h v).2.1.led = t.led := by
  unfold layNew
  split
  · dsimp only
    unfold SetTable.orStandIn
    split <;> rfl
  · rfl
theorem relay_led (t : SetTable) (es : Array (Int × Value)) (n : Nat) : (relayAll t es n).2.1.led = t.led := by
  unfold relayAll
  split
  · rename_i t' order e
    have el : t'.led = t.led := by
      rw [relaid_eq] at e
      cases z : SetTable.layClean (SetTable.sizeAbove n - 1) (es.map (·.1)) with
      | none => rw [z] at e; cases e
      | some ow =>
        rw [z] at e
        have e2 : _ = t' := congrArg Prod.fst (Option.some.inj e)
        rw [← e2] <;> rfl
    dsimp only
    split
    · exact el
    · rfl
  · rfl
theorem add_led (h : Int) (v : Value) (D : SD) : (addTx h v D).2.2.led = D.2.2.led := by
  have e := lay_led D.2.2 D.1 h v
  unfold addTx
  generalize layNew D.2.2 D.1 h v = L at e
  have e2 : (if L.2.1.plain = true then { L.2.1 with plain := false } else L.2.1 : SetTable).led = D.2.2.led := by
    split <;> exact e
  generalize (if L.2.1.plain = true then { L.2.1 with plain := false } else L.2.1 : SetTable) = t2 at e2
  unfold tailTx
  split
  · exact (relay_led _ _ _).trans e2
  · exact e2
def MOk (m : Nat) : Prop := m = 7 ∨ m = 15
def cap (m : Nat) : Nat := if m = 7 then 4 else 7
theorem lcg15 : ∀ i : Fin 16, ∀ j : Fin 16, ∃ k : Fin 16, lcgI 15 i.1 k.1 = j.1 := by decide +kernel
theorem met15 (h : Int) {j : Nat} (hj : j ≤ 15) : ∃ k, k < 10 * SetTable.turns 15 ∧ way 15 h k = j := by
  obtain ⟨k0, e0⟩ := lcg15 ⟨runI 15 (SetTable.bits h) 12, Nat.lt_succ_of_le (runI_le _ _ _)⟩ ⟨j, Nat.lt_succ_of_le hj⟩
  have e1 : runI 15 (SetTable.bits h) (12 + k0.1) = j := by rw [runI_tail (bits_lt h)]; exact e0
  obtain ⟨k, hk, e2⟩ := run_nth 15 (SetTable.bits h) (12 + k0.1)
  have := k0.2
  refine ⟨k, by unfold SetTable.turns; omega, ?_⟩
  show (nth 15 (runAt 15 (SetTable.bits h % (15 + 1)) (SetTable.bits h)) k).j = j
  rw [e2]
  exact e1
theorem met_of {m : Nat} (mok : MOk m) (h : Int) {j : Nat} (hj : j ≤ m) : ∃ k, k < 10 * SetTable.turns m ∧ way m h k = j := by
  rcases mok with e | e
  · subst e
    exact nth_meets (.inl rfl) h hj
  · subst e
    exact met15 h hj
theorem freeSlot7 {t : SetTable} (r : Ris t.place.toList) (hd : t.dummies = #[]) (mok : MOk t.mask) (hl : t.place.size ≤ 7) (h : Int) : ∃ j, t.freeSlot h = some (j, false) := by
  have m7 : 7 ≤ t.mask := by rcases mok with e | e <;> omega
  have hlen : t.place.toList.length < t.mask + 1 := by rw [Array.length_toList]; omega
  obtain ⟨j, hj, hn⟩ := st_missing t.place.toList (t.mask + 1) hlen
  obtain ⟨k, hk, e⟩ := met_of mok h (Nat.le_of_lt_succ hj)
  obtain ⟨K, h1, h2, h3⟩ := st_least (p := fun k => way t.mask h k ∉ t.place.toList) k (by show way t.mask h k ∉ _; rw [show way t.mask h k = j from e]; exact hn)
  have hin : ∀ k, k < K → way t.mask h k ∈ t.place.toList := fun k' hk' => by
    rcases Classical.em (way t.mask h k' ∈ t.place.toList) with c | c
    · exact c
    · exact absurd c (h3 k' hk')
  refine ⟨way t.mask h K, ?_⟩
  unfold SetTable.freeSlot SetTable.probe
  rw [start_run]
  rcases go_spec t r hd (fun _ => h + 1) h (10 * SetTable.turns t.mask) K _ rfl (Nat.lt_of_le_of_lt h1 hk) hin h2 with ⟨_, _, _, _, z, _⟩ | ⟨_, z⟩
  · exact absurd z (by omega)
  · rw [z] <;> rfl
structure TX (P : Program) (w : World) (h : Heap) (a : Addr) (m : Nat) (D : SD) (l : List Str) : Prop where
  at_ : h.get? a = some (sObj "set" D)
  ok : TxOk P w D l
  nd : l.Nodup
  led : w.params.followText "set-order" = true ∨ D.2.2.led = true
  ris : Ris D.2.2.place.toList
  msk : D.2.2.mask = m
  dm : D.2.2.dummies = #[]
structure TY (P : Program) (w : World) (h : Heap) (a : Addr) (D : SD) (l : List Str) : Prop where
  at_ : h.get? a = some (sObj "set" D)
  ok : TxOk P w D l
  nd : l.Nodup
  led : w.params.followText "set-order" = true ∨ D.2.2.led = true
  ris : Ris D.2.2.place.toList
theorem TxOk.len {P : Program} {w : World} {D : SD} {l : List Str} (h : TxOk P w D l) : D.2.2.place.size = l.length := by
  have := h.fit
  unfold SetTable.fits at this
  rw [Bool.and_eq_true, beq_iff_eq] at this
  rw [this.1, h.sz]
theorem add7 {D : SD} {l : List Str} {P : Program} {w : World} {h : Int} {v : Value} (ok : TxOk P w D l) (r : Ris D.2.2.place.toList) {m : Nat} (mok : MOk m) (hm : D.2.2.mask = m) (hd : D.2.2.dummies = #[]) (hl : l.length < cap m) :
    Ris (addTx h v D).2.2.place.toList ∧ (addTx h v D).2.2.mask = m ∧ (addTx h v D).2.2.dummies = #[] := by
  obtain ⟨es, ep, t⟩ := D
  have hpl : t.place.size = l.length := TxOk.len ok
  have hes : es.size = l.length := ok.sz
  have hm : t.mask = m := hm
  have cp : cap m ≤ 7 ∧ cap m + 3 ≤ m ∧ (cap m) * 5 < m * 3 := by
    unfold cap
    rcases mok with e | e
    · rw [e, if_pos rfl]; decide
    · rw [e, if_neg (by decide)]; decide
  obtain ⟨j, hf⟩ := freeSlot7 (t := t) r hd (by rw [hm]; exact mok) (by omega) h
  have hput : (t.put j).1.place.size = l.length + 1 := by
    show (SetTable.insertAt t.place _ j).size = _
    rw [← Array.length_toList, SetTable.toList_insertAt, List.length_append, List.length_take, List.length_cons, List.length_drop, Array.length_toList]
    omega
  have hpd : (t.put j).1.dummies = #[] := put_dm hd j
  have hsz : (SetTable.insertAt es (t.put j).2 (h, v)).size = l.length + 1 := by
    rw [← Array.length_toList, SetTable.toList_insertAt, List.length_append, List.length_take, List.length_cons, List.length_drop, Array.length_toList]
    omega
  have hfit : (t.put j).1.fits (SetTable.insertAt es (t.put j).2 (h, v)).size = true := by
    unfold SetTable.fits SetTable.fill
    rw [hput, hsz, hpd, show (t.put j).1.mask = t.mask from rfl, hm, Bool.and_eq_true]
    exact ⟨beq_self_eq_true _, decide_eq_true (by show l.length + 1 + 0 ≤ m; omega)⟩
  have hL : layNew t es h v = (SetTable.insertAt es (t.put j).2 (h, v), (t.put j).1, false, false) := by
    unfold layNew
    rw [hf]
    have hfit2 : (t.put j).1.fits (SetTable.insertAt es (SetTable.below t.place j) (h, v)).size = true := hfit
    show (SetTable.insertAt es (t.put j).2 (h, v), (t.put j).1.orStandIn _, false, !(t.put j).1.fits _) = _
    unfold SetTable.orStandIn
    rw [if_pos hfit2, hfit2] <;> rfl
  have hris : Ris (t.put j).1.place.toList := by
    have := layNew_ris t es h v r
    rw [hL] at this
    exact this
  have key : ∀ t2 : SetTable, t2.place = (t.put j).1.place → t2.mask = m → t2.dummies = #[] → Ris (tailTx ep (SetTable.insertAt es (t.put j).2 (h, v)) t2 false).2.2.place.toList ∧ (tailTx ep (SetTable.insertAt es (t.put j).2 (h, v)) t2 false).2.2.mask = m ∧ (tailTx ep (SetTable.insertAt es (t.put j).2 (h, v)) t2 false).2.2.dummies = #[] := by
    intro t2 e1 e2 e3
    have hfull : t2.tooFull = false := by
      unfold SetTable.tooFull SetTable.fill
      rw [e1, e3, e2, hput]
      exact decide_eq_false (by show ¬ (l.length + 1 + 0) * 5 ≥ m * 3; omega)
    unfold tailTx
    rw [hfull, if_neg (by decide)]
    exact ⟨by rw [e1]; exact hris, e2, e3⟩
  unfold addTx
  rw [hL]
  show Ris (tailTx ep _ (if (t.put j).1.plain = true then { (t.put j).1 with plain := false } else (t.put j).1) false).2.2.place.toList ∧ _
  split
  · exact key _ rfl hm hpd
  · exact key _ rfl hm hpd
section
variable {P : Program} {w : World} {A : Around} {E : Value → Shared → Prop} {s : Shared}
theorem TX.keep {h h2 : Heap} {a : Addr} {m : Nat} {D : SD} {l : List Str} (x : TX P w h a m D l) (k : ∀ o, h.get? a = some o → h2.get? a = some o) : TX P w h2 a m D l := ⟨k _ x.at_, x.ok, x.nd, x.led, x.ris, x.msk, x.dm⟩
theorem TY.keep {h h2 : Heap} {a : Addr} {D : SD} {l : List Str} (x : TY P w h a D l) (k : ∀ o, h.get? a = some o → h2.get? a = some o) : TY P w h2 a D l := ⟨k _ x.at_, x.ok, x.nd, x.led, x.ris⟩
theorem TX.y {h : Heap} {a : Addr} {m : Nat} {D : SD} {l : List Str} (x : TX P w h a m D l) : TY P w h a D l := ⟨x.at_, x.ok, x.nd, x.led, x.ris⟩
theorem TX.fresh {h : Heap} {a : Addr} (ho : h.get? a = some (newSet (!w.params.followText "set-order"))) : TX P w h a 7 (#[], 0, .fresh 0 0 (!w.params.followText "set-order")) [] := by
  refine ⟨ho, TxOk.nil (by show (decide ((0 : Nat) = 0) && decide ((0 : Nat) ≤ 7)) = true; rfl), .nil, ?_, by simp [SetTable.fresh, Ris], rfl, rfl⟩
  cases e : w.params.followText "set-order" with
  | true => exact .inl rfl
  | false => exact .inr rfl
theorem TX.add {a : Addr} {m : Nat} {D : SD} {l : List Str} {k : Str} {u : Tok} {Q : Bool → Shared → Prop} (mok : MOk m) (x : TX P w s.heap a m D l) (hk : k ∉ l) (hb : l.length < cap m)
    (h : ∀ h2 D2, Heap.SameBut a s.heap h2 → TX P w h2 a m D2 (k :: l) → Q true { s with heap := h2 }) : wpAny (model P w) A (setAddHashed a (.str k u) (hashStr w k)) Q E s := by
  have cp : cap m ≤ 7 := by unfold cap; split <;> decide
  obtain ⟨r, m', d⟩ := add7 (h := hashStr w k) (v := .str k u) x.ok x.ris mok x.msk x.dm hb
  refine add_x x.at_ x.ok hk (by unfold scanBound; omega) (h _ _ (Heap.SameBut.update ..) ⟨get_upd _ x.at_ rfl, add_ok u x.ok, List.nodup_cons.mpr ⟨hk, x.nd⟩, ?_, r, m', d⟩)
  rw [add_led]
  exact x.led
theorem callSet {x : Value} {Q : Value → Shared → Prop} {R : Shared → Prop}
    (hup : wpAny (model P w) A.in1.in1 (Builtin.Frozenset.updateFrom "set.__init__" s.heap.objs.size x) (fun _ s2 => R s2) E { s with heap := s.heap.push (newSet (!w.params.followText "set-order")) })
    (q : ∀ s2, R s2 → Q (.ref s.heap.objs.size) s2) : wpAny (model P w) A (call (.type "set") [x]) Q E s := by
  obtain ⟨c, tl, hmro⟩ := PySem.F.called_set.mro
  have g1 := PySem.F.called_set.made
  have g2 := PySem.F.called_set.sub
  have g3 := PySem.F.called_set.notType
  have g4 := PySem.F.called_set.canCreate
  have g5 := PySem.F.typeCall_set_1 x
  refine wpAny_call (codeAny_of_tree ?_)
  show wpAny _ _ (callAny (.type "set") _) _ _ _
  refine wpAny_pure ⟨Code.quiet_builtin _ (by decide +kernel), codeAny_builtin PySem.F.entry_type_call ?_⟩
  rw [Around.under_plain (weight_type_call_type "set" [x] []) rfl]
  repeat (any_goals (first | assumption | wp_step))
  refine codeAny_mono (code_set_led1 x (E := E) (Q₁ := fun ob s1 => ob = .ref s.heap.objs.size ∧ s1 = { s with heap := s.heap.push (newSet (!w.params.followText "set-order")) }) ⟨rfl, rfl⟩) fun r s1 hr => ?_
  cases r with
  | error e => exact hr
  | ok fl =>
    cases fl with
    | ret ob =>
      obtain ⟨rfl, rfl⟩ := hr
      have hS : (s.heap.push (newSet (!w.params.followText "set-order"))).get? s.heap.objs.size = some (newSet (!w.params.followText "set-order")) := Heap.get?_push_size _ rfl
      have hT : Shared.TypeIs { s with heap := s.heap.push (newSet (!w.params.followText "set-order")) } (.ref s.heap.objs.size) "set" := ⟨_, hS, rfl⟩
      have g6 := PySem.F.called_set.init.lookup
      have g7 := PySem.F.called_set.init.bind (.ref s.heap.objs.size)
      repeat (any_goals (first | assumption | wp_step))
      refine codeAny_mono (codeAny_call_builtin (R := wants (fun r s2 => r = .none ∧ R s2) E) PySem.F.called_set.init.plain PySem.F.entry_set_init (check_set_init_1 hT ?_)) fun r2 s2 hr2 => ?_
      · unfold Builtin.«set.__init__» noKeywords
        generalize eUF : Builtin.Frozenset.updateFrom = UF
        wp_walk
        subst eUF
        exact wpAny_mono hup (fun _ s2 h => wpAny_pure ⟨rfl, h⟩) fun _ _ h => h
      · cases r2 with
        | error e => exact hr2
        | ok fl2 =>
          cases fl2 with
          | ret r =>
            obtain ⟨rfl, hR⟩ := hr2
            repeat (any_goals (first | assumption | wp_step))
            exact q _ hR
          | _ => exact hr2.elim
    | _ => exact hr.elim
end
end PfX
set_option Elab.async false
set_option linter.all false
set_option maxRecDepth 100000
set_option maxHeartbeats 4000000
namespace PfX
open PySem PySem.Spec PyProof.Rows PySem.Froz L2
section
variable {prog : Program} {w : World} {A : Around} {R : Result → Shared → Prop} {J : Addr} {fp wr : List Addr} {G : Array GenState → Array GenState → Prop} {n : Nat} {P : Nat → Value → Prop} {St : Nat → Shared → Prop}
theorem loopX (W : WalksS prog w A.in1 J fp wr G n P St) (S : Addr) (hSf : S ∉ fp) (ws : List Str) (nd : ws.Nodup) (hsz : ws.length = n) (hn1 : n ≤ 4)
    (hval : ∀ i v, P i v → ∃ t, v = .str (ws.getD i Str.empty) t) :
    ∀ (k i : Nat) (s : Shared), n - i = k → i ≤ n → St i s → (∃ D, TX prog w s.heap S 7 D (ws.take i).reverse) →
      (∀ s', Moved (S :: wr) G s s' → (∃ D, TX prog w s'.heap S 7 D ws.reverse) → R (.ok (.ret .none)) s') →
      codeAny (model prog w) A (.builtin "set.update.loop" ⟨[.ref S, .ref J], []⟩) R s := by
  have hSw : S ∉ wr := fun q => hSf (W.sub _ q)
  have sub1 : ∀ b ∈ wr, b ∈ S :: wr := fun b q => List.mem_cons_of_mem _ q
  intro k
  induction k with
  | zero =>
    intro i s hk hi st hS hR
    have e : i = n := by omega
    subst e
    refine codeAny_builtin F.entry_set_update_loop ?_
    rw [Around.under_plainId F.plain_set_update_loop _]
    show wpAny _ A.in1 (pyNext (.ref J) >>= _) _ _ s
    refine wpAny_bind (W.done s _ _ st fun s1 mv => ?_)
    show wpAny _ A.in1 (ret Value.none) _ _ s1
    refine wpAny_pure (hR s1 (mv.mono sub1) ?_)
    obtain ⟨D, q⟩ := hS
    rw [← hsz, List.take_length] at q
    exact ⟨D, q.keep fun o e => mv.heap S o hSw e⟩
  | succ k ih =>
    intro i s hk hi st hS hR
    have lt : i < n := by omega
    refine codeAny_builtin F.entry_set_update_loop ?_
    rw [Around.under_plainId F.plain_set_update_loop _]
    show wpAny _ A.in1 (pyNext (.ref J) >>= _) _ _ s
    refine wpAny_bind (W.item i s _ _ lt st fun v s1 hP st1 mv => ?_)
    obtain ⟨t, rfl⟩ := hval i v hP
    obtain ⟨z, ez⟩ : ∃ z, z = ws.getD i Str.empty := ⟨_, rfl⟩
    rw [← ez]
    have hz : ws[i]? = some z := by
      rw [ez, List.getD_eq_getElem?_getD, List.getElem?_eq_getElem (by omega)] <;> rfl
    obtain ⟨D, hS⟩ := hS
    have S1 : TX prog w s1.heap S 7 D (ws.take i).reverse := hS.keep fun o e => mv.heap S o hSw e
    have tk : ws.take (i + 1) = ws.take i ++ [z] := by rw [List.take_add_one, hz] <;> rfl
    have hnot : z ∉ (ws.take i).reverse := fun q => by
      have n2 : (ws.take (i + 1)).Nodup := nd.sublist (List.take_sublist _ _)
      rw [tk, List.nodup_append] at n2
      exact n2.2.2 z (List.mem_reverse.mp q) z List.mem_cons_self rfl
    have few : (ws.take i).reverse.length < cap 7 := by show _ < 4; rw [List.length_reverse, List.length_take]; omega
    show wpAny _ A.in1 (holding [Value.str z t] (setAdd S (.str z t)) >>= _) _ _ s1
    refine wpAny_bind (wpAny_holding ?_)
    unfold setAdd
    refine wpAny_holding (wpAny_bind ((PySem.strKind prog w).pyHash (k := z) (strKind_is _ _ _ _) ?_))
    refine TX.add (s := { s1 with toks := s1.toks + 1 }) (.inl rfl) S1 hnot few fun h2 D2 sb S2 => ?_
    have S3 : TX prog w h2 S 7 D2 (ws.take (i + 1)).reverse := by
      rw [tk, List.reverse_append]
      exact S2
    refine wpAny_pure ⟨plainId_quiet F.plain_set_update_loop _, ih (i + 1) _ (by omega) lt (W.frame _ s1 _ _ st1 (Nat.le_succ _) fun b hb o e => ?_) ⟨D2, S3⟩ fun s3 mv3 q3 => ?_⟩
    · rw [sb.2 b (fun q : b = S => hSf (by rw [← q]; exact hb))]
      exact e
    · refine hR s3 (Moved.trans W.gtrans ((mv.mono sub1).then_heap (Nat.le_succ _) fun b o hb e => ?_) mv3) q3
      rw [sb.2 b (fun q : b = S => hb (by rw [q]; exact List.mem_cons_self))]
      exact e
end
section
variable {P : Program} {w : World} {A : Around} {E : Value → Shared → Prop} {s : Shared}
def NewX (P : Program) (w : World) (s : Shared) (l : List Str) (s2 : Shared) : Prop := ∃ h2 tk, s2 = { s with heap := h2, toks := tk } ∧ (∃ m D, MOk m ∧ (m = 7 ↔ l.length ≤ 4) ∧ l.length ≤ 7 ∧ TX P w h2 s.heap.objs.size m D l) ∧ ∀ b o, s.heap.get? b = some o → h2.get? b = some o
theorem callSetL {l : Addr} {its : Array Value} {ws : List Str} {Q : Value → Shared → Prop} (hh : A.handled = none) (hl : s.heap.IsList l its) (hi : StrsAre its.toList ws) (nd : ws.Nodup) (hn : ws.length ≤ 4)
    (q : ∀ s2, NewX P w s ws.reverse s2 → Q (.ref s.heap.objs.size) s2) : wpAny (model P w) A (call (.type "set") [.ref l]) Q E s := by
  have hsz : ws.length = its.size := by rw [← StrsAre.len_eq hi, Array.length_toList]
  refine callSet (R := NewX P w s ws.reverse) ?_ q
  obtain ⟨ol, hol, hcl, nl, hdl⟩ := hl
  obtain ⟨oc, od, odt, os⟩ := ol
  simp only at hcl hdl
  subst hcl
  subst hdl
  obtain ⟨ld, eld⟩ : ∃ ld, ld = !w.params.followText "set-order" := ⟨_, rfl⟩
  have hS : (s.heap.push (newSet (!w.params.followText "set-order"))).get? s.heap.objs.size = some (newSet (!w.params.followText "set-order")) := Heap.get?_push_size _ rfl
  have hol2 : (s.heap.push (newSet (!w.params.followText "set-order"))).get? l = some { cls := .type "list", dict := od, data := .seq its nl, slots := os } := Heap.get?_push_of_some _ hol
  have g8 := PySem.F.sub_list_set
  have g9 := PySem.F.sub_list_frozenset
  have g10 : (Value.type "list" == Value.type "dict") = false := by decide
  have hl1 : (s.heap.push (newSet (!w.params.followText "set-order"))).IsList l its := ⟨_, hol2, rfl, nl, rfl⟩
  unfold Builtin.Frozenset.updateFrom
  generalize ePI : pyIter = PI
  wp_walk
  subst ePI
  refine wpAny_pyIter_list hl1 (wpAny_bind (wpAny_runValue ?_))
  have lS : l < s.heap.objs.size := Heap.lt_size hol
  have hh3 : A.in1.in1.in1.handled = none := by simp [hh]
  have neI : l ≠ (s.heap.push (newSet (!w.params.followText "set-order"))).objs.size := by
    rw [Heap.size_push]
    exact Nat.ne_of_lt (Nat.lt_succ_of_lt lS)
  have hSf : s.heap.objs.size ∉ [(s.heap.push (newSet (!w.params.followText "set-order"))).objs.size, l] := by
    rw [Heap.size_push]
    simp only [List.mem_cons, List.mem_singleton, List.not_mem_nil, or_false, not_or]
    exact ⟨Nat.ne_of_lt (Nat.lt_succ_self _), Nat.ne_of_gt lS⟩
  have hval : ∀ (i : Nat) (v : Value), its[i]? = some v → ∃ t, v = .str (ws.getD i Str.empty) t := fun i v hv => SS.strs_at hi i v (by rw [Array.getElem?_toList]; exact hv)
  refine loopX ((Walks.list hh3 _ l neI its).toS) s.heap.objs.size hSf ws nd hsz (by omega) hval (its.size - 0) 0 _ (by omega) (Nat.zero_le _) ⟨⟨_, Heap.get?_push_size _ rfl, rfl, rfl⟩, (hl1.push _)⟩ ?hS0 ?hR
  case hS0 =>
    exact ⟨_, (TX.fresh (P := P) (h := s.heap.push (newSet (!w.params.followText "set-order"))) hS).keep fun o e => Heap.get?_push_of_some _ e⟩
  case hR =>
    intro s3 mv S3
    obtain ⟨h3, gn, dr, tk, os3⟩ := s3
    have eg : gn = s.gens := mv.gens
    have ed : dr = s.drawn := mv.drawn
    have eo : os3 = s.os := mv.os
    subst eg
    subst ed
    subst eo
    obtain ⟨D3, S3⟩ := S3
    refine wpAny_pure ⟨h3, tk, rfl, ⟨7, D3, .inl rfl, ⟨fun _ => by rw [List.length_reverse]; omega, fun _ => rfl⟩, by rw [List.length_reverse]; omega, S3⟩, fun b o e => ?_⟩
    have hb := Heap.lt_size e
    have b1 : b ≠ s.heap.objs.size := Nat.ne_of_lt hb
    have b2 : b ≠ (s.heap.push (newSet (!w.params.followText "set-order"))).objs.size := by
      rw [Heap.size_push]
      exact Nat.ne_of_lt (Nat.lt_succ_of_lt hb)
    refine mv.heap b o ?_ (Heap.get?_push_of_some _ (Heap.get?_push_of_some _ e))
    simp only [List.mem_cons, List.mem_singleton, List.not_mem_nil, or_false, not_or]
    exact ⟨b1, b2⟩
end
end PfX
set_option Elab.async false
set_option linter.all false
set_option maxRecDepth 100000
set_option maxHeartbeats 4000000
namespace PfX
open PySem PySem.Spec PyProof.Rows PySem.Froz L2
section
variable {P : Program} {w : World} {A : Around} {E : Value → Shared → Prop} {s : Shared}
def t15 (ld : Bool) : SetTable := { mask := 15, place := #[], dummies := #[], finger := 0, led := ld, moves := 1, plain := true }
theorem relaid15 : ∀ (n : Fin 8) (ld : Bool), 5 ≤ n.1 → (SetTable.fresh 0 0 ld).relaid #[] ((0 + n.1) * 2) = some (t15 ld, #[]) := by decide +kernel
theorem room_any {S : Addr} {ld : Bool} {n : Nat} {Q : Unit → Shared → Prop} (hS : s.heap.get? S = some (newSet ld)) (eld : ld = !w.params.followText "set-order") (hn : n ≤ 7)
    (q : ∀ m h2 D2, MOk m → (m = 7 ↔ n ≤ 4) → n ≤ cap m → Heap.SameBut S s.heap h2 → D2.2.2.fill = 0 → D2.2.2.led = ld → TX P w h2 S m D2 [] → Q () { s with heap := h2 }) : wpAny (model P w) A (setRoomFor S n) Q E s := by
  have F0 := TX.fresh (P := P) (w := w) (h := s.heap) (a := S) (by rw [← eld]; exact hS)
  rw [← eld] at F0
  unfold setRoomFor
  refine wpAny_bind (wpAny_setState_of hS rfl (by rfl) ?_)
  by_cases h4 : n ≤ 4
  · have e : (SetTable.fresh 0 0 ld).roomFor n = none := by
      unfold SetTable.roomFor
      rw [if_neg (by show ¬ (0 + n) * 5 ≥ 7 * 3; omega)]
    dsimp only
    rw [e]
    exact wpAny_pure (q 7 s.heap _ (.inl rfl) ⟨fun _ => h4, fun _ => rfl⟩ h4 (Heap.SameBut.refl _ _) rfl rfl F0)
  · have e : (SetTable.fresh 0 0 ld).roomFor n = some ((0 + n) * 2) := by
      unfold SetTable.roomFor
      rw [if_pos (by show (0 + n) * 5 ≥ 7 * 3; omega)] <;> rfl
    have r15 := relaid15 ⟨n, by omega⟩ ld (by show 5 ≤ n; omega)
    have hsz : SetTable.sizeAbove ((0 + n) * 2) ≤ sizeLine := by
      have f : ∀ k : Fin 8, SetTable.sizeAbove ((0 + k.1) * 2) ≤ 32 := by decide +kernel
      exact Nat.le_trans (f ⟨n, by omega⟩) (by decide)
    dsimp only
    rw [e]
    dsimp only
    rw [setRelay_eq]
    refine wpAny_bind (wpAny_setState_of hS rfl (by rfl) ?_)
    dsimp only
    refine wp_if_neg (by omega) ?_
    try refine wpAny_bind (wpAny_pure ?_)
    rw [show ((#[] : Array (Int × Value)).map (·.1)) = #[] by simp, show (SetTable.fresh 0 0 ld).relaid #[] ((0 + n) * 2) = some (t15 ld, #[]) from r15]
    dsimp only
    refine wpAny_bind ?_
    refine wp_if_neg (by simp) ?_
    try refine wpAny_bind (wpAny_pure ?_)
    refine wpAny_pure ?_
    dsimp only
    refine wpAny_storeSet_of hS rfl ?_ (by simp)
    refine q 15 _ (#[], 1, t15 ld) (.inr rfl) ⟨fun z => absurd z (by decide), fun z => absurd z h4⟩ (by show n ≤ 7; exact hn) (Heap.SameBut.update ..) rfl rfl ⟨store_at hS rfl, TxOk.nil (by show (decide ((0 : Nat) = 0) && decide ((0 : Nat) ≤ 15)) = true; rfl), .nil, F0.led, by simp [t15, Ris], rfl, rfl⟩
theorem callSetD {d : Addr} {o : Obj} {es : Array DictEntry} {ep : Nat} {ws : List Str} {Q : Value → Shared → Prop} (hd : (d == sysModules) = false) (ho : s.heap.get? d = some o) (hx : o.ExactDict) (hdt : o.data = .dict es ep)
    (hk : ∀ (i : Nat) (e : DictEntry), es[i]? = some e → ∃ z t, ws[i]? = some z ∧ e.key = .str z t ∧ e.hash = hashStr w z) (hsz : ws.length = es.size) (nd : ws.Nodup) (hn : ws.length ≤ 7)
    (q : ∀ s2, NewX P w s ws.reverse s2 → Q (.ref s.heap.objs.size) s2) : wpAny (model P w) A (call (.type "set") [.ref d]) Q E s := by
  refine callSet (R := NewX P w s ws.reverse) ?_ q
  obtain ⟨oc, od, odt, os⟩ := o
  obtain ⟨e1, e2, e3⟩ := hx
  simp only at e1 e2 e3 hdt
  subst e1
  subst e2
  subst e3
  subst hdt
  have hS : (s.heap.push (newSet (!w.params.followText "set-order"))).get? s.heap.objs.size = some (newSet (!w.params.followText "set-order")) := Heap.get?_push_size _ rfl
  have ho2 : (s.heap.push (newSet (!w.params.followText "set-order"))).get? d = some { cls := .type "dict", dict := none, data := .dict es ep, slots := #[] } := Heap.get?_push_of_some _ ho
  have g8 := PySem.F.sub_dict_set
  have g9 := PySem.F.sub_dict_frozenset
  have g10 : (Value.type "dict" == Value.type "dict") = true := by decide
  have ndS : d ≠ s.heap.objs.size := Nat.ne_of_lt (Heap.lt_size ho)
  unfold Builtin.Frozenset.updateFrom
  generalize eRF : setRoomFor = RF
  wp_walk
  subst eRF
  refine room_any hS rfl (by omega) fun m h0 D0 mok m4 mc sb0 _ _ X0 => ?_
  have ho3 : h0.get? d = _ := (sb0.2 d ndS).trans ho2
  refine wpAny_bind (wpAny_dictEntries ho3 rfl ?_)
  refine wpAny_bind (PySem.SeqAt.wpAny_forIn_span 0 es.size _ (fun i _ s1 => ∃ h1 tk, s1 = { s with heap := h1, toks := tk } ∧ (∃ D, TX P w h1 s.heap.objs.size m D (ws.take i).reverse) ∧ ∀ b u, b ≠ s.heap.objs.size → (s.heap.push (newSet (!w.params.followText "set-order"))).get? b = some u → h1.get? b = some u) _ ?_ ?_ _ ⟨_, s.toks, rfl, ⟨_, X0⟩, fun b u nb e => (sb0.2 b nb).trans e⟩)
  · rintro i _ s1 _ hi ⟨h1, tk, rfl, ⟨D, X1⟩, k1⟩
    have hod := k1 d _ ndS ho2
    obtain ⟨e, he⟩ : ∃ e, es[i]? = some e := ⟨_, Array.getElem?_eq_getElem hi⟩
    obtain ⟨z, t, hz, hkey, hh⟩ := hk i e he
    have tkz : ws.take (i + 1) = ws.take i ++ [z] := by rw [List.take_add_one, hz] <;> rfl
    have hnot : z ∉ (ws.take i).reverse := fun q => by
      have n2 : (ws.take (i + 1)).Nodup := nd.sublist (List.take_sublist _ _)
      rw [tkz, List.nodup_append] at n2
      exact n2.2.2 z (List.mem_reverse.mp q) z List.mem_cons_self rfl
    have few : (ws.take i).reverse.length < cap m := by rw [List.length_reverse, List.length_take]; omega
    refine wpAny_bind (wpAny_dictEntries hod rfl ?_)
    rw [he]
    dsimp only
    rw [hkey, hh]
    refine wpAny_bind (wpAny_holding (TX.add (s := { s with heap := h1, toks := tk }) mok X1 hnot few fun h2 D2 sb X2 => ?_))
    have hod2 : h2.get? d = _ := (sb.2 d ndS).trans hod
    refine wpAny_bind (wpAny_dictEpoch hod2 rfl ?_)
    rw [if_neg (by simp)]
    refine wpAny_pure ⟨h2, tk, rfl, ⟨D2, ?_⟩, fun b u hb e => ?_⟩
    · rw [tkz, List.reverse_append]
      exact X2
    · rw [sb.2 b hb]
      exact k1 b u hb e
  · rintro _ s1 ⟨h1, tk, rfl, ⟨D, X1⟩, k1⟩
    refine wpAny_pure ⟨h1, tk, rfl, ⟨m, D, mok, ?_, by rw [List.length_reverse]; exact hn, ?_⟩, fun b u e => k1 b u (Nat.ne_of_lt (Heap.lt_size e)) (Heap.get?_push_of_some _ e)⟩
    · rw [List.length_reverse, hsz]
      exact m4
    · rw [Nat.zero_max, ← hsz, List.take_length] at X1
      exact X1
end
end PfX
set_option Elab.async false
set_option linter.all false
set_option maxRecDepth 100000
set_option maxHeartbeats 4000000
namespace PfX
open PySem PySem.Spec PyProof.Rows PySem.Froz L2
section
variable {P : Program} {w : World} {A : Around} {E : Value → Shared → Prop} {s : Shared}
theorem merge_few {S o : Addr} {ld : Bool} {m : Nat} {D : SD} {l : List Str} {each : Sem Unit} {Q : Unit → Shared → Prop} (hS : s.heap.get? S = some (newSet ld)) (eld : ld = !w.params.followText "set-order") (ho : TX P w s.heap o m D l) (hne : S ≠ o) (m4 : m = 7 ↔ l.length ≤ 4) (mok : MOk m) (hn : l.length ≤ 7)
    (q : ∀ h2 D2, Heap.SameBut S s.heap h2 → TY P w h2 S D2 l → Q () { s with heap := h2 }) : wpAny (model P w) A (setMerge S o each) Q E s := by
  obtain ⟨es, ep, t⟩ := D
  have hoat := ho.at_
  have hf : t.fits es.size = true := ho.ok.fit
  have hsz : es.size = l.length := ho.ok.sz
  have F0 := TX.fresh (P := P) (w := w) (h := s.heap) (a := S) (by rw [← eld]; exact hS)
  unfold setMerge
  rw [if_neg (by simpa using hne)]
  refine wpAny_bind (wpAny_setState_of hoat rfl hf ?_)
  dsimp only
  by_cases he : es.isEmpty = true
  · rw [if_pos he]
    have l0 : l = [] := by
      have : es.size = 0 := by simpa using he
      exact List.length_eq_zero_iff.mp (by omega)
    refine wpAny_pure ?_
    have := q s.heap _ (Heap.SameBut.refl _ _) (by rw [l0]; exact F0.y)
    exact this
  · rw [if_neg he]
    refine wpAny_bind (room_any hS eld (by omega) fun m2 h2 D2 mok2 m42 _ sb2 fl2 ld2 X2 => ?_)
    obtain ⟨es2, ep2, ts⟩ := D2
    have em : m2 = m := by
      rw [hsz] at m42
      rcases mok with e | e <;> rcases mok2 with e2 | e2
      · rw [e, e2]
      · have := m42.mpr (m4.mp e)
        omega
      · have := m4.mpr (m42.mp e2)
        omega
      · rw [e, e2]
    have ts0 : ts.fill = 0 := fl2
    have tm : ts.mask = m2 := X2.msk
    refine wpAny_bind (wpAny_setState_of X2.at_ rfl X2.ok.fit ?_)
    have er : ts.road t = .slotForSlot := by
      unfold SetTable.road
      have e2 : t.mask = m := ho.msk
      have e3 : t.dummies = #[] := ho.dm
      rw [ts0, tm, e2, e3, em]
      simp
    dsimp only
    rw [er]
    dsimp only
    refine wpAny_storeSet_of X2.at_ rfl ?_ (by rw [hsz]; have := sizeLine_eq; omega)
    refine q _ (es, ep2 + 1, { t with finger := ts.finger, led := ts.led && t.led, moves := ts.moves, plain := ts.plain && t.plain }) (sb2.trans (Heap.SameBut.update ..)) ⟨?_, ⟨ho.ok.el, ho.ok.mem, hsz, ?_⟩, ho.nd, ?_, ho.ris⟩
    · exact store_at X2.at_ rfl
    · exact hf
    · rcases ho.led with z | z
      · exact .inl z
      · cases zt : w.params.followText "set-order" with
        | true => exact .inl rfl
        | false =>
          refine .inr ?_
          show (ts.led && t.led) = true
          rw [show t.led = true from z, show ts.led = ld from ld2, eld, zt] <;> rfl
theorem toList_eraseAt {α : Type} (xs : Array α) (p : Nat) : (SetTable.eraseAt xs p).toList = xs.toList.eraseIdx p := by
  unfold SetTable.eraseAt
  rw [Array.toList_append, Array.toList_extract, Array.toList_extract, List.eraseIdx_eq_take_drop_succ]
  simp [List.extract_eq_take_drop, List.extract]
  try rw [List.take_of_length_le (by simp)]
def keyS (e : Int × Value) : Str := match e.2 with | .str z _ => z | _ => Str.empty
theorem is_keyS {e : Int × Value} (h : ∃ k, (strKind P w).is k e.2 = true) (k : Str) : (strKind P w).is k e.2 = true ↔ keyS e = k := by
  obtain ⟨k0, h0⟩ := h
  unfold keyS
  cases hv : e.2 with
  | str z t =>
    show Value.isStrOf k (.str z t) = true ↔ z = k
    show (z == k) = true ↔ z = k
    exact beq_iff_eq
  | _ => rw [hv] at h0; cases h0
theorem perm_of_sub : ∀ {l ks : List Str}, l.Nodup → (∀ x ∈ l, x ∈ ks) → ks.length ≤ l.length → ks.Perm l
  | [], ks, _, _, h => by
    have : ks = [] := List.length_eq_zero_iff.mp (Nat.le_zero.mp h)
    rw [this]
  | a :: r, ks, hn, hs, h => by
    rw [List.nodup_cons] at hn
    have ha := hs a List.mem_cons_self
    have p1 := List.perm_cons_erase ha
    refine p1.trans (List.Perm.cons a (perm_of_sub hn.2 (fun x hx => ?_) ?_))
    · have hne : x ≠ a := fun z => hn.1 (z ▸ hx)
      exact (List.mem_erase_of_ne hne).mpr (hs x (List.mem_cons_of_mem _ hx))
    · rw [List.length_erase_of_mem ha]
      rw [List.length_cons] at h
      omega
theorem TxOk.keys {D : SD} {l : List Str} (h : TxOk P w D l) (nd : l.Nodup) : (D.1.toList.map keyS).Perm l := by
  refine perm_of_sub nd (fun x hx => ?_) ?_
  · obtain ⟨e, he, hi⟩ := (h.mem x).mp hx
    exact List.mem_map.mpr ⟨e, he, (is_keyS (P := P) (w := w) ⟨x, hi⟩ x).mp hi⟩
  · rw [List.length_map, Array.length_toList, h.sz]
    exact Nat.le_refl _
theorem txOk_of {es : Array (Int × Value)} {ep : Nat} {t : SetTable} {l : List Str} (el : ElemsOf (strKind P w) es.toList) (pm : (es.toList.map keyS).Perm l) (fit : t.fits es.size = true) : TxOk P w (es, ep, t) l where
  el := el
  mem := fun k => by
    rw [← pm.mem_iff, List.mem_map]
    constructor
    · rintro ⟨e, he, hk⟩
      obtain ⟨⟨k0, h0, _⟩, _⟩ := el e he
      exact ⟨e, he, (is_keyS (P := P) (w := w) ⟨k0, h0⟩ k).mpr hk⟩
    · rintro ⟨e, he, hk⟩
      exact ⟨e, he, (is_keyS (P := P) (w := w) ⟨k, hk⟩ k).mp hk⟩
  sz := by
    have := pm.length_eq
    rw [List.length_map, Array.length_toList] at this
    exact this
  fit := fit
theorem discard_y {a : Addr} {D : SD} {l : List Str} {k : Str} {u : Tok} {Q : Bool → Shared → Prop} (x : TY P w s.heap a D l) (hk : k ∈ l) (hb : l.length < 4000)
    (q : ∀ h2 D2, Heap.SameBut a s.heap h2 → TY P w h2 a D2 (l.erase k) → Q true { s with heap := h2 }) : wpAny (model P w) A (setDiscardHashed a (.str k u) (hashStr w k)) Q E s := by
  obtain ⟨es, ep, t⟩ := D
  have ha := x.at_
  have hf : t.fits es.size = true := x.ok.fit
  have hel : ElemsOf (strKind P w) es.toList := x.ok.el
  have hsz : es.size = l.length := x.ok.sz
  have hmem : ∀ k : Str, k ∈ l ↔ ∃ e ∈ es.toList, (strKind P w).is k e.2 = true := x.ok.mem
  have hkey : (strKind P w).is k (.str k u) = true := is_str k u
  unfold setDiscardHashed setFind setFindIn
  refine wpAny_bind (wpAny_bind (wpAny_setState_of ha rfl hf ?_))
  dsimp only
  rw [byScan_of rfl (by unfold scanBound; omega) hel]
  simp only [↓reduceIte]
  refine wpAny_bind (wpAny_rule (wpAny_bind (wpAny_setScan_of (knd := strKind P w) hkey ha rfl hf hel ?_)))
  obtain ⟨e0, he0, hi0⟩ := (hmem k).mp hk
  obtain ⟨j, hj⟩ : ∃ j, List.findIdx? (fun e => (strKind P w).is k e.2) es.toList = some j := by
    cases z : List.findIdx? (fun e => (strKind P w).is k e.2) es.toList with
    | some j => exact ⟨j, rfl⟩
    | none =>
      have := List.findIdx?_eq_none_iff.mp z e0 he0
      rw [hi0] at this
      cases this
  rw [hj]
  dsimp only
  refine wpAny_pure ?_
  dsimp only
  obtain ⟨hjl, hpj, _⟩ := List.findIdx?_eq_some_iff_getElem.mp hj
  rw [Nat.zero_add]
  refine wpAny_bind (wpAny_setState_of ha rfl hf ?_)
  dsimp only
  have hpl : t.place.size = es.size := by
    have := TxOk.len x.ok
    rw [show t.place.size = l.length from this, hsz]
  have hjp : j < t.place.size := by rw [hpl, ← Array.length_toList]; exact hjl
  have htl := toList_eraseAt es j
  have hks := TxOk.keys x.ok x.nd
  have hkj : (es.toList.map keyS)[j]? = some k := by
    rw [List.getElem?_map, List.getElem?_eq_getElem hjl]
    show some (keyS es.toList[j]) = some k
    rw [(is_keyS (P := P) (w := w) ⟨k, hpj⟩ k).mp hpj]
  have pm2 : ((SetTable.eraseAt es j).toList.map keyS).Perm (l.erase k) := by
    rw [htl]
    have e1 : (es.toList.eraseIdx j).map keyS = (es.toList.map keyS).eraseIdx j := by
      rw [List.eraseIdx_eq_take_drop_succ, List.eraseIdx_eq_take_drop_succ, List.map_append, List.map_take, List.map_drop]
    rw [e1]
    have p1 := L2.erase_perm _ _ _ hkj
    have p2 := (p1.trans hks).erase k
    rw [List.erase_cons_head] at p2
    exact p2
  have hsz2 : (SetTable.eraseAt es j).size = es.size - 1 := by
    rw [← Array.length_toList, htl, List.length_eraseIdx_of_lt hjl, Array.length_toList]
  have hdrop : t.drop j = { t with place := SetTable.eraseAt t.place j, dummies := SetTable.insertAt t.dummies (SetTable.below t.dummies t.place[j]) t.place[j] } := by
    unfold SetTable.drop
    rw [Array.getElem?_eq_getElem hjp]
  refine wpAny_bind (wpAny_storeSet_of ha rfl ?_ (by rw [hsz2, hsz]; have := sizeLine_eq; omega))
  refine wpAny_bind (wpAny_point (wpAny_pure ?_))
  refine q _ (SetTable.eraseAt es j, ep + 1, t.drop j) (Heap.SameBut.update ..) ⟨store_at ha rfl, txOk_of (fun e he => hel e ?_) pm2 ?_, x.nd.erase _, ?_, ?_⟩
  · rw [htl] at he
    exact List.mem_of_mem_eraseIdx he
  · unfold SetTable.fits at hf ⊢
    rw [Bool.and_eq_true, beq_iff_eq, decide_eq_true_eq] at hf
    have h1 : (SetTable.eraseAt t.place j).size = t.place.size - 1 := by
      rw [← Array.length_toList, toList_eraseAt, List.length_eraseIdx_of_lt (by rw [Array.length_toList]; exact hjp), Array.length_toList]
    have h2 : (SetTable.insertAt t.dummies (SetTable.below t.dummies t.place[j]) t.place[j]).size = t.dummies.size + 1 := by
      have := congrArg List.length (SetTable.toList_insertAt t.dummies (SetTable.below t.dummies t.place[j]) t.place[j])
      rw [Array.length_toList, List.length_append, List.length_cons, List.length_take, List.length_drop, Array.length_toList] at this
      omega
    unfold SetTable.fill at hf ⊢
    rw [hdrop, Bool.and_eq_true, beq_iff_eq, decide_eq_true_eq]
    refine ⟨by show (SetTable.eraseAt t.place j).size = _; rw [h1, hsz2, hpl], ?_⟩
    show (SetTable.eraseAt t.place j).size + (SetTable.insertAt t.dummies _ _).size ≤ t.mask
    rw [h1, h2]
    omega
  · show w.params.followText "set-order" = true ∨ (t.drop j).led = true
    rw [hdrop]
    exact x.led
  · show Ris (t.drop j).place.toList
    rw [hdrop]
    show Ris (SetTable.eraseAt t.place j).toList
    rw [toList_eraseAt]
    exact List.Pairwise.sublist (List.eraseIdx_sublist _ _) x.ris
end
end PfX
set_option Elab.async false
set_option linter.all false
set_option maxRecDepth 100000
set_option maxHeartbeats 4000000
namespace PfX
open PySem PySem.Spec PyProof.Rows PySem.Froz L2
section
variable {P : Program} {w : World} {A : Around} {E : Value → Shared → Prop} {s : Shared}
theorem quiet_strs {sets : List Addr} {Q : Bool → Shared → Prop} (h : ∀ a ∈ sets, ∃ D l, TY P w s.heap a D l) (q : Q true s) : wpAny (model P w) A (setsQuiet sets) Q E s := by
  unfold setsQuiet
  refine wpAny_bind (wpAny_forIn_list _ (fun rest b s1 => b.1 = none ∧ s1 = s ∧ ∀ a ∈ rest, a ∈ sets) _ ?_ ?_ _ _ ⟨rfl, rfl, fun _ h => h⟩)
  · rintro a rest ⟨b, u⟩ s1 ⟨rfl, rfl, hr⟩
    obtain ⟨⟨es, ep, t⟩, l, y⟩ := h a (hr a List.mem_cons_self)
    refine wpAny_bind (wpAny_setEntries_of y.at_ rfl y.ok.fit ?_)
    refine wpAny_bind (wpAny_forIn_array' _ (fun rest b s2 => b.1 = none ∧ s2 = s1 ∧ ∀ e ∈ rest, e ∈ es.toList) _ ?_ ?_ _ _ ⟨rfl, rfl, fun _ h => h⟩)
    · rintro e rest2 ⟨b2, u2⟩ s2 ⟨rfl, rfl, hr2⟩
      obtain ⟨⟨k, hk, _⟩, _⟩ := y.ok.el e (hr2 e List.mem_cons_self)
      obtain ⟨hh, v⟩ := e
      cases v with
      | str z t => exact wpAny_pure ⟨rfl, rfl, fun e he => hr2 e (List.mem_cons_of_mem _ he)⟩
      | _ => cases hk
    · rintro ⟨b2, u2⟩ s2 ⟨rfl, rfl, _⟩
      exact wpAny_pure ⟨rfl, rfl, fun a ha => hr a (List.mem_cons_of_mem _ ha)⟩
  · rintro ⟨b, u⟩ s1 ⟨rfl, rfl, _⟩
    exact wpAny_pure q
theorem walk_y {a b : Addr} {D B : SD} {l m : List Str} {Q : Array (Int × Value) → Shared → Prop} (x : TY P w s.heap a D l) (y : TY P w s.heap b B m) (hne : a ≠ b) (hb : l.length < 4000) (hm : m.length ≤ sizeLine)
    (q : ∀ es s2 B2, es.toList.Perm D.1.toList → (∃ h2 d, s2 = { s with heap := h2, drawn := d } ∧ Heap.SameBut b s.heap h2 ∧ TY P w h2 b B2 m) → Q es s2) : wpAny (model P w) A (setWalkUnseen a [b] (some b)) Q E s := by
  obtain ⟨es, ep, t⟩ := D
  obtain ⟨fs, ep2, u⟩ := B
  have ha := x.at_
  have hf : t.fits es.size = true := x.ok.fit
  have hfb : u.fits fs.size = true := y.ok.fit
  have hwk : wpAny (model P w) A (setWalk a) Q E s := by
    unfold setWalk
    refine wpAny_bind (wpAny_setState_of ha rfl hf ?_)
    dsimp only
    refine wpAny_bind (wpAny_byText ?_)
    cases hbt : w.params.followText "set-order" with
    | true =>
      refine wp_if_pos rfl ?_
      exact wpAny_bind (wpAny_askSetting (wpAny_pure (q _ _ (fs, ep2, u) (pick_perm _ _) ⟨s.heap, s.drawn, rfl, Heap.SameBut.refl _ _, y⟩)))
    | false =>
      refine wp_if_neg Bool.false_ne_true ?_
      try refine wpAny_bind (wpAny_pure ?_)
      cases hdr : (!t.plain && decide (es.size > 1)) with
      | true =>
        refine wp_if_pos hdr ?_
        refine wpAny_bind (drawOrder_at _ _ _ _ (by rw [Array.length_toList]; exact Nat.le_refl _) fun ys d pm => wpAny_pure (q _ _ (fs, ep2, u) pm ⟨s.heap, d, rfl, Heap.SameBut.refl _ _, y⟩))
      | false =>
        refine wp_if_neg (by show ¬ ((!t.plain && decide (es.size > 1)) = true); rw [hdr]; exact Bool.false_ne_true) ?_
        try refine wpAny_bind (wpAny_pure ?_)
        have hl : t.led = true := by
          rcases x.led with z | z
          · rw [hbt] at z; cases z
          · exact z
        refine wpAny_bind (wpAny_of_eq (a := ()) ?_ ?_)
        · show (if (!t.led && decide (es.size > 1)) = true then unsupported "set:maker-not-led" else pure ()) = pure ()
          rw [hl] <;> rfl
        · exact wpAny_pure (q _ _ (fs, ep2, u) (List.Perm.refl _) ⟨s.heap, s.drawn, rfl, Heap.SameBut.refl _ _, y⟩)
  unfold setWalkUnseen
  refine wpAny_bind (wpAny_setState_of ha rfl hf ?_)
  dsimp only
  refine wpAny_bind (wpAny_byText ?_)
  by_cases c : (w.params.followText "set-order" || (t.led && t.plain) || decide (es.size ≤ 1)) = true
  · refine wp_if_pos c ?_
    exact hwk
  · refine wp_if_neg c ?_
    try refine wpAny_bind (wpAny_pure ?_)
    refine wpAny_bind (quiet_strs (fun z hz => ?_) ?_)
    · rcases List.mem_cons.mp hz with e | e
      · rw [e]; exact ⟨_, _, x⟩
      · rw [List.mem_singleton.mp e]; exact ⟨_, _, y⟩
    refine wp_if_neg (by decide) ?_
    refine wpAny_bind (wpAny_rule (wpAny_bind (wpAny_setState_of y.at_ rfl hfb ?_)))
    dsimp only
    by_cases c2 : (u.led && !t.led || u.plain && !t.plain) = true
    · refine wp_if_pos c2 ?_
      have hsz : fs.size ≤ sizeLine := by
        have := y.at_
        have h1 : fs.size = m.length := y.ok.sz
        rw [h1]
        exact hm
      refine wpAny_bind (wpAny_storeSet_of y.at_ rfl (wpAny_pure ?_) hsz)
      refine q es _ (fs, ep2 + 1, { u with led := u.led && t.led, plain := u.plain && t.plain }) (List.Perm.refl _) ⟨_, s.drawn, rfl, Heap.SameBut.update .., ⟨store_at y.at_ rfl, ⟨y.ok.el, y.ok.mem, y.ok.sz, hfb⟩, y.nd, ?_, y.ris⟩⟩
      rcases x.led with z | z
      · exact .inl z
      · rcases y.led with z2 | z2
        · exact .inl z2
        · refine .inr ?_
          show (u.led && t.led) = true
          rw [show t.led = true from z, show u.led = true from z2] <;> rfl
    · refine wp_if_neg c2 ?_
      exact wpAny_pure (q es _ (fs, ep2, u) (List.Perm.refl _) ⟨s.heap, s.drawn, rfl, Heap.SameBut.refl _ _, y⟩)
theorem ris_add (h : Int) (v : Value) (D : SD) (r : Ris D.2.2.place.toList) : Ris (addTx h v D).2.2.place.toList := by
  have e := layNew_ris D.2.2 D.1 h v r
  unfold addTx
  generalize layNew D.2.2 D.1 h v = L at e
  have e2 : Ris (if L.2.1.plain = true then { L.2.1 with plain := false } else L.2.1 : SetTable).place.toList := by
    split <;> exact e
  generalize (if L.2.1.plain = true then { L.2.1 with plain := false } else L.2.1 : SetTable) = t2 at e2
  unfold tailTx
  split
  · exact relayAll_ris _ _ _
  · exact e2
theorem add_y {a : Addr} {D : SD} {l : List Str} {k : Str} {u : Tok} {Q : Bool → Shared → Prop} (x : TY P w s.heap a D l) (hk : k ∉ l) (hb : l.length < 4000)
    (h : ∀ h2 D2, Heap.SameBut a s.heap h2 → TY P w h2 a D2 (k :: l) → Q true { s with heap := h2 }) : wpAny (model P w) A (setAddHashed a (.str k u) (hashStr w k)) Q E s := by
  refine add_x x.at_ x.ok hk (by unfold scanBound; omega) (h _ _ (Heap.SameBut.update ..) ⟨get_upd _ x.at_ rfl, add_ok u x.ok, List.nodup_cons.mpr ⟨hk, x.nd⟩, ?_, ris_add _ _ _ x.ris⟩)
  rw [add_led]
  exact x.led
theorem miss_y {a : Addr} {D : SD} {l : List Str} {k : Str} {u : Tok} {Q : Bool → Shared → Prop} (x : TY P w s.heap a D l) (hk : k ∉ l) (hb : l.length < 4000) (q : Q false s) : wpAny (model P w) A (setDiscardHashed a (.str k u) (hashStr w k)) Q E s := by
  obtain ⟨es, ep, t⟩ := D
  have ha := x.at_
  have hf : t.fits es.size = true := x.ok.fit
  have hel : ElemsOf (strKind P w) es.toList := x.ok.el
  have hsz : es.size = l.length := x.ok.sz
  have hmem : ∀ k : Str, k ∈ l ↔ ∃ e ∈ es.toList, (strKind P w).is k e.2 = true := x.ok.mem
  have hkey : (strKind P w).is k (.str k u) = true := is_str k u
  unfold setDiscardHashed setFind setFindIn
  refine wpAny_bind (wpAny_bind (wpAny_setState_of ha rfl hf ?_))
  dsimp only
  rw [byScan_of rfl (by unfold scanBound; omega) hel]
  simp only [↓reduceIte]
  refine wpAny_bind (wpAny_rule (wpAny_bind (wpAny_setScan_of (knd := strKind P w) hkey ha rfl hf hel ?_)))
  have hj : List.findIdx? (fun e => (strKind P w).is k e.2) es.toList = none := by
    rw [List.findIdx?_eq_none_iff]
    intro e he
    cases z : (strKind P w).is k e.2 with
    | false => rfl
    | true => exact absurd ((hmem k).mpr ⟨e, he, z⟩) hk
  rw [hj]
  dsimp only
  exact wpAny_pure (wpAny_pure q)
def Xor (l m r : List Str) : Prop := r.Nodup ∧ ∀ k, k ∈ r ↔ (k ∈ m ∧ k ∉ l) ∨ (k ∉ m ∧ k ∈ l)
theorem entry_xor : entryFor table "set.__xor__" = some Builtin.«frozenset.__xor__» :=
  entryFor_alias (id' := "frozenset.__xor__") (by kernel_rfl) rfl (by decide +kernel) (by kernel_rfl)
end
end PfX
set_option Elab.async false
set_option linter.all false
set_option maxRecDepth 100000
set_option maxHeartbeats 4000000
namespace PfX
open PySem PySem.Spec PyProof.Rows PySem.Froz L2
def symD (id : String) (l : Addr) (r : Value) : Sem Value := do
  let result ← Builtin.Frozenset.newFrom id (← Builtin.Frozenset.baseOf l) r
  holding [result] (Builtin.Frozenset.symmetricDifferenceUpdate id (← Builtin.Frozenset.addrOf result) (.ref l))
  return result
theorem xor_eq (args : Args) : Builtin.«frozenset.__xor__» args = (do
    let (self, other) ← Builtin.Frozenset.slot1 "__xor__" args
    let (l, r) := if false then (other, self) else (self, other)
    if !(← Builtin.Frozenset.isAnySet l <&&> Builtin.Frozenset.isAnySet r) then rule s!"frozenset.{"__xor__"}.declined"; return ← ret .notImplemented
    ret (← symD s!"frozenset.{"__xor__"}" (← Builtin.Frozenset.addrOf l) r)) := by
  rfl
section
variable {P : Program} {w : World} {A : Around} {E : Value → Shared → Prop} {s : Shared}
def NewY (P : Program) (w : World) (s : Shared) (l m : List Str) (s2 : Shared) : Prop := ∃ h2 d D r, s2 = { s with heap := h2, drawn := d } ∧ TY P w h2 s.heap.objs.size D r ∧ Xor l m r ∧ ∀ b o, s.heap.get? b = some o → h2.get? b = some o
theorem Xor.out {done m r : List Str} {k : Str} (h : Xor done m r) (hd : k ∉ done) (hk : k ∈ r) : Xor (done ++ [k]) m (r.erase k) := by
  refine ⟨h.1.erase _, fun z => ?_⟩
  have hm : k ∈ m := by
    rcases (h.2 k).mp hk with c | c
    · exact c.1
    · exact absurd c.2 hd
  rw [h.1.mem_erase_iff, h.2 z, List.mem_append, List.mem_singleton]
  by_cases e : z = k
  · subst e
    simp [hm, hd]
  · simp [e]
theorem Xor.inn {done m r : List Str} {k : Str} (h : Xor done m r) (hd : k ∉ done) (hk : k ∉ r) : Xor (done ++ [k]) m (k :: r) := by
  refine ⟨List.nodup_cons.mpr ⟨hk, h.1⟩, fun z => ?_⟩
  have hm : k ∉ m := fun c => hk ((h.2 k).mpr (.inl ⟨c, hd⟩))
  rw [List.mem_cons, h.2 z, List.mem_append, List.mem_singleton]
  by_cases e : z = k
  · subst e
    simp [hm, hd]
  · simp [e]
theorem any_set {a : Addr} {Q : Bool → Shared → Prop} (hT : s.TypeIs (.ref a) "set") (q : Q true s) : wpAny (model P w) A (Builtin.Frozenset.isAnySet (.ref a)) Q E s := by
  unfold Builtin.Frozenset.isAnySet
  refine wpAny_bind (wpAny_isInstance (T := "set") (b := true) hT sub_set_self ?_)
  exact wpAny_pure q
theorem base_set {a : Addr} {Q : Value → Shared → Prop} (hT : s.TypeIs (.ref a) "set") (q : Q (.type "set") s) : wpAny (model P w) A (Builtin.Frozenset.baseOf a) Q E s := by
  unfold Builtin.Frozenset.baseOf
  refine wpAny_bind (wpAny_isInstance (T := "set") (b := true) hT sub_set_self ?_)
  exact wpAny_pure q
theorem update_set {id : String} {S o : Addr} {ld : Bool} {mm : Nat} {D : SD} {l : List Str} {Q : Unit → Shared → Prop} (hS : s.heap.get? S = some (newSet ld)) (eld : ld = !w.params.followText "set-order") (ho : TX P w s.heap o mm D l) (hne : S ≠ o) (m4 : mm = 7 ↔ l.length ≤ 4) (mok : MOk mm) (hn : l.length ≤ 7)
    (q : ∀ h2 D2, Heap.SameBut S s.heap h2 → TY P w h2 S D2 l → Q () { s with heap := h2 }) : wpAny (model P w) A (Builtin.Frozenset.updateFrom id S (.ref o)) Q E s := by
  unfold Builtin.Frozenset.updateFrom
  refine wpAny_bind (any_set ⟨_, ho.at_, rfl⟩ ?_)
  rw [if_pos rfl]
  refine wpAny_bind (wpAny_pure ?_)
  unfold Builtin.Frozenset.merge
  refine wpAny_bind (wpAny_setEpoch_of ho.at_ rfl ho.ok.fit ?_)
  exact merge_few hS eld ho hne m4 mok hn q
theorem flip_y {id : String} {a S : Addr} {D B : SD} {l m : List Str} {Q : Unit → Shared → Prop} (x : TY P w s.heap a D l) (y : TY P w s.heap S B m) (hne : a ≠ S) (h1 : l.length ≤ 100) (h2 : m.length ≤ 100)
    (q : ∀ h2 d D2 r, Heap.SameBut S s.heap h2 → TY P w h2 S D2 r → Xor l m r → Q () { s with heap := h2, drawn := d }) : wpAny (model P w) A (Builtin.Frozenset.symmetricDifferenceUpdate id S (.ref a)) Q E s := by
  have hT : s.TypeIs (.ref a) "set" := ⟨_, x.at_, rfl⟩
  have hns : (Value.ref a == Value.ref S) = false := by simpa using hne
  unfold Builtin.Frozenset.symmetricDifferenceUpdate
  rw [if_neg (by rw [hns]; exact Bool.false_ne_true)]
  refine wpAny_bind (wpAny_typeOf hT ?_)
  rw [if_neg (by decide)]
  refine wpAny_bind (any_set hT ?_)
  rw [if_pos rfl]
  refine wpAny_bind (wpAny_pure ?_)
  refine wpAny_bind (wpAny_pure ?_)
  refine wpAny_bind (wpAny_setEpoch_of x.at_ rfl x.ok.fit ?_)
  refine wpAny_holding ?_
  refine wpAny_bind (walk_y x y hne (by omega) (by have := sizeLine_eq; omega) fun es s2 B2 pm ⟨h3, d3, e3, sb3, y3⟩ => ?_)
  subst e3
  have hks : (es.toList.map keyS).Perm l := (pm.map keyS).trans (TxOk.keys x.ok x.nd)
  have hnd : (es.toList.map keyS).Nodup := hks.nodup_iff.mpr x.nd
  have hx3 : TY P w h3 a D l := x.keep fun o e => (sb3.2 a hne).trans e
  refine wpAny_bind (wpAny_forIn_array' _ (fun rest _ s1 => ∃ done h1 D1 r, done ++ rest = es.toList ∧ s1 = { s with heap := h1, drawn := d3 } ∧ Heap.SameBut S s.heap h1 ∧ TY P w h1 S D1 r ∧ Xor (done.map keyS) m r ∧ r.length ≤ m.length + done.length) _ ?_ ?_ _ _ ⟨[], h3, B2, m, rfl, rfl, sb3, y3, ⟨y.nd, fun k => by simp⟩, Nat.le_refl _⟩)
  · rintro ⟨hh, v⟩ rest _ s1 ⟨done, h1', D1, r, hdr, rfl, sb1, y1, hx1, hlr⟩
    have hmem : (hh, v) ∈ es.toList := by rw [← hdr]; exact List.mem_append_right _ List.mem_cons_self
    have hlen : done.length ≤ l.length := by
      have := congrArg List.length hdr
      have h2 := hks.length_eq
      rw [List.length_map] at h2
      rw [List.length_append] at this
      omega
    obtain ⟨⟨k, hk, hhash⟩, _⟩ := x.ok.el _ (pm.mem_iff.mp hmem)
    obtain ⟨t, rfl⟩ : ∃ t, v = .str k t := by
      cases v with
      | str z t =>
        have : (z == k) = true := hk
        exact ⟨t, by rw [eq_of_beq this]⟩
      | _ => cases hk
    have ehh : hh = hashStr w k := hhash
    subst ehh
    have hxa : h1'.get? a = some (sObj "set" D) := (sb1.2 a hne).trans x.at_
    have hnot : k ∉ done.map keyS := fun z => by
      rw [← hdr, List.map_append, List.nodup_append] at hnd
      exact hnd.2.2 k z k (List.mem_map.mpr ⟨(hashStr w k, .str k t), List.mem_cons_self, rfl⟩) rfl
    have hdr2 : (done ++ [(hashStr w k, Value.str k t)]) ++ rest = es.toList := by rw [List.append_assoc]; exact hdr
    have fin : ∀ (R : ForInStep PUnit → Shared → Prop) h4 D4 r4, Heap.SameBut S h1' h4 → TY P w h4 S D4 r4 → Xor (done.map keyS ++ [k]) m r4 → r4.length ≤ m.length + (done.length + 1) →
        ((∃ done h1 D1 r, done ++ rest = es.toList ∧ ({ s with heap := h4, drawn := d3 } : Shared) = { s with heap := h1, drawn := d3 } ∧ Heap.SameBut S s.heap h1 ∧ TY P w h1 S D1 r ∧ Xor (done.map keyS) m r ∧ r.length ≤ m.length + done.length) → R (.yield PUnit.unit) { s with heap := h4, drawn := d3 }) →
        wpAny (model P w) A (Builtin.Frozenset.unchanged id a D.2.1 >>= fun _ => (pure (ForInStep.yield PUnit.unit) : Sem _)) R E { s with heap := h4, drawn := d3 } := by
      intro R h4 D4 r4 sb4 y4 hx4 hl4 hR
      have hxa4 : h4.get? a = some (sObj "set" D) := (sb4.2 a hne).trans hxa
      unfold Builtin.Frozenset.unchanged
      refine wpAny_bind (wpAny_bind (wpAny_setEpoch_of hxa4 rfl x.ok.fit ?_))
      rw [if_neg (by simp)]
      refine wpAny_pure (wpAny_pure (hR ⟨done ++ [(hashStr w k, Value.str k t)], h4, D4, r4, hdr2, rfl, sb1.trans sb4, y4, ?_, by rw [List.length_append]; exact hl4⟩))
      rw [List.map_append]
      exact hx4
    refine wpAny_bind (wpAny_holding ?_)
    by_cases hr : k ∈ r
    · refine wpAny_bind (discard_y (s := { s with heap := h1', drawn := d3 }) y1 hr (by omega) fun h4 D4 sb4 y4 => ?_)
      rw [if_neg (by decide)]
      refine wpAny_pure (fin _ h4 D4 _ sb4 y4 (hx1.out hnot hr) ?_ fun z => z)
      rw [List.length_erase_of_mem hr]
      omega
    · refine wpAny_bind (miss_y (s := { s with heap := h1', drawn := d3 }) y1 hr (by omega) ?_)
      rw [if_pos (by decide)]
      refine wpAny_bind (add_y (s := { s with heap := h1', drawn := d3 }) y1 hr (by omega) fun h4 D4 sb4 y4 => ?_)
      refine wpAny_pure (fin _ h4 D4 _ sb4 y4 (hx1.inn hnot hr) ?_ fun z => z)
      rw [List.length_cons]
      omega
  · rintro _ s1 ⟨done, h1', D1, r, hdr, rfl, sb1, y1, hx1, hlr⟩
    rw [List.append_nil] at hdr
    refine wpAny_pure (q h1' d3 D1 r sb1 y1 ⟨hx1.1, fun k => ?_⟩)
    rw [hx1.2 k, hdr, hks.mem_iff]
theorem sym_few {id : String} {a b : Addr} {ma mb : Nat} {D B : SD} {l m : List Str} {Q : Value → Shared → Prop} (x : TX P w s.heap a ma D l) (y : TX P w s.heap b mb B m) (h1 : l.length ≤ 7) (m4 : mb = 7 ↔ m.length ≤ 4) (mok : MOk mb) (h2 : m.length ≤ 7)
    (q : ∀ s2, NewY P w s l m s2 → Q (.ref s.heap.objs.size) s2) : wpAny (model P w) A (symD id a (.ref b)) Q E s := by
  have hTa : s.TypeIs (.ref a) "set" := ⟨_, x.at_, rfl⟩
  have hTb : s.TypeIs (.ref b) "set" := ⟨_, y.at_, rfl⟩
  have g1 := sub_set_self
  have xa := x.at_
  have yb := y.at_
  unfold symD Builtin.Frozenset.newFrom
  refine wpAny_bind (base_set hTa ?_)
  refine wpAny_bind (wpAny_bind (wpAny_newSet_raw fun led hled => ?_))
  have hlt : ∀ z o, s.heap.get? z = some o → z ≠ s.heap.objs.size := fun z o e => Nat.ne_of_lt (Heap.lt_size e)
  have hS : (s.heap.push (newSet led)).get? s.heap.objs.size = some (newSet led) := Heap.get?_push_size _ rfl
  have y1 : TX P w (s.heap.push (newSet led)) b mb B m := y.keep fun o e => Heap.get?_push_of_some _ e
  refine wpAny_bind (wpAny_pure ?_)
  refine wpAny_bind (wpAny_holding (update_set (s := { s with heap := s.heap.push (newSet led) }) hS hled y1 (hlt b _ yb).symm m4 mok h2 fun h3 D3 sb3 y3 => ?_))
  refine wpAny_pure ?_
  refine wpAny_bind (wpAny_pure ?_)
  have keep3 : ∀ z o, s.heap.get? z = some o → h3.get? z = some o := fun z o e => (sb3.2 z (hlt z o e)).trans (Heap.get?_push_of_some _ e)
  have x3 : TX P w h3 a ma D l := x.keep fun o e => keep3 _ o e
  refine wpAny_bind (wpAny_holding (flip_y (s := { s with heap := h3 }) x3.y y3 (hlt a _ xa) (by omega) (by omega) fun h4 d4 D4 r sb4 y4 hx => ?_))
  exact wpAny_pure (q _ ⟨h4, d4, D4, r, rfl, y4, hx, fun z o e => (sb4.2 z (hlt z o e)).trans (keep3 z o e)⟩)
theorem call_xor {a b : Addr} {ma mb : Nat} {D B : SD} {l m : List Str} {Q : Value → Shared → Prop} (x : TX P w s.heap a ma D l) (y : TX P w s.heap b mb B m) (h1 : l.length ≤ 7) (m4 : mb = 7 ↔ m.length ≤ 4) (mok : MOk mb) (h2 : m.length ≤ 7)
    (q : ∀ s2, NewY P w s l m s2 → Q (.ref s.heap.objs.size) s2) : wpAny (model P w) A (call (.builtin "set.__xor__") [.ref a, .ref b]) Q E s := by
  have hTa : s.TypeIs (.ref a) "set" := ⟨_, x.at_, rfl⟩
  have hTb : s.TypeIs (.ref b) "set" := ⟨_, y.at_, rfl⟩
  have g1 := sub_set_self
  have xa := x.at_
  have yb := y.at_
  refine wpAny_call_entry F.slot_set_xor hTa entry_xor ?_ (F.args_set_xor_2 _ _)
  rw [xor_eq]
  generalize eS : symD = SY
  wp_walk
  subst eS
  refine wpAny_of_eq (a := true) g1 ?_
  refine wpAny_pure ?_
  refine any_set hTb ?_
  rw [if_neg (by decide)]
  refine wpAny_bind (wpAny_pure ?_)
  refine wpAny_bind (sym_few x y h1 m4 mok h2 fun s2 hn => ?_)
  exact wpAny_pure ⟨_, rfl, q s2 hn⟩
end
end PfX
set_option Elab.async false
set_option linter.all false
set_option maxRecDepth 100000
set_option maxHeartbeats 4000000
namespace L2
open PySem PySem.Spec PyProof.Rows PfX
def SetX (P : Program) (w : World) (a : Addr) (l : List Str) : HO := .ext fun h => ∃ m D, MOk m ∧ (m = 7 ↔ l.length ≤ 4) ∧ l.length ≤ 7 ∧ TX P w h a m D l
def SetY (P : Program) (w : World) (a : Addr) (l : List Str) : HO := .ext fun h => ∃ D, TY P w h a D l
theorem setX_new {P : Program} {w : World} {H : Hp} {h : Heap} {a : Addr} {l : List Str} (R : ∃ m D, MOk m ∧ (m = 7 ↔ l.length ≤ 4) ∧ l.length ≤ 7 ∧ TX P w h a m D l) : ObjOk P w H h a (SetX P w a l) := by
  refine ⟨R, ⟨_, R.choose_spec.choose_spec.2.2.2.at_⟩, fun h1 h2 p k => ?_⟩
  obtain ⟨m, D, a1, a2, a3, x⟩ := (show ∃ m D, MOk m ∧ (m = 7 ↔ l.length ≤ 4) ∧ l.length ≤ 7 ∧ TX P w h1 a m D l from p)
  exact ⟨m, D, a1, a2, a3, x.keep k⟩
theorem setY_new {P : Program} {w : World} {H : Hp} {h : Heap} {a : Addr} {l : List Str} (R : ∃ D, TY P w h a D l) : ObjOk P w H h a (SetY P w a l) := by
  refine ⟨R, ⟨_, R.choose_spec.at_⟩, fun h1 h2 p k => ?_⟩
  obtain ⟨D, x⟩ := (show ∃ D, TY P w h1 a D l from p)
  exact ⟨D, x.keep k⟩
theorem pairs_len {P : Program} {w : World} {K : Type} [DecidableEq K] {knd : KeyKind P w K} : ∀ {es : List DictEntry} {kvs : List (K × Value)}, Pairs knd es kvs → es.length = kvs.length
  | _, _, .nil => rfl
  | _, _, .cons _ _ r => by rw [List.length_cons, List.length_cons, pairs_len r]
theorem pairs_at2 {P : Program} {w : World} {K : Type} [DecidableEq K] {knd : KeyKind P w K} : ∀ {es : List DictEntry} {kvs : List (K × Value)}, Pairs knd es kvs → ∀ {i : Nat} {e : DictEntry}, es[i]? = some e → ∃ kv, kvs[i]? = some kv ∧ knd.is kv.1 e.key = true
  | _, _, .nil, i, e, h => by simp at h
  | _, _, .cons (kv := kv) hk _ _, 0, e, h => by
    cases (show some _ = some e from h)
    exact ⟨kv, rfl, hk⟩
  | _, _, .cons _ _ r, i + 1, e, h => pairs_at2 r (show _ = some e from h)
theorem strs_self : ∀ {vs : List Value}, (∀ v ∈ vs, ∃ z t, v = Value.str z t) → StrsAre vs (vs.map fun v => keyS (0, v))
  | [], _ => .nil
  | v :: r, h => by
    obtain ⟨z, t, rfl⟩ := h v List.mem_cons_self
    exact .cons z t (strs_self fun u hu => h u (List.mem_cons_of_mem _ hu))
section
variable {X : Cx}
def rSetX (K : PySem.W.Frag) (P : Program) (w : World) : List V → Hp → VK → Prop := fun xs H Q => ∃ (p : Addr) (ws : List Str), xs = [V.ref p] ∧ ((SqL K H p (ws.map V.str) ∧ ws.length ≤ 4) ∨ ∃ kvs : List (Key × V), Rd H p (.dK kvs) ∧ kvs.map (·.1) = ws.map Sum.inr) ∧ ws.Nodup ∧ ws.length ≤ 7 ∧
  ∀ a, H a = none → Q (.ref a) (upd H a (SetX P w a ws.reverse))
theorem cr_setX (hc : X.calm = true) : CallR X (.type "set") (rSetX X.K X.prog X.w) := by
  intro pins s σ H xs us Q I r h
  obtain ⟨p, ws, rfl, hor, nd, hn, q⟩ := h
  rw [Vals.ref1 r]
  have hnone : H s.heap.objs.size = none := I.hok.fresh (Nat.le_refl _)
  have fin : ∀ s2, NewX X.prog X.w s ws.reverse s2 → EP X pins σ Q (.ref s.heap.objs.size) s2 := by
    rintro s2 ⟨h2, tk, rfl, hD, k⟩
    exact ⟨.ref s.heap.objs.size, upd H s.heap.objs.size (SetX X.prog X.w s.heap.objs.size ws.reverse), I.laid (t' := tk) k (Nat.le_refl _) (setX_new hD), rfl, q _ hnone⟩
  rcases hor with ⟨hl, hl4⟩ | ⟨kvs, hd, hks⟩
  · obtain ⟨its, rv, pl, hz⟩ := I.list hl
    exact callSetL (I.ok.hd hc) pl.isList (by simpa using strsAre_of rv) nd hl4 fin
  · obtain ⟨z, lo, vs, rel, dd⟩ := dk_rd I.hok hd
    obtain ⟨ep, hat⟩ := dd.dictAt
    obtain ⟨o, es, ho, hx, hdt, hk, hp, hn2⟩ := hat
    have hkeys : vs.map (·.1) = ws.map Sum.inr := rel.keys.symm.trans hks
    have hl2 : vs.length = ws.length := by
      have e := congrArg List.length hkeys
      rw [List.length_map, List.length_map] at e
      exact e
    have hpl := pairs_len hp
    refine callSetD lo ho hx hdt (fun i e he => ?_) (by rw [← hl2, ← hpl, Array.length_toList]) nd hn fin
    have he2 : es.toList[i]? = some e := by rw [Array.getElem?_toList]; exact he
    obtain ⟨kv, hkv, his⟩ := pairs_at2 hp he2
    have e3 : (vs.map (·.1))[i]? = some kv.1 := by rw [List.getElem?_map, hkv] <;> rfl
    rw [hkeys, List.getElem?_map] at e3
    obtain ⟨z, hz, ez⟩ := Option.map_eq_some_iff.mp e3
    rw [← ez] at his
    obtain ⟨t, ev⟩ := Value.isStrOf_shape (x := z) (v := e.key) his
    obtain ⟨k2, hk2, hh2⟩ := hk e (Array.mem_of_getElem? he)
    have : k2 = Sum.inr z := (mixKind X.prog X.w).inj e.key k2 (Sum.inr z) hk2 his
    rw [this] at hh2
    exact ⟨z, t, hz, ev, hh2⟩
def rXor (P : Program) (w : World) : R2 := fun x y H Q => ∃ a b l m, x = .ref a ∧ y = .ref b ∧ H a = some (SetX P w a l) ∧ H b = some (SetX P w b m) ∧ ∀ r z, Xor l m r → H z = none → Q (.ref z) (upd H z (SetY P w z r))
theorem op_xorS : OpR X (binaryOp .BitXor) (rXor X.prog X.w) := by
  intro pins s σ H x y v u Q I rx ry h
  obtain ⟨a, b, l, m, rfl, rfl, ha, hb, q⟩ := h
  obtain rfl : v = Value.ref a := rx
  obtain rfl : u = Value.ref b := ry
  obtain ⟨ma, D, _, _, h1, xa⟩ := (show ∃ m D, MOk m ∧ (m = 7 ↔ l.length ≤ 4) ∧ l.length ≤ 7 ∧ TX X.prog X.w s.heap a m D l from (I.hok a _ ha).1)
  obtain ⟨mb, B, mok, m4, h2, yb⟩ := (show ∃ k D, MOk k ∧ (k = 7 ↔ m.length ≤ 4) ∧ m.length ≤ 7 ∧ TX X.prog X.w s.heap b k D m from (I.hok b _ hb).1)
  have hn : H s.heap.objs.size = none := I.hok.fresh (Nat.le_refl _)
  refine wpAny_binaryOp_same (op := .BitXor) (T := "set") ⟨_, xa.at_, rfl⟩ ⟨_, yb.at_, rfl⟩ F.fills_set_xor F.slot_set_xor (call_xor xa yb h1 m4 mok h2 ?_)
  rintro s2 ⟨h3, d, D3, r, rfl, y3, hx, k⟩
  refine ⟨by simp, .ref s.heap.objs.size, upd H s.heap.objs.size (SetY X.prog X.w s.heap.objs.size r), ?_, rfl, q r _ hx hn⟩
  exact I.call (ch := []) (h' := h3) (g' := s.gens) (d' := d) (t' := s.toks) (Un.laid k (Nat.le_refl _) hn) (I.hok.laid k (Nat.le_refl _) (setY_new ⟨D3, y3⟩)) I.bare (fun _ z => nomatch z)
def rSortY (P : Program) (w : World) : List V → Hp → VK → Prop := fun xs H Q => ∃ a l, xs = [V.ref a] ∧ H a = some (SetY P w a l) ∧ l.length < 64 ∧ ∀ ys p, ys.Perm l → sortedS ys = true → H p = none → Q (.ref p) (upd H p (.lst (ys.map V.str)))
theorem cr_sortY (hc : X.calm = true) : CallR X (.builtin "sorted") (rSortY X.prog X.w) := by
  intro pins s σ H xs us Q I r h
  obtain ⟨a, l, rfl, ha, h64, q⟩ := h
  rw [Vals.ref1 r]
  obtain ⟨D, x⟩ := (show ∃ D, TY X.prog X.w s.heap a D l from (I.hok a _ ha).1)
  obtain ⟨es, ep, t⟩ := D
  have hsz : es.size = l.length := x.ok.sz
  refine Calls.call_function_entry PyProof.Rows.kind_sorted PyProof.Rows.plain_sorted PyProof.Rows.entry_sorted (PyProof.Rows.args_sorted1 _) ?_
  unfold Builtin.«sorted»
  refine wpAny_bind (m := checkCount "sorted" 1 1 _) (wpAny_pure ?_)
  refine wpAny_bind (collect_set (A := X.A.in1) (I.ok.hd hc) ⟨_, x.at_, rfl, rfl⟩ x.ok.fit (by show es.size < 4096; omega) x.ris x.led fun s1 vs k1 hz g1 o1 pm => ?_)
  have hS : StrsAre vs (vs.map fun v => keyS (0, v)) := strs_self fun v hv => by
    obtain ⟨e, he, rfl⟩ := List.mem_map.mp (pm.mem_iff.mp hv)
    obtain ⟨⟨k, hk, _⟩, _⟩ := x.ok.el e he
    cases hv2 : e.2 with
    | str z t => exact ⟨z, t, rfl⟩
    | _ => rw [hv2] at hk; cases hk
  have pk : (vs.map fun v => keyS (0, v)).Perm l := by
    refine (pm.map _).trans ?_
    rw [List.map_map]
    exact TxOk.keys x.ok x.nd
  have hal : vs.length = l.length := by rw [pm.length_eq, List.length_map, Array.length_toList, hsz]
  have hle : vs.length ≤ sizeLine := by rw [hal, sizeLine_eq]; omega
  have e1 : s1 = { s with heap := s1.heap, gens := s1.gens, drawn := s1.drawn, toks := s1.toks } := by
    cases s1
    cases s
    cases o1
    rfl
  refine wpAny_bind (wpAny_newList ?_ hle)
  have hoL : (s1.heap.push (seqObj "list" vs.toArray 0)).get? s1.heap.objs.size = some (seqObj "list" vs.toArray 0) := Heap.get?_push_size _ rfl
  show wpAny _ _ _ _ _ { s1 with heap := s1.heap.push (seqObj "list" vs.toArray 0) }
  refine wpAny_bind (wpAny_holding (wpAny_call_entry PyProof.Rows.slot_list_sort ⟨_, hoL, rfl⟩ PyProof.Rows.entry_list_sort
    (list_sort_treeK strKind_oneLt (s := { s1 with heap := s1.heap.push (seqObj "list" vs.toArray 0) }) hoL hS.keysOf (fun v₁ v₂ rest e => keyKind_strs (by rw [← e]; exact hS)) (by rw [hal]; exact h64) fun st' hp hs => ⟨_, rfl, ?_⟩)
    (PyProof.Rows.args_list_sort _)))
  obtain ⟨ys, f1, f2, f3⟩ := sorted_out_str hS hp hs
  obtain ⟨e', he'⟩ := PyProof.Rows.sortedHeap_at (vs := vs) (out := (arrOf st').map (·.2)) hoL
  have hlen : (ys.map V.str).length ≤ sizeLine := by
    rw [List.length_map, (f2.trans pk).length_eq]
    exact Nat.le_trans (Nat.le_of_lt h64) (by decide)
  have hn : H s1.heap.objs.size = none := I.hok.fresh hz
  have kk : ∀ b o, s.heap.get? b = some o → (sortedHeap (s1.heap.push (seqObj "list" vs.toArray 0)) s1.heap.objs.size vs ((arrOf st').map (·.2))).get? b = some o := fun b o e => by
    have q1 := k1 b o e
    have hb := Heap.lt_size q1
    rw [PyProof.Rows.sortedHeap_old (Nat.ne_of_lt hb) (by rw [size_push']; exact Nat.lt_succ_of_lt hb)]
    exact Heap.get?_push_of_some _ q1
  refine wpAny_pure ⟨_, rfl, .ref s1.heap.objs.size, upd H s1.heap.objs.size (.lst (ys.map V.str)), ?_, rfl, q ys _ (f2.trans pk) f3 hn⟩
  have J : Inv X pins σ (upd H s1.heap.objs.size (.lst (ys.map V.str))) { s with heap := sortedHeap (s1.heap.push (seqObj "list" vs.toArray 0)) s1.heap.objs.size vs ((arrOf st').map (·.2)), gens := s1.gens, drawn := s1.drawn, toks := s1.toks } :=
    I.call (ch := []) (Un.laid kk hz hn) (I.hok.laid kk hz (show ObjOk X.prog X.w _ _ _ (.lst (ys.map V.str)) from ⟨hlen, ((arrOf st').map (·.2)).toList, e', vals_of_strs f1, by rw [Array.toArray_toList]; exact he'⟩)) (by rw [g1]; exact I.bare) (fun _ z => nomatch z)
  have e2 : ({ s1 with heap := sortedHeap (s1.heap.push (seqObj "list" vs.toArray 0)) s1.heap.objs.size vs ((arrOf st').map (·.2)) } : Shared) = { s with heap := sortedHeap (s1.heap.push (seqObj "list" vs.toArray 0)) s1.heap.objs.size vs ((arrOf st').map (·.2)), gens := s1.gens, drawn := s1.drawn, toks := s1.toks } := by
    cases s1
    cases s
    cases o1
    rfl
  rw [e2]
  exact J
end
end L2
set_option Elab.async false
set_option linter.all false
set_option maxRecDepth 100000
set_option maxHeartbeats 4000000
namespace PySem
open PySem.Spec PyProof.Rows
open AutoSeq1 (wpAny_loadPart')
set_option maxHeartbeats 1000000 in
theorem pf_meets_enumT (l : Addr) (its : Array Value) (n : Nat) (dc : Option Addr) (sl : Array (Option Value)) :
    Meets (Builtin.«enumerate.__new__» ⟨[.type "enumerate", .ref l], []⟩) (fun _ R s => s.heap.get? l = some { cls := .type "tuple", dict := dc, data := .seq its n, slots := sl } ∧
      R (.ok (.ret (.ref (s.heap.push { cls := .type "tuple_iterator", data := .fields #[.ref l, .int 0 0] }).objs.size)))
        { s with heap := (s.heap.push { cls := .type "tuple_iterator", data := .fields #[.ref l, .int 0 0] }).push { cls := .type "enumerate", data := .fields #[.none, .bool false, .ref s.heap.objs.size, rawInt 0, .none, .none] } }) :=
  .of_wp fun prog w A R s q => by
    obtain ⟨hp, g, d, tk, os⟩ := s
    obtain ⟨hl, q⟩ := q
    have hsub := sub_enumerate
    have hL : Heap.IsTuple (Shared.heap ⟨hp, g, d, tk, os⟩) l its := ⟨_, hl, rfl, n, rfl⟩
    wp_walk using wpAny_loadPart' hl
    refine wpAny_stack_any fun st => wpAny_pure ?_
    split
    · rename_i c _ _ _ _ _
      cases (c == Value.type "enumerate")
      · wp_walk using wpAny_loadPart' hl, wpAny_pyIter_tuple hL
        exact ⟨_, rfl, q⟩
      · wp_walk using wpAny_loadPart' hl, wpAny_pyIter_tuple hL
        exact ⟨_, rfl, q⟩
    · wp_walk using wpAny_loadPart' hl, wpAny_pyIter_tuple hL
      exact ⟨_, rfl, q⟩
section
variable {prog : Program} {w : World} {A : Around} {E : Value → Shared → Prop} {s : Shared}
theorem pf_call_enumT {l : Addr} {its : Array Value} {Q : Value → Shared → Prop} (hL : s.heap.IsTuple l its)
    (q : ∀ h2, IsEnum h2 (s.heap.objs.size + 1) s.heap.objs.size 0 .none → h2.IsTupleIter s.heap.objs.size l 0 → (∀ b o, s.heap.get? b = some o → h2.get? b = some o) → Q (.ref (s.heap.objs.size + 1)) { s with heap := h2 }) :
    wpAny (model prog w) A (call (.type "enumerate") [.ref l]) Q E s := by
  obtain ⟨⟨c, dc, dt, sl⟩, hl, hc, n, hd⟩ := hL
  have hc1 : c = .type "tuple" := hc
  have hd1 : dt = .seq its n := hd
  subst hc1
  subst hd1
  refine callType_new F.called_enumerate (by decide) (F.typeCall_enumerate_1 _) (F.newCall_enumerate_1 _) (fun ob => F.args_object_init_2 ob _) F.entry_enumerate_new (pf_meets_enumT l its n dc sl) ⟨hl, ?_⟩
  have hz : (s.heap.push { cls := .type "tuple_iterator", data := .fields #[.ref l, .int 0 0] }).objs.size = s.heap.objs.size + 1 := Heap.size_push ..
  show _ ∧ _
  rw [hz]
  have he : IsEnum ((s.heap.push { cls := .type "tuple_iterator", data := .fields #[.ref l, .int 0 0] }).push { cls := .type "enumerate", data := .fields #[.none, .bool false, .ref s.heap.objs.size, rawInt 0, .none, .none] }) (s.heap.objs.size + 1) s.heap.objs.size 0 .none := by
    have e := Heap.get?_push_size (s.heap.push { cls := .type "tuple_iterator", data := .fields #[.ref l, .int 0 0] }) (o := { cls := .type "enumerate", data := .fields #[.none, .bool false, .ref s.heap.objs.size, rawInt 0, .none, .none] }) rfl
    rw [hz] at e
    exact e
  exact ⟨⟨_, he, rfl⟩, q _ he ⟨_, Heap.get?_push_of_some _ (Heap.get?_push_size _ rfl), rfl, rfl⟩ fun b o x => Heap.get?_push_of_some _ (Heap.get?_push_of_some _ x)⟩
end
end PySem
namespace L2
open PySem PySem.Spec PyProof.Rows
def IteT (K : PySem.W.Frag) (a : Addr) : It :=
  ⟨fun i H => ∃ (xs : List V) (x : V), SqT K H a xs ∧ xs[i]? = some x, fun i H v H2 => ∃ T x, v = .ref T ∧ H T = none ∧ H2 = upd H T (.tup [.int (i : Nat), x]) ∧ ∀ xs, SqT K H a xs → xs[i]? = some x, fun i H => ∃ xs : List V, SqT K H a xs ∧ xs.length = i⟩
theorem turn_enumT {P : Program} {w : World} {K : PySem.W.Frag} {elts : List Expr} {kk : Nat} {tpos : Pos} (a e it : Addr) (hai : a ≠ it) :
    Turn P w K (.Tuple elts kk tpos) (IteT K a) [e, it] e (fun i h => (∃ old, IsEnum h e it ((i : Nat) : Int) old) ∧ h.IsTupleIter it a i ∧ e ≠ it ∧ e ≠ a) where
  mem := by simp
  obj := fun i h st b hb => by
    obtain ⟨⟨old, he⟩, ⟨o, ho, hc, hd⟩, _⟩ := st
    have eb : b = e ∨ b = it := by simpa using hb
    rcases eb with z | z
    · rw [z]; exact ⟨_, he, fun v q => nomatch q⟩
    · rw [z]; exact ⟨o, ho, fun v q => by rw [hd] at q; cases q⟩
  keep := fun i h h2 st k => let ⟨⟨old, he⟩, hi, hne⟩ := st; ⟨⟨old, k e (by simp) _ he⟩, hi.at fun o q => k it (by simp) o q, hne⟩
  item := by
    intro X hP hw hK hc i pins s σ H E I hf st hg
    subst hP hw hK
    obtain ⟨⟨old, he⟩, hit, hne, hea⟩ := st
    obtain ⟨xs, x, hq, hx⟩ := hg
    obtain ⟨its, rv, p, hz⟩ := I.tuple hq
    obtain ⟨u, hu, ru⟩ := rv.get hx
    have hel : e < s.heap.objs.size := Heap.lt_size he
    have hil : it < s.heap.objs.size := by
      obtain ⟨_, q, _⟩ := hit
      exact Heap.lt_size q
    have hh : X.A.in1.handled = none := by
      have := I.ok.hd hc
      simpa using this
    have hlt : i < its.toArray.size := by
      rw [List.size_toArray]
      exact (List.getElem?_eq_some_iff.mp hu).1
    refine wpAny_pyNext_enum_itemD (Draws.tuple hh it a hai its.toArray) he ⟨hit, p⟩ hlt hne (by simp [hne, hea]) fun y h2 tk hy ho hst hT hsz hk => ?_
    have hy2 : y = u := by
      have e1 : its[i]? = some y := by simpa using hy
      rw [hu] at e1
      exact (Option.some.inj e1).symm
    subst hy2
    refine ⟨_, rfl, wpAny_letOwnedTupleGo_enum (s := { s with heap := h2, toks := tk + 1 }) ho fun h3 he3 sb => ?_⟩
    have hT2 : h3.get? s.heap.objs.size = some { cls := .type "tuple", data := .seq #[.int i tk, y] } := (sb.2 _ (Nat.ne_of_gt hel)).trans hT
    have new : ObjOk X.prog X.w (upd H s.heap.objs.size (.tup [.int (i : Nat), x])) h3 s.heap.objs.size (.tup [.int (i : Nat), x]) :=
      ⟨by show 2 ≤ sizeLine; decide, [.int i tk, y], .cons ⟨_, rfl⟩ (.cons ru .nil), ⟨_, hT2, rfl, _, rfl⟩⟩
    have I1 : Inv X pins σ (upd H s.heap.objs.size (.tup [.int (i : Nat), x])) { s with heap := h3, toks := tk + 1 } :=
      I.turnedNew (ch := [e, it]) (fun b ob hb q => (sb.2 b (fun z => hb (by simp [z]))).trans (hk b ob (fun z => hb (by simp [z])) (fun z => hb (by simp [z])) q)) hf (Nat.le_refl _) new
    refine ⟨.ref s.heap.objs.size, _, I1, rfl, ⟨_, x, rfl, I.hok.fresh (Nat.le_refl _), rfl, fun ys hy => by rw [I.tuple_inj hy hq]; exact hx⟩, ⟨⟨y, ?_⟩, hst.1.at fun o q => (sb.2 it (Ne.symm hne)).trans q, hne, hea⟩, fun b hb => ?_⟩
    · have e1 : ((i + 1 : Nat) : Int) = (i : Int) + 1 := by omega
      rw [e1]
      exact he3
    · have hlb : b < s.heap.objs.size := by
        have eb : b = e ∨ b = it := by simpa using hb
        rcases eb with z | z
        · rw [z]; exact hel
        · rw [z]; exact hil
      rw [upd_ne (Nat.ne_of_lt hlb)]
      exact (hf b hb).1
  done := by
    intro X hP hw hK hc i pins s σ H E I hf st hg
    subst hP hw hK
    obtain ⟨⟨old, he⟩, hit, hne, hea⟩ := st
    obtain ⟨xs, hq, hx⟩ := hg
    obtain ⟨its, rv, p, hz⟩ := I.tuple hq
    obtain ⟨f0, f1, f2, f3, f4, f5⟩ := hf it (by simp)
    have hh : X.A.in1.handled = none := by
      have := I.ok.hd hc
      simpa using this
    have hl : i = its.toArray.size := by
      rw [List.size_toArray, ← rv.length]
      exact hx.symm
    refine wpAny_pyNext_enum_endD (Draws.tuple hh it a hai its.toArray) he ?_ fun h2 eb => ⟨rfl, I.turned (t' := s.toks) (fun b o hb q => eb b o hb q) f0 f1 f3 f4 f5⟩
    rw [← hl]
    exact ⟨hit, p⟩
  self := fun A i s Q E st q => let ⟨⟨_, he⟩, _⟩ := st; wpAny_pyIter_enum he q
def iEnumT (K : PySem.W.Frag) (ta : TA) : TI := fun σ H R => ta σ H fun vs H1 => ∃ a xs, vs = [.ref a] ∧ SqT K H1 a xs ∧ R (IteT K a) H1
theorem pi_enumT {X : Cx} {e : Expr} {ta : TA} {p pos tpos : Pos} {elts : List Expr} {kk : Nat} (hg : Gl X "enumerate") (hm : X.mg "enumerate" = none) (ha : PA X [e] ta) (hs : starEach [e] X.env = [(false, eval e X.env)] := by rfl) :
    PI X (.Tuple elts kk tpos) (.Call (.Name "enumerate" p) [e] [] pos) (iEnumT X.K ta) := by
  refine ⟨fun pins s σ H R I h => ?_⟩
  refine Call_ (ld_blt I hg hm boot_enumerate (callWith_type1 (thn (ha.run pos pins s σ H _ I h) fun us s1 ⟨vs, H1, I1, r1, q1⟩ => ?_) hs rfl))
  obtain ⟨a, xs, ex, hq, q⟩ := q1
  subst ex
  cases r1 with
  | cons r rr =>
    cases rr
    cases r
    obtain ⟨its, rv, p', hz⟩ := I1.tuple hq
    have hal : a < s1.heap.objs.size := by
      obtain ⟨o, ho, _⟩ := p'
      exact Heap.lt_size ho
    refine pf_call_enumT p' fun h2 he hit hk => wpAny_pyIter_enum he ?_
    have I2 : Inv X pins σ H1 { s1 with heap := h2 } := I1.kept (t' := s1.toks) hk
    refine ⟨s1.heap.objs.size + 1, [s1.heap.objs.size + 1, s1.heap.objs.size], _, _, H1, rfl, I2, turn_enumT a (s1.heap.objs.size + 1) s1.heap.objs.size (Nat.ne_of_lt hal), ⟨⟨.none, he⟩, hit, Nat.succ_ne_self _, Nat.ne_of_gt (Nat.lt_succ_of_lt hal)⟩, fun b hb => ?_, q⟩
    have eb : b = s1.heap.objs.size + 1 ∨ b = s1.heap.objs.size := by simpa using hb
    have hle : s1.heap.objs.size ≤ b := by
      rcases eb with z | z
      · rw [z]; exact Nat.le_add_right _ _
      · rw [z]; exact Nat.le_refl _
    exact I1.fpOk hle (I1.hok.fresh hle)
theorem walk_enumT {K : PySem.W.Frag} {a : Addr} {xs : List V} : Walk (IteT K a) xs.length (fun H => SqT K H a xs) (YPair (fun i => some (.int (i : Nat))) (fun i => xs[i]?)) := by
  refine ⟨fun i H hi hq => ⟨xs, _, hq, List.getElem?_eq_getElem hi⟩, fun H hq => ⟨xs, hq, rfl⟩, fun i H v H2 hi hq y => ?_⟩
  obtain ⟨T, x, ev, hT, e2, hx⟩ := y
  exact ⟨T, _, x, ev, hT, e2, rfl, hx xs hq⟩
end L2
set_option Elab.async false
set_option linter.all false
set_option maxRecDepth 100000
set_option maxHeartbeats 4000000
namespace L2
open PySem PySem.Spec PyProof.Rows
section
variable {X : Cx} {CX : CXT} {n : Nat} {C f : Addr} {fd : FuncData} {ps : List Str} {sp : Sp} {E : XK}
def rEqO (C : Addr) (sp : Sp) (E : XK) (g : Bool → Bool) : R2 := fun x y H Q => ∃ a b dx dy fs gs, x = .ref a ∧ y = .ref b ∧ H a = some (.ins C dx fs) ∧ H b = some (.ins C dy gs) ∧ sp [.ref a, .ref b] H (fun v H' => ∃ r, v = .bl r ∧ Q (.bl (g r)) H') E
theorem run_eqO {A : Around} {pins : List (Addr × Obj)} {σ : St} {H : Hp} {s : Shared} {a : Addr} {u : Value} {y : V} {R : Bool → Hp → Prop} {E2 : Value → Shared → Prop} (F : FnOk X.prog X.w X.K X.mg X.base CX n f fd ps sp) (hb : Binds X.K fd ps []) (hr : Room n A) (hfr : A.frames = X.A.frames)
    (hx : ∀ (e : Value) (s' : Shared), CX X.stack H s E e s' → E2 e s') (I : Inv X pins σ H s) (ry : RelV y u) (h : sp [.ref a, y] H (fun v H' => ∃ r, v = .bl r ∧ R r H') E) :
    wpAny (model X.prog X.w) A (call (.ref f) [.ref a, u]) (fun v s' => ∃ r H', v = .bool r ∧ Inv X pins σ H' s' ∧ R r H') E2 s := by
  have e0 : Env0 X.prog X.w X.K X.mg X.base A X.stack s H := by
    have e := I.env0
    exact ⟨by rw [hfr]; exact e.frames, e.mod, e.bs, e.bsz, e.funs, e.frf, e.hok, e.bare⟩
  have hl := F.len _ _ _ _ h
  have r2 : Vals [V.ref a, y] [Value.ref a, u] := .cons rfl (.cons ry .nil)
  refine wpAny_call (codeAny_mono (F.run A X.stack s H ⟨[.ref a, u], []⟩ [.ref a, u] [.ref a, y] _ E hr e0 (by
    have := hb s [.ref a, u] I.kIn (by simpa using hl)
    simpa using this) r2 h) fun r s' hq => ?_)
  cases r with
  | error e => exact hx e s' hq
  | ok fl =>
    cases fl with
    | ret w =>
      obtain ⟨z, H', I', rz, r, ez, q⟩ := I.after hq
      subst ez
      cases rz
      exact ⟨r, H', rfl, I', q⟩
    | next => exact False.elim hq
    | brk => exact False.elim hq
    | cont => exact False.elim hq
theorem op_eqO (F : FnOk X.prog X.w X.K X.mg X.base CX n f fd ps sp) (hs : PySem.W.findIn X.K (.ref C) "__eq__" = some (some (.ref f))) (hf : PySem.W.isFn X.K (.ref f) = true) (hb : Binds X.K fd ps []) (hx : Passes CX X E) (hr : Room n X.A) : OpR X (compareOp .Eq) (rEqO C sp E id) := by
  intro pins s σ H x y v u Q I rx ry h
  obtain ⟨a, b, dx, dy, fs, gs, rfl, rfl, ha, hb', q⟩ := h
  cases rx
  cases ry
  show wpAny (model X.prog X.w) X.A (richCompare .Eq (.ref a) (.ref b)) (EP X pins σ Q) X.xe s
  obtain ⟨mA, J, _⟩ := ins_get I.hok ha
  obtain ⟨mB, J', _⟩ := ins_get I.hok hb'
  obtain ⟨od, J, _⟩ := J.look
  obtain ⟨od', J', _⟩ := J'.look
  obtain ⟨m, hF⟩ := I.fr
  refine PySem.W.cmp_K (op := .Eq) (tb := .ref C) hr.units0 hF I.ok.mod.kin J J'.type (by simp [PySem.W.notFirst]) hs hf ?_
  refine wpAny_mono (run_eqO (A := X.A) (y := .ref b) F hb hr rfl (fun e s' c => hx pins σ H s e s' I c) I rfl q) (fun w s' z => ?_) fun _ _ e => e
  obtain ⟨r, H', rfl, I', q'⟩ := z
  exact ⟨.bl r, H', I', rfl, q'⟩
end
section
open PySem.W
variable {prog : Program} {w : World} {A : Around} {E : Value → Shared → Prop} {s : Shared} {K : Frag} {x C L f : Addr} {h₀ : Heap} {m : Str → Option Value} {ox : Obj} {od : Option Obj} {b : Value}
theorem neBound {args : List Value} {Q : Option Value → Shared → Prop} {M : Model} (X : K.In s.heap) (I : InstAt s.heap x ox C od) (hs : findIn K (.ref C) "__ne__" = some (some (.builtin "object.__ne__")))
    (h : wpAny M A (call (.builtin "object.__ne__") (.ref x :: args)) (fun v => Q (some v)) E s) : wpAny M A (callSpecialIfBound? (.ref x) "__ne__" args) Q E s := by
  simp only [callSpecialIfBound?, bindSpecialIfBound?]
  refine wpAny_holding (wpAny_bind (wpAny_bind (wpAny_bind (I.type.here ((looks_findIn X hs).here ?_)))))
  simp only [F.cmp_object.ne.bind]
  refine wpAny_bind (wpAny_askSetting (wpAny_ite ?_))
  have fin : wpAny M A (call (.builtin "object.__ne__") ([.ref x] ++ args) >>= fun v => pure (some v)) Q E s := wpAny_bind (wpAny_mono h (fun v s' h' => wpAny_pure h') fun _ _ h' => h')
  split
  · exact wpAny_bind (wpAny_pure (wpAny_pure fin))
  · exact wpAny_tryCatch (wpAny_bind (wpAny_pure (wpAny_pure fin)))
theorem checkNe {Q : Unit → Shared → Prop} {M : Model} (X : K.In s.heap) (I : InstAt s.heap x ox C od) (hsub : subIn K (.ref C) (.type "object") = some true) (hq : Q () s) :
    wpAny M A (checkBuiltinCall "object.__ne__" ⟨[.ref x, b], []⟩) Q E s := by
  simp only [checkBuiltinCall, F.cmpKind_ne, F.cmpSplit_ne]
  refine wpAny_bind ?_
  · unfold isInstance
    refine wpAny_bind (I.type.here ((looks_subIn X hsub).here ?_))
    have ha := F.cmpArgs_ne (.ref x) b
    cases hsig : Manifest.signature? "object.__ne__" with
    | none => exact wpAny_pure hq
    | some sig =>
      simp only [argsOk, hsig] at ha
      have h2 : Bind.checkArgs "object.__ne__" sig ⟨[.ref x, b], []⟩ = pure () := ha
      show wpAny M A (Bind.checkArgs "object.__ne__" sig ⟨[.ref x, b], []⟩) Q E _
      rw [h2]; exact wpAny_pure hq
theorem ne_K {Q : Value → Shared → Prop} (hu : A.units + 1 < cLine) (F0 : Fr h₀ L s.heap m) (X₀ : K.In h₀) (I : InstAt s.heap x ox C od) (hb : Looks (model prog w) s.heap (typeOf b) (.ref C))
    (hs : findIn K (.ref C) "__ne__" = some (some (.builtin "object.__ne__"))) (hsub : subIn K (.ref C) (.type "object") = some true) (he : findIn K (.ref C) "__eq__" = some (some (.ref f))) (hf : isFn K (.ref f) = true)
    (h : wpAny (model prog w) A.in1 (call (.ref f) [.ref x, b]) (fun v s' => ∃ r, v = .bool r ∧ Q (.bool (!r)) s') E s) : wpAny (model prog w) A (richCompare .NotEq (.ref x) b) Q E s := by
  have X := X₀.keeps F0.keep
  have one : wpAny (model prog w) A (tryCompare (.ref x) "__ne__" b) (fun r s' => ∃ v, r = some v ∧ Q v s') E s := by
    unfold tryCompare
    refine wpAny_bind (neBound X I hs (wpAny_call (codeAny_call_builtin F.cmp_object.ne.plain F.cmpEntry_ne (checkNe X I hsub ?_))))
    unfold Builtin.«object.__ne__»
    repeat (first
      | with_reducible refine wpAny_cRoomFor (A := A.in1) hu ?_
      | (refine wpAny_bind (m := callSpecialIfBound? (.ref x) (Str.ofString "__eq__") [b])
          (ifBound_K X I he hf (wpAny_mono h (fun r s' hr => by
            obtain ⟨r, rfl, hq⟩ := hr
            repeat (first | exact wpAny_pure ⟨_, rfl, hq⟩ | exact wpAny_pure (wpAny_pure ⟨_, rfl, hq⟩) | (refine wpAny_bind (m := truthy (.bool _)) (wpAny_truthy_bool ?_)) | wp_step)) fun _ _ e => e)))
      | wp_step)
  unfold richCompare
  simp only [oneThing_ref]
  refine wpAny_holding (wpAny_bind (wpAny_cRoomFor (Nat.lt_of_succ_lt hu) ?_))
  refine wpAny_bind (I.type.here (wpAny_bind (hb.here ?_)))
  rw [cmpInfo_NotEq]
  dsimp only
  rw [show (Value.ref C != Value.ref C) = false from by simp]
  simp only [Bool.false_eq_true, if_false]
  refine wpAny_bind (wpAny_pure ?_)
  simp only [Bool.false_eq_true, if_false]
  refine wpAny_bind (wpAny_mono one (fun r s' z => ?_) fun _ _ e => e)
  obtain ⟨v, rfl, hq⟩ := z
  exact wpAny_pure hq
end
section
variable {X : Cx} {CX : CXT} {n : Nat} {C f : Addr} {fd : FuncData} {ps : List Str} {sp : Sp} {E : XK}
theorem op_neO (F : FnOk X.prog X.w X.K X.mg X.base CX n f fd ps sp) (hs : PySem.W.findIn X.K (.ref C) "__eq__" = some (some (.ref f))) (hf : PySem.W.isFn X.K (.ref f) = true)
    (hn : PySem.W.findIn X.K (.ref C) "__ne__" = some (some (.builtin "object.__ne__"))) (hsub : PySem.W.subIn X.K (.ref C) (.type "object") = some true)
    (hb : Binds X.K fd ps []) (hx : Passes CX X E) (hr : Room (n + 1) X.A) : OpR X (compareOp .NotEq) (rEqO C sp E not) := by
  intro pins s σ H x y v u Q I rx ry h
  obtain ⟨a, b, dx, dy, fs, gs, rfl, rfl, ha, hb', q⟩ := h
  cases rx
  cases ry
  show wpAny (model X.prog X.w) X.A (richCompare .NotEq (.ref a) (.ref b)) (EP X pins σ Q) X.xe s
  obtain ⟨mA, J, _⟩ := ins_get I.hok ha
  obtain ⟨mB, J', _⟩ := ins_get I.hok hb'
  obtain ⟨od, J, _⟩ := J.look
  obtain ⟨od', J', _⟩ := J'.look
  obtain ⟨m, hF⟩ := I.fr
  refine ne_K (by have := hr.un; omega) hF I.ok.mod.kin J J'.type hn hsub hs hf ?_
  refine wpAny_mono (run_eqO (A := X.A.in1) (y := .ref b) F hb hr.in1 rfl (fun e s' c => hx pins σ H s e s' I c) I rfl q) (fun w s' z => ?_) fun _ _ e => e
  obtain ⟨r, H', rfl, I', q'⟩ := z
  exact ⟨r, rfl, .bl (!r), H', I', rfl, q'⟩
end
theorem decI_str (a : Str) (t : Tok) (x C dx : Addr) : Meets (Builtin.«str.__eq__» ⟨[.str a t, .ref x], []⟩) (fun _ R s => s.heap.get? x = some { cls := .ref C, dict := some dx, data := .plain, slots := #[] } ∧ R (.ok (.ret .notImplemented)) s) :=
  .of_wp fun prog w A R s h => by obtain ⟨hp, g, d, tk, os⟩ := s; obtain ⟨hl, h⟩ := h; wp_walk using wpAny_loadPart' hl; exact ⟨_, rfl, h⟩
theorem decI_int (a : Int) (t : Tok) (x C dx : Addr) : Meets (Builtin.«int.__eq__» ⟨[.int a t, .ref x], []⟩) (fun _ R s => s.heap.get? x = some { cls := .ref C, dict := some dx, data := .plain, slots := #[] } ∧ R (.ok (.ret .notImplemented)) s) :=
  .of_wp fun prog w A R s h => by obtain ⟨hp, g, d, tk, os⟩ := s; obtain ⟨hl, h⟩ := h; wp_walk using wpAny_loadPart' hl; exact ⟨_, rfl, h⟩
section
open PySem.W
variable {prog : Program} {w : World} {A : Around} {E : Value → Shared → Prop} {s : Shared} {K : Frag} {x C f : Addr} {ox : Obj} {od : Option Obj} {u : Value} {T : String}
theorem decI_list {dd : Option Addr} {sl : Array (Option Value)} {items : Array Value} {n : Nat} {l : Addr} {Q : Fin → Shared → Prop} {M : Model} (X : K.In s.heap) (I : InstAt s.heap x ox C od) (hm : subIn K (.ref C) (.type "list") = some false) (hq : Q (.done (.ret .notImplemented)) s) :
    wpAny M A (Builtin.«list.__eq__» ⟨[.ref l, .ref x], []⟩) Q E s := by
  unfold Builtin.«list.__eq__»
  repeat (first | (refine wpAny_bind (m := isInstance (.ref x) (.type "list")) ?_; unfold isInstance; refine wpAny_bind (I.type.here ((looks_subIn X hm).here ?_))) | wp_step)
  all_goals exact hq
theorem rc_own {Q : Value → Shared → Prop} (hu : A.units < cLine) (X : K.In s.heap) (I : InstAt s.heap x ox C od) (ht : Looks (model prog w) s.heap (typeOf u) (.type T)) (hm : subIn K (.ref C) (.type T) = some false)
    (dec : wpAny (model prog w) A (tryCompare u "__eq__" (.ref x)) (fun r s' => r = none ∧ s' = s) E s) (hs : findIn K (.ref C) "__eq__" = some (some (.ref f))) (hf : isFn K (.ref f) = true)
    (ho : oneThing? .Eq u (.ref x) = none) (h : wpAny (model prog w) A (call (.ref f) [.ref x, u]) (PySem.W.CmpBack Q) E s) : wpAny (model prog w) A (richCompare .Eq u (.ref x)) Q E s := by
  have one : wpAny (model prog w) A (tryCompare (.ref x) "__eq__" u) (fun r s' => ∃ v, r = some v ∧ Q v s') E s := by
    unfold tryCompare
    refine wpAny_bind (ifBound_K X I hs hf (wpAny_mono h (fun v s' hv => ?_) fun _ _ e => e))
    cases v <;> first | exact hv.elim | exact wpAny_pure ⟨_, rfl, hv⟩
  simp only [richCompare, cmpInfo_Eq, ho]
  refine wpAny_holding (wpAny_bind (wpAny_cRoomFor hu ?_))
  refine wpAny_bind (ht.here (wpAny_bind (I.type.here ?_)))
  split
  · refine wpAny_bind ((looks_subIn X hm).here ?_)
    simp only [Bool.false_eq_true, if_false, Bool.not_false, if_true]
    refine wpAny_bind (m := tryCompare u _ (.ref x)) (wpAny_mono dec (fun r s1 z => ?_) fun _ _ e => e)
    obtain ⟨rfl, rfl⟩ := z
    refine wpAny_bind (m := tryCompare (.ref x) _ u) (wpAny_mono one (fun r s2 z => ?_) fun _ _ e => e)
    obtain ⟨v, rfl, hq⟩ := z
    exact wpAny_pure hq
  · rename_i q
    exact absurd (by simp) q
end
section
open PySem.MeetsSeq PySem.AutoSeq1
variable {prog : Program} {w : World} {A : Around} {E : Value → Shared → Prop} {R : Result → Shared → Prop}
def InI (prog : Program) (w : World) (A : Around) (E : Value → Shared → Prop) (l : Addr) (x : Value) (N : Nat) (I : Shared → Prop) : Prop :=
  ∀ s, I s → ∃ (items : Array Value) (n : Nat) (sl : Array (Option Value)), s.heap.get? l = some { cls := .type "list", dict := none, data := .seq items n, slots := sl } ∧ items.size = N ∧
    ∀ (i : Nat) (h1 : i < items.size), wpAny (model prog w) A.in1 (eqBool items[i] x) (fun r s' => r = false ∧ I s') E s
theorem in_loopG (l : Addr) (x : Value) (N : Nat) (I : Shared → Prop) (hl : InI prog w A (fun e s' => R (.error e) s') l x N I)
    (fin : ∀ s, I s → R (.ok (.ret (.bool false))) s) (k : Nat) :
    ∀ i : Nat, N - i = k → i ≤ N → ∀ s, I s →
      wpAny (model prog w) A.in1 (Builtin.«list.__contains__.loop» ⟨[.ref l, x, rawInt i], []⟩) (GQ.FinOf prog w A R) (fun e s' => R (.error e) s') s := by
  induction k with
  | zero =>
    intro i hk hi s h
    obtain ⟨items, n, sl, hl1, hs1, _⟩ := hl _ h
    have hR := fin s h
    obtain ⟨hp, g, d, tk, os⟩ := s
    wp_walk using wpAny_loadPart' hl1
    have hi1 : items[((i : Nat) : Int).toNat]? = none := by simp; omega
    rw [hi1]
    wp_walk
    exact hR
  | succ k ih =>
    intro i hk hi s h
    obtain ⟨items, n, sl, hl1, hs1, turn⟩ := hl _ h
    have hlt : i < items.size := by omega
    have ht := turn i hlt
    obtain ⟨hp, g, d, tk, os⟩ := s
    wp_walk using wpAny_loadPart' hl1
    have hi1 : items[((i : Nat) : Int).toNat]? = some items[i] := by simp [hlt]
    have hc : ((i : Int) + 1) = ((i + 1 : Nat) : Int) := by omega
    rw [hi1]
    refine wpAny_bind (wpAny_mono ht (fun r s2 h2 => ?_) fun _ _ x => x)
    obtain ⟨hr, h2⟩ := h2
    subst hr
    have hrec := ih (i + 1) (by omega) (by omega) s2 h2
    obtain ⟨hp2, g2, d2, tk2, os2⟩ := s2
    wp_walk
    rw [hc]
    exact ⟨plainId_quiet plain_contains_loop _, codeAny_builtin entry_contains_loop (by
      rw [Around.under_plainId plain_contains_loop _]
      exact hrec)⟩
theorem in_listG (l : Addr) (x : Value) (N : Nat) (I : Shared → Prop) (hl : InI prog w A (fun e s' => R (.error e) s') l x N I)
    (fin : ∀ s, I s → R (.ok (.ret (.bool false))) s) {s : Shared} (h : I s) :
    wpAny (model prog w) A.in1 (Builtin.«list.__contains__» ⟨[.ref l, x], []⟩) (GQ.FinOf prog w A R) (fun e s' => R (.error e) s') s := by
  have hrec := in_loopG (A := A) (R := R) l x N I hl fin _ 0 rfl (Nat.zero_le _) s h
  obtain ⟨hp, g, d, tk, os⟩ := s
  wp_walk
  exact ⟨plainId_quiet plain_contains_loop _, codeAny_builtin entry_contains_loop (by
    rw [Around.under_plainId plain_contains_loop _]
    exact hrec)⟩
end
section
variable {X : Cx} {CX : CXT} {n : Nat} {C f : Addr} {fd : FuncData} {ps : List Str} {sp : Sp} {E : XK}
def Odd (K : PySem.W.Frag) (H : Hp) : V → Prop
  | .str _ => True
  | .int _ => True
  | .non => True
  | .ref p => ∃ xs, H p = some (.lst xs)
  | _ => False
theorem eqB {A : Around} {s : Shared} {prog : Program} {w : World} {E2 : Value → Shared → Prop} {a : Addr} {u : Value} {Q : Bool → Shared → Prop} (hne : (u == .ref a) = false) (hnf : ∀ b t, u ≠ .float b t) (h : wpAny (model prog w) A (richCompare .Eq u (.ref a)) (fun v s' => ∃ r, v = .bool r ∧ Q r s') E2 s) : wpAny (model prog w) A (eqBool u (.ref a)) Q E2 s := by
  unfold eqBool
  refine wpAny_holding ?_
  refine wpAny_ite_split (fun hab => by rw [hne] at hab; cases hab) (fun _ => ?_)
  have fin : wpAny (model prog w) A (do let r ← richCompare .Eq u (.ref a); truthOfDropped r) Q E2 s := by
    refine wpAny_bind (wpAny_mono h (fun v s' hv => ?_) fun _ _ x => x)
    obtain ⟨r, rfl, q⟩ := hv
    exact wpAny_truthy_bool q
  cases u <;> first | exact fin | exact absurd rfl (hnf _ _)
theorem eq_odd {A : Around} {pins : List (Addr × Obj)} {σ : St} {H : Hp} {s : Shared} {a dx : Addr} {fs : List (Str × V)} {z : V} {u : Value} (G : FnOk X.prog X.w X.K X.mg X.base CX n f fd ps sp) (hs : PySem.W.findIn X.K (.ref C) "__eq__" = some (some (.ref f))) (hf : PySem.W.isFn X.K (.ref f) = true)
    (m1 : PySem.W.subIn X.K (.ref C) (.type "str") = some false) (m2 : PySem.W.subIn X.K (.ref C) (.type "int") = some false) (m3 : PySem.W.subIn X.K (.ref C) (.type "NoneType") = some false) (m4 : PySem.W.subIn X.K (.ref C) (.type "list") = some false)
    (hb : Binds X.K fd ps []) (hx : Passes CX X E) (hr : Room n A) (hfr : A.frames = X.A.frames) (I : Inv X pins σ H s) (rz : RelV z u) (ha : H a = some (.ins C dx fs)) (o : Odd X.K H z) (q : sp [.ref a, z] H (fun v H' => ∃ r, v = .bl r ∧ r = false ∧ H' = H) E) :
    wpAny (model X.prog X.w) A (eqBool u (.ref a)) (fun r s' => r = false ∧ Inv X pins σ H s') X.xe s := by
  obtain ⟨mA, J0, _⟩ := ins_get I.hok ha
  obtain ⟨od, J, _⟩ := J0.look
  have last : ∀ u, RelV z u → wpAny (model X.prog X.w) A (call (.ref f) [.ref a, u]) (PySem.W.CmpBack fun v s' => ∃ r, v = .bool r ∧ r = false ∧ Inv X pins σ H s') X.xe s := fun u ru => by
    refine wpAny_mono (run_eqO (A := A) (y := z) G hb hr hfr (fun e s' c => hx pins σ H s e s' I c) I ru q) (fun w s' t => ?_) fun _ _ e => e
    obtain ⟨r, H', rfl, I', rfl, rfl⟩ := t
    exact ⟨false, rfl, rfl, I'⟩
  cases z with
  | str k =>
    obtain ⟨t, rfl⟩ := id rz
    refine eqB rfl nofun (rc_own (T := "str") hr.units0 I.kIn J (fun A' Q' E' s' k' h' => wpAny_pure h') m1 ?_ hs hf rfl (last _ rz))
    exact wpAny_tryCompare_declines (show s.TypeIs (.str k t) "str" from rfl) F.slot_str_eq (call_meets F.slot_str_eq rfl F.entry_str_eq (F.args_str_eq_2 _ _) (decI_str k t a C dx) ⟨J0.obj, rfl, rfl, rfl⟩)
  | int k =>
    obtain ⟨t, rfl⟩ := id rz
    refine eqB rfl nofun (rc_own (T := "int") hr.units0 I.kIn J (fun A' Q' E' s' k' h' => wpAny_pure h') m2 ?_ hs hf rfl (last _ rz))
    exact wpAny_tryCompare_declines (show s.TypeIs (.int k t) "int" from rfl) F.slot_int_eq (call_meets F.slot_int_eq rfl F.entry_int_eq (F.args_int_eq_2 _ _) (decI_int k t a C dx) ⟨J0.obj, rfl, rfl, rfl⟩)
  | non =>
    obtain rfl : u = .none := id rz
    refine eqB rfl nofun (rc_own (T := "NoneType") hr.units0 I.kIn J (fun A' Q' E' s' k' h' => wpAny_pure h') m3 ?_ hs hf rfl (last _ rz))
    exact wpAny_tryCompare_declines (show s.TypeIs .none "NoneType" from rfl) F.slot_NoneType_eq_refl (call_gives F.slot_NoneType_eq_refl rfl F.entry_NoneType_eq (F.args_NoneType_eq_2 _ _) (PySem.SeqAt.NoneType___eq___none_ref_0 a) ⟨rfl, rfl, rfl⟩)
  | ref p =>
    obtain rfl : u = .ref p := id rz
    obtain ⟨xs, hp⟩ := o
    have ne : p ≠ a := fun e => by rw [e, ha] at hp; cases hp
    obtain ⟨its, rv, hl, _⟩ := I.list (.inl (.inl hp))
    obtain ⟨ol, ho, hc, _⟩ := hl.isList
    have hT : s.TypeIs (.ref p) "list" := ⟨ol, ho, hc⟩
    refine eqB (by simp [ne]) nofun (rc_own (T := "list") hr.units0 I.kIn J (fun A' Q' E' s' k' h' => wpAny_typeOf (show s'.TypeIs (.ref p) "list" from ⟨ol, k' _ _ ho, hc⟩) h') m4 ?_ hs hf rfl (last _ rz))
    refine wpAny_tryCompare_declines hT F.slot_list_eq (GQ.call_here F.slot_list_eq hT F.entry_list_eq (F.args_list_eq_2 _ _) (decI_list (items := #[]) (n := 0) (dd := none) (sl := #[]) I.kIn J m4 ?_))
    exact ⟨rfl, rfl, rfl⟩
  | _ => exact o.elim
def rInO (K : PySem.W.Frag) (C : Addr) (sp : Sp) (E : XK) : R2 := fun x y H Q => ∃ a dx fs p xs, x = .ref a ∧ y = .ref p ∧ H a = some (.ins C dx fs) ∧ H p = some (.lst xs) ∧
  (∀ z ∈ xs, Odd K H z ∧ sp [.ref a, z] H (fun v H' => ∃ r, v = .bl r ∧ r = false ∧ H' = H) E) ∧ Q (.bl false) H
theorem op_inO (G : FnOk X.prog X.w X.K X.mg X.base CX n f fd ps sp) (hs : PySem.W.findIn X.K (.ref C) "__eq__" = some (some (.ref f))) (hf : PySem.W.isFn X.K (.ref f) = true)
    (m1 : PySem.W.subIn X.K (.ref C) (.type "str") = some false) (m2 : PySem.W.subIn X.K (.ref C) (.type "int") = some false) (m3 : PySem.W.subIn X.K (.ref C) (.type "NoneType") = some false) (m4 : PySem.W.subIn X.K (.ref C) (.type "list") = some false)
    (hb : Binds X.K fd ps []) (hx : Passes CX X E) (hr : Room (n + 1) X.A) : OpR X (compareOp .In) (rInO X.K C sp E) := by
  intro pins s σ H x y v u Q I rx ry h
  obtain ⟨a, dx, fs, p, xs, rfl, rfl, ha, hp, ht, q⟩ := h
  cases rx
  cases ry
  have hl : InI X.prog X.w X.A X.xe p (.ref a) xs.length (fun s' => Inv X pins σ H s') := fun s' I' => by
    obtain ⟨its, rv, hl, _⟩ := I'.list (.inl (.inl hp))
    obtain ⟨⟨c0, d0, da0, sl0⟩, n0, hl, e1, e2, e3⟩ := hl
    simp only at e1 e2 e3
    subst e1 e2 e3
    refine ⟨its.toArray, n0, sl0, ?_, by simp [rv.length], fun i h1 => ?_⟩
    · exact hl
    · have k1 : i < xs.length := by rw [rv.length]; simpa using h1
      have g1 : its[i]? = some its.toArray[i] := by
        have h1' : i < its.length := by simpa using h1
        rw [List.getElem?_eq_getElem h1'] <;> simp
      obtain ⟨u, hu, ru⟩ := rv.get (List.getElem?_eq_getElem k1)
      rw [g1] at hu
      rw [Option.some.inj hu]
      obtain ⟨o, e⟩ := ht _ (List.getElem_mem k1)
      exact eq_odd G hs hf m1 m2 m3 m4 hb hx hr.in1 rfl I' ru ha o e
  obtain ⟨items, n0, sl0, hl0, _, _⟩ := hl s I
  have hT : s.TypeIs (.ref p) "list" := ⟨_, hl0, rfl⟩
  show wpAny (model X.prog X.w) X.A (compareOp .In (.ref a) (.ref p)) _ _ _
  unfold compareOp
  refine wpAny_bind (wpAny_contains_slot hT F.slot_list_contains (GQ.call_here F.slot_list_contains hT F.entry_list_contains (F.args_list_contains_2 _ _) (in_listG (R := wants (fun r s' => wpAny (model X.prog X.w) X.A (truthy r) _ X.xe s') X.xe) p (.ref a) xs.length _ hl (fun s' I' => ?_) I)))
  exact wpAny_truthy_bool (wpAny_pure ⟨.bl false, H, I', rfl, q⟩)
end
def rIntB : List V → Hp → VK → Prop := fun xs H Q => ∃ b : Bool, xs = [.bl b] ∧ Q (.int (if b then 1 else 0)) H
theorem call_intB {X : Cx} : CallR X (.type "int") rIntB := by
  intro pins s σ H xs us Q I r h
  obtain ⟨b, rfl, q⟩ := h
  cases r with
  | cons r1 r2 =>
    cases r2
    cases r1
    exact call_int_bool ⟨.int (if b then 1 else 0), H, I.tok _, ⟨_, rfl⟩, q⟩
end L2
set_option Elab.async false
set_option linter.all false
set_option maxRecDepth 100000
set_option maxHeartbeats 4000000
namespace L2
open PySem PySem.Spec PyProof.Rows
section
variable {prog : Program} {w : World} {A : Around} {E : Value → Shared → Prop} {s : Shared}
theorem walks_from (hh : A.handled = none) (I ax : Addr) (hne : ax ≠ I) (items : Array Value) (k : Nat) (hk : k ≤ items.size) :
    Walks prog w A I [I, ax] [I] (items.size - k) (fun i v => items[i + k]? = some v) (fun i h => h.IsListIter I ax (i + k) ∧ h.IsList ax items) where
  sub := (Walks.list (prog := prog) (w := w) hh I ax hne items).sub
  frame := fun i h h' st hx => (Walks.list (prog := prog) (w := w) hh I ax hne items).frame (i + k) h h' st hx
  item := fun i s Q E hi st hQ => (Walks.list (prog := prog) (w := w) hh I ax hne items).item (i + k) s Q E (by omega) st fun v h' tk hP st' hx => hQ v h' tk hP (by rw [show i + 1 + k = i + k + 1 by omega]; exact st') hx
  done := fun s Q E st hQ => (Walks.list (prog := prog) (w := w) hh I ax hne items).done s Q E (by rw [show items.size - k + k = items.size by omega] at st; exact st) hQ
  self := fun i s Q E st hQ => (Walks.list (prog := prog) (w := w) hh I ax hne items).self (i + k) s Q E st hQ
theorem kun_star {l : Addr} {items : Array Value} {k : Nat} {Q : List Value → Shared → Prop} (hh : A.handled = none) (hl : s.heap.IsList l items) (hk : k ≤ items.size) (hz : items.size ≤ sizeLine)
    (hQ : ∀ (h1 : Heap) (tk : Nat), (∀ b o, s.heap.get? b = some o → h1.get? b = some o) → Q (items.toList.take k ++ [.ref h1.objs.size]) { s with heap := h1.push { cls := .type "list", data := .seq (items.toList.drop k).toArray }, toks := tk }) :
    wpAny (model prog w) A (unpackItems (.ref l) (k + 1) (some k)) Q E s := by
  have hlt : l ≠ s.heap.objs.size := by obtain ⟨o, ho, _⟩ := hl; exact Nat.ne_of_lt (Heap.lt_size ho)
  unfold unpackItems
  refine wpAny_bind ?_
  · unfold notIterableAtAll
    refine wpAny_bind (wpAny_specialOf hl.typeIs PySem.slot_list_iter.lookup ?_)
    refine wpAny_pure ?_
    simp only [Bool.false_eq_true, if_false]
    refine wpAny_bind (wpAny_holding (wpAny_pyIter_list hl ?_))
    refine wpAny_bind (wpAny_holding (PySem.W.kun_draw hlt k 0 _ _ ⟨_, Heap.get?_push_size _ rfl, rfl, rfl⟩ (hl.push _) (by omega) fun h₁ hit₁ hs₁ => ?_))
    rw [List.drop_zero, Nat.zero_add] at *
    have hln : (items.toList.take k).length = k := by
      rw [List.length_take, Array.length_toList]
      omega
    rw [if_neg (by rw [hln]; omega)]
    have hl₁ : h₁.IsList l items := (hl.push _).extBut hs₁.extBut hlt
    obtain ⟨oi, hoi, _⟩ := id hit₁
    obtain ⟨ol, hol, _⟩ := id hl₁
    refine wpAny_bind (wpAny_holding (wpAny_collect_iter (T := "list_iterator") (.inr (.inr (.inl rfl))) (walks_from (A := A.in1) hh s.heap.objs.size l hlt items k hk).toS (fun i s st => st.1.typeIs) ⟨by rw [Nat.zero_add]; exact hit₁, hl₁⟩ (fun b hb => ?_) (by simp) (fun s' acc hm hacc => ?_) (by omega)))
    · simp only [List.mem_cons, List.not_mem_nil, or_false] at hb
      rcases hb with rfl | rfl
      · exact Heap.lt_size hoi
      · exact Heap.lt_size hol
    have ea : acc.toList = items.toList.drop k := by
      apply List.ext_getElem?
      intro j
      rw [List.getElem?_drop, Array.getElem?_toList, Array.getElem?_toList]
      by_cases hj : j < acc.size
      · have := hacc.2 j acc[j] (by simp [hj])
        rw [Nat.add_comm k j, this]
        simp [hj]
      · have h1 := hacc.1
        rw [Array.getElem?_eq_none (by omega), Array.getElem?_eq_none (by omega)]
    have lr : acc.toList.length ≤ sizeLine := by rw [ea, List.length_drop, Array.length_toList]; omega
    rw [show k + 1 - 1 - k = 0 by omega, if_neg (by omega), Nat.sub_zero, List.take_length, List.drop_length]
    refine wpAny_bind (wpAny_newList ?_ lr)
    refine wpAny_pure ?_
    rw [List.append_nil, Moved.eq_with hm, ea]
    refine hQ s'.heap s'.toks fun b o e => hm.heap b o (fun z => ?_) (hs₁.extBut b o (Nat.ne_of_lt (Heap.lt_size e)) (Heap.get?_push_of_some _ e))
    rw [List.mem_singleton.mp z] at e
    exact absurd (Heap.lt_size e) (Nat.lt_irrefl _)
end
section
variable {X : Cx} {pos : Pos}
def gStar3 (K : PySem.W.Frag) (g1 g2 g3 g4 : TG) : TG := fun v σ H Q => ∃ a x y z xs, v = .ref a ∧ SqL K H a (x :: y :: z :: xs) ∧ ∀ p, H p = none →
  g1 x σ (upd H p (.lst xs)) fun σ1 H1 => g2 y σ1 H1 fun σ2 H2 => g3 z σ2 H2 fun σ3 H3 => g4 (.ref p) σ3 H3 Q
theorem pg_star3 {e1 e2 e3 e4 : Expr} {g1 g2 g3 g4 : TG} {k : Nat} {p4 : Pos} (hc : X.calm = true) (h1 : PG X e1 g1) (h2 : PG X e2 g2) (h3 : PG X e3 g3) (h4 : PG X e4 g4)
    (hm : (assignEach [e1, e2, e3, .Starred e4 p4] X.env).map (·.2) = [assign e1 X.env, assign e2 X.env, assign e3 X.env, assign e4 X.env] := by rfl)
    (hst : (assignEach [e1, e2, e3, .Starred e4 p4] X.env).findIdx? (·.1) = some 3 := by rfl) (hn : (assignEach [e1, e2, e3, .Starred e4 p4] X.env).length = 4 := by rfl) : PG X (.Tuple [e1, e2, e3, .Starred e4 p4] k pos) (gStar3 X.K g1 g2 g3 g4) := by
  refine ⟨fun pins s σ H v u Q I r hw => ?_⟩
  obtain ⟨a, x, y, z, xs, e0, hq, hw⟩ := hw
  subst e0
  cases r
  obtain ⟨its, rv, pl, hz⟩ := I.list hq
  have hl' : s.heap.IsList a its.toArray := by
    obtain ⟨o, m, e, c, d, q⟩ := pl
    exact ⟨o, e, c, m, q⟩
  have hln : its.length = xs.length + 3 := by rw [← rv.length] <;> rfl
  rw [PyProof.Rows.assign_Tuple]
  refine wpAny_bind (wpAny_standAt ?_)
  unfold unpack
  rw [hn, hst, hm]
  have hz' : (x :: y :: z :: xs).length ≤ sizeLine := hz
  have hzl : its.toArray.size ≤ sizeLine := by rw [List.size_toArray, ← rv.length]; exact hz'
  refine wpAny_bind (wpAny_holding (kun_star (k := 3) (I.ok.hd hc) hl' (by rw [List.size_toArray]; omega) hzl fun h1' tk hx => ?_))
  have I1 : Inv X pins σ H { s with heap := h1', toks := tk } := I.kept (t' := tk) fun b o e => hx b o e
  have hp : H h1'.objs.size = none := I1.hok.fresh (Nat.le_refl _)
  cases rv with
  | @cons _ u1 _ us1 r1 rv =>
    cases rv with
    | @cons _ u2 _ us2 r2 rv =>
      cases rv with
      | @cons _ u3 _ us3 r3 rv =>
        have I2 : Inv X pins σ (upd H h1'.objs.size (.lst xs)) { s with heap := h1'.push { cls := .type "list", data := .seq us3.toArray }, toks := tk } :=
          I1.laid (t' := tk) (o := .lst xs) (fun b ob q => Heap.get?_push_of_some _ q) (Nat.le_refl _) ⟨by simp only [List.length_cons] at hz'; omega, _, 0, rv, Heap.get?_push_size _ rfl⟩
        show wpAny _ _ (assignInOrder _ [u1, u2, u3, .ref h1'.objs.size]) _ _ { s with heap := h1'.push { cls := .type "list", data := .seq us3.toArray }, toks := tk }
        refine assignInOrder_cons (thn (h1.run pins _ σ _ _ _ _ I2 r1 (hw _ hp)) fun _ s1 ⟨σ1, H1, J1, q1⟩ => ?_)
        refine assignInOrder_cons (thn (h2.run pins s1 σ1 H1 _ _ _ J1 r2 q1) fun _ s2 ⟨σ2, H2, J2, q2⟩ => ?_)
        refine assignInOrder_cons (thn (h3.run pins s2 σ2 H2 _ _ _ J2 r3 q2) fun _ s3 ⟨σ3, H3, J3, q3⟩ => ?_)
        refine assignInOrder_cons (thn (h4.run pins s3 σ3 H3 (.ref h1'.objs.size) (.ref h1'.objs.size) _ J3 rfl q3) fun _ s4 ⟨σ4, H4, J4, q4⟩ => ?_)
        exact assignInOrder_nil ⟨σ4, H4, J4, q4⟩
end
section
variable {X : Cx} {CX : CXT} {k : Nat} {f : Addr} {fd : FuncData} {ps ks : List Str} {sp : Sp} {E : XK} {x : Str} {p pos : Pos} {kws : List Keyword} {tk : TA} {g : List Value → List Value → List Value} {gV : List V → List V → List V}
theorem pe_callK0 (F : FnOk X.prog X.w X.K X.mg X.base CX k f fd ps sp) (hr : Room k X.A) (hg : Gl X x) (hm : X.mg x = some (.ref f)) (hk : PySem.W.keepIn X.K (.ref f) = true) (hb : KBinds X.K fd ps ks g gV) (hx : Passes CX X E)
    (hkw : PK X kws tk) (hall : (backToKw pos (keywordEach kws X.env)).all (·.1.isSome) = true := by rfl) (hks : (backToKw pos (keywordEach kws X.env)).filterMap (·.1) = ks := by rfl)
    (hdb : (x == ("__debug__" : Str)) = false := by decide) (hpl : ((backTo pos (starEach [] X.env)).any (·.1) || (backToKw pos (keywordEach kws X.env)).any (·.1.isNone)) = false := by rfl) :
    PE X (.Call (.Name x p) [] kws pos) (tCallK sp gV E tNil tk) := by
  refine ⟨fun pins s σ H Q I h => ?_⟩
  refine wpAny_Call_Name_kw (ld_glob I hg hm ?_ hdb)
  refine PySem.W.callWith_KW0 (h₀ := X.base) I.ok.mod.kin hk hall ?_ hpl
  refine thn (hkw.run pos pins s σ H _ I h) fun ws s2 ⟨zs, H2, I2, rz, q2⟩ => ⟨I2.kIn, ?_⟩
  rw [hks]
  exact run_fnk (us := []) (vs := []) F hr hb hx I2 .nil rz q2
end
end L2
set_option Elab.async false
set_option linter.all false
set_option maxRecDepth 100000
set_option maxHeartbeats 4000000
namespace L2
open PySem PySem.Spec PyProof.Rows
structure OwnC (K : PySem.W.Frag) (C : Addr) : Prop where
  ne : PySem.W.findIn K (.ref C) "__ne__" = some (some (.builtin "object.__ne__"))
  ob : PySem.W.subIn K (.ref C) (.type "object") = some true
  m1 : PySem.W.subIn K (.ref C) (.type "str") = some false
  m2 : PySem.W.subIn K (.ref C) (.type "int") = some false
  m3 : PySem.W.subIn K (.ref C) (.type "NoneType") = some false
  m4 : PySem.W.subIn K (.ref C) (.type "list") = some false
  ha : PySem.W.findIn K (.ref C) "__class__" = some (some (.builtin "object.__class__"))
  hn : PySem.W.specialIn K (.builtin "object.__class__") "__get__" = some (some (.builtin "getset_descriptor.__get__"))
  ht : PySem.W.takesIn K (.builtin "object.__class__") = some true
  hm : PySem.W.mroIn K C (.type "object") = some true
  k1 : PySem.W.kitOne K (.type "str") (.ref C) = some false
  k2 : PySem.W.kitOne K (.type "int") (.ref C) = some false
  k3 : PySem.W.kitOne K (.type "NoneType") (.ref C) = some false
  k4 : PySem.W.kitOne K (.type "list") (.ref C) = some false
section
variable {X : Cx} {CX : CXT} {n : Nat} {C f : Addr} {fd : FuncData} {ps : List Str} {sp : Sp} {E : XK}
def rStrO (C : Addr) (sp : Sp) (E : XK) : List V → Hp → VK → Prop := fun xs H Q => ∃ a dx fs, xs = [V.ref a] ∧ H a = some (.ins C dx fs) ∧ sp [.ref a] H (fun v H2 => ∃ y : Str, v = .str y ∧ Q (.str y) H2) E
theorem call_strO (hm : Meth X.K C "__str__" f) (F : FnOk X.prog X.w X.K X.mg X.base CX n f fd ps sp) (hr : Room (n + 2) X.A) (hb : Binds X.K fd ps []) (hx : Passes CX X E) : CallR X (.type "str") (rStrO C sp E) := by
  intro pins s σ H xs us Q I r h
  obtain ⟨a, dx, fs, rfl, ea, q⟩ := h
  obtain ⟨u, rfl, ru⟩ := vals1 r
  cases ru
  obtain ⟨mA, O, _, _, _, _⟩ := ins_get I.hok ea
  obtain ⟨od, J, _⟩ := O.look
  have hr2 : Room n X.A.in1.in1 := (hr.in1).in1
  have hl : ([Value.ref a] ++ ([] : List Value)).length = ps.length := by
    have := F.len _ _ _ _ q
    simpa using this
  refine PySem.W.kso_call hr2.units0 I.kIn J hm.at_ hm.fn (wpAny_call (codeAny_mono (F.run X.A.in1.in1 X.stack s H ⟨[.ref a], []⟩ [.ref a] [.ref a] _ E hr2 I.env0.in1.in1 (hb s [.ref a] I.kIn hl) (.cons rfl .nil) q) fun r s' hq => ?_))
  cases r with
  | error e => exact hx pins σ H s e s' I hq
  | ok fl =>
    cases fl with
    | ret u =>
      obtain ⟨v, H', I', rv, y, rfl, q'⟩ := I.after hq
      obtain ⟨t, rfl⟩ := rv
      exact ⟨.str y, H', I', ⟨_, rfl⟩, q'⟩
    | next => exact False.elim hq
    | brk => exact False.elim hq
    | cont => exact False.elim hq
theorem KBinds.kn {K : PySem.W.Frag} {fd : FuncData} {ps ks : List Str} {n : Nat} (h : KBinds K fd ps ks (kbGn n) (kbVn n)) (hp : n + ks.length = ps.length) : KBn K fd ps n ks (kbGn n) (kbVn n) :=
  ⟨fun s us ws X l1 l2 => h.to s us ws X (by rw [show kbGn n us ws = us ++ ws from if_pos l1, List.length_append, l1, l2, hp]), h.rel⟩
end
section
open HT
variable {prog : Program} {w : World} {A : Around} {E : Value → Shared → Prop} {s : Shared}
theorem sliceApplied_rev {sl : Addr} {vs : Value} {n : Nat} {Q : Int × Int × Nat → Shared → Prop} (hs : s.heap.IsSliceOf sl .none .none vs) (pv : IsPart vs (some (-1)))
    (h : Q (((n : Nat) : Int) - 1, -1, n) s) : wpAny (model prog w) A (Builtin.Slice.sliceApplied (.ref sl) (pure (n : Int))) Q E s := by
  obtain ⟨os, hos, hcs, hds⟩ := id hs
  unfold Builtin.Slice.sliceApplied Builtin.Slice.sliceFields
  refine wpAny_bind (wpAny_bind (wpAny_field hos hds (x := .none) rfl (wpAny_bind (wpAny_field hos hds (x := .none) rfl (wpAny_bind (wpAny_field hos hds (x := vs) rfl (wpAny_pure ?_)))))))
  refine wpAny_bind (slicePart_ pv ?_)
  show wpAny _ _ (if ((-1 : Int) == 0) = true then _ else _) _ _ s
  rw [if_neg (by decide)]
  refine wpAny_bind (slicePart_none (wpAny_bind (slicePart_none (wpAny_bind (wpAny_pure ?_)))))
  show wpAny _ _ (pure (((n : Nat) : Int) - 1, (-1 : Int), Builtin.Slice.slicePlaces (((n : Nat) : Int) - 1) (-1) (-1))) _ _ s
  have e : Builtin.Slice.slicePlaces (((n : Nat) : Int) - 1) (-1) (-1) = n := by
    unfold Builtin.Slice.slicePlaces
    rw [if_neg (by decide)]
    by_cases g : ((n : Nat) : Int) - 1 > -1
    · rw [if_pos g, show (- -1 : Int) = 1 by decide, Int.ediv_one]
      omega
    · rw [if_neg g]
      omega
  rw [e]
  exact wpAny_pure h
theorem fm_congr {α β : Type} {f g : α → Option β} : ∀ {l : List α}, (∀ x ∈ l, f x = g x) → l.filterMap f = l.filterMap g
  | [], _ => rfl
  | x :: r, h => by
    rw [List.filterMap_cons, List.filterMap_cons, h x List.mem_cons_self, fm_congr fun y hy => h y (List.mem_cons_of_mem _ hy)]
theorem pick_rev (xs : Array Value) : ((List.range xs.size).filterMap fun (m : Nat) => xs[(((xs.size : Nat) : Int) - 1 + (m : Int) * -1).toNat]?).toArray = xs.toList.reverse.toArray := by
  have e : (List.range xs.size).filterMap (fun (m : Nat) => xs[(((xs.size : Nat) : Int) - 1 + (m : Int) * -1).toNat]?) = ((List.range xs.size).map fun k => xs.size - 1 - k).filterMap (xs[·]?) := by
    rw [List.filterMap_map]
    refine fm_congr fun m hm => ?_
    have := List.mem_range.mp hm
    have e1 : (((xs.size : Nat) : Int) - 1 + (m : Int) * -1).toNat = xs.size - 1 - m := by omega
    rw [e1] <;> rfl
  rw [e, PySem.W.krv_range, List.filterMap_reverse, PySem.W.krv_all]
theorem getItem_tuple_rev {t sl : Addr} {items : Array Value} {vs : Value} {Q : Value → Shared → Prop} (ht : IsTup s.heap t items) (hs : s.heap.IsSliceOf sl .none .none vs) (pv : IsPart vs (some (-1)))
    (h : Q (.ref s.heap.objs.size) { s with heap := s.heap.push { cls := .type "tuple", data := .seq items.toList.reverse.toArray } })
    (hsz : items.size ≤ sizeLine) : wpAny (model prog w) A (getItem (.ref t) (.ref sl)) Q E s := by
  have htake : sizeOk (.seq items.toList.reverse.toArray) := by
    show items.toList.reverse.toArray.size ≤ sizeLine
    rw [List.size_toArray, List.length_reverse, Array.length_toList]
    exact hsz
  obtain ⟨os, hos, hcs, hds⟩ := id hs
  have hTs : s.TypeIs (.ref sl) "slice" := ⟨os, hos, hcs⟩
  unfold getItem
  try with_reducible refine wpAny_holding ?_
  first | refine wpAny_bind (wpAny_pure ?_) | skip
  refine wpAny_bind (wpAny_sequenceKey ht.typeIs (by decide) ?_)
  refine wpAny_bind (wpAny_callSpecial?_slot (name := Str.ofString "__getitem__") ht.typeIs PyProof.Rows.slot_tuple_getitem
    (wpAny_call_entry PyProof.Rows.slot_tuple_getitem ht.typeIs entry_tuple_getitem ?_ (args_tuple_getitem _ _)))
  show wpAny _ _ (Builtin.Tuple.tupleItemsOf (.ref t) >>= _) _ _ s
  refine wpAny_bind (tupleItemsOf_ ht ?_)
  refine wpAny_bind (wpAny_typeOf hTs ?_)
  rw [if_pos (by decide)]
  refine wpAny_bind (sliceApplied_rev hs pv ?_)
  have hno : ¬ (((((items.size : Nat) : Int) - 1) == 0 && (-1 : Int) == 1 && items.size == items.size) = true) := by
    intro q
    rw [Bool.and_eq_true, Bool.and_eq_true] at q
    have q1 : (-1 : Int) = 1 := eq_of_beq q.1.2
    omega
  show wpAny _ _ (if ((((items.size : Nat) : Int) - 1) == 0 && (-1 : Int) == 1 && items.size == items.size) = true then _ else _) _ _ s
  rw [if_neg hno, pick_rev]
  first
    | exact wpAny_bind (m := Builtin.Tuple.tupleExact _) (wpAny_newObj_type (wpAny_pure ⟨_, rfl, wpAny_pure h⟩) htake)
    | exact wpAny_bind (m := Builtin.Tuple.tupleExact _) (wpAny_newObj_type (wpAny_bind (wpAny_pure (wpAny_pure ⟨_, rfl, wpAny_pure h⟩))) htake)
    | exact wpAny_bind (wpAny_bind (m := Builtin.Tuple.tupleExact _) (wpAny_newObj_type (wpAny_pure (wpAny_pure ⟨_, rfl, wpAny_pure h⟩)) htake))
    | exact wpAny_bind (wpAny_bind (m := Builtin.Tuple.tupleExact _) (wpAny_newObj_type (wpAny_pure ⟨_, rfl, wpAny_pure h⟩) htake))
end
section
variable {X : Cx}
def tRevT (K : PySem.W.Frag) (te : TE) : TE := fun σ H Q => te σ H fun x H1 => ∃ a xs, x = .ref a ∧ SqT K H1 a xs ∧ ∀ p, H1 p = none → Q (.ref p) (upd H1 p (.tup xs.reverse))
theorem pe_revT {e : Expr} {te : TE} {k : Nat} {p1 p2 p3 pos : Pos} (he : PE X e te) : PE X (.Subscript e (.Slice none none (some (.UnaryOp .USub (.Constant (.int 1) k p1) p2)) p3) pos) (tRevT X.K te) := by
  refine ⟨fun pins s σ H Q I h => ?_⟩
  refine Subscript_ (thn (he.run pins s σ H _ I h) fun v s1 ⟨x, H1, I1, r1, q1⟩ => ?_)
  obtain ⟨a, xs, ex, hx, q⟩ := q1
  subst ex
  cases r1
  have hst : PO X (some (.UnaryOp .USub (.Constant (.int 1) k p1) p2)) (tPart (tUn (rU fun i => .int (-i)) (tC (.int 1)))) := po_some (pe_un un_neg pe_int)
  refine wpAny_Slice (thn (po_none.run pins s1 σ H1 (fun o H2 => o = none ∧ H2 = H1) I1 ⟨rfl, rfl⟩) fun vl s2 ⟨l, H2, I2, pl, el, e2⟩ => ?_)
  subst el e2
  refine thn (po_none.run pins s2 σ H2 (fun o H3 => o = none ∧ H3 = H2) I2 ⟨rfl, rfl⟩) fun vu s3 ⟨u, H3, I3, pu, eu, e3⟩ => ?_
  subst eu e3
  refine thn (hst.run pins s3 σ H3 (fun o H4 => o = some (-1) ∧ H4 = H3) I3 ⟨1, rfl, -1, rfl, rfl, rfl⟩) fun vs s4 ⟨o, H4, I4, ps, eo, e4⟩ => ?_
  subst eo e4
  cases pl
  cases pu
  have I5 : Inv X pins σ H4 { s4 with heap := s4.heap.push { cls := .type "slice", data := .fields #[.none, .none, vs] } } := I4.kept (t' := s4.toks) fun b ob q => Heap.get?_push_of_some _ q
  obtain ⟨its, r, ht, hz⟩ := I5.tuple hx
  have hlen := r.length
  show wpAny (model X.prog X.w) X.A (subscriptTail e (.Slice none none (some (.UnaryOp .USub (.Constant (.int 1) k p1) p2)) p3) (.ref a) (.ref s4.heap.objs.size)) (EP X pins σ Q) X.xe { s4 with heap := s4.heap.push { cls := .type "slice", data := .fields #[.none, .none, vs] } }
  refine tail_any (ops := [.ref a, .ref s4.heap.objs.size]) ht.typeIs (PyProof.Rows.slot_tuple_getitem.lookup) ?_ (by with_unfolding_all rfl)
  refine getItem_tuple_rev ht (Heap.IsSliceOf.new _ .none .none vs) ps ?_ (by rw [List.size_toArray]; omega)
  refine ⟨.ref _, _, I5.laid (t' := s4.toks) (o := .tup xs.reverse) (fun b ob q => Heap.get?_push_of_some _ q) (Nat.le_refl _) ?_, rfl, q _ (I5.hok.fresh (Nat.le_refl _))⟩
  exact ⟨by rw [List.length_reverse]; exact hz, _, r.reverse, IsTup.new _ _⟩
end
end L2
set_option Elab.async false
set_option linter.all false
set_option maxRecDepth 100000
set_option maxHeartbeats 4000000
namespace L2
open PySem PySem.Spec PyProof.Rows
section
variable {X : Cx} {pos : Pos}
def gStar1 (K : PySem.W.Frag) (g1 g4 : TG) : TG := fun v σ H Q => ∃ a x xs, v = .ref a ∧ SqL K H a (x :: xs) ∧ ∀ p, H p = none → g1 x σ (upd H p (.lst xs)) fun σ1 H1 => g4 (.ref p) σ1 H1 Q
theorem pg_star1 {e1 e4 : Expr} {g1 g4 : TG} {k : Nat} {p4 : Pos} (hc : X.calm = true) (h1 : PG X e1 g1) (h4 : PG X e4 g4)
    (hm : (assignEach [e1, .Starred e4 p4] X.env).map (·.2) = [assign e1 X.env, assign e4 X.env] := by rfl)
    (hst : (assignEach [e1, .Starred e4 p4] X.env).findIdx? (·.1) = some 1 := by rfl) (hn : (assignEach [e1, .Starred e4 p4] X.env).length = 2 := by rfl) : PG X (.Tuple [e1, .Starred e4 p4] k pos) (gStar1 X.K g1 g4) := by
  refine ⟨fun pins s σ H v u Q I r hw => ?_⟩
  obtain ⟨a, x, xs, e0, hq, hw⟩ := hw
  subst e0
  cases r
  obtain ⟨its, rv, pl, hz⟩ := I.list hq
  have hl' : s.heap.IsList a its.toArray := by
    obtain ⟨o, m, e, c, d, q⟩ := pl
    exact ⟨o, e, c, m, q⟩
  have hln : its.length = xs.length + 1 := by rw [← rv.length] <;> rfl
  rw [PyProof.Rows.assign_Tuple]
  refine wpAny_bind (wpAny_standAt ?_)
  unfold unpack
  rw [hn, hst, hm]
  have hz' : (x :: xs).length ≤ sizeLine := hz
  have hzl : its.toArray.size ≤ sizeLine := by rw [List.size_toArray, ← rv.length]; exact hz'
  refine wpAny_bind (wpAny_holding (kun_star (k := 1) (I.ok.hd hc) hl' (by rw [List.size_toArray]; omega) hzl fun h1' tk hx => ?_))
  have I1 : Inv X pins σ H { s with heap := h1', toks := tk } := I.kept (t' := tk) fun b o e => hx b o e
  have hp : H h1'.objs.size = none := I1.hok.fresh (Nat.le_refl _)
  cases rv with
  | @cons _ u1 _ us1 r1 rv =>
    have I2 : Inv X pins σ (upd H h1'.objs.size (.lst xs)) { s with heap := h1'.push { cls := .type "list", data := .seq us1.toArray }, toks := tk } :=
      I1.laid (t' := tk) (o := .lst xs) (fun b ob q => Heap.get?_push_of_some _ q) (Nat.le_refl _) ⟨by simp only [List.length_cons] at hz'; omega, _, 0, rv, Heap.get?_push_size _ rfl⟩
    show wpAny _ _ (assignInOrder _ [u1, .ref h1'.objs.size]) _ _ { s with heap := h1'.push { cls := .type "list", data := .seq us1.toArray }, toks := tk }
    refine assignInOrder_cons (thn (h1.run pins _ σ _ _ _ _ I2 r1 (hw _ hp)) fun _ s1 ⟨σ1, H1, J1, q1⟩ => ?_)
    refine assignInOrder_cons (thn (h4.run pins s1 σ1 H1 (.ref h1'.objs.size) (.ref h1'.objs.size) _ J1 rfl q1) fun _ s4 ⟨σ4, H4, J4, q4⟩ => ?_)
    exact assignInOrder_nil ⟨σ4, H4, J4, q4⟩
end
def entsOf : List DictEntry → List (Str × Addr) → Bool
  | [], [] => true
  | e :: es, k :: r => e.key.isStr k.1 && (e.val == .ref k.2) && entsOf es r
  | _, _ => false
def DictK (K : PySem.W.Frag) (w : World) (a : Addr) (l : List (Str × Addr)) : Prop := ∃ es n, K.lookup a = some ⟨.type "dict", none, .dict es n, #[]⟩ ∧ (a == sysModules) = false ∧ entsOf es.toList l = true ∧ PySem.W.KeysLit w.params es.toList
theorem ents_find {x : Str} : ∀ {es : List DictEntry} {l : List (Str × Addr)}, entsOf es l = true → (es.find? fun d => Value.isStrOf x d.key).map (·.val) = (l.lookup x).map Value.ref
  | [], [], _ => rfl
  | [], _ :: _, h => by cases h
  | _ :: _, [], h => by cases h
  | e :: es, k :: r, h => by
    unfold entsOf at h
    rw [Bool.and_eq_true, Bool.and_eq_true] at h
    obtain ⟨⟨h1, h2⟩, h3⟩ := h
    obtain ⟨k, f⟩ := k
    have ev : e.val = .ref f := eq_of_beq h2
    have ih := ents_find (x := x) h3
    have hk : e.key.isStr k = true := h1
    have hx : Value.isStrOf x e.key = (x == k) := by
      rw [PySem.W.isStr_of] at hk
      cases ek : e.key with
      | str z t =>
        rw [ek] at hk
        have e1 : z = k := by
          have : (z == k) = true := hk
          exact eq_of_beq this
        show (z == x) = (x == k)
        rw [e1]
        by_cases q : k = x
        · rw [q]
        · have q2 : ¬ x = k := fun z => q z.symm
          rw [beq_eq_false_iff_ne.mpr q, beq_eq_false_iff_ne.mpr q2]
      | _ => rw [ek] at hk; cases hk
    rw [List.find?_cons, List.lookup_cons, hx]
    cases x == k with
    | true => show some e.val = some (Value.ref f); rw [ev]
    | false => exact ih
section
variable {X : Cx}
theorem dictK_map {pins : List (Addr × Obj)} {σ : St} {H : Hp} {s : Shared} {a : Addr} {l : List (Str × Addr)} (I : Inv X pins σ H s) (h : DictK X.K X.w a l) : (a == sysModules) = false ∧ s.heap.MapOf (strKind X.prog X.w) a fun k => (l.lookup k).map Value.ref := by
  obtain ⟨es, n, h1, h2, h3, h4⟩ := h
  refine ⟨h2, ?_⟩
  have hm := PySem.W.mapOf_K (prog := X.prog) (w := X.w) I.kIn h1 h4
  have e : (fun k => findBy Value.isStrOf es k) = fun k => (l.lookup k).map Value.ref := by
    funext x
    obtain ⟨es⟩ := es
    rw [← ents_find h3]
    unfold findBy
    rw [List.find?_toArray]
  rw [← e]
  exact hm
def rInDK (K : PySem.W.Frag) (w : World) : R2 := fun x y H Q => ∃ z p l, x = .str z ∧ y = .ref p ∧ DictK K w p l ∧ Q (.bl (l.lookup z).isSome) H
theorem op_inDK : OpR X (compareOp .In) (rInDK X.K X.w) := by
  intro pins s σ H x y v u Q I rx ry h
  obtain ⟨z, p, l, rfl, rfl, hd, q⟩ := h
  obtain ⟨t, rfl⟩ := (show ∃ t, v = Value.str z t from rx)
  obtain rfl : u = Value.ref p := ry
  obtain ⟨h1, hm⟩ := dictK_map I hd
  refine wpAny_in_of (strKind_is X.prog X.w z t) h1 hm ?_
  rw [Option.isSome_map]
  exact ⟨.bl (l.lookup z).isSome, H, I.tok _, rfl, q⟩
def rIxDK (K : PySem.W.Frag) (w : World) : R2 := fun x y H Q => ∃ z p l f, x = .ref p ∧ y = .str z ∧ DictK K w p l ∧ l.lookup z = some f ∧ Q (.ref f) H
theorem ix_dk : IxR X (rIxDK X.K X.w) := by
  intro value slice pins s σ H x y v u Q I rx ry h hs
  obtain ⟨z, p, l, f, rfl, rfl, hd, hf, q⟩ := h
  obtain rfl : v = Value.ref p := rx
  obtain ⟨t, rfl⟩ := ry
  obtain ⟨h1, hm⟩ := dictK_map I hd
  exact tail_any hm.typeIs slot_dict_getitem.lookup (wpAny_getItem_of (v := Value.ref f) (strKind_is X.prog X.w z t) hm (by rw [hf] <;> rfl) ⟨.ref f, H, I.tok _, rfl, q⟩) hs
end
def eqs (k : Str) (v : Value) : Bool := match v with
  | .str n _ => n == k
  | _ => false
theorem eqs_gives {k : Str} {t : Tok} : ∀ {us : List Value} {ns : List Str}, Vals (ns.map V.str) us → ∀ y ∈ us, MeetsSeq.EqGives y (.str k t) (eqs k y)
  | [], [], .nil => fun y hy => by cases hy
  | _ :: _, n :: ns, .cons h r => fun y hy => by
    obtain ⟨t', rfl⟩ := (show ∃ t, _ = Value.str n t from h)
    rcases List.mem_cons.mp hy with e | e
    · rw [e]
      exact eqGives_str n k t' t
    · exact eqs_gives r y e
theorem erase_mapS : ∀ (l : List Str) (j : Nat), (l.map V.str).eraseIdx j = (l.eraseIdx j).map V.str
  | [], j => by simp
  | a :: r, 0 => by simp
  | a :: r, j + 1 => by
    have ih := erase_mapS r j
    simp [ih]
theorem first_atS : ∀ {ns : List Str} {k : Str}, k ∈ ns → ∃ j, j < ns.length ∧ ns[j]? = some k ∧ (∀ i, i < j → ns[i]? ≠ some k) ∧ ns.eraseIdx j = ns.erase k
  | [], k, h => absurd h (by simp)
  | a :: r, k, h => by
    by_cases e : a = k
    · refine ⟨0, Nat.succ_pos _, by rw [e] <;> rfl, fun i hi => absurd hi (Nat.not_lt_zero _), ?_⟩
      rw [e, List.erase_cons_head] <;> rfl
    · have hr : k ∈ r := by
        rcases List.mem_cons.mp h with z | z
        · exact absurd z.symm e
        · exact z
      obtain ⟨j, h1, h2, h3, h4⟩ := first_atS hr
      refine ⟨j + 1, Nat.succ_lt_succ h1, h2, fun i hi => ?_, ?_⟩
      · cases i with
        | zero =>
          intro z
          exact e (Option.some.inj z)
        | succ i => exact h3 i (Nat.lt_of_succ_lt_succ hi)
      · rw [List.erase_cons_tail (by rw [beq_iff_eq]; exact e), ← h4] <;> rfl
theorem vals_at : ∀ {ns : List Str} {us : List Value}, Vals (ns.map V.str) us → ∀ {j : Nat} {k : Str}, ns[j]? = some k → ∃ t, us[j]? = some (Value.str k t)
  | [], [], .nil, j, k, h => by simp at h
  | n :: ns, _ :: _, .cons h r, 0, k, e => by
    obtain ⟨t', rfl⟩ := (show ∃ t, _ = Value.str n t from h)
    cases (show some n = some k from e)
    exact ⟨t', rfl⟩
  | n :: ns, _ :: _, .cons h r, j + 1, k, e => vals_at r (show ns[j]? = some k from e)
section
variable {X : Cx}
def rRemS : V → List V → Hp → VK → Prop := fun x xs H Q => ∃ (l : Addr) (ns : List Str) (k : Str), x = .ref l ∧ xs = [.str k] ∧ H l = some (.lst (ns.map V.str)) ∧ k ∈ ns ∧ Q .non (upd H l (.lst ((ns.erase k).map V.str)))
theorem mt_removeS : MtM X "list.remove" rRemS := by
  intro pins s σ H x xs v us Q I rx rxs h
  obtain ⟨l, ns, k, rfl, rfl, hH, hk, q⟩ := h
  obtain ⟨j, _, hj, hno, he⟩ := first_atS hk
  cases rx
  obtain ⟨u, rfl, ru⟩ := rxs.one
  obtain ⟨t, rfl⟩ := ru
  obtain ⟨z, its, n, r, hl, e⟩ := I.lstM hH
  rw [List.length_map] at hl z
  have hjn : j < ns.length := (List.getElem?_eq_some_iff.mp hj).1
  have hjl : j < its.toArray.size := by rw [List.size_toArray]; omega
  refine call_meets PySem.F.slot_list_remove ⟨_, e, rfl⟩ PySem.F.entry_list_remove (PySem.F.args_list_remove_2 _ _)
    (MeetsSeq.list_remove l its.toArray n (.str k t) (eqs k) (fun y hy => eqs_gives r y (by simpa using hy)) j hjl ?_ ?_ (by rw [List.size_toArray]; omega)) ⟨e, ?_⟩
  · obtain ⟨tj, hjt⟩ := vals_at r hj
    obtain ⟨h1, h2⟩ := List.getElem?_eq_some_iff.mp hjt
    have e1 : its.toArray[j] = .str k tj := by simpa using h2
    rw [e1]
    exact beq_self_eq_true k
  · intro m hm hmj
    have hmn : m < ns.length := by omega
    obtain ⟨tm, hmt⟩ := vals_at r (List.getElem?_eq_getElem hmn)
    obtain ⟨h1, h2⟩ := List.getElem?_eq_some_iff.mp hmt
    have e1 : its.toArray[m] = .str ns[m] tm := by simpa using h2
    rw [e1]
    refine beq_eq_false_iff_ne.mpr fun e2 => hno m hmj ?_
    rw [List.getElem?_eq_getElem hmn, e2]
  · have rr := r.eraseIdx j
    rw [erase_mapS] at rr
    rw [← he] at q
    refine ⟨.non, _, I.lset (its' := its.eraseIdx j) (t' := s.toks) hH e ?_ rr ?_, rfl, q⟩
    · show its.toArray.eraseIdxIfInBounds j = (its.eraseIdx j).toArray
      rw [List.eraseIdxIfInBounds_toArray]
    · have z2 := len_erase ns j
      rw [List.length_map]
      omega
end
end L2
set_option Elab.async false
set_option linter.all false
set_option maxRecDepth 100000
set_option maxHeartbeats 4000000
namespace L2
open PySem PySem.Spec PyProof.Rows
section
variable {X : Cx}
theorem op_mulS1 : OpR X (binaryOp .Mult) (fun x y H Q => ∃ (i : Str) (k : Bool), x = .str i ∧ y = .int (if k = true then 1 else 0) ∧ Q (.str (if k = true then i else Str.empty)) H) := by
  intro pins s σ H x y v u Q I rx ry h
  obtain ⟨i, k, rfl, rfl, q⟩ := h
  obtain ⟨t, rfl⟩ := rx
  obtain ⟨t', rfl⟩ := ry
  cases k with
  | false => exact PySem.P.mul_str_none (by decide) (by decide) ⟨.str Str.empty, H, I.tok _, ⟨_, rfl⟩, q⟩
  | true =>
    refine PySem.P.mul_str (by decide) (fun _ h => ?_) (fun _ h => ?_) ?_
    · cases h
    · cases h
    · exact ⟨.str i, H, I, ⟨_, rfl⟩, q⟩
end
end L2
set_option Elab.async false
set_option linter.all false
set_option maxRecDepth 100000
set_option maxHeartbeats 4000000
namespace PySem
open PySem.Spec PyProof.Rows HandSPX
section
variable {prog : Program} {w : World} {A : Around} {E : Value → Shared → Prop} {R : Result → Shared → Prop} {h : Heap} {g : Array GenState} {d : Drawn} {t : Nat} {os : OsState}
variable {nm q : Str} {C N : Addr} {bs bm bmB : List Value} {hdct : Bool} {sn : List Str} {sub : List Value} {ab : Bool} {col : Option Bool} {dd : Option Addr} {k0 k1 k2 k3 k5 : Option Value} {B newId initId : String}
theorem pf_check_new (F : ExcBaseFacts B newId initId bmB) (hT : ∀ X : String, bm.contains (.type X) = bmB.contains (.type X)) {us : List Value} {kw : List (Str × Value)} {Q : Unit → Shared → Prop}
    (hC : h.get? C = some (excClassObj nm q C N bs bm hdct sn sub ab col dd k0 k1 k2 k3 k5 newId)) (hq : Q () ⟨h, g, d, t, os⟩) : wpAny (model prog w) A (checkBuiltinCall newId ⟨.ref C :: us, kw⟩) Q E ⟨h, g, d, t, os⟩ := by
  have hB : (Value.ref C :: bm).contains (.type B) = true := by rw [List.contains_cons, hT, F.hasB, Bool.or_true]
  have hst := F.noStar
  simp only [checkBuiltinCall, F.newKind, F.newSplit, F.newRow]
  repeat (first | refine wpAny_loadPart_at hC ?_ | (refine wpAny_isSubtype_exc hC ?_; rw [hB]) | refine wpAny_staticBase_exc hC ?_ | refine wpAny_madeBy_exc hC ?_ | simp only [bne_self_eq_false, Bool.false_eq_true, if_false] | wp_step)
  exact hq
theorem pf_new (F : ExcBaseFacts B newId initId bmB) (hT : ∀ X : String, bm.contains (.type X) = bmB.contains (.type X)) {us : List Value} {kw : List (Str × Value)}
    (hC : h.get? C = some (excClassObj nm q C N bs bm hdct sn sub ab col dd k0 k1 k2 k3 k5 newId)) (hus : us.length ≤ sizeLine)
    (hq : R (.ok (.ret (.ref (h.objs.size + 1)))) ⟨(h.push { cls := .type "tuple", data := .seq us.toArray }).push { cls := .ref C, data := .fields #[.ref h.objs.size, .none, .none, .none, .bool false, .none] }, g, d, t, os⟩) :
    codeAny (model prog w) A (.builtin newId ⟨.ref C :: us, kw⟩) R ⟨h, g, d, t, os⟩ := by
  have hends := F.ends
  have hB : (Value.ref C :: bm).contains (.type B) = true := by rw [List.contains_cons, hT, F.hasB, Bool.or_true]
  have hA : (Value.ref C :: bm).contains (.type "AttributeError") = false := by rw [List.contains_cons, hT, F.noAttr]; rfl
  have hN : (Value.ref C :: bm).contains (.type "NameError") = false := by rw [List.contains_cons, hT, F.noName]; rfl
  refine codeAny_builtinAt F.entry ?_
  unfold Builtin.«BaseException.__new__»
  refine wpAt_bind ?_
  show wpAt _ _ _ (stack >>= _) _ _ _
  refine wpAt_bind (wpAt_stack fun p below => wpAt_of_wpAny ?_)
  wp_walk
  refine wpAt_of_wpAny ?_
  rw [F.owner]
  repeat (first | with_reducible refine wpAny_madeHere_exc F.canon hC ?_ | with_reducible refine wpAny_loadPart_at hC ?_ | (with_reducible refine wpAny_isSubtype_exc hC ?_; first | rw [hB] | rw [hA] | rw [hN]) | wp_step)
  show R _ _
  rw [Heap.size_push]
  exact hq
theorem pf_type_call (F : ExcBaseFacts B newId initId bmB) (hT : ∀ X : String, bm.contains (.type X) = bmB.contains (.type X)) {us : List Value} {kw : List (Str × Value)} {fv : Value} {Q : Fin → Shared → Prop}
    (hC : h.get? C = some (excClassObj nm q C N bs bm hdct sn sub ab col dd k0 k1 k2 k3 k5 newId))
    (hi : W.Looks (model prog w) h (typeLookup (.ref C) "__init__") (some fv)) (hb : ∀ self, W.Looks (model prog w) h (bindSpecial fv self) (fv, [self])) (hus : us.length ≤ sizeLine)
    (hq : codeAny (model prog w) A (.call fv ⟨.ref (h.objs.size + 1) :: us, kw⟩)
      (fun r s2 => match r with | .ok (.ret v) => v = .none ∧ Q (.done (.ret (.ref (h.objs.size + 1)))) s2 | .ok _ => False | .error e => E e s2)
      ⟨(h.push (W.kdv_tup us)).push (excO C h.objs.size), g, d, t, os⟩) :
    wpAny (model prog w) A (Builtin.«type.__call__» ⟨.ref C :: us, kw⟩) Q E ⟨h, g, d, t, os⟩ := by
  repeat (first | with_reducible refine wpAny_loadPart_at hC ?_ | with_reducible refine wpAny_madeBy_exc hC ?_ | wp_step)
  refine codeAny_call_builtin_code (Code.quiet_builtin _ F.quiet) (pf_check_new F hT hC ?_)
  refine pf_new F hT hC hus ?_
  show wpAny _ _ _ _ _ _
  have k : ∀ b o, h.get? b = some o → ((h.push (W.kdv_tup us)).push (excO C h.objs.size)).get? b = some o := fun b o e => Heap.get?_push_of_some _ (Heap.get?_push_of_some _ e)
  have hC1 := k _ _ hC
  have hget : ((h.push (W.kdv_tup us)).push (excO C h.objs.size)).get? (h.objs.size + 1) = some (excO C h.objs.size) := by heap_get
  have hcC : (Value.ref C :: bm).contains (.ref C) = true := by simp
  have i1 := hi.keeps k
  have b1 := (hb (.ref (h.objs.size + 1))).keeps k
  unfold isInstance
  repeat (first | with_reducible refine wpAny_loadPart_at hget ?_ | (with_reducible refine wpAny_isSubtype_exc hC1 ?_; rw [hcC]) | wp_step)
  show wpAny _ _ (typeLookup (.ref C) _) _ _ _
  refine i1.at (wpAny_holding (wpAny_bind (b1.at ?_)))
  refine wpAny_bind (wpAny_call (codeAny_mono hq fun r s2 z => ?_))
  rcases r with e | (v | _ | _ | _) <;> first | exact z | exact z.elim | skip
  obtain ⟨rfl, z⟩ := z
  first
    | exact wpAny_pure (wpAny_pure z)
    | (wp_walk; exact z)
theorem pf_call_own (F : ExcBaseFacts B newId initId bmB) (hT : ∀ X : String, bm.contains (.type X) = bmB.contains (.type X)) {us : List Value} {kw : List (Str × Value)} {fv : Value}
    (hC : h.get? C = some (excClassObj nm q C N bs bm hdct sn sub ab col dd k0 k1 k2 k3 k5 newId))
    (hi : W.Looks (model prog w) h (typeLookup (.ref C) "__init__") (some fv)) (hb : ∀ self, W.Looks (model prog w) h (bindSpecial fv self) (fv, [self])) (hus : us.length ≤ sizeLine)
    (hq : codeAny (model prog w) (A.under (.builtin "type.__call__" ⟨.ref C :: us, kw⟩)) (.call fv ⟨.ref (h.objs.size + 1) :: us, kw⟩) (W.InitBack (h.objs.size + 1) R) ⟨(h.push (W.kdv_tup us)).push (excO C h.objs.size), g, d, t, os⟩) :
    codeAny (model prog w) A (.call (.ref C) ⟨us, kw⟩) R ⟨h, g, d, t, os⟩ := by
  have f1 := tc_lookup
  have f2 := tc_bind (.ref C)
  have hTy : (⟨h, g, d, t, os⟩ : Shared).TypeIs (.ref C) "type" := ⟨_, hC, rfl⟩
  refine codeAny_of_tree ?_
  show wpAny _ _ (callAny (.ref C) _) _ _ _
  repeat (any_goals (first | assumption | with_reducible refine wpAny_loadPart_at hC ?_ | wp_step))
  refine ⟨rfl, ?_⟩
  refine codeAny_call_builtin_at (Code.quiet_builtin _ (by decide +kernel)) entry_typeCall (wpAny_check_type_call_sub hC (pf_type_call F hT hC hi hb hus ?_))
  refine codeAny_mono hq fun r s2 z => ?_
  rcases r with e | (v | _ | _ | _) <;> exact z
end
end PySem
namespace L2
open PySem PySem.Spec PyProof.Rows
section
variable {X : Cx} {CX : CXT} {k : Nat} {C fI : Addr} {fd : FuncData} {ps ks : List Str} {sp : Sp} {x : Str} {p pos : Pos} {e : Expr} {es : List Expr} {kws : List Keyword} {t tk : TA}
variable {gf : List Value → List Value → List Value} {gV : List V → List V → List V}
def tMkV (C : Addr) (sp : Sp) (t : TA) : TE := fun σ H Q => t σ H fun vs H1 => vs.length ≤ 1000 ∧ ∀ a, H1 a = none → sp (.ref a :: vs) (upd H1 a (exo a C none)) (fun u H2 => u = .non ∧ Q (.ref a) H2) (fun _ _ _ => False)
theorem run_mkV {pins : List (Addr × Obj)} {σ : St} {H1 : Hp} {s1 : Shared} {Q : VK} {us ws : List Value} (T : OexC X.K C) (iC : PySem.W.findIn X.K (.ref C) "__init__" = some (some (.ref fI))) (tI : PySem.W.typeIn X.K (.ref fI) = some (.type "function"))
    (F1 : FnOk X.prog X.w X.K X.mg X.base CX k fI fd ps sp) (hr : Room (k + 1) X.A) (hx : Passes CX X (fun _ _ _ => False)) (I1 : Inv X pins σ H1 s1) (hus : us.length ≤ sizeLine) (all : Addr → List Value) (vv : Addr → List V)
    (hb : ∀ (s : Shared) (a : Addr), X.K.In s.heap → H1 a = none → BindsTo s fd ⟨.ref a :: us, ks.zip ws⟩ (ps.zip (all a))) (r2 : ∀ a, Vals (vv a) (all a))
    (q : ∀ a, H1 a = none → sp (vv a) (upd H1 a (exo a C none)) (fun u H2 => u = .non ∧ Q (.ref a) H2) (fun _ _ _ => False)) :
    wpAny (model X.prog X.w) X.A (call (.ref C) us (ks.zip ws)) (EP X pins σ Q) X.xe s1 := by
  obtain ⟨nm, q0, N, bs, bm, sn, sub, ab, col, dd, k0, k1, k2, k3, k5, hC, hbm⟩ := T.cls
  obtain ⟨hp, g, dr, tk, os⟩ := s1
  have hsz : hp.objs.size ≤ hp.objs.size + 1 := Nat.le_succ _
  have hq := q (hp.objs.size + 1) (I1.hok.fresh hsz)
  have kk : ∀ b o, hp.get? b = some o → ((hp.push (PySem.W.kdv_tup us)).push (PySem.HandSPX.excO C hp.objs.size)).get? b = some o := fun b o e => Heap.get?_push_of_some _ (Heap.get?_push_of_some _ e)
  have hget : ((hp.push (PySem.W.kdv_tup us)).push (PySem.HandSPX.excO C hp.objs.size)).get? (hp.objs.size + 1) = some (PySem.HandSPX.excO C hp.objs.size) := by heap_get
  have I2 : Inv X pins σ (upd H1 (hp.objs.size + 1) (exo (hp.objs.size + 1) C none)) ⟨(hp.push (PySem.W.kdv_tup us)).push (PySem.HandSPX.excO C hp.objs.size), g, dr, tk, os⟩ :=
    I1.laid (t' := tk) (a := hp.objs.size + 1) (o := exo (hp.objs.size + 1) C none) (h' := (hp.push (PySem.W.kdv_tup us)).push (PySem.HandSPX.excO C hp.objs.size)) kk hsz (exo_ok hget)
  refine wpAny_call (PySem.pf_call_own F.excBase_ValueError (fun Y => PySem.HandSPX.refsVE_contains Y bm hbm) (I1.kIn _ _ hC) (PySem.W.looks_findIn I1.kIn iC) (fun self => PySem.W.bind_fn I1.kIn self tI) hus
    (codeAny_mono (F1.run _ X.stack _ _ ⟨Value.ref (hp.objs.size + 1) :: us, ks.zip ws⟩ (all (hp.objs.size + 1)) _ _ (fun _ _ _ => False) (hr.make C us (ks.zip ws)) (I2.env0.make C us (ks.zip ws)) (hb _ _ I2.kIn (I1.hok.fresh hsz)) (r2 _) hq) fun r s2 hq2 => ?_))
  cases r with
  | error er => exact hx pins σ _ _ er s2 I2 hq2
  | ok fl =>
    cases fl with
    | ret u =>
      obtain ⟨v, H3, I3, rv, ev, q3⟩ := I2.after hq2
      subst ev
      exact ⟨rv, ⟨V.ref (hp.objs.size + 1), H3, I3, rfl, q3⟩⟩
    | next => exact False.elim hq2
    | brk => exact False.elim hq2
    | cont => exact False.elim hq2
theorem pe_mkV (T : OexC X.K C) (iC : PySem.W.findIn X.K (.ref C) "__init__" = some (some (.ref fI))) (tI : PySem.W.typeIn X.K (.ref fI) = some (.type "function"))
    (F1 : FnOk X.prog X.w X.K X.mg X.base CX k fI fd ps sp) (hr : Room (k + 1) X.A) (hb : Binds X.K fd ps []) (hx : Passes CX X (fun _ _ _ => False)) (hg : Gl X x) (hm : X.mg x = some (.ref C)) (ha : PA X (e :: es) t)
    (hdb : (x == ("__debug__" : Str)) = false := by decide) (he : starEach (e :: es) X.env = (false, eval e X.env) :: starEach es X.env := by rfl) (hpl : (backTo pos (starEach es X.env)).any (·.1) = false := by rfl) :
    PE X (.Call (.Name x p) (e :: es) [] pos) (tMkV C sp t) := by
  refine ⟨fun pins s σ H Q I h => ?_⟩
  refine wpAny_Call_Name_kw (ld_glob I hg hm ?_ hdb)
  refine PySem.W.callWith_K (h₀ := X.base) I.ok.mod.kin T.kC (thn (ha.run pos pins s σ H _ I h) fun us s1 ⟨vs, H1, I1, r1, hz, q1⟩ => ⟨I1.kIn, ?_⟩) he hpl
  have hl : ∀ a, (Value.ref a :: us).length = ps.length := fun a => by
    have e1 := F1.len _ _ _ _ (q1 (s1.heap.objs.size) (I1.hok.fresh (Nat.le_refl _)))
    rw [← e1]
    show us.length + 1 = vs.length + 1
    rw [r1.length]
  refine run_mkV (ks := []) (ws := []) T iC tI F1 hr hx I1 (by show us.length ≤ _; rw [← r1.length, sizeLine_eq]; omega) (fun a => .ref a :: us) (fun a => .ref a :: vs) (fun s a X0 _ => ?_) (fun a => .cons rfl r1) q1
  have b := hb s (.ref a :: us) X0 (by rw [List.append_nil]; exact hl a)
  rw [List.append_nil] at b
  exact b
def tMkVK (C : Addr) (sp : Sp) (gV : List V → List V → List V) (tk : TA) : TE := fun σ H Q => tk σ H fun zs H1 => ∀ a, H1 a = none → sp (gV [.ref a] zs) (upd H1 a (exo a C none)) (fun u H2 => u = .non ∧ Q (.ref a) H2) (fun _ _ _ => False)
theorem pe_mkVK (T : OexC X.K C) (iC : PySem.W.findIn X.K (.ref C) "__init__" = some (some (.ref fI))) (tI : PySem.W.typeIn X.K (.ref fI) = some (.type "function"))
    (F1 : FnOk X.prog X.w X.K X.mg X.base CX k fI fd ps sp) (hr : Room (k + 1) X.A) (hb : KBinds X.K fd ps ks gf gV) (hx : Passes CX X (fun _ _ _ => False)) (hg : Gl X x) (hm : X.mg x = some (.ref C)) (hkw : PK X kws tk)
    (hdb : (x == ("__debug__" : Str)) = false := by decide) (hall : (backToKw pos (keywordEach kws X.env)).all (·.1.isSome) = true := by rfl) (hks : (backToKw pos (keywordEach kws X.env)).filterMap (·.1) = ks := by rfl)
    (hpl : ((backTo pos (starEach [] X.env)).any (·.1) || (backToKw pos (keywordEach kws X.env)).any (·.1.isNone)) = false := by rfl) :
    PE X (.Call (.Name x p) [] kws pos) (tMkVK C sp gV tk) := by
  refine ⟨fun pins s σ H Q I h => ?_⟩
  refine wpAny_Call_Name_kw (ld_glob I hg hm ?_ hdb)
  refine PySem.W.callWith_KW0 (first := []) (h₀ := X.base) I.ok.mod.kin T.kC hall (thn (hkw.run pos pins s σ H _ I h) fun ws s1 ⟨zs, H1, I1, rz, q1⟩ => ⟨I1.kIn, ?_⟩) hpl
  rw [hks]
  have r2 : ∀ a, Vals (gV [.ref a] zs) (gf [.ref a] ws) := fun a => hb.rel (.cons rfl .nil) rz
  refine run_mkV (us := []) T iC tI F1 hr hx I1 (Nat.zero_le _) (fun a => gf [.ref a] ws) (fun a => gV [.ref a] zs) (fun s a X0 ha => hb.to s [.ref a] ws X0 ?_) r2 q1
  rw [← (r2 a).length]
  exact F1.len _ _ _ _ (q1 a ha)
def tMkP (C : Addr) (t : TA) : TE := fun σ H Q => t σ H fun vs H1 => vs.length ≤ 1000 ∧ ∀ a, H1 a = none → Q (.ref a) (upd H1 a (exo a C none))
theorem pe_mkP (T : OexC X.K C) (iC : PySem.W.findIn X.K (.ref C) "__init__" = some (some (.builtin "ValueError.__init__"))) (hg : Gl X x) (hm : X.mg x = some (.ref C)) (ha : PA X (e :: es) t)
    (hdb : (x == ("__debug__" : Str)) = false := by decide) (he : starEach (e :: es) X.env = (false, eval e X.env) :: starEach es X.env := by rfl) (hpl : (backTo pos (starEach es X.env)).any (·.1) = false := by rfl) :
    PE X (.Call (.Name x p) (e :: es) [] pos) (tMkP C t) := by
  refine ⟨fun pins s σ H Q I h => ?_⟩
  refine wpAny_Call_Name_kw (ld_glob I hg hm ?_ hdb)
  refine PySem.W.callWith_K (h₀ := X.base) I.ok.mod.kin T.kC (thn (ha.run pos pins s σ H _ I h) fun us s1 ⟨vs, H1, I1, r1, hz, q1⟩ => ⟨I1.kIn, ?_⟩) he hpl
  obtain ⟨nm, q0, N, bs, bm, sn, sub, ab, col, dd, k0, k1, k2, k3, k5, hC, hbm⟩ := T.cls
  obtain ⟨hp, g, dr, tk, os⟩ := s1
  have hus : us.length ≤ sizeLine := by rw [← r1.length, sizeLine_eq]; omega
  have kk : ∀ b o, hp.get? b = some o → ((hp.push (PySem.W.kdv_tup us)).push (PySem.HandSPX.excO C hp.objs.size)).get? b = some o := fun b o e => Heap.get?_push_of_some _ (Heap.get?_push_of_some _ e)
  have hget : ((hp.push (PySem.W.kdv_tup us)).push (PySem.HandSPX.excO C hp.objs.size)).get? (hp.objs.size + 1) = some (PySem.HandSPX.excO C hp.objs.size) := by heap_get
  refine wpAny_call (PySem.pf_call_own (fv := .builtin "ValueError.__init__") F.excBase_ValueError (fun Y => PySem.HandSPX.refsVE_contains Y bm hbm) (I1.kIn _ _ hC) (PySem.W.looks_findIn I1.kIn iC) (fun self A' Q' E' s' _ q' => wpAny_of_eq (F.excBase_ValueError.init.bind self) q') hus
    (PySem.HandSPX.init_base F.excBase_ValueError (fun Y => PySem.HandSPX.refsVE_contains Y bm hbm) (kk _ _ (I1.kIn _ _ hC)) hget hus fun h2 t1 k2 he2 => ?_))
  have hlt : ∀ b o, hp.get? b = some o → b ≠ hp.objs.size + 1 := fun b o e => Nat.ne_of_lt (Nat.lt_succ_of_lt (Heap.lt_size e))
  refine ⟨rfl, V.ref (hp.objs.size + 1), upd H1 (hp.objs.size + 1) (exo (hp.objs.size + 1) C none), ?_, rfl, q1 _ (I1.hok.fresh (Nat.le_succ _))⟩
  exact I1.laid (t' := tk) (fun b o e => k2 b o (hlt b o e) (kk b o e)) (Nat.le_succ _) (exo_ok he2)
def tXv (K : PySem.W.Frag) (f : Str) (te : TE) : TE := fun σ H Q => te σ H fun x H1 => ∃ (a C d : Addr) (fs : List (Str × V)) (v : V), x = .ref a ∧ XfC K C ∧ PySem.W.findIn K (.ref C) f = some none ∧ H1 a = some (exo a C (some d)) ∧ H1 d = some (exd d fs) ∧ fs.lookup f = some v ∧ Q v H1
theorem pe_xv {te : TE} {f : Str} (he : PE X e te) (hb : attributeBase e f X.env (eval e X.env) = eval e X.env := by rfl) : PE X (.Attribute e f pos) (tXv X.K f te) := by
  refine ⟨fun pins s σ H Q I h => ?_⟩
  refine attr_of hb (thn (he.run pins s σ H _ I h) fun u s1 hh => ?_)
  obtain ⟨x, H1, I1, rx, a, C, d, fs, v, ex, T, hno, ha, hd, l, q⟩ := hh
  subst ex
  obtain rfl : u = Value.ref a := rx
  obtain ⟨t1, hoe⟩ := exo_at I1.hok ha
  obtain ⟨mA, hns, hr⟩ := exd_at I1.hok hd
  obtain ⟨od, ho, hl⟩ := lookIn_ns hns
  obtain ⟨u, hu, ru⟩ := RelO.some_of (v := v) (o := mA f) (by rw [← l]; exact hr f)
  have J : PySem.W.InstAt s1.heap a _ C (some od) := ⟨hoe, rfl, rfl, ho⟩
  exact HandSPX.exc_get I1.kIn J T.ga T.gg T.exC (PySem.W.findObj_own T.hdC hno rfl (by rw [hl, hu])) (handed_of ru) ⟨v, H1, I1.tok _, ru, q⟩
def rIsV (K : PySem.W.Frag) : List V → Hp → VK → Prop := fun xs H Q => ∃ (a C : Addr) (c : V) (cv : Value) (b : Bool), xs = [.ref a, c] ∧ ExcC K C ∧ (∀ u, RelV c u → u = cv) ∧ (H a = some (exo a C none) ∨ ∃ d fs, H a = some (exo a C (some d)) ∧ H d = some (exd d fs)) ∧ PySem.W.kitOne K (.ref C) cv = some b ∧ Q (.bl b) H
theorem call_isV : CallR X (.builtin "isinstance") (rIsV X.K) := by
  intro pins s σ H xs us Q I r h
  obtain ⟨a, C, c, cv, b, rfl, E1, hcv, ho, hk, q⟩ := h
  obtain ⟨u1, u2, rfl, r1, r2⟩ := vals2 r
  cases r1
  have ec := hcv _ r2
  subst ec
  rcases ho with ho | ⟨d, fs, ho, hd⟩
  · obtain ⟨t1, hoe⟩ := exo_at I.hok ho
    have J : PySem.W.InstAt s.heap a _ C none := ⟨hoe, rfl, rfl, trivial⟩
    exact PySem.W.kia_one (PySem.W.handS_kitx_exc E1.hg E1.hk E1.hs E1.hd E1.ha E1.hn E1.ht E1.hm) I.kIn J hk (fun z => nomatch z) fun tk => ⟨.bl b, H, I.kept (t' := tk) fun _ _ z => z, rfl, q⟩
  · obtain ⟨t1, hoe⟩ := exo_at I.hok ho
    obtain ⟨mA, hns, _⟩ := exd_at I.hok hd
    obtain ⟨od, hod, _⟩ := lookIn_ns hns
    have J : PySem.W.InstAt s.heap a _ C (some od) := ⟨hoe, rfl, rfl, hod⟩
    exact PySem.W.kia_one (PySem.W.pf_kitx E1) I.kIn J hk (fun z => nomatch z) fun tk => ⟨.bl b, H, I.kept (t' := tk) fun _ _ z => z, rfl, q⟩
end
def kbGr : List Value → List Value → List Value
  | [u], [y, z] => [u, z, y]
  | _, _ => []
def kbVr : List V → List V → List V
  | [u], [y, z] => [u, z, y]
  | _, _ => []
theorem kb_ofr {K : PySem.W.Frag} {x qual : Str} {st : Stmt} {f : Addr} {fd : FuncData} {ps ks : List Str} (F : Fun K x qual st f fd) (hp : ps.length = 3)
    (h : ∀ (kV doc pm : Value) (an : Option Addr) (cdv ct : Value) (u y z : Value), bindArgs (PySem.W.fnOf x qual (defArgs st) (defBody st) (defScope st) .none kV doc pm an cdv ct) ⟨[u], ks.zip [y, z]⟩ = pure (ps.zip [u, z, y])) : KBinds K fd ps ks kbGr kbVr := by
  obtain ⟨oc, od, kV, doc, pm, an, cdv, ct, osl, rfl, lk, hcd⟩ := F.ex
  constructor
  · intro s us ws _ hl
    match us, ws, hl with
    | [u], [y, z], _ => exact .of_eq (h kV doc pm an cdv ct u y z)
    | [], _, hl => rw [hp] at hl; cases hl
    | [_], [], hl => rw [hp] at hl; cases hl
    | [_], [_], hl => rw [hp] at hl; cases hl
    | [_], _ :: _ :: _ :: _, hl => rw [hp] at hl; cases hl
    | _ :: _ :: _, _, hl => rw [hp] at hl; cases hl
  · intro vs us zs ws r1 r2
    match vs, us, zs, ws, r1, r2 with
    | [_], [_], [_, _], [_, _], .cons a .nil, .cons b (.cons c .nil) => exact .cons a (.cons c (.cons b .nil))
    | [], [], _, _, .nil, _ => exact .nil
    | [_], [_], [], [], .cons _ .nil, .nil => exact .nil
    | [_], [_], [_], [_], .cons _ .nil, .cons _ .nil => exact .nil
    | [_], [_], _ :: _ :: _ :: _, _ :: _ :: _ :: _, .cons _ .nil, .cons _ (.cons _ (.cons _ _)) => exact .nil
    | _ :: _ :: _, _ :: _ :: _, _, _, .cons _ (.cons _ _), _ => exact .nil
def subTab (K : PySem.W.Frag) (cs : List Addr) : Bool := (List.range cs.length).all fun i => (List.range cs.length).all fun j => decide (PySem.W.subIn K (.ref (cs.getD i 0)) (.ref (cs.getD j 0)) = some (decide (i = j)))
theorem subTab_at {K : PySem.W.Frag} {cs : List Addr} (h : subTab K cs = true) {i j : Nat} (hi : i < cs.length) (hj : j < cs.length) : PySem.W.subIn K (.ref (cs.getD i 0)) (.ref (cs.getD j 0)) = some (decide (i = j)) :=
  of_decide_eq_true (List.all_eq_true.mp (List.all_eq_true.mp h i (List.mem_range.mpr hi)) j (List.mem_range.mpr hj))
end L2
set_option Elab.async false
set_option linter.all false
set_option maxRecDepth 100000
set_option maxHeartbeats 4000000
namespace L2
open PySem PySem.Spec PyProof.Rows
section
variable {X : Cx} {o : Expr} {ta : TE} {f : Str} {pos : Pos}
def gFld (K : PySem.W.Frag) (ta : TE) (f : Str) : TG := fun v σ H Q => ta σ H fun x H1 => ∃ a C dx fs, x = .ref a ∧ H1 a = some (.ins C dx fs) ∧ Cls K C ∧ NoAttr K C f ∧ fs.length < 1000 ∧ Q σ (upd H1 a (.ins C dx (putF f v fs)))
theorem pg_fld (ha : PE X o ta) : PG X (.Attribute o f pos) (gFld X.K ta f) := by
  refine ⟨fun pins s σ H v u Q I r h => ?_⟩
  show wpAny _ _ (do
    let ov ← holding [u] (eval o X.env)
    standAt pos.atName
    holding [u, ov] (setAttr ov f u)
    release [u, ov] []) _ _ _
  refine wpAny_bind (wpAny_holding (thn (ha.run pins s σ H _ I h) fun ov s1 ⟨x, H1, I1, rx, a, C, dx, fs, ex, ea, c, n, l, q⟩ => ?_))
  subst ex
  obtain rfl : ov = Value.ref a := rx
  refine wpAny_bind (wpAny_standAt (wpAny_bind (wpAny_holding ?_)))
  exact setattr_ok I1 ea c n l r fun s3 I3 => wpAny_release ⟨σ, _, I3, q⟩
end
def tXfW (K : PySem.W.Frag) (a : Addr) (cls : Value) (d : Option Addr) (f : Str) (te : TE) : TE := fun σ H Q => te σ H fun x H1 => x = .ref a ∧ ∃ (C dd : Addr) (fs : List (Str × V)) (v : V), cls = .ref C ∧ XfC K C ∧ PySem.W.findIn K (.ref C) f = some none ∧ d = some dd ∧ H1 dd = some (.xd fs) ∧ fs.lookup f = some v ∧ Q v H1
theorem pe_xfW {X : Cx} {a : Addr} {oe : Obj} {cls : Value} {d : Option Addr} {pn : List (Addr × Obj)} {e : Expr} {te : TE} {pos : Pos} {n : Str}
    (hz : Zc cls d oe) (hf : ∃ vs, oe.data = .fields vs) (he : PE (X.suite a ((a, oe) :: pn)) e te) (hb : attributeBase e n X.env (eval e X.env) = eval e X.env := by rfl) :
    PE (X.suite a ((a, oe) :: pn)) (.Attribute e n pos) (tXfW X.K a cls d n te) := by
  refine ⟨fun pins s σ H Q I h => (?_ : wpAny _ _ _ _ _ _)⟩
  have key : ∀ (x : V) (H1 : Hp) (s1 : Shared) (u : Value), Inv (X.suite a ((a, oe) :: pn)) pins σ H1 s1 → RelV x u → (x = .ref a ∧ ∃ (C dd : Addr) (fs : List (Str × V)) (v : V), cls = .ref C ∧ XfC X.K C ∧ PySem.W.findIn X.K (.ref C) n = some none ∧ d = some dd ∧ H1 dd = some (.xd fs) ∧ fs.lookup n = some v ∧ Q v H1) →
      wpAny (model X.prog X.w) (X.suite a ((a, oe) :: pn)).A (getAttr u n true) (EP (X.suite a ((a, oe) :: pn)) pins σ Q) (X.suite a ((a, oe) :: pn)).xe s1 := by
    rintro x H1 s1 u I1 rx ⟨rfl, C, dd, fs, v, rfl, T, hno, rfl, ea, l, q⟩
    obtain rfl : u = Value.ref a := rx
    obtain ⟨ha, _⟩ := I1.pin (a, oe) (List.mem_append_left _ List.mem_cons_self)
    obtain ⟨vs, hd⟩ := hf
    have hx : ObjOk X.prog X.w H1 s1.heap dd (.xd fs) := I1.hok dd _ ea
    obtain ⟨mA, hns, hr⟩ := hx
    obtain ⟨od, ho, hl⟩ := lookIn_ns hns
    obtain ⟨u, hu, ru⟩ := RelO.some_of (v := v) (o := mA n) (by rw [← l]; exact hr n)
    have J : PySem.W.InstAt s1.heap a oe C (some od) := ⟨ha, hz.1, by unfold PySem.W.notCls; rw [hd] <;> rfl, by rw [hz.2]; exact ho⟩
    exact HandSPX.exc_get I1.kIn J T.ga T.gg T.exC (PySem.W.findObj_own T.hdC hno rfl (by rw [hl, hu])) (handed_of ru) ⟨v, H1, I1.tok _, ru, q⟩
  exact attr_of hb (thn (he.run pins s σ H _ I h) fun u s1 ⟨x, H1, I1, rx, q⟩ => key x H1 s1 u I1 rx q)
theorem pmk_P {X : Cx} {C : Addr} {x m : Str} {j : Nat} {p p2 pos : Pos} (T : OexC X.K C) (iC : PySem.W.findIn X.K (.ref C) "__init__" = some (some (.builtin "ValueError.__init__"))) (hg : Gl X x) (hm : X.mg x = some (.ref C))
    (hdb : (x == ("__debug__" : Str)) = false := by decide) : PMk X (.Call (.Name x p) [.Constant (.str m) j p2] [] pos) (fun _ H Q => Q (.ref C) none H) := by
  intro pins s σ H Q I h
  refine wpAny_Call_Name_kw (ld_glob I hg hm ?_ hdb)
  have ha : PA X [.Constant (.str m) j p2] (tCons (tC (.str m)) tNil) := pa_cons pe_str pa_nil
  refine PySem.W.callWith_K (h₀ := X.base) I.ok.mod.kin T.kC (thn (ha.run pos pins s σ H (fun vs H1 => vs = [V.str m] ∧ H = H1) I ⟨rfl, rfl⟩) fun us s1 hh => ?_)
  obtain ⟨vs, H1, I1, r1, ev, eH⟩ := hh
  subst ev
  rw [← eH] at I1
  refine ⟨I1.kIn, ?_⟩
  obtain ⟨nm, q0, N, bs, bm, sn, sub, ab, col, dd, k0, k1, k2, k3, k5, hC, hbm⟩ := T.cls
  obtain ⟨hp, g, dr, tk, os⟩ := s1
  have hus : us.length ≤ sizeLine := by rw [← r1.length, sizeLine_eq]; exact Nat.le_of_ble_eq_true rfl
  have kk : ∀ b o, hp.get? b = some o → ((hp.push (PySem.W.kdv_tup us)).push (PySem.HandSPX.excO C hp.objs.size)).get? b = some o := fun b o e => Heap.get?_push_of_some _ (Heap.get?_push_of_some _ e)
  have hget : ((hp.push (PySem.W.kdv_tup us)).push (PySem.HandSPX.excO C hp.objs.size)).get? (hp.objs.size + 1) = some (PySem.HandSPX.excO C hp.objs.size) := by heap_get
  refine wpAny_call (PySem.pf_call_own (fv := .builtin "ValueError.__init__") F.excBase_ValueError (fun Y => PySem.HandSPX.refsVE_contains Y bm hbm) (I1.kIn _ _ hC) (PySem.W.looks_findIn I1.kIn iC) (fun self A' Q' E' s' _ q' => wpAny_of_eq (F.excBase_ValueError.init.bind self) q') hus
    (PySem.HandSPX.init_base F.excBase_ValueError (fun Y => PySem.HandSPX.refsVE_contains Y bm hbm) (kk _ _ (I1.kIn _ _ hC)) hget hus fun h2 t1 k2 he2 => ?_))
  have hlt : ∀ b o, hp.get? b = some o → b ≠ hp.objs.size + 1 := fun b o e => Nat.ne_of_lt (Nat.lt_succ_of_lt (Heap.lt_size e))
  refine ⟨rfl, hp.objs.size + 1, _, _, ⟨hp, g, dr, tk, os⟩, H, .ref C, none, rfl, I1, fun b o e => k2 b o (hlt b o e) (kk b o e), ?_, he2, ⟨rfl, rfl⟩, rfl, rfl, I1.hok.fresh (Nat.le_succ _), rfl, I1.bare, raises_own T.exC T.tyC, h⟩
  exact Heap.get?_none_of_le (Nat.le_succ _)
def rEqSame (K : PySem.W.Frag) : R2 := fun x y H Q => ∃ p r xs, x = .ref p ∧ y = .ref r ∧ SqL K H p xs ∧ SqL K H r xs ∧ (∀ z ∈ xs, ∃ a, z = V.ref a) ∧ Q (.bl true) H
theorem vals_refsW : ∀ {xs : List V} {us vs : List Value}, Vals xs us → Vals xs vs → (∀ z ∈ xs, ∃ a, z = V.ref a) → us = vs
  | _, _, _, .nil, .nil, _ => rfl
  | _, _, _, .cons r1 t1, .cons r2 t2, h => by
    obtain ⟨a, rfl⟩ := h _ List.mem_cons_self
    cases r1
    cases r2
    rw [vals_refsW t1 t2 fun z hz => h z (List.mem_cons_of_mem _ hz)]
theorem op_eqSame {X : Cx} (hu : X.A.units < cLine) : OpR X (compareOp .Eq) (rEqSame X.K) := by
  intro pins s σ H x y v u Q I rx ry h
  obtain ⟨p, r, xs, rfl, rfl, h1, h2, h3, q⟩ := h
  cases rx
  cases ry
  obtain ⟨its, r1, pl1, _⟩ := I.list h1
  obtain ⟨jts, r2, pl2, _⟩ := I.list h2
  have e := vals_refsW r1 r2 h3
  subst e
  refine SeqAt.eq_listAt (e := fun _ => true) pl1.isList pl2.isList rfl hu (fun j h1 h2 => SeqAt.EqAt.same _) ⟨.bl true, H, I, ?_, q⟩
  show Value.bool _ = Value.bool true
  congr 1
  exact List.all_eq_true.mpr fun _ _ => rfl
section
variable {X : Cx} {CX : CXT} {n n2 : Nat} {C f C2 f2 : Addr} {fd fd2 : FuncData} {ps ps2 : List Str} {sp sp2 : Sp} {E : XK}
theorem eq_own2 {A : Around} {pins : List (Addr × Obj)} {σ : St} {H : Hp} {s : Shared} {a p dx dx2 : Addr} {fs fs2 : List (Str × V)} (G : FnOk X.prog X.w X.K X.mg X.base CX n f2 fd2 ps2 sp2) (hs : PySem.W.findIn X.K (.ref C2) "__eq__" = some (some (.ref f2))) (hf : PySem.W.isFn X.K (.ref f2) = true)
    (hsub : PySem.W.subIn X.K (.ref C) (.ref C2) = some false) (hb : Binds X.K fd2 ps2 []) (hx : Passes CX X E) (hr : Room n A) (hfr : A.frames = X.A.frames) (I : Inv X pins σ H s) (ne : p ≠ a) (ha : H a = some (.ins C dx fs)) (hp : H p = some (.ins C2 dx2 fs2))
    (q : sp2 [.ref p, .ref a] H (fun v H' => ∃ r, v = .bl r ∧ r = false ∧ H' = H) E) :
    wpAny (model X.prog X.w) A (eqBool (.ref p) (.ref a)) (fun r s' => r = false ∧ Inv X pins σ H s') X.xe s := by
  obtain ⟨mB, J', _⟩ := ins_get I.hok ha
  obtain ⟨mA, J, _⟩ := ins_get I.hok hp
  obtain ⟨od, J, _⟩ := J.look
  obtain ⟨od', J', _⟩ := J'.look
  obtain ⟨m, hF⟩ := I.fr
  refine eqB (by simp [ne]) nofun ?_
  refine PySem.W.cmp_K (op := .Eq) (tb := .ref C) hr.units0 hF I.ok.mod.kin J J'.type (by unfold PySem.W.notFirst; rw [hsub]; simp) hs hf ?_
  refine wpAny_mono (run_eqO (A := A) (y := .ref a) G hb hr hfr (fun e s' c => hx pins σ H s e s' I c) I rfl q) (fun w s' z => ?_) fun _ _ e => e
  obtain ⟨r, H', rfl, I', rfl, rfl⟩ := z
  exact ⟨false, rfl, rfl, I'⟩
def rInO2 (K : PySem.W.Frag) (C C2 : Addr) (sp sp2 : Sp) (E : XK) : R2 := fun x y H Q => ∃ a dx fs p xs, x = .ref a ∧ y = .ref p ∧ H a = some (.ins C dx fs) ∧ H p = some (.lst xs) ∧
  (∀ z ∈ xs, (Odd K H z ∧ sp [.ref a, z] H (fun v H' => ∃ r, v = .bl r ∧ r = false ∧ H' = H) E) ∨ ∃ p2 dx2 fs2, z = .ref p2 ∧ p2 ≠ a ∧ H p2 = some (.ins C2 dx2 fs2) ∧ sp2 [.ref p2, .ref a] H (fun v H' => ∃ r, v = .bl r ∧ r = false ∧ H' = H) E) ∧ Q (.bl false) H
theorem op_inO2 (G : FnOk X.prog X.w X.K X.mg X.base CX n f fd ps sp) (hs : PySem.W.findIn X.K (.ref C) "__eq__" = some (some (.ref f))) (hf : PySem.W.isFn X.K (.ref f) = true)
    (m1 : PySem.W.subIn X.K (.ref C) (.type "str") = some false) (m2 : PySem.W.subIn X.K (.ref C) (.type "int") = some false) (m3 : PySem.W.subIn X.K (.ref C) (.type "NoneType") = some false) (m4 : PySem.W.subIn X.K (.ref C) (.type "list") = some false)
    (hb : Binds X.K fd ps []) (hx : Passes CX X E) (hr : Room (n + 1) X.A)
    (G2 : FnOk X.prog X.w X.K X.mg X.base CX n2 f2 fd2 ps2 sp2) (hs2 : PySem.W.findIn X.K (.ref C2) "__eq__" = some (some (.ref f2))) (hf2 : PySem.W.isFn X.K (.ref f2) = true) (hsub : PySem.W.subIn X.K (.ref C) (.ref C2) = some false) (hb2 : Binds X.K fd2 ps2 []) (hr2 : Room (n2 + 1) X.A) : OpR X (compareOp .In) (rInO2 X.K C C2 sp sp2 E) := by
  intro pins s σ H x y v u Q I rx ry h
  obtain ⟨a, dx, fs, p, xs, rfl, rfl, ha, hp, ht, q⟩ := h
  cases rx
  cases ry
  have hl : InI X.prog X.w X.A X.xe p (.ref a) xs.length (fun s' => Inv X pins σ H s') := fun s' I' => by
    obtain ⟨its, rv, hl, _⟩ := I'.list (.inl (.inl hp))
    obtain ⟨⟨c0, d0, da0, sl0⟩, n0, hl, e1, e2, e3⟩ := hl
    simp only at e1 e2 e3
    subst e1 e2 e3
    refine ⟨its.toArray, n0, sl0, ?_, by simp [rv.length], fun i h1 => ?_⟩
    · exact hl
    · have k1 : i < xs.length := by rw [rv.length]; simpa using h1
      have g1 : its[i]? = some its.toArray[i] := by
        have h1' : i < its.length := by simpa using h1
        rw [List.getElem?_eq_getElem h1'] <;> simp
      obtain ⟨u, hu, ru⟩ := rv.get (List.getElem?_eq_getElem k1)
      rw [g1] at hu
      rw [Option.some.inj hu]
      rcases ht _ (List.getElem_mem k1) with ⟨o, e⟩ | ⟨p2, dx2, fs2, ez, ne, hp2, e⟩
      · exact eq_odd G hs hf m1 m2 m3 m4 hb hx hr.in1 rfl I' ru ha o e
      · rw [ez] at ru
        obtain rfl : u = Value.ref p2 := ru
        exact eq_own2 G2 hs2 hf2 hsub hb2 hx hr2.in1 rfl I' ne ha hp2 e
  obtain ⟨items, n0, sl0, hl0, _, _⟩ := hl s I
  have hT : s.TypeIs (.ref p) "list" := ⟨_, hl0, rfl⟩
  show wpAny (model X.prog X.w) X.A (compareOp .In (.ref a) (.ref p)) _ _ _
  unfold compareOp
  refine wpAny_bind (wpAny_contains_slot hT F.slot_list_contains (GQ.call_here F.slot_list_contains hT F.entry_list_contains (F.args_list_contains_2 _ _) (in_listG (R := wants (fun r s' => wpAny (model X.prog X.w) X.A (truthy r) _ X.xe s') X.xe) p (.ref a) xs.length _ hl (fun s' I' => ?_) I)))
  exact wpAny_truthy_bool (wpAny_pure ⟨.bl false, H, I', rfl, q⟩)
end
section
variable {X : Cx} {CX : CXT} {k : Nat} {f C : Addr} {fd : FuncData} {ps : List Str} {sp : Sp} {dvs : List V} {E : St → XK} {m : Str} {pos apos : Pos} {e o : Expr} {es : List Expr} {ta : TE} {t : TA}
theorem run_fnSD {pins : List (Addr × Obj)} {σ : St} {H : Hp} {s : Shared} {Q : VK} {us : List Value} {vs : List V} (F : FnOk X.prog X.w X.K X.mg X.base CX k f fd ps sp) (hr : Room k X.A) (hb : ∃ ds, Vals dvs ds ∧ Binds X.K fd ps ds) (hx : PassesAt CX X σ (E σ))
    (I : Inv X pins σ H s) (r : Vals vs us) (h : sp (vs ++ dvs) H Q (E σ)) : wpAny (model X.prog X.w) X.A (call (.ref f) us) (EP X pins σ Q) X.xe s := by
  obtain ⟨ds, hd, hb⟩ := hb
  have r2 : Vals (vs ++ dvs) (us ++ ds) := r.append hd
  have hl : (us ++ ds).length = ps.length := by rw [← r2.length]; exact F.len _ _ _ _ h
  refine wpAny_call (codeAny_mono (F.run X.A X.stack s H ⟨us, []⟩ (us ++ ds) (vs ++ dvs) Q (E σ) hr I.env0 (hb s us I.kIn hl) r2 h) fun r s' hq => ?_)
  cases r with
  | error e => exact hx pins H s e s' I hq
  | ok fl =>
    cases fl with
    | ret u => exact I.after hq
    | next => exact False.elim hq
    | brk => exact False.elim hq
    | cont => exact False.elim hq
def tMethWD (C : Addr) (m : Str) (sp : Sp) (dvs : List V) (E : St → XK) (ta : TE) (t : TA) : TE := fun σ H Q => ta σ H fun x H1 => ∃ a dx fs, x = .ref a ∧ H1 a = some (.ins C dx fs) ∧ fs.lookup m = none ∧ t σ H1 fun vs H2 => sp (x :: (vs ++ dvs)) H2 Q (E σ)
theorem pe_methWD {pl : Sem Bool} (he : PE X o ta) (c : Cls X.K C) (hm : Meth X.K C m f) (F : FnOk X.prog X.w X.K X.mg X.base CX k f fd ps sp) (hr : Room k X.A) (hb : ∃ ds, Vals dvs ds ∧ Binds X.K fd ps ds) (hx : ∀ σ, PassesAt CX X σ (E σ)) (ha : PA X (e :: es) t)
    (hst : starEach (e :: es) X.env = (false, eval e X.env) :: starEach es X.env := by rfl) (hpl : (backTo pos (starEach es X.env)).any (·.1) = false := by rfl)
    (ht : eval (.Call (.Attribute o m apos) (e :: es) [] pos) X.env = (do
      let ov ← eval o X.env
      standAt apos.atName
      let (f, first) ← holding [ov] (getMethod ov m pl)
      callWith pos f first (backTo pos (starEach (e :: es) X.env)) (backToKw pos (keywordEach [] X.env))) := by rfl) :
    PE X (.Call (.Attribute o m apos) (e :: es) [] pos) (tMethWD C m sp dvs E ta t) := by
  refine ⟨fun pins s σ H Q I h => ?_⟩
  refine PySem.W.methodCall_KW (pl := pl) (thn (he.run pins s σ H _ I h) fun u s1 ⟨x, H1, I1, rx, a, dx, fs, ex, ea, l, q⟩ => ?_) ht
  subst ex
  obtain rfl : u = Value.ref a := rx
  refine getmeth_ok I1 ea c hm l ?_
  refine PySem.W.callWith_K (first := [.ref a]) (h₀ := X.base) I.ok.mod.kin hm.kp (thn (ha.run pos pins s1 σ H1 _ I1 q) fun us s2 ⟨vs, H2, I2, r, q2⟩ => ⟨I2.kIn, ?_⟩) hst hpl
  exact run_fnSD (us := .ref a :: us) (vs := .ref a :: vs) F hr hb (hx σ) I2 (.cons rfl r) q2
theorem pe_methW0 {pl : Sem Bool} (he : PE X o ta) (c : Cls X.K C) (hm : Meth X.K C m f) (F : FnOk X.prog X.w X.K X.mg X.base CX k f fd ps sp) (hr : Room k X.A) (hb : Binds X.K fd ps []) (hx : ∀ σ, PassesAt CX X σ (E σ))
    (ht : eval (.Call (.Attribute o m apos) [] [] pos) X.env = (do
      let ov ← eval o X.env
      standAt apos.atName
      let (f, first) ← holding [ov] (getMethod ov m pl)
      callWith pos f first (backTo pos (starEach [] X.env)) (backToKw pos (keywordEach [] X.env))) := by rfl) :
    PE X (.Call (.Attribute o m apos) [] [] pos) (tMethW C m sp E ta tNil) := by
  refine ⟨fun pins s σ H Q I h => ?_⟩
  refine PySem.W.methodCall_KW (pl := pl) (thn (he.run pins s σ H _ I h) fun u s1 ⟨x, H1, I1, rx, a, dx, fs, ex, ea, l, q⟩ => ?_) ht
  subst ex
  obtain rfl : u = Value.ref a := rx
  refine getmeth_ok I1 ea c hm l ?_
  exact PySem.W.callWith_K0 (first := [.ref a]) I1.kIn hm.kp (run_fnS (us := [.ref a]) (vs := [.ref a]) F hr hb (hx σ) I1 (.cons rfl .nil) q)
end
theorem FunD.okX {P : Program} {w : World} {K : PySem.W.Frag} {mg : Str → Option Value} {base : Heap} {x qual : Str} {params : Arguments} {body : List Stmt} {scope : Scope} {dvs : List V} {kws : List (Str × V)} {f : Addr} {fd : FuncData}
    {N ps : List Str} {k : Nat} {sp : Sp} (F : FunD K x qual params body scope dvs kws f fd) (S : FnScope N ps scope) (len : ∀ vs H Q E, sp vs H Q E → vs.length = ps.length)
    (hbody : ∀ (cdv : Value) (A : Around) (outer : List Env) (s : Shared) (H : Hp) (vs : List V) (Q : VK) (E : XK), Room k (A.deeper (envOfC qual scope s.heap.objs.size f cdv)) → sp vs H Q E →
      ∃ t, PSs (cxOf (CX P w) P w K mg base N qual scope f cdv A outer s H E) body t ∧ t { nx := fun _ H' => Q .non H', rt := Q } (start N vs) H) : FnOk P w K mg base (CX P w) (k + 1) f fd ps sp := F.ok S len hbody
def tNevE : TE := fun _ _ _ => False
theorem pe_never {X : Cx} {e : Expr} : PE X e tNevE := ⟨fun _ _ _ _ _ _ h => h.elim⟩
def rIsWN (K : PySem.W.Frag) (a : Addr) (cls : Value) (d : Option Addr) : List V → Hp → VK → Prop := fun xs H Q => ∃ (D : Addr) (c : V) (cv : Value) (b : Bool), cls = .ref D ∧ ExcC K D ∧ xs = [.ref a, c] ∧ (∀ u, RelV c u → u = cv) ∧ (d = none ∨ ∃ dd fs, d = some dd ∧ H dd = some (.xd fs)) ∧ PySem.W.kitOne K (.ref D) cv = some b ∧ Q (.bl b) H
theorem call_isWN {X : Cx} {a : Addr} {oe : Obj} {cls : Value} {d : Option Addr} {pn : List (Addr × Obj)} (hz : Zc cls d oe) (hf : ∃ vs, oe.data = .fields vs) : CallR (X.suite a ((a, oe) :: pn)) (.builtin "isinstance") (rIsWN X.K a cls d) := by
  intro pins s σ H xs us Q I r h
  obtain ⟨D, c, cv, b, rfl, E1, rfl, hcv, hd, hk, q⟩ := h
  obtain ⟨u1, u2, rfl, r1, r2⟩ := vals2 r
  cases r1
  have ec := hcv _ r2
  subst ec
  obtain ⟨hget, _⟩ := I.pin (a, oe) (List.mem_append.mpr (.inl List.mem_cons_self))
  obtain ⟨vs, hv⟩ := hf
  rcases hd with rfl | ⟨dd, fs, rfl, hx⟩
  · have J : PySem.W.InstAt s.heap a oe D none := ⟨hget, hz.1, by unfold PySem.W.notCls; rw [hv] <;> rfl, by rw [hz.2]; exact trivial⟩
    exact PySem.W.kia_one (PySem.W.handS_kitx_exc E1.hg E1.hk E1.hs E1.hd E1.ha E1.hn E1.ht E1.hm) I.kIn J hk (fun z => nomatch z) fun tk => ⟨.bl b, H, I.kept (t' := tk) fun _ _ z => z, rfl, q⟩
  · obtain ⟨mA, ⟨od, es, ep, ho, _⟩, _⟩ := (show ObjOk X.prog X.w H s.heap dd (.xd fs) from I.hok dd _ hx)
    have J : PySem.W.InstAt s.heap a oe D (some od) := ⟨hget, hz.1, by unfold PySem.W.notCls; rw [hv] <;> rfl, by rw [hz.2]; exact ho⟩
    exact PySem.W.kia_one (PySem.W.pf_kitx E1) I.kIn J hk (fun z => nomatch z) fun tk => ⟨.bl b, H, I.kept (t' := tk) fun _ _ z => z, rfl, q⟩
end L2
set_option Elab.async false
set_option linter.all false
set_option maxRecDepth 100000
set_option maxHeartbeats 4000000
namespace Pf
open PySem L2
structure Ad where
  k_HOWS : Addr
  k_POCKETS_rowtext : Addr
  k_HOLDERS : Addr
  k_PLAIN : Addr
  c_Table : Addr
  c_Stand : Addr
  c_Side : Addr
  c_World : Addr
  c_Pacts : Addr
  c_PactError : Addr
  c_NoWord : Addr
  c_NoPact : Addr
  c_NoHelper : Addr
  c_NoBody : Addr
  c_NoSide : Addr
  c_NoThing : Addr
  c_Closed : Addr
  c_NothingDone : Addr
  f_NoWord___init__ : Addr
  d_NoWord___init__ : FuncData
  f_NoPact___init__ : Addr
  d_NoPact___init__ : FuncData
  f_NoHelper___init__ : Addr
  d_NoHelper___init__ : FuncData
  f_NoBody___init__ : Addr
  d_NoBody___init__ : FuncData
  f_NoSide___init__ : Addr
  d_NoSide___init__ : FuncData
  f_NoThing___init__ : Addr
  d_NoThing___init__ : FuncData
  f_Table___init__ : Addr
  d_Table___init__ : FuncData
  f_Table_twin : Addr
  d_Table_twin : FuncData
  f_Stand___init__ : Addr
  d_Stand___init__ : FuncData
  f_Stand_copied : Addr
  d_Stand_copied : FuncData
  f_Stand_pacts_told : Addr
  d_Stand_pacts_told : FuncData
  f_Stand_is_own : Addr
  d_Stand_is_own : FuncData
  f_close_shelf : Addr
  d_close_shelf : FuncData
  f_shut_all : Addr
  d_shut_all : FuncData
  f_row_number : Addr
  d_row_number : FuncData
  f_jump_step : Addr
  d_jump_step : FuncData
  f_done_step : Addr
  d_done_step : FuncData
  f_throw_step : Addr
  d_throw_step : FuncData
  f_arguments : Addr
  d_arguments : FuncData
  f_one_catch : Addr
  d_one_catch : FuncData
  f_catches_of : Addr
  d_catches_of : FuncData
  f_call_step : Addr
  d_call_step : FuncData
  f_step_of : Addr
  d_step_of : FuncData
  f_steps_of : Addr
  d_steps_of : FuncData
  f_read_rows : Addr
  d_read_rows : FuncData
  f_Side___init__ : Addr
  d_Side___init__ : FuncData
  f_Side_read_body : Addr
  d_Side_read_body : FuncData
  f_Side_pacts : Addr
  d_Side_pacts : FuncData
  f_Side_number : Addr
  d_Side_number : FuncData
  f_World___init__ : Addr
  d_World___init__ : FuncData
  f_World_opened_anew : Addr
  d_World_opened_anew : FuncData
  f_World_did : Addr
  d_World_did : FuncData
  f_World_call : Addr
  d_World_call : FuncData
  v_World_call_0 : Addr
  v_World_call_1 : Addr
  f_World_let_go : Addr
  d_World_let_go : FuncData
  f_World_close : Addr
  d_World_close : FuncData
  f_World_back : Addr
  d_World_back : FuncData
  f_World_held : Addr
  d_World_held : FuncData
  f_World_shelf : Addr
  d_World_shelf : FuncData
  f_World_closed : Addr
  d_World_closed : FuncData
  f_World_broken : Addr
  d_World_broken : FuncData
  f_World_log : Addr
  d_World_log : FuncData
  f_World_story : Addr
  d_World_story : FuncData
  f_World___len__ : Addr
  d_World___len__ : FuncData
  f_World___eq__ : Addr
  d_World___eq__ : FuncData
  f_is_name : Addr
  d_is_name : FuncData
  f_Pacts___init__ : Addr
  d_Pacts___init__ : FuncData
  f_Pacts_fits_pair : Addr
  d_Pacts_fits_pair : FuncData
  f_Pacts_fits_helper : Addr
  d_Pacts_fits_helper : FuncData
  f_Pacts_words_called : Addr
  d_Pacts_words_called : FuncData
  f_Pacts_pair_of : Addr
  d_Pacts_pair_of : FuncData
  f_Pacts_names : Addr
  d_Pacts_names : FuncData
  f_Pacts_pact : Addr
  d_Pacts_pact : FuncData
  f_Pacts_laden : Addr
  d_Pacts_laden : FuncData
  f_Pacts_over : Addr
  d_Pacts_over : FuncData
  f_Pacts_errors : Addr
  d_Pacts_errors : FuncData
  f_Pacts___eq__ : Addr
  d_Pacts___eq__ : FuncData
  f_Pacts_lines_told : Addr
  d_Pacts_lines_told : FuncData
  f_helper_line : Addr
  d_helper_line : FuncData
  f__law_box : Addr
  d__law_box : FuncData
  f__law_mixed : Addr
  d__law_mixed : FuncData
  f__law_take : Addr
  d__law_take : FuncData
  f__law_name : Addr
  d__law_name : FuncData
  f__law_names : Addr
  d__law_names : FuncData
  f__law_drawn : Addr
  d__law_drawn : FuncData
  f__law_bare : Addr
  d__law_bare : FuncData
  f__law_refused : Addr
  d__law_refused : FuncData
  f__law_all_refused : Addr
  d__law_all_refused : FuncData
  f_law : Addr
  d_law : FuncData
  f_pocket_step : Addr
  d_pocket_step : FuncData
  f_use_step : Addr
  d_use_step : FuncData
  f_move_step : Addr
  d_move_step : FuncData
  f_Side___eq__ : Addr
  d_Side___eq__ : FuncData
structure Txt (w : World) (K : PySem.W.Frag) (mg : Str → Option Value) (a : Ad) : Prop where
  m_Table : mg "Table" = some (.ref a.c_Table)
  cl_Table : Cls K a.c_Table
  mk_Table : Mk K a.c_Table a.f_Table___init__
  na_Table_turns : NoAttr K a.c_Table "turns"
  na_Table_kept : NoAttr K a.c_Table "kept"
  na_Table_peak : NoAttr K a.c_Table "peak"
  m_Stand : mg "Stand" = some (.ref a.c_Stand)
  cl_Stand : Cls K a.c_Stand
  mk_Stand : Mk K a.c_Stand a.f_Stand___init__
  na_Stand_sides : NoAttr K a.c_Stand "sides"
  na_Stand_tables : NoAttr K a.c_Stand "tables"
  na_Stand_live : NoAttr K a.c_Stand "live"
  na_Stand_loaners : NoAttr K a.c_Stand "loaners"
  na_Stand_on_shelf : NoAttr K a.c_Stand "on_shelf"
  na_Stand_lent_out : NoAttr K a.c_Stand "lent_out"
  na_Stand_pile : NoAttr K a.c_Stand "pile"
  na_Stand_things : NoAttr K a.c_Stand "things"
  na_Stand_entered : NoAttr K a.c_Stand "entered"
  na_Stand_room : NoAttr K a.c_Stand "room"
  na_Stand_hands : NoAttr K a.c_Stand "hands"
  na_Stand_told : NoAttr K a.c_Stand "told"
  na_Stand_wanted : NoAttr K a.c_Stand "wanted"
  na_Stand_on_way : NoAttr K a.c_Stand "on_way"
  na_Stand_fault : NoAttr K a.c_Stand "fault"
  na_Stand_outcome : NoAttr K a.c_Stand "outcome"
  na_Stand_shut : NoAttr K a.c_Stand "shut"
  m_Side : mg "Side" = some (.ref a.c_Side)
  cl_Side : Cls K a.c_Side
  mk_Side : Mk K a.c_Side a.f_Side___init__
  oc_Side : OwnC K a.c_Side
  na_Side_deal : NoAttr K a.c_Side "deal"
  na_Side_which : NoAttr K a.c_Side "which"
  na_Side_written : NoAttr K a.c_Side "written"
  na_Side_trees : NoAttr K a.c_Side "trees"
  na_Side_row_texts : NoAttr K a.c_Side "row_texts"
  na_Side_row_places : NoAttr K a.c_Side "row_places"
  na_Side_row_steps : NoAttr K a.c_Side "row_steps"
  m_World : mg "World" = some (.ref a.c_World)
  cl_World : Cls K a.c_World
  mk_World : Mk K a.c_World a.f_World___init__
  oc_World : OwnC K a.c_World
  na_World_now : NoAttr K a.c_World "now"
  na_World_past : NoAttr K a.c_World "past"
  m_Pacts : mg "Pacts" = some (.ref a.c_Pacts)
  cl_Pacts : Cls K a.c_Pacts
  mk_Pacts : Mk K a.c_Pacts a.f_Pacts___init__
  oc_Pacts : OwnC K a.c_Pacts
  na_Pacts_kept_pairs : NoAttr K a.c_Pacts "kept_pairs"
  na_Pacts_kept_pacts : NoAttr K a.c_Pacts "kept_pacts"
  m_PactError : mg "PactError" = some (.ref a.c_PactError)
  m_NoWord : mg "NoWord" = some (.ref a.c_NoWord)
  ox_NoWord : OexC K a.c_NoWord
  xf_NoWord : XfC K a.c_NoWord
  ec_NoWord : ExcC K a.c_NoWord
  ini_NoWord : PySem.W.findIn K (.ref a.c_NoWord) "__init__" = some (some (.ref a.f_NoWord___init__))
  ti_NoWord : PySem.W.typeIn K (.ref a.f_NoWord___init__) = some (.type "function")
  na_NoWord_word : PySem.W.findIn K (.ref a.c_NoWord) "word" = some none
  m_NoPact : mg "NoPact" = some (.ref a.c_NoPact)
  ox_NoPact : OexC K a.c_NoPact
  xf_NoPact : XfC K a.c_NoPact
  ec_NoPact : ExcC K a.c_NoPact
  ini_NoPact : PySem.W.findIn K (.ref a.c_NoPact) "__init__" = some (some (.ref a.f_NoPact___init__))
  ti_NoPact : PySem.W.typeIn K (.ref a.f_NoPact___init__) = some (.type "function")
  na_NoPact_at : PySem.W.findIn K (.ref a.c_NoPact) "at" = some none
  m_NoHelper : mg "NoHelper" = some (.ref a.c_NoHelper)
  ox_NoHelper : OexC K a.c_NoHelper
  xf_NoHelper : XfC K a.c_NoHelper
  ec_NoHelper : ExcC K a.c_NoHelper
  ini_NoHelper : PySem.W.findIn K (.ref a.c_NoHelper) "__init__" = some (some (.ref a.f_NoHelper___init__))
  ti_NoHelper : PySem.W.typeIn K (.ref a.f_NoHelper___init__) = some (.type "function")
  na_NoHelper_name : PySem.W.findIn K (.ref a.c_NoHelper) "name" = some none
  m_NoBody : mg "NoBody" = some (.ref a.c_NoBody)
  ox_NoBody : OexC K a.c_NoBody
  xf_NoBody : XfC K a.c_NoBody
  ec_NoBody : ExcC K a.c_NoBody
  ini_NoBody : PySem.W.findIn K (.ref a.c_NoBody) "__init__" = some (some (.ref a.f_NoBody___init__))
  ti_NoBody : PySem.W.typeIn K (.ref a.f_NoBody___init__) = some (.type "function")
  na_NoBody_name : PySem.W.findIn K (.ref a.c_NoBody) "name" = some none
  na_NoBody_at : PySem.W.findIn K (.ref a.c_NoBody) "at" = some none
  m_NoSide : mg "NoSide" = some (.ref a.c_NoSide)
  ox_NoSide : OexC K a.c_NoSide
  xf_NoSide : XfC K a.c_NoSide
  ec_NoSide : ExcC K a.c_NoSide
  ini_NoSide : PySem.W.findIn K (.ref a.c_NoSide) "__init__" = some (some (.ref a.f_NoSide___init__))
  ti_NoSide : PySem.W.typeIn K (.ref a.f_NoSide___init__) = some (.type "function")
  na_NoSide_at : PySem.W.findIn K (.ref a.c_NoSide) "at" = some none
  m_NoThing : mg "NoThing" = some (.ref a.c_NoThing)
  ox_NoThing : OexC K a.c_NoThing
  xf_NoThing : XfC K a.c_NoThing
  ec_NoThing : ExcC K a.c_NoThing
  ini_NoThing : PySem.W.findIn K (.ref a.c_NoThing) "__init__" = some (some (.ref a.f_NoThing___init__))
  ti_NoThing : PySem.W.typeIn K (.ref a.f_NoThing___init__) = some (.type "function")
  na_NoThing_at : PySem.W.findIn K (.ref a.c_NoThing) "at" = some none
  m_Closed : mg "Closed" = some (.ref a.c_Closed)
  ox_Closed : OexC K a.c_Closed
  xf_Closed : XfC K a.c_Closed
  ec_Closed : ExcC K a.c_Closed
  ini_Closed : PySem.W.findIn K (.ref a.c_Closed) "__init__" = some (some (.builtin "ValueError.__init__"))
  m_NothingDone : mg "NothingDone" = some (.ref a.c_NothingDone)
  ox_NothingDone : OexC K a.c_NothingDone
  xf_NothingDone : XfC K a.c_NothingDone
  ec_NothingDone : ExcC K a.c_NothingDone
  ini_NothingDone : PySem.W.findIn K (.ref a.c_NothingDone) "__init__" = some (some (.builtin "ValueError.__init__"))
  ex_NoWord_NoWord : PySem.W.exmOne K (.ref a.c_NoWord) (.ref a.c_NoWord) = some true
  ex_NoHelper_NoHelper : PySem.W.exmOne K (.ref a.c_NoHelper) (.ref a.c_NoHelper) = some true
  ex_NoBody_NoBody : PySem.W.exmOne K (.ref a.c_NoBody) (.ref a.c_NoBody) = some true
  ex_NoHelper_NoBody : PySem.W.exmOne K (.ref a.c_NoHelper) (.ref a.c_NoBody) = some false
  ex_NoSide_NoSide : PySem.W.exmOne K (.ref a.c_NoSide) (.ref a.c_NoSide) = some true
  ex_NoSide_NoHelper : PySem.W.exmOne K (.ref a.c_NoSide) (.ref a.c_NoHelper) = some false
  ex_NoSide_NoThing : PySem.W.exmOne K (.ref a.c_NoSide) (.ref a.c_NoThing) = some false
  ex_NoSide_NothingDone : PySem.W.exmOne K (.ref a.c_NoSide) (.ref a.c_NothingDone) = some false
  ex_NoSide_Closed : PySem.W.exmOne K (.ref a.c_NoSide) (.ref a.c_Closed) = some false
  ex_NoHelper_NoSide : PySem.W.exmOne K (.ref a.c_NoHelper) (.ref a.c_NoSide) = some false
  ex_NoHelper_NoThing : PySem.W.exmOne K (.ref a.c_NoHelper) (.ref a.c_NoThing) = some false
  ex_NoHelper_NothingDone : PySem.W.exmOne K (.ref a.c_NoHelper) (.ref a.c_NothingDone) = some false
  ex_NoHelper_Closed : PySem.W.exmOne K (.ref a.c_NoHelper) (.ref a.c_Closed) = some false
  ex_NoThing_NoSide : PySem.W.exmOne K (.ref a.c_NoThing) (.ref a.c_NoSide) = some false
  ex_NoThing_NoHelper : PySem.W.exmOne K (.ref a.c_NoThing) (.ref a.c_NoHelper) = some false
  ex_NoThing_NoThing : PySem.W.exmOne K (.ref a.c_NoThing) (.ref a.c_NoThing) = some true
  ex_NoThing_NothingDone : PySem.W.exmOne K (.ref a.c_NoThing) (.ref a.c_NothingDone) = some false
  ex_NoThing_Closed : PySem.W.exmOne K (.ref a.c_NoThing) (.ref a.c_Closed) = some false
  ex_NothingDone_NoSide : PySem.W.exmOne K (.ref a.c_NothingDone) (.ref a.c_NoSide) = some false
  ex_NothingDone_NoHelper : PySem.W.exmOne K (.ref a.c_NothingDone) (.ref a.c_NoHelper) = some false
  ex_NothingDone_NoThing : PySem.W.exmOne K (.ref a.c_NothingDone) (.ref a.c_NoThing) = some false
  ex_NothingDone_NothingDone : PySem.W.exmOne K (.ref a.c_NothingDone) (.ref a.c_NothingDone) = some true
  ex_NothingDone_Closed : PySem.W.exmOne K (.ref a.c_NothingDone) (.ref a.c_Closed) = some false
  ex_NoSide_PactError : PySem.W.exmOne K (.ref a.c_NoSide) (.ref a.c_PactError) = some true
  ex_NoHelper_PactError : PySem.W.exmOne K (.ref a.c_NoHelper) (.ref a.c_PactError) = some true
  ex_NoThing_PactError : PySem.W.exmOne K (.ref a.c_NoThing) (.ref a.c_PactError) = some true
  ex_NothingDone_PactError : PySem.W.exmOne K (.ref a.c_NothingDone) (.ref a.c_PactError) = some true
  cs_World_Side : PySem.W.subIn K (.ref a.c_World) (.ref a.c_Side) = some false
  ks_World_Side : PySem.W.kitOne K (.ref a.c_World) (.ref a.c_Side) = some false
  F_NoWord___init__ : Fun K "__init__" "NoWord.__init__" s_NoWord___init__ a.f_NoWord___init__ a.d_NoWord___init__
  b_NoWord___init__ : Binds K a.d_NoWord___init__ ["self", "word"] []
  F_NoPact___init__ : Fun K "__init__" "NoPact.__init__" s_NoPact___init__ a.f_NoPact___init__ a.d_NoPact___init__
  b_NoPact___init__ : Binds K a.d_NoPact___init__ ["self", "at"] []
  F_NoHelper___init__ : Fun K "__init__" "NoHelper.__init__" s_NoHelper___init__ a.f_NoHelper___init__ a.d_NoHelper___init__
  b_NoHelper___init__ : Binds K a.d_NoHelper___init__ ["self", "name"] []
  F_NoBody___init__ : Fun K "__init__" "NoBody.__init__" s_NoBody___init__ a.f_NoBody___init__ a.d_NoBody___init__
  b_NoBody___init__ : Binds K a.d_NoBody___init__ ["self", "name", "at"] []
  F_NoSide___init__ : Fun K "__init__" "NoSide.__init__" s_NoSide___init__ a.f_NoSide___init__ a.d_NoSide___init__
  b_NoSide___init__ : Binds K a.d_NoSide___init__ ["self", "at"] []
  F_NoThing___init__ : Fun K "__init__" "NoThing.__init__" s_NoThing___init__ a.f_NoThing___init__ a.d_NoThing___init__
  b_NoThing___init__ : Binds K a.d_NoThing___init__ ["self", "at"] []
  F_Table___init__ : Fun K "__init__" "Table.__init__" s_Table___init__ a.f_Table___init__ a.d_Table___init__
  b_Table___init__ : Binds K a.d_Table___init__ ["self"] []
  F_Table_twin : Fun K "twin" "Table.twin" s_Table_twin a.f_Table_twin a.d_Table_twin
  b_Table_twin : Binds K a.d_Table_twin ["self"] []
  mt_Table_twin : Meth K a.c_Table "twin" a.f_Table_twin
  F_Stand___init__ : Fun K "__init__" "Stand.__init__" s_Stand___init__ a.f_Stand___init__ a.d_Stand___init__
  b_Stand___init__ : Binds K a.d_Stand___init__ ["self", "sides"] []
  F_Stand_copied : Fun K "copied" "Stand.copied" s_Stand_copied a.f_Stand_copied a.d_Stand_copied
  b_Stand_copied : Binds K a.d_Stand_copied ["self"] []
  mt_Stand_copied : Meth K a.c_Stand "copied" a.f_Stand_copied
  F_Stand_pacts_told : Fun K "pacts_told" "Stand.pacts_told" s_Stand_pacts_told a.f_Stand_pacts_told a.d_Stand_pacts_told
  b_Stand_pacts_told : Binds K a.d_Stand_pacts_told ["self"] []
  mt_Stand_pacts_told : Meth K a.c_Stand "pacts_told" a.f_Stand_pacts_told
  F_Stand_is_own : Fun K "is_own" "Stand.is_own" s_Stand_is_own a.f_Stand_is_own a.d_Stand_is_own
  b_Stand_is_own : Binds K a.d_Stand_is_own ["self", "team", "handle"] []
  mt_Stand_is_own : Meth K a.c_Stand "is_own" a.f_Stand_is_own
  F_close_shelf : Fun K "close_shelf" "close_shelf" s_close_shelf a.f_close_shelf a.d_close_shelf
  b_close_shelf : Binds K a.d_close_shelf ["stand", "team"] []
  m_close_shelf : mg "close_shelf" = some (.ref a.f_close_shelf)
  F_shut_all : Fun K "shut_all" "shut_all" s_shut_all a.f_shut_all a.d_shut_all
  b_shut_all : Binds K a.d_shut_all ["stand"] []
  m_shut_all : mg "shut_all" = some (.ref a.f_shut_all)
  F_row_number : Fun K "row_number" "row_number" s_row_number a.f_row_number a.d_row_number
  b_row_number : Binds K a.d_row_number ["word", "many"] []
  m_row_number : mg "row_number" = some (.ref a.f_row_number)
  F_jump_step : Fun K "jump_step" "jump_step" s_jump_step a.f_jump_step a.d_jump_step
  b_jump_step : Binds K a.d_jump_step ["words", "at", "many"] []
  m_jump_step : mg "jump_step" = some (.ref a.f_jump_step)
  F_done_step : Fun K "done_step" "done_step" s_done_step a.f_done_step a.d_done_step
  b_done_step : Binds K a.d_done_step ["pact", "rest"] []
  m_done_step : mg "done_step" = some (.ref a.f_done_step)
  F_throw_step : Fun K "throw_step" "throw_step" s_throw_step a.f_throw_step a.d_throw_step
  b_throw_step : Binds K a.d_throw_step ["pacts", "side", "rest"] []
  m_throw_step : mg "throw_step" = some (.ref a.f_throw_step)
  F_arguments : Fun K "arguments" "arguments" s_arguments a.f_arguments a.d_arguments
  b_arguments : Binds K a.d_arguments ["takes", "rest"] []
  m_arguments : mg "arguments" = some (.ref a.f_arguments)
  F_one_catch : Fun K "one_catch" "one_catch" s_one_catch a.f_one_catch a.d_one_catch
  m_one_catch : mg "one_catch" = some (.ref a.f_one_catch)
  F_catches_of : Fun K "catches_of" "catches_of" s_catches_of a.f_catches_of a.d_catches_of
  m_catches_of : mg "catches_of" = some (.ref a.f_catches_of)
  F_call_step : Fun K "call_step" "call_step" s_call_step a.f_call_step a.d_call_step
  m_call_step : mg "call_step" = some (.ref a.f_call_step)
  F_step_of : Fun K "step_of" "step_of" s_step_of a.f_step_of a.d_step_of
  m_step_of : mg "step_of" = some (.ref a.f_step_of)
  F_steps_of : Fun K "steps_of" "steps_of" s_steps_of a.f_steps_of a.d_steps_of
  b_steps_of : Binds K a.d_steps_of ["pacts", "name", "rows"] []
  m_steps_of : mg "steps_of" = some (.ref a.f_steps_of)
  F_read_rows : Fun K "read_rows" "read_rows" s_read_rows a.f_read_rows a.d_read_rows
  b_read_rows : Binds K a.d_read_rows ["pacts", "name", "text"] []
  m_read_rows : mg "read_rows" = some (.ref a.f_read_rows)
  F_Side___init__ : Fun K "__init__" "Side.__init__" s_Side___init__ a.f_Side___init__ a.d_Side___init__
  b_Side___init__ : Binds K a.d_Side___init__ ["self", "pacts", "number", "bodies"] []
  F_Side_read_body : Fun K "read_body" "Side.read_body" s_Side_read_body a.f_Side_read_body a.d_Side_read_body
  b_Side_read_body : Binds K a.d_Side_read_body ["self", "name"] []
  mt_Side_read_body : Meth K a.c_Side "read_body" a.f_Side_read_body
  F_Side_pacts : Fun K "pacts" "Side.pacts" s_Side_pacts a.f_Side_pacts a.d_Side_pacts
  b_Side_pacts : Binds K a.d_Side_pacts ["self"] []
  mt_Side_pacts : Meth K a.c_Side "pacts" a.f_Side_pacts
  F_Side_number : Fun K "number" "Side.number" s_Side_number a.f_Side_number a.d_Side_number
  b_Side_number : Binds K a.d_Side_number ["self"] []
  mt_Side_number : Meth K a.c_Side "number" a.f_Side_number
  F_World___init__ : Fun K "__init__" "World.__init__" s_World___init__ a.f_World___init__ a.d_World___init__
  b_World___init__ : Binds K a.d_World___init__ ["self", "near", "far"] []
  F_World_opened_anew : Fun K "opened_anew" "World.opened_anew" s_World_opened_anew a.f_World_opened_anew a.d_World_opened_anew
  b_World_opened_anew : Binds K a.d_World_opened_anew ["self"] []
  mt_World_opened_anew : Meth K a.c_World "opened_anew" a.f_World_opened_anew
  F_World_did : Fun K "did" "World.did" s_World_did a.f_World_did a.d_World_did
  b_World_did : Binds K a.d_World_did ["self", "stand"] []
  mt_World_did : Meth K a.c_World "did" a.f_World_did
  F_World_call : FunD K "call" "World.call" (defArgs s_World_call) (defBody s_World_call) (defScope s_World_call) [.ref a.v_World_call_0] [("picks", .ref a.v_World_call_1), ("most", .int 200)] a.f_World_call a.d_World_call
  b_World_call : ∃ ds, Vals [.ref a.v_World_call_0, .ref a.v_World_call_1, .int 200] ds ∧ Binds K a.d_World_call ["self", "name", "things", "picks", "most"] ds
  mt_World_call : Meth K a.c_World "call" a.f_World_call
  F_World_let_go : Fun K "let_go" "World.let_go" s_World_let_go a.f_World_let_go a.d_World_let_go
  b_World_let_go : Binds K a.d_World_let_go ["self", "thing"] []
  mt_World_let_go : Meth K a.c_World "let_go" a.f_World_let_go
  F_World_close : Fun K "close" "World.close" s_World_close a.f_World_close a.d_World_close
  b_World_close : Binds K a.d_World_close ["self"] []
  mt_World_close : Meth K a.c_World "close" a.f_World_close
  F_World_back : Fun K "back" "World.back" s_World_back a.f_World_back a.d_World_back
  b_World_back : Binds K a.d_World_back ["self"] []
  mt_World_back : Meth K a.c_World "back" a.f_World_back
  F_World_held : Fun K "held" "World.held" s_World_held a.f_World_held a.d_World_held
  b_World_held : Binds K a.d_World_held ["self"] []
  mt_World_held : Meth K a.c_World "held" a.f_World_held
  F_World_shelf : Fun K "shelf" "World.shelf" s_World_shelf a.f_World_shelf a.d_World_shelf
  b_World_shelf : Binds K a.d_World_shelf ["self", "number"] []
  mt_World_shelf : Meth K a.c_World "shelf" a.f_World_shelf
  F_World_closed : Fun K "closed" "World.closed" s_World_closed a.f_World_closed a.d_World_closed
  b_World_closed : Binds K a.d_World_closed ["self"] []
  mt_World_closed : Meth K a.c_World "closed" a.f_World_closed
  F_World_broken : Fun K "broken" "World.broken" s_World_broken a.f_World_broken a.d_World_broken
  b_World_broken : Binds K a.d_World_broken ["self"] []
  mt_World_broken : Meth K a.c_World "broken" a.f_World_broken
  F_World_log : Fun K "log" "World.log" s_World_log a.f_World_log a.d_World_log
  b_World_log : Binds K a.d_World_log ["self"] []
  mt_World_log : Meth K a.c_World "log" a.f_World_log
  F_World_story : Fun K "story" "World.story" s_World_story a.f_World_story a.d_World_story
  b_World_story : Binds K a.d_World_story ["self"] []
  mt_World_story : Meth K a.c_World "story" a.f_World_story
  F_World___len__ : Fun K "__len__" "World.__len__" s_World___len__ a.f_World___len__ a.d_World___len__
  b_World___len__ : Binds K a.d_World___len__ ["self"] []
  mt_World___len__ : Meth K a.c_World "__len__" a.f_World___len__
  F_World___eq__ : Fun K "__eq__" "World.__eq__" s_World___eq__ a.f_World___eq__ a.d_World___eq__
  b_World___eq__ : Binds K a.d_World___eq__ ["self", "other"] []
  mt_World___eq__ : Meth K a.c_World "__eq__" a.f_World___eq__
  F_is_name : Fun K "is_name" "is_name" s_is_name a.f_is_name a.d_is_name
  b_is_name : Binds K a.d_is_name ["word"] []
  m_is_name : mg "is_name" = some (.ref a.f_is_name)
  F_Pacts___init__ : Fun K "__init__" "Pacts.__init__" s_Pacts___init__ a.f_Pacts___init__ a.d_Pacts___init__
  b_Pacts___init__ : Binds K a.d_Pacts___init__ ["self", "pairs", "helpers"] []
  F_Pacts_fits_pair : Fun K "fits_pair" "Pacts.fits_pair" s_Pacts_fits_pair a.f_Pacts_fits_pair a.d_Pacts_fits_pair
  b_Pacts_fits_pair : Binds K a.d_Pacts_fits_pair ["self", "pair"] []
  mt_Pacts_fits_pair : Meth K a.c_Pacts "fits_pair" a.f_Pacts_fits_pair
  F_Pacts_fits_helper : Fun K "fits_helper" "Pacts.fits_helper" s_Pacts_fits_helper a.f_Pacts_fits_helper a.d_Pacts_fits_helper
  b_Pacts_fits_helper : Binds K a.d_Pacts_fits_helper ["self", "helper"] []
  mt_Pacts_fits_helper : Meth K a.c_Pacts "fits_helper" a.f_Pacts_fits_helper
  F_Pacts_words_called : Fun K "words_called" "Pacts.words_called" s_Pacts_words_called a.f_Pacts_words_called a.d_Pacts_words_called
  b_Pacts_words_called : Binds K a.d_Pacts_words_called ["self", "side"] []
  mt_Pacts_words_called : Meth K a.c_Pacts "words_called" a.f_Pacts_words_called
  F_Pacts_pair_of : Fun K "pair_of" "Pacts.pair_of" s_Pacts_pair_of a.f_Pacts_pair_of a.d_Pacts_pair_of
  b_Pacts_pair_of : Binds K a.d_Pacts_pair_of ["self", "word", "side"] []
  mt_Pacts_pair_of : Meth K a.c_Pacts "pair_of" a.f_Pacts_pair_of
  F_Pacts_names : Fun K "names" "Pacts.names" s_Pacts_names a.f_Pacts_names a.d_Pacts_names
  b_Pacts_names : Binds K a.d_Pacts_names ["self", "side"] []
  mt_Pacts_names : Meth K a.c_Pacts "names" a.f_Pacts_names
  F_Pacts_pact : Fun K "pact" "Pacts.pact" s_Pacts_pact a.f_Pacts_pact a.d_Pacts_pact
  b_Pacts_pact : Binds K a.d_Pacts_pact ["self", "name"] []
  mt_Pacts_pact : Meth K a.c_Pacts "pact" a.f_Pacts_pact
  F_Pacts_laden : Fun K "laden" "Pacts.laden" s_Pacts_laden a.f_Pacts_laden a.d_Pacts_laden
  mt_Pacts_laden : Meth K a.c_Pacts "laden" a.f_Pacts_laden
  F_Pacts_over : Fun K "over" "Pacts.over" s_Pacts_over a.f_Pacts_over a.d_Pacts_over
  mt_Pacts_over : Meth K a.c_Pacts "over" a.f_Pacts_over
  F_Pacts_errors : Fun K "errors" "Pacts.errors" s_Pacts_errors a.f_Pacts_errors a.d_Pacts_errors
  mt_Pacts_errors : Meth K a.c_Pacts "errors" a.f_Pacts_errors
  F_Pacts___eq__ : Fun K "__eq__" "Pacts.__eq__" s_Pacts___eq__ a.f_Pacts___eq__ a.d_Pacts___eq__
  b_Pacts___eq__ : Binds K a.d_Pacts___eq__ ["self", "other"] []
  mt_Pacts___eq__ : Meth K a.c_Pacts "__eq__" a.f_Pacts___eq__
  F_Pacts_lines_told : Fun K "lines_told" "Pacts.lines_told" s_Pacts_lines_told a.f_Pacts_lines_told a.d_Pacts_lines_told
  b_Pacts_lines_told : Binds K a.d_Pacts_lines_told ["self"] []
  mt_Pacts_lines_told : Meth K a.c_Pacts "lines_told" a.f_Pacts_lines_told
  F_helper_line : Fun K "helper_line" "helper_line" s_helper_line a.f_helper_line a.d_helper_line
  b_helper_line : Binds K a.d_helper_line ["pact"] []
  m_helper_line : mg "helper_line" = some (.ref a.f_helper_line)
  F__law_box : Fun K "_law_box" "_law_box" s__law_box a.f__law_box a.d__law_box
  b__law_box : Binds K a.d__law_box ["_law_script"] []
  m__law_box : mg "_law_box" = some (.ref a.f__law_box)
  F__law_mixed : Fun K "_law_mixed" "_law_mixed" s__law_mixed a.f__law_mixed a.d__law_mixed
  b__law_mixed : Binds K a.d__law_mixed ["_law_cell", "_law_k"] []
  m__law_mixed : mg "_law_mixed" = some (.ref a.f__law_mixed)
  F__law_take : Fun K "_law_take" "_law_take" s__law_take a.f__law_take a.d__law_take
  b__law_take : Binds K a.d__law_take ["_law_box_here", "_law_size"] []
  m__law_take : mg "_law_take" = some (.ref a.f__law_take)
  F__law_name : Fun K "_law_name" "_law_name" s__law_name a.f__law_name a.d__law_name
  b__law_name : Binds K a.d__law_name ["_law_box_here"] []
  m__law_name : mg "_law_name" = some (.ref a.f__law_name)
  F__law_names : Fun K "_law_names" "_law_names" s__law_names a.f__law_names a.d__law_names
  b__law_names : Binds K a.d__law_names ["_law_box_here", "_law_many"] []
  m__law_names : mg "_law_names" = some (.ref a.f__law_names)
  F__law_drawn : Fun K "_law_drawn" "_law_drawn" s__law_drawn a.f__law_drawn a.d__law_drawn
  b__law_drawn : Binds K a.d__law_drawn ["_law_box_here"] []
  m__law_drawn : mg "_law_drawn" = some (.ref a.f__law_drawn)
  F__law_bare : Fun K "_law_bare" "_law_bare" s__law_bare a.f__law_bare a.d__law_bare
  b__law_bare : Binds K a.d__law_bare ["_law_world"] []
  m__law_bare : mg "_law_bare" = some (.ref a.f__law_bare)
  F__law_refused : Fun K "_law_refused" "_law_refused" s__law_refused a.f__law_refused a.d__law_refused
  b__law_refused : Binds K a.d__law_refused ["_law_world", "_law_way", "_law_value"] []
  m__law_refused : mg "_law_refused" = some (.ref a.f__law_refused)
  F__law_all_refused : Fun K "_law_all_refused" "_law_all_refused" s__law_all_refused a.f__law_all_refused a.d__law_all_refused
  b__law_all_refused : Binds K a.d__law_all_refused ["_law_box_here", "_law_world", "_law_names_here"] []
  m__law_all_refused : mg "_law_all_refused" = some (.ref a.f__law_all_refused)
  F_law : Fun K "law" "law" s_law a.f_law a.d_law
  b_law : Binds K a.d_law ["_law_script"] []
  m_law : mg "law" = some (.ref a.f_law)
  F_pocket_step : Fun K "pocket_step" "pocket_step" s_pocket_step a.f_pocket_step a.d_pocket_step
  b_pocket_step : Binds K a.d_pocket_step ["words"] []
  m_pocket_step : mg "pocket_step" = some (.ref a.f_pocket_step)
  F_use_step : Fun K "use_step" "use_step" s_use_step a.f_use_step a.d_use_step
  b_use_step : Binds K a.d_use_step ["words"] []
  m_use_step : mg "use_step" = some (.ref a.f_use_step)
  F_move_step : Fun K "move_step" "move_step" s_move_step a.f_move_step a.d_move_step
  b_move_step : Binds K a.d_move_step ["words"] []
  m_move_step : mg "move_step" = some (.ref a.f_move_step)
  F_Side___eq__ : Fun K "__eq__" "Side.__eq__" s_Side___eq__ a.f_Side___eq__ a.d_Side___eq__
  b_Side___eq__ : Binds K a.d_Side___eq__ ["self", "other"] []
  mt_Side___eq__ : Meth K a.c_Side "__eq__" a.f_Side___eq__
  kb_Pacts_laden_side : KBinds K a.d_Pacts_laden ["self", "word", "side"] ["side"] (kbGn 2) (kbVn 2)
  kb_Pacts_over_side : KBinds K a.d_Pacts_over ["self", "word", "side"] ["side"] (kbGn 2) (kbVn 2)
  kb_Pacts_errors_side : KBinds K a.d_Pacts_errors ["self", "name", "side"] ["side"] (kbGn 2) (kbVn 2)
  kb_one_catch_many : KBinds K a.d_one_catch ["pacts", "side", "known", "rest", "many"] ["many"] (kbGn 4) (kbVn 4)
  kb_catches_of_many : KBinds K a.d_catches_of ["pacts", "side", "known", "rest", "many"] ["many"] (kbGn 4) (kbVn 4)
  kb_call_step_many : KBinds K a.d_call_step ["pacts", "side", "words", "many"] ["many"] (kbGn 3) (kbVn 3)
  kb_step_of_many : KBinds K a.d_step_of ["pacts", "name", "words", "at", "many"] ["many"] (kbGn 4) (kbVn 4)
  g_LETTERS_naming : ∃ t, mg "LETTERS_naming" = some (.str "abcdefghijklmnopqrstuvwxyz" t)
  g_MOST : ∃ t, mg "MOST" = some (.int 8 t)
  g_MOST_PAIRS : ∃ t, mg "MOST_PAIRS" = some (.int 6 t)
  g_MOST_HELPERS : ∃ t, mg "MOST_HELPERS" = some (.int 4 t)
  g_MOST_TAKES : ∃ t, mg "MOST_TAKES" = some (.int 3 t)
  g_MOST_THROWS : ∃ t, mg "MOST_THROWS" = some (.int 4 t)
  g_FIGURES : ∃ t, mg "FIGURES" = some (.str "0123456789" t)
  g_MOST_FIGURES : ∃ t, mg "MOST_FIGURES" = some (.int 6 t)
  g_MOST_ROWS : ∃ t, mg "MOST_ROWS" = some (.int 200 t)
  g_LEND : ∃ t, mg "LEND" = some (.str "lend" t)
  g_GIVE : ∃ t, mg "GIVE" = some (.str "give" t)
  g_HOWS : mg "HOWS" = some (.ref a.k_HOWS)
  tp_HOWS : ∀ H, SqT K H a.k_HOWS [.str "lent", .str "given"]
  g_POCKETS_rowtext : mg "POCKETS_rowtext" = some (.ref a.k_POCKETS_rowtext)
  tp_POCKETS_rowtext : ∀ H, SqT K H a.k_POCKETS_rowtext [.str "a", .str "b", .str "c", .str "d", .str "e"]
  g_HOLDERS : mg "HOLDERS" = some (.ref a.k_HOLDERS)
  tp_HOLDERS : ∀ H, SqT K H a.k_HOLDERS [.str "a", .str "b", .str "c", .str "d", .str "e", .str "shelf"]
  g_PLAIN : mg "PLAIN" = some (.ref a.k_PLAIN)
  dk_PLAIN : DictK K w a.k_PLAIN [("make", a.f_pocket_step), ("use", a.f_use_step), ("free", a.f_pocket_step), ("clear", a.f_pocket_step), ("forget", a.f_pocket_step), ("move", a.f_move_step), ("put", a.f_pocket_step), ("take", a.f_pocket_step)]
  z_list : mg "list" = none
  z_dict : mg "dict" = none
  z_len : mg "len" = none
  z_int : mg "int" = none
  z_all : mg "all" = none
  z_str : mg "str" = none
  z_tuple : mg "tuple" = none
  z_enumerate : mg "enumerate" = none
  z_sorted : mg "sorted" = none
  z_set : mg "set" = none
  z_range : mg "range" = none
  z_isinstance : mg "isinstance" = none
  z_any : mg "any" = none
def Keep2 (b g : Addr) (H H' : Hp) : Prop := ∀ a o, a ≠ b → a ≠ g → H a = some o → H' a = some o
theorem Keep2.refl (b g : Addr) (H : Hp) : Keep2 b g H H := fun _ _ _ _ h => h
theorem Keep2.trans {b g : Addr} {H H1 H2 : Hp} (x : Keep2 b g H H1) (y : Keep2 b g H1 H2) : Keep2 b g H H2 := fun a o h1 h2 h => y a o h1 h2 (x a o h1 h2 h)
def Keep1 (b : Addr) (H H' : Hp) : Prop := ∀ a o, a ≠ b → H a = some o → H' a = some o
structure BoxAt (H : Hp) (b g l : Addr) (n : Int) : Prop where
  ex : ∃ (gs ls : List Int) (d : Int), H b = some (.lst [.ref g, .int d, .ref l, .int n]) ∧ H g = some (.lst (gs.map V.int)) ∧ H l = some (.lst (ls.map V.int)) ∧
    0 ≤ d ∧ (∀ z ∈ gs, 0 ≤ z) ∧ gs.length ≤ 63 ∧ ls.length ≤ 63 ∧ b ≠ g ∧ b ≠ l ∧ g ≠ l
  pos : 0 ≤ n
theorem BoxAt.keep {H H' : Hp} {b g l : Addr} {n : Int} (B : BoxAt H b g l n) (k : ∀ a o, H a = some o → a = b ∨ a = g ∨ a = l → H' a = some o) : BoxAt H' b g l n := by
  obtain ⟨gs, ls, d, h1, h2, h3, h⟩ := B.ex
  exact ⟨⟨gs, ls, d, k _ _ h1 (.inl rfl), k _ _ h2 (.inr (.inl rfl)), k _ _ h3 (.inr (.inr rfl)), h⟩, B.pos⟩
theorem BoxAt.same {H H' : Hp} {b g l : Addr} {n : Int} (B : BoxAt H b g l n) (k : ∀ a o, H a = some o → H' a = some o) : BoxAt H' b g l n := B.keep fun a o h _ => k a o h
theorem BoxAt.lists {H : Hp} {b g l : Addr} {n : Int} (B : BoxAt H b g l n) : (∃ xs, H b = some (.lst xs)) ∧ (∃ xs, H g = some (.lst xs)) ∧ ∃ xs, H l = some (.lst xs) := by
  obtain ⟨gs, ls, d, h1, h2, h3, _⟩ := B.ex
  exact ⟨⟨_, h1⟩, ⟨_, h2⟩, ⟨_, h3⟩⟩
theorem BoxAt.fresh {H : Hp} {b g l D : Addr} {n : Int} (B : BoxAt H b g l n) (hD : H D = none) : D ≠ b ∧ D ≠ g ∧ D ≠ l := by
  obtain ⟨⟨_, h1⟩, ⟨_, h2⟩, ⟨_, h3⟩⟩ := B.lists
  exact ⟨(ne_of_none h1 hD).symm, (ne_of_none h2 hD).symm, (ne_of_none h3 hD).symm⟩
theorem BoxAt.upd {H : Hp} {b g l D : Addr} {n : Int} {o : HO} (B : BoxAt H b g l n) (h : D ≠ b ∧ D ≠ g ∧ D ≠ l) : BoxAt (upd H D o) b g l n := by
  refine B.keep fun x o e z => ?_
  have hx : x ≠ D := by
    rcases z with z | z | z
    · rw [z]; exact h.1.symm
    · rw [z]; exact h.2.1.symm
    · rw [z]; exact h.2.2.symm
  exact upd_get hx e
def spMixed : Sp := fun vs H Q _ => ∃ (c k : Int), vs = [.int c, .int k] ∧ 0 ≤ k ∧ k ≤ 10000000 ∧ ∀ r : Int, Q (.int r) H
def spTake : Sp := fun vs H Q _ => ∃ (b g l : Addr) (n sz : Int), vs = [.ref b, .int sz] ∧ BoxAt H b g l n ∧ n ≤ 1000000 ∧ 0 < sz ∧ sz < 2 ^ 200 ∧
  ∀ (r : Int) (H' : Hp), 0 ≤ r → r < sz → BoxAt H' b g l (n + 1) → Keep2 b g H H' → Q (.int r) H'
def spBox (K : PySem.W.Frag) : Sp := fun vs H Q _ => ∃ (a : Addr) (ns : List Int), vs = [.ref a] ∧ SqL K H a (ns.map V.int) ∧ ns.length ≤ 63 ∧
  ∀ (b g l : Addr) (H' : Hp), H b = none → H g = none → H l = none → BoxAt H' b g l 0 → Same H H' → Q (.ref b) H'
local macro_rules | `(tactic| walk_at "nz") => `(tactic| (show (_ : Int) ≠ 0; omega))
local macro_rules | `(tactic| walk_at "ne") => `(tactic| first | assumption | (apply Ne.symm; assumption))
local macro_rules | `(tactic| walk_at "hp") => `(tactic| first | assumption | exact upd_same | (refine upd_get ?_ ?_; walk_at "ne"; walk_at "hp"))
local macro_rules | `(tactic| walk_at "sd") => `(tactic| first
  | (with_reducible show (_ : Int) < _; omega)
  | (with_reducible show (_ : Int) ≤ _; omega)
  | (with_reducible show (_ : Nat) < _; omega)
  | (with_reducible show (_ : Nat) ≤ _; omega)
  | rfl
  | assumption
  | exact kV_int _
  | exact kV_str _
  | (show (_ : Int) ≠ 0; omega)
  | exact SqL.of (by walk_at "hp")
  | exact ⟨_, SqL.of (by walk_at "hp")⟩
  | exact ⟨_, SqT.of (by walk_at "hp")⟩
  | exact ⟨_, (by assumption)⟩
  | exact SqT.of (by walk_at "hp")
  | exact Rd.of (by walk_at "hp")
  | exact Or.inl (SqL.of (by walk_at "hp"))
  | exact Or.inr (SqT.of (by walk_at "hp"))
  | exact Or.inr (by assumption)
  | (walk_at "hp")
  | (exact Or.inl ⟨rfl, _, SqL.of (by walk_at "hp")⟩)
  | (exact Or.inl ⟨by omega, by omega⟩)
  | (exact Or.inr ⟨by omega, by omega⟩)
  | (refine ⟨?_, ?_, ?_⟩ <;> omega)
  | omega
  | (exact small_le (by first | omega | (simp only [List.length_cons, List.length_nil]; omega)))
  | (exact small_lt (by first | omega | (simp only [List.length_cons, List.length_nil]; omega)))
  | exact Nat.le_of_ble_eq_true rfl
  | exact ⟨_, rfl⟩
  | decide)
local macro_rules | `(tactic| walk_at "st") => `(tactic| first
  | with_reducible refine sq_seq ?_
  | apply Exists.intro
  | (refine And.intro ?_ ?_; (walk_at "sd")))
local macro_rules | `(tactic| walk_at "go") => `(tactic| repeat (walk_at "st"))
section
variable {P : Program} {w : World} {K : PySem.W.Frag} {mg : Str → Option Value} {base : Heap} {a : Ad}
theorem ok__law_mixed (T : Txt w K mg a) : FnOk P w K mg base CX0 1 a.f__law_mixed a.d__law_mixed ["_law_cell", "_law_k"] spMixed := by
  refine T.F__law_mixed.ok sc__law_mixed (fun vs H Q E h => ?_) (fun cdv A outer s H vs Q E hr h => ?_)
  · obtain ⟨c, k, rfl, _⟩ := h
    rfl
  · obtain ⟨c, k, rfl, h0, h1, q⟩ := h
    refine ⟨_, (pss_cons (ps_set (i := 2) sc__law_mixed.nd rfl (Or.inl rfl) (pe_op op_modN (pe_op op_pow (pe_op op_add (pe_op op_add (pe_op op_add (pe_op op_modN (pv 0) pe_int) (pe_op op_mul (pe_op op_mul pe_int (pv 1)) (pv 1))) (pe_op op_mul pe_int (pv 1))) pe_int) pe_int) pe_int))
      (pss_one (ps_ret (pe_op op_modN (pe_op op_add (pe_op op_mul (pv 2) pe_int) (pe_op op_mul pe_int (pv 1))) pe_int)))), ?_⟩
    have m1 := fmod_pos (i := c) (j := 2147483647) (by decide)
    have e1 : 1009 * k ≤ 10090000000 := by omega
    have e2 : 0 ≤ 1009 * k * k := Int.mul_nonneg (by omega) h0
    have e3 : 1009 * k * k ≤ 10090000000 * 10000000 := Int.mul_le_mul e1 h1 h0 (by decide)
    walk_at "go"
    exact q _
theorem ok__law_take (T : Txt w K mg a) : FnOk P w K mg base CX0 2 a.f__law_take a.d__law_take ["_law_box_here", "_law_size"] spTake := by
  have G__law_mixed := ok__law_mixed (P := P) (w := w) (base := base) T
  refine T.F__law_take.ok sc__law_take (fun vs H Q E h => ?_) (fun cdv A outer s H vs Q E hr h => ?_)
  · obtain ⟨b, g, l, n, sz, rfl, _⟩ := h
    rfl
  · obtain ⟨b, g, l, n, sz, rfl, B, hn, s0, s1, q⟩ := h
    obtain ⟨gs, ls, d, hb, hg, hl, d0, g0, lg, ll, nbg, nbl, ngl⟩ := B.ex
    have n0 := B.pos
    refine ⟨_, (pss_cons (ps_asg (pe_op op_add (pe_ix ix_list (pv 0) pe_int (fun _ _ => rfl)) pe_int) (pg_sub (pv 0) pe_int set_list))
      (pss_mid (ps_if (PW.pt (pw_and (pt_cmpR op_eq (pe_ix ix_list (pv 0) pe_int (fun _ _ => rfl)) pe_int (nomark _)) (pw_and1 (pt_cmpR op_gt (pe_callB call_lenK (by rfl) T.z_len PySem.boot_len (pa_cons (pe_ix ix_list (pv 0) pe_int (fun _ _ => rfl)) pa_nil)) pe_int (nomark _))))) (pss_one (ps_asg (pe_bm PySem.F.plainAttrs_list PySem.F.slot_list_pop PySem.F.type_list_pop mt_popAt (pe_ix ix_list (pv 0) pe_int (fun _ _ => rfl)) (pa_cons pe_int pa_nil)) (pg_sub (pv 0) pe_int set_list))) pss_nil)
      (pss_cons (ps_if (pt_cmpR op_gt (pe_ix ix_list (pv 0) pe_int (fun _ _ => rfl)) pe_int (nomark _)) (pss_cons (ps_set (i := 2) sc__law_take.nd rfl (Or.inl rfl) (pe_op op_modN (pe_ix ix_list (pv 0) pe_int (fun _ _ => rfl)) (pv 1)))
      (pss_cons (ps_asg (pe_op op_fdivW (pe_ix ix_list (pv 0) pe_int (fun _ _ => rfl)) (pv 1)) (pg_sub (pv 0) pe_int set_list))
      (pss_one (ps_ret (pv 2))))) pss_nil)
      (pss_cons (ps_set (i := 3) sc__law_take.nd rfl (Or.inl rfl) (pe_op op_mul pe_int (pe_ix ix_list (pv 0) pe_int (fun _ _ => rfl))))
      (pss_mid (ps_if (pt_cmpR op_gt (pe_callB call_lenK (by rfl) T.z_len PySem.boot_len (pa_cons (pe_ix ix_list (pv 0) pe_int (fun _ _ => rfl)) pa_nil)) pe_int (nomark _)) (pss_one (ps_set (i := 3) sc__law_take.nd rfl (Or.inl rfl) (pe_ix ix_list (pe_ix ix_list (pv 0) pe_int (fun _ _ => rfl)) (pe_op op_modN (pe_ix ix_list (pv 0) pe_int (fun _ _ => rfl)) (pe_callB call_lenK (by rfl) T.z_len PySem.boot_len (pa_cons (pe_ix ix_list (pv 0) pe_int (fun _ _ => rfl)) pa_nil))) (fun _ _ => rfl)))) pss_nil)
      (pss_cons (ps_set (i := 2) sc__law_take.nd rfl (Or.inl rfl) pe_int)
      (pss_cons (ps_set (i := 4) sc__law_take.nd rfl (Or.inl rfl) pe_int)
      (pss_cons (ps_stop (ps_while PassesOwn.never (pt_cmpR op_lt (pv 4) (pv 1) (nomark _)) (pss_cons (ps_set (i := 2) sc__law_take.nd rfl (Or.inl rfl) (pe_op op_add (pe_op op_mul (pv 2) pe_int) (pe_call G__law_mixed (hr.mono (by decide)) rfl T.m__law_mixed T.F__law_mixed.kp T.b__law_mixed .nil pass0 (pa_cons (pv 3) (pa_cons (pe_op op_add (pe_ix ix_list (pv 0) pe_int (fun _ _ => rfl)) (pe_op op_mul pe_int (pe_op op_modN (pv 2) pe_int))) pa_nil)))))
      (pss_one (ps_set (i := 4) sc__law_take.nd rfl (Or.inl rfl) (pe_op op_mul (pv 4) pe_int))))))
      (pss_one (ps_ret (pe_op op_modN (pv 2) (pv 1)))))))))))), ?_⟩
    walk_at "go"
    -- if box[1] == 0 and len(box[0]) > 0
    refine mid_of (fun σ H1 => ∃ (gs1 : List Int) (d1 : Int), σ = [some (.ref b), some (.int sz), none, none, none] ∧ H1 b = some (.lst [.ref g, .int d1, .ref l, .int (n + 1)]) ∧ H1 g = some (.lst (gs1.map V.int)) ∧ H1 l = some (.lst (ls.map V.int)) ∧
      0 ≤ d1 ∧ (∀ z ∈ gs1, 0 ≤ z) ∧ gs1.length ≤ 63 ∧ Keep2 b g H H1) ?_ ?_
    · have k1 : Keep2 b g H (upd H b (.lst [.ref g, .int d, .ref l, .int (n + 1)])) := fun x o n1 n2 e => by rw [upd_ne n1]; exact e
      walk_at "go"
      refine ifD (fun e => ?_) (fun _ => ?_)
      · walk_at "go"
        refine ifD (fun e2 => ?_) (fun _ => ?_)
        · cases gs with
          | nil => exact absurd e2 (by decide)
          | cons z r =>
            walk_at "go"
            refine ⟨(seqIndex_of (by decide) e2 : seqIndex? 0 _ = some 0), rfl, ?_⟩
            walk_at "go"
            refine wait ⟨r, z, rfl, upd_same, upd_get nbg.symm upd_same, upd_get nbl.symm (upd_get ngl.symm (upd_get nbl.symm hl)), g0 _ List.mem_cons_self, fun y hy => g0 y (List.mem_cons_of_mem _ hy), ?_, ?_⟩
            · rw [List.length_cons] at lg
              omega
            · intro x o n1 n2 e
              rw [upd_ne n1, upd_ne n2, upd_ne n1]
              exact e
        · exact wait ⟨gs, d, rfl, upd_same, upd_get nbg.symm hg, upd_get nbl.symm hl, d0, g0, lg, k1⟩
      · refine ifF rfl ?_
        exact wait ⟨gs, d, rfl, upd_same, upd_get nbg.symm hg, upd_get nbl.symm hl, d0, g0, lg, k1⟩
    · rintro σ H1 ⟨gs1, d1, rfl, hb1, hg1, hl1, d10, g10, lg1, k1⟩
      walk_at "go"
      refine ifD (fun e => ?_) (fun e => ?_)
      · have m := fmod_pos (i := d1) (j := sz) s0
        have hd : CDivW d1 sz := wide_div (b := 200) s0 (by omega) (by decide) (by decide)
        walk_at "go"
        refine q _ _ m.1 m.2 ⟨⟨gs1, ls, d1 / sz, upd_same, upd_get nbg.symm hg1, upd_get nbl.symm hl1, Int.ediv_nonneg d10 (by omega), g10, lg1, ll, nbg, nbl, ngl⟩, by omega⟩ ?_
        intro x o n1 n2 e
        rw [upd_ne n1]
        exact k1 x o n1 n2 e
      · walk_at "go"
        refine mid_of (fun σ H2 => H2 = H1 ∧ ∃ c : Int, σ = [some (.ref b), some (.int sz), none, some (.int c), none]) ?_ ?_
        · walk_at "go"
          refine ifD (fun e2 => ?_) (fun _ => ?_)
          · have e3 : (0 : Int) < (ls.length : Int) := by rw [List.length_map] at e2; exact e2
            have m := fmod_pos (i := n + 1) (j := (ls.length : Int)) e3
            obtain ⟨z, hz, _⟩ := atI_ints m.1 m.2
            have hz2 : atI (ls.map V.int) ((n + 1).fmod ((ls.map V.int).length : Int)) = some (.int z) := by rw [List.length_map]; exact hz
            walk_at "go"
            exact wait ⟨rfl, _, rfl⟩
          · exact wait ⟨rfl, _, rfl⟩
        · rintro σ H2 ⟨rfl, c, rfl⟩
          walk_at "go"
          refine while_W (fun m σ H3 => H3 = H2 ∧ ∃ f r : Int, σ = [some (.ref b), some (.int sz), some (.int f), some (.int c), some (.int r)] ∧ 0 < r ∧ m = (sz - r).toNat) (sz - 1).toNat ?_ ?_
          · exact ⟨rfl, 0, 1, rfl, by decide, rfl⟩
          · rintro m σ H3 ⟨rfl, f, r, rfl, r0, rfl⟩
            walk_at "go"
            refine ifD (fun e2 => ?_) (fun _ => ?_)
            · have m := fmod_pos (i := f) (j := 89) (by decide)
              refine next_W ?_
              walk_at "go"
              intro x
              walk_at "go"
              exact wait ⟨_, (show (sz - r * 1000000007).toNat < (sz - r).toNat by omega), rfl, _, _, rfl, by omega, rfl⟩
            · have m := fmod_pos (i := f) (j := sz) s0
              walk_at "go"
              exact q _ _ m.1 m.2 ⟨⟨gs1, ls, d1, hb1, hg1, hl1, d10, g10, lg1, ll, nbg, nbl, ngl⟩, by omega⟩ k1
theorem ok__law_box (T : Txt w K mg a) : FnOk P w K mg base CX0 1 a.f__law_box a.d__law_box ["_law_script"] (spBox K) := by
  refine T.F__law_box.ok sc__law_box (fun vs H Q E h => ?_) (fun cdv A outer s H vs Q E hr h => ?_)
  · obtain ⟨c, ns, rfl, _⟩ := h
    rfl
  · obtain ⟨c, ns, rfl, hS, hl, q⟩ := h
    refine ⟨_, (pss_cons (ps_setLc (i := 1) (own := [("_law_cell", 2)]) (g := gName 2) rfl sc__law_box.nd rfl rfl (sw_true rfl rfl rfl (by decide +kernel)) (pi_list (pv 0)) (blkOk_by (own := [("_law_cell", 2)]) (N := n__law_box) (sc := defScope s__law_box) (by decide +kernel)) (fun _ _ _ _ _ => (pg_name (i := 2) sc__law_box.nd rfl (Or.inl rfl))) (fun _ _ _ _ _ => (pts_one (pt_cmpR op_ge (pv 2) (pe_op op_pow pe_int pe_int) (nomark _)))) (fun _ _ _ _ _ => (pv 2)))
      (pss_one (ps_ret (pe_lst (pa_cons (pv 1) (pa_cons pe_int (pa_cons (pe_lc (own := [("_law_cell", 2)]) (g := gName 2) rfl sc__law_box.nd (pi_list (pv 0)) (blkOk_by (own := [("_law_cell", 2)]) (N := n__law_box) (sc := defScope s__law_box) (by decide +kernel)) (fun _ _ _ _ _ => (pg_name (i := 2) sc__law_box.nd rfl (Or.inl rfl))) (fun _ _ _ _ _ => (pts_one (pt_cmpR op_lt (pv 2) (pe_op op_pow pe_int pe_int) (nomark _)))) (fun _ _ _ _ _ => (pv 2))) (pa_cons pe_int pa_nil)))))))), ?_⟩
    walk_at "go"
    intro D hD
    refine lcL (K := K) (a := c) (xs := ns.map V.int) (fun i H' => H' D = some (.lst (((ns.take i).filter fun z => decide ((10 : Int) ^ 18 ≤ z)).map V.int)) ∧ Same H H') ?_ ?_ ?_ ?_
    · exact ⟨upd_same, fun x o e => by rw [upd_ne (ne_of_none e hD)]; exact e⟩
    · exact fun i H' _ h => h.2.seq hS
    · rintro i y H' hi ⟨h1, h2⟩
      obtain ⟨u, rfl, hu, _⟩ := ints_at hi
      have hlen := filt_len (fun z => decide ((10 : Int) ^ 18 ≤ z)) ns i
      refine ⟨rfl, ?_⟩
      walk_at "go"
      refine ifD (fun p => ?_) (fun p => ?_)
      · walk_at "go"
        refine ⟨small_lt (by rw [List.length_map]; omega), wait ⟨?_, fun x o e => ?_⟩⟩
        · rw [upd_same, take_filt_yes hu (decide_eq_true p), List.map_append] <;> rfl
        · rw [upd_ne (ne_of_none e hD)]
          exact h2 x o e
      · refine wait ⟨?_, h2⟩
        rw [take_filt_no hu (decide_eq_false p)]
        exact h1
    · rintro H1 ⟨h1, s1⟩
      rw [List.length_map, List.take_length] at h1
      have hS1 := s1.seq hS
      walk_at "go"
      intro L hL
      refine lcL (K := K) (a := c) (xs := ns.map V.int) (fun i H' => H' L = some (.lst (((ns.take i).filter fun z => decide (z < (10 : Int) ^ 18)).map V.int)) ∧ Same H1 H') ?_ ?_ ?_ ?_
      · exact ⟨upd_same, fun x o e => by rw [upd_ne (ne_of_none e hL)]; exact e⟩
      · exact fun i H' _ h => h.2.seq hS1
      · rintro i y H' hi ⟨g1, g2⟩
        obtain ⟨u, rfl, hu, _⟩ := ints_at hi
        have hlen := filt_len (fun z => decide (z < (10 : Int) ^ 18)) ns i
        refine ⟨rfl, ?_⟩
        walk_at "go"
        refine ifD (fun p => ?_) (fun p => ?_)
        · walk_at "go"
          refine ⟨small_lt (by rw [List.length_map]; omega), wait ⟨?_, fun x o e => ?_⟩⟩
          · rw [upd_same, take_filt_yes hu (decide_eq_true p), List.map_append] <;> rfl
          · rw [upd_ne (ne_of_none e hL)]
            exact g2 x o e
        · refine wait ⟨?_, g2⟩
          rw [take_filt_no hu (decide_eq_false p)]
          exact g1
      · rintro H2 ⟨g1, s2⟩
        rw [List.length_map, List.take_length] at g1
        refine ⟨(by show 4 ≤ sizeLine; decide), fun b hb => ?_⟩
        have hD2 := s2 _ _ h1
        have nbD : b ≠ D := fun z => by rw [z, hD2] at hb; cases hb
        have nbL : b ≠ L := fun z => by rw [z, g1] at hb; cases hb
        have nDL : D ≠ L := ne_of_none h1 hL
        have s12 : Same H (upd H2 b (.lst [.ref D, .int 0, .ref L, .int 0])) := fun x o e => by
          have e2 := s2 _ _ (s1 _ _ e)
          rw [upd_ne (ne_of_none e2 hb)]
          exact e2
        refine q b D L _ ((s1.trans s2).free hb) hD (s1.free hL) ⟨⟨_, _, 0, upd_same, upd_get nbD.symm hD2, upd_get nbL.symm g1, by decide, fun z hz => ?_, ?_, ?_, nbD, nbL, nDL⟩, by decide⟩ s12
        · have := (List.mem_filter.mp hz).2
          have p : (10 : Int) ^ 18 ≤ z := of_decide_eq_true this
          omega
        · exact Nat.le_trans (List.length_filter_le _ _) hl
        · exact Nat.le_trans (List.length_filter_le _ _) hl
structure IsName (w : Str) : Prop where
  lo : 1 ≤ w.length
  hi : w.length ≤ 8
  cs : ∀ c ∈ w.cps.toList, 97 ≤ c ∧ c ≤ 122
theorem abc_cps : (Str.ofString "abcdefghijklmnopqrstuvwxyz").cps.toList = (List.range 26).map (97 + ·) := by decide +kernel
theorem abc_at {r : Int} (h0 : 0 ≤ r) (h1 : r < 26) : ∃ c, atI (Str.ofString "abcdefghijklmnopqrstuvwxyz").cps.toList r = some c ∧ 97 ≤ c ∧ c ≤ 122 := by
  obtain ⟨v, e1, e2⟩ := atI_in (xs := (Str.ofString "abcdefghijklmnopqrstuvwxyz").cps.toList) (i := r) h0 (by rw [abc_cps]; exact h1)
  refine ⟨v, e1, ?_⟩
  have := List.mem_of_getElem? e2
  rw [abc_cps] at this
  obtain ⟨k, hk, rfl⟩ := List.mem_map.mp this
  have := List.mem_range.mp hk
  omega
theorem abc_len : (Str.ofString "abcdefghijklmnopqrstuvwxyz").length ≤ sizeLine := by decide +kernel
theorem joinL_one : ∀ cs : List Nat, TL.joinL [] (cs.map fun c => [c]) = cs
  | [] => rfl
  | [_] => rfl
  | c :: d :: r => by
    show [c] ++ ([] ++ TL.joinL [] ((d :: r).map fun c => [c])) = _
    rw [joinL_one (d :: r)] <;> rfl
theorem joined_one (cs : List Nat) : (Txt.join (Str.ofString "") (cs.map fun c => (⟨#[c]⟩ : Str))).cps.toList = cs := by
  rw [TL.join_eq]
  have := TL.tl_join (Str.ofString "") (cs.map fun c => (⟨#[c]⟩ : Str))
  rw [List.map_map] at this
  refine Eq.trans (Eq.trans this ?_) (joinL_one cs)
  rfl
def spName : Sp := fun vs H Q _ => ∃ (b g l : Addr) (n : Int), vs = [.ref b] ∧ BoxAt H b g l n ∧ n ≤ 900000 ∧
  ∀ (w : Str) (n' : Int) (H' : Hp), IsName w → BoxAt H' b g l n' → n' ≤ n + 10 → Keep2 b g H H' → Q (.str w) H'
theorem ok__law_name (T : Txt w K mg a) : FnOk P w K mg base CX0 3 a.f__law_name a.d__law_name ["_law_box_here"] spName := by
  have G__law_take := ok__law_take (P := P) (w := w) (base := base) T
  refine T.F__law_name.ok sc__law_name (fun vs H Q E h => ?_) (fun cdv A outer s H vs Q E hr h => ?_)
  · obtain ⟨b, g, l, n, rfl, _⟩ := h
    rfl
  · obtain ⟨b, g, l, n, rfl, B, hn, q⟩ := h
    refine ⟨_, (pss_cons (ps_set (i := 1) sc__law_name.nd rfl (Or.inl rfl) (pe_op op_add pe_int (pe_call G__law_take (hr.mono (by decide)) rfl T.m__law_take T.F__law_take.kp T.b__law_take .nil pass0 (pa_cons (pv 0) (pa_cons (pe_ix ix_list (pe_lst (pa_cons pe_int (pa_cons pe_int (pa_cons pe_int pa_nil)))) (pe_call G__law_take (hr.mono (by decide)) rfl T.m__law_take T.F__law_take.kp T.b__law_take .nil pass0 (pa_cons (pv 0) (pa_cons pe_int pa_nil))) (fun _ _ => rfl)) pa_nil)))))
      (pss_one (ps_ret (pe_join pe_str (pe_lc (own := [("_law_k", 2)]) (g := gName 2) (tt := tYes) rfl sc__law_name.nd (pi_range1 rfl T.z_range (pa_cons (pv 1) pa_nil)) (blkOk_by (own := [("_law_k", 2)]) (N := n__law_name) (sc := defScope s__law_name) (by decide +kernel)) (fun _ _ _ _ _ => (pg_name (i := 2) sc__law_name.nd rfl (Or.inl rfl))) (fun _ _ _ _ _ => pts_nil) (fun _ _ _ _ _ => (pe_ix ix_str pe_str (pe_call G__law_take (hr.mono (by decide)) rfl T.m__law_take T.F__law_take.kp T.b__law_take .nil pass0 (pa_cons (pv 0) (pa_cons pe_int pa_nil))) (fun _ _ => rfl)))))))), ?_⟩
    walk_at "go"
    intro p1 hp1
    have s1 : Same H (upd H p1 (.lst [.int 1, .int 2, .int 8])) := Same.upd_new hp1
    have B1 := B.same s1
    obtain ⟨⟨xb, hb⟩, ⟨xg, hg⟩, _⟩ := B.lists
    refine ⟨_, rfl, b, g, l, n, 3, rfl, B1, by omega, by decide, by decide, fun r1 H2 r10 r11 B2 k2 => ?_⟩
    have hp2 := k2 _ _ (ne_of_none hb hp1).symm (ne_of_none hg hp1).symm upd_same
    obtain ⟨v, e1, e2⟩ := atI_in (xs := [V.int 1, .int 2, .int 8]) (i := r1) r10 r11
    have hm := List.mem_of_getElem? e2
    obtain ⟨sz, rfl, z0, z1⟩ : ∃ sz : Int, v = .int sz ∧ 0 < sz ∧ sz ≤ 8 := by
      simp only [List.mem_cons, List.not_mem_nil, or_false] at hm
      rcases hm with rfl | rfl | rfl
      · exact ⟨_, rfl, by decide, by decide⟩
      · exact ⟨_, rfl, by decide, by decide⟩
      · exact ⟨_, rfl, by decide, by decide⟩
    walk_at "go"
    intro r2 H3 r20 r21 B3 k3
    walk_at "go"
    intro D hD
    refine lcR (lo := 0) (n := (1 + r2).toNat) (fun i H' => ∃ cs : List Nat, cs.length = i ∧ (∀ c ∈ cs, 97 ≤ c ∧ c ≤ 122) ∧ H' D = some (.lst (cs.map fun c => V.str ⟨#[c]⟩)) ∧ BoxAt H' b g l (n + 1 + 1 + i) ∧ (∀ x o, x ≠ b → x ≠ g → x ≠ D → H3 x = some o → H' x = some o)) ?_ ?_ ?_
    · refine ⟨[], rfl, (fun _ h => nomatch h), upd_same, ?_, fun x o _ _ h3 e => upd_get h3 e⟩
      have := B3.same (Same.upd_new (o := .lst []) hD)
      rw [show n + 1 + 1 + ((0 : Nat) : Int) = n + 1 + 1 by omega]
      exact this
    · rintro i H' hi ⟨cs, hl, hc, h1, B', k'⟩
      have nD := B3.fresh hD
      have al := abc_len
      refine ⟨rfl, ?_⟩
      walk_at "go"
      intro r4 H4 r40 r41 B4 k4
      obtain ⟨c, e4, c0, c1⟩ := abc_at r40 r41
      have h4 := k4 _ _ nD.1 nD.2.1 h1
      walk_at "go"
      refine ⟨small_lt (by rw [List.length_map]; omega), wait ⟨cs ++ [c], by rw [List.length_append, hl] <;> rfl, fun d hd => ?_, ?_, ?_, fun x o n1 n2 n3 e => upd_get n3 (k4 x o n1 n2 (k' x o n1 n2 n3 e))⟩⟩
      · rcases List.mem_append.mp hd with z | z
        · exact hc d z
        · rw [List.mem_singleton.mp z]; exact ⟨c0, c1⟩
      · rw [upd_same, List.map_append] <;> rfl
      · rw [show n + 1 + 1 + ((i + 1 : Nat) : Int) = n + 1 + 1 + (i : Int) + 1 by omega]
        exact B4.upd nD
    · rintro H' ⟨cs, hl, hc, h1, B', k'⟩
      have nD := B3.fresh hD
      have hlen : cs.length ≤ 8 := by omega
      have hsum : ((cs.map fun c => (⟨#[c]⟩ : Str)).map (·.length)).sum + (cs.map fun c => (⟨#[c]⟩ : Str)).length * (Str.ofString "").length ≤ 16777216 := by
        rw [List.map_map, show ((·.length) ∘ fun c => (⟨#[c]⟩ : Str)) = fun _ => 1 from rfl, List.map_const', List.sum_replicate_nat, List.length_map]
        show cs.length * 1 + cs.length * 0 ≤ _
        omega
      refine ⟨_, D, cs.map fun c => (⟨#[c]⟩ : Str), rfl, rfl, .inl (SqL.of ?_), hsum, ?_⟩
      · rw [List.map_map]; exact h1
      · refine q _ _ _ ⟨?_, ?_, ?_⟩ B' (by omega) ?_
        · rw [TL.len_tl, TL.tl, joined_one]; omega
        · rw [TL.len_tl, TL.tl, joined_one]; omega
        · rw [joined_one]; exact hc
        · intro x o n1 n2 e
          have e3 := k3 x o n1 n2 (k2 x o n1 n2 (s1 x o e))
          exact k' x o n1 n2 (ne_of_none e3 hD) e3
end
end Pf
set_option Elab.async false
set_option linter.all false
set_option maxRecDepth 100000
set_option maxHeartbeats 4000000
namespace Pf
open PySem L2
theorem yEnts_eq : ∀ (es : List DictEntry) (l : List (Str × Addr)), yEnts es l = entsOf es l
  | [], [] => rfl
  | e :: es, k :: r => by
    show (_ && yEnts es r) = (_ && entsOf es r)
    rw [yEnts_eq es r]
  | [], _ :: _ => rfl
  | _ :: _, [] => rfl
section
variable {l m : List YOb} {i : Nat}
theorem yAt {l m : List YOb} (e : l = m) (i : Nat) {a b : YOb} (ha : l[i]? = some a) (hb : m[i]? = some b) : a = b := by
  rw [e, hb] at ha
  exact (Option.some.inj ha).symm
theorem yOvAt (e : l = m) (i : Nat) {a b : Option (Option Value)} (ha : l[i]? = some (.ov a)) (hb : m[i]? = some (.ov b)) : a = b := YOb.ov.inj (yAt e i ha hb)
theorem yTvAt (e : l = m) (i : Nat) {a b : Option Value} (ha : l[i]? = some (.tv a)) (hb : m[i]? = some (.tv b)) : a = b := YOb.tv.inj (yAt e i ha hb)
theorem yBbAt (e : l = m) (i : Nat) {a b : Bool} (ha : l[i]? = some (.bb a)) (hb : m[i]? = some (.bb b)) : a = b := YOb.bb.inj (yAt e i ha hb)
theorem yObAt (e : l = m) (i : Nat) {a b : Option Bool} (ha : l[i]? = some (.ob a)) (hb : m[i]? = some (.ob b)) : a = b := YOb.ob.inj (yAt e i ha hb)
theorem yFnAt (e : l = m) (i : Nat) {a b : YFn} (ha : l[i]? = some (.fn a)) (hb : m[i]? = some (.fn b)) : a = b := YOb.fn.inj (yAt e i ha hb)
theorem ySqAt (e : l = m) (i : Nat) {a b : Option (Value × List Value)} (ha : l[i]? = some (.sq a)) (hb : m[i]? = some (.sq b)) : a = b := YOb.sq.inj (yAt e i ha hb)
theorem yExAt (e : l = m) (i : Nat) {a b : Option (String × List Value × Bool × Bool × Option Value)} (ha : l[i]? = some (.ex a)) (hb : m[i]? = some (.ex b)) : a = b := YOb.ex.inj (yAt e i ha hb)
theorem yKsAt (e : l = m) (i : Nat) {a b : Option (List (Option (Str × Int)))} (ha : l[i]? = some (.ks a)) (hb : m[i]? = some (.ks b)) : a = b := YOb.ks.inj (yAt e i ha hb)
end
section
variable {K : PySem.W.Frag}
theorem yFn_ok {f : Addr} {n q : Str} {ps : Arguments} {b : List Stmt} {sc : Scope} {yDv yKv cd : Value} (e : yFn K f = some (n, q, ps, .stmts b, sc, mainGlobals, [], builtinsNs, yDv, yKv, cd)) :
    ∃ oc od doc pm an ct osl, K.lookup f = some ⟨oc, od, .func (PySem.W.fnOf n q ps b sc yDv yKv doc pm an cd ct), osl⟩ := by
  unfold yFn at e
  cases h : K.lookup f with
  | none =>
    rw [h] at e
    cases e
  | some o =>
    obtain ⟨oc, od, dt, osl⟩ := o
    rw [h] at e
    cases dt with
    | func fd =>
      obtain ⟨n1, n2, n3, n4, n5, n6, n7, n8, n9, n10, n11, n12, n13, n14, n15⟩ := fd
      have e2 : (some (n1, n2, n3, n4, n5, n6, n7, n15, n8, n9, n13) : YFn) = some (n, q, ps, .stmts b, sc, mainGlobals, [], builtinsNs, yDv, yKv, cd) := e
      simp only [Option.some.injEq, Prod.mk.injEq] at e2
      obtain ⟨h1, h2, h3, h4, h5, h6, h7, h8, h9, h10, h11⟩ := e2
      subst h1 h2 h3 h4 h5 h6 h7 h8 h9 h10 h11
      exact ⟨oc, od, _, _, _, _, osl, rfl⟩
    | _ => cases e
theorem ySq_ok {a : Addr} {c : Value} {xs : List Value} (e : ySq K a = some (c, xs)) : ∃ od n sl, K.lookup a = some ⟨c, od, .seq xs.toArray n, sl⟩ := by
  unfold ySq at e
  cases h : K.lookup a with
  | none =>
    rw [h] at e
    cases e
  | some o =>
    obtain ⟨oc, od, dt, osl⟩ := o
    rw [h] at e
    cases dt with
    | seq its n =>
      have e2 : (some (oc, its.toList) : Option (Value × List Value)) = some (c, xs) := e
      simp only [Option.some.injEq, Prod.mk.injEq] at e2
      obtain ⟨h1, h2⟩ := e2
      subst h1 h2
      exact ⟨od, n, osl, by simp⟩
    | _ => cases e
theorem yEx_ok {C : Addr} {bm : List Value} {n : String} (e : yEx K C = some ("type", .ref C :: bm, true, false, some (.builtin n))) :
    ∃ nm q N bs sn su ab co dd m0 m1 m2 m3 m5, K.lookup C = some (excClassObj nm q C N bs bm true sn su ab co dd m0 m1 m2 m3 m5 n) := by
  unfold yEx at e
  split at e
  · rename_i t dd cd sl ho
    split at e
    · rename_i k0 k1 k2 k3 x k5 hs
      simp only [Option.some.injEq, Prod.mk.injEq] at e
      obtain ⟨rfl, h2, h3, h4, rfl⟩ := e
      obtain ⟨nm, bs, mro, ns, qn, hd, sn, sub, ab, col, del⟩ := cd
      dsimp only at h2 h3 h4
      subst h2 h3 h4
      have hsl : sl = #[k0, k1, k2, k3, some (.builtin n), k5] := by
        obtain ⟨l⟩ := sl
        simp only at hs
        rw [hs]
      subst hsl
      exact ⟨nm, qn, ns, bs, sn, sub, ab, col, dd, k0, k1, k2, k3, k5, ho⟩
    · cases e
  · cases e
theorem yDic_ok {w : World} {a : Addr} {ks : List Str} {l : List (Str × Addr)} (e : He.dicW K a = some (He.keysIn w.params ks)) (e2 : yEnt K a l = true) :
    ∃ es n, K.lookup a = some ⟨.type "dict", none, .dict es n, #[]⟩ ∧ (a == sysModules) = false ∧ entsOf es.toList l = true ∧ PySem.W.KeysLit w.params es.toList := by
  obtain ⟨es, n, q, kl, ne⟩ := He.dicW_ok e
  unfold yEnt at e2
  rw [q] at e2
  exact ⟨es, n, q, ne, (yEnts_eq _ _).symm.trans e2, kl⟩
end
section
variable {K : PySem.W.Frag} {h : Heap} {mg : Str → Option Value}
theorem yFnTy {f : Value} (h : PySem.W.isFn K f = true) : PySem.W.typeIn K f = some (.type "function") := eq_of_beq h
theorem yG_ok (X : K.In h) (G : h.Ns mainGlobals mg) {x q : Str} {st : Stmt} {f cd : Addr} {yKv : Value} (e : yG K x f cd q = yGv x q st f cd yKv) : mg x = some (.ref f) ∧ ∃ fd, Fun K x q st f fd := by
  obtain ⟨oc, od, doc, pm, an, ct, osl, l⟩ := yFn_ok (yFnAt e 1 rfl rfl)
  exact ⟨PySem.W.mg_of X G (yOvAt e 0 rfl rfl), _, fun_mk (st := st) l (yBbAt e 2 rfl rfl) (yBbAt e 3 rfl rfl)⟩
theorem yM_ok {C : Addr} {x q : Str} {st : Stmt} {f cd : Addr} {yKv : Value} (e : yM K C x f cd q = yMv x q st f cd yKv) : Meth K C x f ∧ ∃ fd, Fun K x q st f fd := by
  obtain ⟨oc, od, doc, pm, an, ct, osl, l⟩ := yFn_ok (yFnAt e 1 rfl rfl)
  exact ⟨⟨yOvAt e 0 rfl rfl, yBbAt e 4 rfl rfl, yBbAt e 3 rfl rfl⟩, _, fun_mk (st := st) l (yBbAt e 2 rfl rfl) (yBbAt e 3 rfl rfl)⟩
theorem yMap {α : Type} {f g : α → YOb} {l : List α} (e : l.map f = l.map g) {i : Nat} {x : α} (hx : l[i]? = some x) : f x = g x := by
  have h1 := yAt e i (a := f x) (b := g x) (by rw [List.getElem?_map, hx] <;> rfl) (by rw [List.getElem?_map, hx] <;> rfl)
  exact h1
theorem yN_ok {C : Addr} {l : List Str} (e : yN K C l = yNv l) (i : Nat) {x : Str} (hx : l[i]? = some x) : PySem.W.findIn K (.ref C) x = some none := YOb.ov.inj (yMap e hx)
theorem yC_ok (X : K.In h) (G : h.Ns mainGlobals mg) {x : Str} {C : Addr} (e : yC K x C = yCv C) : mg x = some (.ref C) ∧ Cls K C ∧ ∀ f, Meth K C "__init__" f → Mk K C f :=
  ⟨PySem.W.mg_of X G (yOvAt e 0 rfl rfl), ⟨yBbAt e 1 rfl rfl, yBbAt e 2 rfl rfl, yBbAt e 3 rfl rfl, yOvAt e 4 rfl rfl⟩, fun _ m => ⟨yBbAt e 5 rfl rfl, m.at_, m.fn, yBbAt e 6 rfl rfl⟩⟩
theorem yO_ok {C : Addr} (e : yO K C = yOv) : OwnC K C :=
  ⟨yOvAt e 0 rfl rfl, yObAt e 1 rfl rfl, yObAt e 2 rfl rfl, yObAt e 3 rfl rfl, yObAt e 4 rfl rfl, yObAt e 5 rfl rfl, yOvAt e 6 rfl rfl, yOvAt e 7 rfl rfl, yObAt e 8 rfl rfl, yObAt e 9 rfl rfl, yObAt e 10 rfl rfl, yObAt e 11 rfl rfl, yObAt e 12 rfl rfl, yObAt e 13 rfl rfl⟩
theorem yB_ok (X : K.In h) (G : h.Ns mainGlobals mg) {x : Str} {C : Addr} (e : yB K x C = yBv C) : mg x = some (.ref C) ∧ PySem.W.subIn K (.ref C) (.type "BaseException") = some true ∧ PySem.W.hasDictIn K C = true ∧ PySem.W.typeIn K (.ref C) = some (.type "type") :=
  ⟨PySem.W.mg_of X G (yOvAt e 0 rfl rfl), yObAt e 1 rfl rfl, yBbAt e 2 rfl rfl, yTvAt e 3 rfl rfl⟩
theorem yE_ok {C : Addr} {bm : List Value} (e : yE K C = yEv C bm) (hb : PySem.W.subIn K (.ref C) (.type "BaseException") = some true ∧ PySem.W.hasDictIn K C = true ∧ PySem.W.typeIn K (.ref C) = some (.type "type")) (hm : PySem.HandSPX.refsVE bm = true) : OexC K C ∧ XfC K C ∧ ExcC K C := by
  obtain ⟨nm, q, N, bs, sn, su, ab, co, dd, m0, m1, m2, m3, m5, l⟩ := yEx_ok (yExAt e 0 rfl rfl)
  exact ⟨⟨⟨_, _, _, _, _, _, _, _, _, _, _, _, _, _, _, l, hm⟩, yOvAt e 1 rfl rfl, hb.1, hb.2.2, yBbAt e 4 rfl rfl⟩, ⟨yOvAt e 2 rfl rfl, yOvAt e 3 rfl rfl, hb.1, hb.2.1⟩, ⟨yOvAt e 2 rfl rfl, yOvAt e 3 rfl rfl, hb.1, hb.2.1, yOvAt e 5 rfl rfl, yOvAt e 7 rfl rfl, yObAt e 8 rfl rfl, yObAt e 6 rfl rfl⟩⟩
theorem yS_ok {l : List (Addr × Value × Bool)} (e : yS K l = ySv l) (i : Nat) {C : Addr} {v : Value} {b : Bool} (hx : l[i]? = some (C, v, b)) : PySem.W.subIn K (.ref C) v = some b := YOb.ob.inj (yMap e hx)
theorem yK_ok {l : List (Addr × Addr)} (e : yK K l = yKv l) (i : Nat) {C D : Addr} (hx : l[i]? = some (C, D)) : PySem.W.kitOne K (.ref C) (.ref D) = some false := YOb.ob.inj (yMap e hx)
theorem yZ_ok (X : K.In h) (G : h.Ns mainGlobals mg) {l : List Str} (e : yZ K l = yZv l) (i : Nat) {x : Str} (hx : l[i]? = some x) : mg x = none := PySem.W.mg_none_of X G (YOb.ov.inj (yMap e hx))
theorem yV_ok (X : K.In h) (G : h.Ns mainGlobals mg) {l : List (Str × Value)} (e : yV K l = yVv l) (i : Nat) {x : Str} {v : Value} (hx : l[i]? = some (x, v)) : mg x = some v := PySem.W.mg_of X G (YOb.ov.inj (yMap e hx))
theorem yVals : ∀ l : List (Str × Nat), Vals (l.map fun t => V.str t.1) (l.map fun t => Value.str t.1 t.2)
  | [] => .nil
  | _ :: r => .cons ⟨_, rfl⟩ (yVals r)
theorem yT_ok (X : K.In h) (G : h.Ns mainGlobals mg) {x : Str} {a : Addr} {l : List (Str × Nat)} (e : yT K x a = yTv a l) (hl : l.length ≤ 1000) : mg x = some (.ref a) ∧ ∀ H, SqT K H a (l.map fun t => V.str t.1) := by
  obtain ⟨od, n, sl, q⟩ := ySq_ok (ySqAt e 1 rfl rfl)
  refine ⟨PySem.W.mg_of X G (yOvAt e 0 rfl rfl), fun H => .inr ⟨_, _, _, q, rfl, rfl, ?_, ?_⟩⟩
  · have := small1000 hl
    simp only [List.size_toArray, List.length_map]
    omega
  · exact yVals l
theorem yD_ok (X : K.In h) (G : h.Ns mainGlobals mg) {w : World} {x : Str} {a : Addr} {l : List (Str × Addr)} (e : yD K x a l = yDv w a l) : mg x = some (.ref a) ∧ DictK K w a l := by
  obtain ⟨es, n, q, ne, e2, kl⟩ := yDic_ok (yKsAt e 1 rfl rfl) (yBbAt e 2 rfl rfl)
  exact ⟨PySem.W.mg_of X G (yOvAt e 0 rfl rfl), es, n, q, ne, e2, kl⟩
end
theorem yChunk {α : Type} {l m : List α} (e : l = m) (i : Nat) {a b : α} (ha : l[i]? = some a) (hb : m[i]? = some b) : a = b := by
  rw [e, hb] at ha
  exact (Option.some.inj ha).symm
end Pf
set_option Elab.async false
set_option linter.all false
set_option maxRecDepth 100000
set_option maxHeartbeats 4000000
namespace Pf
open PySem L2
theorem zfacts {w : World} {K : PySem.W.Frag} {h : Heap} {mg : Str → Option Value} (X : K.In h) (G : h.Ns mainGlobals mg) (c : zobs K = zval w) : ∃ a : Ad, Txt w K mg a := by
  have c0 : zobs0 K = zval0 w := yChunk c 0 rfl rfl
  have c1 : zobs1 K = zval1 w := yChunk c 1 rfl rfl
  have c2 : zobs2 K = zval2 w := yChunk c 2 rfl rfl
  have c3 : zobs3 K = zval3 w := yChunk c 3 rfl rfl
  have g0 := yChunk c0 0 rfl rfl
  have g1 := yChunk c0 1 rfl rfl
  have g2 := yChunk c0 2 rfl rfl
  have g3 := yChunk c0 3 rfl rfl
  have g4 := yChunk c0 4 rfl rfl
  have g5 := yChunk c0 5 rfl rfl
  have g6 := yChunk c0 6 rfl rfl
  have g7 := yChunk c0 7 rfl rfl
  have g8 := yChunk c0 8 rfl rfl
  have g9 := yChunk c0 9 rfl rfl
  have g10 := yChunk c0 10 rfl rfl
  have g11 := yChunk c0 11 rfl rfl
  have g12 := yChunk c0 12 rfl rfl
  have g13 := yChunk c0 13 rfl rfl
  have g14 := yChunk c0 14 rfl rfl
  have g15 := yChunk c0 15 rfl rfl
  have g16 := yChunk c0 16 rfl rfl
  have g17 := yChunk c0 17 rfl rfl
  have g18 := yChunk c0 18 rfl rfl
  have g19 := yChunk c0 19 rfl rfl
  have g20 := yChunk c0 20 rfl rfl
  have g21 := yChunk c0 21 rfl rfl
  have g22 := yChunk c0 22 rfl rfl
  have g23 := yChunk c0 23 rfl rfl
  have g24 := yChunk c0 24 rfl rfl
  have g25 := yChunk c0 25 rfl rfl
  have g26 := yChunk c0 26 rfl rfl
  have g27 := yChunk c0 27 rfl rfl
  have g28 := yChunk c0 28 rfl rfl
  have g29 := yChunk c0 29 rfl rfl
  have g30 := yChunk c1 0 rfl rfl
  have g31 := yChunk c1 1 rfl rfl
  have g32 := yChunk c1 2 rfl rfl
  have g33 := yChunk c1 3 rfl rfl
  have g34 := yChunk c1 4 rfl rfl
  have g35 := yChunk c1 5 rfl rfl
  have g36 := yChunk c1 6 rfl rfl
  have g37 := yChunk c1 7 rfl rfl
  have g38 := yChunk c1 8 rfl rfl
  have g39 := yChunk c1 9 rfl rfl
  have g40 := yChunk c1 10 rfl rfl
  have g41 := yChunk c1 11 rfl rfl
  have g42 := yChunk c1 12 rfl rfl
  have g43 := yChunk c1 13 rfl rfl
  have g44 := yChunk c1 14 rfl rfl
  have g45 := yChunk c1 15 rfl rfl
  have g46 := yChunk c1 16 rfl rfl
  have g47 := yChunk c1 17 rfl rfl
  have g48 := yChunk c1 18 rfl rfl
  have g49 := yChunk c1 19 rfl rfl
  have g50 := yChunk c1 20 rfl rfl
  have g51 := yChunk c1 21 rfl rfl
  have g52 := yChunk c1 22 rfl rfl
  have g53 := yChunk c1 23 rfl rfl
  have g54 := yChunk c1 24 rfl rfl
  have g55 := yChunk c1 25 rfl rfl
  have g56 := yChunk c1 26 rfl rfl
  have g57 := yChunk c1 27 rfl rfl
  have g58 := yChunk c1 28 rfl rfl
  have g59 := yChunk c1 29 rfl rfl
  have g60 := yChunk c2 0 rfl rfl
  have g61 := yChunk c2 1 rfl rfl
  have g62 := yChunk c2 2 rfl rfl
  have g63 := yChunk c2 3 rfl rfl
  have g64 := yChunk c2 4 rfl rfl
  have g65 := yChunk c2 5 rfl rfl
  have g66 := yChunk c2 6 rfl rfl
  have g67 := yChunk c2 7 rfl rfl
  have g68 := yChunk c2 8 rfl rfl
  have g69 := yChunk c2 9 rfl rfl
  have g70 := yChunk c2 10 rfl rfl
  have g71 := yChunk c2 11 rfl rfl
  have g72 := yChunk c2 12 rfl rfl
  have g73 := yChunk c2 13 rfl rfl
  have g74 := yChunk c2 14 rfl rfl
  have g75 := yChunk c2 15 rfl rfl
  have g76 := yChunk c2 16 rfl rfl
  have g77 := yChunk c2 17 rfl rfl
  have g78 := yChunk c2 18 rfl rfl
  have g79 := yChunk c2 19 rfl rfl
  have g80 := yChunk c2 20 rfl rfl
  have g81 := yChunk c2 21 rfl rfl
  have g82 := yChunk c2 22 rfl rfl
  have g83 := yChunk c2 23 rfl rfl
  have g84 := yChunk c2 24 rfl rfl
  have g85 := yChunk c2 25 rfl rfl
  have g86 := yChunk c2 26 rfl rfl
  have g87 := yChunk c2 27 rfl rfl
  have g88 := yChunk c2 28 rfl rfl
  have g89 := yChunk c2 29 rfl rfl
  have g90 := yChunk c3 0 rfl rfl
  have g91 := yChunk c3 1 rfl rfl
  have g92 := yChunk c3 2 rfl rfl
  have g93 := yChunk c3 3 rfl rfl
  have g94 := yChunk c3 4 rfl rfl
  have g95 := yChunk c3 5 rfl rfl
  have g96 := yChunk c3 6 rfl rfl
  have g97 := yChunk c3 7 rfl rfl
  have g98 := yChunk c3 8 rfl rfl
  have g99 := yChunk c3 9 rfl rfl
  have g100 := yChunk c3 10 rfl rfl
  have g101 := yChunk c3 11 rfl rfl
  have g102 := yChunk c3 12 rfl rfl
  have g103 := yChunk c3 13 rfl rfl
  have g104 := yChunk c3 14 rfl rfl
  have g105 := yChunk c3 15 rfl rfl
  have g106 := yChunk c3 16 rfl rfl
  have g107 := yChunk c3 17 rfl rfl
  have g108 := yChunk c3 18 rfl rfl
  have g109 := yChunk c3 19 rfl rfl
  have g110 := yChunk c3 20 rfl rfl
  have g111 := yChunk c3 21 rfl rfl
  have g112 := yChunk c3 22 rfl rfl
  have g113 := yChunk c3 23 rfl rfl
  have g114 := yChunk c3 24 rfl rfl
  have g115 := yChunk c3 25 rfl rfl
  have g116 := yChunk c3 26 rfl rfl
  have g117 := yChunk c3 27 rfl rfl
  obtain ⟨m_Table, cl_Table, mkf_Table⟩ := yC_ok X G g0
  obtain ⟨m_Stand, cl_Stand, mkf_Stand⟩ := yC_ok X G g2
  obtain ⟨m_Side, cl_Side, mkf_Side⟩ := yC_ok X G g4
  obtain ⟨m_World, cl_World, mkf_World⟩ := yC_ok X G g7
  obtain ⟨m_Pacts, cl_Pacts, mkf_Pacts⟩ := yC_ok X G g10
  obtain ⟨m_PactError, hb_PactError⟩ := yB_ok X G g13
  obtain ⟨m_NoWord, hb_NoWord⟩ := yB_ok X G g14
  obtain ⟨ox_NoWord, xf_NoWord, ec_NoWord⟩ := yE_ok g15 hb_NoWord rfl
  obtain ⟨m_NoPact, hb_NoPact⟩ := yB_ok X G g17
  obtain ⟨ox_NoPact, xf_NoPact, ec_NoPact⟩ := yE_ok g18 hb_NoPact rfl
  obtain ⟨m_NoHelper, hb_NoHelper⟩ := yB_ok X G g20
  obtain ⟨ox_NoHelper, xf_NoHelper, ec_NoHelper⟩ := yE_ok g21 hb_NoHelper rfl
  obtain ⟨m_NoBody, hb_NoBody⟩ := yB_ok X G g23
  obtain ⟨ox_NoBody, xf_NoBody, ec_NoBody⟩ := yE_ok g24 hb_NoBody rfl
  obtain ⟨m_NoSide, hb_NoSide⟩ := yB_ok X G g26
  obtain ⟨ox_NoSide, xf_NoSide, ec_NoSide⟩ := yE_ok g27 hb_NoSide rfl
  obtain ⟨m_NoThing, hb_NoThing⟩ := yB_ok X G g29
  obtain ⟨ox_NoThing, xf_NoThing, ec_NoThing⟩ := yE_ok g30 hb_NoThing rfl
  obtain ⟨m_Closed, hb_Closed⟩ := yB_ok X G g32
  obtain ⟨ox_Closed, xf_Closed, ec_Closed⟩ := yE_ok g33 hb_Closed rfl
  obtain ⟨m_NothingDone, hb_NothingDone⟩ := yB_ok X G g35
  obtain ⟨ox_NothingDone, xf_NothingDone, ec_NothingDone⟩ := yE_ok g36 hb_NothingDone rfl
  have gsub := g38
  have gkit := g39
  obtain ⟨mt_NoWord___init__, fd_NoWord___init__, F_NoWord___init__⟩ := yM_ok g40
  obtain ⟨mt_NoPact___init__, fd_NoPact___init__, F_NoPact___init__⟩ := yM_ok g41
  obtain ⟨mt_NoHelper___init__, fd_NoHelper___init__, F_NoHelper___init__⟩ := yM_ok g42
  obtain ⟨mt_NoBody___init__, fd_NoBody___init__, F_NoBody___init__⟩ := yM_ok g43
  obtain ⟨mt_NoSide___init__, fd_NoSide___init__, F_NoSide___init__⟩ := yM_ok g44
  obtain ⟨mt_NoThing___init__, fd_NoThing___init__, F_NoThing___init__⟩ := yM_ok g45
  obtain ⟨mt_Table___init__, fd_Table___init__, F_Table___init__⟩ := yM_ok g46
  obtain ⟨mt_Table_twin, fd_Table_twin, F_Table_twin⟩ := yM_ok g47
  obtain ⟨mt_Stand___init__, fd_Stand___init__, F_Stand___init__⟩ := yM_ok g48
  obtain ⟨mt_Stand_copied, fd_Stand_copied, F_Stand_copied⟩ := yM_ok g49
  obtain ⟨mt_Stand_pacts_told, fd_Stand_pacts_told, F_Stand_pacts_told⟩ := yM_ok g50
  obtain ⟨mt_Stand_is_own, fd_Stand_is_own, F_Stand_is_own⟩ := yM_ok g51
  obtain ⟨m_close_shelf, fd_close_shelf, F_close_shelf⟩ := yG_ok X G g52
  obtain ⟨m_shut_all, fd_shut_all, F_shut_all⟩ := yG_ok X G g53
  obtain ⟨m_row_number, fd_row_number, F_row_number⟩ := yG_ok X G g54
  obtain ⟨m_jump_step, fd_jump_step, F_jump_step⟩ := yG_ok X G g55
  obtain ⟨m_done_step, fd_done_step, F_done_step⟩ := yG_ok X G g56
  obtain ⟨m_throw_step, fd_throw_step, F_throw_step⟩ := yG_ok X G g57
  obtain ⟨m_arguments, fd_arguments, F_arguments⟩ := yG_ok X G g58
  obtain ⟨m_one_catch, fd_one_catch, F_one_catch⟩ := yG_ok X G g59
  obtain ⟨m_catches_of, fd_catches_of, F_catches_of⟩ := yG_ok X G g60
  obtain ⟨m_call_step, fd_call_step, F_call_step⟩ := yG_ok X G g61
  obtain ⟨m_step_of, fd_step_of, F_step_of⟩ := yG_ok X G g62
  obtain ⟨m_steps_of, fd_steps_of, F_steps_of⟩ := yG_ok X G g63
  obtain ⟨m_read_rows, fd_read_rows, F_read_rows⟩ := yG_ok X G g64
  obtain ⟨mt_Side___init__, fd_Side___init__, F_Side___init__⟩ := yM_ok g65
  obtain ⟨mt_Side_read_body, fd_Side_read_body, F_Side_read_body⟩ := yM_ok g66
  obtain ⟨mt_Side_pacts, fd_Side_pacts, F_Side_pacts⟩ := yM_ok g67
  obtain ⟨mt_Side_number, fd_Side_number, F_Side_number⟩ := yM_ok g68
  obtain ⟨mt_World___init__, fd_World___init__, F_World___init__⟩ := yM_ok g69
  obtain ⟨mt_World_opened_anew, fd_World_opened_anew, F_World_opened_anew⟩ := yM_ok g70
  obtain ⟨mt_World_did, fd_World_did, F_World_did⟩ := yM_ok g71
  have a_World_call : PySem.W.findIn K (.ref 1381) "call" = some (some (.ref 1289)) := yOvAt g72 0 rfl rfl
  have i_World_call : PySem.W.isFn K (.ref 1289) = true := yBbAt g72 1 rfl rfl
  have c_World_call : PySem.W.codeIn K (.ref 1288) "World.call" = true := yBbAt g72 2 rfl rfl
  have k_World_call : PySem.W.keepIn K (.ref 1289) = true := yBbAt g72 3 rfl rfl
  have kw_World_call_picks : PySem.W.nsIn K 1282 "picks" = some (some (.ref 1280)) := yOvAt g72 5 rfl rfl
  have kw_World_call_most : PySem.W.nsIn K 1282 "most" = some (some (.int (200) 2051)) := yOvAt g72 6 rfl rfl
  obtain ⟨dt_World_call, nt_World_call, st_World_call, lt_World_call⟩ := ySq_ok (ySqAt g72 4 rfl rfl)
  obtain ⟨oc_World_call, od_World_call, dc_World_call, pm_World_call, an_World_call, ct_World_call, sl_World_call, l_World_call⟩ := yFn_ok (yFnAt g72 7 rfl rfl)
  have kq_World_call : ∀ q ∈ [(("picks" : Str), (.ref 1280 : V)), (("most" : Str), (.int 200 : V))], ∃ u, PySem.W.nsIn K 1282 q.1 = some (some u) ∧ RelV q.2 u := fun q hq => by
    simp only [List.mem_cons, List.not_mem_nil, or_false] at hq
    rcases hq with rfl | rfl
    · exact ⟨_, kw_World_call_picks, rfl⟩
    · exact ⟨_, kw_World_call_most, ⟨_, rfl⟩⟩
  have F_World_call : FunD K "call" "World.call" (defArgs s_World_call) (defBody s_World_call) (defScope s_World_call) [.ref 1279] [("picks", .ref 1280), ("most", .int 200)] 1289 (PySem.W.fnOf "call" "World.call" (defArgs s_World_call) (defBody s_World_call) (defScope s_World_call) (.ref 1281) (.ref 1282) dc_World_call pm_World_call an_World_call (.ref 1288) ct_World_call) := ⟨⟨_, _, _, _, _, _, _, _, _, _, rfl, l_World_call, c_World_call, .inr ⟨by simp, _, _, [.ref 1279], _, rfl, lt_World_call, rfl, .cons rfl .nil⟩, .inr ⟨_, rfl, kq_World_call⟩⟩, k_World_call⟩
  have b_World_call := F_World_call.binds (ps := ["self", "name", "things", "picks", "most"]) 2 0 (by simp) rfl (fun T D doc pm an cdv ct us its ks hu hi hk => match us, its, ks, hu, hi, hk with | [_, _], [_], [_, _], _, _, _ => ⟨_, rfl, ⟨_, _, _, _, _, _, rfl, rfl, ⟨_, _, _, _, _, _, rfl, rfl, rfl⟩⟩⟩) (by simp)
  obtain ⟨mt_World_let_go, fd_World_let_go, F_World_let_go⟩ := yM_ok g73
  obtain ⟨mt_World_close, fd_World_close, F_World_close⟩ := yM_ok g74
  obtain ⟨mt_World_back, fd_World_back, F_World_back⟩ := yM_ok g75
  obtain ⟨mt_World_held, fd_World_held, F_World_held⟩ := yM_ok g76
  obtain ⟨mt_World_shelf, fd_World_shelf, F_World_shelf⟩ := yM_ok g77
  obtain ⟨mt_World_closed, fd_World_closed, F_World_closed⟩ := yM_ok g78
  obtain ⟨mt_World_broken, fd_World_broken, F_World_broken⟩ := yM_ok g79
  obtain ⟨mt_World_log, fd_World_log, F_World_log⟩ := yM_ok g80
  obtain ⟨mt_World_story, fd_World_story, F_World_story⟩ := yM_ok g81
  obtain ⟨mt_World___len__, fd_World___len__, F_World___len__⟩ := yM_ok g82
  obtain ⟨mt_World___eq__, fd_World___eq__, F_World___eq__⟩ := yM_ok g83
  obtain ⟨m_is_name, fd_is_name, F_is_name⟩ := yG_ok X G g84
  obtain ⟨mt_Pacts___init__, fd_Pacts___init__, F_Pacts___init__⟩ := yM_ok g85
  obtain ⟨mt_Pacts_fits_pair, fd_Pacts_fits_pair, F_Pacts_fits_pair⟩ := yM_ok g86
  obtain ⟨mt_Pacts_fits_helper, fd_Pacts_fits_helper, F_Pacts_fits_helper⟩ := yM_ok g87
  obtain ⟨mt_Pacts_words_called, fd_Pacts_words_called, F_Pacts_words_called⟩ := yM_ok g88
  obtain ⟨mt_Pacts_pair_of, fd_Pacts_pair_of, F_Pacts_pair_of⟩ := yM_ok g89
  obtain ⟨mt_Pacts_names, fd_Pacts_names, F_Pacts_names⟩ := yM_ok g90
  obtain ⟨mt_Pacts_pact, fd_Pacts_pact, F_Pacts_pact⟩ := yM_ok g91
  obtain ⟨mt_Pacts_laden, fd_Pacts_laden, F_Pacts_laden⟩ := yM_ok g92
  obtain ⟨mt_Pacts_over, fd_Pacts_over, F_Pacts_over⟩ := yM_ok g93
  obtain ⟨mt_Pacts_errors, fd_Pacts_errors, F_Pacts_errors⟩ := yM_ok g94
  obtain ⟨mt_Pacts___eq__, fd_Pacts___eq__, F_Pacts___eq__⟩ := yM_ok g95
  obtain ⟨mt_Pacts_lines_told, fd_Pacts_lines_told, F_Pacts_lines_told⟩ := yM_ok g96
  obtain ⟨m_helper_line, fd_helper_line, F_helper_line⟩ := yG_ok X G g97
  obtain ⟨m__law_box, fd__law_box, F__law_box⟩ := yG_ok X G g98
  obtain ⟨m__law_mixed, fd__law_mixed, F__law_mixed⟩ := yG_ok X G g99
  obtain ⟨m__law_take, fd__law_take, F__law_take⟩ := yG_ok X G g100
  obtain ⟨m__law_name, fd__law_name, F__law_name⟩ := yG_ok X G g101
  obtain ⟨m__law_names, fd__law_names, F__law_names⟩ := yG_ok X G g102
  obtain ⟨m__law_drawn, fd__law_drawn, F__law_drawn⟩ := yG_ok X G g103
  obtain ⟨m__law_bare, fd__law_bare, F__law_bare⟩ := yG_ok X G g104
  obtain ⟨m__law_refused, fd__law_refused, F__law_refused⟩ := yG_ok X G g105
  obtain ⟨m__law_all_refused, fd__law_all_refused, F__law_all_refused⟩ := yG_ok X G g106
  obtain ⟨m_law, fd_law, F_law⟩ := yG_ok X G g107
  obtain ⟨m_pocket_step, fd_pocket_step, F_pocket_step⟩ := yG_ok X G g108
  obtain ⟨m_use_step, fd_use_step, F_use_step⟩ := yG_ok X G g109
  obtain ⟨m_move_step, fd_move_step, F_move_step⟩ := yG_ok X G g110
  obtain ⟨mt_Side___eq__, fd_Side___eq__, F_Side___eq__⟩ := yM_ok g111
  obtain ⟨g_HOWS, tp_HOWS⟩ := yT_ok X G g114 (by decide)
  obtain ⟨g_POCKETS_rowtext, tp_POCKETS_rowtext⟩ := yT_ok X G g115 (by decide)
  obtain ⟨g_HOLDERS, tp_HOLDERS⟩ := yT_ok X G g116 (by decide)
  obtain ⟨g_PLAIN, dk_PLAIN⟩ := yD_ok X G g117
  exact ⟨⟨1396, 729, 731, 758, 314, 430, 1218, 1381, 1499, 31, 87, 106, 125, 182, 220, 239, 44, 68, 84, fd_NoWord___init__, 103, fd_NoPact___init__, 122, fd_NoHelper___init__, 179, fd_NoBody___init__, 217, fd_NoSide___init__, 236, fd_NoThing___init__, 255, fd_Table___init__, 304, fd_Table_twin, 372, fd_Stand___init__, 377, fd_Stand_copied, 384, fd_Stand_pacts_told, 412, fd_Stand_is_own, 636, fd_close_shelf, 643, fd_shut_all, 736, fd_row_number, 765, fd_jump_step, 772, fd_done_step, 779, fd_throw_step, 786, fd_arguments, 793, fd_one_catch, 800, fd_catches_of, 807, fd_call_step, 814, fd_step_of, 821, fd_steps_of, 828, fd_read_rows, 1138, fd_Side___init__, 1145, fd_Side_read_body, 1159, fd_Side_pacts, 1166, fd_Side_number, 1264, fd_World___init__, 1271, fd_World_opened_anew, 1278, fd_World_did, 1289, (PySem.W.fnOf "call" "World.call" (defArgs s_World_call) (defBody s_World_call) (defScope s_World_call) (.ref 1281) (.ref 1282) dc_World_call pm_World_call an_World_call (.ref 1288) ct_World_call), 1279, 1280, 1296, fd_World_let_go, 1310, fd_World_close, 1317, fd_World_back, 1324, fd_World_held, 1331, fd_World_shelf, 1338, fd_World_closed, 1345, fd_World_broken, 1352, fd_World_log, 1357, fd_World_story, 1371, fd_World___len__, 1378, fd_World___eq__, 1395, fd_is_name, 1410, fd_Pacts___init__, 1417, fd_Pacts_fits_pair, 1422, fd_Pacts_fits_helper, 1427, fd_Pacts_words_called, 1434, fd_Pacts_pair_of, 1446, fd_Pacts_names, 1453, fd_Pacts_pact, 1460, fd_Pacts_laden, 1467, fd_Pacts_over, 1472, fd_Pacts_errors, 1486, fd_Pacts___eq__, 1491, fd_Pacts_lines_told, 1517, fd_helper_line, 1522, fd__law_box, 1529, fd__law_mixed, 1536, fd__law_take, 1541, fd__law_name, 1548, fd__law_names, 1553, fd__law_drawn, 1560, fd__law_bare, 1567, fd__law_refused, 1572, fd__law_all_refused, 1577, fd_law, 743, fd_pocket_step, 750, fd_use_step, 757, fd_move_step, 1215, fd_Side___eq__⟩, { m_Table := m_Table, cl_Table := cl_Table, mk_Table := mkf_Table _ mt_Table___init__, na_Table_turns := yN_ok g1 0 rfl, na_Table_kept := yN_ok g1 1 rfl, na_Table_peak := yN_ok g1 2 rfl, m_Stand := m_Stand, cl_Stand := cl_Stand, mk_Stand := mkf_Stand _ mt_Stand___init__, na_Stand_sides := yN_ok g3 0 rfl, na_Stand_tables := yN_ok g3 1 rfl, na_Stand_live := yN_ok g3 2 rfl, na_Stand_loaners := yN_ok g3 3 rfl, na_Stand_on_shelf := yN_ok g3 4 rfl, na_Stand_lent_out := yN_ok g3 5 rfl, na_Stand_pile := yN_ok g3 6 rfl, na_Stand_things := yN_ok g3 7 rfl, na_Stand_entered := yN_ok g3 8 rfl, na_Stand_room := yN_ok g3 9 rfl, na_Stand_hands := yN_ok g3 10 rfl, na_Stand_told := yN_ok g3 11 rfl, na_Stand_wanted := yN_ok g3 12 rfl, na_Stand_on_way := yN_ok g3 13 rfl, na_Stand_fault := yN_ok g3 14 rfl, na_Stand_outcome := yN_ok g3 15 rfl, na_Stand_shut := yN_ok g3 16 rfl, m_Side := m_Side, cl_Side := cl_Side, mk_Side := mkf_Side _ mt_Side___init__, oc_Side := yO_ok g5, na_Side_deal := yN_ok g6 0 rfl, na_Side_which := yN_ok g6 1 rfl, na_Side_written := yN_ok g6 2 rfl, na_Side_trees := yN_ok g6 3 rfl, na_Side_row_texts := yN_ok g6 4 rfl, na_Side_row_places := yN_ok g6 5 rfl, na_Side_row_steps := yN_ok g6 6 rfl, m_World := m_World, cl_World := cl_World, mk_World := mkf_World _ mt_World___init__, oc_World := yO_ok g8, na_World_now := yN_ok g9 0 rfl, na_World_past := yN_ok g9 1 rfl, m_Pacts := m_Pacts, cl_Pacts := cl_Pacts, mk_Pacts := mkf_Pacts _ mt_Pacts___init__, oc_Pacts := yO_ok g11, na_Pacts_kept_pairs := yN_ok g12 0 rfl, na_Pacts_kept_pacts := yN_ok g12 1 rfl, m_PactError := m_PactError, m_NoWord := m_NoWord, ox_NoWord := ox_NoWord, xf_NoWord := xf_NoWord, ec_NoWord := ec_NoWord, ini_NoWord := mt_NoWord___init__.at_, ti_NoWord := yFnTy mt_NoWord___init__.fn, na_NoWord_word := yN_ok g16 0 rfl, m_NoPact := m_NoPact, ox_NoPact := ox_NoPact, xf_NoPact := xf_NoPact, ec_NoPact := ec_NoPact, ini_NoPact := mt_NoPact___init__.at_, ti_NoPact := yFnTy mt_NoPact___init__.fn, na_NoPact_at := yN_ok g19 0 rfl, m_NoHelper := m_NoHelper, ox_NoHelper := ox_NoHelper, xf_NoHelper := xf_NoHelper, ec_NoHelper := ec_NoHelper, ini_NoHelper := mt_NoHelper___init__.at_, ti_NoHelper := yFnTy mt_NoHelper___init__.fn, na_NoHelper_name := yN_ok g22 0 rfl, m_NoBody := m_NoBody, ox_NoBody := ox_NoBody, xf_NoBody := xf_NoBody, ec_NoBody := ec_NoBody, ini_NoBody := mt_NoBody___init__.at_, ti_NoBody := yFnTy mt_NoBody___init__.fn, na_NoBody_name := yN_ok g25 0 rfl, na_NoBody_at := yN_ok g25 1 rfl, m_NoSide := m_NoSide, ox_NoSide := ox_NoSide, xf_NoSide := xf_NoSide, ec_NoSide := ec_NoSide, ini_NoSide := mt_NoSide___init__.at_, ti_NoSide := yFnTy mt_NoSide___init__.fn, na_NoSide_at := yN_ok g28 0 rfl, m_NoThing := m_NoThing, ox_NoThing := ox_NoThing, xf_NoThing := xf_NoThing, ec_NoThing := ec_NoThing, ini_NoThing := mt_NoThing___init__.at_, ti_NoThing := yFnTy mt_NoThing___init__.fn, na_NoThing_at := yN_ok g31 0 rfl, m_Closed := m_Closed, ox_Closed := ox_Closed, xf_Closed := xf_Closed, ec_Closed := ec_Closed, ini_Closed := yOvAt g34 0 rfl rfl, m_NothingDone := m_NothingDone, ox_NothingDone := ox_NothingDone, xf_NothingDone := xf_NothingDone, ec_NothingDone := ec_NothingDone, ini_NothingDone := yOvAt g37 0 rfl rfl, ex_NoWord_NoWord := PySem.W.exm_ref hb_NoWord.1 hb_NoWord.2.1 hb_NoWord.2.2 (yS_ok gsub 0 rfl), ex_NoHelper_NoHelper := PySem.W.exm_ref hb_NoHelper.1 hb_NoHelper.2.1 hb_NoHelper.2.2 (yS_ok gsub 1 rfl), ex_NoBody_NoBody := PySem.W.exm_ref hb_NoBody.1 hb_NoBody.2.1 hb_NoBody.2.2 (yS_ok gsub 2 rfl), ex_NoHelper_NoBody := PySem.W.exm_ref hb_NoBody.1 hb_NoBody.2.1 hb_NoBody.2.2 (yS_ok gsub 3 rfl), ex_NoSide_NoSide := PySem.W.exm_ref hb_NoSide.1 hb_NoSide.2.1 hb_NoSide.2.2 (yS_ok gsub 4 rfl), ex_NoSide_NoHelper := PySem.W.exm_ref hb_NoHelper.1 hb_NoHelper.2.1 hb_NoHelper.2.2 (yS_ok gsub 5 rfl), ex_NoSide_NoThing := PySem.W.exm_ref hb_NoThing.1 hb_NoThing.2.1 hb_NoThing.2.2 (yS_ok gsub 6 rfl), ex_NoSide_NothingDone := PySem.W.exm_ref hb_NothingDone.1 hb_NothingDone.2.1 hb_NothingDone.2.2 (yS_ok gsub 7 rfl), ex_NoSide_Closed := PySem.W.exm_ref hb_Closed.1 hb_Closed.2.1 hb_Closed.2.2 (yS_ok gsub 8 rfl), ex_NoHelper_NoSide := PySem.W.exm_ref hb_NoSide.1 hb_NoSide.2.1 hb_NoSide.2.2 (yS_ok gsub 9 rfl), ex_NoHelper_NoThing := PySem.W.exm_ref hb_NoThing.1 hb_NoThing.2.1 hb_NoThing.2.2 (yS_ok gsub 10 rfl), ex_NoHelper_NothingDone := PySem.W.exm_ref hb_NothingDone.1 hb_NothingDone.2.1 hb_NothingDone.2.2 (yS_ok gsub 11 rfl), ex_NoHelper_Closed := PySem.W.exm_ref hb_Closed.1 hb_Closed.2.1 hb_Closed.2.2 (yS_ok gsub 12 rfl), ex_NoThing_NoSide := PySem.W.exm_ref hb_NoSide.1 hb_NoSide.2.1 hb_NoSide.2.2 (yS_ok gsub 13 rfl), ex_NoThing_NoHelper := PySem.W.exm_ref hb_NoHelper.1 hb_NoHelper.2.1 hb_NoHelper.2.2 (yS_ok gsub 14 rfl), ex_NoThing_NoThing := PySem.W.exm_ref hb_NoThing.1 hb_NoThing.2.1 hb_NoThing.2.2 (yS_ok gsub 15 rfl), ex_NoThing_NothingDone := PySem.W.exm_ref hb_NothingDone.1 hb_NothingDone.2.1 hb_NothingDone.2.2 (yS_ok gsub 16 rfl), ex_NoThing_Closed := PySem.W.exm_ref hb_Closed.1 hb_Closed.2.1 hb_Closed.2.2 (yS_ok gsub 17 rfl), ex_NothingDone_NoSide := PySem.W.exm_ref hb_NoSide.1 hb_NoSide.2.1 hb_NoSide.2.2 (yS_ok gsub 18 rfl), ex_NothingDone_NoHelper := PySem.W.exm_ref hb_NoHelper.1 hb_NoHelper.2.1 hb_NoHelper.2.2 (yS_ok gsub 19 rfl), ex_NothingDone_NoThing := PySem.W.exm_ref hb_NoThing.1 hb_NoThing.2.1 hb_NoThing.2.2 (yS_ok gsub 20 rfl), ex_NothingDone_NothingDone := PySem.W.exm_ref hb_NothingDone.1 hb_NothingDone.2.1 hb_NothingDone.2.2 (yS_ok gsub 21 rfl), ex_NothingDone_Closed := PySem.W.exm_ref hb_Closed.1 hb_Closed.2.1 hb_Closed.2.2 (yS_ok gsub 22 rfl), ex_NoSide_PactError := PySem.W.exm_ref hb_PactError.1 hb_PactError.2.1 hb_PactError.2.2 (yS_ok gsub 23 rfl), ex_NoHelper_PactError := PySem.W.exm_ref hb_PactError.1 hb_PactError.2.1 hb_PactError.2.2 (yS_ok gsub 24 rfl), ex_NoThing_PactError := PySem.W.exm_ref hb_PactError.1 hb_PactError.2.1 hb_PactError.2.2 (yS_ok gsub 25 rfl), ex_NothingDone_PactError := PySem.W.exm_ref hb_PactError.1 hb_PactError.2.1 hb_PactError.2.2 (yS_ok gsub 26 rfl), cs_World_Side := yS_ok gsub 27 rfl, ks_World_Side := yK_ok gkit 0 rfl, F_NoWord___init__ := F_NoWord___init__, b_NoWord___init__ := F_NoWord___init__.binds (ps := ["self", "word"]) fun _ _ _ _ _ _ us hl => match us, hl with | [_, _], _ => rfl, F_NoPact___init__ := F_NoPact___init__, b_NoPact___init__ := F_NoPact___init__.binds (ps := ["self", "at"]) fun _ _ _ _ _ _ us hl => match us, hl with | [_, _], _ => rfl, F_NoHelper___init__ := F_NoHelper___init__, b_NoHelper___init__ := F_NoHelper___init__.binds (ps := ["self", "name"]) fun _ _ _ _ _ _ us hl => match us, hl with | [_, _], _ => rfl, F_NoBody___init__ := F_NoBody___init__, b_NoBody___init__ := F_NoBody___init__.binds (ps := ["self", "name", "at"]) fun _ _ _ _ _ _ us hl => match us, hl with | [_, _, _], _ => rfl, F_NoSide___init__ := F_NoSide___init__, b_NoSide___init__ := F_NoSide___init__.binds (ps := ["self", "at"]) fun _ _ _ _ _ _ us hl => match us, hl with | [_, _], _ => rfl, F_NoThing___init__ := F_NoThing___init__, b_NoThing___init__ := F_NoThing___init__.binds (ps := ["self", "at"]) fun _ _ _ _ _ _ us hl => match us, hl with | [_, _], _ => rfl, F_Table___init__ := F_Table___init__, b_Table___init__ := F_Table___init__.binds (ps := ["self"]) fun _ _ _ _ _ _ us hl => match us, hl with | [_], _ => rfl, F_Table_twin := F_Table_twin, b_Table_twin := F_Table_twin.binds (ps := ["self"]) fun _ _ _ _ _ _ us hl => match us, hl with | [_], _ => rfl, mt_Table_twin := mt_Table_twin, F_Stand___init__ := F_Stand___init__, b_Stand___init__ := F_Stand___init__.binds (ps := ["self", "sides"]) fun _ _ _ _ _ _ us hl => match us, hl with | [_, _], _ => rfl, F_Stand_copied := F_Stand_copied, b_Stand_copied := F_Stand_copied.binds (ps := ["self"]) fun _ _ _ _ _ _ us hl => match us, hl with | [_], _ => rfl, mt_Stand_copied := mt_Stand_copied, F_Stand_pacts_told := F_Stand_pacts_told, b_Stand_pacts_told := F_Stand_pacts_told.binds (ps := ["self"]) fun _ _ _ _ _ _ us hl => match us, hl with | [_], _ => rfl, mt_Stand_pacts_told := mt_Stand_pacts_told, F_Stand_is_own := F_Stand_is_own, b_Stand_is_own := F_Stand_is_own.binds (ps := ["self", "team", "handle"]) fun _ _ _ _ _ _ us hl => match us, hl with | [_, _, _], _ => rfl, mt_Stand_is_own := mt_Stand_is_own, F_close_shelf := F_close_shelf, b_close_shelf := F_close_shelf.binds (ps := ["stand", "team"]) fun _ _ _ _ _ _ us hl => match us, hl with | [_, _], _ => rfl, m_close_shelf := m_close_shelf, F_shut_all := F_shut_all, b_shut_all := F_shut_all.binds (ps := ["stand"]) fun _ _ _ _ _ _ us hl => match us, hl with | [_], _ => rfl, m_shut_all := m_shut_all, F_row_number := F_row_number, b_row_number := F_row_number.binds (ps := ["word", "many"]) fun _ _ _ _ _ _ us hl => match us, hl with | [_, _], _ => rfl, m_row_number := m_row_number, F_jump_step := F_jump_step, b_jump_step := F_jump_step.binds (ps := ["words", "at", "many"]) fun _ _ _ _ _ _ us hl => match us, hl with | [_, _, _], _ => rfl, m_jump_step := m_jump_step, F_done_step := F_done_step, b_done_step := F_done_step.binds (ps := ["pact", "rest"]) fun _ _ _ _ _ _ us hl => match us, hl with | [_, _], _ => rfl, m_done_step := m_done_step, F_throw_step := F_throw_step, b_throw_step := F_throw_step.binds (ps := ["pacts", "side", "rest"]) fun _ _ _ _ _ _ us hl => match us, hl with | [_, _, _], _ => rfl, m_throw_step := m_throw_step, F_arguments := F_arguments, b_arguments := F_arguments.binds (ps := ["takes", "rest"]) fun _ _ _ _ _ _ us hl => match us, hl with | [_, _], _ => rfl, m_arguments := m_arguments, F_one_catch := F_one_catch, m_one_catch := m_one_catch, F_catches_of := F_catches_of, m_catches_of := m_catches_of, F_call_step := F_call_step, m_call_step := m_call_step, F_step_of := F_step_of, m_step_of := m_step_of, F_steps_of := F_steps_of, b_steps_of := F_steps_of.binds (ps := ["pacts", "name", "rows"]) fun _ _ _ _ _ _ us hl => match us, hl with | [_, _, _], _ => rfl, m_steps_of := m_steps_of, F_read_rows := F_read_rows, b_read_rows := F_read_rows.binds (ps := ["pacts", "name", "text"]) fun _ _ _ _ _ _ us hl => match us, hl with | [_, _, _], _ => rfl, m_read_rows := m_read_rows, F_Side___init__ := F_Side___init__, b_Side___init__ := F_Side___init__.binds (ps := ["self", "pacts", "number", "bodies"]) fun _ _ _ _ _ _ us hl => match us, hl with | [_, _, _, _], _ => rfl, F_Side_read_body := F_Side_read_body, b_Side_read_body := F_Side_read_body.binds (ps := ["self", "name"]) fun _ _ _ _ _ _ us hl => match us, hl with | [_, _], _ => rfl, mt_Side_read_body := mt_Side_read_body, F_Side_pacts := F_Side_pacts, b_Side_pacts := F_Side_pacts.binds (ps := ["self"]) fun _ _ _ _ _ _ us hl => match us, hl with | [_], _ => rfl, mt_Side_pacts := mt_Side_pacts, F_Side_number := F_Side_number, b_Side_number := F_Side_number.binds (ps := ["self"]) fun _ _ _ _ _ _ us hl => match us, hl with | [_], _ => rfl, mt_Side_number := mt_Side_number, F_World___init__ := F_World___init__, b_World___init__ := F_World___init__.binds (ps := ["self", "near", "far"]) fun _ _ _ _ _ _ us hl => match us, hl with | [_, _, _], _ => rfl, F_World_opened_anew := F_World_opened_anew, b_World_opened_anew := F_World_opened_anew.binds (ps := ["self"]) fun _ _ _ _ _ _ us hl => match us, hl with | [_], _ => rfl, mt_World_opened_anew := mt_World_opened_anew, F_World_did := F_World_did, b_World_did := F_World_did.binds (ps := ["self", "stand"]) fun _ _ _ _ _ _ us hl => match us, hl with | [_, _], _ => rfl, mt_World_did := mt_World_did, F_World_call := F_World_call, b_World_call := b_World_call, mt_World_call := ⟨a_World_call, i_World_call, k_World_call⟩, F_World_let_go := F_World_let_go, b_World_let_go := F_World_let_go.binds (ps := ["self", "thing"]) fun _ _ _ _ _ _ us hl => match us, hl with | [_, _], _ => rfl, mt_World_let_go := mt_World_let_go, F_World_close := F_World_close, b_World_close := F_World_close.binds (ps := ["self"]) fun _ _ _ _ _ _ us hl => match us, hl with | [_], _ => rfl, mt_World_close := mt_World_close, F_World_back := F_World_back, b_World_back := F_World_back.binds (ps := ["self"]) fun _ _ _ _ _ _ us hl => match us, hl with | [_], _ => rfl, mt_World_back := mt_World_back, F_World_held := F_World_held, b_World_held := F_World_held.binds (ps := ["self"]) fun _ _ _ _ _ _ us hl => match us, hl with | [_], _ => rfl, mt_World_held := mt_World_held, F_World_shelf := F_World_shelf, b_World_shelf := F_World_shelf.binds (ps := ["self", "number"]) fun _ _ _ _ _ _ us hl => match us, hl with | [_, _], _ => rfl, mt_World_shelf := mt_World_shelf, F_World_closed := F_World_closed, b_World_closed := F_World_closed.binds (ps := ["self"]) fun _ _ _ _ _ _ us hl => match us, hl with | [_], _ => rfl, mt_World_closed := mt_World_closed, F_World_broken := F_World_broken, b_World_broken := F_World_broken.binds (ps := ["self"]) fun _ _ _ _ _ _ us hl => match us, hl with | [_], _ => rfl, mt_World_broken := mt_World_broken, F_World_log := F_World_log, b_World_log := F_World_log.binds (ps := ["self"]) fun _ _ _ _ _ _ us hl => match us, hl with | [_], _ => rfl, mt_World_log := mt_World_log, F_World_story := F_World_story, b_World_story := F_World_story.binds (ps := ["self"]) fun _ _ _ _ _ _ us hl => match us, hl with | [_], _ => rfl, mt_World_story := mt_World_story, F_World___len__ := F_World___len__, b_World___len__ := F_World___len__.binds (ps := ["self"]) fun _ _ _ _ _ _ us hl => match us, hl with | [_], _ => rfl, mt_World___len__ := mt_World___len__, F_World___eq__ := F_World___eq__, b_World___eq__ := F_World___eq__.binds (ps := ["self", "other"]) fun _ _ _ _ _ _ us hl => match us, hl with | [_, _], _ => rfl, mt_World___eq__ := mt_World___eq__, F_is_name := F_is_name, b_is_name := F_is_name.binds (ps := ["word"]) fun _ _ _ _ _ _ us hl => match us, hl with | [_], _ => rfl, m_is_name := m_is_name, F_Pacts___init__ := F_Pacts___init__, b_Pacts___init__ := F_Pacts___init__.binds (ps := ["self", "pairs", "helpers"]) fun _ _ _ _ _ _ us hl => match us, hl with | [_, _, _], _ => rfl, F_Pacts_fits_pair := F_Pacts_fits_pair, b_Pacts_fits_pair := F_Pacts_fits_pair.binds (ps := ["self", "pair"]) fun _ _ _ _ _ _ us hl => match us, hl with | [_, _], _ => rfl, mt_Pacts_fits_pair := mt_Pacts_fits_pair, F_Pacts_fits_helper := F_Pacts_fits_helper, b_Pacts_fits_helper := F_Pacts_fits_helper.binds (ps := ["self", "helper"]) fun _ _ _ _ _ _ us hl => match us, hl with | [_, _], _ => rfl, mt_Pacts_fits_helper := mt_Pacts_fits_helper, F_Pacts_words_called := F_Pacts_words_called, b_Pacts_words_called := F_Pacts_words_called.binds (ps := ["self", "side"]) fun _ _ _ _ _ _ us hl => match us, hl with | [_, _], _ => rfl, mt_Pacts_words_called := mt_Pacts_words_called, F_Pacts_pair_of := F_Pacts_pair_of, b_Pacts_pair_of := F_Pacts_pair_of.binds (ps := ["self", "word", "side"]) fun _ _ _ _ _ _ us hl => match us, hl with | [_, _, _], _ => rfl, mt_Pacts_pair_of := mt_Pacts_pair_of, F_Pacts_names := F_Pacts_names, b_Pacts_names := F_Pacts_names.binds (ps := ["self", "side"]) fun _ _ _ _ _ _ us hl => match us, hl with | [_, _], _ => rfl, mt_Pacts_names := mt_Pacts_names, F_Pacts_pact := F_Pacts_pact, b_Pacts_pact := F_Pacts_pact.binds (ps := ["self", "name"]) fun _ _ _ _ _ _ us hl => match us, hl with | [_, _], _ => rfl, mt_Pacts_pact := mt_Pacts_pact, F_Pacts_laden := F_Pacts_laden, mt_Pacts_laden := mt_Pacts_laden, F_Pacts_over := F_Pacts_over, mt_Pacts_over := mt_Pacts_over, F_Pacts_errors := F_Pacts_errors, mt_Pacts_errors := mt_Pacts_errors, F_Pacts___eq__ := F_Pacts___eq__, b_Pacts___eq__ := F_Pacts___eq__.binds (ps := ["self", "other"]) fun _ _ _ _ _ _ us hl => match us, hl with | [_, _], _ => rfl, mt_Pacts___eq__ := mt_Pacts___eq__, F_Pacts_lines_told := F_Pacts_lines_told, b_Pacts_lines_told := F_Pacts_lines_told.binds (ps := ["self"]) fun _ _ _ _ _ _ us hl => match us, hl with | [_], _ => rfl, mt_Pacts_lines_told := mt_Pacts_lines_told, F_helper_line := F_helper_line, b_helper_line := F_helper_line.binds (ps := ["pact"]) fun _ _ _ _ _ _ us hl => match us, hl with | [_], _ => rfl, m_helper_line := m_helper_line, F__law_box := F__law_box, b__law_box := F__law_box.binds (ps := ["_law_script"]) fun _ _ _ _ _ _ us hl => match us, hl with | [_], _ => rfl, m__law_box := m__law_box, F__law_mixed := F__law_mixed, b__law_mixed := F__law_mixed.binds (ps := ["_law_cell", "_law_k"]) fun _ _ _ _ _ _ us hl => match us, hl with | [_, _], _ => rfl, m__law_mixed := m__law_mixed, F__law_take := F__law_take, b__law_take := F__law_take.binds (ps := ["_law_box_here", "_law_size"]) fun _ _ _ _ _ _ us hl => match us, hl with | [_, _], _ => rfl, m__law_take := m__law_take, F__law_name := F__law_name, b__law_name := F__law_name.binds (ps := ["_law_box_here"]) fun _ _ _ _ _ _ us hl => match us, hl with | [_], _ => rfl, m__law_name := m__law_name, F__law_names := F__law_names, b__law_names := F__law_names.binds (ps := ["_law_box_here", "_law_many"]) fun _ _ _ _ _ _ us hl => match us, hl with | [_, _], _ => rfl, m__law_names := m__law_names, F__law_drawn := F__law_drawn, b__law_drawn := F__law_drawn.binds (ps := ["_law_box_here"]) fun _ _ _ _ _ _ us hl => match us, hl with | [_], _ => rfl, m__law_drawn := m__law_drawn, F__law_bare := F__law_bare, b__law_bare := F__law_bare.binds (ps := ["_law_world"]) fun _ _ _ _ _ _ us hl => match us, hl with | [_], _ => rfl, m__law_bare := m__law_bare, F__law_refused := F__law_refused, b__law_refused := F__law_refused.binds (ps := ["_law_world", "_law_way", "_law_value"]) fun _ _ _ _ _ _ us hl => match us, hl with | [_, _, _], _ => rfl, m__law_refused := m__law_refused, F__law_all_refused := F__law_all_refused, b__law_all_refused := F__law_all_refused.binds (ps := ["_law_box_here", "_law_world", "_law_names_here"]) fun _ _ _ _ _ _ us hl => match us, hl with | [_, _, _], _ => rfl, m__law_all_refused := m__law_all_refused, F_law := F_law, b_law := F_law.binds (ps := ["_law_script"]) fun _ _ _ _ _ _ us hl => match us, hl with | [_], _ => rfl, m_law := m_law, F_pocket_step := F_pocket_step, b_pocket_step := F_pocket_step.binds (ps := ["words"]) fun _ _ _ _ _ _ us hl => match us, hl with | [_], _ => rfl, m_pocket_step := m_pocket_step, F_use_step := F_use_step, b_use_step := F_use_step.binds (ps := ["words"]) fun _ _ _ _ _ _ us hl => match us, hl with | [_], _ => rfl, m_use_step := m_use_step, F_move_step := F_move_step, b_move_step := F_move_step.binds (ps := ["words"]) fun _ _ _ _ _ _ us hl => match us, hl with | [_], _ => rfl, m_move_step := m_move_step, F_Side___eq__ := F_Side___eq__, b_Side___eq__ := F_Side___eq__.binds (ps := ["self", "other"]) fun _ _ _ _ _ _ us hl => match us, hl with | [_, _], _ => rfl, mt_Side___eq__ := mt_Side___eq__, kb_Pacts_laden_side := kb_ofn (n := 2) (m := 1) F_Pacts_laden rfl (by decide) (fun _ _ _ _ _ _ us ws hu hw => match us, ws, hu, hw with | [_, _], [_], _, _ => rfl), kb_Pacts_over_side := kb_ofn (n := 2) (m := 1) F_Pacts_over rfl (by decide) (fun _ _ _ _ _ _ us ws hu hw => match us, ws, hu, hw with | [_, _], [_], _, _ => rfl), kb_Pacts_errors_side := kb_ofn (n := 2) (m := 1) F_Pacts_errors rfl (by decide) (fun _ _ _ _ _ _ us ws hu hw => match us, ws, hu, hw with | [_, _], [_], _, _ => rfl), kb_one_catch_many := kb_ofn (n := 4) (m := 1) F_one_catch rfl (by decide) (fun _ _ _ _ _ _ us ws hu hw => match us, ws, hu, hw with | [_, _, _, _], [_], _, _ => rfl), kb_catches_of_many := kb_ofn (n := 4) (m := 1) F_catches_of rfl (by decide) (fun _ _ _ _ _ _ us ws hu hw => match us, ws, hu, hw with | [_, _, _, _], [_], _, _ => rfl), kb_call_step_many := kb_ofn (n := 3) (m := 1) F_call_step rfl (by decide) (fun _ _ _ _ _ _ us ws hu hw => match us, ws, hu, hw with | [_, _, _], [_], _, _ => rfl), kb_step_of_many := kb_ofn (n := 4) (m := 1) F_step_of rfl (by decide) (fun _ _ _ _ _ _ us ws hu hw => match us, ws, hu, hw with | [_, _, _, _], [_], _, _ => rfl), g_LETTERS_naming := ⟨_, yV_ok X G g113 0 rfl⟩, g_MOST := ⟨_, yV_ok X G g113 1 rfl⟩, g_MOST_PAIRS := ⟨_, yV_ok X G g113 2 rfl⟩, g_MOST_HELPERS := ⟨_, yV_ok X G g113 3 rfl⟩, g_MOST_TAKES := ⟨_, yV_ok X G g113 4 rfl⟩, g_MOST_THROWS := ⟨_, yV_ok X G g113 5 rfl⟩, g_FIGURES := ⟨_, yV_ok X G g113 6 rfl⟩, g_MOST_FIGURES := ⟨_, yV_ok X G g113 7 rfl⟩, g_MOST_ROWS := ⟨_, yV_ok X G g113 8 rfl⟩, g_LEND := ⟨_, yV_ok X G g113 9 rfl⟩, g_GIVE := ⟨_, yV_ok X G g113 10 rfl⟩, g_HOWS := g_HOWS, tp_HOWS := tp_HOWS, g_POCKETS_rowtext := g_POCKETS_rowtext, tp_POCKETS_rowtext := tp_POCKETS_rowtext, g_HOLDERS := g_HOLDERS, tp_HOLDERS := tp_HOLDERS, g_PLAIN := g_PLAIN, dk_PLAIN := dk_PLAIN, z_list := yZ_ok X G g112 0 rfl, z_dict := yZ_ok X G g112 1 rfl, z_len := yZ_ok X G g112 2 rfl, z_int := yZ_ok X G g112 3 rfl, z_all := yZ_ok X G g112 4 rfl, z_str := yZ_ok X G g112 5 rfl, z_tuple := yZ_ok X G g112 6 rfl, z_enumerate := yZ_ok X G g112 7 rfl, z_sorted := yZ_ok X G g112 8 rfl, z_set := yZ_ok X G g112 9 rfl, z_range := yZ_ok X G g112 10 rfl, z_isinstance := yZ_ok X G g112 11 rfl, z_any := yZ_ok X G g112 12 rfl }⟩
open PySem PySem.W PySem.Calls PyProof.Rows in
set_option maxRecDepth 100000 in
set_option maxHeartbeats 0 in
theorem zfin (spL : PySem.W.Frag → L2.Sp) (hsp : ∀ (K : PySem.W.Frag) (H : L2.Hp) (a : Addr) (ns : List Int), ns.length ≤ 63 → L2.SqL K H a (ns.map L2.V.int) → spL K [.ref a] H (fun v _ => v = .bl true) fun _ _ _ => False)
    (AE : ∀ {w : World} {K : PySem.W.Frag} {h : Heap} {mg : Str → Option Value} {fa : Addr}, K.In h → h.Ns mainGlobals mg → mg ("law" : PySem.Str) = some (.ref fa) → (∃ a : Ad, Txt w K mg a) →
      ∃ fd : FuncData, (∀ (s : Shared) (v : Value), BindsTo s fd ⟨[v], []⟩ [(("_law_script" : PySem.Str), v)]) ∧ ∀ base : Heap, K.In base → base.Ns mainGlobals mg → L2.FnOk (PySem.Challenge.rw_pactford_k23_worlds_at_first : PySem.W.OpenLaw).prog w K mg base L2.CX0 14 fa fd ["_law_script"] (spL K)) : PySem.Challenge.rw_pactford_k23_worlds_at_first.Holds := by
  refine zlaw fun said => ?_
  refine HandSHeadRun.head_any (r := OpenLaw.row PySem.Challenge.rw_pactford_k23_worlds_at_first) (q := view (OpenLaw.row PySem.Challenge.rw_pactford_k23_worlds_at_first).prog [167]) (H := zk) (ob := zob) (M := 11776) (loose := znm) (d := HandSHeadRun.topDef (OpenLaw.row PySem.Challenge.rw_pactford_k23_worlds_at_first).prog 167) (kwd := []) zob_eq
    (by kernel_rfl) (fun s => by kernel_rfl) zrun (by kernel_rfl) (by kernel_rfl) (by kernel_rfl) (by rfl) said (by decide +kernel) ⟨rfl, rfl, rfl, rfl, rfl, by decide +kernel⟩ ?hw ?hc
  case hw => w_witness2
  case hc =>
    refine L2.walk_ofE (l := PySem.Challenge.rw_pactford_k23_worlds_at_first) (n := 63) (k := 14) (x := "_law_script") (CX := L2.CX0) rfl (by decide) (by kernel_rfl) ⟨rfl, by decide, by decide⟩ ?F (fun _ _ _ _ z => z)
    intro w mg fa h Y G hmg0
    obtain ⟨K, KX, c⟩ := Y
    have hmg : mg ("law" : PySem.Str) = some (.ref fa) := by
      have e : (HandSHeadRun.topDef (OpenLaw.row PySem.Challenge.rw_pactford_k23_worlds_at_first).prog 167).name = ("law" : PySem.Str) := by kernel_rfl
      rw [← e]
      exact hmg0
    obtain ⟨fd, hb, hF⟩ := AE (w := w) KX G hmg (zfacts KX G c)
    exact ⟨K, fd, spL K, KX, hb, fun H a ns hl _ hS => hsp K H a ns hl hS, hF⟩
end Pf
set_option Elab.async false
set_option linter.all false
set_option maxRecDepth 100000
set_option maxHeartbeats 4000000
namespace Pf
open PySem L2
local macro_rules | `(tactic| walk_at "nz") => `(tactic| (show (_ : Int) ≠ 0; omega))
local macro_rules | `(tactic| walk_at "ne") => `(tactic| first | assumption | (apply Ne.symm; assumption))
local macro_rules | `(tactic| walk_at "hp") => `(tactic| first | assumption | exact upd_same | (refine upd_get ?_ ?_; walk_at "ne"; walk_at "hp"))
local macro_rules | `(tactic| walk_at "sd") => `(tactic| first
  | (with_reducible show (_ : Int) < _; omega)
  | (with_reducible show (_ : Int) ≤ _; omega)
  | (with_reducible show (_ : Nat) < _; omega)
  | (with_reducible show (_ : Nat) ≤ _; omega)
  | rfl
  | assumption
  | exact kV_int _
  | exact kV_str _
  | (show (_ : Int) ≠ 0; omega)
  | exact SqL.of (by walk_at "hp")
  | exact ⟨_, SqL.of (by walk_at "hp")⟩
  | exact ⟨_, SqT.of (by walk_at "hp")⟩
  | exact ⟨_, (by assumption)⟩
  | exact SqT.of (by walk_at "hp")
  | exact Rd.of (by walk_at "hp")
  | exact Or.inl (SqL.of (by walk_at "hp"))
  | exact Or.inr (SqT.of (by walk_at "hp"))
  | exact Or.inr (by assumption)
  | (walk_at "hp")
  | (exact Or.inl ⟨rfl, _, SqL.of (by walk_at "hp")⟩)
  | (exact Or.inl ⟨by omega, by omega⟩)
  | (exact Or.inr ⟨by omega, by omega⟩)
  | (refine ⟨?_, ?_, ?_⟩ <;> omega)
  | omega
  | (exact small_le (by first | omega | (simp only [List.length_cons, List.length_nil]; omega)))
  | (exact small_lt (by first | omega | (simp only [List.length_cons, List.length_nil]; omega)))
  | exact Nat.le_of_ble_eq_true rfl
  | exact ⟨_, rfl⟩
  | decide)
local macro_rules | `(tactic| walk_at "st") => `(tactic| first
  | with_reducible refine sq_seq ?_
  | apply Exists.intro
  | (refine And.intro ?_ ?_; (walk_at "sd")))
local macro_rules | `(tactic| walk_at "go") => `(tactic| repeat (walk_at "st"))
section
variable {P : Program} {w : World} {K : PySem.W.Frag} {mg : Str → Option Value} {base : Heap} {a : Ad}
theorem nodup_sub_len {α : Type} [DecidableEq α] : ∀ {l m : List α}, l.Nodup → (∀ x ∈ l, x ∈ m) → l.length ≤ m.length
  | [], _, _, _ => Nat.zero_le _
  | a :: r, m, hn, hs => by
    rw [List.nodup_cons] at hn
    have ha := hs a List.mem_cons_self
    have h1 := nodup_sub_len (l := r) (m := m.erase a) hn.2 fun x hx => by
      have hne : x ≠ a := fun z => hn.1 (z ▸ hx)
      exact (List.mem_erase_of_ne hne).mpr (hs x (List.mem_cons_of_mem _ hx))
    rw [List.length_erase_of_mem ha] at h1
    have := List.length_pos_of_mem ha
    rw [List.length_cons]
    omega
theorem flat_strs1 (ys : List Str) : (ys.map V.str).all flatV = true := by
  rw [List.all_map]
  exact List.all_eq_true.mpr fun _ _ => rfl
theorem nodup_snoc {α : Type} {l : List α} {x : α} (h : l.Nodup) (hx : x ∉ l) : (l ++ [x]).Nodup := by
  rw [List.nodup_append]
  refine ⟨h, List.nodup_cons.mpr ⟨(fun z => nomatch z), List.nodup_nil⟩, fun y hy z hz => ?_⟩
  rw [List.mem_singleton.mp hz]
  exact fun e => hx (e ▸ hy)
theorem in_strs (x : Str) (ws : List Str) : inV (.str x) (ws.map V.str) = decide (x ∈ ws) := by
  unfold inV
  rw [List.any_map]
  induction ws with
  | nil => rfl
  | cons y r ih =>
    rw [List.any_cons, ih]
    show ((y == x) || _) = _
    by_cases h : y = x
    · subst h; simp
    · have h2 : ¬ x = y := fun z => h z.symm
      simp [h, h2]
theorem name_app {u : Str} {c : Nat} (h : IsName u) (h1 : 97 ≤ c) (h2 : c ≤ 122) : IsName (cutS u none (some 7) ++ (⟨#[c]⟩ : Str)) := by
  have e : TL.tl (cutS u none (some 7) ++ (⟨#[c]⟩ : Str)) = (TL.tl u).take (min 7 u.length) ++ [c] := by
    rw [TL.tl_append]
    rfl
  have hl := TL.len_tl (cutS u none (some 7) ++ (⟨#[c]⟩ : Str))
  rw [e, List.length_append, List.length_take] at hl
  have h8 := h.hi
  have hu := TL.len_tl u
  refine ⟨by rw [hl]; exact Nat.le_add_left _ _, ?_, fun d hd => ?_⟩
  · rw [hl]
    show _ + 1 ≤ 8
    omega
  · have hd2 : d ∈ (TL.tl u).take (min 7 u.length) ++ [c] := by rw [← e]; exact hd
    rcases List.mem_append.mp hd2 with z | z
    · exact h.cs d (List.mem_of_mem_take z)
    · rw [List.mem_singleton.mp z]; exact ⟨h1, h2⟩
abbrev spares : List Str := ["q", "qa", "qb", "qc", "qd", "qe", "qf", "qg", "qh", "qi", "qj", "qk", "ql", "qm", "qn", "qo"]
theorem spares_nd : spares.Nodup := by decide +kernel
theorem isName_dec {w : Str} (h : (decide (1 ≤ w.length) && decide (w.length ≤ 8) && w.cps.toList.all fun c => decide (97 ≤ c) && decide (c ≤ 122)) = true) : IsName w := by
  rw [Bool.and_eq_true, Bool.and_eq_true, List.all_eq_true] at h
  refine ⟨of_decide_eq_true h.1.1, of_decide_eq_true h.1.2, fun c hc => ?_⟩
  have := h.2 c hc
  rw [Bool.and_eq_true] at this
  exact ⟨of_decide_eq_true this.1, of_decide_eq_true this.2⟩
theorem spares_ok : ∀ w ∈ spares, IsName w := by
  have h : (spares.all fun w => (decide (1 ≤ w.length) && decide (w.length ≤ 8) && w.cps.toList.all fun c => decide (97 ≤ c) && decide (c ≤ 122))) = true := by decide +kernel
  intro w hw
  exact isName_dec (List.all_eq_true.mp h w hw)
def spNames : Sp := fun vs H Q _ => ∃ (b g l : Addr) (n m : Int), vs = [.ref b, .int m] ∧ BoxAt H b g l n ∧ n ≤ 800000 ∧ 0 ≤ m ∧ m ≤ 16 ∧
  ∀ (D : Addr) (ws : List Str) (n' : Int) (H' : Hp), (ws.length : Int) = m → ws.Nodup → (∀ w ∈ ws, IsName w) → H D = none → H' D = some (.lst (ws.map V.str)) → BoxAt H' b g l n' → n' ≤ n + 12 * m → Keep2 b g H H' → Q (.ref D) H'
theorem ok__law_names (T : Txt w K mg a) : FnOk P w K mg base CX0 4 a.f__law_names a.d__law_names ["_law_box_here", "_law_many"] spNames := by
  have G__law_take := ok__law_take (P := P) (w := w) (base := base) T
  have G__law_name := ok__law_name (P := P) (w := w) (base := base) T
  refine T.F__law_names.ok sc__law_names (fun vs H Q E h => ?_) (fun cdv A outer s H vs Q E hr h => ?_)
  · obtain ⟨b, g, l, n, m, rfl, _⟩ := h
    rfl
  · obtain ⟨b, g, l, n, m, rfl, B, hn, m0, m1, q⟩ := h
    refine ⟨_, (pss_cons (ps_set (i := 2) sc__law_names.nd rfl (Or.inl rfl) (pe_lst pa_nil))
      (pss_cons (ps_stop (ps_for PassesOwn.never rfl (pi_wait (pi_range1 rfl T.z_range (pa_cons (pv 1) pa_nil))) (pg_name (i := 3) sc__law_names.nd rfl (Or.inl rfl)) (pss_cons (ps_set (i := 4) sc__law_names.nd rfl (Or.inl rfl) (pe_call G__law_name (hr.mono (by decide)) rfl T.m__law_name T.F__law_name.kp T.b__law_name .nil pass0 (pa_cons (pv 0) pa_nil)))
      (pss_mid (ps_if (PW.pt (pw_and (pt_cmpR op_gt (pe_callB call_lenK (by rfl) T.z_len PySem.boot_len (pa_cons (pv 2) pa_nil)) pe_int (nomark _)) (pw_and1 (pt_cmpR op_eq (pe_call G__law_take (hr.mono (by decide)) rfl T.m__law_take T.F__law_take.kp T.b__law_take .nil pass0 (pa_cons (pv 0) (pa_cons pe_int pa_nil))) pe_int (nomark _))))) (pss_one (ps_set (i := 4) sc__law_names.nd rfl (Or.inl rfl) (pe_op op_add_str (pe_slice sl_str (pe_ix ix_list (pv 2) (pe_un un_neg pe_int) (fun _ _ => rfl)) po_none (po_some pe_int)) (pe_ix ix_str pe_str (pe_call G__law_take (hr.mono (by decide)) rfl T.m__law_take T.F__law_take.kp T.b__law_take .nil pass0 (pa_cons (pv 0) (pa_cons pe_int pa_nil))) (fun _ _ => rfl))))) pss_nil)
      (pss_cons (ps_stop (ps_for PassesOwn.never rfl (pi_wait (pi_list (by exact (pe_lst (pa_cons pe_str (pa_cons pe_str (pa_cons pe_str (pa_cons pe_str (pa_cons pe_str (pa_cons pe_str (pa_cons pe_str (pa_cons pe_str (pa_cons pe_str (pa_cons pe_str (pa_cons pe_str (pa_cons pe_str (pa_cons pe_str (pa_cons pe_str (pa_cons pe_str (pa_cons pe_str pa_nil)))))))))))))))))))) (pg_name (i := 5) sc__law_names.nd rfl (Or.inl rfl)) (pss_one (ps_if (pt_cmpR op_in_seq (pv 4) (pv 2) (by rfl)) (pss_one (ps_set (i := 4) sc__law_names.nd rfl (Or.inl rfl) (pv 5))) pss_nil))))
      (pss_one (ps_expr (pe_bm PySem.F.plainAttrs_list PySem.F.slot_list_append PySem.F.type_list_append mt_append (pv 2) (pa_cons (pv 4) pa_nil)))))))))
      (pss_one (ps_ret (pv 2))))), ?_⟩
    refine ⟨Nat.zero_le _, fun D hD => ?_⟩
    have nD := B.fresh hD
    refine stop_in ⟨_, rfl, m, rfl, by omega, by omega, ?_⟩
    refine wait ?_
    refine forR (lo := 0) (n := m.toNat) (fun i σ H' => ∃ (u3 u4 u5 : Option V) (ws : List Str) (n' : Int), σ = [some (.ref b), some (.int m), some (.ref D), u3, u4, u5] ∧ ws.length = i ∧ ws.Nodup ∧ (∀ w ∈ ws, IsName w) ∧ H' D = some (.lst (ws.map V.str)) ∧
      BoxAt H' b g l n' ∧ n' ≤ n + 12 * i ∧ (∀ x o, x ≠ b → x ≠ g → x ≠ D → H x = some o → H' x = some o)) ?_ ?_ ?_
    · exact ⟨_, _, _, [], n, rfl, rfl, .nil, (fun _ h => nomatch h), upd_same, B.upd nD, by omega, fun x o _ _ h3 e => upd_get h3 e⟩
    · rintro i σ H1 hi ⟨u3, u4, u5, ws, n1, rfl, hl, hd, hw, h1, B1, hn1, k1⟩
      walk_at "go"
      intro w2 n2 H2 hw2 B2 hn2 k2
      have h2 := k2 _ _ nD.1 nD.2.1 h1
      refine mid_of (fun σ H3 => ∃ (w3 : Str) (n3 : Int), σ = [some (.ref b), some (.int m), some (.ref D), some (.int (0 + i)), some (.str w3), u5] ∧ IsName w3 ∧ BoxAt H3 b g l n3 ∧ n3 ≤ n2 + 2 ∧ Keep2 b g H2 H3) ?_ ?_
      · walk_at "go"
        refine ifD (fun e => ?_) (fun _ => ?_)
        · walk_at "go"
          intro r3 H3 r30 r31 B3 k3
          have h3 := k3 _ _ nD.1 nD.2.1 h2
          walk_at "go"
          refine ifD (fun _ => ?_) (fun _ => ?_)
          · have e2 : 0 < ws.length := by rw [List.length_map] at e; omega
            obtain ⟨u, hu⟩ : ∃ u, ws[ws.length - 1]? = some u := ⟨_, List.getElem?_eq_getElem (by omega)⟩
            have hix : atI (ws.map V.str) (-1) = some (.str u) := by
              unfold atI ixN
              rw [List.length_map, if_neg (by decide), if_pos (by omega), Option.bind_some, List.getElem?_map, show ((-1 : Int) + (ws.length : Int)).toNat = ws.length - 1 by omega, hu] <;> rfl
            have hun := hw u (List.mem_of_getElem? hu)
            have hul : u.length ≤ sizeLine := small_le (by have := hun.hi; omega)
            have al := abc_len
            walk_at "go"
            intro r4 H4 r40 r41 B4 k4
            obtain ⟨c, e4, c0, c1⟩ := abc_at r40 r41
            have hnn := name_app hun c0 c1
            have hln : (cutS u none (some 7)).length + (⟨#[c]⟩ : Str).length ≤ sizeLine := small_le (by
              have := cutS_length u none (some 7)
              have := hun.hi
              show _ + 1 ≤ _
              omega)
            walk_at "go"
            exact wait ⟨_, _, rfl, hnn, B4, by omega, k3.trans k4⟩
          · exact wait ⟨_, _, rfl, hw2, B3, by omega, k3⟩
        · refine ifF rfl ?_
          exact wait ⟨_, _, rfl, hw2, B2, by omega, Keep2.refl _ _ _⟩
      · rintro σ H3 ⟨w3, n3, rfl, hw3, B3, hn3, k3⟩
        have h3 := k3 _ _ nD.1 nD.2.1 h2
        refine sq_seq (stop_in ⟨by decide, fun L hL => ⟨L, rfl, ⟨_, SqL.of upd_same⟩, ?_⟩⟩)
        have nLD : D ≠ L := ne_of_none h3 hL
        refine wait ?_
        refine forL (K := K) (a := L) (xs := spares.map V.str) (fun j σ H4 => H4 = upd H3 L (.lst (spares.map V.str)) ∧ ∃ (w4 : Str) (u5 : Option V), σ = [some (.ref b), some (.int m), some (.ref D), some (.int (0 + i)), some (.str w4), u5] ∧ IsName w4 ∧ (w4 ∉ ws ∨ ∀ v ∈ spares.take j, v ∈ ws)) ?_ ?_ ?_ ?_
        · exact ⟨rfl, w3, u5, rfl, hw3, .inr fun v hv => nomatch hv⟩
        · rintro j σ H4 _ ⟨rfl, _⟩
          exact SqL.of upd_same
        · rintro j x σ H4 hj ⟨rfl, w4, u5', rfl, hw4, hor⟩
          rw [List.getElem?_map] at hj
          obtain ⟨v, hv, rfl⟩ := Option.map_eq_some_iff.mp hj
          have fl := flat_strs1 ws
          have h4 : upd H3 L (.lst (spares.map V.str)) D = some (.lst (ws.map V.str)) := upd_get nLD h3
          refine ⟨_, rfl, _, rfl, D, _, rfl, .inl (SqL.of h4), rfl, fl, ?_⟩
          rw [if_neg (by decide), in_strs]
          refine ⟨_, rfl, ifD (fun e => ?_) (fun e => ?_)⟩
          · walk_at "go"
            refine wait ⟨rfl, v, _, rfl, spares_ok v (List.mem_of_getElem? hv), ?_⟩
            rcases hor with z | z
            · exact absurd e z
            · by_cases y : v ∈ ws
              · refine .inr fun u hu => ?_
                rw [List.take_add_one, hv, Option.toList_some] at hu
                rcases List.mem_append.mp hu with t | t
                · exact z u t
                · rw [List.mem_singleton.mp t]; exact y
              · exact .inl y
          · exact wait ⟨rfl, w4, _, rfl, hw4, .inl e⟩
        · rintro σ H4 ⟨rfl, w4, u5', rfl, hw4, hor⟩
          have h4 : upd H3 L (.lst (spares.map V.str)) D = some (.lst (ws.map V.str)) := upd_get nLD h3
          have hno : w4 ∉ ws := by
            rcases hor with z | z
            · exact z
            · exfalso
              have := nodup_sub_len spares_nd fun v hv => z v (by rw [List.length_map, List.take_length]; exact hv)
              have e16 : spares.length = 16 := rfl
              omega
          have nL := B3.fresh hL
          walk_at "go"
          refine ⟨small_lt (by rw [List.length_map]; omega), wait ⟨_, _, _, ws ++ [w4], n3, rfl, by rw [List.length_append, hl] <;> rfl, ?_, ?_, ?_, (B3.upd nL).upd nD, by omega, ?_⟩⟩
          · exact nodup_snoc hd hno
          · intro x hx
            rcases List.mem_append.mp hx with z | z
            · exact hw x z
            · rw [List.mem_singleton.mp z]; exact hw4
          · rw [upd_same, List.map_append] <;> rfl
          · intro x o a1 a2 a3 e
            have e3 := k3 x o a1 a2 (k2 x o a1 a2 (k1 x o a1 a2 a3 e))
            rw [upd_ne a3, upd_ne (ne_of_none e3 hL)]
            exact e3
    · rintro σ H' ⟨u3, u4, u5, ws, n1, rfl, hl, hd, hw, h1, B1, hn1, k1⟩
      walk_at "go"
      exact q D ws n1 _ (by omega) hd hw hD h1 B1 (by omega) fun x o a1 a2 e => k1 x o a1 a2 (ne_of_none e hD) e
theorem BoxAt.tups {H H' : Hp} {b g l : Addr} {n : Int} (B : BoxAt H b g l n) (k : Keep2 b g H H') : ∀ t ys, H t = some (.tup ys) → H' t = some (.tup ys) := fun t ys e => by
  obtain ⟨⟨_, h1⟩, ⟨_, h2⟩, _⟩ := B.lists
  exact k _ _ (ne_of e h1 (by intro z; cases z)) (ne_of e h2 (by intro z; cases z)) e
theorem cutV_from (xs : List V) (k : Nat) : cutV xs (some (k : Int)) none = xs.drop k := by
  unfold cutV
  rw [HT.sIx_nat, HT.sIx_none]
  by_cases h : k ≤ xs.length
  · rw [Nat.min_eq_left h, List.take_of_length_le (by rw [List.length_drop] <;> omega)]
  · rw [Nat.min_eq_right (by omega), List.drop_eq_nil_of_le (by omega), List.drop_eq_nil_of_le (by omega), List.take_nil]
theorem cutV_to (xs : List V) (k : Nat) : cutV xs none (some (k : Int)) = xs.take k := by
  unfold cutV
  rw [HT.sIx_nat, HT.sIx_none, List.drop_zero, Nat.sub_zero]
  by_cases h : k ≤ xs.length
  · rw [Nat.min_eq_left h]
  · rw [Nat.min_eq_right (by omega), List.take_of_length_le (by omega), List.take_of_length_le (by omega)]
theorem cutV_f1 (xs : List V) : cutV xs (some 1) none = xs.drop 1 := cutV_from xs 1
theorem cutV_t1 (xs : List V) : cutV xs none (some 1) = xs.take 1 := cutV_to xs 1
theorem drop_take_perm {α : Type} (l : List α) (k : Nat) : (l.drop k ++ l.take k).Perm l := (List.perm_append_comm).trans (by rw [List.take_append_drop])
structure Pr where
  near : Str
  far : Str
  laden : Bool
def PrAt (H : Hp) (e : Addr × Pr) : Prop := H e.1 = some (.tup [.str e.2.near, .str e.2.far, .bl e.2.laden])
structure PairsAt (H : Hp) (D : Addr) (L : List (Addr × Pr)) : Prop where
  ls : H D = some (.lst (L.map fun e => V.ref e.1))
  at_ : ∀ e ∈ L, PrAt H e
theorem PairsAt.keep {H H' : Hp} {D : Addr} {L : List (Addr × Pr)} (h : PairsAt H D L) (k : ∀ o, H D = some o → H' D = some o) (kt : ∀ t ys, H t = some (.tup ys) → H' t = some (.tup ys)) : PairsAt H' D L :=
  ⟨k _ h.ls, fun e he => kt _ _ (h.at_ e he)⟩
theorem PairsAt.same {H H' : Hp} {D : Addr} {L : List (Addr × Pr)} (h : PairsAt H D L) (k : Same H H') : PairsAt H' D L := h.keep (fun o e => k _ _ e) fun t ys e => k _ _ e
structure Good (ps : List Pr) : Prop where
  len : ps.length ≤ 6
  nn : (ps.map (·.near)).Nodup
  nf : (ps.map (·.far)).Nodup
  kn : ∀ p ∈ ps, IsName p.near
  kf : ∀ p ∈ ps, IsName p.far
theorem keep_none {b g : Addr} {H H' : Hp} {x : Addr} (k : Keep2 b g H H') (n1 : x ≠ b) (n2 : x ≠ g) (h : H' x = none) : H x = none := by
  cases z : H x with
  | none => rfl
  | some o => rw [k x o n1 n2 z] at h; cases h
def nameB (w : Str) : Bool := (decide (1 ≤ w.length) && decide (w.length ≤ 8)) && w.cps.toList.all fun c => decide (c ∈ (Str.ofString "abcdefghijklmnopqrstuvwxyz").cps.toList)
theorem mem_abc {c : Nat} : c ∈ (Str.ofString "abcdefghijklmnopqrstuvwxyz").cps.toList ↔ 97 ≤ c ∧ c ≤ 122 := by
  rw [abc_cps, List.mem_map]
  constructor
  · rintro ⟨k, hk, rfl⟩
    have := List.mem_range.mp hk
    omega
  · intro h
    exact ⟨c - 97, List.mem_range.mpr (by omega), by omega⟩
theorem nameB_iff {w : Str} : nameB w = true ↔ IsName w := by
  unfold nameB
  rw [Bool.and_eq_true, Bool.and_eq_true, List.all_eq_true]
  constructor
  · intro h
    exact ⟨of_decide_eq_true h.1.1, of_decide_eq_true h.1.2, fun c hc => mem_abc.mp (of_decide_eq_true (h.2 c hc))⟩
  · intro h
    exact ⟨⟨decide_eq_true h.lo, decide_eq_true h.hi⟩, fun c hc => decide_eq_true (mem_abc.mpr (h.cs c hc))⟩
def spIsName : Sp := fun vs H Q _ => ∃ w : Str, vs = [.str w] ∧ w.length ≤ 100000 ∧ ∀ H', Same H H' → Q (.bl (nameB w)) H'
theorem ok_is_name (T : Txt w K mg a) : FnOk P w K mg base CX0 1 a.f_is_name a.d_is_name ["word"] spIsName := by
  refine T.F_is_name.ok sc_is_name (fun vs H Q E h => ?_) (fun cdv A outer s H vs Q E hr h => ?_)
  · obtain ⟨w, rfl, _⟩ := h
    rfl
  · obtain ⟨w, rfl, hl, q⟩ := h
    have hsz : w.length ≤ sizeLine := small_le hl
    refine ⟨_, (pss_one (ps_ret (pe_and (pe_chain op_le op_le pe_int (pe_callB call_len_str (by rfl) T.z_len PySem.boot_len (pa_cons (pv 0) pa_nil)) (pe_globI rfl T.g_MOST)) (pe_one (pe_callB (cr_all rfl) (by rfl) T.z_all (by decide +kernel) (pa_cons (pe_lc (own := [("sign", 1)]) (g := gName 1) (tt := tYes) rfl sc_is_name.nd (pi_str (pv 0)) (blkOk_by (own := [("sign", 1)]) (N := n_is_name) (sc := defScope s_is_name) (by decide +kernel)) (fun _ _ _ _ _ => (pg_name (i := 1) sc_is_name.nd rfl (Or.inl rfl))) (fun _ _ _ _ _ => pts_nil) (fun _ _ _ _ _ => (pe_cmpR op_in_str (pv 1) (pe_globS rfl T.g_LETTERS_naming) rfl))) pa_nil)))))), ?_⟩
    walk_at "go"
    refine ifD (fun h1 => ?_) (fun h1 => ?_)
    · walk_at "go"
      refine ifD (fun h2 => ?_) (fun h2 => ?_)
      · walk_at "go"
        intro D hD
        refine lcW (walk_str (z := w)) (fun i H' => H' D = some (.lst ((((w.cps.toList.take i).map fun c => decide (c ∈ (Str.ofString "abcdefghijklmnopqrstuvwxyz").cps.toList))).map V.bl)) ∧ Same H H') ?_ ?_ ?_ ?_
        · exact ⟨upd_same, Same.upd_new hD⟩
        · exact fun _ _ _ _ => trivial
        · rintro i x H1 _ hi ⟨g1, g2⟩ ⟨rfl, c, hc, rfl⟩
          have hc2 : w.cps.toList[i]? = some c := by rw [Array.getElem?_toList]; exact hc
          have hlt : (w.cps.toList.take i).length ≤ 8 := by
            rw [List.length_take, Array.length_toList]
            have : w.length = w.cps.size := rfl
            omega
          refine ⟨rfl, ?_⟩
          walk_at "go"
          refine ⟨small_lt (by rw [List.length_map, List.length_map]; omega), wait ⟨?_, fun x o e => upd_get (ne_of_none e hD) (g2 x o e)⟩⟩
          rw [upd_same, StrLaws.found_one, List.take_add_one, hc2, List.map_append, List.map_append] <;> rfl
        · rintro H1 ⟨g1, g2⟩
          walk_at "go"
          have e1 : nameB w = ((w.cps.toList.take w.cps.size).map fun c => decide (c ∈ (Str.ofString "abcdefghijklmnopqrstuvwxyz").cps.toList)).all id := by
            rw [List.take_of_length_le (by rw [Array.length_toList] <;> omega), List.all_map]
            unfold nameB
            rw [decide_eq_true (show 1 ≤ w.length by omega), decide_eq_true (show w.length ≤ 8 by omega)] <;> rfl
          rw [← e1]
          exact q _ g2
      · have e1 : nameB w = false := by
          unfold nameB
          rw [decide_eq_false (show ¬ w.length ≤ 8 by omega), Bool.and_false, Bool.false_and]
        rw [← e1]
        exact q _ (fun _ _ e => e)
    · have e1 : nameB w = false := by
        unfold nameB
        rw [decide_eq_false (show ¬ 1 ≤ w.length by omega), Bool.false_and, Bool.false_and]
      refine ⟨_, rfl, ifF rfl ?_⟩
      rw [← e1]
      exact q _ (fun _ _ e => e)
abbrev pf (kp kd : Addr) : List (Str × V) := [(("kept_pairs" : Str), V.ref kp), (("kept_pacts" : Str), V.ref kd)]
structure PactsAt (C : Addr) (H : Hp) (x kp kd : Addr) (L : List (Addr × Pr)) (kvs : List (Key × V)) : Prop where
  ob : ∃ dx, H x = some (.ins C dx (pf kp kd))
  pr : PairsAt H kp L
  pc : H kd = some (.dK kvs)
theorem PactsAt.same {C : Addr} {H H' : Hp} {x kp kd : Addr} {L : List (Addr × Pr)} {kvs : List (Key × V)} (h : PactsAt C H x kp kd L kvs) (k : Same H H') : PactsAt C H' x kp kd L kvs := by
  obtain ⟨dx, ho⟩ := h.ob
  exact ⟨⟨dx, k _ _ ho⟩, h.pr.same k, k _ _ h.pc⟩
def Pr.word (p : Pr) (s : Int) : Str := if s = 0 then p.near else p.far
theorem pr_at (p : Pr) {s : Int} (hs : s = 0 ∨ s = 1) : atI [V.str p.near, .str p.far, .bl p.laden] s = some (.str (p.word s)) := by
  rcases hs with rfl | rfl <;> rfl
theorem pr_at1 (p : Pr) {s : Int} (hs : s = 0 ∨ s = 1) : atI [V.str p.near, .str p.far, .bl p.laden] (1 - s) = some (.str (p.word (1 - s))) := by
  rcases hs with rfl | rfl <;> rfl
def spWords (C : Addr) : Sp := fun vs H Q _ => ∃ (x kp kd : Addr) (L : List (Addr × Pr)) (kvs : List (Key × V)) (s : Int), vs = [.ref x, .int s] ∧ PactsAt C H x kp kd L kvs ∧ (s = 0 ∨ s = 1) ∧ L.length ≤ 10000 ∧
  ∀ D H', H D = none → H' D = some (.lst ((L.map fun e => e.2.word s).map V.str)) → Same H H' → Q (.ref D) H'
theorem ok_Pacts_words_called (T : Txt w K mg a) : FnOk P w K mg base CX0 1 a.f_Pacts_words_called a.d_Pacts_words_called ["self", "side"] (spWords a.c_Pacts) := by
  have cl := T.cl_Pacts
  have n1 := T.na_Pacts_kept_pairs
  refine T.F_Pacts_words_called.ok sc_Pacts_words_called (fun vs H Q E h => ?_) (fun cdv A outer s H vs Q E hr h => ?_)
  · obtain ⟨x, kp, kd, L, kvs, s, rfl, _⟩ := h
    rfl
  · obtain ⟨x, kp, kd, L, kvs, s, rfl, PA, hs, hl, q⟩ := h
    obtain ⟨dx, ho⟩ := PA.ob
    have hls := PA.pr.ls
    refine ⟨_, (pss_one (ps_ret (pe_lc (own := [("pair", 2)]) (g := gName 2) (tt := tYes) (te := (tOp (rIxT K) _ _)) rfl sc_Pacts_words_called.nd (pi_list (by exact (pe_fld (pv 0) rfl))) (blkOk_by (own := [("pair", 2)]) (N := n_Pacts_words_called) (sc := defScope s_Pacts_words_called) (by decide +kernel)) (fun _ _ _ _ _ => (pg_name (i := 2) sc_Pacts_words_called.nd rfl (Or.inl rfl))) (fun _ _ _ _ _ => pts_nil) (fun _ _ _ _ _ => (pe_ix ix_tup (pv 2) (pv 1) (fun _ _ => rfl)))))), ?_⟩
    walk_at "go"
    intro D hD
    refine lcL (K := K) (a := kp) (xs := L.map fun e => V.ref e.1) (fun i H' => H' D = some (.lst (((L.take i).map fun e => e.2.word s).map V.str)) ∧ Same H H') ?_ ?_ ?_ ?_
    · exact ⟨upd_same, Same.upd_new hD⟩
    · exact fun i H' _ h => SqL.of (h.2 _ _ hls)
    · rintro i y H' hi ⟨g1, g2⟩
      rw [List.getElem?_map] at hi
      obtain ⟨e, he, rfl⟩ := Option.map_eq_some_iff.mp hi
      have hp : H' e.1 = _ := g2 _ _ (PA.pr.at_ e (List.mem_of_getElem? he))
      have hlt := (List.getElem?_eq_some_iff.mp he).1
      have hat := pr_at e.2 hs
      refine ⟨rfl, ?_⟩
      walk_at "go"
      refine ⟨small_lt (by rw [List.length_map, List.length_map, List.length_take]; omega), wait ⟨?_, fun x o e => upd_get (ne_of_none e hD) (g2 x o e)⟩⟩
      rw [upd_same, List.take_add_one, he, List.map_append, List.map_append] <;> rfl
    · rintro H' ⟨g1, g2⟩
      rw [List.length_map, List.take_length] at g1
      walk_at "go"
      exact q D _ hD g1 g2
structure Hl where
  name : Str
  side : Int
  takes : List Str
  gives : Bool
  throws : List Str
def TK (H H' : Hp) : Prop := ∀ t, (∀ ys, H t = some (.tup ys) → H' t = some (.tup ys)) ∧ ∀ o ys, H t = some (.frz o (.tup ys)) → H' t = some (.frz o (.tup ys))
theorem TK.rfl {H : Hp} : TK H H := fun _ => ⟨fun _ e => e, fun _ _ e => e⟩
theorem TK.trans {H H1 H2 : Hp} (x : TK H H1) (y : TK H1 H2) : TK H H2 := fun t => ⟨fun ys e => (y t).1 ys ((x t).1 ys e), fun o ys e => (y t).2 o ys ((x t).2 o ys e)⟩
theorem TK.same {H H' : Hp} (s : Same H H') : TK H H' := fun t => ⟨fun _ e => s _ _ e, fun _ _ e => s _ _ e⟩
def noT : HO → Prop
  | .tup _ => False
  | .frz _ (.tup _) => False
  | _ => True
theorem TK.of {H H' : Hp} (h : ∀ t o, H t = some o → ¬ noT o → H' t = some o) : TK H H' := fun t => ⟨fun ys e => h _ _ e (fun z => z), fun o ys e => h _ _ e (fun z => z)⟩
theorem TK.upd {H : Hp} {D : Addr} {u o : HO} (h : H D = some u) (hn : noT u) : TK H (upd H D o) := TK.of fun t v e n => upd_get (fun z => by
  subst z
  rw [h] at e
  cases e
  exact n hn) e
theorem TK.lst {H : Hp} {D : Addr} {xs : List V} {o : HO} (h : H D = some (.lst xs)) : TK H (L2.upd H D o) := TK.upd h True.intro
theorem TK.dK {H : Hp} {D : Addr} {xs : List (Key × V)} {o : HO} (h : H D = some (.dK xs)) : TK H (L2.upd H D o) := TK.upd h True.intro
theorem TK.ins {H : Hp} {D C dx : Addr} {fs : List (Str × V)} {o : HO} (h : H D = some (.ins C dx fs)) : TK H (L2.upd H D o) := TK.upd h True.intro
theorem TK.new {H : Hp} {D : Addr} {o : HO} (h : H D = none) : TK H (L2.upd H D o) := TK.same (Same.upd_new h)
theorem BoxAt.tk {H H' : Hp} {b g l : Addr} {n : Int} (B : BoxAt H b g l n) (k : Keep2 b g H H') : TK H H' := TK.of fun t o e nt => by
  obtain ⟨⟨_, h1⟩, ⟨_, h2⟩, _⟩ := B.lists
  refine k _ _ (fun z => ?_) (fun z => ?_) e
  · subst z
    rw [h1] at e
    cases e
    exact nt True.intro
  · subst z
    rw [h2] at e
    cases e
    exact nt True.intro
theorem TK.sq {K : PySem.W.Frag} {H H' : Hp} {a : Addr} {xs : List V} (k : TK H H') (h : SqT K H a xs) : SqT K H' a xs := by
  rcases h with (h | ⟨o, h⟩) | h
  · exact .inl (.inl ((k _).1 _ h))
  · exact .inl (.inr ⟨o, (k _).2 _ _ h⟩)
  · exact .inr h
theorem TK.pairs {H H' : Hp} {D : Addr} {L : List (Addr × Pr)} (k : TK H H') (h : PairsAt H D L) (kd : ∀ o, H D = some o → H' D = some o) : PairsAt H' D L := h.keep kd fun t ys e => (k t).1 ys e
def HlAt (K : PySem.W.Frag) (H : Hp) (e : Addr × Hl) : Prop := ∃ tk th : Addr, H e.1 = some (.tup [.str e.2.name, .int e.2.side, .ref tk, .bl e.2.gives, .ref th]) ∧ SqT K H tk (e.2.takes.map V.str) ∧ SqT K H th (e.2.throws.map V.str)
theorem HlAt.tk {K : PySem.W.Frag} {H H' : Hp} {e : Addr × Hl} (k : TK H H') (h : HlAt K H e) : HlAt K H' e := by
  obtain ⟨tk, th, h1, h2, h3⟩ := h
  exact ⟨tk, th, (k _).1 _ h1, k.sq h2, k.sq h3⟩
structure HelpersAt (K : PySem.W.Frag) (H : Hp) (D : Addr) (M : List (Addr × Hl)) : Prop where
  ls : H D = some (.lst (M.map fun e => V.ref e.1))
  at_ : ∀ e ∈ M, HlAt K H e
theorem HelpersAt.tk {K : PySem.W.Frag} {H H' : Hp} {D : Addr} {M : List (Addr × Hl)} (h : HelpersAt K H D M) (k : TK H H') (kd : ∀ o, H D = some o → H' D = some o) : HelpersAt K H' D M := ⟨kd _ h.ls, fun e he => (h.at_ e he).tk k⟩
theorem HelpersAt.same {K : PySem.W.Frag} {H H' : Hp} {D : Addr} {M : List (Addr × Hl)} (h : HelpersAt K H D M) (k : Same H H') : HelpersAt K H' D M := h.tk (TK.same k) fun o e => k _ _ e
theorem erase_perm {α : Type} : ∀ {l : List α} {k : Nat} {z : α}, l[k]? = some z → (z :: l.eraseIdx k).Perm l
  | [], _, _, h => by simp at h
  | a :: r, 0, z, h => by
    have e : a = z := by simpa using h
    rw [e]
    exact List.Perm.refl _
  | a :: r, k + 1, z, h => by
    have h1 : r[k]? = some z := by simpa using h
    exact (List.Perm.swap a z _).trans ((erase_perm h1).cons a)
theorem erase_map {α β : Type} (f : α → β) : ∀ (l : List α) (k : Nat), (l.map f).eraseIdx k = (l.eraseIdx k).map f
  | [], _ => rfl
  | _ :: _, 0 => rfl
  | a :: r, k + 1 => congrArg (f a :: ·) (erase_map f r k)
theorem same_none' {H H' : Hp} {r : Addr} (s : Same H H') (h : H' r = none) : H r = none := by
  cases z : H r with
  | none => rfl
  | some o => rw [s r o z] at h; cases h
def hows : List Str := ["lent", "given"]
structure HOk (ps : List Pr) (h : Hl) : Prop where
  sd : h.side = 0 ∨ h.side = 1
  tl : h.takes.length ≤ 3
  tk : ∀ w ∈ h.takes, w ∈ hows
  hl : h.throws.length ≤ 4
  hn : h.throws.Nodup
  hw : ∀ w ∈ h.throws, w ∈ ps.map (·.word h.side)
structure GoodH (ps : List Pr) (hs : List Hl) : Prop where
  ok : ∀ h ∈ hs, HOk ps h
  nd : (hs.map (·.name)).Nodup
  nm : ∀ h ∈ hs, IsName h.name
  few : ∀ s : Int, (hs.filter fun h => decide (h.side = s)).length ≤ 4
  len : hs.length ≤ 8
def fitsP (ps : List Pr) (p : Pr) : Bool := decide (ps.length ≠ 6) && nameB p.near && nameB p.far && decide (p.near ∉ ps.map (·.near)) && decide (p.far ∉ ps.map (·.far))
def spFitsPair (C : Addr) : Sp := fun vs H Q _ => ∃ (x kp kd t : Addr) (L : List (Addr × Pr)) (kvs : List (Key × V)) (p : Pr), vs = [.ref x, .ref t] ∧ PactsAt C H x kp kd L kvs ∧ PrAt H (t, p) ∧ L.length ≤ 10000 ∧ p.near.length ≤ 100000 ∧ p.far.length ≤ 100000 ∧
  ∀ H', Same H H' → Q (.bl (fitsP (L.map (·.2)) p)) H'
theorem ok_Pacts_fits_pair (T : Txt w K mg a) : FnOk P w K mg base CX0 2 a.f_Pacts_fits_pair a.d_Pacts_fits_pair ["self", "pair"] (spFitsPair a.c_Pacts) := by
  have G_is_name := ok_is_name (P := P) (w := w) (base := base) T
  have G_Pacts_words_called := ok_Pacts_words_called (P := P) (w := w) (base := base) T
  have cl_Pacts := T.cl_Pacts
  have na_Pacts_kept_pairs := T.na_Pacts_kept_pairs
  refine T.F_Pacts_fits_pair.ok sc_Pacts_fits_pair (fun vs H Q E h => ?_) (fun cdv A outer s H vs Q E hr h => ?_)
  · obtain ⟨x, kp, kd, t, L, kvs, p, rfl, _⟩ := h
    rfl
  · obtain ⟨x, kp, kd, t, L, kvs, p, rfl, PA, hp, hl, l1, l2, q⟩ := h
    obtain ⟨dx, ho⟩ := PA.ob
    have hls := PA.pr.ls
    have hp1 : H t = some (.tup [.str p.near, .str p.far, .bl p.laden]) := hp
    have lm : (L.map fun e => V.ref e.1).length = L.length := List.length_map _
    refine ⟨_, (pss_cons (ps_asg (pv 1) (pg_tup rfl (pgs_cons (pg_name (i := 2) sc_Pacts_fits_pair.nd rfl (Or.inl rfl)) (pgs_cons (pg_name (i := 3) sc_Pacts_fits_pair.nd rfl (Or.inl rfl)) (pgs_cons (pg_name (i := 4) sc_Pacts_fits_pair.nd rfl (Or.inl rfl)) pgs_nil)))))
      (pss_cons (ps_if (PW.pt (pw_or (pt_cmpR op_eq (pe_callB call_lenK (by rfl) T.z_len PySem.boot_len (pa_cons (pe_fld (pv 0) rfl) pa_nil)) (pe_globI rfl T.g_MOST_PAIRS) (nomark _)) (pw_or (pt_not (pt_val (pe_call G_is_name (hr.mono (by decide)) rfl T.m_is_name T.F_is_name.kp T.b_is_name .nil pass0 (pa_cons (pv 2) pa_nil)))) (pw_or1 (pt_not (pt_val (pe_call G_is_name (hr.mono (by decide)) rfl T.m_is_name T.F_is_name.kp T.b_is_name .nil pass0 (pa_cons (pv 3) pa_nil)))))))) (pss_one (ps_ret pe_bl)) pss_nil)
      (pss_one (ps_ret (pe_and (pe_cmpR op_notIn_seq (pv 2) (pe_meth (pv 0) T.cl_Pacts T.mt_Pacts_words_called G_Pacts_words_called (hr.mono (by decide)) T.b_Pacts_words_called .nil pass0 (pa_cons pe_int pa_nil)) (by rfl)) (pe_one (pe_cmpR op_notIn_seq (pv 3) (pe_meth (pv 0) T.cl_Pacts T.mt_Pacts_words_called G_Pacts_words_called (hr.mono (by decide)) T.b_Pacts_words_called .nil pass0 (pa_cons pe_int pa_nil)) (by rfl)))))))), ?_⟩
    walk_at "go"
    refine ifD (fun b => ?_) (fun b => ?_)
    · have e6 : L.length = 6 := by have := V.int.inj b; omega
      have ef : fitsP (L.map (·.2)) p = false := by
        unfold fitsP
        rw [decide_eq_false (show ¬ (L.map (·.2)).length ≠ 6 by rw [List.length_map]; exact fun z => z e6)]
        simp
      refine ifT rfl ?_
      walk_at "go"
      rw [← ef]
      exact q _ (fun _ _ e => e)
    · have e6 : (L.map (·.2)).length ≠ 6 := fun z => b (by rw [lm]; rw [List.length_map] at z; rw [z] <;> rfl)
      walk_at "go"
      intro H1 s1
      walk_at "go"
      cases en : nameB p.near with
      | false =>
        have ef : fitsP (L.map (·.2)) p = false := by unfold fitsP; rw [en]; simp
        have qq := q _ s1
        rw [ef] at qq
        walk_at "go"
        exact qq
      | true =>
        walk_at "go"
        intro H2 s2
        walk_at "go"
        cases ef0 : nameB p.far with
        | false =>
          have ef : fitsP (L.map (·.2)) p = false := by unfold fitsP; rw [ef0]; simp
          have qq := q _ (s1.trans s2)
          rw [ef] at qq
          walk_at "go"
          exact qq
        | true =>
          have PA2 := PA.same (s1.trans s2)
          obtain ⟨dx2, ho2⟩ := PA2.ob
          have hs0 : (0 : Int) = 0 ∨ (0 : Int) = 1 := .inl rfl
          have hs1 : (1 : Int) = 0 ∨ (1 : Int) = 1 := .inr rfl
          walk_at "go"
          intro D3 H3 hD3 h3 s3
          refine ⟨D3, _, rfl, .inl (SqL.of h3), rfl, flat_strs1 _, ?_⟩
          rw [if_pos rfl, in_strs]
          have PA3 := PA2.same s3
          obtain ⟨dx3, ho3⟩ := PA3.ob
          by_cases i1 : p.near ∈ L.map fun e => e.2.word 0
          · have ef : fitsP (L.map (·.2)) p = false := by
              unfold fitsP
              rw [decide_eq_false (show ¬ p.near ∉ (L.map (·.2)).map (·.near) by rw [List.map_map]; exact fun z => z i1)]
              simp
            rw [decide_eq_true i1]
            refine ⟨_, rfl, ifF rfl ?_⟩
            rw [← ef]
            exact q _ ((s1.trans s2).trans s3)
          · rw [decide_eq_false i1]
            refine ⟨_, rfl, ifT rfl ?_⟩
            walk_at "go"
            intro D4 H4 hD4 h4 s4
            refine ⟨D4, _, rfl, .inl (SqL.of h4), rfl, flat_strs1 _, ?_⟩
            rw [if_pos rfl, in_strs]
            have ef : fitsP (L.map (·.2)) p = !decide (p.far ∈ L.map fun e => e.2.word 1) := by
              unfold fitsP
              rw [decide_eq_true e6, en, ef0, decide_eq_true (show p.near ∉ (L.map (·.2)).map (·.near) by rw [List.map_map]; exact i1), List.map_map]
              show (true && true && true && true && decide (p.far ∉ L.map fun e => e.2.word 1)) = _
              simp
            rw [← ef]
            exact q _ (((s1.trans s2).trans s3).trans s4)
theorem good_fits {ps : List Pr} {i : Nat} {p : Pr} (G : Good ps) (h : ps[i]? = some p) : fitsP (ps.take i) p = true := by
  have hm := List.mem_of_getElem? h
  have hi := (List.getElem?_eq_some_iff.mp h).1
  have hsplit : ps = ps.take i ++ p :: ps.drop (i + 1) := by
    have := List.take_append_drop i ps
    rw [List.drop_eq_getElem_cons hi] at this
    rw [(List.getElem?_eq_some_iff.mp h).2] at this
    exact this.symm
  have nn := G.nn
  have nf := G.nf
  rw [hsplit, List.map_append, List.nodup_append] at nn nf
  have hl := G.len
  unfold fitsP
  rw [decide_eq_true (show (ps.take i).length ≠ 6 by rw [List.length_take]; omega), nameB_iff.mpr (G.kn p hm), nameB_iff.mpr (G.kf p hm),
    decide_eq_true (show p.near ∉ (ps.take i).map (·.near) from fun z => nn.2.2 _ z _ List.mem_cons_self rfl), decide_eq_true (show p.far ∉ (ps.take i).map (·.far) from fun z => nf.2.2 _ z _ List.mem_cons_self rfl)] <;> rfl
theorem Good.word {L : List (Addr × Pr)} (G : Good (L.map (·.2))) {s : Int} (hs : s = 0 ∨ s = 1) : (L.map fun d => d.2.word s).Nodup := by
  rcases hs with rfl | rfl
  · have := G.nn
    rw [List.map_map] at this
    exact this
  · have := G.nf
    rw [List.map_map] at this
    exact this
def hk (M : List (Addr × Hl)) : List (Key × V) := M.map fun e => ((Sum.inr e.2.name : Key), V.ref e.1)
structure PactsH (K : PySem.W.Frag) (C : Addr) (H : Hp) (x kp kd : Addr) (L : List (Addr × Pr)) (M : List (Addr × Hl)) : Prop where
  pa : PactsAt C H x kp kd L (hk M)
  at_ : ∀ e ∈ M, HlAt K H e
theorem PactsH.same {K : PySem.W.Frag} {C : Addr} {H H' : Hp} {x kp kd : Addr} {L : List (Addr × Pr)} {M : List (Addr × Hl)} (h : PactsH K C H x kp kd L M) (k : Same H H') : PactsH K C H' x kp kd L M := ⟨h.pa.same k, fun e he => (h.at_ e he).tk (TK.same k)⟩
theorem hk_none {n : Str} : ∀ {M : List (Addr × Hl)}, n ∉ M.map (fun e => e.2.name) → valV (hk M) (Sum.inr n) = none
  | [], _ => rfl
  | e :: r, h => by
    have h1 : ¬ (Sum.inr e.2.name : Key) = Sum.inr n := fun z => h (by rw [List.map_cons, Sum.inr.inj z]; exact List.mem_cons_self)
    have h2 : n ∉ r.map (fun e => e.2.name) := fun z => h (by rw [List.map_cons]; exact List.mem_cons_of_mem _ z)
    show valV ((Sum.inr e.2.name, V.ref e.1) :: hk r) (Sum.inr n) = none
    rw [valV_neg h1]
    exact hk_none h2
theorem hk_val {e : Addr × Hl} : ∀ {M : List (Addr × Hl)}, (M.map fun e => e.2.name).Nodup → e ∈ M → valV (hk M) (Sum.inr e.2.name) = some (V.ref e.1)
  | [], _, h => by cases h
  | d :: r, hn, h => by
    rw [List.map_cons, List.nodup_cons] at hn
    show valV ((Sum.inr d.2.name, V.ref d.1) :: hk r) (Sum.inr e.2.name) = some (V.ref e.1)
    rcases List.mem_cons.mp h with z | z
    · subst z
      exact valV_pos rfl
    · have hne : ¬ (Sum.inr d.2.name : Key) = Sum.inr e.2.name := fun q => hn.1 (by rw [Sum.inr.inj q]; exact List.mem_map.mpr ⟨e, z, rfl⟩)
      rw [valV_neg hne]
      exact hk_val hn.2 z
theorem hk_in {n : Str} {M : List (Addr × Hl)} (h : n ∈ M.map (fun e => e.2.name)) : ∃ v, valV (hk M) (Sum.inr n) = some v := by
  induction M with
  | nil => cases h
  | cons d r ih =>
    show ∃ v, valV ((Sum.inr d.2.name, V.ref d.1) :: hk r) (Sum.inr n) = some v
    by_cases e : (Sum.inr d.2.name : Key) = Sum.inr n
    · exact ⟨_, valV_pos e⟩
    · rw [valV_neg e]
      refine ih ?_
      rcases List.mem_cons.mp h with z | z
      · exact absurd (congrArg Sum.inr z.symm) e
      · exact z
theorem hk_put {M : List (Addr × Hl)} {n : Str} (v : V) (h : n ∉ M.map (fun e => e.2.name)) : putK (hk M) (Sum.inr n) v = hk M ++ [(Sum.inr n, v)] := putK_new v (hk_none h)
theorem hk_len (M : List (Addr × Hl)) : (hk M).length = M.length := List.length_map _
def spNamesM (K : PySem.W.Frag) (C : Addr) : Sp := fun vs H Q _ => ∃ (x kp kd : Addr) (L : List (Addr × Pr)) (M : List (Addr × Hl)) (s : Int), vs = [.ref x, .int s] ∧ PactsH K C H x kp kd L M ∧ M.length ≤ 10000 ∧
  ∀ D H', H D = none → H' D = some (.lst (((M.filter fun e => decide (e.2.side = s)).map fun e => e.2.name).map V.str)) → Same H H' → Q (.ref D) H'
theorem ok_Pacts_names (T : Txt w K mg a) : FnOk P w K mg base CX0 1 a.f_Pacts_names a.d_Pacts_names ["self", "side"] (spNamesM K a.c_Pacts) := by
  have cl_Pacts := T.cl_Pacts
  have na_Pacts_kept_pacts := T.na_Pacts_kept_pacts
  refine T.F_Pacts_names.ok sc_Pacts_names (fun vs H Q E h => ?_) (fun cdv A outer s H vs Q E hr h => ?_)
  · obtain ⟨x, kp, kd, L, M, s, rfl, _⟩ := h
    rfl
  · obtain ⟨x, kp, kd, L, M, s, rfl, PA, hl, q⟩ := h
    obtain ⟨dx, ho⟩ := PA.pa.ob
    have hd := PA.pa.pc
    refine ⟨_, (pss_one (ps_ret (pe_lock (pe_lc (own := [("name", 2), ("pact", 3)]) (g := gTup K 2 (gCons (gName 2) (gCons (gName 3) gNil))) (tt := (tTest (tOp _ (tOp (rIxT K) _ _) _))) rfl sc_Pacts_names.nd (pi_items (pe_fld (pv 0) rfl)) (blkOk_by (own := [("name", 2), ("pact", 3)]) (N := n_Pacts_names) (sc := defScope s_Pacts_names) (by decide +kernel)) (fun _ _ _ _ _ => (pg_tup rfl (pgs_cons (pg_name (i := 2) sc_Pacts_names.nd rfl (Or.inl rfl)) (pgs_cons (pg_name (i := 3) sc_Pacts_names.nd rfl (Or.inl rfl)) pgs_nil)))) (fun _ _ _ _ _ => (pts_one (pt_cmpR op_eq (pe_ix ix_tup (pv 3) pe_int (fun _ _ => rfl)) (pv 1) (nomark _)))) (fun _ _ _ _ _ => (pv 2)))))), ?_⟩
    refine ⟨kd, _, hd, trivial, fun od => ?_⟩
    have nxd : x ≠ kd := ne_of ho hd (by intro z; cases z)
    have ho1 : upd H kd (.frz od (.dK (hk M))) x = _ := upd_get nxd ho
    have hd1 : upd H kd (.frz od (.dK (hk M))) kd = some (.frz od (.dK (hk M))) := upd_same
    walk_at "go"
    intro D hD
    have nD : D ≠ kd := fun z => by rw [z, upd_same] at hD; cases hD
    have hD0 : H D = none := by rw [upd_ne nD] at hD; exact hD
    have hlm := hk_len M
    refine lcW (walk_items (d := kd) (o := od) (kvs := hk M)) (fun i H' => H' D = some (.lst ((((M.take i).filter fun e => decide (e.2.side = s)).map fun e => e.2.name).map V.str)) ∧ Same (upd H kd (.frz od (.dK (hk M)))) H') ?_ ?_ ?_ ?_
    · exact ⟨upd_same, Same.upd_new hD⟩
    · exact fun i H' _ h => h.2 _ _ upd_same
    · rintro i v H1 H2 hi ⟨g1, g2⟩ ⟨t, y1, y2, rfl, ht, rfl, hy1, hy2⟩
      have hi2 : i < M.length := by omega
      obtain ⟨e, he⟩ : ∃ e, M[i]? = some e := ⟨_, List.getElem?_eq_getElem hi2⟩
      have hke : (hk M)[i]? = some (Sum.inr e.2.name, V.ref e.1) := by
        show (M.map _)[i]? = _
        rw [List.getElem?_map, he] <;> rfl
      have hy1 : (hk M)[i]?.map (fun kv => kV kv.1) = some y1 := hy1
      have hy2 : (hk M)[i]?.map Prod.snd = some y2 := hy2
      rw [hke] at hy1 hy2
      cases hy1
      cases hy2
      have s2 : Same H1 (upd H1 t (.tup [.str e.2.name, .ref e.1])) := Same.upd_new ht
      obtain ⟨tk, th, h1, h2, h3⟩ := PA.at_ e (List.mem_of_getElem? he)
      have hp : upd H1 t (.tup [.str e.2.name, .ref e.1]) e.1 = _ := s2 _ _ (g2 _ _ (upd_get (ne_of h1 hd (by intro z; cases z)) h1))
      have hat : atI [V.str e.2.name, .int e.2.side, .ref tk, .bl e.2.gives, .ref th] 1 = some (.int e.2.side) := rfl
      have g12 := s2 _ _ g1
      have fl := filt_len (fun e : Addr × Hl => decide (e.2.side = s)) M i
      have ht2 : upd H1 t (.tup [.str e.2.name, .ref e.1]) t = some (.tup [.str e.2.name, .ref e.1]) := upd_same
      refine ⟨t, [.str e.2.name, .ref e.1], rfl, SqT.of ht2, rfl, _, _, rfl, _, _, rfl, rfl, ?_⟩
      refine ⟨rfl, ?_⟩
      walk_at "go"
      refine ifD (fun b => ?_) (fun b => ?_)
      · have b1 : e.2.side = s := V.int.inj b
        walk_at "go"
        refine ⟨small_lt (by rw [List.length_map, List.length_map]; omega), wait ⟨?_, fun x o e => upd_get (ne_of_none e hD) (s2 _ _ (g2 x o e))⟩⟩
        rw [upd_same, take_filt_yes he (decide_eq_true b1), List.map_append, List.map_append] <;> rfl
      · have b1 : ¬ e.2.side = s := fun z => b (congrArg V.int z)
        refine wait ⟨?_, fun x o e => s2 _ _ (g2 x o e)⟩
        rw [take_filt_no he (decide_eq_false b1)]
        exact g12
    · rintro H1 ⟨g1, g2⟩
      rw [hlm, List.take_length] at g1
      refine ⟨g2 _ _ upd_same, ?_⟩
      refine q D _ hD0 (upd_get nD g1) fun y o e => ?_
      by_cases z : y = kd
      · rw [z, hd] at e
        rw [z, upd_same]
        exact e
      · exact upd_get z (g2 _ _ (upd_get z e))
def fitsH (ps : List Pr) (ahead : List Hl) (h : Hl) : Bool :=
  nameB h.name && decide (h.name ∉ ahead.map (·.name)) && decide (h.side = 0 ∨ h.side = 1) && decide ((ahead.filter fun k => decide (k.side = h.side)).length ≠ 4) && decide (h.takes.length ≤ 3) && decide (h.throws.length ≤ 4) &&
    (h.takes.all fun w => decide (w ∈ hows)) && decide h.throws.Nodup && h.throws.all fun w => decide (w ∈ ps.map (·.word h.side))
def spFitsHelper (K : PySem.W.Frag) (C : Addr) : Sp := fun vs H Q _ => ∃ (x kp kd t : Addr) (L : List (Addr × Pr)) (M : List (Addr × Hl)) (h : Hl), vs = [.ref x, .ref t] ∧ PactsH K C H x kp kd L M ∧ HlAt K H (t, h) ∧ L.length ≤ 10000 ∧ M.length ≤ 10000 ∧ h.name.length ≤ 100000 ∧ h.takes.length ≤ 4000 ∧ h.throws.length ≤ 4000 ∧
  ∀ H', Same H H' → Q (.bl (fitsH (L.map (·.2)) (M.map (·.2)) h)) H'
theorem ok_Pacts_fits_helper (T : Txt w K mg a) : FnOk P w K mg base CX0 2 a.f_Pacts_fits_helper a.d_Pacts_fits_helper ["self", "helper"] (spFitsHelper K a.c_Pacts) := by
  have G_is_name := ok_is_name (P := P) (w := w) (base := base) T
  have G_Pacts_names := ok_Pacts_names (P := P) (w := w) (base := base) T
  have G_Pacts_words_called := ok_Pacts_words_called (P := P) (w := w) (base := base) T
  have cl_Pacts := T.cl_Pacts
  have na_Pacts_kept_pacts := T.na_Pacts_kept_pacts
  refine T.F_Pacts_fits_helper.ok sc_Pacts_fits_helper (fun vs H Q E h => ?_) (fun cdv A outer s H vs Q E hr h => ?_)
  · obtain ⟨x, kp, kd, t, L, M, h, rfl, _⟩ := h
    rfl
  · obtain ⟨x, kp, kd, t, L, M, h, rfl, PA, HA, l1, l2, l3, l4, l5, q⟩ := h
    obtain ⟨tk, th, ht, htk, hth⟩ := HA
    obtain ⟨dx, ho⟩ := PA.pa.ob
    have hd := PA.pa.pc
    refine ⟨_, (pss_cons (ps_asg (pv 1) (pg_tup rfl (pgs_cons (pg_name (i := 2) sc_Pacts_fits_helper.nd rfl (Or.inl rfl)) (pgs_cons (pg_name (i := 3) sc_Pacts_fits_helper.nd rfl (Or.inr rfl)) (pgs_cons (pg_name (i := 4) sc_Pacts_fits_helper.nd rfl (Or.inl rfl)) (pgs_cons (pg_name (i := 5) sc_Pacts_fits_helper.nd rfl (Or.inl rfl)) (pgs_cons (pg_name (i := 6) sc_Pacts_fits_helper.nd rfl (Or.inl rfl)) pgs_nil)))))))
      (pss_cons (ps_if (pt_mid (PW.pt (pw_or (pt_not (pt_val (pe_call G_is_name (hr.mono (by decide)) rfl T.m_is_name T.F_is_name.kp T.b_is_name .nil pass0 (pa_cons (pv 2) pa_nil)))) (pw_or (pt_cmp (pc_din (hu_of hr) (pv 2) (pe_fld (pv 0) rfl))) (pw_or1 (pt_cmpR op_notIn_seq (pv 3) (pe_tup (pa_cons pe_int (pa_cons pe_int pa_nil))) (by rfl))))))) (pss_one (ps_ret pe_bl)) pss_nil)
      (pss_cons (ps_if (pt_mid (PW.pt (pw_or (pt_cmpR op_eq (pe_callB call_lenK (by rfl) T.z_len PySem.boot_len (pa_cons (pe_meth (pv 0) T.cl_Pacts T.mt_Pacts_names G_Pacts_names (hr.mono (by decide)) T.b_Pacts_names .nil pass0 (pa_cons (pv 3) pa_nil)) pa_nil)) (pe_globI rfl T.g_MOST_HELPERS) (nomark _)) (pw_or (pt_cmpR op_gt (pe_callB call_lenK (by rfl) T.z_len PySem.boot_len (pa_cons (pv 4) pa_nil)) (pe_globI rfl T.g_MOST_TAKES) (nomark _)) (pw_or1 (pt_cmpR op_gt (pe_callB call_lenK (by rfl) T.z_len PySem.boot_len (pa_cons (pv 6) pa_nil)) (pe_globI rfl T.g_MOST_THROWS) (nomark _))))))) (pss_one (ps_ret pe_bl)) pss_nil)
      (pss_cons (ps_if (pt_mid (PW.pt (pw_or (pt_val (pe_callB (cr_any rfl) (by rfl) T.z_any (by decide +kernel) (pa_cons (pe_lc (own := [("how", 7)]) (g := gName 7) (tt := tYes) (te := (tOp (rIn K true) _ _)) rfl sc_Pacts_fits_helper.nd (pi_tup (pv 4)) (blkOk_by (own := [("how", 7)]) (N := n_Pacts_fits_helper) (sc := defScope s_Pacts_fits_helper) (by decide +kernel)) (fun _ _ _ _ _ => (pg_name (i := 7) sc_Pacts_fits_helper.nd rfl (Or.inl rfl))) (fun _ _ _ _ _ => pts_nil) (fun _ _ _ _ _ => (pe_cmpR op_notIn_seq (pv 7) (pe_glob (v := .ref a.k_HOWS) rfl T.g_HOWS rfl) (by rfl)))) pa_nil))) (pw_or1 (pt_cmpR op_ne (pe_lenU rfl (by rfl) T.z_len (by rfl) T.z_set (pv 6)) (pe_callB call_lenK (by rfl) T.z_len PySem.boot_len (pa_cons (pv 6) pa_nil)) (nomark _)))))) (pss_one (ps_ret pe_bl)) pss_nil)
      (pss_one (ps_ret (pe_callB (cr_all rfl) (by rfl) T.z_all (by decide +kernel) (pa_cons (pe_lc (own := [("word", 8)]) (g := gName 8) (tt := tYes) (te := (tOp (rIn K false) _ _)) rfl sc_Pacts_fits_helper.nd (pi_tup (pv 6)) (blkOk_by (own := [("word", 8)]) (N := n_Pacts_fits_helper) (sc := defScope s_Pacts_fits_helper) (by decide +kernel)) (fun _ _ _ _ _ => (pg_name (i := 8) sc_Pacts_fits_helper.nd rfl (Or.inl rfl))) (fun _ _ _ _ _ => pts_nil) (fun _ _ _ _ _ => (pe_cmpR op_in_seq (pv 8) (pe_meth (pv 0) T.cl_Pacts T.mt_Pacts_words_called G_Pacts_words_called (hr.mono (by decide)) T.b_Pacts_words_called .nil pass0 (pa_cons (pv 3) pa_nil)) (by rfl)))) pa_nil)))))))), ?_⟩
    have ht : H t = some (.tup [.str h.name, .int h.side, .ref tk, .bl h.gives, .ref th]) := ht
    have bad : ∀ H', Same H H' → fitsH (L.map (·.2)) (M.map (·.2)) h = false → Q (.bl false) H' := fun H' s e => by rw [← e]; exact q H' s
    have lt : (h.takes.map V.str).length = h.takes.length := List.length_map _
    have lh : (h.throws.map V.str).length = h.throws.length := List.length_map _
    walk_at "go"
    refine midT_of (fun c H1 => Same H H1 ∧ (c = true → fitsH (L.map (·.2)) (M.map (·.2)) h = false) ∧ (c = false → nameB h.name = true ∧ h.name ∉ M.map (fun e => e.2.name) ∧ (h.side = 0 ∨ h.side = 1))) ?_ ?_
    · walk_at "go"
      intro H1 s1
      have PA1 := PA.same s1
      obtain ⟨dx1, ho1⟩ := PA1.pa.ob
      have hd1 := PA1.pa.pc
      cases en : nameB h.name with
      | false =>
        walk_at "go"
        exact wait ⟨s1, fun _ => by unfold fitsH; rw [en]; simp, fun z => nomatch z⟩
      | true =>
        by_cases hin : h.name ∈ M.map (fun e => e.2.name)
        · obtain ⟨v, hv⟩ := hk_in hin
          have hget : DGet H1 kd (.str h.name) (some v) := by
            have := DGet.k (k := Sum.inr h.name) hd1
            rw [hv] at this
            exact this
          walk_at "go"
          refine wait ⟨s1, fun _ => ?_, fun z => nomatch z⟩
          unfold fitsH
          rw [decide_eq_false (show ¬ h.name ∉ (M.map (·.2)).map (·.name) by rw [List.map_map]; exact fun z => z hin)]
          simp
        · have hget : DGet H1 kd (.str h.name) none := by
            have := DGet.k (k := Sum.inr h.name) hd1
            rw [hk_none hin] at this
            exact this
          walk_at "go"
          intro p2 hp2
          have s2 : Same H1 (upd H1 p2 (.tup [.int 0, .int 1])) := Same.upd_new hp2
          refine ⟨p2, _, rfl, .inr (SqT.of upd_same), rfl, rfl, ?_⟩
          have ein : inV (.int h.side) [.int 0, .int 1] = decide (h.side = 0 ∨ h.side = 1) := by
            show ((0 == h.side) || ((1 == h.side) || false)) = _
            by_cases e0 : h.side = 0
            · rw [e0] <;> rfl
            · by_cases e1 : h.side = 1
              · rw [e1] <;> rfl
              · have f0 : (0 == h.side) = false := by simpa using fun z : (0 : Int) = h.side => e0 z.symm
                have f1 : (1 == h.side) = false := by simpa using fun z : (1 : Int) = h.side => e1 z.symm
                rw [f0, f1, decide_eq_false (by omega)] <;> rfl
          rw [if_pos rfl, ein]
          refine ⟨_, rfl, wait ⟨s1.trans s2, fun b => ?_, fun b => ?_⟩⟩
          · have b1 : ¬ (h.side = 0 ∨ h.side = 1) := by simpa using b
            unfold fitsH
            rw [decide_eq_false b1]
            simp
          · have b1 : h.side = 0 ∨ h.side = 1 := of_decide_eq_true ((Bool.not_eq_false' (b := decide (h.side = 0 ∨ h.side = 1))).mp b)
            exact ⟨rfl, hin, b1⟩
    · rintro c H1 ⟨s1, c1, c2⟩
      refine ifB (fun ec => ?_) (fun ec => ?_)
      · walk_at "go"
        exact bad _ s1 (c1 ec)
      · obtain ⟨en, hin, hsd⟩ := c2 ec
        have PA1 := PA.same s1
        obtain ⟨dx1, ho1⟩ := PA1.pa.ob
        walk_at "go"
        refine midT_of (fun c H2 => Same H1 H2 ∧ (c = true → fitsH (L.map (·.2)) (M.map (·.2)) h = false) ∧ (c = false → ((M.map (·.2)).filter fun k => decide (k.side = h.side)).length ≠ 4 ∧ h.takes.length ≤ 3 ∧ h.throws.length ≤ 4)) ?_ ?_
        · walk_at "go"
          intro D H2 hD hD2 s2
          have lf : (((M.filter fun e => decide (e.2.side = h.side)).map fun e => e.2.name).map V.str).length = ((M.map (·.2)).filter fun k => decide (k.side = h.side)).length := by
            rw [List.length_map, List.length_map, List.filter_map, List.length_map] <;> rfl
          have s12 := s1.trans s2
          have htk2 := s12.seqT htk
          have hth2 := s12.seqT hth
          refine ⟨_, _, rfl, .inl (SqL.of hD2), rfl, _, rfl, ?_⟩
          rw [lf]
          refine ifD (fun b => ?_) (fun b => ?_)
          · refine wait ⟨s2, fun _ => ?_, fun z => nomatch z⟩
            unfold fitsH
            rw [decide_eq_false (show ¬ ((M.map (·.2)).filter fun k => decide (k.side = h.side)).length ≠ 4 from fun z => z (by have := V.int.inj b; omega))]
            simp
          · have b1 : ((M.map (·.2)).filter fun k => decide (k.side = h.side)).length ≠ 4 := fun z => b (by rw [z] <;> rfl)
            refine ⟨_, rfl, tk, _, rfl, .inr htk2, _, _, rfl, rfl, _, rfl, ?_⟩
            rw [lt]
            refine ifD (fun b2 => ?_) (fun b2 => ?_)
            · refine wait ⟨s2, fun _ => ?_, fun z => nomatch z⟩
              unfold fitsH
              rw [decide_eq_false (show ¬ h.takes.length ≤ 3 by omega)]
              simp
            · refine ⟨_, rfl, th, _, rfl, .inr hth2, _, _, rfl, rfl, _, rfl, ?_⟩
              rw [lh]
              refine wait ⟨s2, fun b3 => ?_, fun b3 => ⟨b1, by omega, ?_⟩⟩
              · have b4 := of_decide_eq_true b3
                unfold fitsH
                rw [decide_eq_false (show ¬ h.throws.length ≤ 4 by omega)]
                simp
              · have b4 := of_decide_eq_false b3
                omega
        · rintro c H2 ⟨s2, c3, c4⟩
          have s12 := s1.trans s2
          refine ifB (fun ed => ?_) (fun ed => ?_)
          · walk_at "go"
            exact bad _ s12 (c3 ed)
          · obtain ⟨n4, t3, h4⟩ := c4 ed
            have htk2 := s12.seqT htk
            have hth2 := s12.seqT hth
            walk_at "go"
            refine midT_of (fun c H3 => Same H2 H3 ∧ (c = true → fitsH (L.map (·.2)) (M.map (·.2)) h = false) ∧ (c = false → (h.takes.all fun w => decide (w ∈ hows)) = true ∧ h.throws.Nodup)) ?_ ?_
            · walk_at "go"
              intro D hD
              refine lcT (K := K) (a := tk) (xs := h.takes.map V.str) (fun i H' => H' D = some (.lst (((h.takes.take i).map fun w => !decide (w ∈ hows)).map V.bl)) ∧ Same H2 H') ?_ ?_ ?_ ?_
              · exact ⟨upd_same, Same.upd_new hD⟩
              · exact fun i H' _ h => h.2.seqT htk2
              · rintro i y H' hi ⟨g1, g2⟩
                rw [List.getElem?_map] at hi
                obtain ⟨w1, hw1, rfl⟩ := Option.map_eq_some_iff.mp hi
                have hlt := (List.getElem?_eq_some_iff.mp hw1).1
                refine ⟨rfl, ?_⟩
                refine ⟨_, rfl, a.k_HOWS, _, rfl, .inr (T.tp_HOWS _), rfl, rfl, ?_⟩
                rw [if_pos rfl, show inV (.str w1) [.str "lent", .str "given"] = decide (w1 ∈ hows) from in_strs w1 hows]
                refine ⟨_, g1, small_lt (by rw [List.length_map, List.length_map, List.length_take]; omega), wait ⟨?_, fun x o e => upd_get (ne_of_none e hD) (g2 x o e)⟩⟩
                rw [upd_same, List.take_add_one, hw1, List.map_append, List.map_append] <;> rfl
              · rintro H3 ⟨g1, g2⟩
                rw [List.length_map, List.take_length] at g1
                have hth3 := g2.seqT hth2
                refine ⟨D, _, rfl, SqL.of g1, _, rfl, ?_⟩
                have eany : (h.takes.map fun w => !decide (w ∈ hows)).any id = !(h.takes.all fun w => decide (w ∈ hows)) := by
                  rw [List.any_map]
                  simp [List.all_eq_not_any_not]
                rw [eany]
                cases ea : (h.takes.all fun w => decide (w ∈ hows)) with
                | false =>
                  refine ifT rfl (wait ⟨g2, fun _ => ?_, fun z => nomatch z⟩)
                  unfold fitsH
                  rw [ea]
                  simp
                | true =>
                  refine ifF rfl ?_
                  refine ⟨_, rfl, th, h.throws, rfl, hth3, l5, _, rfl, th, _, rfl, .inr hth3, rfl, _, rfl, wait ⟨g2, fun b => ?_, fun b => ⟨rfl, ?_⟩⟩⟩
                  · have b1 : (PfS.uniq h.throws).length ≠ h.throws.length := fun z => by
                      rw [lh, z] at b
                      simp at b
                    unfold fitsH
                    rw [decide_eq_false (show ¬ h.throws.Nodup from fun z => b1 ((PfS.uniq_len _).mpr z))]
                    simp
                  · rw [lh] at b
                    have b1 : V.int ((PfS.uniq h.throws).length : Int) = V.int (h.throws.length : Int) := by simpa using b
                    have b2 := V.int.inj b1
                    exact (PfS.uniq_len _).mp (by omega)
            · rintro c H3 ⟨s3, c5, c6⟩
              refine ifB (fun ee => ?_) (fun ee => ?_)
              · walk_at "go"
                exact bad _ (s12.trans s3) (c5 ee)
              · obtain ⟨hw1, hn1⟩ := c6 ee
                have s13 := s12.trans s3
                have hth3 := s13.seqT hth
                have PA3 := PA.same s13
                walk_at "go"
                intro D hD
                refine lcT (K := K) (a := th) (xs := h.throws.map V.str) (fun i H' => H' D = some (.lst (((h.throws.take i).map fun w => decide (w ∈ (L.map (·.2)).map (·.word h.side))).map V.bl)) ∧ Same H3 H') ?_ ?_ ?_ ?_
                · exact ⟨upd_same, Same.upd_new hD⟩
                · exact fun i H' _ h => h.2.seqT hth3
                · rintro i y H' hi ⟨g1, g2⟩
                  rw [List.getElem?_map] at hi
                  obtain ⟨w1, hw1, rfl⟩ := Option.map_eq_some_iff.mp hi
                  have hlt := (List.getElem?_eq_some_iff.mp hw1).1
                  have PA4 := PA3.same g2
                  obtain ⟨dx4, ho4⟩ := PA4.pa.ob
                  have pa4 := PA4.pa
                  refine ⟨rfl, ?_⟩
                  walk_at "go"
                  intro Z H5 hZ hZ5 s5
                  refine ⟨Z, _, rfl, .inl (SqL.of hZ5), rfl, flat_strs1 _, ?_⟩
                  have ein : inV (.str w1) ((L.map fun e => e.2.word h.side).map V.str) = decide (w1 ∈ (L.map (·.2)).map (·.word h.side)) := by
                    rw [in_strs, List.map_map] <;> rfl
                  rw [if_neg (by decide), ein]
                  refine ⟨_, s5 _ _ g1, small_lt (by rw [List.length_map, List.length_map, List.length_take]; omega), wait ⟨?_, fun x o e => upd_get (ne_of_none e hD) (s5 _ _ (g2 x o e))⟩⟩
                  rw [upd_same, List.take_add_one, hw1, List.map_append, List.map_append] <;> rfl
                · rintro H4 ⟨g1, g2⟩
                  rw [List.length_map, List.take_length] at g1
                  refine ⟨D, _, rfl, SqL.of g1, ?_⟩
                  have ef : fitsH (L.map (·.2)) (M.map (·.2)) h = (h.throws.map fun w => decide (w ∈ (L.map (·.2)).map (·.word h.side))).all id := by
                    unfold fitsH
                    rw [en, decide_eq_true (show h.name ∉ (M.map (·.2)).map (·.name) by rw [List.map_map]; exact hin), decide_eq_true hsd, decide_eq_true n4, decide_eq_true t3, decide_eq_true h4, hw1, decide_eq_true hn1, List.all_map] <;> rfl
                  have qq := q _ (s13.trans g2)
                  rw [ef] at qq
                  exact qq
theorem hk_snoc (M : List (Addr × Hl)) (e : Addr × Hl) : hk (M ++ [e]) = hk M ++ [(Sum.inr e.2.name, V.ref e.1)] := by
  unfold hk
  rw [List.map_append] <;> rfl
def okPs (ps : List Pr) : Prop := ∀ i p, ps[i]? = some p → fitsP (ps.take i) p = true
def okHs (ps : List Pr) (hs : List Hl) : Prop := ∀ i h, hs[i]? = some h → fitsH ps (hs.take i) h = true
def badP (ps : List Pr) (i : Nat) : Prop := (∃ p, ps[i]? = some p ∧ fitsP (ps.take i) p = false) ∧ ∀ j < i, ∀ p, ps[j]? = some p → fitsP (ps.take j) p = true
def badH (ps : List Pr) (hs : List Hl) (i : Nat) : Prop := (∃ h, hs[i]? = some h ∧ fitsH ps (hs.take i) h = false) ∧ ∀ j < i, ∀ h, hs[j]? = some h → fitsH ps (hs.take j) h = true
def FB (ps : List Pr) (hs : List Hl) (z : Int) : Prop := (z = -1 ∧ okPs ps ∧ okHs ps hs) ∨ (∃ i : Nat, z = i ∧ badP ps i) ∨ ∃ i : Nat, z = ps.length + i ∧ okPs ps ∧ badH ps hs i
theorem badP_not {ps : List Pr} {i : Nat} (b : badP ps i) (o : okPs ps) : False := by
  obtain ⟨⟨p, h1, h2⟩, _⟩ := b
  rw [o i p h1] at h2
  cases h2
theorem badH_not {ps : List Pr} {hs : List Hl} {i : Nat} (b : badH ps hs i) (o : okHs ps hs) : False := by
  obtain ⟨⟨p, h1, h2⟩, _⟩ := b
  rw [o i p h1] at h2
  cases h2
theorem badP_one {ps : List Pr} {i j : Nat} (a : badP ps i) (b : badP ps j) : i = j := by
  obtain ⟨⟨p, h1, h2⟩, h3⟩ := a
  obtain ⟨⟨q, g1, g2⟩, g3⟩ := b
  rcases Nat.lt_trichotomy i j with e | e | e
  · rw [g3 i e p h1] at h2; cases h2
  · exact e
  · rw [h3 j e q g1] at g2; cases g2
theorem badH_one {ps : List Pr} {hs : List Hl} {i j : Nat} (a : badH ps hs i) (b : badH ps hs j) : i = j := by
  obtain ⟨⟨p, h1, h2⟩, h3⟩ := a
  obtain ⟨⟨q, g1, g2⟩, g3⟩ := b
  rcases Nat.lt_trichotomy i j with e | e | e
  · rw [g3 i e p h1] at h2; cases h2
  · exact e
  · rw [h3 j e q g1] at g2; cases g2
theorem FB_one {ps : List Pr} {hs : List Hl} {z y : Int} (a : FB ps hs z) (b : FB ps hs y) : z = y := by
  rcases a with ⟨e, o1, o2⟩ | ⟨i, e, b1⟩ | ⟨i, e, o1, b2⟩
  · rcases b with ⟨f, _, _⟩ | ⟨j, f, c1⟩ | ⟨j, f, p1, c2⟩
    · rw [e, f]
    · exact (badP_not c1 o1).elim
    · exact (badH_not c2 o2).elim
  · rcases b with ⟨f, p1, _⟩ | ⟨j, f, c1⟩ | ⟨j, f, p1, c2⟩
    · exact (badP_not b1 p1).elim
    · rw [e, f, badP_one b1 c1]
    · exact (badP_not b1 p1).elim
  · rcases b with ⟨f, _, p2⟩ | ⟨j, f, c1⟩ | ⟨j, f, p1, c2⟩
    · exact (badH_not b2 p2).elim
    · exact (badP_not c1 o1).elim
    · rw [e, f, badH_one b2 c2]
theorem fitsH_new {ps : List Pr} {hs : List Hl} {h : Hl} (f : fitsH ps hs h = true) : h.name ∉ hs.map (·.name) := by
  unfold fitsH at f
  simp only [Bool.and_eq_true] at f
  exact of_decide_eq_true f.1.1.1.1.1.1.1.2
structure SzP (ps : List Pr) : Prop where
  len : ps.length ≤ 10000
  nl : ∀ p ∈ ps, p.near.length ≤ 10000 ∧ p.far.length ≤ 10000
structure SzH (hs : List Hl) : Prop where
  len : hs.length ≤ 10000
  nl : ∀ h ∈ hs, h.name.length ≤ 10000 ∧ h.takes.length ≤ 4000 ∧ h.throws.length ≤ 4000
theorem ok_NoPact___init__ (T : Txt w K mg a) : FnOk P w K mg base CX0 1 a.f_NoPact___init__ a.d_NoPact___init__ ["self", "at"] (spErr a.c_NoPact "at") := by
  refine T.F_NoPact___init__.ok sc_NoPact___init__ (fun vs H Q E h => ?_) (fun cdv A outer s H vs Q E hr h => ?_)
  · obtain ⟨e, v, rfl, _⟩ := h
    rfl
  · obtain ⟨e, v, rfl, he, q⟩ := h
    refine ⟨_, pss_one (ps_ost (pv 0) (pv 1)), ?_⟩
    exact ⟨_, rfl, _, rfl, e, a.c_NoPact, rfl, T.ox_NoPact, T.na_NoPact_at, .inl ⟨he, q⟩⟩
def spInitX (K : PySem.W.Frag) (C N : Addr) : Sp := fun vs H Q E => ∃ (x dx pl hl : Addr) (L : List (Addr × Pr)) (M : List (Addr × Hl)), vs = [.ref x, .ref pl, .ref hl] ∧ H x = some (.ins C dx []) ∧ PairsAt H pl L ∧ HelpersAt K H hl M ∧ SzP (L.map (·.2)) ∧ SzH (M.map (·.2)) ∧
  (okPs (L.map (·.2)) → okHs (L.map (·.2)) (M.map (·.2)) → ∀ (kp kd : Addr) (H' : Hp), H kp = none → H kd = none → PactsH K C H' x kp kd L M → (∀ y o, y ≠ x → H y = some o → H' y = some o) → Q .non H') ∧
  (∀ z, FB (L.map (·.2)) (M.map (·.2)) z → z ≠ -1 → ∀ (d : Addr) (H' : Hp), H d = none → H' d = some (.xd [("at", .int z)]) → (∀ y o, y ≠ x → H y = some o → H' y = some o) → E (.ref N) (some d) H')
theorem ok_Pacts___init__ (T : Txt w K mg a) : FnOk P w K mg base (L2.CX P w) 3 a.f_Pacts___init__ a.d_Pacts___init__ ["self", "pairs", "helpers"] (spInitX K a.c_Pacts a.c_NoPact) := by
  have G_Pacts_fits_pair := ok_Pacts_fits_pair (P := P) (w := w) (base := base) T
  have G_NoPact___init__ := ok_NoPact___init__ (P := P) (w := w) (base := base) T
  have G_Pacts_fits_helper := ok_Pacts_fits_helper (P := P) (w := w) (base := base) T
  have cl_Pacts := T.cl_Pacts
  have na_Pacts_kept_pairs := T.na_Pacts_kept_pairs
  have na_Pacts_kept_pacts := T.na_Pacts_kept_pacts
  refine T.F_Pacts___init__.okX sc_Pacts___init__ (fun vs H Q E h => ?_) (fun cdv A outer s H vs Q E hr h => ?_)
  · obtain ⟨x, dx, pl, hl, L, M, rfl, _⟩ := h
    rfl
  · obtain ⟨x, dx, pl, hl, L, M, rfl, hx, PP, HH, zP, zH, q1, q2⟩ := h
    refine ⟨_, (pss_cons (ps_fld (pv 0) (pe_lst pa_nil) rfl)
      (pss_cons (ps_fld (pv 0) pe_dnewK rfl)
      (pss_cons (ps_stop (ps_for (passes_of rfl) rfl (pi_wait (pi_enum rfl T.z_enumerate (pa_cons (pv 1) pa_nil))) (pg_tup rfl (pgs_cons (pg_name (i := 3) sc_Pacts___init__.nd rfl (Or.inl rfl)) (pgs_cons (pg_name (i := 4) sc_Pacts___init__.nd rfl (Or.inl rfl)) pgs_nil))) (pss_cons (ps_if (pt_not (pt_val (pe_meth (pv 0) T.cl_Pacts T.mt_Pacts_fits_pair G_Pacts_fits_pair (hr.mono (by decide)) T.b_Pacts_fits_pair .nil pass0 (pa_cons (pv 4) pa_nil)))) (pss_one (ps_raise rfl (takes_of rfl rfl rfl rfl) (pmk_oex T.ox_NoPact T.ini_NoPact T.ti_NoPact G_NoPact___init__ (hr.mono (by decide)) T.b_NoPact___init__ .nil pass0 rfl T.m_NoPact (by exact (pa_cons (pv 3) pa_nil))))) pss_nil)
      (pss_one (ps_expr (pe_bm PySem.F.plainAttrs_list PySem.F.slot_list_append PySem.F.type_list_append mt_append (pe_fld (pv 0) rfl) (pa_cons (pv 4) pa_nil)))))))
      (pss_one (ps_stop (ps_for (passes_of rfl) rfl (pi_wait (pi_enum rfl T.z_enumerate (pa_cons (pv 2) pa_nil))) (pg_tup rfl (pgs_cons (pg_name (i := 3) sc_Pacts___init__.nd rfl (Or.inl rfl)) (pgs_cons (pg_name (i := 5) sc_Pacts___init__.nd rfl (Or.inl rfl)) pgs_nil))) (pss_cons (ps_if (pt_not (pt_val (pe_meth (pv 0) T.cl_Pacts T.mt_Pacts_fits_helper G_Pacts_fits_helper (hr.mono (by decide)) T.b_Pacts_fits_helper .nil pass0 (pa_cons (pv 5) pa_nil)))) (pss_one (ps_raise rfl (takes_of rfl rfl rfl rfl) (pmk_oex T.ox_NoPact T.ini_NoPact T.ti_NoPact G_NoPact___init__ (hr.mono (by decide)) T.b_NoPact___init__ .nil pass0 rfl T.m_NoPact (by exact (pa_cons (pe_op op_add (pe_callB call_lenK (by rfl) T.z_len PySem.boot_len (pa_cons (pv 1) pa_nil)) (pv 3)) pa_nil))))) pss_nil)
      (pss_one (ps_dput (hu_of hr) (pe_fld (pv 0) rfl) (pe_ix ix_tup (pv 5) pe_int (fun _ _ => rfl)) (pv 5) rfl))))))))), ?_⟩
    refine ⟨Nat.zero_le _, fun kp hkp => ?_⟩
    have nxp : x ≠ kp := ne_of_none hx hkp
    walk_at "go"
    intro kd hkd
    have nxd : x ≠ kd := fun z => by rw [← z, upd_same] at hkd; cases hkd
    have hkd1 : upd H kp (.lst []) kd = none := by rw [upd_ne nxd.symm] at hkd; exact hkd
    have npd : kp ≠ kd := fun z => by rw [← z, upd_same] at hkd1; cases hkd1
    have hkd2 : H kd = none := by rw [upd_ne npd.symm] at hkd1; exact hkd1
    walk_at "go"
    obtain ⟨H0, e0⟩ : ∃ H0, H0 = upd (upd (upd (upd H kp (.lst [])) x (.ins a.c_Pacts dx [(("kept_pairs" : Str), V.ref kp)])) kd (.dK [])) x (.ins a.c_Pacts dx (pf kp kd)) := ⟨_, rfl⟩
    have hx0 : H0 x = some (.ins a.c_Pacts dx (pf kp kd)) := by rw [e0, upd_same]
    have hp0 : H0 kp = some (.lst []) := by rw [e0, upd_ne nxp.symm, upd_ne npd, upd_ne nxp.symm, upd_same]
    have hd0 : H0 kd = some (.dK []) := by rw [e0, upd_ne nxd.symm, upd_same]
    have k0 : ∀ y o, y ≠ x → H y = some o → H0 y = some o := fun y o n e => by
      rw [e0, upd_ne n, upd_ne (ne_of_none e hkd2), upd_ne n, upd_ne (ne_of_none e hkp)]
      exact e
    show tStop _ _ _ (upd (upd (upd (upd H kp (.lst [])) x (.ins a.c_Pacts dx [(("kept_pairs" : Str), V.ref kp)])) kd (.dK [])) x (.ins a.c_Pacts dx (pf kp kd)))
    rw [← e0]
    have nlx : pl ≠ x := ne_of PP.ls hx (by intro z; cases z)
    have nhx : hl ≠ x := ne_of HH.ls hx (by intro z; cases z)
    have hls0 := k0 _ _ nlx PP.ls
    have zl := zP.len
    have zm := zH.len
    rw [List.length_map] at zl zm
    refine stop_in ?_
    walk_at "go"
    refine wait ?_
    refine forW (walk_enum (K := K) (xs := L.map fun e => V.ref e.1)) (fun i σ H' => (∃ u3 u4, σ = [some (.ref x), some (.ref pl), some (.ref hl), u3, u4, none]) ∧ PactsAt a.c_Pacts H' x kp kd (L.take i) [] ∧ (∀ y o, y ≠ x → H y = some o → H' y = some o) ∧ ∀ j < i, ∀ p, (L.map (·.2))[j]? = some p → fitsP ((L.map (·.2)).take j) p = true) ?_ ?_ ?_ ?_
    · exact ⟨⟨_, _, rfl⟩, ⟨⟨dx, hx0⟩, ⟨hp0, fun _ h => nomatch h⟩, hd0⟩, k0, fun j hj => absurd hj (Nat.not_lt_zero _)⟩
    · rintro i σ H' _ ⟨_, _, k, _⟩
      exact SqL.of (k _ _ nlx PP.ls)
    · rintro i v σ H1 H2 hi ⟨⟨u3, u4, rfl⟩, PA, k1, af⟩ ⟨t, y1, y2, rfl, ht, rfl, hy1, hy2⟩
      have hy2 : (L.map fun e => V.ref e.1)[i]? = some y2 := hy2
      rw [List.getElem?_map] at hy2
      obtain ⟨e, he, rfl⟩ := Option.map_eq_some_iff.mp hy2
      have hem := List.mem_of_getElem? he
      have s2 : Same H1 (upd H1 t (.tup [y1, .ref e.1])) := Same.upd_new ht
      have PA2 := PA.same s2
      obtain ⟨dx2, ho2⟩ := PA2.ob
      have hpe : H e.1 = _ := PP.at_ e hem
      have hpe2 : PrAt (upd H1 t (.tup [y1, .ref e.1])) (e.1, e.2) := s2 _ _ (k1 _ _ (ne_of hpe hx (by intro z; cases z)) hpe)
      have l1 : (L.take i).length ≤ 10000 := by rw [List.length_take]; omega
      have hgm : e.2 ∈ L.map (·.2) := List.mem_map.mpr ⟨e, hem, rfl⟩
      have l2 : e.2.near.length ≤ 100000 := Nat.le_trans (zP.nl _ hgm).1 (by decide)
      have l3 : e.2.far.length ≤ 100000 := Nat.le_trans (zP.nl _ hgm).2 (by decide)
      have hei : (L.map (·.2))[i]? = some e.2 := by rw [List.getElem?_map, he] <;> rfl
      cases hy1
      walk_at "go"
      intro H3 s3
      rw [List.map_take]
      cases hfit : fitsP ((L.map (·.2)).take i) e.2 with
      | false =>
        walk_at "go"
        refine (raise_err fun d H4 hd hd4 s4 => q2 i (.inr (.inl ⟨i, rfl, ⟨e.2, hei, hfit⟩, af⟩)) (by omega) d H4 ?_ hd4 fun y o n ey => s4 _ _ (s3 _ _ (s2 _ _ (k1 y o n ey)))).2
        cases yd : H d with
        | none => rfl
        | some o =>
          by_cases n : d = x
          · rw [n, s3 _ _ ho2] at hd; cases hd
          · rw [s3 _ _ (s2 _ _ (k1 d o n yd))] at hd; cases hd
      | true =>
        have PA3 := PA2.same s3
        obtain ⟨dx3, ho3⟩ := PA3.ob
        have hp3 := PA3.pr.ls
        walk_at "go"
        refine ⟨small_lt (by rw [List.length_map, List.length_take]; omega), wait ⟨⟨_, _, rfl⟩, ?_, ?_, ?_⟩⟩
        · refine ⟨⟨dx3, upd_get nxp ho3⟩, ⟨?_, fun d hd => ?_⟩, upd_get npd.symm PA3.pc⟩
          · rw [upd_same, List.take_add_one, he, List.map_append] <;> rfl
          · rw [List.take_add_one, he, Option.toList_some] at hd
            rcases List.mem_append.mp hd with z | z
            · have := PA3.pr.at_ d z
              exact upd_get (ne_of this hp3 (by intro z; cases z)) this
            · rw [List.mem_singleton.mp z]
              have h3 : PrAt H3 e := s3 _ _ hpe2
              exact upd_get (ne_of h3 hp3 (by intro z; cases z)) h3
        · intro y o n e
          exact upd_get (ne_of_none e hkp) (s3 _ _ (s2 _ _ (k1 y o n e)))
        · intro j hj p hp
          by_cases z : j = i
          · subst z
            rw [hei] at hp
            cases hp
            exact hfit
          · exact af j (by omega) p hp
    · rintro σ H1 ⟨⟨u3, u4, rfl⟩, PA, k1, af⟩
      rw [List.length_map, List.take_length] at PA
      have okP : okPs (L.map (·.2)) := fun j p hp => af j (by rw [List.length_map]; have := (List.getElem?_eq_some_iff.mp hp).1; rw [List.length_map] at this; exact this) p hp
      have hh1 := k1 _ _ nhx HH.ls
      refine stop_in ?_
      walk_at "go"
      refine wait ?_
      refine forW (walk_enum (K := K) (xs := M.map fun e => V.ref e.1)) (fun i σ H' => (∃ u3 u4 u5, σ = [some (.ref x), some (.ref pl), some (.ref hl), u3, u4, u5]) ∧ PactsH K a.c_Pacts H' x kp kd L (M.take i) ∧ (∀ y o, y ≠ x → H y = some o → H' y = some o) ∧ ∀ j < i, ∀ h, (M.map (·.2))[j]? = some h → fitsH (L.map (·.2)) ((M.map (·.2)).take j) h = true) ?_ ?_ ?_ ?_
      · exact ⟨⟨_, _, _, rfl⟩, ⟨PA, fun _ h => nomatch h⟩, k1, fun j hj => absurd hj (Nat.not_lt_zero _)⟩
      · rintro i σ H' _ ⟨_, _, k, _⟩
        exact SqL.of (k _ _ nhx HH.ls)
      · rintro i v σ H2 H3 hi ⟨⟨u3', u4', u5', rfl⟩, PH, k2, ah⟩ ⟨t, y1, y2, rfl, ht, rfl, hy1, hy2⟩
        have hy2 : (M.map fun e => V.ref e.1)[i]? = some y2 := hy2
        rw [List.getElem?_map] at hy2
        obtain ⟨e, he, rfl⟩ := Option.map_eq_some_iff.mp hy2
        have hem := List.mem_of_getElem? he
        have s3 : Same H2 (upd H2 t (.tup [y1, .ref e.1])) := Same.upd_new ht
        have PH3 := PH.same s3
        obtain ⟨dx3, ho3⟩ := PH3.pa.ob
        have tkH : TK H H2 := TK.of fun t o e n => k2 _ _ (fun z => by
          subst z
          rw [hx] at e
          cases e
          exact n True.intro) e
        have he3 : HlAt K (upd H2 t (.tup [y1, .ref e.1])) (e.1, e.2) := (HH.at_ e hem).tk (tkH.trans (TK.same s3))
        have hgm : e.2 ∈ M.map (·.2) := List.mem_map.mpr ⟨e, hem, rfl⟩
        have l0 : L.length ≤ 10000 := by omega
        have l1 : (M.take i).length ≤ 10000 := by rw [List.length_take]; omega
        have zz := zH.nl _ hgm
        have l2 : e.2.name.length ≤ 100000 := Nat.le_trans zz.1 (by decide)
        have l3 := zz.2.1
        have l4 := zz.2.2
        have hei : (M.map (·.2))[i]? = some e.2 := by rw [List.getElem?_map, he] <;> rfl
        cases hy1
        walk_at "go"
        intro H4 s4
        rw [List.map_take]
        cases hfit : fitsH (L.map (·.2)) ((M.map (·.2)).take i) e.2 with
        | false =>
          have lp4 : H4 pl = some (.lst (L.map fun e => V.ref e.1)) := s4 _ _ (s3 _ _ (k2 _ _ nlx PP.ls))
          have lml : (L.map fun e => V.ref e.1).length = (L.map (·.2)).length := by rw [List.length_map, List.length_map]
          walk_at "go"
          rw [lml]
          refine (raise_err fun d H5 hd hd5 s5 => q2 _ (.inr (.inr ⟨i, rfl, okP, ⟨e.2, hei, hfit⟩, ah⟩)) (by omega) d H5 ?_ hd5 fun y o n ey => s5 _ _ (s4 _ _ (s3 _ _ (k2 y o n ey)))).2
          cases yd : H d with
          | none => rfl
          | some o =>
            by_cases n : d = x
            · rw [n, s4 _ _ ho3] at hd; cases hd
            · rw [s4 _ _ (s3 _ _ (k2 d o n yd))] at hd; cases hd
        | true =>
          have PH4 := PH3.same s4
          obtain ⟨dx4, ho4⟩ := PH4.pa.ob
          have hd4 := PH4.pa.pc
          obtain ⟨tk, th, he4, _, _⟩ := he3.tk (TK.same s4)
          have hnew := fitsH_new hfit
          rw [← List.map_take, List.map_map] at hnew
          have hnew : e.2.name ∉ (M.take i).map fun e => e.2.name := hnew
          walk_at "go"
          refine ⟨DPut.k (k := Sum.inr e.2.name) hd4 (small_lt (by rw [hk_len, List.length_take]; omega)), ?_⟩
          rw [hk_put _ hnew]
          refine wait ⟨⟨_, _, _, rfl⟩, ⟨⟨⟨dx4, upd_get nxd ho4⟩, PH4.pa.pr.keep (fun o e => upd_get npd e) (fun t ys e => (TK.dK hd4 t).1 ys e), ?_⟩, fun d hd => ?_⟩, fun y o n e => upd_get (ne_of_none e hkd2) (s4 _ _ (s3 _ _ (k2 y o n e))), fun j hj p hp => ?_⟩
          · rw [upd_same, List.take_add_one, he, Option.toList_some, hk_snoc]
          · rw [List.take_add_one, he, Option.toList_some] at hd
            rcases List.mem_append.mp hd with z | z
            · exact (PH4.at_ d z).tk (TK.dK hd4)
            · rw [List.mem_singleton.mp z]
              exact (he3.tk (TK.same s4)).tk (TK.dK hd4)
          · by_cases z : j = i
            · subst z
              rw [hei] at hp
              cases hp
              exact hfit
            · exact ah j (by omega) p hp
      · rintro σ H2 ⟨⟨u3', u4', u5', rfl⟩, PH, k2, ah⟩
        rw [List.length_map, List.take_length] at PH
        exact q1 okP (fun j h hh => ah j (by rw [List.length_map]; have := (List.getElem?_eq_some_iff.mp hh).1; rw [List.length_map] at this; exact this) h hh) kp kd _ hkp hkd2 PH k2
structure SW (w : Str) : Prop where
  len : w.length ≤ 10000
  ok : PyData.strOk w = true
theorem IsName.ok {w : Str} (h : IsName w) : PyData.strOk w = true := by
  unfold PyData.strOk
  rw [← Array.all_toList, List.all_eq_true]
  intro c hc
  have := h.cs c hc
  exact decide_eq_true (by omega)
theorem IsName.sw {w : Str} (h : IsName w) : SW w := ⟨Nat.le_trans h.hi (by decide), h.ok⟩
structure XP (n : Nat) (ps : List Pr) : Prop where
  len : ps.length ≤ n
  sw : ∀ p ∈ ps, SW p.near ∧ SW p.far
structure XH (n : Nat) (hs : List Hl) : Prop where
  len : hs.length ≤ n
  sw : ∀ h ∈ hs, SW h.name ∧ h.takes.length ≤ n ∧ h.throws.length ≤ n ∧ (∀ w ∈ h.takes, SW w) ∧ ∀ w ∈ h.throws, SW w
theorem XP.sz {n : Nat} {ps : List Pr} (h : XP n ps) (hn : n ≤ 1000) : SzP ps := ⟨by have := h.len; omega, fun p hp => ⟨Nat.le_trans (h.sw p hp).1.len (by decide), Nat.le_trans (h.sw p hp).2.len (by decide)⟩⟩
theorem XH.sz {n : Nat} {hs : List Hl} (h : XH n hs) (hn : n ≤ 1000) : SzH hs := ⟨by have := h.len; omega, fun p hp => ⟨Nat.le_trans (h.sw p hp).1.len (by decide), by have := (h.sw p hp).2.1; omega, by have := (h.sw p hp).2.2.1; omega⟩⟩
abbrev odds : List Str := ["", "abcdefghi", "Ab", "a1", "a b", "-", "lent", "q"]
theorem sw_dec {w : Str} (h : (decide (w.length ≤ 10000) && PyData.strOk w) = true) : SW w := by
  rw [Bool.and_eq_true] at h
  exact ⟨of_decide_eq_true h.1, h.2⟩
theorem sw_all {ws : List Str} (h : (ws.all fun w => decide (w.length ≤ 10000) && PyData.strOk w) = true) : ∀ w ∈ ws, SW w := fun w hw => sw_dec (List.all_eq_true.mp h w hw)
theorem odds_sw : ∀ w ∈ odds, SW w := sw_all (by decide +kernel)
theorem strs_at' {ws : List Str} {r : Int} (h0 : 0 ≤ r) (h1 : r < (ws.length : Int)) : ∃ w, atI (ws.map V.str) r = some (.str w) ∧ w ∈ ws := by
  obtain ⟨v, e1, e2⟩ := atI_in (xs := ws.map V.str) h0 (by rw [List.length_map]; exact h1)
  rw [List.getElem?_map] at e2
  obtain ⟨w, hw, rfl⟩ := Option.map_eq_some_iff.mp e2
  exact ⟨w, e1, List.mem_of_getElem? hw⟩
theorem XP.mem {n : Nat} {L : List (Addr × Pr)} (h : XP n (L.map (·.2))) {e : Addr × Pr} (he : e ∈ L) : SW e.2.near ∧ SW e.2.far := h.sw _ (List.mem_map.mpr ⟨e, he, rfl⟩)
theorem pairs_at {L : List (Addr × Pr)} {r : Int} (h0 : 0 ≤ r) (h1 : r < (L.length : Int)) : ∃ e, atI (L.map fun e => V.ref e.1) r = some (.ref e.1) ∧ L[r.toNat]? = some e := by
  obtain ⟨v, e1, e2⟩ := atI_in (xs := L.map fun e => V.ref e.1) h0 (by rw [List.length_map]; exact h1)
  rw [List.getElem?_map] at e2
  obtain ⟨e, he, rfl⟩ := Option.map_eq_some_iff.mp e2
  exact ⟨e, e1, he⟩
theorem cutV_fromI (xs : List V) {r : Int} (h : 0 ≤ r) : cutV xs (some r) none = xs.drop r.toNat := by
  obtain ⟨k, rfl⟩ : ∃ k : Nat, r = k := ⟨r.toNat, by omega⟩
  exact cutV_from xs k
theorem cutV_toI (xs : List V) {r : Int} (h : 0 ≤ r) : cutV xs none (some r) = xs.take r.toNat := by
  obtain ⟨k, rfl⟩ : ∃ k : Nat, r = k := ⟨r.toNat, by omega⟩
  exact cutV_to xs k
theorem nodup_by {ws : List Str} (h : ∀ j w, ws[j]? = some w → w ∉ ws.take j) : ws.Nodup := by
  rw [List.nodup_iff_pairwise_ne, List.pairwise_iff_getElem]
  intro i j hi hj lt e
  refine h j ws[j] (List.getElem?_eq_getElem hj) ?_
  rw [← e]
  exact List.mem_take_iff_getElem.mpr ⟨i, by omega, rfl⟩
theorem not_nodup {ws : List Str} {j : Nat} {w : Str} (h : ws[j]? = some w) (hm : w ∈ ws.take j) : ¬ ws.Nodup := by
  intro nd
  rw [List.nodup_iff_pairwise_ne, List.pairwise_iff_getElem] at nd
  obtain ⟨i, hi, e⟩ := List.mem_take_iff_getElem.mp hm
  obtain ⟨hj, e2⟩ := List.getElem?_eq_some_iff.mp h
  exact nd i j (by omega) hj (by omega) (by rw [e, e2])
theorem slA_of {K : PySem.W.Frag} {a : Addr} {xs : List V} {lo hi : Option Int} {H : Hp} {Q : VK} (ha : SqT K H a xs) (q : ∀ r H', Same H H' → SqT K H' r (cutV xs lo hi) → Q (.ref r) H') : rSlA K (.ref a) lo hi H Q := by
  refine ⟨a, xs, rfl, ha, fun e => q a H (fun _ _ e => e) ?_, fun _ p hp => q p _ (Same.upd_new hp) (SqT.of upd_same)⟩
  unfold cutV
  rw [e.1, e.2, List.drop_zero, Nat.sub_zero, List.take_length]
  exact ha
theorem catA_of {K : PySem.W.Frag} {a b : Addr} {xs ys : List V} {H : Hp} {Q : VK} (ha : SqT K H a xs) (hb : SqT K H b ys) (hz : xs.length + ys.length ≤ sizeLine) (q : ∀ r H', Same H H' → SqT K H' r (xs ++ ys) → Q (.ref r) H') : rCatA K (.ref a) (.ref b) H Q := by
  refine ⟨a, b, xs, ys, rfl, rfl, ha, hb, hz, fun e => q b H (fun _ _ e => e) ?_, fun _ e => q a H (fun _ _ e => e) ?_, fun _ _ p hp => q p _ (Same.upd_new hp) (SqT.of upd_same)⟩
  · rw [e]; exact hb
  · rw [e, List.append_nil]; exact ha
theorem FitsH.cons {ps : List Pr} {hs : List Hl} {h : Hl} (c1 : nameB h.name = true) (c2 : h.name ∉ hs.map (·.name)) (c3 : h.side = 0 ∨ h.side = 1) (c4 : (hs.filter fun k => decide (k.side = h.side)).length ≠ 4) (c5 : h.takes.length ≤ 3) (c6 : h.throws.length ≤ 4) :
    fitsH ps hs h = ((h.takes.all fun w => decide (w ∈ hows)) && decide h.throws.Nodup && h.throws.all fun w => decide (w ∈ ps.map (·.word h.side))) := by
  unfold fitsH
  rw [c1, decide_eq_true c2, decide_eq_true c3, decide_eq_true c4, decide_eq_true c5, decide_eq_true c6] <;> rfl
def cutL (ws : List Str) (lo hi : Option Int) : List Str := (ws.drop (HT.sIx ws.length 0 lo)).take (HT.sIx ws.length ws.length hi - HT.sIx ws.length 0 lo)
theorem cutV_strs (ws : List Str) (lo hi : Option Int) : cutV (ws.map V.str) lo hi = (cutL ws lo hi).map V.str := by
  unfold cutV cutL
  rw [List.length_map, List.map_take, List.map_drop]
theorem cutL_mem {ws : List Str} {lo hi : Option Int} {w : Str} (h : w ∈ cutL ws lo hi) : w ∈ ws := List.mem_of_mem_drop (List.mem_of_mem_take h)
theorem cutL_len (ws : List Str) (lo hi : Option Int) : (cutL ws lo hi).length ≤ ws.length := by
  unfold cutL
  rw [List.length_take, List.length_drop]
  omega
theorem helpers_at {M : List (Addr × Hl)} {r : Int} (h0 : 0 ≤ r) (h1 : r < (M.length : Int)) : ∃ e, atI (M.map fun e => V.ref e.1) r = some (.ref e.1) ∧ M[r.toNat]? = some e := by
  obtain ⟨v, e1, e2⟩ := atI_in (xs := M.map fun e => V.ref e.1) h0 (by rw [List.length_map]; exact h1)
  rw [List.getElem?_map] at e2
  obtain ⟨e, he, rfl⟩ := Option.map_eq_some_iff.mp e2
  exact ⟨e, e1, he⟩
theorem XH.mem {n : Nat} {M : List (Addr × Hl)} (h : XH n (M.map (·.2))) {e : Addr × Hl} (he : e ∈ M) : SW e.2.name ∧ e.2.takes.length ≤ n ∧ e.2.throws.length ≤ n ∧ (∀ w ∈ e.2.takes, SW w) ∧ ∀ w ∈ e.2.throws, SW w := h.sw _ (List.mem_map.mpr ⟨e, he, rfl⟩)
def prD (p : Pr) : PyData := .tuple [.str p.near, .str p.far, .bool p.laden]
def strsD (ws : List Str) : PyData := .tuple (ws.map PyData.str)
def hlD (h : Hl) : PyData := .tuple [.str h.name, .int h.side, strsD h.takes, .bool h.gives, strsD h.throws]
theorem lay_strs : ∀ {ws : List Str}, (∀ w ∈ ws, SW w) → PyData.canLayAll0 (ws.map PyData.str) = true
  | [], _ => rfl
  | w :: r, h => by
    show (PyData.strOk w && PyData.canLayAll0 (r.map PyData.str)) = true
    rw [(h w List.mem_cons_self).ok, lay_strs fun q hq => h q (List.mem_cons_of_mem _ hq)] <;> rfl
theorem depth_strs : ∀ ws : List Str, PyData.depthAll (ws.map PyData.str) = 0
  | [] => rfl
  | w :: r => by
    show max 0 (PyData.depthAll (r.map PyData.str)) = 0
    rw [depth_strs r] <;> rfl
theorem lay_prs : ∀ {ps : List Pr}, (∀ p ∈ ps, SW p.near ∧ SW p.far) → PyData.canLayAll0 (ps.map prD) = true
  | [], _ => rfl
  | p :: r, h => by
    show ((PyData.strOk p.near && (PyData.strOk p.far && (true && true))) && PyData.canLayAll0 (r.map prD)) = true
    rw [(h p List.mem_cons_self).1.ok, (h p List.mem_cons_self).2.ok, lay_prs fun q hq => h q (List.mem_cons_of_mem _ hq)] <;> rfl
theorem depth_prs : ∀ ps : List Pr, PyData.depthAll (ps.map prD) ≤ 1
  | [] => Nat.zero_le _
  | p :: r => by
    show max (PyData.depth (prD p)) (PyData.depthAll (r.map prD)) ≤ 1
    have := depth_prs r
    have e : PyData.depth (prD p) = 1 := rfl
    omega
abbrev HW (h : Hl) : Prop := SW h.name ∧ (∀ w ∈ h.takes, SW w) ∧ ∀ w ∈ h.throws, SW w
theorem lay_hl {h : Hl} (hw : HW h) : PyData.canLay0 (hlD h) = true := by
  show (PyData.strOk h.name && (true && (PyData.canLayAll0 (h.takes.map PyData.str) && (true && (PyData.canLayAll0 (h.throws.map PyData.str) && true))))) = true
  rw [hw.1.ok, lay_strs hw.2.1, lay_strs hw.2.2] <;> rfl
theorem depth_hl (h : Hl) : PyData.depth (hlD h) ≤ 2 := by
  show max 0 (max 0 (max (PyData.depthAll (h.takes.map PyData.str) + 1) (max 0 (max (PyData.depthAll (h.throws.map PyData.str) + 1) 0)))) + 1 ≤ 2
  rw [depth_strs, depth_strs] <;> decide
theorem lay_hls : ∀ {hs : List Hl}, (∀ h ∈ hs, HW h) → PyData.canLayAll0 (hs.map hlD) = true
  | [], _ => rfl
  | p :: r, h => by
    show (PyData.canLay0 (hlD p) && PyData.canLayAll0 (r.map hlD)) = true
    rw [lay_hl (h p List.mem_cons_self), lay_hls fun q hq => h q (List.mem_cons_of_mem _ hq)] <;> rfl
theorem depth_hls : ∀ hs : List Hl, PyData.depthAll (hs.map hlD) ≤ 2
  | [] => Nat.zero_le _
  | p :: r => by
    show max (PyData.depth (hlD p)) (PyData.depthAll (r.map hlD)) ≤ 2
    have := depth_hls r
    have := depth_hl p
    omega
theorem shaped_prs {ps : List Pr} (h : ∀ p ∈ ps, SW p.near ∧ SW p.far) : SeqAt.shaped (.list (ps.map prD)) = true := by
  unfold SeqAt.shaped
  rw [Bool.and_eq_true]
  refine ⟨lay_prs h, decide_eq_true ?_⟩
  show PyData.depthAll (ps.map prD) + 1 ≤ 64
  have := depth_prs ps
  omega
theorem shaped_hl {h : Hl} (hw : HW h) : SeqAt.shaped (hlD h) = true := by
  unfold SeqAt.shaped
  rw [Bool.and_eq_true]
  exact ⟨lay_hl hw, decide_eq_true (Nat.le_trans (depth_hl h) (by decide))⟩
theorem shaped_both {ps : List Pr} {hs : List Hl} (h1 : ∀ p ∈ ps, SW p.near ∧ SW p.far) (h2 : ∀ h ∈ hs, HW h) : SeqAt.shaped (.list [.list (ps.map prD), .list (hs.map hlD)]) = true := by
  unfold SeqAt.shaped
  rw [Bool.and_eq_true]
  refine ⟨?_, decide_eq_true ?_⟩
  · show (PyData.canLayAll0 (ps.map prD) && (PyData.canLayAll0 (hs.map hlD) && true)) = true
    rw [lay_prs h1, lay_hls h2] <;> rfl
  · show max (PyData.depthAll (ps.map prD) + 1) (max (PyData.depthAll (hs.map hlD) + 1) 0) + 1 ≤ 64
    have := depth_prs ps
    have := depth_hls hs
    omega
theorem dp_strs {K : PySem.W.Frag} {H : Hp} : ∀ ws : List Str, DpAll K H (ws.map V.str) (ws.map PyData.str)
  | [] => .nil
  | w :: r => .cons (.str w) (dp_strs r)
theorem dp_prs {K : PySem.W.Frag} {H : Hp} : ∀ {L : List (Addr × Pr)}, (∀ e ∈ L, PrAt H e) → DpAll K H (L.map fun e => V.ref e.1) ((L.map (·.2)).map prD)
  | [], _ => .nil
  | e :: r, h => .cons (.tup (SqT.of (h e List.mem_cons_self)) (.cons (.str _) (.cons (.str _) (.cons (.bl _) .nil)))) (dp_prs fun d hd => h d (List.mem_cons_of_mem _ hd))
theorem HlAt.dp {K : PySem.W.Frag} {H : Hp} {e : Addr × Hl} (h : HlAt K H e) : Dp K H (.ref e.1) (hlD e.2) := by
  obtain ⟨tk, th, h1, h2, h3⟩ := h
  exact .tup (SqT.of h1) (.cons (.str _) (.cons (.int _) (.cons (.tup h2 (dp_strs _)) (.cons (.bl _) (.cons (.tup h3 (dp_strs _)) .nil)))))
theorem dp_hls {K : PySem.W.Frag} {H : Hp} : ∀ {M : List (Addr × Hl)}, (∀ e ∈ M, HlAt K H e) → DpAll K H (M.map fun e => V.ref e.1) ((M.map (·.2)).map hlD)
  | [], _ => .nil
  | e :: r, h => .cons (h e List.mem_cons_self).dp (dp_hls fun d hd => h d (List.mem_cons_of_mem _ hd))
theorem PairsAt.dp {K : PySem.W.Frag} {H : Hp} {D : Addr} {L : List (Addr × Pr)} (h : PairsAt H D L) : Dp K H (.ref D) (.list ((L.map (·.2)).map prD)) := .lst (SqL.of h.ls) (dp_prs h.at_)
theorem HelpersAt.dp {K : PySem.W.Frag} {H : Hp} {D : Addr} {M : List (Addr × Hl)} (h : HelpersAt K H D M) : Dp K H (.ref D) (.list ((M.map (·.2)).map hlD)) := .lst (SqL.of h.ls) (dp_hls h.at_)
theorem okHs_nodup {ps : List Pr} {hs : List Hl} (h : okHs ps hs) : (hs.map (·.name)).Nodup := nodup_by fun j w hw => by
  rw [List.getElem?_map] at hw
  obtain ⟨k, hk, rfl⟩ := Option.map_eq_some_iff.mp hw
  rw [← List.map_take]
  exact fitsH_new (h j k hk)
theorem Good.xp {ps : List Pr} (G : Good ps) : XP 8 ps := ⟨Nat.le_trans G.len (by decide), fun p hp => ⟨(G.kn p hp).sw, (G.kf p hp).sw⟩⟩
theorem hows_sw : ∀ w ∈ hows, SW w := sw_all (by decide +kernel)
theorem GoodH.xh {ps : List Pr} {hs : List Hl} (G : Good ps) (GH : GoodH ps hs) : XH 8 hs := by
  refine ⟨GH.len, fun h hh => ⟨(GH.nm h hh).sw, Nat.le_trans (GH.ok h hh).tl (by decide), Nat.le_trans (GH.ok h hh).hl (by decide), fun w hw => hows_sw w ((GH.ok h hh).tk w hw), fun w hw => ?_⟩⟩
  obtain ⟨p, hp, rfl⟩ := List.mem_map.mp ((GH.ok h hh).hw w hw)
  unfold Pr.word
  split
  · exact (G.kn p hp).sw
  · exact (G.kf p hp).sw
theorem XP.up {n m : Nat} {ps : List Pr} (h : XP n ps) (e : n ≤ m) : XP m ps := ⟨Nat.le_trans h.len e, h.sw⟩
theorem XH.up {n m : Nat} {hs : List Hl} (h : XH n hs) (e : n ≤ m) : XH m hs := ⟨Nat.le_trans h.len e, fun x hx => ⟨(h.sw x hx).1, Nat.le_trans (h.sw x hx).2.1 e, Nat.le_trans (h.sw x hx).2.2.1 e, (h.sw x hx).2.2.2⟩⟩
theorem filter_one {α : Type} {f : α → Str} : ∀ {l : List α}, (l.map f).Nodup → ∀ {e : α}, e ∈ l → l.filter (fun d => decide (f d = f e)) = [e]
  | [], _, _, h => by cases h
  | d :: r, hn, e, h => by
    rw [List.map_cons, List.nodup_cons] at hn
    by_cases q : f d = f e
    · have hr : r.filter (fun x => decide (f x = f e)) = [] := by
        rw [List.filter_eq_nil_iff]
        intro x hx z
        exact hn.1 (by rw [q, ← of_decide_eq_true z]; exact List.mem_map.mpr ⟨x, hx, rfl⟩)
      have hd : d = e := by
        rcases List.mem_cons.mp h with z | z
        · exact z.symm
        · exact absurd (q ▸ List.mem_map.mpr ⟨e, z, rfl⟩ : f d ∈ r.map f) hn.1
      rw [List.filter_cons_of_pos (by simp [q]), hr, hd]
    · rw [List.filter_cons_of_neg (by simp [q])]
      rcases List.mem_cons.mp h with z | z
      · exact absurd (by rw [z]) q
      · exact filter_one hn.2 z
def crossed (ps : List Pr) (h : Hl) (s : Int) : List Str := h.throws.flatMap fun w => (ps.filter fun p => decide (p.word h.side = w)).map (·.word s)
theorem Good.words {ps : List Pr} (G : Good ps) {s : Int} (hs : s = 0 ∨ s = 1) : (ps.map (·.word s)).Nodup := by
  rcases hs with rfl | rfl
  · exact G.nn
  · exact G.nf
theorem flat_map {α β : Type} {f : α → List β} {g : α → β} : ∀ {l : List α}, (∀ x ∈ l, f x = [g x]) → l.flatMap f = l.map g
  | [], _ => rfl
  | x :: r, h => by
    rw [List.flatMap_cons, h x List.mem_cons_self, flat_map fun y hy => h y (List.mem_cons_of_mem _ hy)] <;> rfl
theorem crossed_own {ps : List Pr} {h : Hl} (G : Good ps) (O : HOk ps h) : crossed ps h h.side = h.throws := by
  unfold crossed
  rw [flat_map (g := fun w => w), List.map_id']
  intro w hw
  obtain ⟨p, hp, rfl⟩ := List.mem_map.mp (O.hw w hw)
  rw [filter_one (f := fun p : Pr => p.word h.side) (G.words O.sd) hp] <;> rfl
def overW (ps : List Pr) (s : Int) (w : Str) : Str := ((ps.filter fun p => decide (p.word s = w)).map (·.word (1 - s))).headD w
theorem over_of {ps : List Pr} (G : Good ps) {s : Int} (hs : s = 0 ∨ s = 1) {p : Pr} (hp : p ∈ ps) : overW ps s (p.word s) = p.word (1 - s) := by
  unfold overW
  rw [filter_one (f := fun p : Pr => p.word s) (G.words hs) hp] <;> rfl
theorem crossed_over {ps : List Pr} {h : Hl} (G : Good ps) (O : HOk ps h) {s : Int} (hs : s = 1 - h.side) : crossed ps h s = h.throws.map (overW ps h.side) := by
  subst hs
  unfold crossed
  refine flat_map fun w hw => ?_
  obtain ⟨p, hp, rfl⟩ := List.mem_map.mp (O.hw w hw)
  rw [over_of G O.sd hp, filter_one (f := fun p : Pr => p.word h.side) (G.words O.sd) hp] <;> rfl
def htail (g : Bool) (zs : List Str) : List Str := (if g = true then (["gives"] : List Str) else []) ++ (if 0 < zs.length then (["throws"] : List Str) ++ zs else [])
def hwords (h : Hl) : List Str := (["helper", h.name, Str.ofString (toString h.side)] : List Str) ++ h.takes ++ htail h.gives h.throws
def hline (h : Hl) : Str := Txt.join " " (hwords h)
def noB (w : Str) : Prop := 32 ∉ w.cps.toList
structure WfH (h : Hl) : Prop where
  nm : IsName h.name
  sd : h.side = 0 ∨ h.side = 1
  tk : ∀ w ∈ h.takes, w ∈ hows
  th : ∀ w ∈ h.throws, IsName w
theorem IsName.noB {w : Str} (h : IsName w) : noB w := fun z => by
  have := h.cs _ z
  omega
theorem noB_all {ws : List Str} (h : (ws.all fun w => w.cps.toList.all fun c => decide (c ≠ 32)) = true) : ∀ w ∈ ws, noB w := fun w hw z => by
  have h1 := List.all_eq_true.mp h w hw
  exact of_decide_eq_true (List.all_eq_true.mp h1 _ z) rfl
theorem marks_noB : ∀ w ∈ (["helper", "gives", "throws", "lent", "given", Str.ofString (toString (0 : Int)), Str.ofString (toString (1 : Int))] : List Str), noB w := noB_all (by decide +kernel)
theorem side_noB {s : Int} (h : s = 0 ∨ s = 1) : noB (Str.ofString (toString s)) := by
  rcases h with rfl | rfl
  · exact marks_noB _ (by simp)
  · exact marks_noB _ (by simp)
theorem hwords_noB {h : Hl} (W : WfH h) : ∀ w ∈ hwords h, noB w := by
  intro w hw
  unfold hwords htail at hw
  rcases List.mem_append.mp hw with z | z
  · rcases List.mem_append.mp z with y | y
    · rcases List.mem_cons.mp y with rfl | y
      · exact marks_noB _ (by simp)
      · rcases List.mem_cons.mp y with rfl | y
        · exact W.nm.noB
        · rw [List.mem_singleton.mp y]
          exact side_noB W.sd
    · have := W.tk w y
      unfold hows at this
      rcases List.mem_cons.mp this with rfl | q
      · exact marks_noB _ (by simp)
      · rw [List.mem_singleton.mp q]
        exact marks_noB _ (by simp)
  · rcases List.mem_append.mp z with y | y
    · split at y
      · rw [List.mem_singleton.mp y]
        exact marks_noB _ (by simp)
      · cases y
    · split at y
      · rcases List.mem_append.mp y with q | q
        · rw [List.mem_singleton.mp q]
          exact marks_noB _ (by simp)
        · exact (W.th w q).noB
      · cases y
theorem tl_inj {x y : Str} (h : TL.tl x = TL.tl y) : x = y := by
  obtain ⟨a⟩ := x
  obtain ⟨b⟩ := y
  have : a.toList = b.toList := h
  rw [Array.toList_inj.mp this]
theorem join_inj {xs ys : List Str} (h1 : xs ≠ []) (h2 : ys ≠ []) (n1 : ∀ w ∈ xs, noB w) (n2 : ∀ w ∈ ys, noB w) (h : Txt.join " " xs = Txt.join " " ys) : xs = ys := by
  rw [TL.join_eq, TL.join_eq] at h
  have h3 := congrArg TL.tl h
  rw [TL.tl_join, TL.tl_join] at h3
  have e0 : TL.tl (" " : Str) = [32] := by decide +kernel
  rw [e0] at h3
  have e1 := TL.spl_join (s := 32) (S := []) (parts := xs.map TL.tl) (by simpa using h1) (fun p hp => by
    obtain ⟨w, hw, rfl⟩ := List.mem_map.mp hp
    exact n1 w hw)
  have e2 := TL.spl_join (s := 32) (S := []) (parts := ys.map TL.tl) (by simpa using h2) (fun p hp => by
    obtain ⟨w, hw, rfl⟩ := List.mem_map.mp hp
    exact n2 w hw)
  rw [h3, e2] at e1
  exact (List.map_inj_right (fun x y h => tl_inj h)).mp e1.symm
theorem span_inj {p : Str → Prop} : ∀ {t1 t2 r1 r2 : List Str}, (∀ w ∈ t1, p w) → (∀ w ∈ t2, p w) → (∀ w, r1.head? = some w → ¬ p w) → (∀ w, r2.head? = some w → ¬ p w) → t1 ++ r1 = t2 ++ r2 → t1 = t2 ∧ r1 = r2
  | [], [], _, _, _, _, _, _, e => ⟨rfl, e⟩
  | [], b :: t2, r1, r2, _, h2, g1, _, e => by
    have e : r1 = b :: (t2 ++ r2) := e
    exact absurd (h2 b List.mem_cons_self) (g1 b (by rw [e] <;> rfl))
  | a :: t1, [], r1, r2, h1, _, _, g2, e => by
    have e : a :: (t1 ++ r1) = r2 := e
    exact absurd (h1 a List.mem_cons_self) (g2 a (by rw [← e] <;> rfl))
  | a :: t1, b :: t2, r1, r2, h1, h2, g1, g2, e => by
    have e : a :: (t1 ++ r1) = b :: (t2 ++ r2) := e
    have e1 := List.cons.inj e
    have := span_inj (fun w hw => h1 w (List.mem_cons_of_mem _ hw)) (fun w hw => h2 w (List.mem_cons_of_mem _ hw)) g1 g2 e1.2
    exact ⟨by rw [e1.1, this.1], this.2⟩
theorem mark_ne : ("gives" : Str) ≠ "throws" := by decide +kernel
theorem gives_no : ("gives" : Str) ∉ hows := by decide +kernel
theorem throws_no : ("throws" : Str) ∉ hows := by decide +kernel
theorem thr_inj {z1 z2 : List Str} (h : (if 0 < z1.length then (["throws"] : List Str) ++ z1 else []) = (if 0 < z2.length then (["throws"] : List Str) ++ z2 else [])) : z1 = z2 := by
  cases z1 with
  | nil =>
    cases z2 with
    | nil => rfl
    | cons b r => cases h
  | cons a q =>
    cases z2 with
    | nil => cases h
    | cons b r => exact (List.cons.inj h).2
theorem htail_inj {g1 g2 : Bool} {z1 z2 : List Str} (h : htail g1 z1 = htail g2 z2) : g1 = g2 ∧ z1 = z2 := by
  unfold htail at h
  have bad : ∀ z1 z2 : List Str, (["gives"] : List Str) ++ (if 0 < z1.length then (["throws"] : List Str) ++ z1 else []) ≠ [] ++ (if 0 < z2.length then (["throws"] : List Str) ++ z2 else []) := by
    intro z1 z2 e
    cases z2 with
    | nil => cases e
    | cons b r => exact mark_ne (List.cons.inj e).1
  cases g1 with
  | true =>
    cases g2 with
    | true => exact ⟨rfl, thr_inj (List.cons.inj h).2⟩
    | false => exact absurd h (bad z1 z2)
  | false =>
    cases g2 with
    | true => exact absurd h.symm (bad z2 z1)
    | false => exact ⟨rfl, thr_inj h⟩
theorem htail_head (g : Bool) (zs : List Str) : ∀ w, (htail g zs).head? = some w → ¬ w ∈ hows := by
  intro w h
  unfold htail at h
  cases g with
  | true =>
    have h : some ("gives" : Str) = some w := h
    rw [← Option.some.inj h]
    exact gives_no
  | false =>
    cases zs with
    | nil => cases h
    | cons z r =>
      have h : some ("throws" : Str) = some w := h
      rw [← Option.some.inj h]
      exact throws_no
theorem side_inj {a b : Int} (ha : a = 0 ∨ a = 1) (hb : b = 0 ∨ b = 1) (h : Str.ofString (toString a) = Str.ofString (toString b)) : a = b := by
  have n : Str.ofString (toString (0 : Int)) ≠ Str.ofString (toString (1 : Int)) := by decide +kernel
  rcases ha with rfl | rfl <;> rcases hb with rfl | rfl
  · rfl
  · exact absurd h n
  · exact absurd h.symm n
  · rfl
theorem hline_inj {x y : Hl} (wx : WfH x) (wy : WfH y) (h : hline x = hline y) : x = y := by
  have e := join_inj (by unfold hwords; simp) (by unfold hwords; simp) (hwords_noB wx) (hwords_noB wy) h
  unfold hwords at e
  rw [List.append_assoc, List.append_assoc] at e
  have e1 := List.cons.inj e
  have e2 := List.cons.inj e1.2
  have e3 := List.cons.inj e2.2
  have e4 := span_inj (p := fun w => w ∈ hows) wx.tk wy.tk (htail_head _ _) (htail_head _ _) e3.2
  have e5 := htail_inj e4.2
  have e6 := side_inj wx.sd wy.sd e3.1
  obtain ⟨n1, s1, t1, g1, z1⟩ := x
  obtain ⟨n2, s2, t2, g2, z2⟩ := y
  have a1 : n1 = n2 := e2.1
  have a2 : s1 = s2 := e6
  have a3 : t1 = t2 := e4.1
  have a4 : g1 = g2 := e5.1
  have a5 : z1 = z2 := e5.2
  rw [a1, a2, a3, a4, a5]
theorem GoodH.wf {ps : List Pr} {hs : List Hl} (G : Good ps) (GH : GoodH ps hs) : ∀ h ∈ hs, WfH h := fun h hh => ⟨GH.nm h hh, (GH.ok h hh).sd, (GH.ok h hh).tk, fun w hw => by
  obtain ⟨p, hp, rfl⟩ := List.mem_map.mp ((GH.ok h hh).hw w hw)
  unfold Pr.word
  split
  · exact G.kn p hp
  · exact G.kf p hp⟩
theorem lines_inj : ∀ {xs ys : List Hl}, (∀ h ∈ xs, WfH h) → (∀ h ∈ ys, WfH h) → xs.map hline = ys.map hline → xs = ys
  | [], [], _, _, _ => rfl
  | [], y :: r, _, _, e => by cases e
  | x :: q, [], _, _, e => by cases e
  | x :: q, y :: r, h1, h2, e => by
    have e1 := List.cons.inj e
    rw [hline_inj (h1 x List.mem_cons_self) (h2 y List.mem_cons_self) e1.1, lines_inj (fun h hh => h1 h (List.mem_cons_of_mem _ hh)) (fun h hh => h2 h (List.mem_cons_of_mem _ hh)) e1.2]
theorem Good.okPs {ps : List Pr} (G : Good ps) : okPs ps := fun _ _ h => good_fits G h
theorem GoodH.okHs {ps : List Pr} {hs : List Hl} (GH : GoodH ps hs) : okHs ps hs := fun i h hi => by
  have hm := List.mem_of_getElem? hi
  have hlt := (List.getElem?_eq_some_iff.mp hi).1
  have hsplit : hs = hs.take i ++ h :: hs.drop (i + 1) := by
    have := List.take_append_drop i hs
    rw [List.drop_eq_getElem_cons hlt, (List.getElem?_eq_some_iff.mp hi).2] at this
    exact this.symm
  have nd := GH.nd
  have few := GH.few h.side
  rw [hsplit, List.map_append, List.nodup_append] at nd
  rw [hsplit, List.filter_append, List.length_append, List.filter_cons_of_pos (by simp), List.length_cons] at few
  have O := GH.ok h hm
  rw [FitsH.cons (nameB_iff.mpr (GH.nm h hm)) (fun z => nd.2.2 _ z _ (by rw [List.map_cons]; exact List.mem_cons_self) rfl) O.sd (by omega) O.tl O.hl, Bool.and_eq_true, Bool.and_eq_true, List.all_eq_true, List.all_eq_true]
  exact ⟨⟨fun w hw => decide_eq_true (O.tk w hw), decide_eq_true O.hn⟩, fun w hw => decide_eq_true (O.hw w hw)⟩
structure Oth (ps : List Pr) (hs : List Hl) (ps' : List Pr) (hs' : List Hl) : Prop where
  g : Good ps'
  gh : GoodH ps' hs'
  un : ps' ≠ ps ∨ hs' ≠ hs
theorem GoodH.perm {ps : List Pr} {hs hs' : List Hl} (GH : GoodH ps hs) (p : hs'.Perm hs) : GoodH ps hs' :=
  ⟨fun h hh => GH.ok h (p.mem_iff.mp hh), (p.map _).nodup_iff.mpr GH.nd, fun h hh => GH.nm h (p.mem_iff.mp hh), fun s => by rw [(p.filter _).length_eq]; exact GH.few s, by rw [p.length_eq]; exact GH.len⟩
theorem GoodH.sub {ps : List Pr} {hs hs' : List Hl} (GH : GoodH ps hs) (p : hs'.Sublist hs) : GoodH ps hs' :=
  ⟨fun h hh => GH.ok h (p.subset hh), (p.map _).nodup GH.nd, fun h hh => GH.nm h (p.subset hh), fun s => Nat.le_trans (p.filter _).length_le (GH.few s), Nat.le_trans p.length_le GH.len⟩
theorem GoodH.row {ps ps' : List Pr} {hs hs' : List Hl} (GH : GoodH ps hs) (e : hs'.map (fun h => (h.name, h.side)) = hs.map fun h => (h.name, h.side)) (ok : ∀ h ∈ hs', HOk ps' h) : GoodH ps' hs' := by
  have e1 : hs'.map (·.name) = hs.map (·.name) := by
    have := congrArg (List.map Prod.fst) e
    rw [List.map_map, List.map_map] at this
    exact this
  have e2 : hs'.map (·.side) = hs.map (·.side) := by
    have := congrArg (List.map Prod.snd) e
    rw [List.map_map, List.map_map] at this
    exact this
  refine ⟨ok, by rw [e1]; exact GH.nd, fun h hh => ?_, fun s => ?_, ?_⟩
  · have : h.name ∈ hs'.map (·.name) := List.mem_map.mpr ⟨h, hh, rfl⟩
    rw [e1] at this
    obtain ⟨k, hk, q⟩ := List.mem_map.mp this
    rw [← q]
    exact GH.nm k hk
  · have q := GH.few s
    have f : ∀ l : List Hl, (l.filter fun h => decide (h.side = s)).length = ((l.map (·.side)).filter fun z => decide (z = s)).length := fun l => by
      rw [List.filter_map, List.length_map] <;> rfl
    rw [f] at q ⊢
    rw [e2]
    exact q
  · have := congrArg List.length e1
    rw [List.length_map, List.length_map] at this
    rw [this]
    exact GH.len
theorem GoodH.words {ps ps' : List Pr} {hs : List Hl} (GH : GoodH ps hs) (h : ∀ s w, w ∈ ps.map (·.word s) → w ∈ ps'.map (·.word s)) : GoodH ps' hs :=
  GH.row rfl fun x hx => ⟨(GH.ok x hx).sd, (GH.ok x hx).tl, (GH.ok x hx).tk, (GH.ok x hx).hl, (GH.ok x hx).hn, fun w hw => h _ _ ((GH.ok x hx).hw w hw)⟩
theorem Good.perm {ps ps' : List Pr} (G : Good ps) (p : ps'.Perm ps) : Good ps' :=
  ⟨by rw [p.length_eq]; exact G.len, (p.map _).nodup_iff.mpr G.nn, (p.map _).nodup_iff.mpr G.nf, fun x hx => G.kn x (p.mem_iff.mp hx), fun x hx => G.kf x (p.mem_iff.mp hx)⟩
theorem swap_perm {α : Type} {l : List α} {i : Nat} {x y : α} (h1 : l[i]? = some x) (h2 : l[i + 1]? = some y) : (l.take i ++ [y, x] ++ l.drop (i + 2)).Perm l ∧ l = l.take i ++ [x, y] ++ l.drop (i + 2) := by
  have l1 := (List.getElem?_eq_some_iff.mp h1).1
  have l2 := (List.getElem?_eq_some_iff.mp h2).1
  have e : l = l.take i ++ [x, y] ++ l.drop (i + 2) := by
    have := List.take_append_drop i l
    rw [List.drop_eq_getElem_cons l1, List.drop_eq_getElem_cons l2, (List.getElem?_eq_some_iff.mp h1).2, (List.getElem?_eq_some_iff.mp h2).2] at this
    rw [List.append_assoc]
    exact this.symm
  refine ⟨?_, e⟩
  have p : (l.take i ++ [y, x] ++ l.drop (i + 2)).Perm (l.take i ++ [x, y] ++ l.drop (i + 2)) := ((List.Perm.swap x y []).append_left _).append_right _
  rw [← e] at p
  exact p
theorem swap_ne {α : Type} {l : List α} {i : Nat} {x y : α} (h1 : l[i]? = some x) (h2 : l[i + 1]? = some y) (n : x ≠ y) : l.take i ++ [y, x] ++ l.drop (i + 2) ≠ l := fun z => by
  have e := (swap_perm h1 h2).2
  rw [e] at z
  have l1 := (List.getElem?_eq_some_iff.mp h1).1
  rw [← e] at z
  have z2 : l.take i ++ [y, x] ++ l.drop (i + 2) = l.take i ++ [x, y] ++ l.drop (i + 2) := z.trans e
  rw [List.append_assoc, List.append_assoc] at z2
  exact n (List.cons.inj (List.append_cancel_left z2)).1.symm
theorem put_at {α : Type} {l : List α} {i : Nat} {x : α} (h1 : l[i]? = some x) : l = l.take i ++ [x] ++ l.drop (i + 1) := by
  have l1 := (List.getElem?_eq_some_iff.mp h1).1
  have := List.take_append_drop i l
  rw [List.drop_eq_getElem_cons l1, (List.getElem?_eq_some_iff.mp h1).2] at this
  rw [List.append_assoc]
  exact this.symm
theorem put_ne {α : Type} {l : List α} {i : Nat} {x y : α} (h1 : l[i]? = some x) (n : x ≠ y) : l.take i ++ [y] ++ l.drop (i + 1) ≠ l := fun z => by
  have z2 : l.take i ++ [y] ++ l.drop (i + 1) = l.take i ++ [x] ++ l.drop (i + 1) := z.trans (put_at h1)
  rw [List.append_assoc, List.append_assoc] at z2
  exact n (List.cons.inj (List.append_cancel_left z2)).1.symm
theorem nodup_two {α β : Type} {f : α → β} {l : List α} {i : Nat} {x y : α} (nd : (l.map f).Nodup) (h1 : l[i]? = some x) (h2 : l[i + 1]? = some y) : x ≠ y := fun z => by
  have e := (swap_perm h1 h2).2
  rw [e, z, List.map_append, List.map_append, List.nodup_append, List.nodup_append] at nd
  have := nd.1.2.1
  simp at this
theorem oth_swap {ps : List Pr} {hs : List Hl} (G : Good ps) (GH : GoodH ps hs) {i : Nat} {x y : Hl} (h1 : hs[i]? = some x) (h2 : hs[i + 1]? = some y) : Oth ps hs ps (hs.take i ++ [y, x] ++ hs.drop (i + 2)) :=
  ⟨G, GH.perm (swap_perm h1 h2).1, .inr (swap_ne h1 h2 (nodup_two GH.nd h1 h2))⟩
theorem oth_row {ps : List Pr} {hs : List Hl} (G : Good ps) (GH : GoodH ps hs) {i : Nat} {x y : Hl} (h1 : hs[i]? = some x) (e1 : y.name = x.name) (e2 : y.side = x.side) (O : HOk ps y) (n : y ≠ x) : Oth ps hs ps (hs.take i ++ [y] ++ hs.drop (i + 1)) := by
  refine ⟨G, GH.row ?_ fun h hh => ?_, .inr (put_ne h1 n.symm)⟩
  · have e : hs.map (fun h => (h.name, h.side)) = (hs.take i ++ [x] ++ hs.drop (i + 1)).map fun h => (h.name, h.side) := congrArg _ (put_at h1)
    rw [e, List.map_append, List.map_append, List.map_append, List.map_append, List.map_cons, List.map_cons, e1, e2]
  · rcases List.mem_append.mp hh with z | z
    · rcases List.mem_append.mp z with y | y
      · exact GH.ok h (List.mem_of_mem_take y)
      · rw [List.mem_singleton.mp y]
        exact O
    · exact GH.ok h (List.mem_of_mem_drop z)
theorem oth_last {ps : List Pr} {hs : List Hl} (G : Good ps) (GH : GoodH ps hs) (h : hs ≠ []) : Oth ps hs ps hs.dropLast := by
  refine ⟨G, GH.sub (List.dropLast_sublist hs), .inr fun z => ?_⟩
  have := congrArg List.length z
  rw [List.length_dropLast] at this
  have : 0 < hs.length := List.length_pos_iff.mpr h
  omega
theorem oth_one {ps : List Pr} (G : Good ps) : Oth ps [] ps [⟨"q", 0, [], true, []⟩] := by
  refine ⟨G, ⟨fun h hh => ?_, by decide +kernel, fun h hh => ?_, fun s => Nat.le_trans (List.length_filter_le _ _) (by decide), by decide⟩, .inr (by intro z; cases z)⟩
  · rw [List.mem_singleton.mp hh]
    exact ⟨.inl rfl, by decide, (fun w hw => nomatch hw), by decide, List.nodup_nil, (fun w hw => nomatch hw)⟩
  · rw [List.mem_singleton.mp hh]
    exact isName_dec (by decide +kernel)
theorem oth_pswap {ps : List Pr} {hs : List Hl} (G : Good ps) (GH : GoodH ps hs) {i : Nat} {x y : Pr} (h1 : ps[i]? = some x) (h2 : ps[i + 1]? = some y) : Oth ps hs (ps.take i ++ [y, x] ++ ps.drop (i + 2)) hs :=
  ⟨G.perm (swap_perm h1 h2).1, GH.words fun s w hw => ((swap_perm h1 h2).1.map _).mem_iff.mpr hw, .inl (swap_ne h1 h2 (nodup_two G.nn h1 h2))⟩
theorem Good.put {ps : List Pr} (G : Good ps) {i : Nat} {x y : Pr} (h1 : ps[i]? = some x) (n1 : y.near = x.near ∨ y.near ∉ ps.map (·.near)) (n2 : y.far = x.far ∨ y.far ∉ ps.map (·.far)) (k1 : IsName y.near) (k2 : IsName y.far) : Good (ps.take i ++ [y] ++ ps.drop (i + 1)) := by
  have e := put_at h1
  have sp : ∀ {f : Pr → Str}, (ps.map f).Nodup → (f y = f x ∨ f y ∉ ps.map f) → ((ps.take i ++ [y] ++ ps.drop (i + 1)).map f).Nodup := fun {f} nd h => by
    rcases h with q | q
    · have : (ps.take i ++ [y] ++ ps.drop (i + 1)).map f = ps.map f := by
        have e2 := congrArg (List.map f) e
        rw [List.map_append, List.map_append, List.map_cons] at e2
        rw [e2, List.map_append, List.map_append, List.map_cons, q]
      rw [this]
      exact nd
    · have e2 : ps.map f = (ps.take i).map f ++ [f x] ++ (ps.drop (i + 1)).map f := by
        have e2 := congrArg (List.map f) e
        rw [List.map_append, List.map_append] at e2
        exact e2
      have p1 : ((ps.take i).map f ++ [f y] ++ (ps.drop (i + 1)).map f).Perm (f y :: ((ps.take i).map f ++ (ps.drop (i + 1)).map f)) := by
        rw [List.append_assoc]
        exact List.perm_middle
      have p2 : ((ps.take i).map f ++ [f x] ++ (ps.drop (i + 1)).map f).Perm (f x :: ((ps.take i).map f ++ (ps.drop (i + 1)).map f)) := by
        rw [List.append_assoc]
        exact List.perm_middle
      have nd2 := nd
      rw [e2] at nd2
      have nd3 := (List.nodup_cons.mp (p2.nodup_iff.mp nd2))
      rw [List.map_append, List.map_append]
      refine p1.nodup_iff.mpr (List.nodup_cons.mpr ⟨fun z => q ?_, nd3.2⟩)
      rw [e2]
      exact p2.mem_iff.mpr (List.mem_cons_of_mem _ z)
  have hm : ∀ p ∈ ps.take i ++ [y] ++ ps.drop (i + 1), p = y ∨ p ∈ ps := fun p hp => by
    rcases List.mem_append.mp hp with z | z
    · rcases List.mem_append.mp z with w | w
      · exact .inr (List.mem_of_mem_take w)
      · exact .inl (List.mem_singleton.mp w)
    · exact .inr (List.mem_of_mem_drop z)
  refine ⟨?_, sp G.nn n1, sp G.nf n2, fun p hp => ?_, fun p hp => ?_⟩
  · have := congrArg List.length e
    rw [List.length_append, List.length_append] at this
    rw [List.length_append, List.length_append]
    have h1 := G.len
    have e1 : [x].length = [y].length := rfl
    omega
  · rcases hm p hp with rfl | z
    · exact k1
    · exact G.kn p z
  · rcases hm p hp with rfl | z
    · exact k2
    · exact G.kf p z
theorem oth_laden {ps : List Pr} {hs : List Hl} (G : Good ps) (GH : GoodH ps hs) {i : Nat} {x : Pr} (h1 : ps[i]? = some x) : Oth ps hs (ps.take i ++ [⟨x.near, x.far, !x.laden⟩] ++ ps.drop (i + 1)) hs := by
  have hx := List.mem_of_getElem? h1
  refine ⟨G.put h1 (.inl rfl) (.inl rfl) (G.kn x hx) (G.kf x hx), GH.words fun s w hw => ?_, .inl (put_ne h1 fun z => ?_)⟩
  · have : (ps.take i ++ [(⟨x.near, x.far, !x.laden⟩ : Pr)] ++ ps.drop (i + 1)).map (·.word s) = ps.map (·.word s) := by
      have e2 := congrArg (List.map (·.word s)) (put_at h1)
      rw [List.map_append, List.map_append] at e2
      rw [e2, List.map_append, List.map_append] <;> rfl
    rw [this]
    exact hw
  · have := congrArg Pr.laden z
    cases h : x.laden <;> rw [h] at this <;> cases this
def chg (s : Int) (old new : Str) (h : Hl) : Hl := if h.side = s then { h with throws := h.throws.map fun w => if w = old then new else w } else h
def Pr.put (p : Pr) (s : Int) (w : Str) : Pr := if s = 0 then { p with near := w } else { p with far := w }
theorem oth_word {ps : List Pr} {hs : List Hl} (G : Good ps) (GH : GoodH ps hs) {i : Nat} {x : Pr} (h1 : ps[i]? = some x) {s : Int} (hs' : s = 0 ∨ s = 1) {f : Str} (hf : f ∉ ps.map (·.word s)) (kf : IsName f) :
    Oth ps hs (ps.take i ++ [x.put s f] ++ ps.drop (i + 1)) (hs.map (chg s (x.word s) f)) := by
  have hx := List.mem_of_getElem? h1
  have ew : (x.put s f).word s = f := by
    rcases hs' with rfl | rfl <;> rfl
  have eo : ∀ t, (t = 0 ∨ t = 1) → t ≠ s → (x.put s f).word t = x.word t := fun t ht n => by
    rcases hs' with rfl | rfl <;> rcases ht with rfl | rfl <;> first | rfl | exact absurd rfl n
  have gp : Good (ps.take i ++ [x.put s f] ++ ps.drop (i + 1)) := by
    rcases hs' with rfl | rfl
    · exact G.put h1 (.inr hf) (.inl rfl) kf (G.kf x hx)
    · exact G.put h1 (.inl rfl) (.inr hf) (G.kn x hx) kf
  have e2 : ∀ t, ps.map (·.word t) = (ps.take i).map (·.word t) ++ [x.word t] ++ (ps.drop (i + 1)).map (·.word t) := fun t => by
    have e2 := congrArg (List.map (·.word t)) (put_at h1)
    rw [List.map_append, List.map_append] at e2
    exact e2
  have nx : x.word s ∈ ps.map (·.word s) := List.mem_map.mpr ⟨x, hx, rfl⟩
  refine ⟨gp, GH.row ?_ fun h hh => ?_, .inl (put_ne h1 fun z => ?_)⟩
  · rw [List.map_map]
    apply List.map_congr_left
    intro h hh
    show ((chg s (x.word s) f h).name, (chg s (x.word s) f h).side) = _
    unfold chg
    split <;> rfl
  · obtain ⟨k, hk, rfl⟩ := List.mem_map.mp hh
    have O := GH.ok k hk
    unfold chg
    split
    · rename_i es
      refine ⟨O.sd, O.tl, O.tk, by rw [List.length_map]; exact O.hl, ?_, fun w hw => ?_⟩
      · refine List.Pairwise.map (R := fun a b => a ≠ b ∧ a ∈ k.throws ∧ b ∈ k.throws) _ (fun a b hab => ?_) ?_
        · have fa : ∀ a ∈ k.throws, a ≠ f := fun a ha z => hf (by rw [← z, ← es]; exact O.hw a ha)
          by_cases ea : a = x.word s
          · by_cases eb : b = x.word s
            · exact absurd (ea.trans eb.symm) hab.1
            · rw [if_pos ea, if_neg eb]
              exact (fa b hab.2.2).symm
          · by_cases eb : b = x.word s
            · rw [if_neg ea, if_pos eb]
              exact fa a hab.2.1
            · rw [if_neg ea, if_neg eb]
              exact hab.1
        · have nd := O.hn
          rw [List.nodup_iff_pairwise_ne] at nd
          exact List.Pairwise.imp_of_mem (fun ha hb hab => ⟨hab, ha, hb⟩) nd
      · obtain ⟨v, hv, rfl⟩ := List.mem_map.mp hw
        show (if v = x.word s then f else v) ∈ (ps.take i ++ [x.put s f] ++ ps.drop (i + 1)).map (·.word k.side)
        rw [es, List.map_append, List.map_append]
        by_cases ev : v = x.word s
        · rw [if_pos ev]
          refine List.mem_append.mpr (.inl (List.mem_append.mpr (.inr ?_)))
          rw [List.map_cons, ew]
          exact List.mem_cons_self
        · rw [if_neg ev]
          have := O.hw v hv
          rw [es, e2] at this
          rcases List.mem_append.mp this with z | z
          · rcases List.mem_append.mp z with y | y
            · exact List.mem_append.mpr (.inl (List.mem_append.mpr (.inl y)))
            · exact absurd (List.mem_singleton.mp y) ev
          · exact List.mem_append.mpr (.inr z)
    · rename_i es
      refine ⟨O.sd, O.tl, O.tk, O.hl, O.hn, fun w hw => ?_⟩
      have := O.hw w hw
      rw [e2] at this
      rw [List.map_append, List.map_append, List.map_cons, eo _ O.sd es]
      exact this
  · have := congrArg (·.word s) z
    have t2 : x.word s = (x.put s f).word s := this
    rw [ew] at t2
    exact hf (by rw [← t2]; exact nx)
theorem ok_NoHelper___init__ (T : Txt w K mg a) : FnOk P w K mg base CX0 1 a.f_NoHelper___init__ a.d_NoHelper___init__ ["self", "name"] (spErr a.c_NoHelper "name") := by
  refine T.F_NoHelper___init__.ok sc_NoHelper___init__ (fun vs H Q E h => ?_) (fun cdv A outer s H vs Q E hr h => ?_)
  · obtain ⟨e, v, rfl, _⟩ := h
    rfl
  · obtain ⟨e, v, rfl, he, q⟩ := h
    refine ⟨_, pss_one (ps_ost (pv 0) (pv 1)), ?_⟩
    exact ⟨_, rfl, _, rfl, e, a.c_NoHelper, rfl, T.ox_NoHelper, T.na_NoHelper_name, .inl ⟨he, q⟩⟩
def spPact (K : PySem.W.Frag) (C N : Addr) : Sp := fun vs H Q E => ∃ (x kp kd : Addr) (L : List (Addr × Pr)) (M : List (Addr × Hl)) (n : Str), vs = [.ref x, .str n] ∧ PactsH K C H x kp kd L M ∧ (M.map fun e => e.2.name).Nodup ∧
  (∀ e ∈ M, e.2.name = n → Q (.ref e.1) H) ∧ ((∀ e ∈ M, e.2.name ≠ n) → ∀ d H', H d = none → H' d = some (.xd [("name", .str n)]) → Same H H' → E (.ref N) (some d) H')
theorem ok_Pacts_pact (T : Txt w K mg a) : FnOk P w K mg base (L2.CX P w) 3 a.f_Pacts_pact a.d_Pacts_pact ["self", "name"] (spPact K a.c_Pacts a.c_NoHelper) := by
  have G_NoHelper___init__ := ok_NoHelper___init__ (P := P) (w := w) (base := base) T
  have cl_Pacts := T.cl_Pacts
  have na_Pacts_kept_pacts := T.na_Pacts_kept_pacts
  refine T.F_Pacts_pact.okX sc_Pacts_pact (fun vs H Q E h => ?_) (fun cdv A outer s H vs Q E hr h => ?_)
  · obtain ⟨x, kp, kd, L, M, n, rfl, _⟩ := h
    rfl
  · obtain ⟨x, kp, kd, L, M, n, rfl, PH, nd, q1, q2⟩ := h
    obtain ⟨dx, ho⟩ := PH.pa.ob
    by_cases hn : ∃ e ∈ M, e.2.name = n
    · obtain ⟨e, he, rfl⟩ := hn
      have hget : DGet H kd (.str e.2.name) (some (.ref e.1)) := by
        have := DGet.k (k := Sum.inr e.2.name) PH.pa.pc
        rw [hk_val nd he] at this
        exact this
      refine ⟨_, (pss_cons (ps_if (pt_cmp (pc_dnotin (hu_of hr) (pv 1) (pe_fld (pv 0) rfl))) (pss_one (ps_raise rfl (takes_of rfl rfl rfl rfl) (pmk_oex T.ox_NoHelper T.ini_NoHelper T.ti_NoHelper G_NoHelper___init__ (hr.mono (by decide)) T.b_NoHelper___init__ .nil pass0 rfl T.m_NoHelper (by exact (pa_cons (pv 1) pa_nil))))) pss_nil)
      (pss_one (ps_ret (pe_dget (hu_of hr) (pe_fld (pv 0) rfl) (pv 1) (fun _ _ => rfl))))), ?_⟩
      walk_at "go"
      exact q1 e he rfl
    · have hget : DGet H kd (.str n) none := by
        have := DGet.k (k := Sum.inr n) PH.pa.pc
        rw [hk_none fun z => hn (by obtain ⟨e, he, z⟩ := List.mem_map.mp z; exact ⟨e, he, z⟩)] at this
        exact this
      refine ⟨_, (pss_cons (ps_if (pt_cmp (pc_dnotin (hu_of hr) (pv 1) (pe_fld (pv 0) rfl))) (pss_one (ps_raise rfl (takes_of rfl rfl rfl rfl) (pmk_oex T.ox_NoHelper T.ini_NoHelper T.ti_NoHelper G_NoHelper___init__ (hr.mono (by decide)) T.b_NoHelper___init__ .nil pass0 rfl T.m_NoHelper (by exact (pa_cons (pv 1) pa_nil))))) pss_nil)
      (pss_one (ps_ret (pe_dget (hu_of hr) (pe_fld (pv 0) rfl) (pv 1) (fun _ _ => rfl))))), ?_⟩
      walk_at "go"
      exact (raise_err (q2 fun e he z => hn ⟨e, he, z⟩)).2
theorem ok_NoWord___init__ (T : Txt w K mg a) : FnOk P w K mg base CX0 1 a.f_NoWord___init__ a.d_NoWord___init__ ["self", "word"] (spErr a.c_NoWord "word") := by
  refine T.F_NoWord___init__.ok sc_NoWord___init__ (fun vs H Q E h => ?_) (fun cdv A outer s H vs Q E hr h => ?_)
  · obtain ⟨e, v, rfl, _⟩ := h
    rfl
  · obtain ⟨e, v, rfl, he, q⟩ := h
    refine ⟨_, pss_one (ps_ost (pv 0) (pv 1)), ?_⟩
    exact ⟨_, rfl, _, rfl, e, a.c_NoWord, rfl, T.ox_NoWord, T.na_NoWord_word, .inl ⟨he, q⟩⟩
def FirstW (L : List (Addr × Pr)) (w : Str) (s : Int) (e : Addr × Pr) : Prop := e ∈ L ∧ e.2.word s = w ∧ ∃ j : Nat, L[j]? = some e ∧ ∀ i < j, ∀ d, L[i]? = some d → d.2.word s ≠ w
def spPairOf (C N : Addr) : Sp := fun vs H Q E => ∃ (x kp kd : Addr) (L : List (Addr × Pr)) (kvs : List (Key × V)) (w : Str) (s : Int), vs = [.ref x, .str w, .int s] ∧ PactsAt C H x kp kd L kvs ∧ (s = 0 ∨ s = 1) ∧ 
  (∀ e, FirstW L w s e → Q (.ref e.1) H) ∧ ((∀ e ∈ L, e.2.word s ≠ w) → ∀ d H', H d = none → H' d = some (.xd [("word", .str w)]) → Same H H' → E (.ref N) (some d) H')
theorem ok_Pacts_pair_of (T : Txt w K mg a) : FnOk P w K mg base (L2.CX P w) 3 a.f_Pacts_pair_of a.d_Pacts_pair_of ["self", "word", "side"] (spPairOf a.c_Pacts a.c_NoWord) := by
  have G_NoWord___init__ := ok_NoWord___init__ (P := P) (w := w) (base := base) T
  have cl_Pacts := T.cl_Pacts
  have na_Pacts_kept_pairs := T.na_Pacts_kept_pairs
  refine T.F_Pacts_pair_of.okX sc_Pacts_pair_of (fun vs H Q E h => ?_) (fun cdv A outer s H vs Q E hr h => ?_)
  · obtain ⟨x, kp, kd, L, kvs, w, s, rfl, _⟩ := h
    rfl
  · obtain ⟨x, kp, kd, L, kvs, w, s, rfl, PA, hs, q1, q2⟩ := h
    obtain ⟨dx, ho⟩ := PA.ob
    have hls := PA.pr.ls
    refine ⟨_, (pss_cons (ps_stop (ps_for (passes_of rfl) rfl (pi_wait (pi_list (by exact (pe_fld (pv 0) rfl)))) (pg_name (i := 3) sc_Pacts_pair_of.nd rfl (Or.inl rfl)) (pss_one (ps_if (pt_cmpR op_eq (pe_ix ix_tup (pv 3) (pv 2) (fun _ _ => rfl)) (pv 1) (nomark _)) (pss_one (ps_ret (pv 3))) pss_nil))))
      (pss_one (ps_raise rfl (takes_of rfl rfl rfl rfl) (pmk_oex T.ox_NoWord T.ini_NoWord T.ti_NoWord G_NoWord___init__ (hr.mono (by decide)) T.b_NoWord___init__ .nil pass0 rfl T.m_NoWord (by exact (pa_cons (pv 1) pa_nil)))))), ?_⟩
    refine sq_seq (stop_in ?_)
    walk_at "go"
    refine wait ?_
    refine forL (K := K) (a := kp) (xs := L.map fun e => V.ref e.1) (fun i σ H' => H' = H ∧ (∃ u, σ = [some (.ref x), some (.str w), some (.int s), u]) ∧ ∀ j < i, ∀ d, L[j]? = some d → d.2.word s ≠ w) ?_ ?_ ?_ ?_
    · exact ⟨rfl, ⟨_, rfl⟩, fun j hj => absurd hj (Nat.not_lt_zero _)⟩
    · rintro i σ H' _ ⟨rfl, _⟩
      exact SqL.of hls
    · rintro i y σ H' hi ⟨rfl, ⟨u, rfl⟩, hno⟩
      rw [List.getElem?_map] at hi
      obtain ⟨e, he, rfl⟩ := Option.map_eq_some_iff.mp hi
      have hp : H' e.1 = _ := PA.pr.at_ e (List.mem_of_getElem? he)
      have hat := pr_at e.2 hs
      walk_at "go"
      refine ifD (fun b => ?_) (fun b => ?_)
      · walk_at "go"
        exact q1 e ⟨List.mem_of_getElem? he, V.str.inj b, i, he, hno⟩
      · refine wait ⟨rfl, ⟨_, rfl⟩, fun j hj d hd => ?_⟩
        by_cases z : j = i
        · subst z
          rw [he] at hd
          cases hd
          exact fun z => b (congrArg V.str z)
        · exact hno j (by omega) d hd
    · rintro σ H' ⟨rfl, ⟨u, rfl⟩, hno⟩
      rw [List.length_map] at hno
      refine ⟨_, rfl, raise_err (q2 fun e he => ?_)⟩
      obtain ⟨j, hj⟩ := List.getElem?_of_mem he
      exact hno j (List.getElem?_eq_some_iff.mp hj).1 e hj
def spLaden (C N : Addr) : Sp := fun vs H Q E => ∃ (x kp kd : Addr) (L : List (Addr × Pr)) (kvs : List (Key × V)) (w : Str) (s : Int), vs = [.ref x, .str w, .int s] ∧ PactsAt C H x kp kd L kvs ∧ (s = 0 ∨ s = 1) ∧ 
  (∀ e, FirstW L w s e → Q (.bl e.2.laden) H) ∧ ((∀ e ∈ L, e.2.word s ≠ w) → ∀ d H', H d = none → H' d = some (.xd [("word", .str w)]) → Same H H' → E (.ref N) (some d) H')
theorem ok_Pacts_laden (T : Txt w K mg a) : FnOk P w K mg base (L2.CX P w) 4 a.f_Pacts_laden a.d_Pacts_laden ["self", "word", "side"] (spLaden a.c_Pacts a.c_NoWord) := by
  have G_Pacts_pair_of := ok_Pacts_pair_of (P := P) (w := w) (base := base) T
  have cl_Pacts := T.cl_Pacts
  refine T.F_Pacts_laden.okX sc_Pacts_laden (fun vs H Q E h => ?_) (fun cdv A outer s H vs Q E hr h => ?_)
  · obtain ⟨x, kp, kd, L, kvs, w, s, rfl, _⟩ := h
    rfl
  · obtain ⟨x, kp, kd, L, kvs, w, s, rfl, PA, hs, q1, q2⟩ := h
    obtain ⟨dx, ho⟩ := PA.ob
    refine ⟨_, (pss_cons (ps_asg (pe_meth (pv 0) T.cl_Pacts T.mt_Pacts_pair_of G_Pacts_pair_of (hr.mono (by decide)) T.b_Pacts_pair_of .nil (passes_call (takes_of rfl rfl rfl rfl) (fun _ _ _ _ h => h)) (pa_cons (pv 1) (pa_cons (pv 2) pa_nil))) (pg_tup rfl (pgs_cons (pg_name (i := 3) sc_Pacts_laden.nd rfl (Or.inl rfl)) (pgs_cons (pg_name (i := 4) sc_Pacts_laden.nd rfl (Or.inl rfl)) (pgs_cons (pg_name (i := 5) sc_Pacts_laden.nd rfl (Or.inl rfl)) pgs_nil)))))
      (pss_one (ps_ret (pv 5)))), ?_⟩
    refine ⟨_, rfl, x, dx, _, rfl, ho, rfl, _, rfl, _, rfl, x, kp, kd, L, kvs, w, s, rfl, PA, hs, fun e he => ?_, q2⟩
    have hp : H e.1 = _ := PA.pr.at_ e he.1
    walk_at "go"
    exact q1 e he
def spOver (C N : Addr) : Sp := fun vs H Q E => ∃ (x kp kd : Addr) (L : List (Addr × Pr)) (kvs : List (Key × V)) (w : Str) (s : Int), vs = [.ref x, .str w, .int s] ∧ PactsAt C H x kp kd L kvs ∧ (s = 0 ∨ s = 1) ∧ 
  (∀ e, FirstW L w s e → Q (.str (e.2.word (1 - s))) H) ∧ ((∀ e ∈ L, e.2.word s ≠ w) → ∀ d H', H d = none → H' d = some (.xd [("word", .str w)]) → Same H H' → E (.ref N) (some d) H')
theorem ok_Pacts_over (T : Txt w K mg a) : FnOk P w K mg base (L2.CX P w) 4 a.f_Pacts_over a.d_Pacts_over ["self", "word", "side"] (spOver a.c_Pacts a.c_NoWord) := by
  have G_Pacts_pair_of := ok_Pacts_pair_of (P := P) (w := w) (base := base) T
  have cl_Pacts := T.cl_Pacts
  refine T.F_Pacts_over.okX sc_Pacts_over (fun vs H Q E h => ?_) (fun cdv A outer s H vs Q E hr h => ?_)
  · obtain ⟨x, kp, kd, L, kvs, w, s, rfl, _⟩ := h
    rfl
  · obtain ⟨x, kp, kd, L, kvs, w, s, rfl, PA, hs, q1, q2⟩ := h
    obtain ⟨dx, ho⟩ := PA.ob
    refine ⟨_, (pss_one (ps_ret (pe_ix ix_tup (pe_meth (pv 0) T.cl_Pacts T.mt_Pacts_pair_of G_Pacts_pair_of (hr.mono (by decide)) T.b_Pacts_pair_of .nil (passes_call (takes_of rfl rfl rfl rfl) (fun _ _ _ _ h => h)) (pa_cons (pv 1) (pa_cons (pv 2) pa_nil))) (pe_op op_sub pe_int (pv 2)) (fun _ _ => rfl)))), ?_⟩
    refine ⟨_, rfl, x, dx, _, rfl, ho, rfl, _, rfl, _, rfl, x, kp, kd, L, kvs, w, s, rfl, PA, hs, fun e he => ?_, q2⟩
    have hp : H e.1 = _ := PA.pr.at_ e he.1
    have hat := pr_at1 e.2 hs
    walk_at "go"
    exact q1 e he
theorem first_of {L : List (Addr × Pr)} {e : Addr × Pr} {s : Int} (nd : (L.map fun d => d.2.word s).Nodup) (he : e ∈ L) : FirstW L (e.2.word s) s e := by
  obtain ⟨j, hj⟩ := List.getElem?_of_mem he
  refine ⟨he, rfl, j, hj, fun i hi d hd z => ?_⟩
  have hjl := (List.getElem?_eq_some_iff.mp hj).1
  have h1 : (L.map fun d => d.2.word s)[i]? = some (e.2.word s) := by rw [List.getElem?_map, hd, ← z] <;> rfl
  have h2 : (L.map fun d => d.2.word s)[j]? = some (e.2.word s) := by rw [List.getElem?_map, hj] <;> rfl
  have := (List.getElem?_inj (by rw [List.length_map]; omega) nd).mp (h1.trans h2.symm)
  omega
theorem name_one {M : List (Addr × Hl)} {d e : Addr × Hl} (nd : (M.map fun e => e.2.name).Nodup) (hd : d ∈ M) (he : e ∈ M) (h : d.2.name = e.2.name) : d = e := by
  have h1 : d ∈ M.filter (fun x => decide (x.2.name = e.2.name)) := List.mem_filter.mpr ⟨hd, decide_eq_true h⟩
  rw [filter_one (f := fun x : Addr × Hl => x.2.name) nd he] at h1
  exact List.mem_singleton.mp h1
theorem GoodH.nd2 {ps : List Pr} {M : List (Addr × Hl)} (GH : GoodH ps (M.map (·.2))) : (M.map fun e => e.2.name).Nodup := by
  have := GH.nd
  rw [List.map_map] at this
  exact this
def spErrors (K : PySem.W.Frag) (C N : Addr) : Sp := fun vs H Q E => ∃ (x kp kd : Addr) (L : List (Addr × Pr)) (M : List (Addr × Hl)) (n : Str) (s : Int), vs = [.ref x, .str n, .int s] ∧ PactsH K C H x kp kd L M ∧ Good (L.map (·.2)) ∧ GoodH (L.map (·.2)) (M.map (·.2)) ∧ (s = 0 ∨ s = 1) ∧
  (∀ e ∈ M, e.2.name = n → ∀ D H', H D = none → H' D = some (.lst ((crossed (L.map (·.2)) e.2 s).map V.str)) → Same H H' → Q (.ref D) H') ∧
  ((∀ e ∈ M, e.2.name ≠ n) → ∀ d H', H d = none → H' d = some (.xd [("name", .str n)]) → Same H H' → E (.ref N) (some d) H')
theorem ok_Pacts_errors (T : Txt w K mg a) : FnOk P w K mg base (L2.CX P w) 5 a.f_Pacts_errors a.d_Pacts_errors ["self", "name", "side"] (spErrors K a.c_Pacts a.c_NoHelper) := by
  have G_Pacts_pact := ok_Pacts_pact (P := P) (w := w) (base := base) T
  have G_Pacts_over := ok_Pacts_over (P := P) (w := w) (base := base) T
  have cl_Pacts := T.cl_Pacts
  refine T.F_Pacts_errors.okX sc_Pacts_errors (fun vs H Q E h => ?_) (fun cdv A outer s H vs Q E hr h => ?_)
  · obtain ⟨x, kp, kd, L, M, n, s, rfl, _⟩ := h
    rfl
  · obtain ⟨x, kp, kd, L, M, n, s, rfl, PH, G, GH, hs, q1, q2⟩ := h
    obtain ⟨dx, ho⟩ := PH.pa.ob
    have nd := GH.nd2
    refine ⟨_, (pss_cons (ps_set (i := 3) sc_Pacts_errors.nd rfl (Or.inr rfl) (pe_ix ix_tup (pe_meth (pv 0) T.cl_Pacts T.mt_Pacts_pact G_Pacts_pact (hr.mono (by decide)) T.b_Pacts_pact .nil (passes_call (takes_of rfl rfl rfl rfl) (fun _ _ _ _ h => h)) (pa_cons (pv 1) pa_nil)) pe_int (fun _ _ => rfl)))
      (pss_cons (ps_set (i := 4) sc_Pacts_errors.nd rfl (Or.inl rfl) (pe_callTy call_list_of (by rfl) T.z_list (by decide +kernel) (pa_cons (pe_ix ix_tup (pe_meth (pv 0) T.cl_Pacts T.mt_Pacts_pact G_Pacts_pact (hr.mono (by decide)) T.b_Pacts_pact .nil (passes_call (takes_of rfl rfl rfl rfl) (fun _ _ _ _ h => h)) (pa_cons (pv 1) pa_nil)) pe_int (fun _ _ => rfl)) pa_nil)))
      (pss_cons (ps_if (pt_cmpR op_eq (pv 3) (pv 2) (nomark _)) (pss_one (ps_ret (pv 4))) pss_nil)
      (pss_one (ps_ret (pe_lc (own := [("word", 5)]) (g := gName 5) (tt := tYes) rfl sc_Pacts_errors.nd (pi_list (pv 4)) (blkOk_by (own := [("word", 5)]) (N := n_Pacts_errors) (sc := defScope s_Pacts_errors) (by decide +kernel)) (fun _ _ _ _ _ => (pg_name (i := 5) sc_Pacts_errors.nd rfl (Or.inl rfl))) (fun _ _ _ _ _ => pts_nil) (fun _ _ _ _ _ => (pe_methK (pv 0) T.cl_Pacts T.mt_Pacts_over G_Pacts_over (hr.mono (by decide)) T.kb_Pacts_over_side passL (pa_cons (pv 5) pa_nil) (pk_cons (pv 3) pk_nil))))))))), ?_⟩
    by_cases hn : ∃ e ∈ M, e.2.name = n
    · obtain ⟨e, he, rfl⟩ := hn
      obtain ⟨tk, th, h1, h2, h3⟩ := PH.at_ e he
      have O := GH.ok e.2 (List.mem_map.mpr ⟨e, he, rfl⟩)
      walk_at "go"
      refine ⟨fun d hd z => ?_, fun no => absurd rfl (no e he)⟩
      obtain rfl := name_one nd hd he z
      walk_at "go"
      refine ⟨fun d' hd' z' => ?_, fun no => absurd rfl (no d he)⟩
      obtain rfl := name_one nd hd' he z'
      have hth : SqT K H th (d'.2.throws.map V.str) := h3
      walk_at "go"
      intro p hp
      obtain ⟨H1, e1⟩ : ∃ H1, H1 = upd H p (.lst (d'.2.throws.map V.str)) := ⟨_, rfl⟩
      have s1 : Same H H1 := by rw [e1]; exact Same.upd_new hp
      have hp1 : H1 p = some (.lst (d'.2.throws.map V.str)) := by rw [e1, upd_same]
      rw [← e1]
      walk_at "go"
      refine ifD (fun b => ?_) (fun b => ?_)
      · have b1 : d'.2.side = s := V.int.inj b
        have ec : crossed (L.map (·.2)) d'.2 s = d'.2.throws := by rw [← b1]; exact crossed_own G O
        walk_at "go"
        exact q1 d' he rfl p H1 hp (by rw [ec]; exact hp1) s1
      · have b1 : s = 1 - d'.2.side := by
          have : ¬ d'.2.side = s := fun z => b (congrArg V.int z)
          have := O.sd
          omega
        have ec := crossed_over G O b1
        walk_at "go"
        intro D hD
        have hD0 : H D = none := same_none' s1 hD
        refine lcL (K := K) (a := p) (xs := d'.2.throws.map V.str) (fun i H' => H' D = some (.lst (((d'.2.throws.take i).map (overW (L.map (·.2)) d'.2.side)).map V.str)) ∧ Same H1 H') ?_ ?_ ?_ ?_
        · exact ⟨upd_same, Same.upd_new hD⟩
        · exact fun i H' _ h => SqL.of (h.2 _ _ hp1)
        · rintro i y H' hi ⟨g1, g2⟩
          rw [List.getElem?_map] at hi
          obtain ⟨w1, hw1, rfl⟩ := Option.map_eq_some_iff.mp hi
          have hlt := (List.getElem?_eq_some_iff.mp hw1).1
          have hl4 := O.hl
          have PA' := (PH.same (s1.trans g2)).pa
          obtain ⟨dx', ho'⟩ := PA'.ob
          have hsd := O.sd
          have hmem := O.hw w1 (List.mem_of_getElem? hw1)
          rw [List.map_map] at hmem
          obtain ⟨l, hl, hlw⟩ := List.mem_map.mp hmem
          have hlw : l.2.word d'.2.side = w1 := hlw
          refine ⟨rfl, ?_⟩
          walk_at "go"
          refine ⟨fun l' hl' => ?_, fun no => absurd hlw (no l hl)⟩
          have eo : l'.2.word (1 - d'.2.side) = overW (L.map (·.2)) d'.2.side w1 := by
            rw [← hl'.2.1, over_of G hsd (List.mem_map.mpr ⟨l', hl'.1, rfl⟩)]
          walk_at "go"
          refine ⟨small_lt (by rw [List.length_map, List.length_map, List.length_take]; omega), wait ⟨?_, fun x o e => upd_get (ne_of_none e hD) (g2 x o e)⟩⟩
          rw [upd_same, List.take_add_one, hw1, List.map_append, List.map_append, eo] <;> rfl
        · rintro H' ⟨g1, g2⟩
          rw [List.length_map, List.take_length, ← ec] at g1
          walk_at "go"
          exact q1 d' he rfl D H' hD0 g1 (s1.trans g2)
    · walk_at "go"
      exact ⟨fun e he z => absurd ⟨e, he, z⟩ hn, q2⟩
theorem sum_le {k : Nat} : ∀ {ws : List Str}, (∀ w ∈ ws, w.length ≤ k) → (ws.map (·.length)).sum ≤ ws.length * k
  | [], _ => Nat.zero_le _
  | w :: r, h => by
    have h1 := h w List.mem_cons_self
    have h2 := sum_le fun v hv => h v (List.mem_cons_of_mem _ hv)
    rw [List.map_cons, List.sum_cons, List.length_cons, Nat.succ_mul]
    omega
theorem joinL_len {s : List Nat} {k : Nat} : ∀ {ps : List (List Nat)}, (∀ p ∈ ps, p.length ≤ k) → (TL.joinL s ps).length ≤ ps.length * (k + s.length)
  | [], _ => Nat.zero_le _
  | [p], h => by
    have := h p List.mem_cons_self
    show p.length ≤ _
    rw [List.length_singleton, Nat.one_mul]
    omega
  | p :: q :: r, h => by
    have h1 := h p List.mem_cons_self
    have h2 := joinL_len (s := s) (ps := q :: r) fun v hv => h v (List.mem_cons_of_mem _ hv)
    show (p ++ (s ++ TL.joinL s (q :: r))).length ≤ _
    rw [List.length_append, List.length_append, List.length_cons, Nat.succ_mul]
    omega
theorem join_len {a : Str} {ys : List Str} {k : Nat} (h : ∀ y ∈ ys, y.length ≤ k) : (Txt.join a ys).length ≤ ys.length * (k + a.length) := by
  rw [TL.join_eq]
  have e := congrArg List.length (TL.tl_join a ys)
  have h2 := joinL_len (s := TL.tl a) (ps := ys.map TL.tl) (k := k) fun p hp => by
    obtain ⟨w, hw, rfl⟩ := List.mem_map.mp hp
    have e1 : (TL.tl w).length = w.length := Array.length_toList
    rw [e1]
    exact h w hw
  have e2 : (TL.tl (Str.join a ys)).length = (Str.join a ys).length := Array.length_toList
  have e3 : (TL.tl a).length = a.length := Array.length_toList
  rw [← e, e2, List.length_map, e3] at h2
  exact h2
structure LnH (h : Hl) : Prop where
  wf : WfH h
  tl : h.takes.length ≤ 3
  hl : h.throws.length ≤ 4
theorem GoodH.ln {ps : List Pr} {hs : List Hl} (G : Good ps) (GH : GoodH ps hs) : ∀ h ∈ hs, LnH h := fun h hh => ⟨GH.wf G h hh, (GH.ok h hh).tl, (GH.ok h hh).hl⟩
theorem LnH.short {h : Hl} (L : LnH h) : ∀ w ∈ hwords h, w.length ≤ 8 := by
  have cs : ∀ w ∈ (["helper", "gives", "throws", "lent", "given", Str.ofString (toString (0 : Int)), Str.ofString (toString (1 : Int))] : List Str), w.length ≤ 8 := by decide +kernel
  intro w hw
  unfold hwords htail at hw
  rcases List.mem_append.mp hw with z | z
  · rcases List.mem_append.mp z with y | y
    · rcases List.mem_cons.mp y with rfl | y
      · exact cs _ (by simp)
      · rcases List.mem_cons.mp y with rfl | y
        · exact L.wf.nm.hi
        · rw [List.mem_singleton.mp y]
          rcases L.wf.sd with e | e
          · rw [e]; exact cs _ (by simp)
          · rw [e]; exact cs _ (by simp)
    · have := L.wf.tk w y
      unfold hows at this
      rcases List.mem_cons.mp this with rfl | q
      · exact cs _ (by simp)
      · rw [List.mem_singleton.mp q]
        exact cs _ (by simp)
  · rcases List.mem_append.mp z with y | y
    · split at y
      · rw [List.mem_singleton.mp y]
        exact cs _ (by simp)
      · cases y
    · split at y
      · rcases List.mem_append.mp y with q | q
        · rw [List.mem_singleton.mp q]
          exact cs _ (by simp)
        · exact (L.wf.th w q).hi
      · cases y
theorem LnH.many {h : Hl} (L : LnH h) : (hwords h).length ≤ 12 := by
  unfold hwords htail
  have h1 := L.tl
  have h2 := L.hl
  rw [List.length_append, List.length_append, List.length_append]
  have e1 : (["helper", h.name, Str.ofString (toString h.side)] : List Str).length = 3 := rfl
  have e2 : (if h.gives = true then (["gives"] : List Str) else []).length ≤ 1 := by split <;> decide
  have e3 : (if 0 < h.throws.length then (["throws"] : List Str) ++ h.throws else []).length ≤ 5 := by
    split
    · rw [List.length_append]
      show 1 + _ ≤ _
      omega
    · exact Nat.zero_le _
  omega
theorem LnH.len {h : Hl} (L : LnH h) : (hline h).length ≤ 200 := by
  have h1 := join_len (a := " ") L.short
  have h2 := L.many
  have e : (" " : Str).length = 1 := by decide +kernel
  rw [e] at h1
  show (Txt.join " " (hwords h)).length ≤ 200
  omega
theorem LnH.sum {h : Hl} (L : LnH h) : ((hwords h).map (·.length)).sum + (hwords h).length * (" " : Str).length ≤ 16777216 := by
  have h1 := sum_le L.short
  have h2 := L.many
  have e : (" " : Str).length = 1 := by decide +kernel
  rw [e]
  omega
def spHelperLine (K : PySem.W.Frag) : Sp := fun vs H Q _ => ∃ (t : Addr) (h : Hl), vs = [.ref t] ∧ HlAt K H (t, h) ∧ LnH h ∧ ∀ H', Same H H' → Q (.str (hline h)) H'
theorem ok_helper_line (T : Txt w K mg a) : FnOk P w K mg base CX0 1 a.f_helper_line a.d_helper_line ["pact"] (spHelperLine K) := by
  refine T.F_helper_line.ok sc_helper_line (fun vs H Q E h => ?_) (fun cdv A outer s H vs Q E hr h => ?_)
  · obtain ⟨t, h, rfl, _⟩ := h
    rfl
  · obtain ⟨t, h, rfl, HT, LN, q⟩ := h
    obtain ⟨tk, th, ht, htk, hth⟩ := HT
    have ht : H t = some (.tup [.str h.name, .int h.side, .ref tk, .bl h.gives, .ref th]) := ht
    have htk : SqT K H tk (h.takes.map V.str) := htk
    have hth : SqT K H th (h.throws.map V.str) := hth
    have hb : h.side.natAbs.log2 < 1920 := by rcases LN.wf.sd with e | e <;> rw [e] <;> decide
    have h1 := LN.tl
    have h2 := LN.hl
    refine ⟨_, (pss_cons (ps_asg (pv 0) (pg_tup rfl (pgs_cons (pg_name (i := 1) sc_helper_line.nd rfl (Or.inl rfl)) (pgs_cons (pg_name (i := 2) sc_helper_line.nd rfl (Or.inl rfl)) (pgs_cons (pg_name (i := 3) sc_helper_line.nd rfl (Or.inl rfl)) (pgs_cons (pg_name (i := 4) sc_helper_line.nd rfl (Or.inl rfl)) (pgs_cons (pg_name (i := 5) sc_helper_line.nd rfl (Or.inl rfl)) pgs_nil)))))))
      (pss_cons (ps_set (i := 6) sc_helper_line.nd rfl (Or.inl rfl) (pe_op op_cat (pe_lst (pa_cons pe_str (pa_cons (pv 1) (pa_cons (pe_callTy call_str_int (by rfl) T.z_str (by decide +kernel) (pa_cons (pv 2) pa_nil)) pa_nil)))) (pe_callTy call_list_of (by rfl) T.z_list (by decide +kernel) (pa_cons (pv 3) pa_nil))))
      (pss_mid (ps_if (pt_val (pv 4)) (pss_one (ps_expr (pe_bm PySem.F.plainAttrs_list PySem.F.slot_list_append PySem.F.type_list_append mt_append (pv 6) (pa_cons pe_str pa_nil)))) pss_nil)
      (pss_mid (ps_if (pt_cmpR op_gt (pe_callB call_lenK (by rfl) T.z_len PySem.boot_len (pa_cons (pv 5) pa_nil)) pe_int (nomark _)) (pss_one (ps_set (i := 6) sc_helper_line.nd rfl (Or.inl rfl) (pe_op op_cat (pe_op op_cat (pv 6) (pe_lst (pa_cons pe_str pa_nil))) (pe_callTy call_list_of (by rfl) T.z_list (by decide +kernel) (pa_cons (pv 5) pa_nil))))) pss_nil)
      (pss_one (ps_ret (pe_join pe_str (pv 6)))))))), ?_⟩
    walk_at "go"
    intro p1 hp1
    obtain ⟨H1, e1⟩ : ∃ H1, H1 = upd H p1 (.lst [.str "helper", .str h.name, .str (Str.ofString (toString h.side))]) := ⟨_, rfl⟩
    have s1 : Same H H1 := by rw [e1]; exact Same.upd_new hp1
    have hp11 : H1 p1 = some (.lst [.str "helper", .str h.name, .str (Str.ofString (toString h.side))]) := by rw [e1, upd_same]
    rw [← e1]
    have htk1 := (TK.same s1).sq htk
    walk_at "go"
    intro p2 hp2
    obtain ⟨H2, e2⟩ : ∃ H2, H2 = upd H1 p2 (.lst (h.takes.map V.str)) := ⟨_, rfl⟩
    have s2 : Same H1 H2 := by rw [e2]; exact Same.upd_new hp2
    have hp22 : H2 p2 = some (.lst (h.takes.map V.str)) := by rw [e2, upd_same]
    rw [← e2]
    have hp12 := s2 _ _ hp11
    have hz2 : [V.str "helper", .str h.name, .str (Str.ofString (toString h.side))].length + (h.takes.map V.str).length ≤ sizeLine := small_le (by rw [List.length_map]; show 3 + _ ≤ _; omega)
    walk_at "go"
    intro W hW
    obtain ⟨H3, e3⟩ : ∃ H3, H3 = upd H2 W (.lst ([V.str "helper", .str h.name, .str (Str.ofString (toString h.side))] ++ h.takes.map V.str)) := ⟨_, rfl⟩
    have s3 : Same H2 H3 := by rw [e3]; exact Same.upd_new hW
    have s03 : Same H H3 := (s1.trans s2).trans s3
    have hW3 : H3 W = some (.lst (((["helper", h.name, Str.ofString (toString h.side)] : List Str) ++ h.takes).map V.str)) := by rw [e3, upd_same, List.map_append] <;> rfl
    rw [← e3]
    have hW0 : H W = none := same_none' s1 (same_none' s2 hW)
    refine mid_of (fun σ H4 => σ = [some (.ref t), some (.str h.name), some (.int h.side), some (.ref tk), some (.bl h.gives), some (.ref th), some (.ref W)] ∧ H4 W = some (.lst (((["helper", h.name, Str.ofString (toString h.side)] : List Str) ++ h.takes ++ (if h.gives = true then (["gives"] : List Str) else [])).map V.str)) ∧ Same H H4) ?_ ?_
    · cases hg : h.gives with
      | true =>
        walk_at "go"
        refine ⟨small_lt (by rw [List.length_map, List.length_append]; show 3 + _ ≤ _; omega), wait ⟨rfl, ?_, fun x o e => upd_get (ne_of_none e hW0) (s03 _ _ e)⟩⟩
        rw [upd_same, if_pos rfl, List.map_append, List.map_append] <;> rfl
      | false =>
        walk_at "go"
        refine wait ⟨rfl, ?_, s03⟩
        rw [hW3, if_neg (by decide), List.append_nil]
    · rintro σ H4 ⟨rfl, hW4, s4⟩
      have hth4 := (TK.same s4).sq hth
      have lth : (h.throws.map V.str).length = h.throws.length := List.length_map _
      refine mid_of (fun σ H5 => ∃ W', σ = [some (.ref t), some (.str h.name), some (.int h.side), some (.ref tk), some (.bl h.gives), some (.ref th), some (.ref W')] ∧ H5 W' = some (.lst ((hwords h).map V.str)) ∧ Same H H5) ?_ ?_
      · walk_at "go"
        refine ifD (fun b => ?_) (fun b => ?_)
        · have b1 : 0 < h.throws.length := by omega
          walk_at "go"
          intro p5 hp5
          obtain ⟨pre, epre⟩ : ∃ pre : List Str, pre = (["helper", h.name, Str.ofString (toString h.side)] : List Str) ++ h.takes ++ (if h.gives = true then (["gives"] : List Str) else []) := ⟨_, rfl⟩
          rw [← epre] at hW4
          have lpre : pre.length ≤ 10 := by
            rw [epre, List.length_append, List.length_append]
            have e2 : (if h.gives = true then (["gives"] : List Str) else []).length ≤ 1 := by split <;> decide
            show 3 + _ + _ ≤ _
            omega
          obtain ⟨H5, e5⟩ : ∃ H5, H5 = upd H4 p5 (.lst [.str "throws"]) := ⟨_, rfl⟩
          have s5 : Same H4 H5 := by rw [e5]; exact Same.upd_new hp5
          have hp55 : H5 p5 = some (.lst [.str "throws"]) := by rw [e5, upd_same]
          rw [← e5]
          have hW5 := s5 _ _ hW4
          have hz5 : (pre.map V.str).length + [V.str "throws"].length ≤ sizeLine := small_le (by rw [List.length_map]; show _ + 1 ≤ _; omega)
          walk_at "go"
          intro p6 hp6
          obtain ⟨H6, e6⟩ : ∃ H6, H6 = upd H5 p6 (.lst (pre.map V.str ++ [V.str "throws"])) := ⟨_, rfl⟩
          have s6 : Same H5 H6 := by rw [e6]; exact Same.upd_new hp6
          have hp66 : H6 p6 = some (.lst (pre.map V.str ++ [V.str "throws"])) := by rw [e6, upd_same]
          rw [← e6]
          have hth6 := (TK.same (s5.trans s6)).sq hth4
          walk_at "go"
          intro p7 hp7
          obtain ⟨H7, e7⟩ : ∃ H7, H7 = upd H6 p7 (.lst (h.throws.map V.str)) := ⟨_, rfl⟩
          have s7 : Same H6 H7 := by rw [e7]; exact Same.upd_new hp7
          have hp77 : H7 p7 = some (.lst (h.throws.map V.str)) := by rw [e7, upd_same]
          rw [← e7]
          have hp67 := s7 _ _ hp66
          have hz7 : (pre.map V.str ++ [V.str "throws"]).length + (h.throws.map V.str).length ≤ sizeLine := small_le (by rw [List.length_append, List.length_map, List.length_map]; show _ + 1 + _ ≤ _; omega)
          walk_at "go"
          intro p8 hp8
          refine wait ⟨p8, rfl, ?_, (s4.trans (s5.trans (s6.trans s7))).trans (Same.upd_new hp8)⟩
          rw [upd_same]
          unfold hwords htail
          rw [if_pos b1, ← List.append_assoc, ← epre, List.map_append, List.map_append, List.append_assoc] <;> rfl
        · have b1 : ¬ 0 < h.throws.length := by omega
          refine wait ⟨W, rfl, ?_, s4⟩
          rw [hW4]
          unfold hwords htail
          rw [if_neg b1, List.append_nil]
      · rintro σ H5 ⟨W', rfl, hW5, s5⟩
        have hsum := LN.sum
        walk_at "go"
        exact q _ s5
def spLines (K : PySem.W.Frag) (C : Addr) : Sp := fun vs H Q _ => ∃ (x kp kd : Addr) (L : List (Addr × Pr)) (M : List (Addr × Hl)), vs = [.ref x] ∧ PactsH K C H x kp kd L M ∧ M.length ≤ 10000 ∧ (∀ e ∈ M, LnH e.2) ∧
  ∀ D H', H D = none → H' D = some (.lst ((M.map fun e => hline e.2).map V.str)) → Same H H' → Q (.ref D) H'
theorem ok_Pacts_lines_told (T : Txt w K mg a) : FnOk P w K mg base CX0 2 a.f_Pacts_lines_told a.d_Pacts_lines_told ["self"] (spLines K a.c_Pacts) := by
  have G_helper_line := ok_helper_line (P := P) (w := w) (base := base) T
  have cl_Pacts := T.cl_Pacts
  have na_Pacts_kept_pacts := T.na_Pacts_kept_pacts
  refine T.F_Pacts_lines_told.ok sc_Pacts_lines_told (fun vs H Q E h => ?_) (fun cdv A outer s H vs Q E hr h => ?_)
  · obtain ⟨x, kp, kd, L, M, rfl, _⟩ := h
    rfl
  · obtain ⟨x, kp, kd, L, M, rfl, PA, hl, LN, q⟩ := h
    obtain ⟨dx, ho⟩ := PA.pa.ob
    have hd := PA.pa.pc
    refine ⟨_, (pss_one (ps_ret (pe_lock (pe_lc (own := [("pact", 1)]) (g := gName 1) (tt := tYes) rfl sc_Pacts_lines_told.nd (pi_values (pe_fld (pv 0) rfl)) (blkOk_by (own := [("pact", 1)]) (N := n_Pacts_lines_told) (sc := defScope s_Pacts_lines_told) (by decide +kernel)) (fun _ _ _ _ _ => (pg_name (i := 1) sc_Pacts_lines_told.nd rfl (Or.inl rfl))) (fun _ _ _ _ _ => pts_nil) (fun _ _ _ _ _ => (pe_call G_helper_line (hr.mono (by decide)) rfl T.m_helper_line T.F_helper_line.kp T.b_helper_line .nil pass0 (pa_cons (pv 1) pa_nil))))))), ?_⟩
    refine ⟨kd, _, hd, trivial, fun od => ?_⟩
    have nxd : x ≠ kd := ne_of ho hd (by intro z; cases z)
    have ho1 : upd H kd (.frz od (.dK (hk M))) x = _ := upd_get nxd ho
    have hd1 : upd H kd (.frz od (.dK (hk M))) kd = some (.frz od (.dK (hk M))) := upd_same
    walk_at "go"
    intro D hD
    have nD : D ≠ kd := fun z => by rw [z, upd_same] at hD; cases hD
    have hD0 : H D = none := by rw [upd_ne nD] at hD; exact hD
    have hlm := hk_len M
    refine lcW (walk_values (d := kd) (o := od) (kvs := hk M)) (fun i H' => H' D = some (.lst (((M.take i).map fun e => hline e.2).map V.str)) ∧ Same (upd H kd (.frz od (.dK (hk M)))) H') ?_ ?_ ?_ ?_
    · exact ⟨upd_same, Same.upd_new hD⟩
    · exact fun i H' _ h => h.2 _ _ upd_same
    · rintro i v H0 H1 hi ⟨g1, g2⟩ ⟨rfl, k, hke⟩
      have hi2 : i < M.length := by omega
      obtain ⟨e, he⟩ : ∃ e, M[i]? = some e := ⟨_, List.getElem?_eq_getElem hi2⟩
      have hke : (M.map fun e => ((Sum.inr e.2.name : Key), V.ref e.1))[i]? = some (k, v) := hke
      rw [List.getElem?_map, he] at hke
      cases hke
      have hat : HlAt K H1 (e.1, e.2) := ((PA.at_ e (List.mem_of_getElem? he)).tk (TK.dK hd)).tk (TK.same g2)
      have ln := LN e (List.mem_of_getElem? he)
      refine ⟨rfl, ?_⟩
      walk_at "go"
      intro H2 s2
      refine ⟨_, s2 _ _ g1, small_lt (by rw [List.length_map, List.length_map, List.length_take]; omega), wait ⟨?_, fun x o e => upd_get (ne_of_none e hD) (s2 _ _ (g2 x o e))⟩⟩
      rw [upd_same, List.take_add_one, he, List.map_append, List.map_append] <;> rfl
    · rintro H1 ⟨g1, g2⟩
      rw [hlm, List.take_length] at g1
      refine ⟨g2 _ _ upd_same, ?_⟩
      refine q D _ hD0 (upd_get nD g1) fun y o e => ?_
      by_cases z : y = kd
      · rw [z, hd] at e
        rw [z, upd_same]
        exact e
      · exact upd_get z (g2 _ _ (upd_get z e))
theorem eqv_prs : ∀ {xs ys : List Pr}, PyData.eqvAll (xs.map prD) (ys.map prD) = true → xs = ys
  | [], [], _ => rfl
  | [], _ :: _, h => by cases h
  | _ :: _, [], h => by cases h
  | x :: xs, y :: ys, h => by
    have h : ((x.near == y.near && (x.far == y.far && (x.laden == y.laden && true))) && PyData.eqvAll (xs.map prD) (ys.map prD)) = true := h
    simp only [Bool.and_eq_true] at h
    obtain ⟨⟨h1, h2, h3, _⟩, h4⟩ := h
    obtain ⟨n1, f1, l1⟩ := x
    obtain ⟨n2, f2, l2⟩ := y
    have a1 : n1 = n2 := eq_of_beq h1
    have a2 : f1 = f2 := eq_of_beq h2
    have a3 : l1 = l2 := eq_of_beq h3
    rw [a1, a2, a3, eqv_prs h4]
theorem eqv_strs : ∀ {xs ys : List Str}, PyData.eqvAll (xs.map PyData.str) (ys.map PyData.str) = true → xs = ys
  | [], [], _ => rfl
  | [], _ :: _, h => by cases h
  | _ :: _, [], h => by cases h
  | x :: xs, y :: ys, h => by
    have h : (x == y && PyData.eqvAll (xs.map PyData.str) (ys.map PyData.str)) = true := h
    rw [Bool.and_eq_true] at h
    rw [eq_of_beq h.1, eqv_strs h.2]
theorem shaped_strs {ws : List Str} (h : ∀ w ∈ ws, PyData.strOk w = true) : SeqAt.shaped (.list (ws.map PyData.str)) = true := by
  unfold SeqAt.shaped
  rw [Bool.and_eq_true]
  refine ⟨?_, decide_eq_true ?_⟩
  · have f : ∀ {ws : List Str}, (∀ w ∈ ws, PyData.strOk w = true) → PyData.canLayAll0 (ws.map PyData.str) = true := by
      intro ws
      induction ws with
      | nil => intro _; rfl
      | cons w r ih =>
        intro h
        show (PyData.strOk w && PyData.canLayAll0 (r.map PyData.str)) = true
        rw [h w List.mem_cons_self, ih fun q hq => h q (List.mem_cons_of_mem _ hq)] <;> rfl
    exact f h
  · show PyData.depthAll (ws.map PyData.str) + 1 ≤ 64
    rw [depth_strs] <;> decide
theorem joinL_mem {s : List Nat} {c : Nat} : ∀ {ps : List (List Nat)}, c ∈ TL.joinL s ps → c ∈ s ∨ ∃ p ∈ ps, c ∈ p
  | [], h => by cases h
  | [p], h => .inr ⟨p, List.mem_cons_self, h⟩
  | p :: q :: r, h => by
    have h : c ∈ p ++ (s ++ TL.joinL s (q :: r)) := h
    rcases List.mem_append.mp h with z | z
    · exact .inr ⟨p, List.mem_cons_self, z⟩
    · rcases List.mem_append.mp z with y | y
      · exact .inl y
      · rcases joinL_mem y with v | ⟨u, hu, hc⟩
        · exact .inl v
        · exact .inr ⟨u, List.mem_cons_of_mem _ hu, hc⟩
theorem join_ok {b : Str} {ys : List Str} (h0 : PyData.strOk b = true) (h : ∀ y ∈ ys, PyData.strOk y = true) : PyData.strOk (Txt.join b ys) = true := by
  have f : ∀ {v : Str}, PyData.strOk v = true → ∀ c ∈ TL.tl v, PyData.strOk ⟨#[c]⟩ = true := fun {v} hv c hc => by
    unfold PyData.strOk at hv ⊢
    rw [← Array.all_toList, List.all_eq_true] at hv
    rw [← Array.all_toList, List.all_eq_true]
    intro d hd
    have : d = c := List.mem_singleton.mp hd
    rw [this]
    exact hv c hc
  have g : ∀ {v : Str}, (∀ c ∈ TL.tl v, PyData.strOk ⟨#[c]⟩ = true) → PyData.strOk v = true := fun {v} hv => by
    unfold PyData.strOk
    rw [← Array.all_toList, List.all_eq_true]
    intro c hc
    have := hv c hc
    unfold PyData.strOk at this
    rw [← Array.all_toList, List.all_eq_true] at this
    exact this c List.mem_cons_self
  refine g fun c hc => ?_
  rw [TL.join_eq, TL.tl_join] at hc
  rcases joinL_mem hc with z | ⟨p, hp, z⟩
  · exact f h0 c z
  · obtain ⟨y, hy, rfl⟩ := List.mem_map.mp hp
    exact f (h y hy) c z
theorem WfH.ok {h : Hl} (W : WfH h) : PyData.strOk (hline h) = true := by
  have cs : ∀ w ∈ (["helper", "gives", "throws", "lent", "given", Str.ofString (toString (0 : Int)), Str.ofString (toString (1 : Int))] : List Str), PyData.strOk w = true := by decide +kernel
  refine join_ok (by decide +kernel) fun w hw => ?_
  unfold hwords htail at hw
  rcases List.mem_append.mp hw with z | z
  · rcases List.mem_append.mp z with y | y
    · rcases List.mem_cons.mp y with rfl | y
      · exact cs _ (by simp)
      · rcases List.mem_cons.mp y with rfl | y
        · exact W.nm.ok
        · rw [List.mem_singleton.mp y]
          rcases W.sd with e | e
          · rw [e]; exact cs _ (by simp)
          · rw [e]; exact cs _ (by simp)
    · have := W.tk w y
      unfold hows at this
      rcases List.mem_cons.mp this with rfl | q
      · exact cs _ (by simp)
      · rw [List.mem_singleton.mp q]
        exact cs _ (by simp)
  · rcases List.mem_append.mp z with y | y
    · split at y
      · rw [List.mem_singleton.mp y]
        exact cs _ (by simp)
      · cases y
    · split at y
      · rcases List.mem_append.mp y with q | q
        · rw [List.mem_singleton.mp q]
          exact cs _ (by simp)
        · exact (W.th w q).ok
      · cases y
def spEqP (K : PySem.W.Frag) (C : Addr) : Sp := fun vs H Q _ =>
  (∃ (x kp kd y kp' kd' : Addr) (L L' : List (Addr × Pr)) (M M' : List (Addr × Hl)), vs = [.ref x, .ref y] ∧ PactsH K C H x kp kd L M ∧ PactsH K C H y kp' kd' L' M' ∧ Good (L.map (·.2)) ∧ GoodH (L.map (·.2)) (M.map (·.2)) ∧ Good (L'.map (·.2)) ∧ GoodH (L'.map (·.2)) (M'.map (·.2)) ∧
    ∀ r H', Same H H' → (r = true ↔ L.map (·.2) = L'.map (·.2) ∧ M.map (·.2) = M'.map (·.2)) → Q (.bl r) H') ∨
  (∃ (x : Addr) (z : V), vs = [.ref x, z] ∧ Odd K H z ∧ Q (.bl false) H)
theorem ok_Pacts___eq__ (T : Txt w K mg a) : FnOk P w K mg base CX0 3 a.f_Pacts___eq__ a.d_Pacts___eq__ ["self", "other"] (spEqP K a.c_Pacts) := by
  have G_Pacts_lines_told := ok_Pacts_lines_told (P := P) (w := w) (base := base) T
  have cl_Pacts := T.cl_Pacts
  have na_Pacts_kept_pairs := T.na_Pacts_kept_pairs
  refine T.F_Pacts___eq__.ok sc_Pacts___eq__ (fun vs H Q E h => ?_) (fun cdv A outer s H vs Q E hr h => ?_)
  · rcases h with ⟨x, kp, kd, y, kp', kd', L, L', M, M', rfl, _⟩ | ⟨x, z, rfl, _⟩ <;> rfl
  · have oc := T.oc_Pacts
    rcases h with ⟨x, kp, kd, y, kp', kd', L, L', M, M', rfl, PX, PY, G, GH, G', GH', q⟩ | ⟨x, z, rfl, hz, q⟩
    · obtain ⟨dx, hx⟩ := PX.pa.ob
      obtain ⟨dy, hy⟩ := PY.pa.ob
      have ty : TyX K H (.ref y) (.ref a.c_Pacts) := .base (.ins hy T.cl_Pacts oc.ha oc.hn oc.ht oc.hm)
      have ki : PySem.W.kitOne K (.ref a.c_Pacts) (.ref a.c_Pacts) = some true := by
        unfold PySem.W.kitOne
        rw [if_pos (by simp)]
      refine ⟨_, (pss_cons (ps_if (pt_not (pt_val (pe_callB call_isi (by rfl) T.z_isinstance (by decide +kernel) (pa_cons (pv 1) (pa_cons (pe_glob (v := .ref a.c_Pacts) rfl T.m_Pacts rfl) pa_nil))))) (pss_one (ps_ret pe_bl)) pss_nil)
      (pss_one (ps_ret (pe_and (pe_cmpR (op_eqD (hr.units)) (pe_fld (pv 0) rfl) (pe_fld (pv 1) rfl) (nomark _)) (pe_one (pe_cmpR (op_eqD (hr.units)) (pe_meth0 (pv 0) T.cl_Pacts T.mt_Pacts_lines_told G_Pacts_lines_told (hr.mono (by decide)) T.b_Pacts_lines_told .nil pass0) (pe_meth0 (pv 1) T.cl_Pacts T.mt_Pacts_lines_told G_Pacts_lines_told (hr.mono (by decide)) T.b_Pacts_lines_told .nil pass0) (nomark _))))))), ?_⟩
      have d1 := PX.pa.pr.dp (K := K)
      have d2 := PY.pa.pr.dp (K := K)
      have sh1 := shaped_prs fun p hp => G.xp.sw p hp
      have sh2 := shaped_prs fun p hp => G'.xp.sw p hp
      walk_at "go"
      refine ⟨.own _, ty, ki, ?_⟩
      walk_at "go"
      by_cases hp : L.map (·.2) = L'.map (·.2)
      · rw [hp, eqv_self sh2]
        refine ifT rfl ?_
        have lM : M.length ≤ 10000 := by
          have := GH.len
          rw [List.length_map] at this
          omega
        have lM' : M'.length ≤ 10000 := by
          have := GH'.len
          rw [List.length_map] at this
          omega
        have ln : ∀ e ∈ M, LnH e.2 := fun e he => GH.ln G e.2 (List.mem_map.mpr ⟨e, he, rfl⟩)
        have ln' : ∀ e ∈ M', LnH e.2 := fun e he => GH'.ln G' e.2 (List.mem_map.mpr ⟨e, he, rfl⟩)
        have PX0 := PX
        walk_at "go"
        intro D1 H1 hD1 h1 s1
        have PY1 := PY.same s1
        obtain ⟨dy1, hy1⟩ := PY1.pa.ob
        walk_at "go"
        intro D2 H2 hD2 h2 s2
        have dl1 : Dp K H2 (.ref D1) (.list ((M.map fun e => hline e.2).map PyData.str)) := .lst (SqL.of (s2 _ _ h1)) (dp_strs _)
        have dl2 : Dp K H2 (.ref D2) (.list ((M'.map fun e => hline e.2).map PyData.str)) := .lst (SqL.of h2) (dp_strs _)
        have sl1 : SeqAt.shaped (.list ((M.map fun e => hline e.2).map PyData.str)) = true := shaped_strs fun w hw => by
          obtain ⟨e, he, rfl⟩ := List.mem_map.mp hw
          exact (ln e he).wf.ok
        have sl2 : SeqAt.shaped (.list ((M'.map fun e => hline e.2).map PyData.str)) = true := shaped_strs fun w hw => by
          obtain ⟨e, he, rfl⟩ := List.mem_map.mp hw
          exact (ln' e he).wf.ok
        refine ⟨_, _, dl1, dl2, sl1, sl2, q _ _ (s1.trans s2) ⟨fun e => ⟨hp, ?_⟩, fun e => ?_⟩⟩
        · have e1 := eqv_strs e
          have f : ∀ Z : List (Addr × Hl), Z.map (fun e => hline e.2) = (Z.map (·.2)).map hline := fun Z => by rw [List.map_map] <;> rfl
          rw [f, f] at e1
          exact lines_inj (GH.wf G) (GH'.wf G') e1
        · have f : ∀ Z : List (Addr × Hl), Z.map (fun e => hline e.2) = (Z.map (·.2)).map hline := fun Z => by rw [List.map_map] <;> rfl
          have e1 : M.map (fun e => hline e.2) = M'.map fun e => hline e.2 := by rw [f, f, e.2]
          rw [e1]
          exact eqv_self sl2
      · have e1 : PyData.eqv (.list ((L.map (·.2)).map prD)) (.list ((L'.map (·.2)).map prD)) = false := by
          cases z : PyData.eqv (.list ((L.map (·.2)).map prD)) (.list ((L'.map (·.2)).map prD)) with
          | false => rfl
          | true => exact absurd (eqv_prs z) hp
        refine ifF e1 ?_
        exact q _ _ (fun _ _ e => e) ⟨(fun e => nomatch e), fun e => absurd e.1 hp⟩
    · have go : ∀ t, TyX K H z t → PySem.W.kitOne K t (.ref a.c_Pacts) = some false → ∃ t, PSs (cxOf CX0 P w K mg base n_Pacts___eq__ (Str.ofString "Pacts.__eq__") (defScope s_Pacts___eq__) a.f_Pacts___eq__ cdv A outer s H E).nox (defBody s_Pacts___eq__) t ∧ t { nx := fun _ H' => Q .non H', rt := Q } (start n_Pacts___eq__ [.ref x, z]) H := by
        intro t ty ki
        refine ⟨_, (pss_cons (ps_if (pt_not (pt_val (pe_callB call_isi (by rfl) T.z_isinstance (by decide +kernel) (pa_cons (pv 1) (pa_cons (pe_glob (v := .ref a.c_Pacts) rfl T.m_Pacts rfl) pa_nil))))) (pss_one (ps_ret pe_bl)) pss_nil)
      (pss_one (ps_ret (pe_and (pe_cmpR (op_eqD (hr.units)) (pe_fld (pv 0) rfl) (pe_fld (pv 1) rfl) (nomark _)) (pe_one (pe_cmpR (op_eqD (hr.units)) (pe_meth0 (pv 0) T.cl_Pacts T.mt_Pacts_lines_told G_Pacts_lines_told (hr.mono (by decide)) T.b_Pacts_lines_told .nil pass0) (pe_meth0 (pv 1) T.cl_Pacts T.mt_Pacts_lines_told G_Pacts_lines_told (hr.mono (by decide)) T.b_Pacts_lines_told .nil pass0) (nomark _))))))), ?_⟩
        walk_at "go"
        refine ⟨.own _, ty, ki, ?_⟩
        walk_at "go"
        exact q
      cases z with
      | str k => exact go _ (.base (.str k)) oc.k1
      | int k => exact go _ (.base (.int k)) oc.k2
      | non => exact go _ (.base .non) oc.k3
      | ref p =>
        obtain ⟨xs, hp⟩ := hz
        exact go _ (.base (.lst hp)) oc.k4
      | _ => exact hz.elim
def pockets : List Str := ["a", "b", "c", "d", "e"]
def holders : List Str := ["a", "b", "c", "d", "e", "shelf"]
def figs (w : Str) : Bool := w.cps.toList.all fun c => decide (c ∈ (Str.ofString "0123456789").cps.toList)
theorem figs_cps : (Str.ofString "0123456789").cps.toList = (List.range 10).map (48 + ·) := by decide +kernel
theorem mem_figs {c : Nat} : c ∈ (Str.ofString "0123456789").cps.toList ↔ 48 ≤ c ∧ c ≤ 57 := by
  rw [figs_cps, List.mem_map]
  constructor
  · rintro ⟨k, hk, rfl⟩
    have := List.mem_range.mp hk
    omega
  · intro h
    exact ⟨c - 48, List.mem_range.mpr (by omega), by omega⟩
def rowNum (w : Str) (many : Int) : Option Int :=
  if w.length = 0 ∨ 6 < w.length ∨ figs w = false then none else (intText? w).bind fun n => if Str.ofString (toString n) ≠ w ∨ many ≤ n then none else some n
inductive Step where
  | one (w p : Str)
  | two (w p r : Str)
  | jump (w : Str) (n : Int)
  | throw (w : Str) (p : Option Str)
  | done (p : Option Str)
  | call (n : Str) (given : List (Str × Str)) (to : Option Str) (cs : List (Str × Option Str × Int))
def optV : Option Str → V
  | none => .non
  | some w => .str w
def GivenAt (K : PySem.W.Frag) (H : Hp) (t : Addr) (l : List (Str × Str)) : Prop := ∃ ts : List Addr, SqT K H t (ts.map V.ref) ∧ Paired (fun (t : Addr) (p : Str × Str) => H t = some (.tup [.str p.1, .str p.2])) ts l
def CatchAt (K : PySem.W.Frag) (H : Hp) (t : Addr) (l : List (Str × Option Str × Int)) : Prop := ∃ ts : List Addr, SqT K H t (ts.map V.ref) ∧ Paired (fun (t : Addr) (p : Str × Option Str × Int) => H t = some (.tup [.str p.1, optV p.2.1, .int p.2.2])) ts l
def StepAt (K : PySem.W.Frag) (H : Hp) (t : Addr) : Step → Prop
  | .one w p => H t = some (.tup [.str w, .str p])
  | .two w p r => H t = some (.tup [.str w, .str p, .str r])
  | .jump w n => H t = some (.tup [.str w, .int n])
  | .throw w p => H t = some (.tup [.str "throw", .str w, optV p])
  | .done p => H t = some (.tup [.str "done", optV p])
  | .call n given to cs => ∃ tg tc, H t = some (.tup [.str "call", .str n, .ref tg, optV to, .ref tc]) ∧ GivenAt K H tg given ∧ CatchAt K H tc cs
def Step.word : Step → Str
  | .one w _ => w
  | .two w _ _ => w
  | .jump w _ => w
  | .throw _ _ => "throw"
  | .done _ => "done"
  | .call _ _ _ _ => "call"
theorem GivenAt.tk {K : PySem.W.Frag} {H H' : Hp} {t : Addr} {l : List (Str × Str)} (h : GivenAt K H t l) (k : TK H H') : GivenAt K H' t l := by
  obtain ⟨ts, h1, h2⟩ := h
  exact ⟨ts, k.sq h1, Paired.mapP h2 fun _ _ e => (k _).1 _ e⟩
theorem CatchAt.tk {K : PySem.W.Frag} {H H' : Hp} {t : Addr} {l : List (Str × Option Str × Int)} (h : CatchAt K H t l) (k : TK H H') : CatchAt K H' t l := by
  obtain ⟨ts, h1, h2⟩ := h
  exact ⟨ts, k.sq h1, Paired.mapP h2 fun _ _ e => (k _).1 _ e⟩
theorem StepAt.tk {K : PySem.W.Frag} {H H' : Hp} {t : Addr} {s : Step} (h : StepAt K H t s) (k : TK H H') : StepAt K H' t s := by
  cases s with
  | call n given to cs =>
    obtain ⟨tg, tc, h1, h2, h3⟩ := h
    exact ⟨tg, tc, (k _).1 _ h1, h2.tk k, h3.tk k⟩
  | _ => exact (k _).1 _ h
theorem StepAt.tup {K : PySem.W.Frag} {H : Hp} {t : Addr} {s : Step} (h : StepAt K H t s) : ∃ xs, H t = some (.tup (.str s.word :: xs)) := by
  cases s with
  | call n given to cs =>
    obtain ⟨tg, tc, h1, _⟩ := h
    exact ⟨_, h1⟩
  | _ => exact ⟨_, h⟩
def oneStep (hold : List Str) : List Str → Option Step
  | [w, p] => if p ∈ hold then some (.one w p) else none
  | _ => none
def twoStep : List Str → Option Step
  | [w, p, r] => if p ≠ r ∧ p ∈ pockets ∧ r ∈ pockets then some (.two w p r) else none
  | _ => none
def jumpStep (at_ many : Int) : List Str → Option Step
  | [w, g] => (rowNum g many).bind fun n => if w = "go" ∧ n ≤ at_ then none else some (.jump w n)
  | _ => none
def doneStep (gives : Bool) (rest : List Str) : Option Step :=
  if gives = true then (match rest with | [p] => if p ∈ pockets then some (.done (some p)) else none | _ => none) else (if rest = [] then some (.done none) else none)
def ladenF (ps : List Pr) (side : Int) (w : Str) : Option Bool := (ps.find? fun p => decide (p.word side = w)).map (·.laden)
def throwStep (ps : List Pr) (side : Int) : List Str → Option Step
  | [] => none
  | w :: more => match ladenF ps side w with
    | none => none
    | some false => if more = [] then some (.throw w none) else none
    | some true => (match more with | [p] => if p ∈ pockets then some (.throw w (some p)) else none | _ => none)
def wordOf (h : Str) : Str := if h = "lent" then "lend" else "give"
def holdOf (h : Str) : List Str := if h = "lent" then holders else pockets
def argsF : List Str → List Str → Option (List (Str × Str) × List Str)
  | [], rest => some ([], rest)
  | h :: hs, x :: y :: r => if x = wordOf h ∧ y ∈ holdOf h then (argsF hs r).map fun g => ((x, y) :: g.1, g.2) else none
  | _ :: _, _ => none
def catchF (ps : List Pr) (side many : Int) (known : List Str) : List Str → Option ((Str × Option Str × Int) × List Str)
  | o :: w :: x :: r => if o = "on" ∧ w ∈ known then (match ladenF ps side w with
      | some true => (match r with | g :: r2 => if x ∈ pockets then (rowNum g many).map fun n => ((w, some x, n), r2) else none | [] => none)
      | _ => (rowNum x many).map fun n => ((w, none, n), r)) else none
  | _ => none
def catchesF (ps : List Pr) (side many : Int) : Nat → List Str → List Str → Option (List (Str × Option Str × Int))
  | _, _, [] => some []
  | 0, _, _ => none
  | k + 1, known, rest => (catchF ps side many known rest).bind fun c => (catchesF ps side many k (known.erase c.1.1) c.2).map (c.1 :: ·)
def toF (gives : Bool) (rest : List Str) : Option (Option Str × List Str) :=
  if gives = true then (match rest with | t :: p :: r => if t = "to" ∧ p ∈ pockets then some (some p, r) else none | _ => none) else some (none, rest)
def callStep (ps : List Pr) (hs : List Hl) (side many : Int) : List Str → Option Step
  | _ :: n :: rest => (hs.find? fun h => decide (h.name = n)).bind fun h => (argsF h.takes rest).bind fun g => (toF h.gives g.2).bind fun t => (catchesF ps side many t.2.length (crossed ps h side) t.2).map fun cs => .call n g.1 t.1 cs
  | _ => none
def plainW : List Str := ["make", "free", "clear", "forget", "put", "take"]
def stepF (ps : List Pr) (hs : List Hl) (side : Int) (gives : Bool) (at_ many : Int) (words : List Str) : Option Step :=
  match words with
  | [] => none
  | w :: rest => if w ∈ plainW then oneStep pockets words else if w = "use" then oneStep holders words else if w = "move" then twoStep words
    else if w = "pick" ∨ w = "go" then jumpStep at_ many words else if w = "throw" then throwStep ps side rest else if w = "done" then doneStep gives rest else if w = "call" then callStep ps hs side many words else none
def stepV (s : Option Step) (t : Addr) : V := match s with
  | none => .non
  | some _ => .ref t
def numV : Option Int → V
  | none => .non
  | some n => .int n
theorem figs_int {w : Str} (h1 : w.length ≠ 0) (h2 : w.length ≤ 6) (h3 : figs w = true) : ∃ n : Nat, intText? w = some (n : Int) ∧ n < 10 ^ 10 := by
  have hd : NumText.AllDigits w.cps.toList := fun c hc => by
    have := List.all_eq_true.mp h3 c hc
    exact mem_figs.mp (of_decide_eq_true this)
  have hl : w.cps.toList.length = w.length := Array.length_toList
  refine ⟨_, intText_digits hd (fun z => h1 (by rw [← hl, z] <;> rfl)) (by omega), ?_⟩
  have key : ∀ cs : List Nat, NumText.AllDigits cs → NumText.digitsVal cs < 10 ^ cs.length := by
    intro cs
    refine PfS.snoc_ind (p := fun cs => NumText.AllDigits cs → NumText.digitsVal cs < 10 ^ cs.length) (fun _ => by decide) (fun l c ih h => ?_) cs
    have h1 := ih fun d hd => h d (List.mem_append_left _ hd)
    have h2 := h c (List.mem_append_right _ (List.mem_singleton.mpr rfl))
    rw [NumText.digitsVal_snoc, List.length_append, List.length_singleton, Nat.pow_succ]
    omega
  refine Nat.lt_of_lt_of_le (key _ hd) ?_
  rw [hl]
  exact Nat.pow_le_pow_right (by decide) (by omega)
def spRowNum : Sp := fun vs H Q _ => ∃ (w : Str) (many : Int), vs = [.str w, .int many] ∧ w.length ≤ 100000 ∧ ∀ H', Same H H' → Q (numV (rowNum w many)) H'
theorem ok_row_number (T : Txt w K mg a) : FnOk P w K mg base CX0 1 a.f_row_number a.d_row_number ["word", "many"] spRowNum := by
  refine T.F_row_number.ok sc_row_number (fun vs H Q E h => ?_) (fun cdv A outer s H vs Q E hr h => ?_)
  · obtain ⟨w, many, rfl, _⟩ := h
    rfl
  · obtain ⟨w, many, rfl, hl, q⟩ := h
    have hsz : w.length ≤ sizeLine := small_le hl
    refine ⟨_, (pss_cons (ps_if (pt_mid (PW.pt (pw_or (pt_cmpR op_eq (pe_callB call_len_str (by rfl) T.z_len PySem.boot_len (pa_cons (pv 0) pa_nil)) pe_int (nomark _)) (pw_or (pt_cmpR op_gt (pe_callB call_len_str (by rfl) T.z_len PySem.boot_len (pa_cons (pv 0) pa_nil)) (pe_globI rfl T.g_MOST_FIGURES) (nomark _)) (pw_or1 (pt_not (pt_val (pe_callB (cr_all rfl) (by rfl) T.z_all (by decide +kernel) (pa_cons (pe_lc (own := [("sign", 3)]) (g := gName 3) (tt := tYes) rfl sc_row_number.nd (pi_str (pv 0)) (blkOk_by (own := [("sign", 3)]) (N := n_row_number) (sc := defScope s_row_number) (by decide +kernel)) (fun _ _ _ _ _ => (pg_name (i := 3) sc_row_number.nd rfl (Or.inl rfl))) (fun _ _ _ _ _ => pts_nil) (fun _ _ _ _ _ => (pe_cmpR op_in_str (pv 3) (pe_globS rfl T.g_FIGURES) rfl))) pa_nil))))))))) (pss_one (ps_ret pe_non)) pss_nil)
      (pss_cons (ps_set (i := 2) sc_row_number.nd rfl (Or.inl rfl) (pe_callTy call_int_str (by rfl) T.z_int (by decide +kernel) (pa_cons (pv 0) pa_nil)))
      (pss_cons (ps_if (pt_mid (PW.pt (pw_or (pt_cmpR op_ne (pe_callTy call_str_int (by rfl) T.z_str (by decide +kernel) (pa_cons (pv 2) pa_nil)) (pv 0) (nomark _)) (pw_or1 (pt_cmpR op_ge (pv 2) (pv 1) (nomark _)))))) (pss_one (ps_ret pe_non)) pss_nil)
      (pss_one (ps_ret (pv 2)))))), ?_⟩
    refine midT_of (fun c H1 => Same H H1 ∧ (c = true ↔ (w.length = 0 ∨ 6 < w.length ∨ figs w = false))) ?_ ?_
    · walk_at "go"
      refine ifD (fun b => ?_) (fun b => ?_)
      · exact wait ⟨fun _ _ e => e, fun _ => .inl (by have := V.int.inj b; omega), fun _ => rfl⟩
      · have b1 : w.length ≠ 0 := fun z => b (by rw [z] <;> rfl)
        walk_at "go"
        refine ifD (fun b2 => ?_) (fun b2 => ?_)
        · exact wait ⟨fun _ _ e => e, fun _ => .inr (.inl (by omega)), fun _ => rfl⟩
        · walk_at "go"
          intro D hD
          refine lcW (walk_str (z := w)) (fun i H' => H' D = some (.lst ((((w.cps.toList.take i).map fun c => decide (c ∈ (Str.ofString "0123456789").cps.toList))).map V.bl)) ∧ Same H H') ?_ ?_ ?_ ?_
          · exact ⟨upd_same, Same.upd_new hD⟩
          · exact fun _ _ _ _ => trivial
          · rintro i x H1 _ hi ⟨g1, g2⟩ ⟨rfl, c, hc, rfl⟩
            have hc2 : w.cps.toList[i]? = some c := by rw [Array.getElem?_toList]; exact hc
            have hlt : (w.cps.toList.take i).length ≤ 6 := by
              rw [List.length_take, Array.length_toList]
              have : w.length = w.cps.size := rfl
              omega
            refine ⟨rfl, ?_⟩
            walk_at "go"
            refine ⟨small_lt (by rw [List.length_map, List.length_map]; omega), wait ⟨?_, fun x o e => upd_get (ne_of_none e hD) (g2 x o e)⟩⟩
            rw [upd_same, StrLaws.found_one, List.take_add_one, hc2, List.map_append, List.map_append] <;> rfl
          · rintro H1 ⟨g1, g2⟩
            walk_at "go"
            have e1 : figs w = ((w.cps.toList.take w.cps.size).map fun c => decide (c ∈ (Str.ofString "0123456789").cps.toList)).all id := by
              rw [List.take_of_length_le (by rw [Array.length_toList] <;> omega), List.all_map] <;> rfl
            rw [← e1]
            refine wait ⟨g2, fun z => .inr (.inr (by simpa using z)), fun z => ?_⟩
            rcases z with z | z | z
            · exact absurd z b1
            · omega
            · rw [z] <;> rfl
    · rintro c H1 ⟨s1, hc⟩
      refine ifB (fun ec => ?_) (fun ec => ?_)
      · have e : rowNum w many = none := by unfold rowNum; rw [if_pos (hc.mp ec)]
        walk_at "go"
        have := q _ s1
        rw [e] at this
        exact this
      · have hno : ¬ (w.length = 0 ∨ 6 < w.length ∨ figs w = false) := fun z => by rw [hc.mpr z] at ec; cases ec
        obtain ⟨n, hn, hlt⟩ := figs_int (w := w) (fun z => hno (.inl z)) (by omega) (by
          cases z : figs w with
          | true => rfl
          | false => exact absurd (.inr (.inr z)) hno)
        have hb : (n : Int).natAbs.log2 < 1920 := by
          have : (n : Int).natAbs = n := by omega
          rw [this]
          by_cases z : n = 0
          · rw [z]; decide
          · exact (Nat.log2_lt z).mpr (Nat.lt_of_lt_of_le hlt (by decide +kernel))
        have hl6 : w.length ≤ 640 := by omega
        have er : rowNum w many = if Str.ofString (toString (n : Int)) ≠ w ∨ many ≤ (n : Int) then none else some (n : Int) := by unfold rowNum; rw [if_neg hno, hn] <;> rfl
        have qq := q _ s1
        rw [er] at qq
        walk_at "go"
        refine midT_of (fun c H2 => H2 = H1 ∧ (c = true ↔ (Str.ofString (toString (n : Int)) ≠ w ∨ many ≤ (n : Int)))) ?_ ?_
        · walk_at "go"
          refine ifN (fun b => ?_) (fun b => ?_)
          · exact wait ⟨rfl, fun _ => .inl fun z => b (congrArg V.str z), fun _ => rfl⟩
          · walk_at "go"
            refine wait ⟨rfl, fun z => .inr (by have := of_decide_eq_true z; omega), fun z => ?_⟩
            rcases z with z | z
            · exact absurd (V.str.inj b) z
            · exact decide_eq_true (by omega)
        · rintro c2 H2 ⟨rfl, hc2⟩
          refine ifB (fun ec2 => ?_) (fun ec2 => ?_)
          · walk_at "go"
            rw [if_pos (hc2.mp ec2)] at qq
            exact qq
          · walk_at "go"
            rw [if_neg (fun z => by rw [hc2.mpr z] at ec2; cases ec2)] at qq
            exact qq
def Gives (K : PySem.W.Frag) (H : Hp) (Q : VK) (o : Option Step) : Prop := (o = none → ∀ H', Same H H' → Q .non H') ∧ ∀ s, o = some s → ∀ t H', H t = none → StepAt K H' t s → Same H H' → Q (.ref t) H'
theorem in_pk (w : Str) : inV (.str w) [.str "a", .str "b", .str "c", .str "d", .str "e"] = decide (w ∈ pockets) := in_strs w pockets
theorem in_hd (w : Str) : inV (.str w) [.str "a", .str "b", .str "c", .str "d", .str "e", .str "shelf"] = decide (w ∈ holders) := in_strs w holders
theorem len1 {ws : List Str} (h : ws.length = 1) : ∃ x, ws = [x] := by
  match ws, h with
  | [x], _ => exact ⟨x, rfl⟩
theorem len2 {ws : List Str} (h : ws.length = 2) : ∃ x y, ws = [x, y] := by
  match ws, h with
  | [x, y], _ => exact ⟨x, y, rfl⟩
theorem oneStep_no {hold : List Str} {w : Str} {r : List Str} (h : r.length ≠ 1) : oneStep hold (w :: r) = none := by
  match r, h with
  | [], _ => rfl
  | [_], h => exact absurd rfl h
  | _ :: _ :: _, _ => rfl
def spOne (K : PySem.W.Frag) (hold : List Str) : Sp := fun vs H Q _ => ∃ (W : Addr) (w : Str) (r : List Str), vs = [.ref W] ∧ H W = some (.lst ((w :: r).map V.str)) ∧ Gives K H Q (oneStep hold (w :: r))
theorem ok_pocket_step (T : Txt w K mg a) : FnOk P w K mg base CX0 1 a.f_pocket_step a.d_pocket_step ["words"] (spOne K pockets) := by
  refine T.F_pocket_step.ok sc_pocket_step (fun vs H Q E h => ?_) (fun cdv A outer s H vs Q E hr h => ?_)
  · obtain ⟨W, w, r, rfl, _⟩ := h
    rfl
  · obtain ⟨W, w, r, rfl, hW, q⟩ := h
    have lr : (r.map V.str).length = r.length := List.length_map _
    refine ⟨_, (pss_cons (ps_asg (pv 0) (pg_star1 rfl (pg_name (i := 1) sc_pocket_step.nd rfl (Or.inl rfl)) (pg_name (i := 2) sc_pocket_step.nd rfl (Or.inl rfl))))
      (pss_cons (ps_if (pt_mid (PW.pt (pw_or (pt_cmpR op_ne (pe_callB call_lenK (by rfl) T.z_len PySem.boot_len (pa_cons (pv 2) pa_nil)) pe_int (nomark _)) (pw_or1 (pt_cmpR op_notIn_seq (pe_ix ix_list (pv 2) pe_int (fun _ _ => rfl)) (pe_glob (v := .ref a.k_POCKETS_rowtext) rfl T.g_POCKETS_rowtext rfl) (by rfl)))))) (pss_one (ps_ret pe_non)) pss_nil)
      (pss_one (ps_ret (pe_tup (pa_cons (pv 1) (pa_cons (pe_ix ix_list (pv 2) pe_int (fun _ _ => rfl)) pa_nil))))))), ?_⟩
    walk_at "go"
    intro p1 hp1
    obtain ⟨H1, e1⟩ : ∃ H1, H1 = upd H p1 (.lst (r.map V.str)) := ⟨_, rfl⟩
    have s1 : Same H H1 := by rw [e1]; exact Same.upd_new hp1
    have h1 : H1 p1 = some (.lst (r.map V.str)) := by rw [e1, upd_same]
    rw [← e1]
    by_cases h1r : r.length = 1
    · obtain ⟨p, rfl⟩ := len1 h1r
      have a0 : atI ([p].map V.str) 0 = some (.str p) := rfl
      walk_at "go"
      refine midT_of (fun c H2 => H2 = H1 ∧ c = !decide (p ∈ pockets)) ?_ ?_
      · walk_at "go"
        refine ⟨.inr (T.tp_POCKETS_rowtext _), rfl, rfl, ?_⟩
        rw [if_pos rfl, in_pk]
        exact ⟨_, rfl, wait ⟨rfl, rfl⟩⟩
      · rintro c H2 ⟨rfl, rfl⟩
        refine ifN (fun b => ?_) (fun b => ?_)
        · walk_at "go"
          exact q.1 (by show (if p ∈ pockets then some (Step.one w p) else none) = none; rw [if_neg b]) _ s1
        · walk_at "go"
          intro t ht
          exact q.2 (.one w p) (by show (if p ∈ pockets then some (Step.one w p) else none) = _; rw [if_pos b]) t _ (same_none' s1 ht) upd_same (s1.trans (Same.upd_new ht))
    · walk_at "go"
      refine midT_of (fun c H2 => H2 = H1 ∧ c = true) ?_ ?_
      · walk_at "go"
        refine ifNY (fun z => h1r (by have := V.int.inj z; omega)) ?_
        exact wait ⟨rfl, rfl⟩
      · rintro c H2 ⟨rfl, rfl⟩
        refine ifT rfl ?_
        walk_at "go"
        exact q.1 (oneStep_no h1r) _ s1
theorem ok_use_step (T : Txt w K mg a) : FnOk P w K mg base CX0 1 a.f_use_step a.d_use_step ["words"] (spOne K holders) := by
  refine T.F_use_step.ok sc_use_step (fun vs H Q E h => ?_) (fun cdv A outer s H vs Q E hr h => ?_)
  · obtain ⟨W, w, r, rfl, _⟩ := h
    rfl
  · obtain ⟨W, w, r, rfl, hW, q⟩ := h
    have lr : (r.map V.str).length = r.length := List.length_map _
    refine ⟨_, (pss_cons (ps_asg (pv 0) (pg_star1 rfl (pg_name (i := 1) sc_use_step.nd rfl (Or.inl rfl)) (pg_name (i := 2) sc_use_step.nd rfl (Or.inl rfl))))
      (pss_cons (ps_if (pt_mid (PW.pt (pw_or (pt_cmpR op_ne (pe_callB call_lenK (by rfl) T.z_len PySem.boot_len (pa_cons (pv 2) pa_nil)) pe_int (nomark _)) (pw_or1 (pt_cmpR op_notIn_seq (pe_ix ix_list (pv 2) pe_int (fun _ _ => rfl)) (pe_glob (v := .ref a.k_HOLDERS) rfl T.g_HOLDERS rfl) (by rfl)))))) (pss_one (ps_ret pe_non)) pss_nil)
      (pss_one (ps_ret (pe_tup (pa_cons (pv 1) (pa_cons (pe_ix ix_list (pv 2) pe_int (fun _ _ => rfl)) pa_nil))))))), ?_⟩
    walk_at "go"
    intro p1 hp1
    obtain ⟨H1, e1⟩ : ∃ H1, H1 = upd H p1 (.lst (r.map V.str)) := ⟨_, rfl⟩
    have s1 : Same H H1 := by rw [e1]; exact Same.upd_new hp1
    have h1 : H1 p1 = some (.lst (r.map V.str)) := by rw [e1, upd_same]
    rw [← e1]
    by_cases h1r : r.length = 1
    · obtain ⟨p, rfl⟩ := len1 h1r
      have a0 : atI ([p].map V.str) 0 = some (.str p) := rfl
      walk_at "go"
      refine midT_of (fun c H2 => H2 = H1 ∧ c = !decide (p ∈ holders)) ?_ ?_
      · walk_at "go"
        refine ⟨.inr (T.tp_HOLDERS _), rfl, rfl, ?_⟩
        rw [if_pos rfl, in_hd]
        exact ⟨_, rfl, wait ⟨rfl, rfl⟩⟩
      · rintro c H2 ⟨rfl, rfl⟩
        refine ifN (fun b => ?_) (fun b => ?_)
        · walk_at "go"
          exact q.1 (by show (if p ∈ holders then some (Step.one w p) else none) = none; rw [if_neg b]) _ s1
        · walk_at "go"
          intro t ht
          exact q.2 (.one w p) (by show (if p ∈ holders then some (Step.one w p) else none) = _; rw [if_pos b]) t _ (same_none' s1 ht) upd_same (s1.trans (Same.upd_new ht))
    · walk_at "go"
      refine midT_of (fun c H2 => H2 = H1 ∧ c = true) ?_ ?_
      · walk_at "go"
        refine ifNY (fun z => h1r (by have := V.int.inj z; omega)) ?_
        exact wait ⟨rfl, rfl⟩
      · rintro c H2 ⟨rfl, rfl⟩
        refine ifT rfl ?_
        walk_at "go"
        exact q.1 (oneStep_no h1r) _ s1
theorem twoStep_no {w : Str} {r : List Str} (h : r.length ≠ 2) : twoStep (w :: r) = none := by
  match r, h with
  | [], _ => rfl
  | [_], _ => rfl
  | [_, _], h => exact absurd rfl h
  | _ :: _ :: _ :: _, _ => rfl
def spTwo (K : PySem.W.Frag) : Sp := fun vs H Q _ => ∃ (W : Addr) (w : Str) (r : List Str), vs = [.ref W] ∧ H W = some (.lst ((w :: r).map V.str)) ∧ Gives K H Q (twoStep (w :: r))
theorem ok_move_step (T : Txt w K mg a) : FnOk P w K mg base CX0 1 a.f_move_step a.d_move_step ["words"] (spTwo K) := by
  refine T.F_move_step.ok sc_move_step (fun vs H Q E h => ?_) (fun cdv A outer s H vs Q E hr h => ?_)
  · obtain ⟨W, w, r, rfl, _⟩ := h
    rfl
  · obtain ⟨W, w, r, rfl, hW, q⟩ := h
    have lr : (r.map V.str).length = r.length := List.length_map _
    refine ⟨_, (pss_cons (ps_asg (pv 0) (pg_star1 rfl (pg_name (i := 1) sc_move_step.nd rfl (Or.inl rfl)) (pg_name (i := 2) sc_move_step.nd rfl (Or.inl rfl))))
      (pss_cons (ps_if (pt_mid (PW.pt (pw_or (pt_cmpR op_ne (pe_callB call_lenK (by rfl) T.z_len PySem.boot_len (pa_cons (pv 2) pa_nil)) pe_int (nomark _)) (pw_or1 (pt_cmpR op_eq (pe_ix ix_list (pv 2) pe_int (fun _ _ => rfl)) (pe_ix ix_list (pv 2) pe_int (fun _ _ => rfl)) (nomark _)))))) (pss_one (ps_ret pe_non)) pss_nil)
      (pss_cons (ps_if (pt_mid (PW.pt (pw_or (pt_cmpR op_notIn_seq (pe_ix ix_list (pv 2) pe_int (fun _ _ => rfl)) (pe_glob (v := .ref a.k_POCKETS_rowtext) rfl T.g_POCKETS_rowtext rfl) (by rfl)) (pw_or1 (pt_cmpR op_notIn_seq (pe_ix ix_list (pv 2) pe_int (fun _ _ => rfl)) (pe_glob (v := .ref a.k_POCKETS_rowtext) rfl T.g_POCKETS_rowtext rfl) (by rfl)))))) (pss_one (ps_ret pe_non)) pss_nil)
      (pss_one (ps_ret (pe_tup (pa_cons (pv 1) (pa_cons (pe_ix ix_list (pv 2) pe_int (fun _ _ => rfl)) (pa_cons (pe_ix ix_list (pv 2) pe_int (fun _ _ => rfl)) pa_nil))))))))), ?_⟩
    walk_at "go"
    intro p1 hp1
    obtain ⟨H1, e1⟩ : ∃ H1, H1 = upd H p1 (.lst (r.map V.str)) := ⟨_, rfl⟩
    have s1 : Same H H1 := by rw [e1]; exact Same.upd_new hp1
    have h1 : H1 p1 = some (.lst (r.map V.str)) := by rw [e1, upd_same]
    rw [← e1]
    by_cases h2r : r.length = 2
    · obtain ⟨p, r, rfl⟩ := len2 h2r
      have a0 : atI ([p, r].map V.str) 0 = some (.str p) := rfl
      have a1 : atI ([p, r].map V.str) 1 = some (.str r) := rfl
      have e2 : twoStep [w, p, r] = if p ≠ r ∧ p ∈ pockets ∧ r ∈ pockets then some (.two w p r) else none := rfl
      walk_at "go"
      refine midT_of (fun c H2 => H2 = H1 ∧ c = decide (p = r)) ?_ ?_
      · walk_at "go"
        refine wait ⟨rfl, ?_⟩
        by_cases z : p = r
        · rw [z, decide_eq_true rfl, decide_eq_true rfl]
        · rw [decide_eq_false z, decide_eq_false fun y => z (V.str.inj y)]
      · rintro c H2 ⟨rfl, rfl⟩
        refine ifD (fun b => ?_) (fun b => ?_)
        · walk_at "go"
          exact q.1 (by rw [e2, if_neg (fun z => z.1 b)]) _ s1
        · walk_at "go"
          refine midT_of (fun c H3 => H3 = H2 ∧ c = !(decide (p ∈ pockets) && decide (r ∈ pockets))) ?_ ?_
          · walk_at "go"
            refine ⟨.inr (T.tp_POCKETS_rowtext _), rfl, rfl, ?_⟩
            rw [if_pos rfl, in_pk]
            refine ⟨_, rfl, ?_⟩
            refine ifN (fun c1 => ?_) (fun c1 => ?_)
            · exact wait ⟨rfl, by rw [decide_eq_false c1] <;> rfl⟩
            · walk_at "go"
              refine ⟨.inr (T.tp_POCKETS_rowtext _), rfl, rfl, ?_⟩
              rw [if_pos rfl, in_pk]
              exact ⟨_, rfl, wait ⟨rfl, by rw [decide_eq_true c1] <;> rfl⟩⟩
          · rintro c H3 ⟨rfl, rfl⟩
            refine ifB (fun c1 => ?_) (fun c1 => ?_)
            · walk_at "go"
              exact q.1 (by rw [e2, if_neg (fun z => by rw [decide_eq_true z.2.1, decide_eq_true z.2.2] at c1; cases c1)]) _ s1
            · walk_at "go"
              intro t ht
              have c2 : decide (p ∈ pockets) = true ∧ decide (r ∈ pockets) = true := by simpa using c1
              exact q.2 (.two w p r) (by rw [e2, if_pos ⟨b, of_decide_eq_true c2.1, of_decide_eq_true c2.2⟩]) t _ (same_none' s1 ht) upd_same (s1.trans (Same.upd_new ht))
    · walk_at "go"
      refine midT_of (fun c H2 => H2 = H1 ∧ c = true) ?_ ?_
      · walk_at "go"
        refine ifNY (fun z => h2r (by have := V.int.inj z; omega)) ?_
        exact wait ⟨rfl, rfl⟩
      · rintro c H2 ⟨rfl, rfl⟩
        refine ifT rfl ?_
        walk_at "go"
        exact q.1 (twoStep_no h2r) _ s1
theorem jumpStep_no {at_ many : Int} {w : Str} {r : List Str} (h : r.length ≠ 1) : jumpStep at_ many (w :: r) = none := by
  match r, h with
  | [], _ => rfl
  | [_], h => exact absurd rfl h
  | _ :: _ :: _, _ => rfl
def Short (ws : List Str) : Prop := ∀ w ∈ ws, w.length ≤ 100000
def spJump (K : PySem.W.Frag) : Sp := fun vs H Q _ => ∃ (W : Addr) (w : Str) (r : List Str) (at_ many : Int), vs = [.ref W, .int at_, .int many] ∧ H W = some (.lst ((w :: r).map V.str)) ∧ Short r ∧ Gives K H Q (jumpStep at_ many (w :: r))
theorem ok_jump_step (T : Txt w K mg a) : FnOk P w K mg base CX0 2 a.f_jump_step a.d_jump_step ["words", "at", "many"] (spJump K) := by
  have G_row_number := ok_row_number (P := P) (w := w) (base := base) T
  refine T.F_jump_step.ok sc_jump_step (fun vs H Q E h => ?_) (fun cdv A outer s H vs Q E hr h => ?_)
  · obtain ⟨W, w, r, at_, many, rfl, _⟩ := h
    rfl
  · obtain ⟨W, w, r, at_, many, rfl, hW, sh, q⟩ := h
    have lr : (r.map V.str).length = r.length := List.length_map _
    refine ⟨_, (pss_cons (ps_asg (pv 0) (pg_star1 rfl (pg_name (i := 3) sc_jump_step.nd rfl (Or.inl rfl)) (pg_name (i := 4) sc_jump_step.nd rfl (Or.inl rfl))))
      (pss_cons (ps_if (pt_cmpR op_ne (pe_callB call_lenK (by rfl) T.z_len PySem.boot_len (pa_cons (pv 4) pa_nil)) pe_int (nomark _)) (pss_one (ps_ret pe_non)) pss_nil)
      (pss_cons (ps_set (i := 5) sc_jump_step.nd rfl (Or.inl rfl) (pe_call G_row_number (hr.mono (by decide)) rfl T.m_row_number T.F_row_number.kp T.b_row_number .nil pass0 (pa_cons (pe_ix ix_list (pv 4) pe_int (fun _ _ => rfl)) (pa_cons (pv 2) pa_nil))))
      (pss_cons (ps_if (pt_mid (PW.pt (pw_or (pt_cmpR op_isN (pv 5) pe_non (nomark _)) (pw_or1 (PW.pt (pw_and (pt_cmpR op_eq (pv 3) pe_str (nomark _)) (pw_and1 (pt_cmpR op_le (pv 5) (pv 1) (nomark _))))))))) (pss_one (ps_ret pe_non)) pss_nil)
      (pss_one (ps_ret (pe_tup (pa_cons (pv 3) (pa_cons (pv 5) pa_nil))))))))), ?_⟩
    walk_at "go"
    intro p1 hp1
    obtain ⟨H1, e1⟩ : ∃ H1, H1 = upd H p1 (.lst (r.map V.str)) := ⟨_, rfl⟩
    have s1 : Same H H1 := by rw [e1]; exact Same.upd_new hp1
    have h1 : H1 p1 = some (.lst (r.map V.str)) := by rw [e1, upd_same]
    rw [← e1]
    by_cases h1r : r.length = 1
    · obtain ⟨p, rfl⟩ := len1 h1r
      have a0 : atI ([p].map V.str) 0 = some (.str p) := rfl
      have hp := sh p List.mem_cons_self
      have ej : jumpStep at_ many [w, p] = (rowNum p many).bind fun n => if w = "go" ∧ n ≤ at_ then none else some (.jump w n) := rfl
      walk_at "go"
      intro H2 s2
      have s12 := s1.trans s2
      cases en : rowNum p many with
      | none =>
        rw [en] at ej
        walk_at "go"
        refine midT_of (fun c H3 => H3 = H2 ∧ c = true) ?_ ?_
        · walk_at "go"
          refine wait ⟨rfl, rfl⟩
        · rintro c H3 ⟨rfl, rfl⟩
          refine ifT rfl ?_
          walk_at "go"
          exact q.1 ej _ s12
      | some n =>
        rw [en] at ej
        have ej : jumpStep at_ many [w, p] = if w = "go" ∧ n ≤ at_ then none else some (.jump w n) := ej
        walk_at "go"
        refine midT_of (fun c H3 => H3 = H2 ∧ (c = true ↔ w = "go" ∧ n ≤ at_)) ?_ ?_
        · walk_at "go"
          refine ifD (fun b => ?_) (fun b => ?_)
          · walk_at "go"
            exact wait ⟨rfl, fun z => ⟨V.str.inj b, of_decide_eq_true z⟩, fun z => decide_eq_true z.2⟩
          · exact wait ⟨rfl, (fun z => nomatch z), fun z => absurd (congrArg V.str z.1) b⟩
        · rintro c H3 ⟨rfl, hc⟩
          refine ifB (fun ec => ?_) (fun ec => ?_)
          · walk_at "go"
            exact q.1 (by rw [ej, if_pos (hc.mp ec)]) _ s12
          · walk_at "go"
            intro t ht
            exact q.2 (.jump w n) (by rw [ej, if_neg (fun z => by rw [hc.mpr z] at ec; cases ec)]) t _ (same_none' s12 ht) upd_same (s12.trans (Same.upd_new ht))
    · walk_at "go"
      refine ifNY (fun z => h1r (by have := V.int.inj z; omega)) ?_
      walk_at "go"
      exact q.1 (jumpStep_no h1r) _ s1
def spDone (K : PySem.W.Frag) : Sp := fun vs H Q _ => ∃ (t R : Addr) (h : Hl) (rest : List Str), vs = [.ref t, .ref R] ∧ HlAt K H (t, h) ∧ H R = some (.lst (rest.map V.str)) ∧ Gives K H Q (doneStep h.gives rest)
theorem ok_done_step (T : Txt w K mg a) : FnOk P w K mg base CX0 1 a.f_done_step a.d_done_step ["pact", "rest"] (spDone K) := by
  refine T.F_done_step.ok sc_done_step (fun vs H Q E h => ?_) (fun cdv A outer s H vs Q E hr h => ?_)
  · obtain ⟨t, R, h, rest, rfl, _⟩ := h
    rfl
  · obtain ⟨t, R, h, rest, rfl, HA, hR, q⟩ := h
    obtain ⟨tk, th, ht, _, _⟩ := HA
    have ht : H t = some (.tup [.str h.name, .int h.side, .ref tk, .bl h.gives, .ref th]) := ht
    have lr : (rest.map V.str).length = rest.length := List.length_map _
    have a3 : atI [V.str h.name, .int h.side, .ref tk, .bl h.gives, .ref th] 3 = some (.bl h.gives) := rfl
    have rr : Same H H := fun _ _ e => e
    refine ⟨_, (pss_cons (ps_if (pt_not (pt_val (pe_ix ix_tup (pv 0) pe_int (fun _ _ => rfl)))) (pss_one (ps_ret (pe_ifExp (pt_cmpR op_eq (pe_callB call_lenK (by rfl) T.z_len PySem.boot_len (pa_cons (pv 1) pa_nil)) pe_int (nomark _)) (pe_tup (pa_cons pe_str (pa_cons pe_non pa_nil))) pe_non))) pss_nil)
      (pss_cons (ps_if (pt_mid (PW.pt (pw_or (pt_cmpR op_ne (pe_callB call_lenK (by rfl) T.z_len PySem.boot_len (pa_cons (pv 1) pa_nil)) pe_int (nomark _)) (pw_or1 (pt_cmpR op_notIn_seq (pe_ix ix_list (pv 1) pe_int (fun _ _ => rfl)) (pe_glob (v := .ref a.k_POCKETS_rowtext) rfl T.g_POCKETS_rowtext rfl) (by rfl)))))) (pss_one (ps_ret pe_non)) pss_nil)
      (pss_one (ps_ret (pe_tup (pa_cons pe_str (pa_cons (pe_ix ix_list (pv 1) pe_int (fun _ _ => rfl)) pa_nil))))))), ?_⟩
    walk_at "go"
    cases hg : h.gives with
    | false =>
      rw [hg] at q
      refine ifT rfl ?_
      walk_at "go"
      refine ifD (fun b => ?_) (fun b => ?_)
      · have e0 : rest = [] := List.length_eq_zero_iff.mp (by have := V.int.inj b; omega)
        walk_at "go"
        intro p hp
        exact q.2 (.done none) (by unfold doneStep; rw [if_neg (by decide), if_pos e0]) p _ hp upd_same (Same.upd_new hp)
      · have e0 : rest ≠ [] := fun z => b (by rw [z] <;> rfl)
        walk_at "go"
        exact q.1 (by unfold doneStep; rw [if_neg (by decide), if_neg e0]) _ rr
    | true =>
      rw [hg] at q
      refine ifF rfl ?_
      by_cases h1r : rest.length = 1
      · obtain ⟨p, rfl⟩ := len1 h1r
        have a0 : atI ([p].map V.str) 0 = some (.str p) := rfl
        have ed : doneStep true [p] = if p ∈ pockets then some (.done (some p)) else none := rfl
        walk_at "go"
        refine midT_of (fun c H2 => H2 = H ∧ c = !decide (p ∈ pockets)) ?_ ?_
        · walk_at "go"
          refine ⟨.inr (T.tp_POCKETS_rowtext _), rfl, rfl, ?_⟩
          rw [if_pos rfl, in_pk]
          exact ⟨_, rfl, wait ⟨rfl, rfl⟩⟩
        · rintro c H2 ⟨rfl, rfl⟩
          refine ifN (fun b => ?_) (fun b => ?_)
          · walk_at "go"
            exact q.1 (by rw [ed, if_neg b]) _ rr
          · walk_at "go"
            intro t2 ht2
            exact q.2 (.done (some p)) (by rw [ed, if_pos b]) t2 _ ht2 upd_same (Same.upd_new ht2)
      · walk_at "go"
        refine midT_of (fun c H2 => H2 = H ∧ c = true) ?_ ?_
        · walk_at "go"
          refine ifNY (fun z => h1r (by have := V.int.inj z; omega)) ?_
          exact wait ⟨rfl, rfl⟩
        · rintro c H2 ⟨rfl, rfl⟩
          refine ifT rfl ?_
          walk_at "go"
          refine q.1 ?_ _ rr
          match rest, h1r with
          | [], _ => rfl
          | [_], h => exact absurd rfl h
          | _ :: _ :: _, _ => rfl
theorem laden_first {L : List (Addr × Pr)} {w : Str} {s : Int} {e : Addr × Pr} (h : FirstW L w s e) : ladenF (L.map (·.2)) s w = some e.2.laden := by
  obtain ⟨_, hw, j, hj, hb⟩ := h
  unfold ladenF
  have : (L.map (·.2)).find? (fun p => decide (p.word s = w)) = some e.2 := by
    rw [List.find?_map, Option.map_eq_some_iff]
    refine ⟨e, ?_, rfl⟩
    rw [List.find?_eq_some_iff_getElem]
    obtain ⟨hl, he⟩ := List.getElem?_eq_some_iff.mp hj
    refine ⟨by simpa using hw, j, hl, he, fun i hi => ?_⟩
    simpa using hb i hi _ (List.getElem?_eq_getElem (by omega))
  rw [this] <;> rfl
theorem laden_none {L : List (Addr × Pr)} {w : Str} {s : Int} (h : ∀ e ∈ L, e.2.word s ≠ w) : ladenF (L.map (·.2)) s w = none := by
  unfold ladenF
  have : (L.map (·.2)).find? (fun p => decide (p.word s = w)) = none := by
    rw [List.find?_eq_none]
    intro p hp
    obtain ⟨e, he, rfl⟩ := List.mem_map.mp hp
    simpa using h e he
  rw [this] <;> rfl
def spThrow (K : PySem.W.Frag) (C : Addr) : Sp := fun vs H Q _ => ∃ (x kp kd R : Addr) (L : List (Addr × Pr)) (kvs : List (Key × V)) (side : Int) (rest : List Str), vs = [.ref x, .int side, .ref R] ∧ PactsAt C H x kp kd L kvs ∧ (side = 0 ∨ side = 1) ∧ H R = some (.lst (rest.map V.str)) ∧ Gives K H Q (throwStep (L.map (·.2)) side rest)
theorem ok_throw_step (T : Txt w K mg a) : FnOk P w K mg base CX0 5 a.f_throw_step a.d_throw_step ["pacts", "side", "rest"] (spThrow K a.c_Pacts) := by
  have G_Pacts_laden := ok_Pacts_laden (P := P) (w := w) (base := base) T
  have cl_Pacts := T.cl_Pacts
  refine T.F_throw_step.ok sc_throw_step (fun vs H Q E h => ?_) (fun cdv A outer s H vs Q E hr h => ?_)
  · obtain ⟨x, kp, kd, R, L, kvs, side, rest, rfl, _⟩ := h
    rfl
  · obtain ⟨x, kp, kd, R, L, kvs, side, rest, rfl, PA, hs, hR, q⟩ := h
    obtain ⟨dx, ho⟩ := PA.ob
    have lr : (rest.map V.str).length = rest.length := List.length_map _
    have rr : Same H H := fun _ _ e => e
    refine ⟨_, (pss_cons (ps_if (pt_cmpR op_eq (pe_callB call_lenK (by rfl) T.z_len PySem.boot_len (pa_cons (pv 2) pa_nil)) pe_int (nomark _)) (pss_one (ps_ret pe_non)) pss_nil)
      (pss_cons (ps_asg (pv 2) (pg_star1 rfl (pg_name (i := 3) sc_throw_step.nd rfl (Or.inl rfl)) (pg_name (i := 4) sc_throw_step.nd rfl (Or.inl rfl))))
      (pss_mid (ps_try_cls (tb := fun W => (tAsg (tMethKW _ _ _ _ (WE W) _ _ _) (gName 5))) (l := [⟨.ref a.c_NoWord, none, fun ea cls dd => (tRet _)⟩]) (Wout := fun _ _ _ _ => False) rfl rfl takes0 (fun W pn xe tk po => (pss_one (ps_set (i := 5) sc_throw_step.nd rfl (Or.inl rfl) (pe_methKW (pv 0) T.cl_Pacts T.mt_Pacts_laden G_Pacts_laden (hr.mono (by decide)) T.kb_Pacts_laden_side (fun σ => passAt tk σ) (by exact (pa_cons (pv 3) pa_nil) ) (by exact (pk_cons (pv 1) pk_nil)))))) (ClsOk.plain ⟨rfl, by decide, Or.inl T.m_NoWord⟩ (fun ea oe cls dd pn hz hf => (pss_one (ps_ret pe_non))) ClsOk.nil))
      (pss_cons (ps_if (pt_not (pt_val (pv 5))) (pss_one (ps_ret (pe_ifExp (pt_cmpR op_eq (pe_callB call_lenK (by rfl) T.z_len PySem.boot_len (pa_cons (pv 4) pa_nil)) pe_int (nomark _)) (pe_tup (pa_cons pe_str (pa_cons (pv 3) (pa_cons pe_non pa_nil)))) pe_non))) pss_nil)
      (pss_cons (ps_if (pt_mid (PW.pt (pw_or (pt_cmpR op_ne (pe_callB call_lenK (by rfl) T.z_len PySem.boot_len (pa_cons (pv 4) pa_nil)) pe_int (nomark _)) (pw_or1 (pt_cmpR op_notIn_seq (pe_ix ix_list (pv 4) pe_int (fun _ _ => rfl)) (pe_glob (v := .ref a.k_POCKETS_rowtext) rfl T.g_POCKETS_rowtext rfl) (by rfl)))))) (pss_one (ps_ret pe_non)) pss_nil)
      (pss_one (ps_ret (pe_tup (pa_cons pe_str (pa_cons (pv 3) (pa_cons (pe_ix ix_list (pv 4) pe_int (fun _ _ => rfl)) pa_nil))))))))))), ?_⟩
    cases rest with
    | nil =>
      walk_at "go"
      exact q.1 rfl _ rr
    | cons w more =>
      have lm : (more.map V.str).length = more.length := List.length_map _
      walk_at "go"
      intro p1 hp1
      obtain ⟨H1, e1⟩ : ∃ H1, H1 = upd H p1 (.lst (more.map V.str)) := ⟨_, rfl⟩
      have s1 : Same H H1 := by rw [e1]; exact Same.upd_new hp1
      have h1 : H1 p1 = some (.lst (more.map V.str)) := by rw [e1, upd_same]
      rw [← e1]
      have PA1 := PA.same s1
      obtain ⟨dx1, ho1⟩ := PA1.ob
      refine mid_of (fun σ H2 => H2 = H1 ∧ ∃ b, σ = [some (.ref x), some (.int side), some (.ref R), some (.str w), some (.ref p1), some (.bl b)] ∧ ladenF (L.map (·.2)) side w = some b) ?_ ?_
      · refine ⟨_, rfl, x, dx1, _, rfl, ho1, rfl, _, rfl, _, rfl, x, kp, kd, L, kvs, w, side, rfl, PA1, hs, fun e he => ?_, fun hno d H2 hd0 hd1 s2 => ?_⟩
        · walk_at "go"
          exact wait ⟨rfl, e.2.laden, rfl, laden_first he⟩
        · have e0 : throwStep (L.map (·.2)) side (w :: more) = none := by
            show (match ladenF (L.map (·.2)) side w with | none => _ | some false => _ | some true => _) = none
            rw [laden_none hno]
          refine ⟨true, T.ex_NoWord_NoWord, fun _ ea hea => ?_, fun z => nomatch z⟩
          walk_at "go"
          exact q.1 e0 _ (s1.trans s2)
      · rintro σ H2 ⟨rfl, b, rfl, hb⟩
        walk_at "go"
        cases b with
        | false =>
          have e0 : throwStep (L.map (·.2)) side (w :: more) = if more = [] then some (.throw w none) else none := by
            show (match ladenF (L.map (·.2)) side w with | none => _ | some false => _ | some true => _) = _
            rw [hb]
          refine ifT rfl ?_
          walk_at "go"
          refine ifD (fun b => ?_) (fun b => ?_)
          · have em : more = [] := List.length_eq_zero_iff.mp (by have := V.int.inj b; omega)
            walk_at "go"
            intro p hp
            exact q.2 (.throw w none) (by rw [e0, if_pos em]) p _ (same_none' s1 hp) upd_same (s1.trans (Same.upd_new hp))
          · have em : more ≠ [] := fun z => b (by rw [z] <;> rfl)
            walk_at "go"
            exact q.1 (by rw [e0, if_neg em]) _ s1
        | true =>
          refine ifF rfl ?_
          by_cases h1r : more.length = 1
          · obtain ⟨p, rfl⟩ := len1 h1r
            have a0 : atI ([p].map V.str) 0 = some (.str p) := rfl
            have e0 : throwStep (L.map (·.2)) side [w, p] = if p ∈ pockets then some (.throw w (some p)) else none := by
              show (match ladenF (L.map (·.2)) side w with | none => _ | some false => _ | some true => _) = _
              rw [hb]
            walk_at "go"
            refine midT_of (fun c H3 => H3 = H2 ∧ c = !decide (p ∈ pockets)) ?_ ?_
            · walk_at "go"
              refine ⟨.inr (T.tp_POCKETS_rowtext _), rfl, rfl, ?_⟩
              rw [if_pos rfl, in_pk]
              exact ⟨_, rfl, wait ⟨rfl, rfl⟩⟩
            · rintro c H3 ⟨rfl, rfl⟩
              refine ifN (fun b => ?_) (fun b => ?_)
              · walk_at "go"
                exact q.1 (by rw [e0, if_neg b]) _ s1
              · walk_at "go"
                intro t2 ht2
                exact q.2 (.throw w (some p)) (by rw [e0, if_pos b]) t2 _ (same_none' s1 ht2) upd_same (s1.trans (Same.upd_new ht2))
          · walk_at "go"
            refine midT_of (fun c H3 => H3 = H2 ∧ c = true) ?_ ?_
            · walk_at "go"
              refine ifNY (fun z => h1r (by have := V.int.inj z; omega)) ?_
              exact wait ⟨rfl, rfl⟩
            · rintro c H3 ⟨rfl, rfl⟩
              refine ifT rfl ?_
              walk_at "go"
              refine q.1 ?_ _ s1
              show (match ladenF (L.map (·.2)) side w with | none => _ | some false => _ | some true => _) = _
              rw [hb]
              match more, h1r with
              | [], _ => rfl
              | [_], h => exact absurd rfl h
              | _ :: _ :: _, _ => rfl
theorem argsF_cons {h x y : Str} {hs r : List Str} : argsF (h :: hs) (x :: y :: r) = if x = wordOf h ∧ y ∈ holdOf h then (argsF hs r).map fun g => ((x, y) :: g.1, g.2) else none := rfl
theorem argsF_short {h : Str} {hs r : List Str} (hr : r.length < 2) : argsF (h :: hs) r = none := by
  match r, hr with
  | [], _ => rfl
  | [_], _ => rfl
theorem two_up {r : List Str} (h : ¬ r.length < 2) : ∃ x y z, r = x :: y :: z := by
  match r, h with
  | [], h => exact absurd (by decide) h
  | [_], h => exact absurd (by show 1 < 2; decide) h
  | x :: y :: z, _ => exact ⟨x, y, z, rfl⟩
theorem cutV_strs2 (ws : List Str) : cutV (ws.map V.str) (some 2) none = (ws.drop 2).map V.str := by
  rw [show (2 : Int) = ((2 : Nat) : Int) from rfl, cutV_from, List.map_drop]
def spArgs (K : PySem.W.Frag) : Sp := fun vs H Q _ => ∃ (tk R : Addr) (takes rest : List Str), vs = [.ref tk, .ref R] ∧ SqT K H tk (takes.map V.str) ∧ takes.length ≤ 1000 ∧ H R = some (.lst (rest.map V.str)) ∧ rest.length ≤ 90000 ∧
  (argsF takes rest = none → ∀ H', Same H H' → Q .non H') ∧
  ∀ g, argsF takes rest = some g → ∀ t tg R' H', H t = none → H' t = some (.tup [.ref tg, .ref R']) → GivenAt K H' tg g.1 → H' R' = some (.lst (g.2.map V.str)) → Same H H' → Q (.ref t) H'
theorem ok_arguments (T : Txt w K mg a) : FnOk P w K mg base CX0 1 a.f_arguments a.d_arguments ["takes", "rest"] (spArgs K) := by
  refine T.F_arguments.ok sc_arguments (fun vs H Q E h => ?_) (fun cdv A outer s H vs Q E hr h => ?_)
  · obtain ⟨tk, R, takes, rest, rfl, _⟩ := h
    rfl
  · obtain ⟨tk, R, takes, rest, rfl, htk, ltk, hR, lR, q1, q2⟩ := h
    refine ⟨_, (pss_cons (ps_set (i := 2) sc_arguments.nd rfl (Or.inl rfl) (pe_lst pa_nil))
      (pss_cons (ps_stop (ps_for PassesOwn.never rfl (pi_wait (pi_tup (pv 0))) (pg_name (i := 3) sc_arguments.nd rfl (Or.inl rfl)) (pss_mid (ps_asg (pe_ifExp (pt_cmpR op_eq (pv 3) pe_str (nomark _)) (pe_tup (pa_cons (pe_globS rfl T.g_LEND) (pa_cons (pe_glob (v := .ref a.k_HOLDERS) rfl T.g_HOLDERS rfl) pa_nil))) (pe_tup (pa_cons (pe_globS rfl T.g_GIVE) (pa_cons (pe_glob (v := .ref a.k_POCKETS_rowtext) rfl T.g_POCKETS_rowtext rfl) pa_nil)))) (pg_tup rfl (pgs_cons (pg_name (i := 4) sc_arguments.nd rfl (Or.inl rfl)) (pgs_cons (pg_name (i := 5) sc_arguments.nd rfl (Or.inl rfl)) pgs_nil))))
      (pss_cons (ps_if (pt_mid (PW.pt (pw_or (pt_cmpR op_lt (pe_callB call_lenK (by rfl) T.z_len PySem.boot_len (pa_cons (pv 1) pa_nil)) pe_int (nomark _)) (pw_or (pt_cmpR op_ne (pe_ix ix_list (pv 1) pe_int (fun _ _ => rfl)) (pv 4) (nomark _)) (pw_or1 (pt_cmpR op_notIn_seq (pe_ix ix_list (pv 1) pe_int (fun _ _ => rfl)) (pv 5) (by rfl))))))) (pss_one (ps_ret pe_non)) pss_nil)
      (pss_cons (ps_expr (pe_bm PySem.F.plainAttrs_list PySem.F.slot_list_append PySem.F.type_list_append mt_append (pv 2) (pa_cons (pe_tup (pa_cons (pv 4) (pa_cons (pe_ix ix_list (pv 1) pe_int (fun _ _ => rfl)) pa_nil))) pa_nil)))
      (pss_one (ps_set (i := 1) sc_arguments.nd rfl (Or.inl rfl) (pe_slice sl_list (pv 1) (po_some pe_int) po_none))))))))
      (pss_one (ps_ret (pe_tup (pa_cons (pe_callTy call_tuple_of (by rfl) T.z_tuple (by decide +kernel) (pa_cons (pv 2) pa_nil)) (pa_cons (pv 1) pa_nil))))))), ?_⟩
    walk_at "go"
    intro D hD
    have htk1 := (Same.upd_new (o := .lst []) hD).seqT htk
    refine sq_seq (stop_in ?_)
    walk_at "go"
    refine wait ?_
    refine forT (K := K) (a := tk) (xs := takes.map V.str) (fun i σ H' => ∃ (u3 u4 u5 : Option V) (R' : Addr) (r : List Str) (ts : List Addr) (g : List (Str × Str)), σ = [some (.ref tk), some (.ref R'), some (.ref D), u3, u4, u5] ∧ H' D = some (.lst (ts.map V.ref)) ∧ ts.length = i ∧ Paired (fun (t : Addr) (p : Str × Str) => H' t = some (.tup [.str p.1, .str p.2])) ts g ∧
      H' R' = some (.lst (r.map V.str)) ∧ r.length ≤ 90000 ∧ argsF takes rest = (argsF (takes.drop i) r).map (fun z => (g ++ z.1, z.2)) ∧ Same H H' ∧ R' ≠ D) ?_ ?_ ?_ ?_
    · exact ⟨_, _, _, R, rest, [], [], rfl, upd_same, rfl, .nil, upd_get (ne_of_none hR hD) hR, lR, by rw [List.drop_zero]; cases argsF takes rest <;> rfl, Same.upd_new hD, ne_of_none hR hD⟩
    · rintro i σ H' _ ⟨_, _, _, _, _, _, _, _, _, _, _, _, _, _, s', _⟩
      exact s'.seqT htk
    · rintro i v σ H1 hi ⟨u3, u4, u5, R', r, ts, g, rfl, hD1, hl1, pg1, hR1, lr1, eA, s1, nRD⟩
      rw [List.getElem?_map] at hi
      obtain ⟨h, hh, rfl⟩ := Option.map_eq_some_iff.mp hi
      have hlt := (List.getElem?_eq_some_iff.mp hh).1
      have hdrop : takes.drop i = h :: takes.drop (i + 1) := by
        rw [List.drop_eq_getElem_cons hlt, (List.getElem?_eq_some_iff.mp hh).2]
      rw [hdrop] at eA
      have lr : (r.map V.str).length = r.length := List.length_map _
      refine mid_of (fun σ H2 => ∃ kh, σ = [some (.ref tk), some (.ref R'), some (.ref D), some (.str h), some (.str (wordOf h)), some (.ref kh)] ∧ (∀ H, SqT K H kh ((holdOf h).map V.str)) ∧ Same H1 H2) ?_ ?_
      · walk_at "go"
        refine ifD (fun b => ?_) (fun b => ?_)
        · have b1 : h = "lent" := V.str.inj b
          walk_at "go"
          intro p hp
          have hT : SqT K (upd H1 p (.tup [.str "lend", .ref a.k_HOLDERS])) p [.str "lend", .ref a.k_HOLDERS] := SqT.of upd_same
          walk_at "go"
          refine wait ⟨a.k_HOLDERS, ?_, fun H => ?_, Same.upd_new hp⟩
          · unfold wordOf; rw [if_pos b1]; rfl
          · unfold holdOf; rw [if_pos b1]; exact T.tp_HOLDERS H
        · have b1 : ¬ h = "lent" := fun z => b (congrArg V.str z)
          walk_at "go"
          intro p hp
          have hT : SqT K (upd H1 p (.tup [.str "give", .ref a.k_POCKETS_rowtext])) p [.str "give", .ref a.k_POCKETS_rowtext] := SqT.of upd_same
          walk_at "go"
          refine wait ⟨a.k_POCKETS_rowtext, ?_, fun H => ?_, Same.upd_new hp⟩
          · unfold wordOf; rw [if_neg b1]; rfl
          · unfold holdOf; rw [if_neg b1]; exact T.tp_POCKETS_rowtext H
      · rintro σ H2 ⟨kh, rfl, hkh, s2⟩
        have hD2 := s2 _ _ hD1
        have hR2 := s2 _ _ hR1
        have s12 := s1.trans s2
        by_cases h2r : r.length < 2
        · have e0 : argsF takes rest = none := by rw [eA, argsF_short h2r] <;> rfl
          walk_at "go"
          refine midT_of (fun c H3 => H3 = H2 ∧ c = true) ?_ ?_
          · walk_at "go"
            refine ifYes (by omega) ?_
            exact wait ⟨rfl, rfl⟩
          · rintro c H3 ⟨rfl, rfl⟩
            refine ifT rfl ?_
            walk_at "go"
            exact q1 e0 _ s12
        · obtain ⟨x, y, z, rfl⟩ := two_up h2r
          have a0 : atI ((x :: y :: z).map V.str) 0 = some (.str x) := atI_nat (j := 0) rfl
          have a1 : atI ((x :: y :: z).map V.str) 1 = some (.str y) := atI_nat (j := 1) rfl
          rw [argsF_cons] at eA
          walk_at "go"
          refine midT_of (fun c H3 => H3 = H2 ∧ (c = false ↔ x = wordOf h ∧ y ∈ holdOf h)) ?_ ?_
          · walk_at "go"
            refine ifN (fun b => ?_) (fun b => ?_)
            · exact wait ⟨rfl, (fun z => nomatch z), fun z => absurd (congrArg V.str z.1) b⟩
            · have b1 := V.str.inj b
              walk_at "go"
              refine ⟨.inr (hkh _), rfl, flat_strs1 _, ?_⟩
              rw [if_pos rfl, in_strs]
              refine ⟨_, rfl, wait ⟨rfl, fun z => ⟨b1, ?_⟩, fun z => ?_⟩⟩
              · have z1 : decide (y ∈ holdOf h) = true := by simpa using z
                exact of_decide_eq_true z1
              · rw [decide_eq_true z.2] <;> rfl
          · rintro c H3 ⟨rfl, hc⟩
            refine ifB (fun ec => ?_) (fun ec => ?_)
            · walk_at "go"
              refine q1 ?_ _ s12
              rw [eA, if_neg (fun z => by rw [hc.mpr z] at ec; cases ec)] <;> rfl
            · rw [if_pos (hc.mp ec)] at eA
              walk_at "go"
              intro t ht
              have s3 : Same H3 (upd H3 t (.tup [.str (wordOf h), .str y])) := Same.upd_new ht
              have nDt : D ≠ t := ne_of_none hD2 ht
              have hD4 := s3 _ _ hD2
              have hR4 : upd (upd H3 t (.tup [.str (wordOf h), .str y])) D (.lst (ts.map V.ref ++ [V.ref t])) R' = some (.lst ((x :: y :: z).map V.str)) := upd_get nRD (s3 _ _ hR2)
              have lt5 : (ts.map V.ref).length < sizeLine := small_lt (by rw [List.length_map]; omega)
              walk_at "go"
              intro p5 hp5
              rw [cutV_strs2]
              have s5 : Same H (upd (upd H3 t (.tup [.str (wordOf h), .str y])) D (.lst (ts.map V.ref ++ [V.ref t]))) := fun b o e => upd_get (ne_of_none e hD) (s3 _ _ (s12 _ _ e))
              have s6 := Same.upd_new (o := .lst (((x :: y :: z).drop 2).map V.str)) hp5
              have nD5 : D ≠ p5 := fun z => by rw [← z, upd_same] at hp5; cases hp5
              refine wait ⟨_, _, _, p5, z, ts ++ [t], g ++ [(x, y)], rfl, ?_, by rw [List.length_append, hl1] <;> rfl, ?_, upd_same, by rw [List.length_cons, List.length_cons] at lr1; omega, ?_, s5.trans s6, Ne.symm nD5⟩
              · rw [upd_ne nD5, upd_same, List.map_append] <;> rfl
              · have tk6 : TK H1 (upd (upd (upd H3 t (.tup [.str (wordOf h), .str y])) D (.lst (ts.map V.ref ++ [V.ref t]))) p5 (.lst (((x :: y :: z).drop 2).map V.str))) := ((TK.same (s2.trans s3)).trans (TK.lst hD4)).trans (TK.same s6)
                refine Paired.snoc (Paired.mapP pg1 fun _ _ e => (tk6 _).1 _ e) ?_
                have ex : x = wordOf h := (hc.mp ec).1
                have := ((TK.lst (o := .lst (ts.map V.ref ++ [V.ref t])) hD4).trans (TK.same s6) t).1 _ upd_same
                rw [ex]
                exact this
              · rw [eA]
                cases argsF (takes.drop (i + 1)) z with
                | none => rfl
                | some g2 => show some ((g ++ (x, y) :: g2.1), g2.2) = some ((g ++ [(x, y)] ++ g2.1), g2.2); rw [List.append_assoc] <;> rfl
    · rintro σ H1 ⟨u3, u4, u5, R', r, ts, g, rfl, hD1, hl1, pg1, hR1, lr1, eA, s1, nRD⟩
      rw [List.length_map] at hl1 eA
      rw [List.drop_length] at eA
      have eA : argsF takes rest = some (g, r) := by rw [eA]; show some (g ++ [], r) = _; rw [List.append_nil]
      walk_at "go"
      refine .inl ⟨SqL.of hD1, fun tg htg => ?_⟩
      have s2 : Same H1 (upd H1 tg (.tup (ts.map V.ref))) := Same.upd_new htg
      walk_at "go"
      intro t ht
      have s3 := Same.upd_new (o := .tup [.ref tg, .ref R']) ht
      refine q2 (g, r) eA t tg R' _ (same_none' (s1.trans s2) ht) upd_same ⟨ts, SqT.of (s3 _ _ upd_same), Paired.mapP pg1 fun _ _ e => s3 _ _ (s2 _ _ e)⟩ (s3 _ _ (s2 _ _ hR1)) ((s1.trans s2).trans s3)
theorem catchF_short {ps : List Pr} {side many : Int} {known r : List Str} (h : r.length < 3) : catchF ps side many known r = none := by
  match r, h with
  | [], _ => rfl
  | [_], _ => rfl
  | [_, _], _ => rfl
theorem three_up {r : List Str} (h : ¬ r.length < 3) : ∃ x y z u, r = x :: y :: z :: u := by
  match r, h with
  | [], h => exact absurd (by decide) h
  | [_], h => exact absurd (by show 1 < 3; decide) h
  | [_, _], h => exact absurd (by show 2 < 3; decide) h
  | x :: y :: z :: u, _ => exact ⟨x, y, z, u, rfl⟩
theorem catchF_eq {ps : List Pr} {side many : Int} {known : List Str} {o w x : Str} {r : List Str} : catchF ps side many known (o :: w :: x :: r) = if o = "on" ∧ w ∈ known then (match ladenF ps side w with
      | some true => (match r with | g :: r2 => if x ∈ pockets then (rowNum g many).map fun n => ((w, some x, n), r2) else none | [] => none)
      | _ => (rowNum x many).map fun n => ((w, none, n), r)) else none := rfl
theorem catchF_less {ps : List Pr} {side many : Int} {known r : List Str} {c : (Str × Option Str × Int) × List Str} (h : catchF ps side many known r = some c) : c.2.length < r.length ∧ c.1.1 ∈ known ∧ ∀ w ∈ c.2, w ∈ r := by
  by_cases h3 : r.length < 3
  · rw [catchF_short h3] at h; cases h
  · obtain ⟨o, w, x, u, rfl⟩ := three_up h3
    rw [catchF_eq] at h
    split at h
    · rename_i hw
      split at h
      · split at h
        · split at h
          · obtain ⟨n, hn, rfl⟩ := Option.map_eq_some_iff.mp h
            exact ⟨by simp only [List.length_cons]; omega, hw.2, fun v hv => List.mem_cons_of_mem _ (List.mem_cons_of_mem _ (List.mem_cons_of_mem _ (List.mem_cons_of_mem _ hv)))⟩
          · cases h
        · cases h
      · obtain ⟨n, hn, rfl⟩ := Option.map_eq_some_iff.mp h
        exact ⟨by simp only [List.length_cons]; omega, hw.2, fun v hv => List.mem_cons_of_mem _ (List.mem_cons_of_mem _ (List.mem_cons_of_mem _ hv))⟩
    · cases h
def spCatch (K : PySem.W.Frag) (C : Addr) : Sp := fun vs H Q _ => ∃ (x kp kd Kn R : Addr) (L : List (Addr × Pr)) (kvs : List (Key × V)) (side many : Int) (known rest : List Str), vs = [.ref x, .int side, .ref Kn, .ref R, .int many] ∧ PactsAt C H x kp kd L kvs ∧ (side = 0 ∨ side = 1) ∧
  H Kn = some (.lst (known.map V.str)) ∧ H R = some (.lst (rest.map V.str)) ∧ Short rest ∧ rest.length ≤ 90000 ∧ (∀ w ∈ known, ∃ e ∈ L, e.2.word side = w) ∧
  (catchF (L.map (·.2)) side many known rest = none → ∀ H', Same H H' → Q .non H') ∧
  ∀ c, catchF (L.map (·.2)) side many known rest = some c → ∀ t tc R' H', H t = none → H R' = none → H' t = some (.tup [.ref tc, .ref R']) → H' tc = some (.tup [.str c.1.1, optV c.1.2.1, .int c.1.2.2]) → H' R' = some (.lst (c.2.map V.str)) → Same H H' → Q (.ref t) H'
theorem ok_one_catch (T : Txt w K mg a) : FnOk P w K mg base CX0 5 a.f_one_catch a.d_one_catch ["pacts", "side", "known", "rest", "many"] (spCatch K a.c_Pacts) := by
  have G_Pacts_laden := ok_Pacts_laden (P := P) (w := w) (base := base) T
  have G_row_number := ok_row_number (P := P) (w := w) (base := base) T
  have cl_Pacts := T.cl_Pacts
  refine T.F_one_catch.ok sc_one_catch (fun vs H Q E h => ?_) (fun cdv A outer s H vs Q E hr h => ?_)
  · obtain ⟨x, kp, kd, Kn, R, L, kvs, side, many, known, rest, rfl, _⟩ := h
    rfl
  · obtain ⟨x, kp, kd, Kn, R, L, kvs, side, many, known, rest, rfl, PA, hs, hK, hR, sh, lR, hkn, q1, q2⟩ := h
    obtain ⟨dx, ho⟩ := PA.ob
    have rr : Same H H := fun _ _ e => e
    have lr : (rest.map V.str).length = rest.length := List.length_map _
    refine ⟨_, (pss_cons (ps_if (pt_mid (PW.pt (pw_or (pt_cmpR op_lt (pe_callB call_lenK (by rfl) T.z_len PySem.boot_len (pa_cons (pv 3) pa_nil)) pe_int (nomark _)) (pw_or (pt_cmpR op_ne (pe_ix ix_list (pv 3) pe_int (fun _ _ => rfl)) pe_str (nomark _)) (pw_or1 (pt_cmpR op_notIn_seq (pe_ix ix_list (pv 3) pe_int (fun _ _ => rfl)) (pv 2) (by rfl))))))) (pss_one (ps_ret pe_non)) pss_nil)
      (pss_cons (ps_set (i := 5) sc_one_catch.nd rfl (Or.inl rfl) pe_non)
      (pss_cons (ps_set (i := 6) sc_one_catch.nd rfl (Or.inl rfl) pe_int)
      (pss_mid (ps_if (pt_val (pe_methK (pv 0) T.cl_Pacts T.mt_Pacts_laden G_Pacts_laden (hr.mono (by decide)) T.kb_Pacts_laden_side passL (pa_cons (pe_ix ix_list (pv 3) pe_int (fun _ _ => rfl)) pa_nil) (pk_cons (pv 1) pk_nil))) (pss_cons (ps_set (i := 5) sc_one_catch.nd rfl (Or.inl rfl) (pe_ix ix_list (pv 3) pe_int (fun _ _ => rfl)))
      (pss_one (ps_set (i := 6) sc_one_catch.nd rfl (Or.inl rfl) pe_int))) pss_nil)
      (pss_cons (ps_if (pt_mid (PW.pt (pw_or (pt_cmpR op_ge (pv 6) (pe_callB call_lenK (by rfl) T.z_len PySem.boot_len (pa_cons (pv 3) pa_nil)) (nomark _)) (pw_or1 (PW.pt (pw_and (pt_cmpR op_notN (pv 5) pe_non (nomark _)) (pw_and1 (pt_cmpR op_notIn_seq (pv 5) (pe_glob (v := .ref a.k_POCKETS_rowtext) rfl T.g_POCKETS_rowtext rfl) (by rfl))))))))) (pss_one (ps_ret pe_non)) pss_nil)
      (pss_cons (ps_set (i := 7) sc_one_catch.nd rfl (Or.inl rfl) (pe_call G_row_number (hr.mono (by decide)) rfl T.m_row_number T.F_row_number.kp T.b_row_number .nil pass0 (pa_cons (pe_ix ix_list (pv 3) (pv 6) (fun _ _ => rfl)) (pa_cons (pv 4) pa_nil))))
      (pss_cons (ps_if (pt_cmpR op_isN (pv 7) pe_non (nomark _)) (pss_one (ps_ret pe_non)) pss_nil)
      (pss_one (ps_ret (pe_tup (pa_cons (pe_tup (pa_cons (pe_ix ix_list (pv 3) pe_int (fun _ _ => rfl)) (pa_cons (pv 5) (pa_cons (pv 7) pa_nil)))) (pa_cons (pe_slice sl_list (pv 3) (po_some (pe_op op_add (pv 6) pe_int)) po_none) pa_nil)))))))))))), ?_⟩
    by_cases h3 : rest.length < 3
    · refine midT_of (fun c H3 => H3 = H ∧ c = true) ?_ ?_
      · walk_at "go"
        refine ifYes (by omega) ?_
        exact wait ⟨rfl, rfl⟩
      · rintro c H3 ⟨rfl, rfl⟩
        refine ifT rfl ?_
        walk_at "go"
        exact q1 (catchF_short h3) _ rr
    · obtain ⟨o, w, y, u, rfl⟩ := three_up h3
      have a0 : atI ((o :: w :: y :: u).map V.str) 0 = some (.str o) := atI_nat (j := 0) rfl
      have a1 : atI ((o :: w :: y :: u).map V.str) 1 = some (.str w) := atI_nat (j := 1) rfl
      have a2 : atI ((o :: w :: y :: u).map V.str) 2 = some (.str y) := atI_nat (j := 2) rfl
      have ec := catchF_eq (ps := L.map (·.2)) (side := side) (many := many) (known := known) (o := o) (w := w) (x := y) (r := u)
      refine midT_of (fun c H3 => H3 = H ∧ (c = false ↔ o = "on" ∧ w ∈ known)) ?_ ?_
      · walk_at "go"
        refine ifN (fun b => ?_) (fun b => ?_)
        · exact wait ⟨rfl, (fun z => nomatch z), fun z => absurd (congrArg V.str z.1) b⟩
        · have b1 := V.str.inj b
          walk_at "go"
          refine ⟨flat_strs1 _, ?_⟩
          rw [if_pos rfl, in_strs]
          refine ⟨_, rfl, wait ⟨rfl, fun z => ⟨b1, ?_⟩, fun z => ?_⟩⟩
          · have z1 : decide (w ∈ known) = true := by simpa using z
            exact of_decide_eq_true z1
          · rw [decide_eq_true z.2] <;> rfl
      · rintro c H3 ⟨rfl, hc⟩
        refine ifB (fun ec2 => ?_) (fun ec2 => ?_)
        · walk_at "go"
          refine q1 ?_ _ rr
          rw [ec, if_neg (fun z => by rw [hc.mpr z] at ec2; cases ec2)]
        · have hw := hc.mp ec2
          rw [if_pos hw] at ec
          walk_at "go"
          refine mid_of (fun σ H4 => H4 = H3 ∧ ((σ = [some (.ref x), some (.int side), some (.ref Kn), some (.ref R), some (.int many), some (.str y), some (.int 3), none] ∧ ladenF (L.map (·.2)) side w = some true) ∨
              (σ = [some (.ref x), some (.int side), some (.ref Kn), some (.ref R), some (.int many), some .non, some (.int 2), none] ∧ ladenF (L.map (·.2)) side w = some false))) ?_ ?_
          · walk_at "go"
            refine ⟨fun e he => ?_, fun hno => ?_⟩
            · have hl := laden_first he
              cases hb : e.2.laden with
              | true =>
                rw [hb] at hl
                refine ⟨_, rfl, ifT rfl ?_⟩
                walk_at "go"
                exact wait ⟨rfl, .inl ⟨rfl, hl⟩⟩
              | false =>
                rw [hb] at hl
                refine ⟨_, rfl, ifF rfl ?_⟩
                exact wait ⟨rfl, .inr ⟨rfl, hl⟩⟩
            · obtain ⟨e, he, hew⟩ := hkn w hw.2
              exact absurd hew (hno e he)
          · rintro σ H4 ⟨rfl, ⟨rfl, hl⟩ | ⟨rfl, hl⟩⟩
            · rw [hl] at ec
              cases u with
              | nil =>
                walk_at "go"
                refine midT_of (fun c H3 => H3 = H4 ∧ c = true) ?_ ?_
                · walk_at "go"
                  exact wait ⟨rfl, rfl⟩
                · rintro c H3 ⟨rfl, rfl⟩
                  refine ifT rfl ?_
                  walk_at "go"
                  exact q1 ec _ rr
              | cons g r2 =>
                have a3 : atI ((o :: w :: y :: g :: r2).map V.str) 3 = some (.str g) := atI_nat (j := 3) rfl
                have hg : g.length ≤ 100000 := sh g (by simp)
                have ec : catchF (L.map (·.2)) side many known (o :: w :: y :: g :: r2) = if y ∈ pockets then (rowNum g many).map (fun n => ((w, some y, n), r2)) else none := ec
                walk_at "go"
                refine midT_of (fun c H3 => H3 = H4 ∧ c = !decide (y ∈ pockets)) ?_ ?_
                · walk_at "go"
                  refine ⟨.inr (T.tp_POCKETS_rowtext _), rfl, rfl, ?_⟩
                  rw [if_pos rfl, in_pk]
                  exact ⟨_, rfl, wait ⟨rfl, rfl⟩⟩
                · rintro c H3 ⟨rfl, rfl⟩
                  refine ifN (fun b => ?_) (fun b => ?_)
                  · walk_at "go"
                    exact q1 (by rw [ec, if_neg b]) _ rr
                  · rw [if_pos b] at ec
                    walk_at "go"
                    intro H5 s5
                    cases en : rowNum g many with
                    | none =>
                      rw [en] at ec
                      walk_at "go"
                      exact q1 ec _ s5
                    | some n =>
                      rw [en] at ec
                      have hR5 := s5 _ _ hR
                      walk_at "go"
                      intro tc htc
                      have s6 : Same H5 (upd H5 tc (.tup [.str w, .str y, numV (some n)])) := Same.upd_new htc
                      obtain ⟨H6, e6⟩ : ∃ H6, H6 = upd H5 tc (.tup [.str w, .str y, numV (some n)]) := ⟨_, rfl⟩
                      rw [← e6] at s6 ⊢
                      have hc6 : H6 tc = some (.tup [.str w, .str y, numV (some n)]) := by rw [e6, upd_same]
                      have hR6 := s6 _ _ hR5
                      walk_at "go"
                      intro p7 hp7
                      rw [show cutV ((o :: w :: y :: g :: r2).map V.str) (some (3 + 1)) none = (r2).map V.str from cutV_from ((o :: w :: y :: g :: r2).map V.str) (3 + 1)]
                      have s7 := Same.upd_new (o := .lst ((r2).map V.str)) hp7
                      walk_at "go"
                      intro t8 ht8
                      have s8 := Same.upd_new (o := .tup [.ref tc, .ref p7]) ht8
                      exact q2 _ ec t8 tc p7 _ (same_none' ((s5.trans s6).trans s7) ht8) (same_none' (s5.trans s6) hp7) upd_same (s8 _ _ (s7 _ _ hc6)) (s8 _ _ upd_same) (((s5.trans s6).trans s7).trans s8)
            · rw [hl] at ec
              have hy : y.length ≤ 100000 := sh y (by simp)
              have ec : catchF (L.map (·.2)) side many known (o :: w :: y :: u) = (rowNum y many).map (fun n => ((w, none, n), u)) := ec
              walk_at "go"
              refine midT_of (fun c H3 => H3 = H4 ∧ c = false) ?_ ?_
              · walk_at "go"
                exact wait ⟨rfl, rfl⟩
              · rintro c H3 ⟨rfl, rfl⟩
                refine ifF rfl ?_
                walk_at "go"
                intro H5 s5
                cases en : rowNum y many with
                | none =>
                  rw [en] at ec
                  walk_at "go"
                  exact q1 ec _ s5
                | some n =>
                  rw [en] at ec
                  have hR5 := s5 _ _ hR
                  walk_at "go"
                  intro tc htc
                  have s6 : Same H5 (upd H5 tc (.tup [.str w, .non, numV (some n)])) := Same.upd_new htc
                  obtain ⟨H6, e6⟩ : ∃ H6, H6 = upd H5 tc (.tup [.str w, .non, numV (some n)]) := ⟨_, rfl⟩
                  rw [← e6] at s6 ⊢
                  have hc6 : H6 tc = some (.tup [.str w, .non, numV (some n)]) := by rw [e6, upd_same]
                  have hR6 := s6 _ _ hR5
                  walk_at "go"
                  intro p7 hp7
                  rw [show cutV ((o :: w :: y :: u).map V.str) (some (2 + 1)) none = (u).map V.str from cutV_from ((o :: w :: y :: u).map V.str) (2 + 1)]
                  have s7 := Same.upd_new (o := .lst ((u).map V.str)) hp7
                  walk_at "go"
                  intro t8 ht8
                  have s8 := Same.upd_new (o := .tup [.ref tc, .ref p7]) ht8
                  exact q2 _ ec t8 tc p7 _ (same_none' ((s5.trans s6).trans s7) ht8) (same_none' (s5.trans s6) hp7) upd_same (s8 _ _ (s7 _ _ hc6)) (s8 _ _ upd_same) (((s5.trans s6).trans s7).trans s8)
theorem catchesF_more {ps : List Pr} {side many : Int} : ∀ {k j : Nat} {known r : List Str}, r.length ≤ k → r.length ≤ j → catchesF ps side many k known r = catchesF ps side many j known r
  | _, _, _, [], _, _ => by rw [catchesF, catchesF]
  | 0, _, _, _ :: _, h, _ => by simp at h
  | _, 0, _, _ :: _, _, h => by simp at h
  | k + 1, j + 1, known, x :: r, h1, h2 => by
    rw [catchesF, catchesF]
    · cases e : catchF ps side many known (x :: r) with
      | none => rfl
      | some c =>
        have := (catchF_less e).1
        show Option.map _ (catchesF ps side many k (known.erase c.1.1) c.2) = Option.map _ (catchesF ps side many j (known.erase c.1.1) c.2)
        rw [catchesF_more (k := k) (j := j) (by omega) (by omega)]
    · exact fun z => nomatch z
    · exact fun z => nomatch z
theorem catchesF_step {ps : List Pr} {side many : Int} {known r : List Str} (h : r ≠ []) : catchesF ps side many r.length known r = (catchF ps side many known r).bind fun c => (catchesF ps side many c.2.length (known.erase c.1.1) c.2).map (c.1 :: ·) := by
  cases r with
  | nil => exact absurd rfl h
  | cons x r =>
    show catchesF ps side many (r.length + 1) known (x :: r) = _
    rw [catchesF]
    · cases e : catchF ps side many known (x :: r) with
      | none => rfl
      | some c =>
        have := (catchF_less e).1
        rw [List.length_cons] at this
        show Option.map _ (catchesF ps side many r.length (known.erase c.1.1) c.2) = Option.map _ (catchesF ps side many c.2.length (known.erase c.1.1) c.2)
        rw [catchesF_more (k := r.length) (j := c.2.length) (by omega) (by omega)]
    · exact fun z => nomatch z
def spCatches (K : PySem.W.Frag) (C : Addr) : Sp := fun vs H Q _ => ∃ (x kp kd Kn R : Addr) (L : List (Addr × Pr)) (kvs : List (Key × V)) (side many : Int) (known rest : List Str), vs = [.ref x, .int side, .ref Kn, .ref R, .int many] ∧ PactsAt C H x kp kd L kvs ∧ (side = 0 ∨ side = 1) ∧
  H Kn = some (.lst (known.map V.str)) ∧ H R = some (.lst (rest.map V.str)) ∧ Short rest ∧ rest.length ≤ 90000 ∧ known.length ≤ 1000 ∧ (∀ w ∈ known, ∃ e ∈ L, e.2.word side = w) ∧
  (catchesF (L.map (·.2)) side many rest.length known rest = none → ∀ H', Same H H' → Q .non H') ∧
  ∀ cs, catchesF (L.map (·.2)) side many rest.length known rest = some cs → ∀ t H', H t = none → CatchAt K H' t cs → Same H H' → Q (.ref t) H'
theorem ok_catches_of (T : Txt w K mg a) : FnOk P w K mg base CX0 6 a.f_catches_of a.d_catches_of ["pacts", "side", "known", "rest", "many"] (spCatches K a.c_Pacts) := by
  have G_one_catch := ok_one_catch (P := P) (w := w) (base := base) T
  refine T.F_catches_of.ok sc_catches_of (fun vs H Q E h => ?_) (fun cdv A outer s H vs Q E hr h => ?_)
  · obtain ⟨x, kp, kd, Kn, R, L, kvs, side, many, known, rest, rfl, _⟩ := h
    rfl
  · obtain ⟨x, kp, kd, Kn, R, L, kvs, side, many, known, rest, rfl, PA, hs, hK, hR, sh, lR, lK, hkn, q1, q2⟩ := h
    have lkn : (known.map V.str).length = known.length := List.length_map _
    refine ⟨_, (pss_cons (ps_set (i := 5) sc_catches_of.nd rfl (Or.inl rfl) (pe_lst pa_nil))
      (pss_cons (ps_set (i := 6) sc_catches_of.nd rfl (Or.inl rfl) (pe_callTy call_list_of (by rfl) T.z_list (by decide +kernel) (pa_cons (pv 2) pa_nil)))
      (pss_cons (ps_stop (ps_while PassesOwn.never (pt_cmpR op_gt (pe_callB call_lenK (by rfl) T.z_len PySem.boot_len (pa_cons (pv 3) pa_nil)) pe_int (nomark _)) (pss_cons (ps_set (i := 7) sc_catches_of.nd rfl (Or.inl rfl) (pe_callK G_one_catch (hr.mono (by decide)) rfl T.m_one_catch T.F_one_catch.kp T.kb_one_catch_many pass0 (pa_cons (pv 0) (pa_cons (pv 1) (pa_cons (pv 6) (pa_cons (pv 3) pa_nil)))) (pk_cons (pv 4) pk_nil)))
      (pss_cons (ps_if (pt_cmpR op_isN (pv 7) pe_non (nomark _)) (pss_one (ps_ret pe_non)) pss_nil)
      (pss_cons (ps_asg (pv 7) (pg_tup rfl (pgs_cons (pg_name (i := 8) sc_catches_of.nd rfl (Or.inl rfl)) (pgs_cons (pg_name (i := 3) sc_catches_of.nd rfl (Or.inl rfl)) pgs_nil))))
      (pss_cons (ps_expr (pe_bm PySem.F.plainAttrs_list PySem.F.slot_list_remove PySem.F.type_list_remove mt_removeS (pv 6) (pa_cons (pe_ix ix_tup (pv 8) pe_int (fun _ _ => rfl)) pa_nil)))
      (pss_one (ps_expr (pe_bm PySem.F.plainAttrs_list PySem.F.slot_list_append PySem.F.type_list_append mt_append (pv 5) (pa_cons (pv 8) pa_nil))))))))))
      (pss_one (ps_ret (pe_callTy call_tuple_of (by rfl) T.z_tuple (by decide +kernel) (pa_cons (pv 5) pa_nil))))))), ?_⟩
    walk_at "go"
    intro D hD
    have s1 := Same.upd_new (o := .lst []) hD
    have hK1 := s1 _ _ hK
    walk_at "go"
    intro Lf hLf
    have s2 := Same.upd_new (o := .lst (known.map V.str)) hLf
    have nDL : D ≠ Lf := fun z => by rw [← z, upd_same] at hLf; cases hLf
    have hLf0 : H Lf = none := same_none' s1 hLf
    refine while_W (fun m σ H' => ∃ (u7 u8 : Option V) (R' : Addr) (r left : List Str) (ts : List Addr) (cs : List (Str × Option Str × Int)), σ = [some (.ref x), some (.int side), some (.ref Kn), some (.ref R'), some (.int many), some (.ref D), some (.ref Lf), u7, u8] ∧ m = r.length ∧ H' D = some (.lst (ts.map V.ref)) ∧ ts.length + r.length ≤ rest.length ∧ Paired (fun (t : Addr) (p : Str × Option Str × Int) => H' t = some (.tup [.str p.1, optV p.2.1, .int p.2.2])) ts cs ∧
      H' Lf = some (.lst (left.map V.str)) ∧ (∀ w ∈ left, w ∈ known) ∧ H' R' = some (.lst (r.map V.str)) ∧ R' ≠ D ∧ R' ≠ Lf ∧ (∀ w ∈ r, w ∈ rest) ∧ catchesF (L.map (·.2)) side many rest.length known rest = (catchesF (L.map (·.2)) side many r.length left r).map (cs ++ ·) ∧ Same H H') rest.length ?_ ?_
    · exact ⟨_, _, R, rest, known, [], [], rfl, rfl, upd_get nDL upd_same, by rw [List.length_nil]; omega, .nil, upd_same, (fun _ h => h), s2 _ _ (s1 _ _ hR), ne_of_none hR hD, ne_of_none hR hLf0, (fun _ h => h), by cases catchesF (L.map (·.2)) side many rest.length known rest <;> rfl, s1.trans s2⟩
    · rintro m σ H1 ⟨u7, u8, R', r, left, ts, cs, rfl, rfl, hD1, lt1, pg1, hL1, hl1, hR1, nRD, nRL, hr1, eC, s3⟩
      have lr : (r.map V.str).length = r.length := List.length_map _
      walk_at "go"
      refine ifD (fun b => ?_) (fun b => ?_)
      · have hne : r ≠ [] := fun z => by rw [z] at b; exact absurd b (by decide)
        rw [catchesF_step hne] at eC
        have PA1 := PA.same s3
        have sh1 : Short r := fun w hw => sh w (hr1 w hw)
        have kn1 : ∀ w ∈ left, ∃ e ∈ L, e.2.word side = w := fun w hw => hkn w (hl1 w hw)
        refine next_W ?_
        walk_at "go"
        refine ⟨fun e0 H2 s4 => ?_, fun c ec t tc R2 H2 ht hR2n ht2 htc2 hR22 s4 => ?_⟩
        · rw [e0] at eC
          walk_at "go"
          exact q1 eC _ (s3.trans s4)
        · have cl := catchF_less ec
          rw [ec] at eC
          have hL2 := s4 _ _ hL1
          have hD2 := s4 _ _ hD1
          have a0 : atI [V.str c.1.1, optV c.1.2.1, .int c.1.2.2] 0 = some (.str c.1.1) := rfl
          have cm := cl.2.1
          have hD3 : upd H2 Lf (.lst ((left.erase c.1.1).map V.str)) D = some (.lst (ts.map V.ref)) := upd_get nDL hD2
          have hlt : (ts.map V.ref).length < sizeLine := small_lt (by rw [List.length_map]; omega)
          walk_at "go"
          have nR2D : R2 ≠ D := (ne_of_none hD1 hR2n).symm
          have nR2L : R2 ≠ Lf := (ne_of_none hL1 hR2n).symm
          have tk4 : TK H2 (upd (upd H2 Lf (.lst ((left.erase c.1.1).map V.str))) D (.lst (ts.map V.ref ++ [V.ref tc]))) := (TK.lst hL2).trans (TK.lst hD3)
          refine wait ⟨c.2.length, cl.1, _, _, R2, c.2, left.erase c.1.1, ts ++ [tc], cs ++ [c.1], rfl, rfl, ?_, by rw [List.length_append]; show _ + 1 + _ ≤ _; omega, ?_, ?_, fun w hw => hl1 w (List.mem_of_mem_erase hw), ?_, nR2D, nR2L, fun w hw => hr1 w (cl.2.2 w hw), ?_, ?_⟩
          · rw [upd_same, List.map_append] <;> rfl
          · exact Paired.snoc (Paired.mapP pg1 fun _ _ e => (tk4 _).1 _ (s4 _ _ e)) ((tk4 _).1 _ htc2)
          · rw [upd_ne (Ne.symm nDL), upd_same]
          · rw [upd_ne nR2D, upd_ne nR2L, hR22]
          · rw [eC]
            show Option.map _ (Option.map _ (catchesF (L.map (·.2)) side many c.2.length (left.erase c.1.1) c.2)) = _
            cases catchesF (L.map (·.2)) side many c.2.length (left.erase c.1.1) c.2 with
            | none => rfl
            | some z => show some (cs ++ c.1 :: z) = some (cs ++ [c.1] ++ z); rw [List.append_assoc] <;> rfl
          · exact fun b o e => upd_get (ne_of_none e hD) (upd_get (ne_of_none e hLf0) (s4 _ _ (s3 _ _ e)))
      · have e0 : r = [] := List.length_eq_zero_iff.mp (by omega)
        rw [e0, catchesF] at eC
        have eC : catchesF (L.map (·.2)) side many rest.length known rest = some cs := by rw [eC]; show some (cs ++ []) = _; rw [List.append_nil]
        walk_at "go"
        refine .inl ⟨SqL.of hD1, fun t ht => ?_⟩
        have s4 := Same.upd_new (o := .tup (ts.map V.ref)) ht
        exact q2 cs eC t _ (same_none' s3 ht) ⟨ts, SqT.of upd_same, Paired.mapP pg1 fun _ _ e => s4 _ _ e⟩ (s3.trans s4)
theorem find_name {M : List (Addr × Hl)} {e : Addr × Hl} (nd : (M.map fun e => e.2.name).Nodup) (he : e ∈ M) : (M.map (·.2)).find? (fun h => decide (h.name = e.2.name)) = some e.2 := by
  cases hf : (M.map (·.2)).find? (fun h => decide (h.name = e.2.name)) with
  | none =>
    have := List.find?_eq_none.mp hf e.2 (List.mem_map.mpr ⟨e, he, rfl⟩)
    simp at this
  | some h =>
    have h1 : h.name = e.2.name := by simpa using List.find?_some hf
    obtain ⟨d, hd, rfl⟩ := List.mem_map.mp (List.mem_of_find?_eq_some hf)
    rw [name_one nd hd he h1]
theorem find_noname {M : List (Addr × Hl)} {n : Str} (h : ∀ e ∈ M, e.2.name ≠ n) : (M.map (·.2)).find? (fun h => decide (h.name = n)) = none := by
  rw [List.find?_eq_none]
  intro x hx
  obtain ⟨e, he, rfl⟩ := List.mem_map.mp hx
  simpa using h e he
theorem toF_no {r : List Str} (h : r.length < 2) : toF true r = none := by
  match r, h with
  | [], _ => rfl
  | [_], _ => rfl
theorem crossed_in {ps : List Pr} {h : Hl} {s : Int} {w : Str} (hw : w ∈ crossed ps h s) : ∃ p ∈ ps, p.word s = w := by
  unfold crossed at hw
  obtain ⟨v, _, hv⟩ := List.mem_flatMap.mp hw
  obtain ⟨p, hp, rfl⟩ := List.mem_map.mp hv
  exact ⟨p, (List.mem_filter.mp hp).1, rfl⟩
theorem crossed_len {ps : List Pr} {h : Hl} {s : Int} (hp : ps.length ≤ 10) (hh : h.throws.length ≤ 10) : (crossed ps h s).length ≤ 100 := by
  unfold crossed
  rw [List.length_flatMap]
  have : ∀ l : List Str, (l.map fun w => ((ps.filter fun p => decide (p.word h.side = w)).map (·.word s)).length).sum ≤ l.length * 10 := fun l => by
    induction l with
    | nil => exact Nat.zero_le _
    | cons w r ih =>
      rw [List.map_cons, List.sum_cons, List.length_cons, Nat.succ_mul, List.length_map]
      have := List.length_filter_le (fun p => decide (p.word h.side = w)) ps
      omega
  have := this h.throws
  omega
structure DealOk (K : PySem.W.Frag) (C : Addr) (H : Hp) (x kp kd : Addr) (L : List (Addr × Pr)) (M : List (Addr × Hl)) : Prop where
  ph : PactsH K C H x kp kd L M
  g : Good (L.map (·.2))
  gh : GoodH (L.map (·.2)) (M.map (·.2))
theorem DealOk.same {K : PySem.W.Frag} {C : Addr} {H H' : Hp} {x kp kd : Addr} {L : List (Addr × Pr)} {M : List (Addr × Hl)} (h : DealOk K C H x kp kd L M) (k : Same H H') : DealOk K C H' x kp kd L M := ⟨h.ph.same k, h.g, h.gh⟩
theorem argsF_less : ∀ {hs r : List Str} {g : List (Str × Str) × List Str}, argsF hs r = some g → g.2.length ≤ r.length ∧ ∀ w ∈ g.2, w ∈ r
  | [], r, g, h => by
    rw [argsF] at h
    cases h
    exact ⟨Nat.le_refl _, fun _ h => h⟩
  | h0 :: hs, r, g, h => by
    by_cases h2 : r.length < 2
    · rw [argsF_short h2] at h; cases h
    · obtain ⟨x, y, z, rfl⟩ := two_up h2
      rw [argsF_cons] at h
      split at h
      · obtain ⟨g2, e2, rfl⟩ := Option.map_eq_some_iff.mp h
        have := argsF_less e2
        exact ⟨by simp only [List.length_cons]; omega, fun w hw => List.mem_cons_of_mem _ (List.mem_cons_of_mem _ (this.2 w hw))⟩
      · cases h
def spCall (K : PySem.W.Frag) (C : Addr) : Sp := fun vs H Q _ => ∃ (x kp kd W : Addr) (L : List (Addr × Pr)) (M : List (Addr × Hl)) (side many : Int) (words : List Str), vs = [.ref x, .int side, .ref W, .int many] ∧ DealOk K C H x kp kd L M ∧ (side = 0 ∨ side = 1) ∧
  H W = some (.lst (words.map V.str)) ∧ Short words ∧ words.length ≤ 90000 ∧ Gives K H Q (callStep (L.map (·.2)) (M.map (·.2)) side many words)
theorem ok_call_step (T : Txt w K mg a) : FnOk P w K mg base CX0 7 a.f_call_step a.d_call_step ["pacts", "side", "words", "many"] (spCall K a.c_Pacts) := by
  have G_arguments := ok_arguments (P := P) (w := w) (base := base) T
  have G_catches_of := ok_catches_of (P := P) (w := w) (base := base) T
  have G_Pacts_pact := ok_Pacts_pact (P := P) (w := w) (base := base) T
  have G_Pacts_errors := ok_Pacts_errors (P := P) (w := w) (base := base) T
  have cl_Pacts := T.cl_Pacts
  refine T.F_call_step.ok sc_call_step (fun vs H Q E h => ?_) (fun cdv A outer s H vs Q E hr h => ?_)
  · obtain ⟨x, kp, kd, W, L, M, side, many, words, rfl, _⟩ := h
    rfl
  · obtain ⟨x, kp, kd, W, L, M, side, many, words, rfl, DO, hs, hW, sh, lW, q⟩ := h
    have PH := DO.ph
    have G := DO.g
    have GH := DO.gh
    have nd := GH.nd2
    have PA := PH.pa
    obtain ⟨dx, ho⟩ := PA.ob
    have rr : Same H H := fun _ _ e => e
    have lr : (words.map V.str).length = words.length := List.length_map _
    refine ⟨_, (pss_cons (ps_if (pt_cmpR op_lt (pe_callB call_lenK (by rfl) T.z_len PySem.boot_len (pa_cons (pv 2) pa_nil)) pe_int (nomark _)) (pss_one (ps_ret pe_non)) pss_nil)
      (pss_mid (ps_try_cls (tb := fun W => (tAsg (tMethW _ _ _ (WE W) _ (tCons (tOp (rIxL K) _ _) tNil)) (gName 4))) (l := [⟨.ref a.c_NoHelper, none, fun ea cls dd => (tRet _)⟩]) (Wout := fun _ _ _ _ => False) rfl rfl takes0 (fun W pn xe tk po => (pss_one (ps_set (i := 4) sc_call_step.nd rfl (Or.inl rfl) (pe_methW (pv 0) T.cl_Pacts T.mt_Pacts_pact G_Pacts_pact (hr.mono (by decide)) T.b_Pacts_pact (fun σ => passAt tk σ) (by exact (pa_cons (pe_ix ix_list (pv 2) pe_int (fun _ _ => rfl)) pa_nil)))))) (ClsOk.plain ⟨rfl, by decide, Or.inl T.m_NoHelper⟩ (fun ea oe cls dd pn hz hf => (pss_one (ps_ret pe_non))) ClsOk.nil))
      (pss_cons (ps_set (i := 5) sc_call_step.nd rfl (Or.inl rfl) (pe_call G_arguments (hr.mono (by decide)) rfl T.m_arguments T.F_arguments.kp T.b_arguments .nil pass0 (pa_cons (pe_ix ix_tup (pv 4) pe_int (fun _ _ => rfl)) (pa_cons (pe_slice sl_list (pv 2) (po_some pe_int) po_none) pa_nil))))
      (pss_cons (ps_if (pt_cmpR op_isN (pv 5) pe_non (nomark _)) (pss_one (ps_ret pe_non)) pss_nil)
      (pss_cons (ps_asg (pv 5) (pg_tup rfl (pgs_cons (pg_name (i := 6) sc_call_step.nd rfl (Or.inl rfl)) (pgs_cons (pg_name (i := 7) sc_call_step.nd rfl (Or.inl rfl)) pgs_nil))))
      (pss_cons (ps_set (i := 8) sc_call_step.nd rfl (Or.inl rfl) pe_non)
      (pss_mid (ps_if (pt_val (pe_ix ix_tup (pv 4) pe_int (fun _ _ => rfl))) (pss_cons (ps_if (pt_mid (PW.pt (pw_or (pt_cmpR op_lt (pe_callB call_lenK (by rfl) T.z_len PySem.boot_len (pa_cons (pv 7) pa_nil)) pe_int (nomark _)) (pw_or (pt_cmpR op_ne (pe_ix ix_list (pv 7) pe_int (fun _ _ => rfl)) pe_str (nomark _)) (pw_or1 (pt_cmpR op_notIn_seq (pe_ix ix_list (pv 7) pe_int (fun _ _ => rfl)) (pe_glob (v := .ref a.k_POCKETS_rowtext) rfl T.g_POCKETS_rowtext rfl) (by rfl))))))) (pss_one (ps_ret pe_non)) pss_nil)
      (pss_cons (ps_set (i := 8) sc_call_step.nd rfl (Or.inl rfl) (pe_ix ix_list (pv 7) pe_int (fun _ _ => rfl)))
      (pss_one (ps_set (i := 7) sc_call_step.nd rfl (Or.inl rfl) (pe_slice sl_list (pv 7) (po_some pe_int) po_none))))) pss_nil)
      (pss_cons (ps_set (i := 9) sc_call_step.nd rfl (Or.inl rfl) (pe_callK G_catches_of (hr.mono (by decide)) rfl T.m_catches_of T.F_catches_of.kp T.kb_catches_of_many pass0 (pa_cons (pv 0) (pa_cons (pv 1) (pa_cons (pe_methK (pv 0) T.cl_Pacts T.mt_Pacts_errors G_Pacts_errors (hr.mono (by decide)) T.kb_Pacts_errors_side passL (pa_cons (pe_ix ix_list (pv 2) pe_int (fun _ _ => rfl)) pa_nil) (pk_cons (pv 1) pk_nil)) (pa_cons (pv 7) pa_nil)))) (pk_cons (pv 3) pk_nil)))
      (pss_cons (ps_if (pt_cmpR op_isN (pv 9) pe_non (nomark _)) (pss_one (ps_ret pe_non)) pss_nil)
      (pss_one (ps_ret (pe_tup (pa_cons pe_str (pa_cons (pe_ix ix_list (pv 2) pe_int (fun _ _ => rfl)) (pa_cons (pv 6) (pa_cons (pv 8) (pa_cons (pv 9) pa_nil))))))))))))))))), ?_⟩
    by_cases h2 : words.length < 2
    · walk_at "go"
      refine ifYes (by omega) ?_
      walk_at "go"
      refine q.1 ?_ _ rr
      match words, h2 with
      | [], _ => rfl
      | [_], _ => rfl
    · obtain ⟨c0, n, rest, rfl⟩ := two_up h2
      have a1 : atI ((c0 :: n :: rest).map V.str) 1 = some (.str n) := atI_nat (j := 1) rfl
      have ecs : callStep (L.map (·.2)) (M.map (·.2)) side many (c0 :: n :: rest) = ((M.map (·.2)).find? fun h => decide (h.name = n)).bind fun h => (argsF h.takes rest).bind fun g => (toF h.gives g.2).bind fun t => (catchesF (L.map (·.2)) side many t.2.length (crossed (L.map (·.2)) h side) t.2).map fun cs => .call n g.1 t.1 cs := rfl
      walk_at "go"
      refine mid_of (fun σ H2 => H2 = H ∧ ∃ e ∈ M, e.2.name = n ∧ σ = [some (.ref x), some (.int side), some (.ref W), some (.int many), some (.ref e.1), none, none, none, none, none]) ?_ ?_
      · walk_at "go"
        refine ⟨fun e he hen => ?_, fun hno d H2 hd0 hd1 s2 => ?_⟩
        · walk_at "go"
          exact wait ⟨rfl, e, he, hen, rfl⟩
        · refine ⟨true, T.ex_NoHelper_NoHelper, fun _ ea hea => ?_, fun z => nomatch z⟩
          walk_at "go"
          exact q.1 (by rw [ecs, find_noname hno] <;> rfl) _ s2
      · rintro σ H2 ⟨rfl, e, he, hen, rfl⟩
        obtain ⟨tk, th, ht, htk, hth⟩ := PH.at_ e he
        have ht : H2 e.1 = some (.tup [.str e.2.name, .int e.2.side, .ref tk, .bl e.2.gives, .ref th]) := ht
        have b2 : atI [V.str e.2.name, .int e.2.side, .ref tk, .bl e.2.gives, .ref th] 2 = some (.ref tk) := rfl
        have b3 : atI [V.str e.2.name, .int e.2.side, .ref tk, .bl e.2.gives, .ref th] 3 = some (.bl e.2.gives) := rfl
        have O := GH.ok e.2 (List.mem_map.mpr ⟨e, he, rfl⟩)
        rw [← hen, find_name nd he, hen] at ecs
        have ecs : callStep (L.map (·.2)) (M.map (·.2)) side many (c0 :: n :: rest) = (argsF e.2.takes rest).bind fun g => (toF e.2.gives g.2).bind fun t => (catchesF (L.map (·.2)) side many t.2.length (crossed (L.map (·.2)) e.2 side) t.2).map fun cs => .call n g.1 t.1 cs := ecs
        have l3 := O.tl
        walk_at "go"
        intro p3 hp3
        rw [cutV_strs2]
        obtain ⟨H4, e4⟩ : ∃ H4, H4 = upd H2 p3 (.lst (((c0 :: n :: rest).drop 2).map V.str)) := ⟨_, rfl⟩
        have s4 : Same H2 H4 := by rw [e4]; exact Same.upd_new hp3
        have h4 : H4 p3 = some (.lst (rest.map V.str)) := by rw [e4, upd_same] <;> rfl
        rw [← e4]
        have htk4 := s4.seqT htk
        have lrest : rest.length ≤ 90000 := by rw [List.length_cons, List.length_cons] at lW; omega
        refine ⟨tk, p3, e.2.takes, rest, rfl, htk4, by omega, h4, lrest, fun e0 H5 s5 => ?_, fun g eg t tg R' H5 ht5 hT5 hG5 hR5 s5 => ?_⟩
        · walk_at "go"
          exact q.1 (by rw [ecs, e0] <;> rfl) _ (s4.trans s5)
        · have s45 := s4.trans s5
          rw [eg] at ecs
          have ecs : callStep (L.map (·.2)) (M.map (·.2)) side many (c0 :: n :: rest) = (toF e.2.gives g.2).bind fun t => (catchesF (L.map (·.2)) side many t.2.length (crossed (L.map (·.2)) e.2 side) t.2).map fun cs => .call n g.1 t.1 cs := ecs
          have he5 := s45 _ _ ht
          have gl := argsF_less eg
          walk_at "go"
          refine mid_of (fun σ H6 => Same H5 H6 ∧ ∃ (to : Option Str) (Rf : Addr) (r2 : List Str), toF e.2.gives g.2 = some (to, r2) ∧ r2.length ≤ 90000 ∧ Short r2 ∧ H6 Rf = some (.lst (r2.map V.str)) ∧ σ = [some (.ref x), some (.int side), some (.ref W), some (.int many), some (.ref e.1), some (.ref t), some (.ref tg), some (.ref Rf), some (optV to), none]) ?_ ?_
          · walk_at "go"
            cases hg : e.2.gives with
            | false =>
              refine ifF rfl ?_
              exact wait ⟨fun _ _ e => e, none, R', g.2, rfl, by omega, fun w hw => sh w (List.mem_cons_of_mem _ (List.mem_cons_of_mem _ (gl.2 w hw))), hR5, rfl⟩
            | true =>
              rw [hg] at ecs
              refine ifT rfl ?_
              have lg : (g.2.map V.str).length = g.2.length := List.length_map _
              by_cases h2g : g.2.length < 2
              · rw [toF_no h2g] at ecs
                walk_at "go"
                refine midT_of (fun c H3 => H3 = H5 ∧ c = true) ?_ ?_
                · walk_at "go"
                  refine ifYes (by omega) ?_
                  exact wait ⟨rfl, rfl⟩
                · rintro c H3 ⟨rfl, rfl⟩
                  refine ifT rfl ?_
                  walk_at "go"
                  exact q.1 ecs _ s45
              · obtain ⟨t0, p0, r0, eg2⟩ := two_up h2g
                rw [eg2] at hR5 ecs
                have c0' : atI ((t0 :: p0 :: r0).map V.str) 0 = some (.str t0) := atI_nat (j := 0) rfl
                have c1' : atI ((t0 :: p0 :: r0).map V.str) 1 = some (.str p0) := atI_nat (j := 1) rfl
                have et : toF true (t0 :: p0 :: r0) = if t0 = "to" ∧ p0 ∈ pockets then some (some p0, r0) else none := rfl
                rw [et] at ecs
                walk_at "go"
                refine midT_of (fun c H3 => H3 = H5 ∧ (c = false ↔ t0 = "to" ∧ p0 ∈ pockets)) ?_ ?_
                · walk_at "go"
                  refine ifN (fun b => ?_) (fun b => ?_)
                  · exact wait ⟨rfl, (fun z => nomatch z), fun z => absurd (congrArg V.str z.1) b⟩
                  · have b1 := V.str.inj b
                    walk_at "go"
                    refine ⟨.inr (T.tp_POCKETS_rowtext _), rfl, rfl, ?_⟩
                    rw [if_pos rfl, in_pk]
                    refine ⟨_, rfl, wait ⟨rfl, fun z => ⟨b1, ?_⟩, fun z => ?_⟩⟩
                    · have z1 : decide (p0 ∈ pockets) = true := by simpa using z
                      exact of_decide_eq_true z1
                    · rw [decide_eq_true z.2] <;> rfl
                · rintro c H3 ⟨rfl, hc⟩
                  refine ifB (fun ec2 => ?_) (fun ec2 => ?_)
                  · walk_at "go"
                    rw [if_neg (fun z => by rw [hc.mpr z] at ec2; cases ec2)] at ecs
                    exact q.1 ecs _ s45
                  · walk_at "go"
                    intro p7 hp7
                    rw [cutV_strs2]
                    refine wait ⟨Same.upd_new hp7, some p0, p7, r0, ?_, ?_, fun w hw => sh w (List.mem_cons_of_mem _ (List.mem_cons_of_mem _ (gl.2 w (by rw [eg2]; exact List.mem_cons_of_mem _ (List.mem_cons_of_mem _ hw))))), upd_same, rfl⟩
                    · rw [eg2, et, if_pos (hc.mp ec2)]
                    · have := gl.1
                      rw [eg2, List.length_cons, List.length_cons] at this
                      omega
          · rintro σ H6 ⟨s6, to, Rf, r2, eto, lr2, sh2, hRf, rfl⟩
            rw [eto] at ecs
            have ecs : callStep (L.map (·.2)) (M.map (·.2)) side many (c0 :: n :: rest) = (catchesF (L.map (·.2)) side many r2.length (crossed (L.map (·.2)) e.2 side) r2).map fun cs => .call n g.1 to cs := ecs
            have s46 := s45.trans s6
            have PH6 := PH.same s46
            have PA6 := PH6.pa
            obtain ⟨dx6, ho6⟩ := PA6.ob
            have hW6 := s46 _ _ hW
            have G6 := hG5.tk (TK.same s6)
            refine ⟨_, rfl, _, rfl, _, rfl, x, dx6, _, rfl, ho6, rfl, ?_⟩
            walk_at "go"
            refine ⟨fun e1 he1 hn1 D H7 hD7 hD77 s7 => ?_, fun hno => absurd hen (hno e he)⟩
            have ee : e1 = e := name_one nd he1 he (hn1.trans hen.symm)
            subst ee
            have PA7 := PA6.same s7
            have hRf7 := s7 _ _ hRf
            have s47 := s46.trans s7
            have G7 := G6.tk (TK.same s7)
            have lL := G.len
            rw [List.length_map] at lL
            have lC : (crossed (L.map (·.2)) e1.2 side).length ≤ 1000 := Nat.le_trans (crossed_len (by rw [List.length_map]; omega) (by have := O.hl; omega)) (by decide)
            have kn : ∀ w ∈ crossed (L.map (·.2)) e1.2 side, ∃ e ∈ L, e.2.word side = w := fun w hw => by
              obtain ⟨p, hp, hpw⟩ := crossed_in hw
              obtain ⟨d, hd, rfl⟩ := List.mem_map.mp hp
              exact ⟨d, hd, hpw⟩
            walk_at "go"
            refine ⟨fun e0 H8 s8 => ?_, fun cs ecs2 t8 H8 ht8 hC8 s8 => ?_⟩
            · walk_at "go"
              exact q.1 (by rw [ecs, e0] <;> rfl) _ (s47.trans s8)
            · have hW8 := (s46.trans (s7.trans s8)) _ _ hW
              have G8 := G7.tk (TK.same s8)
              walk_at "go"
              intro t9 ht9
              have s9 := Same.upd_new (o := .tup [.str "call", .str n, .ref tg, optV to, .ref t8]) ht9
              exact q.2 (.call n g.1 to cs) (by rw [ecs, ecs2] <;> rfl) t9 _ (same_none' (s47.trans s8) ht9) ⟨tg, t8, upd_same, G8.tk (TK.same s9), hC8.tk (TK.same s9)⟩ ((s47.trans s8).trans s9)
def oneHeld (f : Addr) (sp : Sp) : Addr → Option Sp := fun g => if g = f then some sp else none
theorem held_one {P : Program} {w : World} {K : PySem.W.Frag} {mg : Str → Option Value} {base : Heap} {k : Nat} {f : Addr} {sp : Sp} (h : Held P w K mg base k f sp) : ∀ g sp', oneHeld f sp g = some sp' → Held P w K mg base k g sp' := fun g sp' e => by
  unfold oneHeld at e
  split at e
  · rename_i z
    cases e
    rw [z]
    exact h
  · cases e
abbrev plainL (a : Ad) : List (Str × Addr) := [("make", a.f_pocket_step), ("use", a.f_use_step), ("free", a.f_pocket_step), ("clear", a.f_pocket_step), ("forget", a.f_pocket_step), ("move", a.f_move_step), ("put", a.f_pocket_step), ("take", a.f_pocket_step)]
theorem plain_no {a : Ad} {w : Str} (h1 : w ∉ plainW) (h2 : w ≠ "use") (h3 : w ≠ "move") : (plainL a).lookup w = none := by
  unfold plainW at h1
  simp only [List.mem_cons, List.not_mem_nil, or_false, not_or] at h1
  unfold plainL
  simp only [List.lookup_cons, List.lookup_nil]
  rw [beq_eq_false_iff_ne.mpr h1.1, beq_eq_false_iff_ne.mpr h2, beq_eq_false_iff_ne.mpr h1.2.1, beq_eq_false_iff_ne.mpr h1.2.2.1, beq_eq_false_iff_ne.mpr h1.2.2.2.1, beq_eq_false_iff_ne.mpr h3, beq_eq_false_iff_ne.mpr h1.2.2.2.2.1, beq_eq_false_iff_ne.mpr h1.2.2.2.2.2]
theorem plain_yes {a : Ad} {w : Str} (h1 : w ∈ plainW) : (plainL a).lookup w = some a.f_pocket_step := by
  unfold plainW at h1
  simp only [List.mem_cons, List.not_mem_nil, or_false] at h1
  rcases h1 with rfl | rfl | rfl | rfl | rfl | rfl <;> rfl
theorem plain_mem {w : Str} (h : w = "use" ∨ w = "move" ∨ w = "pick" ∨ w = "go" ∨ w = "throw" ∨ w = "done" ∨ w = "call") : w ∉ plainW := by
  have : ∀ w ∈ (["use", "move", "pick", "go", "throw", "done", "call"] : List Str), w ∉ plainW := by decide +kernel
  refine this w ?_
  rcases h with rfl | rfl | rfl | rfl | rfl | rfl | rfl <;> simp
def spStep (K : PySem.W.Frag) (C : Addr) : Sp := fun vs H Q _ => ∃ (x kp kd W : Addr) (L : List (Addr × Pr)) (M : List (Addr × Hl)) (e : Addr × Hl) (at_ many : Int) (w : Str) (r : List Str), vs = [.ref x, .str e.2.name, .ref W, .int at_, .int many] ∧ DealOk K C H x kp kd L M ∧ e ∈ M ∧
  H W = some (.lst ((w :: r).map V.str)) ∧ Short (w :: r) ∧ (w :: r).length ≤ 90000 ∧ Gives K H Q (stepF (L.map (·.2)) (M.map (·.2)) e.2.side e.2.gives at_ many (w :: r))
theorem ok_step_of (T : Txt w K mg a) : FnOk P w K mg base CX0 8 a.f_step_of a.d_step_of ["pacts", "name", "words", "at", "many"] (spStep K a.c_Pacts) := by
  have G_Pacts_pact := ok_Pacts_pact (P := P) (w := w) (base := base) T
  have G_jump_step := ok_jump_step (P := P) (w := w) (base := base) T
  have G_throw_step := ok_throw_step (P := P) (w := w) (base := base) T
  have G_done_step := ok_done_step (P := P) (w := w) (base := base) T
  have G_call_step := ok_call_step (P := P) (w := w) (base := base) T
  have cl_Pacts := T.cl_Pacts
  refine T.F_step_of.ok sc_step_of (fun vs H Q E h => ?_) (fun cdv A outer s H vs Q E hr h => ?_)
  · obtain ⟨x, kp, kd, W, L, M, e, at_, many, w, r, rfl, _⟩ := h
    rfl
  · obtain ⟨x, kp, kd, W, L, M, e, at_, many, v, r, rfl, DO, he, hW, sh, lW, q⟩ := h
    have PH := DO.ph
    have nd := DO.gh.nd2
    have PA := PH.pa
    obtain ⟨dx, ho⟩ := PA.ob
    have hsd := (DO.gh.ok e.2 (List.mem_map.mpr ⟨e, he, rfl⟩)).sd
    have Gp := ok_pocket_step (P := P) (w := w) (base := base) T
    have Gu := ok_use_step (P := P) (w := w) (base := base) T
    have Gm := ok_move_step (P := P) (w := w) (base := base) T
    have es : stepF (L.map (·.2)) (M.map (·.2)) e.2.side e.2.gives at_ many (v :: r) = if v ∈ plainW then oneStep pockets (v :: r) else if v = "use" then oneStep holders (v :: r) else if v = "move" then twoStep (v :: r)
      else if v = "pick" ∨ v = "go" then jumpStep at_ many (v :: r) else if v = "throw" then throwStep (L.map (·.2)) e.2.side r else if v = "done" then doneStep e.2.gives r else if v = "call" then callStep (L.map (·.2)) (M.map (·.2)) e.2.side many (v :: r) else none := rfl
    rw [es] at q
    -- how the plain ones go
    have key : ∀ (f : Addr) (sp : Sp), Held P w K mg base 1 f sp → (∀ (h : (plainL a).lookup v = some f) H1, Same H H1 → sp [.ref W] H1 Q E0) → ((plainL a).lookup v = none ∨ (plainL a).lookup v = some f) → ((plainL a).lookup v = none → v ∉ plainW ∧ v ≠ "use" ∧ v ≠ "move") →
        ∃ t, PSs (cxOf CX0 P w K mg base n_step_of (Str.ofString "step_of") (defScope s_step_of) a.f_step_of cdv A outer s H E).nox (defBody s_step_of) t ∧ t { nx := fun _ H' => Q .non H', rt := Q } (start n_step_of [.ref x, .str e.2.name, .ref W, .int at_, .int many]) H := by
      intro f sp HH hsp hor hno
      have HA := held_one HH
      refine ⟨_, (pss_cons (ps_set (i := 5) sc_step_of.nd rfl (Or.inl rfl) (pe_meth (pv 0) T.cl_Pacts T.mt_Pacts_pact G_Pacts_pact (hr.mono (by decide)) T.b_Pacts_pact .nil passL (pa_cons (pv 1) pa_nil)))
      (pss_cons (ps_asg (pv 2) (pg_star1 rfl (pg_name (i := 6) sc_step_of.nd rfl (Or.inl rfl)) (pg_name (i := 7) sc_step_of.nd rfl (Or.inl rfl))))
      (pss_cons (ps_if (pt_cmpR op_inDK (pv 6) (pe_glob (v := .ref a.k_PLAIN) rfl T.g_PLAIN rfl) (by rfl)) (pss_cons (ps_set (i := 8) sc_step_of.nd rfl (Or.inl rfl) (pe_ix ix_dk (pe_glob (v := .ref a.k_PLAIN) rfl T.g_PLAIN rfl) (pv 6) (fun _ _ => rfl)))
      (pss_one (ps_ret (pe_callA (i := 8) HA (hr.mono (by decide)) rfl (Or.inl rfl) (pa_cons (pv 2) pa_nil))))) pss_nil)
      (pss_cons (ps_if (pt_cmpR op_in_seq (pv 6) (pe_tup (pa_cons pe_str (pa_cons pe_str pa_nil))) (by rfl)) (pss_one (ps_ret (pe_call G_jump_step (hr.mono (by decide)) rfl T.m_jump_step T.F_jump_step.kp T.b_jump_step .nil pass0 (pa_cons (pv 2) (pa_cons (pv 3) (pa_cons (pv 4) pa_nil)))))) pss_nil)
      (pss_cons (ps_if (pt_cmpR op_eq (pv 6) pe_str (nomark _)) (pss_one (ps_ret (pe_call G_throw_step (hr.mono (by decide)) rfl T.m_throw_step T.F_throw_step.kp T.b_throw_step .nil pass0 (pa_cons (pv 0) (pa_cons (pe_ix ix_tup (pv 5) pe_int (fun _ _ => rfl)) (pa_cons (pv 7) pa_nil)))))) pss_nil)
      (pss_cons (ps_if (pt_cmpR op_eq (pv 6) pe_str (nomark _)) (pss_one (ps_ret (pe_call G_done_step (hr.mono (by decide)) rfl T.m_done_step T.F_done_step.kp T.b_done_step .nil pass0 (pa_cons (pv 5) (pa_cons (pv 7) pa_nil))))) pss_nil)
      (pss_cons (ps_if (pt_cmpR op_eq (pv 6) pe_str (nomark _)) (pss_one (ps_ret (pe_callK G_call_step (hr.mono (by decide)) rfl T.m_call_step T.F_call_step.kp T.kb_call_step_many pass0 (pa_cons (pv 0) (pa_cons (pe_ix ix_tup (pv 5) pe_int (fun _ _ => rfl)) (pa_cons (pv 2) pa_nil))) (pk_cons (pv 4) pk_nil)))) pss_nil)
      (pss_one (ps_ret pe_non))))))))), ?_⟩
      obtain ⟨tk, th, ht, htk, hth⟩ := PH.at_ e he
      have ht : H e.1 = some (.tup [.str e.2.name, .int e.2.side, .ref tk, .bl e.2.gives, .ref th]) := ht
      have b1 : atI [V.str e.2.name, .int e.2.side, .ref tk, .bl e.2.gives, .ref th] 1 = some (.int e.2.side) := rfl
      walk_at "go"
      refine ⟨fun d1 hd1 hn1 => ?_, fun hn => absurd rfl (hn e he)⟩
      have ee : d1 = e := name_one nd hd1 he hn1
      subst ee
      walk_at "go"
      intro p1 hp1
      obtain ⟨H1, e1⟩ : ∃ H1, H1 = upd H p1 (.lst (r.map V.str)) := ⟨_, rfl⟩
      have s1 : Same H H1 := by rw [e1]; exact Same.upd_new hp1
      have h1 : H1 p1 = some (.lst (r.map V.str)) := by rw [e1, upd_same]
      rw [← e1]
      have DO1 := DO.same s1
      have PH1 := PH.same s1
      have hW1 := s1 _ _ hW
      have ht1 := s1 _ _ ht
      have HL1 : HlAt K H1 (d1.1, d1.2) := ⟨tk, th, ht1, s1.seqT htk, s1.seqT hth⟩
      have PA1 := PH1.pa
      have G2 : ∀ o, Gives K H Q o → Gives K H1 Q o := fun o z => ⟨fun e H' s' => z.1 e H' (s1.trans s'), fun st e t H' ht hs s' => z.2 st e t H' (same_none' s1 ht) hs (s1.trans s')⟩
      have shr : Short r := fun w hw => sh w (List.mem_cons_of_mem _ hw)
      walk_at "go"
      refine ⟨(show DictK K w a.k_PLAIN (plainL a) from T.dk_PLAIN), ?_⟩
      rcases hor with hl | hl
      · obtain ⟨n1, n2, n3⟩ := hno hl
        rw [if_neg n1, if_neg n2, if_neg n3] at q
        rw [hl]
        refine ⟨_, rfl, ifF rfl ?_⟩
        walk_at "go"
        intro p2 hp2
        have s2 := Same.upd_new (o := .tup [.str "pick", .str "go"]) hp2
        refine ⟨p2, _, rfl, .inr (SqT.of upd_same), rfl, rfl, ?_⟩
        rw [if_neg (by decide), show inV (.str v) [.str "pick", .str "go"] = decide (v ∈ (["pick", "go"] : List Str)) from in_strs v ["pick", "go"]]
        obtain ⟨H2, e2⟩ : ∃ H2, H2 = upd H1 p2 (.tup [.str "pick", .str "go"]) := ⟨_, rfl⟩
        rw [← e2] at s2 ⊢
        have s12 := s1.trans s2
        have hW2 := s2 _ _ hW1
        have h2 := s2 _ _ h1
        have PA2 := PA1.same s2
        have ht2 := s2 _ _ ht1
        have HL2 : HlAt K H2 (d1.1, d1.2) := HL1.tk (TK.same s2)
        have DO2 := DO1.same s2
        have G3 : ∀ o, Gives K H Q o → Gives K H2 Q o := fun o z => ⟨fun e H' s' => z.1 e H' (s12.trans s'), fun st e t H' ht hs s' => z.2 st e t H' (same_none' s12 ht) hs (s12.trans s')⟩
        refine ⟨_, rfl, ifD (fun b => ?_) (fun b => ?_)⟩
        · have b1 : v = "pick" ∨ v = "go" := by simpa using b
          rw [if_pos b1] at q
          have q2 := G3 _ q
          walk_at "go"
          exact q2
        · have b1 : ¬ (v = "pick" ∨ v = "go") := by simpa using b
          rw [if_neg b1] at q
          walk_at "go"
          refine ifD (fun c1 => ?_) (fun c1 => ?_)
          · have c1 := V.str.inj c1
            rw [if_pos c1] at q
            have q2 := G3 _ q
            walk_at "go"
            exact q2
          · rw [if_neg (fun z => c1 (congrArg V.str z))] at q
            walk_at "go"
            refine ifD (fun c2 => ?_) (fun c2 => ?_)
            · have c2 := V.str.inj c2
              rw [if_pos c2] at q
              have q2 := G3 _ q
              walk_at "go"
              exact q2
            · rw [if_neg (fun z => c2 (congrArg V.str z))] at q
              walk_at "go"
              refine ifD (fun c3 => ?_) (fun c3 => ?_)
              · have c3 := V.str.inj c3
                rw [if_pos c3] at q
                have q2 := G3 _ q
                walk_at "go"
                exact q2
              · rw [if_neg (fun z => c3 (congrArg V.str z))] at q
                walk_at "go"
                exact q.1 rfl _ s12
      · rw [hl]
        refine ⟨_, rfl, ifT rfl ?_⟩
        walk_at "go"
        refine ⟨(show DictK K w a.k_PLAIN (plainL a) from T.dk_PLAIN), hl, ?_⟩
        refine ⟨f, sp, rfl, by unfold oneHeld; rw [if_pos rfl], _, rfl, ?_⟩
        exact hsp hl _ s1
    have HP : Held P w K mg base 1 a.f_pocket_step (spOne K pockets) := ⟨_, _, Gp, T.F_pocket_step.kp, T.b_pocket_step⟩
    have HU : Held P w K mg base 1 a.f_use_step (spOne K holders) := ⟨_, _, Gu, T.F_use_step.kp, T.b_use_step⟩
    have HM : Held P w K mg base 1 a.f_move_step (spTwo K) := ⟨_, _, Gm, T.F_move_step.kp, T.b_move_step⟩
    have G1 : ∀ o H1, Same H H1 → Gives K H Q o → Gives K H1 Q o := fun o H1 s1 z => ⟨fun e H' s' => z.1 e H' (s1.trans s'), fun st e t H' ht hs s' => z.2 st e t H' (same_none' s1 ht) hs (s1.trans s')⟩
    by_cases c1 : v ∈ plainW
    · rw [if_pos c1] at q
      exact key _ _ HP (fun _ H1 s1 => ⟨W, v, r, rfl, s1 _ _ hW, G1 _ _ s1 q⟩) (.inr (plain_yes c1)) fun z => by rw [plain_yes c1] at z; cases z
    · by_cases c2 : v = "use"
      · rw [if_neg c1, if_pos c2] at q
        have el : (plainL a).lookup v = some a.f_use_step := by rw [c2] <;> rfl
        exact key _ _ HU (fun _ H1 s1 => ⟨W, v, r, rfl, s1 _ _ hW, G1 _ _ s1 q⟩) (.inr el) fun z => by rw [el] at z; cases z
      · by_cases c3 : v = "move"
        · rw [if_neg c1, if_neg c2, if_pos c3] at q
          have el : (plainL a).lookup v = some a.f_move_step := by rw [c3] <;> rfl
          exact key _ _ HM (fun _ H1 s1 => ⟨W, v, r, rfl, s1 _ _ hW, G1 _ _ s1 q⟩) (.inr el) fun z => by rw [el] at z; cases z
        · have el := plain_no (a := a) c1 c2 c3
          exact key _ _ HP (fun z => by rw [el] at z; cases z) (.inl el) fun _ => ⟨c1, c2, c3⟩
structure Sep (y : Str) (c : Nat) : Prop where
  e : TL.tl y = [c]
  k : y.cps.all (· < 256) = true
theorem sepB : Sep " " 32 := ⟨by decide +kernel, by decide +kernel⟩
theorem sepN : Sep "\n" 10 := ⟨by decide +kernel, by decide +kernel⟩
theorem pre1 (c d : Nat) (r : List Nat) : TL.pre [c] (d :: r) = decide (d = c) := by
  show ([d] == [c]) = decide (d = c)
  by_cases h : d = c
  · rw [h]; simp
  · rw [decide_eq_false h]
    simp [h]
theorem spl_some (S : List Nat) : ∀ (a : List Nat) (k : Nat) (acc : List Nat), TL.spl S k acc a ≠ []
  | [], k, acc => by rw [TL.spl_nil]; simp
  | d :: r, 0, acc => by
    show (if TL.pre S (d :: r) = true then acc :: TL.spl S (S.length - 1) [] r else TL.spl S 0 (acc ++ [d]) r) ≠ []
    split
    · simp
    · exact spl_some S r 0 _
  | d :: r, k + 1, acc => spl_some S r k acc
theorem joinL_cons {S p : List Nat} : ∀ {X : List (List Nat)}, X ≠ [] → TL.joinL S (p :: X) = p ++ (S ++ TL.joinL S X)
  | [], h => absurd rfl h
  | _ :: _, _ => rfl
theorem join_spl (c : Nat) : ∀ (a acc : List Nat), TL.joinL [c] (TL.spl [c] 0 acc a) = acc ++ a
  | [], acc => by rw [TL.spl_nil, List.append_nil] <;> rfl
  | d :: r, acc => by
    by_cases h : d = c
    · rw [TL.spl_hit (by rw [pre1]; exact decide_eq_true h), joinL_cons (spl_some _ _ _ _)]
      show acc ++ ([c] ++ TL.joinL [c] (TL.spl [c] 0 [] r)) = _
      rw [join_spl c r [], h] <;> rfl
    · rw [TL.spl_miss (by rw [pre1]; exact decide_eq_false h), join_spl c r, List.append_assoc] <;> rfl
theorem spl_free1 (c : Nat) : ∀ (a acc : List Nat), c ∉ acc → ∀ p ∈ TL.spl [c] 0 acc a, c ∉ p
  | [], acc, h, p, hp => by
    rw [TL.spl_nil] at hp
    rw [List.mem_singleton.mp hp]
    exact h
  | d :: r, acc, h, p, hp => by
    by_cases e : d = c
    · rw [TL.spl_hit (by rw [pre1]; exact decide_eq_true e)] at hp
      rcases List.mem_cons.mp hp with rfl | z
      · exact h
      · exact spl_free1 c r [] (by simp) p z
    · rw [TL.spl_miss (by rw [pre1]; exact decide_eq_false e)] at hp
      refine spl_free1 c r (acc ++ [d]) (fun z => ?_) p hp
      rcases List.mem_append.mp z with y | y
      · exact h y
      · exact e (List.mem_singleton.mp y).symm
theorem joinL_sum {c : Nat} : ∀ {ps : List (List Nat)}, ps ≠ [] → (TL.joinL [c] ps).length + 1 = (ps.map (·.length)).sum + ps.length
  | [], h => absurd rfl h
  | [p], _ => by
    show p.length + 1 = (p.length + 0) + 1
    omega
  | p :: q :: r, _ => by
    have ih := joinL_sum (c := c) (ps := q :: r) (by simp)
    rw [joinL_cons (by simp), List.length_append, List.length_append, List.map_cons, List.sum_cons, List.length_cons (a := p)]
    have e1 : [c].length = 1 := rfl
    omega
theorem joinL_part {s p : List Nat} : ∀ {ps : List (List Nat)}, p ∈ ps → p.length ≤ (TL.joinL s ps).length ∧ ∀ c ∈ p, c ∈ TL.joinL s ps
  | [], h => by cases h
  | [q], h => by
    rw [List.mem_singleton.mp h]
    exact ⟨Nat.le_refl _, fun _ h => h⟩
  | q :: t :: r, h => by
    rw [joinL_cons (by simp)]
    rcases List.mem_cons.mp h with rfl | z
    · exact ⟨by rw [List.length_append]; omega, fun c hc => List.mem_append.mpr (.inl hc)⟩
    · have ih := joinL_part (s := s) z
      exact ⟨by rw [List.length_append, List.length_append]; omega, fun c hc => List.mem_append.mpr (.inr (List.mem_append.mpr (.inr (ih.2 c hc))))⟩
theorem Sep.cut {y : Str} {c : Nat} (h : Sep y c) (x : Str) : (Txt.split x y).map TL.tl = TL.spl [c] 0 [] (TL.tl x) := by
  have := TL.split_spl x y (by rw [h.e]; simp) (TL.kind_ok h.k)
  rw [h.e] at this
  exact this
theorem Sep.jl {y : Str} {c : Nat} (h : Sep y c) (ws : List Str) : TL.tl (Txt.join y ws) = TL.joinL [c] (ws.map TL.tl) := by
  rw [TL.join_eq, TL.tl_join, h.e]
theorem Sep.join {y : Str} {c : Nat} (h : Sep y c) (x : Str) : Txt.join y (Txt.split x y) = x := by
  refine tl_inj ?_
  rw [h.jl, h.cut, join_spl, List.nil_append]
theorem Sep.some {y : Str} {c : Nat} (h : Sep y c) (x : Str) : Txt.split x y ≠ [] := fun z => by
  have := h.cut x
  rw [z] at this
  exact spl_some _ _ _ _ this.symm
theorem Sep.free {y : Str} {c : Nat} (h : Sep y c) {x w : Str} (hw : w ∈ Txt.split x y) : c ∉ TL.tl w := by
  have hm : TL.tl w ∈ (Txt.split x y).map TL.tl := List.mem_map.mpr ⟨w, hw, rfl⟩
  rw [h.cut] at hm
  exact spl_free1 c _ [] (by simp) _ hm
theorem Sep.of {y : Str} {c : Nat} (h : Sep y c) {ws : List Str} (h0 : ws ≠ []) (h1 : ∀ w ∈ ws, c ∉ TL.tl w) : Txt.split (Txt.join y ws) y = ws := TL.split_join h.e h.k h0 h1
theorem len_tl2 (ws : List Str) : (ws.map TL.tl).map (·.length) = ws.map (·.length) := by
  rw [List.map_map]
  apply List.map_congr_left
  intro w _
  exact (TL.len_tl w).symm
theorem Sep.jlen {y : Str} {c : Nat} (h : Sep y c) {ws : List Str} (h0 : ws ≠ []) : (Txt.join y ws).length + 1 = (ws.map (·.length)).sum + ws.length := by
  have := joinL_sum (c := c) (ps := ws.map TL.tl) (by simpa using h0)
  rw [← h.jl, len_tl2, List.length_map, ← TL.len_tl] at this
  exact this
theorem Sep.len {y : Str} {c : Nat} (h : Sep y c) (x : Str) : ((Txt.split x y).map (·.length)).sum + (Txt.split x y).length = x.length + 1 := by
  have := h.jlen (h.some x)
  rw [h.join] at this
  exact this.symm
theorem Sep.part {y : Str} {c : Nat} (h : Sep y c) {ws : List Str} {w : Str} (hw : w ∈ ws) : w.length ≤ (Txt.join y ws).length ∧ (PyData.strOk (Txt.join y ws) = true → PyData.strOk w = true) := by
  have := joinL_part (s := [c]) (List.mem_map.mpr ⟨w, hw, rfl⟩ : TL.tl w ∈ ws.map TL.tl)
  rw [← h.jl] at this
  refine ⟨by rw [TL.len_tl, TL.len_tl]; exact this.1, fun ok => ?_⟩
  unfold PyData.strOk at ok ⊢
  rw [← Array.all_toList, List.all_eq_true] at ok ⊢
  exact fun d hd => ok d (this.2 d hd)
theorem Sep.piece {y : Str} {c : Nat} (h : Sep y c) {x w : Str} (hw : w ∈ Txt.split x y) : w.length ≤ x.length ∧ (PyData.strOk x = true → PyData.strOk w = true) := by
  have := h.part hw
  rw [h.join] at this
  exact this
theorem joinL_mem0 {s : List Nat} {c : Nat} : ∀ {ps : List (List Nat)}, c ∈ TL.joinL s ps → c ∈ s ∨ ∃ p ∈ ps, c ∈ p
  | [], h => by cases h
  | [p], h => .inr ⟨p, List.mem_cons_self, h⟩
  | p :: q :: r, h => by
    have h : c ∈ p ++ (s ++ TL.joinL s (q :: r)) := h
    rcases List.mem_append.mp h with z | z
    · exact .inr ⟨p, List.mem_cons_self, z⟩
    · rcases List.mem_append.mp z with y | y
      · exact .inl y
      · rcases joinL_mem0 y with v | ⟨u, hu, hc⟩
        · exact .inl v
        · exact .inr ⟨u, List.mem_cons_of_mem _ hu, hc⟩
theorem head_ne {x : Str} : ∃ w r, Txt.split x " " = w :: r := by
  cases e : Txt.split x " " with
  | nil => exact absurd e (sepB.some x)
  | cons w r => exact ⟨w, r, rfl⟩
def spErr2 (C : Addr) (f1 f2 : Str) : Sp := fun vs H Q _ => ∃ (e : Addr) (v1 v2 : V), vs = [.ref e, v1, v2] ∧ H e = some (exo e C none) ∧
  ∀ d H', H d = none → d ≠ e → H' e = some (exo e C (some d)) → H' d = some (exd d [(f2, v2), (f1, v1)]) → (∀ y o, y ≠ e → H y = some o → H' y = some o) → Q .non H'
theorem ok_NoBody___init__ (T : Txt w K mg a) : FnOk P w K mg base CX0 1 a.f_NoBody___init__ a.d_NoBody___init__ ["self", "name", "at"] (spErr2 a.c_NoBody "name" "at") := by
  refine T.F_NoBody___init__.ok sc_NoBody___init__ (fun vs H Q E h => ?_) (fun cdv A outer s H vs Q E hr h => ?_)
  · obtain ⟨e, v1, v2, rfl, _⟩ := h
    rfl
  · obtain ⟨e, v1, v2, rfl, he, q⟩ := h
    refine ⟨_, pss_cons (ps_ost (pv 0) (pv 1)) (pss_one (ps_ost (pv 0) (pv 2))), ?_⟩
    refine ⟨_, rfl, _, rfl, e, a.c_NoBody, rfl, T.ox_NoBody, T.na_NoBody_name, .inl ⟨he, fun d hd nd => ?_⟩⟩
    refine ⟨_, rfl, _, rfl, e, a.c_NoBody, rfl, T.ox_NoBody, T.na_NoBody_at, .inr ⟨d, _, upd_same, upd_get nd upd_same, (show 1 ≤ 900 by decide), ?_⟩⟩
    exact q d _ hd nd (upd_get nd.symm upd_same) upd_same fun y o n e => upd_get (ne_of_none e hd) (upd_get n (upd_get (ne_of_none e hd) e))
theorem raise_err2 {C : Addr} {f1 f2 : Str} {v1 v2 : V} {H : Hp} {W : Value → Option Addr → Hp → Prop} (h : ∀ d H', H d = none → H' d = some (.xd [(f2, v2), (f1, v1)]) → Same H H' → W (.ref C) (some d) H') :
    [v1, v2].length ≤ 1000 ∧ ∀ a, H a = none → spErr2 C f1 f2 (.ref a :: ([v1, v2] ++ [])) (upd H a (exo a C none))
      (fun u H2 => u = .non ∧ ∃ (d : Addr) (fs : List (Str × V)), H2 a = some (exo a C (some d)) ∧ H2 d = some (exd d fs) ∧ H d = none ∧ W (.ref C) (some d) (upd (del H2 a) d (.xd fs))) (fun _ _ _ => False) := by
  refine ⟨by show 2 ≤ 1000; decide, fun a ha => ⟨a, v1, v2, rfl, upd_same, fun d H2 hd nd h1 h2 k => ⟨rfl, d, _, h1, h2, ?_, ?_⟩⟩⟩
  · rw [upd_ne nd] at hd
    exact hd
  · rw [upd_ne nd] at hd
    refine h d _ hd upd_same fun b o e => ?_
    have nb : b ≠ d := ne_of_none e hd
    have na : b ≠ a := ne_of_none e ha
    rw [upd_ne nb, del_ne na]
    exact k b o na (upd_get na e)
def rowStep (ps : List Pr) (hs : List Hl) (h : Hl) (many i : Nat) (row : Str) : Option Step :=
  (stepF ps hs h.side h.gives i many (Txt.split row " ")).bind fun s => if i + 1 = many ∧ s.word ≠ "done" ∧ s.word ≠ "throw" then none else some s
structure FirstBad (ps : List Pr) (hs : List Hl) (h : Hl) (rows : List Str) (i : Nat) : Prop where
  bad : ∃ row, rows[i]? = some row ∧ rowStep ps hs h rows.length i row = none
  ahead : ∀ j < i, ∀ row, rows[j]? = some row → ∃ s, rowStep ps hs h rows.length j row = some s
def AllRows (ps : List Pr) (hs : List Hl) (h : Hl) (rows : List Str) (sts : List Step) : Prop := sts.length = rows.length ∧ ∀ i row, rows[i]? = some row → rowStep ps hs h rows.length i row = sts[i]?
def spSteps (K : PySem.W.Frag) (C NB : Addr) : Sp := fun vs H Q E => ∃ (x kp kd R : Addr) (L : List (Addr × Pr)) (M : List (Addr × Hl)) (e : Addr × Hl) (rows : List Str), vs = [.ref x, .str e.2.name, .ref R] ∧ DealOk K C H x kp kd L M ∧ e ∈ M ∧
  H R = some (.lst (rows.map V.str)) ∧ rows.length ≤ 50000 ∧ (∀ r ∈ rows, r.length ≤ 50000) ∧
  (∀ sts, AllRows (L.map (·.2)) (M.map (·.2)) e.2 rows sts → ∀ D ts H', H D = none → H' D = some (.lst (ts.map V.ref)) → Paired (fun t s => StepAt K H' t s) ts sts → Same H H' → Q (.ref D) H') ∧
  (∀ i, FirstBad (L.map (·.2)) (M.map (·.2)) e.2 rows i → ∀ d H', H d = none → H' d = some (.xd [("at", .int i), ("name", .str e.2.name)]) → Same H H' → E (.ref NB) (some d) H')
theorem ok_steps_of (T : Txt w K mg a) : FnOk P w K mg base (L2.CX P w) 9 a.f_steps_of a.d_steps_of ["pacts", "name", "rows"] (spSteps K a.c_Pacts a.c_NoBody) := by
  have G_step_of := ok_step_of (P := P) (w := w) (base := base) T
  have G_NoBody___init__ := ok_NoBody___init__ (P := P) (w := w) (base := base) T
  refine T.F_steps_of.okX sc_steps_of (fun vs H Q E h => ?_) (fun cdv A outer s H vs Q E hr h => ?_)
  · obtain ⟨x, kp, kd, R, L, M, e, rows, rfl, _⟩ := h
    rfl
  · obtain ⟨x, kp, kd, R, L, M, e, rows, rfl, DO, he, hR, lR, sR, q1, q2⟩ := h
    have lr : (rows.map V.str).length = rows.length := List.length_map _
    have sp1 : (" " : Str).length = 1 := by decide +kernel
    refine ⟨_, (pss_cons (ps_set (i := 3) sc_steps_of.nd rfl (Or.inl rfl) (pe_lst pa_nil))
      (pss_cons (ps_stop (ps_for (passes_of rfl) rfl (pi_wait (pi_enum rfl T.z_enumerate (pa_cons (pv 2) pa_nil))) (pg_tup rfl (pgs_cons (pg_name (i := 4) sc_steps_of.nd rfl (Or.inl rfl)) (pgs_cons (pg_name (i := 5) sc_steps_of.nd rfl (Or.inl rfl)) pgs_nil))) (pss_cons (ps_set (i := 6) sc_steps_of.nd rfl (Or.inl rfl) (pe_callK G_step_of (hr.mono (by decide)) rfl T.m_step_of T.F_step_of.kp T.kb_step_of_many pass0 (pa_cons (pv 0) (pa_cons (pv 1) (pa_cons (pe_split (pv 5) pe_str) (pa_cons (pv 4) pa_nil)))) (pk_cons (pe_callB call_lenK (by rfl) T.z_len PySem.boot_len (pa_cons (pv 2) pa_nil)) pk_nil)))
      (pss_cons (ps_if (pt_mid (PW.pt (pw_or (pt_cmpR op_isN (pv 6) pe_non (nomark _)) (pw_or1 (PW.pt (pw_and (pt_cmpR op_eq (pv 4) (pe_op op_sub (pe_callB call_lenK (by rfl) T.z_len PySem.boot_len (pa_cons (pv 2) pa_nil)) pe_int) (nomark _)) (pw_and1 (pt_cmpR op_notIn_seq (pe_ix ix_tup (pv 6) pe_int (fun _ _ => rfl)) (pe_tup (pa_cons pe_str (pa_cons pe_str pa_nil))) (by rfl))))))))) (pss_one (ps_raise rfl (takes_of rfl rfl rfl rfl) (pmk_oex T.ox_NoBody T.ini_NoBody T.ti_NoBody G_NoBody___init__ (hr.mono (by decide)) T.b_NoBody___init__ .nil pass0 rfl T.m_NoBody (by exact (pa_cons (pv 1) (pa_cons (pv 4) pa_nil)))))) pss_nil)
      (pss_one (ps_expr (pe_bm PySem.F.plainAttrs_list PySem.F.slot_list_append PySem.F.type_list_append mt_append (pv 3) (pa_cons (pv 6) pa_nil))))))))
      (pss_one (ps_ret (pv 3))))), ?_⟩
    walk_at "go"
    intro D hD
    have hR1 := Same.upd_new (o := .lst []) hD _ _ hR
    refine sq_seq (stop_in ?_)
    walk_at "go"
    refine wait ?_
    refine forW (walk_enum (K := K) (xs := rows.map V.str)) (fun i σ H' => (∃ u4 u5 u6, σ = [some (.ref x), some (.str e.2.name), some (.ref R), some (.ref D), u4, u5, u6]) ∧ Same H H' ∧ ∃ (ts : List Addr) (sts : List Step), H' D = some (.lst (ts.map V.ref)) ∧ Paired (fun t s => StepAt K H' t s) ts sts ∧ sts.length = i ∧
      ∀ j < i, ∀ row, rows[j]? = some row → rowStep (L.map (·.2)) (M.map (·.2)) e.2 rows.length j row = sts[j]?) ?_ ?_ ?_ ?_
    · exact ⟨⟨_, _, _, rfl⟩, Same.upd_new hD, [], [], upd_same, .nil, rfl, fun j hj => absurd hj (Nat.not_lt_zero _)⟩
    · rintro i σ H' _ ⟨_, s', _⟩
      exact SqL.of (s' _ _ hR)
    · rintro i v σ H1 H2 hi ⟨⟨u4, u5, u6, rfl⟩, s1, ts, sts, hD1, pt, ls, af⟩ ⟨t, y1, y2, rfl, ht, rfl, hy1, hy2⟩
      have hy2 : (rows.map V.str)[i]? = some y2 := hy2
      rw [List.getElem?_map] at hy2
      obtain ⟨row, hrow, rfl⟩ := Option.map_eq_some_iff.mp hy2
      have s2 : Same H1 (upd H1 t (.tup [y1, .str row])) := Same.upd_new ht
      obtain ⟨H2, e2⟩ : ∃ H2, H2 = upd H1 t (.tup [y1, .str row]) := ⟨_, rfl⟩
      have ht2 : H2 t = some (.tup [y1, .str row]) := by rw [e2, upd_same]
      rw [← e2] at s2 ⊢
      cases hy1
      have s12 := s1.trans s2
      have DO2 := DO.same s12
      have lrow := sR row (List.mem_of_getElem? hrow)
      obtain ⟨w0, r0, esp⟩ := head_ne (x := row)
      have hlen : (Txt.split row " ").length ≤ 60000 := by
        have := sepB.len row
        omega
      have hz : row.length + 2 ≤ sizeLine := small_le (by omega)
      have hb0 : ((" " : Str).length == 0) = false := by rw [sp1] <;> rfl
      walk_at "go"
      rw [esp]
      intro p3 hp3
      obtain ⟨H3, e3⟩ : ∃ H3, H3 = upd H2 p3 (.lst ((w0 :: r0).map V.str)) := ⟨_, rfl⟩
      have s3 : Same H2 H3 := by rw [e3]; exact Same.upd_new hp3
      have h3 : H3 p3 = some (.lst ((w0 :: r0).map V.str)) := by rw [e3, upd_same]
      rw [← e3]
      have DO3 := DO2.same s3
      have s13 := s12.trans s3
      have hR3 := s13 _ _ hR
      have sh3 : Short (w0 :: r0) := fun z hz => by
        rw [← esp] at hz
        have := (sepB.piece hz).1
        omega
      have ln3 : (w0 :: r0).length ≤ 90000 := by rw [← esp]; omega
      walk_at "go"
      rw [lr]
      have ers : rowStep (L.map (·.2)) (M.map (·.2)) e.2 rows.length i row = (stepF (L.map (·.2)) (M.map (·.2)) e.2.side e.2.gives i rows.length (w0 :: r0)).bind fun s => if i + 1 = rows.length ∧ s.word ≠ "done" ∧ s.word ≠ "throw" then none else some s := by
        unfold rowStep
        rw [esp]
      have fb : rowStep (L.map (·.2)) (M.map (·.2)) e.2 rows.length i row = none → FirstBad (L.map (·.2)) (M.map (·.2)) e.2 rows i := fun z => ⟨⟨row, hrow, z⟩, fun j hj r2 hr2 => by
        rw [af j hj r2 hr2]
        exact ⟨_, List.getElem?_eq_getElem (by omega)⟩⟩
      refine ⟨fun e0 H4 s4 => ?_, fun st e0 t4 H4 ht4 hS4 s4 => ?_⟩
      · rw [e0] at ers
        have s14 := s13.trans s4
        walk_at "go"
        refine midT_of (fun c H5 => H5 = H4 ∧ c = true) ?_ ?_
        · walk_at "go"
          exact wait ⟨rfl, rfl⟩
        · rintro c H5 ⟨rfl, rfl⟩
          refine ifT rfl ?_
          walk_at "go"
          exact (raise_err2 fun d H6 hd hd6 s6 => q2 i (fb ers) d H6 (same_none' s14 hd) hd6 (s14.trans s6)).2
      · rw [e0] at ers
        have ers : rowStep (L.map (·.2)) (M.map (·.2)) e.2 rows.length i row = if i + 1 = rows.length ∧ st.word ≠ "done" ∧ st.word ≠ "throw" then none else some st := ers
        have s14 := s13.trans s4
        have hR4 := s14 _ _ hR
        obtain ⟨xs, htup⟩ := hS4.tup
        have a0 : atI (V.str st.word :: xs) 0 = some (.str st.word) := atI_nat (j := 0) rfl
        walk_at "go"
        refine midT_of (fun c H5 => Same H4 H5 ∧ (c = true ↔ i + 1 = rows.length ∧ st.word ≠ "done" ∧ st.word ≠ "throw")) ?_ ?_
        · walk_at "go"
          refine ifD (fun b => ?_) (fun b => ?_)
          · have b1 : i + 1 = rows.length := by have := V.int.inj b; omega
            walk_at "go"
            intro p5 hp5
            have s5 := Same.upd_new (o := .tup [.str "done", .str "throw"]) hp5
            refine ⟨p5, _, rfl, .inr (SqT.of upd_same), rfl, rfl, ?_⟩
            rw [if_pos rfl, show inV (.str st.word) [.str "done", .str "throw"] = decide (st.word ∈ (["done", "throw"] : List Str)) from in_strs st.word ["done", "throw"]]
            refine ⟨_, rfl, wait ⟨s5, fun z => ⟨b1, ?_⟩, fun z => ?_⟩⟩
            · have z1 : ¬ st.word ∈ (["done", "throw"] : List Str) := by simpa using z
              simp only [List.mem_cons, List.not_mem_nil, or_false, not_or] at z1
              exact z1
            · have z1 : ¬ st.word ∈ (["done", "throw"] : List Str) := by
                simp only [List.mem_cons, List.not_mem_nil, or_false, not_or]
                exact z.2
              rw [decide_eq_false z1] <;> rfl
          · exact wait ⟨fun _ _ e => e, (fun z => nomatch z), fun z => absurd (by rw [lr, ← z.1]; simp) b⟩
        · rintro c H5 ⟨s5, hc⟩
          have s15 := s14.trans s5
          refine ifB (fun ec => ?_) (fun ec => ?_)
          · rw [if_pos (hc.mp ec)] at ers
            walk_at "go"
            exact (raise_err2 fun d H6 hd hd6 s6 => q2 i (fb ers) d H6 (same_none' s15 hd) hd6 (s15.trans s6)).2
          · rw [if_neg (fun z => by rw [hc.mpr z] at ec; cases ec)] at ers
            have hD5 := s5 _ _ (s4 _ _ (s3 _ _ (s2 _ _ hD1)))
            have lts : (ts.map V.ref).length < sizeLine := small_lt (by rw [List.length_map, Paired.length pt]; omega)
            walk_at "go"
            have tk : TK H5 (upd H5 D (.lst (ts.map V.ref ++ [V.ref t4]))) := TK.lst hD5
            have tk1 : TK H1 (upd H5 D (.lst (ts.map V.ref ++ [V.ref t4]))) := (TK.same (((s2.trans s3).trans s4).trans s5)).trans tk
            refine wait ⟨⟨_, _, _, rfl⟩, fun b o eb => upd_get (ne_of_none eb hD) (s15 _ _ eb), ts ++ [t4], sts ++ [st], ?_, ?_, by rw [List.length_append, ls] <;> rfl, fun j hj r2 hr2 => ?_⟩
            · rw [upd_same, List.map_append] <;> rfl
            · exact Paired.snoc (Paired.mapP pt fun _ _ z => z.tk tk1) (hS4.tk ((TK.same s5).trans tk))
            · by_cases z : j = i
              · subst z
                rw [hrow] at hr2
                cases hr2
                rw [ers, List.getElem?_append_right (by omega), ls]
                simp
              · rw [List.getElem?_append_left (by omega)]
                exact af j (by omega) r2 hr2
    · rintro σ H1 ⟨⟨u4, u5, u6, rfl⟩, s1, ts, sts, hD1, pt, ls, af⟩
      rw [lr] at ls af
      walk_at "go"
      exact q1 sts ⟨ls, fun i row hi => af i (List.getElem?_eq_some_iff.mp hi).1 row hi⟩ D ts H1 hD hD1 pt s1
structure ReadBad (ps : List Pr) (hs : List Hl) (h : Hl) (rows : List Str) (i : Nat) : Prop where
  few : rows.length ≤ 200 → FirstBad ps hs h rows i
  many : 200 < rows.length → (i < 200 ∧ FirstBad ps hs h rows i) ∨ (i = 200 ∧ ∀ j < 200, ∀ row, rows[j]? = some row → ∃ s, rowStep ps hs h rows.length j row = some s)
def spRead (K : PySem.W.Frag) (C NB : Addr) : Sp := fun vs H Q E => ∃ (x kp kd : Addr) (L : List (Addr × Pr)) (M : List (Addr × Hl)) (e : Addr × Hl) (text : Str), vs = [.ref x, .str e.2.name, .str text] ∧ DealOk K C H x kp kd L M ∧ e ∈ M ∧ text.length ≤ 40000 ∧
  (∀ sts, (Txt.split text "\n").length ≤ 200 → AllRows (L.map (·.2)) (M.map (·.2)) e.2 (Txt.split text "\n") sts → ∀ D ts H', H D = none → H' D = some (.lst (ts.map V.ref)) → Paired (fun t s => StepAt K H' t s) ts sts → Same H H' → Q (.ref D) H') ∧
  (∀ i, ReadBad (L.map (·.2)) (M.map (·.2)) e.2 (Txt.split text "\n") i → ∀ d H', H d = none → H' d = some (.xd [("at", .int i), ("name", .str e.2.name)]) → Same H H' → E (.ref NB) (some d) H')
theorem ok_read_rows (T : Txt w K mg a) : FnOk P w K mg base (L2.CX P w) 10 a.f_read_rows a.d_read_rows ["pacts", "name", "text"] (spRead K a.c_Pacts a.c_NoBody) := by
  have G_steps_of := ok_steps_of (P := P) (w := w) (base := base) T
  have G_NoBody___init__ := ok_NoBody___init__ (P := P) (w := w) (base := base) T
  have G_step_of := ok_step_of (P := P) (w := w) (base := base) T
  refine T.F_read_rows.okX sc_read_rows (fun vs H Q E h => ?_) (fun cdv A outer s H vs Q E hr h => ?_)
  · obtain ⟨x, kp, kd, L, M, e, text, rfl, _⟩ := h
    rfl
  · obtain ⟨x, kp, kd, L, M, e, text, rfl, DO, he, lt, q1, q2⟩ := h
    have sp1 : (" " : Str).length = 1 := by decide +kernel
    have sn1 : ("\n" : Str).length = 1 := by decide +kernel
    have hzt : text.length + 2 ≤ sizeLine := small_le (by omega)
    have hbt : (("\n" : Str).length == 0) = false := by rw [sn1] <;> rfl
    have hb0 : ((" " : Str).length == 0) = false := by rw [sp1] <;> rfl
    have lnt := sepN.len text
    obtain ⟨rows, erows⟩ : ∃ rows, rows = Txt.split text "\n" := ⟨_, rfl⟩
    rw [← erows] at q1 q2 lnt
    have lR : rows.length ≤ 50000 := by omega
    have sR : ∀ r ∈ rows, r.length ≤ 50000 := fun r hr => by
      rw [erows] at hr
      have := (sepN.piece hr).1
      omega
    have lr : (rows.map V.str).length = rows.length := List.length_map _
    refine ⟨_, (pss_cons (ps_set (i := 3) sc_read_rows.nd rfl (Or.inl rfl) (pe_split (pv 2) pe_str))
      (pss_cons (ps_if (pt_cmpR op_gt (pe_callB call_lenK (by rfl) T.z_len PySem.boot_len (pa_cons (pv 3) pa_nil)) (pe_globI rfl T.g_MOST_ROWS) (nomark _)) (pss_cons (ps_stop (ps_for (passes_of rfl) rfl (pi_wait (pi_enum rfl T.z_enumerate (pa_cons (pe_slice sl_list (pv 3) po_none (po_some (pe_globI rfl T.g_MOST_ROWS))) pa_nil))) (pg_tup rfl (pgs_cons (pg_name (i := 4) sc_read_rows.nd rfl (Or.inl rfl)) (pgs_cons (pg_name (i := 5) sc_read_rows.nd rfl (Or.inl rfl)) pgs_nil))) (pss_one (ps_if (pt_cmpR op_isN (pe_callK G_step_of (hr.mono (by decide)) rfl T.m_step_of T.F_step_of.kp T.kb_step_of_many pass0 (pa_cons (pv 0) (pa_cons (pv 1) (pa_cons (pe_split (pv 5) pe_str) (pa_cons (pv 4) pa_nil)))) (pk_cons (pe_callB call_lenK (by rfl) T.z_len PySem.boot_len (pa_cons (pv 3) pa_nil)) pk_nil)) pe_non (nomark _)) (pss_one (ps_raise rfl (takes_of rfl rfl rfl rfl) (pmk_oex T.ox_NoBody T.ini_NoBody T.ti_NoBody G_NoBody___init__ (hr.mono (by decide)) T.b_NoBody___init__ .nil pass0 rfl T.m_NoBody (by exact (pa_cons (pv 1) (pa_cons (pv 4) pa_nil)))))) pss_nil))))
      (pss_one (ps_raise rfl (takes_of rfl rfl rfl rfl) (pmk_oex T.ox_NoBody T.ini_NoBody T.ti_NoBody G_NoBody___init__ (hr.mono (by decide)) T.b_NoBody___init__ .nil pass0 rfl T.m_NoBody (by exact (pa_cons (pv 1) (pa_cons (pe_globI rfl T.g_MOST_ROWS) pa_nil))))))) pss_nil)
      (pss_one (ps_ret (pe_call G_steps_of (hr.mono (by decide)) rfl T.m_steps_of T.F_steps_of.kp T.b_steps_of .nil (passes_call (takes_of rfl rfl rfl rfl) (fun _ _ _ _ h => h)) (pa_cons (pv 0) (pa_cons (pv 1) (pa_cons (pv 3) pa_nil)))))))), ?_⟩
    walk_at "go"
    rw [← erows]
    intro p1 hp1
    obtain ⟨H1, e1⟩ : ∃ H1, H1 = upd H p1 (.lst (rows.map V.str)) := ⟨_, rfl⟩
    have s1 : Same H H1 := by rw [e1]; exact Same.upd_new hp1
    have h1 : H1 p1 = some (.lst (rows.map V.str)) := by rw [e1, upd_same]
    rw [← e1]
    have DO1 := DO.same s1
    walk_at "go"
    refine ifD (fun b => ?_) (fun b => ?_)
    · have b1 : 200 < rows.length := by omega
      refine sq_seq (stop_in ?_)
      walk_at "go"
      intro p2 hp2
      rw [show cutV (rows.map V.str) none (some 200) = (rows.take 200).map V.str from (cutV_to (rows.map V.str) 200).trans (List.map_take ..).symm]
      obtain ⟨H2, e2⟩ : ∃ H2, H2 = upd H1 p2 (.lst ((rows.take 200).map V.str)) := ⟨_, rfl⟩
      have s2 : Same H1 H2 := by rw [e2]; exact Same.upd_new hp2
      have h2 : H2 p2 = some (.lst ((rows.take 200).map V.str)) := by rw [e2, upd_same]
      rw [← e2]
      have s02 := s1.trans s2
      have DO2 := DO1.same s2
      walk_at "go"
      refine wait ?_
      refine forW (walk_enum (K := K) (xs := (rows.take 200).map V.str)) (fun i σ H' => (∃ u4 u5, σ = [some (.ref x), some (.str e.2.name), some (.str text), some (.ref p1), u4, u5]) ∧ Same H2 H' ∧
        ∀ j < i, ∀ row, rows[j]? = some row → ∃ s, rowStep (L.map (·.2)) (M.map (·.2)) e.2 rows.length j row = some s) ?_ ?_ ?_ ?_
      · exact ⟨⟨_, _, rfl⟩, (fun _ _ e => e), fun j hj => absurd hj (Nat.not_lt_zero _)⟩
      · rintro i σ H' _ ⟨_, s', _⟩
        exact SqL.of (s' _ _ h2)
      · rintro i v σ H3 H4 hi ⟨⟨u4, u5, rfl⟩, s3, af⟩ ⟨t, y1, y2, rfl, ht, rfl, hy1, hy2⟩
        have hy2 : ((rows.take 200).map V.str)[i]? = some y2 := hy2
        rw [List.getElem?_map] at hy2
        obtain ⟨row, hrow0, rfl⟩ := Option.map_eq_some_iff.mp hy2
        have hi200 : i < 200 := by
          have := (List.getElem?_eq_some_iff.mp hrow0).1
          rw [List.length_take] at this
          omega
        have hrow : rows[i]? = some row := by
          rw [List.getElem?_take_of_lt hi200] at hrow0
          exact hrow0
        have s4 : Same H3 (upd H3 t (.tup [y1, .str row])) := Same.upd_new ht
        obtain ⟨H4, e4⟩ : ∃ H4, H4 = upd H3 t (.tup [y1, .str row]) := ⟨_, rfl⟩
        have ht4 : H4 t = some (.tup [y1, .str row]) := by rw [e4, upd_same]
        rw [← e4] at s4 ⊢
        cases hy1
        have s24 := s3.trans s4
        have DO4 := DO2.same s24
        have lrow := sR row (List.mem_of_getElem? hrow)
        obtain ⟨w0, r0, esp⟩ := head_ne (x := row)
        have hlen : (Txt.split row " ").length ≤ 60000 := by
          have := sepB.len row
          omega
        have hz : row.length + 2 ≤ sizeLine := small_le (by omega)
        walk_at "go"
        rw [esp]
        intro p5 hp5
        obtain ⟨H5, e5⟩ : ∃ H5, H5 = upd H4 p5 (.lst ((w0 :: r0).map V.str)) := ⟨_, rfl⟩
        have s5 : Same H4 H5 := by rw [e5]; exact Same.upd_new hp5
        have h5 : H5 p5 = some (.lst ((w0 :: r0).map V.str)) := by rw [e5, upd_same]
        rw [← e5]
        have DO5 := DO4.same s5
        have s25 := s24.trans s5
        have hR5 := (s2.trans s25) _ _ h1
        have sh3 : Short (w0 :: r0) := fun z hz => by
          rw [← esp] at hz
          have := (sepB.piece hz).1
          omega
        have ln3 : (w0 :: r0).length ≤ 90000 := by rw [← esp]; omega
        walk_at "go"
        rw [lr]
        have ers : rowStep (L.map (·.2)) (M.map (·.2)) e.2 rows.length i row = (stepF (L.map (·.2)) (M.map (·.2)) e.2.side e.2.gives i rows.length (w0 :: r0)).bind fun s => if i + 1 = rows.length ∧ s.word ≠ "done" ∧ s.word ≠ "throw" then none else some s := by
          unfold rowStep
          rw [esp]
        refine ⟨fun e0 H6 s6 => ?_, fun st e0 t6 H6 ht6 hS6 s6 => ?_⟩
        · rw [e0] at ers
          have s06 := s02.trans (s25.trans s6)
          walk_at "go"
          exact (raise_err2 fun d H7 hd hd7 s7 => q2 i ⟨fun z => absurd z (by omega), fun _ => .inl ⟨hi200, ⟨row, hrow, ers⟩, af⟩⟩ d H7 (same_none' s06 hd) hd7 (s06.trans s7)).2
        · rw [e0] at ers
          have ers : rowStep (L.map (·.2)) (M.map (·.2)) e.2 rows.length i row = if i + 1 = rows.length ∧ st.word ≠ "done" ∧ st.word ≠ "throw" then none else some st := ers
          rw [if_neg (fun z => by omega)] at ers
          walk_at "go"
          refine wait ⟨⟨_, _, rfl⟩, s25.trans s6, fun j hj r2 hr2 => ?_⟩
          by_cases z : j = i
          · subst z
            rw [hrow] at hr2
            cases hr2
            exact ⟨st, ers⟩
          · exact af j (by omega) r2 hr2
      · rintro σ H3 ⟨⟨u4, u5, rfl⟩, s3, af⟩
        rw [List.length_map, List.length_take, Nat.min_eq_left (by omega)] at af
        have s03 := s02.trans s3
        walk_at "go"
        exact (raise_err2 fun d H7 hd hd7 s7 => q2 200 ⟨fun z => absurd z (by omega), fun _ => .inr ⟨rfl, af⟩⟩ d H7 (same_none' s03 hd) hd7 (s03.trans s7)).2
    · have b1 : rows.length ≤ 200 := by omega
      walk_at "go"
      refine ⟨fun sts ha D ts H2 hD hD2 pt s2 => q1 sts b1 ha D ts H2 (same_none' s1 hD) hD2 pt (s1.trans s2), fun i hb d H2 hd hd2 s2 => q2 i ⟨fun _ => hb, fun z => absurd z (by omega)⟩ d H2 (same_none' s1 hd) hd2 (s1.trans s2)⟩
theorem dcW {J : It} {n : Nat} {G : Hp → Prop} {Y : Nat → Hp → V → Hp → Prop} (w : Walk J n G Y) {g : TG} {tt : TT} {tk tv : TE} {vs : List Nat} {σ : St} {H1 : Hp} {D : Addr} {Qd : Hp → Prop} (Pv : Nat → Hp → Prop) (h0 : Pv 0 (upd H1 D (.dK []))) (hG : ∀ i H, i ≤ n → Pv i H → G H)
    (hs : ∀ i x H H', i < n → Pv i H → Y i H x H' → g x (wipe σ vs) H' fun σ2 H2 => wipe σ2 vs = wipe σ vs ∧ tt σ2 H2 fun b H3 =>
      if b = true then tk σ2 H3 fun y H4 => tv σ2 H4 fun z H5 => ∃ kvs k, y = kV k ∧ H5 D = some (.dK kvs) ∧ kvs.length < sizeLine ∧ Wait (Pv (i + 1) (upd H5 D (.dK (putK kvs k z)))) else Wait (Pv (i + 1) H3)) (hd : ∀ H, Pv n H → Qd H) :
    ∃ W : Nat → Nat → Hp → Prop, (∃ m, W 0 m (upd H1 D (.dK []))) ∧ ∀ i m H, W i m H →
      (J.stop i H ∧ Qd H) ∨ (J.go i H ∧ ∃ Nx : Hp → Prop, (∀ H', Nx H' → ∃ m', m' < m ∧ W (i + 1) m' H') ∧ ∀ x H', J.yld i H x H' → g x (wipe σ vs) H' fun σ2 H2 => wipe σ2 vs = wipe σ vs ∧ tt σ2 H2 fun b H3 =>
        if b = true then tk σ2 H3 fun y H4 => tv σ2 H4 fun z H5 => ∃ kvs k, y = kV k ∧ H5 D = some (.dK kvs) ∧ kvs.length < sizeLine ∧ Nx (upd H5 D (.dK (putK kvs k z))) else Nx H3) := by
  refine ⟨fun i m H => m = n - i ∧ i ≤ n ∧ Wait (Pv i H), ⟨n, by simp, Nat.zero_le _, wait h0⟩, ?_⟩
  rintro i m H ⟨rfl, hi, p⟩
  have hg := hG i H hi p.out
  by_cases hlt : i < n
  · exact .inr ⟨w.goes i H hlt hg, fun H => Wait (Pv (i + 1) H), fun H' p' => ⟨n - (i + 1), by omega, rfl, hlt, p'⟩, fun x H' y => hs i x H H' hlt p.out (w.yields i H x H' hlt hg y)⟩
  · have e : i = n := by omega
    subst e
    exact .inl ⟨w.stops H hg, hd H p.out⟩
structure Bd where
  name : Str
  text : Str
  tree : V
  rows : List Str
  places : List Int
  sts : List Step
  ra : Addr
  pa : Addr
  sa : Addr
structure BdAt (K : PySem.W.Frag) (H : Hp) (b : Bd) : Prop where
  rw_ : H b.ra = some (.lst (b.rows.map V.str))
  pl : H b.pa = some (.lst (b.places.map V.int))
  st : ∃ ts : List Addr, H b.sa = some (.lst (ts.map V.ref)) ∧ Paired (fun t s => StepAt K H t s) ts b.sts
def bdk (f : Bd → V) (bs : List Bd) : List (Key × V) := bs.map fun b => ((Sum.inr b.name : Key), f b)
abbrev sf (x : Addr) (n : Int) (wr tr rt rp rs : Addr) : List (Str × V) := [("deal", .ref x), ("which", .int n), ("written", .ref wr), ("trees", .ref tr), ("row_texts", .ref rt), ("row_places", .ref rp), ("row_steps", .ref rs)]
structure SideUp (K : PySem.W.Frag) (C : Addr) (H : Hp) (y x : Addr) (n : Int) (wr tr rt rp rs : Addr) (W : List (Str × Str)) (bs : List Bd) : Prop where
  ob : ∃ dx, H y = some (.ins C dx (sf x n wr tr rt rp rs))
  w : H wr = some (.dK (W.map fun b => ((Sum.inr b.1 : Key), V.str b.2)))
  t : H tr = some (.dK (bdk (·.tree) bs))
  r : H rt = some (.dK (bdk (fun b => .ref b.ra) bs))
  p : H rp = some (.dK (bdk (fun b => .ref b.pa) bs))
  s : H rs = some (.dK (bdk (fun b => .ref b.sa) bs))
  at_ : ∀ b ∈ bs, BdAt K H b
  nd : [wr, tr, rt, rp, rs].Nodup
theorem BdAt.keep {K : PySem.W.Frag} {H H' : Hp} {b : Bd} (h : BdAt K H b) (k : TK H H') (kr : ∀ o, H b.ra = some o → H' b.ra = some o) (kp : ∀ o, H b.pa = some o → H' b.pa = some o) (ks : ∀ o, H b.sa = some o → H' b.sa = some o) : BdAt K H' b := by
  obtain ⟨ts, h1, h2⟩ := h.st
  exact ⟨kr _ h.rw_, kp _ h.pl, ts, ks _ h1, Paired.mapP h2 fun _ _ z => z.tk k⟩
theorem BdAt.same {K : PySem.W.Frag} {H H' : Hp} {b : Bd} (h : BdAt K H b) (k : Same H H') : BdAt K H' b := h.keep (TK.same k) (fun o e => k _ _ e) (fun o e => k _ _ e) fun o e => k _ _ e
theorem SideUp.same {K : PySem.W.Frag} {C : Addr} {H H' : Hp} {y x : Addr} {n : Int} {wr tr rt rp rs : Addr} {W : List (Str × Str)} {bs : List Bd} (h : SideUp K C H y x n wr tr rt rp rs W bs) (k : Same H H') : SideUp K C H' y x n wr tr rt rp rs W bs := by
  obtain ⟨dx, ho⟩ := h.ob
  exact ⟨⟨dx, k _ _ ho⟩, k _ _ h.w, k _ _ h.t, k _ _ h.r, k _ _ h.p, k _ _ h.s, fun b hb => (h.at_ b hb).same k, h.nd⟩
theorem bdk_none {f : Bd → V} {n : Str} : ∀ {bs : List Bd}, n ∉ bs.map (·.name) → valV (bdk f bs) (Sum.inr n) = none
  | [], _ => rfl
  | e :: r, h => by
    have h1 : ¬ (Sum.inr e.name : Key) = Sum.inr n := fun z => h (by rw [List.map_cons, Sum.inr.inj z]; exact List.mem_cons_self)
    show valV ((Sum.inr e.name, f e) :: bdk f r) (Sum.inr n) = none
    rw [valV_neg h1]
    exact bdk_none fun z => h (by rw [List.map_cons]; exact List.mem_cons_of_mem _ z)
theorem bdk_val {f : Bd → V} {e : Bd} : ∀ {bs : List Bd}, (bs.map (·.name)).Nodup → e ∈ bs → valV (bdk f bs) (Sum.inr e.name) = some (f e)
  | [], _, h => by cases h
  | d :: r, hn, h => by
    rw [List.map_cons, List.nodup_cons] at hn
    show valV ((Sum.inr d.name, f d) :: bdk f r) (Sum.inr e.name) = some (f e)
    rcases List.mem_cons.mp h with z | z
    · subst z
      exact valV_pos rfl
    · have hne : ¬ (Sum.inr d.name : Key) = Sum.inr e.name := fun q => hn.1 (by rw [Sum.inr.inj q]; exact List.mem_map.mpr ⟨e, z, rfl⟩)
      rw [valV_neg hne]
      exact bdk_val hn.2 z
theorem bdk_put {f : Bd → V} {b : Bd} {bs : List Bd} (h : b.name ∉ bs.map (·.name)) : putK (bdk f bs) (Sum.inr b.name) (f b) = bdk f (bs ++ [b]) := by
  rw [putK_new _ (bdk_none h)]
  unfold bdk
  rw [List.map_append] <;> rfl
theorem dput_new {H : Hp} {d : Addr} {kvs : List (Key × V)} {n : Str} {v : V} (h : H d = some (.dK kvs)) (hn : valV kvs (Sum.inr n) = none) (hl : kvs.length < sizeLine) : DPut H d (.str n) v (upd H d (.dK (kvs ++ [(Sum.inr n, v)]))) := by
  have := DPut.k (k := Sum.inr n) (v := v) h hl
  rw [putK_new v hn] at this
  exact this
def wk (W : List (Str × Str)) : List (Key × V) := W.map fun b => ((Sum.inr b.1 : Key), V.str b.2)
theorem wk_none {n : Str} : ∀ {W : List (Str × Str)}, n ∉ W.map (·.1) → valV (wk W) (Sum.inr n) = none
  | [], _ => rfl
  | e :: r, h => by
    have h1 : ¬ (Sum.inr e.1 : Key) = Sum.inr n := fun z => h (by rw [List.map_cons, Sum.inr.inj z]; exact List.mem_cons_self)
    show valV ((Sum.inr e.1, V.str e.2) :: wk r) (Sum.inr n) = none
    rw [valV_neg h1]
    exact wk_none fun z => h (by rw [List.map_cons]; exact List.mem_cons_of_mem _ z)
theorem wk_val {e : Str × Str} : ∀ {W : List (Str × Str)}, (W.map (·.1)).Nodup → e ∈ W → valV (wk W) (Sum.inr e.1) = some (.str e.2)
  | [], _, h => by cases h
  | d :: r, hn, h => by
    rw [List.map_cons, List.nodup_cons] at hn
    show valV ((Sum.inr d.1, V.str d.2) :: wk r) (Sum.inr e.1) = some (.str e.2)
    rcases List.mem_cons.mp h with z | z
    · subst z
      exact valV_pos rfl
    · have hne : ¬ (Sum.inr d.1 : Key) = Sum.inr e.1 := fun q => hn.1 (by rw [Sum.inr.inj q]; exact List.mem_map.mpr ⟨e, z, rfl⟩)
      rw [valV_neg hne]
      exact wk_val hn.2 z
structure RowBd (ps : List Pr) (hs : List Hl) (h : Hl) (b : Bd) : Prop where
  rows : b.rows = Txt.split b.text "\n"
  few : b.rows.length ≤ 200
  all : AllRows ps hs h b.rows b.sts
  tree : b.tree = .non
  pl : b.places = (List.range b.rows.length).map fun i : Nat => (i : Int)
def spReadBody (K : PySem.W.Frag) (C CP NB : Addr) : Sp := fun vs H Q E => ∃ (y x kp kd wr tr rt rp rs : Addr) (n : Int) (L : List (Addr × Pr)) (M : List (Addr × Hl)) (e : Addr × Hl) (W : List (Str × Str)) (bs : List Bd) (text : Str), vs = [.ref y, .str e.2.name] ∧ SideUp K C H y x n wr tr rt rp rs W bs ∧ DealOk K CP H x kp kd L M ∧ e ∈ M ∧
  (W.map (·.1)).Nodup ∧ (e.2.name, text) ∈ W ∧ e.2.name ∉ bs.map (·.name) ∧ bs.length ≤ 100 ∧ text.length ≤ 40000 ∧ cutS text none (some 1) ≠ "(" ∧
  (∀ b H', RowBd (L.map (·.2)) (M.map (·.2)) e.2 b → b.name = e.2.name → b.text = text → SideUp K C H' y x n wr tr rt rp rs W (bs ++ [b]) → (∀ z o, z ≠ tr → z ≠ rt → z ≠ rp → z ≠ rs → H z = some o → H' z = some o) → Q .non H') ∧
  (∀ i, ReadBad (L.map (·.2)) (M.map (·.2)) e.2 (Txt.split text "\n") i → ∀ d H', H d = none → H' d = some (.xd [("at", .int i), ("name", .str e.2.name)]) → Same H H' → E (.ref NB) (some d) H')
theorem ok_Side_read_body (T : Txt w K mg a) : FnOk P w K mg base (L2.CX P w) 11 a.f_Side_read_body a.d_Side_read_body ["self", "name"] (spReadBody K a.c_Side a.c_Pacts a.c_NoBody) := by
  have G_steps_of := ok_steps_of (P := P) (w := w) (base := base) T
  have G_read_rows := ok_read_rows (P := P) (w := w) (base := base) T
  have cl_Side := T.cl_Side
  have na_Side_deal := T.na_Side_deal
  have na_Side_which := T.na_Side_which
  have na_Side_written := T.na_Side_written
  have na_Side_trees := T.na_Side_trees
  have na_Side_row_texts := T.na_Side_row_texts
  have na_Side_row_places := T.na_Side_row_places
  have na_Side_row_steps := T.na_Side_row_steps
  refine T.F_Side_read_body.okX sc_Side_read_body (fun vs H Q E h => ?_) (fun cdv A outer s H vs Q E hr h => ?_)
  · obtain ⟨y, x, kp, kd, wr, tr, rt, rp, rs, n, L, M, e, W, bs, text, rfl, _⟩ := h
    rfl
  · obtain ⟨y, x, kp, kd, wr, tr, rt, rp, rs, n, L, M, e, W, bs, text, rfl, SU, DO, he, ndW, hW, hnb, lb, lt, hcut, q1, q2⟩ := h
    obtain ⟨dx, ho⟩ := SU.ob
    have hw := SU.w
    have ht := SU.t
    have hr_ := SU.r
    have hp := SU.p
    have hs := SU.s
    have lt2 : text.length ≤ sizeLine := small_le (by omega)
    have hget : DGet H wr (.str e.2.name) (some (.str text)) := by
      have := DGet.k (k := Sum.inr e.2.name) hw
      rw [show valV (W.map fun b => ((Sum.inr b.1 : Key), V.str b.2)) (Sum.inr e.2.name) = some (.str text) from wk_val (e := (e.2.name, text)) ndW hW] at this
      exact this
    refine ⟨_, (pss_cons (ps_set (i := 2) sc_Side_read_body.nd rfl (Or.inl rfl) (pe_dget (hu_of hr) (pe_fld (pv 0) rfl) (pv 1) (fun _ _ => rfl)))
      (pss_mid (ps_if (pt_cmpR op_eq (pe_slice sl_str (pv 2) po_none (po_some pe_int)) pe_str (nomark _)) (pss_cons ps_never
      (pss_cons ps_never
      (pss_cons ps_never
      (pss_one ps_never)))) (pss_cons (ps_dput (hu_of hr) (pe_fld (pv 0) rfl) (pv 1) (pe_call G_read_rows (hr.mono (by decide)) rfl T.m_read_rows T.F_read_rows.kp T.b_read_rows .nil (passes_call (takes_of rfl rfl rfl rfl) (fun _ _ _ _ h => h)) (pa_cons (pe_fld (pv 0) rfl) (pa_cons (pv 1) (pa_cons (pv 2) pa_nil)))) rfl)
      (pss_cons (ps_set (i := 4) sc_Side_read_body.nd rfl (Or.inl rfl) (pe_split (pv 2) pe_str))
      (pss_cons (ps_set (i := 5) sc_Side_read_body.nd rfl (Or.inl rfl) (pe_listRg rfl rfl T.z_list (prg_1 rfl T.z_range (pe_callB call_lenK (by rfl) T.z_len PySem.boot_len (pa_cons (pv 4) pa_nil)))))
      (pss_one (ps_dput (hu_of hr) (pe_fld (pv 0) rfl) (pv 1) pe_non rfl))))))
      (pss_cons (ps_dput (hu_of hr) (pe_fld (pv 0) rfl) (pv 1) (pv 4) rfl)
      (pss_one (ps_dput (hu_of hr) (pe_fld (pv 0) rfl) (pv 1) (pv 5) rfl))))), ?_⟩
    have nd5 := SU.nd
    simp only [List.nodup_cons, List.mem_cons, List.not_mem_nil, or_false, not_or, not_false_eq_true, List.nodup_nil, and_true] at nd5
    obtain ⟨⟨nwt, nwr, nwp, nws⟩, ⟨ntr, ntp, nts⟩, ⟨nrp, nrs⟩, nps⟩ := nd5
    have lbd : ∀ f : Bd → V, (bdk f bs).length < sizeLine := fun f => small_lt (by unfold bdk; rw [List.length_map]; omega)
    have sn1 : ("\n" : Str).length = 1 := by decide +kernel
    have hbt : (("\n" : Str).length == 0) = false := by rw [sn1] <;> rfl
    have hzt : text.length + 2 ≤ sizeLine := small_le (by omega)
    walk_at "go"
    refine mid_of (fun σ H4 => ∃ (D ra pa : Addr) (ts : List Addr) (sts : List Step), σ = [some (.ref y), some (.str e.2.name), some (.str text), none, some (.ref ra), some (.ref pa)] ∧ H4 rs = some (.dK (bdk (fun b => .ref b.sa) bs ++ [(Sum.inr e.2.name, .ref D)])) ∧ H4 tr = some (.dK (bdk (·.tree) bs ++ [(Sum.inr e.2.name, .non)])) ∧
      H4 D = some (.lst (ts.map V.ref)) ∧ Paired (fun t s => StepAt K H4 t s) ts sts ∧ H4 ra = some (.lst ((Txt.split text "\n").map V.str)) ∧ H4 pa = some (.lst (rgV 0 (Txt.split text "\n").length)) ∧ (Txt.split text "\n").length ≤ 200 ∧ AllRows (L.map (·.2)) (M.map (·.2)) e.2 (Txt.split text "\n") sts ∧
      (∀ z o, z ≠ tr → z ≠ rs → H z = some o → H4 z = some o) ∧ H D = none ∧ H ra = none ∧ H pa = none) ?_ ?_
    · walk_at "go"
      refine ifNo (fun z => hcut (V.str.inj z)) ?_
      walk_at "go"
      refine ⟨fun sts hfew hall D ts H1 hD hD1 pt s1 => ?_, fun i hb d H' hd hd1 s' => q2 i hb d H' hd hd1 s'⟩
      have ho1 := s1 _ _ ho
      have hs1 := s1 _ _ hs
      have ls := lbd fun b => .ref b.sa
      walk_at "go"
      refine ⟨dput_new hs1 (bdk_none hnb) ls, ?_⟩
      obtain ⟨H2, e2⟩ : ∃ H2, H2 = upd H1 rs (.dK (bdk (fun b => .ref b.sa) bs ++ [(Sum.inr e.2.name, .ref D)])) := ⟨_, rfl⟩
      rw [← e2]
      have nDs : D ≠ rs := (ne_of_none hs hD).symm
      have k12 : ∀ z o, z ≠ rs → H1 z = some o → H2 z = some o := fun z o n e => by rw [e2]; exact upd_get n e
      have tk12 : TK H1 H2 := by rw [e2]; exact TK.dK hs1
      have hs2 : H2 rs = some (.dK (bdk (fun b => .ref b.sa) bs ++ [(Sum.inr e.2.name, .ref D)])) := by rw [e2, upd_same]
      walk_at "go"
      intro p3 hp3
      obtain ⟨H3, e3⟩ : ∃ H3, H3 = upd H2 p3 (.lst ((Txt.split text "\n").map V.str)) := ⟨_, rfl⟩
      have s3 : Same H2 H3 := by rw [e3]; exact Same.upd_new hp3
      have h3 : H3 p3 = some (.lst ((Txt.split text "\n").map V.str)) := by rw [e3, upd_same]
      rw [← e3]
      have lsp : ((Txt.split text "\n").map V.str).length = (Txt.split text "\n").length := List.length_map _
      walk_at "go"
      rw [lsp]
      intro p4 hp4
      obtain ⟨H4, e4⟩ : ∃ H4, H4 = upd H3 p4 (.lst (rgV 0 (Txt.split text "\n").length)) := ⟨_, rfl⟩
      have s4 : Same H3 H4 := by rw [e4]; exact Same.upd_new hp4
      have h4 : H4 p4 = some (.lst (rgV 0 (Txt.split text "\n").length)) := by rw [e4, upd_same]
      rw [← e4]
      have ho4 := s4 _ _ (s3 _ _ (k12 _ _ (ne_of ho hs (by intro z; cases z)) ho1))
      have ht4 := s4 _ _ (s3 _ _ (k12 _ _ nts (s1 _ _ ht)))
      have lt_ := lbd fun b => b.tree
      walk_at "go"
      refine ⟨dput_new ht4 (bdk_none hnb) lt_, ?_⟩
      have tk4 : TK H1 (upd H4 tr (.dK (bdk (·.tree) bs ++ [(Sum.inr e.2.name, .non)]))) := (tk12.trans ((TK.same s3).trans (TK.same s4))).trans (TK.dK ht4)
      have up4 : ∀ z o, z ≠ tr → H4 z = some o → upd H4 tr (.dK (bdk (·.tree) bs ++ [(Sum.inr e.2.name, .non)])) z = some o := fun z o n e => upd_get n e
      have b3 : H p3 = none := by
        cases z : H p3 with
        | none => rfl
        | some o =>
          by_cases q : p3 = rs
          · rw [q, hs2] at hp3; cases hp3
          · rw [k12 _ _ q (s1 _ _ z)] at hp3; cases hp3
      have b4 : H p4 = none := by
        cases z : H p4 with
        | none => rfl
        | some o =>
          have hp4' := same_none' s3 hp4
          by_cases q : p4 = rs
          · rw [q, hs2] at hp4'; cases hp4'
          · rw [k12 _ _ q (s1 _ _ z)] at hp4'; cases hp4'
      refine wait ⟨D, p3, p4, ts, sts, rfl, up4 _ _ (Ne.symm nts) (s4 _ _ (s3 _ _ hs2)), upd_same, up4 _ _ (ne_of_none ht hD).symm (s4 _ _ (s3 _ _ (k12 _ _ nDs hD1))), Paired.mapP pt (fun _ _ z => z.tk tk4), up4 _ _ (ne_of_none ht b3).symm (s4 _ _ h3), up4 _ _ (ne_of_none ht b4).symm h4, hfew, hall, fun z o n1 n2 ez => up4 _ _ n1 (s4 _ _ (s3 _ _ (k12 _ _ n2 (s1 _ _ ez)))), hD, b3, b4⟩
    · rintro σ H4 ⟨D, ra, pa, ts, sts, rfl, hs4, ht4, hD4, pt4, hra4, hpa4, few, all, k4, hD0, hra0, hpa0⟩
      have ho4 := k4 _ _ (ne_of ho ht (by intro z; cases z)) (ne_of ho hs (by intro z; cases z)) ho
      have hr4 := k4 _ _ (Ne.symm ntr) nrs hr_
      have lr_ := lbd fun b => .ref b.ra
      walk_at "go"
      refine ⟨dput_new hr4 (bdk_none hnb) lr_, ?_⟩
      obtain ⟨H5, e5⟩ : ∃ H5, H5 = upd H4 rt (.dK (bdk (fun b => .ref b.ra) bs ++ [(Sum.inr e.2.name, .ref ra)])) := ⟨_, rfl⟩
      rw [← e5]
      have k5 : ∀ z o, z ≠ rt → H4 z = some o → H5 z = some o := fun z o n e => by rw [e5]; exact upd_get n e
      have tk5 : TK H4 H5 := by rw [e5]; exact TK.dK hr4
      have hr5 : H5 rt = some (.dK (bdk (fun b => .ref b.ra) bs ++ [(Sum.inr e.2.name, .ref ra)])) := by rw [e5, upd_same]
      have ho5 := k5 _ _ (ne_of ho hr_ (by intro z; cases z)) ho4
      have hp5 := k5 _ _ (Ne.symm nrp) (k4 _ _ (Ne.symm ntp) nps hp)
      have lp_ := lbd fun b => .ref b.pa
      walk_at "go"
      refine ⟨dput_new hp5 (bdk_none hnb) lp_, ?_⟩
      obtain ⟨H6, e6⟩ : ∃ H6, H6 = upd H5 rp (.dK (bdk (fun b => .ref b.pa) bs ++ [(Sum.inr e.2.name, .ref pa)])) := ⟨_, rfl⟩
      rw [← e6]
      have k6 : ∀ z o, z ≠ rp → H5 z = some o → H6 z = some o := fun z o n e => by rw [e6]; exact upd_get n e
      have tk6 : TK H5 H6 := by rw [e6]; exact TK.dK hp5
      have hp6 : H6 rp = some (.dK (bdk (fun b => .ref b.pa) bs ++ [(Sum.inr e.2.name, .ref pa)])) := by rw [e6, upd_same]
      have kk : ∀ z o, z ≠ tr → z ≠ rt → z ≠ rp → z ≠ rs → H z = some o → H6 z = some o := fun z o n1 n2 n3 n4 ez => k6 _ _ n3 (k5 _ _ n2 (k4 _ _ n1 n4 ez))
      have tkk : TK H H6 := TK.of fun z o ez nt => by
        have no : ∀ {d : Addr} {kvs : List (Key × V)}, H d = some (.dK kvs) → z ≠ d := fun {d kvs} hd q => by
          rw [q, hd] at ez
          cases ez
          exact nt True.intro
        exact kk z o (no ht) (no hr_) (no hp) (no hs) ez
      have kl : ∀ z xs, H z = some (.lst xs) → H6 z = some (.lst xs) := fun z xs ez => kk z _ (ne_of ez ht (by intro z; cases z)) (ne_of ez hr_ (by intro z; cases z)) (ne_of ez hp (by intro z; cases z)) (ne_of ez hs (by intro z; cases z)) ez
      refine q1 ⟨e.2.name, text, .non, Txt.split text "\n", (List.range (Txt.split text "\n").length).map fun i : Nat => (i : Int), sts, ra, pa, D⟩ H6 ⟨rfl, few, all, rfl, rfl⟩ rfl rfl ⟨⟨dx, k6 _ _ (ne_of ho hp (by intro z; cases z)) ho5⟩, ?_, ?_, ?_, ?_, ?_, fun b hb => ?_, SU.nd⟩ kk
      · exact kk _ _ nwt nwr nwp nws hw
      · have := k6 _ _ ntp (k5 _ _ ntr ht4)
        unfold bdk
        rw [List.map_append]
        exact this
      · have := k6 _ _ nrp hr5
        unfold bdk
        rw [List.map_append]
        exact this
      · unfold bdk
        rw [List.map_append]
        exact hp6
      · have := k6 _ _ (Ne.symm nps) (k5 _ _ (Ne.symm nrs) hs4)
        unfold bdk
        rw [List.map_append]
        exact this
      · rcases List.mem_append.mp hb with z | z
        · obtain ⟨h1, h2, ts1, h3, h4⟩ := SU.at_ b z
          exact ⟨kl _ _ h1, kl _ _ h2, ts1, kl _ _ h3, Paired.mapP h4 fun _ _ z => z.tk tkk⟩
        · rw [List.mem_singleton.mp z]
          have nr : ∀ {d : Addr}, H d = none → d ≠ rt ∧ d ≠ rp := fun {d} hd => ⟨(ne_of_none hr_ hd).symm, (ne_of_none hp hd).symm⟩
          refine ⟨k6 _ _ (nr hra0).2 (k5 _ _ (nr hra0).1 hra4), ?_, ts, k6 _ _ (nr hD0).2 (k5 _ _ (nr hD0).1 hD4), Paired.mapP pt4 fun _ _ z => z.tk (tk5.trans tk6)⟩
          have := k6 _ _ (nr hpa0).2 (k5 _ _ (nr hpa0).1 hpa4)
          rw [this]
          unfold rgV
          rw [List.map_map]
          simp
theorem DealOk.but {K : PySem.W.Frag} {C CS : Addr} {H H' : Hp} {y dy x kp kd : Addr} {L : List (Addr × Pr)} {M : List (Addr × Hl)} (h : DealOk K C H x kp kd L M) (hy : H y = some (.ins CS dy [])) (k : ∀ z o, z ≠ y → H z = some o → H' z = some o) : DealOk K C H' x kp kd L M := by
  obtain ⟨dx, ho⟩ := h.ph.pa.ob
  have tk : TK H H' := TK.of fun z o ez nt => k z o (fun q => by
    rw [q, hy] at ez
    cases ez
    exact nt True.intro) ez
  refine ⟨⟨⟨⟨dx, k _ _ (ne_of ho hy (by intro z; cases z)) ho⟩, tk.pairs h.ph.pa.pr fun o e => k _ _ (ne_of h.ph.pa.pr.ls hy (by intro z; cases z)) e, k _ _ (ne_of h.ph.pa.pc hy (by intro z; cases z)) h.ph.pa.pc⟩, fun e he => (h.ph.at_ e he).tk tk⟩, h.g, h.gh⟩
def tw (W : List (Str × Str)) (k : Str) : Str := ((W.find? fun e => decide (e.1 = k)).map (·.2)).getD ""
theorem tw_mem {W : List (Str × Str)} {k : Str} (h : k ∈ W.map (·.1)) : (k, tw W k) ∈ W := by
  obtain ⟨e, he, rfl⟩ := List.mem_map.mp h
  unfold tw
  cases z : W.find? fun d => decide (d.1 = e.1) with
  | none =>
    have := List.find?_eq_none.mp z e he
    exact absurd (decide_eq_true rfl) this
  | some d =>
    have h1 := List.mem_of_find?_eq_some z
    have h2 := of_decide_eq_true (List.find?_some (p := fun d : Str × Str => decide (d.1 = e.1)) z)
    show (e.1, d.2) ∈ W
    rw [← h2]
    exact h1
def twl (W : List (Str × Str)) (ks : List Str) : List (Str × Str) := ks.map fun k => (k, tw W k)
theorem twl_fst {W : List (Str × Str)} {ks : List Str} : (twl W ks).map (·.1) = ks := by
  unfold twl
  rw [List.map_map]
  exact List.map_id _
theorem wk_put {W : List (Str × Str)} {k t : Str} (h : k ∉ W.map (·.1)) : putK (wk W) (Sum.inr k) (.str t) = wk (W ++ [(k, t)]) := by
  rw [putK_new _ (wk_none h)]
  unfold wk
  rw [List.map_append] <;> rfl
theorem yes_in {σ : St} {H : Hp} {Q : Bool → Hp → Prop} (h : Q true H) : tYes σ H Q := h
theorem gn_in {i : Nat} {v : V} {σ : St} {H : Hp} {Q : St → Hp → Prop} (h : Q (σ.set i (some v)) H) : gName i v σ H Q := h
def nsOf (M : List (Addr × Hl)) (n : Int) : List Str := (M.filter fun e => decide (e.2.side = n)).map fun e => e.2.name
theorem nsOf_nd {ps : List Pr} {M : List (Addr × Hl)} (GH : GoodH ps (M.map (·.2))) (n : Int) : (nsOf M n).Nodup := by
  have := GH.nd2
  exact this.sublist ((List.filter_sublist (l := M)).map _)
theorem nsOf_len {ps : List Pr} {M : List (Addr × Hl)} (GH : GoodH ps (M.map (·.2))) (n : Int) : (nsOf M n).length ≤ 4 := by
  have := GH.few n
  rw [List.filter_map, List.length_map] at this
  unfold nsOf
  rw [List.length_map]
  exact this
theorem nsOf_mem {M : List (Addr × Hl)} {n : Int} {m : Str} (h : m ∈ nsOf M n) : ∃ e ∈ M, e.2.name = m ∧ e.2.side = n := by
  unfold nsOf at h
  obtain ⟨e, he, rfl⟩ := List.mem_map.mp h
  have := List.mem_filter.mp he
  exact ⟨e, this.1, rfl, of_decide_eq_true this.2⟩
structure ReadB (ps : List Pr) (M : List (Addr × Hl)) (W0 : List (Str × Str)) (bs : List Bd) : Prop where
  all : ∀ b ∈ bs, ∃ e ∈ M, e.2.name = b.name ∧ RowBd ps (M.map (·.2)) e.2 b ∧ (b.name, b.text) ∈ W0
structure SideIn (K : PySem.W.Frag) (CS CP : Addr) (H : Hp) (y dy x kp kd bd : Addr) (n : Int) (L : List (Addr × Pr)) (M : List (Addr × Hl)) (W0 : List (Str × Str)) : Prop where
  y : H y = some (.ins CS dy [])
  deal : DealOk K CP H x kp kd L M
  side : n = 0 ∨ n = 1
  bd : H bd = some (.dK (wk W0))
  nd : (W0.map (·.1)).Nodup
  few : W0.length ≤ 4
  tx : ∀ b ∈ W0, b.2.length ≤ 40000 ∧ cutS b.2 none (some 1) ≠ "("
def spSideInit (K : PySem.W.Frag) (CS CP NB NH : Addr) : Sp := fun vs H Q E => ∃ (y dy x kp kd bd : Addr) (n : Int) (L : List (Addr × Pr)) (M : List (Addr × Hl)) (W0 : List (Str × Str)), vs = [.ref y, .ref x, .int n, .ref bd] ∧ SideIn K CS CP H y dy x kp kd bd n L M W0 ∧
  ((∀ k, k ∈ W0.map (·.1) ↔ k ∈ nsOf M n) → ∀ H' wr tr rt rp rs W bs, (∀ z o, z ≠ y → H z = some o → z ≠ wr ∧ z ≠ tr ∧ z ≠ rt ∧ z ≠ rp ∧ z ≠ rs) → SideUp K CS H' y x n wr tr rt rp rs W bs → W.map (·.1) = nsOf M n → (∀ b ∈ W, b ∈ W0) → bs.map (·.name) = nsOf M n → ReadB (L.map (·.2)) M W0 bs → (∀ z o, z ≠ y → H z = some o → H' z = some o) → Q .non H') ∧
  ((∀ k, k ∈ W0.map (·.1) ↔ k ∈ nsOf M n) → ∀ pre e post tx i bs, nsOf M n = pre ++ e.2.name :: post → e ∈ M → (e.2.name, tx) ∈ W0 → bs.map (·.name) = pre → ReadB (L.map (·.2)) M W0 bs → ReadBad (L.map (·.2)) (M.map (·.2)) e.2 (Txt.split tx "\n") i → ∀ d H', H d = none → H' d = some (.xd [("at", .int i), ("name", .str e.2.name)]) → (∀ z o, z ≠ y → H z = some o → H' z = some o) → E (.ref NB) (some d) H') ∧
  (∀ r z zs, PfX.Xor (nsOf M n).reverse (W0.map (·.1)).reverse r → (z :: zs).Perm r → PyProof.Rows.sortedS (z :: zs) = true → ∀ d H', H d = none → H' d = some (.xd [("name", .str z)]) → Same H H' → E (.ref NH) (some d) H')
theorem ok_Side___init__ (T : Txt w K mg a) : FnOk P w K mg base (L2.CX P w) 12 a.f_Side___init__ a.d_Side___init__ ["self", "pacts", "number", "bodies"] (spSideInit K a.c_Side a.c_Pacts a.c_NoBody a.c_NoHelper) := by
  have G_Pacts_names := ok_Pacts_names (P := P) (w := w) (base := base) T
  have G_NoHelper___init__ := ok_NoHelper___init__ (P := P) (w := w) (base := base) T
  have G_Side_read_body := ok_Side_read_body (P := P) (w := w) (base := base) T
  have cl_Side := T.cl_Side
  have na_Side_deal := T.na_Side_deal
  have na_Side_which := T.na_Side_which
  have na_Side_written := T.na_Side_written
  have na_Side_trees := T.na_Side_trees
  have na_Side_row_texts := T.na_Side_row_texts
  have na_Side_row_places := T.na_Side_row_places
  have na_Side_row_steps := T.na_Side_row_steps
  have cl_Pacts := T.cl_Pacts
  refine T.F_Side___init__.okX sc_Side___init__ (fun vs H Q E h => ?_) (fun cdv A outer s H vs Q E hr h => ?_)
  · obtain ⟨y, dy, x, kp, kd, bd, n, L, M, W0, rfl, _⟩ := h
    rfl
  · obtain ⟨y, dy, x, kp, kd, bd, n, L, M, W0, rfl, SI, q1, q2, q3⟩ := h
    have DO := SI.deal
    have GH := DO.gh
    have PH := DO.ph
    obtain ⟨dx, ho⟩ := PH.pa.ob
    have hy := SI.y
    have hbd := SI.bd
    have lM : M.length ≤ 10000 := by
      have := GH.len
      rw [List.length_map] at this
      omega
    have nsn := nsOf_nd GH n
    have nsl := nsOf_len GH n
    have kW : (wk W0).map (·.1) = (W0.map (·.1)).map Sum.inr := by unfold wk; rw [List.map_map, List.map_map] <;> rfl
    have lW : (W0.map (·.1)).length ≤ 7 := by rw [List.length_map]; exact Nat.le_trans SI.few (by decide)
    refine ⟨_, (pss_cons (ps_set (i := 4) sc_Side___init__.nd rfl (Or.inl rfl) (pe_meth (pv 1) T.cl_Pacts T.mt_Pacts_names G_Pacts_names (hr.mono (by decide)) T.b_Pacts_names .nil pass0 (pa_cons (pv 2) pa_nil)))
      (pss_cons (ps_stop (ps_for (passes_of rfl) rfl (pi_wait (pi_list (by exact (pe_callB (cr_sortY rfl) (by rfl) T.z_sorted (by decide +kernel) (pa_cons (pe_op op_xorS (pe_callTy (cr_setX rfl) (by rfl) T.z_set (by decide +kernel) (pa_cons (pv 4) pa_nil)) (pe_callTy (cr_setX rfl) (by rfl) T.z_set (by decide +kernel) (pa_cons (pv 3) pa_nil))) pa_nil))))) (pg_name (i := 5) sc_Side___init__.nd rfl (Or.inl rfl)) (pss_one (ps_raise rfl (takes_of rfl rfl rfl rfl) (pmk_oex T.ox_NoHelper T.ini_NoHelper T.ti_NoHelper G_NoHelper___init__ (hr.mono (by decide)) T.b_NoHelper___init__ .nil pass0 rfl T.m_NoHelper (by exact (pa_cons (pv 5) pa_nil)))))))
      (pss_cons (ps_fld (pv 0) (pv 1) rfl)
      (pss_cons (ps_fld (pv 0) (pv 2) rfl)
      (pss_cons (ps_fld (pv 0) (pe_dc (own := [("name", 5)]) (g := gName 5) (tt := tYes) rfl sc_Side___init__.nd (pi_list (pv 4)) (blkOk_by (own := [("name", 5)]) (N := n_Side___init__) (sc := defScope s_Side___init__) (by decide +kernel)) (fun _ _ _ _ _ => (pg_name (i := 5) sc_Side___init__.nd rfl (Or.inl rfl))) (fun _ _ _ _ _ => pts_nil) (fun _ _ _ _ _ => (pv 5)) (fun _ _ _ _ _ => (pe_dget (hu_of hr) (pv 3) (pv 5) (fun _ _ => rfl)))) rfl)
      (pss_cons (ps_fld (pv 0) pe_dnewK rfl)
      (pss_cons (ps_fld (pv 0) pe_dnewK rfl)
      (pss_cons (ps_fld (pv 0) pe_dnewK rfl)
      (pss_cons (ps_fld (pv 0) pe_dnewK rfl)
      (pss_one (ps_stop (ps_for (passes_of rfl) rfl (pi_wait (pi_list (pv 4))) (pg_name (i := 5) sc_Side___init__.nd rfl (Or.inl rfl)) (pss_one (ps_expr (pe_meth (pv 0) T.cl_Side T.mt_Side_read_body G_Side_read_body (hr.mono (by decide)) T.b_Side_read_body .nil (passes_call (takes_of rfl rfl rfl rfl) (fun _ _ _ _ h => h)) (pa_cons (pv 5) pa_nil)))))))))))))))), ?_⟩
    walk_at "go"
    intro D H1 hD hD1 s1
    have hD1 : H1 D = some (.lst ((nsOf M n).map V.str)) := hD1
    refine gn_in ?_
    with_reducible refine sq_seq ?_
    with_reducible refine stop_in ?_
    walk_at "go"
    refine ⟨.inl ⟨SqL.of hD1, nsl⟩, nsn, Nat.le_trans nsl (by decide), fun a2 ha2 => ?_⟩
    obtain ⟨H2, e2⟩ : ∃ H2, H2 = upd H1 a2 (SetX P w a2 (nsOf M n).reverse) := ⟨_, rfl⟩
    have s2 : Same H1 H2 := by rw [e2]; exact Same.upd_new ha2
    have h2 : H2 a2 = some (SetX P w a2 (nsOf M n).reverse) := by rw [e2, upd_same]
    show tCB _ _ _ (upd H1 a2 (SetX P w a2 (nsOf M n).reverse)) _
    rw [← e2]
    have hbd2 := s2 _ _ (s1 _ _ hbd)
    refine ⟨_, rfl, bd, W0.map (·.1), rfl, .inr ⟨wk W0, .inl hbd2, kW⟩, SI.nd, lW, fun a3 ha3 => ?_⟩
    have s3 : Same H2 (upd H2 a3 (SetX P w a3 (W0.map (·.1)).reverse)) := Same.upd_new ha3
    refine ⟨a2, a3, _, _, rfl, rfl, s3 _ _ h2, upd_same, fun r z hx hz => ?_⟩
    have s4 := Same.upd_new (o := SetY P w z r) hz
    have lr : r.length < 64 := by
      have := nodup_sub_len (m := (nsOf M n).reverse ++ (W0.map (·.1)).reverse) hx.1 fun k hk => by
        rcases (hx.2 k).mp hk with c | c
        · exact List.mem_append_right _ c.1
        · exact List.mem_append_left _ c.2
      rw [List.length_append, List.length_reverse, List.length_reverse] at this
      omega
    refine ⟨z, r, rfl, upd_same, lr, fun ys p5 pm so hp5 => ?_⟩
    have s5 := Same.upd_new (o := .lst (ys.map V.str)) hp5
    obtain ⟨H5, e5⟩ : ∃ H5, H5 = upd (upd (upd H2 a3 (SetX P w a3 (W0.map (·.1)).reverse)) z (SetY P w z r)) p5 (.lst (ys.map V.str)) := ⟨_, rfl⟩
    have s05 : Same H H5 := by rw [e5]; exact (((s1.trans s2).trans s3).trans s4).trans s5
    have hD5 : H5 D = some (.lst ((nsOf M n).map V.str)) := by rw [e5]; exact s5 _ _ (s4 _ _ (s3 _ _ (s2 _ _ hD1)))
    have h5 : H5 p5 = some (.lst (ys.map V.str)) := by rw [e5, upd_same]
    refine ⟨p5, rfl, ⟨_, SqL.of upd_same⟩, wait ?_⟩
    refine ⟨fun i m σ H' => i = 0 ∧ H' = H5 ∧ σ = [some (.ref y), some (.ref x), some (.int n), some (.ref bd), some (.ref D), none], ⟨0, rfl, e5.symm, rfl⟩, ?_⟩
    rintro i m σ H' ⟨rfl, eH', rfl⟩
    rw [eH']
    have hys : ys = [] ∨ ∃ z0 zs, ys = z0 :: zs := by cases ys with | nil => exact .inl rfl | cons z0 zs => exact .inr ⟨z0, zs, rfl⟩
    refine Or.elim hys (fun ey => ?_) (fun hc => Exists.elim hc fun z0 hc => Exists.elim hc fun zs ey => ?_)
    rotate_left 1
    · have hgo : (Itl K p5).go 0 H5 := ⟨_, V.str z0, SqL.of h5, by rw [ey] <;> rfl⟩
      refine .inr ⟨hgo, fun _ _ => False, fun _ _ z => z.elim, fun v H6 yl => ?_⟩
      have hv := yl.2 _ (SqL.of h5)
      have eh6 : H6 = H5 := yl.1
      rw [ey] at hv pm so
      cases hv
      rw [eh6]
      walk_at "go"
      exact (raise_err fun d H6 hd hd6 s6 => q3 r z0 zs hx pm so d H6 (same_none' s05 hd) hd6 (s05.trans s6)).2
    · have hst : (Itl K p5).stop 0 H5 := ⟨_, SqL.of h5, by rw [ey] <;> exact Nat.le_refl _⟩
      refine .inl ⟨hst, ?_⟩
      have r0 : r = [] := by
        rw [ey] at pm
        exact pm.symm.eq_nil
      have heq : ∀ k, k ∈ W0.map (·.1) ↔ k ∈ nsOf M n := fun k => by
        have := hx.2 k
        rw [r0] at this
        simp only [List.mem_reverse, List.not_mem_nil, false_iff, not_or, not_and, Classical.not_not] at this
        exact ⟨fun c => this.1 c, fun c => Classical.byContradiction fun d => this.2 d c⟩
      have hy5 := s05 _ _ hy
      have hbd5 := s05 _ _ hbd
      have nDy : D ≠ y := ne_of hD5 hy5 (by intro z; cases z)
      have nby : bd ≠ y := ne_of hbd5 hy5 (by intro z; cases z)
      obtain ⟨H6, e6⟩ : ∃ H6, H6 = upd (upd H5 y (.ins a.c_Side dy [("deal", .ref x)])) y (.ins a.c_Side dy [("deal", .ref x), ("which", .int n)]) := ⟨_, rfl⟩
      have hy6 : H6 y = some (.ins a.c_Side dy [("deal", .ref x), ("which", .int n)]) := by rw [e6, upd_same]
      have k6 : ∀ z o, z ≠ y → H5 z = some o → H6 z = some o := fun z o n e => by rw [e6]; exact upd_get n (upd_get n e)
      have hD6 := k6 _ _ nDy hD5
      have hbd6 := k6 _ _ nby hbd5
      have hq6 : SqL K (upd (upd H5 y (.ins a.c_Side dy [("deal", .ref x)])) y (.ins a.c_Side dy [("deal", .ref x), ("which", .int n)])) D ((nsOf M n).map V.str) := SqL.of (by rw [← e6]; exact hD6)
      with_reducible refine sq_seq ?_
      refine ⟨_, rfl, _, rfl, y, _, dy, _, rfl, hy5, T.cl_Side, T.na_Side_deal, by decide, ?_⟩
      with_reducible refine sq_seq ?_
      refine ⟨_, rfl, _, rfl, y, _, dy, _, rfl, upd_same, T.cl_Side, T.na_Side_which, Nat.le_of_ble_eq_true rfl, ?_⟩
      with_reducible refine sq_seq ?_
      show sFld _ _ _ _ _ _ (upd (upd H5 y (.ins a.c_Side dy [("deal", .ref x)])) y (.ins a.c_Side dy [("deal", .ref x), ("which", .int n)]))
      rw [← e6]
      have hq6 : SqL K H6 D ((nsOf M n).map V.str) := SqL.of hD6
      refine ⟨_, rfl, D, rfl, ⟨_, hq6⟩, fun p7 hp7 => ?_⟩
      have n7D : p7 ≠ D := (ne_of_none hD6 hp7).symm
      have n7b : p7 ≠ bd := (ne_of_none hbd6 hp7).symm
      refine dcW (walk_list (K := K) (a := D) (xs := (nsOf M n).map V.str)) (fun i H7 => H7 p7 = some (.dK (wk (twl W0 ((nsOf M n).take i)))) ∧ ∀ z o, z ≠ p7 → H6 z = some o → H7 z = some o) ⟨upd_same, fun z o q e => upd_get q e⟩ ?_ ?_ ?_
      · exact fun i H7 _ c => SqL.of (c.2 _ _ n7D.symm hD6)
      · intro i v H7 H8 hi c yl
        obtain ⟨eh8, hv⟩ := yl
        subst eh8
        rw [List.length_map] at hi
        have hv2 : v = .str (nsOf M n)[i] := by
          rw [List.getElem?_map, List.getElem?_eq_getElem hi] at hv
          exact (Option.some.inj hv).symm
        subst hv2
        have hb7 := c.2 _ _ n7b.symm hbd6
        have hk : (nsOf M n)[i] ∈ W0.map (·.1) := (heq _).mpr (List.getElem_mem hi)
        have hget : DGet H8 bd (.str (nsOf M n)[i]) (some (.str (tw W0 (nsOf M n)[i]))) := by
          have := DGet.k (k := Sum.inr (nsOf M n)[i]) hb7
          rw [wk_val (e := ((nsOf M n)[i], tw W0 (nsOf M n)[i])) SI.nd (tw_mem hk)] at this
          exact this
        have hn : (nsOf M n)[i] ∉ (nsOf M n).take i := by
          have hs := nsn.sublist (List.take_sublist (i + 1) (nsOf M n))
          rw [← List.take_append_getElem hi] at hs
          intro z
          exact (List.nodup_append.mp hs).2.2 _ z _ (List.mem_singleton.mpr rfl) rfl
        refine ⟨rfl, ?_⟩
        refine yes_in ?_
        refine ifT rfl ?_
        refine ⟨_, rfl, _, rfl, _, rfl, bd, _, rfl, hget, wk (twl W0 ((nsOf M n).take i)), Sum.inr (nsOf M n)[i], rfl, c.1, ?_, wait ⟨?_, fun z o q e => upd_get q (c.2 _ _ q e)⟩⟩
        · refine small_lt ?_
          unfold wk twl
          rw [List.length_map, List.length_map, List.length_take]
          omega
        · rw [upd_same, wk_put (by rw [twl_fst]; exact hn), ← List.take_append_getElem hi]
          unfold twl
          rw [List.map_append] <;> rfl
      · rintro H7 ⟨h7, k7⟩
        rw [List.length_map, List.take_length] at h7
        have hy7 := k7 _ _ (ne_of_none hy6 hp7) hy6
        have hD7 := k7 _ _ n7D.symm hD6
        refine ⟨_, rfl, y, _, dy, _, rfl, hy7, T.cl_Side, T.na_Side_written, Nat.le_of_ble_eq_true rfl, ?_⟩
        with_reducible refine sq_seq ?_
        show sFld _ _ _ _ _ _ (upd H7 y (.ins a.c_Side dy [("deal", V.ref x), ("which", V.int n), ("written", V.ref p7)]))
        obtain ⟨H8, e8⟩ : ∃ H8, H8 = upd H7 y (.ins a.c_Side dy [("deal", V.ref x), ("which", V.int n), ("written", V.ref p7)]) := ⟨_, rfl⟩
        rw [← e8]
        have hy8 : H8 y = some (.ins a.c_Side dy [("deal", V.ref x), ("which", V.int n), ("written", V.ref p7)]) := by rw [e8, upd_same]
        have k8 : ∀ z o, z ≠ y → H7 z = some o → H8 z = some o := fun z o n e => by rw [e8]; exact upd_get n e
        have h78 := k8 _ _ (ne_of h7 hy7 (by intro z; cases z)) h7
        intro p9 hp9
        have hy8' : upd H8 p9 (.dK []) y = some (.ins a.c_Side dy [("deal", V.ref x), ("which", V.int n), ("written", V.ref p7)]) := upd_get (ne_of_none hy8 hp9) hy8
        refine ⟨_, rfl, y, _, dy, _, rfl, hy8', T.cl_Side, T.na_Side_trees, Nat.le_of_ble_eq_true rfl, ?_⟩
        with_reducible refine sq_seq ?_
        show sFld _ _ _ _ _ _ (upd (upd H8 p9 (.dK [])) y (.ins a.c_Side dy [("deal", V.ref x), ("which", V.int n), ("written", V.ref p7), ("trees", V.ref p9)]))
        obtain ⟨H9, e9⟩ : ∃ H9, H9 = upd (upd H8 p9 (.dK [])) y (.ins a.c_Side dy [("deal", V.ref x), ("which", V.int n), ("written", V.ref p7), ("trees", V.ref p9)]) := ⟨_, rfl⟩
        rw [← e9]
        have hy9 : H9 y = some (.ins a.c_Side dy [("deal", V.ref x), ("which", V.int n), ("written", V.ref p7), ("trees", V.ref p9)]) := by rw [e9, upd_same]
        have k9 : ∀ z o, z ≠ y → H8 z = some o → H9 z = some o := fun z o n e => by rw [e9]; exact upd_get n (upd_get (ne_of_none e hp9) e)
        have d9 : H9 p9 = some (.dK []) := by rw [e9]; exact upd_get (ne_of_none hy8 hp9).symm upd_same
        intro p10 hp10
        have hy9' : upd H9 p10 (.dK []) y = some (.ins a.c_Side dy [("deal", V.ref x), ("which", V.int n), ("written", V.ref p7), ("trees", V.ref p9)]) := upd_get (ne_of_none hy9 hp10) hy9
        refine ⟨_, rfl, y, _, dy, _, rfl, hy9', T.cl_Side, T.na_Side_row_texts, Nat.le_of_ble_eq_true rfl, ?_⟩
        with_reducible refine sq_seq ?_
        show sFld _ _ _ _ _ _ (upd (upd H9 p10 (.dK [])) y (.ins a.c_Side dy [("deal", V.ref x), ("which", V.int n), ("written", V.ref p7), ("trees", V.ref p9), ("row_texts", V.ref p10)]))
        obtain ⟨H10, e10⟩ : ∃ H10, H10 = upd (upd H9 p10 (.dK [])) y (.ins a.c_Side dy [("deal", V.ref x), ("which", V.int n), ("written", V.ref p7), ("trees", V.ref p9), ("row_texts", V.ref p10)]) := ⟨_, rfl⟩
        rw [← e10]
        have hy10 : H10 y = some (.ins a.c_Side dy [("deal", V.ref x), ("which", V.int n), ("written", V.ref p7), ("trees", V.ref p9), ("row_texts", V.ref p10)]) := by rw [e10, upd_same]
        have k10 : ∀ z o, z ≠ y → H9 z = some o → H10 z = some o := fun z o n e => by rw [e10]; exact upd_get n (upd_get (ne_of_none e hp10) e)
        have d10 : H10 p10 = some (.dK []) := by rw [e10]; exact upd_get (ne_of_none hy9 hp10).symm upd_same
        intro p11 hp11
        have hy10' : upd H10 p11 (.dK []) y = some (.ins a.c_Side dy [("deal", V.ref x), ("which", V.int n), ("written", V.ref p7), ("trees", V.ref p9), ("row_texts", V.ref p10)]) := upd_get (ne_of_none hy10 hp11) hy10
        refine ⟨_, rfl, y, _, dy, _, rfl, hy10', T.cl_Side, T.na_Side_row_places, Nat.le_of_ble_eq_true rfl, ?_⟩
        with_reducible refine sq_seq ?_
        show sFld _ _ _ _ _ _ (upd (upd H10 p11 (.dK [])) y (.ins a.c_Side dy [("deal", V.ref x), ("which", V.int n), ("written", V.ref p7), ("trees", V.ref p9), ("row_texts", V.ref p10), ("row_places", V.ref p11)]))
        obtain ⟨H11, e11⟩ : ∃ H11, H11 = upd (upd H10 p11 (.dK [])) y (.ins a.c_Side dy [("deal", V.ref x), ("which", V.int n), ("written", V.ref p7), ("trees", V.ref p9), ("row_texts", V.ref p10), ("row_places", V.ref p11)]) := ⟨_, rfl⟩
        rw [← e11]
        have hy11 : H11 y = some (.ins a.c_Side dy [("deal", V.ref x), ("which", V.int n), ("written", V.ref p7), ("trees", V.ref p9), ("row_texts", V.ref p10), ("row_places", V.ref p11)]) := by rw [e11, upd_same]
        have k11 : ∀ z o, z ≠ y → H10 z = some o → H11 z = some o := fun z o n e => by rw [e11]; exact upd_get n (upd_get (ne_of_none e hp11) e)
        have d11 : H11 p11 = some (.dK []) := by rw [e11]; exact upd_get (ne_of_none hy10 hp11).symm upd_same
        intro p12 hp12
        have hy11' : upd H11 p12 (.dK []) y = some (.ins a.c_Side dy [("deal", V.ref x), ("which", V.int n), ("written", V.ref p7), ("trees", V.ref p9), ("row_texts", V.ref p10), ("row_places", V.ref p11)]) := upd_get (ne_of_none hy11 hp12) hy11
        refine ⟨_, rfl, y, _, dy, _, rfl, hy11', T.cl_Side, T.na_Side_row_steps, Nat.le_of_ble_eq_true rfl, ?_⟩
        with_reducible refine stop_in ?_
        show tFor _ _ _ _ _ (upd (upd H11 p12 (.dK [])) y (.ins a.c_Side dy [("deal", V.ref x), ("which", V.int n), ("written", V.ref p7), ("trees", V.ref p9), ("row_texts", V.ref p10), ("row_places", V.ref p11), ("row_steps", V.ref p12)]))
        obtain ⟨H12, e12⟩ : ∃ H12, H12 = upd (upd H11 p12 (.dK [])) y (.ins a.c_Side dy [("deal", V.ref x), ("which", V.int n), ("written", V.ref p7), ("trees", V.ref p9), ("row_texts", V.ref p10), ("row_places", V.ref p11), ("row_steps", V.ref p12)]) := ⟨_, rfl⟩
        rw [← e12]
        have hy12 : H12 y = some (.ins a.c_Side dy [("deal", V.ref x), ("which", V.int n), ("written", V.ref p7), ("trees", V.ref p9), ("row_texts", V.ref p10), ("row_places", V.ref p11), ("row_steps", V.ref p12)]) := by rw [e12, upd_same]
        have k12 : ∀ z o, z ≠ y → H11 z = some o → H12 z = some o := fun z o n e => by rw [e12]; exact upd_get n (upd_get (ne_of_none e hp12) e)
        have d12 : H12 p12 = some (.dK []) := by rw [e12]; exact upd_get (ne_of_none hy11 hp12).symm upd_same
        have n7y : p7 ≠ y := ne_of h78 hy8 (by intro z; cases z)
        have n9y : p9 ≠ y := ne_of d9 hy9 (by intro z; cases z)
        have n10y : p10 ≠ y := ne_of d10 hy10 (by intro z; cases z)
        have n11y : p11 ≠ y := ne_of d11 hy11 (by intro z; cases z)
        have w9 := k9 _ _ n7y h78
        have w10 := k10 _ _ n7y w9
        have w11 := k11 _ _ n7y w10
        have w12 := k12 _ _ n7y w11
        have t10 := k10 _ _ n9y d9
        have t11 := k11 _ _ n9y t10
        have t12 := k12 _ _ n9y t11
        have r11 := k11 _ _ n10y d10
        have r12 := k12 _ _ n10y r11
        have q12 := k12 _ _ n11y d11
        have hD12 := k12 _ _ nDy (k11 _ _ nDy (k10 _ _ nDy (k9 _ _ nDy (k8 _ _ nDy hD7))))
        have kA : ∀ z o, z ≠ y → H z = some o → H12 z = some o := fun z o n e => k12 _ _ n (k11 _ _ n (k10 _ _ n (k9 _ _ n (k8 _ _ n (k7 _ _ (ne_of_none (k6 _ _ n (s05 _ _ e)) hp7) (k6 _ _ n (s05 _ _ e)))))))
        have fr : ∀ z o, z ≠ y → H z = some o → z ≠ p7 ∧ z ≠ p9 ∧ z ≠ p10 ∧ z ≠ p11 ∧ z ≠ p12 := fun z o n e => by
          have c6 := k6 _ _ n (s05 _ _ e)
          have c8 := k8 _ _ n (k7 _ _ (ne_of_none c6 hp7) c6)
          have c9 := k9 _ _ n c8
          have c10 := k10 _ _ n c9
          have c11 := k11 _ _ n c10
          exact ⟨ne_of_none c6 hp7, ne_of_none c8 hp9, ne_of_none c9 hp10, ne_of_none c10 hp11, ne_of_none c11 hp12⟩
        have SU0 : SideUp K a.c_Side H12 y x n p7 p9 p10 p11 p12 (twl W0 (nsOf M n)) [] := by
          refine ⟨⟨dy, hy12⟩, w12, t12, r12, q12, d12, (fun b hb => nomatch hb), ?_⟩
          simp only [List.nodup_cons, List.mem_cons, List.not_mem_nil, or_false, not_or, not_false_eq_true, List.nodup_nil, and_true]
          exact ⟨⟨ne_of_none h78 hp9, ne_of_none w9 hp10, ne_of_none w10 hp11, ne_of_none w11 hp12⟩, ⟨ne_of_none d9 hp10, ne_of_none t10 hp11, ne_of_none t11 hp12⟩, ⟨ne_of_none d10 hp11, ne_of_none r11 hp12⟩, ne_of_none d11 hp12⟩
        have ndW : ((twl W0 (nsOf M n)).map (·.1)).Nodup := by rw [twl_fst]; exact nsn
        refine ⟨_, rfl, D, rfl, ⟨_, SqL.of hD12⟩, wait ?_⟩
        refine forL (K := K) (a := D) (xs := (nsOf M n).map V.str) (fun i σ H' => (∃ u5, σ = [some (.ref y), some (.ref x), some (.int n), some (.ref bd), some (.ref D), u5]) ∧ ∃ bs, SideUp K a.c_Side H' y x n p7 p9 p10 p11 p12 (twl W0 (nsOf M n)) bs ∧ bs.map (·.name) = (nsOf M n).take i ∧ ReadB (L.map (·.2)) M W0 bs ∧ (∀ z o, z ≠ y → H z = some o → H' z = some o) ∧ H' D = some (.lst ((nsOf M n).map V.str))) ?_ ?_ ?_ ?_
        · exact ⟨⟨_, rfl⟩, [], SU0, by rw [List.take_zero] <;> rfl, ⟨fun b hb => nomatch hb⟩, kA, hD12⟩
        · exact fun i σ H' _ c => SqL.of (by obtain ⟨_, bs, _, _, _, _, c⟩ := c; exact c)
        · rintro i v σ H' hx ⟨⟨u5, rfl⟩, bs, SU, eb, RB, kk, hD'⟩
          rw [List.getElem?_map] at hx
          obtain ⟨k, hk, rfl⟩ := Option.map_eq_some_iff.mp hx
          obtain ⟨hi, ek⟩ := List.getElem?_eq_some_iff.mp hk
          have hkm : k ∈ nsOf M n := List.mem_of_getElem? hk
          obtain ⟨e, he, en, es⟩ := nsOf_mem hkm
          subst en
          have DO' := DO.but hy kk
          have hW0 := tw_mem ((heq _).mpr hkm)
          have hW : (e.2.name, tw W0 e.2.name) ∈ twl W0 (nsOf M n) := List.mem_map.mpr ⟨_, hkm, rfl⟩
          have hnd : ((nsOf M n).take i ++ [e.2.name]).Nodup := by
            have hs := nsn.sublist (List.take_sublist (i + 1) (nsOf M n))
            rw [← List.take_append_getElem hi, ek] at hs
            exact hs
          have hnb : e.2.name ∉ bs.map (·.name) := by
            rw [eb]
            intro z
            exact (List.nodup_append.mp hnd).2.2 _ z _ (List.mem_singleton.mpr rfl) rfl
          have lb : bs.length ≤ 100 := by
            have := congrArg List.length eb
            rw [List.length_map, List.length_take] at this
            omega
          have hlt := (SI.tx _ hW0).1
          have hcut := (SI.tx _ hW0).2
          obtain ⟨dy', ho'⟩ := SU.ob
          walk_at "go"
          refine ⟨fun b H2 rb bn bt SU2 k2 => wait ⟨⟨_, rfl⟩, bs ++ [b], SU2, ?_, ⟨fun c hc => ?_⟩, fun z o n ez => k2 z o (fr z o n ez).2.1 (fr z o n ez).2.2.1 (fr z o n ez).2.2.2.1 (fr z o n ez).2.2.2.2 (kk z o n ez), k2 _ _ (ne_of hD12 t12 (by intro z; cases z)) (ne_of hD12 r12 (by intro z; cases z)) (ne_of hD12 q12 (by intro z; cases z)) (ne_of hD12 d12 (by intro z; cases z)) hD'⟩, fun j hb d H2 hd hd2 s2 => ?_⟩
          · rw [List.map_append, eb, ← List.take_append_getElem hi, ek]
            show _ ++ [b.name] = _
            rw [bn]
          · rcases List.mem_append.mp hc with z | z
            · exact RB.all c z
            · rw [List.mem_singleton.mp z]
              exact ⟨e, he, bn.symm, rb, by rw [bn, bt]; exact hW0⟩
          · have hd0 : H d = none := by
              cases z : H d with
              | none => rfl
              | some o =>
                by_cases q : d = y
                · rw [q, ho'] at hd; cases hd
                · rw [kk _ _ q z] at hd; cases hd
            refine q2 heq ((nsOf M n).take i) e ((nsOf M n).drop (i + 1)) _ j bs ?_ he hW0 eb RB hb d H2 hd0 hd2 fun z o n ez => s2 _ _ (kk z o n ez)
            have h1 := List.drop_eq_getElem_cons hi
            rw [ek] at h1
            rw [← h1, List.take_append_drop]
        · rintro σ H' ⟨⟨u5, rfl⟩, bs, SU, eb, RB, kk, hD'⟩
          rw [List.length_map, List.take_length] at eb
          exact q1 heq H' p7 p9 p10 p11 p12 _ bs fr SU twl_fst (fun b hb => by
            obtain ⟨k, hk, rfl⟩ := List.mem_map.mp hb
            exact tw_mem ((heq _).mpr hk)) eb RB kk
abbrev tbf (ta tb : Addr) : List (Str × V) := [("turns", .ref ta), ("kept", .ref tb), ("peak", .int 0)]
structure Tab0 (C : Addr) (H : Hp) (t ta tb : Addr) : Prop where
  ob : ∃ dx, H t = some (.ins C dx (tbf ta tb))
  tu : H ta = some (.lst [])
  kp : H tb = some (.dK [])
theorem Tab0.keep {C : Addr} {H H' : Hp} {t ta tb : Addr} (h : Tab0 C H t ta tb) (k : ∀ z ∈ [t, ta, tb], ∀ o, H z = some o → H' z = some o) : Tab0 C H' t ta tb := by
  obtain ⟨dx, ho⟩ := h.ob
  exact ⟨⟨dx, k _ (by simp) _ ho⟩, k _ (by simp) _ h.tu, k _ (by simp) _ h.kp⟩
def spTabInit (C : Addr) : Sp := fun vs H Q _ => ∃ (t dx : Addr), vs = [.ref t] ∧ H t = some (.ins C dx []) ∧ ∀ (ta tb : Addr) (H' : Hp), H ta = none → H tb = none → Tab0 C H' t ta tb → (∀ x o, x ≠ t → H x = some o → H' x = some o) → Q .non H'
theorem ok_Table___init__ (T : Txt w K mg a) : FnOk P w K mg base CX0 1 a.f_Table___init__ a.d_Table___init__ ["self"] (spTabInit a.c_Table) := by
  have cl_Table := T.cl_Table
  have na_Table_turns := T.na_Table_turns
  have na_Table_kept := T.na_Table_kept
  have na_Table_peak := T.na_Table_peak
  refine T.F_Table___init__.ok sc_Table___init__ (fun vs H Q E h => ?_) (fun cdv A outer s H vs Q E hr h => ?_)
  · obtain ⟨t, dx, rfl, _⟩ := h
    rfl
  · obtain ⟨t, dx, rfl, ht, q⟩ := h
    have cl := T.cl_Table
    have n1 := T.na_Table_turns
    have n2 := T.na_Table_kept
    have n3 := T.na_Table_peak
    refine ⟨_, (pss_cons (ps_fld (pv 0) (pe_lst pa_nil) rfl)
      (pss_cons (ps_fld (pv 0) pe_dnewK rfl)
      (pss_one (ps_fld (pv 0) pe_int rfl)))), ?_⟩
    refine ⟨Nat.zero_le _, fun lt hlt => ?_⟩
    have ntl : t ≠ lt := ne_of_none ht hlt
    walk_at "go"
    intro dk hdk
    have ntd : t ≠ dk := fun z => by rw [← z, upd_same] at hdk; cases hdk
    have hdk1 : upd H lt (.lst []) dk = none := by rw [upd_ne ntd.symm] at hdk; exact hdk
    have nld : lt ≠ dk := fun z => by rw [← z, upd_same] at hdk1; cases hdk1
    have hdk2 : H dk = none := by rw [upd_ne nld.symm] at hdk1; exact hdk1
    walk_at "go"
    refine q lt dk _ hlt hdk2 ⟨⟨dx, ?_⟩, ?_, ?_⟩ ?_
    · exact upd_same
    · rw [upd_ne ntl.symm, upd_ne ntl.symm, upd_ne nld, upd_ne ntl.symm, upd_same] <;> rfl
    · rw [upd_ne ntd.symm, upd_ne ntd.symm, upd_same] <;> rfl
    · intro x o n e
      rw [upd_ne n, upd_ne n, upd_ne (ne_of_none e hdk2), upd_ne n, upd_ne (ne_of_none e hlt)]
      exact e
def spTwin0 (C : Addr) : Sp := fun vs H Q _ => ∃ (t ta tb : Addr), vs = [.ref t] ∧ Tab0 C H t ta tb ∧ ∀ (t' ta' tb' : Addr) (H' : Hp), H t' = none → H ta' = none → H tb' = none → Tab0 C H' t' ta' tb' → Same H H' → Q (.ref t') H'
theorem ok_Table_twin (T : Txt w K mg a) : FnOk P w K mg base CX0 3 a.f_Table_twin a.d_Table_twin ["self"] (spTwin0 a.c_Table) := by
  have G_Table___init__ := ok_Table___init__ (P := P) (w := w) (base := base) T
  have cl_Table := T.cl_Table
  have na_Table_turns := T.na_Table_turns
  have na_Table_kept := T.na_Table_kept
  have na_Table_peak := T.na_Table_peak
  refine T.F_Table_twin.ok sc_Table_twin (fun vs H Q E h => ?_) (fun cdv A outer s H vs Q E hr h => ?_)
  · obtain ⟨t, ta, tb, rfl, _⟩ := h
    rfl
  · obtain ⟨t, ta, tb, rfl, TA, q⟩ := h
    obtain ⟨dx0, ho⟩ := TA.ob
    have htu := TA.tu
    have hkp := TA.kp
    have cl := T.cl_Table
    have n1 := T.na_Table_turns
    have n2 := T.na_Table_kept
    have n3 := T.na_Table_peak
    refine ⟨_, (pss_cons (ps_set (i := 1) sc_Table_twin.nd rfl (Or.inl rfl) (pe_make0 T.mk_Table G_Table___init__ (hr.mono (by decide)) rfl T.m_Table T.b_Table___init__ .nil pass0))
      (pss_cons (ps_fld (pv 1) (pe_callTy call_list_of (by rfl) T.z_list (by decide +kernel) (pa_cons (pe_fld (pv 0) rfl) pa_nil)) rfl)
      (pss_cons (ps_fld (pv 1) (pe_callTy call_dictD (by rfl) T.z_dict (by decide +kernel) (pa_cons (pe_fld (pv 0) rfl) pa_nil)) rfl)
      (pss_cons (ps_fld (pv 1) (pe_fld (pv 0) rfl) rfl)
      (pss_one (ps_ret (pv 1))))))), ?_⟩
    walk_at "go"
    intro t2 dx nt2 ndx ne
    obtain ⟨H1, e1⟩ : ∃ H1, H1 = upd (upd H dx (.own t2)) t2 (.ins a.c_Table dx []) := ⟨_, rfl⟩
    have h1 : H1 t2 = some (.ins a.c_Table dx []) := by rw [e1, upd_same]
    have s1 : Same H H1 := fun z o e => by rw [e1]; exact upd_get (ne_of_none e nt2) (upd_get (ne_of_none e ndx) e)
    rw [← e1]
    refine ⟨t2, dx, rfl, h1, fun ta2 tb2 H2 hta2 htb2 T2 k2 => ⟨rfl, ?_⟩⟩
    have s2 : Same H H2 := fun z o e => k2 z o (ne_of_none e nt2) (s1 _ _ e)
    obtain ⟨dx2, ho2⟩ := T2.ob
    have ho_2 := s2 _ _ ho
    have htu_2 := s2 _ _ htu
    have hkp_2 := s2 _ _ hkp
    walk_at "go"
    intro l2 hl2
    have nxl : t2 ≠ l2 := ne_of_none ho2 hl2
    have ntl : t ≠ l2 := ne_of_none ho_2 hl2
    have ndl : tb ≠ l2 := ne_of_none hkp_2 hl2
    have ntx : t ≠ t2 := ne_of_none ho nt2
    have ndx2 : tb ≠ t2 := ne_of_none hkp nt2
    walk_at "go"
    intro d2 hd2
    have nxd : t2 ≠ d2 := fun z => by rw [← z, upd_same] at hd2; cases hd2
    have hd2b : upd H2 l2 (.lst []) d2 = none := by rw [upd_ne nxd.symm] at hd2; exact hd2
    have nld : l2 ≠ d2 := fun z => by rw [← z, upd_same] at hd2b; cases hd2b
    have hd2c : H2 d2 = none := by rw [upd_ne nld.symm] at hd2b; exact hd2b
    have ntd : t ≠ d2 := ne_of_none ho_2 hd2c
    walk_at "go"
    refine q t2 l2 d2 _ nt2 (same_none' s2 hl2) (same_none' s2 hd2c) ⟨⟨dx2, ?_⟩, ?_, ?_⟩ fun y o e => ?_
    · exact upd_same
    · rw [upd_ne nxl.symm, upd_ne nxl.symm, upd_ne nld, upd_ne nxl.symm, upd_same] <;> rfl
    · rw [upd_ne nxd.symm, upd_ne nxd.symm, upd_same] <;> rfl
    · have e1 := s2 _ _ e
      rw [upd_ne (ne_of_none e nt2), upd_ne (ne_of_none e nt2), upd_ne (ne_of_none e1 hd2c), upd_ne (ne_of_none e nt2), upd_ne (ne_of_none e1 hl2)]
      exact e1
theorem upd_none {G : Hp} {x t : Addr} {y : HO} (h : upd G t y x = none) : G x = none ∧ x ≠ t := by
  by_cases e : x = t
  · rw [e, upd_same] at h
    cases h
  · rw [upd_ne e] at h
    exact ⟨h, e⟩
theorem keep_none1 {H H' : Hp} {s z : Addr} (k : ∀ z o, z ≠ s → H z = some o → H' z = some o) (n : z ≠ s) (h : H' z = none) : H z = none := by
  cases e : H z with
  | none => rfl
  | some o =>
    rw [k _ _ n e] at h
    cases h
structure Sd where
  dx : Addr
  sl : Addr
  tbs : Addr
  t1 : Addr
  ta1 : Addr
  tb1 : Addr
  t2 : Addr
  ta2 : Addr
  tb2 : Addr
  lv : Addr
  v1 : Addr
  v2 : Addr
  ln : Addr
  n1 : Addr
  n2 : Addr
  os : Addr
  lo : Addr
  pl : Addr
  hd : Addr
  td : Addr
  wn : Addr
def Sd.al2 (A : Sd) : List Addr := [A.tbs, A.t1, A.ta1, A.tb1, A.t2, A.ta2, A.tb2, A.lv, A.v1, A.v2, A.ln, A.n1, A.n2, A.os, A.pl, A.hd, A.td]
def Sd.all (A : Sd) : List Addr := A.sl :: A.al2
abbrev sdf (A : Sd) (shut : Bool) : List (Str × V) := [("sides", .ref A.sl), ("tables", .ref A.tbs), ("live", .ref A.lv), ("loaners", .ref A.ln), ("on_shelf", .ref A.os), ("lent_out", .ref A.lo), ("pile", .ref A.pl), ("things", .int 0), ("entered", .int 0), ("room", .int 0), ("hands", .ref A.hd), ("told", .ref A.td), ("wanted", .ref A.wn), ("on_way", .non), ("fault", .non), ("outcome", .non), ("shut", .bl shut)]
structure SdP (CT : Addr) (H : Hp) (A : Sd) (near far : V) : Prop where
  sl : H A.sl = some (.lst [near, far])
  tb : H A.tbs = some (.lst [.ref A.t1, .ref A.t2])
  t1 : Tab0 CT H A.t1 A.ta1 A.tb1
  t2 : Tab0 CT H A.t2 A.ta2 A.tb2
  lv : H A.lv = some (.lst [.ref A.v1, .ref A.v2])
  v1 : H A.v1 = some (.dK [])
  v2 : H A.v2 = some (.dK [])
  ln : H A.ln = some (.lst [.ref A.n1, .ref A.n2])
  n1 : H A.n1 = some (.dK [])
  n2 : H A.n2 = some (.dK [])
  os : H A.os = some (.lst [.non, .non])
  pl : H A.pl = some (.lst [])
  hd : H A.hd = some (.lst [])
  td : H A.td = some (.lst [])
theorem SdP.keep {CT : Addr} {H H' : Hp} {A : Sd} {near far : V} (h : SdP CT H A near far) (k : ∀ z ∈ A.all, ∀ o, H z = some o → H' z = some o) : SdP CT H' A near far := by
  have m : ∀ {z}, z ∈ A.al2 → z ∈ A.all := fun {z} hz => List.mem_cons_of_mem _ hz
  refine ⟨k _ List.mem_cons_self _ h.sl, k _ (m (by simp [Sd.al2])) _ h.tb, h.t1.keep fun z hz => k z (m ?_), h.t2.keep fun z hz => k z (m ?_), k _ (m (by simp [Sd.al2])) _ h.lv, k _ (m (by simp [Sd.al2])) _ h.v1, k _ (m (by simp [Sd.al2])) _ h.v2, k _ (m (by simp [Sd.al2])) _ h.ln, k _ (m (by simp [Sd.al2])) _ h.n1, k _ (m (by simp [Sd.al2])) _ h.n2, k _ (m (by simp [Sd.al2])) _ h.os, k _ (m (by simp [Sd.al2])) _ h.pl, k _ (m (by simp [Sd.al2])) _ h.hd, k _ (m (by simp [Sd.al2])) _ h.td⟩
  · simp only [List.mem_cons, List.not_mem_nil, or_false] at hz
    rcases hz with rfl | rfl | rfl <;> simp [Sd.al2]
  · simp only [List.mem_cons, List.not_mem_nil, or_false] at hz
    rcases hz with rfl | rfl | rfl <;> simp [Sd.al2]
structure SdAt (CS CT : Addr) (H : Hp) (s : Addr) (A : Sd) (near far : V) (shut : Bool) : Prop where
  ob : H s = some (.ins CS A.dx (sdf A shut))
  p : SdP CT H A near far
theorem SdAt.keep {CS CT : Addr} {H H' : Hp} {s : Addr} {A : Sd} {near far : V} {shut : Bool} (h : SdAt CS CT H s A near far shut) (k0 : ∀ o, H s = some o → H' s = some o) (k : ∀ z ∈ A.all, ∀ o, H z = some o → H' z = some o) : SdAt CS CT H' s A near far shut := ⟨k0 _ h.ob, h.p.keep k⟩
theorem SdAt.same {CS CT : Addr} {H H' : Hp} {s : Addr} {A : Sd} {near far : V} {shut : Bool} (h : SdAt CS CT H s A near far shut) (k : Same H H') : SdAt CS CT H' s A near far shut := h.keep (fun o e => k _ _ e) fun z _ o e => k _ _ e
def spStandInit (CS CT : Addr) : Sp := fun vs H Q _ => ∃ (s ds sl : Addr) (near far : V), vs = [.ref s, .ref sl] ∧ H s = some (.ins CS ds []) ∧ H sl = some (.lst [near, far]) ∧
  ∀ (A : Sd) (H' : Hp), A.sl = sl → (∀ z ∈ A.al2, H z = none) → SdAt CS CT H' s A near far false → (∀ z o, z ≠ s → H z = some o → H' z = some o) → Q .non H'
theorem ok_Stand___init__ (T : Txt w K mg a) : FnOk P w K mg base CX0 3 a.f_Stand___init__ a.d_Stand___init__ ["self", "sides"] (spStandInit a.c_Stand a.c_Table) := by
  have G_Table___init__ := ok_Table___init__ (P := P) (w := w) (base := base) T
  have cl_Stand := T.cl_Stand
  have na_Stand_sides := T.na_Stand_sides
  have na_Stand_tables := T.na_Stand_tables
  have na_Stand_live := T.na_Stand_live
  have na_Stand_loaners := T.na_Stand_loaners
  have na_Stand_on_shelf := T.na_Stand_on_shelf
  have na_Stand_lent_out := T.na_Stand_lent_out
  have na_Stand_pile := T.na_Stand_pile
  have na_Stand_things := T.na_Stand_things
  have na_Stand_entered := T.na_Stand_entered
  have na_Stand_room := T.na_Stand_room
  have na_Stand_hands := T.na_Stand_hands
  have na_Stand_told := T.na_Stand_told
  have na_Stand_wanted := T.na_Stand_wanted
  have na_Stand_on_way := T.na_Stand_on_way
  have na_Stand_fault := T.na_Stand_fault
  have na_Stand_outcome := T.na_Stand_outcome
  have na_Stand_shut := T.na_Stand_shut
  refine T.F_Stand___init__.ok sc_Stand___init__ (fun vs H Q E h => ?_) (fun cdv A outer s H vs Q E hr h => ?_)
  · obtain ⟨s, ds, sl, near, far, rfl, _⟩ := h
    rfl
  · obtain ⟨s, ds, sl, near, far, rfl, hs, hsl, q⟩ := h
    refine ⟨_, (pss_cons (ps_fld (pv 0) (pv 1) rfl)
      (pss_cons (ps_fld (pv 0) (pe_lst (pa_cons (pe_make0 T.mk_Table G_Table___init__ (hr.mono (by decide)) rfl T.m_Table T.b_Table___init__ .nil pass0) (pa_cons (pe_make0 T.mk_Table G_Table___init__ (hr.mono (by decide)) rfl T.m_Table T.b_Table___init__ .nil pass0) pa_nil))) rfl)
      (pss_cons (ps_fld (pv 0) (pe_lst (pa_cons pe_dnewK (pa_cons pe_dnewK pa_nil))) rfl)
      (pss_cons (ps_fld (pv 0) (pe_lst (pa_cons pe_dnewK (pa_cons pe_dnewK pa_nil))) rfl)
      (pss_cons (ps_fld (pv 0) (pe_lst (pa_cons pe_non (pa_cons pe_non pa_nil))) rfl)
      (pss_cons (ps_fld (pv 0) (pe_lst (pa_cons (pe_lst pa_nil) (pa_cons (pe_lst pa_nil) pa_nil))) rfl)
      (pss_cons (ps_fld (pv 0) (pe_lst pa_nil) rfl)
      (pss_cons (ps_asg3 pe_int (pg_fld (pv 0)) (pg_fld (pv 0)) (pg_fld (pv 0)))
      (pss_cons (ps_fld (pv 0) (pe_lst pa_nil) rfl)
      (pss_cons (ps_fld (pv 0) (pe_lst pa_nil) rfl)
      (pss_cons (ps_fld (pv 0) (pe_lst pa_nil) rfl)
      (pss_cons (ps_asg3 pe_non (pg_fld (pv 0)) (pg_fld (pv 0)) (pg_fld (pv 0)))
      (pss_one (ps_fld (pv 0) pe_bl rfl)))))))))))))), ?_⟩
    with_reducible refine sq_seq ?_
    refine ⟨_, rfl, _, rfl, s, a.c_Stand, ds, _, rfl, hs, T.cl_Stand, T.na_Stand_sides, Nat.le_of_ble_eq_true rfl, ?_⟩
    with_reducible refine sq_seq ?_
    walk_at "go"
    intro t1 d1 nt1 nd1 ne1
    have n1 : s ≠ t1 := ne_of_none (H := upd (H) s (.ins a.c_Stand ds (putF "sides" (.ref sl) []))) upd_same nt1
    have n1d : s ≠ d1 := ne_of_none (H := upd (H) s (.ins a.c_Stand ds (putF "sides" (.ref sl) []))) upd_same nd1
    refine ⟨t1, d1, rfl, upd_same, fun ta1 tb1 H1 hta1 htb1 T1 kk1 => ⟨rfl, ?_⟩⟩
    have hs1 : H1 s = some (.ins a.c_Stand ds [("sides", .ref sl)]) := kk1 _ _ n1 (upd_get n1 (upd_get n1d upd_same))
    have k1 : ∀ z o, z ≠ s → H z = some o → H1 z = some o := fun z o n e => by
      have c0 : (upd (H) s (.ins a.c_Stand ds (putF "sides" (.ref sl) []))) z = some o := (upd_get n e)
      exact kk1 z o (ne_of_none c0 nt1) (upd_get (ne_of_none c0 nt1) (upd_get (ne_of_none c0 nd1) c0))
    have ft1 : H t1 = none := keep_none1 (s := s) (H' := upd (H) s (.ins a.c_Stand ds (putF "sides" (.ref sl) []))) (fun z o n e => (upd_get n e)) n1.symm nt1
    have gta1 := (upd_none (upd_none hta1).1).1
    have mta1 : s ≠ ta1 := ne_of_none (H := upd (H) s (.ins a.c_Stand ds (putF "sides" (.ref sl) []))) upd_same gta1
    have fta1 : H ta1 = none := keep_none1 (s := s) (H' := upd (H) s (.ins a.c_Stand ds (putF "sides" (.ref sl) []))) (fun z o n e => (upd_get n e)) mta1.symm gta1
    have gtb1 := (upd_none (upd_none htb1).1).1
    have mtb1 : s ≠ tb1 := ne_of_none (H := upd (H) s (.ins a.c_Stand ds (putF "sides" (.ref sl) []))) upd_same gtb1
    have ftb1 : H tb1 = none := keep_none1 (s := s) (H' := upd (H) s (.ins a.c_Stand ds (putF "sides" (.ref sl) []))) (fun z o n e => (upd_get n e)) mtb1.symm gtb1
    have K1 : ∀ z o, z ≠ s → H z = some o → H1 z = some o := fun z o n e => k1 z o n e
    skip
    walk_at "go"
    intro t2 d2 nt2 nd2 ne2
    have n2 : s ≠ t2 := ne_of_none (H := H1) hs1 nt2
    have n2d : s ≠ d2 := ne_of_none (H := H1) hs1 nd2
    refine ⟨t2, d2, rfl, upd_same, fun ta2 tb2 H2 hta2 htb2 T2 kk2 => ⟨rfl, ?_⟩⟩
    have hs2 : H2 s = some (.ins a.c_Stand ds [("sides", .ref sl)]) := kk2 _ _ n2 (upd_get n2 (upd_get n2d hs1))
    have k2 : ∀ z o, z ≠ s → H1 z = some o → H2 z = some o := fun z o n e => by
      have c0 : (H1) z = some o := e
      exact kk2 z o (ne_of_none c0 nt2) (upd_get (ne_of_none c0 nt2) (upd_get (ne_of_none c0 nd2) c0))
    have ft2 : H t2 = none := keep_none1 (s := s) (H' := H1) (fun z o n e => (K1 z o n e)) n2.symm nt2
    have gta2 := (upd_none (upd_none hta2).1).1
    have mta2 : s ≠ ta2 := ne_of_none (H := H1) hs1 gta2
    have fta2 : H ta2 = none := keep_none1 (s := s) (H' := H1) (fun z o n e => (K1 z o n e)) mta2.symm gta2
    have gtb2 := (upd_none (upd_none htb2).1).1
    have mtb2 : s ≠ tb2 := ne_of_none (H := H1) hs1 gtb2
    have ftb2 : H tb2 = none := keep_none1 (s := s) (H' := H1) (fun z o n e => (K1 z o n e)) mtb2.symm gtb2
    have K2 : ∀ z o, z ≠ s → H z = some o → H2 z = some o := fun z o n e => k2 z o n (K1 z o n e)
    clear hs1
    walk_at "go"
    intro p3 hp3
    obtain ⟨H3, e3⟩ : ∃ H3, H3 = upd (H2) p3 (.lst [.ref t1, .ref t2]) := ⟨_, rfl⟩
    rw [← e3]
    have n3 : s ≠ p3 := ne_of_none (H := H2) hs2 hp3
    have hs3 : H3 s = some (.ins a.c_Stand ds [("sides", .ref sl)]) := by rw [e3]; exact upd_get n3 hs2
    have k3 : ∀ z o, z ≠ s → H2 z = some o → H3 z = some o := fun z o n e => by
      have c0 : (H2) z = some o := e
      rw [e3]
      exact upd_get (ne_of_none c0 hp3) c0
    have f3 : H p3 = none := keep_none1 (s := s) (H' := H2) (fun z o n e => (K2 z o n e)) n3.symm hp3
    have h3 : H3 p3 = some (.lst [.ref t1, .ref t2]) := by rw [e3, upd_same]
    clear e3 hp3
    have K3 : ∀ z o, z ≠ s → H z = some o → H3 z = some o := fun z o n e => k3 z o n (K2 z o n e)
    clear hs2
    refine ⟨_, rfl, s, a.c_Stand, ds, _, rfl, hs3, T.cl_Stand, T.na_Stand_tables, Nat.le_of_ble_eq_true rfl, ?_⟩
    with_reducible refine sq_seq ?_
    walk_at "go"
    intro p4 hp4
    obtain ⟨H4, e4⟩ : ∃ H4, H4 = upd (upd (H3) s (.ins a.c_Stand ds (putF "tables" (.ref p3) [("sides", .ref sl)]))) p4 (.dK []) := ⟨_, rfl⟩
    rw [← e4]
    have n4 : s ≠ p4 := ne_of_none (H := upd (H3) s (.ins a.c_Stand ds (putF "tables" (.ref p3) [("sides", .ref sl)]))) upd_same hp4
    have hs4 : H4 s = some (.ins a.c_Stand ds [("sides", .ref sl), ("tables", .ref p3)]) := by rw [e4]; exact upd_get n4 upd_same
    have k4 : ∀ z o, z ≠ s → H3 z = some o → H4 z = some o := fun z o n e => by
      have c0 : (upd (H3) s (.ins a.c_Stand ds (putF "tables" (.ref p3) [("sides", .ref sl)]))) z = some o := (upd_get n e)
      rw [e4]
      exact upd_get (ne_of_none c0 hp4) c0
    have f4 : H p4 = none := keep_none1 (s := s) (H' := upd (H3) s (.ins a.c_Stand ds (putF "tables" (.ref p3) [("sides", .ref sl)]))) (fun z o n e => (upd_get n (K3 z o n e))) n4.symm hp4
    have h4 : H4 p4 = some (.dK []) := by rw [e4, upd_same]
    clear e4 hp4
    have K4 : ∀ z o, z ≠ s → H z = some o → H4 z = some o := fun z o n e => k4 z o n (K3 z o n e)
    clear hs3
    walk_at "go"
    intro p5 hp5
    obtain ⟨H5, e5⟩ : ∃ H5, H5 = upd (H4) p5 (.dK []) := ⟨_, rfl⟩
    rw [← e5]
    have n5 : s ≠ p5 := ne_of_none (H := H4) hs4 hp5
    have hs5 : H5 s = some (.ins a.c_Stand ds [("sides", .ref sl), ("tables", .ref p3)]) := by rw [e5]; exact upd_get n5 hs4
    have k5 : ∀ z o, z ≠ s → H4 z = some o → H5 z = some o := fun z o n e => by
      have c0 : (H4) z = some o := e
      rw [e5]
      exact upd_get (ne_of_none c0 hp5) c0
    have f5 : H p5 = none := keep_none1 (s := s) (H' := H4) (fun z o n e => (K4 z o n e)) n5.symm hp5
    have h5 : H5 p5 = some (.dK []) := by rw [e5, upd_same]
    clear e5 hp5
    have K5 : ∀ z o, z ≠ s → H z = some o → H5 z = some o := fun z o n e => k5 z o n (K4 z o n e)
    clear hs4
    walk_at "go"
    intro p6 hp6
    obtain ⟨H6, e6⟩ : ∃ H6, H6 = upd (H5) p6 (.lst [.ref p4, .ref p5]) := ⟨_, rfl⟩
    rw [← e6]
    have n6 : s ≠ p6 := ne_of_none (H := H5) hs5 hp6
    have hs6 : H6 s = some (.ins a.c_Stand ds [("sides", .ref sl), ("tables", .ref p3)]) := by rw [e6]; exact upd_get n6 hs5
    have k6 : ∀ z o, z ≠ s → H5 z = some o → H6 z = some o := fun z o n e => by
      have c0 : (H5) z = some o := e
      rw [e6]
      exact upd_get (ne_of_none c0 hp6) c0
    have f6 : H p6 = none := keep_none1 (s := s) (H' := H5) (fun z o n e => (K5 z o n e)) n6.symm hp6
    have h6 : H6 p6 = some (.lst [.ref p4, .ref p5]) := by rw [e6, upd_same]
    clear e6 hp6
    have K6 : ∀ z o, z ≠ s → H z = some o → H6 z = some o := fun z o n e => k6 z o n (K5 z o n e)
    clear hs5
    refine ⟨_, rfl, s, a.c_Stand, ds, _, rfl, hs6, T.cl_Stand, T.na_Stand_live, Nat.le_of_ble_eq_true rfl, ?_⟩
    with_reducible refine sq_seq ?_
    walk_at "go"
    intro p7 hp7
    obtain ⟨H7, e7⟩ : ∃ H7, H7 = upd (upd (H6) s (.ins a.c_Stand ds (putF "live" (.ref p6) [("sides", .ref sl), ("tables", .ref p3)]))) p7 (.dK []) := ⟨_, rfl⟩
    rw [← e7]
    have n7 : s ≠ p7 := ne_of_none (H := upd (H6) s (.ins a.c_Stand ds (putF "live" (.ref p6) [("sides", .ref sl), ("tables", .ref p3)]))) upd_same hp7
    have hs7 : H7 s = some (.ins a.c_Stand ds [("sides", .ref sl), ("tables", .ref p3), ("live", .ref p6)]) := by rw [e7]; exact upd_get n7 upd_same
    have k7 : ∀ z o, z ≠ s → H6 z = some o → H7 z = some o := fun z o n e => by
      have c0 : (upd (H6) s (.ins a.c_Stand ds (putF "live" (.ref p6) [("sides", .ref sl), ("tables", .ref p3)]))) z = some o := (upd_get n e)
      rw [e7]
      exact upd_get (ne_of_none c0 hp7) c0
    have f7 : H p7 = none := keep_none1 (s := s) (H' := upd (H6) s (.ins a.c_Stand ds (putF "live" (.ref p6) [("sides", .ref sl), ("tables", .ref p3)]))) (fun z o n e => (upd_get n (K6 z o n e))) n7.symm hp7
    have h7 : H7 p7 = some (.dK []) := by rw [e7, upd_same]
    clear e7 hp7
    have K7 : ∀ z o, z ≠ s → H z = some o → H7 z = some o := fun z o n e => k7 z o n (K6 z o n e)
    clear hs6
    walk_at "go"
    intro p8 hp8
    obtain ⟨H8, e8⟩ : ∃ H8, H8 = upd (H7) p8 (.dK []) := ⟨_, rfl⟩
    rw [← e8]
    have n8 : s ≠ p8 := ne_of_none (H := H7) hs7 hp8
    have hs8 : H8 s = some (.ins a.c_Stand ds [("sides", .ref sl), ("tables", .ref p3), ("live", .ref p6)]) := by rw [e8]; exact upd_get n8 hs7
    have k8 : ∀ z o, z ≠ s → H7 z = some o → H8 z = some o := fun z o n e => by
      have c0 : (H7) z = some o := e
      rw [e8]
      exact upd_get (ne_of_none c0 hp8) c0
    have f8 : H p8 = none := keep_none1 (s := s) (H' := H7) (fun z o n e => (K7 z o n e)) n8.symm hp8
    have h8 : H8 p8 = some (.dK []) := by rw [e8, upd_same]
    clear e8 hp8
    have K8 : ∀ z o, z ≠ s → H z = some o → H8 z = some o := fun z o n e => k8 z o n (K7 z o n e)
    clear hs7
    walk_at "go"
    intro p9 hp9
    obtain ⟨H9, e9⟩ : ∃ H9, H9 = upd (H8) p9 (.lst [.ref p7, .ref p8]) := ⟨_, rfl⟩
    rw [← e9]
    have n9 : s ≠ p9 := ne_of_none (H := H8) hs8 hp9
    have hs9 : H9 s = some (.ins a.c_Stand ds [("sides", .ref sl), ("tables", .ref p3), ("live", .ref p6)]) := by rw [e9]; exact upd_get n9 hs8
    have k9 : ∀ z o, z ≠ s → H8 z = some o → H9 z = some o := fun z o n e => by
      have c0 : (H8) z = some o := e
      rw [e9]
      exact upd_get (ne_of_none c0 hp9) c0
    have f9 : H p9 = none := keep_none1 (s := s) (H' := H8) (fun z o n e => (K8 z o n e)) n9.symm hp9
    have h9 : H9 p9 = some (.lst [.ref p7, .ref p8]) := by rw [e9, upd_same]
    clear e9 hp9
    have K9 : ∀ z o, z ≠ s → H z = some o → H9 z = some o := fun z o n e => k9 z o n (K8 z o n e)
    clear hs8
    refine ⟨_, rfl, s, a.c_Stand, ds, _, rfl, hs9, T.cl_Stand, T.na_Stand_loaners, Nat.le_of_ble_eq_true rfl, ?_⟩
    with_reducible refine sq_seq ?_
    walk_at "go"
    intro p10 hp10
    obtain ⟨H10, e10⟩ : ∃ H10, H10 = upd (upd (H9) s (.ins a.c_Stand ds (putF "loaners" (.ref p9) [("sides", .ref sl), ("tables", .ref p3), ("live", .ref p6)]))) p10 (.lst [.non, .non]) := ⟨_, rfl⟩
    rw [← e10]
    have n10 : s ≠ p10 := ne_of_none (H := upd (H9) s (.ins a.c_Stand ds (putF "loaners" (.ref p9) [("sides", .ref sl), ("tables", .ref p3), ("live", .ref p6)]))) upd_same hp10
    have hs10 : H10 s = some (.ins a.c_Stand ds [("sides", .ref sl), ("tables", .ref p3), ("live", .ref p6), ("loaners", .ref p9)]) := by rw [e10]; exact upd_get n10 upd_same
    have k10 : ∀ z o, z ≠ s → H9 z = some o → H10 z = some o := fun z o n e => by
      have c0 : (upd (H9) s (.ins a.c_Stand ds (putF "loaners" (.ref p9) [("sides", .ref sl), ("tables", .ref p3), ("live", .ref p6)]))) z = some o := (upd_get n e)
      rw [e10]
      exact upd_get (ne_of_none c0 hp10) c0
    have f10 : H p10 = none := keep_none1 (s := s) (H' := upd (H9) s (.ins a.c_Stand ds (putF "loaners" (.ref p9) [("sides", .ref sl), ("tables", .ref p3), ("live", .ref p6)]))) (fun z o n e => (upd_get n (K9 z o n e))) n10.symm hp10
    have h10 : H10 p10 = some (.lst [.non, .non]) := by rw [e10, upd_same]
    clear e10 hp10
    have K10 : ∀ z o, z ≠ s → H z = some o → H10 z = some o := fun z o n e => k10 z o n (K9 z o n e)
    clear hs9
    refine ⟨_, rfl, s, a.c_Stand, ds, _, rfl, hs10, T.cl_Stand, T.na_Stand_on_shelf, Nat.le_of_ble_eq_true rfl, ?_⟩
    with_reducible refine sq_seq ?_
    walk_at "go"
    intro p11 hp11
    obtain ⟨H11, e11⟩ : ∃ H11, H11 = upd (upd (H10) s (.ins a.c_Stand ds (putF "on_shelf" (.ref p10) [("sides", .ref sl), ("tables", .ref p3), ("live", .ref p6), ("loaners", .ref p9)]))) p11 (.lst []) := ⟨_, rfl⟩
    rw [← e11]
    have n11 : s ≠ p11 := ne_of_none (H := upd (H10) s (.ins a.c_Stand ds (putF "on_shelf" (.ref p10) [("sides", .ref sl), ("tables", .ref p3), ("live", .ref p6), ("loaners", .ref p9)]))) upd_same hp11
    have hs11 : H11 s = some (.ins a.c_Stand ds [("sides", .ref sl), ("tables", .ref p3), ("live", .ref p6), ("loaners", .ref p9), ("on_shelf", .ref p10)]) := by rw [e11]; exact upd_get n11 upd_same
    have k11 : ∀ z o, z ≠ s → H10 z = some o → H11 z = some o := fun z o n e => by
      have c0 : (upd (H10) s (.ins a.c_Stand ds (putF "on_shelf" (.ref p10) [("sides", .ref sl), ("tables", .ref p3), ("live", .ref p6), ("loaners", .ref p9)]))) z = some o := (upd_get n e)
      rw [e11]
      exact upd_get (ne_of_none c0 hp11) c0
    have f11 : H p11 = none := keep_none1 (s := s) (H' := upd (H10) s (.ins a.c_Stand ds (putF "on_shelf" (.ref p10) [("sides", .ref sl), ("tables", .ref p3), ("live", .ref p6), ("loaners", .ref p9)]))) (fun z o n e => (upd_get n (K10 z o n e))) n11.symm hp11
    have h11 : H11 p11 = some (.lst []) := by rw [e11, upd_same]
    clear e11 hp11
    have K11 : ∀ z o, z ≠ s → H z = some o → H11 z = some o := fun z o n e => k11 z o n (K10 z o n e)
    clear hs10
    walk_at "go"
    intro p12 hp12
    obtain ⟨H12, e12⟩ : ∃ H12, H12 = upd (H11) p12 (.lst []) := ⟨_, rfl⟩
    rw [← e12]
    have n12 : s ≠ p12 := ne_of_none (H := H11) hs11 hp12
    have hs12 : H12 s = some (.ins a.c_Stand ds [("sides", .ref sl), ("tables", .ref p3), ("live", .ref p6), ("loaners", .ref p9), ("on_shelf", .ref p10)]) := by rw [e12]; exact upd_get n12 hs11
    have k12 : ∀ z o, z ≠ s → H11 z = some o → H12 z = some o := fun z o n e => by
      have c0 : (H11) z = some o := e
      rw [e12]
      exact upd_get (ne_of_none c0 hp12) c0
    have f12 : H p12 = none := keep_none1 (s := s) (H' := H11) (fun z o n e => (K11 z o n e)) n12.symm hp12
    have h12 : H12 p12 = some (.lst []) := by rw [e12, upd_same]
    clear e12 hp12
    have K12 : ∀ z o, z ≠ s → H z = some o → H12 z = some o := fun z o n e => k12 z o n (K11 z o n e)
    clear hs11
    walk_at "go"
    intro p13 hp13
    obtain ⟨H13, e13⟩ : ∃ H13, H13 = upd (H12) p13 (.lst [.ref p11, .ref p12]) := ⟨_, rfl⟩
    rw [← e13]
    have n13 : s ≠ p13 := ne_of_none (H := H12) hs12 hp13
    have hs13 : H13 s = some (.ins a.c_Stand ds [("sides", .ref sl), ("tables", .ref p3), ("live", .ref p6), ("loaners", .ref p9), ("on_shelf", .ref p10)]) := by rw [e13]; exact upd_get n13 hs12
    have k13 : ∀ z o, z ≠ s → H12 z = some o → H13 z = some o := fun z o n e => by
      have c0 : (H12) z = some o := e
      rw [e13]
      exact upd_get (ne_of_none c0 hp13) c0
    have f13 : H p13 = none := keep_none1 (s := s) (H' := H12) (fun z o n e => (K12 z o n e)) n13.symm hp13
    have h13 : H13 p13 = some (.lst [.ref p11, .ref p12]) := by rw [e13, upd_same]
    clear e13 hp13
    have K13 : ∀ z o, z ≠ s → H z = some o → H13 z = some o := fun z o n e => k13 z o n (K12 z o n e)
    clear hs12
    refine ⟨_, rfl, s, a.c_Stand, ds, _, rfl, hs13, T.cl_Stand, T.na_Stand_lent_out, Nat.le_of_ble_eq_true rfl, ?_⟩
    with_reducible refine sq_seq ?_
    walk_at "go"
    intro p14 hp14
    obtain ⟨H14, e14⟩ : ∃ H14, H14 = upd (upd (H13) s (.ins a.c_Stand ds (putF "lent_out" (.ref p13) [("sides", .ref sl), ("tables", .ref p3), ("live", .ref p6), ("loaners", .ref p9), ("on_shelf", .ref p10)]))) p14 (.lst []) := ⟨_, rfl⟩
    rw [← e14]
    have n14 : s ≠ p14 := ne_of_none (H := upd (H13) s (.ins a.c_Stand ds (putF "lent_out" (.ref p13) [("sides", .ref sl), ("tables", .ref p3), ("live", .ref p6), ("loaners", .ref p9), ("on_shelf", .ref p10)]))) upd_same hp14
    have hs14 : H14 s = some (.ins a.c_Stand ds [("sides", .ref sl), ("tables", .ref p3), ("live", .ref p6), ("loaners", .ref p9), ("on_shelf", .ref p10), ("lent_out", .ref p13)]) := by rw [e14]; exact upd_get n14 upd_same
    have k14 : ∀ z o, z ≠ s → H13 z = some o → H14 z = some o := fun z o n e => by
      have c0 : (upd (H13) s (.ins a.c_Stand ds (putF "lent_out" (.ref p13) [("sides", .ref sl), ("tables", .ref p3), ("live", .ref p6), ("loaners", .ref p9), ("on_shelf", .ref p10)]))) z = some o := (upd_get n e)
      rw [e14]
      exact upd_get (ne_of_none c0 hp14) c0
    have f14 : H p14 = none := keep_none1 (s := s) (H' := upd (H13) s (.ins a.c_Stand ds (putF "lent_out" (.ref p13) [("sides", .ref sl), ("tables", .ref p3), ("live", .ref p6), ("loaners", .ref p9), ("on_shelf", .ref p10)]))) (fun z o n e => (upd_get n (K13 z o n e))) n14.symm hp14
    have h14 : H14 p14 = some (.lst []) := by rw [e14, upd_same]
    clear e14 hp14
    have K14 : ∀ z o, z ≠ s → H z = some o → H14 z = some o := fun z o n e => k14 z o n (K13 z o n e)
    clear hs13
    refine ⟨_, rfl, s, a.c_Stand, ds, _, rfl, hs14, T.cl_Stand, T.na_Stand_pile, Nat.le_of_ble_eq_true rfl, ?_⟩
    with_reducible refine sq_seq ?_
    refine ⟨_, rfl, s, a.c_Stand, ds, _, rfl, (show (upd (H14) s (.ins a.c_Stand ds (putF "pile" (.ref p14) [("sides", .ref sl), ("tables", .ref p3), ("live", .ref p6), ("loaners", .ref p9), ("on_shelf", .ref p10), ("lent_out", .ref p13)]))) s = some (.ins a.c_Stand ds [("sides", .ref sl), ("tables", .ref p3), ("live", .ref p6), ("loaners", .ref p9), ("on_shelf", .ref p10), ("lent_out", .ref p13), ("pile", .ref p14)]) from upd_same), T.cl_Stand, T.na_Stand_things, Nat.le_of_ble_eq_true rfl, ?_⟩
    refine ⟨_, rfl, s, a.c_Stand, ds, _, rfl, (show (upd (upd (H14) s (.ins a.c_Stand ds (putF "pile" (.ref p14) [("sides", .ref sl), ("tables", .ref p3), ("live", .ref p6), ("loaners", .ref p9), ("on_shelf", .ref p10), ("lent_out", .ref p13)]))) s (.ins a.c_Stand ds (putF "things" (.int 0) [("sides", .ref sl), ("tables", .ref p3), ("live", .ref p6), ("loaners", .ref p9), ("on_shelf", .ref p10), ("lent_out", .ref p13), ("pile", .ref p14)]))) s = some (.ins a.c_Stand ds [("sides", .ref sl), ("tables", .ref p3), ("live", .ref p6), ("loaners", .ref p9), ("on_shelf", .ref p10), ("lent_out", .ref p13), ("pile", .ref p14), ("things", .int 0)]) from upd_same), T.cl_Stand, T.na_Stand_entered, Nat.le_of_ble_eq_true rfl, ?_⟩
    refine ⟨_, rfl, s, a.c_Stand, ds, _, rfl, (show (upd (upd (upd (H14) s (.ins a.c_Stand ds (putF "pile" (.ref p14) [("sides", .ref sl), ("tables", .ref p3), ("live", .ref p6), ("loaners", .ref p9), ("on_shelf", .ref p10), ("lent_out", .ref p13)]))) s (.ins a.c_Stand ds (putF "things" (.int 0) [("sides", .ref sl), ("tables", .ref p3), ("live", .ref p6), ("loaners", .ref p9), ("on_shelf", .ref p10), ("lent_out", .ref p13), ("pile", .ref p14)]))) s (.ins a.c_Stand ds (putF "entered" (.int 0) [("sides", .ref sl), ("tables", .ref p3), ("live", .ref p6), ("loaners", .ref p9), ("on_shelf", .ref p10), ("lent_out", .ref p13), ("pile", .ref p14), ("things", .int 0)]))) s = some (.ins a.c_Stand ds [("sides", .ref sl), ("tables", .ref p3), ("live", .ref p6), ("loaners", .ref p9), ("on_shelf", .ref p10), ("lent_out", .ref p13), ("pile", .ref p14), ("things", .int 0), ("entered", .int 0)]) from upd_same), T.cl_Stand, T.na_Stand_room, Nat.le_of_ble_eq_true rfl, ?_⟩
    with_reducible refine sq_seq ?_
    walk_at "go"
    intro p15 hp15
    obtain ⟨H15, e15⟩ : ∃ H15, H15 = upd (upd (upd (upd (upd (H14) s (.ins a.c_Stand ds (putF "pile" (.ref p14) [("sides", .ref sl), ("tables", .ref p3), ("live", .ref p6), ("loaners", .ref p9), ("on_shelf", .ref p10), ("lent_out", .ref p13)]))) s (.ins a.c_Stand ds (putF "things" (.int 0) [("sides", .ref sl), ("tables", .ref p3), ("live", .ref p6), ("loaners", .ref p9), ("on_shelf", .ref p10), ("lent_out", .ref p13), ("pile", .ref p14)]))) s (.ins a.c_Stand ds (putF "entered" (.int 0) [("sides", .ref sl), ("tables", .ref p3), ("live", .ref p6), ("loaners", .ref p9), ("on_shelf", .ref p10), ("lent_out", .ref p13), ("pile", .ref p14), ("things", .int 0)]))) s (.ins a.c_Stand ds (putF "room" (.int 0) [("sides", .ref sl), ("tables", .ref p3), ("live", .ref p6), ("loaners", .ref p9), ("on_shelf", .ref p10), ("lent_out", .ref p13), ("pile", .ref p14), ("things", .int 0), ("entered", .int 0)]))) p15 (.lst []) := ⟨_, rfl⟩
    rw [← e15]
    have n15 : s ≠ p15 := ne_of_none (H := upd (upd (upd (upd (H14) s (.ins a.c_Stand ds (putF "pile" (.ref p14) [("sides", .ref sl), ("tables", .ref p3), ("live", .ref p6), ("loaners", .ref p9), ("on_shelf", .ref p10), ("lent_out", .ref p13)]))) s (.ins a.c_Stand ds (putF "things" (.int 0) [("sides", .ref sl), ("tables", .ref p3), ("live", .ref p6), ("loaners", .ref p9), ("on_shelf", .ref p10), ("lent_out", .ref p13), ("pile", .ref p14)]))) s (.ins a.c_Stand ds (putF "entered" (.int 0) [("sides", .ref sl), ("tables", .ref p3), ("live", .ref p6), ("loaners", .ref p9), ("on_shelf", .ref p10), ("lent_out", .ref p13), ("pile", .ref p14), ("things", .int 0)]))) s (.ins a.c_Stand ds (putF "room" (.int 0) [("sides", .ref sl), ("tables", .ref p3), ("live", .ref p6), ("loaners", .ref p9), ("on_shelf", .ref p10), ("lent_out", .ref p13), ("pile", .ref p14), ("things", .int 0), ("entered", .int 0)]))) upd_same hp15
    have hs15 : H15 s = some (.ins a.c_Stand ds [("sides", .ref sl), ("tables", .ref p3), ("live", .ref p6), ("loaners", .ref p9), ("on_shelf", .ref p10), ("lent_out", .ref p13), ("pile", .ref p14), ("things", .int 0), ("entered", .int 0), ("room", .int 0)]) := by rw [e15]; exact upd_get n15 upd_same
    have k15 : ∀ z o, z ≠ s → H14 z = some o → H15 z = some o := fun z o n e => by
      have c0 : (upd (upd (upd (upd (H14) s (.ins a.c_Stand ds (putF "pile" (.ref p14) [("sides", .ref sl), ("tables", .ref p3), ("live", .ref p6), ("loaners", .ref p9), ("on_shelf", .ref p10), ("lent_out", .ref p13)]))) s (.ins a.c_Stand ds (putF "things" (.int 0) [("sides", .ref sl), ("tables", .ref p3), ("live", .ref p6), ("loaners", .ref p9), ("on_shelf", .ref p10), ("lent_out", .ref p13), ("pile", .ref p14)]))) s (.ins a.c_Stand ds (putF "entered" (.int 0) [("sides", .ref sl), ("tables", .ref p3), ("live", .ref p6), ("loaners", .ref p9), ("on_shelf", .ref p10), ("lent_out", .ref p13), ("pile", .ref p14), ("things", .int 0)]))) s (.ins a.c_Stand ds (putF "room" (.int 0) [("sides", .ref sl), ("tables", .ref p3), ("live", .ref p6), ("loaners", .ref p9), ("on_shelf", .ref p10), ("lent_out", .ref p13), ("pile", .ref p14), ("things", .int 0), ("entered", .int 0)]))) z = some o := (upd_get n (upd_get n (upd_get n (upd_get n e))))
      rw [e15]
      exact upd_get (ne_of_none c0 hp15) c0
    have f15 : H p15 = none := keep_none1 (s := s) (H' := upd (upd (upd (upd (H14) s (.ins a.c_Stand ds (putF "pile" (.ref p14) [("sides", .ref sl), ("tables", .ref p3), ("live", .ref p6), ("loaners", .ref p9), ("on_shelf", .ref p10), ("lent_out", .ref p13)]))) s (.ins a.c_Stand ds (putF "things" (.int 0) [("sides", .ref sl), ("tables", .ref p3), ("live", .ref p6), ("loaners", .ref p9), ("on_shelf", .ref p10), ("lent_out", .ref p13), ("pile", .ref p14)]))) s (.ins a.c_Stand ds (putF "entered" (.int 0) [("sides", .ref sl), ("tables", .ref p3), ("live", .ref p6), ("loaners", .ref p9), ("on_shelf", .ref p10), ("lent_out", .ref p13), ("pile", .ref p14), ("things", .int 0)]))) s (.ins a.c_Stand ds (putF "room" (.int 0) [("sides", .ref sl), ("tables", .ref p3), ("live", .ref p6), ("loaners", .ref p9), ("on_shelf", .ref p10), ("lent_out", .ref p13), ("pile", .ref p14), ("things", .int 0), ("entered", .int 0)]))) (fun z o n e => (upd_get n (upd_get n (upd_get n (upd_get n (K14 z o n e)))))) n15.symm hp15
    have h15 : H15 p15 = some (.lst []) := by rw [e15, upd_same]
    clear e15 hp15
    have K15 : ∀ z o, z ≠ s → H z = some o → H15 z = some o := fun z o n e => k15 z o n (K14 z o n e)
    clear hs14
    refine ⟨_, rfl, s, a.c_Stand, ds, _, rfl, hs15, T.cl_Stand, T.na_Stand_hands, Nat.le_of_ble_eq_true rfl, ?_⟩
    with_reducible refine sq_seq ?_
    walk_at "go"
    intro p16 hp16
    obtain ⟨H16, e16⟩ : ∃ H16, H16 = upd (upd (H15) s (.ins a.c_Stand ds (putF "hands" (.ref p15) [("sides", .ref sl), ("tables", .ref p3), ("live", .ref p6), ("loaners", .ref p9), ("on_shelf", .ref p10), ("lent_out", .ref p13), ("pile", .ref p14), ("things", .int 0), ("entered", .int 0), ("room", .int 0)]))) p16 (.lst []) := ⟨_, rfl⟩
    rw [← e16]
    have n16 : s ≠ p16 := ne_of_none (H := upd (H15) s (.ins a.c_Stand ds (putF "hands" (.ref p15) [("sides", .ref sl), ("tables", .ref p3), ("live", .ref p6), ("loaners", .ref p9), ("on_shelf", .ref p10), ("lent_out", .ref p13), ("pile", .ref p14), ("things", .int 0), ("entered", .int 0), ("room", .int 0)]))) upd_same hp16
    have hs16 : H16 s = some (.ins a.c_Stand ds [("sides", .ref sl), ("tables", .ref p3), ("live", .ref p6), ("loaners", .ref p9), ("on_shelf", .ref p10), ("lent_out", .ref p13), ("pile", .ref p14), ("things", .int 0), ("entered", .int 0), ("room", .int 0), ("hands", .ref p15)]) := by rw [e16]; exact upd_get n16 upd_same
    have k16 : ∀ z o, z ≠ s → H15 z = some o → H16 z = some o := fun z o n e => by
      have c0 : (upd (H15) s (.ins a.c_Stand ds (putF "hands" (.ref p15) [("sides", .ref sl), ("tables", .ref p3), ("live", .ref p6), ("loaners", .ref p9), ("on_shelf", .ref p10), ("lent_out", .ref p13), ("pile", .ref p14), ("things", .int 0), ("entered", .int 0), ("room", .int 0)]))) z = some o := (upd_get n e)
      rw [e16]
      exact upd_get (ne_of_none c0 hp16) c0
    have f16 : H p16 = none := keep_none1 (s := s) (H' := upd (H15) s (.ins a.c_Stand ds (putF "hands" (.ref p15) [("sides", .ref sl), ("tables", .ref p3), ("live", .ref p6), ("loaners", .ref p9), ("on_shelf", .ref p10), ("lent_out", .ref p13), ("pile", .ref p14), ("things", .int 0), ("entered", .int 0), ("room", .int 0)]))) (fun z o n e => (upd_get n (K15 z o n e))) n16.symm hp16
    have h16 : H16 p16 = some (.lst []) := by rw [e16, upd_same]
    clear e16 hp16
    have K16 : ∀ z o, z ≠ s → H z = some o → H16 z = some o := fun z o n e => k16 z o n (K15 z o n e)
    clear hs15
    refine ⟨_, rfl, s, a.c_Stand, ds, _, rfl, hs16, T.cl_Stand, T.na_Stand_told, Nat.le_of_ble_eq_true rfl, ?_⟩
    with_reducible refine sq_seq ?_
    walk_at "go"
    intro p17 hp17
    obtain ⟨H17, e17⟩ : ∃ H17, H17 = upd (upd (H16) s (.ins a.c_Stand ds (putF "told" (.ref p16) [("sides", .ref sl), ("tables", .ref p3), ("live", .ref p6), ("loaners", .ref p9), ("on_shelf", .ref p10), ("lent_out", .ref p13), ("pile", .ref p14), ("things", .int 0), ("entered", .int 0), ("room", .int 0), ("hands", .ref p15)]))) p17 (.lst []) := ⟨_, rfl⟩
    rw [← e17]
    have n17 : s ≠ p17 := ne_of_none (H := upd (H16) s (.ins a.c_Stand ds (putF "told" (.ref p16) [("sides", .ref sl), ("tables", .ref p3), ("live", .ref p6), ("loaners", .ref p9), ("on_shelf", .ref p10), ("lent_out", .ref p13), ("pile", .ref p14), ("things", .int 0), ("entered", .int 0), ("room", .int 0), ("hands", .ref p15)]))) upd_same hp17
    have hs17 : H17 s = some (.ins a.c_Stand ds [("sides", .ref sl), ("tables", .ref p3), ("live", .ref p6), ("loaners", .ref p9), ("on_shelf", .ref p10), ("lent_out", .ref p13), ("pile", .ref p14), ("things", .int 0), ("entered", .int 0), ("room", .int 0), ("hands", .ref p15), ("told", .ref p16)]) := by rw [e17]; exact upd_get n17 upd_same
    have k17 : ∀ z o, z ≠ s → H16 z = some o → H17 z = some o := fun z o n e => by
      have c0 : (upd (H16) s (.ins a.c_Stand ds (putF "told" (.ref p16) [("sides", .ref sl), ("tables", .ref p3), ("live", .ref p6), ("loaners", .ref p9), ("on_shelf", .ref p10), ("lent_out", .ref p13), ("pile", .ref p14), ("things", .int 0), ("entered", .int 0), ("room", .int 0), ("hands", .ref p15)]))) z = some o := (upd_get n e)
      rw [e17]
      exact upd_get (ne_of_none c0 hp17) c0
    have f17 : H p17 = none := keep_none1 (s := s) (H' := upd (H16) s (.ins a.c_Stand ds (putF "told" (.ref p16) [("sides", .ref sl), ("tables", .ref p3), ("live", .ref p6), ("loaners", .ref p9), ("on_shelf", .ref p10), ("lent_out", .ref p13), ("pile", .ref p14), ("things", .int 0), ("entered", .int 0), ("room", .int 0), ("hands", .ref p15)]))) (fun z o n e => (upd_get n (K16 z o n e))) n17.symm hp17
    have h17 : H17 p17 = some (.lst []) := by rw [e17, upd_same]
    clear e17 hp17
    have K17 : ∀ z o, z ≠ s → H z = some o → H17 z = some o := fun z o n e => k17 z o n (K16 z o n e)
    clear hs16
    refine ⟨_, rfl, s, a.c_Stand, ds, _, rfl, hs17, T.cl_Stand, T.na_Stand_wanted, Nat.le_of_ble_eq_true rfl, ?_⟩
    with_reducible refine sq_seq ?_
    refine ⟨_, rfl, s, a.c_Stand, ds, _, rfl, (show (upd (H17) s (.ins a.c_Stand ds (putF "wanted" (.ref p17) [("sides", .ref sl), ("tables", .ref p3), ("live", .ref p6), ("loaners", .ref p9), ("on_shelf", .ref p10), ("lent_out", .ref p13), ("pile", .ref p14), ("things", .int 0), ("entered", .int 0), ("room", .int 0), ("hands", .ref p15), ("told", .ref p16)]))) s = some (.ins a.c_Stand ds [("sides", .ref sl), ("tables", .ref p3), ("live", .ref p6), ("loaners", .ref p9), ("on_shelf", .ref p10), ("lent_out", .ref p13), ("pile", .ref p14), ("things", .int 0), ("entered", .int 0), ("room", .int 0), ("hands", .ref p15), ("told", .ref p16), ("wanted", .ref p17)]) from upd_same), T.cl_Stand, T.na_Stand_on_way, Nat.le_of_ble_eq_true rfl, ?_⟩
    refine ⟨_, rfl, s, a.c_Stand, ds, _, rfl, (show (upd (upd (H17) s (.ins a.c_Stand ds (putF "wanted" (.ref p17) [("sides", .ref sl), ("tables", .ref p3), ("live", .ref p6), ("loaners", .ref p9), ("on_shelf", .ref p10), ("lent_out", .ref p13), ("pile", .ref p14), ("things", .int 0), ("entered", .int 0), ("room", .int 0), ("hands", .ref p15), ("told", .ref p16)]))) s (.ins a.c_Stand ds (putF "on_way" (.non) [("sides", .ref sl), ("tables", .ref p3), ("live", .ref p6), ("loaners", .ref p9), ("on_shelf", .ref p10), ("lent_out", .ref p13), ("pile", .ref p14), ("things", .int 0), ("entered", .int 0), ("room", .int 0), ("hands", .ref p15), ("told", .ref p16), ("wanted", .ref p17)]))) s = some (.ins a.c_Stand ds [("sides", .ref sl), ("tables", .ref p3), ("live", .ref p6), ("loaners", .ref p9), ("on_shelf", .ref p10), ("lent_out", .ref p13), ("pile", .ref p14), ("things", .int 0), ("entered", .int 0), ("room", .int 0), ("hands", .ref p15), ("told", .ref p16), ("wanted", .ref p17), ("on_way", .non)]) from upd_same), T.cl_Stand, T.na_Stand_fault, Nat.le_of_ble_eq_true rfl, ?_⟩
    refine ⟨_, rfl, s, a.c_Stand, ds, _, rfl, (show (upd (upd (upd (H17) s (.ins a.c_Stand ds (putF "wanted" (.ref p17) [("sides", .ref sl), ("tables", .ref p3), ("live", .ref p6), ("loaners", .ref p9), ("on_shelf", .ref p10), ("lent_out", .ref p13), ("pile", .ref p14), ("things", .int 0), ("entered", .int 0), ("room", .int 0), ("hands", .ref p15), ("told", .ref p16)]))) s (.ins a.c_Stand ds (putF "on_way" (.non) [("sides", .ref sl), ("tables", .ref p3), ("live", .ref p6), ("loaners", .ref p9), ("on_shelf", .ref p10), ("lent_out", .ref p13), ("pile", .ref p14), ("things", .int 0), ("entered", .int 0), ("room", .int 0), ("hands", .ref p15), ("told", .ref p16), ("wanted", .ref p17)]))) s (.ins a.c_Stand ds (putF "fault" (.non) [("sides", .ref sl), ("tables", .ref p3), ("live", .ref p6), ("loaners", .ref p9), ("on_shelf", .ref p10), ("lent_out", .ref p13), ("pile", .ref p14), ("things", .int 0), ("entered", .int 0), ("room", .int 0), ("hands", .ref p15), ("told", .ref p16), ("wanted", .ref p17), ("on_way", .non)]))) s = some (.ins a.c_Stand ds [("sides", .ref sl), ("tables", .ref p3), ("live", .ref p6), ("loaners", .ref p9), ("on_shelf", .ref p10), ("lent_out", .ref p13), ("pile", .ref p14), ("things", .int 0), ("entered", .int 0), ("room", .int 0), ("hands", .ref p15), ("told", .ref p16), ("wanted", .ref p17), ("on_way", .non), ("fault", .non)]) from upd_same), T.cl_Stand, T.na_Stand_outcome, Nat.le_of_ble_eq_true rfl, ?_⟩
    refine ⟨_, rfl, s, a.c_Stand, ds, _, rfl, (show (upd (upd (upd (upd (H17) s (.ins a.c_Stand ds (putF "wanted" (.ref p17) [("sides", .ref sl), ("tables", .ref p3), ("live", .ref p6), ("loaners", .ref p9), ("on_shelf", .ref p10), ("lent_out", .ref p13), ("pile", .ref p14), ("things", .int 0), ("entered", .int 0), ("room", .int 0), ("hands", .ref p15), ("told", .ref p16)]))) s (.ins a.c_Stand ds (putF "on_way" (.non) [("sides", .ref sl), ("tables", .ref p3), ("live", .ref p6), ("loaners", .ref p9), ("on_shelf", .ref p10), ("lent_out", .ref p13), ("pile", .ref p14), ("things", .int 0), ("entered", .int 0), ("room", .int 0), ("hands", .ref p15), ("told", .ref p16), ("wanted", .ref p17)]))) s (.ins a.c_Stand ds (putF "fault" (.non) [("sides", .ref sl), ("tables", .ref p3), ("live", .ref p6), ("loaners", .ref p9), ("on_shelf", .ref p10), ("lent_out", .ref p13), ("pile", .ref p14), ("things", .int 0), ("entered", .int 0), ("room", .int 0), ("hands", .ref p15), ("told", .ref p16), ("wanted", .ref p17), ("on_way", .non)]))) s (.ins a.c_Stand ds (putF "outcome" (.non) [("sides", .ref sl), ("tables", .ref p3), ("live", .ref p6), ("loaners", .ref p9), ("on_shelf", .ref p10), ("lent_out", .ref p13), ("pile", .ref p14), ("things", .int 0), ("entered", .int 0), ("room", .int 0), ("hands", .ref p15), ("told", .ref p16), ("wanted", .ref p17), ("on_way", .non), ("fault", .non)]))) s = some (.ins a.c_Stand ds [("sides", .ref sl), ("tables", .ref p3), ("live", .ref p6), ("loaners", .ref p9), ("on_shelf", .ref p10), ("lent_out", .ref p13), ("pile", .ref p14), ("things", .int 0), ("entered", .int 0), ("room", .int 0), ("hands", .ref p15), ("told", .ref p16), ("wanted", .ref p17), ("on_way", .non), ("fault", .non), ("outcome", .non)]) from upd_same), T.cl_Stand, T.na_Stand_shut, Nat.le_of_ble_eq_true rfl, ?_⟩
    obtain ⟨HF, eF⟩ : ∃ HF, HF = upd (upd (upd (upd (upd (H17) s (.ins a.c_Stand ds (putF "wanted" (.ref p17) [("sides", .ref sl), ("tables", .ref p3), ("live", .ref p6), ("loaners", .ref p9), ("on_shelf", .ref p10), ("lent_out", .ref p13), ("pile", .ref p14), ("things", .int 0), ("entered", .int 0), ("room", .int 0), ("hands", .ref p15), ("told", .ref p16)]))) s (.ins a.c_Stand ds (putF "on_way" (.non) [("sides", .ref sl), ("tables", .ref p3), ("live", .ref p6), ("loaners", .ref p9), ("on_shelf", .ref p10), ("lent_out", .ref p13), ("pile", .ref p14), ("things", .int 0), ("entered", .int 0), ("room", .int 0), ("hands", .ref p15), ("told", .ref p16), ("wanted", .ref p17)]))) s (.ins a.c_Stand ds (putF "fault" (.non) [("sides", .ref sl), ("tables", .ref p3), ("live", .ref p6), ("loaners", .ref p9), ("on_shelf", .ref p10), ("lent_out", .ref p13), ("pile", .ref p14), ("things", .int 0), ("entered", .int 0), ("room", .int 0), ("hands", .ref p15), ("told", .ref p16), ("wanted", .ref p17), ("on_way", .non)]))) s (.ins a.c_Stand ds (putF "outcome" (.non) [("sides", .ref sl), ("tables", .ref p3), ("live", .ref p6), ("loaners", .ref p9), ("on_shelf", .ref p10), ("lent_out", .ref p13), ("pile", .ref p14), ("things", .int 0), ("entered", .int 0), ("room", .int 0), ("hands", .ref p15), ("told", .ref p16), ("wanted", .ref p17), ("on_way", .non), ("fault", .non)]))) s (.ins a.c_Stand ds (putF "shut" (.bl false) [("sides", .ref sl), ("tables", .ref p3), ("live", .ref p6), ("loaners", .ref p9), ("on_shelf", .ref p10), ("lent_out", .ref p13), ("pile", .ref p14), ("things", .int 0), ("entered", .int 0), ("room", .int 0), ("hands", .ref p15), ("told", .ref p16), ("wanted", .ref p17), ("on_way", .non), ("fault", .non), ("outcome", .non)])) := ⟨_, rfl⟩
    have hsF : HF s = some (.ins a.c_Stand ds [("sides", .ref sl), ("tables", .ref p3), ("live", .ref p6), ("loaners", .ref p9), ("on_shelf", .ref p10), ("lent_out", .ref p13), ("pile", .ref p14), ("things", .int 0), ("entered", .int 0), ("room", .int 0), ("hands", .ref p15), ("told", .ref p16), ("wanted", .ref p17), ("on_way", .non), ("fault", .non), ("outcome", .non), ("shut", .bl false)]) := by rw [eF]; exact upd_same
    have kF : ∀ z o, z ≠ s → H17 z = some o → HF z = some o := fun z o n e => by rw [eF]; exact (upd_get n (upd_get n (upd_get n (upd_get n (upd_get n e)))))
    have L16 : ∀ z o, z ≠ s → H16 z = some o → HF z = some o := fun z o n e => kF z o n (k17 z o n e)
    have L15 : ∀ z o, z ≠ s → H15 z = some o → HF z = some o := fun z o n e => L16 z o n (k16 z o n e)
    have L14 : ∀ z o, z ≠ s → H14 z = some o → HF z = some o := fun z o n e => L15 z o n (k15 z o n e)
    have L13 : ∀ z o, z ≠ s → H13 z = some o → HF z = some o := fun z o n e => L14 z o n (k14 z o n e)
    have L12 : ∀ z o, z ≠ s → H12 z = some o → HF z = some o := fun z o n e => L13 z o n (k13 z o n e)
    have L11 : ∀ z o, z ≠ s → H11 z = some o → HF z = some o := fun z o n e => L12 z o n (k12 z o n e)
    have L10 : ∀ z o, z ≠ s → H10 z = some o → HF z = some o := fun z o n e => L11 z o n (k11 z o n e)
    have L9 : ∀ z o, z ≠ s → H9 z = some o → HF z = some o := fun z o n e => L10 z o n (k10 z o n e)
    have L8 : ∀ z o, z ≠ s → H8 z = some o → HF z = some o := fun z o n e => L9 z o n (k9 z o n e)
    have L7 : ∀ z o, z ≠ s → H7 z = some o → HF z = some o := fun z o n e => L8 z o n (k8 z o n e)
    have L6 : ∀ z o, z ≠ s → H6 z = some o → HF z = some o := fun z o n e => L7 z o n (k7 z o n e)
    have L5 : ∀ z o, z ≠ s → H5 z = some o → HF z = some o := fun z o n e => L6 z o n (k6 z o n e)
    have L4 : ∀ z o, z ≠ s → H4 z = some o → HF z = some o := fun z o n e => L5 z o n (k5 z o n e)
    have L3 : ∀ z o, z ≠ s → H3 z = some o → HF z = some o := fun z o n e => L4 z o n (k4 z o n e)
    have L2 : ∀ z o, z ≠ s → H2 z = some o → HF z = some o := fun z o n e => L3 z o n (k3 z o n e)
    have L1 : ∀ z o, z ≠ s → H1 z = some o → HF z = some o := fun z o n e => L2 z o n (k2 z o n e)
    have TT1 : Tab0 a.c_Table HF t1 ta1 tb1 := T1.keep fun z hz o e => L1 z o (by
      simp only [List.mem_cons, List.not_mem_nil, or_false] at hz
      rcases hz with rfl | rfl | rfl
      · exact n1.symm
      · exact mta1.symm
      · exact mtb1.symm) e
    have TT2 : Tab0 a.c_Table HF t2 ta2 tb2 := T2.keep fun z hz o e => L2 z o (by
      simp only [List.mem_cons, List.not_mem_nil, or_false] at hz
      rcases hz with rfl | rfl | rfl
      · exact n2.symm
      · exact mta2.symm
      · exact mtb2.symm) e
    have nsl : sl ≠ s := ne_of hsl hs (by intro z; cases z)
    rw [← eF]
    refine q ⟨ds, sl, p3, t1, ta1, tb1, t2, ta2, tb2, p6, p4, p5, p9, p7, p8, p10, p13, p14, p15, p16, p17⟩ HF rfl (fun z hz => ?_) ⟨hsF, ⟨kF _ _ nsl (K17 _ _ nsl hsl), L3 _ _ n3.symm h3, TT1, TT2, L6 _ _ n6.symm h6, L4 _ _ n4.symm h4, L5 _ _ n5.symm h5, L9 _ _ n9.symm h9, L7 _ _ n7.symm h7, L8 _ _ n8.symm h8, L10 _ _ n10.symm h10, L14 _ _ n14.symm h14, L15 _ _ n15.symm h15, L16 _ _ n16.symm h16⟩⟩ fun z o n e => kF z o n (K17 z o n e)
    simp only [Sd.al2, List.mem_cons, List.not_mem_nil, or_false] at hz
    rcases hz with rfl | rfl | rfl | rfl | rfl | rfl | rfl | rfl | rfl | rfl | rfl | rfl | rfl | rfl | rfl | rfl | rfl
    · exact f3
    · exact ft1
    · exact fta1
    · exact ftb1
    · exact ft2
    · exact fta2
    · exact ftb2
    · exact f6
    · exact f4
    · exact f5
    · exact f9
    · exact f7
    · exact f8
    · exact f10
    · exact f14
    · exact f15
    · exact f16
def spCopied (CS CT : Addr) : Sp := fun vs H Q _ => ∃ (s : Addr) (A0 : Sd) (near far : V), vs = [.ref s] ∧ SdAt CS CT H s A0 near far false ∧
  ∀ (s2 : Addr) (A : Sd) (H' : Hp), H s2 = none → (∀ z ∈ A.all, H z = none) → (∀ z ∈ A.all, z ≠ s2) → SdAt CS CT H' s2 A near far false → Same H H' → Q (.ref s2) H'
theorem ok_Stand_copied (T : Txt w K mg a) : FnOk P w K mg base CX0 5 a.f_Stand_copied a.d_Stand_copied ["self"] (spCopied a.c_Stand a.c_Table) := by
  have G_Stand___init__ := ok_Stand___init__ (P := P) (w := w) (base := base) T
  have G_Table_twin := ok_Table_twin (P := P) (w := w) (base := base) T
  have cl_Table := T.cl_Table
  have cl_Stand := T.cl_Stand
  have na_Stand_sides := T.na_Stand_sides
  have na_Stand_tables := T.na_Stand_tables
  have na_Stand_live := T.na_Stand_live
  have na_Stand_loaners := T.na_Stand_loaners
  have na_Stand_on_shelf := T.na_Stand_on_shelf
  have na_Stand_things := T.na_Stand_things
  have na_Stand_entered := T.na_Stand_entered
  have na_Stand_hands := T.na_Stand_hands
  have na_Stand_told := T.na_Stand_told
  have na_Stand_fault := T.na_Stand_fault
  have na_Stand_shut := T.na_Stand_shut
  refine T.F_Stand_copied.ok sc_Stand_copied (fun vs H Q E h => ?_) (fun cdv A outer s H vs Q E hr h => ?_)
  · obtain ⟨s, A0, near, far, rfl, _⟩ := h
    rfl
  · obtain ⟨s, A0, near, far, rfl, SA, q⟩ := h
    have ho := SA.ob
    refine ⟨_, (pss_cons (ps_set (i := 1) sc_Stand_copied.nd rfl (Or.inl rfl) (pe_make T.mk_Stand G_Stand___init__ (hr.mono (by decide)) rfl T.m_Stand T.b_Stand___init__ .nil pass0 (pa_cons (pe_callTy call_list_of (by rfl) T.z_list (by decide +kernel) (pa_cons (pe_fld (pv 0) rfl) pa_nil)) pa_nil)))
      (pss_cons (ps_fld (pv 1) (pe_lc (own := [("table", 2)]) (g := gName 2) (tt := tYes) rfl sc_Stand_copied.nd (pi_list (by exact (pe_fld (pv 0) rfl))) (blkOk_by (own := [("table", 2)]) (N := n_Stand_copied) (sc := defScope s_Stand_copied) (by decide +kernel)) (fun _ _ _ _ _ => (pg_name (i := 2) sc_Stand_copied.nd rfl (Or.inl rfl))) (fun _ _ _ _ _ => pts_nil) (fun _ _ _ _ _ => (pe_meth0 (pv 2) T.cl_Table T.mt_Table_twin G_Table_twin (hr.mono (by decide)) T.b_Table_twin .nil pass0))) rfl)
      (pss_cons (ps_fld (pv 1) (pe_lc (own := [("holds", 3)]) (g := gName 3) (tt := tYes) rfl sc_Stand_copied.nd (pi_list (by exact (pe_fld (pv 0) rfl))) (blkOk_by (own := [("holds", 3)]) (N := n_Stand_copied) (sc := defScope s_Stand_copied) (by decide +kernel)) (fun _ _ _ _ _ => (pg_name (i := 3) sc_Stand_copied.nd rfl (Or.inl rfl))) (fun _ _ _ _ _ => pts_nil) (fun _ _ _ _ _ => (pe_callTy call_dictD (by rfl) T.z_dict (by decide +kernel) (pa_cons (pv 3) pa_nil)))) rfl)
      (pss_cons (ps_fld (pv 1) (pe_lc (own := [("rows", 4)]) (g := gName 4) (tt := tYes) rfl sc_Stand_copied.nd (pi_list (by exact (pe_fld (pv 0) rfl))) (blkOk_by (own := [("rows", 4)]) (N := n_Stand_copied) (sc := defScope s_Stand_copied) (by decide +kernel)) (fun _ _ _ _ _ => (pg_name (i := 4) sc_Stand_copied.nd rfl (Or.inl rfl))) (fun _ _ _ _ _ => pts_nil) (fun _ _ _ _ _ => (pe_callTy call_dictD (by rfl) T.z_dict (by decide +kernel) (pa_cons (pv 4) pa_nil)))) rfl)
      (pss_cons (ps_fld (pv 1) (pe_callTy call_list_of (by rfl) T.z_list (by decide +kernel) (pa_cons (pe_fld (pv 0) rfl) pa_nil)) rfl)
      (pss_cons (ps_fld (pv 1) (pe_fld (pv 0) rfl) rfl)
      (pss_cons (ps_fld (pv 1) (pe_fld (pv 0) rfl) rfl)
      (pss_cons (ps_fld (pv 1) (pe_callTy call_list_of (by rfl) T.z_list (by decide +kernel) (pa_cons (pe_fld (pv 0) rfl) pa_nil)) rfl)
      (pss_cons (ps_fld (pv 1) (pe_callTy call_list_of (by rfl) T.z_list (by decide +kernel) (pa_cons (pe_fld (pv 0) rfl) pa_nil)) rfl)
      (pss_cons (ps_fld (pv 1) (pe_fld (pv 0) rfl) rfl)
      (pss_cons (ps_fld (pv 1) (pe_fld (pv 0) rfl) rfl)
      (pss_one (ps_ret (pv 1)))))))))))))), ?_⟩
    with_reducible refine sq_seq ?_
    refine ⟨_, rfl, s, a.c_Stand, _, _, _, rfl, ho, T.cl_Stand, T.na_Stand_sides, rfl, ?_⟩
    have hsl := SA.p.sl
    walk_at "go"
    intro p1 hp1
    obtain ⟨H1, e1⟩ : ∃ H1, H1 = upd H p1 (.lst [near, far]) := ⟨_, rfl⟩
    rw [← e1]
    have h1 : H1 p1 = some (.lst [near, far]) := by rw [e1, upd_same]
    have s1 : Same H H1 := by rw [e1]; exact Same.upd_new hp1
    walk_at "go"
    intro s2 d2 ns2' nd2 nsd
    obtain ⟨H2, e2⟩ : ∃ H2, H2 = upd (upd H1 d2 (.own s2)) s2 (.ins a.c_Stand d2 []) := ⟨_, rfl⟩
    have h2 : H2 s2 = some (.ins a.c_Stand d2 []) := by rw [e2, upd_same]
    have s2' : Same H1 H2 := fun z o e => by rw [e2]; exact upd_get (ne_of_none e ns2') (upd_get (ne_of_none e nd2) e)
    rw [← e2]
    have ns2 : H s2 = none := same_none' s1 ns2'
    refine ⟨s2, d2, p1, near, far, rfl, h2, s2' _ _ h1, fun A H3 eA fr SB k3 => ⟨rfl, ?_⟩⟩
    have ob3 := SB.ob
    have K3 : ∀ z o, H z = some o → H3 z = some o := fun z o e => k3 z o (ne_of_none e ns2) (s2' _ _ (s1 _ _ e))
    have frH : ∀ z ∈ A.al2, H z = none := fun z hz => same_none' s1 (same_none' s2' (fr z hz))
    have ho3 := K3 _ _ ho
    have nA : ∀ z ∈ A.all, z ≠ s2 := fun z hz => by
      rcases List.mem_cons.mp (show z ∈ A.sl :: A.al2 from hz) with rfl | y
      · rw [eA]
        exact ne_of (s2' _ _ h1) h2 (by intro z; cases z)
      · intro e
        have := fr z y
        rw [e, h2] at this
        cases this
    refine gn_in ?_
    with_reducible refine sq_seq ?_
    refine ⟨_, rfl, s, a.c_Stand, _, _, _, rfl, ho3, T.cl_Stand, T.na_Stand_tables, rfl, ?_⟩
    have htb := K3 _ _ SA.p.tb
    have hT1 : Tab0 a.c_Table H A0.t1 A0.ta1 A0.tb1 := SA.p.t1
    have hT2 : Tab0 a.c_Table H A0.t2 A0.ta2 A0.tb2 := SA.p.t2
    walk_at "go"
    intro D hD
    have nDs : D ≠ s2 := (ne_of_none ob3 hD).symm
    have fD : H D = none := same_none' K3 hD
    refine lcL (K := K) (a := A0.tbs) (xs := [.ref A0.t1, .ref A0.t2]) (fun i H' => ∃ ts : List (Addr × Addr × Addr), ts.length = i ∧ H' D = some (.lst (ts.map fun t => V.ref t.1)) ∧ (∀ t ∈ ts, Tab0 a.c_Table H' t.1 t.2.1 t.2.2 ∧ (∀ z ∈ [t.1, t.2.1, t.2.2], H z = none ∧ z ≠ D ∧ z ≠ s2)) ∧ Same H3 H') ?_ ?_ ?_ ?_
    · exact ⟨[], rfl, upd_same, (fun t ht => nomatch ht), Same.upd_new hD⟩
    · exact fun i H' _ ⟨_, _, _, _, sm⟩ => SqL.of (sm _ _ htb)
    · rintro i v Hx hi ⟨ts, lt, hDx, al, sm⟩
      have hv : ∃ t ta tb, v = .ref t ∧ Tab0 a.c_Table H t ta tb := by
        match i, hi with
        | 0, hi => exact ⟨_, _, _, (Option.some.inj hi).symm, hT1⟩
        | 1, hi => exact ⟨_, _, _, (Option.some.inj hi).symm, hT2⟩
        | n + 2, hi => cases hi
      obtain ⟨t, ta, tb, rfl, TT⟩ := hv
      have li : i < 2 := (List.getElem?_eq_some_iff.mp hi).1
      have TT2 : Tab0 a.c_Table Hx t ta tb := TT.keep fun z _ o e => sm _ _ (K3 z o e)
      obtain ⟨dt, hot⟩ := TT2.ob
      refine ⟨rfl, ?_⟩
      walk_at "go"
      intro t' ta' tb' Hy nt nta ntb TN sy
      have hDy := sy _ _ hDx
      have nw : ∀ z ∈ [t', ta', tb'], H z = none ∧ z ≠ D ∧ z ≠ s2 := fun z hz => by
        have hn : Hx z = none := by
          simp only [List.mem_cons, List.not_mem_nil, or_false] at hz
          rcases hz with rfl | rfl | rfl
          · exact nt
          · exact nta
          · exact ntb
        exact ⟨same_none' K3 (same_none' sm hn), (ne_of_none hDx hn).symm, (ne_of_none (sm _ _ ob3) hn).symm⟩
      refine ⟨_, hDy, small_lt (by rw [List.length_map]; omega), wait ⟨ts ++ [(t', ta', tb')], by rw [List.length_append, lt] <;> rfl, by rw [upd_same, List.map_append] <;> rfl, fun u hu => ?_, fun z o e => upd_get (ne_of_none e hD) (sy _ _ (sm _ _ e))⟩⟩
      rcases List.mem_append.mp hu with y | y
      · obtain ⟨y1, y2⟩ := al u y
        exact ⟨y1.keep fun z hz o e => upd_get (y2 z hz).2.1 (sy _ _ e), y2⟩
      · rw [List.mem_singleton.mp y]
        exact ⟨TN.keep fun z hz o e => upd_get (nw z hz).2.1 e, nw⟩
    rintro H4 ⟨ts, lt, hD4, al, sm4⟩
    obtain ⟨u1, u2, rfl⟩ : ∃ u1 u2, ts = [u1, u2] := by
      match ts, lt with
      | [u1, u2], _ => exact ⟨u1, u2, rfl⟩
    have U1 := al u1 (by simp)
    have U2 := al u2 (by simp)
    have ob4 := sm4 _ _ ob3
    have k4 : ∀ z o, z ≠ s2 → H3 z = some o → H4 z = some o := fun z o _ e => sm4 _ _ e
    have K4 : ∀ z o, H z = some o → H4 z = some o := fun z o e => sm4 _ _ (K3 z o e)
    have ho4 := K4 _ _ ho
    clear ob3 ho3
    refine ⟨_, rfl, s2, a.c_Stand, A.dx, _, rfl, ob4, T.cl_Stand, T.na_Stand_tables, Nat.le_of_ble_eq_true rfl, ?_⟩
    obtain ⟨H5, e5⟩ : ∃ H5, H5 = upd H4 s2 (.ins a.c_Stand A.dx (putF "tables" (.ref D) (sdf A false))) := ⟨_, rfl⟩
    rw [← e5]
    obtain ⟨A1, eA1⟩ : ∃ A1 : Sd, A1 = { A with tbs := D, t1 := u1.1, ta1 := u1.2.1, tb1 := u1.2.2, t2 := u2.1, ta2 := u2.2.1, tb2 := u2.2.2 } := ⟨_, rfl⟩
    have ob5 : H5 s2 = some (.ins a.c_Stand A.dx (sdf A1 false)) := by rw [e5, eA1]; exact upd_same
    have k5 : ∀ z o, z ≠ s2 → H4 z = some o → H5 z = some o := fun z o n e => by rw [e5]; exact upd_get n e
    have K5 : ∀ z o, H z = some o → H5 z = some o := fun z o e => k5 z o (ne_of_none e ns2) (K4 z o e)
    have ho5 := K5 _ _ ho
    clear e5 ob4 ho4
    with_reducible refine sq_seq ?_
    refine ⟨_, rfl, s, a.c_Stand, _, _, _, rfl, ho5, T.cl_Stand, T.na_Stand_live, rfl, ?_⟩
    have hlv := K5 _ _ SA.p.lv
    walk_at "go"
    intro DL hDL
    have nDLs : DL ≠ s2 := (ne_of_none ob5 hDL).symm
    have fDL : H DL = none := same_none' K5 hDL
    refine lcL (K := K) (a := A0.lv) (xs := [.ref A0.v1, .ref A0.v2]) (fun i H' => ∃ ts : List Addr, ts.length = i ∧ H' DL = some (.lst (ts.map V.ref)) ∧ (∀ t ∈ ts, H' t = some (.dK []) ∧ H t = none ∧ t ≠ s2) ∧ Same H5 H') ?_ ?_ ?_ ?_
    · exact ⟨[], rfl, upd_same, (fun t ht => nomatch ht), Same.upd_new hDL⟩
    · exact fun i H' _ ⟨_, _, _, _, sm⟩ => SqL.of (sm _ _ hlv)
    · rintro i v Hx hi ⟨ts, lt, hDx, al, sm⟩
      have hv : ∃ t, v = .ref t ∧ H t = some (.dK []) := by
        match i, hi with
        | 0, hi => exact ⟨_, (Option.some.inj hi).symm, SA.p.v1⟩
        | 1, hi => exact ⟨_, (Option.some.inj hi).symm, SA.p.v2⟩
        | n + 2, hi => cases hi
      obtain ⟨t, rfl, ht0⟩ := hv
      have li : i < 2 := (List.getElem?_eq_some_iff.mp hi).1
      have htx := sm _ _ (K5 _ _ ht0)
      refine ⟨rfl, ?_⟩
      walk_at "go"
      intro t' ht'
      have nD : DL ≠ t' := ne_of_none hDx ht'
      refine ⟨_, upd_get nD hDx, small_lt (by rw [List.length_map]; omega), wait ⟨ts ++ [t'], by rw [List.length_append, lt] <;> rfl, by rw [upd_same, List.map_append] <;> rfl, fun u hu => ?_, fun z o e => upd_get (ne_of_none e hDL) (upd_get (ne_of_none (sm _ _ e) ht') (sm _ _ e))⟩⟩
      rcases List.mem_append.mp hu with y | y
      · obtain ⟨y1, y2⟩ := al u y
        exact ⟨upd_get (ne_of y1 hDx (by intro z; cases z)) (upd_get (ne_of_none y1 ht') y1), y2⟩
      · rw [List.mem_singleton.mp y]
        exact ⟨upd_get nD.symm upd_same, same_none' K5 (same_none' sm ht'), (ne_of_none (sm _ _ ob5) ht').symm⟩
    rintro H6 ⟨tsv, ltv, hDL6, alv, sm6⟩
    obtain ⟨v1, v2, rfl⟩ : ∃ u1 u2, tsv = [u1, u2] := by
      match tsv, ltv with
      | [u1, u2], _ => exact ⟨u1, u2, rfl⟩
    have vf1 := alv v1 (by simp)
    have vf2 := alv v2 (by simp)
    have ob6 := sm6 _ _ ob5
    have k6 : ∀ z o, z ≠ s2 → H5 z = some o → H6 z = some o := fun z o _ e => sm6 _ _ e
    have K6 : ∀ z o, H z = some o → H6 z = some o := fun z o e => sm6 _ _ (K5 z o e)
    have ho6 := K6 _ _ ho
    clear ob5 ho5
    refine ⟨_, rfl, s2, a.c_Stand, A.dx, _, rfl, ob6, T.cl_Stand, T.na_Stand_live, Nat.le_of_ble_eq_true rfl, ?_⟩
    obtain ⟨H7, e7⟩ : ∃ H7, H7 = upd H6 s2 (.ins a.c_Stand A.dx (putF "live" (.ref DL) (sdf A1 false))) := ⟨_, rfl⟩
    rw [← e7]
    obtain ⟨A2, eA2⟩ : ∃ A2 : Sd, A2 = { A1 with lv := DL, v1 := v1, v2 := v2 } := ⟨_, rfl⟩
    have ob7 : H7 s2 = some (.ins a.c_Stand A.dx (sdf A2 false)) := by rw [e7, eA2]; exact upd_same
    have k7 : ∀ z o, z ≠ s2 → H6 z = some o → H7 z = some o := fun z o n e => by rw [e7]; exact upd_get n e
    have K7 : ∀ z o, H z = some o → H7 z = some o := fun z o e => k7 z o (ne_of_none e ns2) (K6 z o e)
    have ho7 := K7 _ _ ho
    clear e7 ob6 ho6
    with_reducible refine sq_seq ?_
    refine ⟨_, rfl, s, a.c_Stand, _, _, _, rfl, ho7, T.cl_Stand, T.na_Stand_loaners, rfl, ?_⟩
    have hlm := K7 _ _ SA.p.ln
    walk_at "go"
    intro DN hDN
    have nDNs : DN ≠ s2 := (ne_of_none ob7 hDN).symm
    have fDN : H DN = none := same_none' K7 hDN
    refine lcL (K := K) (a := A0.ln) (xs := [.ref A0.n1, .ref A0.n2]) (fun i H' => ∃ ts : List Addr, ts.length = i ∧ H' DN = some (.lst (ts.map V.ref)) ∧ (∀ t ∈ ts, H' t = some (.dK []) ∧ H t = none ∧ t ≠ s2) ∧ Same H7 H') ?_ ?_ ?_ ?_
    · exact ⟨[], rfl, upd_same, (fun t ht => nomatch ht), Same.upd_new hDN⟩
    · exact fun i H' _ ⟨_, _, _, _, sm⟩ => SqL.of (sm _ _ hlm)
    · rintro i v Hx hi ⟨ts, lt, hDx, al, sm⟩
      have hv : ∃ t, v = .ref t ∧ H t = some (.dK []) := by
        match i, hi with
        | 0, hi => exact ⟨_, (Option.some.inj hi).symm, SA.p.n1⟩
        | 1, hi => exact ⟨_, (Option.some.inj hi).symm, SA.p.n2⟩
        | n + 2, hi => cases hi
      obtain ⟨t, rfl, ht0⟩ := hv
      have li : i < 2 := (List.getElem?_eq_some_iff.mp hi).1
      have htx := sm _ _ (K7 _ _ ht0)
      refine ⟨rfl, ?_⟩
      walk_at "go"
      intro t' ht'
      have nD : DN ≠ t' := ne_of_none hDx ht'
      refine ⟨_, upd_get nD hDx, small_lt (by rw [List.length_map]; omega), wait ⟨ts ++ [t'], by rw [List.length_append, lt] <;> rfl, by rw [upd_same, List.map_append] <;> rfl, fun u hu => ?_, fun z o e => upd_get (ne_of_none e hDN) (upd_get (ne_of_none (sm _ _ e) ht') (sm _ _ e))⟩⟩
      rcases List.mem_append.mp hu with y | y
      · obtain ⟨y1, y2⟩ := al u y
        exact ⟨upd_get (ne_of y1 hDx (by intro z; cases z)) (upd_get (ne_of_none y1 ht') y1), y2⟩
      · rw [List.mem_singleton.mp y]
        exact ⟨upd_get nD.symm upd_same, same_none' K7 (same_none' sm ht'), (ne_of_none (sm _ _ ob7) ht').symm⟩
    rintro H8 ⟨tsm, ltm, hDN8, alm, sm8⟩
    obtain ⟨m1, m2, rfl⟩ : ∃ u1 u2, tsm = [u1, u2] := by
      match tsm, ltm with
      | [u1, u2], _ => exact ⟨u1, u2, rfl⟩
    have mf1 := alm m1 (by simp)
    have mf2 := alm m2 (by simp)
    have ob8 := sm8 _ _ ob7
    have k8 : ∀ z o, z ≠ s2 → H7 z = some o → H8 z = some o := fun z o _ e => sm8 _ _ e
    have K8 : ∀ z o, H z = some o → H8 z = some o := fun z o e => sm8 _ _ (K7 z o e)
    have ho8 := K8 _ _ ho
    clear ob7 ho7
    refine ⟨_, rfl, s2, a.c_Stand, A.dx, _, rfl, ob8, T.cl_Stand, T.na_Stand_loaners, Nat.le_of_ble_eq_true rfl, ?_⟩
    obtain ⟨H9, e9⟩ : ∃ H9, H9 = upd H8 s2 (.ins a.c_Stand A.dx (putF "loaners" (.ref DN) (sdf A2 false))) := ⟨_, rfl⟩
    rw [← e9]
    obtain ⟨A3, eA3⟩ : ∃ A3 : Sd, A3 = { A2 with ln := DN, n1 := m1, n2 := m2 } := ⟨_, rfl⟩
    have ob9 : H9 s2 = some (.ins a.c_Stand A.dx (sdf A3 false)) := by rw [e9, eA3]; exact upd_same
    have k9 : ∀ z o, z ≠ s2 → H8 z = some o → H9 z = some o := fun z o n e => by rw [e9]; exact upd_get n e
    have K9 : ∀ z o, H z = some o → H9 z = some o := fun z o e => k9 z o (ne_of_none e ns2) (K8 z o e)
    have ho9 := K9 _ _ ho
    clear e9 ob8 ho8
    with_reducible refine sq_seq ?_
    refine ⟨_, rfl, s, a.c_Stand, _, _, _, rfl, ho9, T.cl_Stand, T.na_Stand_on_shelf, rfl, ?_⟩
    have hos := K9 _ _ SA.p.os
    walk_at "go"
    intro p10 hp10
    obtain ⟨H10, e10⟩ : ∃ H10, H10 = upd H9 p10 (.lst [.non, .non]) := ⟨_, rfl⟩
    rw [← e10]
    have n10 : s2 ≠ p10 := ne_of_none ob9 hp10
    have ob10 : H10 s2 = some (.ins a.c_Stand A.dx (sdf A3 false)) := by rw [e10]; exact upd_get n10 ob9
    have k10 : ∀ z o, z ≠ s2 → H9 z = some o → H10 z = some o := fun z o n e => by rw [e10]; exact upd_get (ne_of_none e hp10) e
    have K10 : ∀ z o, H z = some o → H10 z = some o := fun z o e => k10 z o (ne_of_none e ns2) (K9 z o e)
    have f10 : H p10 = none := same_none' (K9) hp10
    have h10 : H10 p10 = some (.lst [.non, .non]) := by rw [e10, upd_same]
    have ho10 := K10 _ _ ho
    clear e10 ob9 ho9
    refine ⟨_, rfl, s2, a.c_Stand, A.dx, _, rfl, ob10, T.cl_Stand, T.na_Stand_on_shelf, Nat.le_of_ble_eq_true rfl, ?_⟩
    obtain ⟨H11, e11⟩ : ∃ H11, H11 = upd H10 s2 (.ins a.c_Stand A.dx (putF "on_shelf" (.ref p10) (sdf A3 false))) := ⟨_, rfl⟩
    rw [← e11]
    obtain ⟨A4, eA4⟩ : ∃ A4 : Sd, A4 = { A3 with os := p10 } := ⟨_, rfl⟩
    have ob11 : H11 s2 = some (.ins a.c_Stand A.dx (sdf A4 false)) := by rw [e11, eA4]; exact upd_same
    have k11 : ∀ z o, z ≠ s2 → H10 z = some o → H11 z = some o := fun z o n e => by rw [e11]; exact upd_get n e
    have K11 : ∀ z o, H z = some o → H11 z = some o := fun z o e => k11 z o (ne_of_none e ns2) (K10 z o e)
    have ho11 := K11 _ _ ho
    clear e11 ob10 ho10
    with_reducible refine sq_seq ?_
    refine ⟨_, rfl, s, a.c_Stand, _, _, _, rfl, ho11, T.cl_Stand, T.na_Stand_things, rfl, ?_⟩
    refine ⟨_, rfl, s2, a.c_Stand, A.dx, _, rfl, ob11, T.cl_Stand, T.na_Stand_things, Nat.le_of_ble_eq_true rfl, ?_⟩
    obtain ⟨H12, e12⟩ : ∃ H12, H12 = upd H11 s2 (.ins a.c_Stand A.dx (putF "things" (.int 0) (sdf A4 false))) := ⟨_, rfl⟩
    rw [← e12]
    have ob12 : H12 s2 = some (.ins a.c_Stand A.dx (sdf A4 false)) := by rw [e12]; exact upd_same
    have k12 : ∀ z o, z ≠ s2 → H11 z = some o → H12 z = some o := fun z o n e => by rw [e12]; exact upd_get n e
    have K12 : ∀ z o, H z = some o → H12 z = some o := fun z o e => k12 z o (ne_of_none e ns2) (K11 z o e)
    have ho12 := K12 _ _ ho
    clear e12 ob11 ho11
    with_reducible refine sq_seq ?_
    refine ⟨_, rfl, s, a.c_Stand, _, _, _, rfl, ho12, T.cl_Stand, T.na_Stand_entered, rfl, ?_⟩
    refine ⟨_, rfl, s2, a.c_Stand, A.dx, _, rfl, ob12, T.cl_Stand, T.na_Stand_entered, Nat.le_of_ble_eq_true rfl, ?_⟩
    obtain ⟨H13, e13⟩ : ∃ H13, H13 = upd H12 s2 (.ins a.c_Stand A.dx (putF "entered" (.int 0) (sdf A4 false))) := ⟨_, rfl⟩
    rw [← e13]
    have ob13 : H13 s2 = some (.ins a.c_Stand A.dx (sdf A4 false)) := by rw [e13]; exact upd_same
    have k13 : ∀ z o, z ≠ s2 → H12 z = some o → H13 z = some o := fun z o n e => by rw [e13]; exact upd_get n e
    have K13 : ∀ z o, H z = some o → H13 z = some o := fun z o e => k13 z o (ne_of_none e ns2) (K12 z o e)
    have ho13 := K13 _ _ ho
    clear e13 ob12 ho12
    with_reducible refine sq_seq ?_
    refine ⟨_, rfl, s, a.c_Stand, _, _, _, rfl, ho13, T.cl_Stand, T.na_Stand_hands, rfl, ?_⟩
    have hhd := K13 _ _ SA.p.hd
    walk_at "go"
    intro p14 hp14
    obtain ⟨H14, e14⟩ : ∃ H14, H14 = upd H13 p14 (.lst []) := ⟨_, rfl⟩
    rw [← e14]
    have n14 : s2 ≠ p14 := ne_of_none ob13 hp14
    have ob14 : H14 s2 = some (.ins a.c_Stand A.dx (sdf A4 false)) := by rw [e14]; exact upd_get n14 ob13
    have k14 : ∀ z o, z ≠ s2 → H13 z = some o → H14 z = some o := fun z o n e => by rw [e14]; exact upd_get (ne_of_none e hp14) e
    have K14 : ∀ z o, H z = some o → H14 z = some o := fun z o e => k14 z o (ne_of_none e ns2) (K13 z o e)
    have f14 : H p14 = none := same_none' (K13) hp14
    have h14 : H14 p14 = some (.lst []) := by rw [e14, upd_same]
    have ho14 := K14 _ _ ho
    clear e14 ob13 ho13
    refine ⟨_, rfl, s2, a.c_Stand, A.dx, _, rfl, ob14, T.cl_Stand, T.na_Stand_hands, Nat.le_of_ble_eq_true rfl, ?_⟩
    obtain ⟨H15, e15⟩ : ∃ H15, H15 = upd H14 s2 (.ins a.c_Stand A.dx (putF "hands" (.ref p14) (sdf A4 false))) := ⟨_, rfl⟩
    rw [← e15]
    obtain ⟨A7, eA7⟩ : ∃ A7 : Sd, A7 = { A4 with hd := p14 } := ⟨_, rfl⟩
    have ob15 : H15 s2 = some (.ins a.c_Stand A.dx (sdf A7 false)) := by rw [e15, eA7]; exact upd_same
    have k15 : ∀ z o, z ≠ s2 → H14 z = some o → H15 z = some o := fun z o n e => by rw [e15]; exact upd_get n e
    have K15 : ∀ z o, H z = some o → H15 z = some o := fun z o e => k15 z o (ne_of_none e ns2) (K14 z o e)
    have ho15 := K15 _ _ ho
    clear e15 ob14 ho14
    with_reducible refine sq_seq ?_
    refine ⟨_, rfl, s, a.c_Stand, _, _, _, rfl, ho15, T.cl_Stand, T.na_Stand_told, rfl, ?_⟩
    have htd := K15 _ _ SA.p.td
    walk_at "go"
    intro p16 hp16
    obtain ⟨H16, e16⟩ : ∃ H16, H16 = upd H15 p16 (.lst []) := ⟨_, rfl⟩
    rw [← e16]
    have n16 : s2 ≠ p16 := ne_of_none ob15 hp16
    have ob16 : H16 s2 = some (.ins a.c_Stand A.dx (sdf A7 false)) := by rw [e16]; exact upd_get n16 ob15
    have k16 : ∀ z o, z ≠ s2 → H15 z = some o → H16 z = some o := fun z o n e => by rw [e16]; exact upd_get (ne_of_none e hp16) e
    have K16 : ∀ z o, H z = some o → H16 z = some o := fun z o e => k16 z o (ne_of_none e ns2) (K15 z o e)
    have f16 : H p16 = none := same_none' (K15) hp16
    have h16 : H16 p16 = some (.lst []) := by rw [e16, upd_same]
    have ho16 := K16 _ _ ho
    clear e16 ob15 ho15
    refine ⟨_, rfl, s2, a.c_Stand, A.dx, _, rfl, ob16, T.cl_Stand, T.na_Stand_told, Nat.le_of_ble_eq_true rfl, ?_⟩
    obtain ⟨H17, e17⟩ : ∃ H17, H17 = upd H16 s2 (.ins a.c_Stand A.dx (putF "told" (.ref p16) (sdf A7 false))) := ⟨_, rfl⟩
    rw [← e17]
    obtain ⟨A8, eA8⟩ : ∃ A8 : Sd, A8 = { A7 with td := p16 } := ⟨_, rfl⟩
    have ob17 : H17 s2 = some (.ins a.c_Stand A.dx (sdf A8 false)) := by rw [e17, eA8]; exact upd_same
    have k17 : ∀ z o, z ≠ s2 → H16 z = some o → H17 z = some o := fun z o n e => by rw [e17]; exact upd_get n e
    have K17 : ∀ z o, H z = some o → H17 z = some o := fun z o e => k17 z o (ne_of_none e ns2) (K16 z o e)
    have ho17 := K17 _ _ ho
    clear e17 ob16 ho16
    with_reducible refine sq_seq ?_
    refine ⟨_, rfl, s, a.c_Stand, _, _, _, rfl, ho17, T.cl_Stand, T.na_Stand_fault, rfl, ?_⟩
    refine ⟨_, rfl, s2, a.c_Stand, A.dx, _, rfl, ob17, T.cl_Stand, T.na_Stand_fault, Nat.le_of_ble_eq_true rfl, ?_⟩
    obtain ⟨H18, e18⟩ : ∃ H18, H18 = upd H17 s2 (.ins a.c_Stand A.dx (putF "fault" (.non) (sdf A8 false))) := ⟨_, rfl⟩
    rw [← e18]
    have ob18 : H18 s2 = some (.ins a.c_Stand A.dx (sdf A8 false)) := by rw [e18]; exact upd_same
    have k18 : ∀ z o, z ≠ s2 → H17 z = some o → H18 z = some o := fun z o n e => by rw [e18]; exact upd_get n e
    have K18 : ∀ z o, H z = some o → H18 z = some o := fun z o e => k18 z o (ne_of_none e ns2) (K17 z o e)
    have ho18 := K18 _ _ ho
    clear e18 ob17 ho17
    with_reducible refine sq_seq ?_
    refine ⟨_, rfl, s, a.c_Stand, _, _, _, rfl, ho18, T.cl_Stand, T.na_Stand_shut, rfl, ?_⟩
    refine ⟨_, rfl, s2, a.c_Stand, A.dx, _, rfl, ob18, T.cl_Stand, T.na_Stand_shut, Nat.le_of_ble_eq_true rfl, ?_⟩
    obtain ⟨H19, e19⟩ : ∃ H19, H19 = upd H18 s2 (.ins a.c_Stand A.dx (putF "shut" (.bl false) (sdf A8 false))) := ⟨_, rfl⟩
    rw [← e19]
    have ob19 : H19 s2 = some (.ins a.c_Stand A.dx (sdf A8 false)) := by rw [e19]; exact upd_same
    have k19 : ∀ z o, z ≠ s2 → H18 z = some o → H19 z = some o := fun z o n e => by rw [e19]; exact upd_get n e
    have K19 : ∀ z o, H z = some o → H19 z = some o := fun z o e => k19 z o (ne_of_none e ns2) (K18 z o e)
    have ho19 := K19 _ _ ho
    clear e19 ob18 ho18
    walk_at "go"
    have L19 : ∀ z o, z ≠ s2 → H19 z = some o → H19 z = some o := fun z o _ e => e
    have L18 : ∀ z o, z ≠ s2 → H18 z = some o → H19 z = some o := fun z o n e => L19 z o n (k19 z o n e)
    have L17 : ∀ z o, z ≠ s2 → H17 z = some o → H19 z = some o := fun z o n e => L18 z o n (k18 z o n e)
    have L16 : ∀ z o, z ≠ s2 → H16 z = some o → H19 z = some o := fun z o n e => L17 z o n (k17 z o n e)
    have L15 : ∀ z o, z ≠ s2 → H15 z = some o → H19 z = some o := fun z o n e => L16 z o n (k16 z o n e)
    have L14 : ∀ z o, z ≠ s2 → H14 z = some o → H19 z = some o := fun z o n e => L15 z o n (k15 z o n e)
    have L13 : ∀ z o, z ≠ s2 → H13 z = some o → H19 z = some o := fun z o n e => L14 z o n (k14 z o n e)
    have L12 : ∀ z o, z ≠ s2 → H12 z = some o → H19 z = some o := fun z o n e => L13 z o n (k13 z o n e)
    have L11 : ∀ z o, z ≠ s2 → H11 z = some o → H19 z = some o := fun z o n e => L12 z o n (k12 z o n e)
    have L10 : ∀ z o, z ≠ s2 → H10 z = some o → H19 z = some o := fun z o n e => L11 z o n (k11 z o n e)
    have L9 : ∀ z o, z ≠ s2 → H9 z = some o → H19 z = some o := fun z o n e => L10 z o n (k10 z o n e)
    have L8 : ∀ z o, z ≠ s2 → H8 z = some o → H19 z = some o := fun z o n e => L9 z o n (k9 z o n e)
    have L7 : ∀ z o, z ≠ s2 → H7 z = some o → H19 z = some o := fun z o n e => L8 z o n (k8 z o n e)
    have L6 : ∀ z o, z ≠ s2 → H6 z = some o → H19 z = some o := fun z o n e => L7 z o n (k7 z o n e)
    have L5 : ∀ z o, z ≠ s2 → H5 z = some o → H19 z = some o := fun z o n e => L6 z o n (k6 z o n e)
    have L4 : ∀ z o, z ≠ s2 → H4 z = some o → H19 z = some o := fun z o n e => L5 z o n (k5 z o n e)
    have L3 : ∀ z o, z ≠ s2 → H3 z = some o → H19 z = some o := fun z o n e => L4 z o n (k4 z o n e)
    have hA : ∀ {z : Addr} {o : HO}, z ∈ A.all → H3 z = some o → H19 z = some o := fun {z o} hz e => L3 z o (nA z hz) e
    have m : ∀ {z}, z ∈ A.al2 → z ∈ A.all := fun {z} hz => List.mem_cons_of_mem _ hz
    have eF : A8 = ⟨A.dx, A.sl, D, u1.1, u1.2.1, u1.2.2, u2.1, u2.2.1, u2.2.2, DL, v1, v2, DN, m1, m2, p10, A.lo, A.pl, p14, p16, A.wn⟩ := by
      rw [eA8, eA7, eA4, eA3, eA2, eA1]
    rw [eF] at ob19
    refine q s2 ⟨A.dx, A.sl, D, u1.1, u1.2.1, u1.2.2, u2.1, u2.2.1, u2.2.2, DL, v1, v2, DN, m1, m2, p10, A.lo, A.pl, p14, p16, A.wn⟩ H19 ns2 (fun z hz => ?_) (fun z hz => ?_) ⟨ob19, ⟨hA List.mem_cons_self SB.p.sl, L4 _ _ nDs hD4, U1.1.keep fun z hz o e => L4 z o (U1.2 z hz).2.2 e, U2.1.keep fun z hz o e => L4 z o (U2.2 z hz).2.2 e, L6 _ _ nDLs hDL6, L6 _ _ vf1.2.2 vf1.1, L6 _ _ vf2.2.2 vf2.1, L8 _ _ nDNs hDN8, L8 _ _ mf1.2.2 mf1.1, L8 _ _ mf2.2.2 mf2.1, L10 _ _ n10.symm h10, hA (m (by simp [Sd.al2])) SB.p.pl, L14 _ _ n14.symm h14, L16 _ _ n16.symm h16⟩⟩ fun z o e => K19 z o e
    · simp only [Sd.all, Sd.al2, List.mem_cons, List.not_mem_nil, or_false] at hz
      rcases hz with rfl | rfl | rfl | rfl | rfl | rfl | rfl | rfl | rfl | rfl | rfl | rfl | rfl | rfl | rfl | rfl | rfl | rfl
      · rw [eA]; exact hp1
      · exact fD
      · exact (U1.2 _ (by simp)).1
      · exact (U1.2 _ (by simp)).1
      · exact (U1.2 _ (by simp)).1
      · exact (U2.2 _ (by simp)).1
      · exact (U2.2 _ (by simp)).1
      · exact (U2.2 _ (by simp)).1
      · exact fDL
      · exact vf1.2.1
      · exact vf2.2.1
      · exact fDN
      · exact mf1.2.1
      · exact mf2.2.1
      · exact f10
      · exact frH _ (by simp [Sd.al2])
      · exact f14
      · exact f16
    · simp only [Sd.all, Sd.al2, List.mem_cons, List.not_mem_nil, or_false] at hz
      rcases hz with rfl | rfl | rfl | rfl | rfl | rfl | rfl | rfl | rfl | rfl | rfl | rfl | rfl | rfl | rfl | rfl | rfl | rfl
      · exact nA _ List.mem_cons_self
      · exact nDs
      · exact (U1.2 _ (by simp)).2.2
      · exact (U1.2 _ (by simp)).2.2
      · exact (U1.2 _ (by simp)).2.2
      · exact (U2.2 _ (by simp)).2.2
      · exact (U2.2 _ (by simp)).2.2
      · exact (U2.2 _ (by simp)).2.2
      · exact nDLs
      · exact vf1.2.2
      · exact vf2.2.2
      · exact nDNs
      · exact mf1.2.2
      · exact mf2.2.2
      · exact n10.symm
      · exact nA _ (m (by simp [Sd.al2]))
      · exact n14.symm
      · exact n16.symm
def spSidePacts3 (CD : Addr) : Sp := fun vs H Q _ => ∃ (y dn x : Addr) (n : Int) (wr tr rt rp rs : Addr), vs = [.ref y] ∧ H y = some (.ins CD dn (sf x n wr tr rt rp rs)) ∧ Q (.ref x) H
theorem ok_Side_pacts (T : Txt w K mg a) : FnOk P w K mg base CX0 1 a.f_Side_pacts a.d_Side_pacts ["self"] (spSidePacts3 a.c_Side) := by
  have cl_Side := T.cl_Side
  have na_Side_deal := T.na_Side_deal
  refine T.F_Side_pacts.ok sc_Side_pacts (fun vs H Q E h => ?_) (fun cdv A outer s H vs Q E hr h => ?_)
  · obtain ⟨y, dn, x, n, wr, tr, rt, rp, rs, rfl, _⟩ := h
    rfl
  · obtain ⟨y, dn, x, n, wr, tr, rt, rp, rs, rfl, ho, q⟩ := h
    refine ⟨_, (pss_one (ps_ret (pe_fld (pv 0) rfl))), ?_⟩
    walk_at "go"
    exact q
def spSideNumber3 (CD : Addr) : Sp := fun vs H Q _ => ∃ (y dn x : Addr) (n : Int) (wr tr rt rp rs : Addr), vs = [.ref y] ∧ H y = some (.ins CD dn (sf x n wr tr rt rp rs)) ∧ Q (.int n) H
theorem ok_Side_number (T : Txt w K mg a) : FnOk P w K mg base CX0 1 a.f_Side_number a.d_Side_number ["self"] (spSideNumber3 a.c_Side) := by
  have cl_Side := T.cl_Side
  have na_Side_which := T.na_Side_which
  refine T.F_Side_number.ok sc_Side_number (fun vs H Q E h => ?_) (fun cdv A outer s H vs Q E hr h => ?_)
  · obtain ⟨y, dn, x, n, wr, tr, rt, rp, rs, rfl, _⟩ := h
    rfl
  · obtain ⟨y, dn, x, n, wr, tr, rt, rp, rs, rfl, ho, q⟩ := h
    refine ⟨_, (pss_one (ps_ret (pe_fld (pv 0) rfl))), ?_⟩
    walk_at "go"
    exact q
def spEqOdd3 (CD CW : Addr) : Sp := fun vs H Q _ => ∃ (y w dw : Addr) (fw : List (Str × V)), vs = [.ref y, .ref w] ∧ H w = some (.ins CW dw fw) ∧ Q (.bl false) H
theorem ok_Side___eq__ (T : Txt w K mg a) : FnOk P w K mg base CX0 4 a.f_Side___eq__ a.d_Side___eq__ ["self", "other"] (spEqOdd3 a.c_Side a.c_World) := by
  have G_Pacts___eq__ := ok_Pacts___eq__ (P := P) (w := w) (base := base) T
  have cl_Side := T.cl_Side
  have na_Side_deal := T.na_Side_deal
  have na_Side_which := T.na_Side_which
  have na_Side_written := T.na_Side_written
  refine T.F_Side___eq__.ok sc_Side___eq__ (fun vs H Q E h => ?_) (fun cdv A outer s H vs Q E hr h => ?_)
  · obtain ⟨y, w, dw, fw, rfl, _⟩ := h
    rfl
  · obtain ⟨y, w, dw, fw, rfl, hw, q⟩ := h
    have oc := T.oc_World
    have ty : TyX K H (.ref w) (.ref a.c_World) := .base (.ins hw T.cl_World oc.ha oc.hn oc.ht oc.hm)
    have ki := T.ks_World_Side
    refine ⟨_, (pss_cons (ps_if (pt_not (pt_val (pe_callB call_isi (by rfl) T.z_isinstance (by decide +kernel) (pa_cons (pv 1) (pa_cons (pe_glob (v := .ref a.c_Side) rfl T.m_Side rfl) pa_nil))))) (pss_one (ps_ret pe_bl)) pss_nil)
      (pss_one (ps_ret (pe_and (pe_cmpR (op_eqO G_Pacts___eq__ T.mt_Pacts___eq__.at_ T.mt_Pacts___eq__.fn T.b_Pacts___eq__ pass0 (hr.mono (by decide))) (pe_fld (pv 0) rfl) (pe_fld (pv 1) rfl) (nomark _)) (pe_and (pe_cmpR op_eq (pe_fld (pv 0) rfl) (pe_fld (pv 1) rfl) (nomark _)) (pe_one (pe_cmpR (op_eqD (hr.units)) (pe_fld (pv 0) rfl) (pe_fld (pv 1) rfl) (nomark _)))))))), ?_⟩
    walk_at "go"
    refine ⟨.own _, ty, ki, ?_⟩
    walk_at "go"
    exact q
def spPactsTold (CS CT CD : Addr) : Sp := fun vs H Q _ => ∃ (s : Addr) (A : Sd) (near : Addr) (far : V) (sh : Bool) (dn x : Addr) (n : Int) (wr tr rt rp rs : Addr), vs = [.ref s] ∧ SdAt CS CT H s A (.ref near) far sh ∧ H near = some (.ins CD dn (sf x n wr tr rt rp rs)) ∧ Q (.ref x) H
theorem ok_Stand_pacts_told (T : Txt w K mg a) : FnOk P w K mg base CX0 2 a.f_Stand_pacts_told a.d_Stand_pacts_told ["self"] (spPactsTold a.c_Stand a.c_Table a.c_Side) := by
  have G_Side_pacts := ok_Side_pacts (P := P) (w := w) (base := base) T
  have cl_Stand := T.cl_Stand
  have na_Stand_sides := T.na_Stand_sides
  have cl_Side := T.cl_Side
  refine T.F_Stand_pacts_told.ok sc_Stand_pacts_told (fun vs H Q E h => ?_) (fun cdv A outer s H vs Q E hr h => ?_)
  · obtain ⟨s, A, near, far, sh, dn, x, n, wr, tr, rt, rp, rs, rfl, _⟩ := h
    rfl
  · obtain ⟨s, A, near, far, sh, dn, x, n, wr, tr, rt, rp, rs, rfl, SA, hn, q⟩ := h
    have ho := SA.ob
    have hsl := SA.p.sl
    have na := T.na_Stand_sides
    have cl := T.cl_Stand
    have a0 : atI [V.ref near, far] 0 = some (.ref near) := rfl
    refine ⟨_, (pss_one (ps_ret (pe_meth0 (pe_ix ix_list (pe_fld (pv 0) rfl) pe_int (fun _ _ => rfl)) T.cl_Side T.mt_Side_pacts G_Side_pacts (hr.mono (by decide)) T.b_Side_pacts .nil pass0))), ?_⟩
    walk_at "go"
    exact q
def spIsOwn (CS CT : Addr) : Sp := fun vs H Q _ => ∃ (s : Addr) (A : Sd) (near far : V) (sh : Bool) (n : Int), vs = [.ref s, .int n, .non] ∧ SdAt CS CT H s A near far sh ∧ (n = 0 ∨ n = 1) ∧ Q (.bl false) H
theorem ok_Stand_is_own (T : Txt w K mg a) : FnOk P w K mg base CX0 1 a.f_Stand_is_own a.d_Stand_is_own ["self", "team", "handle"] (spIsOwn a.c_Stand a.c_Table) := by
  have cl_Stand := T.cl_Stand
  have na_Stand_live := T.na_Stand_live
  refine T.F_Stand_is_own.ok sc_Stand_is_own (fun vs H Q E h => ?_) (fun cdv A outer s H vs Q E hr h => ?_)
  · obtain ⟨s, A, near, far, sh, n, rfl, _⟩ := h
    rfl
  · obtain ⟨s, A, near, far, sh, n, rfl, SA, hn, q⟩ := h
    have ho := SA.ob
    have hlv := SA.p.lv
    have h1 := SA.p.v1
    have h2 := SA.p.v2
    have na := T.na_Stand_live
    have cl := T.cl_Stand
    refine ⟨_, (pss_one (ps_ret (pe_and (pe_cmp (pc_dinN (hu_of hr) (pv 2) (pe_ix ix_list (pe_fld (pv 0) rfl) (pv 1) (fun _ _ => rfl))) rfl) (pe_one (pe_ix ix_list (pe_dget (hu_of hr) (pe_ix ix_list (pe_fld (pv 0) rfl) (pv 1) (fun _ _ => rfl)) (pv 2) (fun _ _ => rfl)) pe_int (fun _ _ => rfl)))))), ?_⟩
    have a0 : atI [V.ref A.v1, .ref A.v2] 0 = some (.ref A.v1) := rfl
    have a1 : atI [V.ref A.v1, .ref A.v2] 1 = some (.ref A.v2) := rfl
    rcases hn with rfl | rfl
    · walk_at "go"
      refine .inr ⟨_, _, rfl, rfl, .inl h1, ?_⟩
      first
      | exact q
      | (walk_at "go"
         exact q)
      | (walk_at "go"
         focus fail "B")
    · walk_at "go"
      refine .inr ⟨_, _, rfl, rfl, .inl h2, ?_⟩
      first
      | exact q
      | (walk_at "go"
         exact q)
      | (walk_at "go"
         focus fail "B2")
def spCloseShelf (CS CT : Addr) : Sp := fun vs H Q _ => ∃ (s : Addr) (A : Sd) (near far : V) (sh : Bool) (n : Int), vs = [.ref s, .int n] ∧ SdAt CS CT H s A near far sh ∧ (n = 0 ∨ n = 1) ∧ Q .non H
theorem ok_close_shelf (T : Txt w K mg a) : FnOk P w K mg base CX0 2 a.f_close_shelf a.d_close_shelf ["stand", "team"] (spCloseShelf a.c_Stand a.c_Table) := by
  have G_Stand_is_own := ok_Stand_is_own (P := P) (w := w) (base := base) T
  have cl_Stand := T.cl_Stand
  have na_Stand_on_shelf := T.na_Stand_on_shelf
  have na_Stand_told := T.na_Stand_told
  refine T.F_close_shelf.ok sc_close_shelf (fun vs H Q E h => ?_) (fun cdv A outer s H vs Q E hr h => ?_)
  · obtain ⟨s, A, near, far, sh, n, rfl, _⟩ := h
    rfl
  · obtain ⟨s, A, near, far, sh, n, rfl, SA, hn, q⟩ := h
    have ho := SA.ob
    have hos := SA.p.os
    have na := T.na_Stand_on_shelf
    have cl := T.cl_Stand
    refine ⟨_, (pss_cons (ps_set (i := 2) sc_close_shelf.nd rfl (Or.inl rfl) (pe_ix ix_list (pe_fld (pv 0) rfl) (pv 1) (fun _ _ => rfl)))
      (pss_one (ps_if (pt_truth (pe_meth (pv 0) T.cl_Stand T.mt_Stand_is_own G_Stand_is_own (hr.mono (by decide)) T.b_Stand_is_own .nil pass0 (pa_cons (pv 1) (pa_cons (pv 2) pa_nil))) (by intro _; rfl)) (pss_cons ps_never
      (pss_cons ps_never
      (pss_one ps_never))) pss_nil))), ?_⟩
    have a0 : atI [V.non, V.non] 0 = some .non := rfl
    have a1 : atI [V.non, V.non] 1 = some .non := rfl
    have hn0 := hn
    rcases hn with rfl | rfl
    · walk_at "go"
      exact ifF rfl q
    · walk_at "go"
      exact ifF rfl q
theorem SdP.lo {CT : Addr} {H : Hp} {A : Sd} {near far : V} {l : Addr} (h : SdP CT H A near far) : SdP CT H { A with lo := l } near far := ⟨h.sl, h.tb, h.t1, h.t2, h.lv, h.v1, h.v2, h.ln, h.n1, h.n2, h.os, h.pl, h.hd, h.td⟩
def spShutAll (CS CT : Addr) : Sp := fun vs H Q _ => ∃ (s : Addr) (A : Sd) (near far : V), vs = [.ref s] ∧ SdAt CS CT H s A near far false ∧ s ∉ A.all ∧
  ∀ (lo hd : Addr) (H' : Hp), H lo = none → H hd = none → SdAt CS CT H' s { A with lo := lo, hd := hd } near far true → (∀ z o, z ≠ s → H z = some o → H' z = some o) → Q .non H'
theorem ok_shut_all (T : Txt w K mg a) : FnOk P w K mg base CX0 3 a.f_shut_all a.d_shut_all ["stand"] (spShutAll a.c_Stand a.c_Table) := by
  have G_close_shelf := ok_close_shelf (P := P) (w := w) (base := base) T
  have cl_Stand := T.cl_Stand
  have na_Stand_lent_out := T.na_Stand_lent_out
  have na_Stand_pile := T.na_Stand_pile
  have na_Stand_hands := T.na_Stand_hands
  have na_Stand_told := T.na_Stand_told
  have na_Stand_on_way := T.na_Stand_on_way
  have na_Stand_shut := T.na_Stand_shut
  refine T.F_shut_all.ok sc_shut_all (fun vs H Q E h => ?_) (fun cdv A outer s H vs Q E hr h => ?_)
  · obtain ⟨s, A, near, far, rfl, _⟩ := h
    rfl
  · obtain ⟨s, A, near, far, rfl, SA, ns, q⟩ := h
    have ho := SA.ob
    have hpl := SA.p.pl
    have hhd := SA.p.hd
    have cl := T.cl_Stand
    have na1 := T.na_Stand_on_way
    have na2 := T.na_Stand_pile
    have na3 := T.na_Stand_hands
    refine ⟨_, (pss_mid (ps_if (pt_cmpR op_notN (pe_fld (pv 0) rfl) pe_non (nomark _)) (pss_cons ps_never
      (pss_one ps_never)) pss_nil)
      (pss_cons (ps_stop (ps_while PassesOwn.never (pt_cmpR op_gt (pe_callB call_lenK (by rfl) T.z_len PySem.boot_len (pa_cons (pe_fld (pv 0) rfl) pa_nil)) pe_int (nomark _)) (pss_one ps_never)))
      (pss_cons (ps_fld (pv 0) (pe_lst (pa_cons (pe_lst pa_nil) (pa_cons (pe_lst pa_nil) pa_nil))) rfl)
      (pss_cons (ps_stop (ps_for PassesOwn.never rfl (pi_wait (pi_tup (by exact (pe_tup (pa_cons pe_int (pa_cons pe_int pa_nil)))))) (pg_name (i := 1) sc_shut_all.nd rfl (Or.inl rfl)) (pss_one (ps_expr (pe_call G_close_shelf (hr.mono (by decide)) rfl T.m_close_shelf T.F_close_shelf.kp T.b_close_shelf .nil pass0 (pa_cons (pv 0) (pa_cons (pv 1) pa_nil)))))))
      (pss_cons (ps_stop (ps_for PassesOwn.never rfl (pi_wait (pi_list (by exact (pe_fld (pv 0) rfl)))) (pg_name (i := 2) sc_shut_all.nd rfl (Or.inl rfl)) (pss_one ps_never)))
      (pss_cons (ps_fld (pv 0) (pe_lst pa_nil) rfl)
      (pss_one (ps_fld (pv 0) pe_bl rfl)))))))), ?_⟩
    refine mid_of (fun σ H' => σ = [some (.ref s), none, none] ∧ H' = H) ?_ ?_
    · walk_at "go"
      refine ifF (by simp) ?_
      exact wait ⟨rfl, rfl⟩
    rintro σ H' ⟨rfl, e⟩
    rw [e]
    refine sq_seq ?_
    refine while_W (fun m σ H1 => σ = [some (.ref s), none, none] ∧ H1 = H ∧ m = 0) 0 ⟨rfl, rfl, rfl⟩ ?_
    rintro m σ H1 ⟨rfl, e1, rfl⟩
    rw [e1]
    walk_at "go"
    intro p1 hp1
    obtain ⟨H1, e1⟩ : ∃ H1, H1 = upd H p1 (.lst []) := ⟨_, rfl⟩
    have s1 : Same H H1 := by rw [e1]; exact Same.upd_new hp1
    have h1 : H1 p1 = some (.lst []) := by rw [e1, upd_same]
    rw [← e1]
    walk_at "go"
    intro p2 hp2
    obtain ⟨H2, e2⟩ : ∃ H2, H2 = upd H1 p2 (.lst []) := ⟨_, rfl⟩
    have s2 : Same H1 H2 := by rw [e2]; exact Same.upd_new hp2
    have h2 : H2 p2 = some (.lst []) := by rw [e2, upd_same]
    rw [← e2]
    walk_at "go"
    intro p3 hp3
    obtain ⟨H3, e3⟩ : ∃ H3, H3 = upd H2 p3 (.lst [.ref p1, .ref p2]) := ⟨_, rfl⟩
    have s3 : Same H2 H3 := by rw [e3]; exact Same.upd_new hp3
    have h3 : H3 p3 = some (.lst [.ref p1, .ref p2]) := by rw [e3, upd_same]
    rw [← e3]
    have s03 := (s1.trans s2).trans s3
    have ho3 := s03 _ _ ho
    have np3 : H p3 = none := same_none' (s1.trans s2) hp3
    refine ⟨_, rfl, s, a.c_Stand, A.dx, _, rfl, ho3, T.cl_Stand, T.na_Stand_lent_out, Nat.le_of_ble_eq_true rfl, ?_⟩
    obtain ⟨H4, e4⟩ : ∃ H4, H4 = upd H3 s (.ins a.c_Stand A.dx (putF "lent_out" (.ref p3) (sdf A false))) := ⟨_, rfl⟩
    rw [← e4]
    have nAs : ∀ z ∈ A.all, z ≠ s := fun z hz e => ns (by rw [← e]; exact hz)
    have SA4 : SdAt a.c_Stand a.c_Table H4 s { A with lo := p3 } near far false := ⟨by rw [e4]; exact upd_same, (SA.p.keep (H' := H4) fun z hz o e => by rw [e4]; exact upd_get (nAs z hz) (s03 _ _ e)).lo⟩
    have k4 : ∀ z o, z ≠ s → H z = some o → H4 z = some o := fun z o n e => by rw [e4]; exact upd_get n (s03 _ _ e)
    refine sq_seq (stop_in ?_)
    walk_at "go"
    intro p5 hp5
    obtain ⟨H5, e5⟩ : ∃ H5, H5 = upd H4 p5 (.tup [.int 0, .int 1]) := ⟨_, rfl⟩
    have s5 : Same H4 H5 := by rw [e5]; exact Same.upd_new hp5
    have h5 : H5 p5 = some (.tup [.int 0, .int 1]) := by rw [e5, upd_same]
    rw [← e5]
    have SA5 := SA4.same s5
    walk_at "go"
    refine wait ?_
    refine forT (K := K) (a := p5) (xs := [.int 0, .int 1]) (fun j σ H' => (∃ u1, σ = [some (.ref s), u1, none]) ∧ H' = H5) ?_ ?_ ?_ ?_
    · exact ⟨⟨_, rfl⟩, rfl⟩
    · rintro i σ H' _ ⟨_, rfl⟩
      exact SqT.of h5
    · rintro i v σ H' hi ⟨⟨u1, rfl⟩, e6⟩
      rw [e6]
      have hv : ∃ n : Int, v = .int n ∧ (n = 0 ∨ n = 1) := by
        match i, hi with
        | 0, hi => exact ⟨0, (Option.some.inj hi).symm, .inl rfl⟩
        | 1, hi => exact ⟨1, (Option.some.inj hi).symm, .inr rfl⟩
        | n + 2, hi => cases hi
      obtain ⟨n, rfl, hn⟩ := hv
      walk_at "go"
      exact wait ⟨⟨_, rfl⟩, rfl⟩
    rintro σ H6 ⟨⟨u1, rfl⟩, e6⟩
    rw [e6]
    refine sq_seq (stop_in ?_)
    have ho5 := SA5.ob
    have hhd5 := SA5.p.hd
    walk_at "go"
    refine wait ?_
    refine forL (K := K) (a := A.hd) (xs := []) (fun j σ H' => (∃ u1 u2, σ = [some (.ref s), u1, u2]) ∧ H' = H5) ?_ ?_ ?_ ?_
    · exact ⟨⟨_, _, rfl⟩, rfl⟩
    · rintro i σ H' _ ⟨_, rfl⟩
      exact SqL.of hhd5
    · rintro i v σ H' hi _
      cases hi
    rintro σ H7 ⟨⟨u1, u2, rfl⟩, e7⟩
    rw [e7]
    with_reducible refine sq_seq ?_
    walk_at "go"
    intro p8 hp8
    obtain ⟨H8, e8⟩ : ∃ H8, H8 = upd H5 p8 (.lst []) := ⟨_, rfl⟩
    have s8 : Same H5 H8 := by rw [e8]; exact Same.upd_new hp8
    have h8 : H8 p8 = some (.lst []) := by rw [e8, upd_same]
    rw [← e8]
    have ho8 := s8 _ _ ho5
    have n8 : p8 ≠ s := (ne_of_none ho5 hp8).symm
    refine ⟨_, rfl, s, a.c_Stand, A.dx, _, rfl, ho8, T.cl_Stand, T.na_Stand_hands, Nat.le_of_ble_eq_true rfl, ?_⟩
    refine ⟨_, rfl, s, a.c_Stand, A.dx, _, rfl, (show (upd H8 s (.ins a.c_Stand A.dx (putF "hands" (.ref p8) (sdf { A with lo := p3 } false)))) s = some (.ins a.c_Stand A.dx (sdf { A with lo := p3, hd := p8 } false)) from upd_same), T.cl_Stand, T.na_Stand_shut, Nat.le_of_ble_eq_true rfl, ?_⟩
    have kF : ∀ z o, z ≠ s → H5 z = some o → upd (upd H8 s (.ins a.c_Stand A.dx (putF "hands" (.ref p8) (sdf { A with lo := p3 } false)))) s (.ins a.c_Stand A.dx (putF "shut" (.bl true) (sdf { A with lo := p3, hd := p8 } false))) z = some o := fun z o n e => upd_get n (upd_get n (s8 _ _ e))
    have m : ∀ {z}, z ∈ A.al2 → z ∈ A.all := fun {z} hz => List.mem_cons_of_mem _ hz
    have np8 : H p8 = none := keep_none1 (s := s) (H' := H5) (fun z o n e => s5 _ _ (k4 z o n e)) n8 hp8
    have P5 := SA5.p
    have kP : ∀ z ∈ A.all, ∀ o, H5 z = some o → _ := fun z hz o e => kF z o (nAs z hz) e
    exact q p3 p8 _ np3 np8 ⟨upd_same, ⟨kP _ List.mem_cons_self _ P5.sl, kP _ (m (by simp [Sd.al2])) _ P5.tb, P5.t1.keep fun z hz => kP z (m (by
      simp only [List.mem_cons, List.not_mem_nil, or_false] at hz
      rcases hz with rfl | rfl | rfl <;> simp [Sd.al2])), P5.t2.keep fun z hz => kP z (m (by
      simp only [List.mem_cons, List.not_mem_nil, or_false] at hz
      rcases hz with rfl | rfl | rfl <;> simp [Sd.al2])), kP _ (m (by simp [Sd.al2])) _ P5.lv, kP _ (m (by simp [Sd.al2])) _ P5.v1, kP _ (m (by simp [Sd.al2])) _ P5.v2, kP _ (m (by simp [Sd.al2])) _ P5.ln, kP _ (m (by simp [Sd.al2])) _ P5.n1, kP _ (m (by simp [Sd.al2])) _ P5.n2, kP _ (m (by simp [Sd.al2])) _ P5.os, kP _ (m (by simp [Sd.al2])) _ P5.pl, upd_get n8 (upd_get n8 h8), kP _ (m (by simp [Sd.al2])) _ P5.td⟩⟩ fun z o n e => kF z o n (s5 _ _ (k4 z o n e))
theorem ok_NoSide___init__ (T : Txt w K mg a) : FnOk P w K mg base CX0 1 a.f_NoSide___init__ a.d_NoSide___init__ ["self", "at"] (spErr a.c_NoSide "at") := by
  refine T.F_NoSide___init__.ok sc_NoSide___init__ (fun vs H Q E h => ?_) (fun cdv A outer s H vs Q E hr h => ?_)
  · obtain ⟨e, v, rfl, _⟩ := h
    rfl
  · obtain ⟨e, v, rfl, he, q⟩ := h
    refine ⟨_, pss_one (ps_ost (pv 0) (pv 1)), ?_⟩
    exact ⟨_, rfl, _, rfl, e, a.c_NoSide, rfl, T.ox_NoSide, T.na_NoSide_at, .inl ⟨he, q⟩⟩
theorem ok_NoThing___init__ (T : Txt w K mg a) : FnOk P w K mg base CX0 1 a.f_NoThing___init__ a.d_NoThing___init__ ["self", "at"] (spErr a.c_NoThing "at") := by
  refine T.F_NoThing___init__.ok sc_NoThing___init__ (fun vs H Q E h => ?_) (fun cdv A outer s H vs Q E hr h => ?_)
  · obtain ⟨e, v, rfl, _⟩ := h
    rfl
  · obtain ⟨e, v, rfl, he, q⟩ := h
    refine ⟨_, pss_one (ps_ost (pv 0) (pv 1)), ?_⟩
    exact ⟨_, rfl, _, rfl, e, a.c_NoThing, rfl, T.ox_NoThing, T.na_NoThing_at, .inl ⟨he, q⟩⟩
abbrev wf (s pa : Addr) : List (Str × V) := [("now", .ref s), ("past", .ref pa)]
structure WAt (CW CS CT : Addr) (H : Hp) (w dw s pa : Addr) (A : Sd) (past : List Addr) (near far : V) (sh : Bool) : Prop where
  ob : H w = some (.ins CW dw (wf s pa))
  pa : H pa = some (.lst (past.map V.ref))
  st : SdAt CS CT H s A near far sh
theorem WAt.same {CW CS CT : Addr} {H H' : Hp} {w dw s pa : Addr} {A : Sd} {past : List Addr} {near far : V} {sh : Bool} (h : WAt CW CS CT H w dw s pa A past near far sh) (k : Same H H') : WAt CW CS CT H' w dw s pa A past near far sh := ⟨k _ _ h.ob, k _ _ h.pa, h.st.same k⟩
theorem SdP.some {CT : Addr} {H : Hp} {A : Sd} {near far : V} (h : SdP CT H A near far) : ∀ z ∈ A.all, ∃ o, H z = some o := fun z hz => by
  obtain ⟨d1, h1⟩ := h.t1.ob
  obtain ⟨d2, h2⟩ := h.t2.ob
  simp only [Sd.all, Sd.al2, List.mem_cons, List.not_mem_nil, or_false] at hz
  rcases hz with rfl | rfl | rfl | rfl | rfl | rfl | rfl | rfl | rfl | rfl | rfl | rfl | rfl | rfl | rfl | rfl | rfl | rfl
  · exact ⟨_, h.sl⟩
  · exact ⟨_, h.tb⟩
  · exact ⟨_, h1⟩
  · exact ⟨_, h.t1.tu⟩
  · exact ⟨_, h.t1.kp⟩
  · exact ⟨_, h2⟩
  · exact ⟨_, h.t2.tu⟩
  · exact ⟨_, h.t2.kp⟩
  · exact ⟨_, h.lv⟩
  · exact ⟨_, h.v1⟩
  · exact ⟨_, h.v2⟩
  · exact ⟨_, h.ln⟩
  · exact ⟨_, h.n1⟩
  · exact ⟨_, h.n2⟩
  · exact ⟨_, h.os⟩
  · exact ⟨_, h.pl⟩
  · exact ⟨_, h.hd⟩
  · exact ⟨_, h.td⟩
def spWorldInit (K : PySem.W.Frag) (CW CS CT CD CP : Addr) : Sp := fun vs H Q _ => ∃ (w dw near far dn df x1 x2 kp1 kd1 kp2 kd2 : Addr) (wr tr rt rp rs wr2 tr2 rt2 rp2 rs2 : Addr) (L1 L2 : List (Addr × Pr)) (M1 M2 : List (Addr × Hl)), vs = [.ref w, .ref near, .ref far] ∧ H w = some (.ins CW dw []) ∧
  H near = some (.ins CD dn (sf x1 0 wr tr rt rp rs)) ∧ H far = some (.ins CD df (sf x2 1 wr2 tr2 rt2 rp2 rs2)) ∧ PactsH K CP H x1 kp1 kd1 L1 M1 ∧ PactsH K CP H x2 kp2 kd2 L2 M2 ∧ Good (L1.map (·.2)) ∧ GoodH (L1.map (·.2)) (M1.map (·.2)) ∧ Good (L2.map (·.2)) ∧ GoodH (L2.map (·.2)) (M2.map (·.2)) ∧ L2.map (·.2) = L1.map (·.2) ∧ M2.map (·.2) = M1.map (·.2) ∧
  ∀ (s pa : Addr) (A : Sd) (H' : Hp), (∀ z ∈ s :: pa :: A.all, H z = none) → (∀ z ∈ A.all, z ≠ s ∧ z ≠ pa) → s ≠ pa → WAt CW CS CT H' w dw s pa A [] (.ref near) (.ref far) false → (∀ z o, z ≠ w → H z = some o → H' z = some o) → Q .non H'
theorem ok_World___init__ (T : Txt w K mg a) : FnOk P w K mg base (L2.CX P w) 5 a.f_World___init__ a.d_World___init__ ["self", "near", "far"] (spWorldInit K a.c_World a.c_Stand a.c_Table a.c_Side a.c_Pacts) := by
  have G_Stand___init__ := ok_Stand___init__ (P := P) (w := w) (base := base) T
  have G_Side_number := ok_Side_number (P := P) (w := w) (base := base) T
  have G_NoSide___init__ := ok_NoSide___init__ (P := P) (w := w) (base := base) T
  have G_Pacts___eq__ := ok_Pacts___eq__ (P := P) (w := w) (base := base) T
  have G_Side_pacts := ok_Side_pacts (P := P) (w := w) (base := base) T
  have cl_Side := T.cl_Side
  have cl_World := T.cl_World
  have na_World_now := T.na_World_now
  have na_World_past := T.na_World_past
  refine T.F_World___init__.okX sc_World___init__ (fun vs H Q E h => ?_) (fun cdv A outer s H vs Q E hr h => ?_)
  · obtain ⟨w, dw, near, far, dn, df, x1, x2, kp1, kd1, kp2, kd2, wr, tr, rt, rp, rs, wr2, tr2, rt2, rp2, rs2, L1, L2, M1, M2, rfl, _⟩ := h
    rfl
  · obtain ⟨w, dw, near, far, dn, df, x1, x2, kp1, kd1, kp2, kd2, wr, tr, rt, rp, rs, wr2, tr2, rt2, rp2, rs2, L1, L2, M1, M2, rfl, hw, hne, hfa, PX, PY, G, GH, G', GH', eL, eM, q⟩ := h
    obtain ⟨dp1, hp1⟩ := PX.pa.ob
    obtain ⟨dp2, hp2⟩ := PY.pa.ob
    refine ⟨_, (pss_cons (ps_if (pt_cmpR op_ne (pe_meth0 (pv 1) T.cl_Side T.mt_Side_number G_Side_number (hr.mono (by decide)) T.b_Side_number .nil pass0) pe_int (nomark _)) (pss_one (ps_raise rfl (takes_of rfl rfl rfl rfl) (pmk_oex T.ox_NoSide T.ini_NoSide T.ti_NoSide G_NoSide___init__ (hr.mono (by decide)) T.b_NoSide___init__ .nil pass0 rfl T.m_NoSide (by exact (pa_cons pe_int pa_nil))))) pss_nil)
      (pss_cons (ps_if (PW.pt (pw_or (pt_cmpR op_ne (pe_meth0 (pv 2) T.cl_Side T.mt_Side_number G_Side_number (hr.mono (by decide)) T.b_Side_number .nil pass0) pe_int (nomark _)) (pw_or1 (pt_not (pt_cmpR (op_eqO G_Pacts___eq__ T.mt_Pacts___eq__.at_ T.mt_Pacts___eq__.fn T.b_Pacts___eq__ pass0 (hr.mono (by decide))) (pe_meth0 (pv 2) T.cl_Side T.mt_Side_pacts G_Side_pacts (hr.mono (by decide)) T.b_Side_pacts .nil pass0) (pe_meth0 (pv 1) T.cl_Side T.mt_Side_pacts G_Side_pacts (hr.mono (by decide)) T.b_Side_pacts .nil pass0) (nomark _)))))) (pss_one (ps_raise rfl (takes_of rfl rfl rfl rfl) (pmk_oex T.ox_NoSide T.ini_NoSide T.ti_NoSide G_NoSide___init__ (hr.mono (by decide)) T.b_NoSide___init__ .nil pass0 rfl T.m_NoSide (by exact (pa_cons pe_int pa_nil))))) pss_nil)
      (pss_cons (ps_fld (pv 0) (pe_make T.mk_Stand G_Stand___init__ (hr.mono (by decide)) rfl T.m_Stand T.b_Stand___init__ .nil pass0 (pa_cons (pe_lst (pa_cons (pv 1) (pa_cons (pv 2) pa_nil))) pa_nil)) rfl)
      (pss_one (ps_fld (pv 0) (pe_lst pa_nil) rfl))))), ?_⟩
    walk_at "go"
    refine .inl ⟨x2, kp2, kd2, x1, kp1, kd1, L2, L1, M2, M1, rfl, PY, PX, G', GH', G, GH, fun r H1 s1 hr => ?_⟩
    have er : r = true := hr.mpr ⟨eL, eM⟩
    subst er
    refine ⟨true, rfl, ?_⟩
    walk_at "go"
    intro p2 hp2'
    obtain ⟨H2, e2⟩ : ∃ H2, H2 = upd H1 p2 (.lst [.ref near, .ref far]) := ⟨_, rfl⟩
    have s2 : Same H1 H2 := by rw [e2]; exact Same.upd_new hp2'
    have h2 : H2 p2 = some (.lst [.ref near, .ref far]) := by rw [e2, upd_same]
    rw [← e2]
    walk_at "go"
    intro s ds ns nds nsd
    have s02 := s1.trans s2
    obtain ⟨H3, e3⟩ : ∃ H3, H3 = upd (upd H2 ds (.own s)) s (.ins a.c_Stand ds []) := ⟨_, rfl⟩
    have h3 : H3 s = some (.ins a.c_Stand ds []) := by rw [e3, upd_same]
    have s3 : Same H2 H3 := fun z o e => by rw [e3]; exact upd_get (ne_of_none e ns) (upd_get (ne_of_none e nds) e)
    rw [← e3]
    refine ⟨s, ds, p2, .ref near, .ref far, rfl, h3, s3 _ _ h2, fun A H4 eA frA SA4 k4 => ⟨rfl, ?_⟩⟩
    have k04 : ∀ z o, H z = some o → H4 z = some o := fun z o e => k4 z o (ne_of_none (s02 _ _ e) ns) (s3 _ _ (s02 _ _ e))
    have hw4 := k04 _ _ hw
    refine ⟨_, rfl, w, a.c_World, dw, _, rfl, hw4, T.cl_World, T.na_World_now, Nat.le_of_ble_eq_true rfl, ?_⟩
    obtain ⟨H5, e5⟩ : ∃ H5, H5 = upd H4 w (.ins a.c_World dw (putF "now" (.ref s) [])) := ⟨_, rfl⟩
    rw [← e5]
    have hw5 : H5 w = some (.ins a.c_World dw [("now", .ref s)]) := by rw [e5]; exact upd_same
    walk_at "go"
    intro p6 hp6
    obtain ⟨H6, e6⟩ : ∃ H6, H6 = upd H5 p6 (.lst []) := ⟨_, rfl⟩
    rw [← e6]
    have n6w : w ≠ p6 := ne_of_none hw5 hp6
    have hw6 : H6 w = some (.ins a.c_World dw [("now", .ref s)]) := by rw [e6]; exact upd_get n6w hw5
    have h6 : H6 p6 = some (.lst []) := by rw [e6, upd_same]
    refine ⟨_, rfl, w, a.c_World, dw, _, rfl, hw6, T.cl_World, T.na_World_past, Nat.le_of_ble_eq_true rfl, ?_⟩
    have np6 : H4 p6 = none := by
      rw [e5, upd_ne n6w.symm] at hp6
      exact hp6
    have hs4 := SA4.ob
    have nws : w ≠ s := ne_of_none (s02 _ _ hw) ns
    have nwp2 : w ≠ p2 := ne_of_none (s1 _ _ hw) hp2'
    have nwA : ∀ z ∈ A.all, z ≠ w := fun z hz e => by
      rcases List.mem_cons.mp (show z ∈ A.sl :: A.al2 from hz) with y | y
      · rw [eA] at y
        exact nwp2 (e.symm.trans y)
      · have := frA z y
        rw [e, s3 _ _ (s02 _ _ hw)] at this
        cases this
    have keep : ∀ z o, z ≠ w → H4 z = some o → upd H6 w (.ins a.c_World dw (putF "past" (.ref p6) [("now", .ref s)])) z = some o := fun z o n e => upd_get n (by
      have e5' : H5 z = some o := by rw [e5]; exact upd_get n e
      rw [e6]
      exact upd_get (ne_of_none e5' hp6) e5')
    refine q s p6 A _ (fun z hz => ?_) (fun z hz => ⟨?_, ?_⟩) (ne_of_none hs4 np6) ⟨upd_same, upd_get n6w.symm h6, SA4.keep (fun o e => keep _ _ nws.symm e) fun z hz o e => keep _ _ (nwA z hz) e⟩ fun z o n e => keep z o n (k04 _ _ e)
    · rcases List.mem_cons.mp hz with rfl | hz
      · exact same_none' s02 ns
      · rcases List.mem_cons.mp hz with rfl | hz
        · exact same_none' k04 np6
        · rcases List.mem_cons.mp (show z ∈ A.sl :: A.al2 from hz) with rfl | y
          · rw [eA]
            exact same_none' s1 hp2'
          · exact same_none' s02 (same_none' s3 (frA z y))
    · intro e
      rcases List.mem_cons.mp (show z ∈ A.sl :: A.al2 from hz) with y | y
      · rw [eA, e] at y
        exact ne_of h3 (s3 _ _ h2) (by intro z; cases z) y
      · have := frA z y
        rw [e, h3] at this
        cases this
    · obtain ⟨o, ho⟩ := SA4.p.some z hz
      exact ne_of_none ho np6
def spOpened (CW CS CT : Addr) : Sp := fun vs H Q _ => ∃ (w dw s pa : Addr) (A : Sd) (past : List Addr) (near far : V), vs = [.ref w] ∧ WAt CW CS CT H w dw s pa A past near far false ∧
  ∀ (s2 : Addr) (A2 : Sd) (H' : Hp), H s2 = none → (∀ z ∈ A2.all, H z = none) → (∀ z ∈ A2.all, z ≠ s2) → SdAt CS CT H' s2 A2 near far false → Same H H' → Q (.ref s2) H'
theorem ok_World_opened_anew (T : Txt w K mg a) : FnOk P w K mg base (L2.CX P w) 6 a.f_World_opened_anew a.d_World_opened_anew ["self"] (spOpened a.c_World a.c_Stand a.c_Table) := by
  have G_Stand_copied := ok_Stand_copied (P := P) (w := w) (base := base) T
  have cl_Stand := T.cl_Stand
  have na_Stand_shut := T.na_Stand_shut
  have cl_World := T.cl_World
  have na_World_now := T.na_World_now
  refine T.F_World_opened_anew.okX sc_World_opened_anew (fun vs H Q E h => ?_) (fun cdv A outer s H vs Q E hr h => ?_)
  · obtain ⟨w, dw, s, pa, A, past, near, far, rfl, _⟩ := h
    rfl
  · obtain ⟨w, dw, s, pa, A, past, near, far, rfl, WA, q⟩ := h
    have hw := WA.ob
    have SA := WA.st
    have hs := SA.ob
    have n1 := T.na_World_now
    have n2 := T.na_Stand_shut
    refine ⟨_, (pss_cons (ps_if (pt_truth (pe_fld (pe_fld (pv 0) rfl) rfl) (by intro _; rfl)) (pss_one (ps_raise rfl (takes_of rfl rfl rfl rfl) (pmk_P T.ox_Closed T.ini_Closed rfl T.m_Closed))) pss_nil)
      (pss_one (ps_ret (pe_meth0 (pe_fld (pv 0) rfl) T.cl_Stand T.mt_Stand_copied G_Stand_copied (hr.mono (by decide)) T.b_Stand_copied .nil pass0)))), ?_⟩
    walk_at "go"
    exact q
def spDid (CW : Addr) : Sp := fun vs H Q _ => ∃ (w dw s pa s2 : Addr) (past : List Addr), vs = [.ref w, .ref s2] ∧ H w = some (.ins CW dw (wf s pa)) ∧ H pa = some (.lst (past.map V.ref)) ∧ past.length ≤ 1000 ∧
  ∀ H', H' w = some (.ins CW dw (wf s2 pa)) → H' pa = some (.lst ((past ++ [s]).map V.ref)) → (∀ z o, z ≠ w → z ≠ pa → H z = some o → H' z = some o) → Q .non H'
theorem ok_World_did (T : Txt w K mg a) : FnOk P w K mg base CX0 1 a.f_World_did a.d_World_did ["self", "stand"] (spDid a.c_World) := by
  have cl_World := T.cl_World
  have na_World_now := T.na_World_now
  have na_World_past := T.na_World_past
  refine T.F_World_did.ok sc_World_did (fun vs H Q E h => ?_) (fun cdv A outer s H vs Q E hr h => ?_)
  · obtain ⟨w, dw, s, pa, s2, past, rfl, _⟩ := h
    rfl
  · obtain ⟨w, dw, s, pa, s2, past, rfl, hw, hpa, lp, q⟩ := h
    have cl := T.cl_World
    have n1 := T.na_World_now
    have n2 := T.na_World_past
    have lp2 : (past.map V.ref).length ≤ 1000 := by rw [List.length_map]; exact lp
    have nwp : w ≠ pa := ne_of hw hpa (by intro z; cases z)
    refine ⟨_, (pss_cons (ps_expr (pe_bm PySem.F.plainAttrs_list PySem.F.slot_list_append PySem.F.type_list_append mt_append (pe_fld (pv 0) rfl) (pa_cons (pe_fld (pv 0) rfl) pa_nil)))
      (pss_one (ps_fld (pv 0) (pv 1) rfl))), ?_⟩
    walk_at "go"
    refine q _ upd_same ?_ fun z o n1 n2 e => upd_get n1 (upd_get n2 e)
    rw [upd_ne nwp.symm, upd_same, List.map_append] <;> rfl
def spWCall (K : PySem.W.Frag) (CW CS CT CD CP NH : Addr) : Sp := fun vs H _ E => ∃ (w dw s pa : Addr) (A : Sd) (past : List Addr) (near dn x kp kd : Addr) (far : V) (n : Int) (wr tr rt rp rs : Addr) (L : List (Addr × Pr)) (M : List (Addr × Hl)) (k : Str) (v1 v2 v3 : V), vs = [.ref w, .str k, v1, v2, v3] ∧ WAt CW CS CT H w dw s pa A past (.ref near) far false ∧
  H near = some (.ins CD dn (sf x n wr tr rt rp rs)) ∧ PactsH K CP H x kp kd L M ∧ (M.map fun e => e.2.name).Nodup ∧ (∀ e ∈ M, e.2.name ≠ k) ∧ ∀ d H', H d = none → H' d = some (.xd [("name", .str k)]) → Same H H' → E (.ref NH) (some d) H'
theorem ok_World_call (T : Txt w K mg a) : FnOk P w K mg base (L2.CX P w) 8 a.f_World_call a.d_World_call ["self", "name", "things", "picks", "most"] (spWCall K a.c_World a.c_Stand a.c_Table a.c_Side a.c_Pacts a.c_NoHelper) := by
  have G_World_opened_anew := ok_World_opened_anew (P := P) (w := w) (base := base) T
  have G_World_did := ok_World_did (P := P) (w := w) (base := base) T
  have G_Pacts_pact := ok_Pacts_pact (P := P) (w := w) (base := base) T
  have G_Stand_pacts_told := ok_Stand_pacts_told (P := P) (w := w) (base := base) T
  have cl_Stand := T.cl_Stand
  have na_Stand_room := T.na_Stand_room
  have na_Stand_wanted := T.na_Stand_wanted
  have na_Stand_outcome := T.na_Stand_outcome
  have cl_World := T.cl_World
  have cl_Pacts := T.cl_Pacts
  refine T.F_World_call.okX sc_World_call (fun vs H Q E h => ?_) (fun cdv A outer s H vs Q E hr h => ?_)
  · obtain ⟨w, dw, s, pa, A, past, near, dn, x, kp, kd, far, n, wr, tr, rt, rp, rs, L, M, k, v1, v2, v3, rfl, _⟩ := h
    rfl
  · obtain ⟨w, dw, s, pa, A, past, near, dn, x, kp, kd, far, n, wr, tr, rt, rp, rs, L, M, k, v1, v2, v3, rfl, WA, hne, PH, ndn, no, q⟩ := h
    have hw := WA.ob
    refine ⟨_, (pss_cons (ps_set (i := 5) sc_World_call.nd rfl (Or.inl rfl) (pe_meth0 (pv 0) T.cl_World T.mt_World_opened_anew G_World_opened_anew (hr.mono (by decide)) T.b_World_opened_anew .nil (passes_call (takes_of rfl rfl rfl rfl) (fun _ _ _ _ h => h))))
      (pss_cons (ps_set (i := 6) sc_World_call.nd rfl (Or.inl rfl) (pe_ix ix_tup (pe_meth (pe_meth0 (pv 5) T.cl_Stand T.mt_Stand_pacts_told G_Stand_pacts_told (hr.mono (by decide)) T.b_Stand_pacts_told .nil pass0) T.cl_Pacts T.mt_Pacts_pact G_Pacts_pact (hr.mono (by decide)) T.b_Pacts_pact .nil (passes_call (takes_of rfl rfl rfl rfl) (fun _ _ _ _ h => h)) (pa_cons (pv 1) pa_nil)) pe_int (fun _ _ => rfl)))
      (pss_cons ps_never
      (pss_cons ps_never
      (pss_cons ps_never
      (pss_cons ps_never
      (pss_cons ps_never
      (pss_cons ps_never
      (pss_one ps_never))))))))), ?_⟩
    walk_at "go"
    intro s2 A2 H1 ns2 nA2 nAs SA1 s1
    have hne1 := s1 _ _ hne
    have PH1 := PH.same s1
    obtain ⟨dx, hx⟩ := PH1.pa.ob
    have hs1 := SA1.ob
    walk_at "go"
    exact ⟨fun e he en => absurd en (no e he), fun _ d H' hd hd1 s' => q d H' (same_none' s1 hd) hd1 (s1.trans s')⟩
def spLetGo (CW CS CT NT : Addr) : Sp := fun vs H _ E => ∃ (w dw s pa : Addr) (A : Sd) (past : List Addr) (near far : V) (i : Int), vs = [.ref w, .int i] ∧ WAt CW CS CT H w dw s pa A past near far false ∧ ∀ d H', H d = none → H' d = some (.xd [("at", .int i)]) → Same H H' → E (.ref NT) (some d) H'
theorem ok_World_let_go (T : Txt w K mg a) : FnOk P w K mg base (L2.CX P w) 7 a.f_World_let_go a.d_World_let_go ["self", "thing"] (spLetGo a.c_World a.c_Stand a.c_Table a.c_NoThing) := by
  have G_World_opened_anew := ok_World_opened_anew (P := P) (w := w) (base := base) T
  have G_World_did := ok_World_did (P := P) (w := w) (base := base) T
  have G_NoThing___init__ := ok_NoThing___init__ (P := P) (w := w) (base := base) T
  have cl_Stand := T.cl_Stand
  have na_Stand_hands := T.na_Stand_hands
  have na_Stand_told := T.na_Stand_told
  have cl_World := T.cl_World
  refine T.F_World_let_go.okX sc_World_let_go (fun vs H Q E h => ?_) (fun cdv A outer s H vs Q E hr h => ?_)
  · obtain ⟨w, dw, s, pa, A, past, near, far, i, rfl, _⟩ := h
    rfl
  · obtain ⟨w, dw, s, pa, A, past, near, far, i, rfl, WA, q⟩ := h
    have hw := WA.ob
    refine ⟨_, (pss_cons (ps_set (i := 2) sc_World_let_go.nd rfl (Or.inl rfl) (pe_meth0 (pv 0) T.cl_World T.mt_World_opened_anew G_World_opened_anew (hr.mono (by decide)) T.b_World_opened_anew .nil (passes_call (takes_of rfl rfl rfl rfl) (fun _ _ _ _ h => h))))
      (pss_cons (ps_if (pt_cmpR op_notIn_seq (pv 1) (pe_fld (pv 2) rfl) (by rfl)) (pss_one (ps_raise rfl (takes_of rfl rfl rfl rfl) (pmk_oex T.ox_NoThing T.ini_NoThing T.ti_NoThing G_NoThing___init__ (hr.mono (by decide)) T.b_NoThing___init__ .nil pass0 rfl T.m_NoThing (by exact (pa_cons (pv 1) pa_nil))))) pss_nil)
      (pss_cons ps_never
      (pss_cons ps_never
      (pss_one ps_never))))), ?_⟩
    walk_at "go"
    intro s2 A2 H1 ns2 nA2 nAs SA1 s1
    have hs1 := SA1.ob
    have hhd := SA1.p.hd
    walk_at "go"
    exact (raise_err fun d H7 hd hd7 s7 => q d H7 (same_none' s1 hd) hd7 (s1.trans s7)).2
def spClose (CW CS CT : Addr) : Sp := fun vs H Q _ => ∃ (w dw s pa : Addr) (A : Sd) (past : List Addr) (near far : V), vs = [.ref w] ∧ WAt CW CS CT H w dw s pa A past near far false ∧ s ≠ pa ∧ past.length ≤ 1000 ∧ (∀ z ∈ A.all, z ≠ w ∧ z ≠ pa) ∧
  ∀ (s2 : Addr) (A2 : Sd) (H' : Hp), H s2 = none → (∀ z ∈ A2.all, H z = none) → WAt CW CS CT H' w dw s2 pa A2 (past ++ [s]) near far true → (∀ z o, z ≠ w → z ≠ pa → H z = some o → H' z = some o) → Q .non H'
theorem ok_World_close (T : Txt w K mg a) : FnOk P w K mg base (L2.CX P w) 7 a.f_World_close a.d_World_close ["self"] (spClose a.c_World a.c_Stand a.c_Table) := by
  have G_World_opened_anew := ok_World_opened_anew (P := P) (w := w) (base := base) T
  have G_shut_all := ok_shut_all (P := P) (w := w) (base := base) T
  have G_World_did := ok_World_did (P := P) (w := w) (base := base) T
  have cl_World := T.cl_World
  refine T.F_World_close.okX sc_World_close (fun vs H Q E h => ?_) (fun cdv A outer s H vs Q E hr h => ?_)
  · obtain ⟨w, dw, s, pa, A, past, near, far, rfl, _⟩ := h
    rfl
  · obtain ⟨w, dw, s, pa, A, past, near, far, rfl, WA, nsp, lp, nA, q⟩ := h
    have hw := WA.ob
    refine ⟨_, (pss_cons (ps_set (i := 1) sc_World_close.nd rfl (Or.inl rfl) (pe_meth0 (pv 0) T.cl_World T.mt_World_opened_anew G_World_opened_anew (hr.mono (by decide)) T.b_World_opened_anew .nil (passes_call (takes_of rfl rfl rfl rfl) (fun _ _ _ _ h => h))))
      (pss_cons (ps_expr (pe_call G_shut_all (hr.mono (by decide)) rfl T.m_shut_all T.F_shut_all.kp T.b_shut_all .nil pass0 (pa_cons (pv 1) pa_nil)))
      (pss_one (ps_expr (pe_meth (pv 0) T.cl_World T.mt_World_did G_World_did (hr.mono (by decide)) T.b_World_did .nil pass0 (pa_cons (pv 1) pa_nil)))))), ?_⟩
    walk_at "go"
    intro s2 A2 H1 ns2 nA2 nAs SA1 s1
    have n2 : s2 ∉ A2.all := fun z => nAs _ z rfl
    walk_at "go"
    intro lo hd H2 nlo nhd SA2 k2
    have k02 : ∀ z o, H z = some o → H2 z = some o := fun z o e => k2 z o (ne_of_none e ns2) (s1 _ _ e)
    have hw2 := k02 _ _ hw
    have hpa2 := k02 _ _ WA.pa
    walk_at "go"
    intro H3 hw3 hpa3 k3
    have hz2 : ∀ {z}, z ∈ ({ A2 with lo := lo, hd := hd } : Sd).all → z = hd ∨ z ∈ A2.all := fun {z} hz => by
      simp only [Sd.all, Sd.al2, List.mem_cons, List.not_mem_nil, or_false] at hz ⊢
      rcases hz with y | y | y | y | y | y | y | y | y | y | y | y | y | y | y | y | y | y <;> simp [y]
    have fr2 : ∀ z ∈ ({ A2 with lo := lo, hd := hd } : Sd).all, H z = none := fun z hz => by
      rcases hz2 hz with rfl | y
      · exact same_none' s1 nhd
      · exact nA2 z y
    refine q s2 _ H3 ns2 fr2 ⟨hw3, hpa3, SA2.keep (fun o e => k3 _ _ (ne_of_none hw ns2).symm (ne_of_none WA.pa ns2).symm e) fun z hz o e => k3 _ _ (ne_of_none hw (fr2 z hz)).symm (ne_of_none WA.pa (fr2 z hz)).symm e⟩ fun z o n1 n2 e => k3 z o n1 n2 (k02 _ _ e)
def spBack (CW NTD : Addr) : Sp := fun vs H Q E => ∃ (w dw s pa : Addr) (past : List Addr), vs = [.ref w] ∧ H w = some (.ins CW dw (wf s pa)) ∧ H pa = some (.lst (past.map V.ref)) ∧ past.length ≤ 1000 ∧
  (past = [] → E (.ref NTD) none H) ∧ (∀ ps s0, past = ps ++ [s0] → ∀ H', H' w = some (.ins CW dw (wf s0 pa)) → H' pa = some (.lst (ps.map V.ref)) → (∀ z o, z ≠ w → z ≠ pa → H z = some o → H' z = some o) → Q .non H')
theorem ok_World_back (T : Txt w K mg a) : FnOk P w K mg base (L2.CX P w) 1 a.f_World_back a.d_World_back ["self"] (spBack a.c_World a.c_NothingDone) := by
  have cl_World := T.cl_World
  have na_World_now := T.na_World_now
  have na_World_past := T.na_World_past
  refine T.F_World_back.okX sc_World_back (fun vs H Q E h => ?_) (fun cdv A outer s H vs Q E hr h => ?_)
  · obtain ⟨w, dw, s, pa, past, rfl, _⟩ := h
    rfl
  · obtain ⟨w, dw, s, pa, past, rfl, hw, hpa, lp, q1, q2⟩ := h
    have nwp : w ≠ pa := ne_of hw hpa (by intro z; cases z)
    have lp2 : (past.map V.ref).length ≤ 1000 := by rw [List.length_map]; exact lp
    refine ⟨_, (pss_cons (ps_if (pt_cmpR op_eq (pe_callB call_lenK (by rfl) T.z_len PySem.boot_len (pa_cons (pe_fld (pv 0) rfl) pa_nil)) pe_int (nomark _)) (pss_one (ps_raise rfl (takes_of rfl rfl rfl rfl) (pmk_P T.ox_NothingDone T.ini_NothingDone rfl T.m_NothingDone))) pss_nil)
      (pss_one (ps_fld (pv 0) (pe_bm0 PySem.F.plainAttrs_list PySem.F.slot_list_pop PySem.F.type_list_pop mt_pop (pe_fld (pv 0) rfl)) rfl))), ?_⟩
    rcases List.eq_nil_or_concat past with e | ⟨ps, s0, e⟩
    · subst e
      walk_at "go"
      exact ifT rfl (q1 rfl)
    · rw [List.concat_eq_append] at e
      subst e
      have lpx : ((ps ++ [s0]).map V.ref).length = ps.length + 1 := by rw [List.length_map, List.length_append] <;> rfl
      walk_at "go"
      refine ifF (by
        rw [lpx]
        refine decide_eq_false fun z => ?_
        have := V.int.inj z
        omega) ?_
      walk_at "go"
      have hlast : ((ps ++ [s0]).map V.ref)[((ps ++ [s0]).map V.ref).length - 1]? = some (.ref s0) := by
        rw [lpx, List.map_append, List.getElem?_append_right (by rw [List.length_map]; omega), List.length_map] <;> simp
      have hdrop : ((ps ++ [s0]).map V.ref).dropLast = ps.map V.ref := by rw [List.map_append] <;> simp
      refine ⟨hlast, ?_⟩
      rw [hdrop]
      walk_at "go"
      exact q2 ps s0 rfl _ upd_same (upd_get nwp.symm upd_same) fun z o n1 n2 e => upd_get n1 (upd_get n2 e)
def spHeld (CW CS CT : Addr) : Sp := fun vs H Q _ => ∃ (w dw s pa : Addr) (A : Sd) (past : List Addr) (near far : V) (sh : Bool), vs = [.ref w] ∧ WAt CW CS CT H w dw s pa A past near far sh ∧ ∀ (D : Addr) (H' : Hp), H D = none → H' D = some (.lst []) → Same H H' → Q (.ref D) H'
theorem ok_World_held (T : Txt w K mg a) : FnOk P w K mg base CX0 1 a.f_World_held a.d_World_held ["self"] (spHeld a.c_World a.c_Stand a.c_Table) := by
  have cl_Stand := T.cl_Stand
  have na_Stand_hands := T.na_Stand_hands
  have cl_World := T.cl_World
  have na_World_now := T.na_World_now
  refine T.F_World_held.ok sc_World_held (fun vs H Q E h => ?_) (fun cdv A outer s H vs Q E hr h => ?_)
  · obtain ⟨w, dw, s, pa, A, past, near, far, sh, rfl, _⟩ := h
    rfl
  · obtain ⟨w, dw, s, pa, A, past, near, far, sh, rfl, WA, q⟩ := h
    have hw := WA.ob
    have hs := WA.st.ob
    have hhd := WA.st.p.hd
    refine ⟨_, (pss_one (ps_ret (pe_callTy call_list_of (by rfl) T.z_list (by decide +kernel) (pa_cons (pe_fld (pe_fld (pv 0) rfl) rfl) pa_nil)))), ?_⟩
    walk_at "go"
    intro D hD
    exact q D _ hD upd_same (Same.upd_new hD)
theorem ok_World_log (T : Txt w K mg a) : FnOk P w K mg base CX0 1 a.f_World_log a.d_World_log ["self"] (spHeld a.c_World a.c_Stand a.c_Table) := by
  have cl_Stand := T.cl_Stand
  have na_Stand_told := T.na_Stand_told
  have cl_World := T.cl_World
  have na_World_now := T.na_World_now
  refine T.F_World_log.ok sc_World_log (fun vs H Q E h => ?_) (fun cdv A outer s H vs Q E hr h => ?_)
  · obtain ⟨w, dw, s, pa, A, past, near, far, sh, rfl, _⟩ := h
    rfl
  · obtain ⟨w, dw, s, pa, A, past, near, far, sh, rfl, WA, q⟩ := h
    have hw := WA.ob
    have hs := WA.st.ob
    have htd := WA.st.p.td
    refine ⟨_, (pss_one (ps_ret (pe_callTy call_list_of (by rfl) T.z_list (by decide +kernel) (pa_cons (pe_fld (pe_fld (pv 0) rfl) rfl) pa_nil)))), ?_⟩
    walk_at "go"
    intro D hD
    exact q D _ hD upd_same (Same.upd_new hD)
theorem ok_World_story (T : Txt w K mg a) : FnOk P w K mg base CX0 2 a.f_World_story a.d_World_story ["self"] (spHeld a.c_World a.c_Stand a.c_Table) := by
  have cl_Stand := T.cl_Stand
  have na_Stand_told := T.na_Stand_told
  have cl_World := T.cl_World
  have na_World_now := T.na_World_now
  refine T.F_World_story.ok sc_World_story (fun vs H Q E h => ?_) (fun cdv A outer s H vs Q E hr h => ?_)
  · obtain ⟨w, dw, s, pa, A, past, near, far, sh, rfl, _⟩ := h
    rfl
  · obtain ⟨w, dw, s, pa, A, past, near, far, sh, rfl, WA, q⟩ := h
    have hw := WA.ob
    have hs := WA.st.ob
    have htd := WA.st.p.td
    refine ⟨_, (pss_one (ps_ret (pe_lc (own := [("event", 1)]) (g := gName 1) (tt := tYes) rfl sc_World_story.nd (pi_list (by exact (pe_fld (pe_fld (pv 0) rfl) rfl))) (blkOk_by (own := [("event", 1)]) (N := n_World_story) (sc := defScope s_World_story) (by decide +kernel)) (fun _ _ _ _ _ => (pg_name (i := 1) sc_World_story.nd rfl (Or.inl rfl))) (fun _ _ _ _ _ => pts_nil) (fun _ _ _ _ _ => pe_never)))), ?_⟩
    walk_at "go"
    intro D hD
    refine lcL (K := K) (a := A.td) (xs := []) (fun i H' => H' D = some (.lst []) ∧ Same H H') ?_ ?_ ?_ ?_
    · exact ⟨upd_same, Same.upd_new hD⟩
    · exact fun i H' _ c => SqL.of (c.2 _ _ htd)
    · intro i v Hx hi _
      cases hi
    rintro H2 ⟨h2, s2⟩
    exact q D H2 hD h2 s2
def spShelf (CW CS CT NS : Addr) : Sp := fun vs H Q E => ∃ (w dw s pa : Addr) (A : Sd) (past : List Addr) (near far : V) (sh : Bool) (n : Int), vs = [.ref w, .int n] ∧ WAt CW CS CT H w dw s pa A past near far sh ∧
  ((n = 0 ∨ n = 1) → ∀ H', Same H H' → Q (.str "E") H') ∧ (¬ (n = 0 ∨ n = 1) → ∀ d H', H d = none → H' d = some (.xd [("at", .int n)]) → Same H H' → E (.ref NS) (some d) H')
theorem ok_World_shelf (T : Txt w K mg a) : FnOk P w K mg base (L2.CX P w) 3 a.f_World_shelf a.d_World_shelf ["self", "number"] (spShelf a.c_World a.c_Stand a.c_Table a.c_NoSide) := by
  have G_Stand_is_own := ok_Stand_is_own (P := P) (w := w) (base := base) T
  have G_NoSide___init__ := ok_NoSide___init__ (P := P) (w := w) (base := base) T
  have cl_Stand := T.cl_Stand
  have na_Stand_on_shelf := T.na_Stand_on_shelf
  have cl_World := T.cl_World
  have na_World_now := T.na_World_now
  refine T.F_World_shelf.okX sc_World_shelf (fun vs H Q E h => ?_) (fun cdv A outer s H vs Q E hr h => ?_)
  · obtain ⟨w, dw, s, pa, A, past, near, far, sh, n, rfl, _⟩ := h
    rfl
  · obtain ⟨w, dw, s, pa, A, past, near, far, sh, n, rfl, WA, q1, q2⟩ := h
    have hw := WA.ob
    have hs := WA.st.ob
    have hos := WA.st.p.os
    have a0 : atI [V.non, V.non] 0 = some .non := rfl
    have a1 : atI [V.non, V.non] 1 = some .non := rfl
    refine ⟨_, (pss_cons (ps_if (pt_cmpR op_notIn_seq (pv 1) (pe_tup (pa_cons pe_int (pa_cons pe_int pa_nil))) (by rfl)) (pss_one (ps_raise rfl (takes_of rfl rfl rfl rfl) (pmk_oex T.ox_NoSide T.ini_NoSide T.ti_NoSide G_NoSide___init__ (hr.mono (by decide)) T.b_NoSide___init__ .nil pass0 rfl T.m_NoSide (by exact (pa_cons (pv 1) pa_nil))))) pss_nil)
      (pss_cons (ps_set (i := 2) sc_World_shelf.nd rfl (Or.inl rfl) (pe_ix ix_list (pe_fld (pe_fld (pv 0) rfl) rfl) (pv 1) (fun _ _ => rfl)))
      (pss_cons (ps_if (pt_cmpR op_isN (pv 2) pe_non (nomark _)) (pss_one (ps_ret pe_str)) pss_nil)
      (pss_cons (ps_if (pt_truth (pe_meth (pe_fld (pv 0) rfl) T.cl_Stand T.mt_Stand_is_own G_Stand_is_own (hr.mono (by decide)) T.b_Stand_is_own .nil pass0 (pa_cons (pv 1) (pa_cons (pv 2) pa_nil))) (by intro _; rfl)) (pss_one (ps_ret pe_str)) pss_nil)
      (pss_one (ps_ret pe_str)))))), ?_⟩
    walk_at "go"
    intro p1 hp1
    obtain ⟨H1, e1⟩ : ∃ H1, H1 = upd H p1 (.tup [.int 0, .int 1]) := ⟨_, rfl⟩
    have s1 : Same H H1 := by rw [e1]; exact Same.upd_new hp1
    have h1 : H1 p1 = some (.tup [.int 0, .int 1]) := by rw [e1, upd_same]
    rw [← e1]
    have hw1 := s1 _ _ hw
    have hs1 := s1 _ _ hs
    have hos1 := s1 _ _ hos
    have SA1 := WA.st.same s1
    by_cases hn : n = 0 ∨ n = 1
    · refine ⟨p1, [.int 0, .int 1], rfl, .inr (SqT.of h1), rfl, rfl, ?_⟩
      have hin : inV (.int n) [.int 0, .int 1] = true := by rcases hn with rfl | rfl <;> decide
      have an : atI [V.non, V.non] n = some .non := by rcases hn with rfl | rfl <;> rfl
      rw [hin]
      walk_at "go"
      first
      | exact q1 hn _ s1
      | (refine ifT rfl ?_
         walk_at "go"
         exact q1 hn _ s1)
      | (walk_at "go"
         focus fail "S1")
    · refine ⟨p1, [.int 0, .int 1], rfl, .inr (SqT.of h1), rfl, rfl, ?_⟩
      have hin : inV (.int n) [.int 0, .int 1] = false := by
        have n0 : n ≠ 0 := fun e => hn (.inl e)
        have n1 : n ≠ 1 := fun e => hn (.inr e)
        simp [inV, eqV, n0.symm, n1.symm, Ne.symm n0, Ne.symm n1]
      rw [hin]
      walk_at "go"
      exact (raise_err fun d H7 hd hd7 s7 => q2 hn d H7 (same_none' s1 hd) hd7 (s1.trans s7)).2
def spClosed (CW CS CT : Addr) : Sp := fun vs H Q _ => ∃ (w dw s pa : Addr) (A : Sd) (past : List Addr) (near far : V) (sh : Bool), vs = [.ref w] ∧ WAt CW CS CT H w dw s pa A past near far sh ∧ Q (.bl sh) H
theorem ok_World_closed (T : Txt w K mg a) : FnOk P w K mg base CX0 1 a.f_World_closed a.d_World_closed ["self"] (spClosed a.c_World a.c_Stand a.c_Table) := by
  have cl_Stand := T.cl_Stand
  have na_Stand_shut := T.na_Stand_shut
  have cl_World := T.cl_World
  have na_World_now := T.na_World_now
  refine T.F_World_closed.ok sc_World_closed (fun vs H Q E h => ?_) (fun cdv A outer s H vs Q E hr h => ?_)
  · obtain ⟨w, dw, s, pa, A, past, near, far, sh, rfl, _⟩ := h
    rfl
  · obtain ⟨w, dw, s, pa, A, past, near, far, sh, rfl, WA, q⟩ := h
    have hw := WA.ob
    have hs := WA.st.ob
    refine ⟨_, (pss_one (ps_ret (pe_fld (pe_fld (pv 0) rfl) rfl))), ?_⟩
    walk_at "go"
    exact q
def spBroken (CW CS CT : Addr) : Sp := fun vs H Q _ => ∃ (w dw s pa : Addr) (A : Sd) (past : List Addr) (near far : V) (sh : Bool), vs = [.ref w] ∧ WAt CW CS CT H w dw s pa A past near far sh ∧ Q .non H
theorem ok_World_broken (T : Txt w K mg a) : FnOk P w K mg base CX0 1 a.f_World_broken a.d_World_broken ["self"] (spBroken a.c_World a.c_Stand a.c_Table) := by
  have cl_Stand := T.cl_Stand
  have na_Stand_fault := T.na_Stand_fault
  have cl_World := T.cl_World
  have na_World_now := T.na_World_now
  refine T.F_World_broken.ok sc_World_broken (fun vs H Q E h => ?_) (fun cdv A outer s H vs Q E hr h => ?_)
  · obtain ⟨w, dw, s, pa, A, past, near, far, sh, rfl, _⟩ := h
    rfl
  · obtain ⟨w, dw, s, pa, A, past, near, far, sh, rfl, WA, q⟩ := h
    have hw := WA.ob
    have hs := WA.st.ob
    refine ⟨_, (pss_one (ps_ret (pe_fld (pe_fld (pv 0) rfl) rfl))), ?_⟩
    walk_at "go"
    exact q
def spWLen (CW CS CT : Addr) : Sp := fun vs H Q _ => ∃ (w dw s pa : Addr) (A : Sd) (past : List Addr) (near far : V) (sh : Bool), vs = [.ref w] ∧ WAt CW CS CT H w dw s pa A past near far sh ∧ past.length ≤ 1000 ∧ Q (.int past.length) H
theorem ok_World___len__ (T : Txt w K mg a) : FnOk P w K mg base CX0 1 a.f_World___len__ a.d_World___len__ ["self"] (spWLen a.c_World a.c_Stand a.c_Table) := by
  have cl_World := T.cl_World
  have na_World_past := T.na_World_past
  refine T.F_World___len__.ok sc_World___len__ (fun vs H Q E h => ?_) (fun cdv A outer s H vs Q E hr h => ?_)
  · obtain ⟨w, dw, s, pa, A, past, near, far, sh, rfl, _⟩ := h
    rfl
  · obtain ⟨w, dw, s, pa, A, past, near, far, sh, rfl, WA, lp, q⟩ := h
    have hw := WA.ob
    have hpa := WA.pa
    have lp2 : (past.map V.ref).length = past.length := List.length_map _
    refine ⟨_, (pss_one (ps_ret (pe_callB call_lenK (by rfl) T.z_len PySem.boot_len (pa_cons (pe_fld (pv 0) rfl) pa_nil)))), ?_⟩
    walk_at "go"
    rw [lp2]
    exact q
def spWEq (K : PySem.W.Frag) (CW CS CT CD : Addr) : Sp := fun vs H Q _ =>
  (∃ (w dw s pa w2 dw2 s2 pa2 : Addr) (A A2 : Sd) (past past2 : List Addr) (near far : Addr) (sh sh2 : Bool), vs = [.ref w, .ref w2] ∧ WAt CW CS CT H w dw s pa A past (.ref near) (.ref far) sh ∧ WAt CW CS CT H w2 dw2 s2 pa2 A2 past2 (.ref near) (.ref far) sh2 ∧ Q (.bl true) H) ∨
  (∃ (ww : Addr) (z : V), vs = [.ref ww, z] ∧ Odd K H z ∧ Q (.bl false) H)
theorem ok_World___eq__ (T : Txt w K mg a) : FnOk P w K mg base CX0 1 a.f_World___eq__ a.d_World___eq__ ["self", "other"] (spWEq K a.c_World a.c_Stand a.c_Table a.c_Side) := by
  have cl_Stand := T.cl_Stand
  have na_Stand_sides := T.na_Stand_sides
  have na_Stand_told := T.na_Stand_told
  have cl_World := T.cl_World
  have na_World_now := T.na_World_now
  refine T.F_World___eq__.ok sc_World___eq__ (fun vs H Q E h => ?_) (fun cdv A outer s H vs Q E hr h => ?_)
  · rcases h with ⟨w, dw, s, pa, w2, dw2, s2, pa2, A, A2, past, past2, near, far, sh, sh2, rfl, _⟩ | ⟨ww, z, rfl, _⟩ <;> rfl
  · have oc := T.oc_World
    rcases h with ⟨w, dw, s, pa, w2, dw2, s2, pa2, A, A2, past, past2, near, far, sh, sh2, rfl, WA, WB, q⟩ | ⟨ww, z, rfl, hz, q⟩
    · have hw := WA.ob
      have hw2 := WB.ob
      have hs := WA.st.ob
      have hs2 := WB.st.ob
      have hl := WA.st.p.sl
      have hl2 := WB.st.p.sl
      have ht := WA.st.p.td
      have ht2 := WB.st.p.td
      have ty : TyX K H (.ref w2) (.ref a.c_World) := .base (.ins hw2 T.cl_World oc.ha oc.hn oc.ht oc.hm)
      have ki : PySem.W.kitOne K (.ref a.c_World) (.ref a.c_World) = some true := by
        unfold PySem.W.kitOne
        rw [if_pos (by simp)]
      refine ⟨_, (pss_cons (ps_if (pt_not (pt_val (pe_callB call_isi (by rfl) T.z_isinstance (by decide +kernel) (pa_cons (pv 1) (pa_cons (pe_glob (v := .ref a.c_World) rfl T.m_World rfl) pa_nil))))) (pss_one (ps_ret pe_bl)) pss_nil)
      (pss_one (ps_ret (pe_and (pe_cmpR (op_eqSame (Nat.lt_of_le_of_lt (Nat.le_add_right _ _) (hr.units))) (pe_fld (pe_fld (pv 0) rfl) rfl) (pe_fld (pe_fld (pv 1) rfl) rfl) (nomark _)) (pe_one (pe_cmpR (op_eqD (hr.units)) (pe_fld (pe_fld (pv 0) rfl) rfl) (pe_fld (pe_fld (pv 1) rfl) rfl) (nomark _))))))), ?_⟩
      walk_at "go"
      refine ⟨.own _, ty, ki, ?_⟩
      walk_at "go"
      refine ⟨fun z hz => ?_, ?_⟩
      · simp only [List.mem_cons, List.not_mem_nil, or_false] at hz
        rcases hz with rfl | rfl
        · exact ⟨_, rfl⟩
        · exact ⟨_, rfl⟩
      have d1 : Dp K H (.ref A.td) (.list []) := .lst (SqL.of ht) .nil
      have d2 : Dp K H (.ref A2.td) (.list []) := .lst (SqL.of ht2) .nil
      have sh : SeqAt.shaped (.list []) = true := by decide
      walk_at "go"
      rw [eqv_self sh]
      exact q
    · have go : ∀ t, TyX K H z t → PySem.W.kitOne K t (.ref a.c_World) = some false → ∃ t, PSs (cxOf CX0 P w K mg base n_World___eq__ (Str.ofString "World.__eq__") (defScope s_World___eq__) a.f_World___eq__ cdv A outer s H E).nox (defBody s_World___eq__) t ∧ t { nx := fun _ H' => Q .non H', rt := Q } (start n_World___eq__ [.ref ww, z]) H := by
        intro t ty ki
        refine ⟨_, (pss_cons (ps_if (pt_not (pt_val (pe_callB call_isi (by rfl) T.z_isinstance (by decide +kernel) (pa_cons (pv 1) (pa_cons (pe_glob (v := .ref a.c_World) rfl T.m_World rfl) pa_nil))))) (pss_one (ps_ret pe_bl)) pss_nil)
      (pss_one (ps_ret (pe_and (pe_cmpR (op_eqSame (Nat.lt_of_le_of_lt (Nat.le_add_right _ _) (hr.units))) (pe_fld (pe_fld (pv 0) rfl) rfl) (pe_fld (pe_fld (pv 1) rfl) rfl) (nomark _)) (pe_one (pe_cmpR (op_eqD (hr.units)) (pe_fld (pe_fld (pv 0) rfl) rfl) (pe_fld (pe_fld (pv 1) rfl) rfl) (nomark _))))))), ?_⟩
        walk_at "go"
        refine ⟨.own _, ty, ki, ?_⟩
        walk_at "go"
        exact q
      cases z with
      | str k => exact go _ (.base (.str k)) oc.k1
      | int k => exact go _ (.base (.int k)) oc.k2
      | non => exact go _ (.base .non) oc.k3
      | ref p =>
        obtain ⟨xs, hp⟩ := hz
        exact go _ (.base (.lst hp)) oc.k4
      | _ => exact hz.elim
def rowsB (g : Bool) : List Str := (["clear a", "clear b", "clear c"] : List Str) ++ (if g = true then (["make e", "done e"] : List Str) else (["done"] : List Str))
def bodyB (g : Bool) : Str := Txt.join (Str.ofString "\n") (rowsB g)
theorem rowsB_sum : ∀ g : Bool, ((rowsB g).map (·.length)).sum + (rowsB g).length * (Str.ofString "\n").length ≤ 16777216 := by decide +kernel
structure DI (K : PySem.W.Frag) (H0 H : Hp) (b g l F N Bd d0 d1 : Addr) (n : Int) (ws : List Str) (M : List (Addr × Hl)) (ns : List Str) (k0 k1 : Int) (W0 W1 : List (Str × Str)) : Prop where
  box : BoxAt H b g l n
  hs : HelpersAt K H F M
  nm : H N = some (.lst (ns.map V.str))
  bd : H Bd = some (.lst [.ref d0, .ref d1])
  e0 : H d0 = some (.dK (wk W0))
  e1 : H d1 = some (.dK (wk W1))
  pm : (M.map (fun e => e.2.name) ++ ns).Perm ws
  ok : ∀ e ∈ M, HOk [] e.2
  c0 : ((M.filter fun e => decide (e.2.side = 0)).length : Int) = k0
  c1 : ((M.filter fun e => decide (e.2.side = 1)).length : Int) = k1
  len : (M.length : Int) = k0 + k1
  w0 : W0.map (·.1) = nsOf M 0
  w1 : W1.map (·.1) = nsOf M 1
  t0 : ∀ w ∈ W0 ++ W1, ∃ e ∈ M, e.2.name = w.1 ∧ w.2 = bodyB e.2.gives
  kp : ∀ x o, x ≠ b → x ≠ g → x ≠ F → x ≠ N → x ≠ d0 → x ≠ d1 → H0 x = some o → H x = some o
theorem DI.box2 {K : PySem.W.Frag} {H0 H H' : Hp} {b g l F N Bd d0 d1 : Addr} {n n' : Int} {ws ns : List Str} {M : List (Addr × Hl)} {k0 k1 : Int} {W0 W1 : List (Str × Str)} (h : DI K H0 H b g l F N Bd d0 d1 n ws M ns k0 k1 W0 W1) (B : BoxAt H' b g l n') (k : Keep2 b g H H') (nF : F ≠ b ∧ F ≠ g) (nN : N ≠ b ∧ N ≠ g) (nB : Bd ≠ b ∧ Bd ≠ g) (n0 : d0 ≠ b ∧ d0 ≠ g) (n1 : d1 ≠ b ∧ d1 ≠ g) : DI K H0 H' b g l F N Bd d0 d1 n' ws M ns k0 k1 W0 W1 :=
  ⟨B, h.hs.tk (h.box.tk k) fun o e => k _ _ nF.1 nF.2 e, k _ _ nN.1 nN.2 h.nm, k _ _ nB.1 nB.2 h.bd, k _ _ n0.1 n0.2 h.e0, k _ _ n1.1 n1.2 h.e1, h.pm, h.ok, h.c0, h.c1, h.len, h.w0, h.w1, h.t0, fun x o a1 a2 a3 a4 a5 a6 e => k x o a1 a2 (h.kp x o a1 a2 a3 a4 a5 a6 e)⟩
theorem nsOf_snoc {M : List (Addr × Hl)} {e : Addr × Hl} {k : Int} : nsOf (M ++ [e]) k = nsOf M k ++ (if e.2.side = k then [e.2.name] else []) := by
  unfold nsOf
  rw [List.filter_append, List.map_append]
  congr 1
  by_cases h : e.2.side = k <;> simp [h]
def spDrawn (K : PySem.W.Frag) : Sp := fun vs H Q _ => ∃ (b g l : Addr) (n : Int), vs = [.ref b] ∧ BoxAt H b g l n ∧ n ≤ 400000 ∧
  ∀ (t pl bl d0 d1 : Addr) (M : List (Addr × Hl)) (W0 W1 : List (Str × Str)) (n' : Int) (H' : Hp), GoodH [] (M.map (·.2)) → M.length ≤ 4 → (∀ e ∈ M, e.2.throws = []) → H' t = some (.tup [.ref pl, .ref bl]) → HelpersAt K H' pl M → H' bl = some (.lst [.ref d0, .ref d1]) → H' d0 = some (.dK (wk W0)) → H' d1 = some (.dK (wk W1)) → W0.map (·.1) = nsOf M 0 → W1.map (·.1) = nsOf M 1 →
    (∀ w ∈ W0 ++ W1, ∃ e ∈ M, e.2.name = w.1 ∧ w.2 = bodyB e.2.gives) → H t = none → H pl = none → H bl = none → H d0 = none → H d1 = none → BoxAt H' b g l n' → n' ≤ n + 1000 → Keep2 b g H H' → Q (.ref t) H'
theorem ok__law_drawn (T : Txt w K mg a) : FnOk P w K mg base CX0 5 a.f__law_drawn a.d__law_drawn ["_law_box_here"] (spDrawn K) := by
  have G__law_names := ok__law_names (P := P) (w := w) (base := base) T
  have G__law_take := ok__law_take (P := P) (w := w) (base := base) T
  refine T.F__law_drawn.ok sc__law_drawn (fun vs H Q E h => ?_) (fun cdv A outer s H vs Q E hr h => ?_)
  · obtain ⟨b, g, l, n, rfl, _⟩ := h
    rfl
  · obtain ⟨b, g, l, n, rfl, B, hn, q⟩ := h
    refine ⟨_, (pss_cons (ps_set (i := 1) sc__law_drawn.nd rfl (Or.inl rfl) (pe_call G__law_names (hr.mono (by decide)) rfl T.m__law_names T.F__law_names.kp T.b__law_names .nil pass0 (pa_cons (pv 0) (pa_cons pe_int pa_nil))))
      (pss_cons (ps_set (i := 2) sc__law_drawn.nd rfl (Or.inl rfl) (pe_lst pa_nil))
      (pss_cons (ps_set (i := 3) sc__law_drawn.nd rfl (Or.inl rfl) (pe_lst (pa_cons pe_dnewK (pa_cons pe_dnewK pa_nil))))
      (pss_cons (ps_stop (ps_for PassesOwn.never rfl (pi_wait (pi_range1 rfl T.z_range (pa_cons pe_int pa_nil))) (pg_name (i := 4) sc__law_drawn.nd rfl (Or.inl rfl)) (pss_one (ps_stop (ps_for PassesOwn.never rfl (pi_wait (pi_range1 rfl T.z_range (pa_cons (pe_call G__law_take (hr.mono (by decide)) rfl T.m__law_take T.F__law_take.kp T.b__law_take .nil pass0 (pa_cons (pv 0) (pa_cons pe_int pa_nil))) pa_nil))) (pg_name (i := 5) sc__law_drawn.nd rfl (Or.inl rfl)) (pss_cons (ps_set (i := 6) sc__law_drawn.nd rfl (Or.inl rfl) (pe_callTy call_tuple_of (by rfl) T.z_tuple (by decide +kernel) (pa_cons (pe_lc (own := [("_law_j", 9)]) (g := gName 9) (tt := tYes) (te := (tOp (rIxL K) _ _)) rfl sc__law_drawn.nd (pi_range1 rfl T.z_range (pa_cons (pe_call G__law_take (hr.mono (by decide)) rfl T.m__law_take T.F__law_take.kp T.b__law_take .nil pass0 (pa_cons (pv 0) (pa_cons pe_int pa_nil))) pa_nil)) (blkOk_by (own := [("_law_j", 9)]) (N := n__law_drawn) (sc := defScope s__law_drawn) (by decide +kernel)) (fun _ _ _ _ _ => (pg_name (i := 9) sc__law_drawn.nd rfl (Or.inl rfl))) (fun _ _ _ _ _ => pts_nil) (fun _ _ _ _ _ => (pe_ix ix_list (pe_lst (pa_cons pe_str (pa_cons pe_str pa_nil))) (pe_call G__law_take (hr.mono (by decide)) rfl T.m__law_take T.F__law_take.kp T.b__law_take .nil pass0 (pa_cons (pv 0) (pa_cons pe_int pa_nil))) (fun _ _ => rfl)))) pa_nil)))
      (pss_cons (ps_set (i := 7) sc__law_drawn.nd rfl (Or.inl rfl) (pe_tup (pa_cons (pe_bm0 PySem.F.plainAttrs_list PySem.F.slot_list_pop PySem.F.type_list_pop mt_pop (pv 1)) (pa_cons (pv 4) (pa_cons (pv 6) (pa_cons (pe_cmpR op_eq (pe_call G__law_take (hr.mono (by decide)) rfl T.m__law_take T.F__law_take.kp T.b__law_take .nil pass0 (pa_cons (pv 0) (pa_cons pe_int pa_nil))) pe_int (nomark _)) (pa_cons (pe_tup pa_nil) pa_nil)))))))
      (pss_cons (ps_expr (pe_bm PySem.F.plainAttrs_list PySem.F.slot_list_append PySem.F.type_list_append mt_append (pv 2) (pa_cons (pv 7) pa_nil)))
      (pss_cons (ps_set (i := 8) sc__law_drawn.nd rfl (Or.inl rfl) (pe_op op_cat (pe_lst (pa_cons pe_str (pa_cons pe_str (pa_cons pe_str pa_nil)))) (pe_ix ix_list (pe_lst (pa_cons (pe_lst (pa_cons pe_str pa_nil)) (pa_cons (pe_lst (pa_cons pe_str (pa_cons pe_str pa_nil))) pa_nil))) (pe_callTy call_int1 (by rfl) T.z_int (by decide +kernel) (pa_cons (pe_ix ix_tup (pv 7) pe_int (fun _ _ => rfl)) pa_nil)) (fun _ _ => rfl))))
      (pss_one (ps_dput (hu_of hr) (pe_ix ix_list (pv 3) (pv 4) (fun _ _ => rfl)) (pe_ix ix_tup (pv 7) pe_int (fun _ _ => rfl)) (pe_join pe_str (pv 8)) rfl)))))))))))
      (pss_one (ps_ret (pe_tup (pa_cons (pv 2) (pa_cons (pv 3) pa_nil))))))))), ?_⟩
    walk_at "go"
    intro N ws n1 H1 lws nd nmw hN h1 B1 hn1 k1
    have nN := B.fresh hN
    walk_at "go"
    intro p2 hp2
    obtain ⟨H2, e2⟩ : ∃ H2, H2 = upd H1 p2 (.lst []) := ⟨_, rfl⟩
    have s2 : Same H1 H2 := by rw [e2]; exact Same.upd_new hp2
    have h2 : H2 p2 = some (.lst []) := by rw [e2, upd_same]
    rw [← e2]
    have B2 := B1.same s2
    have n2 := B1.fresh hp2
    have nN2 : N ≠ p2 := ne_of_none h1 hp2
    refine gn_in ?_
    with_reducible refine sq_seq ?_
    walk_at "go"
    intro p3 hp3
    obtain ⟨H3, e3⟩ : ∃ H3, H3 = upd H2 p3 (.dK []) := ⟨_, rfl⟩
    have s3 : Same H2 H3 := by rw [e3]; exact Same.upd_new hp3
    have h3 : H3 p3 = some (.dK []) := by rw [e3, upd_same]
    rw [← e3]
    have B3 := B2.same s3
    have n3 := B2.fresh hp3
    have nN3 : N ≠ p3 := ne_of_none (s2 _ _ h1) hp3
    walk_at "go"
    intro p4 hp4
    obtain ⟨H4, e4⟩ : ∃ H4, H4 = upd H3 p4 (.dK []) := ⟨_, rfl⟩
    have s4 : Same H3 H4 := by rw [e4]; exact Same.upd_new hp4
    have h4 : H4 p4 = some (.dK []) := by rw [e4, upd_same]
    rw [← e4]
    have B4 := B3.same s4
    have n4 := B3.fresh hp4
    have nN4 : N ≠ p4 := ne_of_none (s3 _ _ (s2 _ _ h1)) hp4
    walk_at "go"
    intro p5 hp5
    obtain ⟨H5, e5⟩ : ∃ H5, H5 = upd H4 p5 (.lst [.ref p3, .ref p4]) := ⟨_, rfl⟩
    have s5 : Same H4 H5 := by rw [e5]; exact Same.upd_new hp5
    have h5 : H5 p5 = some (.lst [.ref p3, .ref p4]) := by rw [e5, upd_same]
    rw [← e5]
    have B5 := B4.same s5
    have n5 := B4.fresh hp5
    have nN5 : N ≠ p5 := ne_of_none (s4 _ _ (s3 _ _ (s2 _ _ h1))) hp5
    have n23 : p2 ≠ p3 := ne_of_none h2 hp3
    have n24 : p2 ≠ p4 := ne_of_none (s3 _ _ h2) hp4
    have n25 : p2 ≠ p5 := ne_of_none (s4 _ _ (s3 _ _ h2)) hp5
    have n34 : p3 ≠ p4 := ne_of_none h3 hp4
    have n35 : p3 ≠ p5 := ne_of_none (s4 _ _ h3) hp5
    have n45 : p4 ≠ p5 := ne_of_none h4 hp5
    refine gn_in ?_
    refine sq_seq (stop_in ?_)
    walk_at "go"
    refine wait ?_
    have I0 : DI K H5 H5 b g l p2 N p5 p3 p4 n1 ws [] ws 0 0 [] [] := ⟨B5, ⟨s5 _ _ (s4 _ _ (s3 _ _ h2)), fun _ h => nomatch h⟩, s5 _ _ (s4 _ _ (s3 _ _ (s2 _ _ h1))), h5, s5 _ _ (s4 _ _ h3), s5 _ _ h4, .refl _, (fun _ h => nomatch h), rfl, rfl, rfl, rfl, rfl, (fun _ h => nomatch h), fun x o _ _ _ _ _ _ e => e⟩
    refine forR (lo := 0) (n := 2) (fun i σ H' => (∃ u4 u5 u6 u7 u8, σ = [some (.ref b), some (.ref N), some (.ref p2), some (.ref p5), u4, u5, u6, u7, u8, none]) ∧
      ∃ M ns n' c0 c1 W0 W1, DI K H5 H' b g l p2 N p5 p3 p4 n' ws M ns c0 c1 W0 W1 ∧ n' ≤ n1 + 100 * i ∧ (i = 0 → c0 = 0) ∧ (i ≤ 1 → c1 = 0) ∧ c0 ≤ 2 ∧ c1 ≤ 2) ?_ ?_ ?_
    · exact ⟨⟨_, _, _, _, _, rfl⟩, [], ws, n1, 0, 0, [], [], I0, by omega, fun _ => rfl, fun _ => rfl, by decide, by decide⟩
    · rintro i σ H9 hi ⟨⟨u4, u5, u6, u7, u8, rfl⟩, M, ns', n9, c0, c1, W0, W1, I9, hn9, ci0, ci1, cl0, cl1⟩
      obtain ⟨sd, esd⟩ : ∃ sd : Int, sd = 0 + (i : Int) := ⟨_, rfl⟩
      have hsd : sd = 0 ∨ sd = 1 := by omega
      have B9 := I9.box
      rw [← esd]
      refine stop_in ?_
      walk_at "go"
      intro r10 H10 r100 r101 B10 k10
      have I10 := I9.box2 B10 k10 ⟨n2.1, n2.2.1⟩ ⟨nN.1, nN.2.1⟩ ⟨n5.1, n5.2.1⟩ ⟨n3.1, n3.2.1⟩ ⟨n4.1, n4.2.1⟩
      walk_at "go"
      refine wait ?_
      refine forR (lo := 0) (n := r10.toNat) (fun j σ H' => (∃ u5 u6 u7 u8, σ = [some (.ref b), some (.ref N), some (.ref p2), some (.ref p5), some (.int sd), u5, u6, u7, u8, none]) ∧
        ∃ M ns n' W0 W1, DI K H5 H' b g l p2 N p5 p3 p4 n' ws M ns (if sd = 0 then (j : Int) else c0) (if sd = 0 then 0 else (j : Int)) W0 W1 ∧ n' ≤ n9 + 1 + 20 * j) ?_ ?_ ?_
      · refine ⟨⟨_, _, _, _, rfl⟩, M, ns', n9 + 1, W0, W1, ?_, by omega⟩
        rcases hsd with e | e
        · have z0 := ci0 (by omega)
          have z1 := ci1 (by omega)
          rw [if_pos e, if_pos e]
          rw [z0, z1] at I10
          exact I10
        · have z1 := ci1 (by omega)
          rw [if_neg (by omega), if_neg (by omega)]
          rw [z1] at I10
          exact I10
      · rintro j σ H11 hj ⟨⟨u5', u6', u7', u8', rfl⟩, M6, ns6, n6, V0, V1, I6, hn6⟩
        clear I9 I10
        have B11 := I6.box
        have hj2 : j < 2 := by omega
        have hnb : n6 ≤ 700000 := by omega
        walk_at "go"
        intro r15 H15 r150 r151 B15 k15
        walk_at "go"
        intro R hR
        have nR := B15.fresh hR
        refine lcR (lo := 0) (n := r15.toNat) (fun i H' => ∃ ts : List Str, ts.length = i ∧ (∀ w ∈ ts, w ∈ hows) ∧ H' R = some (.lst (ts.map V.str)) ∧ BoxAt H' b g l (n6 + 1 + i) ∧ ∀ x o, x ≠ b → x ≠ g → x ≠ R → H15 x = some o → H' x = some o) ?_ ?_ ?_
        · exact ⟨[], rfl, (fun _ h => nomatch h), upd_same, by rw [show n6 + 1 + ((0 : Nat) : Int) = n6 + 1 by omega]; exact B15.upd nR, fun x o _ _ a3 e => upd_get a3 e⟩
        · rintro i' H16 hi16 ⟨ts, htl, hts, hR16, B16, k16⟩
          refine ⟨rfl, ?_⟩
          walk_at "go"
          intro p9 hp9
          have s9 : Same H16 (upd H16 p9 (.lst [.str "lent", .str "given"])) := Same.upd_new hp9
          have B17 := B16.same s9
          have n9' := B16.fresh hp9
          refine ⟨_, rfl, b, g, l, _, 2, rfl, B17, by omega, by decide, by decide, fun r10 H10 r100 r101 B10 k10 => ?_⟩
          have hp10 := k10 _ _ n9'.1 n9'.2.1 upd_same
          obtain ⟨v, e1, e2⟩ := atI_in (xs := [V.str "lent", .str "given"]) (i := r10) r100 r101
          obtain ⟨z, rfl, hz⟩ : ∃ z : Str, v = .str z ∧ z ∈ hows := by
            have hm := List.mem_of_getElem? e2
            simp only [List.mem_cons, List.not_mem_nil, or_false] at hm
            rcases hm with rfl | rfl
            · exact ⟨_, rfl, List.mem_cons_self⟩
            · exact ⟨_, rfl, List.mem_cons_of_mem _ List.mem_cons_self⟩
          have hR10 := k10 _ _ nR.1 nR.2.1 (s9 _ _ hR16)
          walk_at "go"
          refine ⟨small_lt (by rw [List.length_map]; omega), wait ⟨ts ++ [z], by rw [List.length_append, htl] <;> rfl, ?_, ?_, ?_, fun x o a1 a2 a3 e => upd_get a3 (k10 x o a1 a2 (s9 _ _ (k16 x o a1 a2 a3 e)))⟩⟩
          · intro w hw
            rcases List.mem_append.mp hw with y | y
            · exact hts w y
            · rw [List.mem_singleton.mp y]; exact hz
          · rw [upd_same, List.map_append] <;> rfl
          · rw [show n6 + 1 + ((i' + 1 : Nat) : Int) = n6 + 1 + (i' : Int) + 1 by omega]
            exact B10.upd nR
        rintro H16 ⟨ts, htl, hts, hR16, B16, k16⟩
        have hts3 : ts.length ≤ 3 := by omega
        refine ⟨R, _, rfl, .inl ⟨SqL.of hR16, fun tk htk => ?_⟩⟩
        obtain ⟨H17, e17⟩ : ∃ H17, H17 = upd H16 tk (.tup (ts.map V.str)) := ⟨_, rfl⟩
        have s17 : Same H16 H17 := by rw [e17]; exact Same.upd_new htk
        rw [← e17]
        have htk17 : H17 tk = some (.tup (ts.map V.str)) := by rw [e17, upd_same]
        have B17 := B16.same s17
        have k617 : Keep2 b g H11 H17 := fun x o a1 a2 e => s17 _ _ (k16 x o a1 a2 (ne_of_none (k15 x o a1 a2 e) hR) (k15 x o a1 a2 e))
        have I17 := I6.box2 B17 k617 ⟨n2.1, n2.2.1⟩ ⟨nN.1, nN.2.1⟩ ⟨n5.1, n5.2.1⟩ ⟨n3.1, n3.2.1⟩ ⟨n4.1, n4.2.1⟩
        have hN17 := I17.nm
        have hM6 : (M6.length : Int) ≤ 4 := by
          rw [I6.len]
          rcases hsd with e | e
          · rw [if_pos e, if_pos e]; omega
          · rw [if_neg (by omega), if_neg (by omega)]; omega
        have hM5 : (M6.length : Int) < 4 := by
          rw [I6.len]
          rcases hsd with e | e
          · rw [if_pos e, if_pos e]; omega
          · rw [if_neg (by omega), if_neg (by omega)]; omega
        obtain ⟨ini, z, ens⟩ : ∃ ini z, ns6 = ini ++ [z] := by
          have hl6 := I6.pm.length_eq
          rw [List.length_append, List.length_map] at hl6
          have hne : ns6 ≠ [] := fun e => by rw [e] at hl6; simp at hl6; omega
          exact ⟨_, _, (List.dropLast_concat_getLast hne).symm⟩
        have hlast : (ns6.map V.str)[(ns6.map V.str).length - 1]? = some (.str z) := by
          rw [ens, List.map_append, List.length_append, List.length_map]
          simp
        have hdrop : (ns6.map V.str).dropLast = ini.map V.str := by
          rw [ens, List.map_append]
          simp
        walk_at "go"
        obtain ⟨H18, e18⟩ : ∃ H18, H18 = upd H17 N (.lst (ns6.map V.str).dropLast) := ⟨_, rfl⟩
        rw [← e18]
        have B18 : BoxAt H18 b g l (n6 + 1 + (r15.toNat : Int)) := by rw [e18]; exact B17.upd nN
        have hN18 : H18 N = some (.lst (ini.map V.str)) := by rw [e18, upd_same, hdrop]
        have k18 : ∀ x o, x ≠ N → H17 x = some o → H18 x = some o := fun x o a e => by rw [e18]; exact upd_get a e
        have tk18 : TK H17 H18 := by rw [e18]; exact TK.lst hN17
        clear e18
        walk_at "go"
        intro r19 H19 r190 r191 B19 k19
        have hF19 := k19 _ _ n2.1 n2.2.1 (k18 _ _ nN2.symm I17.hs.ls)
        have hN19 := k19 _ _ nN.1 nN.2.1 hN18
        have hbd19 := k19 _ _ n5.1 n5.2.1 (k18 _ _ nN5.symm I17.bd)
        have h019 := k19 _ _ n3.1 n3.2.1 (k18 _ _ nN3.symm I17.e0)
        have h119 := k19 _ _ n4.1 n4.2.1 (k18 _ _ nN4.symm I17.e1)
        have tk19 : TK H17 H19 := tk18.trans (B18.tk k19)
        have htk19 := (tk19 _).1 _ htk17
        walk_at "go"
        intro p20 hp20
        obtain ⟨H20, e20⟩ : ∃ H20, H20 = upd H19 p20 (.tup []) := ⟨_, rfl⟩
        have s20 : Same H19 H20 := by rw [e20]; exact Same.upd_new hp20
        have h20 : H20 p20 = some (.tup []) := by rw [e20, upd_same]
        rw [← e20]
        have B20 := B19.same s20
        obtain ⟨gv, egv⟩ : ∃ gv : Bool, gv = decide (V.int r19 = V.int 1) := ⟨_, rfl⟩
        rw [← egv]
        walk_at "go"
        intro p21 hp21
        obtain ⟨H21, e21⟩ : ∃ H21, H21 = upd H20 p21 (.tup [.str z, .int sd, .ref tk, .bl gv, .ref p20]) := ⟨_, rfl⟩
        have s21 : Same H20 H21 := by rw [e21]; exact Same.upd_new hp21
        have h21 : H21 p21 = some (.tup [.str z, .int sd, .ref tk, .bl gv, .ref p20]) := by rw [e21, upd_same]
        rw [← e21]
        have B21 := B20.same s21
        have hF21 := s21 _ _ (s20 _ _ hF19)
        have lM21 : (M6.map fun e => V.ref e.1).length ≤ 4 := by rw [List.length_map]; omega
        refine gn_in ?_
        with_reducible refine sq_seq ?_
        walk_at "go"
        obtain ⟨H22, e22⟩ : ∃ H22, H22 = upd H21 p2 (.lst ((M6.map fun e => V.ref e.1) ++ [.ref p21])) := ⟨_, rfl⟩
        rw [← e22]
        have k22 : ∀ x o, x ≠ p2 → H21 x = some o → H22 x = some o := fun x o a e => by rw [e22]; exact upd_get a e
        have hF22 : H22 p2 = some (.lst ((M6.map fun e => V.ref e.1) ++ [.ref p21])) := by rw [e22, upd_same]
        have B22 : BoxAt H22 b g l (n6 + 1 + (r15.toNat : Int) + 1) := by rw [e22]; exact B21.upd n2
        have tk22 : TK H21 H22 := by rw [e22]; exact TK.lst hF21
        have h2122 : H22 p21 = some (.tup [.str z, .int sd, .ref tk, .bl gv, .ref p20]) := (tk22 _).1 _ h21
        clear e22
        walk_at "go"
        intro p23 hp23
        obtain ⟨H23, e23⟩ : ∃ H23, H23 = upd H22 p23 (.lst [.str "clear a", .str "clear b", .str "clear c"]) := ⟨_, rfl⟩
        have s23 : Same H22 H23 := by rw [e23]; exact Same.upd_new hp23
        have h23 : H23 p23 = some (.lst [.str "clear a", .str "clear b", .str "clear c"]) := by rw [e23, upd_same]
        rw [← e23]
        have B23 := B22.same s23
        walk_at "go"
        intro p24 hp24
        obtain ⟨H24, e24⟩ : ∃ H24, H24 = upd H23 p24 (.lst [.str "done"]) := ⟨_, rfl⟩
        have s24 : Same H23 H24 := by rw [e24]; exact Same.upd_new hp24
        have h24 : H24 p24 = some (.lst [.str "done"]) := by rw [e24, upd_same]
        rw [← e24]
        have B24 := B23.same s24
        walk_at "go"
        intro p25 hp25
        obtain ⟨H25, e25⟩ : ∃ H25, H25 = upd H24 p25 (.lst [.str "make e", .str "done e"]) := ⟨_, rfl⟩
        have s25 : Same H24 H25 := by rw [e25]; exact Same.upd_new hp25
        have h25 : H25 p25 = some (.lst [.str "make e", .str "done e"]) := by rw [e25, upd_same]
        rw [← e25]
        have B25 := B24.same s25
        walk_at "go"
        intro p26 hp26
        obtain ⟨H26, e26⟩ : ∃ H26, H26 = upd H25 p26 (.lst [.ref p24, .ref p25]) := ⟨_, rfl⟩
        have s26 : Same H25 H26 := by rw [e26]; exact Same.upd_new hp26
        have h26 : H26 p26 = some (.lst [.ref p24, .ref p25]) := by rw [e26, upd_same]
        rw [← e26]
        have B26 := B25.same s26
        have s2226 := ((s23.trans s24).trans s25).trans s26
        have h2126 := s2226 _ _ h2122
        have a3 : atI [V.str z, .int sd, .ref tk, .bl gv, .ref p20] 3 = some (.bl gv) := rfl
        have a0 : atI [V.str z, .int sd, .ref tk, .bl gv, .ref p20] 0 = some (.str z) := rfl
        have h2426 := s26 _ _ (s25 _ _ h24)
        have h2526 := s26 _ _ h25
        have h2326 := s26 _ _ (s25 _ _ (s24 _ _ h23))
        walk_at "go"
        have hsel : atI [V.ref p24, .ref p25] (if gv = true then 1 else 0) = some (.ref (if gv = true then p25 else p24)) := by cases gv <;> rfl
        have hsel2 : H26 (if gv = true then p25 else p24) = some (.lst ((if gv = true then (["make e", "done e"] : List Str) else (["done"] : List Str)).map V.str)) := by
          cases gv
          · exact h2426
          · exact h2526
        have hsel3 : ((if gv = true then (["make e", "done e"] : List Str) else (["done"] : List Str)).map V.str).length ≤ 2 := by cases gv <;> decide
        refine .inr ⟨gv, rfl, ?_⟩
        walk_at "go"
        intro p27 hp27
        obtain ⟨H27, e27⟩ : ∃ H27, H27 = upd H26 p27 (.lst ([.str "clear a", .str "clear b", .str "clear c"] ++ (if gv = true then (["make e", "done e"] : List Str) else (["done"] : List Str)).map V.str)) := ⟨_, rfl⟩
        rw [← e27]
        have h27 : H27 p27 = some (.lst ((rowsB gv).map V.str)) := by
          rw [e27, upd_same]
          unfold rowsB
          rw [List.map_append] <;> rfl
        have s27 : Same H26 H27 := by rw [e27]; exact Same.upd_new hp27
        have B27 := B26.same s27
        have s2227 := s2226.trans s27
        have h2127 := s27 _ _ h2126
        have K27 : ∀ x o, x ≠ b → x ≠ g → x ≠ p2 → x ≠ N → H17 x = some o → H27 x = some o := fun x o a1 a2 a3 a4 e => s2227 _ _ (k22 x o a3 (s21 _ _ (s20 _ _ (k19 x o a1 a2 (k18 x o a4 e)))))
        have hbd27 := K27 _ _ n5.1 n5.2.1 n25.symm nN5.symm I17.bd
        have hsum := rowsB_sum gv
        have hat : atI [V.ref p3, .ref p4] sd = some (.ref (if sd = 0 then p3 else p4)) := by rcases hsd with rfl | rfl <;> rfl
        have hdd : H27 (if sd = 0 then p3 else p4) = some (.dK (wk (if sd = 0 then V0 else V1))) := by
          rcases hsd with rfl | rfl
          · exact K27 _ _ n3.1 n3.2.1 n23.symm nN3.symm I17.e0
          · exact K27 _ _ n4.1 n4.2.1 n24.symm nN4.symm I17.e1
        have hzn : ∀ e ∈ M6, e.2.name ≠ z := fun e he en => by
          have h1 := I6.pm.nodup_iff.mpr nd
          rw [ens] at h1
          exact (List.nodup_append.mp h1).2.2 _ (List.mem_map.mpr ⟨e, he, rfl⟩) z (by simp) en
        have hzW : ∀ k, z ∉ nsOf M6 k := fun k hz => by
          obtain ⟨e, he, en, _⟩ := nsOf_mem hz
          exact hzn e he en
        have lns : ∀ k, (nsOf M6 k).length ≤ 4 := fun k => by
          unfold nsOf
          rw [List.length_map]
          have := List.length_filter_le (fun e : Addr × Hl => decide (e.2.side = k)) M6
          omega
        have hnk : z ∉ (if sd = 0 then V0 else V1).map (·.1) := by
          rcases hsd with rfl | rfl
          · rw [if_pos rfl, I6.w0]; exact hzW 0
          · rw [if_neg (by decide), I6.w1]; exact hzW 1
        have lwk : (wk (if sd = 0 then V0 else V1)).length ≤ 4 := by
          have := lns sd
          unfold wk
          rw [List.length_map]
          rcases hsd with rfl | rfl
          · rw [if_pos rfl, ← List.length_map (f := (·.1)), I6.w0]; exact this
          · rw [if_neg (by decide), ← List.length_map (f := (·.1)), I6.w1]; exact this
        have hput := dput_new (v := .str (bodyB gv)) hdd (wk_none hnk) (small_lt (by omega))
        refine gn_in ?_
        walk_at "go"
        obtain ⟨dd, edd⟩ : ∃ dd, dd = (if sd = 0 then p3 else p4) := ⟨_, rfl⟩
        obtain ⟨Vd, eVd⟩ : ∃ Vd, Vd = (if sd = 0 then V0 else V1) := ⟨_, rfl⟩
        rw [← edd, ← eVd] at hdd
        rw [← edd, ← eVd]
        obtain ⟨HF, eF⟩ : ∃ HF, HF = upd H27 dd (.dK (wk Vd ++ [(Sum.inr z, .str (bodyB gv))])) := ⟨_, rfl⟩
        rw [← eF]
        have hFd : HF dd = some (.dK (wk (Vd ++ [(z, bodyB gv)]))) := by
          rw [eF, upd_same]
          unfold wk
          rw [List.map_append] <;> rfl
        have kFd : ∀ x o, x ≠ dd → H27 x = some o → HF x = some o := fun x o n e => by rw [eF]; exact upd_get n e
        have ndd : dd ≠ b ∧ dd ≠ g ∧ dd ≠ l := by
          rw [edd]
          split
          · exact n3
          · exact n4
        have n2d : p2 ≠ dd := by
          rw [edd]
          split
          · exact n23
          · exact n24
        have nNd : N ≠ dd := by
          rw [edd]
          split
          · exact nN3
          · exact nN4
        have n5d : p5 ≠ dd := by
          rw [edd]
          split
          · exact n35.symm
          · exact n45.symm
        have BF : BoxAt HF b g l (n6 + 1 + (r15.toNat : Int) + 1) := by rw [eF]; exact B27.upd ndd
        have tkF : TK H27 HF := by rw [eF]; exact TK.dK hdd
        have tkB : TK H22 HF := (TK.same s2227).trans tkF
        have tkA : TK H17 HF := (tk19.trans ((TK.same s20).trans ((TK.same s21).trans tk22))).trans tkB
        have hnew : HlAt K HF (p21, ⟨z, sd, ts, gv, []⟩) := ⟨tk, p20, (tkB _).1 _ h2122, SqT.of ((tkA _).1 _ htk17), SqT.of ((tkB _).1 _ ((tk22 _).1 _ (s21 _ _ h20)))⟩
        have okn : HOk [] (⟨z, sd, ts, gv, []⟩ : Hl) := ⟨hsd, hts3, hts, Nat.zero_le _, .nil, fun w hw => nomatch hw⟩
        have pmn : ((M6 ++ [(p21, (⟨z, sd, ts, gv, []⟩ : Hl))]).map (fun e => e.2.name) ++ ini).Perm ws := by
          have h2 := I6.pm
          rw [ens] at h2
          rw [List.map_append, List.append_assoc]
          refine (List.Perm.append_left _ ?_).trans h2
          exact List.perm_append_comm (l₁ := [z])
        have K0 : ∀ x o, x ≠ b → x ≠ g → x ≠ p2 → x ≠ N → x ≠ p3 → x ≠ p4 → H5 x = some o → HF x = some o := fun x o a1 a2 a3 a4 a5 a6 e => kFd _ _ (by
          rw [edd]
          split
          · exact a5
          · exact a6) (K27 x o a1 a2 a3 a4 (k617 x o a1 a2 (I6.kp x o a1 a2 a3 a4 a5 a6 e)))
        have hsF : HelpersAt K HF p2 (M6 ++ [(p21, ⟨z, sd, ts, gv, []⟩)]) := ⟨by
          rw [kFd _ _ n2d (s2227 _ _ hF22), List.map_append] <;> rfl, fun e he => by
          rcases List.mem_append.mp he with y | y
          · exact (I17.hs.at_ e y).tk tkA
          · rw [List.mem_singleton.mp y]; exact hnew⟩
        have hNF := kFd _ _ nNd (s2227 _ _ (k22 _ _ nN2 (s21 _ _ (s20 _ _ hN19))))
        have okF : ∀ e ∈ M6 ++ [(p21, (⟨z, sd, ts, gv, []⟩ : Hl))], HOk [] e.2 := fun e he => by
          rcases List.mem_append.mp he with y | y
          · exact I6.ok e y
          · rw [List.mem_singleton.mp y]; exact okn
        have c0' := I6.c0
        have c1' := I6.c1
        have cl := I6.len
        have hm21 : (p21, (⟨z, sd, ts, gv, []⟩ : Hl)) ∈ M6 ++ [(p21, (⟨z, sd, ts, gv, []⟩ : Hl))] := List.mem_append_right _ List.mem_cons_self
        have tOld : ∀ w ∈ V0 ++ V1, ∃ e ∈ M6 ++ [(p21, (⟨z, sd, ts, gv, []⟩ : Hl))], e.2.name = w.1 ∧ w.2 = bodyB e.2.gives := fun w hw => by
          obtain ⟨e, he, e1, e2⟩ := I6.t0 w hw
          exact ⟨e, List.mem_append_left _ he, e1, e2⟩
        rcases hsd with h0 | h1
        · subst h0
          rw [if_pos rfl] at edd eVd
          subst edd
          subst eVd
          refine wait ⟨⟨_, _, _, _, rfl⟩, M6 ++ [(p21, ⟨z, 0, ts, gv, []⟩)], ini, n6 + 1 + (r15.toNat : Int) + 1, Vd ++ [(z, bodyB gv)], V1, ⟨BF, hsF, hNF, kFd _ _ n5d hbd27, hFd, kFd _ _ n34.symm (K27 _ _ n4.1 n4.2.1 n24.symm nN4.symm I17.e1), pmn, okF, ?_, ?_, ?_, ?_, ?_, fun w hw => ?_, K0⟩, by omega⟩
          · rw [if_pos rfl] at c0' ⊢
            rw [List.filter_append, List.length_append]
            show ((_ + 1 : Nat) : Int) = _
            omega
          · rw [if_pos rfl] at c1' ⊢
            rw [List.filter_append, List.length_append]
            show ((_ + 0 : Nat) : Int) = _
            omega
          · rw [List.length_append, if_pos rfl, if_pos rfl]
            rw [if_pos rfl, if_pos rfl] at cl
            show ((M6.length + 1 : Nat) : Int) = _
            omega
          · rw [List.map_append, I6.w0, nsOf_snoc] <;> rfl
          · rw [I6.w1, nsOf_snoc, if_neg (show ¬ ((0 : Int) = 1) by decide), List.append_nil]
          · rcases List.mem_append.mp hw with y | y
            · rcases List.mem_append.mp y with x | x
              · exact tOld w (List.mem_append_left _ x)
              · rw [List.mem_singleton.mp x]
                exact ⟨_, hm21, rfl, rfl⟩
            · exact tOld w (List.mem_append_right _ y)
        · subst h1
          rw [if_neg (by decide)] at edd eVd
          subst edd
          subst eVd
          refine wait ⟨⟨_, _, _, _, rfl⟩, M6 ++ [(p21, ⟨z, 1, ts, gv, []⟩)], ini, n6 + 1 + (r15.toNat : Int) + 1, V0, Vd ++ [(z, bodyB gv)], ⟨BF, hsF, hNF, kFd _ _ n5d hbd27, kFd _ _ n34 (K27 _ _ n3.1 n3.2.1 n23.symm nN3.symm I17.e0), hFd, pmn, okF, ?_, ?_, ?_, ?_, ?_, fun w hw => ?_, K0⟩, by omega⟩
          · rw [if_neg (by decide)] at c0' ⊢
            rw [List.filter_append, List.length_append]
            show ((_ + 0 : Nat) : Int) = _
            omega
          · rw [if_neg (by decide)] at c1' ⊢
            rw [List.filter_append, List.length_append]
            show ((_ + 1 : Nat) : Int) = _
            omega
          · rw [List.length_append, if_neg (by decide), if_neg (by decide)]
            rw [if_neg (by decide), if_neg (by decide)] at cl
            show ((M6.length + 1 : Nat) : Int) = _
            omega
          · rw [I6.w0, nsOf_snoc, if_neg (show ¬ ((1 : Int) = 0) by decide), List.append_nil]
          · rw [List.map_append, I6.w1, nsOf_snoc] <;> rfl
          · rcases List.mem_append.mp hw with y | y
            · exact tOld w (List.mem_append_left _ y)
            · rcases List.mem_append.mp y with x | x
              · exact tOld w (List.mem_append_right _ x)
              · rw [List.mem_singleton.mp x]
                exact ⟨_, hm21, rfl, rfl⟩
      · rintro σ H12 ⟨⟨u5', u6', u7', u8', rfl⟩, M6, ns6, n6, V0, V1, I6, hn6⟩
        refine wait ⟨⟨_, _, _, _, _, rfl⟩, M6, ns6, n6, _, _, V0, V1, I6, by omega, fun z => absurd z (Nat.succ_ne_zero _), fun z => ?_, ?_, ?_⟩
        · rw [if_pos (by omega)]
        · split <;> omega
        · split <;> omega
    · rintro σ H9 ⟨⟨u4, u5, u6, u7, u8, rfl⟩, M, ns', n9, c0, c1, W0, W1, I9, hn9, ci0, ci1, cl0, cl1⟩
      walk_at "go"
      intro p10 hp10
      obtain ⟨H10, e10⟩ : ∃ H10, H10 = upd H9 p10 (.tup [.ref p2, .ref p5]) := ⟨_, rfl⟩
      have s10 : Same H9 H10 := by rw [e10]; exact Same.upd_new hp10
      have h10 : H10 p10 = some (.tup [.ref p2, .ref p5]) := by rw [e10, upd_same]
      rw [← e10]
      have kk : ∀ x o, x ≠ b → x ≠ g → H x = some o → H9 x = some o := fun x o a1 a2 e => by
        have e1 := k1 x o a1 a2 e
        have e2 := s2 _ _ e1
        have e3 := s3 _ _ e2
        have e4 := s4 _ _ e3
        exact I9.kp x o a1 a2 (ne_of_none e1 hp2) (ne_of_none e hN) (ne_of_none e2 hp3) (ne_of_none e3 hp4) (s5 _ _ e4)
      have back : ∀ x, x ≠ b → x ≠ g → H9 x = none → H x = none := fun x a1 a2 e => by
        cases z : H x with
        | none => rfl
        | some o => rw [kk x o a1 a2 z] at e; cases e
      have hnd : (M.map (fun e => e.2.name) ++ ns').Nodup := I9.pm.nodup_iff.mpr nd
      have lM : (M.length : Int) ≤ 4 := by rw [I9.len]; omega
      refine q p10 p2 p5 p3 p4 M W0 W1 n9 H10 ⟨fun h hh => ?_, ?_, fun h hh => ?_, fun sd => ?_, by rw [List.length_map]; omega⟩ (by omega) (fun e he => ?_) h10 (I9.hs.same s10) (s10 _ _ I9.bd) (s10 _ _ I9.e0) (s10 _ _ I9.e1) I9.w0 I9.w1 I9.t0 ?_ ?_ ?_ ?_ ?_ (I9.box.same s10) (by omega) fun x o a1 a2 e => ?_
      · obtain ⟨e, he, rfl⟩ := List.mem_map.mp hh
        exact I9.ok e he
      · rw [List.map_map]
        exact (List.nodup_append.mp hnd).1
      · obtain ⟨e, he, rfl⟩ := List.mem_map.mp hh
        exact nmw _ (I9.pm.subset (List.mem_append_left _ (List.mem_map.mpr ⟨e, he, rfl⟩)))
      · rw [List.filter_map, List.length_map]
        have := List.length_filter_le ((fun h : Hl => decide (h.side = sd)) ∘ fun e : Addr × Hl => e.2) M
        omega
      · have hw := (I9.ok e he).hw
        cases ht : e.2.throws with
        | nil => rfl
        | cons a r =>
          have := hw a (by rw [ht]; exact List.mem_cons_self)
          cases this
      · exact back _ (I9.box.fresh hp10).1 (I9.box.fresh hp10).2.1 hp10
      · exact keep_none k1 n2.1 n2.2.1 hp2
      · exact keep_none k1 n5.1 n5.2.1 (same_none' s2 (same_none' s3 (same_none' s4 hp5)))
      · exact keep_none k1 n3.1 n3.2.1 (same_none' s2 hp3)
      · exact keep_none k1 n4.1 n4.2.1 (same_none' s2 (same_none' s3 hp4))
      · exact s10 _ _ (kk x o a1 a2 e)
def spBare (CW CS CT : Addr) : Sp := fun vs H Q _ => ∃ (w dw s pa : Addr) (A : Sd) (near far : V), vs = [.ref w] ∧ WAt CW CS CT H w dw s pa A [] near far false ∧ ∀ H', Same H H' → Q (.bl true) H'
theorem ok__law_bare (T : Txt w K mg a) : FnOk P w K mg base CX0 4 a.f__law_bare a.d__law_bare ["_law_world"] (spBare a.c_World a.c_Stand a.c_Table) := by
  have G_World_held := ok_World_held (P := P) (w := w) (base := base) T
  have G_World_log := ok_World_log (P := P) (w := w) (base := base) T
  have G_World_story := ok_World_story (P := P) (w := w) (base := base) T
  have G_World___len__ := ok_World___len__ (P := P) (w := w) (base := base) T
  have G_World_closed := ok_World_closed (P := P) (w := w) (base := base) T
  have G_World_broken := ok_World_broken (P := P) (w := w) (base := base) T
  have G_World_shelf := ok_World_shelf (P := P) (w := w) (base := base) T
  have cl_World := T.cl_World
  refine T.F__law_bare.ok sc__law_bare (fun vs H Q E h => ?_) (fun cdv A outer s H vs Q E hr h => ?_)
  · obtain ⟨w, dw, s, pa, A, near, far, rfl, _⟩ := h
    rfl
  · obtain ⟨w, dw, s, pa, A, near, far, rfl, WA, q⟩ := h
    have hw := WA.ob
    have sh : SeqAt.shaped (.list []) = true := by decide
    refine ⟨_, (pss_cons (ps_if (PW.pt (pw_or (pt_cmpR (op_neD (hr.units)) (pe_meth0 (pv 0) T.cl_World T.mt_World_held G_World_held (hr.mono (by decide)) T.b_World_held .nil pass0) (pe_lst pa_nil) (nomark _)) (pw_or (pt_cmpR (op_neD (hr.units)) (pe_meth0 (pv 0) T.cl_World T.mt_World_log G_World_log (hr.mono (by decide)) T.b_World_log .nil pass0) (pe_lst pa_nil) (nomark _)) (pw_or (pt_cmpR (op_neD (hr.units)) (pe_meth0 (pv 0) T.cl_World T.mt_World_story G_World_story (hr.mono (by decide)) T.b_World_story .nil pass0) (pe_lst pa_nil) (nomark _)) (pw_or1 (pt_cmpR op_ne (pe_callB (call_lenO T.mt_World___len__ G_World___len__ (hr.mono (by decide)) T.b_World___len__ pass0) (by rfl) T.z_len PySem.boot_len (pa_cons (pv 0) pa_nil)) pe_int (nomark _))))))) (pss_one (ps_ret pe_bl)) pss_nil)
      (pss_cons (ps_if (PW.pt (pw_or (pt_cmpR op_notBl (pe_meth0 (pv 0) T.cl_World T.mt_World_closed G_World_closed (hr.mono (by decide)) T.b_World_closed .nil pass0) pe_bl (nomark _)) (pw_or1 (pt_cmpR op_notN (pe_meth0 (pv 0) T.cl_World T.mt_World_broken G_World_broken (hr.mono (by decide)) T.b_World_broken .nil pass0) pe_non (nomark _))))) (pss_one (ps_ret pe_bl)) pss_nil)
      (pss_one (ps_ret (pe_cmpR (op_eqD (hr.units)) (pe_lst (pa_cons (pe_meth (pv 0) T.cl_World T.mt_World_shelf G_World_shelf (hr.mono (by decide)) T.b_World_shelf .nil passL (pa_cons pe_int pa_nil)) (pa_cons (pe_meth (pv 0) T.cl_World T.mt_World_shelf G_World_shelf (hr.mono (by decide)) T.b_World_shelf .nil passL (pa_cons pe_int pa_nil)) pa_nil))) (pe_lst (pa_cons pe_str (pa_cons pe_str pa_nil))) (nomark _)))))), ?_⟩
    walk_at "go"
    intro D1 H1 hD1 h1 s1
    have WA1 := WA.same s1
    have hw1 := WA1.ob
    walk_at "go"
    intro p2 hp2
    obtain ⟨H2, e2⟩ : ∃ H2, H2 = upd H1 p2 (.lst []) := ⟨_, rfl⟩
    have s2 : Same H1 H2 := by rw [e2]; exact Same.upd_new hp2
    have h2 : H2 p2 = some (.lst []) := by rw [e2, upd_same]
    rw [← e2]
    have d1 : Dp K H2 (.ref D1) (.list []) := .lst (SqL.of (s2 _ _ h1)) .nil
    have d2 : Dp K H2 (.ref p2) (.list []) := .lst (SqL.of h2) .nil
    have WA2 := WA1.same s2
    have hw2 := WA2.ob
    walk_at "go"
    intro D3 H3 hD3 h3 s3
    have WA3 := WA2.same s3
    have hw3 := WA3.ob
    walk_at "go"
    intro p4 hp4
    obtain ⟨H4, e4⟩ : ∃ H4, H4 = upd H3 p4 (.lst []) := ⟨_, rfl⟩
    have s4 : Same H3 H4 := by rw [e4]; exact Same.upd_new hp4
    have h4 : H4 p4 = some (.lst []) := by rw [e4, upd_same]
    rw [← e4]
    have d3 : Dp K H4 (.ref D3) (.list []) := .lst (SqL.of (s4 _ _ h3)) .nil
    have d4 : Dp K H4 (.ref p4) (.list []) := .lst (SqL.of h4) .nil
    have WA4 := WA3.same s4
    have hw4 := WA4.ob
    walk_at "go"
    intro D5 H5 hD5 h5 s5
    have WA5 := WA4.same s5
    have hw5 := WA5.ob
    walk_at "go"
    intro p6 hp6
    obtain ⟨H6, e6⟩ : ∃ H6, H6 = upd H5 p6 (.lst []) := ⟨_, rfl⟩
    have s6 : Same H5 H6 := by rw [e6]; exact Same.upd_new hp6
    have h6 : H6 p6 = some (.lst []) := by rw [e6, upd_same]
    rw [← e6]
    have d5 : Dp K H6 (.ref D5) (.list []) := .lst (SqL.of (s6 _ _ h5)) .nil
    have d6 : Dp K H6 (.ref p6) (.list []) := .lst (SqL.of h6) .nil
    have WA6 := WA5.same s6
    have hw6 := WA6.ob
    walk_at "go"
    refine ⟨fun _ H7 s7 => ?_, fun z => absurd (.inl rfl) z⟩
    have WA7 := WA6.same s7
    have hw7 := WA7.ob
    walk_at "go"
    refine ⟨fun _ H8 s8 => ?_, fun z => absurd (.inr rfl) z⟩
    walk_at "go"
    intro p9 hp9
    obtain ⟨H9, e9⟩ : ∃ H9, H9 = upd H8 p9 (.lst [.str "E", .str "E"]) := ⟨_, rfl⟩
    have s9 : Same H8 H9 := by rw [e9]; exact Same.upd_new hp9
    have h9 : H9 p9 = some (.lst [.str "E", .str "E"]) := by rw [e9, upd_same]
    rw [← e9]
    walk_at "go"
    intro p10 hp10
    obtain ⟨H10, e10⟩ : ∃ H10, H10 = upd H9 p10 (.lst [.str "E", .str "E"]) := ⟨_, rfl⟩
    have s10 : Same H9 H10 := by rw [e10]; exact Same.upd_new hp10
    have h10 : H10 p10 = some (.lst [.str "E", .str "E"]) := by rw [e10, upd_same]
    rw [← e10]
    have d9 : Dp K H10 (.ref p9) (.list [.str "E", .str "E"]) := .lst (SqL.of (s10 _ _ h9)) (.cons (.str _) (.cons (.str _) .nil))
    have d10 : Dp K H10 (.ref p10) (.list [.str "E", .str "E"]) := .lst (SqL.of h10) (.cons (.str _) (.cons (.str _) .nil))
    have sh2 : SeqAt.shaped (.list [.str "E", .str "E"]) = true := by decide +kernel
    walk_at "go"
    rw [eqv_self sh2]
    exact q _ (((((((((s1.trans s2).trans s3).trans s4).trans s5).trans s6).trans s7).trans s8).trans s9).trans s10)
def RfCase (near : Addr) (names : List Str) (way : Int) (v : V) (ks : List Bool) (val : V) : Prop :=
  (way = 0 ∧ (∃ i : Int, v = .int i ∧ ¬ (i = 0 ∨ i = 1)) ∧ ks = [true, false, false, false] ∧ val = v) ∨
  (way = 1 ∧ (∃ k : Str, v = .str k ∧ k ∉ names) ∧ ks = [false, true, false, false] ∧ val = v) ∨
  (way = 2 ∧ (∃ i : Int, v = .int i) ∧ ks = [false, false, true, false] ∧ val = v) ∨
  (way = 3 ∧ (∃ i : Int, v = .int i) ∧ ks = [false, false, false, true] ∧ val = .bl false)
def spRefused (K : PySem.W.Frag) (CW CS CT CD CP : Addr) : Sp := fun vs H Q _ => ∃ (w dw s pa : Addr) (A : Sd) (near dn x kp kd : Addr) (far : V) (n : Int) (wr tr rt rp rs : Addr) (L : List (Addr × Pr)) (M : List (Addr × Hl)) (way : Int) (v val : V) (ks : List Bool), vs = [.ref w, .int way, v] ∧ WAt CW CS CT H w dw s pa A [] (.ref near) far false ∧
  H near = some (.ins CD dn (sf x n wr tr rt rp rs)) ∧ PactsH K CP H x kp kd L M ∧ (M.map fun e => e.2.name).Nodup ∧ RfCase near (M.map fun e => e.2.name) way v ks val ∧
  ∀ r lk H', H' r = some (.tup [.ref lk, val]) → H' lk = some (.lst (ks.map V.bl)) → Same H H' → Q (.ref r) H'
theorem ok__law_refused (T : Txt w K mg a) : FnOk P w K mg base CX0 9 a.f__law_refused a.d__law_refused ["_law_world", "_law_way", "_law_value"] (spRefused K a.c_World a.c_Stand a.c_Table a.c_Side a.c_Pacts) := by
  have G_World_shelf := ok_World_shelf (P := P) (w := w) (base := base) T
  have G_World_call := ok_World_call (P := P) (w := w) (base := base) T
  have G_World_let_go := ok_World_let_go (P := P) (w := w) (base := base) T
  have G_World_back := ok_World_back (P := P) (w := w) (base := base) T
  have cl_World := T.cl_World
  refine T.F__law_refused.ok sc__law_refused (fun vs H Q E h => ?_) (fun cdv A outer s H vs Q E hr h => ?_)
  · obtain ⟨w, dw, s, pa, A, near, dn, x, kp, kd, far, n, wr, tr, rt, rp, rs, L, M, way, v, val, ks, rfl, _⟩ := h
    rfl
  · obtain ⟨w, dw, s, pa, A, near, dn, x, kp, kd, far, n, wr, tr, rt, rp, rs, L, M, way, v, val, ks, rfl, WA, hne, PH, ndn, rc, q⟩ := h
    have hw := WA.ob
    have e1 := T.ec_NoSide
    have e2 := T.ec_NoHelper
    have e3 := T.ec_NoThing
    have e4 := T.ec_NothingDone
    refine ⟨_, (pss_cons (ps_set (i := 3) sc__law_refused.nd rfl (Or.inl rfl) (pe_tup (pa_cons pe_str (pa_cons pe_non pa_nil))))
      (pss_mid (ps_try_cls (tb := fun W => (tIfS _ (tDrop (tMethW _ _ _ (WE W) _ _)) (tIfS _ (tDrop (tMethWD _ _ _ _ (WE W) _ _)) (tIfS _ (tDrop (tMethW _ _ _ (WE W) _ _)) (tDrop (tMethW _ _ _ (WE W) _ _)))))) (l := [⟨.ref a.c_PactError, some 4, fun ea cls dd => (tSeq (tAsg (tLst (tCons (tCB (rIsWN K ea cls dd) _) (tCons (tCB (rIsWN K ea cls dd) _) (tCons (tCB (rIsWN K ea cls dd) _) (tCons (tCB (rIsWN K ea cls dd) _) tNil))))) (gName 5)) (tSeq (tAsg (tTup (tCons _ (tCons (tCB (rIsWN K ea cls dd) _) tNil))) (gName 3)) (tSeq (tIfS _ (tAsg (tTup (tCons _ (tCons (tXfW K ea cls dd "at" (tVar 4)) tNil))) (gName 3)) tNext) (tIfS _ (tAsg (tTup (tCons _ (tCons (tXfW K ea cls dd "name" (tVar 4)) tNil))) (gName 3)) tNext))))⟩]) (Wout := fun _ _ _ _ => False) rfl rfl takes0 (fun W pn xe tk po => (pss_one (ps_if (pt_cmpR op_eq (pv 1) pe_int (nomark _)) (pss_one (ps_expr (pe_methW (pv 0) T.cl_World T.mt_World_shelf G_World_shelf (hr.mono (by decide)) T.b_World_shelf (fun σ => passAt tk σ) (by exact (pa_cons (pv 2) pa_nil))))) (pss_one (ps_if (pt_cmpR op_eq (pv 1) pe_int (nomark _)) (pss_one (ps_expr (pe_methWD (pv 0) T.cl_World T.mt_World_call G_World_call (hr.mono (by decide)) T.b_World_call (fun σ => passAt tk σ) (by exact (pa_cons (pv 2) pa_nil))))) (pss_one (ps_if (pt_cmpR op_eq (pv 1) pe_int (nomark _)) (pss_one (ps_expr (pe_methW (pv 0) T.cl_World T.mt_World_let_go G_World_let_go (hr.mono (by decide)) T.b_World_let_go (fun σ => passAt tk σ) (by exact (pa_cons (pv 2) pa_nil))))) (pss_one (ps_expr (pe_methW0 (pv 0) T.cl_World T.mt_World_back G_World_back (hr.mono (by decide)) T.b_World_back (fun σ => passAt tk σ))))))))))) (ClsOk.named (i := 4) sc__law_refused.nd rfl rfl ⟨rfl, by decide, Or.inl T.m_PactError⟩ (fun ea oe cls dd pn hz hf => (pss_cons (ps_set (i := 5) sc__law_refused.nd rfl (Or.inl rfl) (pe_lst (pa_cons (pe_callB (call_isWN hz hf) (by rfl) T.z_isinstance (by decide +kernel) (by exact (pa_cons (pv 4) (pa_cons (pe_glob (v := .ref a.c_NoSide) rfl T.m_NoSide rfl) pa_nil)))) (pa_cons (pe_callB (call_isWN hz hf) (by rfl) T.z_isinstance (by decide +kernel) (by exact (pa_cons (pv 4) (pa_cons (pe_glob (v := .ref a.c_NoHelper) rfl T.m_NoHelper rfl) pa_nil)))) (pa_cons (pe_callB (call_isWN hz hf) (by rfl) T.z_isinstance (by decide +kernel) (by exact (pa_cons (pv 4) (pa_cons (pe_glob (v := .ref a.c_NoThing) rfl T.m_NoThing rfl) pa_nil)))) (pa_cons (pe_callB (call_isWN hz hf) (by rfl) T.z_isinstance (by decide +kernel) (by exact (pa_cons (pv 4) (pa_cons (pe_glob (v := .ref a.c_NothingDone) rfl T.m_NothingDone rfl) pa_nil)))) pa_nil))))))
      (pss_cons (ps_set (i := 3) sc__law_refused.nd rfl (Or.inl rfl) (pe_tup (pa_cons (pv 5) (pa_cons (pe_callB (call_isWN hz hf) (by rfl) T.z_isinstance (by decide +kernel) (by exact (pa_cons (pv 4) (pa_cons (pe_glob (v := .ref a.c_Closed) rfl T.m_Closed rfl) pa_nil)))) pa_nil))))
      (pss_cons (ps_if (PW.pt (pw_or (pt_cmpR op_eq (pv 1) pe_int (nomark _)) (pw_or1 (pt_cmpR op_eq (pv 1) pe_int (nomark _))))) (pss_one (ps_set (i := 3) sc__law_refused.nd rfl (Or.inl rfl) (pe_tup (pa_cons (pv 5) (pa_cons (pe_xfW hz hf (pv 4)) pa_nil))))) pss_nil)
      (pss_one (ps_if (pt_cmpR op_eq (pv 1) pe_int (nomark _)) (pss_one (ps_set (i := 3) sc__law_refused.nd rfl (Or.inl rfl) (pe_tup (pa_cons (pv 5) (pa_cons (pe_xfW hz hf (pv 4)) pa_nil))))) pss_nil)))))) ClsOk.nil))
      (pss_one (ps_ret (pv 3))))), ?_⟩
    walk_at "go"
    intro p1 hp1
    obtain ⟨H1, e1⟩ : ∃ H1, H1 = upd H p1 (.tup [.str "told", .non]) := ⟨_, rfl⟩
    have s1 : Same H H1 := by rw [e1]; exact Same.upd_new hp1
    have h1 : H1 p1 = some (.tup [.str "told", .non]) := by rw [e1, upd_same]
    rw [← e1]
    refine gn_in ?_
    have WA1 := WA.same s1
    have hw1 := WA1.ob
    have hpa1 := WA1.pa
    have hne1 := s1 _ _ hne
    have PH1 := PH.same s1
    obtain ⟨dx, hx1⟩ := PH1.pa.ob
    refine mid_of (fun σ H' => ∃ r lk u4 u5, σ = [some (.ref w), some (.int way), some v, some (.ref r), u4, u5] ∧ H' r = some (.tup [.ref lk, val]) ∧ H' lk = some (.lst (ks.map V.bl)) ∧ Same H H') ?_ ?_
    · rcases rc with ⟨rfl, ⟨i, rfl, hi⟩, rfl, rfl⟩ | ⟨rfl, ⟨k, rfl, hk⟩, rfl, rfl⟩ | ⟨rfl, ⟨i, rfl⟩, rfl, rfl⟩ | ⟨rfl, ⟨i, rfl⟩, rfl, rfl⟩
      · walk_at "go"
        intro _ d H2 hd hd2 s2
        refine ⟨true, T.ex_NoSide_PactError, fun _ ea hea => ?_, fun z => nomatch z⟩
        walk_at "go"
        refine ⟨fun u h => h, .inr ⟨_, _, rfl, hd2⟩, kit_exm T.ex_NoSide_NoSide T.ex_NoSide_NoSide, ?_⟩
        walk_at "go"
        refine ⟨fun u h => h, .inr ⟨_, _, rfl, hd2⟩, kit_exm T.ex_NoSide_NoSide T.ex_NoSide_NoHelper, ?_⟩
        walk_at "go"
        refine ⟨fun u h => h, .inr ⟨_, _, rfl, hd2⟩, kit_exm T.ex_NoSide_NoSide T.ex_NoSide_NoThing, ?_⟩
        walk_at "go"
        refine ⟨fun u h => h, .inr ⟨_, _, rfl, hd2⟩, kit_exm T.ex_NoSide_NoSide T.ex_NoSide_NothingDone, ?_⟩
        walk_at "go"
        intro p5 hp5
        obtain ⟨H5, e5⟩ : ∃ H5, H5 = upd H2 p5 (.lst [.bl true, .bl false, .bl false, .bl false]) := ⟨_, rfl⟩
        have s5 : Same H2 H5 := by rw [e5]; exact Same.upd_new hp5
        have h5 : H5 p5 = some (.lst [.bl true, .bl false, .bl false, .bl false]) := by rw [e5, upd_same]
        rw [← e5]
        refine gn_in ?_
        with_reducible refine sq_seq ?_
        walk_at "go"
        refine ⟨fun u h => h, .inr ⟨_, _, rfl, s5 _ _ hd2⟩, kit_exm T.ex_NoSide_NoSide T.ex_NoSide_Closed, ?_⟩
        walk_at "go"
        intro p6 hp6
        obtain ⟨H6, e6⟩ : ∃ H6, H6 = upd H5 p6 (.tup [.ref p5, .bl false]) := ⟨_, rfl⟩
        have s6 : Same H5 H6 := by rw [e6]; exact Same.upd_new hp6
        have h6 : H6 p6 = some (.tup [.ref p5, .bl false]) := by rw [e6, upd_same]
        rw [← e6]
        have hd6 := s6 _ _ (s5 _ _ hd2)
        have xf := T.xf_NoSide
        have nax := T.na_NoSide_at
        refine gn_in ?_
        with_reducible refine sq_seq ?_
        walk_at "go"
        intro p7 hp7
        obtain ⟨H7, e7⟩ : ∃ H7, H7 = upd H6 p7 (.tup [.ref p5, .int i]) := ⟨_, rfl⟩
        have s7 : Same H6 H7 := by rw [e7]; exact Same.upd_new hp7
        have h7 : H7 p7 = some (.tup [.ref p5, .int i]) := by rw [e7, upd_same]
        rw [← e7]
        refine gn_in ?_
        walk_at "go"
        refine ifF (by decide) ?_
        exact wait ⟨p7, p5, _, _, rfl, h7, s7 _ _ (s6 _ _ h5), (((s1.trans s2).trans s5).trans s6).trans s7⟩
      · walk_at "go"
        refine ⟨fun e he en => hk (List.mem_map.mpr ⟨e, he, en⟩), fun d H2 hd hd2 s2 => ?_⟩
        refine ⟨true, T.ex_NoHelper_PactError, fun _ ea hea => ?_, fun z => nomatch z⟩
        walk_at "go"
        refine ⟨fun u h => h, .inr ⟨_, _, rfl, hd2⟩, kit_exm T.ex_NoHelper_NoHelper T.ex_NoHelper_NoSide, ?_⟩
        walk_at "go"
        refine ⟨fun u h => h, .inr ⟨_, _, rfl, hd2⟩, kit_exm T.ex_NoHelper_NoHelper T.ex_NoHelper_NoHelper, ?_⟩
        walk_at "go"
        refine ⟨fun u h => h, .inr ⟨_, _, rfl, hd2⟩, kit_exm T.ex_NoHelper_NoHelper T.ex_NoHelper_NoThing, ?_⟩
        walk_at "go"
        refine ⟨fun u h => h, .inr ⟨_, _, rfl, hd2⟩, kit_exm T.ex_NoHelper_NoHelper T.ex_NoHelper_NothingDone, ?_⟩
        walk_at "go"
        intro p5 hp5
        obtain ⟨H5, e5⟩ : ∃ H5, H5 = upd H2 p5 (.lst [.bl false, .bl true, .bl false, .bl false]) := ⟨_, rfl⟩
        have s5 : Same H2 H5 := by rw [e5]; exact Same.upd_new hp5
        have h5 : H5 p5 = some (.lst [.bl false, .bl true, .bl false, .bl false]) := by rw [e5, upd_same]
        rw [← e5]
        refine gn_in ?_
        with_reducible refine sq_seq ?_
        walk_at "go"
        refine ⟨fun u h => h, .inr ⟨_, _, rfl, s5 _ _ hd2⟩, kit_exm T.ex_NoHelper_NoHelper T.ex_NoHelper_Closed, ?_⟩
        walk_at "go"
        intro p6 hp6
        obtain ⟨H6, e6⟩ : ∃ H6, H6 = upd H5 p6 (.tup [.ref p5, .bl false]) := ⟨_, rfl⟩
        have s6 : Same H5 H6 := by rw [e6]; exact Same.upd_new hp6
        have h6 : H6 p6 = some (.tup [.ref p5, .bl false]) := by rw [e6, upd_same]
        rw [← e6]
        have hd6 := s6 _ _ (s5 _ _ hd2)
        have xf := T.xf_NoHelper
        have nax := T.na_NoHelper_name
        refine gn_in ?_
        with_reducible refine sq_seq ?_
        walk_at "go"
        intro p7 hp7
        obtain ⟨H7, e7⟩ : ∃ H7, H7 = upd H6 p7 (.tup [.ref p5, .str k]) := ⟨_, rfl⟩
        have s7 : Same H6 H7 := by rw [e7]; exact Same.upd_new hp7
        have h7 : H7 p7 = some (.tup [.ref p5, .str k]) := by rw [e7, upd_same]
        rw [← e7]
        refine gn_in ?_
        walk_at "go"
        exact wait ⟨p7, p5, _, _, rfl, h7, s7 _ _ (s6 _ _ h5), (((s1.trans s2).trans s5).trans s6).trans s7⟩
      · walk_at "go"
        intro d H2 hd hd2 s2
        refine ⟨true, T.ex_NoThing_PactError, fun _ ea hea => ?_, fun z => nomatch z⟩
        walk_at "go"
        refine ⟨fun u h => h, .inr ⟨_, _, rfl, hd2⟩, kit_exm T.ex_NoThing_NoThing T.ex_NoThing_NoSide, ?_⟩
        walk_at "go"
        refine ⟨fun u h => h, .inr ⟨_, _, rfl, hd2⟩, kit_exm T.ex_NoThing_NoThing T.ex_NoThing_NoHelper, ?_⟩
        walk_at "go"
        refine ⟨fun u h => h, .inr ⟨_, _, rfl, hd2⟩, kit_exm T.ex_NoThing_NoThing T.ex_NoThing_NoThing, ?_⟩
        walk_at "go"
        refine ⟨fun u h => h, .inr ⟨_, _, rfl, hd2⟩, kit_exm T.ex_NoThing_NoThing T.ex_NoThing_NothingDone, ?_⟩
        walk_at "go"
        intro p5 hp5
        obtain ⟨H5, e5⟩ : ∃ H5, H5 = upd H2 p5 (.lst [.bl false, .bl false, .bl true, .bl false]) := ⟨_, rfl⟩
        have s5 : Same H2 H5 := by rw [e5]; exact Same.upd_new hp5
        have h5 : H5 p5 = some (.lst [.bl false, .bl false, .bl true, .bl false]) := by rw [e5, upd_same]
        rw [← e5]
        refine gn_in ?_
        with_reducible refine sq_seq ?_
        walk_at "go"
        refine ⟨fun u h => h, .inr ⟨_, _, rfl, s5 _ _ hd2⟩, kit_exm T.ex_NoThing_NoThing T.ex_NoThing_Closed, ?_⟩
        walk_at "go"
        intro p6 hp6
        obtain ⟨H6, e6⟩ : ∃ H6, H6 = upd H5 p6 (.tup [.ref p5, .bl false]) := ⟨_, rfl⟩
        have s6 : Same H5 H6 := by rw [e6]; exact Same.upd_new hp6
        have h6 : H6 p6 = some (.tup [.ref p5, .bl false]) := by rw [e6, upd_same]
        rw [← e6]
        have hd6 := s6 _ _ (s5 _ _ hd2)
        have xf := T.xf_NoThing
        have nax := T.na_NoThing_at
        refine gn_in ?_
        with_reducible refine sq_seq ?_
        walk_at "go"
        intro p7 hp7
        obtain ⟨H7, e7⟩ : ∃ H7, H7 = upd H6 p7 (.tup [.ref p5, .int i]) := ⟨_, rfl⟩
        have s7 : Same H6 H7 := by rw [e7]; exact Same.upd_new hp7
        have h7 : H7 p7 = some (.tup [.ref p5, .int i]) := by rw [e7, upd_same]
        rw [← e7]
        refine gn_in ?_
        walk_at "go"
        refine ifF (by decide) ?_
        exact wait ⟨p7, p5, _, _, rfl, h7, s7 _ _ (s6 _ _ h5), (((s1.trans s2).trans s5).trans s6).trans s7⟩
      · walk_at "go"
        refine ⟨fun _ => ?_, fun ps s0 e => by simp at e⟩
        refine ⟨true, T.ex_NothingDone_PactError, fun _ ea hea => ?_, fun z => nomatch z⟩
        walk_at "go"
        refine ⟨fun u h => h, .inl rfl, kit_exm T.ex_NothingDone_NothingDone T.ex_NothingDone_NoSide, ?_⟩
        walk_at "go"
        refine ⟨fun u h => h, .inl rfl, kit_exm T.ex_NothingDone_NothingDone T.ex_NothingDone_NoHelper, ?_⟩
        walk_at "go"
        refine ⟨fun u h => h, .inl rfl, kit_exm T.ex_NothingDone_NothingDone T.ex_NothingDone_NoThing, ?_⟩
        walk_at "go"
        refine ⟨fun u h => h, .inl rfl, kit_exm T.ex_NothingDone_NothingDone T.ex_NothingDone_NothingDone, ?_⟩
        walk_at "go"
        intro p5 hp5
        obtain ⟨H5, e5⟩ : ∃ H5, H5 = upd H1 p5 (.lst [.bl false, .bl false, .bl false, .bl true]) := ⟨_, rfl⟩
        have s5 : Same H1 H5 := by rw [e5]; exact Same.upd_new hp5
        have h5 : H5 p5 = some (.lst [.bl false, .bl false, .bl false, .bl true]) := by rw [e5, upd_same]
        rw [← e5]
        refine gn_in ?_
        with_reducible refine sq_seq ?_
        walk_at "go"
        refine ⟨fun u h => h, .inl rfl, kit_exm T.ex_NothingDone_NothingDone T.ex_NothingDone_Closed, ?_⟩
        walk_at "go"
        intro p6 hp6
        obtain ⟨H6, e6⟩ : ∃ H6, H6 = upd H5 p6 (.tup [.ref p5, .bl false]) := ⟨_, rfl⟩
        have s6 : Same H5 H6 := by rw [e6]; exact Same.upd_new hp6
        have h6 : H6 p6 = some (.tup [.ref p5, .bl false]) := by rw [e6, upd_same]
        rw [← e6]
        have xf := T.xf_NothingDone
        refine gn_in ?_
        with_reducible refine sq_seq ?_
        walk_at "go"
        refine ifF (by decide) ?_
        walk_at "go"
        exact wait ⟨p6, p5, _, _, rfl, h6, s6 _ _ h5, (s1.trans s5).trans s6⟩
    · rintro σ H2 ⟨r, lk, u4, u5, rfl, hr, hlk, s2⟩
      walk_at "go"
      exact q r lk H2 hr hlk s2
theorem WAt.keepB {CW CS CT : Addr} {H H' : Hp} {w dw s pa b g l : Addr} {n : Int} {A : Sd} {past : List Addr} {near far : V} {sh : Bool} (h : WAt CW CS CT H w dw s pa A past near far sh) (B : BoxAt H b g l n) (k : Keep2 b g H H') (fr : ∀ z ∈ pa :: A.all, z ≠ b ∧ z ≠ g) : WAt CW CS CT H' w dw s pa A past near far sh := by
  obtain ⟨⟨xb, hb⟩, ⟨xg, hg⟩, _⟩ := B.lists
  have ni : ∀ {z C dx fs}, H z = some (.ins C dx fs) → H' z = some (.ins C dx fs) := fun {z C dx fs} e => k _ _ (ne_of e hb (by intro z; cases z)) (ne_of e hg (by intro z; cases z)) e
  have f1 := fr pa List.mem_cons_self
  exact ⟨ni h.ob, k _ _ f1.1 f1.2 h.pa, ⟨ni h.st.ob, h.st.p.keep fun z hz o e => k _ _ (fr z (List.mem_cons_of_mem _ hz)).1 (fr z (List.mem_cons_of_mem _ hz)).2 e⟩⟩
theorem PactsH.keepB {K : PySem.W.Frag} {C : Addr} {H H' : Hp} {x kp kd b g l : Addr} {n : Int} {L : List (Addr × Pr)} {M : List (Addr × Hl)} (h : PactsH K C H x kp kd L M) (B : BoxAt H b g l n) (k : Keep2 b g H H') (n1 : kp ≠ b ∧ kp ≠ g) : PactsH K C H' x kp kd L M := by
  obtain ⟨⟨xb, hb⟩, ⟨xg, hg⟩, _⟩ := B.lists
  obtain ⟨dx, ho⟩ := h.pa.ob
  exact ⟨⟨⟨dx, k _ _ (ne_of ho hb (by intro z; cases z)) (ne_of ho hg (by intro z; cases z)) ho⟩, (B.tk k).pairs h.pa.pr fun o e => k _ _ n1.1 n1.2 e, k _ _ (ne_of h.pa.pc hb (by intro z; cases z)) (ne_of h.pa.pc hg (by intro z; cases z)) h.pa.pc⟩, fun e he => (h.at_ e he).tk (B.tk k)⟩
theorem strs_at2 {ws : List Str} {r : Int} (h0 : 0 ≤ r) (h1 : r < (ws.length : Int)) : ∃ w, atI (ws.map V.str) r = some (.str w) ∧ ws[r.toNat]? = some w := by
  obtain ⟨v, e1, e2⟩ := atI_in (xs := ws.map V.str) h0 (by rw [List.length_map]; exact h1)
  rw [List.getElem?_map] at e2
  obtain ⟨w, hw, rfl⟩ := Option.map_eq_some_iff.mp e2
  exact ⟨w, e1, hw⟩
def qs : List Str := ["q", "qa", "qb", "qc", "qd"]
theorem qs_nd : qs.Nodup := by decide +kernel
def farI : List Int := [2, -1, 3, 10 ^ 39]
theorem farI_ok : ∀ i ∈ farI, ¬ (i = 0 ∨ i = 1) := by decide
def spAllRefused (K : PySem.W.Frag) (CW CS CT CD CP : Addr) : Sp := fun vs H Q _ => ∃ (b g l w dw s pa nl : Addr) (A : Sd) (near dn x kp kd : Addr) (far : V) (n m : Int) (wr tr rt rp rs : Addr) (L : List (Addr × Pr)) (M : List (Addr × Hl)), vs = [.ref b, .ref w, .ref nl] ∧ BoxAt H b g l m ∧ m ≤ 500000 ∧ WAt CW CS CT H w dw s pa A [] (.ref near) far false ∧
  (∀ z ∈ pa :: A.all, z ≠ b ∧ z ≠ g) ∧ H nl = some (.lst ((M.map fun e => e.2.name).map V.str)) ∧ nl ≠ b ∧ nl ≠ g ∧ H near = some (.ins CD dn (sf x n wr tr rt rp rs)) ∧ PactsH K CP H x kp kd L M ∧ kp ≠ b ∧ kp ≠ g ∧ (M.map fun e => e.2.name).Nodup ∧ (∀ e ∈ M, IsName e.2.name) ∧ M.length ≤ 4 ∧
  ∀ m' H', BoxAt H' b g l m' → m' ≤ m + 2 → Keep2 b g H H' → Q (.bl true) H'
theorem ok__law_all_refused (T : Txt w K mg a) : FnOk P w K mg base CX0 10 a.f__law_all_refused a.d__law_all_refused ["_law_box_here", "_law_world", "_law_names_here"] (spAllRefused K a.c_World a.c_Stand a.c_Table a.c_Side a.c_Pacts) := by
  have G__law_take := ok__law_take (P := P) (w := w) (base := base) T
  have G__law_refused := ok__law_refused (P := P) (w := w) (base := base) T
  refine T.F__law_all_refused.ok sc__law_all_refused (fun vs H Q E h => ?_) (fun cdv A outer s H vs Q E hr h => ?_)
  · obtain ⟨b, g, l, w, dw, s, pa, nl, A, near, dn, x, kp, kd, far, n, m, wr, tr, rt, rp, rs, L, M, rfl, _⟩ := h
    rfl
  · obtain ⟨b, g, l, w, dw, s, pa, nl, A, near, dn, x, kp, kd, far, n, m, wr, tr, rt, rp, rs, L, M, rfl, B, hm, WA, fr, hnl, nb1, nb2, hne, PH, nk1, nk2, ndn, nmw, lM, q⟩ := h
    refine ⟨_, (pss_cons (ps_set (i := 3) sc__law_all_refused.nd rfl (Or.inl rfl) (pe_ix ix_list (pe_lst (pa_cons pe_int (pa_cons (pe_un un_neg pe_int) (pa_cons pe_int (pa_cons (pe_op op_pow pe_int pe_int) pa_nil))))) (pe_call G__law_take (hr.mono (by decide)) rfl T.m__law_take T.F__law_take.kp T.b__law_take .nil pass0 (pa_cons (pv 0) (pa_cons pe_int pa_nil))) (fun _ _ => rfl)))
      (pss_cons (ps_set (i := 4) sc__law_all_refused.nd rfl (Or.inl rfl) (pe_ix ix_list (pe_op op_cat (pe_lc (own := [("_law_name_here", 5)]) (g := gName 5) (tt := (tTest (tOp (rIn K true) _ _))) rfl sc__law_all_refused.nd (pi_list (by exact (pe_lst (pa_cons pe_str (pa_cons pe_str (pa_cons pe_str (pa_cons pe_str (pa_cons pe_str pa_nil)))))))) (blkOk_by (own := [("_law_name_here", 5)]) (N := n__law_all_refused) (sc := defScope s__law_all_refused) (by decide +kernel)) (fun _ _ _ _ _ => (pg_name (i := 5) sc__law_all_refused.nd rfl (Or.inl rfl))) (fun _ _ _ _ _ => (pts_one (pt_cmpR op_notIn_seq (pv 5) (pv 2) (by rfl)))) (fun _ _ _ _ _ => (pv 5))) (pe_lst (pa_cons pe_str pa_nil))) (pe_call G__law_take (hr.mono (by decide)) rfl T.m__law_take T.F__law_take.kp T.b__law_take .nil pass0 (pa_cons (pv 0) (pa_cons pe_int pa_nil))) (fun _ _ => rfl)))
      (pss_cons (ps_if (pt_cmpR (op_neD (hr.units)) (pe_call G__law_refused (hr.mono (by decide)) rfl T.m__law_refused T.F__law_refused.kp T.b__law_refused .nil pass0 (pa_cons (pv 1) (pa_cons pe_int (pa_cons (pv 3) pa_nil)))) (pe_tup (pa_cons (pe_lst (pa_cons pe_bl (pa_cons pe_bl (pa_cons pe_bl (pa_cons pe_bl pa_nil))))) (pa_cons (pv 3) pa_nil))) (nomark _)) (pss_one (ps_ret pe_bl)) pss_nil)
      (pss_cons (ps_if (pt_cmpR (op_neD (hr.units)) (pe_call G__law_refused (hr.mono (by decide)) rfl T.m__law_refused T.F__law_refused.kp T.b__law_refused .nil pass0 (pa_cons (pv 1) (pa_cons pe_int (pa_cons (pv 4) pa_nil)))) (pe_tup (pa_cons (pe_lst (pa_cons pe_bl (pa_cons pe_bl (pa_cons pe_bl (pa_cons pe_bl pa_nil))))) (pa_cons (pv 4) pa_nil))) (nomark _)) (pss_one (ps_ret pe_bl)) pss_nil)
      (pss_cons (ps_if (pt_cmpR (op_neD (hr.units)) (pe_call G__law_refused (hr.mono (by decide)) rfl T.m__law_refused T.F__law_refused.kp T.b__law_refused .nil pass0 (pa_cons (pv 1) (pa_cons pe_int (pa_cons (pv 3) pa_nil)))) (pe_tup (pa_cons (pe_lst (pa_cons pe_bl (pa_cons pe_bl (pa_cons pe_bl (pa_cons pe_bl pa_nil))))) (pa_cons (pv 3) pa_nil))) (nomark _)) (pss_one (ps_ret pe_bl)) pss_nil)
      (pss_one (ps_ret (pe_cmpR (op_eqD (hr.units)) (pe_call G__law_refused (hr.mono (by decide)) rfl T.m__law_refused T.F__law_refused.kp T.b__law_refused .nil pass0 (pa_cons (pv 1) (pa_cons pe_int (pa_cons pe_int pa_nil)))) (pe_tup (pa_cons (pe_lst (pa_cons pe_bl (pa_cons pe_bl (pa_cons pe_bl (pa_cons pe_bl pa_nil))))) (pa_cons pe_bl pa_nil))) (nomark _))))))))), ?_⟩
    have hw := WA.ob
    obtain ⟨dp, hpx⟩ := PH.pa.ob
    walk_at "go"
    intro p1 hp1
    obtain ⟨H1, e1⟩ : ∃ H1, H1 = upd H p1 (.lst [.int 2, .int (-1), .int 3, .int (10 ^ 39)]) := ⟨_, rfl⟩
    have s1 : Same H H1 := by rw [e1]; exact Same.upd_new hp1
    have h1 : H1 p1 = some (.lst [.int 2, .int (-1), .int 3, .int (10 ^ 39)]) := by rw [e1, upd_same]
    have B1 := B.same s1
    show tCall _ _ _ _ _ (upd H p1 (.lst [.int 2, .int (-1), .int 3, .int (10 ^ 39)])) _
    rw [← e1]
    have n1 := B.fresh hp1
    walk_at "go"
    intro r2 H2 r20 r21 B2 k2
    have h12 := k2 _ _ n1.1 n1.2.1 h1
    obtain ⟨v, ev, ev2⟩ := atI_in (xs := [V.int 2, .int (-1), .int 3, .int (10 ^ 39)]) (i := r2) r20 (by exact r21)
    obtain ⟨fi, rfl, hfi⟩ : ∃ fi : Int, v = .int fi ∧ ¬ (fi = 0 ∨ fi = 1) := by
      have hm := List.mem_of_getElem? ev2
      simp only [List.mem_cons, List.not_mem_nil, or_false] at hm
      rcases hm with rfl | rfl | rfl | rfl
      · exact ⟨_, rfl, by decide⟩
      · exact ⟨_, rfl, by decide⟩
      · exact ⟨_, rfl, by decide⟩
      · exact ⟨_, rfl, by decide⟩
    walk_at "go"
    intro p3 hp3
    obtain ⟨H3, e3⟩ : ∃ H3, H3 = upd H2 p3 (.lst [.str "q", .str "qa", .str "qb", .str "qc", .str "qd"]) := ⟨_, rfl⟩
    have s3 : Same H2 H3 := by rw [e3]; exact Same.upd_new hp3
    have h3 : H3 p3 = some (.lst (qs.map V.str)) := by rw [e3, upd_same] <;> rfl
    rw [← e3]
    have B3 := B2.same s3
    have hnl1 := s1 _ _ hnl
    have hnl3 := s3 _ _ (k2 _ _ nb1 nb2 hnl1)
    have fl : ((M.map fun e => e.2.name).map V.str).all flatV = true := flat_strs1 _
    walk_at "go"
    intro D4 hD4
    have nD4 := B3.fresh hD4
    refine lcL (K := K) (a := p3) (xs := qs.map V.str) (fun j H' => H' D4 = some (.lst (((qs.take j).filter fun k => decide (k ∉ M.map fun e => e.2.name)).map V.str)) ∧ Same H3 H') ?_ ?_ ?_ ?_
    · exact ⟨upd_same, Same.upd_new hD4⟩
    · exact fun i H' _ h => SqL.of (h.2 _ _ h3)
    · rintro j v Hx hj ⟨g1, g2⟩
      rw [List.getElem?_map] at hj
      obtain ⟨k, hk, rfl⟩ := Option.map_eq_some_iff.mp hj
      have fl2 := filt_len (fun k : Str => decide (k ∉ M.map fun e => e.2.name)) qs j
      have lq : qs.length = 5 := rfl
      have h10x := g2 _ _ hnl3
      refine ⟨rfl, ?_⟩
      walk_at "go"
      rw [if_pos rfl, in_strs]
      refine ifN (fun e => ?_) (fun e => ?_)
      · walk_at "go"
        refine ⟨small_lt (by rw [List.length_map]; omega), wait ⟨?_, fun x o e => upd_get (ne_of_none e hD4) (g2 x o e)⟩⟩
        rw [upd_same, take_filt_yes hk (decide_eq_true e), List.map_append] <;> rfl
      · refine wait ⟨?_, fun x o e => g2 x o e⟩
        rw [take_filt_no hk (decide_eq_false fun z => z e)]
        exact g1
    rintro H4 ⟨h4, s4⟩
    rw [show (qs.map V.str).length = qs.length from List.length_map _, List.take_length] at h4
    obtain ⟨os, eos⟩ : ∃ os, os = qs.filter fun k => decide (k ∉ M.map fun e => e.2.name) := ⟨_, rfl⟩
    rw [← eos] at h4
    have los : (os.map V.str).length ≤ 5 := by
      rw [List.length_map, eos]
      exact Nat.le_trans (List.length_filter_le ..) (by decide)
    have los2 : (os.map V.str).length = os.length := List.length_map _
    have mos : ∀ k ∈ os, k ∉ (M.map fun e => e.2.name) ∧ PyData.strOk k = true := fun k hk => by
      rw [eos] at hk
      obtain ⟨q1, q2⟩ := List.mem_filter.mp hk
      exact ⟨of_decide_eq_true q2, (by decide +kernel : ∀ k ∈ qs, PyData.strOk k = true) k q1⟩
    have los1 : 1 ≤ os.length := by
      cases ho : os with
      | cons a r => exact Nat.succ_le_succ (Nat.zero_le _)
      | nil =>
        exfalso
        have hsub : ∀ k ∈ qs, k ∈ (M.map fun e => e.2.name) := fun k hk => by
          by_cases y : k ∈ (M.map fun e => e.2.name)
          · exact y
          · have : k ∈ os := by rw [eos]; exact List.mem_filter.mpr ⟨hk, decide_eq_true y⟩
            rw [ho] at this
            cases this
        have := nodup_sub_len qs_nd hsub
        rw [List.length_map] at this
        have lq : qs.length = 5 := rfl
        omega
    have B4 := B3.same s4
    walk_at "go"
    intro p5 hp5
    obtain ⟨H5, e5⟩ : ∃ H5, H5 = upd H4 p5 (.lst [.str ""]) := ⟨_, rfl⟩
    have s5 : Same H4 H5 := by rw [e5]; exact Same.upd_new hp5
    have h5 : H5 p5 = some (.lst [.str ""]) := by rw [e5, upd_same]
    rw [← e5]
    have B5 := B4.same s5
    have h45 := s5 _ _ h4
    walk_at "go"
    intro p6 hp6
    obtain ⟨ps, eps⟩ : ∃ ps : List Str, ps = os ++ ([""] : List Str) := ⟨_, rfl⟩
    obtain ⟨H6, e6⟩ : ∃ H6, H6 = upd H5 p6 (.lst (os.map V.str ++ [.str ""])) := ⟨_, rfl⟩
    rw [← e6]
    have s6 : Same H5 H6 := by rw [e6]; exact Same.upd_new hp6
    have h6 : H6 p6 = some (.lst (ps.map V.str)) := by rw [e6, upd_same, eps, List.map_append] <;> rfl
    have B6 := B5.same s6
    have n6 := B5.fresh hp6
    have lps : 2 ≤ ps.length := by rw [eps, List.length_append]; show 2 ≤ _ + 1; omega
    have mps : ∀ k ∈ ps, k ∉ (M.map fun e => e.2.name) ∧ PyData.strOk k = true := fun k hk => by
      rw [eps] at hk
      rcases List.mem_append.mp hk with y | y
      · exact mos k y
      · rw [List.mem_singleton.mp y]
        refine ⟨fun z => ?_, by decide +kernel⟩
        obtain ⟨e, he, en⟩ := List.mem_map.mp z
        have := (nmw e he).lo
        rw [en] at this
        exact absurd this (by decide +kernel)
    walk_at "go"
    intro r7 H7 r70 r71 B7 k7
    have h67 := k7 _ _ n6.1 n6.2.1 h6
    obtain ⟨ok, eok, hok⟩ := strs_at2 (ws := ps) r70 (by omega)
    obtain ⟨okn, oks⟩ := mps ok (List.mem_of_getElem? hok)
    have s26 := ((s3.trans s4).trans s5).trans s6
    have kA : Keep2 b g H H7 := fun z o z1 z2 e => k7 _ _ z1 z2 (s26 _ _ (k2 _ _ z1 z2 (s1 _ _ e)))
    have WA7 := WA.keepB B kA fr
    have PH7 := PH.keepB B kA ⟨nk1, nk2⟩
    have hne7 : H7 near = some (.ins a.c_Side dn (sf x n wr tr rt rp rs)) := by
      obtain ⟨⟨xb, hb⟩, ⟨xg, hg⟩, _⟩ := B.lists
      exact kA _ _ (ne_of hne hb (by intro z; cases z)) (ne_of hne hg (by intro z; cases z)) hne
    have rc0 : RfCase near (M.map fun e => e.2.name) 0 (.int fi) [true, false, false, false] (.int fi) := .inl ⟨rfl, ⟨fi, rfl, hfi⟩, rfl, rfl⟩
    have rc1 : RfCase near (M.map fun e => e.2.name) 1 (.str ok) [false, true, false, false] (.str ok) := .inr (.inl ⟨rfl, ⟨ok, rfl, okn⟩, rfl, rfl⟩)
    have rc2 : RfCase near (M.map fun e => e.2.name) 2 (.int fi) [false, false, true, false] (.int fi) := .inr (.inr (.inl ⟨rfl, ⟨fi, rfl⟩, rfl, rfl⟩))
    have rc3 : RfCase near (M.map fun e => e.2.name) 3 (.int 0) [false, false, false, true] (.bl false) := .inr (.inr (.inr ⟨rfl, ⟨0, rfl⟩, rfl, rfl⟩))
    have shI : ∀ b1 b2 b3 b4 : Bool, SeqAt.shaped (.tuple [.list [.bool b1, .bool b2, .bool b3, .bool b4], .int fi]) = true := fun _ _ _ _ => rfl
    have shB : ∀ b1 b2 b3 b4 b5 : Bool, SeqAt.shaped (.tuple [.list [.bool b1, .bool b2, .bool b3, .bool b4], .bool b5]) = true := fun _ _ _ _ _ => rfl
    have shS : ∀ b1 b2 b3 b4 : Bool, SeqAt.shaped (.tuple [.list [.bool b1, .bool b2, .bool b3, .bool b4], .str ok]) = true := fun _ _ _ _ => by
      unfold SeqAt.shaped
      rw [Bool.and_eq_true]
      refine ⟨?_, decide_eq_true ?_⟩
      · show ((true && (true && (true && (true && true)))) && (PyData.strOk ok && true)) = true
        rw [oks] <;> rfl
      · show max (max 0 (max 0 (max 0 (max 0 0))) + 1) (max 0 0) + 1 ≤ 64
        decide
    walk_at "go"
    intro ra0 la0 H8 hra0 hla0 s8
    have WA8 := WA7.same s8
    have PH8 := PH7.same s8
    have hne8 := s8 _ _ hne7
    walk_at "go"
    intro p9 hp9
    obtain ⟨H9, e9⟩ : ∃ H9, H9 = upd H8 p9 (.lst [.bl true, .bl false, .bl false, .bl false]) := ⟨_, rfl⟩
    have s9 : Same H8 H9 := by rw [e9]; exact Same.upd_new hp9
    have h9 : H9 p9 = some (.lst [.bl true, .bl false, .bl false, .bl false]) := by rw [e9, upd_same]
    rw [← e9]
    have WA9 := WA8.same s9
    have PH9 := PH8.same s9
    walk_at "go"
    intro p10 hp10
    obtain ⟨H10, e10⟩ : ∃ H10, H10 = upd H9 p10 (.tup [.ref p9, .int fi]) := ⟨_, rfl⟩
    have s10 : Same H9 H10 := by rw [e10]; exact Same.upd_new hp10
    have h10 : H10 p10 = some (.tup [.ref p9, .int fi]) := by rw [e10, upd_same]
    rw [← e10]
    have WA10 := WA9.same s10
    have PH10 := PH9.same s10
    have hne10 := s10 _ _ (s9 _ _ hne8)
    have da0 : Dp K H10 (.ref ra0) (.tuple [.list [.bool true, .bool false, .bool false, .bool false], .int fi]) := .tup (SqT.of (s10 _ _ (s9 _ _ hra0))) (.cons (.lst (SqL.of (s10 _ _ (s9 _ _ hla0))) (.cons (.bl _) (.cons (.bl _) (.cons (.bl _) (.cons (.bl _) .nil))))) (.cons (.int _) .nil))
    have db0 : Dp K H10 (.ref p10) (.tuple [.list [.bool true, .bool false, .bool false, .bool false], .int fi]) := .tup (SqT.of h10) (.cons (.lst (SqL.of (s10 _ _ h9)) (.cons (.bl _) (.cons (.bl _) (.cons (.bl _) (.cons (.bl _) .nil))))) (.cons (.int _) .nil))
    have sh0 := shI true false false false
    walk_at "go"
    rw [eqv_self sh0]
    refine ifF rfl ?_
    walk_at "go"
    intro ra1 la1 H11 hra1 hla1 s11
    have WA11 := WA10.same s11
    have PH11 := PH10.same s11
    have hne11 := s11 _ _ hne10
    walk_at "go"
    intro p12 hp12
    obtain ⟨H12, e12⟩ : ∃ H12, H12 = upd H11 p12 (.lst [.bl false, .bl true, .bl false, .bl false]) := ⟨_, rfl⟩
    have s12 : Same H11 H12 := by rw [e12]; exact Same.upd_new hp12
    have h12 : H12 p12 = some (.lst [.bl false, .bl true, .bl false, .bl false]) := by rw [e12, upd_same]
    rw [← e12]
    have WA12 := WA11.same s12
    have PH12 := PH11.same s12
    walk_at "go"
    intro p13 hp13
    obtain ⟨H13, e13⟩ : ∃ H13, H13 = upd H12 p13 (.tup [.ref p12, .str ok]) := ⟨_, rfl⟩
    have s13 : Same H12 H13 := by rw [e13]; exact Same.upd_new hp13
    have h13 : H13 p13 = some (.tup [.ref p12, .str ok]) := by rw [e13, upd_same]
    rw [← e13]
    have WA13 := WA12.same s13
    have PH13 := PH12.same s13
    have hne13 := s13 _ _ (s12 _ _ hne11)
    have da1 : Dp K H13 (.ref ra1) (.tuple [.list [.bool false, .bool true, .bool false, .bool false], .str ok]) := .tup (SqT.of (s13 _ _ (s12 _ _ hra1))) (.cons (.lst (SqL.of (s13 _ _ (s12 _ _ hla1))) (.cons (.bl _) (.cons (.bl _) (.cons (.bl _) (.cons (.bl _) .nil))))) (.cons (.str _) .nil))
    have db1 : Dp K H13 (.ref p13) (.tuple [.list [.bool false, .bool true, .bool false, .bool false], .str ok]) := .tup (SqT.of h13) (.cons (.lst (SqL.of (s13 _ _ h12)) (.cons (.bl _) (.cons (.bl _) (.cons (.bl _) (.cons (.bl _) .nil))))) (.cons (.str _) .nil))
    have sh1 := shS false true false false
    walk_at "go"
    rw [eqv_self sh1]
    refine ifF rfl ?_
    walk_at "go"
    intro ra2 la2 H14 hra2 hla2 s14
    have WA14 := WA13.same s14
    have PH14 := PH13.same s14
    have hne14 := s14 _ _ hne13
    walk_at "go"
    intro p15 hp15
    obtain ⟨H15, e15⟩ : ∃ H15, H15 = upd H14 p15 (.lst [.bl false, .bl false, .bl true, .bl false]) := ⟨_, rfl⟩
    have s15 : Same H14 H15 := by rw [e15]; exact Same.upd_new hp15
    have h15 : H15 p15 = some (.lst [.bl false, .bl false, .bl true, .bl false]) := by rw [e15, upd_same]
    rw [← e15]
    have WA15 := WA14.same s15
    have PH15 := PH14.same s15
    walk_at "go"
    intro p16 hp16
    obtain ⟨H16, e16⟩ : ∃ H16, H16 = upd H15 p16 (.tup [.ref p15, .int fi]) := ⟨_, rfl⟩
    have s16 : Same H15 H16 := by rw [e16]; exact Same.upd_new hp16
    have h16 : H16 p16 = some (.tup [.ref p15, .int fi]) := by rw [e16, upd_same]
    rw [← e16]
    have WA16 := WA15.same s16
    have PH16 := PH15.same s16
    have hne16 := s16 _ _ (s15 _ _ hne14)
    have da2 : Dp K H16 (.ref ra2) (.tuple [.list [.bool false, .bool false, .bool true, .bool false], .int fi]) := .tup (SqT.of (s16 _ _ (s15 _ _ hra2))) (.cons (.lst (SqL.of (s16 _ _ (s15 _ _ hla2))) (.cons (.bl _) (.cons (.bl _) (.cons (.bl _) (.cons (.bl _) .nil))))) (.cons (.int _) .nil))
    have db2 : Dp K H16 (.ref p16) (.tuple [.list [.bool false, .bool false, .bool true, .bool false], .int fi]) := .tup (SqT.of h16) (.cons (.lst (SqL.of (s16 _ _ h15)) (.cons (.bl _) (.cons (.bl _) (.cons (.bl _) (.cons (.bl _) .nil))))) (.cons (.int _) .nil))
    have sh2 := shI false false true false
    walk_at "go"
    rw [eqv_self sh2]
    refine ifF rfl ?_
    walk_at "go"
    intro ra3 la3 H17 hra3 hla3 s17
    have WA17 := WA16.same s17
    have PH17 := PH16.same s17
    have hne17 := s17 _ _ hne16
    walk_at "go"
    intro p18 hp18
    obtain ⟨H18, e18⟩ : ∃ H18, H18 = upd H17 p18 (.lst [.bl false, .bl false, .bl false, .bl true]) := ⟨_, rfl⟩
    have s18 : Same H17 H18 := by rw [e18]; exact Same.upd_new hp18
    have h18 : H18 p18 = some (.lst [.bl false, .bl false, .bl false, .bl true]) := by rw [e18, upd_same]
    rw [← e18]
    have WA18 := WA17.same s18
    have PH18 := PH17.same s18
    walk_at "go"
    intro p19 hp19
    obtain ⟨H19, e19⟩ : ∃ H19, H19 = upd H18 p19 (.tup [.ref p18, .bl false]) := ⟨_, rfl⟩
    have s19 : Same H18 H19 := by rw [e19]; exact Same.upd_new hp19
    have h19 : H19 p19 = some (.tup [.ref p18, .bl false]) := by rw [e19, upd_same]
    rw [← e19]
    have WA19 := WA18.same s19
    have PH19 := PH18.same s19
    have hne19 := s19 _ _ (s18 _ _ hne17)
    have da3 : Dp K H19 (.ref ra3) (.tuple [.list [.bool false, .bool false, .bool false, .bool true], .bool false]) := .tup (SqT.of (s19 _ _ (s18 _ _ hra3))) (.cons (.lst (SqL.of (s19 _ _ (s18 _ _ hla3))) (.cons (.bl _) (.cons (.bl _) (.cons (.bl _) (.cons (.bl _) .nil))))) (.cons (.bl _) .nil))
    have db3 : Dp K H19 (.ref p19) (.tuple [.list [.bool false, .bool false, .bool false, .bool true], .bool false]) := .tup (SqT.of h19) (.cons (.lst (SqL.of (s19 _ _ h18)) (.cons (.bl _) (.cons (.bl _) (.cons (.bl _) (.cons (.bl _) .nil))))) (.cons (.bl _) .nil))
    have sh3 := shB false false false true false
    walk_at "go"
    rw [eqv_self sh3]
    have sZ : Same H7 H19 := s8.trans (s9.trans (s10.trans (s11.trans (s12.trans (s13.trans (s14.trans (s15.trans (s16.trans (s17.trans (s18.trans s19))))))))))
    exact q _ H19 (B7.same sZ) (by omega) fun z o z1 z2 e => sZ _ _ (kA z o z1 z2 e)
theorem num_all : ∀ n : Fin 400, intText? (Str.ofString (toString (n.1 : Int))) = some (n.1 : Int) ∧ figs (Str.ofString (toString (n.1 : Int))) = true ∧ (Str.ofString (toString (n.1 : Int))).length ≠ 0 ∧ (Str.ofString (toString (n.1 : Int))).length ≤ 6 ∧ 32 ∉ TL.tl (Str.ofString (toString (n.1 : Int))) ∧ 10 ∉ TL.tl (Str.ofString (toString (n.1 : Int))) := by decide +kernel
theorem num_nat {k : Nat} (h : k < 400) : intText? (Str.ofString (toString (k : Int))) = some (k : Int) ∧ figs (Str.ofString (toString (k : Int))) = true ∧ (Str.ofString (toString (k : Int))).length ≠ 0 ∧ (Str.ofString (toString (k : Int))).length ≤ 6 ∧ 32 ∉ TL.tl (Str.ofString (toString (k : Int))) ∧ 10 ∉ TL.tl (Str.ofString (toString (k : Int))) := num_all ⟨k, h⟩
def numS (n : Int) : Str := Str.ofString (toString n)
theorem num_row {n many : Int} (h0 : 0 ≤ n) (h1 : n < many) (h2 : n < 400) : rowNum (numS n) many = some n := by
  obtain ⟨k, rfl⟩ : ∃ k : Nat, n = (k : Int) := ⟨n.toNat, by omega⟩
  obtain ⟨e1, e2, e3, e4, _⟩ := num_nat (k := k) (by omega)
  unfold rowNum numS
  rw [if_neg (by rw [e2]; intro z; rcases z with z | z | z; exact e3 z; omega; cases z), e1]
  show (if _ then _ else _) = _
  rw [if_neg (by intro z; rcases z with z | z; exact z rfl; omega)]
theorem num_free {n : Int} (h0 : 0 ≤ n) (h2 : n < 400) : (numS n).length ≤ 6 ∧ 32 ∉ TL.tl (numS n) ∧ 10 ∉ TL.tl (numS n) := by
  obtain ⟨k, rfl⟩ : ∃ k : Nat, n = (k : Int) := ⟨n.toNat, by omega⟩
  obtain ⟨e1, e2, e3, e4, e5, e6⟩ := num_nat (k := k) (by omega)
  exact ⟨e4, e5, e6⟩
theorem strOk_iff {w : Str} : PyData.strOk w = true ↔ ∀ c ∈ TL.tl w, c < 1114112 := by
  unfold PyData.strOk
  rw [← Array.all_toList, List.all_eq_true]
  exact ⟨fun h c hc => of_decide_eq_true (h c hc), fun h c hc => decide_eq_true (h c hc)⟩
theorem num_str {n : Int} (h0 : 0 ≤ n) (h2 : n < 400) : PyData.strOk (numS n) = true := by
  obtain ⟨k, rfl⟩ : ∃ k : Nat, n = (k : Int) := ⟨n.toNat, by omega⟩
  obtain ⟨_, e2, _⟩ := num_nat (k := k) (by omega)
  refine strOk_iff.mpr fun c hc => ?_
  have := of_decide_eq_true (List.all_eq_true.mp e2 c hc)
  have := mem_figs.mp this
  omega
theorem num_np {n : Int} (h0 : 0 ≤ n) (h2 : n < 400) : 40 ∉ TL.tl (numS n) := by
  obtain ⟨k, rfl⟩ : ∃ k : Nat, n = (k : Int) := ⟨n.toNat, by omega⟩
  obtain ⟨_, e2, _⟩ := num_nat (k := k) (by omega)
  intro hc
  have := of_decide_eq_true (List.all_eq_true.mp e2 _ hc)
  have := mem_figs.mp this
  omega
structure WordOk (w : Str) : Prop where
  ok : PyData.strOk w = true
  len : w.length ≤ 8
  b : 32 ∉ TL.tl w
  n : 10 ∉ TL.tl w
  p : 40 ∉ TL.tl w
theorem pocket_ok : ∀ w ∈ holders, WordOk w := by
  have h : ∀ w ∈ holders, PyData.strOk w = true ∧ w.length ≤ 8 ∧ 32 ∉ TL.tl w ∧ 10 ∉ TL.tl w ∧ 40 ∉ TL.tl w := by decide +kernel
  exact fun w hw => ⟨(h w hw).1, (h w hw).2.1, (h w hw).2.2.1, (h w hw).2.2.2.1, (h w hw).2.2.2.2⟩
theorem pk_hold {p : Str} (h : p ∈ pockets) : p ∈ holders := by
  have e : holders = pockets ++ [("shelf" : Str)] := rfl
  rw [e]
  exact List.mem_append_left _ h
theorem num_ok {n : Int} (h0 : 0 ≤ n) (h2 : n < 400) : WordOk (numS n) := ⟨num_str h0 h2, by have := (num_free h0 h2).1; omega, (num_free h0 h2).2.1, (num_free h0 h2).2.2, num_np h0 h2⟩
structure RowGood (ps : List Pr) (hs : List Hl) (h : Hl) (many i : Nat) (row : Str) : Prop where
  ok : PyData.strOk row = true
  st : ∃ s, rowStep ps hs h many i row = some s
  nl : 10 ∉ TL.tl row
  len : row.length ≤ 400
  hd : ∃ c r, TL.tl row = c :: r ∧ c ≠ 40
  np : 40 ∉ TL.tl row
theorem sum_le8 : ∀ {ws : List Str}, (∀ w ∈ ws, WordOk w) → (ws.map (·.length)).sum ≤ 8 * ws.length
  | [], _ => Nat.le_refl _
  | w :: r, h => by
    have h1 := (h w List.mem_cons_self).len
    have h2 := sum_le8 (ws := r) fun v hv => h v (List.mem_cons_of_mem _ hv)
    rw [List.map_cons, List.sum_cons, List.length_cons]
    omega
theorem row_good {ps : List Pr} {hs : List Hl} {h : Hl} {many i : Nat} {w0 : Str} {r : List Str} {s : Step} (hw : ∀ w ∈ w0 :: r, WordOk w) (hl : (w0 :: r).length ≤ 40) (hc : ∃ c x, TL.tl w0 = c :: x ∧ c ≠ 40) (e : stepF ps hs h.side h.gives i many (w0 :: r) = some s) (la : i + 1 = many → s.word = "done" ∨ s.word = "throw") : RowGood ps hs h many i (Txt.join " " (w0 :: r)) := by
  have sp : Txt.split (Txt.join " " (w0 :: r)) " " = w0 :: r := sepB.of (by simp) fun w hm => (hw w hm).b
  refine ⟨strOk_iff.mpr fun c hc => ?_, ⟨s, ?_⟩, fun z => ?_, ?_, ?_, fun z => ?_⟩
  · rw [sepB.jl] at hc
    rcases joinL_mem0 hc with q | ⟨p, hp, q⟩
    · rw [List.mem_singleton.mp q]; decide
    · obtain ⟨w, hm, rfl⟩ := List.mem_map.mp hp
      exact strOk_iff.mp (hw w hm).ok c q
  · unfold rowStep
    rw [sp, e]
    show (if _ then _ else _) = _
    rw [if_neg]
    rintro ⟨z1, z2, z3⟩
    rcases la z1 with q | q
    · exact z2 q
    · exact z3 q
  · rw [sepB.jl] at z
    rcases joinL_mem0 z with q | ⟨p, hp, q⟩
    · exact absurd (List.mem_singleton.mp q) (by decide)
    · obtain ⟨w, hm, rfl⟩ := List.mem_map.mp hp
      exact (hw w hm).n q
  · have h1 := sepB.jlen (ws := w0 :: r) (by simp)
    have h2 := sum_le8 hw
    omega
  · obtain ⟨c, x, e1, e2⟩ := hc
    rw [sepB.jl, List.map_cons, e1]
    cases r with
    | nil => exact ⟨c, x, rfl, e2⟩
    | cons v r => exact ⟨c, _, by rw [List.map_cons, joinL_cons (by simp)] <;> rfl, e2⟩
  · rw [sepB.jl] at z
    rcases joinL_mem0 z with q | ⟨p, hp, q⟩
    · exact absurd (List.mem_singleton.mp q) (by decide)
    · obtain ⟨w, hm, rfl⟩ := List.mem_map.mp hp
      exact (hw w hm).p q
theorem IsName.wordOk {w : Str} (h : IsName w) : WordOk w := by
  refine ⟨h.ok, h.hi, fun z => ?_, fun z => ?_, fun z => ?_⟩
  · have := h.cs _ z
    omega
  · have := h.cs _ z
    omega
  · have := h.cs _ z
    omega
theorem stepF_done {ps : List Pr} {hs : List Hl} {side : Int} {gives : Bool} {at_ many : Int} {rest : List Str} : stepF ps hs side gives at_ many ("done" :: rest) = doneStep gives rest := by
  unfold stepF
  dsimp only
  rw [if_neg (by decide +kernel), if_neg (by decide +kernel), if_neg (by decide +kernel), if_neg (by decide +kernel), if_neg (by decide +kernel), if_pos rfl]
theorem stepF_throw {ps : List Pr} {hs : List Hl} {side : Int} {gives : Bool} {at_ many : Int} {rest : List Str} : stepF ps hs side gives at_ many ("throw" :: rest) = throwStep ps side rest := by
  unfold stepF
  dsimp only
  rw [if_neg (by decide +kernel), if_neg (by decide +kernel), if_neg (by decide +kernel), if_neg (by decide +kernel), if_pos rfl]
theorem jn1 (x : Str) : Txt.join " " [x] = x := tl_inj (by rw [sepB.jl] <;> rfl)
theorem jn2 (x y : Str) : Txt.join " " [x, y] = x ++ (" " ++ y) := tl_inj (by rw [sepB.jl, TL.tl_append, TL.tl_append, sepB.e] <;> rfl)
theorem end_done {ps : List Pr} {hs : List Hl} {h : Hl} {p : Str} (hp : p ∈ pockets) (many i : Nat) : RowGood ps hs h many i ("done" ++ (if h.gives = true then " " ++ p else Str.empty)) := by
  have hk : ∃ c x, TL.tl ("done" : Str) = c :: x ∧ c ≠ 40 := ⟨100, [111, 110, 101], by decide +kernel, by decide⟩
  have wd : WordOk "done" := ⟨by decide +kernel, by decide +kernel, by decide +kernel, by decide +kernel, by decide +kernel⟩
  have wp : WordOk p := pocket_ok p (pk_hold hp)
  cases hg : h.gives with
  | true =>
    rw [if_pos rfl, ← jn2]
    refine row_good (s := .done (some p)) (fun w hm => ?_) (by show 2 ≤ 40; decide) hk ?_ (fun _ => .inl rfl)
    · rcases List.mem_cons.mp hm with rfl | z
      · exact wd
      · rw [List.mem_singleton.mp z]; exact wp
    · rw [stepF_done, hg]
      unfold doneStep
      rw [if_pos rfl]
      dsimp only
      rw [if_pos hp]
  | false =>
    rw [if_neg Bool.false_ne_true, show ("done" : Str) ++ Str.empty = Txt.join " " ["done"] from by rw [jn1]; decide +kernel]
    refine row_good (s := .done none) (fun w hm => ?_) (by decide) hk ?_ (fun _ => .inl rfl)
    · rw [List.mem_singleton.mp hm]; exact wd
    · rw [stepF_done, hg]
      unfold doneStep
      rw [if_neg Bool.false_ne_true, if_pos rfl]
theorem wk_all : ∀ w ∈ (["make", "use", "free", "clear", "forget", "put", "take", "move", "pick", "go", "shelf"] : List Str), WordOk w ∧ ∃ c x, TL.tl w = c :: x ∧ c ≠ 40 := by
  have h : ∀ w ∈ (["make", "use", "free", "clear", "forget", "put", "take", "move", "pick", "go", "shelf"] : List Str), PyData.strOk w = true ∧ w.length ≤ 8 ∧ 32 ∉ TL.tl w ∧ 10 ∉ TL.tl w ∧ (TL.tl w).head? ≠ some 40 ∧ TL.tl w ≠ [] ∧ 40 ∉ TL.tl w := by decide +kernel
  intro w hw
  obtain ⟨h0, h1, h2, h3, h4, h5, h6⟩ := h w hw
  refine ⟨⟨h0, h1, h2, h3, h6⟩, ?_⟩
  cases e : TL.tl w with
  | nil => exact absurd e h5
  | cons c x =>
    rw [e] at h4
    exact ⟨c, x, rfl, fun z => h4 (by rw [z] <;> rfl)⟩
theorem jn2' (x y : Str) : Txt.join " " [x, y] = (x ++ " ") ++ y := by
  rw [jn2]
  exact tl_inj (by rw [TL.tl_append, TL.tl_append, TL.tl_append, TL.tl_append, List.append_assoc])
theorem two_ok {x y : Str} (hx : WordOk x) (hy : WordOk y) : ∀ w ∈ [x, y], WordOk w := fun w hm => by
  rcases List.mem_cons.mp hm with rfl | z
  · exact hx
  · rw [List.mem_singleton.mp z]; exact hy
theorem row_one {ps : List Pr} {hs : List Hl} {h : Hl} {w p : Str} {many i : Nat} (hw : w ∈ (["make", "use", "free", "clear", "forget", "put", "take"] : List Str)) (hp : p ∈ pockets) (hi : i + 1 ≠ many) : RowGood ps hs h many i ((w ++ " ") ++ p) := by
  have hsub : ∀ v ∈ (["make", "use", "free", "clear", "forget", "put", "take"] : List Str), v ∈ (["make", "use", "free", "clear", "forget", "put", "take", "move", "pick", "go", "shelf"] : List Str) := by decide +kernel
  obtain ⟨wo, hk⟩ := wk_all w (hsub w hw)
  rw [← jn2']
  refine row_good (s := .one w p) (two_ok wo (pocket_ok p (pk_hold hp))) (by show 2 ≤ 40; decide) hk ?_ (fun z => absurd z hi)
  have hor : ∀ v ∈ (["make", "use", "free", "clear", "forget", "put", "take"] : List Str), v ∈ plainW ∨ v = "use" := by decide +kernel
  unfold stepF
  dsimp only
  by_cases q : w ∈ plainW
  · rw [if_pos q]
    unfold oneStep
    dsimp only
    rw [if_pos hp]
  · rw [if_neg q]
    rcases hor w hw with z | z
    · exact absurd z q
    · rw [if_pos z]
      unfold oneStep
      dsimp only
      rw [if_pos (pk_hold hp)]
theorem cut_ne {x : Str} {c : Nat} {r : List Nat} (e : TL.tl x = c :: r) (h : c ≠ 40) : cutS x none (some 1) ≠ "(" := fun z => by
  have a : TL.tl (cutS x none (some 1)) = (TL.tl x).take (min 1 x.length) := rfl
  have hl := TL.len_tl x
  rw [e, List.length_cons] at hl
  rw [z, e, show min 1 x.length = 1 by omega] at a
  have b : TL.tl ("(" : Str) = [40] := by decide +kernel
  rw [b] at a
  injection a with a
  exact h a.symm
structure TextGood (ps : List Pr) (hs : List Hl) (h : Hl) (text : Str) : Prop where
  str : PyData.strOk text = true
  len : text.length ≤ 40000
  cut : cutS text none (some 1) ≠ "("
  few : (Txt.split text "\n").length ≤ 200
  ok : ∀ i row, (Txt.split text "\n")[i]? = some row → ∃ s, rowStep ps hs h (Txt.split text "\n").length i row = some s
theorem sum_le400 : ∀ {ws : List Str}, (∀ w ∈ ws, w.length ≤ 400) → (ws.map (·.length)).sum ≤ 400 * ws.length
  | [], _ => Nat.le_refl _
  | w :: r, h => by
    have h1 := h w List.mem_cons_self
    have h2 := sum_le400 (ws := r) fun v hv => h v (List.mem_cons_of_mem _ hv)
    rw [List.map_cons, List.sum_cons, List.length_cons]
    omega
theorem text_good {ps : List Pr} {hs : List Hl} {h : Hl} {rows : List Str} (h0 : rows ≠ []) (h1 : rows.length ≤ 60) (good : ∀ (i : Nat) row, rows[i]? = some row → RowGood ps hs h rows.length i row) : TextGood ps hs h (Txt.join "\n" rows) := by
  have g : ∀ w ∈ rows, ∃ i, RowGood ps hs h rows.length i w := fun w hw => by
    obtain ⟨i, hi⟩ := List.mem_iff_getElem?.mp hw
    exact ⟨i, good i w hi⟩
  have sp : Txt.split (Txt.join "\n" rows) "\n" = rows := sepN.of h0 fun w hw => by
    obtain ⟨i, gi⟩ := g w hw
    exact gi.nl
  have jl := sepN.jlen h0
  have sl := sum_le400 fun w hw => by
    obtain ⟨i, gi⟩ := g w hw
    exact gi.len
  refine ⟨strOk_iff.mpr fun c hc => ?_, by omega, ?_, by rw [sp]; omega, ?_⟩
  · rw [sepN.jl] at hc
    rcases joinL_mem0 hc with q | ⟨p, hp, q⟩
    · rw [List.mem_singleton.mp q]; decide
    · obtain ⟨w, hm, rfl⟩ := List.mem_map.mp hp
      obtain ⟨i, gi⟩ := g w hm
      exact strOk_iff.mp gi.ok c q
  · cases rows with
    | nil => exact absurd rfl h0
    | cons w r =>
      obtain ⟨c, x, e, ne⟩ := (good 0 w rfl).hd
      have : ∃ y, TL.tl (Txt.join "\n" (w :: r)) = c :: y := by
        rw [sepN.jl, List.map_cons, e]
        cases r with
        | nil => exact ⟨x, rfl⟩
        | cons v r => exact ⟨_, by rw [List.map_cons, joinL_cons (by simp)] <;> rfl⟩
      obtain ⟨y, ey⟩ := this
      exact cut_ne ey ne
  · rw [sp]
    intro i row hi
    exact (good i row hi).st
theorem TextGood.notBad {ps : List Pr} {hs : List Hl} {h : Hl} {text : Str} {i : Nat} (g : TextGood ps hs h text) : ¬ ReadBad ps hs h (Txt.split text "\n") i := fun b => by
  obtain ⟨row, e1, e2⟩ := (b.few g.few).bad
  obtain ⟨s, hs⟩ := g.ok i row e1
  rw [e2] at hs
  cases hs
theorem plainB_row {ps : List Pr} {hs : List Hl} {h : Hl} {many i : Nat} {row : Str} (hr : row ∈ (["clear a", "clear b", "clear c", "make e"] : List Str)) (hi : i + 1 ≠ many) : RowGood ps hs h many i row := by
  have f : ∀ v ∈ (["clear a", "clear b", "clear c", "make e"] : List Str), ∃ w ∈ (["make", "use", "free", "clear", "forget", "put", "take"] : List Str), ∃ p ∈ pockets, v = (w ++ " ") ++ p := by decide +kernel
  obtain ⟨w, hw, p, hp, e⟩ := f row hr
  rw [e]
  exact row_one hw hp hi
theorem rowsB_good {ps : List Pr} {hs : List Hl} {h : Hl} : ∀ (i : Nat) row, (rowsB h.gives)[i]? = some row → RowGood ps hs h (rowsB h.gives).length i row := by
  intro i row hi
  cases hg : h.gives with
  | true =>
    rw [hg] at hi
    have ed : ("done e" : Str) = "done" ++ (if h.gives = true then (" " : Str) ++ "e" else Str.empty) := by rw [hg, if_pos rfl]; decide +kernel
    show RowGood ps hs h 5 i row
    match i, hi with
    | 0, hi => cases hi; exact plainB_row (by decide +kernel) (by decide)
    | 1, hi => cases hi; exact plainB_row (by decide +kernel) (by decide)
    | 2, hi => cases hi; exact plainB_row (by decide +kernel) (by decide)
    | 3, hi => cases hi; exact plainB_row (by decide +kernel) (by decide)
    | 4, hi =>
      cases hi
      rw [ed]
      exact end_done (by decide +kernel) _ _
    | k + 5, hi => cases hi
  | false =>
    rw [hg] at hi
    have ed : ("done" : Str) = "done" ++ (if h.gives = true then (" " : Str) ++ "e" else Str.empty) := by rw [hg, if_neg Bool.false_ne_true]; decide +kernel
    show RowGood ps hs h 4 i row
    match i, hi with
    | 0, hi => cases hi; exact plainB_row (by decide +kernel) (by decide)
    | 1, hi => cases hi; exact plainB_row (by decide +kernel) (by decide)
    | 2, hi => cases hi; exact plainB_row (by decide +kernel) (by decide)
    | 3, hi =>
      cases hi
      rw [ed]
      exact end_done (by decide +kernel) _ _
    | k + 4, hi => cases hi
theorem bodyB_good {ps : List Pr} {hs : List Hl} {h : Hl} : TextGood ps hs h (bodyB h.gives) := text_good (by cases h.gives <;> decide +kernel) (by cases h.gives <;> decide +kernel) rowsB_good
theorem no_FB {ps : List Pr} {hs : List Hl} (G : Good ps) (GH : GoodH ps hs) {z : Int} (f : FB ps hs z) (n : z ≠ -1) : False := n (FB_one f (.inl ⟨rfl, G.okPs, GH.okHs⟩))
theorem nd_inj {α β : Type} {f : α → β} : ∀ {l : List α}, (l.map f).Nodup → ∀ {x y : α}, x ∈ l → y ∈ l → f x = f y → x = y
  | [], _, _, _, h, _, _ => nomatch h
  | z :: r, nd, x, y, hx, hy, e => by
    rw [List.map_cons, List.nodup_cons] at nd
    rcases List.mem_cons.mp hx with q | q
    · rcases List.mem_cons.mp hy with q2 | q2
      · rw [q, q2]
      · exact absurd (List.mem_map.mpr ⟨y, q2, by rw [← e, q]⟩) nd.1
    · rcases List.mem_cons.mp hy with q2 | q2
      · exact absurd (List.mem_map.mpr ⟨x, q, by rw [e, q2]⟩) nd.1
      · exact nd_inj nd.2 q q2 e
theorem good0 : Good ((([] : List (Addr × Pr))).map (·.2)) := ⟨Nat.zero_le _, .nil, .nil, (fun _ h => nomatch h), fun _ h => nomatch h⟩
theorem side_of3 {K : PySem.W.Frag} {CS CP NB NH : Addr} {H : Hp} {y dy x kp kd bd : Addr} {n : Int} {M : List (Addr × Hl)} {W : List (Str × Str)} (GH : GoodH [] (M.map (·.2))) (DO : DealOk K CP H x kp kd [] M) (hn : n = 0 ∨ n = 1) (hd : H bd = some (.dK (wk W))) (nm : W.map (·.1) = nsOf M n) (good : ∀ w ∈ W, ∃ e ∈ M, e.2.name = w.1 ∧ w.2 = bodyB e.2.gives) (ny : H y = none) (ndy : H dy = none)
    {Q : VK} {E : XK} (q : ∀ H' wr tr rt rp rs, (∃ dx, H' y = some (.ins CS dx (sf x n wr tr rt rp rs))) → Same H H' → Q .non H') : spSideInit K CS CP NB NH [.ref y, .ref x, .int n, .ref bd] (upd (upd H dy (.own y)) y (.ins CS dy [])) Q E := by
  have s5 : Same H (upd (upd H dy (.own y)) y (.ins CS dy [])) := fun z o e => upd_get (ne_of_none e ny) (upd_get (ne_of_none e ndy) e)
  have nd : (W.map (·.1)).Nodup := by rw [nm]; exact nsOf_nd GH n
  have l4 : W.length ≤ 4 := by
    have h1 := congrArg List.length nm
    rw [List.length_map] at h1
    have := nsOf_len GH n
    omega
  have tg : ∀ w ∈ W, ∃ e ∈ M, e.2.name = w.1 ∧ TextGood [] (M.map (·.2)) e.2 w.2 := fun w hw => by
    obtain ⟨e, he, en, et⟩ := good w hw
    exact ⟨e, he, en, by rw [et]; exact bodyB_good⟩
  refine ⟨y, dy, x, kp, kd, bd, n, [], M, W, rfl, ⟨upd_same, DO.same s5, hn, s5 _ _ hd, nd, l4, fun b hb => ?_⟩, fun hk H6 wr2 tr2 rt2 rp2 rs2 W2 bs2 fr SU nm2 sub bnm rd k6 => ?_, fun hk pre e post tx i bs2 en he htx bnm rd rb d H6 hd hd6 k6 => ?_, fun u z zs xr pm2 srt d H6 hd hd6 s6 => ?_⟩
  · obtain ⟨e, _, _, g⟩ := tg b hb
    exact ⟨g.len, g.cut⟩
  · exact q H6 wr2 tr2 rt2 rp2 rs2 SU.ob fun z o e => k6 z o (ne_of_none e ny) (s5 _ _ e)
  · exfalso
    obtain ⟨e2, he2, en2, g⟩ := tg _ htx
    have : e2 = e := nd_inj GH.nd2 he2 he en2
    subst this
    exact g.notBad rb
  · exfalso
    have hz : z ∈ u := pm2.subset List.mem_cons_self
    have hz := (xr.2 z).mp hz
    rw [nm] at hz
    rcases hz with ⟨c1, c2⟩ | ⟨c1, c2⟩
    · exact c2 c1
    · exact c1 c2
def spLaw (K : PySem.W.Frag) : Sp := fun vs H Q _ => ∃ (c : Addr) (ns : List Int), vs = [.ref c] ∧ SqL K H c (ns.map V.int) ∧ ns.length ≤ 63 ∧ ∀ H', Q (.bl true) H'
theorem ok_law (T : Txt w K mg a) : FnOk P w K mg base CX0 14 a.f_law a.d_law ["_law_script"] (spLaw K) := by
  have G__law_box := ok__law_box (P := P) (w := w) (base := base) T
  have G__law_drawn := ok__law_drawn (P := P) (w := w) (base := base) T
  have G_Pacts___init__ := ok_Pacts___init__ (P := P) (w := w) (base := base) T
  have G_Side___init__ := ok_Side___init__ (P := P) (w := w) (base := base) T
  have G_World___init__ := ok_World___init__ (P := P) (w := w) (base := base) T
  have G_World___eq__ := ok_World___eq__ (P := P) (w := w) (base := base) T
  have G__law_bare := ok__law_bare (P := P) (w := w) (base := base) T
  have G__law_all_refused := ok__law_all_refused (P := P) (w := w) (base := base) T
  have G_World_held := ok_World_held (P := P) (w := w) (base := base) T
  have G_World_log := ok_World_log (P := P) (w := w) (base := base) T
  have G_World_story := ok_World_story (P := P) (w := w) (base := base) T
  have G_World_close := ok_World_close (P := P) (w := w) (base := base) T
  have G_World_closed := ok_World_closed (P := P) (w := w) (base := base) T
  have G_World___len__ := ok_World___len__ (P := P) (w := w) (base := base) T
  have G_World_broken := ok_World_broken (P := P) (w := w) (base := base) T
  have G_World_back := ok_World_back (P := P) (w := w) (base := base) T
  have cl_World := T.cl_World
  refine T.F_law.ok sc_law (fun vs H Q E h => ?_) (fun cdv A outer s H vs Q E hr h => ?_)
  · obtain ⟨c, ns, rfl, _⟩ := h
    rfl
  · obtain ⟨c, ns, rfl, hS, hl, q⟩ := h
    refine ⟨_, (pss_cons (ps_set (i := 1) sc_law.nd rfl (Or.inl rfl) (pe_call G__law_box (hr.mono (by decide)) rfl T.m__law_box T.F__law_box.kp T.b__law_box .nil pass0 (pa_cons (pv 0) pa_nil)))
      (pss_cons (ps_asg (pe_call G__law_drawn (hr.mono (by decide)) rfl T.m__law_drawn T.F__law_drawn.kp T.b__law_drawn .nil pass0 (pa_cons (pv 1) pa_nil)) (pg_tup rfl (pgs_cons (pg_name (i := 2) sc_law.nd rfl (Or.inl rfl)) (pgs_cons (pg_name (i := 3) sc_law.nd rfl (Or.inl rfl)) pgs_nil))))
      (pss_cons (ps_set (i := 4) sc_law.nd rfl (Or.inl rfl) (pe_make T.mk_Pacts G_Pacts___init__ (hr.mono (by decide)) rfl T.m_Pacts T.b_Pacts___init__ .nil passL (pa_cons (pe_lst pa_nil) (pa_cons (pv 2) pa_nil))))
      (pss_cons (ps_set (i := 5) sc_law.nd rfl (Or.inl rfl) (pe_make T.mk_Side G_Side___init__ (hr.mono (by decide)) rfl T.m_Side T.b_Side___init__ .nil passL (pa_cons (pv 4) (pa_cons pe_int (pa_cons (pe_ix ix_list (pv 3) pe_int (fun _ _ => rfl)) pa_nil)))))
      (pss_cons (ps_set (i := 6) sc_law.nd rfl (Or.inl rfl) (pe_make T.mk_Side G_Side___init__ (hr.mono (by decide)) rfl T.m_Side T.b_Side___init__ .nil passL (pa_cons (pe_make T.mk_Pacts G_Pacts___init__ (hr.mono (by decide)) rfl T.m_Pacts T.b_Pacts___init__ .nil passL (pa_cons (pe_lst pa_nil) (pa_cons (pe_callTy call_list_of (by rfl) T.z_list (by decide +kernel) (pa_cons (pv 2) pa_nil)) pa_nil))) (pa_cons pe_int (pa_cons (pe_ix ix_list (pv 3) pe_int (fun _ _ => rfl)) pa_nil)))))
      (pss_cons (ps_set (i := 7) sc_law.nd rfl (Or.inl rfl) (pe_make T.mk_World G_World___init__ (hr.mono (by decide)) rfl T.m_World T.b_World___init__ .nil passL (pa_cons (pv 5) (pa_cons (pv 6) pa_nil))))
      (pss_cons (ps_set (i := 8) sc_law.nd rfl (Or.inl rfl) (pe_make T.mk_World G_World___init__ (hr.mono (by decide)) rfl T.m_World T.b_World___init__ .nil passL (pa_cons (pv 5) (pa_cons (pv 6) pa_nil))))
      (pss_cons (ps_if (PW.pt (pw_or (pt_not (pt_val (pe_call G__law_bare (hr.mono (by decide)) rfl T.m__law_bare T.F__law_bare.kp T.b__law_bare .nil pass0 (pa_cons (pv 7) pa_nil)))) (pw_or (pt_not (pt_val (pe_call G__law_all_refused (hr.mono (by decide)) rfl T.m__law_all_refused T.F__law_all_refused.kp T.b__law_all_refused .nil pass0 (pa_cons (pv 1) (pa_cons (pv 7) (pa_cons (pe_lc (own := [("_law_pact", 9)]) (g := gName 9) (tt := tYes) (te := (tOp (rIxT K) _ _)) rfl sc_law.nd (pi_list (pv 2)) (blkOk_by (own := [("_law_pact", 9)]) (N := n_law) (sc := defScope s_law) (by decide +kernel)) (fun _ _ _ _ _ => (pg_name (i := 9) sc_law.nd rfl (Or.inl rfl))) (fun _ _ _ _ _ => pts_nil) (fun _ _ _ _ _ => (pe_ix ix_tup (pv 9) pe_int (fun _ _ => rfl)))) pa_nil)))))) (pw_or1 (pt_not (pt_val (pe_call G__law_bare (hr.mono (by decide)) rfl T.m__law_bare T.F__law_bare.kp T.b__law_bare .nil pass0 (pa_cons (pv 7) pa_nil)))))))) (pss_one (ps_ret pe_bl)) pss_nil)
      (pss_cons (ps_expr (pe_bm PySem.F.plainAttrs_list PySem.F.slot_list_append PySem.F.type_list_append mt_append (pe_meth0 (pv 7) T.cl_World T.mt_World_held G_World_held (hr.mono (by decide)) T.b_World_held .nil pass0) (pa_cons pe_int pa_nil)))
      (pss_cons (ps_expr (pe_bm PySem.F.plainAttrs_list PySem.F.slot_list_append PySem.F.type_list_append mt_append (pe_meth0 (pv 7) T.cl_World T.mt_World_log G_World_log (hr.mono (by decide)) T.b_World_log .nil pass0) (pa_cons pe_int pa_nil)))
      (pss_cons (ps_expr (pe_bm PySem.F.plainAttrs_list PySem.F.slot_list_append PySem.F.type_list_append mt_append (pe_meth0 (pv 7) T.cl_World T.mt_World_story G_World_story (hr.mono (by decide)) T.b_World_story .nil pass0) (pa_cons pe_int pa_nil)))
      (pss_cons (ps_if (PW.pt (pw_or (pt_not (pt_cmpR (op_eqO G_World___eq__ T.mt_World___eq__.at_ T.mt_World___eq__.fn T.b_World___eq__ pass0 (hr.mono (by decide))) (pv 7) (pv 8) (nomark _))) (pw_or (pt_cmpR (op_neO G_World___eq__ T.mt_World___eq__.at_ T.mt_World___eq__.fn T.oc_World.ne T.oc_World.ob T.b_World___eq__ pass0 (hr.mono (by decide))) (pv 7) (pv 8) (nomark _)) (pw_or (pt_cmpR (op_inO2 G_World___eq__ T.mt_World___eq__.at_ T.mt_World___eq__.fn T.oc_World.m1 T.oc_World.m2 T.oc_World.m3 T.oc_World.m4 T.b_World___eq__ pass0 (hr.mono (by decide)) (ok_Side___eq__ (P := P) (w := w) (base := base) T) T.mt_Side___eq__.at_ T.mt_Side___eq__.fn T.cs_World_Side T.b_Side___eq__ (hr.mono (by decide))) (pv 7) (pe_lst (pa_cons (pe_lst pa_nil) (pa_cons pe_non (pa_cons pe_int (pa_cons (pv 5) pa_nil))))) (by rfl)) (pw_or1 (pt_not (pt_val (pe_call G__law_bare (hr.mono (by decide)) rfl T.m__law_bare T.F__law_bare.kp T.b__law_bare .nil pass0 (pa_cons (pv 7) pa_nil))))))))) (pss_one (ps_ret pe_bl)) pss_nil)
      (pss_cons (ps_if (PW.pt (pw_or (pt_cmpR op_notN (pe_meth0 (pv 7) T.cl_World T.mt_World_close G_World_close (hr.mono (by decide)) T.b_World_close .nil passL) pe_non (nomark _)) (pw_or (pt_cmpR op_notBl (pe_meth0 (pv 7) T.cl_World T.mt_World_closed G_World_closed (hr.mono (by decide)) T.b_World_closed .nil pass0) pe_bl (nomark _)) (pw_or (pt_cmpR op_ne (pe_callB (call_lenO T.mt_World___len__ G_World___len__ (hr.mono (by decide)) T.b_World___len__ pass0) (by rfl) T.z_len PySem.boot_len (pa_cons (pv 7) pa_nil)) pe_int (nomark _)) (pw_or1 (pt_cmpR (op_neD (hr.units)) (pe_meth0 (pv 7) T.cl_World T.mt_World_log G_World_log (hr.mono (by decide)) T.b_World_log .nil pass0) (pe_lst pa_nil) (nomark _))))))) (pss_one (ps_ret pe_bl)) pss_nil)
      (pss_cons (ps_if (PW.pt (pw_or (pt_not (pt_val (pe_call G__law_bare (hr.mono (by decide)) rfl T.m__law_bare T.F__law_bare.kp T.b__law_bare .nil pass0 (pa_cons (pv 8) pa_nil)))) (pw_or (pt_not (pt_cmpR (op_eqO G_World___eq__ T.mt_World___eq__.at_ T.mt_World___eq__.fn T.b_World___eq__ pass0 (hr.mono (by decide))) (pv 7) (pv 8) (nomark _))) (pw_or1 (pt_cmpR op_notN (pe_meth0 (pv 7) T.cl_World T.mt_World_broken G_World_broken (hr.mono (by decide)) T.b_World_broken .nil pass0) pe_non (nomark _)))))) (pss_one (ps_ret pe_bl)) pss_nil)
      (pss_one (ps_ret (pe_and (pe_cmpR op_isN (pe_meth0 (pv 7) T.cl_World T.mt_World_back G_World_back (hr.mono (by decide)) T.b_World_back .nil passL) pe_non (nomark _)) (pe_one (pe_call G__law_bare (hr.mono (by decide)) rfl T.m__law_bare T.F__law_bare.kp T.b__law_bare .nil pass0 (pa_cons (pv 7) pa_nil)))))))))))))))))))), ?_⟩
    walk_at "go"
    intro b g l H1 hb hg hl1 B1 s1
    walk_at "go"
    intro t pl bl d0 d1 M W0 W1 n2 H2 GH lM4 thr ht2 HA2 hbl2 hd0 hd1 w0 w1 t0 nt npl nbl nd0 nd1 B2 hn2 k2
    have fpl := B1.fresh npl
    have szP := good0.xp.sz (by decide)
    have szH := (GoodH.xh (ps := []) good0 GH).sz (by decide)
    walk_at "go"
    intro p3 hp3
    obtain ⟨H3, e3⟩ : ∃ H3, H3 = upd H2 p3 (.lst []) := ⟨_, rfl⟩
    have s3 : Same H2 H3 := by rw [e3]; exact Same.upd_new hp3
    have h3 : H3 p3 = some (.lst []) := by rw [e3, upd_same]
    rw [← e3]
    have B3 := B2.same s3
    walk_at "go"
    intro x1 dx1 nx1 ndx1 nex1
    have s5 : Same H3 (upd (upd H3 dx1 (.own x1)) x1 (.ins a.c_Pacts dx1 [])) := fun y o e => upd_get (ne_of_none e nx1) (upd_get (ne_of_none e ndx1) e)
    have HA3 := HA2.same s3
    have PA3 : PairsAt H3 p3 [] := ⟨h3, fun _ h => nomatch h⟩
    refine ⟨x1, dx1, p3, pl, [], M, rfl, upd_same, PA3.same s5, HA3.same s5, szP, szH, fun _ _ kp1 kd1 H6 hkp1 hkd1 PH6 k6 => ⟨rfl, ?_⟩, fun z fb nz => (no_FB good0 GH fb nz).elim⟩
    have s36 : Same H3 H6 := fun y o e => k6 y o (ne_of_none e nx1) (s5 _ _ e)
    have s26 := s3.trans s36
    have B6 := B2.same s26
    have hbl6 := s26 _ _ hbl2
    have a0 : atI [V.ref d0, .ref d1] 0 = some (.ref d0) := rfl
    have a1 : atI [V.ref d0, .ref d1] 1 = some (.ref d1) := rfl
    have fkp1 := (B3.same s5).fresh hkp1
    walk_at "go"
    intro y1 dy1 ny1 ndy1 ney1
    refine side_of3 GH (⟨PH6, good0, GH⟩ : DealOk K a.c_Pacts H6 x1 kp1 kd1 [] M) (.inl rfl) (s26 _ _ hd0) w0 (fun w hw => t0 w (List.mem_append_left _ hw)) ny1 ndy1 (fun H7 wr tr rt rp rs ob7 s7 => ⟨rfl, ?_⟩)
    obtain ⟨dn, hne7⟩ := ob7
    have s27 := s26.trans s7
    have PH7 := PH6.same s7
    have HA7 := HA2.same s27
    have hpl7 := HA7.ls
    have B7 := B2.same s27
    have lMr : (M.map fun e => V.ref e.1).length ≤ 8 := by
      rw [List.length_map]
      have := GH.len
      rw [List.length_map] at this
      exact this
    refine gn_in ?_
    with_reducible refine sq_seq ?_
    walk_at "go"
    intro p8 hp8
    obtain ⟨H8, e8⟩ : ∃ H8, H8 = upd H7 p8 (.lst []) := ⟨_, rfl⟩
    have s8 : Same H7 H8 := by rw [e8]; exact Same.upd_new hp8
    have h8 : H8 p8 = some (.lst []) := by rw [e8, upd_same]
    rw [← e8]
    have B8 := B7.same s8
    have hpl8 := s8 _ _ hpl7
    walk_at "go"
    intro p9 hp9
    obtain ⟨H9, e9⟩ : ∃ H9, H9 = upd H8 p9 (.lst (M.map fun e => V.ref e.1)) := ⟨_, rfl⟩
    have s9 : Same H8 H9 := by rw [e9]; exact Same.upd_new hp9
    have h9 : H9 p9 = some (.lst (M.map fun e => V.ref e.1)) := by rw [e9, upd_same]
    rw [← e9]
    have B9 := B8.same s9
    have HA9 : HelpersAt K H9 p9 M := ⟨h9, fun e he => ((HA7.same s8).same s9).at_ e he⟩
    have PA9 : PairsAt H9 p8 [] := ⟨s9 _ _ h8, fun _ h => nomatch h⟩
    walk_at "go"
    intro x2 dx2 nx2 ndx2 nex2
    have s10 : Same H9 (upd (upd H9 dx2 (.own x2)) x2 (.ins a.c_Pacts dx2 [])) := fun y o e => upd_get (ne_of_none e nx2) (upd_get (ne_of_none e ndx2) e)
    refine ⟨x2, dx2, p8, p9, [], M, rfl, upd_same, PA9.same s10, HA9.same s10, szP, szH, fun _ _ kp2 kd2 H11 hkp2 hkd2 PH11 k11 => ⟨rfl, ?_⟩, fun z fb nz => (no_FB good0 GH fb nz).elim⟩
    have s911 : Same H9 H11 := fun y o e => k11 y o (ne_of_none e nx2) (s10 _ _ e)
    have s711 := (s8.trans s9).trans s911
    have s211 := s27.trans s711
    have hbl11 := s211 _ _ hbl2
    walk_at "go"
    intro y2 dy2 ny2 ndy2 ney2
    refine side_of3 GH (⟨PH11, good0, GH⟩ : DealOk K a.c_Pacts H11 x2 kp2 kd2 [] M) (.inr rfl) (s211 _ _ hd1) w1 (fun w hw => t0 w (List.mem_append_right _ hw)) ny2 ndy2 (fun H12 wr2 tr2 rt2 rp2 rs2 ob12 s12 => ⟨rfl, ?_⟩)
    obtain ⟨df, hfa12⟩ := ob12
    have s712 := s711.trans s12
    have s212 := s27.trans s712
    have hne12 := s712 _ _ hne7
    have PX12 := PH7.same s712
    have PY12 := PH11.same s12
    have B12 := B2.same s212
    refine gn_in ?_
    with_reducible refine sq_seq ?_
    walk_at "go"
    intro w dw nw ndw new
    obtain ⟨H13, e13⟩ : ∃ H13, H13 = upd (upd H12 dw (.own w)) w (.ins a.c_World dw []) := ⟨_, rfl⟩
    have h13 : H13 w = some (.ins a.c_World dw []) := by rw [e13, upd_same]
    have s13 : Same H12 H13 := fun z o e => by rw [e13]; exact upd_get (ne_of_none e nw) (upd_get (ne_of_none e ndw) e)
    rw [← e13]
    refine ⟨w, dw, y1, y2, dn, df, x1, x2, kp1, kd1, kp2, kd2, wr, tr, rt, rp, rs, wr2, tr2, rt2, rp2, rs2, [], [], M, M, rfl, h13, s13 _ _ hne12, s13 _ _ hfa12, PX12.same s13, PY12.same s13, good0, GH, good0, GH, rfl, rfl, fun s pa A H14 frA nsA nsp WA14 k14 => ⟨rfl, ?_⟩⟩
    have s1214 : Same H12 H14 := fun z o e => k14 z o (ne_of_none e nw) (s13 _ _ e)
    have hne14 := s1214 _ _ hne12
    have hfa14 := s1214 _ _ hfa12
    have PX14 := PX12.same s1214
    have PY14 := PY12.same s1214
    have B13 := B12.same s13
    have B14 := B12.same s1214
    refine gn_in ?_
    with_reducible refine sq_seq ?_
    walk_at "go"
    intro v dv nv ndv nev
    obtain ⟨H15, e15⟩ : ∃ H15, H15 = upd (upd H14 dv (.own v)) v (.ins a.c_World dv []) := ⟨_, rfl⟩
    have h15 : H15 v = some (.ins a.c_World dv []) := by rw [e15, upd_same]
    have s15 : Same H14 H15 := fun z o e => by rw [e15]; exact upd_get (ne_of_none e nv) (upd_get (ne_of_none e ndv) e)
    rw [← e15]
    refine ⟨v, dv, y1, y2, dn, df, x1, x2, kp1, kd1, kp2, kd2, wr, tr, rt, rp, rs, wr2, tr2, rt2, rp2, rs2, [], [], M, M, rfl, h15, s15 _ _ hne14, s15 _ _ hfa14, PX14.same s15, PY14.same s15, good0, GH, good0, GH, rfl, rfl, fun s' pa' A' H16 frB nsB nsp' WB16 k16 => ⟨rfl, ?_⟩⟩
    have s1416 : Same H14 H16 := fun z o e => k16 z o (ne_of_none e nv) (s15 _ _ e)
    have s216 := (s212.trans s1214).trans s1416
    have WA16 := WA14.same s1416
    have hne16 := s1416 _ _ hne14
    have PX16 := PX14.same s1416
    have B15 := B14.same s15
    have B16 := B14.same s1416
    have HA16 := HA2.same s216
    have hpl16 := HA16.ls
    have frA1 : ∀ z ∈ pa :: A.all, z ≠ b ∧ z ≠ g := fun z hz => ⟨(B13.fresh (frA z (List.mem_cons_of_mem _ hz))).1, (B13.fresh (frA z (List.mem_cons_of_mem _ hz))).2.1⟩
    have frB1 : ∀ z ∈ pa' :: A'.all, z ≠ b ∧ z ≠ g := fun z hz => ⟨(B15.fresh (frB z (List.mem_cons_of_mem _ hz))).1, (B15.fresh (frB z (List.mem_cons_of_mem _ hz))).2.1⟩
    have hw15 := s15 _ _ WA14.ob
    have hpa15 := s15 _ _ WA14.pa
    have BvA : ∀ z ∈ pa' :: A'.all, z ≠ w ∧ z ≠ pa := fun z hz => ⟨(ne_of_none hw15 (frB z (List.mem_cons_of_mem _ hz))).symm, (ne_of_none hpa15 (frB z (List.mem_cons_of_mem _ hz))).symm⟩
    have nAw : ∀ z ∈ A.all, z ≠ w := fun z hz => (ne_of_none h13 (frA z (List.mem_cons_of_mem _ (List.mem_cons_of_mem _ hz)))).symm
    refine gn_in ?_
    with_reducible refine sq_seq ?_
    walk_at "go"
    intro H17 s17
    have WA17 := WA16.same s17
    have WB17 := WB16.same s17
    have hpl17 := s17 _ _ hpl16
    have HA17 := HA16.same s17
    have B17 := B16.same s17
    walk_at "go"
    intro D18 hD18
    have n18 := B17.fresh hD18
    refine lcL (K := K) (a := pl) (xs := M.map fun e => V.ref e.1) (fun j H' => H' D18 = some (.lst (((M.take j).map fun e => e.2.name).map V.str)) ∧ Same H17 H') ?_ ?_ ?_ ?_
    · exact ⟨upd_same, Same.upd_new hD18⟩
    · exact fun i H' _ h => SqL.of (h.2 _ _ hpl17)
    · rintro j u Hx hj ⟨g1, g2⟩
      rw [List.getElem?_map] at hj
      obtain ⟨e, he, rfl⟩ := Option.map_eq_some_iff.mp hj
      obtain ⟨tk, th, hte, _, _⟩ := HA17.at_ e (List.mem_of_getElem? he)
      have htx := g2 _ _ hte
      have hjl := (List.getElem?_eq_some_iff.mp he).1
      have a0 : atI [V.str e.2.name, .int e.2.side, .ref tk, .bl e.2.gives, .ref th] 0 = some (.str e.2.name) := rfl
      refine ⟨rfl, ?_⟩
      walk_at "go"
      refine ⟨small_lt (by rw [List.length_map, List.length_map, List.length_take]; omega), wait ⟨?_, fun x o e => upd_get (ne_of_none e hD18) (g2 x o e)⟩⟩
      rw [upd_same, List.take_add_one, he, List.map_append, List.map_append] <;> rfl
    rintro H19 ⟨h19, s19⟩
    rw [List.length_map, List.take_length] at h19
    have WA19 := WA17.same s19
    have WB19 := WB17.same s19
    have s1619 := s17.trans s19
    have hne19 := s1619 _ _ hne16
    have PX19 := PX16.same s1619
    have B19 := B17.same s19
    have ndn : (M.map fun e => e.2.name).Nodup := GH.nd2
    have nmw : ∀ e ∈ M, IsName e.2.name := fun e he => GH.nm e.2 (List.mem_map.mpr ⟨e, he, rfl⟩)
    obtain ⟨nDb, nDg, _⟩ := n18
    obtain ⟨nkb, nkg, _⟩ := fkp1
    walk_at "go"
    intro m20 H20 B20 hm20 k20
    have WA20 := WA19.keepB B19 k20 frA1
    have WB20 := WB19.keepB B19 k20 frB1
    walk_at "go"
    intro H21 s21
    have WA21 := WA20.same s21
    have WB21 := WB20.same s21
    have hw21 := WA21.ob
    walk_at "go"
    intro D22 H22 hD22 h22 s22
    walk_at "go"
    obtain ⟨H23, e23⟩ : ∃ H23, H23 = upd H22 D22 (.lst ([] ++ [.int 0])) := ⟨_, rfl⟩
    rw [← e23]
    have s23 : Same H21 H23 := fun z o e => by rw [e23]; exact upd_get (ne_of_none e hD22) (s22 _ _ e)
    clear e23
    have WA23 := WA21.same s23
    have WB23 := WB21.same s23
    have hw23 := WA23.ob
    walk_at "go"
    intro D24 H24 hD24 h24 s24
    walk_at "go"
    obtain ⟨H25, e25⟩ : ∃ H25, H25 = upd H24 D24 (.lst ([] ++ [.int 0])) := ⟨_, rfl⟩
    rw [← e25]
    have s25 : Same H23 H25 := fun z o e => by rw [e25]; exact upd_get (ne_of_none e hD24) (s24 _ _ e)
    clear e25
    have WA25 := WA23.same s25
    have WB25 := WB23.same s25
    have hw25 := WA25.ob
    walk_at "go"
    intro D26 H26 hD26 h26 s26
    walk_at "go"
    obtain ⟨H27, e27⟩ : ∃ H27, H27 = upd H26 D26 (.lst ([] ++ [.int 0])) := ⟨_, rfl⟩
    rw [← e27]
    have s27 : Same H25 H27 := fun z o e => by rw [e27]; exact upd_get (ne_of_none e hD26) (s26 _ _ e)
    clear e27
    have WA27 := WA25.same s27
    have WB27 := WB25.same s27
    have hw27 := WA27.ob
    have hv27 := WB27.ob
    have hne27 := s27 _ _ (s25 _ _ (s23 _ _ (s21 _ _ (by
      obtain ⟨⟨xb, hb⟩, ⟨xg, hg⟩, _⟩ := B19.lists
      exact k20 _ _ (ne_of hne19 hb (by intro z; cases z)) (ne_of hne19 hg (by intro z; cases z)) hne19))))
    walk_at "go"
    refine .inl ⟨w, dw, s, pa, v, dv, s', pa', A, A', [], [], y1, y2, false, false, rfl, WA27, WB27, true, rfl, ?_⟩
    walk_at "go"
    refine .inl ⟨w, dw, s, pa, v, dv, s', pa', A, A', [], [], y1, y2, false, false, rfl, WA27, WB27, true, rfl, ?_⟩
    walk_at "go"
    intro p28 hp28
    obtain ⟨H28, e28⟩ : ∃ H28, H28 = upd H27 p28 (.lst []) := ⟨_, rfl⟩
    have s28 : Same H27 H28 := by rw [e28]; exact Same.upd_new hp28
    have h28 : H28 p28 = some (.lst []) := by rw [e28, upd_same]
    rw [← e28]
    walk_at "go"
    intro p29 hp29
    obtain ⟨H29, e29⟩ : ∃ H29, H29 = upd H28 p29 (.lst [.ref p28, .non, .int 0, .ref y1]) := ⟨_, rfl⟩
    have s29 : Same H28 H29 := by rw [e29]; exact Same.upd_new hp29
    have h29 : H29 p29 = some (.lst [.ref p28, .non, .int 0, .ref y1]) := by rw [e29, upd_same]
    rw [← e29]
    have WA29 := (WA27.same s28).same s29
    have WB29 := (WB27.same s28).same s29
    have hw29 := WA29.ob
    have hv29 := WB29.ob
    have hne29 := s29 _ _ (s28 _ _ hne27)
    have h2829 := s29 _ _ h28
    refine ⟨w, dw, _, p29, _, rfl, rfl, hw29, h29, fun z hz => ?_, ?_⟩
    · have odd : ∀ z, Odd K H29 z → spWEq K a.c_World a.c_Stand a.c_Table a.c_Side [.ref w, z] H29 (fun v H' => ∃ r, v = .bl r ∧ r = false ∧ H' = H29) E0 := fun z hz => .inr ⟨w, z, rfl, hz, false, rfl, rfl, rfl⟩
      simp only [List.mem_cons, List.not_mem_nil, or_false] at hz
      rcases hz with rfl | rfl | rfl | rfl
      · exact .inl ⟨⟨_, h2829⟩, odd _ ⟨_, h2829⟩⟩
      · exact .inl ⟨trivial, odd _ trivial⟩
      · exact .inl ⟨trivial, odd _ trivial⟩
      · exact .inr ⟨y1, dn, _, rfl, ne_of_none hne12 nw, hne29, y1, w, dw, _, rfl, hw29, false, rfl, rfl, rfl⟩
    walk_at "go"
    intro H30 s30
    have WA30 := WA29.same s30
    have WB30 := WB29.same s30
    have hw30 := WA30.ob
    have nvw : v ≠ w := (ne_of_none WA14.ob nv).symm
    have nvp : v ≠ pa := (ne_of_none WA14.pa nv).symm
    have nsw1 : s' ≠ w := (ne_of_none hw15 (frB s' (List.mem_cons_self ..))).symm
    have nsp1 : s' ≠ pa := (ne_of_none hpa15 (frB s' (List.mem_cons_self ..))).symm
    have nsw0 : s ≠ w := (ne_of_none h13 (frA s (List.mem_cons_self ..))).symm
    have hAwp : ∀ z ∈ A.all, z ≠ w ∧ z ≠ pa := fun z hz => ⟨nAw z hz, (nsA z hz).2⟩
    have l0 : ([] : List Addr).length ≤ 1000 := Nat.zero_le _
    walk_at "go"
    intro s2 A2 H31 ns2 fr2 WA31 k31
    have WB31 : WAt a.c_World a.c_Stand a.c_Table H31 v dv s' pa' A' [] (.ref y1) (.ref y2) false := ⟨k31 _ _ nvw nvp WB30.ob, k31 _ _ (BvA pa' (List.mem_cons_self ..)).1 (BvA pa' (List.mem_cons_self ..)).2 WB30.pa, WB30.st.keep (fun o e => k31 _ _ nsw1 nsp1 e) fun z hz o e => k31 _ _ (BvA z (List.mem_cons_of_mem _ hz)).1 (BvA z (List.mem_cons_of_mem _ hz)).2 e⟩
    have SA31 : SdAt a.c_Stand a.c_Table H31 s A (.ref y1) (.ref y2) false := WA30.st.keep (fun o e => k31 _ _ nsw0 nsp e) fun z hz o e => k31 _ _ (hAwp z hz).1 (hAwp z hz).2 e
    have hw31 := WA31.ob
    have hv31 := WB31.ob
    have l1 : ([] ++ [s] : List Addr).length ≤ 1000 := by simp
    walk_at "go"
    intro D32 H32 hD32 h32 s32
    have WA32 := WA31.same s32
    have WB32 := WB31.same s32
    have SA32 := SA31.same s32
    have hw32 := WA32.ob
    walk_at "go"
    intro p33 hp33
    obtain ⟨H33, e33⟩ : ∃ H33, H33 = upd H32 p33 (.lst []) := ⟨_, rfl⟩
    have s33 : Same H32 H33 := by rw [e33]; exact Same.upd_new hp33
    have h33 : H33 p33 = some (.lst []) := by rw [e33, upd_same]
    rw [← e33]
    have d32 : Dp K H33 (.ref D32) (.list []) := .lst (SqL.of (s33 _ _ h32)) .nil
    have d33 : Dp K H33 (.ref p33) (.list []) := .lst (SqL.of h33) .nil
    have sh0 : SeqAt.shaped (.list []) = true := by decide
    have WA33 := WA32.same s33
    have WB33 := WB32.same s33
    have SA33 := SA32.same s33
    have hw33 := WA33.ob
    have hv33 := WB33.ob
    walk_at "go"
    intro H34 s34
    have WA34 := WA33.same s34
    have WB34 := WB33.same s34
    have SA34 := SA33.same s34
    have hw34 := WA34.ob
    have hv34 := WB34.ob
    walk_at "go"
    refine .inl ⟨w, dw, s2, pa, v, dv, s', pa', A2, A', [] ++ [s], [], y1, y2, true, false, rfl, WA34, WB34, true, rfl, ?_⟩
    walk_at "go"
    refine ⟨WA34.pa, l1, (fun z => by simp at z), fun ps s0 es H35 hw35 hpa35 k35 => ?_⟩
    obtain ⟨rfl, rfl⟩ : ps = [] ∧ s0 = s := by
      rcases ps with _ | ⟨y, ps⟩
      · exact ⟨rfl, (List.cons.inj es).1.symm⟩
      · exact absurd (List.cons.inj es).2 (by simp)
    have SA35 : SdAt a.c_Stand a.c_Table H35 s0 A (.ref y1) (.ref y2) false := SA34.keep (fun o e => k35 _ _ nsw0 nsp e) fun z hz o e => k35 _ _ (hAwp z hz).1 (hAwp z hz).2 e
    have WA35 : WAt a.c_World a.c_Stand a.c_Table H35 w dw s0 pa A [] (.ref y1) (.ref y2) false := ⟨hw35, hpa35, SA35⟩
    walk_at "go"
    exact fun H36 s36 => q H36
end
end Pf
set_option Elab.async false
set_option linter.all false
set_option maxRecDepth 100000
set_option maxHeartbeats 4000000
namespace Pf
open PySem L2
theorem all_end {l : PySem.W.OpenLaw} {w : World} {K : PySem.W.Frag} {h : Heap} {mg : Str → Option Value} {fa : Addr} (X : K.In h) (G : h.Ns mainGlobals mg) (hfa : mg "law" = some (.ref fa)) (hT : ∃ a : Ad, Txt w K mg a) :
    ∃ fd : FuncData, (∀ (s : Shared) (v : Value), BindsTo s fd ⟨[v], []⟩ [("_law_script", v)]) ∧ ∀ base : Heap, K.In base → base.Ns mainGlobals mg → FnOk l.prog w K mg base CX0 14 fa fd ["_law_script"] (spLaw K) := by
  obtain ⟨a, T⟩ := hT
  have e := hfa.symm.trans T.m_law
  cases e
  obtain ⟨oc, od, kV, doc, pm, an, cdv, ct, osl, e, lk, hcd⟩ := T.F_law.ex
  refine ⟨a.d_law, fun s v => ?_, fun base _ _ => ok_law T⟩
  rw [e]
  exact .of_eq rfl
end Pf
theorem PySem.Challenge.cw_pactford_k23_worlds_at_first_holds : PySem.Challenge.rw_pactford_k23_worlds_at_first.Holds :=
  Pf.zfin Pf.spLaw (fun K H a ns hl hS => ⟨a, ns, rfl, hS, hl, fun _ => rfl⟩) (Pf.all_end (l := PySem.Challenge.rw_pactford_k23_worlds_at_first))
