import PyProof.Rows.All
import HandS.ExcField
import HandS.ExcInit
import HandS.Defaults
import HandS.Head2
import HandS.HeadHook2
import HandS.HeadEnd
import KE.KIsAll
import HandS.Words
import HandS.ForExc
import HandS.Comp
import HandS.Dict
import HandS.Iter
import HandS.More
import HandS.Style
import HandS.TupAny
import HandS.TupMul
import HandS.IsInst
import HandS.Conv
import HandS.Zip
import HandS.Sort
import HandS.Flow
import HandS.CallSlots
import HandS.TryMany
import KE.DataEq
import KE.DataCmp
import KE.SortData
import KE.KDictKeyed
import KE.KDictWalk
import KE.KDictList
import HandS.Set
import HandS.Strs
import HandS.SetKeys
import HandS.TupSets
import HandS.SortInts
import HandS.Gcd
import HandS.Deep
import HandS.Star
import KE.KDictSum
import KE.DataMinMax
import HandS.SetFor
import KE.GoesEnum
import HandS.ExcIs
import PyProof.InstNe
import HandS.OwnEq
import HandS.Codes
import PySem.Challenge.RW_chambercuts_k01_errors
section
set_option linter.all false
set_option Elab.async false
set_option maxRecDepth 100000
set_option maxHeartbeats 4000000
/-! What the head's run is asked: Boolean looks at the written part, by names alone. -/
namespace Fx
open PySem PySem.Spec L2
def tyNames : List String := ["NoneType", "bool", "int", "str", "tuple", "list"]
/-- a constant of the module -/
inductive GlV where
  | int (i : Int) | txs (zs : List Str)
def strsB : List Str → List Value → Bool
  | [], [] => true
  | z :: zs, .str y _ :: vs => decide (y = z) && strsB zs vs
  | _, _ => false
/-- a tuple of texts of the written part -/
def tupB (K : PySem.W.Frag) (x : Str) (zs : List Str) : Bool := (He.Fa.glo x).ok K && (match K.lookup (He.ga K x) with
  | some ⟨.type "tuple", _, .seq its _, _⟩ => strsB zs its.toList && decide (its.size ≤ 1000)
  | _ => false)
def GlV.okB (K : PySem.W.Frag) (x : Str) : GlV → Bool
  | .int i => (He.Fa.int x i).ok K
  | .txs zs => tupB K x zs
def notFB (K : PySem.W.Frag) (C : Addr) : Bool := tyNames.all fun n => PySem.W.notFirst K C (.type n)
def dB {α : Type} [DecidableEq α] (a b : α) : Bool := decide (a = b)
def clsB (K : PySem.W.Frag) (x : Str) (fs : List Str) : Bool :=
  (He.Fa.glo x).ok K && ((He.Fa.cls x).ok K && (fs.all (fun f => (He.Fa.noat x f).ok K) && ((He.Fa.mkr x).ok K &&
  (dB (PySem.W.findIn K (.ref (He.ga K x)) "__class__") (some (some (.builtin "object.__class__"))) &&
  (dB (PySem.W.specialIn K (.builtin "object.__class__") "__get__") (some (some (.builtin "getset_descriptor.__get__"))) &&
  (dB (PySem.W.takesIn K (.builtin "object.__class__")) (some true) &&
  (dB (PySem.W.mroIn K (He.ga K x) (.type "object")) (some true) &&
  (tyNames.all (fun n => dB (PySem.W.kitOne K (.type n) (.ref (He.ga K x))) (some false)) && tyNames.all (fun n => dB (PySem.W.kitOne K (.ref (He.ga K x)) (.type n)) (some false))))))))))
def eqB (K : PySem.W.Frag) (x : Str) : Bool :=
  dB (PySem.W.findIn K (.ref (He.ga K x)) "__eq__") (some (some (.ref (He.ma K (He.ga K x) "__eq__")))) && (PySem.W.isFn K (.ref (He.ma K (He.ga K x) "__eq__")) && (notFB K (He.ga K x) && (dB (PySem.W.findIn K (.ref (He.ga K x)) "__ne__") (some (some (.builtin "object.__ne__"))) && dB (PySem.W.subIn K (.ref (He.ga K x)) (.type "object")) (some true))))
/-- no == of its own -/
def idB (K : PySem.W.Frag) (x : Str) : Bool := dB (PySem.W.findIn K (.ref (He.ga K x)) "__eq__") (some (some (.builtin "object.__eq__")))
def oexB (K : PySem.W.Frag) (C : Addr) : Bool := match K.lookup C with
  | some ⟨.type "type", _, .cls cd, sl⟩ => (match cd.mro, sl.toList with
    | .ref C' :: bm, [_, _, _, _, some (.builtin n), _] => decide (C' = C) && (decide (n = "ValueError.__new__") && (!cd.hasDel && (cd.hasDict && PySem.HandSPX.refsVE bm)))
    | _, _ => false)
  | _ => false
def errB (K : PySem.W.Frag) (x f : Str) : Bool :=
  oexB K (He.ga K x) && (dB (PySem.W.findIn K (.ref (He.ga K x)) "__setattr__") (some (some (.builtin "object.__setattr__"))) && (dB (PySem.W.subIn K (.ref (He.ga K x)) (.type "BaseException")) (some true) &&
  (dB (PySem.W.typeIn K (.ref (He.ga K x))) (some (.type "type")) && (PySem.W.keepIn K (.ref (He.ga K x)) && (xfB K (He.ga K x) && ((He.Fa.noat x f).ok K &&
  (dB (PySem.W.findIn K (.ref (He.ga K x)) "__init__") (some (some (.ref (He.ma K (He.ga K x) "__init__")))) && dB (PySem.W.typeIn K (.ref (He.ma K (He.ga K x) "__init__"))) (some (.type "function")))))))))
def gcdB (K : PySem.W.Frag) : Bool := match PySem.W.nsIn K mainGlobals "gcd" with
  | some (some (.builtin id)) => decide (id = "math.gcd")
  | _ => false
def excB (K : PySem.W.Frag) (D : Addr) : Bool := dB (PySem.W.findIn K (.ref D) "__getattribute__") (some (some (.builtin "BaseException.__getattribute__"))) && (dB (PySem.W.findIn K (.ref D) "__getattr__") (some none) && (dB (PySem.W.subIn K (.ref D) (.type "BaseException")) (some true) && (PySem.W.hasDictIn K D &&
  (dB (PySem.W.findIn K (.ref D) "__class__") (some (some (.builtin "object.__class__"))) && (dB (PySem.W.specialIn K (.builtin "object.__class__") "__get__") (some (some (.builtin "getset_descriptor.__get__"))) && (dB (PySem.W.takesIn K (.builtin "object.__class__")) (some true) && dB (PySem.W.mroIn K D (.type "object")) (some true)))))))
/-- those that are not yet seen -/
def colF : List Addr → Nat → (List Addr → Nat → List Addr) → List Addr
  | [], m, k => k [] m
  | a :: l, m, k => match Nat.beq (Nat.land (Nat.shiftRight m a) 1) 1 with
    | true => colF l m k
    | false => HandSHeadRun.frNat (Nat.lor m (Nat.shiftLeft 1 a)) fun m => colF l m fun r m => k (a :: r) m
def refsA (g : Addr → Option Obj) : List Addr → List Addr
  | [] => []
  | a :: l => (match g a with
    | some o => He.refsD o
    | none => []) ++ refsA g l
def bfsF (g : Addr → Option Obj) : Nat → List Addr → Nat → List Addr
  | 0, fr, _ => fr
  | n + 1, fr, m => fr ++ colF (refsA g fr) m fun fr m => bfsF g n fr m
/-- what is reached from the globals in n steps -/
def asQ (g : Addr → Option Obj) (n : Nat) : List Addr := bfsF g n [mainGlobals] (Nat.shiftLeft 1 mainGlobals)
/-- the names that the looks want -/
structure Nt where
  fns : List Str
  cls : List Str
  eqf : List Bool
  fldn : List (List Str)
  errs : List (Str × Str)
  xcs : List Str
  isa : List (List Bool)
  gls : List (Str × GlV)
  meths : List (Nat × Str) := []
  hasG : Bool := false
  hasX : Bool := false
  blt : List Str
section
variable (t : Nt) (K : PySem.W.Frag)
def Nt.a1 : Bool := t.fns.all fun x => dB x "" || (He.Fa.glo x).ok K
def Nt.a2 : Bool := (List.range t.cls.length).all fun c => clsB K (t.cls.getD c "") (t.fldn.getD c [])
def Nt.a3 : Bool := (List.range t.cls.length).all fun c => (List.range t.cls.length).all fun c' => dB (PySem.W.kitOne K (.ref (He.ga K (t.cls.getD c ""))) (.ref (He.ga K (t.cls.getD c' "")))) (some (decide (c' = c))) && PySem.W.notFirst K (He.ga K (t.cls.getD c "")) (.ref (He.ga K (t.cls.getD c' "")))
def Nt.a4 : Bool := (List.range t.cls.length).all fun c => cond (t.eqf.getD c false) (eqB K (t.cls.getD c "")) (idB K (t.cls.getD c ""))
def Nt.chkA : Bool := t.a1 K && (t.a2 K && (t.a3 K && t.a4 K))
def Nt.xisB : Bool := (He.Fa.free "ValueError").ok K && ((List.range t.errs.length).all fun c => excB K (He.ga K (t.xcs.getD c "")) && (dB (PySem.W.kitOne K (.ref (He.ga K (t.xcs.getD c ""))) (.type "ValueError")) (some true) &&
  ((List.range t.xcs.length).all fun c' => dB (PySem.W.kitOne K (.ref (He.ga K (t.xcs.getD c ""))) (.ref (He.ga K (t.xcs.getD c' "")))) (some ((t.isa.getD c []).getD c' false)))))
def Nt.chkM : Bool := (t.meths.all fun p => (He.Fa.meth (t.cls.getD p.1 "") p.2).ok K) && ((!t.hasG || gcdB K) && (!t.hasX || t.xisB K))
def Nt.chkB : Bool :=
  (t.errs.all fun e => errB K e.1 e.2) && ((t.xcs.all fun x => (He.Fa.glo x).ok K) &&
  (((List.range t.errs.length).all fun c => (List.range t.xcs.length).all fun c' => dB (PySem.W.exmOne K (.ref (He.ga K (t.xcs.getD c ""))) (.ref (He.ga K (t.xcs.getD c' "")))) (some ((t.isa.getD c []).getD c' false))) &&
  ((t.blt.all fun b => (He.Fa.free b).ok K) && ((t.gls.all fun p => p.2.okB K p.1) && t.chkM K))))
end
/-! joining of parts -/
theorem map_to {α β : Type} {x : Option α} {f g : α → β} {b : β} (e : ∀ s, f s = g s) (h : x.map g = some b) : x.map f = some b := by
  rw [show f = g from funext e]
  exact h
theorem map_up {α : Type} {x : Option α} {f g : α → Bool} (h : ∀ y, f y = true → g y = true) (h1 : x.map f = some true) : x.map g = some true := by
  cases x with
  | none => cases h1
  | some y => exact congrArg some (h y (Option.some.inj h1))
theorem pair_join {α β γ : Type} {x : Option α} {f : α → β} {g : α → γ} {b : β} {c : γ} (h1 : x.map f = some b) (h2 : x.map g = some c) : x.map (fun s => (f s, g s)) = some (b, c) := by
  cases x with
  | none => cases h1
  | some y =>
    have e1 : f y = b := Option.some.inj h1
    have e2 : g y = c := Option.some.inj h2
    show some (f y, g y) = some (b, c)
    rw [e1, e2]
end Fx
end
section
set_option linter.all false
set_option Elab.async false
set_option maxRecDepth 100000
set_option maxHeartbeats 4000000
namespace KL
open Fx
open PySem PySem.Spec L2
def top (i : Nat) : Stmt := PySem.Challenge.pw_chambercuts_k01_errors.main.body.getD i (.Pass ⟨0, 0, 0, 0⟩)
def meth (i j : Nat) : Stmt := match top i with
  | .ClassDef _ _ _ b _ _ _ _ _ _ _ => b.getD j (.Pass ⟨0, 0, 0, 0⟩)
  | _ => .Pass ⟨0, 0, 0, 0⟩
def nt : Nt where
  fns := [("is_integer" : Str), ("is_within" : Str), ("is_tuple" : Str), ("is_ascending" : Str), ("is_rising" : Str), ("is_bunch" : Str), ("are_rows" : Str), ("_law_box" : Str), ("_law_take" : Str), ("_law_pick" : Str), ("_law_ones" : Str), ("_law_kinds" : Str), ("law" : Str)]
  cls := [("Table" : Str)]
  eqf := [true]
  fldn := [[("many" : Str), ("rows" : Str)]]
  errs := [("InvalidNumber", "value"), ("InvalidLocks", "value"), ("InvalidKeys", "value"), ("InvalidKind", "value"), ("InvalidCut", "value"), ("InvalidCuts", "value"), ("InvalidTable", "value"), ("InvalidPair", "value"), ("InvalidQuestion", "value"), ("InvalidClaim", "value"), ("Undefined", "what"), ("NothingToUndo", "word")]
  xcs := [("InvalidNumber" : Str), ("InvalidLocks" : Str), ("InvalidKeys" : Str), ("InvalidKind" : Str), ("InvalidCut" : Str), ("InvalidCuts" : Str), ("InvalidTable" : Str), ("InvalidPair" : Str), ("InvalidQuestion" : Str), ("InvalidClaim" : Str), ("Undefined" : Str), ("NothingToUndo" : Str), ("LockError" : Str)]
  isa := [[true, false, false, false, false, false, false, false, false, false, false, false, true], [false, true, false, false, false, false, false, false, false, false, false, false, true], [false, false, true, false, false, false, false, false, false, false, false, false, true], [false, false, false, true, false, false, false, false, false, false, false, false, true], [false, false, false, false, true, false, false, false, false, false, false, false, true], [false, false, false, false, false, true, false, false, false, false, false, false, true], [false, false, false, false, false, false, true, false, false, false, false, false, true], [false, false, false, false, false, false, false, true, false, false, false, false, true], [false, false, false, false, false, false, false, false, true, false, false, false, true], [false, false, false, false, false, false, false, false, false, true, false, false, true], [false, false, false, false, false, false, false, false, false, false, true, false, true], [false, false, false, false, false, false, false, false, false, false, false, true, true]]
  gls := [(("MOST_KEYS" : Str), GlV.int 5), (("MOST_LOCKS" : Str), GlV.int 5)]
  hasX := true
  blt := [("len" : Str), ("abs" : Str), ("int" : Str), ("str" : Str), ("list" : Str), ("tuple" : Str), ("all" : Str), ("any" : Str), ("sum" : Str), ("range" : Str), ("sorted" : Str), ("max" : Str), ("min" : Str), ("isinstance" : Str), ("bool" : Str), ("set" : Str), ("zip" : Str), ("enumerate" : Str)]
def dds : List He.DefD := [⟨("is_integer", none), "is_integer", "is_integer", defArgs (top 15), defBody (top 15), defScope (top 15), [], []⟩, ⟨("is_within", none), "is_within", "is_within", defArgs (top 16), defBody (top 16), defScope (top 16), [], []⟩, ⟨("is_tuple", none), "is_tuple", "is_tuple", defArgs (top 17), defBody (top 17), defScope (top 17), [], []⟩, ⟨("is_ascending", none), "is_ascending", "is_ascending", defArgs (top 18), defBody (top 18), defScope (top 18), [], []⟩, ⟨("is_rising", none), "is_rising", "is_rising", defArgs (top 19), defBody (top 19), defScope (top 19), [], []⟩, ⟨("is_bunch", none), "is_bunch", "is_bunch", defArgs (top 23), defBody (top 23), defScope (top 23), [], []⟩, ⟨("are_rows", none), "are_rows", "are_rows", defArgs (top 24), defBody (top 24), defScope (top 24), [], []⟩, ⟨("_law_box", none), "_law_box", "_law_box", defArgs (top 27), defBody (top 27), defScope (top 27), [], []⟩, ⟨("_law_take", none), "_law_take", "_law_take", defArgs (top 28), defBody (top 28), defScope (top 28), [], []⟩, ⟨("_law_pick", none), "_law_pick", "_law_pick", defArgs (top 29), defBody (top 29), defScope (top 29), [], []⟩, ⟨("_law_ones", none), "_law_ones", "_law_ones", defArgs (top 30), defBody (top 30), defScope (top 30), [], []⟩, ⟨("_law_kinds", none), "_law_kinds", "_law_kinds", defArgs (top 31), defBody (top 31), defScope (top 31), [], []⟩, ⟨("law", none), "law", "law", defArgs (top 32), defBody (top 32), defScope (top 32), [], []⟩, ⟨("Table", some "__init__"), "__init__", "Table.__init__", defArgs (meth 25 0), defBody (meth 25 0), defScope (meth 25 0), [], []⟩, ⟨("Table", some "__eq__"), "__eq__", "Table.__eq__", defArgs (meth 25 1), defBody (meth 25 1), defScope (meth 25 1), [], []⟩, ⟨("InvalidNumber", some "__init__"), "__init__", "InvalidNumber.__init__", defArgs (meth 2 0), defBody (meth 2 0), defScope (meth 2 0), [], []⟩, ⟨("InvalidLocks", some "__init__"), "__init__", "InvalidLocks.__init__", defArgs (meth 3 0), defBody (meth 3 0), defScope (meth 3 0), [], []⟩, ⟨("InvalidKeys", some "__init__"), "__init__", "InvalidKeys.__init__", defArgs (meth 4 0), defBody (meth 4 0), defScope (meth 4 0), [], []⟩, ⟨("InvalidKind", some "__init__"), "__init__", "InvalidKind.__init__", defArgs (meth 5 0), defBody (meth 5 0), defScope (meth 5 0), [], []⟩, ⟨("InvalidCut", some "__init__"), "__init__", "InvalidCut.__init__", defArgs (meth 6 0), defBody (meth 6 0), defScope (meth 6 0), [], []⟩, ⟨("InvalidCuts", some "__init__"), "__init__", "InvalidCuts.__init__", defArgs (meth 7 0), defBody (meth 7 0), defScope (meth 7 0), [], []⟩, ⟨("InvalidTable", some "__init__"), "__init__", "InvalidTable.__init__", defArgs (meth 8 0), defBody (meth 8 0), defScope (meth 8 0), [], []⟩, ⟨("InvalidPair", some "__init__"), "__init__", "InvalidPair.__init__", defArgs (meth 9 0), defBody (meth 9 0), defScope (meth 9 0), [], []⟩, ⟨("InvalidQuestion", some "__init__"), "__init__", "InvalidQuestion.__init__", defArgs (meth 10 0), defBody (meth 10 0), defScope (meth 10 0), [], []⟩, ⟨("InvalidClaim", some "__init__"), "__init__", "InvalidClaim.__init__", defArgs (meth 11 0), defBody (meth 11 0), defScope (meth 11 0), [], []⟩, ⟨("Undefined", some "__init__"), "__init__", "Undefined.__init__", defArgs (meth 12 0), defBody (meth 12 0), defScope (meth 12 0), [], []⟩, ⟨("NothingToUndo", some "__init__"), "__init__", "NothingToUndo.__init__", defArgs (meth 13 0), defBody (meth 13 0), defScope (meth 13 0), [], []⟩]
end KL
end
section
set_option linter.all false
set_option Elab.async false
set_option maxRecDepth 100000
set_option maxHeartbeats 0
namespace KH
open Fx KL PySem PySem.Spec
abbrev R : PySem.W.OpenRow := PySem.W.OpenLaw.row PySem.Challenge.rw_chambercuts_k01_errors
def nm0 : List PySem.Str := ["LockError", "InvalidNumber", "InvalidLocks", "InvalidKeys", "InvalidKind", "InvalidCut", "InvalidCuts", "InvalidTable", "InvalidPair", "InvalidQuestion", "InvalidClaim", "Undefined", "NothingToUndo", "is_integer", "is_within", "is_tuple", "is_ascending", "is_rising", "MOST_KEYS", "MOST_LOCKS", "is_bunch", "are_rows", "Table", "_law_box", "_law_take", "_law_pick", "_law_ones", "_law_kinds"]
def names : List PySem.Str := nm0
def keysK : List PySem.Str := names ++ [("law" : PySem.Str)]
theorem keysK_bound : keysK.all (fun k => R.prog.boundNames.contains k) = true := by
  kernel_rfl
def keysSub (h : Heap) : Bool := h.isNs mainGlobals && ((h.nsKeys mainGlobals).filter fun k => !startupNames.contains k).isSublist keysK
theorem keysSub_ok (h : Heap) (e : keysSub h = true) : PySem.W.namesBound R.prog h = true := by
  unfold keysSub at e
  simp only [Bool.and_eq_true] at e
  obtain ⟨e1, e2⟩ := e
  unfold PySem.W.namesBound
  rw [e1, Bool.true_and, List.all_eq_true]
  intro k hk
  cases c : startupNames.contains k with
  | true => rfl
  | false =>
    have m : k ∈ (h.nsKeys mainGlobals).filter fun k => !startupNames.contains k := List.mem_filter.mpr ⟨hk, by rw [c]; rfl⟩
    have m2 : k ∈ keysK := (List.isSublist_iff_sublist.mp e2).subset m
    exact List.all_eq_true.mp keysK_bound k m2
theorem run0a0 (w : World) (os : OsState) : (HandSHeadRun.endF (HandSHeadRun.stepQ (HandSHeadRun.denQ HandSHeadRun.tabQ) R.prog w) 30000 R.prog w os).map (fun s => ((PySem.W.staticsOk (importedModules R.prog.main.body) (PySem.W.boot_heap w.params) s.abs.heap && keysSub s.abs.heap) && PySem.W.gensDone s.abs) && PySem.W.laidKept (PySem.W.boot_heap w.params) s.abs.heap) = some true := by
  kernel_rfl
theorem run0a (w : World) (os : OsState) : (HandSHeadRun.endF (HandSHeadRun.stepQ (HandSHeadRun.denQ HandSHeadRun.tabQ) R.prog w) 30000 R.prog w os).map (fun s => HandSHeadRun.looksF R.prog (PySem.W.boot_heap w.params) s.abs) = some true := by
  refine map_up ?_ (run0a0 w os)
  intro s e
  simp only [Bool.and_eq_true] at e
  obtain ⟨⟨⟨e1, e2⟩, e3⟩, e4⟩ := e
  unfold HandSHeadRun.looksF
  rw [e1, keysSub_ok _ e2, e3, e4]
  rfl
theorem run0b (w : World) (os : OsState) : (HandSHeadRun.endF (HandSHeadRun.stepQ (HandSHeadRun.denQ HandSHeadRun.tabQ) R.prog w) 30000 R.prog w os).map (fun s => HandSHeadRun.seenQ (PySem.W.view R.prog [32]) names (importedModules R.prog.main.body) (fun s => PySem.W.xlAt (PySem.W.view R.prog [32]) [] s && PySem.W.recOk R.toRowW.records s) s.abs) = some (PySem.W.openGood (PySem.W.view R.prog [32]) names) := by
  kernel_rfl
theorem run0 (w : World) (os : OsState) : (HandSHeadRun.endF (HandSHeadRun.stepQ (HandSHeadRun.denQ HandSHeadRun.tabQ) R.prog w) 30000 R.prog w os).map (fun s => (HandSHeadRun.looksF R.prog (PySem.W.boot_heap w.params) s.abs, HandSHeadRun.seenQ (PySem.W.view R.prog [32]) names (importedModules R.prog.main.body) (fun s => PySem.W.xlAt (PySem.W.view R.prog [32]) [] s && PySem.W.recOk R.toRowW.records s) s.abs)) = some (true, PySem.W.openGood (PySem.W.view R.prog [32]) names) := by
  have h1 := run0a w os
  have h2 := run0b w os
  generalize HandSHeadRun.endF _ _ _ _ _ = x at h1 h2 ⊢
  exact pair_join h1 h2
theorem run1 (w : World) (os : OsState) : (HandSHeadRun.endF (HandSHeadRun.stepQ (HandSHeadRun.denQ HandSHeadRun.tabQ) R.prog w) 30000 R.prog w os).map (fun s => nt.chkA (He.frG (HandSHeadRun.getT s) (asQ (HandSHeadRun.getT s) 5))) = some true := by
  kernel_rfl
theorem run2 (w : World) (os : OsState) : (HandSHeadRun.endF (HandSHeadRun.stepQ (HandSHeadRun.denQ HandSHeadRun.tabQ) R.prog w) 30000 R.prog w os).map (fun s => nt.chkB (He.frG (HandSHeadRun.getT s) (asQ (HandSHeadRun.getT s) 5))) = some true := by
  kernel_rfl
theorem run3 (w : World) (os : OsState) : (HandSHeadRun.endF (HandSHeadRun.stepQ (HandSHeadRun.denQ HandSHeadRun.tabQ) R.prog w) 30000 R.prog w os).map (fun s => dds.all fun d => d.ok (He.frG (HandSHeadRun.getT s) (asQ (HandSHeadRun.getT s) 5))) = some true := by
  kernel_rfl
theorem run4 (w : World) (os : OsState) : (HandSHeadRun.endF (HandSHeadRun.stepQ (HandSHeadRun.denQ HandSHeadRun.tabQ) R.prog w) 30000 R.prog w os).map (fun s => dds.map fun d => He.fnW (He.frG (HandSHeadRun.getT s) (asQ (HandSHeadRun.getT s) 5)) d.at_) = some (dds.map He.DefD.val) := by
  kernel_rfl
end KH
end
section
set_option linter.all false
set_option Elab.async false
set_option maxRecDepth 100000
set_option maxHeartbeats 4000000
/-! The value layer: Python values as plain Lean data, and how they lie in the abstract heap. -/
namespace Fx
open PySem PySem.Spec L2

/-- plain values: immutable, or never changed again -/
inductive D where
  | non | bl (b : Bool) | int (i : Int) | str (x : Str)
  | tup (ds : List D) | lst (ds : List D) | rng (lo hi : Int)
  | ins (c : Nat) (ds : List D)
  | dct (ks vs : List D)
  /-- an error of the class c with its one field -/
  | err (c : Nat) (d : D)
deriving Inhabited

/-- values that a name owns alone (they may still change), or plain ones -/
inductive R where
  | val (d : D) | lst (ds : List D) | obj (c : Nat) (rs : List R) | dct (ks vs : List D)
  /-- a dict that is walked: its object stands still -/
  | lck (od : Obj) (ob : HO) (kv wv : List V) (ks vs : List D)
  /-- a cell as it stands: an object whose fields are in hand -/
  | raw (o : HO)
deriving Inhabited

abbrev Env := List (Option R)

/-- the names' table: the written part, the classes, their fields -/
structure Nm where
  K : PySem.W.Frag
  cls : Nat → Addr
  flds : Nat → List Nat
  fname : Nat → Str
  xcls : Nat → Addr
  xfld : Nat → Str
  /-- the world: it tells the hash of a text -/
  w : World

/-- the table is one of the written part and the world at hand -/
abbrev KW (X : Cx) (T : Nm) : Prop := X.K = T.K ∧ X.w = T.w

def Nm.zip (T : Nm) (c : Nat) (xs : List V) : List (Str × V) := ((T.flds c).map T.fname).zip xs

variable {T : Nm}

/-! ### keys of dicts: ints, and tuples of such, nested -/
mutual
def D.isKey : D → Bool
  | .int _ => true
  | .str _ => true
  | .tup ds => D.areKeys ds
  | .non | .bl _ | .lst _ | .rng _ _ | .ins _ _ | .dct _ _ | .err _ _ => false
def D.areKeys : List D → Bool
  | [] => true
  | d :: ds => d.isKey && D.areKeys ds
end
mutual
def D.nk : D → NestedKey
  | .int i => .num i
  | .str x => .text x
  | .tup ds => .tup (D.nks ds)
  | .non | .bl _ | .lst _ | .rng _ _ | .ins _ _ | .dct _ _ | .err _ _ => .none
def D.nks : List D → List NestedKey
  | [] => []
  | d :: ds => d.nk :: D.nks ds
end
/-- an int -/
def D.isInt : D → Bool
  | .int _ => true
  | _ => false
/-- a tuple that may be a key -/
def D.isTK : D → Bool
  | .tup ds => D.areKeys ds && decide ((D.nk (.tup ds)).depth ≤ 8)
  | _ => false
abbrev DEs := List (NestedKey × Addr × V)
/-- a dict's own object, its keys tuples that stand at known places -/
def dicX (w : World) (a : Addr) (es : DEs) : Heap → Prop := fun h => (a == sysModules) = false ∧ es.length ≤ sizeLine ∧
  ∃ xs : List (NestedKey × Addr × Value), Paired (fun (p : NestedKey × Addr × V) (q : NestedKey × Addr × Value) => p.1 = q.1 ∧ p.2.1 = q.2.1 ∧ RelV p.2.2 q.2.2) es xs ∧
    ∃ o en ep, h.get? a = some o ∧ o.ExactDict ∧ o.data = .dict en ep ∧ en.toList = xs.map (fun x => (⟨x.1.hash w, .ref x.2.1, x.2.2⟩ : DictEntry)) ∧ (xs.map (·.1)).Nodup

mutual
inductive Rp (T : Nm) (F : Hp) : V → D → Prop
  | non : Rp T F .non .non
  | bl (b : Bool) : Rp T F (.bl b) (.bl b)
  | int (i : Int) : Rp T F (.int i) (.int i)
  | str (x : Str) : Rp T F (.str x) (.str x)
  | tup {a : Addr} {xs : List V} {ds : List D} : SqT T.K F a xs → RpL T F xs ds → Rp T F (.ref a) (.tup ds)
  | lst {a : Addr} {xs : List V} {ds : List D} : SqL T.K F a xs → RpL T F xs ds → Rp T F (.ref a) (.lst ds)
  | rng {a : Addr} {lo hi : Int} : F a = some (.rng lo hi) → Rp T F (.ref a) (.rng lo hi)
  | ins {a dx : Addr} {c : Nat} {xs : List V} {ds : List D} : F a = some (.ins (T.cls c) dx (T.zip c xs)) → xs.length = (T.flds c).length → RpL T F xs ds → Rp T F (.ref a) (.ins c ds)
  | dctI {a : Addr} {kvs : List (Int × V)} {ks vs : List D} : Rd F a (.dK (kvs.map fun p => (Sum.inl p.1, p.2))) → ks = kvs.map (fun p => D.int p.1) → RpL T F (kvs.map (·.2)) vs → Rp T F (.ref a) (.dct ks vs)
  | dctT {a : Addr} {es : DEs} {ks vs : List D} : Rd F a (.ext (dicX T.w a es)) → es ≠ [] → ks.all D.isTK = true → es.map (·.1) = ks.map D.nk → RpL T F (es.map fun e => .ref e.2.1) ks → RpL T F (es.map fun e => e.2.2) vs → Rp T F (.ref a) (.dct ks vs)
  | err {a dx : Addr} {c : Nat} {v : V} {d : D} : Rd F a (exo a (T.xcls c) (some dx)) → Rd F dx (exd dx [(T.xfld c, v)]) → Rp T F v d → Rp T F (.ref a) (.err c d)
inductive RpL (T : Nm) (F : Hp) : List V → List D → Prop
  | nil : RpL T F [] []
  | cons {v : V} {vs : List V} {d : D} {ds : List D} : Rp T F v d → RpL T F vs ds → RpL T F (v :: vs) (d :: ds)
end

theorem same_rd {H H' : Hp} {a : Addr} {o : HO} (e : Same H H') (h : Rd H a o) : Rd H' a o := by
  rcases h with h | ⟨u, h⟩
  · exact .inl (e _ _ h)
  · exact .inr ⟨u, e _ _ h⟩
theorem same_sqL {K : PySem.W.Frag} {H H' : Hp} {a : Addr} {xs : List V} (e : Same H H') (h : SqL K H a xs) : SqL K H' a xs := by
  rcases h with (h | ⟨o, h⟩) | h
  · exact .inl (.inl (e _ _ h))
  · exact .inl (.inr ⟨o, e _ _ h⟩)
  · exact .inr h
theorem same_sqT {K : PySem.W.Frag} {H H' : Hp} {a : Addr} {xs : List V} (e : Same H H') (h : SqT K H a xs) : SqT K H' a xs := by
  rcases h with (h | ⟨o, h⟩) | h
  · exact .inl (.inl (e _ _ h))
  · exact .inl (.inr ⟨o, e _ _ h⟩)
  · exact .inr h

mutual
theorem Rp.mono {F F' : Hp} (e : Same F F') : ∀ (d : D) (v : V), Rp T F v d → Rp T F' v d
  | .non, _, h => by cases h; exact .non
  | .bl b, _, h => by cases h; exact .bl b
  | .int i, _, h => by cases h; exact .int i
  | .str x, _, h => by cases h; exact .str x
  | .tup ds, _, h => by cases h with | tup h1 h2 => exact .tup (same_sqT e h1) (RpL.mono e ds _ h2)
  | .lst ds, _, h => by cases h with | lst h1 h2 => exact .lst (same_sqL e h1) (RpL.mono e ds _ h2)
  | .rng _ _, _, h => by cases h with | rng h1 => exact .rng (e _ _ h1)
  | .ins _ ds, _, h => by cases h with | ins h1 hl h2 => exact .ins (e _ _ h1) hl (RpL.mono e ds _ h2)
  | .dct ks vs, _, h => by
    cases h with
    | dctI h1 h2 h3 => exact .dctI (same_rd e h1) h2 (RpL.mono e vs _ h3)
    | dctT h1 h2 h3 h4 h5 h6 => exact .dctT (same_rd e h1) h2 h3 h4 (RpL.mono e ks _ h5) (RpL.mono e vs _ h6)
  | .err _ d, _, h => by cases h with | err h1 h2 h3 => exact .err (same_rd e h1) (same_rd e h2) (Rp.mono e d _ h3)
theorem RpL.mono {F F' : Hp} (e : Same F F') : ∀ (ds : List D) (vs : List V), RpL T F vs ds → RpL T F' vs ds
  | [], _, h => by cases h; exact .nil
  | d :: ds, _, h => by cases h with | cons h1 h2 => exact .cons (Rp.mono e d _ h1) (RpL.mono e ds _ h2)
end
theorem RpL.len {F : Hp} : ∀ {vs : List V} {ds : List D}, RpL T F vs ds → vs.length = ds.length
  | _, [], h => by cases h; rfl
  | _, d :: ds, h => by cases h with | cons h1 h2 => exact congrArg Nat.succ h2.len
theorem RpL.get {F : Hp} : ∀ {vs : List V} {ds : List D} {i : Nat} {d : D}, RpL T F vs ds → ds[i]? = some d → ∃ v, vs[i]? = some v ∧ Rp T F v d
  | _, [], i, d, h, e => by simp at e
  | _, d :: ds, 0, d', h, e => by
    cases h with | cons h1 h2 => simp at e; subst e; exact ⟨_, rfl, h1⟩
  | _, d :: ds, i + 1, d', h, e => by
    cases h with | cons h1 h2 =>
      obtain ⟨v, e1, e2⟩ := h2.get (i := i) (by simpa using e)
      exact ⟨v, by simpa using e1, e2⟩
theorem RpL.app {F : Hp} : ∀ {vs : List V} {ds : List D} {ws : List V} {es : List D}, RpL T F vs ds → RpL T F ws es → RpL T F (vs ++ ws) (ds ++ es)
  | _, [], _, _, h, k => by cases h; exact k
  | _, d :: ds, _, _, h, k => by cases h with | cons h1 h2 => exact .cons h1 (h2.app k)
theorem RpL.take {F : Hp} : ∀ {vs : List V} {ds : List D} (n : Nat), RpL T F vs ds → RpL T F (vs.take n) (ds.take n)
  | _, _, 0, _ => .nil
  | _, [], n + 1, h => by cases h; exact .nil
  | _, d :: ds, n + 1, h => by cases h with | cons h1 h2 => exact .cons h1 (h2.take n)
theorem RpL.drop {F : Hp} : ∀ {vs : List V} {ds : List D} (n : Nat), RpL T F vs ds → RpL T F (vs.drop n) (ds.drop n)
  | _, _, 0, h => h
  | _, [], n + 1, h => by cases h; exact .nil
  | _, d :: ds, n + 1, h => by cases h with | cons h1 h2 => exact h2.drop n
theorem RpL.set {F : Hp} {v : V} {d : D} (r : Rp T F v d) : ∀ {vs : List V} {ds : List D} (i : Nat), RpL T F vs ds → RpL T F (vs.set i v) (ds.set i d)
  | _, [], i, h => by cases h; exact .nil
  | _, _ :: _, 0, h => by cases h with | cons h1 h2 => exact .cons r h2
  | _, _ :: _, i + 1, h => by cases h with | cons h1 h2 => exact .cons h1 (RpL.set r i h2)
theorem RpL.rev {F : Hp} : ∀ {vs : List V} {ds : List D}, RpL T F vs ds → RpL T F vs.reverse ds.reverse
  | _, [], h => by cases h; exact .nil
  | _, d :: ds, h => by cases h with | cons h1 h2 => rw [List.reverse_cons, List.reverse_cons]; exact h2.rev.app (.cons h1 .nil)

/-! ### owned values: what they are, where they stand -/
/-- a dict's object o at a, its keys ks and values vs -/
def DR (T : Nm) (F : Hp) (a : Addr) (o : HO) (ks vs : List D) : Prop :=
  (∃ kvs : List (Int × V), o = .dK (kvs.map fun p => (Sum.inl p.1, p.2)) ∧ ks = kvs.map (fun p => D.int p.1) ∧ RpL T F (kvs.map (·.2)) vs) ∨
  (∃ es : DEs, o = .ext (dicX T.w a es) ∧ es ≠ [] ∧ ks.all D.isTK = true ∧ es.map (·.1) = ks.map D.nk ∧ RpL T F (es.map fun e => .ref e.2.1) ks ∧ RpL T F (es.map fun e => e.2.2) vs)
theorem DR.mono {F F' : Hp} (e : Same F F') {a : Addr} {o : HO} {ks vs : List D} (h : DR T F a o ks vs) : DR T F' a o ks vs := by
  rcases h with ⟨kvs, h1, h2, h3⟩ | ⟨es, h1, h2, h3, h4, h5, h6⟩
  · exact .inl ⟨kvs, h1, h2, h3.mono e⟩
  · exact .inr ⟨es, h1, h2, h3, h4, h5.mono e, h6.mono e⟩
theorem DR.rp {F : Hp} {a : Addr} {o : HO} {ks vs : List D} (h : DR T F a o ks vs) (r : Rd F a o) : Rp T F (.ref a) (.dct ks vs) := by
  rcases h with ⟨kvs, rfl, h2, h3⟩ | ⟨es, rfl, h2, h3, h4, h5, h6⟩
  · exact .dctI r h2 h3
  · exact .dctT r h2 h3 h4 h5 h6
theorem Rp.dr {F : Hp} {v : V} {ks vs : List D} (h : Rp T F v (.dct ks vs)) : ∃ a o, v = .ref a ∧ Rd F a o ∧ DR T F a o ks vs := by
  cases h with
  | dctI h1 h2 h3 => exact ⟨_, _, rfl, h1, .inl ⟨_, rfl, h2, h3⟩⟩
  | dctT h1 h2 h3 h4 h5 h6 => exact ⟨_, _, rfl, h1, .inr ⟨_, rfl, h2, h3, h4, h5, h6⟩⟩
mutual
/-- an owned value as a plain one -/
def R.toD : R → D
  | .val d => d
  | .lst ds => .lst ds
  | .obj c rs => .ins c (R.toDs rs)
  | .dct ks vs => .dct ks vs
  | .lck _ _ _ _ ks vs => .dct ks vs
  | .raw _ => .non
def R.toDs : List R → List D
  | [] => []
  | r :: rs => r.toD :: R.toDs rs
end
mutual
/-- fp: the owned addresses -/
inductive RR (T : Nm) (F H : Hp) : R → V → List Addr → Prop
  | val {d : D} {v : V} : Rp T F v d → RR T F H (.val d) v []
  | lst {a : Addr} {xs : List V} {ds : List D} : H a = some (.lst xs) → RpL T F xs ds → RR T F H (.lst ds) (.ref a) [a]
  | obj {a dx : Addr} {c : Nat} {xs : List V} {rs : List R} {fp : List Addr} : H a = some (.ins (T.cls c) dx (T.zip c xs)) → xs.length ≤ (T.flds c).length → RRL T F H rs xs fp → RR T F H (.obj c rs) (.ref a) (a :: fp)
  | dct {a : Addr} {o : HO} {ks vs : List D} : H a = some o → DR T F a o ks vs → RR T F H (.dct ks vs) (.ref a) [a]
  | lck {a : Addr} {od : Obj} {o : HO} {kv wv : List V} {ks vs : List D} : F a = some (.frz od o) → RpL T F kv ks → RpL T F wv vs → RR T F H (.lck od o kv wv ks vs) (.ref a) []
  | raw {a : Addr} {o : HO} : H a = some o → RR T F H (.raw o) (.ref a) [a]
inductive RRL (T : Nm) (F H : Hp) : List R → List V → List Addr → Prop
  | nil : RRL T F H [] [] []
  | cons {r : R} {rs : List R} {v : V} {vs : List V} {fp gp : List Addr} : RR T F H r v fp → RRL T F H rs vs gp → RRL T F H (r :: rs) (v :: vs) (fp ++ gp)
end
mutual
theorem RR.keep {F F' H H' : Hp} (e : Same F F') : ∀ (r : R) (v : V) (fp : List Addr), (∀ a ∈ fp, H' a = H a) → RR T F H r v fp → RR T F' H' r v fp
  | .val d, _, _, _, h => by cases h with | val h1 => exact .val (h1.mono e)
  | .lst ds, _, _, k, h => by cases h with | lst h1 h2 => exact .lst ((k _ (by simp)).trans h1) (RpL.mono e _ _ h2)
  | .obj c rs, _, _, k, h => by
    cases h with | obj h1 hl h2 => exact .obj ((k _ (by simp)).trans h1) hl (RRL.keep e rs _ _ (fun a ha => k a (List.mem_cons_of_mem _ ha)) h2)
  | .dct ks vs, _, _, k, h => by cases h with | dct h1 h2 => exact .dct ((k _ (by simp)).trans h1) (h2.mono e)
  | .lck _ _ _ _ ks vs, _, _, k, h => by cases h with | lck h1 h2 h3 => exact .lck (e _ _ h1) (RpL.mono e _ _ h2) (RpL.mono e _ _ h3)
  | .raw _, _, _, k, h => by cases h with | raw h1 => exact .raw ((k _ (by simp)).trans h1)
theorem RRL.keep {F F' H H' : Hp} (e : Same F F') : ∀ (rs : List R) (vs : List V) (fp : List Addr), (∀ a ∈ fp, H' a = H a) → RRL T F H rs vs fp → RRL T F' H' rs vs fp
  | [], _, _, _, h => by cases h; exact .nil
  | r :: rs, _, _, k, h => by
    cases h with | cons h1 h2 => exact .cons (RR.keep e r _ _ (fun a ha => k a (List.mem_append_left _ ha)) h1) (RRL.keep e rs _ _ (fun a ha => k a (List.mem_append_right _ ha)) h2)
end
mutual
theorem RR.at {F H : Hp} : ∀ (r : R) (v : V) (fp : List Addr), RR T F H r v fp → ∀ a ∈ fp, ∃ o, H a = some o
  | .val d, _, _, h => by cases h with | val h1 => intro a ha; cases ha
  | .lst ds, _, _, h => by cases h with | lst h1 h2 => intro b ha; simp at ha; subst ha; exact ⟨_, h1⟩
  | .obj c rs, _, _, h => by
    cases h with | obj h1 hl h2 =>
      intro b ha
      rcases List.mem_cons.mp ha with e | ha
      · subst e; exact ⟨_, h1⟩
      · exact RRL.at rs _ _ h2 b ha
  | .dct ks vs, _, _, h => by cases h with | dct h1 h2 => intro b ha; simp at ha; subst ha; exact ⟨_, h1⟩
  | .lck _ _ _ _ ks vs, _, _, h => by cases h with | lck h1 h2 h3 => intro a ha; cases ha
  | .raw _, _, _, h => by cases h with | raw h1 => intro b ha; simp at ha; subst ha; exact ⟨_, h1⟩
theorem RRL.at {F H : Hp} : ∀ (rs : List R) (vs : List V) (fp : List Addr), RRL T F H rs vs fp → ∀ a ∈ fp, ∃ o, H a = some o
  | [], _, _, h => by cases h; intro a ha; cases ha
  | r :: rs, _, _, h => by
    cases h with | cons h1 h2 =>
      intro b hb
      rcases List.mem_append.mp hb with hb | hb
      · exact RR.at r _ _ h1 b hb
      · exact RRL.at rs _ _ h2 b hb
end
theorem RRL.len {F H : Hp} : ∀ {rs : List R} {vs : List V} {fp : List Addr}, RRL T F H rs vs fp → rs.length = vs.length
  | [], _, _, h => by cases h; rfl
  | _ :: _, _, _, h => by cases h with | cons h1 h2 => exact congrArg Nat.succ h2.len

/-- frozen: what is told of H at fp from now on is told of F -/
def frzAt (F H : Hp) (fp : List Addr) : Hp := fun a => if a ∈ fp then H a else F a
theorem frzAt_in {F H : Hp} {fp : List Addr} {a : Addr} (h : a ∈ fp) : frzAt F H fp a = H a := if_pos h
theorem frzAt_out {F H : Hp} {fp : List Addr} {a : Addr} (h : a ∉ fp) : frzAt F H fp a = F a := if_neg h
theorem frzAt_same {F H : Hp} {fp : List Addr} (n : ∀ a ∈ fp, F a = none) : Same F (frzAt F H fp) := fun b o e => by
  rw [frzAt_out fun z => by rw [n b z] at e; cases e]
  exact e
theorem frzAt_sub {F H : Hp} {fp : List Addr} (s : Same F H) : Same (frzAt F H fp) H := fun b o e => by
  by_cases h : b ∈ fp
  · rw [frzAt_in h] at e; exact e
  · rw [frzAt_out h] at e; exact s _ _ e
/-- a whole object: every field is there -/
inductive R.Full (T : Nm) : R → Prop
  | val (d : D) : R.Full T (.val d)
  | lst (ds : List D) : R.Full T (.lst ds)
  | dct (ks vs : List D) : R.Full T (.dct ks vs)
  | obj {c : Nat} {rs : List R} : rs.length = (T.flds c).length → (∀ r ∈ rs, R.Full T r) → R.Full T (.obj c rs)
mutual
def R.fullB (flds : Nat → List Nat) : R → Bool
  | .val _ => true
  | .lst _ => true
  | .obj c rs => decide (rs.length = (flds c).length) && R.fullBs flds rs
  | .dct _ _ => true
  | .lck _ _ _ _ _ _ => false
  | .raw _ => false
def R.fullBs (flds : Nat → List Nat) : List R → Bool
  | [] => true
  | r :: rs => r.fullB flds && R.fullBs flds rs
end
mutual
theorem RR.toD {F H G : Hp} (e1 : Same F G) : ∀ (r : R) (v : V) (fp : List Addr), (∀ a ∈ fp, G a = H a) → r.fullB T.flds = true → RR T F H r v fp → Rp T G v r.toD
  | .val d, _, _, _, _, h => by cases h with | val h1 => exact h1.mono e1
  | .lst ds, _, _, k, _, h => by
    cases h with | lst h1 h2 => exact .lst (.inl (.inl ((k _ (by simp)).trans h1))) (RpL.mono e1 _ _ h2)
  | .obj c rs, _, _, k, f, h => by
    cases h with | obj h1 hl h2 =>
      simp only [R.fullB, Bool.and_eq_true, decide_eq_true_eq] at f
      exact .ins ((k _ (by simp)).trans h1) (by rw [← h2.len, f.1]) (RRL.toD e1 rs _ _ (fun a ha => k a (List.mem_cons_of_mem _ ha)) f.2 h2)
  | .dct ks vs, _, _, k, _, h => by
    cases h with | dct h1 h2 => exact (h2.mono e1).rp (.inl ((k _ (by simp)).trans h1))
  | .lck _ _ _ _ _ _, _, _, _, f, _ => by cases f
  | .raw _, _, _, _, f, _ => by cases f
theorem RRL.toD {F H G : Hp} (e1 : Same F G) : ∀ (rs : List R) (vs : List V) (fp : List Addr), (∀ a ∈ fp, G a = H a) → R.fullBs T.flds rs = true → RRL T F H rs vs fp → RpL T G vs (R.toDs rs)
  | [], _, _, _, _, h => by cases h; exact .nil
  | r :: rs, _, _, k, f, h => by
    cases h with | cons h1 h2 =>
      simp only [R.fullBs, Bool.and_eq_true] at f
      exact .cons (RR.toD e1 r _ _ (fun a ha => k a (List.mem_append_left _ ha)) f.1 h1) (RRL.toD e1 rs _ _ (fun a ha => k a (List.mem_append_right _ ha)) f.2 h2)
end

/-! ### all live values together -/
abbrev Lv := List (R × V)
inductive RE (T : Nm) (F H : Hp) : Lv → List Addr → Prop
  | nil : RE T F H [] []
  | cons {r : R} {v : V} {L : Lv} {fp gp : List Addr} : RR T F H r v fp → RE T F H L gp → RE T F H ((r, v) :: L) (fp ++ gp)
theorem RE.keep {F F' H H' : Hp} (e : Same F F') : ∀ {L : Lv} {fp : List Addr}, (∀ a ∈ fp, H' a = H a) → RE T F H L fp → RE T F' H' L fp
  | [], _, _, h => by cases h; exact .nil
  | _ :: _, _, k, h => by
    cases h with | cons h1 h2 => exact .cons (h1.keep e _ _ _ fun a ha => k a (List.mem_append_left _ ha)) (h2.keep e fun a ha => k a (List.mem_append_right _ ha))
theorem RE.at {F H : Hp} : ∀ {L : Lv} {fp : List Addr}, RE T F H L fp → ∀ a ∈ fp, ∃ o, H a = some o
  | [], _, h => by cases h; intro a ha; cases ha
  | _ :: _, _, h => by
    cases h with | cons h1 h2 =>
      intro b hb
      rcases List.mem_append.mp hb with hb | hb
      · exact RR.at _ _ _ h1 b hb
      · exact h2.at b hb
theorem RE.perm {F H : Hp} {L L' : Lv} (p : L.Perm L') : ∀ {fp : List Addr}, RE T F H L fp → ∃ fp', RE T F H L' fp' ∧ fp.Perm fp' := by
  induction p with
  | nil => intro fp h; exact ⟨fp, h, .refl _⟩
  | cons x p ih =>
    intro fp h
    cases h with | cons h1 h2 =>
      obtain ⟨fp', h3, p3⟩ := ih h2
      exact ⟨_, .cons h1 h3, List.Perm.append_left _ p3⟩
  | swap x y l =>
    intro fp h
    cases h with | cons h1 h2 =>
      cases h2 with | cons h3 h4 =>
        refine ⟨_, .cons h3 (.cons h1 h4), ?_⟩
        rw [← List.append_assoc, ← List.append_assoc]
        exact List.Perm.append_right _ List.perm_append_comm
  | trans p q ih1 ih2 =>
    intro fp h
    obtain ⟨fp1, h1, p1⟩ := ih1 h
    obtain ⟨fp2, h2, p2⟩ := ih2 h1
    exact ⟨fp2, h2, p1.trans p2⟩

/-- F: what never changes again; L: the live values. The owned ones stand apart from F and from each other -/
def Reps (T : Nm) (F H : Hp) (L : Lv) : Prop := Same F H ∧ ∃ fp, RE T F H L fp ∧ fp.Nodup ∧ ∀ a ∈ fp, F a = none
section
variable {F H : Hp} {L L' : Lv} {r : R} {v : V} {d : D}
theorem Reps.perm (h : Reps T F H L) (p : L.Perm L') : Reps T F H L' := by
  obtain ⟨s, fp, h1, nd, av⟩ := h
  obtain ⟨fp', h2, q⟩ := h1.perm p
  exact ⟨s, fp', h2, q.nodup_iff.mp nd, fun a ha => av a (q.mem_iff.mpr ha)⟩
theorem Reps.tail (h : Reps T F H ((r, v) :: L)) : Reps T F H L := by
  obtain ⟨s, fp, h1, nd, av⟩ := h
  cases h1 with | cons h2 h3 => exact ⟨s, _, h3, (List.nodup_append.mp nd).2.1, fun a ha => av a (List.mem_append_right _ ha)⟩
theorem Reps.drop {M : Lv} (h : Reps T F H (M ++ L)) : Reps T F H L := by
  induction M with
  | nil => exact h
  | cons x M ih => exact ih h.tail
theorem Reps.val (h : Reps T F H L) (p : Rp T F v d) : Reps T F H ((.val d, v) :: L) := by
  obtain ⟨s, fp, h1, nd, av⟩ := h
  exact ⟨s, [] ++ fp, .cons (.val p) h1, nd, av⟩
theorem Reps.rp (h : Reps T F H ((.val d, v) :: L)) : Rp T F v d := by
  obtain ⟨s, fp, h1, nd, av⟩ := h
  cases h1 with | cons h2 h3 => cases h2 with | val h4 => exact h4
theorem Reps.sub (h : Reps T F H L) : Same F H := h.1
/-- a new immutable object -/
theorem Reps.newF {p : Addr} {o : HO} (h : Reps T F H L) (np : H p = none) : Reps T (upd F p o) (upd H p o) L ∧ Same F (upd F p o) := by
  obtain ⟨s, fp, h1, nd, av⟩ := h
  have nF : F p = none := by
    cases e : F p with
    | none => rfl
    | some o' => rw [s _ _ e] at np; cases np
  have s1 : Same F (upd F p o) := fun b o' e => by rw [upd_ne (ne_of_none e nF)]; exact e
  have nin : ∀ a ∈ fp, a ≠ p := fun a ha z => by
    obtain ⟨o', e⟩ := h1.at a ha
    rw [z, np] at e; cases e
  refine ⟨⟨fun b o' e => ?_, fp, h1.keep s1 fun a ha => upd_ne (nin a ha), nd, fun a ha => by rw [upd_ne (nin a ha)]; exact av a ha⟩, s1⟩
  by_cases z : b = p
  · subst z; rw [upd_same] at e ⊢; exact e
  · rw [upd_ne z] at e ⊢; exact s _ _ e
/-- a new object that nothing of L or F speaks of -/
theorem Reps.newH {p : Addr} {o : HO} (h : Reps T F H L) (np : H p = none) : Reps T F (upd H p o) L := by
  obtain ⟨s, fp, h1, nd, av⟩ := h
  have nin : ∀ a ∈ fp, a ≠ p := fun a ha z => by
    obtain ⟨o', e⟩ := h1.at a ha
    rw [z, np] at e; cases e
  exact ⟨fun b o' e => by rw [upd_ne (ne_of_none (s _ _ e) np)]; exact s _ _ e, fp, h1.keep (Same.refl _) fun a ha => upd_ne (nin a ha), nd, av⟩
/-- the heap has grown -/
theorem Reps.grow {H' : Hp} (h : Reps T F H L) (g : Same H H') : Reps T F H' L := by
  obtain ⟨s, fp, h1, nd, av⟩ := h
  refine ⟨fun b o e => g _ _ (s _ _ e), fp, h1.keep (Same.refl _) fun a ha => ?_, nd, av⟩
  obtain ⟨o, e⟩ := h1.at a ha
  rw [e]; exact g _ _ e
/-- a new owned list -/
theorem Reps.own {p : Addr} {xs : List V} {ds : List D} (h : Reps T F H L) (np : H p = none) (r : RpL T F xs ds) : Reps T F (upd H p (.lst xs)) ((.lst ds, .ref p) :: L) := by
  have h' := h
  obtain ⟨s, fp, h1, nd, av⟩ := h
  obtain ⟨s2, _⟩ := h'.newH (o := .lst xs) np
  have nin : ∀ a ∈ fp, a ≠ p := fun a ha z => by
    obtain ⟨o', e⟩ := h1.at a ha
    rw [z, np] at e; cases e
  have nF : F p = none := by
    cases e : F p with
    | none => rfl
    | some o' => rw [s _ _ e] at np; cases np
  refine ⟨s2, [p] ++ fp, .cons (.lst upd_same r) (h1.keep (Same.refl _) fun a ha => upd_ne (nin a ha)), ?_, fun a ha => ?_⟩
  · exact List.nodup_cons.mpr ⟨fun z => nin p z rfl, nd⟩
  · rcases List.mem_cons.mp ha with z | z
    · rw [z]; exact nF
    · exact av a z
/-- an owned list is changed in place -/
theorem Reps.put {p : Addr} {xs : List V} {ds es : List D} (h : Reps T F H ((.lst ds, .ref p) :: L)) (r : RpL T F xs es) : Reps T F (upd H p (.lst xs)) ((.lst es, .ref p) :: L) := by
  obtain ⟨s, fp, h1, nd, av⟩ := h
  cases h1 with | cons h2 h3 =>
    cases h2 with | lst h4 h5 =>
      have nF := av p (by simp)
      have nd' := List.nodup_cons.mp (show (p :: _).Nodup from nd)
      have nin : ∀ a ∈ _, a ≠ p := fun a ha z => nd'.1 (z ▸ ha)
      exact ⟨fun b o e => by rw [upd_ne (ne_of_none e nF)]; exact s _ _ e, [p] ++ _, .cons (.lst upd_same r) (h3.keep (Same.refl _) fun a ha => upd_ne (nin a ha)), nd, av⟩
/-- a new owned dict -/
theorem Reps.ownD {p : Addr} {o : HO} {ks vs : List D} (h : Reps T F H L) (np : H p = none) (r : DR T F p o ks vs) : Reps T F (upd H p o) ((.dct ks vs, .ref p) :: L) := by
  have h' := h
  obtain ⟨s, fp, h1, nd, av⟩ := h
  obtain ⟨s2, _⟩ := h'.newH (o := o) np
  have nin : ∀ a ∈ fp, a ≠ p := fun a ha z => by
    obtain ⟨o', e⟩ := h1.at a ha
    rw [z, np] at e; cases e
  have nF : F p = none := by
    cases e : F p with
    | none => rfl
    | some o' => rw [s _ _ e] at np; cases np
  refine ⟨s2, [p] ++ fp, .cons (.dct upd_same r) (h1.keep (Same.refl _) fun a ha => upd_ne (nin a ha)), ?_, fun a ha => ?_⟩
  · exact List.nodup_cons.mpr ⟨fun z => nin p z rfl, nd⟩
  · rcases List.mem_cons.mp ha with z | z
    · rw [z]; exact nF
    · exact av a z
/-- an owned dict is changed in place -/
theorem Reps.putD {p : Addr} {o : HO} {ks vs ks' vs' : List D} (h : Reps T F H ((.dct ks vs, .ref p) :: L)) (r : DR T F p o ks' vs') : Reps T F (upd H p o) ((.dct ks' vs', .ref p) :: L) := by
  obtain ⟨s, fp, h1, nd, av⟩ := h
  cases h1 with | cons h2 h3 =>
    cases h2 with | dct h4 h5 =>
      have nF := av p (by simp)
      have nd' := List.nodup_cons.mp (show (p :: _).Nodup from nd)
      have nin : ∀ a ∈ _, a ≠ p := fun a ha z => nd'.1 (z ▸ ha)
      exact ⟨fun b o e => by rw [upd_ne (ne_of_none e nF)]; exact s _ _ e, [p] ++ _, .cons (.dct upd_same r) (h3.keep (Same.refl _) fun a ha => upd_ne (nin a ha)), nd, av⟩
theorem Reps.dctAt {ks vs : List D} (h : Reps T F H ((.dct ks vs, v) :: L)) : ∃ p o, v = .ref p ∧ H p = some o ∧ DR T F p o ks vs := by
  obtain ⟨s, fp, h1, nd, av⟩ := h
  cases h1 with | cons h2 h3 => cases h2 with | dct h4 h5 => exact ⟨_, _, rfl, h4, h5⟩
theorem Reps.lstAt {p : Addr} {ds : List D} (h : Reps T F H ((.lst ds, .ref p) :: L)) : ∃ xs, H p = some (.lst xs) ∧ RpL T F xs ds := by
  obtain ⟨s, fp, h1, nd, av⟩ := h
  cases h1 with | cons h2 h3 => cases h2 with | lst h4 h5 => exact ⟨_, h4, h5⟩
theorem Reps.lstRef {ds : List D} (h : Reps T F H ((.lst ds, v) :: L)) : ∃ p, v = .ref p := by
  obtain ⟨s, fp, h1, nd, av⟩ := h
  cases h1 with | cons h2 h3 => cases h2 with | lst h4 h5 => exact ⟨_, rfl⟩
/-- what is owned never changes again -/
theorem Reps.freeze (h : Reps T F H ((r, v) :: L)) (f : r.fullB T.flds = true) : ∃ F', Same F F' ∧ Reps T F' H ((.val r.toD, v) :: L) := by
  obtain ⟨s, fp, h1, nd, av⟩ := h
  cases h1 with | @cons _ _ _ f1 f2 h2 h3 =>
    have nd2 := List.nodup_append.mp nd
    have n1 : ∀ a ∈ f1, F a = none := fun a ha => av a (List.mem_append_left _ ha)
    have s1 : Same F (frzAt F H f1) := frzAt_same n1
    refine ⟨frzAt F H f1, s1, frzAt_sub s, [] ++ f2, .cons (.val (RR.toD s1 r v f1 (fun a ha => frzAt_in ha) f h2)) (h3.keep s1 fun _ _ => rfl), nd2.2.1, fun a ha => ?_⟩
    have ha : a ∈ f2 := ha
    rw [frzAt_out fun z => nd2.2.2 a z a ha rfl]
    exact av a (List.mem_append_right _ ha)
/-- an owned value as a plain one, for a moment -/
theorem Reps.look (h : Reps T F H ((r, v) :: L)) (f : r.fullB T.flds = true) : Rp T H v r.toD := by
  obtain ⟨F', _, h'⟩ := h.freeze f
  exact h'.rp.mono h'.sub
end

/-! ### locking -/
def isDic : HO → Prop
  | .dK _ => True
  | .ext _ => True
  | _ => False
theorem DR.dic {F : Hp} {a : Addr} {o : HO} {ks vs : List D} (h : DR T F a o ks vs) : isDic o := by
  rcases h with ⟨kvs, rfl, _⟩ | ⟨es, rfl, _⟩ <;> trivial
/-- the same, but that a dict may have been locked -/
def Sw (F F' : Hp) : Prop := ∀ b o, F b = some o → F' b = some o ∨ (isDic o ∧ ∃ u, F' b = some (.frz u o))
theorem Sw.rd {F F' : Hp} (e : Sw F F') {a : Addr} {o : HO} (h : Rd F a o) : Rd F' a o := by
  rcases h with h | ⟨u, h⟩
  · rcases e _ _ h with h | ⟨_, u, h⟩
    · exact .inl h
    · exact .inr ⟨u, h⟩
  · rcases e _ _ h with h | ⟨h', _⟩
    · exact .inr ⟨u, h⟩
    · exact h'.elim
theorem Sw.nd {F F' : Hp} (e : Sw F F') {a : Addr} {o : HO} (h : F a = some o) (n : ¬ isDic o) : F' a = some o := by
  rcases e _ _ h with h | ⟨h', _⟩
  · exact h
  · exact (n h').elim
theorem sw_sqL {K : PySem.W.Frag} {F F' : Hp} {a : Addr} {xs : List V} (e : Sw F F') (h : SqL K F a xs) : SqL K F' a xs := by
  rcases h with h | h
  · exact .inl (e.rd h)
  · exact .inr h
theorem sw_sqT {K : PySem.W.Frag} {F F' : Hp} {a : Addr} {xs : List V} (e : Sw F F') (h : SqT K F a xs) : SqT K F' a xs := by
  rcases h with h | h
  · exact .inl (e.rd h)
  · exact .inr h
mutual
theorem Rp.sw {F F' : Hp} (e : Sw F F') : ∀ (d : D) (v : V), Rp T F v d → Rp T F' v d
  | .non, _, h => by cases h; exact .non
  | .bl b, _, h => by cases h; exact .bl b
  | .int i, _, h => by cases h; exact .int i
  | .str x, _, h => by cases h; exact .str x
  | .tup ds, _, h => by cases h with | tup h1 h2 => exact .tup (sw_sqT e h1) (RpL.sw e ds _ h2)
  | .lst ds, _, h => by cases h with | lst h1 h2 => exact .lst (sw_sqL e h1) (RpL.sw e ds _ h2)
  | .rng _ _, _, h => by cases h with | rng h1 => exact .rng (e.nd h1 id)
  | .ins _ ds, _, h => by cases h with | ins h1 hl h2 => exact .ins (e.nd h1 id) hl (RpL.sw e ds _ h2)
  | .dct ks vs, _, h => by
    cases h with
    | dctI h1 h2 h3 => exact .dctI (e.rd h1) h2 (RpL.sw e vs _ h3)
    | dctT h1 h2 h3 h4 h5 h6 => exact .dctT (e.rd h1) h2 h3 h4 (RpL.sw e ks _ h5) (RpL.sw e vs _ h6)
  | .err _ d, _, h => by cases h with | err h1 h2 h3 => exact .err (e.rd h1) (e.rd h2) (Rp.sw e d _ h3)
theorem RpL.sw {F F' : Hp} (e : Sw F F') : ∀ (ds : List D) (vs : List V), RpL T F vs ds → RpL T F' vs ds
  | [], _, h => by cases h; exact .nil
  | d :: ds, _, h => by cases h with | cons h1 h2 => exact .cons (Rp.sw e d _ h1) (RpL.sw e ds _ h2)
end
theorem DR.sw {F F' : Hp} (e : Sw F F') {a : Addr} {o : HO} {ks vs : List D} (h : DR T F a o ks vs) : DR T F' a o ks vs := by
  rcases h with ⟨kvs, h1, h2, h3⟩ | ⟨es, h1, h2, h3, h4, h5, h6⟩
  · exact .inl ⟨kvs, h1, h2, RpL.sw e _ _ h3⟩
  · exact .inr ⟨es, h1, h2, h3, h4, RpL.sw e _ _ h5, RpL.sw e _ _ h6⟩
mutual
theorem RR.sw {F F' H H' : Hp} (e : Sw F F') : ∀ (r : R) (v : V) (fp : List Addr), (∀ a ∈ fp, H' a = H a) → RR T F H r v fp → RR T F' H' r v fp
  | .val d, _, _, _, h => by cases h with | val h1 => exact .val (Rp.sw e _ _ h1)
  | .lst ds, _, _, k, h => by cases h with | lst h1 h2 => exact .lst ((k _ (by simp)).trans h1) (RpL.sw e _ _ h2)
  | .obj c rs, _, _, k, h => by
    cases h with | obj h1 hl h2 => exact .obj ((k _ (by simp)).trans h1) hl (RRL.sw e rs _ _ (fun a ha => k a (List.mem_cons_of_mem _ ha)) h2)
  | .dct ks vs, _, _, k, h => by cases h with | dct h1 h2 => exact .dct ((k _ (by simp)).trans h1) (h2.sw e)
  | .lck _ _ _ _ ks vs, _, _, k, h => by cases h with | lck h1 h2 h3 => exact .lck (e.nd h1 id) (RpL.sw e _ _ h2) (RpL.sw e _ _ h3)
  | .raw _, _, _, k, h => by cases h with | raw h1 => exact .raw ((k _ (by simp)).trans h1)
theorem RRL.sw {F F' H H' : Hp} (e : Sw F F') : ∀ (rs : List R) (vs : List V) (fp : List Addr), (∀ a ∈ fp, H' a = H a) → RRL T F H rs vs fp → RRL T F' H' rs vs fp
  | [], _, _, _, h => by cases h; exact .nil
  | r :: rs, _, _, k, h => by
    cases h with | cons h1 h2 => exact .cons (RR.sw e r _ _ (fun a ha => k a (List.mem_append_left _ ha)) h1) (RRL.sw e rs _ _ (fun a ha => k a (List.mem_append_right _ ha)) h2)
end
theorem RE.sw {F F' H H' : Hp} (e : Sw F F') : ∀ {L : Lv} {fp : List Addr}, (∀ a ∈ fp, H' a = H a) → RE T F H L fp → RE T F' H' L fp
  | [], _, _, h => by cases h; exact .nil
  | _ :: _, _, k, h => by
    cases h with | cons h1 h2 => exact .cons (h1.sw e _ _ _ fun a ha => k a (List.mem_append_left _ ha)) (h2.sw e fun a ha => k a (List.mem_append_right _ ha))
theorem sw_upd {F : Hp} {a : Addr} {od : Obj} {o : HO} (h : F a = some o) (d : isDic o) : Sw F (upd F a (.frz od o)) := fun b o' e => by
  by_cases z : b = a
  · subst z
    rw [h] at e; cases e
    exact .inr ⟨d, od, upd_same⟩
  · exact .inl (by rw [upd_ne z]; exact e)
/-- a dict that never changes again is locked -/
theorem Reps.lock {F H : Hp} {L : Lv} {a : Addr} {od : Obj} {o : HO} (h : Reps T F H L) (hF : F a = some o) (d : isDic o) : Reps T (upd F a (.frz od o)) (upd H a (.frz od o)) L := by
  obtain ⟨s, fp, h1, nd, av⟩ := h
  have nin : ∀ b ∈ fp, b ≠ a := fun b hb z => by rw [z] at hb; rw [av a hb] at hF; cases hF
  refine ⟨fun b o' e => ?_, fp, h1.sw (sw_upd hF d) fun b hb => upd_ne (nin b hb), nd, fun b hb => by rw [upd_ne (nin b hb)]; exact av b hb⟩
  by_cases z : b = a
  · subst z; rw [upd_same] at e ⊢; exact e
  · rw [upd_ne z] at e ⊢; exact s _ _ e

/-! ### the names of a body -/
/-- which live values the slots hold -/
inductive Sl : Env → St → Lv → Prop
  | nil : Sl [] [] []
  | non {ρ : Env} {σ : St} {L : Lv} {x : Option V} : Sl ρ σ L → Sl (none :: ρ) (x :: σ) L
  | som {ρ : Env} {σ : St} {L : Lv} {r : R} {v : V} : Sl ρ σ L → Sl (some r :: ρ) (some v :: σ) ((r, v) :: L)
theorem Sl.len : ∀ {ρ : Env} {σ : St} {L : Lv}, Sl ρ σ L → ρ.length = σ.length
  | _, _, _, .nil => rfl
  | _, _, _, .non h => congrArg Nat.succ h.len
  | _, _, _, .som h => congrArg Nat.succ h.len
/-- the state of a body: temporaries and outer values M, the names -/
def Cf (T : Nm) (F H : Hp) (M : Lv) (ρ : Env) (σ : St) : Prop := ∃ L, Sl ρ σ L ∧ Reps T F H (M ++ L)
theorem Sl.take : ∀ {ρ : Env} {σ : St} {L : Lv} {i : Nat} {r : R}, Sl ρ σ L → ρ[i]? = some (some r) →
    ∃ v L', σ[i]? = some (some v) ∧ L.Perm ((r, v) :: L') ∧ Sl (ρ.set i none) σ L' ∧ ∀ r' v', ∃ L'', Sl (ρ.set i (some r')) (σ.set i (some v')) L'' ∧ L''.Perm ((r', v') :: L')
  | _, _, _, i, r, .nil, e => by simp at e
  | _, _, _, 0, r, .non h, e => by simp at e
  | _, _, _, 0, r, .som (v := v) h, e => by
    simp at e; subst e
    exact ⟨v, _, rfl, .refl _, .non h, fun r' v' => ⟨_, .som h, .refl _⟩⟩
  | _, _, _, i + 1, r, .non h, e => by
    obtain ⟨v, L', e1, p, s1, k⟩ := h.take (i := i) (by simpa using e)
    refine ⟨v, L', by simpa using e1, p, .non s1, fun r' v' => ?_⟩
    obtain ⟨L'', s2, p2⟩ := k r' v'
    exact ⟨L'', .non s2, p2⟩
  | _, _, _, i + 1, r, .som (r := r0) (v := v0) h, e => by
    obtain ⟨v, L', e1, p, s1, k⟩ := h.take (i := i) (by simpa using e)
    refine ⟨v, (r0, v0) :: L', by simpa using e1, (List.Perm.cons _ p).trans (List.Perm.swap _ _ _), .som s1, fun r' v' => ?_⟩
    obtain ⟨L'', s2, p2⟩ := k r' v'
    exact ⟨(r0, v0) :: L'', .som s2, (List.Perm.cons _ p2).trans (List.Perm.swap _ _ _)⟩
/-- a slot is stored anew -/
theorem Sl.store : ∀ {ρ : Env} {σ : St} {L : Lv} (i : Nat) (r : R) (v : V), Sl ρ σ L → i < σ.length →
    ∃ L' L'' K, Sl (ρ.set i (some r)) (σ.set i (some v)) L'' ∧ L.Perm (K ++ L') ∧ L''.Perm ((r, v) :: L')
  | _, _, _, i, r, v, .nil, hi => by simp at hi
  | _, _, _, 0, r, v, .non h, _ => ⟨_, _, [], .som h, .refl _, .refl _⟩
  | _, _, _, 0, r, v, .som (r := r0) (v := v0) h, _ => ⟨_, _, [(r0, v0)], .som h, .refl _, .refl _⟩
  | _, _, _, i + 1, r, v, .non h, hi => by
    obtain ⟨L', L'', K, s, p, q⟩ := Sl.store i r v h (by simpa using hi)
    exact ⟨L', L'', K, .non s, p, q⟩
  | _, _, _, i + 1, r, v, .som (r := r0) (v := v0) h, hi => by
    obtain ⟨L', L'', K, s, p, q⟩ := Sl.store i r v h (by simpa using hi)
    exact ⟨(r0, v0) :: L', (r0, v0) :: L'', K, .som s, (List.Perm.cons _ p).trans List.perm_middle.symm, (List.Perm.cons _ q).trans (List.Perm.swap _ _ _)⟩
/-- a slot is forgotten -/
theorem Sl.forget : ∀ {ρ : Env} {σ : St} {L : Lv} (i : Nat) (x : Option V), Sl ρ σ L → ∃ L' K, Sl (ρ.set i none) (σ.set i x) L' ∧ L.Perm (K ++ L')
  | _, _, _, i, x, .nil => ⟨[], [], by simpa using Sl.nil, .refl _⟩
  | _, _, _, 0, x, .non h => ⟨_, [], .non h, .refl _⟩
  | _, _, _, 0, x, .som (r := r0) (v := v0) h => ⟨_, [(r0, v0)], .non h, .refl _⟩
  | _, _, _, i + 1, x, .non h => by
    obtain ⟨L', K, s, p⟩ := Sl.forget i x h
    exact ⟨L', K, .non s, p⟩
  | _, _, _, i + 1, x, .som (r := r0) (v := v0) h => by
    obtain ⟨L', K, s, p⟩ := Sl.forget i x h
    exact ⟨(r0, v0) :: L', K, .som s, (List.Perm.cons _ p).trans List.perm_middle.symm⟩
section
variable {F H : Hp} {M : Lv} {ρ : Env} {σ : St} {r : R} {v : V} {d : D} {i : Nat}
theorem Cf.len (h : Cf T F H M ρ σ) : ρ.length = σ.length := let ⟨_, s, _⟩ := h; s.len
theorem Cf.sub (h : Cf T F H M ρ σ) : Same F H := let ⟨_, _, q⟩ := h; q.sub
theorem Cf.tail (h : Cf T F H ((r, v) :: M) ρ σ) : Cf T F H M ρ σ := let ⟨L, s, q⟩ := h; ⟨L, s, Reps.tail (L := M ++ L) q⟩
theorem Cf.val (h : Cf T F H M ρ σ) (p : Rp T F v d) : Cf T F H ((.val d, v) :: M) ρ σ := let ⟨L, s, q⟩ := h; ⟨L, s, Reps.val (L := M ++ L) q p⟩
theorem Cf.rp (h : Cf T F H ((.val d, v) :: M) ρ σ) : Rp T F v d := let ⟨L, _, q⟩ := h; Reps.rp (L := M ++ L) q
theorem Cf.permM {M' : Lv} (h : Cf T F H M ρ σ) (p : M.Perm M') : Cf T F H M' ρ σ := let ⟨L, s, q⟩ := h; ⟨L, s, q.perm (p.append_right L)⟩
theorem Cf.swap {x y : R × V} (h : Cf T F H (x :: y :: M) ρ σ) : Cf T F H (y :: x :: M) ρ σ := h.permM (List.Perm.swap _ _ _)
theorem Cf.freeze (h : Cf T F H ((r, v) :: M) ρ σ) (f : r.fullB T.flds = true) : ∃ F', Same F F' ∧ Cf T F' H ((.val r.toD, v) :: M) ρ σ := by
  obtain ⟨L, s, q⟩ := h
  obtain ⟨F', e, q'⟩ := Reps.freeze (L := M ++ L) q f
  exact ⟨F', e, L, s, q'⟩
theorem Cf.look (h : Cf T F H ((r, v) :: M) ρ σ) (f : r.fullB T.flds = true) : Rp T H v r.toD := let ⟨L, _, q⟩ := h; Reps.look (L := M ++ L) q f
theorem Cf.newF {p : Addr} {o : HO} (h : Cf T F H M ρ σ) (np : H p = none) : Cf T (upd F p o) (upd H p o) M ρ σ ∧ Same F (upd F p o) := by
  obtain ⟨L, s, q⟩ := h
  obtain ⟨q', e⟩ := q.newF (o := o) np
  exact ⟨⟨L, s, q'⟩, e⟩
theorem Cf.grow {H' : Hp} (h : Cf T F H M ρ σ) (g : Same H H') : Cf T F H' M ρ σ := let ⟨L, s, q⟩ := h; ⟨L, s, q.grow g⟩
theorem Cf.own {p : Addr} {xs : List V} {ds : List D} (h : Cf T F H M ρ σ) (np : H p = none) (r : RpL T F xs ds) : Cf T F (upd H p (.lst xs)) ((.lst ds, .ref p) :: M) ρ σ :=
  let ⟨L, s, q⟩ := h; ⟨L, s, Reps.own (L := M ++ L) q np r⟩
theorem Cf.put {p : Addr} {xs : List V} {ds es : List D} (h : Cf T F H ((.lst ds, .ref p) :: M) ρ σ) (r : RpL T F xs es) : Cf T F (upd H p (.lst xs)) ((.lst es, .ref p) :: M) ρ σ :=
  let ⟨L, s, q⟩ := h; ⟨L, s, Reps.put (L := M ++ L) q r⟩
theorem Cf.ownD {p : Addr} {o : HO} {ks vs : List D} (h : Cf T F H M ρ σ) (np : H p = none) (r : DR T F p o ks vs) : Cf T F (upd H p o) ((.dct ks vs, .ref p) :: M) ρ σ :=
  let ⟨L, s, q⟩ := h; ⟨L, s, Reps.ownD (L := M ++ L) q np r⟩
theorem Cf.putD {p : Addr} {o : HO} {ks vs ks' vs' : List D} (h : Cf T F H ((.dct ks vs, .ref p) :: M) ρ σ) (r : DR T F p o ks' vs') : Cf T F (upd H p o) ((.dct ks' vs', .ref p) :: M) ρ σ :=
  let ⟨L, s, q⟩ := h; ⟨L, s, Reps.putD (L := M ++ L) q r⟩
theorem Cf.dctAt {ks vs : List D} (h : Cf T F H ((.dct ks vs, v) :: M) ρ σ) : ∃ p o, v = .ref p ∧ H p = some o ∧ DR T F p o ks vs := let ⟨L, _, q⟩ := h; Reps.dctAt (L := M ++ L) q
theorem Cf.lstRef {ds : List D} (h : Cf T F H ((.lst ds, v) :: M) ρ σ) : ∃ p, v = .ref p := let ⟨L, _, q⟩ := h; Reps.lstRef (L := M ++ L) q
theorem Cf.lstAt {p : Addr} {ds : List D} (h : Cf T F H ((.lst ds, .ref p) :: M) ρ σ) : ∃ xs, H p = some (.lst xs) ∧ RpL T F xs ds := let ⟨L, _, q⟩ := h; Reps.lstAt (L := M ++ L) q
theorem Cf.lock {a : Addr} {od : Obj} {o : HO} (h : Cf T F H M ρ σ) (hF : F a = some o) (d : isDic o) : Cf T (upd F a (.frz od o)) (upd H a (.frz od o)) M ρ σ :=
  let ⟨L, s, q⟩ := h; ⟨L, s, Reps.lock (L := M ++ L) q hF d⟩
/-- a locked dict, seen in hand -/
theorem Cf.lck {a : Addr} {od : Obj} {o : HO} {kv wv : List V} {ks vs : List D} (h : Cf T F H M ρ σ) (hF : F a = some (.frz od o)) (h1 : RpL T F kv ks) (h2 : RpL T F wv vs) : Cf T F H ((.lck od o kv wv ks vs, .ref a) :: M) ρ σ := by
  obtain ⟨L, s, sb, fp, h3, nd, av⟩ := h
  exact ⟨L, s, sb, [] ++ fp, .cons (.lck hF h1 h2) h3, nd, av⟩
theorem Reps.lckAt {L : Lv} {a : Addr} {od : Obj} {o : HO} {kv wv : List V} {ks vs : List D} (h : Reps T F H ((.lck od o kv wv ks vs, .ref a) :: L)) : F a = some (.frz od o) ∧ RpL T F kv ks ∧ RpL T F wv vs := by
  obtain ⟨s, fp, h1, nd, av⟩ := h
  cases h1 with | cons h2 h3 => cases h2 with | lck h4 h5 h6 => exact ⟨h4, h5, h6⟩
/-- the name's value is taken out of its slot -/
theorem Cf.out (h : Cf T F H M ρ σ) (e : ρ[i]? = some (some r)) : ∃ v, σ[i]? = some (some v) ∧ Cf T F H ((r, v) :: M) (ρ.set i none) σ := by
  obtain ⟨L, s, q⟩ := h
  obtain ⟨v, L', e1, p, s1, _⟩ := s.take e
  exact ⟨v, e1, L', s1, q.perm ((List.Perm.append_left M p).trans List.perm_middle)⟩
theorem Cf.slot (h : Cf T F H M ρ σ) (e : ρ[i]? = some (some r)) : ∃ v, σ[i]? = some (some v) := let ⟨v, e1, _⟩ := h.out e; ⟨v, e1⟩
/-- stored into a slot -/
theorem Cf.into (h : Cf T F H ((r, v) :: M) ρ σ) (hi : i < σ.length) : Cf T F H M (ρ.set i (some r)) (σ.set i (some v)) := by
  obtain ⟨L, s, q⟩ := h
  obtain ⟨L', L'', K, s1, p1, p2⟩ := Sl.store i r v s hi
  refine ⟨L'', s1, ?_⟩
  have q1 : Reps T F H ((r, v) :: (M ++ (K ++ L'))) := q.perm (List.Perm.cons _ (List.Perm.append_left M p1))
  have q2 : Reps T F H (K ++ ((r, v) :: (M ++ L'))) := q1.perm (by
    refine (List.Perm.cons _ ?_).trans List.perm_middle.symm
    rw [← List.append_assoc, ← List.append_assoc]
    exact List.Perm.append_right _ List.perm_append_comm)
  exact q2.drop.perm (List.perm_middle.symm.trans (List.Perm.append_left M p2.symm))
theorem set_same {α : Type} : ∀ {l : List α} {i : Nat} {x : α}, l[i]? = some x → l.set i x = l
  | [], _, _, e => by simp at e
  | a :: l, 0, x, e => by simp at e; subst e; rfl
  | a :: l, i + 1, x, e => by show a :: l.set i x = _; rw [set_same (by simpa using e)]
/-- back into its slot -/
theorem Cf.back {r' : R} (h : Cf T F H ((r', v) :: M) (ρ.set i none) σ) (e : σ[i]? = some (some v)) : Cf T F H M (ρ.set i (some r')) σ := by
  have hi : i < σ.length := (List.getElem?_eq_some_iff.mp e).1
  have q := h.into (i := i) hi
  rw [set_same e, List.set_set] at q
  exact q
theorem Cf.forget (h : Cf T F H M ρ σ) (x : Option V) : Cf T F H M (ρ.set i none) (σ.set i x) := by
  obtain ⟨L, s, q⟩ := h
  obtain ⟨L', K, s1, p⟩ := Sl.forget i x s
  refine ⟨L', s1, ?_⟩
  have q1 : Reps T F H (K ++ (M ++ L')) := q.perm ((List.Perm.append_left M p).trans (by
    rw [← List.append_assoc, ← List.append_assoc]
    exact List.Perm.append_right _ List.perm_append_comm))
  exact q1.drop
/-- a name's value is read: what is owned is frozen -/
theorem Cf.read (h : Cf T F H M ρ σ) (e : ρ[i]? = some (some r)) (f : r.fullB T.flds = true) : ∃ v F', σ[i]? = some (some v) ∧ Same F F' ∧ Cf T F' H ((.val r.toD, v) :: M) (ρ.set i (some (.val r.toD))) σ := by
  obtain ⟨v, e1, h1⟩ := h.out e
  obtain ⟨F', s, h2⟩ := h1.freeze f
  refine ⟨v, F', e1, s, ?_⟩
  exact Cf.back (h2.val h2.rp) e1
end
end Fx
end
section
set_option linter.all false
set_option Elab.async false
set_option maxRecDepth 100000
set_option maxHeartbeats 4000000
/-! Objects opened: the cell by itself, its fields in hand. -/
namespace Fx
open PySem PySem.Spec L2
variable {T : Nm}
theorem RRL.re {F H : Hp} {L : Lv} {gp : List Addr} (h : RE T F H L gp) : ∀ {rs : List R} {vs : List V} {fp : List Addr}, RRL T F H rs vs fp → RE T F H (rs.zip vs ++ L) (fp ++ gp)
  | [], _, _, k => by cases k; exact h
  | r :: rs, _, _, k => by
    cases k with | cons k1 k2 =>
      rw [List.append_assoc]
      exact .cons k1 (RRL.re h k2)
theorem RE.rrl {F H : Hp} {L : Lv} : ∀ {rs : List R} {vs : List V} {fp : List Addr}, rs.length = vs.length → RE T F H (rs.zip vs ++ L) fp → ∃ f1 f2, fp = f1 ++ f2 ∧ RRL T F H rs vs f1 ∧ RE T F H L f2
  | [], [], fp, _, h => ⟨[], fp, rfl, .nil, h⟩
  | [], _ :: _, _, e, _ => by simp at e
  | _ :: _, [], _, e, _ => by simp at e
  | r :: rs, v :: vs, _, e, h => by
    have h : RE T F H ((r, v) :: (rs.zip vs ++ L)) _ := h
    cases h with | cons h1 h2 =>
      obtain ⟨f1, f2, rfl, k1, k2⟩ := RE.rrl (by simpa using e) h2
      exact ⟨_, f2, (List.append_assoc _ _ _).symm, .cons h1 k1, k2⟩
/-- an object's cell and its fields -/
theorem Reps.openO {F H : Hp} {L : Lv} {c : Nat} {rs : List R} {v : V} (h : Reps T F H ((.obj c rs, v) :: L)) : ∃ p dx xs, v = .ref p ∧ H p = some (.ins (T.cls c) dx (T.zip c xs)) ∧ rs.length = xs.length ∧ xs.length ≤ (T.flds c).length ∧
    Reps T F H ((.raw (.ins (T.cls c) dx (T.zip c xs)), .ref p) :: (rs.zip xs ++ L)) := by
  obtain ⟨s, fp, h1, nd, av⟩ := h
  cases h1 with | cons h2 h3 =>
    cases h2 with | @obj a dx _ xs _ fp' h4 hl h5 =>
      refine ⟨a, dx, xs, rfl, h4, h5.len, hl, s, [a] ++ (fp' ++ _), .cons (.raw h4) (RRL.re h3 h5), nd, av⟩
theorem Reps.closeO {F H : Hp} {L : Lv} {c : Nat} {rs : List R} {p dx : Addr} {xs : List V} (h : Reps T F H ((.raw (.ins (T.cls c) dx (T.zip c xs)), .ref p) :: (rs.zip xs ++ L))) (e : rs.length = xs.length) (l : xs.length ≤ (T.flds c).length) : Reps T F H ((.obj c rs, .ref p) :: L) := by
  obtain ⟨s, fp, h1, nd, av⟩ := h
  cases h1 with | cons h2 h3 =>
    cases h2 with | raw h4 =>
      obtain ⟨f1, f2, rfl, k1, k2⟩ := RE.rrl e h3
      exact ⟨s, (p :: f1) ++ f2, .cons (.obj h4 l k1) k2, nd, av⟩
theorem Reps.rawAt {F H : Hp} {L : Lv} {o : HO} {p : Addr} (h : Reps T F H ((.raw o, .ref p) :: L)) : H p = some o := by
  obtain ⟨s, fp, h1, nd, av⟩ := h
  cases h1 with | cons h2 h3 => cases h2 with | raw h4 => exact h4
theorem Reps.rawPut {F H : Hp} {L : Lv} {o o' : HO} {p : Addr} (h : Reps T F H ((.raw o, .ref p) :: L)) : Reps T F (upd H p o') ((.raw o', .ref p) :: L) := by
  obtain ⟨s, fp, h1, nd, av⟩ := h
  cases h1 with | cons h2 h3 =>
    cases h2 with | raw h4 =>
      have nF := av p (by simp)
      have nd' := List.nodup_cons.mp (show (p :: _).Nodup from nd)
      exact ⟨fun b o e => by rw [upd_ne (ne_of_none e nF)]; exact s _ _ e, [p] ++ _, .cons (.raw upd_same) (h3.keep (Same.refl _) fun a ha => upd_ne fun z => nd'.1 (z ▸ ha)), nd, av⟩
theorem perm_nth {α : Type} : ∀ {A : List α} {j : Nat} {y : α}, A[j]? = some y → ∃ B, A.Perm (y :: B) ∧ ∀ x, (A.set j x).Perm (x :: B)
  | [], _, _, e => by simp at e
  | a :: A, 0, y, e => by
    simp at e
    subst e
    exact ⟨A, .refl _, fun x => .refl _⟩
  | a :: A, j + 1, y, e => by
    obtain ⟨B, h1, h2⟩ := perm_nth (A := A) (j := j) (y := y) (by simpa using e)
    refine ⟨a :: B, (List.Perm.cons a h1).trans (List.Perm.swap _ _ _), fun x => ?_⟩
    exact (List.Perm.cons a (h2 x)).trans (List.Perm.swap _ _ _)
theorem zip_nth {α β : Type} : ∀ {A : List α} {B : List β} {j : Nat} {a : α} {b : β}, A[j]? = some a → B[j]? = some b → (A.zip B)[j]? = some (a, b)
  | [], _, _, _, _, e, _ => by simp at e
  | _ :: _, [], _, _, _, _, e => by simp at e
  | a :: A, b :: B, 0, _, _, e, e' => by simp at e e'; subst e e'; rfl
  | a :: A, b :: B, j + 1, _, _, e, e' => by
    have := zip_nth (A := A) (B := B) (j := j) (by simpa using e) (by simpa using e')
    simpa using this
theorem zip_set {α β : Type} : ∀ {A : List α} {B : List β} {j : Nat} {a : α} {b : β}, (A.set j a).zip (B.set j b) = (A.zip B).set j (a, b)
  | [], _, _, _, _ => by simp
  | _ :: _, [], _, _, _ => by simp
  | a :: A, b :: B, 0, _, _ => rfl
  | a :: A, b :: B, j + 1, _, _ => by
    exact congrArg ((a, b) :: ·) (zip_set (A := A) (B := B) (j := j))
theorem zip_setL {α β : Type} : ∀ {A : List α} {B : List β} {j : Nat} {a : α} {b : β}, B[j]? = some b → (A.set j a).zip B = (A.zip B).set j (a, b)
  | A, B, j, a, b, h => by
    have := zip_set (A := A) (B := B) (j := j) (a := a) (b := b)
    rw [← this]
    congr 1
    obtain ⟨hl, e⟩ := List.getElem?_eq_some_iff.mp h
    rw [← e, List.set_getElem_self]
/-- one field's value in hand -/
theorem Reps.fldOut {F H : Hp} {L : Lv} {rs : List R} {xs : List V} {x : R × V} {j : Nat} {r : R} {w : V} (h : Reps T F H (x :: (rs.zip xs ++ L))) (e : rs[j]? = some r) (e' : xs[j]? = some w) :
    ∃ B, Reps T F H ((r, w) :: x :: (B ++ L)) ∧ ∀ (F' H' : Hp) (x' : R × V) (r' : R) (L' : Lv), Reps T F' H' ((r', w) :: x' :: (B ++ L')) → Reps T F' H' (x' :: ((rs.set j r').zip xs ++ L')) := by
  obtain ⟨B, p1, p2⟩ := perm_nth (zip_nth e e')
  refine ⟨B, h.perm ?_, fun F' H' x' r' L' k => k.perm ?_⟩
  · exact (List.Perm.cons x (List.Perm.append_right L p1)).trans (List.Perm.swap _ _ _)
  · rw [zip_setL e']
    exact (List.Perm.swap _ _ _).trans (List.Perm.cons x' (List.Perm.append_right L' (p2 _)).symm)
/-- a field stored -/
def fldPut (j n : Nat) (rs : List R) (r : R) : Option (List R) := if j < rs.length then some (rs.set j r) else if j = rs.length ∧ j < n then some (rs ++ [r]) else none
theorem Reps.fldIn {F H : Hp} {L : Lv} {rs rs' : List R} {xs : List V} {r : R} {w : V} {x : R × V} {j n : Nat} (hl : rs.length = xs.length) (hx : xs.length ≤ n) (e : fldPut j n rs r = some rs') (h : Reps T F H (x :: (rs.zip xs ++ ((r, w) :: L)))) :
    ∃ xs', (if j < xs.length then xs' = xs.set j w else xs' = xs ++ [w]) ∧ rs'.length = xs'.length ∧ xs'.length ≤ n ∧ Reps T F H (x :: (rs'.zip xs' ++ L)) := by
  unfold fldPut at e
  split at e
  · rename_i hj
    cases e
    rw [hl] at hj
    refine ⟨xs.set j w, by rw [if_pos hj], by rw [List.length_set, List.length_set, hl], by rw [List.length_set]; exact hx, ?_⟩
    obtain ⟨r0, e0⟩ : ∃ r0, rs[j]? = some r0 := ⟨_, List.getElem?_eq_getElem (by omega)⟩
    obtain ⟨w0, e1⟩ : ∃ w0, xs[j]? = some w0 := ⟨_, List.getElem?_eq_getElem hj⟩
    obtain ⟨B, p1, p2⟩ := perm_nth (zip_nth e0 e1)
    rw [zip_set]
    have q : Reps T F H ((r0, w0) :: (x :: ((r, w) :: (B ++ L)))) := h.perm (by
      refine (List.Perm.cons x ((List.Perm.append_right _ p1).trans ?_)).trans (List.Perm.swap _ _ _)
      exact List.Perm.cons _ (List.perm_middle))
    refine q.tail.perm (List.Perm.cons x ?_)
    exact (List.Perm.append_right L (p2 (r, w))).symm
  · rename_i hj
    split at e
    · rename_i h2
      cases e
      rw [hl] at hj h2
      refine ⟨xs ++ [w], by rw [if_neg hj], by simp [hl], by simp; omega, ?_⟩
      rw [List.zip_append hl, List.append_assoc]
      exact h
    · cases e
end Fx
end
section
set_option linter.all false
set_option Elab.async false
set_option maxRecDepth 100000
set_option maxHeartbeats 4000000
/-! The small language and what it computes. -/
namespace Fx
open PySem PySem.Spec L2

/-! ### data -/
mutual
def D.py : D → PyData
  | .non => .none
  | .bl b => .bool b
  | .int i => .int i
  | .str x => .str x
  | .tup ds => .tuple (D.pys ds)
  | .lst ds => .list (D.pys ds)
  | .rng _ _ => .dict []
  | .ins _ _ => .dict []
  | .dct _ _ => .dict []
  | .err _ _ => .dict []
def D.pys : List D → List PyData
  | [] => []
  | d :: ds => d.py :: D.pys ds
end
mutual
/-- no instance, no range within -/
def D.plain : D → Bool
  | .non => true
  | .bl _ => true
  | .int _ => true
  | .str _ => true
  | .tup ds => D.plains ds
  | .lst ds => D.plains ds
  | .rng _ _ => false
  | .ins _ _ => false
  | .dct _ _ => false
  | .err _ _ => false
def D.plains : List D → Bool
  | [] => true
  | d :: ds => d.plain && D.plains ds
end
mutual
def D.depth : D → Nat
  | .tup ds => D.depths ds + 1
  | .lst ds => D.depths ds + 1
  | _ => 0
def D.depths : List D → Nat
  | [] => 0
  | d :: ds => max d.depth (D.depths ds)
end
mutual
/-- Python's == of plain data -/
def D.eqv : D → D → Bool
  | .non, .non => true
  | .bl a, .bl b => a == b
  | .bl a, .int j => (if a then 1 else 0) == j
  | .int i, .bl b => i == (if b then 1 else 0)
  | .int i, .int j => i == j
  | .str x, .str y => x == y
  | .lst xs, .lst ys => D.eqvs xs ys
  | .tup xs, .tup ys => D.eqvs xs ys
  | _, _ => false
def D.eqvs : List D → List D → Bool
  | [], [] => true
  | x :: xs, y :: ys => x.eqv y && D.eqvs xs ys
  | [], _ :: _ => false
  | _ :: _, [] => false
end

abbrev LINE : Nat := 16777216

/-! ### the language -/
/-- built-in functions that are called by name -/
inductive BF where
  | len | abs | int | str | list | tuple | all | any | sum | range | sorted | max | min
deriving DecidableEq
/-- what isinstance is asked for -/
inductive IsT where
  | int | bool | tuple | list | str | cls (c : Nat) | listTuple
deriving DecidableEq
/-- a target: a name, a tuple of names -/
inductive Tg where
  | one (i : Nat) | many (is : List Nat)
deriving DecidableEq

mutual
inductive IE where
  | any
  | var (i : Nat) | cst (d : D) | glob (g : Nat)
  | tup (es : IEs) | lst (es : IEs)
  | bin (op : Operator) (a b : IE) | neg (a : IE)
  | bop (isAnd : Bool) (es : IEs) | nt (a : IE)
  | cmp (op : CmpOp) (a b : IE) | eqo (a b : IE) | neo (a b : IE) | cmp2 (o1 o2 : CmpOp) (a b c : IE)
  | ife (c a b : IE)
  | idx (a b : IE) | slc (a : IE) (lo hi : IO) | rev (a : IE)
  | attr (a : IE) (f : Nat)
  | call (f : Nat) (es : IEs) | make (c : Nat) (es : IEs) | cb (b : BF) (es : IEs)
  | isi (a : IE) (t : IsT)
  | dnew | srts (a : IE)
  | mcall (m : Nat) (i : Nat) (es : IEs)
  | idf (i f : Nat) (k : IE) | inf (ng : Bool) (k : IE) (i f : Nat)
  | lix (a b : IE) | gcd (a b : IE)
  /-- a name, read for good; len(x.f), the truth of x.f, x.f.pop(): a list that a field owns; i == j by identity; == of tuples, member by member -/
  | frz (i : Nat) | fln (i f : Nat) | ftr (i f : Nat) | fpop (i f : Nat) | eqb (i j : Nat) | eqt (a b : IE)
  /-- an error, made; its field; isinstance of it (none: ValueError) -/
  | emk (c : Nat) (e : IE) | eat (e : IE) (n : Str) | isx (e : IE) (o : Option Nat)
  | comp (elt : IE) (own : List Nat) (tg : Tg) (src : II) (c : IO)
  /-- over the keys of the dict that the name i owns; it is owned behind it too -/
  | compd (i : Nat) (elt : IE) (own : List Nat) (tg : Tg) (c : IO)
  | comp2 (elt : IE) (own own1 : List Nat) (tg : Tg) (src : II) (tg1 : Tg) (src1 : II) (c : IO)
inductive IO where
  | non | som (e : IE)
inductive IEs where
  | nil | cons (e : IE) (es : IEs) | star (e : IE) (es : IEs)
inductive II where
  | seq (e : IE) | enum (e : IE) | zip (a b : IE) | items (e : IE)
end

/-- what an except suite returns: a constant, the error's field, a pair of a constant and it; isinstance(e, C) and e.f == d -/
inductive HE where
  | cst (d : D) | fld (n : Str) | pair (d : D) (n : Str) | isEq (c : Nat) (n : Str) (d : D)
/-- an except clause: the class, the name's slot, what is returned -/
structure Hd where
  c : Nat
  slot : Option Nat
  ret : HE
mutual
inductive IS where
  | any
  | asg (i : Nat) (e : IE) | unp (is : List Nat) (e : IE) | par (is : List Nat) (es : IEs)
  | seti (i : Nat) (k v : IE) | setd (i : Nat) (k v : IE) | sdf (i : Nat) (k v : IE) | fld (i : Nat) (f : Nat) (e : IE)
  | fldo (i : Nat) (f : Nat) (e : IE) | setf (i : Nat) (f : Nat) (k v : IE) | whl (c : IE) (body : ISs) | aug (sb : Bool) (i : Nat) (e : IE)
  | app (i : Nat) (e : IE) | insr (i : Nat) (k e : IE)
  /-- x.f.append((x.f1, x.f2)) -/
  | fapp (i f f1 f2 : Nat)
  | ex (e : IE) | ifs (c : IE) (a b : ISs) | for_ (tg : Tg) (src : II) (body : ISs)
  | ret (e : IE) | retm (i : Nat) | rai (c : Nat) (e : IE) | try_ (body : ISs) (hs : List Hd)
  | brk | cnt | pas
inductive ISs where
  | nil | cons (s : IS) (ss : ISs)
end

/-! ### outcomes -/
inductive Res (α : Type) where
  | ok (a : α) (ρ : Env) | exc (c : Nat) (d : D) (ρ : Env) | stuck
inductive FRes where
  | ok (r : R) (outs : Env) | exc (c : Nat) (d : D) (outs : Env) | stuck
inductive SRes where
  | nx (ρ : Env) | rt (r : R) (ρ : Env) | bk (ρ : Env) | ct (ρ : Env) | exc (c : Nat) (d : D) (ρ : Env) | stuck
abbrev Fn := Nat → List R → FRes

def Res.bind {α β : Type} (x : Res α) (k : α → Env → Res β) : Res β := match x with
  | .ok a ρ => k a ρ
  | .exc c d ρ => .exc c d ρ
  | .stuck => .stuck
/-- nothing may be raised here -/
def Res.calm {α : Type} (x : Res α) : Res α := match x with
  | .ok a ρ => .ok a ρ
  | .exc _ _ _ => .stuck
  | .stuck => .stuck
def Res.thn {α : Type} (x : Res α) (k : α → Env → SRes) : SRes := match x with
  | .ok a ρ => k a ρ
  | .exc c d ρ => .exc c d ρ
  | .stuck => .stuck
def SRes.thn (x : SRes) (k : Env → SRes) : SRes := match x with
  | .nx ρ => k ρ
  | .rt r ρ => .rt r ρ
  | .bk ρ => .bk ρ
  | .ct ρ => .ct ρ
  | .exc c d ρ => .exc c d ρ
  | .stuck => .stuck
def optR {α : Type} (o : Option α) (ρ : Env) : Res α := match o with
  | some a => .ok a ρ
  | none => .stuck

def mulOk (i j : Int) : Bool := (decide (-18446744073709551616 < i) && decide (i < 18446744073709551616)) || (decide (-18446744073709551616 < j) && decide (j < 18446744073709551616))
def binD (op : Operator) (x y : D) : Option R := match op, x, y with
  | .Add, .int i, .int j => some (.val (.int (i + j)))
  | .Add, .tup a, .tup b => if a.length + b.length ≤ LINE then some (.val (.tup (a ++ b))) else none
  | .Add, .lst a, .lst b => if a.length + b.length ≤ LINE then some (.lst (a ++ b)) else none
  | .Add, .str a, .str b => if a.length + b.length ≤ LINE then some (.val (.str (a ++ b))) else none
  | .Sub, .int i, .int j => some (.val (.int (i - j)))
  | .Mult, .int i, .int j => if mulOk i j = true then some (.val (.int (i * j))) else none
  | .Mult, .tup a, .int k => if a ≠ [] ∧ 2 ≤ k ∧ k ≤ 1000 ∧ a.length ≤ 1000 then some (.val (.tup (List.replicate k.toNat a).flatten)) else if (a = [] ∨ k = 1) ∧ -1000 ≤ k ∧ k ≤ 1000 then some (.val (.tup a)) else if a ≠ [] ∧ -1000 ≤ k ∧ k ≤ 0 then some (.val (.tup [])) else none
  | .Mult, .lst a, .int k => if a.length ≤ 1000 ∧ 0 ≤ k ∧ k ≤ 1000 then some (.lst (List.replicate k.toNat a).flatten) else none
  | .LShift, .int i, .int j => if 0 ≤ j ∧ j ≤ 1000 ∧ i.natAbs < 18446744073709551616 then some (.val (.int (i * 2 ^ j.toNat))) else none
  | .BitAnd, .int i, .int j => some (.val (.int (Builtin.bitAnd i j)))
  | .FloorDiv, .int i, .int j => if 0 < j ∧ j < 1073741824 then some (.val (.int (i / j))) else none
  | .Mod, .int i, .int j => if 0 < j then some (.val (.int (i % j))) else none
  | .Pow, .int i, .int j => if 0 ≤ j ∧ j ≤ 1000000 ∧ i.natAbs < 18446744073709551616 then some (.val (.int (i ^ j.toNat))) else none
  | _, _, _ => none
def eqD (x y : D) : Option Bool := if (x.plain && y.plain && decide (min x.depth y.depth ≤ 40)) = true then some (x.eqv y) else none
/-- data that Python orders one by the other -/
def ordOk (x y : D) : Bool := x.plain && (y.plain && (decide (min x.depth y.depth ≤ 40) && (PySem.W.alike x.py y.py && !(match x with
  | .non => true
  | _ => false))))
def dltD (x y : D) : Bool := PySem.W.dataLt x.py y.py
def ltD : D → D → Option Bool
  | .int i, .int j => some (decide (i < j))
  | x, y => if ordOk x y = true then some (dltD x y) else none
/-! ### dicts -/
/-- the key k may be asked of a dict with the keys ks -/
def keyOk (ks : List D) (k : D) : Bool := (k.isInt && ks.all D.isInt) || (k.isTK && ks.all D.isTK)
def dFind (ks : List D) (k : D) : Option Nat := ks.findIdx? fun x => x.eqv k
def dGet (ks vs : List D) (k : D) : Option D := (dFind ks k).bind fun j => vs[j]?
def dPutK (ks : List D) (k : D) : List D := match dFind ks k with
  | some _ => ks
  | none => ks ++ [k]
def dPutV (ks vs : List D) (k v : D) : List D := match dFind ks k with
  | some j => vs.set j v
  | none => vs ++ [v]
/-! ### sorting -/
/-- what sorted takes -/
def sortOk (ds : List D) : Bool := D.plains ds && (decide (D.depths ds ≤ 40) && (decide (ds.length ≤ LINE) && ((ds.all fun x => ds.all fun y => PySem.W.alike x.py y.py) &&
  ((ds.all fun x => match x with
    | .tup (_ :: _) => true
    | _ => false) || ((ds.all fun x => match x with
    | .tup _ => false
    | .non => false
    | _ => true) || ((match ds with
    | .tup [] :: _ => true
    | _ => false) || (ds.all fun x => match x with
    | .tup _ => true
    | _ => false)))))))
def leD (x y : D) : Bool := !dltD y x
def sortD (ds : List D) : Option (List D) := if sortOk ds = true then some (ds.mergeSort leD) else none
/-- sorted(set(..)) of ints -/
def insI (x : Int) : List Int → List Int
  | [] => [x]
  | y :: ys => if x < y then x :: y :: ys else if x = y then y :: ys else y :: insI x ys
def usort (ns : List Int) : List Int := ns.foldr insI []
def maxI : List Int → Option Int
  | [] => none
  | n :: ns => some (ns.foldl max n)
def minI : List Int → Option Int
  | [] => none
  | n :: ns => some (ns.foldl min n)
def D.isNon : D → Bool
  | .non => true
  | _ => false
def isD (x y : D) : Option Bool := match x, y with
  | x, .non => some x.isNon
  | .bl a, .bl b => some (a == b)
  | _, _ => none
def inD (x : D) : D → Option Bool
  | .tup ds => if (x.plain && D.plains ds && decide (min (D.depths ds) x.depth ≤ 40)) = true then some (ds.any fun y => y.eqv x) else none
  | .lst ds => if (x.plain && D.plains ds && decide (min (D.depths ds) x.depth ≤ 40)) = true then some (ds.any fun y => y.eqv x) else none
  | .dct ks _ => if keyOk ks x = true then some (dFind ks x).isSome else none
  | _ => none
/-- a comparison of data -/
def cmpD (op : CmpOp) (x y : D) : Option Bool := match op with
  | .Eq => eqD x y
  | .NotEq => (eqD x y).map not
  | .Lt => ltD x y
  | .Gt => ltD y x
  | .LtE => (ltD y x).map not
  | .GtE => (ltD x y).map not
  | .Is => isD x y
  | .IsNot => (isD x y).map not
  | .In => inD x y
  | .NotIn => (inD x y).map not
/-- a comparison, as a value -/
def cmpP (op : CmpOp) (x y : D) (ρ : Env) : Res R := match cmpD op x y with
  | some b => .ok (.val (.bl b)) ρ
  | none => .stuck
def truD : D → Option Bool
  | .non => some false
  | .bl b => some b
  | .int i => some (i != 0)
  | .str x => if x.length ≤ LINE then some (!decide (x.length = 0)) else none
  | .tup ds => some (!ds.isEmpty)
  | .lst ds => some (!ds.isEmpty)
  | _ => none
def idxD (x : D) (i : D) : Option D := match x, i with
  | .tup ds, .int k => atI ds k
  | .lst ds, .int k => atI ds k
  | .dct ks vs, k => if keyOk ks k = true then dGet ks vs k else none
  | _, _ => none
def cutD (ds : List D) (lo hi : Option Int) : List D := (ds.drop (HT.sIx ds.length 0 lo)).take (HT.sIx ds.length ds.length hi - HT.sIx ds.length 0 lo)
def slcD (x : D) (lo hi : Option Int) : Option R := match x with
  | .tup ds => some (.val (.tup (cutD ds lo hi)))
  | .lst ds => some (.lst (cutD ds lo hi))
  | .str t => if t.length ≤ LINE then some (.val (.str (PySem.Txt.slice t lo hi))) else none
  | _ => none
def revD : D → Option R
  | .lst ds => some (.lst ds.reverse)
  | .tup ds => some (.val (.tup ds.reverse))
  | _ => none
def rngL (lo hi : Int) : List D := (List.range (hi - lo).toNat).map fun (i : Nat) => .int (lo + i)
def zipD (xs ys : List D) : List D := (xs.zip ys).map fun p => .tup [p.1, p.2]
def enumD (ds : List D) : List D := ds.zipIdx.map fun p => .tup [.int p.2, p.1]
def rngOk (a b : Int) : Bool := decide (-4611686018427387904 ≤ a) && decide (a < 4611686018427387904) && decide (-4611686018427387904 ≤ b) && decide (b < 4611686018427387904)
def allB : List D → Option (List Bool)
  | [] => some []
  | .bl b :: ds => (allB ds).map (b :: ·)
  | _ => none
def allI : List D → Option (List Int)
  | [] => some []
  | .int i :: ds => (allI ds).map (i :: ·)
  | _ => none
def cbD (b : BF) (xs : List D) : Option R := match b, xs with
  | .len, [.tup ds] => some (.val (.int ds.length))
  | .len, [.lst ds] => some (.val (.int ds.length))
  | .abs, [.int i] => some (.val (.int (if i < 0 then -i else i)))
  | .int, [.int i] => some (.val (.int i))
  | .int, [.bl k] => some (.val (.int (if k then 1 else 0)))
  | .str, [.int i] => if i.natAbs.log2 < 1920 then some (.val (.str (toString i))) else none
  | .list, [.tup ds] => some (.lst ds)
  | .list, [.lst ds] => some (.lst ds)
  | .tuple, [.tup ds] => some (.val (.tup ds))
  | .tuple, [.lst ds] => some (.val (.tup ds))
  | .all, [.lst ds] => (allB ds).map fun bs => .val (.bl (bs.all id))
  | .any, [.lst ds] => (allB ds).map fun bs => .val (.bl (bs.any id))
  | .sum, [.lst ds] => (allI ds).map fun ns => .val (.int ns.sum)
  | .range, [.int n] => some (.val (.rng 0 n))
  | .range, [.int i, .int j] => some (.val (.rng i j))
  | .list, [.rng i j] => if rngOk i j = true ∧ (j - i).toNat ≤ LINE then some (.lst (rngL i j)) else none
  | .tuple, [.rng i j] => if rngOk i j = true ∧ (j - i).toNat ≤ LINE then some (.val (.tup (rngL i j))) else none
  | .len, [.dct ks _] => some (.val (.int ks.length))
  | .list, [.dct ks _] => some (.lst ks)
  | .sorted, [.lst ds] => (sortD ds).map .lst
  | .sorted, [.dct ds _] => (sortD ds).map .lst
  | .sorted, [.tup ds] => (sortD ds).map .lst
  | .max, [.int i, .int j] => some (.val (.int (max i j)))
  | .min, [.int i, .int j] => some (.val (.int (min i j)))
  | .max, [.lst ds] => (allI ds).bind fun ns => (maxI ns).map fun m => .val (.int m)
  | .max, [.tup ds] => (allI ds).bind fun ns => (maxI ns).map fun m => .val (.int m)
  | .min, [.lst ds] => (allI ds).bind fun ns => (minI ns).map fun m => .val (.int m)
  | .min, [.tup ds] => (allI ds).bind fun ns => (minI ns).map fun m => .val (.int m)
  | _, _ => none
def isiD (nc : Nat) (x : D) (t : IsT) : Option Bool := match x with
  | .rng _ _ => none
  | .int _ => some (decide (t = .int))
  | .bl _ => some (decide (t = .int) || decide (t = .bool))
  | .tup _ => some (decide (t = .tuple) || decide (t = .listTuple))
  | .lst _ => some (decide (t = .list) || decide (t = .listTuple))
  | .str _ => some (decide (t = .str))
  | .ins c _ => if c < nc then some (decide (t = .cls c)) else none
  | .dct _ _ => none
  | .err _ _ => none
  | .non => some false

def D.tyOk (nc : Nat) : D → Bool
  | .rng _ _ => false
  | .ins c _ => decide (c < nc)
  | .dct _ _ => false
  | .err _ _ => false
  | _ => true

/-! ### arguments -/
/-- a value in hand, or what a name owns -/
inductive Ar where
  | v (r : R) | b (i : Nat)
variable (flds : Nat → List Nat)
def Env.at (ρ : Env) (i : Nat) : Option R := (ρ[i]?).bind id
def fullD (r : R) : Option D := if r.fullB flds = true then some r.toD else none
def Ar.d (a : Ar) (ρ : Env) : Option D := match a with
  | .v r => fullD flds r
  | .b i => (ρ.at i).bind (fullD flds)
def rdVar (i : Nat) (ρ : Env) : Res R := match ρ.at i with
  | some (.val d) => .ok (.val d) ρ
  | some r => if r.fullB flds = true then .ok (.val r.toD) (ρ.set i (some (.val r.toD))) else .stuck
  | none => .stuck
def argVar (i : Nat) (ρ : Env) : Res Ar := match ρ.at i with
  | some (.val d) => .ok (.v (.val d)) ρ
  | some _ => .ok (.b i) ρ
  | none => .stuck
def isCd : IE → Bool
  | .compd .. => true
  | _ => false
def IE.isVar : IE → Option Nat
  | .var i => some i
  | _ => none
/-- an argument: a name that owns lends -/
def asArg (e : IE) (ρ : Env) (x : Res R) : Res Ar := match e with
  | .var i => argVar i ρ
  | _ => x.bind fun r ρ => .ok (.v r) ρ
def asD (x : Res R) : Res D := x.bind fun r ρ => optR (fullD flds r) ρ
/-- the arguments are handed over -/
def hand : List Ar → Env → Option (List R × Env)
  | [], ρ => some ([], ρ)
  | .v r :: as, ρ => (hand as ρ).map fun p => (r :: p.1, p.2)
  | .b i :: as, ρ => match ρ.at i with
    | some r => (hand as (ρ.set i none)).map fun p => (r :: p.1, p.2)
    | none => none
/-- what was lent comes back -/
def giveB : List Ar → Env → Env → Env
  | .b i :: as, o :: os, ρ => (giveB as os ρ).set i o
  | _ :: as, _ :: os, ρ => giveB as os ρ
  | _, _, ρ => ρ
def callR (Φ : Fn) (f : Nat) (as : List Ar) (ρ : Env) : Res R := match hand as ρ with
  | none => .stuck
  | some (rs, ρ') => match Φ f rs with
    | .ok r outs => .ok r (giveB as outs ρ')
    | .exc c d outs => .exc c d (giveB as outs ρ')
    | .stuck => .stuck
def getDs (ρ : Env) : List Ar → Option (List D)
  | [] => some []
  | a :: as => match a.d flds ρ, getDs ρ as with
    | some d, some ds => some (d :: ds)
    | _, _ => none
def setTg (tg : Tg) (d : D) (ρ : Env) : Option Env := match tg with
  | .one i => some (ρ.set i (some (.val d)))
  | .many is => match d with
    | .tup ds => if is.length = ds.length then some ((is.zip ds).foldl (fun ρ p => ρ.set p.1 (some (.val p.2))) ρ) else none
    | _ => none
def wipeE (ρ : Env) : List Nat → Env
  | [] => ρ
  | i :: is => (wipeE ρ is).set i none
def restE (ρ0 ρ : Env) : List Nat → Env
  | [] => ρ
  | i :: is => (restE ρ0 ρ is).set i (ρ0.at i)
/-- the turns of a comprehension -/
def compF (own : List Nat) (tg : Tg) (c : Env → Res Bool) (elt : Env → Res D) : List D → Env → List D → Res (List D)
  | [], ρ, acc => .ok acc ρ
  | d :: ds, ρ, acc => match setTg tg d ρ with
    | none => .stuck
    | some ρ1 => (c ρ1).bind fun b ρ2 => if b = true then (elt ρ2).bind fun x ρ3 => (if acc.length < LINE then compF own tg c elt ds (wipeE ρ3 own) (acc ++ [x]) else .stuck) else compF own tg c elt ds (wipeE ρ2 own) acc
/-- the turns of the first of two clauses -/
def compF2 (own : List Nat) (tg : Tg) (inner : Env → Res (List D)) (turns : List D → Env → List D → Res (List D)) : List D → Env → List D → Res (List D)
  | [], ρ, acc => .ok acc ρ
  | d :: ds, ρ, acc => match setTg tg d ρ with
    | none => .stuck
    | some ρ1 => (inner ρ1).bind fun es ρ2 => (turns es ρ2 acc).bind fun acc' ρ3 => compF2 own tg inner turns ds (wipeE ρ3 own) acc'
/-- the new instance's fields as they stand, the arguments behind -/
def makeR (Φ : Fn) (ini : Nat → Nat) (c : Nat) (as : List Ar) (ρ : Env) : Res R := match hand as ρ with
  | none => .stuck
  | some (rs, ρ') => match Φ (ini c) (.obj c [] :: rs) with
    | .ok (.val .non) (some r :: outs) => .ok r (giveB as outs ρ')
    | .exc x d (_ :: outs) => .exc x d (giveB as outs ρ')
    | _ => .stuck

/-- what is fixed: the fields of classes, their __init__ and __eq__, the module's constants, the exceptions' order -/
structure G where
  nc : Nat
  flds : Nat → List Nat
  ini : Nat → Nat
  eqf : Nat → Nat
  eqk : Nat → Bool
  gl : Nat → Option D
  isa : Nat → Nat → Bool
  nx : Nat
  xf : Nat → Str
  /-- the methods: their class, their def -/
  meth : Nat → Option (Nat × Nat)
def isxB (g : G) (c : Nat) : Option Nat → Bool
  | some c' => g.isa c c'
  | none => true
variable (g : G)
/-- the class of what a call's object is -/
def clsA (ρ : Env) (a : Ar) : Option Nat := match a with
  | .v (.val (.ins c _)) => some c
  | .v _ => none
  | .b i => match ρ.at i with
    | some (.obj c _) => some c
    | _ => none
/-- o.m(..), o a name -/
def mcallR (Φ : Fn) (m : Nat) (x : Res Ar) (as : Env → Res (List Ar)) : Res R := x.bind fun a ρ => match g.meth m with
  | some (c, f) => if clsA ρ a = some c ∧ c < g.nc then (as ρ).bind fun as ρ => callR Φ f (a :: as) ρ else .stuck
  | none => .stuck
/-- an owned field -/
def fldR (f : Nat) (o : Option R) : Option (Nat × List R × Nat × R) := match o with
  | some (.obj c rs) => if c < g.nc then (match rs[(g.flds c).idxOf f]? with
    | some r => some (c, rs, (g.flds c).idxOf f, r)
    | none => none) else none
  | _ => none
/-- the list that a field holds -/
def fldL (f : Nat) (o : Option R) : Option (List D) := match o with
  | some (.obj c rs) => if c < g.nc then (match rs[(g.flds c).idxOf f]? with
    | some (.lst ds) => some ds
    | _ => none) else none
  | some (.val (.ins c ds)) => if c < g.nc then (match ds[(g.flds c).idxOf f]? with
    | some (.lst xs) => some xs
    | _ => none) else none
  | _ => none
/-- == where the left may be an instance with an own == -/
def eqoR (Φ : Fn) (x y : D) (ρ : Env) : Res R := match x with
  | .ins c _ => if g.eqk c = true ∧ c < g.nc ∧ y.tyOk g.nc = true then (match Φ (g.eqf c) [.val x, .val y] with
    | .ok (.val (.bl b)) _ => .ok (.val (.bl b)) ρ
    | _ => .stuck) else .stuck
  | _ => optR ((eqD x y).map fun b => .val (.bl b)) ρ
/-- !=, by == -/
def notR (x : Res R) : Res R := x.bind fun r ρ => match r with
  | .val (.bl b) => .ok (.val (.bl (!b))) ρ
  | _ => .stuck
/-- two members, seen to be equal -/
def samD (Φ : Fn) (x y : D) : Bool := match x, y with
  | .ins c ds, .ins c' es => decide (g.eqk c = true) && (decide (c < g.nc) && ((D.ins c' es).tyOk g.nc && (match Φ (g.eqf c) [.val (.ins c ds), .val (.ins c' es)] with
    | .ok (.val (.bl b)) _ => b
    | _ => false)))
  | x, y => match eqD x y with
    | some b => b
    | none => false
def samL (Φ : Fn) : List D → List D → Bool
  | [], [] => true
  | x :: xs, y :: ys => samD g Φ x y && samL Φ xs ys
  | _, _ => false
/-- two tuples with an instance among their members, seen to be equal -/
def samT (Φ : Fn) (x y : D) : Bool := match x, y with
  | .tup xs, .tup ys => !D.plains xs && samL g Φ xs ys
  | _, _ => false
mutual
/-- of one make -/
def D.alk : D → D → Bool
  | .int _, .int _ => true
  | .tup xs, .tup ys => D.alks xs ys
  | .ins c xs, .ins c' ys => decide (c = c') && D.alks xs ys
  | _, _ => false
def D.alks : List D → List D → Bool
  | [], _ => true
  | _, [] => true
  | x :: xs, y :: ys => x.alk y && D.alks xs ys
end
def okT : FRes → Option Bool
  | .ok (.val (.bl b)) _ => some b
  | _ => none
/-- two members -/
def datD (Φ : Fn) (x y : D) : Option Bool := match x, y with
  | .ins c ds, .ins c' es => if (decide (g.eqk c = true) && (decide (c < g.nc) && (D.ins c' es).tyOk g.nc)) = true then (match okT (Φ (g.eqf c) [.val (.ins c ds), .val (.ins c' es)]) with
    | some true => some true
    | some false => if ((D.ins c ds).alk (.ins c' es) && decide (okT (Φ (g.eqf c) [.val (.ins c ds), .val (.ins c ds)]) = some true)) = true then some false else none
    | none => none) else none
  | x, y => eqD x y
def datL (Φ : Fn) : List D → List D → Option Bool
  | [], [] => some true
  | x :: xs, y :: ys => if xs.length = ys.length then (match datD g Φ x y with
    | some true => datL Φ xs ys
    | some false => some false
    | none => none) else none
  | _, _ => none
/-- == of tuples of one length -/
def datT (Φ : Fn) (x y : D) : Option Bool := match x, y with
  | .tup xs, .tup ys => datL g Φ xs ys
  | _, _ => none
def neoR (Φ : Fn) (x y : D) (ρ : Env) : Res R := if samT g Φ x y = true then .ok (.val (.bl false)) ρ else notR (eqoR g Φ x y ρ)
def attrR (f : Nat) (x : D) : Option D := match x with
  | .ins c ds => if c < g.nc then ds[(g.flds c).idxOf f]? else none
  | _ => none
/-- a field of what may still lack some -/
def attrO (f : Nat) (r : R) : Option D := match r with
  | .obj c rs => if c < g.nc then (match rs[(g.flds c).idxOf f]? with
    | some (.val d) => some d
    | _ => none) else none
  | .val d => attrR g f d
  | _ => none
/-- a test's outcome -/
def tstA (x : Res Ar) : Res Bool := x.bind fun a ρ => optR ((a.d g.flds ρ).bind truD) ρ
def restB (isAnd : Bool) (d : D) (rest : Env → Res R) (ρ : Env) : Res R := match truD d with
  | some k => if k = isAnd then rest ρ else .ok (.val d) ρ
  | none => .stuck

section
variable (Φ : Fn)
mutual
def evE : IE → Env → Res R
  | .any, ρ => .stuck
  | .var i, ρ => rdVar g.flds i ρ
  | .cst d, ρ => .ok (.val d) ρ
  | .glob x, ρ => optR ((g.gl x).map .val) ρ
  | .tup es, ρ => (evDs es ρ).bind fun ds ρ => if ds.length ≤ LINE then .ok (.val (.tup ds)) ρ else .stuck
  | .lst es, ρ => (evDs es ρ).bind fun ds ρ => if ds.length ≤ LINE then .ok (.lst ds) ρ else .stuck
  | .bin op a b, ρ => (asArg a ρ (evE a ρ)).bind fun x ρ => (asArg b ρ (evE b ρ)).bind fun y ρ => match x.d g.flds ρ, y.d g.flds ρ with
    | some x, some y => optR (binD op x y) ρ
    | _, _ => .stuck
  | .neg a, ρ => (asD g.flds (evE a ρ)).bind fun x ρ => match x with
    | .int i => .ok (.val (.int (-i))) ρ
    | _ => .stuck
  | .bop isAnd es, ρ => evB isAnd es ρ
  | .nt a, ρ => (tstA g (asArg a ρ (evE a ρ))).bind fun b ρ => .ok (.val (.bl (!b))) ρ
  | .cmp op a b, ρ => (asArg a ρ (evE a ρ)).bind fun x ρ => (asArg b ρ (evE b ρ)).bind fun y ρ => match x.d g.flds ρ, y.d g.flds ρ with
    | some x, some y => cmpP op x y ρ
    | _, _ => .stuck
  | .eqo a b, ρ => (asD g.flds (evE a ρ)).bind fun x ρ => (asD g.flds (evE b ρ)).bind fun y ρ => eqoR g Φ x y ρ
  | .neo a b, ρ => (asD g.flds (evE a ρ)).bind fun x ρ => (asD g.flds (evE b ρ)).bind fun y ρ => neoR g Φ x y ρ
  | .cmp2 o1 o2 a b c, ρ => (asD g.flds (evE a ρ)).bind fun x ρ => (asD g.flds (evE b ρ)).bind fun y ρ => match cmpD o1 x y with
    | some true => (asD g.flds (evE c ρ)).bind fun z ρ => optR ((cmpD o2 y z).map fun k => .val (.bl k)) ρ
    | some false => .ok (.val (.bl false)) ρ
    | none => .stuck
  | .ife c a b, ρ => (tstA g (asArg c ρ (evE c ρ))).bind fun k ρ => if k = true then evE a ρ else evE b ρ
  | .idx a b, ρ => (asArg a ρ (evE a ρ)).bind fun x ρ => (asD g.flds (evE b ρ)).bind fun y ρ => match x.d g.flds ρ with
    | some x => optR ((idxD x y).map .val) ρ
    | none => .stuck
  | .slc a lo hi, ρ => (asArg a ρ (evE a ρ)).bind fun x ρ => (evO lo ρ).bind fun l ρ => (evO hi ρ).bind fun h ρ => match x.d g.flds ρ with
    | some x => optR (slcD x l h) ρ
    | none => .stuck
  | .rev a, ρ => (asArg a ρ (evE a ρ)).bind fun x ρ => match x.d g.flds ρ with
    | some x => optR (revD x) ρ
    | none => .stuck
  | .attr a f, ρ => match a with
    | .var i => match ρ.at i with
      | some r => optR ((attrO g f r).map .val) ρ
      | none => .stuck
    | _ => (asD g.flds (evE a ρ)).bind fun x ρ => optR ((attrR g f x).map .val) ρ
  | .call f es, ρ => (evAs es ρ).bind fun as ρ => callR Φ f as ρ
  | .make c es, ρ => (evAs es ρ).bind fun as ρ => makeR Φ g.ini c as ρ
  | .cb b es, ρ => (evAs es ρ).bind fun as ρ => match getDs g.flds ρ as with
    | some ds => optR (cbD b ds) ρ
    | none => .stuck
  | .isi a t, ρ => (asArg a ρ (evE a ρ)).bind fun x ρ => match x.d g.flds ρ with
    | some x => optR ((isiD g.nc x t).map fun b => .val (.bl b)) ρ
    | none => .stuck
  | .dnew, ρ => .ok (.dct [] []) ρ
  | .mcall m i es, ρ => mcallR g Φ m (argVar i ρ) fun ρ => evAs es ρ
  | .idf i f k, ρ => match fldR g f (ρ.at i) with
    | some (c, rs, _, .dct ks vs) => (asD g.flds (evE k (ρ.set i none))).bind fun kd ρ => if keyOk ks kd = true then optR ((dGet ks vs kd).map .val) (ρ.set i (some (.obj c rs))) else .stuck
    | _ => .stuck
  | .inf ng k i f, ρ => (asD g.flds (evE k ρ)).bind fun kd ρ => match fldR g f (ρ.at i) with
    | some (_, _, _, .dct ks _) => if keyOk ks kd = true then .ok (.val (.bl (ng ^^ (dFind ks kd).isSome))) ρ else .stuck
    | _ => .stuck
  | .lix a b, ρ => (asD g.flds (evE a ρ)).bind fun x ρ => match x with
    | .lst ds => (asD g.flds (evE b ρ)).bind fun y ρ => if (ds.all D.isInt && y.isInt) = true then optR ((ds.findIdx? fun z => z.eqv y).map fun j => .val (.int j)) ρ else .stuck
    | _ => .stuck
  | .gcd a b, ρ => (asD g.flds (evE a ρ)).bind fun x ρ => (asD g.flds (evE b ρ)).bind fun y ρ => match x, y with
    | .int i, .int j => .ok (.val (.int (Nat.gcd i.natAbs j.natAbs))) ρ
    | _, _ => .stuck
  | .frz i, ρ => rdVar g.flds i ρ
  | .fln i f, ρ => optR ((fldL g f (ρ.at i)).map fun ds => .val (.int ds.length)) ρ
  | .ftr i f, ρ => optR ((fldL g f (ρ.at i)).map fun ds => .val (.bl (!ds.isEmpty))) ρ
  | .fpop i f, ρ => match fldR g f (ρ.at i) with
    | some (c, rs, j, .lst ds) => (match ds[ds.length - 1]? with
      | some d => .ok (.val d) (ρ.set i (some (.obj c (rs.set j (.lst ds.dropLast)))))
      | none => .stuck)
    | _ => .stuck
  | .eqb i j, ρ => match ρ.at i, ρ.at j with
    | some (.obj c _), some (.obj c' _) => if g.eqk c = false ∧ c < g.nc ∧ c' = c then .ok (.val (.bl (decide (i = j)))) ρ else .stuck
    | _, _ => .stuck
  | .eqt a b, ρ => (asD g.flds (evE a ρ)).bind fun x ρ => (asD g.flds (evE b ρ)).bind fun y ρ => optR ((datT g Φ x y).map fun k => .val (.bl k)) ρ
  | .emk c e, ρ => (asD g.flds (evE e ρ)).bind fun d ρ => .ok (.val (.err c d)) ρ
  | .eat e n, ρ => (asD g.flds (evE e ρ)).bind fun x ρ => match x with
    | .err c d => if c < g.nx ∧ g.xf c = n then .ok (.val d) ρ else .stuck
    | _ => .stuck
  | .isx e o, ρ => (asD g.flds (evE e ρ)).bind fun x ρ => match x with
    | .err c _ => if c < g.nx then .ok (.val (.bl (isxB g c o))) ρ else .stuck
    | _ => .stuck
  | .srts a, ρ => (asD g.flds (evE a ρ)).bind fun x ρ => match x with
    | .lst ds => if ds.length < 64 then optR ((allI ds).map fun ns => .lst ((usort ns).map .int)) ρ else .stuck
    | _ => .stuck
  | .comp elt own tg src c, ρ => (evI src ρ).bind fun ds ρ =>
      ((compF own tg (fun ρ => evC c ρ) (fun ρ => asD g.flds (evE elt ρ)) ds (wipeE ρ own) []).bind fun acc ρ' => .ok (.lst acc) (restE ρ ρ' own)).calm
  | .compd i elt own tg c, ρ => match ρ.at i with
    | some (.dct ks vs) => ((compF own tg (fun ρ => evC c ρ) (fun ρ => asD g.flds (evE elt ρ)) ks (wipeE (ρ.set i none) own) []).bind fun acc ρ' => .ok (.lst acc) ((restE (ρ.set i none) ρ' own).set i (some (.dct ks vs)))).calm
    | _ => .stuck
  | .comp2 elt own own1 tg src tg1 src1 c, ρ => (evI src ρ).bind fun ds ρ =>
      ((compF2 own tg (fun ρ => (evI src1 ρ).bind fun es ρ => .ok es (wipeE ρ own1)) (compF own1 tg1 (fun ρ => evC c ρ) (fun ρ => asD g.flds (evE elt ρ))) ds (wipeE ρ own) []).bind fun acc ρ' => .ok (.lst acc) (restE ρ ρ' own)).calm
def evC : IO → Env → Res Bool
  | .non, ρ => .ok true ρ
  | .som e, ρ => tstA g (asArg e ρ (evE e ρ))
def evO : IO → Env → Res (Option Int)
  | .non, ρ => .ok none ρ
  | .som e, ρ => (asD g.flds (evE e ρ)).bind fun d ρ => match d with
    | .int i => .ok (some i) ρ
    | _ => .stuck
def evDs : IEs → Env → Res (List D)
  | .nil, ρ => .ok [] ρ
  | .cons e es, ρ => (asD g.flds (evE e ρ)).bind fun d ρ => (evDs es ρ).bind fun ds ρ => .ok (d :: ds) ρ
  | .star e es, ρ => (asD g.flds (evE e ρ)).bind fun d ρ => match d with
    | .tup xs => (evDs es ρ).bind fun ds ρ => .ok (xs ++ ds) ρ
    | .lst xs => (evDs es ρ).bind fun ds ρ => .ok (xs ++ ds) ρ
    | _ => .stuck
def evAs : IEs → Env → Res (List Ar)
  | .nil, ρ => .ok [] ρ
  | .cons e es, ρ => (asArg e ρ (evE e ρ)).bind fun a ρ => (evAs es ρ).bind fun as ρ => .ok (a :: as) ρ
  | .star _ _, ρ => .stuck
/-- and, or -/
def evB (isAnd : Bool) : IEs → Env → Res R
  | .nil, ρ => .stuck
  | .cons e .nil, ρ => evE e ρ
  | .cons e (.cons e2 es), ρ => (asD g.flds (evE e ρ)).bind fun d ρ => restB isAnd d (fun ρ => evB isAnd (.cons e2 es) ρ) ρ
  | .cons _ (.star _ _), ρ => .stuck
  | .star _ _, ρ => .stuck
def evI : II → Env → Res (List D)
  | .seq e, ρ => (asD g.flds (evE e ρ)).bind fun d ρ => match d with
    | .tup ds => .ok ds ρ
    | .lst ds => .ok ds ρ
    | .rng lo hi => if rngOk lo hi = true then .ok (rngL lo hi) ρ else .stuck
    | .dct ks _ => .ok ks ρ
    | _ => .stuck
  | .enum e, ρ => (asD g.flds (evE e ρ)).bind fun d ρ => match d with
    | .lst ds => .ok (enumD ds) ρ
    | .tup ds => .ok (enumD ds) ρ
    | _ => .stuck
  | .zip a b, ρ => (asD g.flds (evE a ρ)).bind fun x ρ => (asD g.flds (evE b ρ)).bind fun y ρ => match x, y with
    | .lst xs, .lst ys => .ok (zipD xs ys) ρ
    | .tup xs, .tup ys => .ok (zipD xs ys) ρ
    | _, _ => .stuck
  | .items e, ρ => (asD g.flds (evE e ρ)).bind fun d ρ => match d with
    | .dct ks vs => .ok (zipD ks vs) ρ
    | _ => .stuck
end
def teE (e : IE) (ρ : Env) : Res Bool := tstA g (asArg e ρ (evE g Φ e ρ))
/-- the turns of a for -/
def forF (tg : Tg) (body : Env → SRes) : List D → Env → SRes
  | [], ρ => .nx ρ
  | d :: ds, ρ => match setTg tg d ρ with
    | none => .stuck
    | some ρ1 => match body ρ1 with
      | .nx ρ2 => forF tg body ds ρ2
      | .ct ρ2 => forF tg body ds ρ2
      | .bk ρ2 => .nx ρ2
      | x => x
/-- the turns of a while, so many at most -/
def whF (c : Env → Res Bool) (body : Env → SRes) : Nat → Env → SRes
  | 0, _ => .stuck
  | n + 1, ρ => (c ρ).thn fun b ρ => if b = true then (match body ρ with
      | .nx ρ2 => whF c body n ρ2
      | .ct ρ2 => whF c body n ρ2
      | .bk ρ2 => .nx ρ2
      | x => x) else .nx ρ
/-- values in hand -/
def arRs : List Ar → Option (List R)
  | [] => some []
  | .v r :: as => (arRs as).map (r :: ·)
  | .b _ :: _ => none
def setRs : List Nat → List R → Env → Env
  | i :: is, r :: rs, ρ => setRs is rs (ρ.set i (some r))
  | _, _, ρ => ρ
def storeL (is : List Nat) (ds : List D) (ρ : Env) : Env := (is.zip ds).foldl (fun ρ p => ρ.set p.1 (some (.val p.2))) ρ
def HE.ev (h : HE) (c : Nat) (d : D) : Option D := match h with
  | .cst x => some x
  | .fld n => if g.xf c = n then some d else none
  | .pair x n => if g.xf c = n then some (.tup [x, d]) else none
  | .isEq c' n x => if g.isa c c' = true then (if g.xf c = n then (eqD d x).map .bl else none) else some (.bl false)
def evHs : List Hd → Nat → D → Env → SRes
  | [], c, d, ρ => .exc c d ρ
  | h :: hs, c, d, ρ => if c < g.nx then (if g.isa c h.c = true then (match h.ret.ev g c d with
      | some r => .rt (.val r) (match h.slot with
        | some i => ρ.set i none
        | none => ρ)
      | none => .stuck) else evHs hs c d ρ) else .stuck
mutual
def evS : IS → Env → SRes
  | .any, ρ => .stuck
  | .asg i e, ρ => (evE g Φ e ρ).thn fun r ρ => .nx (ρ.set i (some r))
  | .unp is e, ρ => (asD g.flds (evE g Φ e ρ)).thn fun d ρ => match setTg (.many is) d ρ with
    | some ρ' => .nx ρ'
    | none => .stuck
  | .par is es, ρ => (evAs g Φ es ρ).thn fun as ρ => match arRs as with
    | some rs => if is.length = rs.length then .nx (setRs is rs ρ) else .stuck
    | none => .stuck
  | .seti i k v, ρ => (asD g.flds (evE g Φ v ρ)).thn fun d ρ => match ρ.at i with
    | some (.lst _) => (asD g.flds (evE g Φ k ρ)).thn fun k ρ => (match ρ.at i, k with
      | some (.lst ds), .int k => (match ixN ds.length k with
        | some j => .nx (ρ.set i (some (.lst (ds.set j d))))
        | none => .stuck)
      | _, _ => .stuck)
    | _ => .stuck
  | .setd i k v, ρ => (asD g.flds (evE g Φ v ρ)).thn fun d ρ => match ρ.at i with
    | some (.dct _ _) => (asD g.flds (evE g Φ k ρ)).thn fun k ρ => (match ρ.at i with
      | some (.dct ks vs) => if keyOk ks k = true ∧ ks.length < LINE then .nx (ρ.set i (some (.dct (dPutK ks k) (dPutV ks vs k d)))) else .stuck
      | _ => .stuck)
    | _ => .stuck
  | .sdf i k v, ρ => match ρ.at i with
    | some (.dct ks0 _) => if ks0.all D.isInt = true then (asD g.flds (evE g Φ k ρ)).thn fun k ρ => (asD g.flds (evE g Φ v ρ)).thn fun d ρ => (match ρ.at i with
      | some (.dct ks vs) => if k.isInt = true ∧ ks.all D.isInt = true ∧ ks.length < LINE then .nx (ρ.set i (some (match dFind ks k with
        | some _ => .dct ks vs
        | none => .dct (ks ++ [k]) (vs ++ [d])))) else .stuck
      | _ => .stuck) else .stuck
    | _ => .stuck
  | .fld i f e, ρ => (asD g.flds (evE g Φ e ρ)).thn fun d ρ => match ρ.at i with
    | some (.obj c rs) => if c < g.nc ∧ (g.flds c).idxOf f = rs.length ∧ rs.length < (g.flds c).length then .nx (ρ.set i (some (.obj c (rs ++ [.val d])))) else .stuck
    | _ => .stuck
  | .fldo i f e, ρ => (evE g Φ e ρ).thn fun r ρ => match ρ.at i with
    | some (.obj c rs) => if c < g.nc then (match fldPut ((g.flds c).idxOf f) (g.flds c).length rs r with
      | some rs' => .nx (ρ.set i (some (.obj c rs')))
      | none => .stuck) else .stuck
    | _ => .stuck
  | .setf i f k v, ρ => (asD g.flds (evE g Φ v ρ)).thn fun d ρ => match fldR g f (ρ.at i) with
    | some (c, rs, j, .dct ks vs) => (asD g.flds (evE g Φ k (ρ.set i none))).thn fun kd ρ => if keyOk ks kd = true ∧ ks.length < LINE then .nx (ρ.set i (some (.obj c (rs.set j (.dct (dPutK ks kd) (dPutV ks vs kd d)))))) else .stuck
    | _ => .stuck
  | .aug sb i e, ρ => match ρ.at i with
    | some (.val (.int a)) => (asD g.flds (evE g Φ e ρ)).thn fun d ρ => (match d with
      | .int b => .nx (ρ.set i (some (.val (.int (if sb = true then a - b else a + b)))))
      | _ => .stuck)
    | _ => .stuck
  | .whl c body, ρ => whF (fun ρ => teE g Φ c ρ) (fun ρ => evSs body ρ) 100 ρ
  | .app i e, ρ => match ρ.at i with
    | some (.lst _) => (asD g.flds (evE g Φ e ρ)).thn fun d ρ => (match ρ.at i with
      | some (.lst ds) => if ds.length < LINE then .nx (ρ.set i (some (.lst (ds ++ [d])))) else .stuck
      | _ => .stuck)
    | _ => .stuck
  | .fapp i f f1 f2, ρ => match fldR g f (ρ.at i), (ρ.at i).bind (attrO g f1), (ρ.at i).bind (attrO g f2) with
    | some (c, rs, j, .lst ds), some a, some b => if ds.length < LINE then .nx (ρ.set i (some (.obj c (rs.set j (.lst (ds ++ [.tup [a, b]])))))) else .stuck
    | _, _, _ => .stuck
  | .insr i k e, ρ => match ρ.at i with
    | some (.lst _) => (asD g.flds (evE g Φ k ρ)).thn fun k ρ => (asD g.flds (evE g Φ e ρ)).thn fun d ρ => (match ρ.at i, k with
      | some (.lst ds), .int k => if ds.length < LINE ∧ 0 ≤ k ∧ k < 9223372036854775808 then .nx (ρ.set i (some (.lst (ds.take k.toNat ++ d :: ds.drop k.toNat)))) else .stuck
      | _, _ => .stuck)
    | _ => .stuck
  | .ex e, ρ => (evE g Φ e ρ).thn fun _ ρ => .nx ρ
  | .ifs c a b, ρ => (teE g Φ c ρ).thn fun k ρ => if k = true then evSs a ρ else evSs b ρ
  | .for_ tg src body, ρ => (evI g Φ src ρ).thn fun ds ρ => forF tg (fun ρ => evSs body ρ) ds ρ
  | .ret e, ρ => (evE g Φ e ρ).thn fun r ρ => .rt r ρ
  | .retm i, ρ => match ρ.at i with
    | some r => .rt r (ρ.set i none)
    | none => .stuck
  | .rai c e, ρ => (asD g.flds (evE g Φ e ρ)).thn fun d ρ => .exc c d ρ
  | .try_ body hs, ρ => match evSs body ρ with
    | .exc c d ρ' => evHs g hs c d ρ'
    | x => x
  | .brk, ρ => .bk ρ
  | .cnt, ρ => .ct ρ
  | .pas, ρ => .nx ρ
def evSs : ISs → Env → SRes
  | .nil, ρ => .nx ρ
  | .cons s ss, ρ => (evS s ρ).thn fun ρ => evSs ss ρ
end
end
end Fx
end
section
set_option linter.all false
set_option Elab.async false
set_option maxRecDepth 100000
set_option maxHeartbeats 4000000
/-! What the language computes is what the model does: values and operations. -/
namespace Fx
open PySem PySem.Spec L2
variable {T : Nm}

/-! ### a value that may be read -/
/-- v reads as d: its own object in H, what lies within in F -/
def Rt (T : Nm) (F H : Hp) (v : V) : D → Prop
  | .lst ds => ∃ a xs, v = .ref a ∧ SqL T.K H a xs ∧ RpL T F xs ds
  | .ins c ds => Rp T H v (.ins c ds)
  | .dct ks vs => ∃ a o, v = .ref a ∧ Rd H a o ∧ DR T F a o ks vs
  | d => Rp T F v d
theorem Rp.rt {F H : Hp} (s : Same F H) {v : V} {d : D} (h : Rp T F v d) : Rt T F H v d := by
  cases d with
  | lst ds => cases h with | lst h1 h2 => exact ⟨_, _, rfl, same_sqL s h1, h2⟩
  | ins c ds => exact h.mono s
  | dct ks vs =>
    obtain ⟨a, o, rfl, h1, h2⟩ := h.dr
    exact ⟨a, o, rfl, same_rd s h1, h2⟩
  | _ => exact h
theorem Rt.rp {F H : Hp} (s : Same F H) {v : V} {d : D} (h : Rt T F H v d) : Rp T H v d := by
  cases d with
  | lst ds => obtain ⟨a, xs, rfl, h1, h2⟩ := h; exact .lst h1 (RpL.mono s _ _ h2)
  | ins c ds => exact h
  | dct ks vs => obtain ⟨a, o, rfl, h1, h2⟩ := h; exact (h2.mono s).rp h1
  | _ => exact Rp.mono s _ _ h
theorem Rt.int {F H : Hp} {v : V} {i : Int} (h : Rt T F H v (.int i)) : v = .int i := by
  have h : Rp T F v (.int i) := h
  cases h; rfl
theorem Rt.bl {F H : Hp} {v : V} {i : Bool} (h : Rt T F H v (.bl i)) : v = .bl i := by
  have h : Rp T F v (.bl i) := h
  cases h; rfl
theorem Rt.str {F H : Hp} {v : V} {i : Str} (h : Rt T F H v (.str i)) : v = .str i := by
  have h : Rp T F v (.str i) := h
  cases h; rfl
theorem Rt.non {F H : Hp} {v : V} (h : Rt T F H v .non) : v = .non := by
  have h : Rp T F v .non := h
  cases h; rfl

/-- a new result: what there was, or a new object -/
def NewR (T : Nm) (F H H' : Hp) (v : V) : R → Prop
  | .val d => (H' = H ∧ Rp T F v d) ∨ (∃ p xs ds, d = .tup ds ∧ v = .ref p ∧ H p = none ∧ H' = upd H p (.tup xs) ∧ RpL T F xs ds) ∨ ∃ p lo hi, d = .rng lo hi ∧ v = .ref p ∧ H p = none ∧ H' = upd H p (.rng lo hi)
  | .lst ds => ∃ p xs, v = .ref p ∧ H p = none ∧ H' = upd H p (.lst xs) ∧ RpL T F xs ds
  | .obj _ _ => False
  | .lck _ _ _ _ _ _ => False
  | .raw _ => False
  | .dct ks vs => ∃ p o, v = .ref p ∧ H p = none ∧ H' = upd H p o ∧ DR T F p o ks vs
theorem Cf.new {F H H' : Hp} {M : Lv} {ρ : Env} {σ : St} {r : R} {v : V} (h : Cf T F H M ρ σ) (n : NewR T F H H' v r) : ∃ F', Cf T F' H' ((r, v) :: M) ρ σ := by
  cases r with
  | val d =>
    rcases n with ⟨rfl, n⟩ | ⟨p, xs, ds, rfl, rfl, np, rfl, n⟩ | ⟨p, lo, hi, rfl, rfl, np, rfl⟩
    · exact ⟨F, h.val n⟩
    · obtain ⟨h', e⟩ := h.newF (o := .tup xs) np
      refine ⟨_, h'.val (.tup (.inl (.inl upd_same)) (RpL.mono e _ _ n))⟩
    · obtain ⟨h', e⟩ := h.newF (o := .rng lo hi) np
      exact ⟨_, h'.val (.rng upd_same)⟩
  | lst ds =>
    obtain ⟨p, xs, rfl, np, rfl, n⟩ := n
    exact ⟨F, h.own np n⟩
  | obj c rs => exact n.elim
  | lck _ _ _ _ _ _ => exact n.elim
  | raw _ => exact n.elim
  | dct ks vs =>
    obtain ⟨p, o, rfl, np, rfl, n⟩ := n
    exact ⟨F, h.ownD np n⟩

/-! ### outcomes -/
variable {W : WX} {σ : St} {M : Lv}
/-- what is wanted of an exception: its own dict holds the one value -/
def ExcW (T : Nm) (W : WX) (σ : St) (M : Lv) (c : Nat) (d : D) (ρ : Env) : Prop :=
  ∀ v dd F H, Cf T F H M ρ σ → H dd = some (.xd [(T.xfld c, v)]) → Rp T F v d → W (.ref (T.xcls c)) (some dd) σ H
def Out (T : Nm) (W : WX) (σ : St) (M : Lv) {α : Type} (x : Res α) (K : α → Env → Prop) : Prop := match x with
  | .ok a ρ => K a ρ
  | .exc c d ρ => ExcW T W σ M c d ρ
  | .stuck => False
theorem Out.bind {α β : Type} {x : Res α} {k : α → Env → Res β} {K : β → Env → Prop} (h : Out T W σ M (x.bind k) K) : Out T W σ M x fun a ρ => Out T W σ M (k a ρ) K := by
  cases x with
  | ok a ρ => exact h
  | exc c d ρ => exact h
  | stuck => exact h
theorem Out.imp {α : Type} {x : Res α} {K K' : α → Env → Prop} (h : Out T W σ M x K) (k : ∀ a ρ, K a ρ → K' a ρ) : Out T W σ M x K' := by
  cases x with
  | ok a ρ => exact k _ _ h
  | exc c d ρ => exact h
  | stuck => exact h
theorem Out.wk {α : Type} {p : R × V} {x : Res α} {K : α → Env → Prop} (h : Out T W σ M x K) : Out T W σ (p :: M) x K := by
  cases x with
  | ok a ρ => exact h
  | exc c d ρ => exact fun v dd F H cf => h v dd F H cf.tail
  | stuck => exact h
theorem Out.wkL {α : Type} {P : Lv} {x : Res α} {K : α → Env → Prop} (h : Out T W σ M x K) : Out T W σ (P ++ M) x K := by
  induction P with
  | nil => exact h
  | cons p P ih => exact ih.wk
theorem Out.opt {α : Type} {o : Option α} {ρ : Env} {K : α → Env → Prop} (h : Out T W σ M (optR o ρ) K) : ∃ a, o = some a ∧ K a ρ := by
  cases o with
  | none => exact h.elim
  | some a => exact ⟨a, rfl, h⟩
theorem Out.calm {α : Type} {x : Res α} {K : α → Env → Prop} (h : Out T W σ M x.calm K) : Out T (fun _ _ _ _ => False) σ M x.calm K := by
  cases x with
  | ok a ρ => exact h
  | exc c d ρ => exact h.elim
  | stuck => exact h
/-! ### readings -/
/-- an expression that computes m -/
def tM (T : Nm) (W : WX) (m : Env → Res R) : TE := fun σ H Q => ∃ F M ρ, Cf T F H M ρ σ ∧ Out T W σ M (m ρ) fun r ρ' => ∀ v F' H', Cf T F' H' ((r, v) :: M) ρ' σ → Q v H'
/-- .. a plain value -/
def tD (T : Nm) (W : WX) (m : Env → Res D) : TE := fun σ H Q => ∃ F M ρ, Cf T F H M ρ σ ∧ Out T W σ M (m ρ) fun d ρ' => ∀ v F' H', Cf T F' H' ((.val d, v) :: M) ρ' σ → Q v H'
def Ar.tmp (v : V) : Ar → Lv
  | .v r => [(r, v)]
  | .b _ => []
def Ar.in_ (v : V) (σ : St) : Ar → Prop
  | .v _ => True
  | .b i => σ[i]? = some (some v)
/-- .. an argument -/
def tAr (T : Nm) (W : WX) (m : Env → Res Ar) : TE := fun σ H Q => ∃ F M ρ, Cf T F H M ρ σ ∧ Out T W σ M (m ρ) fun a ρ' => ∀ v F' H', a.in_ v σ → Cf T F' H' (a.tmp v ++ M) ρ' σ → Q v H'
/-- a test -/
def tT (T : Nm) (W : WX) (m : Env → Res Bool) : TT := fun σ H Q => ∃ F M ρ, Cf T F H M ρ σ ∧ Out T W σ M (m ρ) fun b ρ' => ∀ F' H', Cf T F' H' M ρ' σ → Q b H'
/-- arguments -/
def tmps : List Ar → List V → Lv
  | a :: as, v :: vs => a.tmp v ++ tmps as vs
  | _, _ => []
def ins_ (σ : St) : List Ar → List V → Prop
  | [], [] => True
  | a :: as, v :: vs => a.in_ v σ ∧ ins_ σ as vs
  | _, _ => False
def tAs (T : Nm) (W : WX) (m : Env → Res (List Ar)) : TA := fun σ H Q => ∃ F M ρ, Cf T F H M ρ σ ∧ Out T W σ M (m ρ) fun as ρ' => ∀ vs F' H', ins_ σ as vs → Cf T F' H' (tmps as vs ++ M) ρ' σ → Q vs H'
/-- plain values, one behind another -/
def vals_ : List D → List V → Lv
  | d :: ds, v :: vs => (.val d, v) :: vals_ ds vs
  | _, _ => []
def tDs (T : Nm) (W : WX) (m : Env → Res (List D)) : TA := fun σ H Q => ∃ F M ρ, Cf T F H M ρ σ ∧ Out T W σ M (m ρ) fun ds ρ' => ∀ vs F' H', RpL T F' vs ds → Cf T F' H' M ρ' σ → Q vs H'

theorem _root_.L2.PE.imp {X : Cx} {e : Expr} {t t' : TE} (h : PE X e t) (k : ∀ σ H Q, t' σ H Q → t σ H Q) : PE X e t' := ⟨fun pins s σ H Q I q => h.run pins s σ H Q I (k σ H Q q)⟩
theorem _root_.L2.PT.imp {X : Cx} {e : Expr} {t t' : TT} (h : PT X e t) (k : ∀ σ H Q, t' σ H Q → t σ H Q) : PT X e t' := ⟨fun pins s σ H Q I q => h.run pins s σ H Q I (k σ H Q q)⟩
theorem _root_.L2.PW.imp {X : Cx} {e : Expr} {t t' : TT} (h : PW X e t) (k : ∀ σ H Q, t' σ H Q → t σ H Q) : PW X e t' := ⟨fun wh pins s σ H Q I q => h.run wh pins s σ H Q I (k σ H Q q)⟩
theorem _root_.L2.PA.imp {X : Cx} {es : List Expr} {t t' : TA} (h : PA X es t) (k : ∀ σ H Q, t' σ H Q → t σ H Q) : PA X es t' := ⟨fun pos pins s σ H Q I q => h.run pos pins s σ H Q I (k σ H Q q)⟩
theorem _root_.L2.PS.imp {X : Cx} {st : Stmt} {t t' : TS} (h : PS X st t) (k : ∀ D σ H, t' D σ H → t D σ H) : PS X st t' := ⟨fun pins s σ H D I q => h.run pins s σ H D I (k D σ H q)⟩
theorem _root_.L2.PSs.imp {X : Cx} {st : List Stmt} {t t' : TS} (h : PSs X st t) (k : ∀ D σ H, t' D σ H → t D σ H) : PSs X st t' := ⟨fun pins s σ H D I q => h.run pins s σ H D I (k D σ H q)⟩

theorem fullD_some {r : R} {d : D} (h : fullD T.flds r = some d) : r.fullB T.flds = true ∧ d = r.toD := by
  unfold fullD at h
  split at h
  · exact ⟨by assumption, (Option.some.inj h).symm⟩
  · cases h
/-- from an argument in hand to its data -/
theorem Cf.arD {F H : Hp} {ρ : Env} {a : Ar} {v : V} {d : D} {P : Lv} (h : Cf T F H (a.tmp v ++ M) ρ σ) (i : a.in_ v σ) (e : a.d T.flds ρ = some d) : Rt T F H v d := by
  have own : ∀ {r : R} {L : Lv} {ρ : Env}, Cf T F H ((r, v) :: L) ρ σ → fullD T.flds r = some d → Rt T F H v d := fun {r L ρ} h e => by
    obtain ⟨f, rfl⟩ := fullD_some e
    have lk := h.look f
    cases r with
    | val d => exact h.rp.rt h.sub
    | lst ds =>
      obtain ⟨p, rfl⟩ := h.lstRef
      obtain ⟨xs, h1, h2⟩ := h.lstAt
      exact ⟨p, xs, rfl, .inl (.inl h1), h2⟩
    | obj c rs => exact lk
    | lck _ _ _ _ _ _ => cases f
    | raw _ => cases f
    | dct ks vs =>
      obtain ⟨p, o, rfl, h1, h2⟩ := h.dctAt
      exact ⟨p, o, rfl, .inl h1, h2⟩
  cases a with
  | v r => exact own (L := M) h e
  | b j =>
    have e : (ρ.at j).bind (fullD T.flds) = some d := e
    cases q : ρ.at j with
    | none => rw [q] at e; cases e
    | some r =>
      rw [q] at e
      have e2 : ρ[j]? = some (some r) := by
        unfold Env.at at q
        cases z : ρ[j]? with
        | none => rw [z] at q; cases q
        | some o => rw [z] at q; cases o with
          | none => cases q
          | some r' => cases q; rfl
      obtain ⟨v', e3, h'⟩ := Cf.out (M := M) h e2
      have i : σ[j]? = some (some v) := i
      rw [i] at e3; cases e3
      exact own (L := M) (ρ := ρ.set j none) h' e

theorem at_get {ρ : Env} {i : Nat} {r : R} (h : ρ.at i = some r) : ρ[i]? = some (some r) := by
  unfold Env.at at h
  cases z : ρ[i]? with
  | none => rw [z] at h; cases h
  | some o => rw [z] at h; cases o with
    | none => cases h
    | some r' => cases h; rfl

section
variable {X : Cx}
/-! ### names -/
theorem pe_rd {e : Expr} {i : Nat} (h : PE X e (tVar i)) : PE X e (tM T W (rdVar T.flds i)) := by
  refine h.imp fun σ H Q q => ?_
  obtain ⟨F, M, ρ, cf, q⟩ := q
  unfold rdVar at q
  cases z : ρ.at i with
  | none => rw [z] at q; exact q.elim
  | some r =>
    rw [z] at q
    have e := at_get z
    cases r with
    | val d =>
      obtain ⟨v, F', e1, s, cf'⟩ := cf.read e rfl
      exact ⟨v, e1, q v F' H (by rw [show R.toD (.val d) = d from rfl, set_same e] at cf'; exact cf')⟩
    | lst ds =>
      obtain ⟨v, F', e1, s, cf'⟩ := cf.read e rfl
      exact ⟨v, e1, q v F' H cf'⟩
    | dct ks vs =>
      obtain ⟨v, F', e1, s, cf'⟩ := cf.read e rfl
      exact ⟨v, e1, q v F' H cf'⟩
    | obj c rs =>
      by_cases f : (R.obj c rs).fullB T.flds = true
      · obtain ⟨v, F', e1, s, cf'⟩ := cf.read e f
        have q : Out T W σ M (if (R.obj c rs).fullB T.flds = true then Res.ok (R.val (R.obj c rs).toD) (ρ.set i (some (.val (R.obj c rs).toD))) else .stuck) _ := q
        rw [if_pos f] at q
        exact ⟨v, e1, q v F' H cf'⟩
      · have q : Out T W σ M (if (R.obj c rs).fullB T.flds = true then Res.ok (R.val (R.obj c rs).toD) (ρ.set i (some (.val (R.obj c rs).toD))) else .stuck) _ := q
        rw [if_neg f] at q
        exact q.elim
    | lck od ob kv wv ks vs =>
      have q : Out T W σ M (if false = true then Res.ok (R.val (R.lck od ob kv wv ks vs).toD) (ρ.set i (some (.val (R.lck od ob kv wv ks vs).toD))) else .stuck) _ := q
      rw [if_neg Bool.false_ne_true] at q
      exact q.elim
    | raw o =>
      have q : Out T W σ M (if false = true then Res.ok (R.val (R.raw o).toD) (ρ.set i (some (.val (R.raw o).toD))) else .stuck) _ := q
      rw [if_neg Bool.false_ne_true] at q
      exact q.elim
theorem pe_argVar {e : Expr} {i : Nat} (h : PE X e (tVar i)) : PE X e (tAr T W (argVar i)) := by
  refine h.imp fun σ H Q q => ?_
  obtain ⟨F, M, ρ, cf, q⟩ := q
  unfold argVar at q
  cases z : ρ.at i with
  | none => rw [z] at q; exact q.elim
  | some r =>
    rw [z] at q
    have e := at_get z
    cases r with
    | val d =>
      obtain ⟨v, F', e1, s, cf'⟩ := cf.read e rfl
      exact ⟨v, e1, q v F' H trivial (by rw [show R.toD (.val d) = d from rfl, set_same e] at cf'; exact cf')⟩
    | lst ds =>
      obtain ⟨v, e1⟩ := cf.slot e
      exact ⟨v, e1, q v F H e1 cf⟩
    | obj c rs =>
      obtain ⟨v, e1⟩ := cf.slot e
      exact ⟨v, e1, q v F H e1 cf⟩
    | lck _ _ _ _ _ _ =>
      obtain ⟨v, e1⟩ := cf.slot e
      exact ⟨v, e1, q v F H e1 cf⟩
    | raw _ =>
      obtain ⟨v, e1⟩ := cf.slot e
      exact ⟨v, e1, q v F H e1 cf⟩
    | dct ks vs =>
      obtain ⟨v, e1⟩ := cf.slot e
      exact ⟨v, e1, q v F H e1 cf⟩
/-- an expression as an argument -/
theorem pe_arOf {e : Expr} {m : Env → Res R} (h : PE X e (tM T W m)) : PE X e (tAr T W fun ρ => (m ρ).bind fun r ρ => .ok (.v r) ρ) := by
  refine h.imp fun σ H Q q => ?_
  obtain ⟨F, M, ρ, cf, q⟩ := q
  exact ⟨F, M, ρ, cf, q.bind.imp fun r ρ' k v F' H' cf' => k v F' H' trivial cf'⟩
/-- an expression as plain data -/
theorem pe_asD {e : Expr} {m : Env → Res R} (h : PE X e (tM T W m)) : PE X e (tD T W fun ρ => asD T.flds (m ρ)) := by
  refine h.imp fun σ H Q q => ?_
  obtain ⟨F, M, ρ, cf, q⟩ := q
  refine ⟨F, M, ρ, cf, (Out.bind q).imp fun r ρ' k v F' H' cf' => ?_⟩
  obtain ⟨d, e, k⟩ := k.opt
  obtain ⟨f, rfl⟩ := fullD_some e
  obtain ⟨F2, s, cf2⟩ := cf'.freeze f
  exact k v F2 H' cf2
/-- a constant -/
theorem pe_cst {e : Expr} {v : V} {d : D} (h : PE X e (tC v)) (r : ∀ F, Rp T F v d) : PE X e (tM T W fun ρ => .ok (.val d) ρ) := by
  refine h.imp fun σ H Q q => ?_
  obtain ⟨F, M, ρ, cf, q⟩ := q
  exact q v F H (cf.val (r F))

/-! ### two values and an operation -/
/-- two operands in hand -/
def two (fl : Nat → List Nat) {α : Type} (f : D → D → Env → Res α) (a b : Env → Res Ar) : Env → Res α := fun ρ => (a ρ).bind fun x ρ => (b ρ).bind fun y ρ => match x.d fl ρ, y.d fl ρ with
  | some x, some y => f x y ρ
  | _, _ => .stuck
theorem Ar.tmp_in {a : Ar} {v : V} {F H : Hp} {ρ : Env} {P : Lv} (h : Cf T F H (P ++ (a.tmp v ++ M)) ρ σ) : Cf T F H (a.tmp v ++ (P ++ M)) ρ σ := h.permM (by
  rw [← List.append_assoc, ← List.append_assoc]
  exact List.Perm.append_right _ List.perm_append_comm)
theorem Cf.dropL {F H : Hp} {ρ : Env} {P : Lv} (h : Cf T F H (P ++ M) ρ σ) : Cf T F H M ρ σ := by
  induction P with
  | nil => exact h
  | cons p P ih => exact ih h.tail
/-- both operands are known, then R -/
theorem tAr_two {α : Type} {ea eb : Env → Res Ar} {f : D → D → Env → Res α} {H : Hp} {K : Lv → α → Env → Prop} {R : V → V → Hp → Prop}
    (h : ∃ F M ρ, Cf T F H M ρ σ ∧ Out T W σ M (two T.flds f ea eb ρ) (K M))
    (k : ∀ F M ρ H x y dx dy, Cf T F H M ρ σ → Rt T F H x dx → Rt T F H y dy → Out T W σ M (f dx dy ρ) (K M) → R x y H) :
    tAr T W ea σ H fun x H1 => tAr T W eb σ H1 fun y H2 => R x y H2 := by
  obtain ⟨F, M, ρ, cf, q⟩ := h
  refine ⟨F, M, ρ, cf, (Out.bind q).imp fun a ρ1 q1 v1 F1 H1 i1 cf1 => ?_⟩
  refine ⟨F1, a.tmp v1 ++ M, ρ1, cf1, (Out.wkL (Out.bind q1)).imp fun b ρ2 q2 v2 F2 H2 i2 cf2 => ?_⟩
  cases e1 : a.d T.flds ρ2 with
  | none => rw [e1] at q2; exact q2.elim
  | some dx =>
    cases e2 : b.d T.flds ρ2 with
    | none => rw [e1, e2] at q2; exact q2.elim
    | some dy =>
      rw [e1, e2] at q2
      have r2 : Rt T F2 H2 v2 dy := Cf.arD (P := []) cf2 i2 e2
      have r1 : Rt T F2 H2 v1 dx := Cf.arD (P := []) (Ar.tmp_in cf2) i1 e1
      exact k F2 M ρ2 H2 v1 v2 dx dy cf2.dropL.dropL r1 r2 q2
/-- one operand -/
def one_ (fl : Nat → List Nat) {α : Type} (f : D → Env → Res α) (a : Env → Res Ar) : Env → Res α := fun ρ => (a ρ).bind fun x ρ => match x.d fl ρ with
  | some x => f x ρ
  | none => .stuck
theorem tAr_one {α : Type} {ea : Env → Res Ar} {f : D → Env → Res α} {H : Hp} {K : Lv → α → Env → Prop} {R : V → Hp → Prop}
    (h : ∃ F M ρ, Cf T F H M ρ σ ∧ Out T W σ M (one_ T.flds f ea ρ) (K M))
    (k : ∀ F M ρ H x dx, Cf T F H M ρ σ → Rt T F H x dx → Out T W σ M (f dx ρ) (K M) → R x H) : tAr T W ea σ H R := by
  obtain ⟨F, M, ρ, cf, q⟩ := h
  refine ⟨F, M, ρ, cf, (Out.bind q).imp fun a ρ1 q1 v1 F1 H1 i1 cf1 => ?_⟩
  cases e1 : a.d T.flds ρ1 with
  | none => rw [e1] at q1; exact q1.elim
  | some dx =>
    rw [e1] at q1
    exact k F1 M ρ1 H1 v1 dx cf1.dropL (Cf.arD (P := []) cf1 i1 e1) q1
end
end Fx
end
section
set_option linter.all false
set_option Elab.async false
set_option maxRecDepth 100000
set_option maxHeartbeats 4000000
/-! Dicts of the language against the model: in, d[k], d[k] = v, len, walks. -/
namespace Fx
open PySem PySem.Spec L2
variable {T : Nm}
/-! ### keys -/
mutual
theorem key_eqv : ∀ a b : D, a.isKey = true → b.isKey = true → a.eqv b = NestedKey.beq a.nk b.nk
  | .int i, b, _, hb => by cases b <;> first | (cases hb; done) | rfl
  | .str x, b, _, hb => by cases b <;> first | (cases hb; done) | rfl
  | .tup xs, b, ha, hb => by
    cases b with
    | tup ys => exact keys_eqv xs ys ha hb
    | int _ => rfl
    | str _ => rfl
    | _ => cases hb
  | .non, _, h, _ | .bl _, _, h, _ | .lst _, _, h, _ | .rng _ _, _, h, _ | .ins _ _, _, h, _ | .dct _ _, _, h, _ | .err _ _, _, h, _ => by cases h
theorem keys_eqv : ∀ as bs : List D, D.areKeys as = true → D.areKeys bs = true → D.eqvs as bs = NestedKey.beqAll (D.nks as) (D.nks bs)
  | [], [], _, _ => rfl
  | [], _ :: _, _, _ => rfl
  | _ :: _, [], _, _ => rfl
  | a :: as, b :: bs, ha, hb => by
    have ha := Bool.and_eq_true_iff.mp (show (a.isKey && D.areKeys as) = true from ha)
    have hb := Bool.and_eq_true_iff.mp (show (b.isKey && D.areKeys bs) = true from hb)
    show (a.eqv b && D.eqvs as bs) = (NestedKey.beq a.nk b.nk && NestedKey.beqAll (D.nks as) (D.nks bs))
    rw [key_eqv a b ha.1 hb.1, keys_eqv as bs ha.2 hb.2]
end
theorem TK_key {d : D} (h : d.isTK = true) : d.isKey = true ∧ d.nk.depth ≤ 8 ∧ ∃ ds, d = .tup ds := by
  cases d with
  | tup ds =>
    have h := Bool.and_eq_true_iff.mp (show (D.areKeys ds && decide ((D.nk (.tup ds)).depth ≤ 8)) = true from h)
    exact ⟨h.1, of_decide_eq_true h.2, ds, rfl⟩
  | _ => cases h
theorem TK_eqv {a b : D} (ha : a.isTK = true) (hb : b.isTK = true) : a.eqv b = decide (a.nk = b.nk) := by
  rw [key_eqv a b (TK_key ha).1 (TK_key hb).1, NestedKey.decide_eq]
section
variable {X : Cx} {pins : List (Addr × Obj)} {σ : St} {H F : Hp} {s : Shared}
mutual
theorem key_is (I : Inv X pins σ H s) (hK : KW X T) (sF : Same F H) : ∀ (d : D) (v : V) (u : Value), d.isKey = true → Rp T F v d → RelV v u → NestedIs s.heap d.nk u
  | .int i, _, _, _, h, r => by cases h; obtain ⟨t, rfl⟩ := r; exact .int i t
  | .str x, _, _, _, h, r => by cases h; obtain ⟨t, rfl⟩ := r; exact .text x t
  | .tup ds, _, _, p, h, r => by
    cases h with
    | tup hs ha =>
      cases r
      obtain ⟨its, rv, ⟨o, ho, hc, n, hd⟩, _⟩ := I.tuple (by rw [hK.1]; exact same_sqT sF hs)
      exact .tup ho hc hd (by simpa using keys_are I hK sF ds _ its p ha rv)
  | .non, _, _, p, _, _ | .bl _, _, _, p, _, _ | .lst _, _, _, p, _, _ | .rng _ _, _, _, p, _, _ | .ins _ _, _, _, p, _, _ | .dct _ _, _, _, p, _, _ | .err _ _, _, _, p, _, _ => by cases p
theorem keys_are (I : Inv X pins σ H s) (hK : KW X T) (sF : Same F H) : ∀ (ds : List D) (vs : List V) (us : List Value), D.areKeys ds = true → RpL T F vs ds → Vals vs us → NestedAll s.heap (D.nks ds) us
  | [], _, _, _, h, r => by cases h; cases r; exact .nil
  | d :: ds, _, _, p, h, r => by
    have p := Bool.and_eq_true_iff.mp (show (d.isKey && D.areKeys ds) = true from p)
    cases h with
    | cons h1 h2 =>
      cases r with
      | cons r1 r2 => exact .cons (key_is I hK sF d _ _ p.1 h1 r1) (keys_are I hK sF ds _ _ p.2 h2 r2)
end
abbrev NKd (X : Cx) := nestedKind X.prog X.w
theorem TK_is (I : Inv X pins σ H s) (hK : KW X T) (sF : Same F H) {d : D} {a : Addr} (h : d.isTK = true) (r : Rp T F (.ref a) d) : (NKd X).is s.heap d.nk a :=
  ⟨key_is I hK sF d _ _ (TK_key h).1 r rfl, (TK_key h).2.1⟩
/-! ### the two kinds of dicts -/
/-- entries, as the language sees them -/
def XR (T : Nm) (F : Hp) (xs : List (NestedKey × Addr × Value)) (ks vs : List D) : Prop :=
  xs.map (·.1) = ks.map D.nk ∧ RpL T F (xs.map fun x => .ref x.2.1) ks ∧ ∃ ws : List V, Vals ws (xs.map (·.2.2)) ∧ RpL T F ws vs
theorem dicX_vals {es : DEs} {xs : List (NestedKey × Addr × Value)} (h : Paired (fun (p : NestedKey × Addr × V) (q : NestedKey × Addr × Value) => p.1 = q.1 ∧ p.2.1 = q.2.1 ∧ RelV p.2.2 q.2.2) es xs) :
    xs.map (·.1) = es.map (·.1) ∧ (xs.map fun x => x.2.1) = (es.map fun e => e.2.1) ∧ Vals (es.map fun e => e.2.2) (xs.map (·.2.2)) := by
  induction h with
  | nil => exact ⟨rfl, rfl, .nil⟩
  | cons h t ih => exact ⟨by simp [h.1, ih.1], by simp [h.2.1, ih.2.1], .cons h.2.2 ih.2.2⟩
theorem entry_nk {P : Program} {w : World} (xs : List (NestedKey × Addr × Value)) : xs.map (fun x => (⟨x.1.hash w, .ref x.2.1, x.2.2⟩ : DictEntry)) = xs.map (entryOfKey (nestedKind P w)) := rfl
theorem keys_his (I : Inv X pins σ H s) (hK : KW X T) (sF : Same F H) : ∀ {xs : List (NestedKey × Addr × Value)} {ks : List D}, xs.map (·.1) = ks.map D.nk → ks.all D.isTK = true → RpL T F (xs.map fun x => .ref x.2.1) ks →
    ∀ x ∈ xs, (NKd X).is s.heap x.1 x.2.1
  | [], _, _, _, _ => by simp
  | x :: xs, [], e, _, _ => by simp at e
  | x :: xs, k :: ks, e, h, r => by
    simp only [List.map_cons, List.cons.injEq] at e
    simp only [List.all_cons, Bool.and_eq_true] at h
    cases r with
    | cons r1 r2 =>
      intro y hy
      rcases List.mem_cons.mp hy with rfl | hy
      · rw [e.1]; exact TK_is I hK sF h.1 r1
      · exact keys_his I hK sF e.2 h.2 r2 y hy
theorem map_int_TK {kvs : List (Int × V)} (h : (kvs.map fun p => D.int p.1).all D.isTK = true) : kvs = [] := by
  cases kvs with
  | nil => rfl
  | cons p kvs => simp [D.isTK] at h
/-- a dict whose keys are tuples -/
theorem dictH_of (I : Inv X pins σ H s) (hK : KW X T) (sF : Same F H) {a : Addr} {o : HO} {ks vs : List D} (r : Rd H a o) (d : DR T F a o ks vs) (hk : ks.all D.isTK = true) :
    (a == sysModules) = false ∧ ks.length ≤ sizeLine ∧ ∃ xs, s.heap.DictOfH (NKd X) a xs ∧ XR T F xs ks vs := by
  rcases d with ⟨kvs, rfl, rfl, hv⟩ | ⟨es, rfl, _, _, e4, r5, r6⟩
  · obtain rfl := map_int_TK hk
    cases hv
    obtain ⟨_, hd, ws, rel, o, en, ep, h1, h2, h3, _, h5, _⟩ := dk_rd I.hok r
    cases rel
    have he : en.toList = [] := by cases q : en.toList with
      | nil => rfl
      | cons x l => rw [q] at h5; cases h5
    exact ⟨hd, Nat.zero_le _, [], ⟨o, en, ep, h1, h2, h3, by rw [he]; rfl, by simp, List.nodup_nil⟩, rfl, .nil, [], .nil, .nil⟩
  · obtain ⟨⟨hd, hz, xs, pr, o, en, ep, h1, h2, h3, h4, h5⟩, _⟩ := (show ObjOk X.prog X.w H s.heap a (.ext (dicX T.w a es)) from r.ok I.hok)
    obtain ⟨q1, q2, q3⟩ := dicX_vals pr
    have e1 : xs.map (·.1) = ks.map D.nk := q1.trans e4
    have rr : RpL T F (xs.map fun x => .ref x.2.1) ks := by
      have : (xs.map fun x => V.ref x.2.1) = es.map fun e => V.ref e.2.1 := by
        have := congrArg (List.map V.ref) q2
        simpa [List.map_map, Function.comp_def] using this
      rw [this]; exact r5
    have hl : ks.length = es.length := by rw [← r5.len, List.length_map]
    exact ⟨hd, by rw [hl]; exact hz, xs, ⟨o, en, ep, h1, h2, h3, by rw [h4, ← hK.2]; exact entry_nk xs, keys_his I hK sF e1 hk rr, h5⟩, e1, rr, _, q3, r6⟩
theorem find_int (i : Int) : ∀ kvs : List (Int × V), dFind (kvs.map fun p => D.int p.1) (.int i) = kvs.findIdx? fun p => p.1 == i
  | [] => rfl
  | p :: kvs => by
    have ih := find_int i kvs
    unfold dFind at ih ⊢
    rw [List.map_cons, List.findIdx?_cons, List.findIdx?_cons, ih]
    rfl
theorem valV_int (i : Int) : ∀ kvs : List (Int × V), valV (kvs.map fun p => ((Sum.inl p.1 : Key), p.2)) (Sum.inl i) = (kvs.findIdx? fun p => p.1 == i).bind fun j => (kvs[j]?).map (·.2)
  | [] => rfl
  | p :: kvs => by
    have ih := valV_int i kvs
    rw [List.findIdx?_cons]
    by_cases e : p.1 = i
    · rw [List.map_cons, valV_pos (by rw [e])]
      simp [e]
    · rw [List.map_cons, valV_neg (by intro z; exact e (Sum.inl.inj z)), ih]
      have e2 : (p.1 == i) = false := by simpa using e
      rw [e2]
      cases kvs.findIdx? fun p => p.1 == i <;> simp
theorem atKey_find {xs : List (NestedKey × Addr × Value)} {ks : List D} {k : D} (hk : k.isTK = true) : ∀ (_ : xs.map (·.1) = ks.map D.nk) (_ : ks.all D.isTK = true), atKey xs k.nk = (dFind ks k).bind fun j => (xs[j]?).map (·.2) := by
  induction xs generalizing ks with
  | nil =>
    intro e _
    have : ks = [] := by cases ks with
      | nil => rfl
      | cons _ _ => simp at e
    subst this
    rfl
  | cons x xs ih =>
    intro e h
    cases ks with
    | nil => simp at e
    | cons k0 ks =>
      simp only [List.map_cons, List.cons.injEq] at e
      simp only [List.all_cons, Bool.and_eq_true] at h
      have ih := ih (ks := ks) e.2 h.2
      unfold dFind at ih ⊢
      rw [List.findIdx?_cons, TK_eqv h.1 hk]
      unfold atKey at ih ⊢
      rw [List.find?_cons, e.1]
      by_cases z : k0.nk = k.nk
      · simp [z]
      · simp only [decide_eq_false z, Bool.false_eq_true, ite_false]
        rw [ih]
        cases List.findIdx? (fun x => x.eqv k) ks <;> simp
theorem rp_int {v : V} {k : D} (h : Rt T F H v k) (hk : k.isInt = true) : ∃ i, k = .int i ∧ v = .int i := by
  cases k with
  | int i => exact ⟨i, rfl, h.int⟩
  | _ => cases hk
theorem all_int_TK {ks : List D} (h1 : ks.all D.isInt = true) (h2 : ks.all D.isTK = true) : ks = [] := by
  cases ks with
  | nil => rfl
  | cons k ks =>
    simp only [List.all_cons, Bool.and_eq_true] at h1 h2
    cases k <;> first | (have := h1.1; cases this; done) | (have := h2.1; cases this; done)
theorem rp_tk {v : V} {k : D} (h : Rt T F H v k) (hk : k.isTK = true) : Rp T F v k ∧ ∃ a, v = .ref a := by
  obtain ⟨_, _, ds, rfl⟩ := TK_key hk
  have h : Rp T F v (.tup ds) := h
  refine ⟨h, ?_⟩
  cases h with | tup _ _ => exact ⟨_, rfl⟩
theorem keyOk_or {ks : List D} {k : D} (h : keyOk ks k = true) : (k.isInt = true ∧ ks.all D.isInt = true) ∨ (k.isTK = true ∧ ks.all D.isTK = true) := by
  unfold keyOk at h
  simpa only [Bool.or_eq_true, Bool.and_eq_true] using h
theorem dr_int {a : Addr} {o : HO} {ks vs : List D} (d : DR T F a o ks vs) (h : ks.all D.isInt = true) : ∃ kvs : List (Int × V), o = .dK (kvs.map fun p => (Sum.inl p.1, p.2)) ∧ ks = kvs.map (fun p => D.int p.1) ∧ RpL T F (kvs.map (·.2)) vs := by
  rcases d with d | ⟨es, _, ne, hk, _, r, _⟩
  · exact d
  · have := all_int_TK h hk
    subst this
    have := r.len
    simp at this
    exact (ne this).elim
variable {A : Around} {E : Value → Shared → Prop} {a : Addr} {o : HO} {ks vs : List D} {v : V} {u : Value} {k : D}
theorem find_get {xs : List (NestedKey × Addr × Value)} (x : XR T F xs ks vs) {j : Nat} {d : D} (h : vs[j]? = some d) : ∃ y w, xs[j]? = some y ∧ RelV w y.2.2 ∧ Rp T F w d := by
  obtain ⟨_, _, ws, rv, rp⟩ := x
  obtain ⟨w, e1, r1⟩ := rp.get h
  obtain ⟨u, e2, r2⟩ := rv.get e1
  rw [List.getElem?_map] at e2
  obtain ⟨y, e3, rfl⟩ := Option.map_eq_some_iff.mp e2
  exact ⟨y, w, e3, r2, r1⟩
theorem XR.len {xs : List (NestedKey × Addr × Value)} (x : XR T F xs ks vs) : xs.length = ks.length ∧ xs.length = vs.length := by
  obtain ⟨e, _, ws, rv, rp⟩ := x
  have e := congrArg List.length e
  simp only [List.length_map] at e
  have e2 := rv.length
  rw [List.length_map] at e2
  exact ⟨e, by rw [← e2, rp.len]⟩
theorem find_lt {j : Nat} (h : dFind ks k = some j) : j < ks.length := by
  unfold dFind at h
  rw [List.findIdx?_eq_some_iff_getElem] at h
  exact h.1
theorem dr_len (d : DR T F a o ks vs) : ks.length = vs.length := by
  rcases d with ⟨kvs, _, rfl, h⟩ | ⟨es, _, _, _, _, h1, h2⟩
  · have := h.len; simpa using this
  · have e1 := h1.len
    have e2 := h2.len
    simp only [List.length_map] at e1 e2
    omega
/-- y in d -/
theorem dF_in {Q : Value → Shared → Prop} (hu : A.units + 16 < cLine) (I : Inv X pins σ H s) (hK : KW X T) (sF : Same F H) (r : Rd H a o) (d : DR T F a o ks vs) (hk : Rt T F H v k) (rv : RelV v u) (ok : keyOk ks k = true)
    (h : ∀ s', Inv X pins σ H s' → Q (.bool (dFind ks k).isSome) s') : wpAny (model X.prog X.w) A (compareOp .In u (.ref a)) Q E s := by
  rcases keyOk_or ok with ⟨k1, k2⟩ | ⟨k1, k2⟩
  · obtain ⟨i, rfl, rfl⟩ := rp_int hk k1
    obtain ⟨kvs, rfl, rfl, hv⟩ := dr_int d k2
    refine d_in (by omega) I (.inl ⟨_, Sum.inl i, r, rfl, rfl⟩) rv fun s' I' => ?_
    rw [valV_int]
    have e : ((kvs.findIdx? fun p => p.1 == i).bind fun j => (kvs[j]?).map (·.2)).isSome = (dFind (kvs.map fun p => D.int p.1) (.int i)).isSome := by
      rw [find_int]
      cases q : kvs.findIdx? fun p => p.1 == i with
      | none => rfl
      | some j =>
        have : j < kvs.length := by rw [List.findIdx?_eq_some_iff_getElem] at q; exact q.1
        simp [this]
    rw [e]; exact h s' I'
  · obtain ⟨rk, b, rfl⟩ := rp_tk hk k1
    cases rv
    obtain ⟨hd, _, xs, dd, x⟩ := dictH_of I hK sF r d k2
    refine wpAny_in_heap (knd := NKd X) (by show A.units + 1 + 8 < cLine; omega) (TK_is I hK sF k1 rk) hd dd ?_
    rw [atKey_find k1 x.1 k2]
    have e : ((dFind ks k).bind fun j => (xs[j]?).map (·.2)).isSome = (dFind ks k).isSome := by
      cases q : dFind ks k with
      | none => rfl
      | some j =>
        have : j < xs.length := by rw [x.len.1]; exact find_lt q
        simp [this]
    rw [e]; exact h _ (I.tok _)
theorem dF_notIn {Q : Value → Shared → Prop} (hu : A.units + 16 < cLine) (I : Inv X pins σ H s) (hK : KW X T) (sF : Same F H) (r : Rd H a o) (d : DR T F a o ks vs) (hk : Rt T F H v k) (rv : RelV v u) (ok : keyOk ks k = true)
    (h : ∀ s', Inv X pins σ H s' → Q (.bool (!(dFind ks k).isSome)) s') : wpAny (model X.prog X.w) A (compareOp .NotIn u (.ref a)) Q E s := by
  rcases keyOk_or ok with ⟨k1, k2⟩ | ⟨k1, k2⟩
  · obtain ⟨i, rfl, rfl⟩ := rp_int hk k1
    obtain ⟨kvs, rfl, rfl, hv⟩ := dr_int d k2
    refine d_notIn (by omega) I (.inl ⟨_, Sum.inl i, r, rfl, rfl⟩) rv fun s' I' => ?_
    rw [valV_int]
    have e : ((kvs.findIdx? fun p => p.1 == i).bind fun j => (kvs[j]?).map (·.2)).isSome = (dFind (kvs.map fun p => D.int p.1) (.int i)).isSome := by
      rw [find_int]
      cases q : kvs.findIdx? fun p => p.1 == i with
      | none => rfl
      | some j =>
        have : j < kvs.length := by rw [List.findIdx?_eq_some_iff_getElem] at q; exact q.1
        simp [this]
    rw [e]; exact h s' I'
  · obtain ⟨rk, b, rfl⟩ := rp_tk hk k1
    cases rv
    obtain ⟨hd, _, xs, dd, x⟩ := dictH_of I hK sF r d k2
    refine PyProof.Rows.wpAny_notIn_heap (knd := NKd X) (by show A.units + 1 + 8 < cLine; omega) (TK_is I hK sF k1 rk) hd dd ?_
    rw [atKey_find k1 x.1 k2]
    have e : ((dFind ks k).bind fun j => (xs[j]?).map (·.2)).isSome = (dFind ks k).isSome := by
      cases q : dFind ks k with
      | none => rfl
      | some j =>
        have : j < xs.length := by rw [x.len.1]; exact find_lt q
        simp [this]
    rw [e]; exact h _ (I.tok _)
/-- d[y] -/
theorem dF_get {Q : Value → Shared → Prop} {x : D} (hu : A.units + 16 < cLine) (I : Inv X pins σ H s) (hK : KW X T) (sF : Same F H) (r : Rd H a o) (d : DR T F a o ks vs) (hk : Rt T F H v k) (rv : RelV v u) (ok : keyOk ks k = true) (e : dGet ks vs k = some x)
    (h : ∀ w y s', Inv X pins σ H s' → RelV w y → Rp T F w x → Q y s') : wpAny (model X.prog X.w) A (getItem (.ref a) u) Q E s := by
  unfold dGet at e
  obtain ⟨j, e1, e2⟩ := Option.bind_eq_some_iff.mp e
  rcases keyOk_or ok with ⟨k1, k2⟩ | ⟨k1, k2⟩
  · obtain ⟨i, rfl, rfl⟩ := rp_int hk k1
    obtain ⟨kvs, rfl, rfl, hv⟩ := dr_int d k2
    obtain ⟨w, e3, rw'⟩ := hv.get e2
    refine d_getItem (v := w) (by omega) I (.inl ⟨_, Sum.inl i, r, rfl, ?_⟩) rv fun w' s' I' rr => h w w' s' I' rr rw'
    rw [valV_int, ← find_int, e1]
    rw [List.getElem?_map] at e3
    exact e3.symm
  · obtain ⟨rk, b, rfl⟩ := rp_tk hk k1
    cases rv
    obtain ⟨hd, _, xs, dd, xr⟩ := dictH_of I hK sF r d k2
    obtain ⟨y, w, e3, r1, r2⟩ := find_get xr e2
    refine wpAny_getItem_heap (knd := NKd X) (p := y.2) (by show A.units + 1 + 8 < cLine; omega) (TK_is I hK sF k1 rk) dd ?_ (h w _ _ (I.tok _) r1 r2)
    rw [atKey_find k1 xr.1 k2, e1]
    show (xs[j]?).map (·.2) = _
    rw [e3]; rfl
/-! ### stores -/
theorem putK_set {κ : Type} [DecidableEq κ] {k : κ} {y : V} : ∀ {kvs : List (κ × V)} {j : Nat}, (kvs.map (·.1)).Nodup → (kvs.findIdx? fun p => decide (p.1 = k)) = some j → putK kvs k y = kvs.set j (k, y) := by
  intro kvs j nd h
  have hj := h
  rw [List.findIdx?_eq_some_iff_getElem] at hj
  obtain ⟨hl, h1, h2⟩ := hj
  have hany : (kvs.any fun kv => decide (kv.1 = k)) = true := List.any_eq_true.mpr ⟨kvs[j], List.getElem_mem hl, h1⟩
  unfold putK
  rw [if_pos hany]
  apply List.ext_getElem?
  intro i
  rw [List.getElem?_map, List.getElem?_set]
  by_cases e : j = i
  · subst e
    rw [if_pos rfl, if_pos hl, List.getElem?_eq_getElem hl]
    have e1 : kvs[j].1 = k := of_decide_eq_true h1
    simp [e1]
  · rw [if_neg e]
    cases q : kvs[i]? with
    | none => rfl
    | some p =>
      have hne : ¬ p.1 = k := fun z => e (by
        have a1 : (kvs.map (·.1))[j]? = some k := by rw [List.getElem?_map, List.getElem?_eq_getElem hl]; exact congrArg some (of_decide_eq_true h1)
        have a2 : (kvs.map (·.1))[i]? = some k := by rw [List.getElem?_map, q]; exact congrArg some z
        exact (List.getElem?_inj (List.getElem?_eq_some_iff.mp a1).1 nd).mp (a1.trans a2.symm))
      simp [hne]
theorem storedH_set {κ : Type} [DecidableEq κ] {k : κ} {b : Addr} {y : Value} {xs : List (κ × Addr × Value)} {j : Nat} {x : κ × Addr × Value} (nd : (xs.map (·.1)).Nodup) (hx : xs[j]? = some x) (e : x.1 = k) : storedH xs k b y = xs.set j (x.1, x.2.1, y) := by
  have hl := (List.getElem?_eq_some_iff.mp hx).1
  have hs : (atKey xs k).isSome = true := by
    rw [atKey_of_get (p := x.2) nd (by rw [hx, ← e])]; rfl
  unfold storedH
  rw [if_pos hs]
  apply List.ext_getElem?
  intro i
  rw [List.getElem?_map, List.getElem?_set]
  by_cases z : j = i
  · subst z
    rw [if_pos rfl, if_pos hl, hx]
    simp [putAt, e]
  · rw [if_neg z]
    cases q : xs[i]? with
    | none => rfl
    | some p =>
      have hne : ¬ p.1 = k := fun z' => z (by
        have a1 : (xs.map (·.1))[j]? = some k := by rw [List.getElem?_map, hx]; exact congrArg some e
        have a2 : (xs.map (·.1))[i]? = some k := by rw [List.getElem?_map, q]; exact congrArg some z'
        exact (List.getElem?_inj (List.getElem?_eq_some_iff.mp a1).1 nd).mp (a1.trans a2.symm))
      simp [putAt, hne]
theorem KV_keys {κ : Type} {kvs : List (κ × V)} {ws : List (κ × Value)} (r : KV kvs ws) : kvs.map (·.1) = ws.map (·.1) := by
  induction r with
  | nil => rfl
  | cons h t ih => simp [h.1, ih]
/-- the entries of a dict with tuples as keys, as an object -/
theorem ext_ok {P : Program} {w w' : World} {H' : Hp} {h' : Heap} {a : Addr} {es : DEs} (h : dicX w' a es h') : ObjOk P w H' h' a (.ext (dicX w' a es)) := by
  have hh := h
  obtain ⟨hd, hz, xs, pr, o, en, ep, h1, r⟩ := h
  refine ⟨hh, ⟨o, h1⟩, fun g1 g2 p k => ?_⟩
  obtain ⟨hd, hz, xs, pr, o, en, ep, h1, r⟩ := p
  exact ⟨hd, hz, xs, pr, o, en, ep, k _ h1, r⟩
theorem vals_paired {T : Nm} {F : Hp} : ∀ {xs : List (NestedKey × Addr × Value)} {ws : List V}, Vals ws (xs.map (·.2.2)) → ∃ es : DEs, Paired (fun (p : NestedKey × Addr × V) (q : NestedKey × Addr × Value) => p.1 = q.1 ∧ p.2.1 = q.2.1 ∧ RelV p.2.2 q.2.2) es xs ∧ (es.map fun e => e.2.2) = ws ∧ es.map (·.1) = xs.map (·.1) ∧ (es.map fun e => e.2.1) = xs.map fun x => x.2.1
  | [], _, r => by cases r; exact ⟨[], .nil, rfl, rfl, rfl⟩
  | x :: xs, _, r => by
    cases r with
    | @cons w _ ws _ h t =>
      obtain ⟨es, p, e1, e2, e3⟩ := vals_paired (T := T) (F := F) t
      exact ⟨(x.1, x.2.1, w) :: es, .cons ⟨rfl, rfl, h⟩ p, by simp [e1], by simp [e2], by simp [e3]⟩
theorem find_TK (hk : k.isTK = true) (h : ks.all D.isTK = true) {j : Nat} (e : dFind ks k = some j) : ∃ k0, ks[j]? = some k0 ∧ k0.nk = k.nk := by
  unfold dFind at e
  rw [List.findIdx?_eq_some_iff_getElem] at e
  obtain ⟨hl, h1, _⟩ := e
  have := List.all_eq_true.mp h _ (List.getElem_mem hl)
  rw [TK_eqv this hk] at h1
  exact ⟨_, List.getElem?_eq_getElem hl, of_decide_eq_true h1⟩
/-- d[y] = z, of an owned dict -/
theorem dF_set {Q : Unit → Shared → Prop} {x : D} {w : V} {y : Value} (hu : A.units + 16 < cLine) (I : Inv X pins σ H s) (hK : KW X T) (sF : Same F H) (r : H a = some o) (d : DR T F a o ks vs) (hk : Rt T F H v k) (rv : RelV v u) (ok : keyOk ks k = true) (hz : ks.length < LINE)
    (rw' : RelV w y) (rx : Rp T F w x) (h : ∀ o' s', DR T F a o' (dPutK ks k) (dPutV ks vs k x) → Inv X pins σ (upd H a o') s' → Q () s') : wpAny (model X.prog X.w) A (setItem (.ref a) u y) Q E s := by
  have hline : LINE = sizeLine := sizeLine_eq.symm
  rcases keyOk_or ok with ⟨k1, k2⟩ | ⟨k1, k2⟩
  · obtain ⟨i, rfl, rfl⟩ := rp_int hk k1
    obtain ⟨kvs, rfl, rfl, hv⟩ := dr_int d k2
    obtain ⟨_, _, ws, rel, dd⟩ := dk_of I.hok r
    have nd : ((kvs.map fun p => ((Sum.inl p.1 : Key), p.2)).map (·.1)).Nodup := by
      rw [KV_keys rel]
      obtain ⟨_, _, _, _, _, _, _, _, nd⟩ := dd
      exact nd
    refine d_setItem (H' := upd H a (.dK (putK (kvs.map fun p => ((Sum.inl p.1 : Key), p.2)) (Sum.inl i) w))) (by omega) I (.inl ⟨_, Sum.inl i, r, rfl, by rw [← hline, List.length_map]; simpa using hz, rfl⟩) rv rw' fun s' I' => h _ s' ?_ I'
    have ff : ((kvs.map fun p => ((Sum.inl p.1 : Key), p.2)).findIdx? fun p => decide (p.1 = Sum.inl i)) = kvs.findIdx? fun p => p.1 == i := by
      rw [List.findIdx?_map]
      congr 1
      funext p
      show decide ((Sum.inl p.1 : Key) = Sum.inl i) = _
      rw [key_ll]
    cases q : kvs.findIdx? fun p => p.1 == i with
    | some j =>
      rw [putK_set nd (ff.trans q)]
      have e1 : dFind (kvs.map fun p => D.int p.1) (.int i) = some j := by rw [find_int, q]
      refine .inl ⟨kvs.set j (i, w), ?_, ?_, ?_⟩
      · rw [List.map_set]
      · unfold dPutK
        rw [e1, List.map_set]
        rw [List.findIdx?_eq_some_iff_getElem] at q
        obtain ⟨hl, h1, _⟩ := q
        have h1 : kvs[j].1 = i := by simpa using h1
        rw [← h1]
        exact (set_same (by rw [List.getElem?_map, List.getElem?_eq_getElem hl]; rfl)).symm
      · unfold dPutV
        rw [e1, List.map_set]
        exact RpL.set rx j hv
    | none =>
      have hn : valV (kvs.map fun p => ((Sum.inl p.1 : Key), p.2)) (Sum.inl i) = none := by rw [valV_int, q]; rfl
      rw [putK_new w hn]
      have e1 : dFind (kvs.map fun p => D.int p.1) (.int i) = none := by rw [find_int, q]
      refine .inl ⟨kvs ++ [(i, w)], by simp, ?_, ?_⟩
      · unfold dPutK; rw [e1]; simp
      · unfold dPutV; rw [e1, List.map_append]; exact hv.app (.cons rx .nil)
  · obtain ⟨rk, b, rfl⟩ := rp_tk hk k1
    cases rv
    obtain ⟨hd, hz2, xs, dd, xr⟩ := dictH_of I hK sF (.inl r) d k2
    have xl := xr.len.1
    have mu : Mut (H a) := by
      rw [r]
      rcases d with ⟨_, rfl, _, _⟩ | ⟨_, rfl, _⟩ <;> exact True.intro
    refine wpAny_setItem_heap (knd := NKd X) (hsz := by rw [xl]; exact hz2) (by show A.units + 1 + 8 < cLine; omega) (TK_is I hK sF k1 rk) dd fun h' dd' hs => ?_
    obtain ⟨q, en, ep, hq, h2, h3, h4, h5, h6⟩ := dd'
    have key : ∀ ks' vs', ks'.all D.isTK = true → ks'.length ≤ sizeLine → ks' ≠ [] → XR T F (storedH xs k.nk b y) ks' vs' → ∃ es, DR T F a (.ext (dicX T.w a es)) ks' vs' ∧ dicX T.w a es h' := by
      intro ks' vs' a1 a2 a3 x'
      obtain ⟨b1, b2, ws, b3, b4⟩ := x'
      obtain ⟨es, p, c1, c2, c3⟩ := vals_paired (T := T) (F := F) b3
      have hl : (storedH xs k.nk b y).length = ks'.length := by
        have := congrArg List.length b1
        simpa using this
      have hel : es.length = ks'.length := by rw [← hl]; exact Paired.length p
      refine ⟨es, .inr ⟨es, rfl, ?_, a1, c2.trans b1, ?_, by rw [c1]; exact b4⟩, hd, by rw [hel]; exact a2, _, p, q, en, ep, hq, h2, h3, ?_, h6⟩
      · intro z
        subst z
        exact a3 (List.eq_nil_of_length_eq_zero hel.symm)
      · have : (es.map fun e => V.ref e.2.1) = (storedH xs k.nk b y).map fun x => V.ref x.2.1 := by
          have := congrArg (List.map V.ref) c3
          simpa [List.map_map, Function.comp_def] using this
        rw [this]; exact b2
      · rw [h4, ← hK.2]; exact (entry_nk _).symm
    have nd : (xs.map (·.1)).Nodup := by obtain ⟨_, _, _, _, _, _, _, _, nd⟩ := dd; exact nd
    have x' : XR T F (storedH xs k.nk b y) (dPutK ks k) (dPutV ks vs k x) ∧ (dPutK ks k).all D.isTK = true ∧ (dPutK ks k).length ≤ sizeLine ∧ dPutK ks k ≠ [] := by
      obtain ⟨b1, b2, ws, b3, b4⟩ := xr
      unfold dPutK dPutV
      cases e : dFind ks k with
      | some j =>
        obtain ⟨k0, f1, f2⟩ := find_TK k1 k2 e
        have hj : j < xs.length := by rw [xl]; exact find_lt e
        have ex : xs[j]? = some xs[j] := List.getElem?_eq_getElem hj
        have e1 : xs[j].1 = k.nk := by
          have z : (xs.map (·.1))[j]? = (ks.map D.nk)[j]? := by rw [b1]
          rw [List.getElem?_map, List.getElem?_map, ex, f1] at z
          rw [← f2]
          exact Option.some.inj z
        rw [storedH_set nd ex e1]
        refine ⟨⟨?_, ?_, ws.set j w, ?_, RpL.set rx j b4⟩, k2, hz2, fun z => by have z : ks = [] := z; rw [z] at f1; simp at f1⟩
        · rw [List.map_set]
          rw [set_same (by rw [List.getElem?_map, ex]; rfl)]
          exact b1
        · rw [List.map_set]
          rw [set_same (by rw [List.getElem?_map, ex]; rfl)]
          exact b2
        · rw [List.map_set]
          exact Vals.set rw' j b3
      | none =>
        have hn : atKey xs k.nk = none := by rw [atKey_find k1 b1 k2, e]; rfl
        rw [storedH_new hn]
        refine ⟨⟨by simp [b1], ?_, ws ++ [w], ?_, b4.app (.cons rx .nil)⟩, by simp [k2, k1], by rw [List.length_append, ← hline]; exact hz, by simp⟩
        · rw [List.map_append]; exact b2.app (.cons rk .nil)
        · rw [List.map_append]; exact Vals.append b3 (.cons rw' .nil)
    obtain ⟨es, dr, dx⟩ := key _ _ x'.2.1 x'.2.2.1 x'.2.2.2 x'.1
    exact h _ _ dr (d_write I mu hs ⟨q, hq⟩ (ext_ok dx))
/-- a dict's entries -/
theorem dr_raw (I : Inv X pins σ H s) (r : Rd H a o) (d : DR T F a o ks vs) : (a == sysModules) = false ∧ ks.length ≤ sizeLine ∧ ∃ en ep, s.heap.DictRaw a en ep ∧ (∃ kv : List V, Vals kv (en.toList.map (·.key)) ∧ RpL T F kv ks) ∧ ∃ wv : List V, Vals wv (en.toList.map (·.val)) ∧ RpL T F wv vs := by
  rcases d with ⟨kvs, rfl, rfl, hv⟩ | ⟨es, rfl, _, hk, e4, r5, r6⟩
  · obtain ⟨hz, hd, ws, rel, o, en, ep, h1, h2, h3, hko, h5, nd⟩ := dk_rd I.hok r
    clear nd
    refine ⟨hd, by simpa using hz, en, ep, ⟨o, h1, h2, h3⟩, ?_, ?_⟩
    · refine ⟨kvs.map fun p => .int p.1, ?_, ?_⟩
      · clear hz hv r
        generalize en.toList = l at h5
        induction kvs generalizing ws l with
        | nil => cases rel; cases h5; exact .nil
        | cons p kvs ih =>
          cases rel with
          | cons q t =>
            cases h5 with
            | @cons e kv es' kvs' a1 a2 a3 =>
              refine .cons ?_ (ih _ t _ a3)
              rw [← q.1] at a1
              rcases keyIs_shape (show keyIs (Sum.inl p.1) e.key = true from a1) with ⟨i, t', ek, ev⟩ | ⟨z, t', ek, ev⟩
              · cases ek; show RelV _ e.key; rw [ev]; exact ⟨t', rfl⟩
              · cases ek
      · clear rel hz h5 hv r
        induction kvs with
        | nil => exact .nil
        | cons p kvs ih => exact .cons (.int _) ih
    · refine ⟨kvs.map (·.2), ?_, hv⟩
      clear hz hv r
      generalize en.toList = l at h5
      induction kvs generalizing ws l with
      | nil => cases rel; cases h5; exact .nil
      | cons p kvs ih =>
        cases rel with
        | cons q t =>
          cases h5 with
          | @cons e kv es' kvs' a1 a2 a3 => exact .cons (by show RelV _ e.val; rw [a2]; exact q.2) (ih _ t _ a3)
  · obtain ⟨⟨hd, hz, xs, pr, o, en, ep, h1, h2, h3, h4, h5⟩, _⟩ := (show ObjOk X.prog X.w H s.heap a (.ext (dicX T.w a es)) from r.ok I.hok)
    have hl : ks.length = es.length := by rw [← r5.len, List.length_map]
    obtain ⟨q1, q2, q3⟩ := dicX_vals pr
    refine ⟨hd, by rw [hl]; exact hz, en, ep, ⟨o, h1, h2, h3⟩, ⟨_, ?_, r5⟩, ⟨_, ?_, r6⟩⟩
    · rw [h4, List.map_map]
      have e1 : (xs.map ((fun e : DictEntry => e.key) ∘ fun x => (⟨x.1.hash T.w, .ref x.2.1, x.2.2⟩ : DictEntry))) = (es.map fun e => e.2.1).map Value.ref := by
        rw [← q2, List.map_map]; rfl
      rw [e1]
      have e2 : (es.map fun e => V.ref e.2.1) = (es.map fun e => e.2.1).map V.ref := by rw [List.map_map]; rfl
      rw [e2]
      generalize (es.map fun e => e.2.1) = l
      induction l with
      | nil => exact .nil
      | cons a l ih => exact .cons rfl ih
    · rw [h4, List.map_map]; exact q3
theorem dr_type (I : Inv X pins σ H s) (r : Rd H a o) (d : DR T F a o ks vs) : s.TypeIs (.ref a) "dict" := by
  obtain ⟨_, _, en, ep, h, _⟩ := dr_raw I r d
  exact h.typeIs
end
end Fx
end
section
set_option linter.all false
set_option Elab.async false
set_option maxRecDepth 100000
set_option maxHeartbeats 4000000
/-! tuple * 1, () * k: the tuple itself. -/
namespace L2
open PySem PySem.Spec PyProof.Rows
theorem tuple_mul_same (l : Addr) (xs : Array Value) (n : Nat) (dd : Option Addr) (sl : Array (Option Value)) (k : Int) (u : Tok) (b0 : (decide (k < -(2 ^ 63)) || decide (k ≥ 2 ^ 63)) = false) (b1 : (xs.isEmpty || k == 1) = true) :
    Meets (Builtin.«tuple.__mul__» ⟨[.ref l, .int k u], []⟩) (fun _ R s => s.heap.get? l = some { cls := .type "tuple", dict := dd, data := .seq xs n, slots := sl } ∧ R (.ok (.ret (.ref l))) s) :=
  .of_wp fun P w A R s h => by
    obtain ⟨hp, g, d, tk, os⟩ := s
    obtain ⟨hl, h⟩ := h
    have fi := AutoSeq1.idx_int
    wp_walk using wpAny_loadPart' hl
    refine wpAny_ite_false (decide_eq_false (by rw [b0]; simp)) ?_
    wp_walk using wpAny_loadPart' hl
    exact ⟨_, rfl, h⟩
def rRepS (K : PySem.W.Frag) : R2 := fun x y H Q => ∃ l k xs, x = .ref l ∧ y = .int k ∧ SqT K H l xs ∧ (xs = [] ∨ k = 1) ∧ -1000 ≤ k ∧ k ≤ 1000 ∧ Q (.ref l) H
theorem op_repS {X : Cx} : OpR X (binaryOp .Mult) (rRepS X.K) := by
  rintro pins s σ H _ _ v u Q I rx ry ⟨l, k, xs, rfl, rfl, hT, h1, h2, h3, q⟩
  cases rx
  obtain ⟨t, rfl⟩ := ry
  obtain ⟨its, r, ⟨⟨cls, dd, data, sl⟩, ho, hc, n, hd⟩, hs⟩ := I.tuple hT
  simp only at hc hd
  subst hc hd
  have hle : its.length = xs.length := r.length.symm
  have b0 : (decide (k < -(2 ^ 63)) || decide (k ≥ 2 ^ 63)) = false := by
    simp; omega
  have b1 : (its.toArray.isEmpty || k == 1) = true := by
    rcases h1 with h1 | h1
    · subst h1
      cases its with
      | nil => rfl
      | cons a b => simp at hle
    · subst h1; simp
  refine wpAny_binaryOp_repeat_ref (T := "tuple") (U := "int") (by decide) ⟨_, ho, rfl⟩ (fun s' => typeIs_int s' k t) noFill_tuple_mul F.fills_int_mul F.slot_int_rmul repeat_tuple F.slot_int_index.lookup
    (call_meets F.slot_int_rmul (typeIs_int s k t) F.entry_int_rmul (F.args_int_rmul_2 _ _) (int_rmul_tuple k t l its.toArray n dd sl) ⟨ho, rfl, ⟨_, ho, rfl⟩, call_meets F.slot_tuple_mul ⟨_, ho, rfl⟩ F.entry_tuple_mul (F.args_tuple_mul_2 _ _) (tuple_mul_same l its.toArray n dd sl k t b0 b1) ⟨ho, ?_⟩⟩)
  exact ⟨.ref l, H, I, rfl, q⟩
theorem tuple_mulZ (l : Addr) (xs : Array Value) (n : Nat) (dd : Option Addr) (sl : Array (Option Value)) (k : Int) (u : Tok) (b0 : (decide (k < -(2 ^ 63)) || decide (k ≥ 2 ^ 63)) = false) (b1 : (xs.isEmpty || k == 1) = false) (b2 : (decide (k ≤ 0) || xs.isEmpty) = true) :
    Meets (Builtin.«tuple.__mul__» ⟨[.ref l, .int k u], []⟩) (fun _ R s => s.heap.get? l = some { cls := .type "tuple", dict := dd, data := .seq xs n, slots := sl } ∧
      R (.ok (.ret (Value.ref s.heap.objs.size))) { s with heap := s.heap.push { cls := Value.type "tuple", data := Data.seq #[] }, toks := s.toks }) :=
  .of_wp fun P w A R s h => by
    obtain ⟨hp, g, d, tk, os⟩ := s
    obtain ⟨hl, h⟩ := h
    have fi := AutoSeq1.idx_int
    have hsz : (#[] : Array Value).size ≤ sizeLine := Nat.zero_le _
    wp_walk using wpAny_loadPart' hl
    repeat (first
      | (refine wpAny_ite_false (decide_eq_false (by rw [b0]; exact Bool.false_ne_true)) ?_; wp_walk using wpAny_loadPart' hl)
      | (refine wpAny_ite_false (decide_eq_false (by rw [b1]; exact Bool.false_ne_true)) ?_; wp_walk using wpAny_loadPart' hl)
      | (refine PyProof.Rows.wpAny_ite_true (decide_eq_true b2) ?_; wp_walk using wpAny_loadPart' hl)
      | (refine wpAny_ite_false (decide_eq_false (Nat.not_lt.mpr hsz)) ?_; wp_walk using wpAny_loadPart' hl))
    exact ⟨_, rfl, h⟩
def rRepZ (K : PySem.W.Frag) : R2 := fun x y H Q => ∃ l k xs, x = .ref l ∧ y = .int k ∧ SqT K H l xs ∧ xs ≠ [] ∧ -1000 ≤ k ∧ k ≤ 0 ∧ ∀ p, H p = none → Q (.ref p) (upd H p (.tup []))
theorem op_repZ {X : Cx} : OpR X (binaryOp .Mult) (rRepZ X.K) := by
  rintro pins s σ H _ _ v u Q I rx ry ⟨l, k, xs, rfl, rfl, hT, hne, h2, h3, q⟩
  cases rx
  obtain ⟨t, rfl⟩ := ry
  obtain ⟨its, r, ⟨⟨cls, dd, data, sl⟩, ho, hc, n, hd⟩, hs⟩ := I.tuple hT
  simp only at hc hd
  subst hc hd
  have hle : its.length = xs.length := r.length.symm
  have hn : its ≠ [] := fun e => hne (by
    rw [e] at hle
    exact List.eq_nil_of_length_eq_zero hle.symm)
  have hi : its.toArray.isEmpty = false := by
    cases its with
    | nil => exact absurd rfl hn
    | cons a b => rfl
  have b0 : (decide (k < -(2 ^ 63)) || decide (k ≥ 2 ^ 63)) = false := by
    simp; omega
  have b1 : (its.toArray.isEmpty || k == 1) = false := by
    rw [hi, Bool.false_or]
    exact beq_eq_false_iff_ne.mpr (by omega)
  have b2 : (decide (k ≤ 0) || its.toArray.isEmpty) = true := by
    rw [decide_eq_true h3]; rfl
  refine wpAny_binaryOp_repeat_ref (T := "tuple") (U := "int") (by decide) ⟨_, ho, rfl⟩ (fun s' => typeIs_int s' k t) noFill_tuple_mul F.fills_int_mul F.slot_int_rmul repeat_tuple F.slot_int_index.lookup
    (call_meets F.slot_int_rmul (typeIs_int s k t) F.entry_int_rmul (F.args_int_rmul_2 _ _) (int_rmul_tuple k t l its.toArray n dd sl) ⟨ho, rfl, ⟨_, ho, rfl⟩, call_meets F.slot_tuple_mul ⟨_, ho, rfl⟩ F.entry_tuple_mul (F.args_tuple_mul_2 _ _) (tuple_mulZ l its.toArray n dd sl k t b0 b1 b2) ⟨ho, ?_⟩⟩)
  refine ⟨.ref s.heap.objs.size, _, I.laid (t' := s.toks) (o := .tup []) (fun b ob q => Heap.get?_push_of_some _ q) (Nat.le_refl _) ?_, rfl, q _ (I.hok.fresh (Nat.le_refl _))⟩
  exact ⟨Nat.zero_le _, [], .nil, IsTup.new _ _⟩
theorem rmul_listW (a : Int) (t : Tok) (l : Addr) (items : Array Value) (n : Nat) (dd : Option Addr) (sl : Array (Option Value)) :
    Meets (Builtin.«int.__rmul__» ⟨[.int a t, .ref l], []⟩) (fun _ R s => s.heap.get? l = some { cls := .type "list", dict := dd, data := .seq items n, slots := sl } ∧ R (.ok (.ret Value.notImplemented)) s) :=
  .of_wp fun prog w A R s h => by obtain ⟨hp, g, d, tk, os⟩ := s; obtain ⟨hl, h⟩ := h; wp_walk; exact ⟨_, rfl, h⟩
theorem list_mulW (l : Addr) (items : Array Value) (n : Nat) (dd : Option Addr) (sl : Array (Option Value)) (x : Int) (u : Tok) (hc0 : ¬(!Builtin.List.listFitsIndex x) = true) (hc1 : ¬items.size * x.toNat > (2 ^ 63 - 1) / 8) (hc2 : ¬Builtin.List.listTooLong (items.size * x.toNat) = true) :
    Meets (Builtin.«list.__mul__» ⟨[.ref l, .int x u], []⟩) (fun _ R s => s.heap.get? l = some { cls := .type "list", dict := dd, data := .seq items n, slots := sl } ∧ R (.ok (.ret (Value.ref s.heap.objs.size))) { s with heap := s.heap.push { cls := Value.type "list", data := Data.seq (List.foldl (fun x1 x2 => x1 ++ x2) #[] (List.replicate (if items.isEmpty = true then 0 else x.toNat) items)) }, toks := s.toks }) :=
  .of_wp fun prog w A R s h => by
    obtain ⟨hp, g, d, tk, os⟩ := s; obtain ⟨hl, h⟩ := h
    have hsz := PySem.AutoListH.joined_fits hc2
    wp_walk using wpAny_loadPart' hl
    refine wpAny_ite_false (decide_eq_false (Nat.not_lt.mpr hsz)) ?_
    wp_walk using wpAny_loadPart' hl
    exact ⟨_, rfl, h⟩
/-- a list times an int -/
def rRepL (K : PySem.W.Frag) : R2 := fun x y H Q => ∃ l k xs, x = .ref l ∧ y = .int k ∧ SqL K H l xs ∧ 0 ≤ k ∧ k ≤ 1000 ∧ xs.length ≤ 1000 ∧ ∀ p, H p = none → Q (.ref p) (upd H p (.lst (List.replicate k.toNat xs).flatten))
theorem op_repL {X : Cx} : OpR X (binaryOp .Mult) (rRepL X.K) := by
  intro pins s σ H x y v u Q I rx ry h
  obtain ⟨l, k, xs, rfl, rfl, hH, h1, h2, hz, q⟩ := h
  cases rx
  obtain ⟨t, rfl⟩ := ry
  obtain ⟨its, r, ⟨⟨cls, dd, data, sl⟩, n, ho, hc, hd, hs⟩, _⟩ := I.list hH
  simp only at hc hd hs
  subst hc hd hs
  have hl := r.length
  have hm : its.length * k.toNat ≤ 1000 * 1000 := Nat.mul_le_mul (by omega) (by omega)
  have hlen : its.toArray.size * k.toNat ≤ sizeLine := by rw [List.size_toArray, sizeLine_eq]; omega
  have hcap : ¬ its.toArray.size * k.toNat > (2 ^ 63 - 1) / 8 := by
    have : (sizeLine : Nat) ≤ (2 ^ 63 - 1) / 8 := by decide
    omega
  have hfit : ¬ (!Builtin.List.listFitsIndex k) = true := by
    rw [fitsIndex_both (by omega) (by omega)]
    exact Bool.false_ne_true
  have hlong : ¬ Builtin.List.listTooLong (its.toArray.size * k.toNat) = true := by
    rw [notLongL hlen]
    exact Bool.false_ne_true
  have hnew : List.foldl (fun x1 x2 => x1 ++ x2) #[] (List.replicate (if its.toArray.isEmpty = true then 0 else k.toNat) its.toArray) = (List.replicate k.toNat its).flatten.toArray := by
    have f0 : ∀ m : Nat, List.foldl (fun x1 x2 => x1 ++ x2) #[] (List.replicate m its.toArray) = (List.replicate m its).flatten.toArray := fun m => by
      have := foldl_rep its m []
      rw [List.nil_append] at this
      exact this
    rw [f0]
    cases its with
    | nil => simp
    | cons a r' => rw [if_neg (by simp)]
  refine wpAny_binaryOp_repeat_ref (T := "list") (U := "int") (by decide) ⟨_, ho, rfl⟩ (fun s' => typeIs_int s' k t) noFill_list_mul F.fills_int_mul F.slot_int_rmul repeat_list F.slot_int_index.lookup
    (call_meets F.slot_int_rmul (typeIs_int s k t) F.entry_int_rmul (F.args_int_rmul_2 _ _) (rmul_listW k t l its.toArray n none sl)
      ⟨ho, rfl, ⟨_, ho, rfl⟩, call_meets F.slot_list_mul ⟨_, ho, rfl⟩ F.entry_list_mul (F.args_list_mul_2 _ _) (list_mulW l its.toArray n none sl k t hfit hcap hlong) ⟨ho, ?_⟩⟩)
  rw [hnew]
  exact ⟨.ref _, _, I.lnew (t' := s.toks) (r.rep k.toNat) (by rw [PyProof.Rows.lm_len_rep_flat, sizeLine_eq, Nat.mul_comm, hl]; omega), rfl, q _ I.fresh⟩
end L2
end
section
set_option linter.all false
set_option Elab.async false
set_option maxRecDepth 100000
set_option maxHeartbeats 4000000
/-! The operations on data, each against the model. -/
namespace Fx
open PySem PySem.Spec L2
variable {T : Nm}

/-! ### data, as the library says it -/
mutual
theorem D.py_plain : ∀ d : D, d.plain = true → d.py.plain = true
  | .non, _ => rfl
  | .bl _, _ => rfl
  | .int _, _ => rfl
  | .str _, _ => rfl
  | .tup ds, h => D.pys_plain ds h
  | .lst ds, h => D.pys_plain ds h
  | .rng _ _, h => by cases h
  | .ins _ _, h => by cases h
  | .dct _ _, h => by cases h
  | .err _ _, h => by cases h
theorem D.pys_plain : ∀ ds : List D, D.plains ds = true → PyData.plainAll (D.pys ds) = true
  | [], _ => rfl
  | d :: ds, h => by
    simp only [D.plains, Bool.and_eq_true] at h
    simp only [D.pys, PyData.plainAll, D.py_plain d h.1, D.pys_plain ds h.2, Bool.and_self]
end
mutual
theorem D.py_depth : ∀ d : D, d.plain = true → d.py.depth = d.depth
  | .non, _ => rfl
  | .bl _, _ => rfl
  | .int _, _ => rfl
  | .str _, _ => rfl
  | .tup ds, h => by simp only [D.py, PyData.depth, D.depth, D.pys_depth ds h]
  | .lst ds, h => by simp only [D.py, PyData.depth, D.depth, D.pys_depth ds h]
  | .rng _ _, h => by cases h
  | .ins _ _, h => by cases h
  | .dct _ _, h => by cases h
  | .err _ _, h => by cases h
theorem D.pys_depth : ∀ ds : List D, D.plains ds = true → PyData.depthAll (D.pys ds) = D.depths ds
  | [], _ => rfl
  | d :: ds, h => by
    simp only [D.plains, Bool.and_eq_true] at h
    simp only [D.pys, PyData.depthAll, D.depths, D.py_depth d h.1, D.pys_depth ds h.2]
end
mutual
theorem D.py_eqv : ∀ a b : D, a.plain = true → b.plain = true → PyData.eqv a.py b.py = a.eqv b
  | .non, b, _, hb => by cases b <;> first | rfl | cases hb
  | .bl _, b, _, hb => by cases b <;> first | rfl | cases hb
  | .int _, b, _, hb => by cases b <;> first | rfl | cases hb
  | .str _, b, _, hb => by cases b <;> first | rfl | cases hb
  | .tup xs, b, ha, hb => by
    cases b with
    | tup ys => exact D.pys_eqv xs ys ha hb
    | rng _ _ => cases hb
    | ins _ _ => cases hb
    | dct _ _ => cases hb
    | err _ _ => cases hb
    | _ => rfl
  | .lst xs, b, ha, hb => by
    cases b with
    | lst ys => exact D.pys_eqv xs ys ha hb
    | rng _ _ => cases hb
    | ins _ _ => cases hb
    | dct _ _ => cases hb
    | err _ _ => cases hb
    | _ => rfl
  | .rng _ _, _, h, _ => by cases h
  | .ins _ _, _, h, _ => by cases h
  | .dct _ _, _, h, _ => by cases h
  | .err _ _, _, h, _ => by cases h
theorem D.pys_eqv : ∀ xs ys : List D, D.plains xs = true → D.plains ys = true → PyData.eqvAll (D.pys xs) (D.pys ys) = D.eqvs xs ys
  | [], [], _, _ => rfl
  | [], _ :: _, _, _ => rfl
  | _ :: _, [], _, _ => rfl
  | x :: xs, y :: ys, h, k => by
    simp only [D.plains, Bool.and_eq_true] at h k
    simp only [D.pys, PyData.eqvAll, D.eqvs, D.py_eqv x y h.1 k.1, D.pys_eqv xs ys h.2 k.2]
end
section
variable {X : Cx} {pins : List (Addr × Obj)} {σ : St} {H : Hp} {s : Shared}
mutual
theorem Rp.reads (I : Inv X pins σ H s) (hK : KW X T) : ∀ (d : D) (v : V) (u : Value), d.plain = true → Rp T H v d → RelV v u → ∃ as, Reads s.heap u d.py as
  | .non, _, _, _, h, r => by cases h; cases r; exact ⟨_, Reads.none⟩
  | .bl b, _, _, _, h, r => by cases h; cases r; exact ⟨_, Reads.bool b⟩
  | .int i, _, _, _, h, r => by cases h; obtain ⟨t, rfl⟩ := r; exact ⟨_, Reads.int i t⟩
  | .str x, _, _, _, h, r => by cases h; obtain ⟨t, rfl⟩ := r; exact ⟨_, Reads.str x t⟩
  | .tup ds, _, _, p, h, r => by
    cases h with
    | tup hs ha =>
      cases r
      obtain ⟨its, rv, ⟨o, ho, hc, n, hd⟩, _⟩ := I.tuple (by rw [hK.1]; exact hs)
      obtain ⟨as, hr⟩ := RpL.reads I hK ds _ its p ha rv
      exact ⟨_, Reads.tuple ho hc hd hr⟩
  | .lst ds, _, _, p, h, r => by
    cases h with
    | lst hs ha =>
      cases r
      obtain ⟨its, rv, ⟨o, n, ho, hc, _, hd⟩, _⟩ := I.list (by rw [hK.1]; exact hs)
      obtain ⟨as, hr⟩ := RpL.reads I hK ds _ its p ha rv
      exact ⟨_, Reads.list ho hc hd hr⟩
  | .rng _ _, _, _, p, _, _ => by cases p
  | .ins _ _, _, _, p, _, _ => by cases p
  | .dct _ _, _, _, p, _, _ => by cases p
  | .err _ _, _, _, p, _, _ => by cases p
theorem RpL.reads (I : Inv X pins σ H s) (hK : KW X T) : ∀ (ds : List D) (vs : List V) (us : List Value), D.plains ds = true → RpL T H vs ds → Vals vs us → ∃ as, ReadsAll s.heap us (D.pys ds) as
  | [], _, _, _, h, r => by cases h; cases r; exact ⟨_, ReadsAll.nil⟩
  | d :: ds, _, _, p, h, r => by
    simp only [D.plains, Bool.and_eq_true] at p
    cases h with
    | cons h1 h2 =>
      cases r with
      | cons r1 r2 =>
        obtain ⟨as, q1⟩ := Rp.reads I hK d _ _ p.1 h1 r1
        obtain ⟨bs, q2⟩ := RpL.reads I hK ds _ _ p.2 h2 r2
        exact ⟨_, ReadsAll.cons q1 q2⟩
end
end

section
variable {X : Cx}
theorem line_eq : LINE = sizeLine := sizeLine_eq.symm
/-! ### comparisons -/
def rC (T : Nm) (g : D → D → Option Bool) : R2 := fun x y H Q => ∃ F dx dy b, Same F H ∧ Rt T F H x dx ∧ Rt T F H y dy ∧ g dx dy = some b ∧ Q (.bl b) H
theorem eqD_some {x y : D} {b : Bool} (h : eqD x y = some b) : x.plain = true ∧ y.plain = true ∧ min x.depth y.depth ≤ 40 ∧ b = x.eqv y := by
  unfold eqD at h
  split at h
  · rename_i c
    simp only [Bool.and_eq_true, decide_eq_true_eq] at c
    exact ⟨c.1.1, c.1.2, c.2, (Option.some.inj h).symm⟩
  · cases h
theorem op_eqF (hK : KW X T) (hu : X.A.units + 64 < cLine) : OpR X (compareOp .Eq) (rC T eqD) := by
  intro pins s σ H x y v u Q I rx ry h
  obtain ⟨F, dx, dy, b, sF, hx, hy, e, q⟩ := h
  obtain ⟨p1, p2, dp, rfl⟩ := eqD_some e
  obtain ⟨as, r1⟩ := Rp.reads I hK dx x v p1 (hx.rp sF) rx
  obtain ⟨bs, r2⟩ := Rp.reads I hK dy y u p2 (hy.rp sF) ry
  exact SeqAt.eq_plain r1 r2 (D.py_plain _ p1) (D.py_plain _ p2) (by rw [D.py_depth _ p1, D.py_depth _ p2]; omega) ⟨.bl _, H, I, by rw [D.py_eqv _ _ p1 p2]; rfl, q⟩
theorem op_neF (hK : KW X T) (hu : X.A.units + 64 < cLine) : OpR X (compareOp .NotEq) (rC T fun x y => (eqD x y).map not) := by
  intro pins s σ H x y v u Q I rx ry h
  obtain ⟨F, dx, dy, b, sF, hx, hy, e, q⟩ := h
  obtain ⟨b', e', rfl⟩ := Option.map_eq_some_iff.mp e
  obtain ⟨p1, p2, dp, rfl⟩ := eqD_some e'
  obtain ⟨as, r1⟩ := Rp.reads I hK dx x v p1 (hx.rp sF) rx
  obtain ⟨bs, r2⟩ := Rp.reads I hK dy y u p2 (hy.rp sF) ry
  exact SeqAt.ne_plain r1 r2 (D.py_plain _ p1) (D.py_plain _ p2) (by rw [D.py_depth _ p1, D.py_depth _ p2]; omega) ⟨.bl _, H, I, by rw [D.py_eqv _ _ p1 p2]; rfl, q⟩
theorem any_py (d : D) (p : d.plain = true) : ∀ ds : List D, D.plains ds = true → ((D.pys ds).any fun z => PyData.eqv z d.py) = ds.any fun z => z.eqv d
  | [], _ => rfl
  | x :: ds, h => by
    simp only [D.plains, Bool.and_eq_true] at h
    simp only [D.pys, List.any_cons, D.py_eqv x d h.1 p, any_py d p ds h.2]
theorem inD_some {x y : D} {b : Bool} (hn : ∀ ks vs, y ≠ .dct ks vs) (h : inD x y = some b) : ∃ ds, (y = .tup ds ∨ y = .lst ds) ∧ x.plain = true ∧ D.plains ds = true ∧ min (D.depths ds) x.depth ≤ 40 ∧ b = ds.any fun z => z.eqv x := by
  cases y with
  | tup ds =>
    simp only [inD] at h
    split at h
    · rename_i c
      simp only [Bool.and_eq_true, decide_eq_true_eq] at c
      exact ⟨ds, .inl rfl, c.1.1, c.1.2, c.2, (Option.some.inj h).symm⟩
    · cases h
  | lst ds =>
    simp only [inD] at h
    split at h
    · rename_i c
      simp only [Bool.and_eq_true, decide_eq_true_eq] at c
      exact ⟨ds, .inr rfl, c.1.1, c.1.2, c.2, (Option.some.inj h).symm⟩
    · cases h
  | dct ks vs => exact absurd rfl (hn ks vs)
  | _ => cases h
theorem inD_dct {x y : D} {b : Bool} (h : inD x y = some b) : (∃ ks vs, y = .dct ks vs ∧ keyOk ks x = true ∧ b = (dFind ks x).isSome) ∨ ∀ ks vs, y ≠ .dct ks vs := by
  cases y with
  | dct ks vs =>
    simp only [inD] at h
    split at h
    · rename_i c
      exact .inl ⟨ks, vs, rfl, c, (Option.some.inj h).symm⟩
    · cases h
  | _ => exact .inr fun _ _ z => by cases z
theorem op_inF (hK : KW X T) (hu : X.A.units + 64 < cLine) : OpR X (compareOp .In) (rC T inD) := by
  intro pins s σ H x y v u Q I rx ry h
  obtain ⟨F, dx, dy, b, sF, hx, hy, e, q⟩ := h
  rcases inD_dct e with ⟨ks, vs, rfl, c, rfl⟩ | hn
  · obtain ⟨a, o, rfl, r1, r2⟩ := hy
    cases ry
    exact dF_in (by omega) I hK sF r1 r2 hx rx c fun s' I' => ⟨.bl _, H, I', rfl, q⟩
  obtain ⟨ds, ed, p1, p2, dp, rfl⟩ := inD_some hn e
  obtain ⟨as, r1⟩ := Rp.reads I hK dx x v p1 (hx.rp sF) rx
  rcases ed with rfl | rfl
  · obtain ⟨bs, r2⟩ := Rp.reads I hK (.tup ds) y u p2 (hy.rp sF) ry
    exact SeqAt.in_tuple_data r2 r1 (D.pys_plain _ p2) (D.py_plain _ p1) (by rw [D.pys_depth _ p2, D.py_depth _ p1]; omega) ⟨.bl _, H, I, by rw [any_py _ p1 _ p2]; rfl, q⟩
  · obtain ⟨bs, r2⟩ := Rp.reads I hK (.lst ds) y u p2 (hy.rp sF) ry
    exact SeqAt.in_list_data r2 r1 (D.pys_plain _ p2) (D.py_plain _ p1) (by rw [D.pys_depth _ p2, D.py_depth _ p1]; omega) ⟨.bl _, H, I, by rw [any_py _ p1 _ p2]; rfl, q⟩
theorem op_notInF (hK : KW X T) (hu : X.A.units + 64 < cLine) : OpR X (compareOp .NotIn) (rC T fun x y => (inD x y).map not) := by
  intro pins s σ H x y v u Q I rx ry h
  obtain ⟨F, dx, dy, b, sF, hx, hy, e, q⟩ := h
  obtain ⟨b', e', rfl⟩ := Option.map_eq_some_iff.mp e
  rcases inD_dct e' with ⟨ks, vs, rfl, c, rfl⟩ | hn
  · obtain ⟨a, o, rfl, r1, r2⟩ := hy
    cases ry
    exact dF_notIn (by omega) I hK sF r1 r2 hx rx c fun s' I' => ⟨.bl _, H, I', rfl, q⟩
  obtain ⟨ds, ed, p1, p2, dp, rfl⟩ := inD_some hn e'
  obtain ⟨as, r1⟩ := Rp.reads I hK dx x v p1 (hx.rp sF) rx
  rcases ed with rfl | rfl
  · obtain ⟨bs, r2⟩ := Rp.reads I hK (.tup ds) y u p2 (hy.rp sF) ry
    exact SeqAt.notIn_tuple_data r2 r1 (D.pys_plain _ p2) (D.py_plain _ p1) (by rw [D.pys_depth _ p2, D.py_depth _ p1]; omega) ⟨.bl _, H, I, by rw [any_py _ p1 _ p2]; rfl, q⟩
  · obtain ⟨bs, r2⟩ := Rp.reads I hK (.lst ds) y u p2 (hy.rp sF) ry
    exact SeqAt.notIn_list_data r2 r1 (D.pys_plain _ p2) (D.py_plain _ p1) (by rw [D.pys_depth _ p2, D.py_depth _ p1]; omega) ⟨.bl _, H, I, by rw [any_py _ p1 _ p2]; rfl, q⟩
theorem ltD_some {x y : D} {b : Bool} (h : ltD x y = some b) : (∃ i j, x = .int i ∧ y = .int j ∧ b = decide (i < j)) ∨ (ordOk x y = true ∧ b = dltD x y) := by
  unfold ltD at h
  split at h
  · exact .inl ⟨_, _, rfl, rfl, (Option.some.inj h).symm⟩
  · split at h
    · rename_i c
      exact .inr ⟨c, (Option.some.inj h).symm⟩
    · cases h
theorem ordOk_and {x y : D} (h : ordOk x y = true) : x.plain = true ∧ y.plain = true ∧ min x.depth y.depth ≤ 40 ∧ PySem.W.alike x.py y.py = true ∧ x.py ≠ .none := by
  unfold ordOk at h
  simp only [Bool.and_eq_true, decide_eq_true_eq] at h
  refine ⟨h.1, h.2.1, h.2.2.1, h.2.2.2.1, fun z => ?_⟩
  have h5 := h.2.2.2.2
  cases x with
  | non => cases h5
  | _ => cases z
section
variable {pins : List (Addr × Obj)} {σ : St} {H F : Hp} {s : Shared} {x y : V} {v u : Value} {dx dy : D}
theorem ord_reads (I : Inv X pins σ H s) (hK : KW X T) (sF : Same F H) (hx : Rt T F H x dx) (hy : Rt T F H y dy) (rx : RelV x v) (ry : RelV y u) (h : ordOk dx dy = true) (hu : X.A.units + 64 < cLine) :
    ∃ as bs, Reads s.heap v dx.py as ∧ Reads s.heap u dy.py bs ∧ PySem.W.alike dx.py dy.py = true ∧ dx.py ≠ .none ∧ dy.py ≠ .none ∧ X.A.units + min dx.py.depth dy.py.depth < cLine := by
  obtain ⟨p1, p2, dp, al, nn⟩ := ordOk_and h
  obtain ⟨as, r1⟩ := Rp.reads I hK dx x v p1 (hx.rp sF) rx
  obtain ⟨bs, r2⟩ := Rp.reads I hK dy y u p2 (hy.rp sF) ry
  exact ⟨as, bs, r1, r2, al, nn, PySem.W.ne_none_both al nn, by rw [D.py_depth _ p1, D.py_depth _ p2]; omega⟩
end
theorem op_ltF (hK : KW X T) (hu : X.A.units + 64 < cLine) : OpR X (compareOp .Lt) (rC T ltD) := by
  intro pins s σ H x y v u Q I rx ry h
  obtain ⟨F, dx, dy, b, sF, hx, hy, e, q⟩ := h
  rcases ltD_some e with ⟨i, j, rfl, rfl, rfl⟩ | ⟨c, rfl⟩
  · exact op_lt pins s σ H x y v u Q I rx ry ⟨i, j, hx.int, hy.int, q⟩
  · obtain ⟨as, bs, r1, r2, al, nn, nn2, du⟩ := ord_reads I hK sF hx hy rx ry c hu
    exact PySem.W.lt_data r1 r2 al nn du ⟨.bl _, H, I, rfl, q⟩
theorem op_gtF (hK : KW X T) (hu : X.A.units + 64 < cLine) : OpR X (compareOp .Gt) (rC T fun x y => ltD y x) := by
  intro pins s σ H x y v u Q I rx ry h
  obtain ⟨F, dx, dy, b, sF, hx, hy, e, q⟩ := h
  rcases ltD_some e with ⟨i, j, rfl, rfl, rfl⟩ | ⟨c, rfl⟩
  · exact op_gt pins s σ H x y v u Q I rx ry ⟨j, i, hx.int, hy.int, q⟩
  · obtain ⟨as, bs, r1, r2, al, nn, nn2, du⟩ := ord_reads I hK sF hy hx ry rx c hu
    exact PySem.W.gt_data r2 r1 (by rw [PySem.W.alike_comm]; exact al) nn2 (by rw [Nat.min_comm]; exact du) ⟨.bl _, H, I, rfl, q⟩
theorem op_leF (hK : KW X T) (hu : X.A.units + 64 < cLine) : OpR X (compareOp .LtE) (rC T fun x y => (ltD y x).map not) := by
  intro pins s σ H x y v u Q I rx ry h
  obtain ⟨F, dx, dy, b, sF, hx, hy, e, q⟩ := h
  obtain ⟨b', e', rfl⟩ := Option.map_eq_some_iff.mp e
  rcases ltD_some e' with ⟨i, j, rfl, rfl, rfl⟩ | ⟨c, rfl⟩
  · refine op_le pins s σ H x y v u Q I rx ry ⟨j, i, hx.int, hy.int, ?_⟩
    show Q (.bl (decide (j ≤ i))) H
    rw [show decide (j ≤ i) = !decide (i < j) by rw [← decide_not]; exact decide_eq_decide.mpr Int.not_lt.symm]
    exact q
  · obtain ⟨as, bs, r1, r2, al, nn, nn2, du⟩ := ord_reads I hK sF hy hx ry rx c hu
    exact PySem.W.le_data r2 r1 (by rw [PySem.W.alike_comm]; exact al) nn2 (by rw [Nat.min_comm]; exact du) ⟨.bl _, H, I, rfl, q⟩
theorem op_geF (hK : KW X T) (hu : X.A.units + 64 < cLine) : OpR X (compareOp .GtE) (rC T fun x y => (ltD x y).map not) := by
  intro pins s σ H x y v u Q I rx ry h
  obtain ⟨F, dx, dy, b, sF, hx, hy, e, q⟩ := h
  obtain ⟨b', e', rfl⟩ := Option.map_eq_some_iff.mp e
  rcases ltD_some e' with ⟨i, j, rfl, rfl, rfl⟩ | ⟨c, rfl⟩
  · refine op_ge pins s σ H x y v u Q I rx ry ⟨i, j, hx.int, hy.int, ?_⟩
    show Q (.bl (decide (j ≤ i))) H
    rw [show decide (j ≤ i) = !decide (i < j) by rw [← decide_not]; exact decide_eq_decide.mpr Int.not_lt.symm]
    exact q
  · obtain ⟨as, bs, r1, r2, al, nn, nn2, du⟩ := ord_reads I hK sF hx hy rx ry c hu
    exact PySem.W.ge_data r1 r2 al nn du ⟨.bl _, H, I, rfl, q⟩
theorem Rp.isNon {v : V} {d : D} (h : Rp T H v d) : decide (v = .non) = d.isNon := by
  cases h <;> simp [D.isNon]
theorem isD_some {x y : D} {b : Bool} (h : isD x y = some b) : (y = .non ∧ b = x.isNon) ∨ ∃ a c, x = .bl a ∧ y = .bl c ∧ b = (a == c) := by
  unfold isD at h
  split at h
  · exact .inl ⟨rfl, (Option.some.inj h).symm⟩
  · exact .inr ⟨_, _, rfl, rfl, (Option.some.inj h).symm⟩
  · cases h
theorem op_isF : OpR X (compareOp .Is) (rC T isD) := by
  intro pins s σ H x y v u Q I rx ry h
  obtain ⟨F, dx, dy, b, sF, hx, hy, e, q⟩ := h
  rcases isD_some e with ⟨rfl, rfl⟩ | ⟨a, c, rfl, rfl, rfl⟩
  · refine op_isN pins s σ H x y v u Q I rx ry ⟨hy.non, ?_⟩
    rw [(hx.rp sF).isNon]; exact q
  · refine op_isBl pins s σ H x y v u Q I rx ry ⟨a, c, hx.bl, hy.bl, ?_⟩
    rw [show decide (a = c) = (a == c) by rw [Bool.beq_eq_decide_eq]]; exact q
theorem op_isNotF : OpR X (compareOp .IsNot) (rC T fun x y => (isD x y).map not) := by
  intro pins s σ H x y v u Q I rx ry h
  obtain ⟨F, dx, dy, b, sF, hx, hy, e, q⟩ := h
  obtain ⟨b', e', rfl⟩ := Option.map_eq_some_iff.mp e
  rcases isD_some e' with ⟨rfl, rfl⟩ | ⟨a, c, rfl, rfl, rfl⟩
  · refine op_notN pins s σ H x y v u Q I rx ry ⟨hy.non, ?_⟩
    rw [(hx.rp sF).isNon]; exact q
  · refine op_notBl pins s σ H x y v u Q I rx ry ⟨a, c, hx.bl, hy.bl, ?_⟩
    rw [show decide (a = c) = (a == c) by rw [Bool.beq_eq_decide_eq]]; exact q
/-- all comparisons of plain data -/
theorem op_cmpF (hK : KW X T) (hu : X.A.units + 64 < cLine) (op : CmpOp) : OpR X (compareOp op) (rC T (cmpD op)) := by
  cases op with
  | Eq => exact op_eqF hK hu
  | NotEq => exact op_neF hK hu
  | Lt => exact op_ltF hK hu
  | LtE => exact op_leF hK hu
  | Gt => exact op_gtF hK hu
  | GtE => exact op_geF hK hu
  | Is => exact op_isF
  | IsNot => exact op_isNotF
  | In => exact op_inF hK hu
  | NotIn => exact op_notInF hK hu

/-! ### arithmetic, + and * of rows -/
def rB (T : Nm) (g : D → D → Option R) : R2 := fun x y H Q => ∃ F dx dy r, Same F H ∧ Rt T F H x dx ∧ Rt T F H y dy ∧ g dx dy = some r ∧ ∀ v H', NewR T F H H' v r → Q v H'
theorem RpL.rep {F : Hp} {vs : List V} {ds : List D} (h : RpL T F vs ds) : ∀ n : Nat, RpL T F (List.replicate n vs).flatten (List.replicate n ds).flatten
  | 0 => .nil
  | n + 1 => by
    rw [List.replicate_succ, List.replicate_succ, List.flatten_cons, List.flatten_cons]
    exact h.app (h.rep n)
theorem op_catF : OpR X (binaryOp .Add) (fun x y H Q => ∃ F a b xs ys ds es, Same F H ∧ x = .ref a ∧ y = .ref b ∧ SqL X.K H a xs ∧ SqL X.K H b ys ∧ RpL T F xs ds ∧ RpL T F ys es ∧ xs.length + ys.length ≤ sizeLine ∧ ∀ v H', NewR T F H H' v (.lst (ds ++ es)) → Q v H') := by
  intro pins s σ H x y v u Q I rx ry h
  obtain ⟨F, a, b, xs, ys, ds, es, sF, rfl, rfl, h1, h2, r1, r2, hz, q⟩ := h
  cases rx
  cases ry
  obtain ⟨its, v1, p1, _⟩ := I.list h1
  obtain ⟨its2, v2, p2, _⟩ := I.list h2
  have l1 := v1.length
  have l2 := v2.length
  obtain ⟨⟨cls, dd, data, sl⟩, ho, hc, n, hd⟩ := p1.isList
  obtain ⟨⟨cls2, dd2, data2, sl2⟩, ho2, hc2, n2, hd2⟩ := p2.isList
  simp only at hc hd hc2 hd2
  subst hc hd hc2 hd2
  have ea : its.toArray ++ its2.toArray = (its ++ its2).toArray := by simp
  refine concat_meets ⟨_, ho, rfl⟩ ⟨_, ho2, rfl⟩ noFill_list_add seq_list_add PySem.F.slot_list_add PySem.F.entry_list_add (PySem.F.args_list_add_2 _ _) (PyProof.Rows.list_addW a b its.toArray its2.toArray n n2 dd dd2 sl sl2 (by rw [List.size_toArray, List.size_toArray]; omega)) ⟨ho, ho2, ?_⟩
  rw [ea]
  exact ⟨.ref _, _, I.lnew (t' := s.toks) (v1.append v2) (by rw [List.length_append]; omega), rfl, q _ _ ⟨_, _, rfl, I.fresh, rfl, r1.app r2⟩⟩
theorem mulOk_c {i j : Int} (h : mulOk i j = true) : CMul i j := by
  unfold mulOk at h
  simp only [Bool.or_eq_true, Bool.and_eq_true, decide_eq_true_eq] at h
  rcases h with h | h
  · exact .inl ⟨by omega, by omega⟩
  · exact .inr ⟨by omega, by omega⟩
theorem op_binF (hK : KW X T) (op : Operator) : OpR X (binaryOp op) (rB T (binD op)) := by
  intro pins s σ H x y v u Q I rx ry h
  obtain ⟨F, dx, dy, r, sF, hx, hy, e, q⟩ := h
  have qi : ∀ i : Int, r = .val (.int i) → Q (.int i) H := fun i e => q _ _ (by rw [e]; exact .inl ⟨rfl, .int i⟩)
  unfold binD at e
  split at e
  · cases e
    exact op_add pins s σ H x y v u Q I rx ry ⟨_, _, hx.int, hy.int, qi _ rfl⟩
  · rename_i a b
    split at e
    · cases e
      have hx' : Rp T F x (.tup a) := hx
      have hy' : Rp T F y (.tup b) := hy
      cases hx' with
      | @tup p1 xs _ t1 r1 =>
        cases hy' with
        | @tup p2 ys _ t2 r2 =>
          have t1' := same_sqT sF t1
          have t2' := same_sqT sF t2
          rw [← hK.1] at t1' t2'
          refine op_catA pins s σ H _ _ v u Q I rx ry ⟨p1, p2, xs, ys, rfl, rfl, t1', t2', by rw [r1.len, r2.len, ← line_eq]; assumption, fun z => ?_, fun z1 z2 => ?_, fun z1 z2 p np => ?_⟩
          · subst z
            have ea : a = [] := by have := r1.len; simpa using this.symm
            subst ea
            exact q _ _ (.inl ⟨rfl, .tup t2 r2⟩)
          · subst z2
            have eb : b = [] := by have := r2.len; simpa using this.symm
            subst eb
            exact q _ _ (.inl ⟨rfl, by rw [List.append_nil]; exact .tup t1 r1⟩)
          · exact q _ _ (.inr (.inl ⟨p, xs ++ ys, a ++ b, rfl, rfl, np, rfl, r1.app r2⟩))
    · cases e
  · rename_i a b
    split at e
    · cases e
      obtain ⟨p1, xs, rfl, t1, r1⟩ := hx
      obtain ⟨p2, ys, rfl, t2, r2⟩ := hy
      rw [← hK.1] at t1 t2
      exact op_catF pins s σ H _ _ v u Q I rx ry ⟨F, p1, p2, xs, ys, a, b, sF, rfl, rfl, t1, t2, r1, r2, by rw [r1.len, r2.len, ← line_eq]; assumption, q⟩
    · cases e
  · rename_i a b
    split at e
    · cases e
      exact op_add_str pins s σ H x y v u Q I rx ry ⟨_, _, hx.str, hy.str, by rw [← line_eq]; assumption, q _ _ (.inl ⟨rfl, .str _⟩)⟩
    · cases e
  · cases e
    exact op_sub pins s σ H x y v u Q I rx ry ⟨_, _, hx.int, hy.int, qi _ rfl⟩
  · split at e
    · rename_i c
      cases e
      exact op_mul pins s σ H x y v u Q I rx ry ⟨_, _, hx.int, hy.int, mulOk_c c, qi _ rfl⟩
    · cases e
  · rename_i a k
    split at e
    · rename_i c
      obtain ⟨c1, c2, c3, c4⟩ := c
      cases e
      have hx' : Rp T F x (.tup a) := hx
      cases hx' with
      | @tup p1 xs _ t1 r1 =>
        have t1' := same_sqT sF t1
        rw [← hK.1] at t1'
        refine op_repT pins s σ H _ _ v u Q I rx ry ⟨p1, k, xs, rfl, hy.int, t1', fun z => c1 ?_, c2, c3, by rw [r1.len]; exact c4, fun p np => q _ _ (.inr (.inl ⟨p, _, _, rfl, rfl, np, rfl, r1.rep _⟩))⟩
        subst z
        have := r1.len
        simpa using this.symm
    · split at e
      · rename_i c
        cases e
        have hx' : Rp T F x (.tup a) := hx
        cases hx' with
        | @tup p1 xs _ t1 r1 =>
          have t1' := same_sqT sF t1
          rw [← hK.1] at t1'
          refine op_repS pins s σ H _ _ v u Q I rx ry ⟨p1, k, xs, rfl, hy.int, t1', ?_, c.2.1, c.2.2, q _ _ (.inl ⟨rfl, .tup t1 r1⟩)⟩
          rcases c.1 with c1 | c1
          · left
            have := r1.len
            rw [c1] at this
            exact List.eq_nil_of_length_eq_zero this
          · exact .inr c1
      · split at e
        · rename_i c
          cases e
          have hx' : Rp T F x (.tup a) := hx
          cases hx' with
          | @tup p1 xs _ t1 r1 =>
            have t1' := same_sqT sF t1
            rw [← hK.1] at t1'
            refine op_repZ pins s σ H _ _ v u Q I rx ry ⟨p1, k, xs, rfl, hy.int, t1', fun z => c.1 ?_, c.2.1, c.2.2, fun p np => q _ _ (.inr (.inl ⟨p, [], [], rfl, rfl, np, rfl, .nil⟩))⟩
            subst z
            have := r1.len
            simpa using this.symm
        · cases e
  · rename_i a k
    split at e
    · rename_i c
      cases e
      obtain ⟨p1, xs, rfl, t1, r1⟩ := hx
      rw [← hK.1] at t1
      exact op_repL pins s σ H _ _ v u Q I rx ry ⟨p1, k, xs, rfl, hy.int, t1, c.2.1, c.2.2, by rw [r1.len]; exact c.1, fun p np => q _ _ ⟨p, _, rfl, np, rfl, r1.rep _⟩⟩
    · cases e
  · split at e
    · rename_i c
      cases e
      exact op_shl pins s σ H x y v u Q I rx ry ⟨_, _, hx.int, hy.int, ⟨c.1, by omega, c.2.2⟩, qi _ rfl⟩
    · cases e
  · cases e
    exact op_and pins s σ H x y v u Q I rx ry ⟨_, _, hx.int, hy.int, qi _ rfl⟩
  · split at e
    · rename_i c
      cases e
      exact op_fdiv pins s σ H x y v u Q I rx ry ⟨_, _, hx.int, hy.int, ⟨c.1, c.2⟩, qi _ rfl⟩
    · cases e
  · split at e
    · rename_i c
      cases e
      exact op_mod pins s σ H x y v u Q I rx ry ⟨_, _, hx.int, hy.int, c, qi _ rfl⟩
    · cases e
  · split at e
    · rename_i c
      cases e
      exact op_pow pins s σ H x y v u Q I rx ry ⟨_, _, hx.int, hy.int, ⟨c.1, c.2.1, by omega⟩, qi _ rfl⟩
    · cases e
  · cases e
end
end Fx
end
section
set_option linter.all false
set_option Elab.async false
set_option maxRecDepth 100000
set_option maxHeartbeats 4000000
/-! The rules of expressions. -/
namespace Fx
open PySem PySem.Spec L2
variable {T : Nm} {W : WX} {X : Cx}

/-! ### what the shape of a text says -/
def Ex.star : Expr → Bool
  | .Starred .. => true
  | _ => false
theorem star_cons {e : Expr} (es : List Expr) (env : PySem.Env) (h : Ex.star e = false) : starEach (e :: es) env = (false, eval e env) :: starEach es env := by
  cases e <;> first | rfl | cases h
theorem star_plain {pos : Pos} {env : PySem.Env} : ∀ (es : List Expr), es.all (fun e => !Ex.star e) = true → (backTo pos (starEach es env)).any (·.1) = false
  | [], _ => rfl
  | e :: es, h => by
    simp only [List.all_cons, Bool.and_eq_true, Bool.not_eq_true'] at h
    rw [star_cons es env h.1]
    show (false || (backTo pos (starEach es env)).any (·.1)) = false
    rw [star_plain es h.2]; rfl
/-- a text whose test is its value's truth -/
def Ex.tst : Expr → Bool
  | .Name .. => true
  | .Call .. => true
  | .Subscript .. => true
  | .Attribute .. => true
  | .BinOp .. => true
  | .Tuple .. => true
  | .List .. => true
  | .ListComp .. => true
  | .Constant .. => true
  | _ => false
theorem tst_plain {e : Expr} {env : PySem.Env} (h : Ex.tst e = true) : ∀ whole, PySem.isTrue e env whole = (do let v ← whole; standAt e.pos; holding [v] (truthy v)) := by
  intro w
  cases e <;> first | rfl | cases h
def Ex.compr : Expr → Bool
  | .ListComp .. => true
  | .SetComp .. => true
  | .DictComp .. => true
  | _ => false
theorem swaps_plain {e : Expr} {t : Option Expr} {l : Nat} {env : PySem.Env} (h : Ex.compr e = false) : swapsWith e t l env = pure false := by
  cases e <;> first | rfl | cases h
def Ex.isCall : Expr → Bool
  | .Call .. => true
  | _ => false
theorem att_plain {e : Expr} {f : Str} {env : PySem.Env} (h : Ex.isCall e = false) : attributeBase e f env (eval e env) = eval e env := by
  cases e <;> first | rfl | cases h
def Ex.isSet : Expr → Bool
  | .Set .. => true
  | _ => false
theorem fold_plain {e : Expr} {env : PySem.Env} (h : Ex.isSet e = false) (x : Value) : foldedSetIterable e env x = pure x := by
  cases e <;> first | rfl | cases h
def Ex.isSlice : Expr → Bool
  | .Slice .. => true
  | _ => false
theorem behind_plain {e : Expr} {op : CmpOp} (h : Ex.isSet e = false) : behindInMarks op e = false := by
  cases e <;> first | rfl | cases h

/-! ### arithmetic and comparisons -/
theorem tM_new {σ : St} {H : Hp} {Q : VK} {F : Hp} {M : Lv} {ρ : Env} {o : Option R} (cf : Cf T F H M ρ σ) (q : Out T W σ M (optR o ρ) fun r ρ' => ∀ v F' H', Cf T F' H' ((r, v) :: M) ρ' σ → Q v H') :
    ∃ r, o = some r ∧ ∀ v H', NewR T F H H' v r → Q v H' := by
  obtain ⟨r, e, k⟩ := q.opt
  exact ⟨r, e, fun v H' n => let ⟨F', cf'⟩ := cf.new n; k v F' H' cf'⟩
theorem pe_binF {a b : Expr} {op : Operator} {pos : Pos} {ea eb : Env → Res Ar} (hK : KW X T) (ha : PE X a (tAr T W ea)) (hb : PE X b (tAr T W eb)) :
    PE X (.BinOp a op b pos) (tM T W (two T.flds (fun x y ρ => optR (binD op x y) ρ) ea eb)) := by
  refine (pe_op (op_binF hK op) ha hb).imp fun σ H Q h => ?_
  refine tAr_two (K := fun M r ρ' => ∀ v F' H', Cf T F' H' ((r, v) :: M) ρ' σ → Q v H') h fun F M ρ H x y dx dy cf rx ry q => ?_
  obtain ⟨r, e, k⟩ := tM_new cf q
  exact ⟨F, dx, dy, r, cf.sub, rx, ry, e, k⟩
theorem cmpP_out {α : Type} {op : CmpOp} {dx dy : D} {σ : St} {M : Lv} {ρ : Env} {k : R → Env → Res α} {K : α → Env → Prop} (q : Out T W σ M ((cmpP op dx dy ρ).bind k) K) : ∃ b, cmpD op dx dy = some b ∧ Out T W σ M (k (.val (.bl b)) ρ) K := by
  unfold cmpP at q
  cases e : cmpD op dx dy with
  | none => rw [e] at q; exact q.elim
  | some b => rw [e] at q; exact ⟨b, rfl, q⟩
theorem pe_cmpF {a b : Expr} {op : CmpOp} {pos : Pos} {ea eb : Env → Res Ar} (hK : KW X T) (hu : X.A.units + 64 < cLine) (ha : PE X a (tAr T W ea)) (hb : PE X b (tAr T W eb)) (hm : behindInMarks op b = false) :
    PE X (.Compare a [op] [b] pos) (tM T W (two T.flds (cmpP op) ea eb)) := by
  refine (pe_cmpR (op_cmpF hK hu op) ha hb hm).imp fun σ H Q h => ?_
  refine tAr_two (K := fun M r ρ' => ∀ v F' H', Cf T F' H' ((r, v) :: M) ρ' σ → Q v H') h fun F M ρ H x y dx dy cf rx ry q => ?_
  have q' : Out T W σ M ((cmpP op dx dy ρ).bind fun r ρ => .ok r ρ) fun r ρ' => ∀ v F' H', Cf T F' H' ((r, v) :: M) ρ' σ → Q v H' := by
    cases z : cmpP op dx dy ρ <;> (rw [z] at q; exact q)
  obtain ⟨c, e, k⟩ := cmpP_out q'
  exact ⟨F, dx, dy, c, cf.sub, rx, ry, e, k _ F H (cf.val (.bl c))⟩
theorem pt_cmpF {a b : Expr} {op : CmpOp} {pos : Pos} {ea eb : Env → Res Ar} (hK : KW X T) (hu : X.A.units + 64 < cLine) (ha : PE X a (tAr T W ea)) (hb : PE X b (tAr T W eb)) (hm : behindInMarks op b = false) :
    PT X (.Compare a [op] [b] pos) (tT T W (two T.flds (fun x y ρ => optR (cmpD op x y) ρ) ea eb)) := by
  refine (pt_cmpR (op_cmpF hK hu op) ha hb hm).imp fun σ H Q h => ?_
  refine tAr_two (K := fun M b ρ' => ∀ F' H', Cf T F' H' M ρ' σ → Q b H') h fun F M ρ H x y dx dy cf rx ry q => ?_
  obtain ⟨c, e, k⟩ := q.opt
  exact ⟨F, dx, dy, c, cf.sub, rx, ry, e, c, rfl, k F H cf⟩

theorem Rt.tru {F H : Hp} {v : V} {d : D} {k : Bool} (hK : KW X T) (s : Same F H) (h : Rt T F H v d) (e : truD d = some k) : TruV X.K v H k := by
  cases d with
  | non => cases h.non; exact (Option.some.inj e).symm
  | bl b => cases h.bl; exact (Option.some.inj e).symm
  | int i => cases h.int; exact (Option.some.inj e).symm
  | str x =>
    cases h.str
    simp only [truD] at e
    split at e
    · rename_i c
      refine ⟨by rw [← line_eq]; exact c, ?_⟩
      rw [← Option.some.inj e]
      by_cases z : x.length = 0
      · simp [z]
      · simp [z]
    · cases e
  | tup ds =>
    have h' : Rp T F v (.tup ds) := h
    cases h' with
    | @tup a xs _ t r =>
      refine .inr (.inl ⟨xs, by rw [hK.1]; exact same_sqT s t, ?_⟩)
      rw [← Option.some.inj e]
      have := r.len
      cases xs <;> cases ds <;> simp_all
  | lst ds =>
    obtain ⟨a, xs, rfl, t, r⟩ := h
    refine .inl ⟨xs, (by rw [hK.1]; exact t), ?_⟩
    rw [← Option.some.inj e]
    have := r.len
    cases xs <;> cases ds <;> simp_all
  | rng _ _ => cases e
  | ins _ _ => cases e
  | dct _ _ => cases e
  | err _ _ => cases e
theorem pt_truF {e : Expr} {m : Env → Res Ar} (hK : KW X T) (h : PE X e (tAr T W m)) (he : Ex.tst e = true) : PT X e (tT T W (one_ T.flds (fun d ρ => optR (truD d) ρ) m)) := by
  refine (pt_truth h (tst_plain he)).imp fun σ H Q q => ?_
  refine tAr_one (K := fun M b ρ' => ∀ F' H', Cf T F' H' M ρ' σ → Q b H') q fun F M ρ H x dx cf rx q => ?_
  obtain ⟨k, e, q⟩ := q.opt
  exact ⟨k, rx.tru hK cf.sub e, q F H cf⟩
/-- not, as a value -/
theorem pe_notF {a : Expr} {pos : Pos} {m : Env → Res Ar} (hK : KW X T) (h : PE X a (tAr T W m)) : PE X (.UnaryOp .Not a pos) (tM T W (one_ T.flds (fun d ρ => (optR (truD d) ρ).bind fun b ρ => .ok (.val (.bl (!b))) ρ) m)) := by
  refine (pe_notT h).imp fun σ H Q q => ?_
  refine tAr_one (K := fun M r ρ' => ∀ v F' H', Cf T F' H' ((r, v) :: M) ρ' σ → Q v H') q fun F M ρ H x dx cf rx q => ?_
  obtain ⟨k, e, q⟩ := (Out.bind q).opt
  exact ⟨k, rx.tru hK cf.sub e, q _ F H (cf.val (.bl _))⟩
theorem pt_notF {a : Expr} {pos : Pos} {m : Env → Res Bool} (h : PT X a (tT T W m)) : PT X (.UnaryOp .Not a pos) (tT T W fun ρ => (m ρ).bind fun b ρ => .ok (!b) ρ) := by
  refine (pt_not h).imp fun σ H Q q => ?_
  obtain ⟨F, M, ρ, cf, q⟩ := q
  exact ⟨F, M, ρ, cf, (Out.bind q).imp fun b ρ' k => k⟩
/-- and, or: the rest behind a first operand -/
theorem pe_bopF {isAnd : Bool} {a b : Expr} {rest : List Expr} {pos : Pos} {m : Env → Res D} {r : Env → Res R} (hK : KW X T) (ha : PE X a (tD T W m)) (hb : PE X (.BoolOp (if isAnd = true then .And else .Or) (b :: rest) pos) (tM T W r)) :
    PE X (.BoolOp (if isAnd = true then .And else .Or) (a :: b :: rest) pos) (tM T W fun ρ => (m ρ).bind fun d ρ => restB isAnd d r ρ) := by
  have key : ∀ (σ : St) (H : Hp) (Q : VK), tM T W (fun ρ => (m ρ).bind fun d ρ => restB isAnd d r ρ) σ H Q → tD T W m σ H fun x H1 => ∃ k, TruV X.K x H1 k ∧ if k = isAnd then tM T W r σ H1 Q else Q x H1 := by
    intro σ H Q q
    obtain ⟨F, M, ρ, cf, q⟩ := q
    refine ⟨F, M, ρ, cf, (Out.bind q).imp fun d ρ1 q1 v1 F1 H1 cf1 => ?_⟩
    unfold restB at q1
    cases e : truD d with
    | none => rw [e] at q1; exact q1.elim
    | some k =>
      rw [e] at q1
      refine ⟨k, cf1.rp.rt cf1.sub |>.tru hK cf1.sub e, ?_⟩
      have q1 : Out T W σ M (if k = isAnd then r ρ1 else .ok (.val d) ρ1) _ := q1
      split
      · rename_i z; rw [if_pos z] at q1; exact ⟨F1, M, ρ1, cf1.tail, q1⟩
      · rename_i z; rw [if_neg z] at q1; exact q1 v1 F1 H1 cf1
  cases isAnd with
  | true =>
    refine (pe_andT ha hb).imp fun σ H Q q => ?_
    obtain ⟨F, M, ρ, cf, q⟩ := key σ H Q q
    exact ⟨F, M, ρ, cf, q.imp fun d ρ' k v F' H' cf' => let ⟨b, t, z⟩ := k v F' H' cf'; ⟨b, t, z⟩⟩
  | false =>
    refine (pe_orT ha hb).imp fun σ H Q q => ?_
    obtain ⟨F, M, ρ, cf, q⟩ := key σ H Q q
    refine ⟨F, M, ρ, cf, q.imp fun d ρ' k v F' H' cf' => ?_⟩
    obtain ⟨b, t, z⟩ := k v F' H' cf'
    refine ⟨b, t, ?_⟩
    cases b with
    | true => exact z
    | false => exact z
theorem pw_bopF {isAnd : Bool} {a b : Expr} {rest : List Expr} {pos : Pos} {m r : Env → Res Bool} (ha : PT X a (tT T W m)) (hb : PW X (.BoolOp (if isAnd = true then .And else .Or) (b :: rest) pos) (tT T W r)) :
    PW X (.BoolOp (if isAnd = true then .And else .Or) (a :: b :: rest) pos) (tT T W fun ρ => (m ρ).bind fun k ρ => if k = isAnd then r ρ else .ok k ρ) := by
  have key : ∀ (σ : St) (H : Hp) (Q : Bool → Hp → Prop), tT T W (fun ρ => (m ρ).bind fun k ρ => if k = isAnd then r ρ else .ok k ρ) σ H Q → tT T W m σ H fun k H1 => if k = isAnd then tT T W r σ H1 Q else Q k H1 := by
    intro σ H Q q
    obtain ⟨F, M, ρ, cf, q⟩ := q
    refine ⟨F, M, ρ, cf, (Out.bind q).imp fun k ρ1 q1 F1 H1 cf1 => ?_⟩
    show if k = isAnd then tT T W r σ H1 Q else Q k H1
    split
    · rename_i z; rw [if_pos z] at q1; exact ⟨F1, M, ρ1, cf1, q1⟩
    · rename_i z; rw [if_neg z] at q1; exact q1 F1 H1 cf1
  cases isAnd with
  | true =>
    refine (pw_and ha hb).imp fun σ H Q q => ?_
    obtain ⟨F, M, ρ, cf, q⟩ := key σ H Q q
    refine ⟨F, M, ρ, cf, q.imp fun k ρ' z F' H' cf' => ?_⟩
    have z := z F' H' cf'
    cases k with
    | true => exact z
    | false => exact z
  | false =>
    refine (pw_or ha hb).imp fun σ H Q q => ?_
    obtain ⟨F, M, ρ, cf, q⟩ := key σ H Q q
    refine ⟨F, M, ρ, cf, q.imp fun k ρ' z F' H' cf' => ?_⟩
    have z := z F' H' cf'
    cases k with
    | true => exact z
    | false => exact z
/-- a if t else b -/
theorem pe_ifF {c a b : Expr} {pos : Pos} {m : Env → Res Bool} {ea eb : Env → Res R} (hc : PT X c (tT T W m)) (ha : PE X a (tM T W ea)) (hb : PE X b (tM T W eb)) : PE X (.IfExp c a b pos) (tM T W fun ρ => (m ρ).bind fun k ρ => if k = true then ea ρ else eb ρ) := by
  refine (pe_ifExp hc ha hb).imp fun σ H Q q => ?_
  obtain ⟨F, M, ρ, cf, q⟩ := q
  refine ⟨F, M, ρ, cf, (Out.bind q).imp fun k ρ1 q1 F1 H1 cf1 => ?_⟩
  cases k with
  | true => exact ⟨F1, M, ρ1, cf1, q1⟩
  | false => exact ⟨F1, M, ρ1, cf1, q1⟩

/-! ### subscripts -/
def rI (T : Nm) (g : D → D → Option D) : R2 := fun x y H Q => ∃ F dx dy d, Same F H ∧ Rt T F H x dx ∧ Rt T F H y dy ∧ g dx dy = some d ∧ ∀ v, Rp T F v d → Q v H
theorem atI_map {α β : Type} {xs : List α} {ys : List β} {i : Int} {y : β} (l : xs.length = ys.length) (h : atI ys i = some y) : ∃ j, ixN ys.length i = some j ∧ ys[j]? = some y ∧ atI xs i = xs[j]? := by
  unfold atI at h
  cases e : ixN ys.length i with
  | none => rw [e] at h; cases h
  | some j =>
    rw [e] at h
    exact ⟨j, rfl, h, by unfold atI; rw [l, e]; rfl⟩
theorem ix_F (hK : KW X T) (hu : X.A.units + 64 < cLine) : IxR X (rI T idxD) := by
  intro value slice pins s σ H x y v u Q I rx ry h hs
  obtain ⟨F, dx, dy, d, sF, hx, hy, e, q⟩ := h
  unfold idxD at e
  split at e
  · have hx' : Rp T F x (.tup _) := hx
    cases hx' with
    | @tup a xs ds t r =>
      obtain ⟨j, e1, e2, e3⟩ := atI_map (xs := xs) r.len e
      obtain ⟨w, e4, rw'⟩ := r.get e2
      exact ix_tup value slice pins s σ H _ _ v u Q I rx ry ⟨a, xs, _, w, rfl, hy.int, by rw [hK.1]; exact same_sqT sF t, by rw [e3, e4], q w rw'⟩ hs
  · obtain ⟨a, xs, rfl, t, r⟩ := hx
    obtain ⟨j, e1, e2, e3⟩ := atI_map (xs := xs) r.len e
    obtain ⟨w, e4, rw'⟩ := r.get e2
    exact ix_list value slice pins s σ H _ _ v u Q I rx ry ⟨a, xs, _, w, rfl, hy.int, (by rw [hK.1]; exact t), by rw [e3, e4], q w rw'⟩ hs
  · split at e
    · rename_i c
      obtain ⟨a, o, rfl, r1, r2⟩ := hx
      cases rx
      exact PyProof.Rows.tail_any (dr_type I r1 r2) PySem.F.slot_dict_getitem.lookup (dF_get (by omega) I hK sF r1 r2 hy ry c e fun w z s' I' rz rw' => ⟨w, H, I', rz, q w rw'⟩) hs
    · cases e
  · cases e
def ixP (b : Expr) : Bool := match b with
  | .Slice .. => false
  | _ => true
theorem plainIx {b : Expr} (h : ixP b = true) : PlainIx b := by
  intro o i
  cases b <;> first | rfl | cases h

/-- an operand in hand, then plain data -/
theorem tAr_D {α : Type} {σ : St} {ea : Env → Res Ar} {eb : Env → Res D} {f : D → D → Env → Res α} {H : Hp} {K : Lv → α → Env → Prop} {R : V → V → Hp → Prop}
    (h : ∃ F M ρ, Cf T F H M ρ σ ∧ Out T W σ M ((ea ρ).bind fun x ρ => (eb ρ).bind fun y ρ => match x.d T.flds ρ with
      | some x => f x y ρ
      | none => .stuck) (K M))
    (k : ∀ F M ρ H x y dx dy, Cf T F H M ρ σ → Rt T F H x dx → Rt T F H y dy → Out T W σ M (f dx dy ρ) (K M) → R x y H) :
    tAr T W ea σ H fun x H1 => tD T W eb σ H1 fun y H2 => R x y H2 := by
  obtain ⟨F, M, ρ, cf, q⟩ := h
  refine ⟨F, M, ρ, cf, (Out.bind q).imp fun a ρ1 q1 v1 F1 H1 i1 cf1 => ?_⟩
  refine ⟨F1, a.tmp v1 ++ M, ρ1, cf1, (Out.wkL (Out.bind q1)).imp fun dy ρ2 q2 v2 F2 H2 cf2 => ?_⟩
  cases e1 : a.d T.flds ρ2 with
  | none => rw [e1] at q2; exact q2.elim
  | some dx =>
    rw [e1] at q2
    have r1 : Rt T F2 H2 v1 dx := Cf.arD (P := []) (cf2.tail) i1 e1
    exact k F2 M ρ2 H2 v1 v2 dx dy cf2.tail.dropL r1 (cf2.rp.rt cf2.sub) q2
theorem pe_ixF {a b : Expr} {pos : Pos} {ea : Env → Res Ar} {eb : Env → Res D} (hK : KW X T) (hu : X.A.units + 64 < cLine) (ha : PE X a (tAr T W ea)) (hb : PE X b (tD T W eb)) (hs : ixP b = true) :
    PE X (.Subscript a b pos) (tM T W fun ρ => (ea ρ).bind fun x ρ => (eb ρ).bind fun y ρ => match x.d T.flds ρ with
      | some x => optR ((idxD x y).map .val) ρ
      | none => .stuck) := by
  refine (pe_ix (ix_F hK hu) ha hb (plainIx hs)).imp fun σ H Q h => ?_
  refine tAr_D (f := fun x y ρ => optR ((idxD x y).map R.val) ρ) (K := fun M r ρ' => ∀ v F' H', Cf T F' H' ((r, v) :: M) ρ' σ → Q v H') h fun F M ρ H x y dx dy cf rx ry q => ?_
  obtain ⟨r, e, k⟩ := q.opt
  obtain ⟨d, e2, e3⟩ := Option.map_eq_some_iff.mp e
  subst e3
  exact ⟨F, dx, dy, d, cf.sub, rx, ry, e2, fun v r => k v F H (cf.val r)⟩

/-! ### slices -/
def tO (T : Nm) (W : WX) (m : Env → Res (Option Int)) : TO := fun σ H Q => ∃ F M ρ, Cf T F H M ρ σ ∧ Out T W σ M (m ρ) fun o ρ' => ∀ F' H', Cf T F' H' M ρ' σ → Q o H'
theorem po_noneF : PO X none (tO T W fun ρ => .ok none ρ) := by
  refine ⟨fun pins s σ H Q I h => po_none.run pins s σ H Q I ?_⟩
  obtain ⟨F, M, ρ, cf, q⟩ := h
  exact q F H cf
theorem po_someF {e : Expr} {m : Env → Res D} (h : PE X e (tD T W m)) : PO X (some e) (tO T W fun ρ => (m ρ).bind fun d ρ => match d with
    | .int i => .ok (some i) ρ
    | _ => .stuck) := by
  refine ⟨fun pins s σ H Q I q => (po_some h).run pins s σ H Q I ?_⟩
  obtain ⟨F, M, ρ, cf, q⟩ := q
  refine ⟨F, M, ρ, cf, (Out.bind q).imp fun d ρ' k v F' H' cf' => ?_⟩
  cases d with
  | int i =>
    have r := cf'.rp
    cases r
    exact ⟨i, rfl, k F' H' cf'.tail⟩
  | _ => exact k.elim
def rSl (T : Nm) : V → Option Int → Option Int → Hp → VK → Prop := fun x lo hi H Q => ∃ F dx r, Same F H ∧ Rt T F H x dx ∧ slcD dx lo hi = some r ∧ ∀ v H', NewR T F H H' v r → Q v H'
theorem cut_len {xs : List V} {ds : List D} {F : Hp} (r : RpL T F xs ds) (lo hi : Option Int) : RpL T F (cutV xs lo hi) (cutD ds lo hi) := by
  unfold cutV cutD
  rw [r.len]
  exact (r.drop _).take _
theorem cut_whole {ds : List D} {lo hi : Option Int} (h : HT.sIx ds.length 0 lo = 0 ∧ HT.sIx ds.length ds.length hi = ds.length) : cutD ds lo hi = ds := by
  unfold cutD
  rw [h.1, h.2]
  simp
theorem sl_strF : SlR X (fun x lo hi H Q => ∃ t, x = .str t ∧ t.length ≤ sizeLine ∧ Q (.str (PySem.Txt.slice t lo hi)) H) := by
  intro pins s σ H x v vl vu lo hi sl Q I rx hs pl pu h
  obtain ⟨t, rfl, hz, q⟩ := h
  obtain ⟨tk, rfl⟩ := rx
  obtain ⟨l, u, hs2, rfl, rfl⟩ : ∃ l u : Option (Int × Tok), s.heap.IsSlice sl l u none ∧ l.map (·.1) = lo ∧ u.map (·.1) = hi := by
    cases pl with
    | none =>
      cases pu with
      | none => exact ⟨none, none, hs, rfl, rfl⟩
      | int i k => exact ⟨none, some (i, k), hs, rfl, rfl⟩
    | int j k2 =>
      cases pu with
      | none => exact ⟨some (j, k2), none, hs, rfl, rfl⟩
      | int i k => exact ⟨some (j, k2), some (i, k), hs, rfl, rfl⟩
  refine ⟨"str", _, PySem.F.slot_str_getitem.lookup, typeIs_str _ _ _, ?_⟩
  refine wpAny_getItem_str_slice (l := l) (u := u) (st := none) hs2 rfl ?_
  exact post_val_or_str ⟨Nat.le_trans (PySem.Txt.slice_le t _ _) hz, fun t' k => ⟨.str _, H, I.tok k, ⟨_, rfl⟩, q⟩⟩
theorem sl_F (hK : KW X T) : SlR X (rSl T) := by
  intro pins s σ H x v vl vu lo hi sl Q I rx hs pl pu h
  obtain ⟨F, dx, r, sF, hx, e, q⟩ := h
  cases dx with
  | tup ds =>
    have hx' : Rp T F x (.tup ds) := hx
    cases hx' with
    | @tup a xs _ t rr =>
      simp only [slcD, Option.some.injEq] at e
      subst e
      refine sl_tupA pins s σ H _ v vl vu lo hi sl Q I rx hs pl pu ⟨a, xs, rfl, by rw [hK.1]; exact same_sqT sF t, fun w => q _ _ (.inl ⟨rfl, ?_⟩), fun w p np => q _ _ (.inr (.inl ⟨p, _, _, rfl, rfl, np, rfl, cut_len rr lo hi⟩))⟩
      rw [rr.len] at w
      rw [cut_whole w]
      exact .tup t rr
  | lst ds =>
    obtain ⟨a, xs, rfl, t, rr⟩ := hx
    simp only [slcD, Option.some.injEq] at e
    subst e
    exact sl_list pins s σ H _ v vl vu lo hi sl Q I rx hs pl pu ⟨a, xs, rfl, (by rw [hK.1]; exact t), fun p np => q _ _ ⟨p, _, rfl, np, rfl, cut_len rr lo hi⟩⟩
  | str t =>
    have hx' : Rp T F x (.str t) := hx
    cases hx'
    simp only [slcD] at e
    split at e
    · rename_i hz
      simp only [Option.some.injEq] at e
      subst e
      exact sl_strF pins s σ H _ v vl vu lo hi sl Q I rx hs pl pu ⟨t, rfl, by rw [sizeLine_eq]; exact hz, q _ _ (.inl ⟨rfl, .str _⟩)⟩
    · cases e
  | _ => cases e
theorem pe_slcF {a : Expr} {lo hi : Option Expr} {p2 pos : Pos} {ea : Env → Res Ar} {el eh : Env → Res (Option Int)} (hK : KW X T) (ha : PE X a (tAr T W ea)) (hl : PO X lo (tO T W el)) (hh : PO X hi (tO T W eh)) :
    PE X (.Subscript a (.Slice lo hi none p2) pos) (tM T W fun ρ => (ea ρ).bind fun x ρ => (el ρ).bind fun l ρ => (eh ρ).bind fun h ρ => match x.d T.flds ρ with
      | some x => optR (slcD x l h) ρ
      | none => .stuck) := by
  refine (pe_slice (sl_F hK) ha hl hh).imp fun σ H Q h => ?_
  obtain ⟨F, M, ρ, cf, q⟩ := h
  refine ⟨F, M, ρ, cf, (Out.bind q).imp fun a ρ1 q1 v1 F1 H1 i1 cf1 => ?_⟩
  refine ⟨F1, a.tmp v1 ++ M, ρ1, cf1, (Out.wkL (Out.bind q1)).imp fun l ρ2 q2 F2 H2 cf2 => ?_⟩
  refine ⟨F2, a.tmp v1 ++ M, ρ2, cf2, (Out.wkL (Out.bind q2)).imp fun h ρ3 q3 F3 H3 cf3 => ?_⟩
  cases e1 : a.d T.flds ρ3 with
  | none => rw [e1] at q3; exact q3.elim
  | some dx =>
    rw [e1] at q3
    obtain ⟨r, e, k⟩ := tM_new cf3.dropL q3
    exact ⟨F3, dx, r, cf3.sub, Cf.arD (P := []) cf3 i1 e1, e, k⟩

/-! ### displays -/
theorem pa_nilF : PA X [] (tDs T W fun ρ => .ok [] ρ) := by
  refine pa_nil.imp fun σ H Q h => ?_
  obtain ⟨F, M, ρ, cf, q⟩ := h
  exact q [] F H .nil cf
theorem pa_consF {e : Expr} {es : List Expr} {m : Env → Res D} {ms : Env → Res (List D)} (he : PE X e (tD T W m)) (hs : PA X es (tDs T W ms)) (st : Ex.star e = false) :
    PA X (e :: es) (tDs T W fun ρ => (m ρ).bind fun d ρ => (ms ρ).bind fun ds ρ => .ok (d :: ds) ρ) := by
  refine (pa_cons he hs (star_cons es _ st)).imp fun σ H Q h => ?_
  obtain ⟨F, M, ρ, cf, q⟩ := h
  refine ⟨F, M, ρ, cf, (Out.bind q).imp fun d ρ1 q1 v1 F1 H1 cf1 => ?_⟩
  refine ⟨F1, (.val d, v1) :: M, ρ1, cf1, (Out.wk (Out.bind q1)).imp fun ds ρ2 q2 vs F2 H2 r2 cf2 => ?_⟩
  exact q2 (v1 :: vs) F2 H2 (.cons cf2.rp r2) cf2.tail
theorem cf_vals {F H : Hp} {M : Lv} {ρ : Env} {σ : St} : ∀ {xs : List D} {vs : List V}, RpL T F vs xs → Cf T F H M ρ σ → Cf T F H (vals_ xs vs ++ M) ρ σ
  | [], _, .nil, h => h
  | _ :: _, _ :: _, .cons r rs, h => (cf_vals rs h).val r
theorem vals_cf {F H : Hp} {M : Lv} {ρ : Env} {σ : St} : ∀ {xs : List D} {vs : List V}, vs.length = xs.length → Cf T F H (vals_ xs vs ++ M) ρ σ → RpL T F vs xs ∧ Cf T F H M ρ σ
  | [], [], _, h => ⟨.nil, h⟩
  | x :: xs, v :: vs, e, h => by
    have h : Cf T F H ((.val x, v) :: (vals_ xs vs ++ M)) ρ σ := h
    obtain ⟨r, h2⟩ := vals_cf (by simpa using e) h.tail
    exact ⟨.cons h.rp r, h2⟩
  | [], _ :: _, e, _ => by cases e
  | _ :: _, [], e, _ => by cases e
theorem pa_starF {e : Expr} {es : List Expr} {p : Pos} {m : Env → Res D} {ms : Env → Res (List D)} (hK : KW X T) (he : PE X e (tD T W m)) (hs : PA X es (tDs T W ms)) :
    PA X (.Starred e p :: es) (tDs T W fun ρ => (m ρ).bind fun d ρ => match d with
      | .tup xs => (ms ρ).bind fun ds ρ => .ok (xs ++ ds) ρ
      | .lst xs => (ms ρ).bind fun ds ρ => .ok (xs ++ ds) ρ
      | _ => .stuck) := by
  refine (StX.pa_star he hs rfl).imp fun σ H Q h => ?_
  obtain ⟨F, M, ρ, cf, q⟩ := h
  refine ⟨F, M, ρ, cf, (Out.bind q).imp fun d ρ1 q1 v1 F1 H1 cf1 => ?_⟩
  have go : ∀ {xs : List D} {vs : List V}, RpL T F1 vs xs → Out T W σ M ((ms ρ1).bind fun ds ρ => Res.ok (xs ++ ds) ρ) (fun ds ρ' => ∀ vs F' H', RpL T F' vs ds → Cf T F' H' M ρ' σ → Q vs H') → tDs T W ms σ H1 fun ys H2 => Q (vs ++ ys) H2 := fun {xs vs} r q1 => by
    refine ⟨F1, vals_ xs vs ++ M, ρ1, cf_vals r cf1.tail, (Out.wkL (Out.bind q1)).imp fun ds ρ2 q2 ys F2 H2 r2 cf2 => ?_⟩
    obtain ⟨r3, cf3⟩ := vals_cf r.len cf2
    exact q2 (vs ++ ys) F2 H2 (r3.app r2) cf3
  cases d with
  | tup xs =>
    have r := cf1.rp
    cases r with
    | @tup a vs _ t r => exact ⟨a, vs, rfl, .inl (by rw [hK.1]; exact same_sqT cf1.sub t), go r q1⟩
  | lst xs =>
    have r := cf1.rp
    cases r with
    | @lst a vs _ t r => exact ⟨a, vs, rfl, .inr (by rw [hK.1]; exact same_sqL cf1.sub t), go r q1⟩
  | _ => exact q1.elim
theorem pe_tupF {es : List Expr} {k : Nat} {pos : Pos} {ms : Env → Res (List D)} (h : PA X es (tDs T W ms)) : PE X (.Tuple es k pos) (tM T W fun ρ => (ms ρ).bind fun ds ρ => if ds.length ≤ LINE then .ok (.val (.tup ds)) ρ else .stuck) := by
  refine (pe_tup h).imp fun σ H Q h => ?_
  obtain ⟨F, M, ρ, cf, q⟩ := h
  refine ⟨F, M, ρ, cf, (Out.bind q).imp fun ds ρ1 q1 vs F1 H1 r1 cf1 => ?_⟩
  split at q1
  · rename_i c
    refine ⟨by rw [r1.len, ← line_eq]; exact c, fun p np => ?_⟩
    obtain ⟨F2, cf2⟩ := cf1.new (r := .val (.tup ds)) (.inr (.inl ⟨p, vs, ds, rfl, rfl, np, rfl, r1⟩))
    exact q1 _ F2 _ cf2
  · exact q1.elim
theorem pe_lstF {es : List Expr} {pos : Pos} {ms : Env → Res (List D)} (h : PA X es (tDs T W ms)) : PE X (.List es pos) (tM T W fun ρ => (ms ρ).bind fun ds ρ => if ds.length ≤ LINE then .ok (.lst ds) ρ else .stuck) := by
  refine (pe_lst h).imp fun σ H Q h => ?_
  obtain ⟨F, M, ρ, cf, q⟩ := h
  refine ⟨F, M, ρ, cf, (Out.bind q).imp fun ds ρ1 q1 vs F1 H1 r1 cf1 => ?_⟩
  split at q1
  · rename_i c
    exact ⟨by rw [r1.len, ← line_eq]; exact c, fun p np => q1 _ F1 _ (cf1.own np r1)⟩
  · exact q1.elim
end Fx
end
section
set_option linter.all false
set_option Elab.async false
set_option maxRecDepth 100000
set_option maxHeartbeats 4000000
/-! sorted, max, min; len and list of dicts: against the model. -/
namespace Fx
open PySem PySem.Spec L2
/-! ### sorting tuples of which the first is () -/
section
open PySem.W PySem.Calls PyProof.Rows
variable {prog : Program} {w : World} {A : Around} {E : Value → Shared → Prop} {s : Shared}
theorem fx_tup_lt {xs ys : List PyData} {a b : Value} {as bs : List Addr} {Q : Bool → Shared → Prop} (ra : Reads s.heap a (.tuple xs) as) (rb : Reads s.heap b (.tuple ys) bs) (h : alikeAll xs ys = true)
    (hu : A.units + min (PyData.tuple xs).depth (PyData.tuple ys).depth < cLine) (hq : Q (dataLt (.tuple xs) (.tuple ys)) s) : wpAny (model prog w) A (oneLt' true a b) Q E s := by
  cases ra with
  | @tuple l o vs n _ as₁ h1 h2 h3 h4 =>
    cases rb with
    | @tuple l' o' vs' n' _ bs₁ k1 k2 k3 k4 =>
      have z1 : vs.size = xs.length := by have := SeqAt.ReadsAll.length _ _ _ h4; simpa using this
      have z2 : vs'.size = ys.length := by have := SeqAt.ReadsAll.length _ _ _ k4; simpa using this
      rw [dataLt_tuple, ← firstLt_toks xs ys h, ← z1, ← z2] at hq
      rw [oneLt'_eq]
      obtain ⟨cls, dd, data, sl⟩ := o
      obtain ⟨cls2, dd2, data2, sl2⟩ := o'
      simp only at h2 h3 k2 k3
      subst h2 h3 k2 k3
      simp only [if_true]
      refine wpAny_bind (wpAny_cRoomFor (SeqAt.room_here hu) ?_)
      refine wpAny_bind (wpAny_callSpecialIfBound?_slot (T := "tuple") ⟨_, h1, rfl⟩ F.slot_tuple_lt ?_)
      refine call_meets F.slot_tuple_lt ⟨_, h1, rfl⟩ F.entry_tuple_lt (F.args_tuple_lt_2 _ _) (SeqAt.tuple_ltAt l l' vs vs' n n' dd dd2 sl sl2 (SeqAt.pairEq xs ys) fun j => dataLt (xs.getD j .none) (ys.getD j .none)) ⟨h1, k1, fun j j1 j2 => ?_, fun j j1 j2 hj => ?_, wpAny_truthy_bool hq⟩
      · have q := eqAt_alikeAll xs ys A.in1 s vs.toList vs'.toList _ _ h4 k4 h (SeqAt.room_in hu) j (by simpa using j1) (by simpa using j2)
        simpa using q
      · have q := rcLt_alikeAll xs ys A.in1 s vs.toList vs'.toList _ _ h4 k4 h (SeqAt.room_in hu) j (by simpa using j1) (by simpa using j2) hj
        simpa using q
theorem fx_firsts : ∀ (vs : List Value) (ds : List PyData) {Q : List (Option Value) → Shared → Prop}, EachIs (fun v d => ∃ as, Reads s.heap v d as) vs ds → (∀ d ∈ ds, ∃ xs, d = .tuple xs) →
    (∀ os : List (Option Value), EachIs (fun o d => d = PyData.tuple [] → o = none) os ds → Q os s) → wpAny (model prog w) A (vs.mapM firstOfTuple') Q E s
  | _, _, Q, .nil, _, h => by rw [List.mapM_nil]; exact wpAny_pure (h [] .nil)
  | v :: vs, d :: ds, Q, .cons hv t, hd, h => by
    obtain ⟨xs, rfl⟩ := hd d (by simp)
    obtain ⟨as, hr⟩ := hv
    rw [List.mapM_cons]
    refine wpAny_bind ?_
    rw [kas_first_eq]
    cases hr with
    | @tuple a o ys n _ _ ho hc hdt hrs =>
      refine wpAny_bind (Looks.here (show Looks (model prog w) s.heap (typeOf (.ref a)) o.cls from (Looks.ld ho).andThen .now) ?_)
      rw [hc, if_neg (by first | decide | simp)]
      refine wpAny_bind (listItems_at ho hdt (wpAny_pure ?_))
      refine wpAny_bind (fx_firsts vs ds (Q := fun bs s' => wpAny (model prog w) A (pure (ys[0]? :: bs)) Q E s') t (fun d hd' => hd d (by simp [hd'])) fun os ho' => wpAny_pure (h _ (.cons (fun e => ?_) ho')))
      cases e
      have z : ys.toList = [] := by
        cases q : ys.toList with
        | nil => rfl
        | cons x l => rw [q] at hrs; cases hrs
      have : ys.size = 0 := by rw [← Array.length_toList, z]; rfl
      simp [this]
theorem fx_kind {v : Value} {vs : List Value} {ds : List PyData} {Q : SortKind → Shared → Prop} (e : EachIs (fun v d => ∃ as, Reads s.heap v d as) (v :: vs) (.tuple [] :: ds)) (ht : ∀ d ∈ ds, ∃ xs, d = .tuple xs) (hq : Q oneType' s) :
    wpAny (model prog w) A (keyKind' (v :: vs).toArray) Q E s := by
  have all : ∀ d ∈ (PyData.tuple [] :: ds), ∃ xs, d = PyData.tuple xs := fun d hd => by
    rcases List.mem_cons.mp hd with rfl | hd
    · exact ⟨_, rfl⟩
    · exact ht d hd
  rw [keyKind'_eq, List.mapM_toArray, map_eq_pure_bind]
  refine wpAny_bind (wpAny_bind (fx_firsts _ _ e all fun os ho => wpAny_pure ?_))
  cases ho with
  | @cons o _ os _ h1 h2 =>
    obtain rfl := h1 rfl
    rw [if_neg (by simp), if_neg (by simp)]
    rw [oneTypeOnly'_eq, List.mapM_toArray, map_eq_pure_bind]
    refine wpAny_bind (wpAny_bind (wpAny_bind (kas_mapM (r := Value.type "tuple") _ (fun u hu Q' hq' => ?_) (wpAny_pure ?_))))
    · obtain ⟨d, hd, as, r⟩ := e.left u hu
      obtain ⟨xs, rfl⟩ := all d hd
      exact (looks_reads r).here hq'
    · have hall : ((List.map (fun _ => Value.type "tuple") (v :: vs)).toArray.all fun x => x == Value.type "tuple") = true := by
        simp only [List.all_toArray, List.all_map, List.all_eq_true]
        intro _ _
        rfl
      have h0 : (List.map (fun _ => Value.type "tuple") (v :: vs)).toArray[0]? = some (Value.type "tuple") := by simp
      rw [h0]
      simp only [hall, if_true]
      exact wpAny_pure (wpAny_pure hq)
theorem fx_gen_lt {xs ys : List PyData} {a b : Value} {as bs : List Addr} {Q : Bool → Shared → Prop} (ra : Reads s.heap a (.tuple xs) as) (rb : Reads s.heap b (.tuple ys) bs) (h : alikeAll xs ys = true)
    (hu : A.units + min (PyData.tuple xs).depth (PyData.tuple ys).depth < cLine) (hq : Q (dataLt (.tuple xs) (.tuple ys)) s) : wpAny (model prog w) A (oneLt' false a b) Q E s := by
  rw [oneLt'_eq]
  simp only [Bool.false_eq_true, if_false]
  refine wpAny_bind ?_
  exact rcLt_alike (.tuple xs) (.tuple ys) A s a b as bs ra rb (by simpa [alike] using h) (by simp) hu prog w E _ (wpAny_truthy_bool hq)
theorem fx_firsts2 : ∀ (vs : List Value) (ds : List PyData) {Q : List (Option Value) → Shared → Prop}, EachIs (fun v d => ∃ as, Reads s.heap v d as) vs ds → (∀ d ∈ ds, ∃ xs, d = .tuple xs) →
    (∀ os : List (Option Value), EachIs (fun o d => (d = PyData.tuple [] → o = none) ∧ (d ≠ PyData.tuple [] → o.isSome = true)) os ds → Q os s) → wpAny (model prog w) A (vs.mapM firstOfTuple') Q E s
  | _, _, Q, .nil, _, h => by rw [List.mapM_nil]; exact wpAny_pure (h [] .nil)
  | v :: vs, d :: ds, Q, .cons hv t, hd, h => by
    obtain ⟨xs, rfl⟩ := hd d (by simp)
    obtain ⟨as, hr⟩ := hv
    rw [List.mapM_cons]
    refine wpAny_bind ?_
    rw [kas_first_eq]
    cases hr with
    | @tuple a o ys n _ _ ho hc hdt hrs =>
      refine wpAny_bind (Looks.here (show Looks (model prog w) s.heap (typeOf (.ref a)) o.cls from (Looks.ld ho).andThen .now) ?_)
      rw [hc, if_neg (by first | decide | simp)]
      refine wpAny_bind (listItems_at ho hdt (wpAny_pure ?_))
      refine wpAny_bind (fx_firsts2 vs ds (Q := fun bs s' => wpAny (model prog w) A (pure (ys[0]? :: bs)) Q E s') t (fun d hd' => hd d (by simp [hd'])) fun os ho' => wpAny_pure (h _ (.cons ⟨fun e => ?_, fun e => ?_⟩ ho')))
      · cases e
        have z : ys.toList = [] := by
          cases q : ys.toList with
          | nil => rfl
          | cons x l => rw [q] at hrs; cases hrs
        have : ys.size = 0 := by rw [← Array.length_toList, z]; rfl
        simp [this]
      · have z : ys.toList ≠ [] := by
          intro q
          rw [q] at hrs
          cases hrs
          exact e rfl
        have : 0 < ys.size := by
          rw [← Array.length_toList]
          exact List.length_pos_iff.mpr z
        simp [this]
theorem fx_kindG {v : Value} {vs : List Value} {d : PyData} {ds : List PyData} {Q : SortKind → Shared → Prop} (e : EachIs (fun v d => ∃ as, Reads s.heap v d as) (v :: vs) (d :: ds)) (ht : ∀ x ∈ d :: ds, ∃ xs, x = .tuple xs) (h1 : d ≠ .tuple []) (h2 : PyData.tuple [] ∈ ds) (hq : Q general' s) :
    wpAny (model prog w) A (keyKind' (v :: vs).toArray) Q E s := by
  rw [keyKind'_eq, List.mapM_toArray, map_eq_pure_bind]
  refine wpAny_bind (wpAny_bind (fx_firsts2 _ _ e ht fun os ho => wpAny_pure ?_))
  cases ho with
  | @cons o _ os _ h3 h4 =>
    have ho : o.isSome = true := h3.2 h1
    have hn : (os.all fun x => x.isSome) = false := by
      rw [Bool.eq_false_iff]
      intro z
      rw [List.all_eq_true] at z
      have key : ∀ (os : List (Option Value)) (ds : List PyData), EachIs (fun o d => (d = PyData.tuple [] → o = none) ∧ (d ≠ PyData.tuple [] → o.isSome = true)) os ds → PyData.tuple [] ∈ ds → none ∈ os := by
        intro os ds h
        induction h with
        | nil => intro hm; cases hm
        | cons hh t ih =>
          intro hm
          rcases List.mem_cons.mp hm with e | hm
          · rw [← e] at hh
            rw [hh.1 rfl]; simp
          · exact List.mem_cons_of_mem _ (ih hm)
      have := z none (key os ds h4 h2)
      cases this
    rw [if_neg (by simp [ho, hn]), if_pos (by simp [ho])]
    exact wpAny_pure hq
theorem fx_sorts {vs : List Value} {ds : List PyData} (e : EachIs (fun v d => ∃ as, Reads s.heap v d as) vs ds) (hal : AllAlike ds) (hk : Sortable ds ∨ ds.head? = some (.tuple []) ∨ ∀ d ∈ ds, ∃ xs, d = .tuple xs) (hu : ∀ d, d ∈ ds → A.units + d.depth < cLine) : SortsAt prog w A s (dataKind s.heap ds) vs := by
  have hk : Sortable ds ∨ ds.head? = some (.tuple []) ∨ ((∀ d ∈ ds, ∃ xs, d = .tuple xs) ∧ ∃ d0 ds0, ds = d0 :: ds0 ∧ d0 ≠ .tuple [] ∧ PyData.tuple [] ∈ ds0) := by
    rcases hk with hk | hk | hk
    · exact .inl hk
    · exact .inr (.inl hk)
    · by_cases h0 : PyData.tuple [] ∈ ds
      · cases ds with
        | nil => cases h0
        | cons d0 ds0 =>
          by_cases h1 : d0 = .tuple []
          · rw [h1]; exact .inr (.inl rfl)
          · rcases List.mem_cons.mp h0 with h2 | h2
            · exact absurd h2.symm h1
            · exact .inr (.inr ⟨hk, d0, ds0, rfl, h1, h2⟩)
      · refine .inl (.inl fun d hd => ?_)
        obtain ⟨xs, rfl⟩ := hk d hd
        cases xs with
        | nil => exact absurd hd h0
        | cons x xs => exact ⟨_, _, rfl⟩
  rcases hk with hk | hk | ⟨ht, d0, ds0, rfl, h1, h2⟩
  · exact .data e hal hk hu
  rotate_left
  · cases vs with
    | nil => cases e
    | cons v vs =>
      refine ⟨fun u hu' => ?_, general', ?_, fun _ E Q hq => fx_kindG e ht h1 h2 hq⟩
      · obtain ⟨d, hd, as, r⟩ := e.left u hu'
        exact ⟨_, dataKind_some hal hd r⟩
      · intro E x y a b Q ha hb hq
        obtain ⟨d, as, hd, ra, rfl⟩ := dataKind_inv ha
        obtain ⟨d', as', hd', rb, rfl⟩ := dataKind_inv hb
        have al := hal d hd d' hd'
        obtain ⟨xs, rfl⟩ := ht d hd
        obtain ⟨ys, rfl⟩ := ht d' hd'
        show wpAny _ _ (oneLt' false x y) _ _ _
        exact fx_gen_lt ra rb (by simpa [alike] using al) (Nat.lt_of_le_of_lt (Nat.add_le_add_left (Nat.min_le_left _ _) _) (hu _ hd)) hq
  · cases ds with
    | nil => simp at hk
    | cons d ds =>
      obtain rfl : d = .tuple [] := by simpa using hk
      cases vs with
      | nil => cases e
      | cons v vs =>
        have ht : ∀ d ∈ (PyData.tuple [] :: ds), ∃ xs, d = PyData.tuple xs := fun d hd => by
          have q := hal d hd _ (List.mem_cons_self ..)
          cases d with
          | tuple xs => exact ⟨xs, rfl⟩
          | _ => simp [alike] at q
        refine ⟨fun u hu' => ?_, oneType', ?_, fun h2 E Q hq => fx_kind e (fun d hd => ht d (by simp [hd])) hq⟩
        · obtain ⟨d, hd, as, r⟩ := e.left u hu'
          exact ⟨_, dataKind_some hal hd r⟩
        · intro E x y a b Q ha hb hq
          obtain ⟨d, as, hd, ra, rfl⟩ := dataKind_inv ha
          obtain ⟨d', as', hd', rb, rfl⟩ := dataKind_inv hb
          have al := hal d hd d' hd'
          obtain ⟨xs, rfl⟩ := ht d hd
          obtain ⟨ys, rfl⟩ := ht d' hd'
          rw [keyLt'_oneType]
          exact fx_tup_lt ra rb (by simpa [alike] using al) (Nat.lt_of_le_of_lt (Nat.add_le_add_left (Nat.min_le_left _ _) _) (hu _ hd)) hq
end
/-! ### sorted of data -/
variable {T : Nm} {X : Cx}
def RV (T : Nm) (F : Hp) (u : Value) (d : D) : Prop := ∃ x : V, RelV x u ∧ Rp T F x d
theorem RpL.each {F : Hp} : ∀ {ds : List D} {vs : List V} {us : List Value}, RpL T F vs ds → Vals vs us → PySem.W.EachIs (RV T F) us ds
  | [], _, _, h, r => by cases h; cases r; exact .nil
  | d :: ds, _, _, h, r => by
    cases h with | cons h1 h2 => cases r with | cons r1 r2 => exact .cons ⟨_, r1, h1⟩ (h2.each r2)
theorem each_rpl {F : Hp} : ∀ {ds : List D} {us : List Value}, PySem.W.EachIs (RV T F) us ds → ∃ vs, Vals vs us ∧ RpL T F vs ds
  | _, _, .nil => ⟨[], .nil, .nil⟩
  | _, _, .cons ⟨x, r, h⟩ t => by
    obtain ⟨vs, r2, h2⟩ := each_rpl t
    exact ⟨x :: vs, .cons r r2, .cons h h2⟩
theorem sortOk_and {ds : List D} (h : sortOk ds = true) : D.plains ds = true ∧ D.depths ds ≤ 40 ∧ ds.length ≤ LINE ∧ PySem.W.AllAlike (ds.map D.py) ∧ (PySem.W.Sortable (ds.map D.py) ∨ (ds.map D.py).head? = some (.tuple []) ∨ ∀ d ∈ ds.map D.py, ∃ xs, d = .tuple xs) := by
  unfold sortOk at h
  simp only [Bool.and_eq_true, Bool.or_eq_true, decide_eq_true_eq] at h
  obtain ⟨h1, h2, h3, h4, h5⟩ := h
  refine ⟨h1, h2, h3, fun d hd d' hd' => ?_, ?_⟩
  · obtain ⟨x, hx, rfl⟩ := List.mem_map.mp hd
    obtain ⟨y, hy, rfl⟩ := List.mem_map.mp hd'
    exact List.all_eq_true.mp (List.all_eq_true.mp h4 x hx) y hy
  · rcases h5 with h5 | h5 | h5 | h5
    · refine .inl (.inl fun d hd => ?_)
      obtain ⟨x, hx, rfl⟩ := List.mem_map.mp hd
      have q := List.all_eq_true.mp h5 x hx
      cases x with
      | tup xs => cases xs with
        | nil => cases q
        | cons a l => exact ⟨_, _, rfl⟩
      | _ => cases q
    · refine .inl (.inr fun d hd => ?_)
      obtain ⟨x, hx, rfl⟩ := List.mem_map.mp hd
      have q := List.all_eq_true.mp h5 x hx
      cases x with
      | tup xs => cases q
      | non => cases q
      | _ => exact ⟨by simp [D.py], by simp [D.py]⟩
    · refine .inr (.inl ?_)
      cases ds with
      | nil => cases h5
      | cons d ds => cases d with
        | tup xs => cases xs with
          | nil => rfl
          | cons _ _ => cases h5
        | _ => cases h5
    · refine .inr (.inr fun d hd => ?_)
      obtain ⟨x, hx, rfl⟩ := List.mem_map.mp hd
      have q := List.all_eq_true.mp h5 x hx
      cases x with
      | tup xs => exact ⟨_, rfl⟩
      | _ => cases q
theorem depths_mem : ∀ {ds : List D} {d : D}, d ∈ ds → d.depth ≤ D.depths ds
  | d :: ds, e, h => by
    have q : D.depths (d :: ds) = max d.depth (D.depths ds) := rfl
    rcases List.mem_cons.mp h with rfl | h
    · omega
    · have := depths_mem h; omega
theorem plains_of {ds : List D} {d : D} (h : D.plains ds = true) (hd : d ∈ ds) : d.plain = true := by
  induction ds with
  | nil => cases hd
  | cons e ds ih =>
    have h := Bool.and_eq_true_iff.mp (show (e.plain && D.plains ds) = true from h)
    rcases List.mem_cons.mp hd with rfl | hd
    · exact h.1
    · exact ih h.2 hd
theorem leD_eq : leD = PySem.W.dataLe false D.py := by
  funext x y
  rfl
section
variable {pins : List (Addr × Obj)} {σ : St} {H F : Hp} {s : Shared} {E : Value → Shared → Prop}
theorem reads_each (I : Inv X pins σ H s) (hK : KW X T) (sF : Same F H) {ds : List D} {us : List Value} (p : D.plains ds = true) (e : PySem.W.EachIs (RV T F) us ds) : PySem.W.EachIs (fun v d => ∃ as, Reads s.heap v d.py as) us ds := by
  induction e with
  | nil => exact .nil
  | cons h t ih =>
    obtain ⟨x, r, hx⟩ := h
    have p := Bool.and_eq_true_iff.mp (show (D.plain _ && D.plains _) = true from p)
    exact .cons (Rp.reads I hK _ x _ p.1 (hx.mono sF) r) (ih p.2)
/-- sorted(xs) of a list -/
theorem sorted_F (I : Inv X pins σ H s) (hK : KW X T) (hu : X.A.units + 64 < cLine) {a : Addr} {xs : List V} {ds : List D} (sF : Same F H) (hs : SqL T.K H a xs) (hr : RpL T F xs ds) (ok : sortOk ds = true) {Q : VK}
    (q : ∀ p ys, H p = none → RpL T F ys (ds.mergeSort leD) → Q (.ref p) (upd H p (.lst ys))) : wpAny (model X.prog X.w) X.A (call (.builtin "sorted") [.ref a]) (EP X pins σ Q) X.xe s := by
  obtain ⟨p1, p2, p3, p4, p5⟩ := sortOk_and ok
  obtain ⟨its, rv, pl, hz⟩ := I.list (by rw [hK.1]; exact hs)
  have e := hr.each rv
  have er := reads_each I hK sF p1 e
  have hl : its.length = ds.length := e.length
  have hz2 : its.length ≤ sizeLine := by rw [hl, ← line_eq]; exact p3
  have er' : PySem.W.EachIs (fun v d => ∃ as, Reads (PySem.W.sortingHeap (PySem.W.copyHeap s.heap its) (s.heap.objs.size + 1) its) v d.py as) its ds := er.mono fun _ _ ⟨as, r⟩ => ⟨as, PyProof.Rows.Reads.keeps (fun _ _ => PySem.W.sorting_copy_old) r⟩
  refine PySem.W.sorted_vals pl.isList (fx_sorts (s := { s with heap := PySem.W.sortingHeap (PySem.W.copyHeap s.heap its) (s.heap.objs.size + 1) its }) (PySem.W.each_map (R := fun v d => ∃ as, Reads (PySem.W.sortingHeap (PySem.W.copyHeap s.heap its) (s.heap.objs.size + 1) its) v d as) D.py er') p4 p5 fun d hd => ?_) hz2 ?_
  · obtain ⟨x, hx, rfl⟩ := List.mem_map.mp hd
    rw [D.py_depth _ (plains_of p1 hx)]
    have := depths_mem hx
    show X.A.units + 1 + 1 + _ < cLine
    omega
  · obtain ⟨ys, r1, r2⟩ := each_rpl (PySem.W.sortVals_data (enc := D.py) (R := RV T F) false e er' p4)
    rw [← leD_eq] at r2
    generalize hout : PySem.W.sortVals (PySem.W.dataKind (PySem.W.sortingHeap (PySem.W.copyHeap s.heap its) (s.heap.objs.size + 1) its) (ds.map D.py)) false its its = out at r1
    have hlen : out.length = its.length := by rw [← hout]; exact PySem.W.sortVals_length false rfl
    obtain ⟨ep, he⟩ := PyProof.Rows.sortedAll_at s.heap its (List.toArray out)
    have hn : H (s.heap.objs.size + 1) = none := I.hok.fresh (Nat.le_succ _)
    refine ⟨.ref (s.heap.objs.size + 1), upd H (s.heap.objs.size + 1) (.lst ys), ?_, rfl, q _ _ hn r2⟩
    exact I.laid (t' := s.toks) (fun b u hb => PyProof.Rows.sortedAll_old hb) (Nat.le_succ _) ⟨by rw [r1.length, hlen]; exact hz2, out, ep, r1, he⟩
/-- what a dict's keys are collected to -/
theorem keys_items {en : Array DictEntry} {acc : Array Value} (h : ItemsOf (fun i v => ∃ hi : i < en.size, v = en[i].key) acc en.size) : acc.toList = en.toList.map (·.key) := by
  apply List.ext_getElem?
  intro i
  by_cases hi : i < en.size
  · have hi' : i < acc.size := by rw [h.1]; exact hi
    have e1 : acc[i]? = some acc[i] := Array.getElem?_eq_getElem hi'
    obtain ⟨h1, h2⟩ := h.2 i acc[i] e1
    rw [Array.getElem?_toList, e1, h2, List.getElem?_map, Array.getElem?_toList, Array.getElem?_eq_getElem hi]
    rfl
  · have hi' : acc.size ≤ i := by rw [h.1]; omega
    rw [Array.getElem?_toList, Array.getElem?_eq_none hi', List.getElem?_map, Array.getElem?_toList, Array.getElem?_eq_none (by omega)]
    rfl
/-- sorted of what is collected to its -/
theorem sorted_of {ks : List D} {its : List Value} {a : Addr} (I : Inv X pins σ H s) (hK : KW X T) (hu : X.A.units + 64 < cLine) (sF : Same F H) (e : PySem.W.EachIs (RV T F) its ks) (hz : ks.length ≤ sizeLine) (ok : sortOk ks = true) {Q : VK}
    (col : ∀ {R : List Value → Shared → Prop} {E' : Value → Shared → Prop}, (∀ (h' : Heap) (tk : Nat), (∀ b o, s.heap.get? b = some o → h'.get? b = some o) → R its { s with heap := h', toks := tk }) → wpAny (model X.prog X.w) X.A.in1 (collect (.ref a)) R E' s)
    (q : ∀ p ys, H p = none → RpL T F ys (ks.mergeSort leD) → Q (.ref p) (upd H p (.lst ys))) : wpAny (model X.prog X.w) X.A (call (.builtin "sorted") [.ref a]) (EP X pins σ Q) X.xe s := by
  obtain ⟨p1, p2, p3, p4, p5⟩ := sortOk_and ok
  refine Calls.call_function_entry PyProof.Rows.kind_sorted PyProof.Rows.plain_sorted PyProof.Rows.entry_sorted (PyProof.Rows.args_sorted1 _) ?_
  unfold Builtin.«sorted»
  refine wpAny_bind (m := checkCount "sorted" 1 1 _) (wpAny_pure ?_)
  refine wpAny_bind (col fun h' tk hk => ?_)
  have I1 : Inv X pins σ H { s with heap := h', toks := tk } := I.kept hk
  have hl : its.length = ks.length := e.length
  have hz2 : its.length ≤ sizeLine := by rw [hl]; exact hz
  refine wpAny_bind (wpAny_newList ?_ hz2)
  have hoL : (h'.push (PyProof.Rows.seqObj "list" its.toArray 0)).get? h'.objs.size = some (PyProof.Rows.seqObj "list" its.toArray 0) := Heap.get?_push_size _ rfl
  show wpAny _ _ _ _ _ { s with heap := h'.push (PyProof.Rows.seqObj "list" its.toArray 0), toks := tk }
  have kp : ∀ b o, h'.get? b = some o → (PySem.W.sortingHeap (h'.push (PyProof.Rows.seqObj "list" its.toArray 0)) h'.objs.size its).get? b = some o := fun b o hb => PySem.W.sortingHeap_old (Nat.ne_of_lt (Heap.lt_size hb)) (Heap.get?_push_of_some _ hb)
  have er := reads_each I1 hK sF p1 e
  have er' : PySem.W.EachIs (fun v d => ∃ as, Reads (PySem.W.sortingHeap (h'.push (PyProof.Rows.seqObj "list" its.toArray 0)) h'.objs.size its) v d.py as) its ks := er.mono fun _ _ ⟨as, r⟩ => ⟨as, PyProof.Rows.Reads.keeps kp r⟩
  refine wpAny_bind (wpAny_holding (wpAny_call_entry PyProof.Rows.slot_list_sort ⟨_, hoL, rfl⟩ PyProof.Rows.entry_list_sort
    (PySem.W.list_sort_vals (κ := PySem.W.dataKind (PySem.W.sortingHeap (h'.push (PyProof.Rows.seqObj "list" its.toArray 0)) h'.objs.size its) (ks.map D.py)) (s := { s with heap := h'.push (PyProof.Rows.seqObj "list" its.toArray 0), toks := tk }) hoL
      (fx_sorts (s := { s with heap := PySem.W.sortingHeap (h'.push (PyProof.Rows.seqObj "list" its.toArray 0)) h'.objs.size its, toks := tk }) (PySem.W.each_map (R := fun v d => ∃ as, Reads (PySem.W.sortingHeap (h'.push (PyProof.Rows.seqObj "list" its.toArray 0)) h'.objs.size its) v d as) D.py er') p4 p5 fun d hd => ?_) hz2 ⟨_, rfl, ?_⟩) (PyProof.Rows.args_list_sort _)))
  · obtain ⟨x, hx, rfl⟩ := List.mem_map.mp hd
    rw [D.py_depth _ (plains_of p1 hx)]
    have := depths_mem hx
    show X.A.units + 1 + 1 + _ < cLine
    omega
  · obtain ⟨ys, r1, r2⟩ := each_rpl (PySem.W.sortVals_data (enc := D.py) (R := RV T F) false e er' p4)
    rw [← leD_eq] at r2
    generalize hout : PySem.W.sortVals (PySem.W.dataKind (PySem.W.sortingHeap (h'.push (PyProof.Rows.seqObj "list" its.toArray 0)) h'.objs.size its) (ks.map D.py)) false its its = out at r1 ⊢
    have hlen : out.length = its.length := by rw [← hout]; exact PySem.W.sortVals_length false rfl
    obtain ⟨e', he'⟩ := PyProof.Rows.sortedHeap_at (vs := its) (out := List.toArray out) hoL
    refine wpAny_pure ⟨_, rfl, .ref h'.objs.size, upd H h'.objs.size (.lst ys), I1.laid (t' := tk) (fun b u eb => ?_) (Nat.le_refl _)
      (show ObjOk X.prog X.w _ _ _ (.lst ys) from ⟨by rw [r1.length, hlen]; exact hz2, out, e', r1, he'⟩), rfl, q _ _ (I1.hok.fresh (Nat.le_refl _)) r2⟩
    have hb : b < h'.objs.size := Heap.lt_size eb
    rw [PyProof.Rows.sortedHeap_old (Nat.ne_of_lt hb) (by rw [PyProof.Rows.size_push']; exact Nat.lt_succ_of_lt hb)]
    exact Heap.get?_push_of_some _ eb
/-- sorted(d) of a dict -/
theorem sorted_D (I : Inv X pins σ H s) (hK : KW X T) (hc : X.calm = true) (hu : X.A.units + 64 < cLine) {a : Addr} {o : HO} {ks vs : List D} (sF : Same F H) (hr : Rd H a o) (hd : DR T F a o ks vs) (ok : sortOk ks = true) {Q : VK}
    (q : ∀ p ys, H p = none → RpL T F ys (ks.mergeSort leD) → Q (.ref p) (upd H p (.lst ys))) : wpAny (model X.prog X.w) X.A (call (.builtin "sorted") [.ref a]) (EP X pins σ Q) X.xe s := by
  obtain ⟨lo, hz, en, ep, raw, ⟨kv, rk, rp⟩, _⟩ := dr_raw I hr hd
  have hsz : en.size = ks.length := by
    rw [← rp.len, rk.length, List.length_map, Array.length_toList]
  refine sorted_of (its := en.toList.map (·.key)) I hK hu sF (rp.each rk) hz ok (fun {R E'} hR => ?_) q
  refine PySem.W.kdu_collect (A := X.A.in1) (KdlSrc.rawDict (es := en) (ep := ep) lo) (I.ok.hd hc) raw (by rw [hsz]; exact hz) fun h' tk acc hk hacc => ?_
  rw [keys_items hacc]
  exact hR h' tk hk
theorem fx_collect_tup {prog : Program} {w : World} {A : Around} {s : Shared} {a : Addr} {us : List Value} {R : List Value → Shared → Prop} {E' : Value → Shared → Prop} (ht : PyProof.Rows.IsTup s.heap a us.toArray) (hz : us.length ≤ sizeLine)
    (hR : ∀ (h' : Heap) (tk : Nat), (∀ b o, s.heap.get? b = some o → h'.get? b = some o) → R us { s with heap := h', toks := tk }) : wpAny (model prog w) A (collect (.ref a)) R E' s := by
  obtain ⟨oT, hT, cT, nT, dT⟩ := ht
  unfold collect
  refine wpAny_bind (wpAny_runValue (codeAny_builtin PyProof.Rows.entry_proto_collect' ?body1))
  case body1 =>
    show wpAny _ _ (do again (.builtin "list.__iadd__" ⟨[← newList [], .ref a], []⟩)) _ _ s
    refine wpAny_bind (wpAny_newList (wpAny_pure ⟨Code.quiet_builtin _ (by decide +kernel), codeAny_builtin PyProof.Rows.entry_list_iadd' ?body2⟩))
    show wpAny _ _ (Builtin.List.listExtendWith (.ref s.heap.objs.size) (.ref a) (.ref s.heap.objs.size)) _ _ { s with heap := s.heap.push (PyProof.Rows.seqObj "list" #[] 0) }
    unfold Builtin.List.listExtendWith
    have hT2 : (s.heap.push (PyProof.Rows.seqObj "list" #[] 0)).get? a = some oT := Heap.get?_push_of_some _ hT
    refine wpAny_bind (wpAny_typeOf (T := "tuple") ⟨oT, hT2, cT⟩ ?body3)
    have tt : (Value.type "tuple" == Value.type "tuple") = true := by rfl
    rw [if_pos (by rw [tt]; simp)]
    refine wpAny_bind (PyProof.Rows.listItems_at hT2 dT ?body4)
    refine wpAny_bind (PyProof.Rows.listItems_at (n := 0) (xs := #[]) (Heap.get?_push_size _ rfl) rfl ?body5)
    rw [if_neg (by simp)]
    refine wpAny_bind (PyProof.Rows.listUpdate_at (n := 0) (xs := #[]) (Heap.get?_push_size _ rfl) rfl ?body6 (Nat.zero_le _) (by show (#[] ++ us.toArray).size ≤ sizeLine + 1; simp only [Array.size_append, List.size_toArray, List.length_nil]; omega))
    refine wpAny_pure ?_
    show wpAny (model prog w) A (do
        let o ← load s.heap.objs.size
        match o.data with
        | .seq xs _ => pure xs.toList
        | _ => unsupported "internal:collect") R E' { s with heap := (s.heap.push (PyProof.Rows.seqObj "list" #[] 0)).update s.heap.objs.size (Obj.mapSeq (· ++ us.toArray)) }
    refine wpAny_bind (wpAny_load (PyProof.Rows.get?_update_seq (Heap.get?_push_size _ rfl) _) ?body7)
    show wpAny _ _ (pure ((#[] : Array Value) ++ us.toArray).toList) R E' _
    rw [show ((#[] : Array Value) ++ us.toArray).toList = us by simp]
    refine wpAny_pure (hR _ s.toks fun b o hb => ?_)
    have hlt : b < s.heap.objs.size := Heap.lt_size hb
    rw [Heap.get?_update_ne _ _ _ _ (Nat.ne_of_lt hlt)]
    exact Heap.get?_push_of_some _ hb
/-- sorted(t) of a tuple -/
theorem sorted_T (I : Inv X pins σ H s) (hK : KW X T) (hu : X.A.units + 64 < cLine) {a : Addr} {xs : List V} {ds : List D} (sF : Same F H) (hs : SqT T.K H a xs) (hr : RpL T F xs ds) (ok : sortOk ds = true) {Q : VK}
    (q : ∀ p ys, H p = none → RpL T F ys (ds.mergeSort leD) → Q (.ref p) (upd H p (.lst ys))) : wpAny (model X.prog X.w) X.A (call (.builtin "sorted") [.ref a]) (EP X pins σ Q) X.xe s := by
  obtain ⟨its, rv, pl, hz⟩ := I.tuple (by rw [hK.1]; exact hs)
  have e := hr.each rv
  have hl : its.length = ds.length := e.length
  obtain ⟨p1, p2, p3, p4, p5⟩ := sortOk_and ok
  have hz2 : its.length ≤ sizeLine := by rw [hl, ← line_eq]; exact p3
  exact sorted_of I hK hu sF e (by rw [← hl]; exact hz2) ok (fun {R E'} hR => fx_collect_tup pl hz2 hR) q
/-- list(d) -/
theorem list_D (I : Inv X pins σ H s) (hc : X.calm = true) {a : Addr} {o : HO} {ks vs : List D} (hr : Rd H a o) (hd : DR T F a o ks vs) {Q : VK}
    (q : ∀ p ys, H p = none → RpL T F ys ks → Q (.ref p) (upd H p (.lst ys))) : wpAny (model X.prog X.w) X.A (call (.type "list") [.ref a]) (EP X pins σ Q) X.xe s := by
  obtain ⟨lo, hz, en, ep, raw, ⟨kv, rk, rp⟩, _⟩ := dr_raw I hr hd
  have hsz : en.size = ks.length := by
    rw [← rp.len, rk.length, List.length_map, Array.length_toList]
  refine PySem.W.kdl_call (KdlSrc.rawDict (es := en) (ep := ep) lo) (I.ok.hd hc) raw (by rw [hsz]; exact hz) fun h' tk acc c hk ho hacc => ?_
  have ea := keys_items hacc
  refine ⟨.ref s.heap.objs.size, upd H s.heap.objs.size (.lst kv), I.laid (t' := tk) hk (Nat.le_refl _) ⟨by rw [rp.len]; exact hz, acc.toList, c, by rw [ea]; exact rk, by rw [ho]⟩, rfl, q _ _ (I.hok.fresh (Nat.le_refl _)) rp⟩
/-- len(d) -/
theorem len_D (I : Inv X pins σ H s) {a : Addr} {o : HO} {ks vs : List D} (hr : Rd H a o) (hd : DR T F a o ks vs) {Q : VK} (q : Q (.int ks.length) H) : wpAny (model X.prog X.w) X.A (call (.builtin "len") [.ref a]) (EP X pins σ Q) X.xe s := by
  obtain ⟨lo, hz, en, ep, raw, ⟨kv, rk, rp⟩, _⟩ := dr_raw I hr hd
  have hsz : en.size = ks.length := by
    rw [← rp.len, rk.length, List.length_map, Array.length_toList]
  have h63 : (ks.length : Int) < 2 ^ 63 := by
    have := sizeLine_eq
    omega
  refine PyProof.Rows.call_len_slot (n := (ks.length : Int)) raw.typeIs PySem.F.slot_dict_len (fun Q' hq => call_len_raw lo raw (by rw [hsz]; exact hq)) (by omega) (by omega) ⟨.int ks.length, H, I.tok _, ⟨_, rfl⟩, q⟩
end
/-! ### max, min -/
theorem maxI_le : ∀ {ns : List Int} {n : Int}, n ≤ ns.foldl max n ∧ ∀ m ∈ ns, m ≤ ns.foldl max n
  | [], n => ⟨Int.le_refl _, by simp⟩
  | a :: ns, n => by
    obtain ⟨h1, h2⟩ := maxI_le (ns := ns) (n := max n a)
    simp only [List.foldl_cons]
    refine ⟨by omega, fun m hm => ?_⟩
    rcases List.mem_cons.mp hm with rfl | hm
    · omega
    · exact h2 m hm
theorem maxI_mem : ∀ {ns : List Int} {n : Int}, ns.foldl max n = n ∨ ns.foldl max n ∈ ns
  | [], n => .inl rfl
  | a :: ns, n => by
    simp only [List.foldl_cons]
    rcases maxI_mem (ns := ns) (n := max n a) with h | h
    · rw [h]
      by_cases z : a ≤ n
      · exact .inl (by omega)
      · refine .inr (List.mem_cons.mpr (.inl (by omega)))
    · exact .inr (List.mem_cons_of_mem _ h)
theorem maxI_is {ns : List Int} {m m' : Int} (h : maxI ns = some m) (h1 : m' ∈ ns) (h2 : ∀ y ∈ ns, y ≤ m') : m' = m := by
  cases ns with
  | nil => cases h
  | cons n ns =>
    have h : ns.foldl max n = m := Option.some.inj h
    obtain ⟨g1, g2⟩ := maxI_le (ns := ns) (n := n)
    have a1 : m' ≤ m := by
      rw [← h]
      rcases List.mem_cons.mp h1 with rfl | h1
      · exact g1
      · exact g2 _ h1
    have a2 : m ≤ m' := by
      rcases maxI_mem (ns := ns) (n := n) with z | z
      · rw [← h, z]; exact h2 n (by simp)
      · rw [← h]; exact h2 _ (List.mem_cons_of_mem _ z)
    omega
theorem minI_le : ∀ {ns : List Int} {n : Int}, ns.foldl min n ≤ n ∧ ∀ m ∈ ns, ns.foldl min n ≤ m
  | [], n => ⟨Int.le_refl _, by simp⟩
  | a :: ns, n => by
    obtain ⟨h1, h2⟩ := minI_le (ns := ns) (n := min n a)
    simp only [List.foldl_cons]
    refine ⟨by omega, fun m hm => ?_⟩
    rcases List.mem_cons.mp hm with rfl | hm
    · omega
    · exact h2 m hm
theorem minI_mem : ∀ {ns : List Int} {n : Int}, ns.foldl min n = n ∨ ns.foldl min n ∈ ns
  | [], n => .inl rfl
  | a :: ns, n => by
    simp only [List.foldl_cons]
    rcases minI_mem (ns := ns) (n := min n a) with h | h
    · rw [h]
      by_cases z : n ≤ a
      · exact .inl (by omega)
      · refine .inr (List.mem_cons.mpr (.inl (by omega)))
    · exact .inr (List.mem_cons_of_mem _ h)
theorem minI_is {ns : List Int} {m m' : Int} (h : minI ns = some m) (h1 : m' ∈ ns) (h2 : ∀ y ∈ ns, m' ≤ y) : m' = m := by
  cases ns with
  | nil => cases h
  | cons n ns =>
    have h : ns.foldl min n = m := Option.some.inj h
    obtain ⟨g1, g2⟩ := minI_le (ns := ns) (n := n)
    have a1 : m ≤ m' := by
      rw [← h]
      rcases List.mem_cons.mp h1 with rfl | h1
      · exact g1
      · exact g2 _ h1
    have a2 : m' ≤ m := by
      rcases minI_mem (ns := ns) (n := n) with z | z
      · rw [← h, z]; exact h2 n (by simp)
      · rw [← h]; exact h2 _ (List.mem_cons_of_mem _ z)
    omega
end Fx
end
section
set_option linter.all false
set_option Elab.async false
set_option maxRecDepth 100000
set_option maxHeartbeats 4000000
/-! Calls, instances, built-in functions. -/
namespace Fx
open PySem PySem.Spec L2
variable {T : Nm} {W : WX} {X : Cx} {σ : St} {M : Lv}

/-! ### arguments -/
theorem pa_nilA : PA X [] (tAs T W fun ρ => .ok [] ρ) := by
  refine pa_nil.imp fun σ H Q h => ?_
  obtain ⟨F, M, ρ, cf, q⟩ := h
  exact q [] F H trivial cf
theorem pa_consA {e : Expr} {es : List Expr} {m : Env → Res Ar} {ms : Env → Res (List Ar)} (he : PE X e (tAr T W m)) (hs : PA X es (tAs T W ms)) (st : Ex.star e = false) :
    PA X (e :: es) (tAs T W fun ρ => (m ρ).bind fun a ρ => (ms ρ).bind fun as ρ => .ok (a :: as) ρ) := by
  refine (pa_cons he hs (star_cons es _ st)).imp fun σ H Q h => ?_
  obtain ⟨F, M, ρ, cf, q⟩ := h
  refine ⟨F, M, ρ, cf, (Out.bind q).imp fun a ρ1 q1 v1 F1 H1 i1 cf1 => ?_⟩
  refine ⟨F1, a.tmp v1 ++ M, ρ1, cf1, (Out.wkL (Out.bind q1)).imp fun as ρ2 q2 vs F2 H2 i2 cf2 => ?_⟩
  refine q2 (v1 :: vs) F2 H2 ⟨i1, i2⟩ ?_
  show Cf T F2 H2 ((a.tmp v1 ++ tmps as vs) ++ M) ρ2 σ
  rw [List.append_assoc]
  exact Ar.tmp_in cf2
theorem perm_out {α : Type} {A B : List α} {x : α} : (A ++ x :: B).Perm (x :: (A ++ B)) := List.perm_middle
/-- the arguments are handed over: their values stand apart -/
theorem hand_ok {F H : Hp} : ∀ {as : List Ar} {vs : List V} {M : Lv} {ρ ρ' : Env} {rs : List R}, Cf T F H (tmps as vs ++ M) ρ σ → ins_ σ as vs → hand as ρ = some (rs, ρ') → Cf T F H (rs.zip vs ++ M) ρ' σ ∧ rs.length = vs.length
  | [], [], M, ρ, ρ', rs, cf, _, e => by cases e; exact ⟨cf, rfl⟩
  | [], _ :: _, _, _, _, _, _, i, _ => i.elim
  | _ :: _, [], _, _, _, _, _, i, _ => i.elim
  | .v r :: as, v :: vs, M, ρ, ρ', rs, cf, i, e => by
    obtain ⟨⟨rs', ρ2⟩, e1, e2⟩ := Option.map_eq_some_iff.mp (show (hand as ρ).map (fun p => (r :: p.1, p.2)) = some (rs, ρ') from e)
    cases e2
    have cf1 : Cf T F H (tmps as vs ++ ((r, v) :: M)) ρ σ := Cf.permM (M := (r, v) :: (tmps as vs ++ M)) cf perm_out.symm
    obtain ⟨cf2, l⟩ := hand_ok cf1 i.2 e1
    exact ⟨cf2.permM perm_out, congrArg Nat.succ l⟩
  | .b j :: as, v :: vs, M, ρ, ρ', rs, cf, i, e => by
    have e : (match ρ.at j with
      | some r => (hand as (ρ.set j none)).map fun p => (r :: p.1, p.2)
      | none => none) = some (rs, ρ') := e
    cases z : ρ.at j with
    | none => rw [z] at e; cases e
    | some r =>
      rw [z] at e
      obtain ⟨⟨rs', ρ2⟩, e1, e2⟩ := Option.map_eq_some_iff.mp (show (hand as (ρ.set j none)).map (fun p => (r :: p.1, p.2)) = some (rs, ρ') from e)
      cases e2
      obtain ⟨v', e3, cf'⟩ := Cf.out (M := tmps as vs ++ M) cf (at_get z)
      have i1 : σ[j]? = some (some v) := i.1
      rw [i1] at e3; cases e3
      have cf1 : Cf T F H (tmps as vs ++ ((r, v) :: M)) (ρ.set j none) σ := Cf.permM cf' perm_out.symm
      obtain ⟨cf2, l⟩ := hand_ok cf1 i.2 e1
      exact ⟨cf2.permM perm_out, congrArg Nat.succ l⟩
/-- what is live of a row -/
def lives : Env → List V → Lv
  | some r :: os, v :: vs => (r, v) :: lives os vs
  | none :: os, _ :: vs => lives os vs
  | _, _ => []
theorem set_id {l : List (Option V)} {i : Nat} {v : V} (h : l[i]? = some (some v)) : l.set i (some v) = l := set_same h
/-- what was lent comes back -/
theorem give_ok {F H : Hp} : ∀ {as : List Ar} {outs : Env} {vs : List V} {M : Lv} {ρ : Env}, Cf T F H (lives outs vs ++ M) ρ σ → ins_ σ as vs → Cf T F H M (giveB as outs ρ) σ
  | [], _, _, _, _, cf, _ => by
    show Cf T F H _ _ σ
    exact cf.dropL
  | .v r :: as, [], vs, _, _, cf, _ => cf.dropL
  | .b j :: as, [], vs, _, _, cf, _ => cf.dropL
  | _ :: _, _ :: _, [], _, _, _, i => i.elim
  | .v r :: as, none :: os, v :: vs, M, ρ, cf, i => give_ok (as := as) (outs := os) (vs := vs) cf i.2
  | .v r :: as, some o :: os, v :: vs, M, ρ, cf, i => give_ok (as := as) (outs := os) (vs := vs) (Cf.tail (M := lives os vs ++ M) cf) i.2
  | .b j :: as, none :: os, v :: vs, M, ρ, cf, i => by
    have q := give_ok (as := as) (outs := os) (vs := vs) cf i.2
    have i1 : σ[j]? = some (some v) := i.1
    have q' := Cf.forget (i := j) q (some v)
    rw [set_id i1] at q'
    exact q'
  | .b j :: as, some o :: os, v :: vs, M, ρ, cf, i => by
    have i1 : σ[j]? = some (some v) := i.1
    have cf1 : Cf T F H (lives os vs ++ ((o, v) :: M)) ρ σ := Cf.permM (M := (o, v) :: (lives os vs ++ M)) cf perm_out.symm
    have q := give_ok (as := as) (outs := os) (vs := vs) cf1 i.2
    have q' := Cf.into (i := j) q (List.getElem?_eq_some_iff.mp i1).1
    rw [set_id i1] at q'
    exact q'

/-! ### a def's promise -/
/-- called with rs, the outcome Φ says -/
def spF (T : Nm) (Φ : Fn) (f np : Nat) : Sp := fun vs H Q E => vs.length = np ∧ ∃ F L rs, rs.length = vs.length ∧ Reps T F H (rs.zip vs ++ L) ∧ match Φ f rs with
  | .ok r outs => ∀ v F' H', Reps T F' H' ((r, v) :: (lives outs vs ++ L)) → Q v H'
  | .exc c d outs => ∀ v dd F' H', Reps T F' H' (lives outs vs ++ L) → H' dd = some (.xd [(T.xfld c, v)]) → Rp T F' v d → E (.ref (T.xcls c)) (some dd) H'
  | .stuck => False
/-- what a body must know of a def that it calls -/
structure FnKn (T : Nm) (Φ : Fn) (X : Cx) (f np : Nat) (fa : Addr) : Prop where
  kp : PySem.W.keepIn X.K (.ref fa) = true
  ok : ∃ k fd ps, FnOk X.prog X.w X.K X.mg X.base (L2.CX X.prog X.w) k fa fd ps (spF T Φ f np) ∧ Room k X.A ∧ Binds X.K fd ps []
theorem callR_sp {Φ : Fn} {f np : Nat} {F H : Hp} {as : List Ar} {vs : List V} {ρ : Env} {Q : VK} (cf : Cf T F H (tmps as vs ++ M) ρ σ) (i : ins_ σ as vs) (hl : vs.length = np)
    (q : Out T W σ M (callR Φ f as ρ) fun r ρ' => ∀ v F' H', Cf T F' H' ((r, v) :: M) ρ' σ → Q v H') : spF T Φ f np vs H Q (WE W σ) := by
  unfold callR at q
  cases e : hand as ρ with
  | none => rw [e] at q; exact q.elim
  | some p =>
    obtain ⟨rs, ρ'⟩ := p
    rw [e] at q
    obtain ⟨cf1, l⟩ := hand_ok cf i e
    obtain ⟨L, sl, rp⟩ := cf1
    refine ⟨hl, F, M ++ L, rs, l, by rw [← List.append_assoc]; exact rp, ?_⟩
    have q : Out T W σ M (match Φ f rs with
      | .ok r outs => Res.ok r (giveB as outs ρ')
      | .exc c d outs => .exc c d (giveB as outs ρ')
      | .stuck => .stuck) _ := q
    cases z : Φ f rs with
    | ok r outs =>
      rw [z] at q
      intro v F' H' rp'
      refine q v F' H' ?_
      have cf2 : Cf T F' H' (lives outs vs ++ ((r, v) :: M)) ρ' σ := ⟨L, sl, by
        refine rp'.perm ?_
        rw [List.append_assoc, List.cons_append]
        exact perm_out.symm⟩
      exact give_ok cf2 i
    | exc c d outs =>
      rw [z] at q
      intro v dd F' H' rp' hd rv
      exact q v dd F' H' (give_ok ⟨L, sl, by rw [List.append_assoc]; exact rp'⟩ i) hd rv
    | stuck => rw [z] at q; exact q.elim
theorem pe_callF {Φ : Fn} {f np : Nat} {fa : Addr} {x : Str} {p pos : Pos} {e : Expr} {es : List Expr} {ms : Env → Res (List Ar)} (kn : FnKn T Φ X f np fa) (tk : Takes X W) (hg : Gl X x) (hm : X.mg x = some (.ref fa)) (hn : (e :: es).length = np)
    (ha : PA X (e :: es) (tAs T W ms)) (hdb : (x == ("__debug__" : Str)) = false) (h1 : Ex.star e = false) (h2 : es.all (fun e => !Ex.star e) = true)
    (hln : ∀ ρ, ∀ as ρ', ms ρ = .ok as ρ' → as.length = np) :
    PE X (.Call (.Name x p) (e :: es) [] pos) (tM T W fun ρ => (ms ρ).bind fun as ρ => callR Φ f as ρ) := by
  obtain ⟨k, fd, ps, F, hr, hb⟩ := kn.ok
  refine (pe_callS F hr hg hm kn.kp hb (fun σ => passAt tk σ) ha hdb (star_cons es _ h1) (star_plain es h2)).imp fun σ H Q h => ?_
  obtain ⟨F, M, ρ, cf, q⟩ := h
  have q := Out.bind q
  refine ⟨F, M, ρ, cf, ?_⟩
  cases z : ms ρ with
  | stuck => rw [z] at q; exact q.elim
  | exc c d ρ1 =>
    rw [z] at q
    exact q
  | ok as ρ1 =>
    rw [z] at q
    have q : Out T W σ M _ _ := q
    intro vs F1 H1 i cf1
    have hl := hln ρ as ρ1 z
    have hv : as.length = vs.length := by
      have key : ∀ (as : List Ar) (vs : List V), ins_ σ as vs → as.length = vs.length := by
        intro as
        induction as with
        | nil => intro vs i; cases vs with
          | nil => rfl
          | cons _ _ => exact i.elim
        | cons a as ih => intro vs i; cases vs with
          | nil => exact i.elim
          | cons v vs => exact congrArg Nat.succ (ih vs i.2)
      exact key as vs i
    exact callR_sp cf1 i (hv.symm.trans hl) q

/-! ### new instances -/
theorem run_makeS {CX : CXT} {k : Nat} {f C : Addr} {fd : FuncData} {ps : List Str} {sp : Sp} {E : XK} {pins : List (Addr × Obj)} {σ : St} {H : Hp} {s : Shared} {Q : VK} {us : List Value} {vs : List V} (Mk : Mk X.K C f) (F : FnOk X.prog X.w X.K X.mg X.base CX k f fd ps sp) (hr : Room (k + 1) X.A) (hb : Binds X.K fd ps [])
    (hx : PassesAt CX X σ E) (I : Inv X pins σ H s) (r : Vals vs us)
    (h : ∀ x dx, H x = none → H dx = none → dx ≠ x → sp (.ref x :: vs) (upd (upd H dx (.own x)) x (.ins C dx [])) (fun v H2 => v = .non ∧ Q (.ref x) H2) E) :
    wpAny (model X.prog X.w) X.A (call (.ref C) us) (EP X pins σ Q) X.xe s := by
  have hq := h (s.heap.objs.size + 1) s.heap.objs.size (I.hok.fresh (Nat.le_succ _)) (I.hok.fresh (Nat.le_refl _)) (Nat.ne_of_lt (Nat.lt_succ_self _))
  have I2 := Inv.made (C := C) I
  have r2 : Vals (V.ref (s.heap.objs.size + 1) :: vs) (Value.ref (s.heap.objs.size + 1) :: us) := .cons rfl r
  have hl : (Value.ref (s.heap.objs.size + 1) :: us).length = ps.length := by
    have e := r2.length
    rw [F.len _ _ _ _ hq] at e
    exact e.symm
  have hb2 := hb _ (Value.ref (s.heap.objs.size + 1) :: us) I2.kIn (by rw [List.append_nil]; exact hl)
  rw [List.append_nil] at hb2
  refine wpAny_call (make_map (f := f) I.kIn Mk.makes Mk.init (beq_iff_eq.mp Mk.fn) (codeAny_mono (F.run _ X.stack _ _ ⟨Value.ref (s.heap.objs.size + 1) :: us, []⟩ (Value.ref (s.heap.objs.size + 1) :: us) _ _ E (hr.make C us [])
    (I2.env0.make C us []) hb2 r2 hq) fun r s' hq' => ?_))
  cases r with
  | error e => exact hx pins _ _ e s' I2 hq'
  | ok fl =>
    cases fl with
    | ret u =>
      obtain ⟨v, H', I3, rv, ev, q3⟩ := I2.after hq'
      subst ev
      exact ⟨rv, ⟨V.ref (s.heap.objs.size + 1), H', I3, rfl, q3⟩⟩
    | next => exact False.elim hq'
    | brk => exact False.elim hq'
    | cont => exact False.elim hq'
def tMakeS (C : Addr) (sp : Sp) (E : St → XK) (t : TA) : TE := fun σ H Q => t σ H fun vs H1 => ∀ x dx, H1 x = none → H1 dx = none → dx ≠ x →
  sp (.ref x :: vs) (upd (upd H1 dx (.own x)) x (.ins C dx [])) (fun v H2 => v = .non ∧ Q (.ref x) H2) (E σ)
theorem pe_makeS {CX : CXT} {k : Nat} {f C : Addr} {fd : FuncData} {ps : List Str} {sp : Sp} {E : St → XK} {x : Str} {p pos : Pos} {e : Expr} {es : List Expr} {t : TA} (Mk : Mk X.K C f) (F : FnOk X.prog X.w X.K X.mg X.base CX k f fd ps sp) (hr : Room (k + 1) X.A) (hg : Gl X x) (hm : X.mg x = some (.ref C)) (hb : Binds X.K fd ps []) (hx : ∀ σ, PassesAt CX X σ (E σ))
    (ha : PA X (e :: es) t) (hdb : (x == ("__debug__" : Str)) = false) (he : starEach (e :: es) X.env = (false, eval e X.env) :: starEach es X.env) (hpl : (backTo pos (starEach es X.env)).any (·.1) = false) :
    PE X (.Call (.Name x p) (e :: es) [] pos) (tMakeS C sp E t) := by
  refine ⟨fun pins s σ H Q I h => ?_⟩
  refine wpAny_Call_Name_kw (ld_glob I hg hm ?_ hdb)
  refine PySem.W.callWith_K (h₀ := X.base) I.ok.mod.kin Mk.kp (thn (ha.run pos pins s σ H _ I h) fun us s1 ⟨vs, H1, I1, r, q⟩ => ⟨I1.kIn, ?_⟩) he hpl
  exact run_makeS Mk F hr hb (hx σ) I1 r q
theorem Reps.newObj {F H : Hp} {L : Lv} {x dx : Addr} {c : Nat} (h : Reps T F H L) (nx : H x = none) (nd : H dx = none) (ne : dx ≠ x) : Reps T F (upd (upd H dx (.own x)) x (.ins (T.cls c) dx [])) ((.obj c [], .ref x) :: L) := by
  have h1 := h.newH (o := .own x) nd
  have nx1 : (upd H dx (.own x)) x = none := by rw [upd_ne (Ne.symm ne)]; exact nx
  obtain ⟨s, fp, h2, ndp, av⟩ := h1
  have h3 := Reps.newH (o := .ins (T.cls c) dx []) ⟨s, fp, h2, ndp, av⟩ nx1
  have nin : ∀ a ∈ fp, a ≠ x := fun a ha z => by
    obtain ⟨o', e⟩ := h2.at a ha
    rw [z, nx1] at e; cases e
  have nF : F x = none := by
    cases e : F x with
    | none => rfl
    | some o' => rw [s _ _ e] at nx1; cases nx1
  refine ⟨h3.1, [x] ++ fp, .cons (.obj (dx := dx) (xs := []) (by rw [upd_same]; unfold Nm.zip; simp) (Nat.zero_le _) .nil) (h2.keep (Same.refl _) fun a ha => upd_ne (nin a ha)), ?_, fun a ha => ?_⟩
  · exact List.nodup_cons.mpr ⟨fun z => nin x z rfl, ndp⟩
  · rcases List.mem_cons.mp ha with z | z
    · rw [z]; exact nF
    · exact av a z
theorem makeR_sp {Φ : Fn} {ini : Nat → Nat} {c np : Nat} {F H : Hp} {as : List Ar} {vs : List V} {ρ : Env} {Q : VK} (cf : Cf T F H (tmps as vs ++ M) ρ σ) (i : ins_ σ as vs) (hl : vs.length + 1 = np)
    (q : Out T W σ M (makeR Φ ini c as ρ) fun r ρ' => ∀ v F' H', Cf T F' H' ((r, v) :: M) ρ' σ → Q v H') : ∀ x dx, H x = none → H dx = none → dx ≠ x →
      spF T Φ (ini c) np (.ref x :: vs) (upd (upd H dx (.own x)) x (.ins (T.cls c) dx [])) (fun v H2 => v = .non ∧ Q (.ref x) H2) (WE W σ) := by
  intro x dx nx nd ne
  unfold makeR at q
  cases e : hand as ρ with
  | none => rw [e] at q; exact q.elim
  | some p =>
    obtain ⟨rs, ρ'⟩ := p
    rw [e] at q
    obtain ⟨cf1, l⟩ := hand_ok cf i e
    obtain ⟨L, sl, rp⟩ := cf1
    refine ⟨hl, F, M ++ L, .obj c [] :: rs, congrArg Nat.succ l, by
      have := rp.newObj (c := c) nx nd ne
      rw [List.append_assoc] at this
      exact this, ?_⟩
    have q : Out T W σ M (match Φ (ini c) (.obj c [] :: rs) with
      | .ok (.val .non) (some r :: outs) => Res.ok r (giveB as outs ρ')
      | .exc x d (_ :: outs) => .exc x d (giveB as outs ρ')
      | _ => .stuck) _ := q
    cases z : Φ (ini c) (.obj c [] :: rs) with
    | ok r outs =>
      rw [z] at q
      cases r with
      | val d =>
        cases d with
        | non =>
          cases outs with
          | nil => exact q.elim
          | cons o outs =>
            cases o with
            | none => exact q.elim
            | some r =>
              intro v F' H' rp'
              have ev : v = .non := by have := rp'.rp; cases this; rfl
              refine ⟨ev, q (.ref x) F' H' ?_⟩
              have rp2 : Reps T F' H' ((r, .ref x) :: (lives outs vs ++ (M ++ L))) := rp'.tail
              have cf2 : Cf T F' H' (lives outs vs ++ ((r, .ref x) :: M)) ρ' σ := ⟨L, sl, by
                refine rp2.perm ?_
                rw [List.append_assoc, List.cons_append]
                exact perm_out.symm⟩
              exact give_ok cf2 i
        | _ => exact q.elim
      | _ => exact q.elim
    | exc c' d outs =>
      rw [z] at q
      cases outs with
      | nil => exact q.elim
      | cons o outs =>
        intro v dd F' H' rp' hd rv
        have rp2 : Reps T F' H' (lives outs vs ++ (M ++ L)) := by
          cases o with
          | none => exact rp'
          | some r => exact Reps.tail (L := lives outs vs ++ (M ++ L)) rp'
        exact q v dd F' H' (give_ok ⟨L, sl, by rw [List.append_assoc]; exact rp2⟩ i) hd rv
    | stuck => rw [z] at q; exact q.elim
/-- what a body must know of a class that it makes instances of -/
structure MkKn (T : Nm) (Φ : Fn) (ini : Nat → Nat) (X : Cx) (c np : Nat) : Prop where
  ok : ∃ k fa fd ps, Mk X.K (T.cls c) fa ∧ FnOk X.prog X.w X.K X.mg X.base (L2.CX X.prog X.w) k fa fd ps (spF T Φ (ini c) (np + 1)) ∧ Room (k + 1) X.A ∧ Binds X.K fd ps []
theorem ins_len : ∀ {as : List Ar} {vs : List V}, ins_ σ as vs → as.length = vs.length
  | [], [], _ => rfl
  | [], _ :: _, i => i.elim
  | _ :: _, [], i => i.elim
  | _ :: as, _ :: vs, i => congrArg Nat.succ (ins_len i.2)
theorem pe_makeF {Φ : Fn} {ini : Nat → Nat} {c np : Nat} {x : Str} {p pos : Pos} {e : Expr} {es : List Expr} {ms : Env → Res (List Ar)} (kn : MkKn T Φ ini X c np) (tk : Takes X W) (hg : Gl X x) (hm : X.mg x = some (.ref (T.cls c)))
    (ha : PA X (e :: es) (tAs T W ms)) (hdb : (x == ("__debug__" : Str)) = false) (h1 : Ex.star e = false) (h2 : es.all (fun e => !Ex.star e) = true)
    (hln : ∀ ρ, ∀ as ρ', ms ρ = .ok as ρ' → as.length = np) :
    PE X (.Call (.Name x p) (e :: es) [] pos) (tM T W fun ρ => (ms ρ).bind fun as ρ => makeR Φ ini c as ρ) := by
  obtain ⟨k, fa, fd, ps, mk, F, hr, hb⟩ := kn.ok
  refine (pe_makeS mk F hr hg hm hb (fun σ => passAt tk σ) ha hdb (star_cons es _ h1) (star_plain es h2)).imp fun σ H Q h => ?_
  obtain ⟨F, M, ρ, cf, q⟩ := h
  have q := Out.bind q
  refine ⟨F, M, ρ, cf, ?_⟩
  cases z : ms ρ with
  | stuck => rw [z] at q; exact q.elim
  | exc c d ρ1 =>
    rw [z] at q
    exact q
  | ok as ρ1 =>
    rw [z] at q
    have q : Out T W σ M _ _ := q
    intro vs F1 H1 i cf1
    have hl := hln ρ as ρ1 z
    exact makeR_sp cf1 i (by rw [← ins_len i, hl]) q

/-! ### built-in functions -/
def RtL (T : Nm) (F H : Hp) : List V → List D → Prop
  | [], [] => True
  | v :: vs, d :: ds => Rt T F H v d ∧ RtL T F H vs ds
  | _, _ => False
def rCb (T : Nm) (b : BF) : List V → Hp → VK → Prop := fun xs H Q => ∃ F ds r, Same F H ∧ RtL T F H xs ds ∧ cbD b ds = some r ∧ ∀ v H', NewR T F H H' v r → Q v H'
def BF.val : BF → Value
  | .len => .builtin "len"
  | .abs => .builtin "abs"
  | .int => .type "int"
  | .str => .type "str"
  | .list => .type "list"
  | .tuple => .type "tuple"
  | .all => .builtin "all"
  | .any => .builtin "any"
  | .sum => .builtin "sum"
  | .range => .type "range"
  | .sorted => .builtin "sorted"
  | .max => .builtin "max"
  | .min => .builtin "min"
theorem allB_vals {F : Hp} : ∀ {ds : List D} {bs : List Bool} {xs : List V}, allB ds = some bs → RpL T F xs ds → xs = bs.map V.bl
  | [], _, _, e, r => by cases e; cases r; rfl
  | d :: ds, bs, _, e, r => by
    cases r with | cons r1 r2 =>
      cases d with
      | bl b =>
        obtain ⟨bs', e1, rfl⟩ := Option.map_eq_some_iff.mp (show (allB ds).map (b :: ·) = some bs from e)
        cases r1
        rw [allB_vals e1 r2]; rfl
      | _ => cases e
theorem allI_vals {F : Hp} : ∀ {ds : List D} {ns : List Int} {xs : List V}, allI ds = some ns → RpL T F xs ds → xs = ns.map V.int
  | [], _, _, e, r => by cases e; cases r; rfl
  | d :: ds, bs, _, e, r => by
    cases r with | cons r1 r2 =>
      cases d with
      | int b =>
        obtain ⟨bs', e1, rfl⟩ := Option.map_eq_some_iff.mp (show (allI ds).map (b :: ·) = some bs from e)
        cases r1
        rw [allI_vals e1 r2]; rfl
      | _ => cases e
theorem RtL.one {F H : Hp} {xs : List V} {d : D} (h : RtL T F H xs [d]) : ∃ v, xs = [v] ∧ Rt T F H v d := by
  cases xs with
  | nil => exact h.elim
  | cons v vs => cases vs with
    | nil => exact ⟨v, rfl, h.1⟩
    | cons _ _ => exact h.2.elim
theorem RtL.two {F H : Hp} {xs : List V} {d e : D} (h : RtL T F H xs [d, e]) : ∃ v w, xs = [v, w] ∧ Rt T F H v d ∧ Rt T F H w e := by
  cases xs with
  | nil => exact h.elim
  | cons v vs =>
    obtain ⟨w, rfl, h2⟩ := RtL.one h.2
    exact ⟨v, w, rfl, h.1, h2⟩
theorem rngL_rp {F : Hp} (a b : Int) : RpL T F (rgV a b) (rngL a b) := by
  have key : ∀ l : List Nat, RpL T F (l.map fun (i : Nat) => V.int (a + (i : Int))) (l.map fun (i : Nat) => D.int (a + (i : Int))) := by
    intro l
    induction l with
    | nil => exact .nil
    | cons x l ih => exact .cons (.int _) ih
  exact key _
theorem rngOk_ok {a b : Int} (h : rngOk a b = true) : -(2 ^ 62) ≤ a ∧ a < 2 ^ 62 ∧ -(2 ^ 62) ≤ b ∧ b < 2 ^ 62 := by
  unfold rngOk at h
  simp only [Bool.and_eq_true, decide_eq_true_eq] at h
  omega
theorem rng_obj {a : Addr} {lo hi : Int} {F H : Hp} (s : Same F H) (h : Rt T F H (.ref a) (.rng lo hi)) : H a = some (.rng lo hi) := by
  have h : Rp T F (.ref a) (.rng lo hi) := h
  cases h with | rng h => exact s _ _ h
theorem ints_reads {h : Heap} : ∀ {ns : List Int} {us : List Value}, Vals (ns.map V.int) us → ∃ as, ReadsAll h us (ns.map PyData.int) as
  | [], _, r => by cases r; exact ⟨_, .nil⟩
  | n :: ns, _, r => by
    cases r with
    | cons r1 r2 =>
      obtain ⟨t, rfl⟩ := r1
      obtain ⟨as, q⟩ := ints_reads (h := h) r2
      exact ⟨_, .cons (.int n t) q⟩
theorem ints_alike {n : Int} {ns : List Int} : PySem.W.AlikeAll (PyData.int n :: ns.map PyData.int) := by
  have all : ∀ x ∈ (PyData.int n :: ns.map PyData.int), ∃ i, x = .int i := fun x hx => by
    rcases List.mem_cons.mp hx with rfl | hx
    · exact ⟨_, rfl⟩
    · obtain ⟨i, _, rfl⟩ := List.mem_map.mp hx; exact ⟨i, rfl⟩
  refine ⟨fun x hx y hy => ?_, fun x hx => ?_⟩
  · obtain ⟨i, rfl⟩ := all x hx
    obtain ⟨j, rfl⟩ := all y hy
    simp [PySem.W.alike]
  · obtain ⟨i, rfl⟩ := all x hx
    simp
theorem call_cb (hK : KW X T) (hc : X.calm = true) (hu : X.A.units + 64 < cLine) (b : BF) : CallR X b.val (rCb T b) := by
  intro pins s σ H xs us Q I r h
  obtain ⟨F, ds, res, sF, hx, e, q⟩ := h
  have seqT : ∀ {v : V} {ds : List D}, Rt T F H v (.tup ds) → ∃ p ys, v = .ref p ∧ SqT X.K H p ys ∧ RpL T F ys ds ∧ Rp T F v (.tup ds) := fun {v ds} h => by
    have h' : Rp T F v (.tup ds) := h
    have h2 := h'
    cases h' with
    | @tup a xs _ t r => exact ⟨a, xs, rfl, by rw [hK.1]; exact same_sqT sF t, r, h2⟩
  unfold cbD at e
  split at e
  · obtain ⟨v, rfl, h1⟩ := hx.one
    obtain ⟨p, ys, rfl, t, rr, _⟩ := seqT h1
    cases e
    exact call_len_seq pins s σ H _ us Q I r ⟨p, ys, rfl, .inr t, by rw [rr.len]; exact q _ _ (.inl ⟨rfl, .int _⟩)⟩
  · obtain ⟨v, rfl, p, ys, rfl, t, rr⟩ := hx.one
    cases e
    exact call_len_seq pins s σ H _ us Q I r ⟨p, ys, rfl, .inl (by rw [hK.1]; exact t), by rw [rr.len]; exact q _ _ (.inl ⟨rfl, .int _⟩)⟩
  · obtain ⟨v, rfl, h1⟩ := hx.one
    cases e
    cases h1.int
    exact call_abs pins s σ H _ us Q I r ⟨_, rfl, q _ _ (.inl ⟨rfl, .int _⟩)⟩
  · obtain ⟨v, rfl, h1⟩ := hx.one
    cases e
    cases h1.int
    exact call_int1 pins s σ H _ us Q I r (.inl ⟨_, rfl, q _ _ (.inl ⟨rfl, .int _⟩)⟩)
  · obtain ⟨v, rfl, h1⟩ := hx.one
    cases e
    cases h1.bl
    exact call_int1 pins s σ H _ us Q I r (.inr ⟨_, rfl, q _ _ (.inl ⟨rfl, .int _⟩)⟩)
  · obtain ⟨v, rfl, h1⟩ := hx.one
    split at e
    · rename_i c
      cases e
      cases h1.int
      exact call_str_int pins s σ H _ us Q I r ⟨_, rfl, c, q _ _ (.inl ⟨rfl, .str _⟩)⟩
    · cases e
  · obtain ⟨v, rfl, h1⟩ := hx.one
    obtain ⟨p, ys, rfl, t, rr, _⟩ := seqT h1
    cases e
    exact call_list_of pins s σ H _ us Q I r ⟨p, ys, rfl, .inr t, fun l np => q _ _ ⟨l, ys, rfl, np, rfl, rr⟩⟩
  · obtain ⟨v, rfl, p, ys, rfl, t, rr⟩ := hx.one
    cases e
    exact call_list_of pins s σ H _ us Q I r ⟨p, ys, rfl, .inl (by rw [hK.1]; exact t), fun l np => q _ _ ⟨l, ys, rfl, np, rfl, rr⟩⟩
  · obtain ⟨v, rfl, h1⟩ := hx.one
    obtain ⟨p, ys, rfl, t, rr, h2⟩ := seqT h1
    cases e
    exact call_tuple_of pins s σ H _ us Q I r ⟨p, ys, rfl, .inr ⟨t, q _ _ (.inl ⟨rfl, h2⟩)⟩⟩
  · obtain ⟨v, rfl, p, ys, rfl, t, rr⟩ := hx.one
    cases e
    exact call_tuple_of pins s σ H _ us Q I r ⟨p, ys, rfl, .inl ⟨(by rw [hK.1]; exact t), fun l np => q _ _ (.inr (.inl ⟨l, ys, _, rfl, rfl, np, rfl, rr⟩))⟩⟩
  · obtain ⟨v, rfl, p, ys, rfl, t, rr⟩ := hx.one
    obtain ⟨bs, e1, e2⟩ := Option.map_eq_some_iff.mp e
    subst e2
    have ey := allB_vals e1 rr
    subst ey
    exact cr_all hc pins s σ H _ us Q I r ⟨p, bs, rfl, (by rw [hK.1]; exact t), q _ _ (.inl ⟨rfl, .bl _⟩)⟩
  · obtain ⟨v, rfl, p, ys, rfl, t, rr⟩ := hx.one
    obtain ⟨bs, e1, e2⟩ := Option.map_eq_some_iff.mp e
    subst e2
    have ey := allB_vals e1 rr
    subst ey
    exact cr_any hc pins s σ H _ us Q I r ⟨p, bs, rfl, (by rw [hK.1]; exact t), q _ _ (.inl ⟨rfl, .bl _⟩)⟩
  · obtain ⟨v, rfl, p, ys, rfl, t, rr⟩ := hx.one
    obtain ⟨bs, e1, e2⟩ := Option.map_eq_some_iff.mp e
    subst e2
    have ey := allI_vals e1 rr
    subst ey
    exact cr_sum hc pins s σ H _ us Q I r ⟨p, bs, rfl, (by rw [hK.1]; exact t), q _ _ (.inl ⟨rfl, .int _⟩)⟩
  · obtain ⟨v, rfl, h1⟩ := hx.one
    cases e
    cases h1.int
    obtain ⟨u, rfl, t, rfl⟩ := vals1 r
    exact call_range_1 ⟨.ref s.heap.objs.size, upd H s.heap.objs.size (.rng 0 _), I.laid (o := .rng 0 _) (fun b o e => Heap.get?_push_of_some _ e) (Nat.le_refl _) ⟨_, _, _, Heap.get?_push_size _ rfl⟩, rfl, q _ _ (.inr (.inr ⟨_, _, _, rfl, rfl, I.hok.fresh (Nat.le_refl _), rfl⟩))⟩
  · obtain ⟨v, w, rfl, h1, h2⟩ := hx.two
    cases e
    cases h1.int
    cases h2.int
    exact cr_range2 pins s σ H _ us Q I r ⟨_, _, rfl, fun p np => q _ _ (.inr (.inr ⟨p, _, _, rfl, rfl, np, rfl⟩))⟩
  · obtain ⟨v, rfl, h1⟩ := hx.one
    split at e
    · rename_i a b c
      cases e
      obtain ⟨u, rfl, ru⟩ := vals1 r
      obtain ⟨p, rfl⟩ : ∃ p, v = .ref p := by
        have h1 : Rp T F v (.rng a b) := h1
        cases h1; exact ⟨_, rfl⟩
      cases ru
      obtain ⟨b1, b2, b3, b4⟩ := rngOk_ok c.1
      obtain ⟨t, u, w, hr⟩ : ∃ t u v, s.heap.get? p = some { cls := .type "range", data := .fields #[.int a t, .int b u, .int 1 v] } := I.hok p _ (rng_obj sF h1)
      refine PySem.call_list_range (n := (b - a).toNat) (I.ok.hd hc) hr (small_one b1 b2 b3 b4) (PyProof.Rows.rangeSize_nat a b) (by have := c.2; simpa using this) fun h' tk acc c' hk e' hi => ?_
      refine ⟨.ref s.heap.objs.size, upd H s.heap.objs.size (.lst (rgV a b)), I.laid hk (Nat.le_refl _) (show ObjOk X.prog X.w _ _ _ (.lst (rgV a b)) from ⟨?_, acc.toList, c', vals_rg hi, ?_⟩), rfl, q _ _ ⟨_, _, rfl, I.hok.fresh (Nat.le_refl _), rfl, rngL_rp a b⟩⟩
      · rw [rgV_length, sizeLine_eq]; exact c.2
      · rw [Array.toArray_toList]; exact e'
    · cases e
  · obtain ⟨v, rfl, h1⟩ := hx.one
    split at e
    · rename_i a b c
      cases e
      obtain ⟨u, rfl, ru⟩ := vals1 r
      obtain ⟨p, rfl⟩ : ∃ p, v = .ref p := by
        have h1 : Rp T F v (.rng a b) := h1
        cases h1; exact ⟨_, rfl⟩
      cases ru
      obtain ⟨b1, b2, b3, b4⟩ := rngOk_ok c.1
      obtain ⟨t, u, w, hr⟩ : ∃ t u v, s.heap.get? p = some { cls := .type "range", data := .fields #[.int a t, .int b u, .int 1 v] } := I.hok p _ (rng_obj sF h1)
      refine call_tuple_range (n := (b - a).toNat) (I.ok.hd hc) hr (small_one b1 b2 b3 b4) (PyProof.Rows.rangeSize_nat a b) (by have := c.2; simpa using this) fun h' tk acc hk hi => ?_
      have I2 : Inv X pins σ H { s with heap := h', toks := tk } := I.kept hk
      refine ⟨.ref h'.objs.size, upd H h'.objs.size (.tup (rgV a b)), I2.laid (t' := tk) (fun c o e => Heap.get?_push_of_some _ e) (Nat.le_refl _) (show ObjOk X.prog X.w _ _ _ (.tup (rgV a b)) from ⟨?_, acc.toList, vals_rg hi, ?_⟩), rfl, q _ _ (.inr (.inl ⟨_, _, _, rfl, rfl, I2.hok.fresh (Nat.le_refl _), rfl, rngL_rp a b⟩))⟩
      · rw [rgV_length, sizeLine_eq]; exact c.2
      · rw [Array.toArray_toList]; exact PyProof.Rows.IsTup.new _ _
    · cases e
  · obtain ⟨v, rfl, a, o, rfl, r1, r2⟩ := hx.one
    cases e
    obtain ⟨u, rfl, ru⟩ := vals1 r
    cases ru
    exact len_D I r1 r2 (q _ _ (.inl ⟨rfl, .int _⟩))
  · obtain ⟨v, rfl, a, o, rfl, r1, r2⟩ := hx.one
    cases e
    obtain ⟨u, rfl, ru⟩ := vals1 r
    cases ru
    exact list_D I hc r1 r2 fun p ys np rr => q _ _ ⟨p, ys, rfl, np, rfl, rr⟩
  · obtain ⟨v, rfl, a, ys, rfl, t, rr⟩ := hx.one
    obtain ⟨ds', e1, e2⟩ := Option.map_eq_some_iff.mp e
    subst e2
    unfold sortD at e1
    split at e1
    · rename_i c
      cases e1
      obtain ⟨u, rfl, ru⟩ := vals1 r
      cases ru
      exact sorted_F I hK hu sF t rr c fun p ys np rr => q _ _ ⟨p, ys, rfl, np, rfl, rr⟩
    · cases e1
  · obtain ⟨v, rfl, a, o, rfl, r1, r2⟩ := hx.one
    obtain ⟨ds', e1, e2⟩ := Option.map_eq_some_iff.mp e
    subst e2
    unfold sortD at e1
    split at e1
    · rename_i c
      cases e1
      obtain ⟨u, rfl, ru⟩ := vals1 r
      cases ru
      exact sorted_D I hK hc hu sF r1 r2 c fun p ys np rr => q _ _ ⟨p, ys, rfl, np, rfl, rr⟩
    · cases e1
  · have hx' := hx
    obtain ⟨v, rfl, hv⟩ := hx.one
    have hv : Rp T F v (.tup _) := hv
    obtain ⟨ds', e1, e2⟩ := Option.map_eq_some_iff.mp e
    subst e2
    unfold sortD at e1
    split at e1
    · rename_i c
      cases e1
      cases hv with
      | @tup a ys _ t rr =>
        obtain ⟨u, rfl, ru⟩ := vals1 r
        cases ru
        exact sorted_T I hK hu sF (same_sqT sF t) rr c fun p ys np rr => q _ _ ⟨p, ys, rfl, np, rfl, rr⟩
    · cases e1
  · obtain ⟨v, w, rfl, h1, h2⟩ := hx.two
    cases e
    cases h1.int
    cases h2.int
    refine call_max2 hc pins s σ H _ us Q I r ⟨_, _, rfl, ?_⟩
    rename_i i j
    rw [show (if j > i then j else i) = max i j by split <;> omega]
    exact q _ _ (.inl ⟨rfl, .int _⟩)
  · obtain ⟨v, w, rfl, h1, h2⟩ := hx.two
    cases e
    cases h1.int
    cases h2.int
    refine call_min2 hc pins s σ H _ us Q I r ⟨_, _, rfl, ?_⟩
    rename_i i j
    rw [show (if j < i then j else i) = min i j by split <;> omega]
    exact q _ _ (.inl ⟨rfl, .int _⟩)
  · obtain ⟨v, rfl, p, ys, rfl, t, rr⟩ := hx.one
    obtain ⟨ns, e1, e2⟩ := Option.bind_eq_some_iff.mp e
    obtain ⟨m, e3, e4⟩ := Option.map_eq_some_iff.mp e2
    subst e4
    have ey := allI_vals e1 rr
    subst ey
    refine cr_max hc pins s σ H _ us Q I r ⟨p, ns, rfl, (by rw [hK.1]; exact t), ?_, fun m' g1 g2 => ?_⟩
    · cases ns with
      | nil => cases e3
      | cons _ _ => simp
    · rw [maxI_is e3 g1 g2]; exact q _ _ (.inl ⟨rfl, .int _⟩)
  · obtain ⟨v, rfl, h1⟩ := hx.one
    obtain ⟨p, ys, rfl, t, rr, _⟩ := seqT h1
    obtain ⟨ns, e1, e2⟩ := Option.bind_eq_some_iff.mp e
    obtain ⟨m, e3, e4⟩ := Option.map_eq_some_iff.mp e2
    subst e4
    have ey := allI_vals e1 rr
    subst ey
    cases ns with
    | nil => cases e3
    | cons n ns =>
      obtain ⟨its, rv, tp, _⟩ := I.tuple t
      obtain ⟨as, ra⟩ := ints_reads (h := s.heap) rv
      obtain ⟨u, rfl, ru⟩ := vals1 r
      cases ru
      refine PySem.W.max_tuple_data (x := .int n) (xs := ns.map .int) (I.ok.hd hc) tp (by simpa using ra) ints_alike (by
        have : PyData.depthAll (PyData.int n :: ns.map PyData.int) = 0 := PySem.W.depth_ints (n :: ns)
        rw [this]
        show X.A.units + 1 + 0 < cLine
        omega) fun i v' h' tk bs hi hr hk => ?_
      rw [PySem.W.maxD_ints] at hr
      cases hr
      have e5 : ns.foldl max n = m := Option.some.inj e3
      rw [← e5] at q
      exact ⟨.int _, H, I.kept hk, ⟨_, rfl⟩, q _ _ (.inl ⟨rfl, .int _⟩)⟩
  · obtain ⟨v, rfl, p, ys, rfl, t, rr⟩ := hx.one
    obtain ⟨ns, e1, e2⟩ := Option.bind_eq_some_iff.mp e
    obtain ⟨m, e3, e4⟩ := Option.map_eq_some_iff.mp e2
    subst e4
    have ey := allI_vals e1 rr
    subst ey
    refine cr_min hc pins s σ H _ us Q I r ⟨p, ns, rfl, (by rw [hK.1]; exact t), ?_, fun m' g1 g2 => ?_⟩
    · cases ns with
      | nil => cases e3
      | cons _ _ => simp
    · rw [minI_is e3 g1 g2]; exact q _ _ (.inl ⟨rfl, .int _⟩)
  · obtain ⟨v, rfl, h1⟩ := hx.one
    obtain ⟨p, ys, rfl, t, rr, _⟩ := seqT h1
    obtain ⟨ns, e1, e2⟩ := Option.bind_eq_some_iff.mp e
    obtain ⟨m, e3, e4⟩ := Option.map_eq_some_iff.mp e2
    subst e4
    have ey := allI_vals e1 rr
    subst ey
    cases ns with
    | nil => cases e3
    | cons n ns =>
      obtain ⟨its, rv, tp, _⟩ := I.tuple t
      obtain ⟨as, ra⟩ := ints_reads (h := s.heap) rv
      obtain ⟨u, rfl, ru⟩ := vals1 r
      cases ru
      refine PySem.W.min_tuple_data (x := .int n) (xs := ns.map .int) (I.ok.hd hc) tp (by simpa using ra) ints_alike (by
        have : PyData.depthAll (PyData.int n :: ns.map PyData.int) = 0 := PySem.W.depth_ints (n :: ns)
        rw [this]
        show X.A.units + 1 + 0 < cLine
        omega) fun i v' h' tk bs hi hr hk => ?_
      rw [PySem.W.minD_ints] at hr
      cases hr
      have e5 : ns.foldl min n = m := Option.some.inj e3
      rw [← e5] at q
      exact ⟨.int _, H, I.kept hk, ⟨_, rfl⟩, q _ _ (.inl ⟨rfl, .int _⟩)⟩
  · cases e
end Fx
end
section
set_option linter.all false
set_option Elab.async false
set_option maxRecDepth 100000
set_option maxHeartbeats 4000000
/-! sorted(set([..])) of ints. -/
namespace Fx
open PySem PySem.Spec PyProof.Rows L2
/-- a set as it is laid -/
def fxSet (w : World) : Obj := { cls := .type "set", dict := none, data := .set #[] 0 (.fresh 0 0 (!w.params.followText "set-order")) }
section
variable {P : Program} {w : World} {A : Around} {E : Value → Shared → Prop} {s : Shared}
set_option maxHeartbeats 8000000 in
theorem fx_setL {p : Addr} {its : Array Value} (zs : List Int) {Q : Value → Shared → Prop} (hand : A.handled = none) (at_ : s.heap.IsList p its) (ii : IntsAre its.toList zs) (few : zs.length + 1 < scanBound)
    (fin : ∀ (h' : Heap) (tk c : Nat), L2.SetR w h' s.heap.objs.size (fun j => decide (j ∈ zs)) c → c ≤ zs.length → (∀ b o, s.heap.get? b = some o → h'.get? b = some o) → Q (.ref s.heap.objs.size) { s with heap := h', toks := tk }) :
    wpAny (model P w) A (call (.type "set") [.ref p]) Q E s := by
  have isz : its.size = zs.length := by have q := IntsAre.length ii; rw [Array.length_toList] at q; exact q
  obtain ⟨c, tl, mro⟩ := F.called_set.mro
  have made := F.called_set.made
  have sub := F.called_set.sub
  refine wpAny_call (codeAny_of_tree ?_)
  show wpAny _ _ (callAny (.type "set") _) _ _ _
  refine wpAny_pure ⟨Code.quiet_builtin _ (by decide +kernel), codeAny_builtin F.entry_type_call ?_⟩
  rw [Around.under_plain (weight_type_call_type "set" [.ref p] []) rfl]
  have g1 := F.called_set.notType
  have g2 := F.called_set.canCreate
  have g3 := F.typeCall_set_1 (.ref p)
  repeat (any_goals (first | assumption | wp_step))

  refine codeAny_mono (L2.code_set_led1 (.ref p) (E := E) (Q₁ := fun obj s₁ => obj = .ref s.heap.objs.size ∧ s₁ = { s with heap := s.heap.push (fxSet w) }) ⟨rfl, rfl⟩) fun r s₁ hr => ?_
  cases r with
  | error e => exact hr
  | ok fl =>
    cases fl with
    | ret obj =>
      obtain ⟨rfl, rfl⟩ := hr
      have new : (s.heap.push (fxSet w)).get? s.heap.objs.size = some (fxSet w) := Heap.get?_push_size _ rfl
      have ty : Shared.TypeIs { s with heap := s.heap.push (fxSet w) } (.ref s.heap.objs.size) "set" := ⟨_, new, rfl⟩
      have i1 := F.called_set.init.lookup
      have i2 := F.called_set.init.bind (.ref s.heap.objs.size)
      repeat (any_goals (first | assumption | wp_step))

      refine codeAny_mono (codeAny_call_builtin (R := wants (fun r s₂ => r = .none ∧ ∃ h' tk c, s₂ = { s with heap := h', toks := tk } ∧ L2.SetR w h' s.heap.objs.size (fun j => decide (j ∈ zs)) c ∧ c ≤ zs.length ∧
          (∀ b o, s.heap.get? b = some o → h'.get? b = some o)) E) F.called_set.init.plain F.entry_set_init (check_set_init_1 ty ?_)) fun r₂ s₂ hr₂ => ?_
      · obtain ⟨ol, hol, hcl, nl, hdl⟩ := at_
        obtain ⟨oc, od, oda, osl⟩ := ol
        simp only at hcl hdl
        subst hcl; subst hdl
        have there : (s.heap.push (fxSet w)).get? p = some { cls := .type "list", dict := od, data := .seq its nl, slots := osl } := Heap.get?_push_of_some _ hol
        have u1 := F.sub_list_set
        have u2 := F.sub_list_frozenset
        have u3 : (Value.type "list" == Value.type "dict") = false := by decide
        have isl : (s.heap.push (fxSet w)).IsList p its := ⟨_, there, rfl, nl, rfl⟩
        unfold Builtin.«set.__init__» noKeywords Builtin.Frozenset.updateFrom
        generalize hPI : pyIter = PI
        wp_walk
        subst hPI

        refine wpAny_pyIter_list isl ?_
        refine wpAny_bind (wpAny_runValue ?_)
        have pS : p < s.heap.objs.size := Heap.lt_size hol
        have hh3 : A.in1.in1.in1.handled = none := by simp [hand]
        have pI : p ≠ (s.heap.push (fxSet w)).objs.size := by rw [Heap.size_push]; exact Nat.ne_of_lt (Nat.lt_succ_of_lt pS)
        have Sf : s.heap.objs.size ∉ [(s.heap.push (fxSet w)).objs.size, p] := by
          rw [Heap.size_push]
          simp only [List.mem_cons, List.mem_singleton, List.not_mem_nil, or_false, not_or]
          exact ⟨Nat.ne_of_lt (Nat.lt_succ_self _), Nat.ne_of_gt pS⟩
        have val : ∀ (i : Nat) (v : Value), its[i]? = some v → ∃ k t, zs[i]? = some k ∧ v = .int k t := fun i v hv => by
          have hi : i < zs.length := by rw [← isz]; exact (Array.getElem?_eq_some_iff.mp hv).1
          obtain ⟨t, e⟩ := PyProof.Rows.IntsAre.int_at ii i v (by rw [Array.getElem?_toList]; exact hv)
          exact ⟨zs[i], t, List.getElem?_eq_getElem hi, by rw [e, List.getD_eq_getElem?_getD, List.getElem?_eq_getElem hi] <;> rfl⟩
        refine L2.set_update_ints ((Walks.list hh3 _ p pI its).toS) s.heap.objs.size Sf zs isz few val (its.size - 0) 0 _ (by omega) (Nat.zero_le _) ⟨⟨_, Heap.get?_push_size _ rfl, rfl, rfl⟩, (isl.push _)⟩ ?z0 ?zR
        case z0 =>
          have there2 : ((s.heap.push (fxSet w)).push { cls := .type "list_iterator", data := .fields #[.ref p, .int 0 0] }).get? s.heap.objs.size = some (fxSet w) := Heap.get?_push_of_some _ new
          exact ⟨0, Nat.le_refl 0, L2.setR_new_at there2⟩
        case zR =>
          intro s' c' hm hc' hS'
          obtain ⟨h', g2, d', tk', os'⟩ := s'
          have z1 : g2 = s.gens := hm.gens
          have z2 : d' = s.drawn := hm.drawn
          have z3 : os' = s.os := hm.os
          subst z1; subst z2; subst z3
          show wpAny _ _ _ _ _ _
          refine wpAny_pure ?_
          show wpAny _ _ (ret Value.none) _ _ _
          rw [isz] at hc'
          refine wpAny_pure ⟨rfl, h', tk', c', rfl, hS', hc', fun b o e => ?_⟩
          have b0 : b < s.heap.objs.size := Heap.lt_size e
          have b2 : b ≠ (s.heap.push (fxSet w)).objs.size := by rw [Heap.size_push]; exact Nat.ne_of_lt (Nat.lt_succ_of_lt b0)
          exact hm.heap b o (by simp only [List.mem_cons, List.mem_singleton, List.not_mem_nil, or_false, not_or]; exact ⟨Nat.ne_of_lt b0, b2⟩) (Heap.get?_push_of_some _ (Heap.get?_push_of_some _ e))
      · cases r₂ with
        | error e => exact hr₂
        | ok f2 =>
          cases f2 with
          | ret v2 =>
            obtain ⟨rfl, h', tk, c, rfl, a1, a2, a3⟩ := hr₂
            repeat (any_goals (first | assumption | exact ⟨_, rfl, fin h' tk c a1 a2 a3⟩ | exact fin h' tk c a1 a2 a3 | wp_step))
          | _ => exact hr₂
    | _ => exact hr
end
end Fx
end
section
set_option linter.all false
set_option Elab.async false
set_option maxRecDepth 100000
set_option maxHeartbeats 4000000
/-! Built-in functions by name, isinstance, fields. -/
namespace Fx
open PySem PySem.Spec L2
variable {T : Nm} {W : WX} {X : Cx} {σ : St} {M : Lv}

def BF.name : BF → Str
  | .len => "len"
  | .abs => "abs"
  | .int => "int"
  | .str => "str"
  | .list => "list"
  | .tuple => "tuple"
  | .all => "all"
  | .any => "any"
  | .sum => "sum"
  | .range => "range"
  | .sorted => "sorted"
  | .max => "max"
  | .min => "min"
theorem BF.boot (b : BF) : bootBuiltins b.name = some b.val := by cases b <;> decide +kernel
theorem BF.nm (b : BF) : b.name ≠ "__name__" := by cases b <;> decide +kernel
theorem BF.db (b : BF) : (b.name == ("__debug__" : Str)) = false := by cases b <;> decide +kernel
theorem getDs_ok {F H : Hp} {ρ : Env} : ∀ {as : List Ar} {vs : List V} {M : Lv} {ds : List D}, Cf T F H (tmps as vs ++ M) ρ σ → ins_ σ as vs → getDs T.flds ρ as = some ds → RtL T F H vs ds
  | [], [], _, _, _, _, e => by cases e; trivial
  | [], _ :: _, _, _, _, i, _ => i.elim
  | _ :: _, [], _, _, _, i, _ => i.elim
  | a :: as, v :: vs, M, ds, cf, i, e => by
    have e : (match a.d T.flds ρ, getDs T.flds ρ as with
      | some d, some ds => some (d :: ds)
      | _, _ => none) = some ds := e
    have cf : Cf T F H ((a.tmp v ++ tmps as vs) ++ M) ρ σ := cf
    rw [List.append_assoc] at cf
    cases e1 : a.d T.flds ρ with
    | none => rw [e1] at e; cases e
    | some d =>
      cases e2 : getDs T.flds ρ as with
      | none => rw [e1, e2] at e; cases e
      | some ds' =>
        rw [e1, e2] at e
        cases e
        exact ⟨Cf.arD (P := []) cf i.1 e1, getDs_ok cf.dropL i.2 e2⟩
theorem pe_cbF {b : BF} {x : Str} {p pos : Pos} {e : Expr} {es : List Expr} {ms : Env → Res (List Ar)} (hK : KW X T) (hc : X.calm = true) (hu : X.A.units + 64 < cLine) (hx : x = b.name) (hg : Gl X x) (hm : X.mg x = none)
    (ha : PA X (e :: es) (tAs T W ms)) (h1 : Ex.star e = false) (h2 : es.all (fun e => !Ex.star e) = true) :
    PE X (.Call (.Name x p) (e :: es) [] pos) (tM T W fun ρ => (ms ρ).bind fun as ρ => match getDs T.flds ρ as with
      | some ds => optR (cbD b ds) ρ
      | none => .stuck) := by
  subst hx
  have key : PE X (.Call (.Name b.name p) (e :: es) [] pos) (tCB (rCb T b) (tAs T W ms)) := by
    have hcb := call_cb hK hc hu b
    have hv := b.boot
    cases hb : b.val with
    | builtin id => rw [hb] at hcb hv; exact pe_callB hcb hg hm hv ha b.nm b.db (star_cons es _ h1) (star_plain es h2)
    | type n => rw [hb] at hcb hv; exact pe_callTy hcb hg hm hv ha b.nm b.db (star_cons es _ h1) (star_plain es h2)
    | _ => cases b <;> cases hb
  refine key.imp fun σ H Q h => ?_
  obtain ⟨F, M, ρ, cf, q⟩ := h
  refine ⟨F, M, ρ, cf, (Out.bind q).imp fun as ρ1 q1 vs F1 H1 i cf1 => ?_⟩
  cases e1 : getDs T.flds ρ1 as with
  | none => rw [e1] at q1; exact q1.elim
  | some ds =>
    rw [e1] at q1
    obtain ⟨r, e2, k⟩ := tM_new cf1.dropL q1
    exact ⟨F1, ds, r, cf1.sub, getDs_ok cf1 i e1, e2, k⟩

/-! ### classes -/
structure ClsKn (T : Nm) (K : PySem.W.Frag) (c : Nat) : Prop where
  cl : Cls K (T.cls c)
  na : ∀ f ∈ T.flds c, NoAttr K (T.cls c) (T.fname f)
  nd : ((T.flds c).map T.fname).Nodup
  ln : (T.flds c).length ≤ 900
  ha : PySem.W.findIn K (.ref (T.cls c)) "__class__" = some (some (.builtin "object.__class__"))
  hn : PySem.W.specialIn K (.builtin "object.__class__") "__get__" = some (some (.builtin "getset_descriptor.__get__"))
  ht : PySem.W.takesIn K (.builtin "object.__class__") = some true
  hm : PySem.W.mroIn K (T.cls c) (.type "object") = some true
  k1 : ∀ n ∈ tyNames, PySem.W.kitOne K (.type n) (.ref (T.cls c)) = some false
  k2 : ∀ n ∈ tyNames, PySem.W.kitOne K (.ref (T.cls c)) (.type n) = some false
structure ClsAll (T : Nm) (K : PySem.W.Frag) (nc : Nat) : Prop where
  of : ∀ c, c < nc → ClsKn T K c
  two : ∀ c c', c < nc → c' < nc → PySem.W.kitOne K (.ref (T.cls c)) (.ref (T.cls c')) = some (decide (c' = c))
def D.ty (T : Nm) : D → Value
  | .non => .type "NoneType"
  | .bl _ => .type "bool"
  | .int _ => .type "int"
  | .str _ => .type "str"
  | .tup _ => .type "tuple"
  | .lst _ => .type "list"
  | .rng _ _ => .type "range"
  | .ins c _ => .ref (T.cls c)
  | .dct _ _ => .type "dict"
  | .err c _ => .ref (T.xcls c)
theorem isiD_ok {nc : Nat} {d : D} {t : IsT} {b : Bool} (e : isiD nc d t = some b) : d.tyOk nc = true := by
  cases d with
  | rng _ _ => cases e
  | dct _ _ => cases e
  | err _ _ => cases e
  | ins c _ =>
    simp only [isiD] at e
    split at e
    · simpa [D.tyOk]
    · cases e
  | _ => rfl
theorem Rt.ty {F H : Hp} {nc : Nat} {v : V} {d : D} (hK : KW X T) (A : ClsAll T X.K nc) (s : Same F H) (h : Rt T F H v d) (hd : d.tyOk nc = true) : TyX X.K H v (d.ty T) := by
  cases d with
  | non => cases h.non; exact .base .non
  | bl b => cases h.bl; exact .base (.bl b)
  | int b => cases h.int; exact .base (.int b)
  | str b => cases h.str; exact .base (.str b)
  | tup ds =>
    have h' : Rp T F v (.tup ds) := h
    cases h' with
    | @tup a xs _ t r =>
      rcases same_sqT s t with (t | ⟨o, t⟩) | ⟨o, its, n, t, hc, _⟩
      · exact .base (.tup t)
      · exact .fTuple t
      · exact .kTuple (by rw [hK.1]; exact t) hc
  | lst ds =>
    obtain ⟨a, xs, rfl, t, r⟩ := h
    rcases t with (t | ⟨o, t⟩) | ⟨o, its, n, t, hc, _⟩
    · exact .base (.lst t)
    · exact .base (.frz t)
    · exact .kList (by rw [hK.1]; exact t) hc
  | rng _ _ => cases hd
  | dct _ _ => cases hd
  | err _ _ => cases hd
  | ins c ds =>
    have h' : Rp T H v (.ins c ds) := h
    have kn := A.of c (by simpa [D.tyOk] using hd)
    cases h' with
    | ins h1 _ _ => exact .base (.ins h1 kn.cl kn.ha kn.hn kn.ht kn.hm)
/-- what isinstance is asked for, as a value -/
def tIs (T : Nm) : IsT → TE
  | .int => tC (.ty "int")
  | .bool => tC (.ty "bool")
  | .tuple => tC (.ty "tuple")
  | .list => tC (.ty "list")
  | .str => tC (.ty "str")
  | .cls c => tC (.ref (T.cls c))
  | .listTuple => tTup (tCons (tC (.ty "list")) (tCons (tC (.ty "tuple")) tNil))
def IsT.one (T : Nm) : IsT → Option (V × Value)
  | .int => some (.ty "int", .type "int")
  | .bool => some (.ty "bool", .type "bool")
  | .tuple => some (.ty "tuple", .type "tuple")
  | .list => some (.ty "list", .type "list")
  | .str => some (.ty "str", .type "str")
  | .cls c => some (.ref (T.cls c), .ref (T.cls c))
  | .listTuple => none
def IsT.ok (nc : Nat) : IsT → Bool
  | .cls c => decide (c < nc)
  | _ => true
theorem kit_one {K : PySem.W.Frag} {nc : Nat} (A : ClsAll T K nc) {d : D} {t : IsT} {b : Bool} {c : V} {u : Value} (e : isiD nc d t = some b) (ht : t.ok nc = true) (h : t.one T = some (c, u)) : ClsV c u ∧ PySem.W.kitOne K (d.ty T) u = some b := by
  have K2 : ∀ {x y : String} {r : Bool}, kitB x y = some r → PySem.W.kitOne K (.type x) (.type y) = some r := fun h => kit_ty h
  cases t with
  | listTuple => cases h
  | cls c' =>
    cases h
    have hc : c' < nc := by simpa [IsT.ok] using ht
    refine ⟨.own _, ?_⟩
    have kn := A.of c' hc
    cases d with
    | rng _ _ => cases e
    | dct _ _ => cases e
    | err _ _ => cases e
    | ins c2 ds =>
      simp only [isiD] at e
      split at e
      · rename_i h2
        cases e
        refine (A.two c2 c' h2 hc).trans ?_
        simp
      · cases e
    | non => simp [isiD] at e; subst e; exact kn.k1 _ (by decide)
    | bl _ => simp [isiD] at e; subst e; exact kn.k1 _ (by decide)
    | int _ => simp [isiD] at e; subst e; exact kn.k1 _ (by decide)
    | str _ => simp [isiD] at e; subst e; exact kn.k1 _ (by decide)
    | tup _ => simp [isiD] at e; subst e; exact kn.k1 _ (by decide)
    | lst _ => simp [isiD] at e; subst e; exact kn.k1 _ (by decide)
  | _ =>
    cases h
    refine ⟨.ty _, ?_⟩
    cases d with
    | rng _ _ => cases e
    | dct _ _ => cases e
    | err _ _ => cases e
    | ins c2 ds =>
      simp only [isiD] at e
      split at e
      · rename_i h2
        simp at e
        subst e
        exact (A.of c2 h2).k2 _ (by decide)
      · cases e
    | _ =>
      simp [isiD] at e
      subst e
      exact K2 (by decide +kernel)
theorem pe_isiF {nc : Nat} {a t : Expr} {it : IsT} {p pos : Pos} {m : Env → Res Ar} (hK : KW X T) (A : ClsAll T X.K nc) (hg : Gl X "isinstance") (hm : X.mg "isinstance" = none) (ha : PE X a (tAr T W m)) (ht : PE X t (tIs T it)) (hok : it.ok nc = true)
    (h1 : Ex.star a = false) (h2 : Ex.star t = false) :
    PE X (.Call (.Name "isinstance" p) [a, t] [] pos) (tM T W (one_ T.flds (fun x ρ => optR ((isiD nc x it).map fun b => .val (.bl b)) ρ) m)) := by
  have key := pe_callB (pos := pos) (p := p) (id := "isinstance") (CallR.or (call_isi (X := X)) call_isiT) hg hm (by decide +kernel) (pa_cons ha (pa_cons ht pa_nil (star_cons [] _ h2)) (star_cons [t] _ h1)) (by decide +kernel) (by decide +kernel) (star_cons [t] _ h1) (star_plain [t] (by simp [h2]))
  refine key.imp fun σ H Q h => ?_
  show tAr T W m σ H fun x H1 => tIs T it σ H1 fun y H2 => _
  refine tAr_one (f := fun x ρ => optR ((isiD nc x it).map fun b => R.val (.bl b)) ρ) (K := fun M r ρ' => ∀ v F' H', Cf T F' H' ((r, v) :: M) ρ' σ → Q v H') h fun F M ρ H x dx cf rx q => ?_
  obtain ⟨r, e, k⟩ := q.opt
  obtain ⟨b, e2, e3⟩ := Option.map_eq_some_iff.mp e
  subst e3
  have hd := isiD_ok e2
  cases z : it.one T with
  | some p =>
    obtain ⟨c, u⟩ := p
    obtain ⟨cv, ko⟩ := kit_one A e2 hok z
    have et : tIs T it = tC c := by cases it <;> first | (cases z; rfl) | cases z
    rw [et]
    exact .inl ⟨x, c, dx.ty T, u, b, rfl, cv, rx.ty hK A cf.sub hd, ko, k _ F H (cf.val (.bl b))⟩
  | none =>
    have et : it = .listTuple := by cases it <;> first | rfl | cases z
    subst et
    refine ⟨by show 2 ≤ sizeLine; decide, fun p np => .inr ?_⟩
    obtain ⟨cf2, s2⟩ := cf.newF (o := .tup [.ty "list", .ty "tuple"]) np
    have grow : Same H (upd H p (.tup [.ty "list", .ty "tuple"])) := fun b o e => by rw [upd_ne (ne_of_none e np)]; exact e
    have rx2 : Rt T F (upd H p (.tup [.ty "list", .ty "tuple"])) x dx := by
      cases dx with
      | lst ds => obtain ⟨a, xs, rfl, t, r⟩ := rx; exact ⟨a, xs, rfl, same_sqL grow t, r⟩
      | ins c ds => exact Rp.mono grow _ _ (show Rp T H x (.ins c ds) from rx)
      | dct ks vs => obtain ⟨a, o, rfl, h1, h2⟩ := rx; exact ⟨a, o, rfl, same_rd grow h1, h2⟩
      | _ => exact rx
    have ty := rx2.ty hK A (fun b o e => grow _ _ (cf.sub _ _ e)) hd
    refine ⟨x, p, [.ty "list", .ty "tuple"], dx.ty T, [.type "list", .type "tuple"], b, rfl, upd_same, .cons (.ty _) (.cons (.ty _) .nil), ty, ?_, k _ _ _ (cf2.val (.bl b))⟩
    have two : ∀ {x y : Bool}, PySem.W.kitOne X.K (dx.ty T) (.type "list") = some x → PySem.W.kitOne X.K (dx.ty T) (.type "tuple") = some y → b = (x || y) → PySem.W.kitAny X.K (dx.ty T) [.type "list", .type "tuple"] = some b := fun {x y} h1 h2 e => by
      subst e
      refine kitAny_cons h1 (fun z => ?_) (fun z => by rw [z]; rfl)
      subst z
      exact kitAny_cons h2 (fun z => by subst z; exact kitAny_nil) (fun z => by rw [z]; rfl)
    have kt : ∀ {x y : String} {r : Bool}, kitB x y = some r → PySem.W.kitOne X.K (.type x) (.type y) = some r := fun h => kit_ty h
    cases dx with
    | rng _ _ => cases hd
    | dct _ _ => cases hd
    | err _ _ => cases hd
    | ins c ds =>
      have hc : c < nc := by simpa [D.tyOk] using hd
      have kn := A.of c hc
      simp only [isiD, if_pos hc] at e2
      exact two (kn.k2 "list" (by decide)) (kn.k2 "tuple" (by decide)) (by simp at e2; simp [e2])
    | tup _ => exact two (x := false) (y := true) (kt (by decide +kernel)) (kt (by decide +kernel)) (by simp [isiD] at e2; simp [e2])
    | lst _ => exact two (x := true) (y := false) (kt (by decide +kernel)) (kt (by decide +kernel)) (by simp [isiD] at e2; simp [e2])
    | _ => exact two (x := false) (y := false) (kt (by decide +kernel)) (kt (by decide +kernel)) (by simp [isiD] at e2; simp [e2])

/-! ### fields -/
theorem zip_look (f : Nat) (fn : Nat → Str) : ∀ (L : List Nat) (xs : List V) (v : V), (L.map fn).Nodup → xs[L.idxOf f]? = some v → f ∈ L → ((L.map fn).zip xs).lookup (fn f) = some v
  | [], _, _, _, _, h => by cases h
  | g :: L, [], v, _, e, _ => by simp at e
  | g :: L, x :: xs, v, nd, e, h => by
    simp only [List.map_cons, List.nodup_cons] at nd
    by_cases z : g = f
    · subst z
      simp at e
      subst e
      simp [List.lookup]
    · have hf : f ∈ L := by
        rcases List.mem_cons.mp h with q | q
        · exact absurd q.symm z
        · exact q
      have ne : fn f ≠ fn g := fun q => nd.1 (q ▸ List.mem_map.mpr ⟨f, hf, rfl⟩)
      have e' : xs[L.idxOf f]? = some v := by
        rw [List.idxOf_cons] at e
        have : (g == f) = false := by simpa using z
        rw [this] at e
        simpa using e
      simp only [List.map_cons, List.zip_cons_cons, List.lookup_cons]
      have : (fn f == fn g) = false := by simpa using ne
      rw [this]
      exact zip_look f fn L xs v nd.2 e' hf
theorem idx_mem {L : List Nat} {f : Nat} (h : L.idxOf f < L.length) : f ∈ L := by
  rw [← List.idxOf_lt_length_iff]; exact h
theorem RRL.get {F H : Hp} : ∀ {rs : List R} {vs : List V} {fp : List Addr} {i : Nat} {r : R}, RRL T F H rs vs fp → rs[i]? = some r → ∃ v fp', vs[i]? = some v ∧ RR T F H r v fp'
  | [], _, _, i, r, _, e => by simp at e
  | _ :: _, _, _, 0, r, h, e => by
    cases h with | cons h1 h2 => simp at e; subst e; exact ⟨_, _, rfl, h1⟩
  | _ :: _, _, _, i + 1, r, h, e => by
    cases h with | cons h1 h2 =>
      obtain ⟨v, fp', e1, q⟩ := h2.get (i := i) (by simpa using e)
      exact ⟨v, fp', by simpa using e1, q⟩
/-- the field of a value in hand -/
theorem fld_val {F H : Hp} {nc : Nat} {g : G} (hK : KW X T) (A : ClsAll T X.K nc) (hnc : g.nc = nc) (hfl : g.flds = T.flds) {v : V} {d x : D} {f : Nat} (s : Same F H) (h : Rp T F v d) (e : attrR g f d = some x) :
    ∃ a C dx fs w, v = .ref a ∧ H a = some (.ins C dx fs) ∧ Cls X.K C ∧ NoAttr X.K C (T.fname f) ∧ fs.lookup (T.fname f) = some w ∧ Rp T F w x := by
  unfold attrR at e
  cases d with
  | ins c ds =>
    dsimp only at e
    split at e
    · rename_i hc
      rw [hnc] at hc
      rw [hfl] at e
      have kn := A.of c hc
      cases h with
      | @ins a dx _ xs _ h1 hl hr =>
        obtain ⟨w, e1, rw'⟩ := hr.get e
        have hi : (T.flds c).idxOf f < (T.flds c).length := by
          have := (List.getElem?_eq_some_iff.mp e1).1
          omega
        exact ⟨a, T.cls c, dx, _, w, rfl, s _ _ h1, kn.cl, kn.na f (idx_mem hi), zip_look f T.fname _ xs w kn.nd e1 (idx_mem hi), rw'⟩
    · cases e
  | _ => cases e
theorem pe_fldD {nc : Nat} {g : G} {e : Expr} {pos : Pos} {m : Env → Res D} {f : Nat} {n : Str} (hK : KW X T) (A : ClsAll T X.K nc) (hnc : g.nc = nc) (hfl : g.flds = T.flds) (hn : n = T.fname f) (h : PE X e (tD T W m)) (hb : Ex.isCall e = false) :
    PE X (.Attribute e n pos) (tM T W fun ρ => (m ρ).bind fun x ρ => optR ((attrR g f x).map .val) ρ) := by
  subst hn
  refine (pe_fld h (att_plain hb)).imp fun σ H Q q => ?_
  obtain ⟨F, M, ρ, cf, q⟩ := q
  refine ⟨F, M, ρ, cf, (Out.bind q).imp fun d ρ1 q1 v1 F1 H1 cf1 => ?_⟩
  obtain ⟨r, e1, k⟩ := q1.opt
  obtain ⟨x, e2, e3⟩ := Option.map_eq_some_iff.mp e1
  subst e3
  obtain ⟨a, C, dx, fs, w, ev, h1, cl, na, l, rw'⟩ := fld_val hK A hnc hfl cf1.sub cf1.rp e2
  exact ⟨a, C, dx, fs, w, ev, h1, cl, na, l, k w F1 H1 (cf1.tail.val rw')⟩
theorem pe_fldV {nc : Nat} {g : G} {e : Expr} {pos : Pos} {i f : Nat} {n : Str} (hK : KW X T) (A : ClsAll T X.K nc) (hnc : g.nc = nc) (hfl : g.flds = T.flds) (hn : n = T.fname f) (h : PE X e (tVar i)) (hb : Ex.isCall e = false) :
    PE X (.Attribute e n pos) (tM T W fun ρ => match ρ.at i with
      | some r => optR ((attrO g f r).map .val) ρ
      | none => .stuck) := by
  subst hn
  refine (pe_fld h (att_plain hb)).imp fun σ H Q q => ?_
  obtain ⟨F, M, ρ, cf, q⟩ := q
  dsimp only at q
  cases z : ρ.at i with
  | none => rw [z] at q; exact q.elim
  | some r =>
    rw [z] at q
    obtain ⟨r', e1, k⟩ := Out.opt q
    obtain ⟨x, e2, e3⟩ := Option.map_eq_some_iff.mp e1
    subst e3
    have ez := at_get z
    cases r with
    | val d =>
      obtain ⟨v, F', ev, s, cf'⟩ := cf.read ez rfl
      rw [show R.toD (.val d) = d from rfl, set_same ez] at cf'
      obtain ⟨a, C, dx, fs, w, rfl, h1, cl, na, l, rw'⟩ := fld_val hK A hnc hfl cf'.sub cf'.rp e2
      exact ⟨.ref a, ev, a, C, dx, fs, w, rfl, h1, cl, na, l, k w F' H (cf'.tail.val rw')⟩
    | lst ds => cases e2
    | dct _ _ => cases e2
    | lck _ _ _ _ _ _ => cases e2
    | raw _ => cases e2
    | obj c rs =>
      obtain ⟨v, ev, cf'⟩ := cf.out ez
      obtain ⟨L, sl, sF, fp, h1, nd, av⟩ := cf'
      simp only [attrO] at e2
      split at e2
      · rename_i hc
        rw [hnc] at hc
        rw [hfl] at e2
        have kn := A.of c hc
        split at e2
        · rename_i d eq
          cases e2
          cases h1 with | cons h2 h3 =>
            cases h2 with | @obj a dx _ xs _ gp h4 hl h5 =>
              obtain ⟨w, fp', e5, r5⟩ := h5.get eq
              cases r5 with | val rw' =>
                have hi : (T.flds c).idxOf f < (T.flds c).length := by
                  have := (List.getElem?_eq_some_iff.mp e5).1
                  omega
                exact ⟨.ref a, ev, a, T.cls c, dx, _, w, rfl, h4, kn.cl, kn.na f (idx_mem hi), zip_look f T.fname _ xs w kn.nd e5 (idx_mem hi), k w F H (cf.val rw')⟩
        · cases e2
      · cases e2
end Fx
end
section
set_option linter.all false
set_option Elab.async false
set_option maxRecDepth 100000
set_option maxHeartbeats 4000000
/-! enumerate of a list or a tuple. -/
namespace Fx
open PySem PySem.Spec L2 PyProof.Rows
section
variable {prog : Program} {w : World} {A : Around} {E : Value → Shared → Prop} {s : Shared}
theorem pyNext_enumT_end {e it t : Addr} {i : Nat} {c : Int} {old : Value} {items : Array Value} {Q : Option Value → Shared → Prop} (hh : A.handled = none)
    (he : IsEnum s.heap e it c old) (hit : s.heap.IsTupleIter it t i) (ht : s.heap.IsTuple t items) (hx : items[i]? = none)
    (hQ : ∀ h', Heap.ExtBut it s.heap h' → Q none { s with heap := h' }) : wpAny (model prog w) A (pyNext (.ref e)) Q E s := by
  have hT : s.TypeIs (.ref e) "enumerate" := ⟨_, he, rfl⟩
  unfold pyNext
  refine wpAny_bind (wpAny_attempt (wpAny_callSpecial?_slot (name := Str.ofString "__next__") hT F.slot_enumerate_next
    (wpAny_call_entry F.slot_enumerate_next hT F.entry_enumerate_next ?_ (F.args_enumerate_next_1 _))))
  show wpAny _ _ (field (.ref e) 2 >>= _) _ _ _
  refine wpAny_bind (wpAny_field he rfl (x := .ref it) rfl ?_)
  refine wpAny_bind (RZ.nextOf_tuple_end (by exact hh) hit ht hx fun h' x he' hx' => ?_)
  obtain ⟨o, ho, hc⟩ := hx'
  refine wpAny_bind (wpAny_isInstance (T := "StopIteration") (b := true) ⟨o, ho, hc⟩ isSubtype_stop ?_)
  exact wpAny_pure (hQ _ he')
set_option maxHeartbeats 4000000 in
theorem meets_enumerate_newB1 {v : Value} {o : Obj} {H : Heap → Prop} (B : Begins v o H) :
    Meets (Builtin.«enumerate.__new__» ⟨[.type "enumerate", v], []⟩) (fun _ R s => H s.heap ∧
      R (.ok (.ret (.ref (s.heap.push o).objs.size))) { s with heap := (s.heap.push o).push { cls := .type "enumerate", data := .fields #[.none, .bool false, .ref s.heap.objs.size, rawInt 0, .none, .none] } }) :=
  .of_wp fun prog w A R s h => by
    obtain ⟨hp, g, d, tk, os⟩ := s; obtain ⟨h1, h⟩ := h
    have hsub := sub_enumerate
    have q1 : ∀ {A' : Around} {E : Value → Shared → Prop} {Q : Value → Shared → Prop}, Q (.ref hp.objs.size) ⟨hp.push o, g, d, tk, os⟩ → wpAny (model prog w) A' (pyIter v) Q E ⟨hp, g, d, tk, os⟩ :=
      fun q => B.iter prog w _ _ ⟨hp, g, d, tk, os⟩ _ h1 q
    wp_walk using q1
    refine wpAny_stack_any fun st => wpAny_pure ?_
    split
    · rename_i c _ _ _ _ _
      cases (c == Value.type "enumerate")
      · wp_walk using q1
        exact ⟨_, rfl, h⟩
      · wp_walk using q1
        exact ⟨_, rfl, h⟩
    · wp_walk using q1
      exact ⟨_, rfl, h⟩
theorem call_enumB {v : Value} {o : Obj} {H : Heap → Prop} {Q : Value → Shared → Prop} (B : Begins v o H) (h1 : H s.heap)
    (h : ∀ h', IsEnum h' (s.heap.objs.size + 1) s.heap.objs.size 0 .none → h'.get? s.heap.objs.size = some o → h'.objs.size = s.heap.objs.size + 2 →
      (∀ b o, s.heap.get? b = some o → h'.get? b = some o) → Q (.ref (s.heap.objs.size + 1)) { s with heap := h' }) :
    wpAny (model prog w) A (call (.type "enumerate") [v]) Q E s := by
  refine callType_new F.called_enumerate (by decide) (F.typeCall_enumerate_1 _) (F.newCall_enumerate_1 _) (fun obj => F.args_object_init_2 obj _) F.entry_enumerate_new
    (meets_enumerate_newB1 B) ⟨h1, ?_⟩
  have hz : (s.heap.push o).objs.size = s.heap.objs.size + 1 := Heap.size_push ..
  show _ ∧ _
  rw [hz]
  have he : IsEnum ((s.heap.push o).push { cls := .type "enumerate", data := .fields #[.none, .bool false, .ref s.heap.objs.size, rawInt 0, .none, .none] }) (s.heap.objs.size + 1) s.heap.objs.size 0 .none := by
    have := Heap.get?_push_size (s.heap.push o) (o := { cls := .type "enumerate", data := .fields #[.none, .bool false, .ref s.heap.objs.size, rawInt 0, .none, .none] }) rfl
    rw [hz] at this; exact this
  refine ⟨⟨_, he, rfl⟩, h _ he (Heap.get?_push_of_some _ (Heap.get?_push_size _ B.free)) (by rw [Heap.size_push, hz]) fun b o x => Heap.get?_push_of_some _ (Heap.get?_push_of_some _ x)⟩
end
/-- the tuple at a, each item in a new pair -/
def IteT (K : PySem.W.Frag) (a : Addr) : It :=
  ⟨fun i H => ∃ (xs : List V) (x : V), SqT K H a xs ∧ xs[i]? = some x, fun i H v H' => ∃ T x, v = .ref T ∧ H T = none ∧ H' = upd H T (.tup [.int (i : Nat), x]) ∧ ∀ xs, SqT K H a xs → xs[i]? = some x, fun i H => ∃ xs : List V, SqT K H a xs ∧ xs.length ≤ i⟩
theorem turn_enumT {P : Program} {w : World} {K : PySem.W.Frag} {elts : List Expr} {kk : Nat} {tpos : Pos} (a e it : Addr) :
    Turn P w K (.Tuple elts kk tpos) (IteT K a) [e, it] e (fun i h => (∃ old, IsEnum h e it ((i : Nat) : Int) old) ∧ h.IsTupleIter it a i ∧ e ≠ it ∧ a ≠ it ∧ a ≠ e) where
  mem := by simp
  obj := fun i h st b hb => by
    obtain ⟨⟨old, he⟩, ⟨o, ho, hc, hd⟩, _⟩ := st
    have e' : b = e ∨ b = it := by simpa using hb
    rcases e' with z | z
    · rw [z]; exact ⟨_, he, fun v q => nomatch q⟩
    · rw [z]; exact ⟨o, ho, fun v q => by rw [hd] at q; cases q⟩
  keep := fun i h h' st k => let ⟨⟨old, he⟩, hi, hne, h1, h2⟩ := st; ⟨⟨old, k e (by simp) _ he⟩, hi.at fun o q => k it (by simp) o q, hne, h1, h2⟩
  item := by
    intro X hP hw hK hc i pins s σ H E I hf st hg
    subst hP hw hK
    obtain ⟨⟨old, he⟩, hit, hne, hai, hae⟩ := st
    obtain ⟨xs, x, hq, hx⟩ := hg
    obtain ⟨its, rv, p, hz⟩ := I.tuple hq
    obtain ⟨u, hu, ru⟩ := rv.get hx
    have hel : e < s.heap.objs.size := Heap.lt_size he
    have hil : it < s.heap.objs.size := by obtain ⟨_, q, _⟩ := hit; exact Heap.lt_size q
    have hui : its.toArray[i]? = some u := by simpa using hu
    have hlt : i < its.toArray.size := by
      rcases Nat.lt_or_ge i its.toArray.size with h | h
      · exact h
      · rw [Array.getElem?_eq_none h] at hui; cases hui
    refine wpAny_pyNext_enum_itemC (Draws.tuple (prog := X.prog) (w := X.w) (by exact I.ok.hd hc) it a hai its.toArray) he (i := i) (c := (i : Int)) ⟨hit, p⟩ hlt hne (by simp [hne, Ne.symm hae]) fun y h' tk hy ho hs' hT hsz hk => ?_
    obtain rfl : y = u := by rw [hui] at hy; cases hy; rfl
    obtain ⟨hit', _⟩ := hs'
    refine ⟨_, rfl, wpAny_letOwnedTupleGo_enum (s := { s with heap := h', toks := tk + 1 }) ho fun h'' he' sb => ?_⟩
    have hT2 : h''.get? s.heap.objs.size = some { cls := .type "tuple", data := .seq #[.int i tk, y] } := (sb.2 _ (Nat.ne_of_gt hel)).trans hT
    have new : ObjOk X.prog X.w (upd H s.heap.objs.size (.tup [.int (i : Nat), x])) h'' s.heap.objs.size (.tup [.int (i : Nat), x]) :=
      ⟨by show 2 ≤ sizeLine; decide, [.int i tk, y], .cons ⟨_, rfl⟩ (.cons ru .nil), ⟨_, hT2, rfl, _, rfl⟩⟩
    have I1 : Inv X pins σ (upd H s.heap.objs.size (.tup [.int (i : Nat), x])) { s with heap := h'', toks := tk + 1 } :=
      I.turnedNew (ch := [e, it]) (fun b o hb q => (sb.2 b (fun z => hb (by simp [z]))).trans (hk b o (fun z => hb (by simp [z])) (fun z => hb (by simp [z])) q)) hf (Nat.le_refl _) new
    refine ⟨.ref s.heap.objs.size, _, I1, rfl, ⟨_, x, rfl, I.hok.fresh (Nat.le_refl _), rfl, fun ys hy => by rw [I.tuple_inj hy hq]; exact hx⟩, ⟨⟨y, ?_⟩, hit'.at fun o q => (sb.2 it (Ne.symm hne)).trans q, hne, hai, hae⟩, fun b hb => ?_⟩
    · have e1 : ((i + 1 : Nat) : Int) = (i : Int) + 1 := by omega
      rw [e1]; exact he'
    · have hb' : b < s.heap.objs.size := by
        have e' : b = e ∨ b = it := by simpa using hb
        rcases e' with z | z
        · rw [z]; exact hel
        · rw [z]; exact hil
      rw [upd_ne (Nat.ne_of_lt hb')]
      exact (hf b hb).1
  done := by
    intro X hP hw hK hc i pins s σ H E I hf st hg
    subst hP hw hK
    obtain ⟨⟨old, he⟩, hit, hne, _⟩ := st
    obtain ⟨xs, hq, hx⟩ := hg
    obtain ⟨its, rv, p, hz⟩ := I.tuple hq
    obtain ⟨f0, f1, f2, f3, f4, f5⟩ := hf it (by simp)
    have hl := rv.length
    exact pyNext_enumT_end (I.ok.hd hc) he hit p (by simp; omega) fun h' eb => ⟨rfl, I.turned (t' := s.toks) (fun b o hb q => eb b o hb q) f0 f1 f3 f4 f5⟩
  self := fun A i s Q E st h => let ⟨⟨_, he⟩, _⟩ := st; wpAny_pyIter_enum he h
def iEnumA (K : PySem.W.Frag) (ta : TA) : TI := fun σ H R => ta σ H fun vs H1 => ∃ a xs, vs = [.ref a] ∧ ((SqL K H1 a xs ∧ R (Ite K a) H1) ∨ (SqT K H1 a xs ∧ R (IteT K a) H1))
theorem pi_enumA {X : Cx} {e : Expr} {ta : TA} {p pos tpos : Pos} {elts : List Expr} {kk : Nat} (hg : Gl X "enumerate") (hm : X.mg "enumerate" = none) (ha : PA X [e] ta) (hs : starEach [e] X.env = [(false, eval e X.env)] := by rfl) :
    PI X (.Tuple elts kk tpos) (.Call (.Name "enumerate" p) [e] [] pos) (iEnumA X.K ta) := by
  refine ⟨fun pins s σ H R I h => ?_⟩
  refine Call_ (ld_blt I hg hm boot_enumerate (PyProof.Rows.callWith_type1 (thn (ha.run pos pins s σ H _ I h) fun us s1 ⟨vs, H1, I1, r1, q1⟩ => ?_) hs rfl))
  obtain ⟨a, xs, ex, q⟩ := q1
  subst ex
  cases r1 with
  | cons r rr =>
    cases rr
    cases r
    have fresh2 : ∀ b, b ∈ [s1.heap.objs.size + 1, s1.heap.objs.size] → FpOk X pins H1 b := fun b hb => by
      have e' : b = s1.heap.objs.size + 1 ∨ b = s1.heap.objs.size := by simpa using hb
      have hle : s1.heap.objs.size ≤ b := by
        rcases e' with z | z
        · rw [z]; exact Nat.le_add_right _ _
        · rw [z]; exact Nat.le_refl _
      exact I1.fpOk hle (I1.hok.fresh hle)
    rcases q with ⟨hq, q⟩ | ⟨hq, q⟩
    · obtain ⟨its, rv, p', hz⟩ := I1.list hq
      refine call_enumerate_list p'.isList fun h' he hit hsz hk => wpAny_pyIter_enum he ?_
      have I2 : Inv X pins σ H1 { s1 with heap := h' } := I1.kept (t' := s1.toks) hk
      exact ⟨s1.heap.objs.size + 1, [s1.heap.objs.size + 1, s1.heap.objs.size], _, _, H1, rfl, I2, turn_enum a (s1.heap.objs.size + 1) s1.heap.objs.size, ⟨⟨.none, he⟩, hit, Nat.succ_ne_self _⟩, fresh2, q⟩
    · obtain ⟨its, rv, p', hz⟩ := I1.tuple hq
      have hal : a < s1.heap.objs.size := by obtain ⟨_, q, _⟩ := id p'; exact Heap.lt_size q
      refine call_enumB (begins_tuple a its.toArray) (show s1.heap.IsTuple a its.toArray from p') fun h' he hit hsz hk => wpAny_pyIter_enum he ?_
      have I2 : Inv X pins σ H1 { s1 with heap := h' } := I1.kept (t' := s1.toks) hk
      exact ⟨s1.heap.objs.size + 1, [s1.heap.objs.size + 1, s1.heap.objs.size], _, _, H1, rfl, I2, turn_enumT a (s1.heap.objs.size + 1) s1.heap.objs.size, ⟨⟨.none, he⟩, ⟨_, hit, rfl, rfl⟩, Nat.succ_ne_self _, Nat.ne_of_lt hal, Nat.ne_of_lt (Nat.lt_succ_of_lt hal)⟩, fresh2, q⟩
end Fx
end
section
set_option linter.all false
set_option Elab.async false
set_option maxRecDepth 100000
set_option maxHeartbeats 4000000
/-! Walks over dicts that stand still: the keys, the pairs. -/
namespace Fx
open PySem PySem.Spec L2 PySem.W
variable {T : Nm}
/-- the keys of the dict at d, which is od -/
def ItK (d : Addr) (od : Obj) (ob : HO) (kv : List V) : It :=
  ⟨fun i H => H d = some (.frz od ob) ∧ i < kv.length, fun i H x H' => H' = H ∧ kv[i]? = some x, fun i H => H d = some (.frz od ob) ∧ kv.length ≤ i⟩
/-- the pairs, each in a new tuple -/
def ItP (d : Addr) (od : Obj) (ob : HO) (kv wv : List V) : It :=
  ⟨fun i H => H d = some (.frz od ob) ∧ i < kv.length, fun i H x H' => ∃ p k w, kv[i]? = some k ∧ wv[i]? = some w ∧ x = .ref p ∧ H p = none ∧ H' = upd H p (.tup [k, w]), fun i H => H d = some (.frz od ob) ∧ kv.length ≤ i⟩
theorem frz_get {X : Cx} {pins : List (Addr × Obj)} {σ : St} {H : Hp} {s : Shared} {d : Addr} {od : Obj} {ob : HO} (I : Inv X pins σ H s) (h : H d = some (.frz od ob)) : s.heap.get? d = some od := (I.hok d _ h).1
section
variable {P : Program} {w : World} {K : PySem.W.Frag} {tg : Expr} {d : Addr} {od : Obj} {ob : HO} {en : Array DictEntry} {ep : Nat} {kv wv : List V}
theorem key_at (hv : Vals kv (en.toList.map (·.key))) {i : Nat} (hi : i < kv.length) : ∃ x e, kv[i]? = some x ∧ en[i]? = some e ∧ RelV x e.key := by
  obtain ⟨u, hu, ru⟩ := hv.get (List.getElem?_eq_getElem hi)
  rw [List.getElem?_map] at hu
  cases q : en.toList[i]? with
  | none => rw [q] at hu; cases hu
  | some e =>
    rw [q] at hu
    cases hu
    exact ⟨_, e, List.getElem?_eq_getElem hi, by simpa using q, ru⟩
theorem size_at (hv : Vals kv (en.toList.map (·.key))) : en.size = kv.length := by
  rw [hv.length, List.length_map, Array.length_toList]
theorem turn_dkeys (it : Addr) (hod : od.data = .dict en ep) (hv : Vals kv (en.toList.map (·.key))) : Turn P w K tg (ItK d od ob kv) [it] it (fun i h => h.IsKeyIter it d i kv.length ep) where
  mem := by simp
  obj := fun i h st b hb => by
    have e : b = it := by simpa using hb
    subst e
    obtain ⟨oi, e, c, dd⟩ := st
    exact ⟨oi, e, fun v z => by rw [dd] at z; cases z⟩
  keep := fun i h h' st k => st.at fun oi e => k it (by simp) oi e
  item := by
    intro X hP hw hK hc i pins s σ H E I hf st hg
    subst hP hw hK
    obtain ⟨hd, hi⟩ := hg
    obtain ⟨f0, f1, f2, f3, f4, f5⟩ := hf it (by simp)
    have hgd := frz_get I hd
    obtain ⟨x, e, hx, he, rx⟩ := key_at hv hi
    refine next_key_item st hgd hod (size_at hv) he fun h' st' sb => ?_
    have I1 : Inv X pins σ H { s with heap := h' } := I.turned (t' := s.toks) (fun b o hb q => (sb.2 b hb).trans q) f0 f1 f3 f4 f5
    obtain ⟨oi, q, c, dd⟩ := id st'
    exact ⟨e.key, rfl, go_of (s := { s with heap := h' }) q c dd (by decide) ⟨x, H, I1, rx, ⟨rfl, hx⟩, st', fun b hb => (hf b hb).1⟩⟩
  done := by
    intro X hP hw hK hc i pins s σ H E I hf st hg
    subst hP hw hK
    obtain ⟨hd, hi⟩ := hg
    obtain ⟨f0, f1, f2, f3, f4, f5⟩ := hf it (by simp)
    have hgd := frz_get I hd
    exact next_key_end (I.ok.hd hc) st hgd hod (size_at hv) hi fun h' eb => ⟨rfl, I.turned (t' := s.toks) (fun b o hb q => eb b o hb q) f0 f1 f3 f4 f5⟩
  self := fun A i s Q E st h => by
    refine wpAny_pyIter_slot st.typeIs F.slot_dict_keyiterator_iter (wpAny_call_entry F.slot_dict_keyiterator_iter st.typeIs F.entry_dict_keyiterator_iter ?_ (F.args_dict_keyiterator_iter_1 _))
    show wpAny _ _ (ret (.ref it)) _ _ s
    exact wpAny_pure ⟨_, rfl, "dict_keyiterator", _, st.typeIs, F.slot_dict_keyiterator_next.lookup, h⟩
theorem turn_ditems {elts : List Expr} {kk : Nat} {tpos : Pos} (it : Addr) (hx : od.ExactDict) (hod : od.data = .dict en ep) (hv : Vals kv (en.toList.map (·.key))) (hw' : Vals wv (en.toList.map (·.val))) :
    Turn P w K (.Tuple elts kk tpos) (ItP d od ob kv wv) [it] it (fun i h => ∃ ok ov, IsItemIter h it d i en.size ep ok ov) where
  mem := by simp
  obj := fun i h st b hb => by
    have e : b = it := by simpa using hb
    subst e
    obtain ⟨ok, ov, e⟩ := st
    exact ⟨_, e, fun v z => nomatch z⟩
  keep := fun i h h' st k => let ⟨ok, ov, e⟩ := st; ⟨ok, ov, k it (by simp) _ e⟩
  item := by
    intro X hP hw hK hc i pins s σ H E I hf st hg
    subst hP hw hK
    obtain ⟨hd, hi⟩ := hg
    have hgd := frz_get I hd
    obtain ⟨ok, ov, he⟩ := st
    have hsz := size_at hv
    have hl2 : wv.length = kv.length := by rw [hw'.length, hv.length, List.length_map, List.length_map]
    obtain ⟨x, e, hkx, hen, rx⟩ := key_at hv hi
    obtain ⟨y, hy, ry⟩ := hw'.get (List.getElem?_eq_getElem (show i < wv.length by omega))
    have hie : i < en.size := by omega
    have e1 : en[i] = e := by
      rw [Array.getElem?_eq_getElem hie] at hen
      exact Option.some.inj hen
    have ry' : RelV wv[i] e.val := by
      rw [List.getElem?_map] at hy
      have : en.toList[i]? = some e := by simpa using hen
      rw [this] at hy
      cases hy
      exact ry
    have hlt : it < s.heap.objs.size := Heap.lt_size he
    refine wpAny_pyNext_items_item_raw he ⟨od, hgd, hx, hod⟩ hie fun h' ho hT hz hk => ?_
    rw [e1] at ho hT
    refine ⟨_, rfl, wpAny_letOwnedTupleGo_items (s := { s with heap := h' }) ho fun h'' he' sb => ?_⟩
    have hT2 : h''.get? s.heap.objs.size = some { cls := .type "tuple", data := .seq #[e.key, e.val] } := (sb.2 _ (Nat.ne_of_gt hlt)).trans hT
    have new : ObjOk X.prog X.w (upd H s.heap.objs.size (.tup [x, wv[i]])) h'' s.heap.objs.size (.tup [x, wv[i]]) :=
      ⟨by show 2 ≤ sizeLine; decide, [e.key, e.val], .cons rx (.cons ry' .nil), ⟨_, hT2, rfl, _, rfl⟩⟩
    have I1 : Inv X pins σ (upd H s.heap.objs.size (.tup [x, wv[i]])) { s with heap := h'' } :=
      I.turnedNew (t' := s.toks) (ch := [it]) (fun b o hb q => (sb.2 b (by simpa using hb)).trans (hk b o (by simpa using hb) q)) hf (Nat.le_refl _) new
    refine ⟨.ref s.heap.objs.size, _, I1, rfl, ⟨_, x, _, hkx, List.getElem?_eq_getElem (by omega), rfl, I.hok.fresh (Nat.le_refl _), rfl⟩, ⟨_, _, he'⟩, fun b hb => ?_⟩
    have e : b = it := by simpa using hb
    rw [e, upd_ne (Nat.ne_of_lt hlt)]
    exact (hf it (by simp)).1
  done := by
    intro X hP hw hK hc i pins s σ H E I hf st hg
    subst hP hw hK
    obtain ⟨hd, hi⟩ := hg
    obtain ⟨f0, f1, f2, f3, f4, f5⟩ := hf it (by simp)
    have hgd := frz_get I hd
    obtain ⟨ok, ov, he⟩ := st
    exact wpAny_pyNext_items_end_raw (I.ok.hd hc) he ⟨od, hgd, hx, hod⟩ (by rw [size_at hv]; exact hi) fun h' eb => ⟨rfl, I.turned (t' := s.toks) (fun b o hb q => eb b o hb q) f0 f1 f3 f4 f5⟩
  self := fun A i s Q E st h => let ⟨_, _, e⟩ := st; PySem.W.kcp_self e h
end
end Fx
end
section
set_option linter.all false
set_option Elab.async false
set_option maxRecDepth 100000
set_option maxHeartbeats 4000000
/-! What is walked; targets; comprehensions. -/
namespace Fx
open PySem PySem.Spec L2
variable {T : Nm} {W : WX} {X : Cx} {σ : St} {M : Lv}

/-! ### what a loop walks -/
/-- J walks the data ds, as long as the source S is live -/
def ItOk (T : Nm) (J : It) (S : Lv) (ds : List D) : Prop := ∀ F H L i, Reps T F H (S ++ L) → (ds.length ≤ i → J.stop i H) ∧ ∀ d, ds[i]? = some d → J.go i H ∧ ∀ x H', J.yld i H x H' → ∃ F', Reps T F' H' ((.val d, x) :: (S ++ L))
theorem ItOk.stop {J : It} {S : Lv} {ds : List D} (h : ItOk T J S ds) {F H : Hp} {M : Lv} {ρ : Env} {i : Nat} (cf : Cf T F H (S ++ M) ρ σ) (hi : ds.length ≤ i) : J.stop i H := by
  obtain ⟨L, sl, rp⟩ := cf
  rw [List.append_assoc] at rp
  exact (h F H _ i rp).1 hi
theorem ItOk.go {J : It} {S : Lv} {ds : List D} (h : ItOk T J S ds) {F H : Hp} {M : Lv} {ρ : Env} {i : Nat} {d : D} (cf : Cf T F H (S ++ M) ρ σ) (hi : ds[i]? = some d) : J.go i H ∧ ∀ x H', J.yld i H x H' → ∃ F', Cf T F' H' ((.val d, x) :: (S ++ M)) ρ σ := by
  obtain ⟨L, sl, rp⟩ := cf
  rw [List.append_assoc] at rp
  obtain ⟨g, y⟩ := (h F H _ i rp).2 d hi
  refine ⟨g, fun x H' e => ?_⟩
  obtain ⟨F', rp'⟩ := y x H' e
  exact ⟨F', L, sl, by rw [List.cons_append, List.append_assoc]; exact rp'⟩
def tIt (T : Nm) (W : WX) (m : Env → Res (List D)) : TI := fun σ H R => ∃ F M ρ, Cf T F H M ρ σ ∧ Out T W σ M (m ρ) fun ds ρ' => ∀ J S F' H', ItOk T J S ds → Cf T F' H' (S ++ M) ρ' σ → R J H'
theorem _root_.L2.PI.imp {X : Cx} {tg e : Expr} {t t' : TI} (h : PI X tg e t) (k : ∀ σ H R, t' σ H R → t σ H R) : PI X tg e t' := ⟨fun pins s σ H R I q => h.run pins s σ H R I (k σ H R q)⟩
theorem iter_any {tg : Expr} {pins : List (Addr × Obj)} {σ : St} {H1 : Hp} {s1 : Shared} {a : Addr} {R : It → Hp → Prop} (I1 : Inv X pins σ H1 s1)
    (q1 : ((∃ xs, SqL X.K H1 a xs) ∧ R (Itl X.K a) H1) ∨ ((∃ xs, SqT X.K H1 a xs) ∧ R (Itt X.K a) H1) ∨ ∃ lo hi : Int, H1 a = some (.rng lo hi) ∧ (-(2 ^ 62) ≤ lo ∧ lo < 2 ^ 62 ∧ -(2 ^ 62) ≤ hi ∧ hi < 2 ^ 62) ∧ R (Itr lo (hi - lo).toNat) H1) :
    wpAny (model X.prog X.w) X.A (pyIter (.ref a)) (PIE X pins σ tg R) X.xe s1 := by
  obtain ⟨⟨xs, hq⟩, q⟩ | ⟨⟨xs, hq⟩, q⟩ | ⟨lo, hi, hq, ⟨b1, b2, b3, b4⟩, q⟩ := q1
  · obtain ⟨its, rv, p, hz⟩ := I1.list hq
    refine wpAny_pyIter_list p.isList ?_
    refine ⟨s1.heap.objs.size, [s1.heap.objs.size], _, _, H1, rfl, I1.kept (t' := s1.toks) fun b o e => Heap.get?_push_of_some _ e, turn_list a _, ⟨_, Heap.get?_push_size _ rfl, rfl, rfl⟩, fun b hb => ?_, q⟩
    have e : b = s1.heap.objs.size := by simpa using hb
    subst e
    exact I1.fpOk (Nat.le_refl _) (I1.hok.fresh (Nat.le_refl _))
  · obtain ⟨its, rv, p, hz⟩ := I1.tuple hq
    refine wpAny_pyIter_tuple (show s1.heap.IsTuple a its.toArray from p) ?_
    refine ⟨s1.heap.objs.size, [s1.heap.objs.size], _, _, H1, rfl, I1.kept (t' := s1.toks) fun b o e => Heap.get?_push_of_some _ e, turn_tuple a _, ⟨_, Heap.get?_push_size _ rfl, rfl, rfl⟩, fun b hb => ?_, q⟩
    have e : b = s1.heap.objs.size := by simpa using hb
    subst e
    exact I1.fpOk (Nat.le_refl _) (I1.hok.fresh (Nat.le_refl _))
  · obtain ⟨t, u, w, hr⟩ : ∃ t u v, s1.heap.get? a = some { cls := .type "range", data := .fields #[.int lo t, .int hi u, .int 1 v] } := I1.hok a _ hq
    refine wpAny_pyIter_range hr (small_one b1 b2 b3 b4) ?_
    refine ⟨s1.heap.objs.size, [s1.heap.objs.size], _, _, H1, rfl, I1.kept (t' := s1.toks) fun b o e => Heap.get?_push_of_some _ e, turn_range _ lo (hi - lo).toNat, ?_, fun b hb => ?_, q⟩
    · have e1 : lo + ((0 : Nat) : Int) * 1 = lo := by simp
      have e2 : (((hi - lo).toNat : Nat) : Int) - ((0 : Nat) : Int) = Builtin.Range.rangeSize lo hi 1 := by rw [rangeSize_one]; split <;> omega
      show IsRangeIter _ _ (lo + ((0 : Nat) : Int) * 1) ((((hi - lo).toNat : Nat) : Int) - ((0 : Nat) : Int)) 1
      rw [e1, e2]
      exact Heap.get?_push_size _ rfl
    · have e : b = s1.heap.objs.size := by simpa using hb
      subst e
      exact I1.fpOk (Nat.le_refl _) (I1.hok.fresh (Nat.le_refl _))
/-- a dict in hand is locked -/
theorem lock_at {pins : List (Addr × Obj)} {σ : St} {F H : Hp} {s : Shared} {a : Addr} {ks vs : List D} {M : Lv} {ρ : Env} (I : Inv X pins σ H s) (cf : Cf T F H ((.val (.dct ks vs), .ref a) :: M) ρ σ) :
    ∃ F' H' od ob kv wv en ep, Inv X pins σ H' s ∧ Cf T F' H' ((.lck od ob kv wv ks vs, .ref a) :: M) ρ σ ∧ (a == sysModules) = false ∧ s.heap.get? a = some od ∧ od.ExactDict ∧ od.data = .dict en ep ∧ Vals kv (en.toList.map (·.key)) ∧ Vals wv (en.toList.map (·.val)) := by
  obtain ⟨a', ob, e, rd, dr⟩ := cf.rp.dr
  cases e
  have key : ∃ F' H' od, Inv X pins σ H' s ∧ Cf T F' H' M ρ σ ∧ F' a = some (.frz od ob) ∧ DR T F' a ob ks vs := by
    rcases rd with rd | ⟨od, rd⟩
    · have mu : Mut (some ob) := by
        have := dr.dic
        cases ob <;> first | exact this | trivial
      obtain ⟨od, I1⟩ := I.lock (cf.sub _ _ rd) mu
      exact ⟨_, _, od, I1, cf.tail.lock rd dr.dic, upd_same, dr.sw (sw_upd rd dr.dic)⟩
    · exact ⟨F, H, od, I, cf.tail, rd, dr⟩
  obtain ⟨F', H', od, I1, cf1, hF, dr1⟩ := key
  have hH := cf1.sub _ _ hF
  obtain ⟨hs, hz, en, ep, hr, ⟨kv, hk1, hk2⟩, ⟨wv, hw1, hw2⟩⟩ := dr_raw I1 (.inr ⟨od, hH⟩) dr1
  obtain ⟨o', ho, hx, hd⟩ := hr
  have hg := frz_get I1 hH
  rw [hg] at ho
  cases ho
  exact ⟨F', H', od, ob, kv, wv, en, ep, I1, cf1.lck hF hk2 hw2, hs, hg, hx, hd, hk1, hw1⟩
theorem itok_keys {a : Addr} {od : Obj} {ob : HO} {kv wv : List V} {ks vs : List D} : ItOk T (ItK a od ob kv) [(.lck od ob kv wv ks vs, .ref a)] ks := by
  intro F H L i rp
  obtain ⟨h1, h2, h3⟩ := Reps.lckAt (L := L) rp
  refine ⟨fun hi => ⟨rp.sub _ _ h1, by rw [h2.len]; exact hi⟩, fun d hd => ?_⟩
  obtain ⟨v, e1, rv⟩ := h2.get hd
  refine ⟨⟨rp.sub _ _ h1, (List.getElem?_eq_some_iff.mp e1).1⟩, fun x H' y => ?_⟩
  obtain ⟨rfl, e2⟩ := y
  rw [e1] at e2
  cases e2
  exact ⟨F, rp.val rv⟩
theorem zip_get' {xs ys : List D} {i : Nat} {d : D} (h : (zipD xs ys)[i]? = some d) : ∃ x y, xs[i]? = some x ∧ ys[i]? = some y ∧ d = .tup [x, y] := by
  unfold zipD at h
  rw [List.getElem?_map] at h
  obtain ⟨p, h1, rfl⟩ := Option.map_eq_some_iff.mp h
  have := List.getElem?_zip_eq_some.mp h1
  exact ⟨p.1, p.2, this.1, this.2, rfl⟩
theorem itok_items {a : Addr} {od : Obj} {ob : HO} {kv wv : List V} {ks vs : List D} (hl : ks.length = vs.length) : ItOk T (ItP a od ob kv wv) [(.lck od ob kv wv ks vs, .ref a)] (zipD ks vs) := by
  intro F H L i rp
  obtain ⟨h1, h2, h3⟩ := Reps.lckAt (L := L) rp
  refine ⟨fun hi => ⟨rp.sub _ _ h1, by rw [h2.len]; unfold zipD at hi; simp at hi; omega⟩, fun d hd => ?_⟩
  obtain ⟨x, y, hx, hy, rfl⟩ := zip_get' hd
  obtain ⟨v, e1, rv⟩ := h2.get hx
  obtain ⟨w, e2, rw'⟩ := h3.get hy
  refine ⟨⟨rp.sub _ _ h1, (List.getElem?_eq_some_iff.mp e1).1⟩, fun z H' h => ?_⟩
  obtain ⟨p, v', w', e3, e4, rfl, np, rfl⟩ := h
  rw [e1] at e3
  rw [e2] at e4
  cases e3
  cases e4
  obtain ⟨rp', sm⟩ := Reps.newF (o := .tup [v, w]) rp np
  exact ⟨_, rp'.val (.tup (.inl (.inl upd_same)) (.cons (rv.mono sm) (.cons (rw'.mono sm) .nil)))⟩
theorem itok_tup {a : Addr} {ds : List D} : ItOk T (Itt T.K a) [(.val (.tup ds), .ref a)] ds := by
  intro F H L i rp
  have r := rp.rp
  cases r with
  | @tup _ xs _ t r =>
    have t' := same_sqT rp.sub t
    refine ⟨fun hi => ⟨xs, t', by rw [r.len]; exact hi⟩, fun d hd => ?_⟩
    obtain ⟨v, e, rv⟩ := r.get hd
    refine ⟨⟨xs, v, t', e⟩, fun x H' y => ?_⟩
    obtain ⟨e1, e2⟩ := y
    subst e1
    have e3 := e2 xs t'
    rw [e] at e3
    cases e3
    exact ⟨F, rp.val rv⟩
theorem itok_lst {a : Addr} {ds : List D} : ItOk T (Itl T.K a) [(.val (.lst ds), .ref a)] ds := by
  intro F H L i rp
  have r := rp.rp
  cases r with
  | @lst _ xs _ t r =>
    have t' : SqL T.K H a xs := same_sqL rp.sub t
    refine ⟨fun hi => ⟨xs, t', by rw [r.len]; exact hi⟩, fun d hd => ?_⟩
    obtain ⟨v, e, rv⟩ := r.get hd
    refine ⟨⟨xs, v, t', e⟩, fun x H' y => ?_⟩
    obtain ⟨e1, e2⟩ := y
    subst e1
    have e3 := e2 xs t'
    rw [e] at e3
    cases e3
    exact ⟨F, rp.val rv⟩
theorem itok_rng {lo hi : Int} : ItOk T (Itr lo (hi - lo).toNat) [] (rngL lo hi) := by
  intro F H L i rp
  have hl : (rngL lo hi).length = (hi - lo).toNat := by unfold rngL; simp
  refine ⟨fun h => by rw [hl] at h; exact h, fun d hd => ?_⟩
  have hi' : i < (hi - lo).toNat := by have := (List.getElem?_eq_some_iff.mp hd).1; rw [hl] at this; exact this
  have ed : d = .int (lo + (i : Int)) := by
    unfold rngL at hd
    rw [List.getElem?_map, List.getElem?_range hi'] at hd
    exact (Option.some.inj hd).symm
  subst ed
  refine ⟨hi', fun x H' y => ?_⟩
  obtain ⟨e1, e2⟩ := y
  subst e1 e2
  exact ⟨F, rp.val (.int _)⟩
theorem pi_seqF {tg e : Expr} {m : Env → Res D} (hK : KW X T) (h : PE X e (tD T W m)) : PI X tg e (tIt T W fun ρ => (m ρ).bind fun d ρ => match d with
    | .tup ds => .ok ds ρ
    | .lst ds => .ok ds ρ
    | .rng lo hi => if rngOk lo hi = true then .ok (rngL lo hi) ρ else .stuck
    | .dct ks _ => .ok ks ρ
    | _ => .stuck) := by
  refine ⟨fun pins s σ H R I q => ?_⟩
  obtain ⟨F, M, ρ, cf, q⟩ := q
  refine thn (h.run pins s σ H (fun v1 H1 => ∃ d ρ1 F1, Cf T F1 H1 ((.val d, v1) :: M) ρ1 σ ∧ Out T W σ M (match d with
    | .tup ds => .ok ds ρ1
    | .lst ds => .ok ds ρ1
    | .rng lo hi => if rngOk lo hi = true then .ok (rngL lo hi) ρ1 else .stuck
    | .dct ks _ => .ok ks ρ1
    | _ => .stuck) fun ds ρ' => ∀ J S F' H', ItOk T J S ds → Cf T F' H' (S ++ M) ρ' σ → R J H') I ⟨F, M, ρ, cf, (Out.bind q).imp fun d ρ1 q1 v1 F1 H1 cf1 => ⟨d, ρ1, F1, cf1, q1⟩⟩) fun v s1 ⟨x, H1, I1, r1, d, ρ1, F1, cf1, q1⟩ => ?_
  cases d with
  | tup ds =>
    obtain ⟨a, rfl⟩ : ∃ a, x = .ref a := by have r := cf1.rp; cases r; exact ⟨_, rfl⟩
    cases r1
    refine iter_any I1 (.inr (.inl ⟨?_, q1 _ _ F1 H1 (by rw [hK.1]; exact itok_tup) cf1⟩))
    have r := cf1.rp
    cases r with | tup t r => exact ⟨_, by rw [hK.1]; exact same_sqT cf1.sub t⟩
  | lst ds =>
    obtain ⟨a, rfl⟩ : ∃ a, x = .ref a := by have r := cf1.rp; cases r; exact ⟨_, rfl⟩
    cases r1
    refine iter_any I1 (.inl ⟨?_, q1 _ _ F1 H1 (by rw [hK.1]; exact itok_lst) cf1⟩)
    have r := cf1.rp
    cases r with | lst t r => exact ⟨_, by rw [hK.1]; exact same_sqL cf1.sub t⟩
  | rng lo hi =>
    dsimp only at q1
    split at q1
    · rename_i c
      have r := cf1.rp
      cases r with
      | @rng a _ _ t =>
        cases r1
        exact iter_any I1 (.inr (.inr ⟨lo, hi, cf1.sub _ _ t, rngOk_ok c, q1 _ [] F1 H1 itok_rng cf1.tail⟩))
    · exact q1.elim
  | dct ks vs =>
    obtain ⟨a, rfl⟩ : ∃ a, x = .ref a := by have r := cf1.rp; cases r <;> exact ⟨_, rfl⟩
    cases r1
    obtain ⟨F2, H2, od, ob, kv, wv, en, ep, I2, cf2, hs, hg, hx, hd, hk, hw⟩ := lock_at I1 cf1
    refine iter_keys hs hg hx hd (pi_one (tk := s1.toks) I2 _ (turn_dkeys (ob := ob) _ hd hk) ⟨_, Heap.get?_push_size _ rfl, rfl, ?_⟩ (q1 _ _ F2 H2 itok_keys cf2))
    rw [size_at hk]
    rfl
  | _ => exact q1.elim
/-- d.items() -/
theorem pi_itemsF {e : Expr} {m : Env → Res D} {elts : List Expr} {kk : Nat} {tpos apos cpos : Pos} (h : PE X e (tD T W m)) (hb : Ex.isCall e = false) (hline : (apos.endLine == cpos.line) = true) :
    PI X (.Tuple elts kk tpos) (.Call (.Attribute e "items" apos) [] [] cpos) (tIt T W fun ρ => (m ρ).bind fun d ρ => match d with
      | .dct ks vs => .ok (zipD ks vs) ρ
      | _ => .stuck) := by
  refine ⟨fun pins s σ H R I q => ?_⟩
  obtain ⟨F, M, ρ, cf, q⟩ := q
  refine wpAny_Call_method (T := "dict") (id := "dict.items") (att_plain hb) rfl hline PySem.F.plainAttrs_dict PySem.F.slot_dict_items PySem.F.type_dict_items (thn (h.run pins s σ H (fun v1 H1 => ∃ d ρ1 F1, Cf T F1 H1 ((.val d, v1) :: M) ρ1 σ ∧ Out T W σ M (match d with
    | .dct ks vs => .ok (zipD ks vs) ρ1
    | _ => .stuck) fun ds ρ' => ∀ J S F' H', ItOk T J S ds → Cf T F' H' (S ++ M) ρ' σ → R J H') I ⟨F, M, ρ, cf, (Out.bind q).imp fun d ρ1 q1 v1 F1 H1 cf1 => ⟨d, ρ1, F1, cf1, q1⟩⟩) fun v s1 ⟨x, H1, I1, r1, d, ρ1, F1, cf1, q1⟩ => ?_)
  cases d with
  | dct ks vs =>
    obtain ⟨a, rfl⟩ : ∃ a, x = .ref a := by have r := cf1.rp; cases r <;> exact ⟨_, rfl⟩
    cases r1
    have hl : ks.length = vs.length := by
      obtain ⟨_, _, _, _, dr⟩ := cf1.rp.dr
      exact dr_len dr
    obtain ⟨F2, H2, od, ob, kv, wv, en, ep, I2, cf2, hs, hg, hx, hd, hk, hw⟩ := lock_at I1 cf1
    refine ⟨⟨od, hg, hx.1⟩, ?_, ?_⟩
    · intro b e; cases e; exact ⟨od, hg, hx.2.1⟩
    have I3 : Inv X pins σ H2 { s1 with heap := s1.heap.push { cls := .type "dict_items", data := .fields #[.ref a] } } := I2.kept (t' := s1.toks) fun b ob q => Heap.get?_push_of_some _ q
    have fin : wpAny (model X.prog X.w) X.A (pyIter (.ref s1.heap.objs.size)) (PIE X pins σ (.Tuple elts kk tpos) R) X.xe { s1 with heap := s1.heap.push { cls := .type "dict_items", data := .fields #[.ref a] } } := by
      refine wpAny_pyIter_items_raw (d := a) ⟨_, Heap.get?_push_size _ rfl, rfl, rfl⟩ ⟨od, Heap.get?_push_of_some _ hg, hx, hd⟩ (pi_one (tk := s1.toks) I3 _ (turn_ditems (ob := ob) _ hx hd hk hw) ⟨.none, .none, ?_⟩ (q1 _ _ F2 H2 (itok_items hl) cf2))
      exact Heap.get?_push_size _ rfl
    show wpAny _ _ (callWith cpos (.builtin "dict.items") [.ref a] [] []) _ X.xe s1
    exact method_meetsIn PySem.F.slot_dict_items PySem.F.entry_dict_items rfl (PySem.evalArgs_none ⟨rfl, ⟨od, hg, hx.1⟩, PySem.F.args_dict_items_1 _, _, meets_dict_items_raw (prog := X.prog) (w := X.w) a hs, ⟨en, ep, od, hg, hx, hd⟩, fin⟩)
  | _ => exact q1.elim

/-! ### zip, enumerate -/
theorem zip_get {xs ys : List D} {i : Nat} {d : D} (h : (zipD xs ys)[i]? = some d) : ∃ x y, xs[i]? = some x ∧ ys[i]? = some y ∧ d = .tup [x, y] := by
  unfold zipD at h
  rw [List.getElem?_map] at h
  obtain ⟨p, h1, rfl⟩ := Option.map_eq_some_iff.mp h
  rw [List.getElem?_zip_eq_some] at h1
  exact ⟨p.1, p.2, h1.1, h1.2, rfl⟩
theorem zip_len {xs ys : List D} : (zipD xs ys).length = min xs.length ys.length := by
  unfold zipD
  rw [List.length_map, List.length_zip]
theorem itok_zipT {a b : Addr} {xs ys : List D} : ItOk T (RZ.ItzT T.K a b) [(.val (.tup xs), .ref a), (.val (.tup ys), .ref b)] (zipD xs ys) := by
  intro F H L i rp
  have r1 := rp.rp
  have r2 := rp.tail.rp
  cases r1 with
  | @tup _ vs _ t1 q1 =>
    cases r2 with
    | @tup _ ws _ t2 q2 =>
      have t1' := same_sqT rp.sub t1
      have t2' := same_sqT rp.sub t2
      refine ⟨fun hi => ⟨vs, ws, t1', t2', by rw [q1.len, q2.len]; rw [zip_len] at hi; omega⟩, fun d hd => ?_⟩
      obtain ⟨x, y, hx, hy, rfl⟩ := zip_get hd
      obtain ⟨v, e1, rv⟩ := q1.get hx
      obtain ⟨w, e2, rw'⟩ := q2.get hy
      refine ⟨⟨vs, ws, v, w, t1', t2', e1, e2⟩, fun z H' h => ?_⟩
      obtain ⟨p, v', w', rfl, np, rfl, h1, h2⟩ := h
      have e3 := h1 vs t1'
      have e4 := h2 ws t2'
      rw [e1] at e3
      rw [e2] at e4
      cases e3
      cases e4
      obtain ⟨rp', sm⟩ := Reps.newF (o := .tup [v, w]) rp np
      exact ⟨_, rp'.val (.tup (.inl (.inl upd_same)) (.cons (rv.mono sm) (.cons (rw'.mono sm) .nil)))⟩
theorem itok_zipL {a b : Addr} {xs ys : List D} : ItOk T (Itz T.K a b) [(.val (.lst xs), .ref a), (.val (.lst ys), .ref b)] (zipD xs ys) := by
  intro F H L i rp
  have r1 := rp.rp
  have r2 := rp.tail.rp
  cases r1 with
  | @lst _ vs _ t1 q1 =>
    cases r2 with
    | @lst _ ws _ t2 q2 =>
      have t1' : SqL T.K H a vs := same_sqL rp.sub t1
      have t2' : SqL T.K H b ws := same_sqL rp.sub t2
      refine ⟨fun hi => ⟨vs, ws, t1', t2', by rw [q1.len, q2.len]; rw [zip_len] at hi; omega⟩, fun d hd => ?_⟩
      obtain ⟨x, y, hx, hy, rfl⟩ := zip_get hd
      obtain ⟨v, e1, rv⟩ := q1.get hx
      obtain ⟨w, e2, rw'⟩ := q2.get hy
      refine ⟨⟨vs, ws, v, w, t1', t2', e1, e2⟩, fun z H' h => ?_⟩
      obtain ⟨p, v', w', rfl, np, rfl, h1, h2⟩ := h
      have e3 := h1 vs t1'
      have e4 := h2 ws t2'
      rw [e1] at e3
      rw [e2] at e4
      cases e3
      cases e4
      obtain ⟨rp', sm⟩ := Reps.newF (o := .tup [v, w]) rp np
      exact ⟨_, rp'.val (.tup (.inl (.inl upd_same)) (.cons (rv.mono sm) (.cons (rw'.mono sm) .nil)))⟩
theorem enum_get {ds : List D} {i : Nat} {d : D} (h : (enumD ds)[i]? = some d) : ∃ x, ds[i]? = some x ∧ d = .tup [.int i, x] := by
  unfold enumD at h
  rw [List.getElem?_map] at h
  obtain ⟨p, h1, rfl⟩ := Option.map_eq_some_iff.mp h
  rw [List.getElem?_zipIdx] at h1
  obtain ⟨x, h2, rfl⟩ := Option.map_eq_some_iff.mp h1
  exact ⟨x, h2, by simp⟩
theorem itok_enumL {a : Addr} {ds : List D} : ItOk T (Ite T.K a) [(.val (.lst ds), .ref a)] (enumD ds) := by
  intro F H L i rp
  have r1 := rp.rp
  cases r1 with
  | @lst _ vs _ t1 q1 =>
    have t1' : SqL T.K H a vs := same_sqL rp.sub t1
    refine ⟨fun hi => ⟨vs, t1', by rw [q1.len]; unfold enumD at hi; simpa using hi⟩, fun d hd => ?_⟩
    obtain ⟨x, hx, rfl⟩ := enum_get hd
    obtain ⟨v, e1, rv⟩ := q1.get hx
    refine ⟨⟨vs, v, t1', e1⟩, fun z H' h => ?_⟩
    obtain ⟨p, v', rfl, np, rfl, h1⟩ := h
    have e3 := h1 vs t1'
    rw [e1] at e3
    cases e3
    obtain ⟨rp', sm⟩ := Reps.newF (o := .tup [.int (i : Nat), v]) rp np
    exact ⟨_, rp'.val (.tup (.inl (.inl upd_same)) (.cons (.int _) (.cons (rv.mono sm) .nil)))⟩
theorem pi_zipF {x : Str} {e e2 : Expr} {p pos tpos : Pos} {elts : List Expr} {kk : Nat} {ma mb : Env → Res D} (hK : KW X T) (hg : Gl X "zip") (hm : X.mg "zip" = none) (h1 : PE X e (tD T W ma)) (h2 : PE X e2 (tD T W mb)) (s1 : Ex.star e = false) (s2 : Ex.star e2 = false) :
    PI X (.Tuple elts kk tpos) (.Call (.Name "zip" p) [e, e2] [] pos) (tIt T W fun ρ => (ma ρ).bind fun x ρ => (mb ρ).bind fun y ρ => match x, y with
      | .lst xs, .lst ys => .ok (zipD xs ys) ρ
      | .tup xs, .tup ys => .ok (zipD xs ys) ρ
      | _, _ => .stuck) := by
  refine (RZ.pi_zipA (elts := elts) (kk := kk) (tpos := tpos) hg hm (pa_cons h1 (pa_cons h2 pa_nil (star_cons [] _ s2)) (star_cons [e2] _ s1)) (star_cons [e2] _ s1) (star_plain [e2] (by simp [s2]))).imp fun σ H R q => ?_
  obtain ⟨F, M, ρ, cf, q⟩ := q
  refine ⟨F, M, ρ, cf, (Out.bind q).imp fun dx ρ1 q1 v1 F1 H1 cf1 => ?_⟩
  refine ⟨F1, (.val dx, v1) :: M, ρ1, cf1, (Out.wkL (P := [_]) (Out.bind q1)).imp fun dy ρ2 q2 v2 F2 H2 cf2 => ?_⟩
  have ry := cf2.rp
  have rx := cf2.tail.rp
  cases dx with
  | lst xs =>
    cases dy with
    | lst ys =>
      cases rx with
      | @lst a vs _ t1 r1 =>
        cases ry with
        | @lst b ws _ t2 r2 =>
          refine ⟨a, b, vs, ws, rfl, .inl ⟨by rw [hK.1]; exact same_sqL cf2.sub t1, by rw [hK.1]; exact same_sqL cf2.sub t2, ?_⟩⟩
          rw [hK.1]
          exact q2 _ _ F2 H2 itok_zipL cf2.swap
    | _ => exact q2.elim
  | tup xs =>
    cases dy with
    | tup ys =>
      cases rx with
      | @tup a vs _ t1 r1 =>
        cases ry with
        | @tup b ws _ t2 r2 =>
          refine ⟨a, b, vs, ws, rfl, .inr ⟨by rw [hK.1]; exact same_sqT cf2.sub t1, by rw [hK.1]; exact same_sqT cf2.sub t2, ?_⟩⟩
          rw [hK.1]
          exact q2 _ _ F2 H2 itok_zipT cf2.swap
    | _ => exact q2.elim
  | _ => exact q2.elim
theorem itok_enumT {a : Addr} {ds : List D} : ItOk T (IteT T.K a) [(.val (.tup ds), .ref a)] (enumD ds) := by
  intro F H L i rp
  have r1 := rp.rp
  cases r1 with
  | @tup _ vs _ t1 q1 =>
    have t1' : SqT T.K H a vs := same_sqT rp.sub t1
    refine ⟨fun hi => ⟨vs, t1', by rw [q1.len]; unfold enumD at hi; simpa using hi⟩, fun d hd => ?_⟩
    obtain ⟨x, hx, rfl⟩ := enum_get hd
    obtain ⟨v, e1, rv⟩ := q1.get hx
    refine ⟨⟨vs, v, t1', e1⟩, fun z H' h => ?_⟩
    obtain ⟨p, v', rfl, np, rfl, h1⟩ := h
    have e3 := h1 vs t1'
    rw [e1] at e3
    cases e3
    obtain ⟨rp', sm⟩ := Reps.newF (o := .tup [.int (i : Nat), v]) rp np
    exact ⟨_, rp'.val (.tup (.inl (.inl upd_same)) (.cons (.int _) (.cons (rv.mono sm) .nil)))⟩
theorem pi_enumF {e : Expr} {p pos tpos : Pos} {elts : List Expr} {kk : Nat} {m : Env → Res D} (hK : KW X T) (hg : Gl X "enumerate") (hm : X.mg "enumerate" = none) (h1 : PE X e (tD T W m)) (s1 : Ex.star e = false) :
    PI X (.Tuple elts kk tpos) (.Call (.Name "enumerate" p) [e] [] pos) (tIt T W fun ρ => (m ρ).bind fun d ρ => match d with
      | .lst ds => .ok (enumD ds) ρ
      | .tup ds => .ok (enumD ds) ρ
      | _ => .stuck) := by
  refine (pi_enumA (elts := elts) (kk := kk) (tpos := tpos) hg hm (pa_cons h1 pa_nil (star_cons [] _ s1)) (star_cons [] _ s1)).imp fun σ H R q => ?_
  obtain ⟨F, M, ρ, cf, q⟩ := q
  refine ⟨F, M, ρ, cf, (Out.bind q).imp fun d ρ1 q1 v1 F1 H1 cf1 => ?_⟩
  have r := cf1.rp
  cases d with
  | lst ds =>
    cases r with
    | @lst a vs _ t1 r1 =>
      refine ⟨a, vs, rfl, .inl ⟨by rw [hK.1]; exact same_sqL cf1.sub t1, ?_⟩⟩
      rw [hK.1]
      exact q1 _ _ F1 H1 itok_enumL cf1
  | tup ds =>
    cases r with
    | @tup a vs _ t1 r1 =>
      refine ⟨a, vs, rfl, .inr ⟨by rw [hK.1]; exact same_sqT cf1.sub t1, ?_⟩⟩
      rw [hK.1]
      exact q1 _ _ F1 H1 itok_enumT cf1
  | _ => exact q1.elim

/-! ### targets -/
def Tg.slots : Tg → List Nat
  | .one i => [i]
  | .many is => is
/-- the names one behind another -/
def gNames : List Nat → TGs
  | [] => gNil
  | i :: is => gCons (gName i) (gNames is)
theorem store_many {F H : Hp} : ∀ {is : List Nat} {ds : List D} {vs : List V} {M : Lv} {ρ : Env} {σ : St} (Q : St → Hp → Prop), Cf T F H M ρ σ → RpL T F vs ds → is.length = ds.length → (∀ i ∈ is, i < σ.length) →
    (∀ σ2, Cf T F H M ((is.zip ds).foldl (fun ρ p => ρ.set p.1 (some (.val p.2))) ρ) σ2 → σ2.length = σ.length → (∀ j, j ∉ is → σ2[j]? = σ[j]?) → Q σ2 H) → gNames is vs σ H Q
  | [], [], vs, M, ρ, σ, Q, cf, r, _, _, k => by
    cases r
    exact ⟨rfl, k σ cf rfl fun _ _ => rfl⟩
  | i :: is, d :: ds, _, M, ρ, σ, Q, cf, r, l, hi, k => by
    cases r with
    | @cons v vs _ _ r1 r2 =>
      refine ⟨v, vs, rfl, ?_⟩
      have hi0 := hi i (by simp)
      have cf1 := Cf.into (i := i) (cf.val r1) hi0
      refine store_many (is := is) (ds := ds) Q cf1 r2 (by simpa using l) (fun j hj => by rw [List.length_set]; exact hi j (by simp [hj])) fun σ2 cf2 l2 e2 => ?_
      refine k σ2 cf2 (by rw [l2, List.length_set]) fun j hj => ?_
      simp only [List.mem_cons, not_or] at hj
      rw [e2 j hj.2, List.getElem?_set_ne (Ne.symm hj.1)]
  | [], _ :: _, _, _, _, _, _, _, _, l, _, _ => by simp at l
  | _ :: _, [], _, _, _, _, _, _, _, l, _, _ => by simp at l
def Tg.rd (K : PySem.W.Frag) : Tg → TG
  | .one i => gName i
  | .many is => gTup K is.length (gNames is)
/-- its slots are there -/
def TgIn (n : Nat) (tg : Tg) : Prop := ∀ i ∈ tg.slots, i < n
theorem tg_ok {K : PySem.W.Frag} {n : Nat} (hK : K = T.K) {tg : Tg} (hi : TgIn n tg) {F H : Hp} {ρ ρ1 : Env} {x : V} {d : D} {Q : St → Hp → Prop} (hn : σ.length = n) (cf : Cf T F H ((.val d, x) :: M) ρ σ) (e : setTg tg d ρ = some ρ1)
    (k : ∀ σ2, Cf T F H M ρ1 σ2 → σ2.length = σ.length → (∀ j, j ∉ tg.slots → σ2[j]? = σ[j]?) → Q σ2 H) : tg.rd K x σ H Q := by
  cases tg with
  | one i =>
    cases e
    have h0 : i < σ.length := by rw [hn]; exact hi i (by simp [Tg.slots])
    refine k _ (cf.into h0) (by simp) fun j hj => ?_
    have : j ≠ i := fun z => hj (by simp [Tg.slots, z])
    rw [List.getElem?_set_ne (Ne.symm this)]
  | many is =>
    cases d with
    | tup ds =>
      have e : (if is.length = ds.length then some ((is.zip ds).foldl (fun ρ p => ρ.set p.1 (some (R.val p.2))) ρ) else none) = some ρ1 := e
      split at e
      · rename_i l
        cases e
        have r := cf.rp
        cases r with
        | @tup a xs _ t r =>
          refine ⟨a, xs, rfl, by rw [hK]; exact same_sqT cf.sub t, by rw [r.len, l], ?_⟩
          exact store_many Q cf.tail r l (fun i hj => by rw [hn]; exact hi i hj) k
      · cases e
    | _ => cases e

theorem wipe_get {σ : St} : ∀ {vs : List Nat} {j : Nat}, j ∉ vs → (wipe σ vs)[j]? = σ[j]?
  | [], _, _ => rfl
  | v :: vs, j, h => by
    simp only [List.mem_cons, not_or] at h
    unfold wipe
    rw [List.getElem?_set_ne (fun z => h.1 z.symm), wipe_get h.2]
theorem wipe_none {σ : St} : ∀ {vs : List Nat} {j : Nat}, j ∈ vs → j < σ.length → (wipe σ vs)[j]? = some none
  | v :: vs, j, h, hl => by
    unfold wipe
    by_cases e : v = j
    · subst e; rw [List.getElem?_set_self (by rw [wipe_length]; exact hl)]
    · rw [List.getElem?_set_ne e]
      exact wipe_none (by rcases List.mem_cons.mp h with q | q; exact absurd q.symm e; exact q) hl
/-- equal outside the slots: equal when they are wiped -/
theorem wipe_eq {σ τ : St} {vs : List Nat} (hl : σ.length = τ.length) (h : ∀ j, j ∉ vs → σ[j]? = τ[j]?) : wipe σ vs = wipe τ vs := by
  apply List.ext_getElem?
  intro j
  by_cases hj : j ∈ vs
  · by_cases hlt : j < σ.length
    · rw [wipe_none hj hlt, wipe_none hj (by rw [← hl]; exact hlt)]
    · rw [List.getElem?_eq_none (by rw [wipe_length]; omega), List.getElem?_eq_none (by rw [wipe_length, ← hl]; omega)]
  · rw [wipe_get hj, wipe_get hj, h j hj]
theorem wipe_wipe {σ : St} {vs ws : List Nat} (h : ∀ j ∈ ws, j ∈ vs) : wipe (wipe σ ws) vs = wipe σ vs :=
  wipe_eq (by rw [wipe_length]) fun j hj => wipe_get fun z => hj (h j z)
theorem wipeE_at {ρ : Env} : ∀ {vs : List Nat} {j : Nat}, j ∉ vs → (wipeE ρ vs)[j]? = ρ[j]?
  | [], _, _ => rfl
  | v :: vs, j, h => by
    simp only [List.mem_cons, not_or] at h
    unfold wipeE
    rw [List.getElem?_set_ne (fun z => h.1 z.symm), wipeE_at h.2]
theorem restE_set {ρ0 ρ : Env} {i : Nat} {x : Option R} : ∀ {vs : List Nat}, i ∉ vs → restE ρ0 (ρ.set i x) vs = (restE ρ0 ρ vs).set i x
  | [], _ => rfl
  | v :: vs, h => by
    simp only [List.mem_cons, not_or] at h
    unfold restE
    rw [restE_set h.2, List.set_comm _ _ (fun z => h.1 z)]
/-- the own names' values are put aside, and come back -/
theorem Cf.aside {F H : Hp} {ρ : Env} : ∀ {vs : List Nat}, vs.Nodup → (∀ i ∈ vs, i < σ.length) → Cf T F H M ρ σ → ∃ S : Lv, Cf T F H (S ++ M) (wipeE ρ vs) (wipe σ vs) ∧
    ∀ F' H' M' ρ', Cf T F' H' (S ++ M') ρ' (wipe σ vs) → Cf T F' H' M' (restE ρ ρ' vs) σ
  | [], _, _, cf => ⟨[], cf, fun F' H' M' ρ' q => q⟩
  | i :: vs, nd, hi, cf => by
    simp only [List.nodup_cons] at nd
    obtain ⟨S, c1, back⟩ := Cf.aside (vs := vs) nd.2 (fun j hj => hi j (by simp [hj])) cf
    have hlt : i < σ.length := hi i (by simp)
    cases z : ρ.at i with
    | none =>
      have c2 := Cf.forget (i := i) c1 none
      refine ⟨S, c2, fun F' H' M' ρ' q => ?_⟩
      have q1 := Cf.forget (i := i) q (σ[i])
      have e1 : (((wipe σ vs).set i none).set i (σ[i])) = wipe σ vs := by
        rw [List.set_set]
        refine set_same ?_
        rw [wipe_get nd.1, List.getElem?_eq_getElem hlt]
      rw [show wipe σ (i :: vs) = (wipe σ vs).set i none from rfl, e1] at q1
      have q2 := back F' H' M' _ q1
      rw [restE_set nd.1] at q2
      show Cf T F' H' M' ((restE ρ ρ' vs).set i (ρ.at i)) σ
      rw [z]
      exact q2
    | some r =>
      have ez := at_get z
      have ez2 : (wipeE ρ vs)[i]? = some (some r) := by rw [wipeE_at nd.1]; exact ez
      obtain ⟨v, ev, c2⟩ := Cf.out (M := S ++ M) c1 ez2
      have c3 := Cf.forget (i := i) c2 none
      rw [List.set_set] at c3
      refine ⟨(r, v) :: S, c3, fun F' H' M' ρ' q => ?_⟩
      have q1 := Cf.into (i := i) (M := S ++ M') q (by rw [wipe_length]; exact hlt)
      have e1 : ((wipe σ (i :: vs)).set i (some v)) = wipe σ vs := by
        show (((wipe σ vs).set i none).set i (some v)) = _
        rw [List.set_set]
        exact set_same ev
      rw [e1] at q1
      have q2 := back F' H' M' _ q1
      rw [restE_set nd.1] at q2
      show Cf T F' H' M' ((restE ρ ρ' vs).set i (ρ.at i)) σ
      rw [z]
      exact q2
theorem Cf.wipeAll {F H : Hp} {ρ : Env} (cf : Cf T F H M ρ σ) : ∀ vs : List Nat, Cf T F H M (wipeE ρ vs) (wipe σ vs)
  | [] => cf
  | v :: vs => (Cf.wipeAll cf vs).forget none

/-! ### comprehensions -/
abbrev W0 : WX := fun _ _ _ _ => False
theorem Out.of_calm {α : Type} {x : Res α} {K : α → Env → Prop} (h : Out T W σ M x.calm K) : ∃ a ρ, x = .ok a ρ ∧ K a ρ := by
  cases x with
  | ok a ρ => exact ⟨a, ρ, rfl, h⟩
  | exc c d ρ => exact h.elim
  | stuck => exact h.elim
theorem bind_ok {α β : Type} {x : Res α} {k : α → Env → Res β} {b : β} {ρ : Env} (h : x.bind k = .ok b ρ) : ∃ a ρ1, x = .ok a ρ1 ∧ k a ρ1 = .ok b ρ := by
  cases x with
  | ok a ρ1 => exact ⟨a, ρ1, rfl, h⟩
  | exc c d ρ => cases h
  | stuck => cases h
theorem _root_.L2.PE.impL {X : Cx} {e : Expr} {t t' : TE} (h : PE X e t) (k : ∀ σ H Q, σ.length = X.N.length → t' σ H Q → t σ H Q) : PE X e t' := ⟨fun pins s σ H Q I q => h.run pins s σ H Q I (k σ H Q I.len q)⟩
theorem perm_rot {α : Type} {A B C : List α} : (A ++ (B ++ C)).Perm (B ++ (A ++ C)) := by
  rw [← List.append_assoc, ← List.append_assoc]
  exact List.Perm.append_right _ List.perm_append_comm
theorem perm_in {α : Type} {x : α} {A B C : List α} : (x :: (A ++ (B ++ C))).Perm (B ++ (x :: (A ++ C))) := (List.Perm.cons _ perm_rot).trans perm_out.symm
theorem perm_in2 {α : Type} {x : α} {A B : List α} : (x :: (A ++ B)).Perm (A ++ (x :: B)) := perm_out.symm
/-- a turn's end: one more item -/
theorem Cf.push {F H : Hp} {ρ : Env} {D : Addr} {acc : List Fx.D} {x : Fx.D} {v : V} (cf : Cf T F H ((.val x, v) :: (.lst acc, .ref D) :: M) ρ σ) : ∃ av, H D = some (.lst av) ∧ av.length = acc.length ∧ Cf T F (upd H D (.lst (av ++ [v]))) ((.lst (acc ++ [x]), .ref D) :: M) ρ σ := by
  have r := cf.rp
  have c1 := cf.swap
  obtain ⟨av, e, rr⟩ := c1.lstAt
  exact ⟨av, e, rr.len, (c1.put (rr.app (.cons r .nil))).swap.tail⟩
/-- the invariant of a comprehension's turns -/
theorem lc_turns {own : List Nat} {it : Tg} {c : Env → Res Bool} {el : Env → Res D} {S Sv : Lv} {ds acc : List D} {ρ2 : Env} {J : It} {D : Addr} {Qd : Hp → Prop} {n : Nat} {τ : St} {K : PySem.W.Frag} (hK : K = T.K)
    (itk : ItOk T J S ds) (hn : τ.length = n) (hin : TgIn n it) (htg : ∀ i ∈ it.slots, i ∈ own) (hw : wipe τ own = τ) {F1 H1 : Hp} {ρ1 : Env} {acc1 : List Fx.D} (cf : Cf T F1 H1 ((.lst acc1, .ref D) :: (Sv ++ (S ++ M))) ρ1 τ)
    (e : compF own it c el ds ρ1 acc1 = .ok acc ρ2)
    (fin : ∀ F H, Cf T F H ((.lst acc, .ref D) :: (Sv ++ (S ++ M))) ρ2 τ → Qd H) :
    ∃ Wv : Nat → Nat → Hp → Prop, (∃ m, Wv 0 m H1) ∧ ∀ i m H, Wv i m H →
      (J.stop i H ∧ Qd H) ∨ (J.go i H ∧ ∃ Nx : Hp → Prop, (∀ H', Nx H' → ∃ m', m' < m ∧ Wv (i + 1) m' H') ∧ ∀ x H', J.yld i H x H' → (it.rd K) x τ H' fun σ2 H2 => wipe σ2 own = τ ∧ tT T W0 c σ2 H2 fun b H3 =>
        if b = true then tD T W0 el σ2 H3 fun y H4 => ∃ acc, H4 D = some (.lst acc) ∧ acc.length < sizeLine ∧ Nx (upd H4 D (.lst (acc ++ [y]))) else Nx H3) := by
  refine ⟨fun i m H => m = ds.length - i ∧ i ≤ ds.length ∧ ∃ F ρ a0, Cf T F H ((.lst a0, .ref D) :: (Sv ++ (S ++ M))) ρ τ ∧ compF own it c el (ds.drop i) ρ a0 = .ok acc ρ2, ⟨_, rfl, Nat.zero_le _, F1, ρ1, acc1, cf, e⟩, ?_⟩
  rintro i m H ⟨rfl, hi, F, ρ, a0, cf, e⟩
  by_cases hlt : i < ds.length
  · right
    rw [List.drop_eq_getElem_cons hlt] at e
    obtain ⟨g, y⟩ := itk.go (cf.permM perm_in) (List.getElem?_eq_getElem hlt)
    refine ⟨g, fun H' => ∃ F ρ a0, Cf T F H' ((.lst a0, .ref D) :: (Sv ++ (S ++ M))) ρ τ ∧ compF own it c el (ds.drop (i + 1)) ρ a0 = .ok acc ρ2, fun H' p => ⟨ds.length - (i + 1), by omega, rfl, hlt, p⟩, fun x H' yx => ?_⟩
    obtain ⟨F', cf'⟩ := y x H' yx
    have cf2 : Cf T F' H' ((.val ds[i], x) :: ((.lst a0, .ref D) :: (Sv ++ (S ++ M)))) ρ τ := cf'.permM (List.Perm.cons _ perm_in.symm)
    unfold compF at e
    cases es : setTg it ds[i] ρ with
    | none => rw [es] at e; cases e
    | some ρa =>
      rw [es] at e
      obtain ⟨b, ρb, ec, e⟩ := bind_ok e
      refine tg_ok hK hin hn cf2 es fun σ2 cfa l2 o2 => ?_
      have ew : wipe σ2 own = τ := (wipe_eq l2 fun j hj => o2 j fun z => hj (htg j z)).trans hw
      refine ⟨ew, F', _, ρa, cfa, ?_⟩
      rw [ec]
      intro F3 H3 cfb
      cases b with
      | true =>
        obtain ⟨xd, ρc, ee, e⟩ := bind_ok (show ((el ρb).bind _) = _ from e)
        split at e
        · rename_i hl
          rw [if_pos rfl]
          refine ⟨F3, _, ρb, cfb, ?_⟩
          rw [ee]
          intro v F4 H4 cf4
          obtain ⟨av, e4, l4, cf5⟩ := cf4.push
          refine ⟨av, e4, by rw [l4, ← line_eq]; exact hl, F4, wipeE ρc own, a0 ++ [xd], ?_, e⟩
          have c6 := cf5.wipeAll own
          rw [ew] at c6
          exact c6
        · cases e
      | false =>
        rw [if_neg Bool.false_ne_true]
        have c6 := cfb.wipeAll own
        rw [ew] at c6
        exact ⟨F3, wipeE ρb own, a0, c6, e⟩
  · left
    have ei : i = ds.length := by omega
    subst ei
    rw [List.drop_length] at e
    cases e
    exact ⟨itk.stop (cf.permM perm_in) (Nat.le_refl _), fin F H cf⟩
theorem lc_imp {K : PySem.W.Frag} {n : Nat} {own : List (Str × Nat)} {it : Tg} {src : Env → Res (List D)} {c : Env → Res Bool} {el : Env → Res D}
    (hK : K = T.K) (nd : (own.map (·.2)).Nodup) (hin : ∀ i ∈ own.map (·.2), i < n) (htg : ∀ i ∈ it.slots, i ∈ own.map (·.2)) {H : Hp} {Q : VK} (hl : σ.length = n)
    (q : (tM T W (fun ρ => (src ρ).bind fun ds ρ => ((compF (own.map (·.2)) it c el ds (wipeE ρ (own.map (·.2))) []).bind fun acc ρ' => .ok (.lst acc) (restE ρ ρ' (own.map (·.2)))).calm)) σ H Q) : tLc (tIt T W src) (it.rd K) (tT T W0 c) (tD T W0 el) (own.map (·.2)) σ H Q := by
  obtain ⟨F, M, ρ, cf, q⟩ := q
  refine ⟨F, M, ρ, cf, (Out.bind q).imp fun ds ρ1 q1 J S F1 H1 itk cf1 D nD => ?_⟩
  obtain ⟨r, ρ', e, k⟩ := Out.of_calm q1
  obtain ⟨acc, ρ2, e1, e2⟩ := bind_ok e
  cases e2
  obtain ⟨Sv, c2, back⟩ := cf1.aside nd (fun i hi => by rw [hl]; exact hin i hi)
  have c3 := c2.own nD .nil
  refine lc_turns (Qd := fun H => Q (.ref D) H) hK itk (by rw [wipe_length]; exact hl) (fun i hi => hin i (htg i hi)) htg (wipe_wipe fun _ h => h) c3 e1 fun F H cfe => ?_
  have c4 := back F H ((.lst acc, .ref D) :: (S ++ M)) ρ2 (cfe.permM perm_in2)
  exact k _ F H (Cf.dropL (P := S) (c4.permM perm_in2))
theorem pe_lcF {elt tg iter : Expr} {ifs : List Expr} {scope : Scope} {own : List (Str × Nat)} {pos : Pos} {it : Tg} {src : Env → Res (List D)} {c : Env → Res Bool} {el : Env → Res D}
    (hc : X.calm = true) (hK : KW X T) (hN : X.N.Nodup) (hi : PI X tg iter (tIt T W src)) (ok : BlkOk X.N X.env.scope scope own) (nd : (own.map (·.2)).Nodup) (hin : ∀ i ∈ own.map (·.2), i < X.N.length)
    (htg : ∀ i ∈ it.slots, i ∈ own.map (·.2))
    (hg : ∀ (s : Shared) (H : Hp) (C : Addr) (cl : List (Str × Addr)) (fp : List Addr), PG (X.blk s H scope (compEnvC scope cl C X.env) fp) tg (it.rd X.K)) (ht : ∀ (s : Shared) (H : Hp) (C : Addr) (cl : List (Str × Addr)) (fp : List Addr), PTs (X.blk s H scope (compEnvC scope cl C X.env) fp) ifs (tT T W0 c))
    (he : ∀ (s : Shared) (H : Hp) (C : Addr) (cl : List (Str × Addr)) (fp : List Addr), PE (X.blk s H scope (compEnvC scope cl C X.env) fp) elt (tD T W0 el)) (hs : Ex.isSet iter = false) :
    PE X (.ListComp elt [⟨tg, iter, ifs, 0⟩] scope pos) (tM T W fun ρ => (src ρ).bind fun ds ρ => ((compF (own.map (·.2)) it c el ds (wipeE ρ (own.map (·.2))) []).bind fun acc ρ' => .ok (.lst acc) (restE ρ ρ' (own.map (·.2)))).calm) := by
  exact (pe_lc hc hN hi ok hg ht he (fold_plain hs)).impL fun σ H Q hl q => lc_imp hK.1 nd hin htg hl q
theorem lc2_imp {K : PySem.W.Frag} {n : Nat} {own : List (Str × Nat)} {vs1 : List Nat} {it it1 : Tg} {src src1 : Env → Res (List D)} {c : Env → Res Bool} {el : Env → Res D}
    (hK : K = T.K) (nd : (own.map (·.2)).Nodup) (hin : ∀ i ∈ own.map (·.2), i < n) (hv : ∀ i ∈ vs1, i ∈ own.map (·.2)) (htg : ∀ i ∈ it.slots, i ∈ own.map (·.2)) (htg1 : ∀ i ∈ it1.slots, i ∈ vs1) {H : Hp} {Q : VK} (hl : σ.length = n)
    (q : (tM T W (fun ρ => (src ρ).bind fun ds ρ => ((compF2 (own.map (·.2)) it (fun ρ => (src1 ρ).bind fun es ρ => .ok es (wipeE ρ vs1)) (compF vs1 it1 c el) ds (wipeE ρ (own.map (·.2))) []).bind fun acc ρ' => .ok (.lst acc) (restE ρ ρ' (own.map (·.2)))).calm)) σ H Q) : tLc2 (tIt T W src) (it.rd K) tYes (tIt T W0 src1) (it1.rd K) (tT T W0 c) (tD T W0 el) (own.map (·.2)) vs1 σ H Q := by
  obtain ⟨F, M, ρ, cf, q⟩ := q
  refine ⟨F, M, ρ, cf, (Out.bind q).imp fun ds ρ1 q1 J S F1 H1 itk cf1 D nD => ?_⟩
  obtain ⟨r, ρ', e, k⟩ := Out.of_calm q1
  obtain ⟨acc, ρ2, e1, e2⟩ := bind_ok e
  cases e2
  obtain ⟨Sv, c2, back⟩ := cf1.aside nd (fun i hi => by rw [hl]; exact hin i hi)
  have c3 := c2.own nD .nil
  generalize hvs : own.map (·.2) = vs at *
  have hw : wipe (wipe σ vs) vs = wipe σ vs := wipe_wipe fun _ h => h
  refine ⟨fun i m H => m = ds.length - i ∧ i ≤ ds.length ∧ ∃ F ρ a0, Cf T F H ((.lst a0, .ref D) :: (Sv ++ (S ++ M))) ρ (wipe σ vs) ∧ compF2 vs it (fun ρ => (src1 ρ).bind fun es ρ => .ok es (wipeE ρ vs1)) (compF vs1 it1 c el) (ds.drop i) ρ a0 = .ok acc ρ2, ⟨_, rfl, Nat.zero_le _, F1, _, [], c3, e1⟩, ?_⟩
  rintro i m H ⟨rfl, hi, F, ρ, a0, cf, e⟩
  by_cases hlt : i < ds.length
  · right
    rw [List.drop_eq_getElem_cons hlt] at e
    obtain ⟨g, y⟩ := itk.go (cf.permM perm_in) (List.getElem?_eq_getElem hlt)
    refine ⟨g, fun H' => ∃ F ρ a0, Cf T F H' ((.lst a0, .ref D) :: (Sv ++ (S ++ M))) ρ (wipe σ vs) ∧ compF2 vs it (fun ρ => (src1 ρ).bind fun es ρ => .ok es (wipeE ρ vs1)) (compF vs1 it1 c el) (ds.drop (i + 1)) ρ a0 = .ok acc ρ2, fun H' p => ⟨ds.length - (i + 1), by omega, rfl, hlt, p⟩, fun x H' yx => ?_⟩
    obtain ⟨F', cf'⟩ := y x H' yx
    have cf2 : Cf T F' H' ((.val ds[i], x) :: ((.lst a0, .ref D) :: (Sv ++ (S ++ M)))) ρ (wipe σ vs) := cf'.permM (List.Perm.cons _ perm_in.symm)
    unfold compF2 at e
    cases es : setTg it ds[i] ρ with
    | none => rw [es] at e; cases e
    | some ρa =>
      rw [es] at e
      obtain ⟨es', ρb, ec, e⟩ := bind_ok e
      obtain ⟨es2, ρb', ec1, ec2⟩ := bind_ok (k := fun es ρ => Res.ok es (wipeE ρ vs1)) ec
      cases ec2
      obtain ⟨acc', ρc, ei, e⟩ := bind_ok e
      refine tg_ok hK (fun i hi => hin i (htg i hi)) (by rw [wipe_length]; exact hl) cf2 es fun σ2 cfa l2 o2 => ?_
      have ew : wipe σ2 vs = wipe σ vs := (wipe_eq l2 fun j hj => o2 j fun z => hj (htg j z)).trans hw
      refine ⟨ew, ?_⟩
      dsimp only [tYes]
      rw [if_pos rfl]
      refine ⟨F', _, ρa, cfa, ?_⟩
      rw [ec1]
      intro J1 S1 F3 H3 itk1 cfb
      have cfw := cfb.wipeAll vs1
      have l2' : σ2.length = n := by rw [l2, wipe_length]; exact hl
      refine lc_turns (Sv := []) (M := Sv ++ (S ++ M)) (S := S1) (own := vs1) (it := it1) (τ := wipe σ2 vs1) hK itk1 (by rw [wipe_length]; exact l2') (fun i hi => hin i (hv i (htg1 i hi))) htg1 (wipe_wipe fun _ h => h) (cfw.permM perm_in2.symm) ei fun F4 H4 cfe => ?_
      have c5 : Cf T F4 H4 ((.lst acc', .ref D) :: (Sv ++ (S ++ M))) ρc (wipe σ2 vs1) := Cf.dropL (P := S1) (Cf.permM cfe (show ((R.lst acc', V.ref D) :: (S1 ++ (Sv ++ (S ++ M)))).Perm _ from perm_in2))
      have c6 := c5.wipeAll vs
      rw [wipe_wipe hv, ew] at c6
      exact ⟨F4, _, acc', c6, e⟩
  · left
    have ei : i = ds.length := by omega
    subst ei
    rw [List.drop_length] at e
    cases e
    refine ⟨itk.stop (cf.permM perm_in) (Nat.le_refl _), ?_⟩
    have c4 := back F H ((.lst acc, .ref D) :: (S ++ M)) ρ2 (cf.permM perm_in2)
    exact k _ F H (Cf.dropL (P := S) (c4.permM perm_in2))
/-- the turns of the first of two clauses -/
theorem pe_lc2F {elt tg iter tg1 iter1 : Expr} {ifs1 : List Expr} {scope : Scope} {own : List (Str × Nat)} {vs1 : List Nat} {pos : Pos} {it it1 : Tg} {src src1 : Env → Res (List D)} {c : Env → Res Bool} {el : Env → Res D}
    (hc : X.calm = true) (hK : KW X T) (hN : X.N.Nodup) (hi : PI X tg iter (tIt T W src)) (ok : BlkOk X.N X.env.scope scope own) (nd : (own.map (·.2)).Nodup) (hin : ∀ i ∈ own.map (·.2), i < X.N.length) (hv : ∀ i ∈ vs1, i ∈ own.map (·.2)) (nd1 : vs1.Nodup)
    (htg : ∀ i ∈ it.slots, i ∈ own.map (·.2)) (htg1 : ∀ i ∈ it1.slots, i ∈ vs1)
    (hg : ∀ (s : Shared) (H : Hp) (C : Addr) (cl : List (Str × Addr)) (fp : List Addr), PG (X.blk s H scope (compEnvC scope cl C X.env) fp) tg (it.rd X.K))
    (hi1 : ∀ (s : Shared) (H : Hp) (C : Addr) (cl : List (Str × Addr)) (fp : List Addr), PI (X.blk s H scope (compEnvC scope cl C X.env) fp) tg1 iter1 (tIt T W0 src1))
    (hg1 : ∀ (s : Shared) (H : Hp) (C : Addr) (cl : List (Str × Addr)) (fp : List Addr), PG (X.blk s H scope (compEnvC scope cl C X.env) fp) tg1 (it1.rd X.K)) (ht1 : ∀ (s : Shared) (H : Hp) (C : Addr) (cl : List (Str × Addr)) (fp : List Addr), PTs (X.blk s H scope (compEnvC scope cl C X.env) fp) ifs1 (tT T W0 c))
    (he : ∀ (s : Shared) (H : Hp) (C : Addr) (cl : List (Str × Addr)) (fp : List Addr), PE (X.blk s H scope (compEnvC scope cl C X.env) fp) elt (tD T W0 el)) (hs : Ex.isSet iter = false) (hs1 : Ex.isSet iter1 = false) :
    PE X (.ListComp elt [⟨tg, iter, [], 0⟩, ⟨tg1, iter1, ifs1, 0⟩] scope pos) (tM T W fun ρ => (src ρ).bind fun ds ρ => ((compF2 (own.map (·.2)) it (fun ρ => (src1 ρ).bind fun es ρ => .ok es (wipeE ρ vs1)) (compF vs1 it1 c el) ds (wipeE ρ (own.map (·.2))) []).bind fun acc ρ' => .ok (.lst acc) (restE ρ ρ' (own.map (·.2)))).calm) := by
  exact (pe_lc2 hc hN hi ok hv hg (fun _ _ _ _ _ => pts_nil) hi1 hg1 ht1 he (fold_plain hs) (fun _ => fold_plain hs1)).impL fun σ H Q hl q => lc2_imp hK.1 nd hin hv htg htg1 hl q
end Fx
end
section
set_option linter.all false
set_option Elab.async false
set_option maxRecDepth 100000
set_option maxHeartbeats 4000000
/-! A comprehension over the keys of a dict that a name owns: it stands still meanwhile, and is owned again behind it. -/
namespace Fx
open PySem PySem.Spec L2
variable {T : Nm} {W : WX} {X : Cx} {σ : St} {M : Lv}
def valsL (ds : List D) (vs : List V) : Lv := (ds.zip vs).map fun p => (R.val p.1, p.2)
theorem Reps.vals {F H : Hp} {L : Lv} (h : Reps T F H L) : ∀ {ds : List D} {vs : List V}, RpL T F vs ds → Reps T F H (valsL ds vs ++ L)
  | [], _, k => by cases k; exact h
  | d :: ds, _, k => by
    cases k with
    | cons r t => exact Reps.val (Reps.vals h t) r
theorem Reps.ofVals {F H : Hp} {L : Lv} : ∀ {ds : List D} {vs : List V}, ds.length = vs.length → Reps T F H (valsL ds vs ++ L) → RpL T F vs ds ∧ Reps T F H L
  | [], [], _, h => ⟨.nil, h⟩
  | [], _ :: _, e, _ => by simp at e
  | _ :: _, [], e, _ => by simp at e
  | d :: ds, v :: vs, e, h => by
    have h : Reps T F H ((.val d, v) :: (valsL ds vs ++ L)) := h
    obtain ⟨q, k⟩ := Reps.ofVals (ds := ds) (vs := vs) (by simpa using e) h.tail
    exact ⟨.cons h.rp q, k⟩
theorem DR.parts {F : Hp} {a : Addr} {o : HO} {ks vs : List D} (h : DR T F a o ks vs) : ∃ kv wv : List V, RpL T F kv ks ∧ RpL T F wv vs ∧ ∀ F' : Hp, RpL T F' kv ks → RpL T F' wv vs → DR T F' a o ks vs := by
  rcases h with ⟨kvs, h1, h2, h3⟩ | ⟨es, h1, h2, h3, h4, h5, h6⟩
  · subst h2
    refine ⟨kvs.map fun p => .int p.1, kvs.map (·.2), ?_, h3, fun F' _ k => .inl ⟨kvs, h1, rfl, k⟩⟩
    clear h1 h3
    induction kvs with
    | nil => exact .nil
    | cons p kvs ih => exact .cons (.int _) ih
  · exact ⟨_, _, h5, h6, fun F' k1 k2 => .inr ⟨es, h1, h2, h3, h4, k1, k2⟩⟩
theorem Reps.dctRaw {F H : Hp} {L : Lv} {ks vs : List D} {p : Addr} {o' : HO} (h : Reps T F H ((.dct ks vs, .ref p) :: L)) : Reps T F (upd H p o') ((.raw o', .ref p) :: L) := by
  obtain ⟨s, fp, h1, nd, av⟩ := h
  cases h1 with | cons h2 h3 =>
    cases h2 with | dct h4 h5 =>
      have nF := av p (by simp)
      have nd' := List.nodup_cons.mp (show (p :: _).Nodup from nd)
      exact ⟨fun b o e => by rw [upd_ne (ne_of_none e nF)]; exact s _ _ e, [p] ++ _, .cons (.raw upd_same) (h3.keep (Same.refl _) fun a ha => upd_ne fun z => nd'.1 (z ▸ ha)), nd, av⟩
theorem Reps.rawDct {F H : Hp} {L : Lv} {ks vs : List D} {p : Addr} {o : HO} (h : Reps T F H ((.raw o, .ref p) :: L)) (d : DR T F p o ks vs) : Reps T F H ((.dct ks vs, .ref p) :: L) := by
  obtain ⟨s, fp, h1, nd, av⟩ := h
  cases h1 with | cons h2 h3 =>
    cases h2 with | raw h4 => exact ⟨s, [p] ++ _, .cons (.dct h4 d) h3, nd, av⟩
/-- what is freed behind the walk -/
def Frees (T : Nm) (S : Lv) (a : Addr) (od : Obj) (ob : HO) (ks vs : List D) : Prop := ∀ (F H : Hp) (M' : Lv), Reps T F H (S ++ M') → H a = some (.frz od ob) ∧ Reps T F (upd H a ob) ((.dct ks vs, .ref a) :: M')
def NF (X : Cx) (a : Addr) : Prop := ∀ o' u', X.H_0 a ≠ some (.frz o' u')
def tItd (X : Cx) (T : Nm) (i : Nat) : TI := fun σ H R => ∃ F M ρ ks vs, Cf T F H M ρ σ ∧ ρ[i]? = some (some (Fx.R.dct ks vs)) ∧
  ∀ (J : It) (S : Lv) (F1 H1 : Hp) (a : Addr) (od : Obj) (ob : HO), ItOk T J S ks → Cf T F1 H1 (S ++ M) (ρ.set i none) σ → σ[i]? = some (some (.ref a)) → NF X a → Frees T S a od ob ks vs → R J H1
theorem itok_raw {a : Addr} {od : Obj} {ob : HO} {kw : List V} {ks : List D} {R0 : Lv} (hl : ks.length = kw.length) : ItOk T (ItK a od ob kw) ((.raw (.frz od ob), .ref a) :: (valsL ks kw ++ R0)) ks := by
  intro F H L i rp
  have h1 := Reps.rawAt rp
  have h2 : RpL T F kw ks := (Reps.ofVals (L := R0 ++ L) hl (by
    have t : Reps T F H ((valsL ks kw ++ R0) ++ L) := Reps.tail rp
    rw [List.append_assoc] at t
    exact t)).1
  refine ⟨fun hi => ⟨h1, by rw [h2.len]; exact hi⟩, fun d hd => ?_⟩
  obtain ⟨v, e1, rv⟩ := h2.get hd
  refine ⟨⟨h1, (List.getElem?_eq_some_iff.mp e1).1⟩, fun x H' y => ?_⟩
  obtain ⟨rfl, e2⟩ := y
  rw [e1] at e2
  cases e2
  exact ⟨F, rp.val rv⟩
theorem frees_raw {a : Addr} {od : Obj} {ob : HO} {kw kv wv : List V} {ks vs : List D} (h1 : ks.length = kw.length) (h2 : ks.length = kv.length) (h3 : vs.length = wv.length) (back : ∀ F' : Hp, RpL T F' kv ks → RpL T F' wv vs → DR T F' a ob ks vs) :
    Frees T ((.raw (.frz od ob), .ref a) :: (valsL ks kw ++ (valsL ks kv ++ valsL vs wv))) a od ob ks vs := by
  intro F H M' rp
  have e0 := Reps.rawAt rp
  have rp1 : Reps T F H ((.raw (.frz od ob), .ref a) :: (valsL ks kw ++ (valsL ks kv ++ (valsL vs wv ++ M')))) := by
    have e : (((R.raw (.frz od ob), V.ref a) :: (valsL ks kw ++ (valsL ks kv ++ valsL vs wv))) ++ M' : Lv) = (.raw (.frz od ob), .ref a) :: (valsL ks kw ++ (valsL ks kv ++ (valsL vs wv ++ M'))) := by
      simp [List.append_assoc]
    rw [← e]; exact rp
  obtain ⟨q1, t1⟩ := Reps.ofVals h1 rp1.tail
  obtain ⟨q2, t2⟩ := Reps.ofVals h2 t1
  obtain ⟨q3, _⟩ := Reps.ofVals h3 t2
  have rp2 := (Reps.rawPut (o' := ob) rp1).rawDct (back F q2 q3)
  refine ⟨e0, ?_⟩
  have rp3 : Reps T F (upd H a ob) (valsL ks kw ++ (valsL ks kv ++ (valsL vs wv ++ ((.dct ks vs, .ref a) :: M')))) := rp2.perm (by
    refine List.perm_middle.symm.trans (List.Perm.append_left _ ?_)
    refine List.perm_middle.symm.trans (List.Perm.append_left _ ?_)
    exact List.perm_middle.symm)
  exact (Reps.ofVals h3 (Reps.ofVals h2 (Reps.ofVals h1 rp3).2).2).2
theorem pi_dvar {tg : Expr} {i : Nat} {x : Str} {p : Pos} (hv : PE X (.Name x p) (tVar i)) : PI X tg (.Name x p) (tItd X T i) := by
  refine ⟨fun pins s σ H R I q => ?_⟩
  obtain ⟨F, M, ρ, ks, vs, cf, eρ, q⟩ := q
  obtain ⟨v, ev, cf1⟩ := cf.out eρ
  refine thn (hv.run pins s σ H (fun v1 H1 => v1 = v ∧ H1 = H) I ⟨v, ev, rfl, rfl⟩) fun u s1 ⟨x1, H1, I1, r1, ex, eH⟩ => ?_
  subst ex eH
  obtain ⟨a, ob, rfl, hH, dr⟩ := cf1.dctAt
  cases r1
  have mu : Mut (some ob) := by
    have := dr.dic
    cases ob <;> first | exact this | trivial
  have nf := I1.nofrz hH mu
  obtain ⟨od, I2⟩ := I1.lock hH mu
  obtain ⟨kv, wv, p1, p2, back⟩ := dr.parts
  obtain ⟨hs, hz, en, ep, hr, ⟨kw, hk1, hk2⟩, ⟨ww, hw1, hw2⟩⟩ := dr_raw I2 (.inr ⟨od, upd_same⟩) dr
  obtain ⟨o', ho, hx, hd⟩ := hr
  have hg := frz_get I2 upd_same
  rw [hg] at ho
  cases ho
  have l1 : ks.length = kw.length := hk2.len.symm
  have l2 : ks.length = kv.length := p1.len.symm
  have l3 : vs.length = wv.length := p2.len.symm
  have cf2 : Cf T F (upd H1 a (.frz od ob)) (((.raw (.frz od ob), .ref a) :: (valsL ks kw ++ (valsL ks kv ++ valsL vs wv))) ++ M) (ρ.set i none) σ := by
    obtain ⟨L, sl, rp⟩ := cf1
    refine ⟨L, sl, ?_⟩
    have rp1 : Reps T F (upd H1 a (.frz od ob)) ((.raw (.frz od ob), .ref a) :: (M ++ L)) := Reps.dctRaw rp
    have rp2 := ((rp1.vals p2).vals p1).vals hk2
    refine rp2.perm ?_
    have e : (((Fx.R.raw (.frz od ob), V.ref a) :: (valsL ks kw ++ (valsL ks kv ++ valsL vs wv))) ++ M ++ L : Lv) = (.raw (.frz od ob), .ref a) :: (valsL ks kw ++ (valsL ks kv ++ (valsL vs wv ++ (M ++ L)))) := by
      simp [List.append_assoc]
    rw [e]
    refine (List.Perm.append_left _ ((List.Perm.append_left _ List.perm_middle).trans List.perm_middle)).trans List.perm_middle
  refine iter_keys hs hg hx hd (pi_one (tk := s1.toks) I2 _ (turn_dkeys (ob := ob) _ hd hk1) ⟨_, Heap.get?_push_size _ rfl, rfl, ?_⟩ (q _ _ F _ a od ob (itok_raw l1) cf2 ev nf (frees_raw l1 l2 l3 back)))
  rw [size_at hk1]
  rfl
theorem pe_unl {e : Expr} {t : TE} (h : PE X e t) : PE X e (fun σ H Q => t σ H (fun v H1 => ∃ a od ob, H1 a = some (.frz od ob) ∧ NF X a ∧ Q v (upd H1 a ob))) :=
  ⟨fun pins s σ H Q I q => thn (h.run pins s σ H _ I q) fun v s1 ⟨x, H1, I1, r1, a, od, ob, e, nf, q⟩ => ⟨x, _, I1.unlock e nf, r1, q⟩⟩
theorem lcd_imp {K : PySem.W.Frag} {n i : Nat} {own : List (Str × Nat)} {it : Tg} {c : Env → Res Bool} {el : Env → Res D}
    (hK : K = T.K) (nd : (own.map (·.2)).Nodup) (hin : ∀ i ∈ own.map (·.2), i < n) (htg : ∀ i ∈ it.slots, i ∈ own.map (·.2)) (hi : i < n) {H : Hp} {Q : VK} (hl : σ.length = n)
    (q : (tM T W (fun ρ => match ρ.at i with
      | some (.dct ks vs) => ((compF (own.map (·.2)) it c el ks (wipeE (ρ.set i none) (own.map (·.2))) []).bind fun acc ρ' => .ok (.lst acc) ((restE (ρ.set i none) ρ' (own.map (·.2))).set i (some (.dct ks vs)))).calm
      | _ => .stuck)) σ H Q) : tLc (tItd X T i) (it.rd K) (tT T W0 c) (tD T W0 el) (own.map (·.2)) σ H (fun v H1 => ∃ a od ob, H1 a = some (.frz od ob) ∧ NF X a ∧ Q v (upd H1 a ob)) := by
  obtain ⟨F, M, ρ, cf, q⟩ := q
  dsimp only at q
  cases er : ρ.at i with
  | none => rw [er] at q; exact q.elim
  | some r =>
    rw [er] at q
    cases r with
    | dct ks vs =>
      have eρ : ρ[i]? = some (some (R.dct ks vs)) := by
        unfold Env.at at er
        cases e : ρ[i]? with
        | none => rw [e] at er; cases er
        | some o => rw [e] at er; exact congrArg some er
      refine ⟨F, M, ρ, ks, vs, cf, eρ, fun J S F1 H1 a od ob itk cf1 hs nf ul D nD => ?_⟩
      obtain ⟨r, ρ', e, k⟩ := Out.of_calm q
      obtain ⟨acc, ρ2, e1, e2⟩ := bind_ok e
      cases e2
      obtain ⟨Sv, c2, back⟩ := cf1.aside nd (fun i hi => by rw [hl]; exact hin i hi)
      have c3 := c2.own nD .nil
      refine lc_turns (Qd := fun H => ∃ a od ob, H a = some (.frz od ob) ∧ NF X a ∧ Q (.ref D) (upd H a ob)) hK itk (by rw [wipe_length]; exact hl) (fun i hi => hin i (htg i hi)) htg (wipe_wipe fun _ h => h) c3 e1 fun F H cfe => ?_
      have c4 := back F H ((.lst acc, .ref D) :: (S ++ M)) ρ2 (cfe.permM perm_in2)
      obtain ⟨L, sl, rp⟩ := c4
      obtain ⟨h1, rp2⟩ := ul F H ((.lst acc, .ref D) :: (M ++ L)) (rp.perm (by
        show (((R.lst acc, V.ref D) :: (S ++ M)) ++ L).Perm _
        rw [List.cons_append, List.append_assoc]
        exact perm_in2))
      refine ⟨a, od, ob, h1, nf, k _ F _ ?_⟩
      have c5 : Cf T F (upd H a ob) ((.dct ks vs, .ref a) :: ((.lst acc, .ref D) :: M)) (restE (ρ.set i none) ρ2 (own.map (·.2))) σ := ⟨L, sl, rp2⟩
      have c6 := c5.into (i := i) (by rw [hl]; exact hi)
      rw [set_same hs] at c6
      exact c6
    | _ => exact q.elim
theorem pe_lcdF {elt tg : Expr} {ifs : List Expr} {scope : Scope} {own : List (Str × Nat)} {pos : Pos} {it : Tg} {i : Nat} {x : Str} {px : Pos} {c : Env → Res Bool} {el : Env → Res D}
    (hc : X.calm = true) (hK : KW X T) (hN : X.N.Nodup) (hv : PE X (.Name x px) (tVar i)) (hi : i < X.N.length) (ok : BlkOk X.N X.env.scope scope own) (nd : (own.map (·.2)).Nodup) (hin : ∀ i ∈ own.map (·.2), i < X.N.length)
    (htg : ∀ i ∈ it.slots, i ∈ own.map (·.2))
    (hg : ∀ (s : Shared) (H : Hp) (C : Addr) (cl : List (Str × Addr)) (fp : List Addr), PG (X.blk s H scope (compEnvC scope cl C X.env) fp) tg (it.rd X.K)) (ht : ∀ (s : Shared) (H : Hp) (C : Addr) (cl : List (Str × Addr)) (fp : List Addr), PTs (X.blk s H scope (compEnvC scope cl C X.env) fp) ifs (tT T W0 c))
    (he : ∀ (s : Shared) (H : Hp) (C : Addr) (cl : List (Str × Addr)) (fp : List Addr), PE (X.blk s H scope (compEnvC scope cl C X.env) fp) elt (tD T W0 el)) :
    PE X (.ListComp elt [⟨tg, .Name x px, ifs, 0⟩] scope pos) (tM T W fun ρ => match ρ.at i with
      | some (.dct ks vs) => ((compF (own.map (·.2)) it c el ks (wipeE (ρ.set i none) (own.map (·.2))) []).bind fun acc ρ' => .ok (.lst acc) ((restE (ρ.set i none) ρ' (own.map (·.2))).set i (some (.dct ks vs)))).calm
      | _ => .stuck) :=
  (pe_unl (pe_lc hc hN (pi_dvar (T := T) hv) ok hg ht he (fold_plain rfl))).impL fun σ H Q hl q => lcd_imp hK.1 nd hin htg hi hl q
end Fx
end
section
set_option linter.all false
set_option Elab.async false
set_option maxRecDepth 100000
set_option maxHeartbeats 4000000
/-! What the language computes is what the model does: statements. -/
namespace Fx
open PySem PySem.Spec L2
variable {T : Nm} {W : WX} {X : Cx} {σ : St} {M : Lv} {g : G} {Φ : Fn} {wr : List Nat}

/-- the slots outside wr are as they were -/
def Ag (wr : List Nat) (σ σ' : St) : Prop := σ'.length = σ.length ∧ ∀ j, j ∉ wr → σ'[j]? = σ[j]?
theorem Ag.refl : Ag wr σ σ := ⟨rfl, fun _ _ => rfl⟩
theorem Ag.trans {σ1 σ2 σ3 : St} (a : Ag wr σ1 σ2) (b : Ag wr σ2 σ3) : Ag wr σ1 σ3 := ⟨b.1.trans a.1, fun j hj => (b.2 j hj).trans (a.2 j hj)⟩
theorem Ag.set {i : Nat} {x : Option V} (hi : i ∈ wr) : Ag wr σ (σ.set i x) := ⟨by simp, fun j hj => List.getElem?_set_ne fun (e : i = j) => hj (by rw [← e]; exact hi)⟩
theorem Ag.of {l : List Nat} {σ2 : St} (h1 : σ2.length = σ.length) (h2 : ∀ j, j ∉ l → σ2[j]? = σ[j]?) (s : ∀ i ∈ l, i ∈ wr) : Ag wr σ σ2 := ⟨h1, fun j hj => h2 j fun z => hj (s j z)⟩

/-- what is wanted behind a statement -/
def SOut (T : Nm) (W : WX) (wr : List Nat) (M : Lv) (x : SRes) (D : Ends) (σ0 : St) : Prop := match x with
  | .nx ρ => ∀ σ F H, Ag wr σ0 σ → Cf T F H M ρ σ → D.nx σ H
  | .rt r ρ => ∀ σ v F H, Ag wr σ0 σ → Cf T F H ((r, v) :: M) ρ σ → D.rt v H
  | .bk ρ => ∀ σ F H, Ag wr σ0 σ → Cf T F H M ρ σ → D.bk σ H
  | .ct ρ => ∀ σ F H, Ag wr σ0 σ → Cf T F H M ρ σ → D.ct σ H
  | .exc c d ρ => ∀ σ, Ag wr σ0 σ → ExcW T W σ M c d ρ
  | .stuck => False
def tS (T : Nm) (W : WX) (wr : List Nat) (m : Env → SRes) : TS := fun D σ H => ∃ F M ρ, Cf T F H M ρ σ ∧ SOut T W wr M (m ρ) D σ
theorem SOut.ag {x : SRes} {D : Ends} {σ0 σ1 : St} (h : SOut T W wr M x D σ0) (a : Ag wr σ0 σ1) : SOut T W wr M x D σ1 := by
  cases x with
  | nx ρ => exact fun σ F H b => h σ F H (a.trans b)
  | rt r ρ => exact fun σ v F H b => h σ v F H (a.trans b)
  | bk ρ => exact fun σ F H b => h σ F H (a.trans b)
  | ct ρ => exact fun σ F H b => h σ F H (a.trans b)
  | exc c d ρ => exact fun σ b => h σ (a.trans b)
  | stuck => exact h
theorem SOut.wkL {P : Lv} {x : SRes} {D : Ends} {σ0 : St} (h : SOut T W wr M x D σ0) : SOut T W wr (P ++ M) x D σ0 := by
  cases x with
  | nx ρ => exact fun σ F H a cf => h σ F H a cf.dropL
  | rt r ρ => exact fun σ v F H a cf => h σ v F H a (Cf.dropL (P := P) (cf.permM perm_in2))
  | bk ρ => exact fun σ F H a cf => h σ F H a cf.dropL
  | ct ρ => exact fun σ F H a cf => h σ F H a cf.dropL
  | exc c d ρ => exact fun σ a v dd F H cf => h σ a v dd F H cf.dropL
  | stuck => exact h
/-- an expression, then a statement's rest -/
theorem SOut.thn {α : Type} {x : Res α} {k : α → Env → SRes} {D : Ends} (h : SOut T W wr M (x.thn k) D σ) : Out T W σ M x fun a ρ => SOut T W wr M (k a ρ) D σ := by
  cases x with
  | ok a ρ => exact h
  | exc c d ρ => exact h σ .refl
  | stuck => exact h
theorem _root_.L2.PS.impL {X : Cx} {st : Stmt} {t t' : TS} (h : PS X st t) (k : ∀ D σ H, σ.length = X.N.length → t' D σ H → t D σ H) : PS X st t' := ⟨fun pins s σ H D I q => h.run pins s σ H D I (k D σ H I.len q)⟩

section
variable {st : Stmt} {sts : List Stmt} {pos : Pos} {e : Expr}
/-! ### one behind another -/
theorem pss_nilF : PSs X [] (tS T W wr fun ρ => .nx ρ) := pss_nil.imp fun D σ H ⟨F, M, ρ, cf, q⟩ => q σ F H .refl cf
theorem pss_consF {m k : Env → SRes} (h1 : PS X st (tS T W wr m)) (h2 : PSs X sts (tS T W wr k)) : PSs X (st :: sts) (tS T W wr fun ρ => (m ρ).thn k) := by
  refine (pss_cons h1 h2).imp fun D σ H q => ?_
  obtain ⟨F, M, ρ, cf, q⟩ := q
  refine ⟨F, M, ρ, cf, ?_⟩
  have q : SOut T W wr M ((m ρ).thn k) D σ := q
  cases z : m ρ with
  | nx ρ1 =>
    rw [z] at q
    have q : SOut T W wr M (k ρ1) D σ := q
    exact fun σ1 F1 H1 a cf1 => ⟨F1, M, ρ1, cf1, q.ag a⟩
  | rt r ρ1 => rw [z] at q; exact q
  | bk ρ1 => rw [z] at q; exact q
  | ct ρ1 => rw [z] at q; exact q
  | exc c d ρ1 => rw [z] at q; exact q
  | stuck => rw [z] at q; exact q
theorem ps_pasF : PS X (.Pass pos) (tS T W wr fun ρ => .nx ρ) := ps_pass.imp fun D σ H ⟨F, M, ρ, cf, q⟩ => q σ F H .refl cf
theorem ps_brkF : PS X (.Break pos) (tS T W wr fun ρ => .bk ρ) := ps_break.imp fun D σ H ⟨F, M, ρ, cf, q⟩ => q σ F H .refl cf
theorem ps_cntF : PS X (.Continue pos) (tS T W wr fun ρ => .ct ρ) := ps_continue.imp fun D σ H ⟨F, M, ρ, cf, q⟩ => q σ F H .refl cf
/-! ### stores -/
theorem asg_imp {m : Env → Res R} {i : Nat} (hw : i ∈ wr) {D : Ends} {H : Hp} (hi : i < σ.length) (q : tS T W wr (fun ρ => (m ρ).thn fun r ρ => .nx (ρ.set i (some r))) D σ H) : tM T W m σ H fun x H1 => gName i x σ H1 D.nx := by
  obtain ⟨F, M, ρ, cf, q⟩ := q
  exact ⟨F, M, ρ, cf, q.thn.imp fun r ρ1 k v F1 H1 cf1 => k _ F1 H1 (.set hw) (cf1.into hi)⟩
theorem ps_unpF {tg : Expr} {is : List Nat} {m : Env → Res D} (hK : KW X T) (hw : ∀ i ∈ is, i ∈ wr) (hn : ∀ i ∈ is, i < X.N.length) (he : PE X e (tD T W m)) (hg : PG X tg ((Tg.many is).rd X.K)) (hc : Ex.compr e = false)
    (hs : swappedStores [tg] e X.env = pure none) (h1 : (assignEach [tg] X.env).map (·.2) = [assign tg X.env]) :
    PS X (.Assign [tg] e pos) (tS T W wr fun ρ => (m ρ).thn fun d ρ => match setTg (.many is) d ρ with
      | some ρ' => .nx ρ'
      | none => .stuck) := by
  refine (ps_asg he hg (by unfold swapsWithSole; exact swaps_plain hc) hs h1).impL fun D σ H hl q => ?_
  obtain ⟨F, M, ρ, cf, q⟩ := q
  refine ⟨F, M, ρ, cf, q.thn.imp fun d ρ1 k v F1 H1 cf1 => ?_⟩
  cases z : setTg (.many is) d ρ1 with
  | none => rw [z] at k; exact k.elim
  | some ρ2 =>
    rw [z] at k
    exact tg_ok hK.1 (n := X.N.length) (tg := Tg.many is) hn hl cf1 z fun σ2 cf2 l2 o2 => k σ2 F1 H1 (.of l2 o2 hw) cf2
/-! ### ends -/
theorem ps_retF {m : Env → Res R} (he : PE X e (tM T W m)) : PS X (.Return (some e) pos) (tS T W wr fun ρ => (m ρ).thn fun r ρ => .rt r ρ) := by
  refine (ps_ret he).imp fun D σ H q => ?_
  obtain ⟨F, M, ρ, cf, q⟩ := q
  exact ⟨F, M, ρ, cf, q.thn.imp fun r ρ1 k v F1 H1 cf1 => k σ v F1 H1 .refl cf1⟩
theorem ps_retmF {i : Nat} (he : PE X e (tVar i)) : PS X (.Return (some e) pos) (tS T W wr fun ρ => match ρ.at i with
    | some r => .rt r (ρ.set i none)
    | none => .stuck) := by
  refine (ps_ret he).imp fun D σ H q => ?_
  obtain ⟨F, M, ρ, cf, q⟩ := q
  dsimp only at q
  cases z : ρ.at i with
  | none => rw [z] at q; exact q.elim
  | some r =>
    rw [z] at q
    obtain ⟨v, e1, cf1⟩ := cf.out (at_get z)
    exact ⟨v, e1, q σ v F H .refl cf1⟩
theorem ps_exF {m : Env → Res R} (he : PE X e (tM T W m)) (hc : Ex.compr e = false) : PS X (.Expr e pos) (tS T W wr fun ρ => (m ρ).thn fun _ ρ => .nx ρ) := by
  refine (ps_expr he (swaps_plain hc)).imp fun D σ H q => ?_
  obtain ⟨F, M, ρ, cf, q⟩ := q
  exact ⟨F, M, ρ, cf, q.thn.imp fun r ρ1 k v F1 H1 cf1 => k σ F1 H1 .refl cf1.tail⟩
theorem ps_ifsF {c : Expr} {a b : List Stmt} {mc : Env → Res Bool} {ma mb : Env → SRes} (hc : PT X c (tT T W mc)) (ha : PSs X a (tS T W wr ma)) (hb : PSs X b (tS T W wr mb)) :
    PS X (.If c a b pos) (tS T W wr fun ρ => (mc ρ).thn fun k ρ => if k = true then ma ρ else mb ρ) := by
  refine (ps_if hc ha hb).imp fun D σ H q => ?_
  obtain ⟨F, M, ρ, cf, q⟩ := q
  refine ⟨F, M, ρ, cf, q.thn.imp fun k ρ1 q1 F1 H1 cf1 => ?_⟩
  cases k with
  | true => rw [if_pos rfl] at q1 ⊢; exact ⟨F1, M, ρ1, cf1, q1⟩
  | false => rw [if_neg Bool.false_ne_true] at q1 ⊢; exact ⟨F1, M, ρ1, cf1, q1⟩
/-! ### loops -/
theorem SOut.lp {x : SRes} {D : Ends} {σ0 : St} {k : Env → SRes} {N : St → Hp → Prop} (h : SOut T W wr M (match x with
      | .nx ρ2 => k ρ2
      | .ct ρ2 => k ρ2
      | .bk ρ2 => .nx ρ2
      | x => x) D σ0) (hN : ∀ ρ σ F H, SOut T W wr M (k ρ) D σ0 → Ag wr σ0 σ → Cf T F H M ρ σ → N σ H) : SOut T W wr M x { D with nx := N, ct := N, bk := D.nx } σ0 := by
  cases x with
  | nx ρ2 => exact fun σ F H a cf => hN ρ2 σ F H h a cf
  | ct ρ2 => exact fun σ F H a cf => hN ρ2 σ F H h a cf
  | bk ρ2 => exact h
  | rt r ρ => exact h
  | exc c d ρ => exact h
  | stuck => exact h
theorem ps_forF {iter tgE : Expr} {body : List Stmt} {tg : Tg} {src : Env → Res (List D)} {mb : Env → SRes} (hp : PassesOwn (model X.prog X.w) X.A X.env X.xe) (hc : X.calm = true) (hK : KW X T) (hi : PI X tgE iter (tIt T W src)) (hg : PG X tgE (tg.rd X.K))
    (hin : TgIn X.N.length tg) (hw : ∀ i ∈ tg.slots, i ∈ wr) (hb : PSs X body (tS T W wr mb)) (hs : Ex.isSet iter = false) :
    PS X (.For tgE iter body [] pos) (tS T W wr fun ρ => (src ρ).thn fun ds ρ => forF tg mb ds ρ) := by
  refine (ps_for hp hc hi hg hb (fold_plain hs)).impL fun D σ H hl q => ?_
  obtain ⟨F, M, ρ, cf, q⟩ := q
  refine ⟨F, M, ρ, cf, q.thn.imp fun ds ρ1 q1 J S F1 H1 itk cf1 => ?_⟩
  refine ⟨fun i m σ' H => m = ds.length - i ∧ i ≤ ds.length ∧ Ag wr σ σ' ∧ ∃ F ρ, Cf T F H (S ++ M) ρ σ' ∧ SOut T W wr (S ++ M) (forF tg mb (ds.drop i) ρ) D σ, ⟨_, rfl, Nat.zero_le _, .refl, F1, ρ1, cf1, q1.wkL⟩, ?_⟩
  rintro i m σ' H ⟨rfl, hi, ag, F, ρ, cf, q⟩
  by_cases hlt : i < ds.length
  · right
    rw [List.drop_eq_getElem_cons hlt] at q
    obtain ⟨go, y⟩ := itk.go cf (List.getElem?_eq_getElem hlt)
    refine ⟨go, fun σ' H' => Ag wr σ σ' ∧ ∃ F ρ, Cf T F H' (S ++ M) ρ σ' ∧ SOut T W wr (S ++ M) (forF tg mb (ds.drop (i + 1)) ρ) D σ, fun σ' H' p => ⟨ds.length - (i + 1), by omega, rfl, hlt, p⟩, fun x H' yx => ?_⟩
    obtain ⟨F', cf'⟩ := y x H' yx
    unfold forF at q
    cases es : setTg tg ds[i] ρ with
    | none => rw [es] at q; exact q.elim
    | some ρa =>
      rw [es] at q
      refine tg_ok hK.1 hin (ag.1.trans hl) cf' es fun σ2 cfa l2 o2 => ?_
      refine ⟨F', S ++ M, ρa, cfa, ?_⟩
      have a2 : Ag wr σ σ2 := ag.trans (.of l2 o2 hw)
      exact (SOut.lp q fun ρ σ3 F3 H3 h a3 cf3 => ⟨a3, F3, ρ, cf3, h⟩).ag a2
  · left
    have ei : i = ds.length := by omega
    subst ei
    rw [List.drop_length] at q
    exact ⟨itk.stop cf (Nat.le_refl _), q σ' F H ag cf⟩
end
end Fx
end
section
set_option linter.all false
set_option Elab.async false
set_option maxRecDepth 100000
set_option maxHeartbeats 4000000
/-! Statements that change lists and instances. -/
namespace Fx
open PySem PySem.Spec L2
variable {T : Nm} {W : WX} {X : Cx} {σ : St} {M : Lv} {g : G} {Φ : Fn} {wr : List Nat}

section
variable {pos : Pos} {e o : Expr}
/-- the list that a slot owns -/
theorem Cf.lst {F H : Hp} {ρ : Env} {i : Nat} {ds : List D} (cf : Cf T F H M ρ σ) (e : ρ.at i = some (.lst ds)) : ∃ p xs, σ[i]? = some (some (.ref p)) ∧ H p = some (.lst xs) ∧ RpL T F xs ds ∧ Cf T F H ((.lst ds, .ref p) :: M) (ρ.set i none) σ := by
  obtain ⟨v, e1, cf1⟩ := cf.out (at_get e)
  obtain ⟨p, rfl⟩ := cf1.lstRef
  obtain ⟨xs, h1, h2⟩ := cf1.lstAt
  exact ⟨p, xs, e1, h1, h2, cf1⟩
theorem ps_appF {x : Str} {i : Nat} {p0 p1 p2 : Pos} {m : Env → Res D} (ho : PE X (.Name x p0) (tVar i)) (he : PE X e (tD T W m)) (h1 : Ex.star e = false) (hl : (p1.endLine == p2.line) = true) :
    PS X (.Expr (.Call (.Attribute (.Name x p0) "append" p1) [e] [] p2) pos) (tS T W wr fun ρ => match ρ.at i with
    | some (.lst _) => (m ρ).thn fun d ρ => (match ρ.at i with
      | some (.lst ds) => if ds.length < LINE then .nx (ρ.set i (some (.lst (ds ++ [d])))) else .stuck
      | _ => .stuck)
    | _ => .stuck) := by
  refine (ps_expr (pe_bm (X := X) PySem.F.plainAttrs_list PySem.F.slot_list_append PySem.F.type_list_append mt_append ho (pa_cons he pa_nil (star_cons [] _ h1)) (att_plain rfl) (by rw [star_cons [] _ h1]; rfl) hl (star_cons [] _ h1) rfl) (swaps_plain rfl)).imp fun D σ H q => ?_
  obtain ⟨F, M, ρ, cf, q⟩ := q
  dsimp only at q
  cases z : ρ.at i with
  | none => rw [z] at q; exact q.elim
  | some r =>
    cases r with
    | lst ds0 =>
      rw [z] at q
      obtain ⟨p, xs, e1, e2, e3, _⟩ := cf.lst z
      refine ⟨_, e1, .inl ⟨rfl, xs, .inl (.inl e2)⟩, F, M, ρ, cf, (SOut.thn q).imp fun d ρ1 k v F1 H1 cf1 => ?_⟩
      cases z1 : ρ1.at i with
      | none => rw [z1] at k; exact k.elim
      | some r1 =>
        cases r1 with
        | lst ds =>
          rw [z1] at k
          dsimp only at k
          split at k
          · rename_i hlt
            have rv := cf1.rp
            obtain ⟨p', xs', f1, f2, f3, cf2⟩ := cf1.tail.lst z1
            rw [e1] at f1; cases f1
            refine ⟨p, xs', v, rfl, rfl, f2, by rw [f3.len, ← line_eq]; exact hlt, ?_⟩
            exact k _ F1 _ .refl ((cf2.put (f3.app (.cons rv .nil))).back e1)
          · exact k.elim
        | _ => rw [z1] at k; exact k.elim
    | _ => rw [z] at q; exact q.elim
theorem RpL.ins {F : Hp} {v : V} {d : D} {xs : List V} {ds : List D} (n : Nat) (r : Rp T F v d) (h : RpL T F xs ds) : RpL T F (xs.take n ++ [v] ++ xs.drop n) (ds.take n ++ d :: ds.drop n) := by
  rw [List.append_assoc]
  exact (h.take n).app (.cons r (h.drop n))
theorem ps_insrF {x : Str} {i : Nat} {ek : Expr} {p0 p1 p2 : Pos} {mk m : Env → Res D} (ho : PE X (.Name x p0) (tVar i)) (hk : PE X ek (tD T W mk)) (he : PE X e (tD T W m)) (h1 : Ex.star ek = false) (h2 : Ex.star e = false) (hl : (p1.endLine == p2.line) = true) :
    PS X (.Expr (.Call (.Attribute (.Name x p0) "insert" p1) [ek, e] [] p2) pos) (tS T W wr fun ρ => match ρ.at i with
    | some (.lst _) => (mk ρ).thn fun k ρ => (m ρ).thn fun d ρ => (match ρ.at i, k with
      | some (.lst ds), .int k => if ds.length < LINE ∧ 0 ≤ k ∧ k < 9223372036854775808 then .nx (ρ.set i (some (.lst (ds.take k.toNat ++ d :: ds.drop k.toNat)))) else .stuck
      | _, _ => .stuck)
    | _ => .stuck) := by
  refine (ps_expr (pe_bm (X := X) PySem.F.plainAttrs_list PySem.F.slot_list_insert PySem.F.type_list_insert mt_insert ho (pa_cons hk (pa_cons he pa_nil (star_cons [] _ h2)) (star_cons [e] _ h1)) (att_plain rfl) (by rw [star_cons [e] _ h1, star_cons [] _ h2]; rfl) hl (star_cons [e] _ h1) (by rw [star_cons [] _ h2]; rfl)) (swaps_plain rfl)).imp fun D σ H q => ?_
  obtain ⟨F, M, ρ, cf, q⟩ := q
  dsimp only at q
  cases z : ρ.at i with
  | none => rw [z] at q; exact q.elim
  | some r =>
    cases r with
    | lst ds0 =>
      rw [z] at q
      obtain ⟨p, xs, e1, e2, e3, _⟩ := cf.lst z
      refine ⟨_, e1, .inl ⟨rfl, xs, .inl (.inl e2)⟩, F, M, ρ, cf, (SOut.thn q).imp fun kd ρ1 k v F1 H1 cf1 => ?_⟩
      refine ⟨F1, _, ρ1, cf1, (SOut.thn (SOut.wkL (P := [(.val kd, v)]) k)).imp fun d ρ2 k v2 F2 H2 cf2 => ?_⟩
      cases z1 : ρ2.at i with
      | none => rw [z1] at k; exact k.elim
      | some r1 =>
        cases r1 with
        | lst ds =>
          cases kd with
          | int kn =>
            rw [z1] at k
            dsimp only at k
            split at k
            · rename_i hlt
              have rv := cf2.rp
              have rk := cf2.tail.rp
              cases rk
              obtain ⟨p', xs', f1, f2, f3, cf3⟩ := cf2.tail.tail.lst z1
              rw [e1] at f1; cases f1
              refine ⟨p, xs', kn, v2, rfl, rfl, f2, by rw [f3.len, ← line_eq]; exact hlt.1, hlt.2.1, by have := hlt.2.2; omega, ?_⟩
              have cf4 := ((cf3.put (f3.ins kn.toNat rv)).back e1).val (d := .int kn) (v := .int kn) (.int kn)
              exact k _ F2 _ .refl cf4
            · exact k.elim
          | _ => rw [z1] at k; exact k.elim
        | _ => rw [z1] at k; exact k.elim
    | _ => rw [z] at q; exact q.elim
theorem ps_setiF {x : Str} {i : Nat} {p0 p1 : Pos} {ek : Expr} {mk m : Env → Res D} (ho : PE X (.Name x p0) (tVar i)) (hk : PE X ek (tD T W mk)) (he : PE X e (tD T W m)) (hc : Ex.compr e = false) (hsl : Ex.isSlice ek = false) :
    PS X (.Assign [.Subscript (.Name x p0) ek p1] e pos) (tS T W wr fun ρ => (m ρ).thn fun d ρ => match ρ.at i with
    | some (.lst _) => (mk ρ).thn fun k ρ => (match ρ.at i, k with
      | some (.lst ds), .int k => (match ixN ds.length k with
        | some j => .nx (ρ.set i (some (.lst (ds.set j d))))
        | none => .stuck)
      | _, _ => .stuck)
    | _ => .stuck) := by
  have ha : ∀ v, assign (.Subscript (.Name x p0) ek p1) X.env v = (do
      let ov ← holding [v] (eval (.Name x p0) X.env)
      let iv ← holding [v, ov] (eval ek X.env)
      standAt p1
      holding [v, ov, iv] (setItem ov iv v)
      release [v, ov, iv] []) := by
    intro v
    cases ek <;> first | rfl | cases hsl
  refine (ps_asg he (pg_sub ho hk set_list ha) (by unfold swapsWithSole; exact swaps_plain hc) rfl rfl).imp fun D σ H q => ?_
  obtain ⟨F, M, ρ, cf, q⟩ := q
  refine ⟨F, M, ρ, cf, (SOut.thn q).imp fun d ρ1 k v F1 H1 cf1 => ?_⟩
  cases z : ρ1.at i with
  | none => rw [z] at k; exact k.elim
  | some r =>
    cases r with
    | lst ds0 =>
      rw [z] at k
      obtain ⟨p, xs, e1, e2, e3, _⟩ := cf1.lst z
      refine ⟨_, e1, F1, _, ρ1, cf1, (SOut.thn (SOut.wkL (P := [(.val d, v)]) k)).imp fun kd ρ2 k v2 F2 H2 cf2 => ?_⟩
      cases z1 : ρ2.at i with
      | none => rw [z1] at k; exact k.elim
      | some r1 =>
        cases r1 with
        | lst ds =>
          cases kd with
          | int kn =>
            rw [z1] at k
            dsimp only at k
            cases hj : ixN ds.length kn with
            | none => rw [hj] at k; exact k.elim
            | some j =>
              rw [hj] at k
              have rk := cf2.rp
              cases rk
              have rv := cf2.tail.rp
              obtain ⟨p', xs', f1, f2, f3, cf3⟩ := cf2.tail.tail.lst z1
              rw [e1] at f1; cases f1
              refine ⟨p, xs', kn, j, rfl, rfl, f2, by rw [f3.len]; exact hj, ?_⟩
              exact k _ F2 _ .refl (((cf3.put (RpL.set rv j f3)).back e1).val rv)
          | _ => rw [z1] at k; exact k.elim
        | _ => rw [z1] at k; exact k.elim
    | _ => rw [z] at k; exact k.elim

/-! ### a new field -/
theorem putF_zip (f : Str) (v : V) : ∀ (L : List Str) (xs : List V), L.Nodup → L[xs.length]? = some f → putF f v (L.zip xs) = L.zip (xs ++ [v])
  | [], xs, _, e => by simp at e
  | g :: L, [], nd, e => by
    simp at e; subst e; simp [putF]
  | g :: L, x :: xs, nd, e => by
    simp only [List.nodup_cons] at nd
    have e' : L[xs.length]? = some f := by simpa using e
    have ne : g ≠ f := fun z => nd.1 (z ▸ List.mem_of_getElem? e')
    show (if g = f then _ else _) = _
    rw [if_neg ne]
    show (g, x) :: putF f v (L.zip xs) = (g, x) :: L.zip (xs ++ [v])
    rw [putF_zip f v L xs nd.2 e']
theorem RRL.appV {F H : Hp} {v : V} {d : D} (r : Rp T F v d) : ∀ {rs : List R} {vs : List V} {fp : List Addr}, RRL T F H rs vs fp → RRL T F H (rs ++ [.val d]) (vs ++ [v]) fp
  | [], _, _, h => by cases h; exact .cons (.val r) .nil
  | _ :: _, _, _, h => by cases h with | cons h1 h2 => exact .cons h1 (h2.appV r)
theorem Cf.objAt {F H : Hp} {ρ : Env} {v : V} {c : Nat} {rs : List R} (h : Cf T F H ((.obj c rs, v) :: M) ρ σ) : ∃ p dx xs, v = .ref p ∧ H p = some (.ins (T.cls c) dx (T.zip c xs)) ∧ rs.length = xs.length ∧ xs.length ≤ (T.flds c).length := by
  obtain ⟨L, sl, s, fp, h1, nd, av⟩ := h
  cases h1 with | cons h2 h3 => cases h2 with | obj h4 hl h5 => exact ⟨_, _, _, rfl, h4, h5.len, hl⟩
theorem Cf.putObj {F H : Hp} {ρ : Env} {p dx : Addr} {c : Nat} {rs : List R} {xs : List V} {d : D} {w : V} (h : Cf T F H ((.obj c rs, .ref p) :: M) ρ σ) (hp : H p = some (.ins (T.cls c) dx (T.zip c xs))) (hx : rs.length = xs.length)
    (hlt : rs.length < (T.flds c).length) (r : Rp T F w d) : Cf T F (upd H p (.ins (T.cls c) dx (T.zip c (xs ++ [w])))) ((.obj c (rs ++ [.val d]), .ref p) :: M) ρ σ := by
  obtain ⟨L, sl, s, fp, h1, nd, av⟩ := h
  refine ⟨L, sl, ?_⟩
  cases h1 with | cons h2 h3 =>
    cases h2 with | @obj a dx' c' xs' rs' fp' h4 hl h5 =>
      have e := hp.symm.trans h4
      have e1 : dx = dx' ∧ T.zip c xs = T.zip c xs' := by
        have := Option.some.inj e
        injection this with e1 e2 e3
        exact ⟨e2, e3⟩
      have e2 : xs = xs' := by
        have l := h5.len
        have e3 : ((T.flds c).map T.fname).zip xs = ((T.flds c).map T.fname).zip xs' := e1.2
        have key : ∀ (L : List Str) (a b : List V), a.length = b.length → a.length ≤ L.length → L.zip a = L.zip b → a = b := by
          intro L
          induction L with
          | nil => intro a b h1 h2 _; cases a with
            | nil => cases b with
              | nil => rfl
              | cons _ _ => simp at h1
            | cons _ _ => simp at h2
          | cons x L ih =>
            intro a b h1 h2 h3
            cases a with
            | nil => cases b with
              | nil => rfl
              | cons _ _ => simp at h1
            | cons y a => cases b with
              | nil => simp at h1
              | cons z b =>
                simp only [List.zip_cons_cons, List.cons.injEq, Prod.mk.injEq, true_and] at h3
                rw [h3.1, ih a b (by simpa using h1) (by simpa using h2) h3.2]
        exact key _ _ _ (by rw [← hx, l]) (by rw [List.length_map, ← hx]; omega) e3
      obtain ⟨rfl, _⟩ := e1
      subst e2
      have nF := av p (by simp)
      have nd' := List.nodup_cons.mp (show (p :: (fp' ++ _)).Nodup from nd)
      refine ⟨fun b o e => by rw [upd_ne (ne_of_none e nF)]; exact s _ _ e, (p :: fp') ++ _, .cons (.obj (dx := dx) upd_same (by rw [List.length_append, ← hx]; exact hlt) ?_) (h3.keep (Same.refl _) fun a ha => upd_ne fun z => nd'.1 (z ▸ List.mem_append_right _ ha)), nd, av⟩
      exact RRL.appV r (RRL.keep (Same.refl _) _ _ _ (fun a ha => upd_ne fun z => nd'.1 (z ▸ List.mem_append_left _ ha)) h5)
theorem ps_fldF {nc : Nat} {x n : Str} {i f : Nat} {p0 p1 : Pos} {m : Env → Res D} (hK : KW X T) (A : ClsAll T X.K nc) (hnc : g.nc = nc) (hfl : g.flds = T.flds) (hn : n = T.fname f) (ho : PE X (.Name x p0) (tVar i)) (he : PE X e (tD T W m)) (hc : Ex.compr e = false) :
    PS X (.Assign [.Attribute (.Name x p0) n p1] e pos) (tS T W wr fun ρ => (m ρ).thn fun d ρ => match ρ.at i with
    | some (.obj c rs) => if c < g.nc ∧ (g.flds c).idxOf f = rs.length ∧ rs.length < (g.flds c).length then .nx (ρ.set i (some (.obj c (rs ++ [.val d])))) else .stuck
    | _ => .stuck) := by
  subst hn
  refine (ps_fld ho he (swaps_plain hc)).imp fun D σ H q => ?_
  obtain ⟨F, M, ρ, cf, q⟩ := q
  refine ⟨F, M, ρ, cf, (SOut.thn q).imp fun d ρ1 k v F1 H1 cf1 => ?_⟩
  cases z : ρ1.at i with
  | none => rw [z] at k; exact k.elim
  | some r =>
    cases r with
    | obj c rs =>
      rw [z] at k
      dsimp only at k
      split at k
      · rename_i hh
        obtain ⟨h1, h2, h3⟩ := hh
        rw [hfl] at h2 h3
        rw [hnc] at h1
        have kn := A.of c h1
        have rv := cf1.rp
        obtain ⟨w, e1, cf2⟩ := cf1.tail.out (at_get z)
        obtain ⟨p, dx, xs, rfl, hp, hx, hl⟩ := cf2.objAt
        have hf : f ∈ T.flds c := idx_mem (by rw [h2]; exact h3)
        have hget : ((T.flds c).map T.fname)[xs.length]? = some (T.fname f) := by
          rw [List.getElem?_map, ← hx, ← h2, List.getElem?_eq_getElem (by rw [h2]; exact h3), List.getElem_idxOf]
          rfl
        refine ⟨_, e1, p, T.cls c, dx, _, rfl, hp, kn.cl, kn.na f hf, ?_, ?_⟩
        · have := kn.ln
          unfold Nm.zip
          rw [List.length_zip]
          omega
        · have ep : putF (T.fname f) v (T.zip c xs) = T.zip c (xs ++ [v]) := putF_zip _ _ _ _ kn.nd hget
          rw [ep]
          exact k _ F1 _ .refl ((cf2.putObj hp hx h3 rv).back e1)
      · exact k.elim
    | _ => rw [z] at k; exact k.elim
end
end Fx
end
section
set_option linter.all false
set_option Elab.async false
set_option maxRecDepth 100000
set_option maxHeartbeats 4000000
/-! Exceptions: raise, try with several clauses, each with or without a name. -/
namespace Fx
open PySem PySem.Spec L2 PyProof.Rows
abbrev Clz := List (Value × Option Nat × (Addr → Value → Option Addr → TS))
/-- what is wanted behind a suite whose clause binds slot i -/
def Ends.un (D : Ends) : Option Nat → Ends
  | none => D
  | some i => { nx := fun σ H => D.nx (σ.set i none) H, rt := D.rt, bk := fun σ H => D.bk (σ.set i none) H, ct := fun σ H => D.ct (σ.set i none) H }
def bindX (σ : L2.St) (a : Addr) : Option Nat → L2.St
  | none => σ
  | some i => σ.set i (some (.ref a))
/-- the clauses' wish, one after the other -/
def wCl (K : PySem.W.Frag) (Wout : WX) (D : Ends) : Clz → WX
  | [] => Wout
  | (c, oi, ts) :: r => fun cls d σ H => ∃ b, PySem.W.exmOne K cls c = some b ∧ (b = true → ∀ a, H a = none → ts a cls d (Ends.un D oi) (bindX σ a oi) H) ∧ (b = false → wCl K Wout D r cls d σ H)
inductive ClOk (X : Cx) : List ExceptHandler → Clz → Prop
  | nil : ClOk X [] []
  | bare {x : Str} {c : Value} {ts : Addr → Value → Option Addr → TS} {b₀ : Stmt} {suite : List Stmt} {np pos' : Pos} {hds : List ExceptHandler} {l : Clz} (hc : Names X x c)
      (hsu : ∀ (a : Addr) (oe : Obj) (cls : Value) (d : Option Addr) (pn : List (Addr × Obj)), Zc cls d oe → (∃ vs, oe.data = .fields vs) → PSs (X.suite a ((a, oe) :: pn)) (b₀ :: suite) (ts a cls d)) (r : ClOk X hds l) :
      ClOk X (.ExceptHandler (some (.Name x np)) none (b₀ :: suite) pos' :: hds) ((c, none, ts) :: l)
  | named {x n : Str} {i : Nat} {c : Value} {ts : Addr → Value → Option Addr → TS} {b₀ : Stmt} {suite : List Stmt} {np pos' : Pos} {hds : List ExceptHandler} {l : Clz} (hi : X.N[i]? = some n) (hln : X.env.kindOf n = some .local) (hc : Names X x c)
      (hsu : ∀ (a : Addr) (oe : Obj) (cls : Value) (d : Option Addr) (pn : List (Addr × Obj)), Zc cls d oe → (∃ vs, oe.data = .fields vs) → PSs (X.suite a ((a, oe) :: pn)) (b₀ :: suite) (ts a cls d)) (r : ClOk X hds l) :
      ClOk X (.ExceptHandler (some (.Name x np)) (some n) (b₀ :: suite) pos' :: hds) ((c, some i, ts) :: l)
section
variable {X : Cx} {body : List Stmt} {h₀ : ExceptHandler} {hds : List ExceptHandler} {l : Clz} {pos : Pos} {tb : WX → TS} {Wout : WX}
/-- the clauses are gone through -/
theorem clauses_ok {pins : List (Addr × Obj)} {s' sI : Shared} {h3 B : Heap} {a : Addr} {cls : Value} {d : Option Addr} {σ' : L2.St} {H' : Hp} {D : Ends} (ok : X.Ok) (hs : X.stack = X.env :: X.outer) (hf : X.env.frame = some X.env.locals) (hN : X.N.Nodup) (tk : Takes X Wout)
    (J : Inv X pins σ' H' sI) (nb : ∀ b o, sI.heap.get? b = some o → b ∉ frs X.stack → B.get? b = some o) (up : sI.heap.UpToSlots s'.heap) (na : H' a = none) (os : s'.os = sI.os) (ag : AllBare s'.gens)
    (fl3 : HandSPX.FlyingZ B (X.env :: X.outer) a (Zc cls d) h3) (up3 : s'.heap.UpToSlots h3) : ∀ {hds : List ExceptHandler} {l : Clz}, ClOk X hds l → wCl X.K Wout D l cls d σ' H' →
      wpAny (model X.prog X.w) X.A (handleBy (.ref a) X.env hds) (SP X pins D) X.xe { s' with heap := h3 } := by
  have J3 : Inv X pins σ' H' { s' with heap := h3 } := J.landed nb fl3.1 (up.trans up3) os ag
  obtain ⟨oe3, vs3, he3, hz3, hd3⟩ := fl3.there
  have nfr : a ∉ frs (X.env :: X.outer) := fun hm => by
    obtain ⟨_, o', e', hnf⟩ := fl3.2.2.1.mem hm
    rw [he3] at e'; cases e'
    exact hnf _ hd3
  have nL : a ≠ X.env.locals := fun z => nfr (List.mem_filterMap.mpr ⟨X.env, List.mem_cons_self, by rw [hf, z]⟩)
  have nF : a ∉ X.fs := fun hm => by
    obtain ⟨e, he, q⟩ := List.mem_filterMap.mp hm
    exact nfr (List.mem_filterMap.mpr ⟨e, List.mem_cons_of_mem _ he, q⟩)
  have S3 := J3.suite he3 hd3 na nL nF
  have LT : PySem.W.Looks (model X.prog X.w) h3 (typeOf (.ref a)) cls := fun A Q E s k q => wpAny_typeOf_ref (k _ _ he3) (by rw [hz3.1]; exact q)
  have test : ∀ {x : Str} {c : Value} {np : Pos} {Q : Value → Shared → Prop} {E : Value → Shared → Prop}, Names X x c → Q c { s' with heap := h3 } → wpAny (model X.prog X.w) (X.A.mark (some (.ref a))) (eval (.Name x np) X.env) Q E { s' with heap := h3 } := fun {x c np Q E} hc q => by
    obtain ⟨hg, hdbg, hm | ⟨hm, hv, hnn⟩⟩ := hc
    · exact ld_glob (X := X.suite a ((a, oe3) :: (X.pn ++ pins))) S3 hg hm q hdbg
    · exact ld_blt (X := X.suite a ((a, oe3) :: (X.pn ++ pins))) S3 hg hm hv q hnn hdbg
  intro hds l hk
  induction hk with
  | nil =>
    intro w
    refine wpAny_handleBy_nil ?_
    obtain ⟨k1, k2, k3, oe, vs, T, oT, ts', he, hz, hd, h1, hr⟩ := id fl3
    unfold PySem.passOn
    refine wpAny_bind (wpAny_field he hd h1 ?_)
    rw [if_neg (show ¬ ((Value.ref T == Value.none) = true) from by simp)]
    have fin : wpAny (model X.prog X.w) X.A (setFlight (.ref a) X.env.frame) (fun _ s4 => wpAny (model X.prog X.w) X.A (throw (.ref a) : Sem Flow) (SP X pins D) X.xe s4) X.xe { s' with heap := h3 } := by
      rw [hf]
      refine HandSPX.setFlight_upZ fl3 fun h4 hh4 up4 => wpAny_throw (tk _ _ ?_)
      exact ⟨a, B, sI, pins, σ', H', cls, d, rfl, J, nb, (up.trans up3).trans up4, .inr (.inr (by rw [hs]; exact hh4)), na, os, ag, w⟩
    first
      | exact wpAny_bind (wpAny_pure (wpAny_bind fin))
      | exact wpAny_bind fin
  | @bare x c ts b₀ suite np pos' hds2 l2 hc hsu r ih =>
    intro w
    obtain ⟨b, hb1, hyes, hno⟩ := w
    refine wpAny_handleBy_cons (codeAny_handlers_test ?_) (by intro q; cases q)
    refine test hc ((PySem.W.exm_one (M := model X.prog X.w) (J3.kIn) LT hb1).here ?_)
    cases b with
    | false => exact ih (hno rfl)
    | true =>
      refine codeAny_handlers_suite (HandSPX.lands_againZ fl3 fun h4 fl4 up4 => ?_)
      have J4 : Inv X pins σ' H' { s' with heap := h4 } := J.landed nb fl4.1 ((up.trans up3).trans up4) os ag
      obtain ⟨oe4, vs4, he4, hz4, hd4⟩ := fl4.there
      refine wpAny_mono ((hsu a oe4 cls d (X.pn ++ pins) hz4 ⟨_, hd4⟩).run [] _ _ H' _ (J4.suite he4 hd4 na nL nF) (hyes rfl a na)) (fun f s6 hsp => ?_) (fun _ _ z => False.elim z)
      cases f <;> first
        | (obtain ⟨σ6, H6, S6, q6⟩ := hsp; exact ⟨_, _, S6.unsuite ok, q6⟩)
        | (obtain ⟨v6, σ6, H6, S6, r6, q6⟩ := hsp; exact ⟨_, _, _, S6.unsuite ok, r6, q6⟩)
  | @named x n i c ts b₀ suite np pos' hds2 l2 hi hln hc hsu r ih =>
    intro w
    obtain ⟨b, hb1, hyes, hno⟩ := w
    refine wpAny_handleBy_cons (codeAny_handlers_test ?_) (by intro q; cases q)
    refine test hc ((PySem.W.exm_one (M := model X.prog X.w) (J3.kIn) LT hb1).here ?_)
    cases b with
    | false => exact ih (hno rfl)
    | true =>
      refine codeAny_handlers_suite_as (HandSPX.lands_againZ fl3 fun h4 fl4 up4 => ?_)
      have J4 : Inv X pins σ' H' { s' with heap := h4 } := J.landed nb fl4.1 ((up.trans up3).trans up4) os ag
      obtain ⟨oe4, vs4, he4, hz4, hd4⟩ := fl4.there
      refine store_ok (X := X.suite a ((a, oe4) :: (X.pn ++ pins))) (v := .ref a) (J4.suite he4 hd4 na nL nF) hN hi (.inl hln) rfl (fun s5 S5 => ?_) (.inr hln)
      refine wpAny_mono ((hsu a oe4 cls d (X.pn ++ pins) hz4 ⟨_, hd4⟩).run [] s5 _ H' _ S5 (hyes rfl a na)) (fun f s6 hsp => ?_) (fun _ _ z => False.elim z)
      have end_ : ∀ {σ6 : L2.St} {H6 : Hp} {Q : Shared → Prop}, Inv (X.suite a ((a, oe4) :: (X.pn ++ pins))) [] σ6 H6 s6 → (∀ s7, Inv X pins (σ6.set i none) H6 s7 → Q s7) →
          wpAny (model X.prog X.w) X.A (do bindName X.env n .none; unbindBehindTheSuite X.env n pos') (fun _ s7 => Q s7) X.xe s6 := fun {σ6 H6 Q} S6 hq => gone_ok (S6.unsuite ok) hN hi hln hq
      cases f <;> first
        | (obtain ⟨σ6, H6, S6, q6⟩ := hsp; exact end_ S6 fun s7 J7 => ⟨_, _, J7, q6⟩)
        | (obtain ⟨v6, σ6, H6, S6, r6, q6⟩ := hsp; exact end_ S6 fun s7 J7 => ⟨_, _, _, J7, r6, q6⟩)
theorem ps_try_cl (hs : X.stack = X.env :: X.outer) (hf : X.env.frame = some X.env.locals) (hN : X.N.Nodup) (tk : Takes X Wout)
    (hb : ∀ (W : WX) (pn : List (Addr × Obj)) (xe : Value → Shared → Prop), Takes (X.tr pn xe) W → PassesOwn (model X.prog X.w) X.A X.env xe → PSs (X.tr pn xe) body (tb W))
    (hh : ClOk X (h₀ :: hds) l) : PS X (.Try body (h₀ :: hds) [] [] pos) (fun D σ H => tb (wCl X.K Wout D l) D σ H) := by
  refine ⟨fun pins s σ H D I h => ?_⟩
  have ok := I.ok
  have hfr : X.A.frames = some (X.env :: X.outer) := by rw [ok.frames, hs]
  refine wpAny_Try_except ?_
  refine wpAny_mono ((hb (wCl X.K Wout D l) (X.pn ++ pins) (fun e s₁ => wpAny (model X.prog X.w) X.A (noteFrame e X.env) (fun _ s₂ => wpAny (model X.prog X.w) X.A (setFlight e none) (fun _ s₃ =>
    wpAny (model X.prog X.w) X.A (handleBy e X.env (h₀ :: hds)) (SP X pins D) X.xe s₃) X.xe s₂) X.xe s₁) (fun u s' xx => ?_) PassesOwn.looking).run [] s σ H D (I.toTry _) h) (fun f s1 hsp => ?_) (fun e s1 he => he)
  · obtain ⟨a, B, sI, pins', σ', H', cls, d, rfl, J', nb, up, sky, na, os, ag, w⟩ := xx
    have sky' : Sky B (X.env :: X.outer) a (Zc cls d) X.env.locals s'.heap := by rw [← hs]; exact sky
    exact Sky.land Zc.steady hfr hf sky' fun h3 fl3 up3 => clauses_ok ok hs hf hN tk (J'.ofTry ok) nb up na os ag fl3 up3 hh w
  · cases f with
    | next => obtain ⟨σ', H', J', q⟩ := hsp; exact wpAny_execs_nil ⟨σ', H', J'.ofTry ok, q⟩
    | brk => obtain ⟨σ', H', J', q⟩ := hsp; exact ⟨σ', H', J'.ofTry ok, q⟩
    | cont => obtain ⟨σ', H', J', q⟩ := hsp; exact ⟨σ', H', J'.ofTry ok, q⟩
    | ret u => obtain ⟨v, σ', H', J', r, q⟩ := hsp; exact ⟨v, σ', H', J'.ofTry ok, r, q⟩
end
end Fx
end
section
set_option linter.all false
set_option Elab.async false
set_option maxRecDepth 100000
set_option maxHeartbeats 4000000
/-! raise and try, as the language has them. -/
namespace Fx
open PySem PySem.Spec L2
variable {T : Nm} {W : WX} {X : Cx} {σ : St} {M : Lv} {g : G} {Φ : Fn} {wr : List Nat}

/-- what an error's own __init__ keeps: self.f = value -/
def spI (K : PySem.W.Frag) (f : Str) : Sp := fun vs H Q E => ∃ (a C : Addr) (y : V), vs = [.ref a, y] ∧ OexC K C ∧ PySem.W.findIn K (.ref C) f = some none ∧ H a = some (exo a C none) ∧
  ∀ dx, H dx = none → dx ≠ a → Q .non (upd (upd H dx (exd dx [(f, y)])) a (exo a C (some dx)))
structure XCls (T : Nm) (K : PySem.W.Frag) (c : Nat) : Prop where
  oc : OexC K (T.xcls c)
  xf : XfC K (T.xcls c)
  no : PySem.W.findIn K (.ref (T.xcls c)) (T.xfld c) = some none
structure XMk (T : Nm) (X : Cx) (c : Nat) : Prop where
  cl : XCls T X.K c
  ok : ∃ k fI fd ps, PySem.W.findIn X.K (.ref (T.xcls c)) "__init__" = some (some (.ref fI)) ∧ PySem.W.typeIn X.K (.ref fI) = some (.type "function") ∧
    FnOk X.prog X.w X.K X.mg X.base (L2.CX X.prog X.w) k fI fd ps (spI X.K (T.xfld c)) ∧ Room (k + 1) X.A ∧ Binds X.K fd ps []
theorem passes_false : Passes (L2.CX X.prog X.w) X (fun _ _ _ => False) := fun pins σ H s e s' I h => by
  obtain ⟨_, _, _, _, _, _, _, _, _, _, _, _, q⟩ := h
  exact q.elim
theorem ps_raiF {c : Nat} {x : Str} {e : Expr} {p pos pos2 : Pos} {m : Env → Res D} (hc : X.calm = true) (tk : Takes X W) (kn : XMk T X c) (hg : Gl X x) (hm : X.mg x = some (.ref (T.xcls c))) (he : PE X e (tD T W m)) (h1 : Ex.star e = false) (hdb : (x == ("__debug__" : Str)) = false) :
    PS X (.Raise (some (.Call (.Name x p) [e] [] pos)) none pos2) (tS T W wr fun ρ => (m ρ).thn fun d ρ => .exc c d ρ) := by
  obtain ⟨k, fI, fd, ps, iC, tI, F1, hr, hb⟩ := kn.ok
  refine (ps_raise hc tk (pmk_oex (ds := []) (dvs := []) kn.cl.oc iC tI F1 hr hb .nil passes_false hg hm (pa_cons he pa_nil (star_cons [] _ h1)) hdb (star_cons [] _ h1) rfl)).imp fun D σ H q => ?_
  obtain ⟨F, M, ρ, cf, q⟩ := q
  refine ⟨F, M, ρ, cf, (SOut.thn q).imp fun d ρ1 k v F1 H1 cf1 => ⟨by simp, fun a na => ?_⟩⟩
  refine ⟨a, T.xcls c, v, rfl, kn.cl.oc, kn.cl.no, upd_same, fun dx nd ne => ⟨rfl, dx, _, upd_same, (upd_ne ne).trans upd_same, ?_, ?_⟩⟩
  · rw [← nd, upd_ne ne]
  · have nd1 : H1 dx = none := by rw [← nd, upd_ne ne]
    have rv := cf1.rp
    refine k σ .refl v dx F1 _ (cf1.tail.grow fun b o e => ?_) upd_same rv
    have n1 : b ≠ a := ne_of_none e na
    have n2 : b ≠ dx := ne_of_none e nd1
    rw [upd_ne n2, del_ne n1, upd_ne n1, upd_ne n2, upd_ne n1]
    exact e
/-! ### except suites -/
section
variable {a : Addr} {oe : Obj} {cls : Value} {dd : Option Addr} {pn : List (Addr × Obj)}
/-- the error's field, read in the suite -/
def tXA (T : Nm) (nx : Nat) (a : Addr) (cls : Value) (dd : Option Addr) (i : Nat) (n : Str) : TE := fun σ H Q => ∃ c v da, c < nx ∧ T.xfld c = n ∧ cls = .ref (T.xcls c) ∧ dd = some da ∧ H da = some (.xd [(n, v)]) ∧ σ[i]? = some (some (.ref a)) ∧ Q v H
theorem pe_xA {nx i : Nat} {x n : Str} {p pos : Pos} (XA : ∀ c, c < nx → XCls T X.K c) (hz : Zc cls dd oe) (hf : ∃ vs, oe.data = .fields vs) (hv : PE (X.suite a ((a, oe) :: pn)) (.Name x p) (tVar i)) :
    PE (X.suite a ((a, oe) :: pn)) (.Attribute (.Name x p) n pos) (tXA T nx a cls dd i n) := by
  refine ⟨fun pins s σ H Q I h => ?_⟩
  obtain ⟨c, v, da, hc, rfl, rfl, rfl, hda, hi, q⟩ := h
  exact (pe_xf (XA c hc).xf (XA c hc).no hz hf hv (att_plain rfl)).run pins s σ H Q I ⟨_, hi, rfl, rfl, da, _, v, rfl, hda, by simp [List.lookup], q⟩
/-- a suite's reading: the error's class and its one field are known -/
def tH (T : Nm) (g : G) (a : Addr) (cls : Value) (dd : Option Addr) (o : Option Nat) (h : HE) : TS := fun D σ H => ∃ c d v da r F L, c < g.nx ∧ cls = .ref (T.xcls c) ∧ dd = some da ∧ H da = some (.xd [(T.xfld c, v)]) ∧ (∀ i, o = some i → σ[i]? = some (some (.ref a))) ∧ h.ev g c d = some r ∧
  Reps T F H ((.val d, v) :: L) ∧ ∀ w F' H', Reps T F' H' ((.val r, w) :: L) → D.rt w H'
theorem pss_hC {e : Expr} {pos : Pos} {v : V} {x : D} {o : Option Nat} (he : PE (X.suite a ((a, oe) :: pn)) e (tC v)) (r : ∀ F, Rp T F v x) : PSs (X.suite a ((a, oe) :: pn)) [.Return (some e) pos] (tH T g a cls dd o (.cst x)) := by
  refine (pss_one (ps_ret he)).imp fun D σ H q => ?_
  obtain ⟨c, d, w, da, r', F, L, _, _, _, _, _, e, rp, k⟩ := q
  cases e
  exact k v F H (rp.tail.val (r F))
theorem pss_hF {nx i : Nat} {x n : Str} {p pos pos2 : Pos} (hnx : g.nx = nx) (hxf : g.xf = T.xfld) (XA : ∀ c, c < nx → XCls T X.K c) (hz : Zc cls dd oe) (hf : ∃ vs, oe.data = .fields vs) (hv : PE (X.suite a ((a, oe) :: pn)) (.Name x p) (tVar i)) :
    PSs (X.suite a ((a, oe) :: pn)) [.Return (some (.Attribute (.Name x p) n pos)) pos2] (tH T g a cls dd (some i) (.fld n)) := by
  refine (pss_one (ps_ret (pe_xA (nx := nx) XA hz hf hv))).imp fun D σ H q => ?_
  obtain ⟨c, d, w, da, r', F, L, h1, h2, h3, h4, h5, e, rp, k⟩ := q
  have e : (if g.xf c = n then some d else none) = some r' := e
  split at e
  · rename_i hn
    cases e
    rw [hxf] at hn
    subst hn
    exact ⟨c, w, da, by rw [← hnx]; exact h1, rfl, h2, h3, h4, h5 i rfl, k w F H rp⟩
  · cases e
theorem pss_hP {nx i k1 : Nat} {x n : Str} {p pos pos2 pos3 : Pos} {ec : Expr} {v0 : V} {x0 : D} (hnx : g.nx = nx) (hxf : g.xf = T.xfld) (XA : ∀ c, c < nx → XCls T X.K c) (hz : Zc cls dd oe) (hf : ∃ vs, oe.data = .fields vs) (hv : PE (X.suite a ((a, oe) :: pn)) (.Name x p) (tVar i))
    (he : PE (X.suite a ((a, oe) :: pn)) ec (tC v0)) (r0 : ∀ F, Rp T F v0 x0) (hst : Ex.star ec = false) :
    PSs (X.suite a ((a, oe) :: pn)) [.Return (some (.Tuple [ec, .Attribute (.Name x p) n pos] k1 pos3)) pos2] (tH T g a cls dd (some i) (.pair x0 n)) := by
  refine (pss_one (ps_ret (pe_tup (pa_cons he (pa_cons (pe_xA (nx := nx) (n := n) (pos := pos) XA hz hf hv) pa_nil (star_cons [] _ rfl)) (star_cons [_] _ hst))))).imp fun D σ H q => ?_
  obtain ⟨c, d, w, da, r', F, L, h1, h2, h3, h4, h5, e, rp, k⟩ := q
  have e : (if g.xf c = n then some (Fx.D.tup [x0, d]) else none) = some r' := e
  split at e
  · rename_i hn
    cases e
    rw [hxf] at hn
    subst hn
    refine ⟨c, w, da, by rw [← hnx]; exact h1, rfl, h2, h3, h4, h5 i rfl, (by rw [← line_eq]; show 2 ≤ 16777216; omega), fun q nq => ?_⟩
    obtain ⟨rp2, s2⟩ := rp.newF (o := .tup [v0, w]) nq
    exact k _ _ _ (rp2.tail.val (.tup (.inl (.inl upd_same)) (.cons (r0 _) (.cons rp2.rp .nil))))
  · cases e
end
/-! ### try -/
theorem ps_tryF {body : List Stmt} {h₀ : ExceptHandler} {hds : List ExceptHandler} {hl : List Hd} {mb : Env → SRes} {pos : Pos} (hs : X.stack = X.env :: X.outer) (hf : X.env.frame = some X.env.locals) (hN : X.N.Nodup) (tk : Takes X W)
    (hb : ∀ (W : WX) (pn : List (Addr × Obj)) (xe : Value → Shared → Prop), Takes (X.tr pn xe) W → PassesOwn (model X.prog X.w) X.A X.env xe → PSs (X.tr pn xe) body (tS T W wr mb))
    (hh : ClOk X (h₀ :: hds) (hl.map fun h => (.ref (T.xcls h.c), h.slot, fun a cls dd => tH T g a cls dd h.slot h.ret)))
    (hx : ∀ h ∈ hl, ∀ c, c < g.nx → PySem.W.exmOne X.K (.ref (T.xcls c)) (.ref (T.xcls h.c)) = some (g.isa c h.c)) (hw : ∀ h ∈ hl, ∀ i, h.slot = some i → i ∈ wr) (hn : ∀ h ∈ hl, ∀ i, h.slot = some i → i < X.N.length) :
    PS X (.Try body (h₀ :: hds) [] [] pos) (tS T W wr fun ρ => match mb ρ with
      | .exc c d ρ' => evHs g hl c d ρ'
      | x => x) := by
  refine (ps_try_cl (tb := fun W => tS T W wr mb) hs hf hN tk hb hh).impL fun D σ H hlen q => ?_
  obtain ⟨F, M, ρ, cf, q⟩ := q
  refine ⟨F, M, ρ, cf, ?_⟩
  dsimp only at q
  cases z : mb ρ with
  | nx ρ1 => rw [z] at q; exact q
  | rt r ρ1 => rw [z] at q; exact q
  | bk ρ1 => rw [z] at q; exact q
  | ct ρ1 => rw [z] at q; exact q
  | stuck => rw [z] at q; exact q
  | exc c d ρ1 =>
    rw [z] at q
    have q : SOut T W wr M (evHs g hl c d ρ1) D σ := q
    intro σ1 ag v da F1 H1 cf1 hda rv
    clear hh
    show wCl X.K W D _ _ _ _ _
    induction hl with
    | nil => exact q σ1 ag v da F1 H1 cf1 hda rv
    | cons h hl ih =>
      unfold evHs at q
      by_cases hc : c < g.nx
      · rw [if_pos hc] at q
        refine ⟨g.isa c h.c, hx h (by simp) c hc, fun yes a na => ?_, fun no => ?_⟩
        · rw [if_pos yes] at q
          cases ev : h.ret.ev g c d with
          | none => rw [ev] at q; exact q.elim
          | some r =>
            rw [ev] at q
            obtain ⟨L, sl, rp⟩ := cf1
            refine ⟨c, d, v, da, r, F1, M ++ L, hc, rfl, rfl, hda, fun i e => ?_, ev, rp.val rv, fun w F' H' rp' => ?_⟩
            · rw [e]
              show (σ1.set i _)[i]? = _
              rw [List.getElem?_set_self (by rw [ag.1, hlen]; exact hn h (by simp) i e)]
            · have cf2 : Cf T F' H' ((.val r, w) :: M) ρ1 σ1 := ⟨L, sl, rp'⟩
              cases e : h.slot with
              | none =>
                rw [e] at q
                exact q σ1 w F' H' ag cf2
              | some i =>
                rw [e] at q
                exact q (σ1.set i none) w F' H' (ag.trans (.set (hw h (by simp) i e))) (cf2.forget none)
        · rw [if_neg (by rw [no]; exact Bool.false_ne_true)] at q
          exact ih (fun h' m => hx h' (List.mem_cons_of_mem _ m)) (fun h' m => hw h' (List.mem_cons_of_mem _ m)) (fun h' m => hn h' (List.mem_cons_of_mem _ m)) q q
      · rw [if_neg hc] at q; exact q.elim
end Fx
end
section
set_option linter.all false
set_option Elab.async false
set_option maxRecDepth 100000
set_option maxHeartbeats 4000000
/-! Chains, constants of the module, minus, [::-1], == of instances. -/
namespace HT
open PySem PySem.Spec PyProof.Rows
section
variable {prog : Program} {w : World} {A : Around} {E : Value → Shared → Prop} {s : Shared}
theorem fx_fmc {α β : Type} {f g : α → Option β} : ∀ {l : List α}, (∀ x ∈ l, f x = g x) → l.filterMap f = l.filterMap g
  | [], _ => rfl
  | x :: l, h => by
    simp only [List.filterMap_cons]
    rw [h x (by simp), fx_fmc fun y hy => h y (by simp [hy])]
theorem fx_places (n : Nat) : Builtin.Slice.slicePlaces ((n : Int) - 1) (-1) (-1) = n := by
  unfold Builtin.Slice.slicePlaces
  rw [if_neg (by decide)]
  by_cases h : (n : Int) - 1 > -1
  · rw [if_pos h]
    have e : ((n : Int) - 1 - -1 - 1) / (- -1) + 1 = (n : Int) := by
      rw [show (- -1 : Int) = 1 by decide, Int.ediv_one]; omega
    rw [e]; simp
  · rw [if_neg h]; omega
theorem fx_pick (xs : Array Value) : ((List.range xs.size).filterMap fun (k : Nat) => xs[((xs.size : Int) - 1 + (k : Int) * (-1)).toNat]?).toArray = xs.toList.reverse.toArray := by
  have e : (fun (k : Nat) => xs[((xs.size : Int) - 1 + (k : Int) * (-1)).toNat]?) = fun (k : Nat) => xs[((xs.size : Int) - 1 - (k : Int)).toNat]? := by
    funext k
    rw [show (xs.size : Int) - 1 + (k : Int) * (-1) = (xs.size : Int) - 1 - (k : Int) by omega]
  rw [e]
  congr 1
  have h := PySem.W.krv_all xs
  have h2 : (List.range xs.size).filterMap (fun (k : Nat) => xs[((xs.size : Int) - 1 - (k : Int)).toNat]?) = ((List.range xs.size).map (fun k => xs.size - 1 - k)).filterMap (xs[·]?) := by
    rw [List.filterMap_map]
    refine fx_fmc fun k hk => ?_
    have := List.mem_range.mp hk
    show xs[_]? = xs[xs.size - 1 - k]?
    congr 1
    omega
  rw [h2, PySem.W.krv_range, List.filterMap_reverse, h]
theorem fx_getItem_rev {t sl : Addr} {items : Array Value} {vs : Value} {Q : Value → Shared → Prop} (ht : IsTup s.heap t items) (hs : s.heap.IsSliceOf sl .none .none vs) (ps : IsPart vs (some (-1)))
    (h : Q (.ref s.heap.objs.size) { s with heap := s.heap.push { cls := .type "tuple", data := .seq items.toList.reverse.toArray } }) (hsz : items.size ≤ sizeLine) : wpAny (model prog w) A (getItem (.ref t) (.ref sl)) Q E s := by
  have htake : sizeOk (.seq items.toList.reverse.toArray) := by
    show items.toList.reverse.toArray.size ≤ sizeLine
    rw [List.size_toArray, List.length_reverse, Array.length_toList]
    exact hsz
  obtain ⟨os, hos, hcs, hds⟩ := id hs
  have hTs : s.TypeIs (.ref sl) "slice" := ⟨os, hos, hcs⟩
  unfold getItem
  try with_reducible refine wpAny_holding ?_
  first | refine wpAny_bind (wpAny_pure ?_) | skip
  refine wpAny_bind (wpAny_sequenceKey ht.typeIs (by decide) ?_)
  refine wpAny_bind (wpAny_callSpecial?_slot (name := Str.ofString "__getitem__") ht.typeIs PyProof.Rows.slot_tuple_getitem
    (wpAny_call_entry PyProof.Rows.slot_tuple_getitem ht.typeIs entry_tuple_getitem ?_ (args_tuple_getitem _ _)))
  show wpAny _ _ (Builtin.Tuple.tupleItemsOf (.ref t) >>= _) _ _ s
  refine wpAny_bind (tupleItemsOf_ ht ?_)
  refine wpAny_bind (wpAny_typeOf hTs ?_)
  rw [if_pos (by decide)]
  have ap : ∀ {Q : Int × Int × Nat → Shared → Prop} {E : Value → Shared → Prop}, Q ((items.size : Int) - 1, -1, items.size) s → wpAny (model prog w) A.in1 (Builtin.Slice.sliceApplied (.ref sl) (pure (items.size : Int))) Q E s := by
    intro Q E h
    unfold Builtin.Slice.sliceApplied Builtin.Slice.sliceFields
    refine wpAny_bind (wpAny_bind (wpAny_field hos hds (x := .none) rfl (wpAny_bind (wpAny_field hos hds (x := .none) rfl (wpAny_bind (wpAny_field hos hds (x := vs) rfl (wpAny_pure ?_)))))))
    refine wpAny_bind (slicePart_ ps ?_)
    show wpAny _ _ (if ((-1 : Int) == 0) = true then _ else _) _ _ s
    rw [if_neg (by decide)]
    refine wpAny_bind (slicePart_none (wpAny_bind (slicePart_none (wpAny_bind (wpAny_pure ?_)))))
    show wpAny _ _ (pure ((items.size : Int) - 1, (-1 : Int), Builtin.Slice.slicePlaces ((items.size : Int) - 1) (-1) (-1))) _ _ s
    rw [fx_places]
    exact wpAny_pure h
  first
    | refine wpAny_bind (ap ?_)
    | exact ap ?_
  have hno : ¬ ((((items.size : Int) - 1) == 0 && (-1 : Int) == 1 && items.size == items.size) = true) := by
    intro q
    rw [Bool.and_eq_true, Bool.and_eq_true] at q
    exact absurd q.1.2 (by decide)
  show wpAny _ _ (if (((items.size : Int) - 1) == 0 && (-1 : Int) == 1 && items.size == items.size) = true then _ else _) _ _ s
  rw [if_neg hno, fx_pick]
  first
    | exact wpAny_bind (m := Builtin.Tuple.tupleExact _) (wpAny_newObj_type (wpAny_pure ⟨_, rfl, wpAny_pure h⟩) htake)
    | exact wpAny_bind (m := Builtin.Tuple.tupleExact _) (wpAny_newObj_type (wpAny_bind (wpAny_pure (wpAny_pure ⟨_, rfl, wpAny_pure h⟩))) htake)
    | exact wpAny_bind (wpAny_bind (m := Builtin.Tuple.tupleExact _) (wpAny_newObj_type (wpAny_pure (wpAny_pure ⟨_, rfl, wpAny_pure h⟩)) htake))
    | exact wpAny_bind (wpAny_bind (m := Builtin.Tuple.tupleExact _) (wpAny_newObj_type (wpAny_pure ⟨_, rfl, wpAny_pure h⟩) htake))
end
end HT

namespace Fx
open PySem PySem.Spec L2
variable {T : Nm} {W : WX} {X : Cx} {σ : St} {M : Lv} {g : G} {Φ : Fn}
/-! ### [::-1] -/
def tRevA (K : PySem.W.Frag) (te : TE) : TE := fun σ H Q => te σ H fun x H1 => ∃ a xs, x = .ref a ∧ ((SqL K H1 a xs ∧ ∀ p, H1 p = none → Q (.ref p) (upd H1 p (.lst xs.reverse))) ∨ (SqT K H1 a xs ∧ ∀ p, H1 p = none → Q (.ref p) (upd H1 p (.tup xs.reverse))))
theorem pe_revA {e : Expr} {te : TE} {k : Nat} {p1 p2 p3 pos : Pos} (he : PE X e te) : PE X (.Subscript e (.Slice none none (some (.UnaryOp .USub (.Constant (.int 1) k p1) p2)) p3) pos) (tRevA X.K te) := by
  refine ⟨fun pins s σ H Q I h => ?_⟩
  refine PyProof.Rows.Subscript_ (thn (he.run pins s σ H _ I h) fun v s1 ⟨x, H1, I1, r1, q1⟩ => ?_)
  obtain ⟨a, xs, ex, q⟩ := q1
  subst ex
  cases r1
  have hst : PO X (some (.UnaryOp .USub (.Constant (.int 1) k p1) p2)) (tPart (tUn (rU fun i => .int (-i)) (tC (.int 1)))) := po_some (pe_un un_neg pe_int)
  refine wpAny_Slice (thn (po_none.run pins s1 σ H1 (fun o H2 => o = none ∧ H2 = H1) I1 ⟨rfl, rfl⟩) fun vl s2 ⟨l, H2, I2, pl, el, e2⟩ => ?_)
  subst el e2
  refine thn (po_none.run pins s2 σ H2 (fun o H3 => o = none ∧ H3 = H2) I2 ⟨rfl, rfl⟩) fun vu s3 ⟨u, H3, I3, pu, eu, e3⟩ => ?_
  subst eu e3
  refine thn (hst.run pins s3 σ H3 (fun o H4 => o = some (-1) ∧ H4 = H3) I3 ⟨1, rfl, -1, rfl, rfl, rfl⟩) fun vs s4 ⟨o, H4, I4, ps, eo, e4⟩ => ?_
  subst eo e4
  have I5 : Inv X pins σ H4 { s4 with heap := s4.heap.push { cls := .type "slice", data := .fields #[vl, vu, vs] } } := I4.kept (t' := s4.toks) fun b ob q => Heap.get?_push_of_some _ q
  show wpAny (model X.prog X.w) X.A (PyProof.Rows.subscriptTail e (.Slice none none (some (.UnaryOp .USub (.Constant (.int 1) k p1) p2)) p3) (.ref a) (.ref s4.heap.objs.size)) (EP X pins σ Q) X.xe { s4 with heap := s4.heap.push { cls := .type "slice", data := .fields #[vl, vu, vs] } }
  rcases q with ⟨hx, q⟩ | ⟨hx, q⟩
  · obtain ⟨its, r, ht, hz⟩ := I5.list hx
    have hlen := r.length
    refine PyProof.Rows.tail_any (ops := [.ref a, .ref s4.heap.objs.size]) ht.isList.typeIs (PySem.slot_list_getitem.lookup) ?_ (by with_unfolding_all rfl)
    refine wpAny_getItem_list_slice ht.isList (Heap.IsSliceOf.new _ vl vu vs) pl pu ps (by decide) ?_ (by rw [List.size_toArray]; omega)
    rw [PySem.W.krv_pick]
    refine ⟨.ref _, _, I5.laid (t' := s4.toks) (o := .lst xs.reverse) (fun b ob q => Heap.get?_push_of_some _ q) (Nat.le_refl _) ?_, rfl, q _ (I5.hok.fresh (Nat.le_refl _))⟩
    exact ⟨by rw [List.length_reverse]; exact hz, _, 0, r.reverse, Heap.get?_push_size _ rfl⟩
  · obtain ⟨its, r, ht, hz⟩ := I5.tuple hx
    have hlen := r.length
    cases pl
    cases pu
    refine PyProof.Rows.tail_any (ops := [.ref a, .ref s4.heap.objs.size]) ht.typeIs (PyProof.Rows.slot_tuple_getitem.lookup) ?_ (by with_unfolding_all rfl)
    refine HT.fx_getItem_rev ht (Heap.IsSliceOf.new _ .none .none vs) ps ?_ (by rw [List.size_toArray]; omega)
    refine ⟨.ref _, _, I5.laid (t' := s4.toks) (o := .tup xs.reverse) (fun b ob q => Heap.get?_push_of_some _ q) (Nat.le_refl _) ?_, rfl, q _ (I5.hok.fresh (Nat.le_refl _))⟩
    exact ⟨by rw [List.length_reverse]; exact hz, _, r.reverse, ⟨_, Heap.get?_push_size _ rfl, rfl, _, rfl⟩⟩
theorem pe_revF {a : Expr} {k : Nat} {p1 p2 p3 pos : Pos} {ea : Env → Res Ar} (hK : KW X T) (ha : PE X a (tAr T W ea)) :
    PE X (.Subscript a (.Slice none none (some (.UnaryOp .USub (.Constant (.int 1) k p1) p2)) p3) pos) (tM T W (one_ T.flds (fun x ρ => optR (revD x) ρ) ea)) := by
  refine (pe_revA ha).imp fun σ H Q h => ?_
  refine tAr_one (f := fun x ρ => optR (revD x) ρ) (K := fun M r ρ' => ∀ v F' H', Cf T F' H' ((r, v) :: M) ρ' σ → Q v H') h fun F M ρ H x dx cf rx q => ?_
  obtain ⟨r, e, k⟩ := tM_new cf q
  cases dx with
  | tup ds =>
    have rx' : Rp T F x (.tup ds) := rx
    cases rx' with
    | @tup a xs _ t rr =>
      cases e
      exact ⟨a, xs, rfl, .inr ⟨by rw [hK.1]; exact same_sqT cf.sub t, fun p np => k _ _ (.inr (.inl ⟨p, _, _, rfl, rfl, np, rfl, rr.rev⟩))⟩⟩
  | lst ds =>
    obtain ⟨a, xs, rfl, t, rr⟩ := rx
    cases e
    exact ⟨a, xs, rfl, .inl ⟨(by rw [hK.1]; exact t), fun p np => k _ _ ⟨p, _, rfl, np, rfl, rr.rev⟩⟩⟩
  | _ => cases e
/-! ### minus, constants of the module -/
theorem pe_negF {a : Expr} {pos : Pos} {m : Env → Res D} (ha : PE X a (tD T W m)) : PE X (.UnaryOp .USub a pos) (tM T W fun ρ => (m ρ).bind fun x ρ => match x with
    | .int i => .ok (.val (.int (-i))) ρ
    | _ => .stuck) := by
  refine (pe_un un_neg ha).imp fun σ H Q h => ?_
  obtain ⟨F, M, ρ, cf, q⟩ := h
  refine ⟨F, M, ρ, cf, (Out.bind q).imp fun d ρ1 k v F1 H1 cf1 => ?_⟩
  cases d with
  | int i =>
    have r := cf1.rp
    cases r
    exact ⟨i, rfl, k _ F1 H1 (cf1.tail.val (.int _))⟩
  | _ => exact k.elim
theorem pe_globF {x : Str} {v : V} {u : Value} {d : D} {gi : Nat} {p : Pos} (hg : Gl X x) (hm : X.mg x = some u) (r : RelV v u) (hd : (x == ("__debug__" : Str)) = false) (hr : ∀ F, Rp T F v d) (e : g.gl gi = some d) :
    PE X (.Name x p) (tM T W fun ρ => optR ((g.gl gi).map .val) ρ) := by
  rw [e]
  exact pe_cst (pe_glob hg hm r hd) hr
/-! ### a < b < c -/
theorem pe_cmp2F {a b c : Expr} {o1 o2 : CmpOp} {pos : Pos} {ma mb mc : Env → Res D} (hK : KW X T) (hu : X.A.units + 64 < cLine) (ha : PE X a (tD T W ma)) (hb : PE X b (tD T W mb)) (hc : PE X c (tD T W mc)) (hm : lastMarks [o1, o2] [b, c] = false) :
    PE X (.Compare a [o1, o2] [b, c] pos) (tM T W fun ρ => (ma ρ).bind fun x ρ => (mb ρ).bind fun y ρ => match cmpD o1 x y with
      | some true => (mc ρ).bind fun z ρ => optR ((cmpD o2 y z).map fun k => .val (.bl k)) ρ
      | some false => .ok (.val (.bl false)) ρ
      | none => .stuck) := by
  refine (pe_chain (op_cmpF hK hu o1) (op_cmpF hK hu o2) ha hb hc hm).imp fun σ H Q h => ?_
  obtain ⟨F, M, ρ, cf, q⟩ := h
  refine ⟨F, M, ρ, cf, (Out.bind q).imp fun x ρ1 q1 vx F1 H1 cf1 => ?_⟩
  refine ⟨F1, _, ρ1, cf1, (Out.wk (Out.bind q1)).imp fun y ρ2 q2 vy F2 H2 cf2 => ?_⟩
  have ry := cf2.rp.rt cf2.sub
  have rx := cf2.tail.rp.rt cf2.sub
  cases e : cmpD o1 x y with
  | none => rw [e] at q2; exact q2.elim
  | some b =>
    rw [e] at q2
    refine ⟨F2, x, y, b, cf2.sub, rx, ry, e, b, rfl, ?_⟩
    cases b with
    | true =>
      rw [if_pos rfl]
      refine ⟨F2, _, ρ2, cf2, (Out.wkL (P := [(.val y, vy), (.val x, vx)]) (Out.bind q2)).imp fun z ρ3 q3 vz F3 H3 cf3 => ?_⟩
      obtain ⟨r, e3, k3⟩ := q3.opt
      obtain ⟨b2, e4, e5⟩ := Option.map_eq_some_iff.mp e3
      subst e5
      exact ⟨F3, y, z, b2, cf3.sub, cf3.tail.rp.rt cf3.sub, cf3.rp.rt cf3.sub, e4, k3 _ F3 H3 (cf3.tail.tail.tail.val (.bl b2))⟩
    | false =>
      rw [if_neg Bool.false_ne_true]
      exact q2 _ F2 H2 (cf2.tail.tail.val (.bl false))
theorem pt_cmp2F {a b c : Expr} {o1 o2 : CmpOp} {pos : Pos} {ma mb mc : Env → Res D} (hK : KW X T) (hu : X.A.units + 64 < cLine) (ha : PE X a (tD T W ma)) (hb : PE X b (tD T W mb)) (hc : PE X c (tD T W mc)) (hm : lastMarks [o1, o2] [b, c] = false) :
    PT X (.Compare a [o1, o2] [b, c] pos) (tT T W fun ρ => (ma ρ).bind fun x ρ => (mb ρ).bind fun y ρ => match cmpD o1 x y with
      | some true => (mc ρ).bind fun z ρ => optR (cmpD o2 y z) ρ
      | some false => .ok false ρ
      | none => .stuck) := by
  refine (pt_chain (op_cmpF hK hu o1) (op_cmpF hK hu o2) ha hb hc hm).imp fun σ H Q h => ?_
  obtain ⟨F, M, ρ, cf, q⟩ := h
  show tChain _ _ _ _ _ σ H _
  refine ⟨F, M, ρ, cf, (Out.bind q).imp fun x ρ1 q1 vx F1 H1 cf1 => ?_⟩
  refine ⟨F1, _, ρ1, cf1, (Out.wk (Out.bind q1)).imp fun y ρ2 q2 vy F2 H2 cf2 => ?_⟩
  have ry := cf2.rp.rt cf2.sub
  have rx := cf2.tail.rp.rt cf2.sub
  cases e : cmpD o1 x y with
  | none => rw [e] at q2; exact q2.elim
  | some b =>
    rw [e] at q2
    refine ⟨F2, x, y, b, cf2.sub, rx, ry, e, b, rfl, ?_⟩
    cases b with
    | true =>
      rw [if_pos rfl]
      refine ⟨F2, _, ρ2, cf2, (Out.wkL (P := [(.val y, vy), (.val x, vx)]) (Out.bind q2)).imp fun z ρ3 q3 vz F3 H3 cf3 => ?_⟩
      obtain ⟨b2, e4, k3⟩ := q3.opt
      exact ⟨F3, y, z, b2, cf3.sub, cf3.tail.rp.rt cf3.sub, cf3.rp.rt cf3.sub, e4, b2, rfl, k3 F3 H3 cf3.tail.tail.tail⟩
    | false =>
      rw [if_neg Bool.false_ne_true]
      exact ⟨false, rfl, q2 F2 H2 cf2.tail.tail⟩
end Fx
end
section
set_option linter.all false
set_option Elab.async false
set_option maxRecDepth 100000
set_option maxHeartbeats 4000000
/-! != of instances with an own ==, without an own !=. -/
namespace Fx
open PySem PySem.W PySem.Calls PyProof.Rows
section
variable {prog : Program} {w : World} {A : Around} {E : Value → Shared → Prop} {s : Shared} {K : Frag} {x C L f : Addr} {h₀ : Heap} {m : Str → Option Value} {ox : Obj} {od : Option Obj} {b tb : Value}
/-- object.__ne__ over an own == -/
theorem objNe_K (X : K.In s.heap) (I : InstAt s.heap x ox C od) (hs : findIn K (.ref C) "__eq__" = some (some (.ref f))) (hf : isFn K (.ref f) = true) (hu : A.units < cLine) {Q : Fin → Shared → Prop}
    (hcall : wpAny (model prog w) A (call (.ref f) [.ref x, b]) (fun v s' => ∃ k, v = .bool k ∧ Q (.done (.ret (.bool (!k)))) s') E s) :
    wpAny (model prog w) A (Builtin.«object.__ne__» ⟨[.ref x, b], []⟩) Q E s := by
  unfold Builtin.«object.__ne__»
  repeat (first
    | with_reducible refine wpAny_cRoomFor hu ?_
    | (refine wpAny_bind (m := callSpecialIfBound? (.ref x) (Str.ofString "__eq__") [b])
        (ifBound_K X I hs hf (wpAny_mono hcall (fun r s' hr => by
          obtain ⟨k, rfl, hq⟩ := hr
          repeat (first | exact hq | exact wpAny_pure hq | exact wpAny_truthy_bool hq | (refine wpAny_bind (m := truthy (.bool _)) (wpAny_truthy_bool ?_)) | wp_step)) fun _ _ e => e)))
    | wp_step)
theorem ne_K {Q : Value → Shared → Prop} (hu : A.units + 1 < cLine) (Ff : Fr h₀ L s.heap m) (X₀ : K.In h₀) (I : InstAt s.heap x ox C od) (hb : Looks (model prog w) s.heap (typeOf b) tb) (hn : notFirst K C tb = true)
    (hne : findIn K (.ref C) "__ne__" = some (some (.builtin "object.__ne__"))) (hso : subIn K (.ref C) (.type "object") = some true)
    (hs : findIn K (.ref C) "__eq__" = some (some (.ref f))) (hf : isFn K (.ref f) = true)
    (h : wpAny (model prog w) A.in1 (call (.ref f) [.ref x, b]) (fun v s' => ∃ k, v = .bool k ∧ Q (.bool (!k)) s') E s) : wpAny (model prog w) A (richCompare .NotEq (.ref x) b) Q E s := by
  have X := X₀.keeps Ff.keep
  have cl : wpAny (model prog w) A (call (.builtin "object.__ne__") [.ref x, b]) (fun v s' => ∃ k, v = .bool k ∧ Q v s') E s := by
    refine wpAny_call (codeAny_call_builtin F.slot_tuple_iterator_ne.plain F.cmpEntry_ne (@PySem.W.check_slot (model prog w) _ _ s "object.__ne__" "object" "__ne__" (.ref x) [b] [] _ F.cmpKind_ne F.cmpSplit_ne (I.type.andThen (looks_subIn X hso)) (F.cmpArgs_ne _ _) ?_))
    refine objNe_K (A := A.in1) X I hs hf hu (wpAny_mono h (fun v s' hv => ?_) fun _ _ e => e)
    obtain ⟨k, rfl, hq⟩ := hv
    exact ⟨k, rfl, _, rfl, hq⟩
  have one : wpAny (model prog w) A (tryCompare (.ref x) (cmpInfo .NotEq).2.1 b) (fun r s' => ∃ v, r = some v ∧ Q v s') E s := by
    unfold tryCompare
    refine wpAny_bind ?_
    simp only [callSpecialIfBound?, bindSpecialIfBound?]
    refine wpAny_holding (wpAny_bind (wpAny_bind (wpAny_bind (I.type.here ((looks_findIn X hne).here ?_)))))
    refine wpAny_bind (wpAny_askSetting (wpAny_ite ?_))
    have fin : wpAny (model prog w) A (call (.builtin "object.__ne__") ([.ref x] ++ [b]) >>= fun v => pure (some v)) (fun r s' => ∃ v, r = some v ∧ ∃ k, v = .bool k ∧ Q v s') E s := wpAny_bind (wpAny_mono cl (fun v s' h' => by
      obtain ⟨k, rfl, hq⟩ := h'
      exact wpAny_pure ⟨_, rfl, k, rfl, hq⟩) fun _ _ h' => h')
    have bd := F.slot_tuple_iterator_ne.bind (.ref x)
    have fin2 : wpAny (model prog w) A (call (.builtin "object.__ne__") ([.ref x] ++ [b]) >>= fun v => pure (some v)) (fun r s' => wpAny (model prog w) A (match r with
        | some .notImplemented => pure none
        | none => pure none
        | some v => pure (some v)) (fun r s' => ∃ v, r = some v ∧ Q v s') E s') E s := wpAny_mono fin (fun r s' z => by
      obtain ⟨v, rfl, k, rfl, hq⟩ := z
      exact wpAny_pure ⟨_, rfl, hq⟩) fun _ _ e => e
    split
    · simp only [bd]
      exact wpAny_bind (wpAny_pure (wpAny_pure (by exact fin2)))
    · simp only [bd]
      exact wpAny_tryCatch (wpAny_bind (wpAny_pure (wpAny_pure (by exact fin2))))
  unfold richCompare
  simp only [oneThing_ref]
  refine wpAny_holding (wpAny_bind (wpAny_cRoomFor (Nat.lt_of_succ_lt hu) ?_))
  refine wpAny_bind (I.type.here (wpAny_bind (hb.here ?_)))
  split
  · rename_i q
    have e : subIn K tb (.ref C) = some false := by
      rcases Bool.or_eq_true_iff.mp hn with e | e
      · rw [beq_iff_eq.mp e] at q; simp at q
      · exact beq_iff_eq.mp e
    refine wpAny_bind ((looks_subIn X e).here ?_)
    simp only [Bool.false_eq_true, if_false]
    refine wpAny_bind (wpAny_mono one (fun r s' z => ?_) fun _ _ e => e)
    obtain ⟨v, rfl, hq⟩ := z
    exact wpAny_pure hq
  · refine wpAny_bind (wpAny_pure ?_)
    simp only [Bool.false_eq_true, if_false]
    refine wpAny_bind (wpAny_mono one (fun r s' z => ?_) fun _ _ e => e)
    obtain ⟨v, rfl, hq⟩ := z
    exact wpAny_pure hq
end
end Fx
end
section
set_option linter.all false
set_option Elab.async false
set_option maxRecDepth 100000
set_option maxHeartbeats 4000000
/-! != of tuples whose members are all equal, some by an own ==. -/
namespace Fx
open PySem PySem.SeqAt
open AutoSeq1 (wpAny_loadPart')
open MeetsSeq MeetsSeq2 MeetsSeq3 SeqRoads2
section
variable {prog : Program} {w : World} {A : Around} {R : Result → Shared → Prop}
theorem tup_neA (t u : Addr) (xs ys : Array Value) (n m : Nat) (dt du : Option Addr) (st su : Array (Option Value)) (len : xs.size = ys.size) (J : Nat → Shared → Prop)
    (same : ∀ i (p : i < xs.size) (q : i < ys.size) z, J i z → wpAny (model prog w) A.in1 (eqBool xs[i] ys[i]) (fun r z' => r = true ∧ J (i + 1) z') (fun e z' => R (.error e) z') z)
    (last : ∀ z, J xs.size z → R (.ok (.ret (.bool false))) z) {z : Shared} (ht : z.heap.get? t = some { cls := .type "tuple", dict := dt, data := .seq xs n, slots := st }) (hu : z.heap.get? u = some { cls := .type "tuple", dict := du, data := .seq ys m, slots := su }) (j0 : J 0 z) :
    wpAny (model prog w) A.in1 (Builtin.«tuple.__ne__» ⟨[.ref t, .ref u], []⟩) (GQ.FinOf prog w A R) (fun e z' => R (.error e) z') z := by
  have sub := AutoSeq1.sub_tuple_tuple
  have zl : (xs.toList.zip ys.toList).length = xs.size := by simp [len]
  have j00 := j0
  obtain ⟨h1, h2, h3, h4, h5⟩ := z
  wp_walk using wpAny_loadPart' ht, wpAny_loadPart' hu, wpAny_forIn_list _ (fun rest b z' => b.1 = none ∧ ∃ i, rest = (xs.toList.zip ys.toList).drop i ∧ i ≤ xs.size ∧ J i z') _
  case turn =>
    rintro ⟨v1, v2⟩ rest b z' ⟨q0, i, q1, q2, q3⟩
    have il : i < (xs.toList.zip ys.toList).length := by
      refine Nat.lt_of_not_le fun q => ?_
      rw [List.drop_of_length_le q] at q1
      cases q1
    have ix : i < xs.size := zl ▸ il
    have iy : i < ys.size := len ▸ ix
    rw [List.drop_eq_getElem_cons il] at q1
    injection q1 with q4 q5
    have e1 : v1 = xs[i] := by have q := congrArg Prod.fst q4; simpa using q
    have e2 : v2 = ys[i] := by have q := congrArg Prod.snd q4; simpa using q
    subst e1 e2
    refine wpAny_bind (wpAny_mono (same i ix iy z' q3) (fun r z2 ⟨q6, q7⟩ => ?_) fun _ _ q => q)
    subst q6
    wp_walk
    exact ⟨rfl, i + 1, q5, ix, q7⟩
  case fin =>
    rintro ⟨b1, b2⟩ z' ⟨q0, i, q1, q2, q3⟩
    simp only at q0
    subst q0
    have ge : xs.size ≤ i := by
      refine Nat.le_of_not_lt fun q => ?_
      rw [List.drop_eq_getElem_cons (zl.symm ▸ q)] at q1
      cases q1
    have ei : i = xs.size := by omega
    have hR := last z' (ei ▸ q3)
    wp_walk
    simpa [Builtin.Tuple.tupleCompareSizes, len] using hR
  case h =>
    exact ⟨rfl, 0, rfl, Nat.zero_le _, j00⟩
end
section
variable {prog : Program} {w : World} {A : Around} {E : Value → Shared → Prop} {s : Shared}
theorem rc_tupNe {t u : Addr} {xs ys : Array Value} {Q : Value → Shared → Prop} (len : xs.size = ys.size) (hu : A.units < cLine) (J : Nat → Shared → Prop)
    (ht : s.heap.IsTuple t xs) (hy : s.heap.IsTuple u ys)
    (same : ∀ i (p : i < xs.size) (q : i < ys.size) z, J i z → wpAny (model prog w) A.in1 (eqBool xs[i] ys[i]) (fun r z' => r = true ∧ J (i + 1) z') E z)
    (last : ∀ z, J xs.size z → Q (.bool false) z) (j0 : J 0 s) : wpAny (model prog w) A (richCompare .NotEq (.ref t) (.ref u)) Q E s := by
  obtain ⟨⟨c1, d1, a1, l1⟩, o1, e1, n1, f1⟩ := id ht
  obtain ⟨⟨c2, d2, a2, l2⟩, o2, e2, n2, f2⟩ := id hy
  simp only at e1 f1 e2 f2
  subst e1 f1 e2 f2
  refine wpAny_richCompare_same_room (op := .NotEq) ⟨_, o1, rfl⟩ ⟨_, o2, rfl⟩ F.slot_tuple_ne (GQ.call_here F.slot_tuple_ne ⟨_, o1, rfl⟩ F.entry_tuple_ne (F.args_tuple_ne_2 _ _) ?_) hu
  exact tup_neA (R := wants (fun v s' => v ≠ .notImplemented ∧ Q v s') E) t u xs ys n1 n2 d1 d2 l1 l2 len J same (fun z q => ⟨(fun x => nomatch x), last z q⟩) o1 o2 j0
end
end Fx
end
section
set_option linter.all false
set_option Elab.async false
set_option maxRecDepth 100000
set_option maxHeartbeats 4000000
/-! == of instances with an own ==. -/
namespace Fx
open PySem PySem.Spec L2
variable {T : Nm} {W : WX} {X : Cx} {σ : St} {M : Lv} {g : G} {Φ : Fn}
structure EqKn (T : Nm) (Φ : Fn) (g : G) (X : Cx) (c : Nat) : Prop where
  ok : ∃ k fa fd ps, PySem.W.findIn X.K (.ref (T.cls c)) "__eq__" = some (some (.ref fa)) ∧ PySem.W.isFn X.K (.ref fa) = true ∧ FnOk X.prog X.w X.K X.mg X.base (L2.CX X.prog X.w) k fa fd ps (spF T Φ (g.eqf c) 2) ∧ Room (k + 1) X.A ∧ Binds X.K fd ps []
  ne : PySem.W.findIn X.K (.ref (T.cls c)) "__ne__" = some (some (.builtin "object.__ne__"))
  so : PySem.W.subIn X.K (.ref (T.cls c)) (.type "object") = some true
  nf1 : ∀ n ∈ tyNames, PySem.W.notFirst X.K (T.cls c) (.type n) = true
  nf2 : ∀ c', c' < g.nc → PySem.W.notFirst X.K (T.cls c) (.ref (T.cls c')) = true
theorem EqKn.nf {c : Nat} (h : EqKn T Φ g X c) {y : D} (e : y.tyOk g.nc = true) : PySem.W.notFirst X.K (T.cls c) (y.ty T) = true := by
  cases y with
  | rng _ _ => cases e
  | dct _ _ => cases e
  | err _ _ => cases e
  | ins c' _ => exact h.nf2 c' (by simpa [D.tyOk] using e)
  | _ => exact h.nf1 _ (by simp [tyNames])
def rEqo (T : Nm) (g : G) (Φ : Fn) : R2 := fun x y H Q => ∃ F L dx dy b, Reps T F H ((.val dx, x) :: (.val dy, y) :: L) ∧ (∀ ρ, eqoR g Φ dx dy ρ = .ok (.val (.bl b)) ρ) ∧ ∀ F' H', Reps T F' H' L → Q (.bl b) H'
theorem op_eqo (hK : KW X T) (hu : X.A.units + 64 < cLine) (A : ClsAll T X.K g.nc) (kn : ∀ c, c < g.nc → g.eqk c = true → EqKn T Φ g X c) : OpR X (compareOp .Eq) (rEqo T g Φ) := by
  intro pins s σ H x y v u Q I rx ry h
  obtain ⟨F, L, dx, dy, b, rp, e, k⟩ := h
  have ax := rp.rp
  have ay := rp.tail.rp
  have plain : ∀ (b : Bool), eqD dx dy = some b → (∀ F' H', Reps T F' H' L → Q (.bl b) H') → wpAny (model X.prog X.w) X.A (compareOp .Eq v u) (EP X pins σ Q) X.xe s := fun b e k =>
    op_eqF hK hu pins s σ H x y v u Q I rx ry ⟨F, dx, dy, b, rp.sub, ax.rt rp.sub, ay.rt rp.sub, e, k F H rp.tail.tail⟩
  have plain2 : (∀ ρ : Env, optR ((eqD dx dy).map fun b => R.val (.bl b)) ρ = .ok (.val (.bl b)) ρ) → wpAny (model X.prog X.w) X.A (compareOp .Eq v u) (EP X pins σ Q) X.xe s := fun e => by
    have e := e []
    cases z : eqD dx dy with
    | none => rw [z] at e; cases e
    | some b' => rw [z] at e; cases e; exact plain b z k
  cases dx with
  | ins c ds =>
    have e := e []
    have e : (if g.eqk c = true ∧ c < g.nc ∧ dy.tyOk g.nc = true then (match Φ (g.eqf c) [.val (.ins c ds), .val dy] with
      | .ok (.val (.bl b)) _ => Res.ok (R.val (.bl b)) []
      | _ => .stuck) else .stuck) = .ok (.val (.bl b)) [] := e
    split at e
    · rename_i hh
      obtain ⟨h1, h2, h3⟩ := hh
      have K := kn c h2 h1
      obtain ⟨kk, fa, fd, ps, hs, hf, Fo, hr1, hb⟩ := K.ok
      have hr := hr1.mono (Nat.le_succ kk)
      cases ax with
      | @ins a ddx _ xs _ ha hl rr =>
        have ha' := rp.sub _ _ ha
        cases (show v = Value.ref a from rx)
        obtain ⟨mA, J, _⟩ := ins_get I.hok ha'
        obtain ⟨od, J, _⟩ := J.look
        obtain ⟨m, hF⟩ := I.fr
        obtain ⟨P, KX, hP, _⟩ := kit_of I ry (Rt.ty hK A rp.sub (ay.rt rp.sub) h3)
        show wpAny (model X.prog X.w) X.A (richCompare .Eq (.ref a) u) (EP X pins σ Q) X.xe s
        refine PySem.W.cmp_K (op := .Eq) (tb := dy.ty T) (by omega) hF I.ok.mod.kin J (KX.ty _ _ I.kIn hP) (K.nf h3) hs hf ?_
        have sp : spF T Φ (g.eqf c) 2 [.ref a, y] H (fun w H' => w = .bl b ∧ Q w H') (fun _ _ _ => False) := by
          refine ⟨rfl, F, L, [.val (.ins c ds), .val dy], rfl, rp, ?_⟩
          split at e
          · rename_i b' outs z
            cases e
            rw [z]
            intro w F' H' rp'
            have rw' := rp'.rp
            cases rw'
            exact ⟨rfl, k F' H' (Reps.drop (M := lives outs [V.ref a, y]) rp'.tail)⟩
          · cases e
        refine wpAny_mono (run_fn (us := [.ref a, u]) (vs := [.ref a, y]) (dvs := []) Fo hr hb .nil passes_false I (.cons rfl (.cons ry .nil)) sp) (fun w s' z => ?_) fun _ _ x => x
        obtain ⟨z', H', I', rz, rfl, qz⟩ := z
        cases rz
        exact (⟨V.bl _, H', I', rfl, qz⟩ : EP X pins σ Q (Value.bool _) s')
    · cases e
  | _ => exact plain2 e
theorem eqo_at {F2 H2 : Hp} {ρ2 : Env} {x y : D} {vx vy : V} {α : Type} {f : R → Env → Res α} {K : Lv → α → Env → Prop} {Q : VK} (cf2 : Cf T F2 H2 ((.val y, vy) :: (.val x, vx) :: M) ρ2 σ)
    (q2 : Out T W σ M ((eqoR g Φ x y ρ2).bind f) (K M)) (k : ∀ F M ρ H b, Cf T F H M ρ σ → Out T W σ M (f (.val (.bl b)) ρ) (K M) → Q (.bl b) H) : rEqo T g Φ vx vy H2 Q := by
  obtain ⟨L, sl, rp⟩ := cf2.swap
  have key : ∃ b, (∀ ρ, eqoR g Φ x y ρ = .ok (.val (.bl b)) ρ) ∧ Out T W σ M (f (.val (.bl b)) ρ2) (K M) := by
    have opt : ∀ {o : Option Bool}, Out T W σ M ((optR (o.map fun b => R.val (.bl b)) ρ2).bind f) (K M) → ∃ b, (∀ ρ, optR (o.map fun b => R.val (.bl b)) ρ = .ok (.val (.bl b)) ρ) ∧ Out T W σ M (f (.val (.bl b)) ρ2) (K M) := fun {o} q => by
      cases o with
      | none => exact q.elim
      | some b => exact ⟨b, fun _ => rfl, q⟩
    cases x with
    | ins c ds =>
      have q2 : Out T W σ M ((if g.eqk c = true ∧ c < g.nc ∧ y.tyOk g.nc = true then (match Φ (g.eqf c) [.val (.ins c ds), .val y] with
        | .ok (.val (.bl b)) _ => Res.ok (R.val (.bl b)) ρ2
        | _ => .stuck) else .stuck).bind f) (K M) := q2
      by_cases hc : g.eqk c = true ∧ c < g.nc ∧ y.tyOk g.nc = true
      · rw [if_pos hc] at q2
        split at q2
        · rename_i b outs z
          refine ⟨b, fun ρ => ?_, q2⟩
          show (if g.eqk c = true ∧ c < g.nc ∧ y.tyOk g.nc = true then _ else _) = _
          rw [if_pos hc, z]
        · exact q2.elim
      · rw [if_neg hc] at q2; exact q2.elim
    | non => exact opt (o := eqD .non y) q2
    | bl b => exact opt (o := eqD (.bl b) y) q2
    | int b => exact opt (o := eqD (.int b) y) q2
    | str b => exact opt (o := eqD (.str b) y) q2
    | tup b => exact opt (o := eqD (.tup b) y) q2
    | dct a b => exact opt (o := eqD (.dct a b) y) q2
    | err a b => exact opt (o := eqD (.err a b) y) q2
    | lst b => exact opt (o := eqD (.lst b) y) q2
    | rng b c => exact opt (o := eqD (.rng b c) y) q2
  obtain ⟨b, e, q3⟩ := key
  exact ⟨F2, M ++ L, x, y, b, rp, e, fun F' H' rp' => k F' M ρ2 H' b ⟨L, sl, rp'⟩ q3⟩
theorem eqo_imp {ma mb : Env → Res D} {H : Hp} {α : Type} {f : R → Env → Res α} {K : Lv → α → Env → Prop} {Q : VK} 
    (h : ∃ F M ρ, Cf T F H M ρ σ ∧ Out T W σ M ((ma ρ).bind fun x ρ => (mb ρ).bind fun y ρ => (eqoR g Φ x y ρ).bind f) (K M))
    (k : ∀ F M ρ H b, Cf T F H M ρ σ → Out T W σ M (f (.val (.bl b)) ρ) (K M) → Q (.bl b) H) : tD T W ma σ H fun x H1 => tD T W mb σ H1 fun y H2 => rEqo T g Φ x y H2 Q := by
  obtain ⟨F, M, ρ, cf, q⟩ := h
  refine ⟨F, M, ρ, cf, (Out.bind q).imp fun x ρ1 q1 vx F1 H1 cf1 => ?_⟩
  refine ⟨F1, _, ρ1, cf1, (Out.wk (Out.bind q1)).imp fun y ρ2 q2 vy F2 H2 cf2 => ?_⟩
  exact eqo_at cf2 q2 k
theorem res_bind_ok {α : Type} (x : Res α) : (x.bind fun a ρ => Res.ok a ρ) = x := by cases x <;> rfl
theorem pe_eqoF {a b : Expr} {pos : Pos} {ma mb : Env → Res D} (hK : KW X T) (hu : X.A.units + 64 < cLine) (A : ClsAll T X.K g.nc) (kn : ∀ c, c < g.nc → g.eqk c = true → EqKn T Φ g X c) (ha : PE X a (tD T W ma)) (hb : PE X b (tD T W mb)) (hm : behindInMarks .Eq b = false) :
    PE X (.Compare a [.Eq] [b] pos) (tM T W fun ρ => (ma ρ).bind fun x ρ => (mb ρ).bind fun y ρ => eqoR g Φ x y ρ) := by
  refine (pe_cmpR (op_eqo hK hu A kn) ha hb hm).imp fun σ H Q h => ?_
  refine eqo_imp (f := fun r ρ => .ok r ρ) (K := fun M r ρ' => ∀ v F' H', Cf T F' H' ((r, v) :: M) ρ' σ → Q v H') ?_ fun F M ρ H b cf q => q _ F H (cf.val (.bl b))
  obtain ⟨F, M, ρ, cf, q⟩ := h
  exact ⟨F, M, ρ, cf, by simpa only [res_bind_ok] using q⟩
theorem pt_eqoF {a b : Expr} {pos : Pos} {ma mb : Env → Res D} (hK : KW X T) (hu : X.A.units + 64 < cLine) (A : ClsAll T X.K g.nc) (kn : ∀ c, c < g.nc → g.eqk c = true → EqKn T Φ g X c) (ha : PE X a (tD T W ma)) (hb : PE X b (tD T W mb)) (hm : behindInMarks .Eq b = false) :
    PT X (.Compare a [.Eq] [b] pos) (tT T W fun ρ => (ma ρ).bind fun x ρ => (mb ρ).bind fun y ρ => (eqoR g Φ x y ρ).bind fun r ρ => optR ((fullD T.flds r).bind truD) ρ) := by
  refine (pt_cmpR (op_eqo hK hu A kn) ha hb hm).imp fun σ H Q h => ?_
  refine eqo_imp (f := fun r ρ => optR ((fullD T.flds r).bind truD) ρ) (K := fun M b ρ' => ∀ F' H', Cf T F' H' M ρ' σ → Q b H') h fun F M ρ H b cf q => ?_
  exact ⟨b, rfl, q F H cf⟩
/-! ### != -/
def rNeo (T : Nm) (g : G) (Φ : Fn) : R2 := fun x y H Q => (rEqo T g Φ x y H fun v H' => ∃ b, v = .bl b ∧ Q (.bl (!b)) H') ∨ ∃ F L dx dy, Reps T F H ((.val dx, x) :: (.val dy, y) :: L) ∧ samT g Φ dx dy = true ∧ ∀ F' H', Reps T F' H' L → Q (.bl false) H'
/-- a callee, one level of the machine deeper -/
theorem run_fnI {CX : CXT} {k : Nat} {f : Addr} {fd : FuncData} {ps : List Str} {sp : Sp} {E : XK} {pins : List (Addr × Obj)} {H : Hp} {s : Shared} {Q : VK} {us : List Value} {vs : List V} (F : FnOk X.prog X.w X.K X.mg X.base CX k f fd ps sp) (hr : Room (k + 1) X.A) (hb : Binds X.K fd ps []) (hx : Passes CX X E)
    (I : Inv X pins σ H s) (r : Vals vs us) (h : sp vs H Q E) : wpAny (model X.prog X.w) X.A.in1 (call (.ref f) us) (EP X pins σ Q) X.xe s := by
  have hl : us.length = ps.length := by rw [← r.length]; exact F.len _ _ _ _ h
  have hb2 := hb s us I.kIn (by simpa using hl)
  rw [List.append_nil] at hb2
  refine wpAny_call (codeAny_mono (F.run X.A.in1 X.stack s H ⟨us, []⟩ us vs Q E hr.in1 I.env0.in1 hb2 r h) fun z s' hq => ?_)
  match z, hq with
  | .error e, hq => exact hx pins σ H s e s' I hq
  | .ok (.ret u), hq => exact I.after hq
theorem samL_get : ∀ {xs ys : List D}, samL g Φ xs ys = true → xs.length = ys.length ∧ ∀ (i : Nat) (x y : D), xs[i]? = some x → ys[i]? = some y → samD g Φ x y = true
  | [], [], _ => ⟨rfl, fun i x y h => by simp at h⟩
  | [], _ :: _, h => by simp [samL] at h
  | _ :: _, [], h => by simp [samL] at h
  | x :: xs, y :: ys, h => by
    simp only [samL, Bool.and_eq_true] at h
    obtain ⟨h1, h2⟩ := samL_get h.2
    refine ⟨by simp [h1], fun i a b ha hb => ?_⟩
    cases i with
    | zero => simp at ha hb; subst ha hb; exact h.1
    | succ i => exact h2 i a b (by simpa using ha) (by simpa using hb)
theorem reps_vals {F H : Hp} {L : Lv} : ∀ {xs : List D} {vs : List V}, RpL T F vs xs → Reps T F H L → Reps T F H (vals_ xs vs ++ L)
  | [], _, h, q => by cases h; exact q
  | x :: xs, _, h, q => by cases h with | cons h1 h2 => exact (reps_vals h2 q).val h1
theorem vals_reps {F H : Hp} {L : Lv} : ∀ {xs : List D} {vs : List V}, vs.length = xs.length → Reps T F H (vals_ xs vs ++ L) → RpL T F vs xs ∧ Reps T F H L
  | [], [], _, q => ⟨.nil, q⟩
  | [], _ :: _, e, _ => by cases e
  | _ :: _, [], e, _ => by cases e
  | x :: xs, v :: vs, e, q => by
    have q : Reps T F H ((.val x, v) :: (vals_ xs vs ++ L)) := q
    obtain ⟨h1, h2⟩ := vals_reps (by simpa using e) q.tail
    exact ⟨.cons q.rp h1, h2⟩
/-- two members -/
theorem sam_turn (hK : KW X T) (hu : X.A.units + 64 < cLine) (A : ClsAll T X.K g.nc) (kn : ∀ c, c < g.nc → g.eqk c = true → EqKn T Φ g X c) {pins : List (Addr × Obj)} {F H : Hp} {L : Lv} {s : Shared} {dx dy : D} {x y : V} {v u : Value}
    (I : Inv X pins σ H s) (rp : Reps T F H L) (hx : Rp T F x dx) (hy : Rp T F y dy) (rx : RelV x v) (ry : RelV y u) (sm : samD g Φ dx dy = true) :
    wpAny (model X.prog X.w) X.A.in1 (eqBool v u) (fun r s' => r = true ∧ ∃ F' H', Inv X pins σ H' s' ∧ Reps T F' H' L) X.xe s := by
  have plain : eqD dx dy = some true → wpAny (model X.prog X.w) X.A.in1 (eqBool v u) (fun r s' => r = true ∧ ∃ F' H', Inv X pins σ H' s' ∧ Reps T F' H' L) X.xe s := fun e => by
    obtain ⟨p1, p2, dp, eb⟩ := eqD_some e
    obtain ⟨as, r1⟩ := Rp.reads I hK dx x v p1 (hx.mono rp.sub) rx
    obtain ⟨bs, r2⟩ := Rp.reads I hK dy y u p2 (hy.mono rp.sub) ry
    have q := PySem.SeqAt.eqAt_plain dx.py dy.py X.A.in1 s v u as bs r1 r2 (D.py_plain dx p1) (D.py_plain dy p2) (by rw [D.py_depth dx p1, D.py_depth dy p2]; show X.A.units + 1 + _ < _; omega)
    rw [D.py_eqv dx dy p1 p2, ← eb] at q
    exact q X.prog X.w X.xe _ ⟨rfl, F, H, I, rp⟩
  have plain2 : (match eqD dx dy with
    | some b => b
    | none => false) = true → wpAny (model X.prog X.w) X.A.in1 (eqBool v u) (fun r s' => r = true ∧ ∃ F' H', Inv X pins σ H' s' ∧ Reps T F' H' L) X.xe s := fun e => by
    cases z : eqD dx dy with
    | none => rw [z] at e; cases e
    | some b => rw [z] at e; have e : b = true := e; subst e; exact plain z
  unfold samD at sm
  split at sm
  · rename_i c ds c' es
    simp only [Bool.and_eq_true, decide_eq_true_eq] at sm
    obtain ⟨h1, h2, h3, h4⟩ := sm
    have K := kn c h2 h1
    obtain ⟨kk, fa, fd, ps, hs, hf, Fo, hr, hb⟩ := K.ok
    cases hx with
    | @ins a ddx _ xs _ ha hl rr =>
      cases hy with
      | @ins b ddy _ ys _ hb' hl' rr' =>
        cases (show v = Value.ref a from rx)
        cases (show u = Value.ref b from ry)
        by_cases hab : a = b
        · subst hab
          exact PySem.SeqAt.EqAt.same (A := X.A.in1) (s := s) (.ref a) X.prog X.w X.xe _ ⟨rfl, F, H, I, rp⟩
        · have ha' := rp.sub _ _ ha
          obtain ⟨mA, J, _⟩ := ins_get I.hok ha'
          obtain ⟨od, J, _⟩ := J.look
          obtain ⟨m, hF⟩ := I.fr
          obtain ⟨P, KX, hP, _⟩ := kit_of I (show RelV (V.ref b) (Value.ref b) from rfl) (Rt.ty hK A rp.sub (Rp.rt rp.sub (.ins hb' hl' rr')) h3)
          refine GQ.eqBool_refG hab ?_
          refine PySem.W.cmp_K (op := .Eq) (A := X.A.in1) (tb := (D.ins c' es).ty T) (by show X.A.units + 1 < cLine; omega) hF I.ok.mod.kin J (KX.ty _ _ I.kIn hP) (K.nf h3) hs hf ?_
          have sp : spF T Φ (g.eqf c) 2 [.ref a, .ref b] H (fun w H' => w = .bl true ∧ ∃ F', Reps T F' H' L) (fun _ _ _ => False) := by
            refine ⟨rfl, F, L, [.val (.ins c ds), .val (.ins c' es)], rfl, (rp.val (.ins hb' hl' rr')).val (.ins ha hl rr), ?_⟩
            split at h4
            · rename_i b' outs z
              have h4 : b' = true := h4
              subst h4
              rw [z]
              intro w F' H' rp'
              have rw' := rp'.rp
              cases rw'
              exact ⟨rfl, F', Reps.drop (M := lives outs [V.ref a, V.ref b]) rp'.tail⟩
            · cases h4
          refine wpAny_mono (run_fnI (us := [.ref a, .ref b]) (vs := [.ref a, .ref b]) (E := fun _ _ _ => False) Fo hr hb passes_false I (.cons rfl (.cons rfl .nil)) sp) (fun w s' z => ?_) fun _ _ x => x
          obtain ⟨z', H', I', rz, rfl, F', qz⟩ := z
          cases rz
          exact ⟨true, rfl, rfl, F', H', I', qz⟩
  · exact plain2 sm
theorem op_neo (hK : KW X T) (hu : X.A.units + 64 < cLine) (A : ClsAll T X.K g.nc) (kn : ∀ c, c < g.nc → g.eqk c = true → EqKn T Φ g X c) : OpR X (compareOp .NotEq) (rNeo T g Φ) := by
  intro pins s σ H x y v u Q I rx ry h
  rcases h with h | ⟨F, L, dx, dy, rp, sm, k⟩
  rotate_left
  · cases dx with
    | tup ds =>
      cases dy with
      | tup es =>
        have sm : (!D.plains ds && samL g Φ ds es) = true := sm
        simp only [Bool.and_eq_true] at sm
        obtain ⟨hl, hg⟩ := samL_get sm.2
        have ax := rp.rp
        have ay := rp.tail.rp
        cases ax with
        | @tup a xs _ t1 r1 =>
          cases ay with
          | @tup b ys _ t2 r2 =>
            have t1' := same_sqT rp.sub t1
            have t2' := same_sqT rp.sub t2
            rw [← hK.1] at t1' t2'
            cases (show v = Value.ref a from rx)
            cases (show u = Value.ref b from ry)
            obtain ⟨its, v1, p1, _⟩ := I.tuple t1'
            obtain ⟨its2, v2, p2, _⟩ := I.tuple t2'
            have l1 := v1.length
            have l2 := v2.length
            have l3 := r1.len
            have l4 := r2.len
            show wpAny (model X.prog X.w) X.A (richCompare .NotEq (.ref a) (.ref b)) (EP X pins σ Q) X.xe s
            refine rc_tupNe (by rw [List.size_toArray, List.size_toArray]; omega) (by omega) (fun _ s' => ∃ F' H', Inv X pins σ H' s' ∧ Reps T F' H' (vals_ ds xs ++ (vals_ es ys ++ L))) p1 p2 (fun i h1 h2 s' q => ?_) (fun s' q => ?_) ⟨F, H, I, reps_vals r1 (reps_vals r2 rp.tail.tail)⟩
            · obtain ⟨F1, H1, I1, q1⟩ := q
              obtain ⟨s1, q2⟩ := vals_reps l3 q1
              obtain ⟨s2, q3⟩ := vals_reps l4 q2
              have h1' : i < its.length := by simpa using h1
              have h2' : i < its2.length := by simpa using h2
              obtain ⟨x1, g1, w1⟩ := s1.get (List.getElem?_eq_getElem (show i < ds.length by omega))
              obtain ⟨y1, g2, w2⟩ := s2.get (List.getElem?_eq_getElem (show i < es.length by omega))
              obtain ⟨u1, g3, w3⟩ := v1.get g1
              obtain ⟨u2, g4, w4⟩ := v2.get g2
              rw [List.getElem?_eq_getElem h1'] at g3
              rw [List.getElem?_eq_getElem h2'] at g4
              cases g3
              cases g4
              exact sam_turn hK hu A kn I1 q1 w1 w2 w3 w4 (hg i _ _ (List.getElem?_eq_getElem (by omega)) (List.getElem?_eq_getElem (by omega)))
            · obtain ⟨F1, H1, I1, q1⟩ := q
              exact (⟨V.bl _, H1, I1, rfl, k F1 H1 (Reps.drop (M := vals_ es ys) (Reps.drop (M := vals_ ds xs) q1))⟩ : EP X pins σ Q (Value.bool false) s')
      | _ => cases sm
    | _ => cases sm
  obtain ⟨F, L, dx, dy, b, rp, e, k⟩ := h
  have ax := rp.rp
  have ay := rp.tail.rp
  have plain2 : (∀ ρ : Env, optR ((eqD dx dy).map fun b => R.val (.bl b)) ρ = .ok (.val (.bl b)) ρ) → wpAny (model X.prog X.w) X.A (compareOp .NotEq v u) (EP X pins σ Q) X.xe s := fun e => by
    have e := e []
    cases z : eqD dx dy with
    | none => rw [z] at e; cases e
    | some b' =>
      rw [z] at e
      cases e
      obtain ⟨b2, e2, q2⟩ := k F H rp.tail.tail
      cases e2
      exact op_neF hK hu pins s σ H x y v u Q I rx ry ⟨F, dx, dy, !b, rp.sub, ax.rt rp.sub, ay.rt rp.sub, by show (eqD dx dy).map not = _; rw [z]; rfl, q2⟩
  cases dx with
  | ins c ds =>
    have e := e []
    have e : (if g.eqk c = true ∧ c < g.nc ∧ dy.tyOk g.nc = true then (match Φ (g.eqf c) [.val (.ins c ds), .val dy] with
      | .ok (.val (.bl b)) _ => Res.ok (R.val (.bl b)) []
      | _ => .stuck) else .stuck) = .ok (.val (.bl b)) [] := e
    split at e
    · rename_i hh
      obtain ⟨h1, h2, h3⟩ := hh
      have K := kn c h2 h1
      obtain ⟨kk, fa, fd, ps, hs, hf, Fo, hr, hb⟩ := K.ok
      cases ax with
      | @ins a ddx _ xs _ ha hl rr =>
        have ha' := rp.sub _ _ ha
        cases (show v = Value.ref a from rx)
        obtain ⟨mA, J, _⟩ := ins_get I.hok ha'
        obtain ⟨od, J, _⟩ := J.look
        obtain ⟨m, hF⟩ := I.fr
        obtain ⟨P, KX, hP, _⟩ := kit_of I ry (Rt.ty hK A rp.sub (ay.rt rp.sub) h3)
        show wpAny (model X.prog X.w) X.A (richCompare .NotEq (.ref a) u) (EP X pins σ Q) X.xe s
        refine ne_K (tb := dy.ty T) (by omega) hF I.ok.mod.kin J (KX.ty _ _ I.kIn hP) (K.nf h3) K.ne K.so hs hf ?_
        have sp : spF T Φ (g.eqf c) 2 [.ref a, y] H (fun w H' => ∃ b2, w = .bl b2 ∧ Q (.bl (!b2)) H') (fun _ _ _ => False) := by
          refine ⟨rfl, F, L, [.val (.ins c ds), .val dy], rfl, rp, ?_⟩
          split at e
          · rename_i b' outs z
            cases e
            rw [z]
            intro w F' H' rp'
            have rw' := rp'.rp
            cases rw'
            obtain ⟨b2, e2, q2⟩ := k F' H' (Reps.drop (M := lives outs [V.ref a, y]) rp'.tail)
            exact ⟨b2, e2, q2⟩
          · cases e
        refine wpAny_mono (run_fnI (us := [.ref a, u]) (vs := [.ref a, y]) (E := fun _ _ _ => False) Fo hr hb passes_false I (.cons rfl (.cons ry .nil)) sp) (fun w s' z => ?_) fun _ _ x => x
        obtain ⟨z', H', I', rz, b2, rfl, qz⟩ := z
        cases rz
        exact ⟨b2, rfl, (⟨V.bl _, H', I', rfl, qz⟩ : EP X pins σ Q (Value.bool (!b2)) s')⟩
    · cases e
  | _ => exact plain2 e
theorem neo_imp {ma mb : Env → Res D} {H : Hp} {α : Type} {f : R → Env → Res α} {K : Lv → α → Env → Prop} {Q : VK}
    (h : ∃ F M ρ, Cf T F H M ρ σ ∧ Out T W σ M ((ma ρ).bind fun x ρ => (mb ρ).bind fun y ρ => (neoR g Φ x y ρ).bind f) (K M))
    (k : ∀ F M ρ H b, Cf T F H M ρ σ → Out T W σ M (f (.val (.bl b)) ρ) (K M) → Q (.bl b) H) : tD T W ma σ H fun x H1 => tD T W mb σ H1 fun y H2 => rNeo T g Φ x y H2 Q := by
  obtain ⟨F, M, ρ, cf, q⟩ := h
  refine ⟨F, M, ρ, cf, (Out.bind q).imp fun x ρ1 q1 vx F1 H1 cf1 => ?_⟩
  refine ⟨F1, _, ρ1, cf1, (Out.wk (Out.bind q1)).imp fun y ρ2 q2 vy F2 H2 cf2 => ?_⟩
  unfold neoR at q2
  by_cases c : samT g Φ x y = true
  · rw [if_pos c] at q2
    obtain ⟨L, sl, rp⟩ := cf2.swap
    exact .inr ⟨F2, M ++ L, x, y, rp, c, fun F' H' rp' => k F' M ρ2 H' false ⟨L, sl, rp'⟩ q2⟩
  · rw [if_neg c] at q2
    refine .inl (eqo_at (f := fun r ρ => (match r with
      | .val (.bl b) => Res.ok (R.val (.bl (!b))) ρ
      | _ => .stuck : Res R).bind f) cf2 ?_ fun F M ρ H b cf q => ⟨b, rfl, k F M ρ H (!b) cf q⟩)
    have e : (notR (eqoR g Φ x y ρ2)).bind f = (eqoR g Φ x y ρ2).bind fun r ρ => (match r with
      | .val (.bl b) => Res.ok (R.val (.bl (!b))) ρ
      | _ => .stuck : Res R).bind f := by
      unfold notR
      cases eqoR g Φ x y ρ2 <;> rfl
    rw [e] at q2
    exact q2
theorem pe_neoF {a b : Expr} {pos : Pos} {ma mb : Env → Res D} (hK : KW X T) (hu : X.A.units + 64 < cLine) (A : ClsAll T X.K g.nc) (kn : ∀ c, c < g.nc → g.eqk c = true → EqKn T Φ g X c) (ha : PE X a (tD T W ma)) (hb : PE X b (tD T W mb)) (hm : behindInMarks .NotEq b = false) :
    PE X (.Compare a [.NotEq] [b] pos) (tM T W fun ρ => (ma ρ).bind fun x ρ => (mb ρ).bind fun y ρ => neoR g Φ x y ρ) := by
  refine (pe_cmpR (op_neo hK hu A kn) ha hb hm).imp fun σ H Q h => ?_
  refine neo_imp (f := fun r ρ => .ok r ρ) (K := fun M r ρ' => ∀ v F' H', Cf T F' H' ((r, v) :: M) ρ' σ → Q v H') ?_ fun F M ρ H b cf q => q _ F H (cf.val (.bl b))
  obtain ⟨F, M, ρ, cf, q⟩ := h
  exact ⟨F, M, ρ, cf, by simpa only [res_bind_ok] using q⟩
theorem pt_neoF {a b : Expr} {pos : Pos} {ma mb : Env → Res D} (hK : KW X T) (hu : X.A.units + 64 < cLine) (A : ClsAll T X.K g.nc) (kn : ∀ c, c < g.nc → g.eqk c = true → EqKn T Φ g X c) (ha : PE X a (tD T W ma)) (hb : PE X b (tD T W mb)) (hm : behindInMarks .NotEq b = false) :
    PT X (.Compare a [.NotEq] [b] pos) (tT T W fun ρ => (ma ρ).bind fun x ρ => (mb ρ).bind fun y ρ => (neoR g Φ x y ρ).bind fun r ρ => optR ((fullD T.flds r).bind truD) ρ) := by
  refine (pt_cmpR (op_neo hK hu A kn) ha hb hm).imp fun σ H Q h => ?_
  refine neo_imp (f := fun r ρ => optR ((fullD T.flds r).bind truD) ρ) (K := fun M b ρ' => ∀ F' H', Cf T F' H' M ρ' σ → Q b H') h fun F M ρ H b cf q => ?_
  exact ⟨b, rfl, q F H cf⟩
end Fx
end
section
set_option linter.all false
set_option Elab.async false
set_option maxRecDepth 100000
set_option maxHeartbeats 4000000
/-! The rules of sorted(set(..)), {}, d[k] = v, a, b = e, f. -/
namespace Fx
open PySem PySem.Spec L2
variable {T : Nm} {W : WX} {X : Cx} {σ : St} {M : Lv} {wr : List Nat}
/-! ### sorted(set(..)) -/
theorem insI_mem (x k : Int) : ∀ l : List Int, k ∈ insI x l ↔ k = x ∨ k ∈ l
  | [] => by simp [insI]
  | y :: ys => by
    unfold insI
    split
    · simp
    · split
      · rename_i h; subst h; simp
      · rw [List.mem_cons, insI_mem x k ys, List.mem_cons]
        constructor
        · rintro (h | h | h) <;> simp [h]
        · rintro (h | h | h) <;> simp [h]
theorem insI_lt (x : Int) : ∀ l : List Int, l.Pairwise (· < ·) → (insI x l).Pairwise (· < ·)
  | [], _ => by simp [insI]
  | y :: ys, h => by
    obtain ⟨h1, h2⟩ := List.pairwise_cons.mp h
    unfold insI
    split
    · rename_i c
      refine List.pairwise_cons.mpr ⟨fun z hz => ?_, h⟩
      rcases List.mem_cons.mp hz with rfl | hz
      · exact c
      · have := h1 z hz; omega
    · split
      · exact h
      · rename_i c1 c2
        refine List.pairwise_cons.mpr ⟨fun z hz => ?_, insI_lt x ys h2⟩
        rcases (insI_mem x z ys).mp hz with rfl | hz
        · omega
        · exact h1 z hz
theorem usort_mem (k : Int) : ∀ l : List Int, k ∈ usort l ↔ k ∈ l
  | [] => by simp [usort]
  | x :: l => by
    show k ∈ insI x (usort l) ↔ _
    rw [insI_mem, usort_mem k l, List.mem_cons]
theorem usort_lt : ∀ l : List Int, (usort l).Pairwise (· < ·)
  | [] => by simp [usort]
  | x :: l => insI_lt x _ (usort_lt l)
theorem lt_uniq : ∀ {l m : List Int}, l.Pairwise (· < ·) → m.Pairwise (· < ·) → (∀ k, k ∈ l ↔ k ∈ m) → l = m
  | [], [], _, _, _ => rfl
  | [], y :: m, _, _, h => by have := (h y).mpr (by simp); cases this
  | x :: l, [], _, _, h => by have := (h x).mp (by simp); cases this
  | x :: l, y :: m, hl, hm, h => by
    obtain ⟨l1, l2⟩ := List.pairwise_cons.mp hl
    obtain ⟨m1, m2⟩ := List.pairwise_cons.mp hm
    have e : x = y := by
      have a := (h x).mp (by simp)
      have b := (h y).mpr (by simp)
      rcases List.mem_cons.mp a with e | a
      · exact e
      · rcases List.mem_cons.mp b with e | b
        · exact e.symm
        · have := m1 x a; have := l1 y b; omega
    subst e
    rw [lt_uniq l2 m2 fun k => ?_]
    have hk := h k
    rw [List.mem_cons, List.mem_cons] at hk
    constructor
    · intro q
      rcases hk.mp (.inr q) with e | q'
      · subst e; have := l1 k q; omega
      · exact q'
    · intro q
      rcases hk.mpr (.inr q) with e | q'
      · subst e; have := m1 k q; omega
      · exact q'
def rSetL (K : PySem.W.Frag) (w : World) : List V → Hp → VK → Prop := fun xs H Q => ∃ (a : Addr) (ns : List Int), xs = [.ref a] ∧ SqL K H a (ns.map V.int) ∧ ns.length < 64 ∧
  ∀ p n, H p = none → n ≤ ns.length → Q (.ref p) (upd H p (SetO w p (fun j => decide (j ∈ ns)) n))
theorem cr_setL (hc : X.calm = true) : CallR X (.type "set") (rSetL X.K X.w) := by
  intro pins s σ H xs us Q I r h
  obtain ⟨a, ns, rfl, hs, hl, q⟩ := h
  obtain ⟨its, rv, pl, hz⟩ := I.list hs
  obtain ⟨u, rfl, ru⟩ := vals1 r
  cases ru
  refine fx_setL ns (I.ok.hd hc) pl.isList (by simpa using rv.ints) (by unfold scanBound; omega) fun h' tk c R hle k => ?_
  exact ⟨.ref s.heap.objs.size, upd H s.heap.objs.size (SetO X.w s.heap.objs.size (fun j => decide (j ∈ ns)) c), I.laid (t' := tk) k (Nat.le_refl _) (setO_new R), rfl, q _ _ (I.hok.fresh (Nat.le_refl _)) hle⟩
theorem pe_srtsF {e : Expr} {p1 p2 p3 p4 : Pos} {m : Env → Res D} (hK : KW X T) (hc : X.calm = true) (hg1 : Gl X "sorted") (hm1 : X.mg "sorted" = none) (hg2 : Gl X "set") (hm2 : X.mg "set" = none) (he : PE X e (tD T W m)) (st : Ex.star e = false) :
    PE X (.Call (.Name "sorted" p1) [.Call (.Name "set" p2) [e] [] p3] [] p4) (tM T W fun ρ => (m ρ).bind fun x ρ => match x with
      | .lst ds => if ds.length < 64 then optR ((allI ds).map fun ns => .lst ((usort ns).map .int)) ρ else .stuck
      | _ => .stuck) := by
  have h1 := pe_callTy (pos := p3) (p := p2) (cr_setL (X := X) hc) hg2 hm2 (by decide +kernel) (pa_cons he pa_nil (star_cons [] _ st)) (by decide) (by decide) (star_cons [] _ st) (star_plain [] rfl)
  have h2 := pe_callB (pos := p4) (p := p1) (cr_sortedSet (X := X) hc) hg1 hm1 (by decide +kernel) (pa_cons h1 pa_nil (star_cons [] _ rfl)) (by decide) (by decide) (star_cons [] _ rfl) (star_plain [] rfl)
  refine h2.imp fun σ H Q q => ?_
  obtain ⟨F, M, ρ, cf, q⟩ := q
  refine ⟨F, M, ρ, cf, (Out.bind q).imp fun d ρ1 q1 v1 F1 H1 cf1 => ?_⟩
  cases d with
  | lst ds =>
    dsimp only at q1
    split at q1
    · rename_i hl
      obtain ⟨r, e1, k⟩ := Out.opt q1
      obtain ⟨ns, e2, e3⟩ := Option.map_eq_some_iff.mp e1
      subst e3
      have rp := cf1.rp
      cases rp with
      | @lst a xs _ t rr =>
        have ex := allI_vals e2 rr
        subst ex
        refine ⟨a, ns, rfl, by rw [hK.1]; exact same_sqL cf1.sub t, by have := rr.len; rw [List.length_map] at this; omega, fun p n np hle => ?_⟩
        refine ⟨p, _, n, rfl, upd_same, by have := rr.len; rw [List.length_map] at this; omega, fun ns' p' h1 h2 _ np' => ?_⟩
        have eu : ns' = usort ns := lt_uniq h1 (usort_lt ns) fun k => by rw [h2, decide_eq_true_eq, usort_mem]
        subst eu
        have gr : Same H1 (upd H1 p (SetO X.w p (fun j => decide (j ∈ ns)) n)) := fun b o e => by rw [upd_ne (ne_of_none e np)]; exact e
        have cf2 := cf1.tail.grow gr
        have rl : ∀ l : List Int, RpL T F1 (l.map V.int) (l.map D.int) := by
          intro l
          induction l with
          | nil => exact .nil
          | cons i l ih => exact .cons (.int i) ih
        exact k (.ref p') _ _ (cf2.own np' (rl _))
    · exact q1.elim
  | _ => exact q1.elim
/-! ### {} -/
theorem pe_dnewF {pos : Pos} : PE X (.Dict [] [] pos) (tM T W fun ρ => .ok (.dct [] []) ρ) := by
  refine pe_dnewK.imp fun σ H Q q => ?_
  obtain ⟨F, M, ρ, cf, q⟩ := q
  intro p np
  exact q (.ref p) F _ (cf.ownD np (.inl ⟨[], rfl, rfl, .nil⟩))
/-! ### d[k] = v -/
def rSetD (T : Nm) : V → V → V → Hp → (Hp → Prop) → Prop := fun o i v H Q => ∃ (F : Hp) (p : Addr) (ob : HO) (ks vs : List D) (k d : D), Same F H ∧ o = .ref p ∧ H p = some ob ∧ DR T F p ob ks vs ∧ Rt T F H i k ∧ keyOk ks k = true ∧ ks.length < LINE ∧ Rp T F v d ∧
  ∀ o', DR T F p o' (dPutK ks k) (dPutV ks vs k d) → Q (upd H p o')
theorem set_dF (hK : KW X T) (hu : X.A.units + 64 < cLine) : PSet X (rSetD T) := by
  intro pins s σ H o i v ov iv u Q I ro ri rv h
  obtain ⟨F, p, ob, ks, vs, k, d, sF, rfl, hp, dr, rk, ok, hz, rd, q⟩ := h
  cases ro
  exact dF_set (by omega) I hK sF hp dr rk ri ok hz rv rd fun o' s' dr' I' => ⟨_, I', q o' dr'⟩
theorem Cf.dct {F H : Hp} {ρ : Env} {i : Nat} {ks vs : List D} (cf : Cf T F H M ρ σ) (e : ρ.at i = some (.dct ks vs)) : ∃ p o, σ[i]? = some (some (.ref p)) ∧ H p = some o ∧ DR T F p o ks vs ∧ Cf T F H ((.dct ks vs, .ref p) :: M) (ρ.set i none) σ := by
  obtain ⟨v, e1, cf'⟩ := cf.out (at_get e)
  obtain ⟨p, o, rfl, h1, h2⟩ := cf'.dctAt
  exact ⟨p, o, e1, h1, h2, cf'⟩
theorem ps_setdF {x : Str} {i : Nat} {p0 p1 pos : Pos} {ek e : Expr} {mk m : Env → Res D} (hK : KW X T) (hu : X.A.units + 64 < cLine) (ho : PE X (.Name x p0) (tVar i)) (hk : PE X ek (tD T W mk)) (he : PE X e (tD T W m)) (hc : Ex.compr e = false) (hsl : Ex.isSlice ek = false) :
    PS X (.Assign [.Subscript (.Name x p0) ek p1] e pos) (tS T W wr fun ρ => (m ρ).thn fun d ρ => match ρ.at i with
    | some (.dct _ _) => (mk ρ).thn fun k ρ => (match ρ.at i with
      | some (.dct ks vs) => if keyOk ks k = true ∧ ks.length < LINE then .nx (ρ.set i (some (.dct (dPutK ks k) (dPutV ks vs k d)))) else .stuck
      | _ => .stuck)
    | _ => .stuck) := by
  have ha : ∀ v, assign (.Subscript (.Name x p0) ek p1) X.env v = (do
      let ov ← holding [v] (eval (.Name x p0) X.env)
      let iv ← holding [v, ov] (eval ek X.env)
      standAt p1
      holding [v, ov, iv] (setItem ov iv v)
      release [v, ov, iv] []) := by
    intro v
    cases ek <;> first | rfl | cases hsl
  refine (ps_asg he (pg_sub ho hk (set_dF hK hu) ha) (by unfold swapsWithSole; exact swaps_plain hc) rfl rfl).imp fun D σ H q => ?_
  obtain ⟨F, M, ρ, cf, q⟩ := q
  refine ⟨F, M, ρ, cf, (SOut.thn q).imp fun d ρ1 k v F1 H1 cf1 => ?_⟩
  cases z : ρ1.at i with
  | none => rw [z] at k; exact k.elim
  | some r =>
    cases r with
    | dct ks0 vs0 =>
      rw [z] at k
      obtain ⟨p, o, e1, e2, e3, _⟩ := cf1.dct z
      refine ⟨_, e1, F1, _, ρ1, cf1, (SOut.thn (SOut.wkL (P := [(.val d, v)]) k)).imp fun kd ρ2 k v2 F2 H2 cf2 => ?_⟩
      cases z1 : ρ2.at i with
      | none => rw [z1] at k; exact k.elim
      | some r1 =>
        cases r1 with
        | dct ks vs =>
          rw [z1] at k
          dsimp only at k
          split at k
          · rename_i c
            have rk := cf2.rp
            have rv := cf2.tail.rp
            obtain ⟨p', o', f1, f2, f3, cf3⟩ := cf2.tail.tail.dct z1
            rw [e1] at f1; cases f1
            refine ⟨F2, p, o', ks, vs, kd, d, cf2.sub, rfl, f2, f3, rk.rt cf2.sub, c.1, c.2, rv, fun o2 dr2 => ?_⟩
            exact k _ F2 _ .refl (((cf3.putD dr2).back e1).val rv)
          · exact k.elim
        | _ => rw [z1] at k; exact k.elim
    | _ => rw [z] at k; exact k.elim
end Fx
end
section
set_option linter.all false
set_option Elab.async false
set_option maxRecDepth 100000
set_option maxHeartbeats 4000000
/-! a, b = x, y and a, b, c = x, y, z, stored at once; d.setdefault(k, v). -/
namespace Fx
open PySem PySem.Spec L2
variable {T : Nm} {W : WX} {X : Cx} {σ : St} {M : Lv} {wr : List Nat}
theorem arRs_two {as : List Ar} {r1 r2 : R} (h : arRs as = some [r1, r2]) : as = [.v r1, .v r2] := by
  match as, h with
  | [.v a, .v b], h => simp [arRs] at h; rw [h.1, h.2]
  | [], h => simp [arRs] at h
  | [.v a], h => simp [arRs] at h
  | .b _ :: _, h => simp [arRs] at h
  | .v _ :: .b _ :: _, h => simp [arRs] at h
  | .v _ :: .v _ :: .b _ :: _, h => simp [arRs] at h
  | .v _ :: .v _ :: .v _ :: as, h =>
    simp only [arRs] at h
    cases z : arRs as <;> rw [z] at h <;> simp at h
theorem arRs_three {as : List Ar} {r1 r2 r3 : R} (h : arRs as = some [r1, r2, r3]) : as = [.v r1, .v r2, .v r3] := by
  match as, h with
  | .v a :: as, h =>
    simp only [arRs] at h
    cases z : arRs as with
    | none => rw [z] at h; simp at h
    | some l =>
      rw [z] at h
      simp at h
      obtain ⟨rfl, rfl⟩ := h
      rw [arRs_two z]
  | [], h => simp [arRs] at h
  | .b _ :: _, h => simp [arRs] at h
theorem ps_parF {i j : Nat} {x y : Str} {a b : Expr} {px py pt pos : Pos} {kt k2 pt2} {ms : Env → Res (List Ar)} (hc : X.calm = true) (hN : X.N.Nodup) (hi : X.N[i]? = some x) (hj : X.N[j]? = some y) (hij : i ≠ j) (wi : i ∈ wr) (wj : j ∈ wr)
    (hx : X.env.scope.names.lookup x = some .local) (hy : X.env.scope.names.lookup y = some .local) (ha : PA X [a, b] (tAs T W ms))
    (hw : swappedStores [.Tuple [.Name x px, .Name y py] kt pt] (.Tuple [a, b] k2 pt2) X.env = pure (some [x, y])) :
    PS X (.Assign [.Tuple [.Name x px, .Name y py] kt pt] (.Tuple [a, b] k2 pt2) pos) (tS T W wr fun ρ => (ms ρ).thn fun as ρ => match arRs as with
      | some rs => if [i, j].length = rs.length then .nx (setRs [i, j] rs ρ) else .stuck
      | none => .stuck) := by
  refine (ps_par hc hN hi hj hij hx hy ha hw (by rfl)).impL fun D σ H hl q => ?_
  obtain ⟨F, M, ρ, cf, q⟩ := q
  refine ⟨F, M, ρ, cf, q.thn.imp fun as ρ1 k vs F1 H1 is cf1 => ?_⟩
  cases z : arRs as with
  | none => rw [z] at k; exact k.elim
  | some rs =>
    rw [z] at k
    dsimp only at k
    split at k
    · rename_i c
      match rs, c with
      | [r1, r2], _ =>
        have e := arRs_two z
        subst e
        have hlen := ins_len is
        match vs, hlen with
        | [v1, v2], _ =>
          have cf1 : Cf T F1 H1 ((r1, v1) :: (r2, v2) :: M) ρ1 σ := cf1
          have li : i < σ.length := by rw [hl]; exact (List.getElem?_eq_some_iff.mp hi).1
          have lj : j < σ.length := by rw [hl]; exact (List.getElem?_eq_some_iff.mp hj).1
          exact ⟨v1, v2, rfl, k _ F1 H1 ((Ag.set wi).trans (Ag.set wj)) ((cf1.into li).into (by simpa using lj))⟩
    · exact k.elim
/-- a, b = x, y where a pair is laid and taken apart -/
theorem ps_parG {i j : Nat} {tg a b : Expr} {k2 : Nat} {pt2 pos : Pos} {ms : Env → Res (List Ar)} (hK : KW X T) (hij : i ≠ j) (wi : i ∈ wr) (wj : j ∈ wr) (ni : i < X.N.length) (nj : j < X.N.length)
    (ha : PA X [a, b] (tAs T W ms)) (hg : PG X tg ((Tg.many [i, j]).rd X.K)) (hs : swappedStores [tg] (.Tuple [a, b] k2 pt2) X.env = pure none) (h1 : (assignEach [tg] X.env).map (·.2) = [assign tg X.env]) :
    PS X (.Assign [tg] (.Tuple [a, b] k2 pt2) pos) (tS T W wr fun ρ => (ms ρ).thn fun as ρ => match arRs as with
      | some rs => if [i, j].length = rs.length then .nx (setRs [i, j] rs ρ) else .stuck
      | none => .stuck) := by
  refine (ps_asg (pe_tup ha) hg (by unfold swapsWithSole; exact swaps_plain rfl) hs h1).impL fun D σ H hl q => ?_
  obtain ⟨F, M, ρ, cf, q⟩ := q
  refine ⟨F, M, ρ, cf, q.thn.imp fun as ρ1 k vs F1 H1 is cf1 => ?_⟩
  cases z : arRs as with
  | none => rw [z] at k; exact k.elim
  | some rs =>
    rw [z] at k
    dsimp only at k
    split at k
    · rename_i c
      match rs, c with
      | [r1, r2], _ =>
        have e := arRs_two z
        subst e
        have hlen := ins_len is
        match vs, hlen with
        | [v1, v2], _ =>
          have cf1 : Cf T F1 H1 ((r1, v1) :: (r2, v2) :: M) ρ1 σ := cf1
          have li : i < σ.length := by rw [hl]; exact ni
          have lj : j < σ.length := by rw [hl]; exact nj
          refine ⟨by show 2 ≤ PySem.sizeLine; decide, fun p np => ?_⟩
          obtain ⟨cf2, _⟩ := cf1.newF (o := .tup [v1, v2]) np
          refine ⟨p, [v1, v2], rfl, .inl (.inl (by simp [upd])), rfl, ?_⟩
          exact ⟨v1, [v2], rfl, v2, [], rfl, rfl, k _ _ _ ((Ag.set wi).trans (Ag.set wj)) ((cf2.into li).into (by simpa using lj))⟩
    · exact k.elim
theorem ps_par3F {i j l : Nat} {x y z : Str} {a b c : Expr} {px py pz pt pos : Pos} {kt k2 pt2} {ms : Env → Res (List Ar)} (hc : X.calm = true) (hN : X.N.Nodup) (hi : X.N[i]? = some x) (hj : X.N[j]? = some y) (hl : X.N[l]? = some z) (hij : i ≠ j) (hil : i ≠ l) (hjl : j ≠ l) (wi : i ∈ wr) (wj : j ∈ wr) (wl : l ∈ wr)
    (hx : X.env.scope.names.lookup x = some .local) (hy : X.env.scope.names.lookup y = some .local) (hz : X.env.scope.names.lookup z = some .local) (ha : PA X [a, b, c] (tAs T W ms))
    (hw : swappedStores [.Tuple [.Name x px, .Name y py, .Name z pz] kt pt] (.Tuple [a, b, c] k2 pt2) X.env = pure (some [x, y, z])) :
    PS X (.Assign [.Tuple [.Name x px, .Name y py, .Name z pz] kt pt] (.Tuple [a, b, c] k2 pt2) pos) (tS T W wr fun ρ => (ms ρ).thn fun as ρ => match arRs as with
      | some rs => if [i, j, l].length = rs.length then .nx (setRs [i, j, l] rs ρ) else .stuck
      | none => .stuck) := by
  refine (ps_par3 hc hN hi hj hl hij hil hjl hx hy hz ha hw (by rfl)).impL fun D σ H hn q => ?_
  obtain ⟨F, M, ρ, cf, q⟩ := q
  refine ⟨F, M, ρ, cf, q.thn.imp fun as ρ1 k vs F1 H1 is cf1 => ?_⟩
  cases z : arRs as with
  | none => rw [z] at k; exact k.elim
  | some rs =>
    rw [z] at k
    dsimp only at k
    split at k
    · rename_i c
      match rs, c with
      | [r1, r2, r3], _ =>
        have e := arRs_three z
        subst e
        have hlen := ins_len is
        match vs, hlen with
        | [v1, v2, v3], _ =>
          have cf1 : Cf T F1 H1 ((r1, v1) :: (r2, v2) :: (r3, v3) :: M) ρ1 σ := cf1
          have li : i < σ.length := by rw [hn]; exact (List.getElem?_eq_some_iff.mp hi).1
          have lj : j < σ.length := by rw [hn]; exact (List.getElem?_eq_some_iff.mp hj).1
          have ll : l < σ.length := by rw [hn]; exact (List.getElem?_eq_some_iff.mp hl).1
          exact ⟨v1, v2, v3, rfl, k _ F1 H1 (((Ag.set wi).trans (Ag.set wj)).trans (Ag.set wl)) (((cf1.into li).into (by simpa using lj)).into (by simpa using ll))⟩
    · exact k.elim
theorem ps_sdfF {x : Str} {i : Nat} {ek e : Expr} {p0 p1 p2 pos : Pos} {mk m : Env → Res D} (hK : KW X T) (ho : PE X (.Name x p0) (tVar i)) (hk : PE X ek (tD T W mk)) (he : PE X e (tD T W m)) (h1 : Ex.star ek = false) (h2 : Ex.star e = false) (hl : (p1.endLine == p2.line) = true) :
    PS X (.Expr (.Call (.Attribute (.Name x p0) "setdefault" p1) [ek, e] [] p2) pos) (tS T W wr fun ρ => match ρ.at i with
    | some (.dct ks0 _) => if ks0.all D.isInt = true then (mk ρ).thn fun k ρ => (m ρ).thn fun d ρ => (match ρ.at i with
      | some (.dct ks vs) => if k.isInt = true ∧ ks.all D.isInt = true ∧ ks.length < LINE then .nx (ρ.set i (some (match dFind ks k with
        | some _ => .dct ks vs
        | none => .dct (ks ++ [k]) (vs ++ [d])))) else .stuck
      | _ => .stuck) else .stuck
    | _ => .stuck) := by
  have s2 : starEach [e] X.env = [(false, eval e X.env)] := star_cons [] _ h2
  have s1 : starEach [ek, e] X.env = [(false, eval ek X.env), (false, eval e X.env)] := by rw [star_cons [e] _ h1, s2]
  refine (ps_expr (pe_dsetd ho hk he ⟨att_plain rfl, by rw [s1]; rfl, hl, by rw [s1]; rfl⟩) (swaps_plain rfl)).imp fun D σ H q => ?_
  obtain ⟨F, M, ρ, cf, q⟩ := q
  dsimp only at q
  cases z : ρ.at i with
  | none => rw [z] at q; exact q.elim
  | some r =>
    cases r with
    | dct ks0 vs0 =>
      rw [z] at q
      dsimp only at q
      split at q
      · rename_i c0
        obtain ⟨p, o, e1, e2, e3, _⟩ := cf.dct z
        obtain ⟨kv0, ho0, _, _⟩ := dr_int e3 c0
        refine ⟨_, e1, p, rfl, .inl ⟨_, .inl (by rw [e2, ho0])⟩, F, M, ρ, cf, (SOut.thn q).imp fun kd ρ1 k v F1 H1 cf1 => ?_⟩
        refine ⟨F1, _, ρ1, cf1, (SOut.thn (SOut.wkL (P := [(.val kd, v)]) k)).imp fun d ρ2 k v2 F2 H2 cf2 => ?_⟩
        cases z1 : ρ2.at i with
        | none => rw [z1] at k; exact k.elim
        | some r1 =>
          cases r1 with
          | dct ks vs =>
            rw [z1] at k
            dsimp only at k
            split at k
            · rename_i c
              obtain ⟨c1, c2, c3⟩ := c
              have rv := cf2.rp
              have rk := cf2.tail.rp
              obtain ⟨ik, rfl, rfl⟩ := rp_int (rk.rt cf2.sub) c1
              obtain ⟨p', o', f1, f2, f3, cf3⟩ := cf2.tail.tail.dct z1
              rw [e1] at f1; cases f1
              obtain ⟨kvs, rfl, rfl, hv⟩ := dr_int f3 c2
              refine ⟨_, Sum.inl ik, f2, rfl, by rw [← line_eq, List.length_map]; simpa using c3, fun w hw => ?_, fun hn => ?_⟩
              · rw [valV_int] at hw
                cases q : kvs.findIdx? fun p => p.1 == ik with
                | none => rw [q] at hw; cases hw
                | some j0 =>
                  have e9 : dFind (kvs.map fun p => Fx.D.int p.1) (.int ik) = some j0 := by rw [find_int, q]
                  rw [e9] at k
                  exact k _ F2 _ .refl ((cf3.back e1).val (.int ik))
              · rw [putK_new v2 hn]
                rw [valV_int] at hn
                have e9 : dFind (kvs.map fun p => Fx.D.int p.1) (.int ik) = none := by
                  rw [find_int]
                  cases q : kvs.findIdx? fun p => p.1 == ik with
                  | none => rfl
                  | some j0 =>
                    rw [q] at hn
                    rw [List.findIdx?_eq_some_iff_getElem] at q
                    obtain ⟨hl, _, _⟩ := q
                    simp [List.getElem?_eq_getElem hl] at hn
                rw [e9] at k
                have dr' : DR T F2 p (.dK ((kvs.map fun p => ((Sum.inl p.1 : Key), p.2)) ++ [(Sum.inl ik, v2)])) (kvs.map (fun p => Fx.D.int p.1) ++ [.int ik]) (vs ++ [d]) := .inl ⟨kvs ++ [(ik, v2)], by simp, by simp, by rw [List.map_append]; exact hv.app (.cons rv .nil)⟩
                exact k _ F2 _ .refl (((cf3.putD dr').back e1).val (.int ik))
            · exact k.elim
          | _ => rw [z1] at k; exact k.elim
      · exact q.elim
    | _ => rw [z] at q; exact q.elim
end Fx
end
section
set_option linter.all false
set_option Elab.async false
set_option maxRecDepth 100000
set_option maxHeartbeats 4000000
/-! Methods, owned fields, while. -/
namespace Fx
open PySem PySem.Spec L2
variable {T : Nm} {W : WX} {X : Cx} {σ : St} {M : Lv} {wr : List Nat} {g : G}
/-! ### o.m(..) -/
def tMethW (C : Addr) (m : Str) (sp : Sp) (E : St → XK) (ta : TE) (t : TA) : TE := fun σ H Q => ta σ H fun x H1 => ∃ a dx fs, x = .ref a ∧ H1 a = some (.ins C dx fs) ∧ fs.lookup m = none ∧ t σ H1 fun vs H2 => sp (x :: vs) H2 Q (E σ)
section
variable {CX : CXT} {k : Nat} {f C : Addr} {fd : FuncData} {ps : List Str} {sp : Sp} {E : St → XK} {m : Str} {pos apos : Pos} {e o : Expr} {es : List Expr} {ta : TE} {t : TA}
theorem pe_methW {pl : Sem Bool} (he : PE X o ta) (c : Cls X.K C) (hm : Meth X.K C m f) (F : FnOk X.prog X.w X.K X.mg X.base CX k f fd ps sp) (hr : Room k X.A) (hb : Binds X.K fd ps []) (hx : ∀ σ, PassesAt CX X σ (E σ)) (ha : PA X (e :: es) t)
    (hst : starEach (e :: es) X.env = (false, eval e X.env) :: starEach es X.env) (hpl : (backTo pos (starEach es X.env)).any (·.1) = false)
    (ht : eval (.Call (.Attribute o m apos) (e :: es) [] pos) X.env = (do
      let ov ← eval o X.env
      standAt apos.atName
      let (f, first) ← holding [ov] (getMethod ov m pl)
      callWith pos f first (backTo pos (starEach (e :: es) X.env)) (backToKw pos (keywordEach [] X.env)))) :
    PE X (.Call (.Attribute o m apos) (e :: es) [] pos) (tMethW C m sp E ta t) := by
  refine ⟨fun pins s σ H Q I h => ?_⟩
  refine PySem.W.methodCall_KW (pl := pl) (thn (he.run pins s σ H _ I h) fun u s1 ⟨x, H1, I1, rx, a, dx, fs, ex, ea, l, q⟩ => ?_) ht
  subst ex
  obtain rfl : u = Value.ref a := rx
  refine getmeth_ok I1 ea c hm l ?_
  refine PySem.W.callWith_K (first := [.ref a]) (h₀ := X.base) I.ok.mod.kin hm.kp (thn (ha.run pos pins s1 σ H1 _ I1 q) fun us s2 ⟨vs, H2, I2, r, q2⟩ => ⟨I2.kIn, ?_⟩) hst hpl
  exact run_fnSD (us := .ref a :: us) (vs := .ref a :: vs) (dvs := []) F hr hb .nil (hx σ) I2 (.cons rfl r) (by rw [List.append_nil]; exact q2)
theorem pe_meth0W {pl : Sem Bool} (he : PE X o ta) (c : Cls X.K C) (hm : Meth X.K C m f) (F : FnOk X.prog X.w X.K X.mg X.base CX k f fd ps sp) (hr : Room k X.A) (hb : Binds X.K fd ps []) (hx : ∀ σ, PassesAt CX X σ (E σ))
    (ht : eval (.Call (.Attribute o m apos) [] [] pos) X.env = (do
      let ov ← eval o X.env
      standAt apos.atName
      let (f, first) ← holding [ov] (getMethod ov m pl)
      callWith pos f first (backTo pos (starEach [] X.env)) (backToKw pos (keywordEach [] X.env)))) :
    PE X (.Call (.Attribute o m apos) [] [] pos) (tMethW C m sp E ta tNil) := by
  refine ⟨fun pins s σ H Q I h => ?_⟩
  refine PySem.W.methodCall_KW (pl := pl) (thn (he.run pins s σ H _ I h) fun u s1 ⟨x, H1, I1, rx, a, dx, fs, ex, ea, l, q⟩ => ?_) ht
  subst ex
  obtain rfl : u = Value.ref a := rx
  refine getmeth_ok I1 ea c hm l ?_
  exact PySem.W.callWith_K0 (first := [.ref a]) I1.kIn hm.kp (run_fnSD (us := [.ref a]) (vs := [.ref a]) (dvs := []) F hr hb .nil (hx σ) I1 (.cons rfl .nil) (by rw [List.append_nil]; exact q))
end
theorem meth_eq {o : Expr} {m : Str} {apos pos : Pos} {es : List Expr} {env : PySem.Env} (hb : attributeBase o m env (eval o env) = eval o env) (hs : es.all (fun e => !Ex.star e) = true) (hn : es.length < 29) (hl : (apos.endLine == pos.line) = true) :
    eval (.Call (.Attribute o m apos) es [] pos) env = (do
      let ov ← eval o env
      standAt apos.atName
      let (f, first) ← holding [ov] (getMethod ov m (do return (← importBound o env).getD true))
      callWith pos f first (backTo pos (starEach es env)) (backToKw pos (keywordEach [] env))) := by
  rw [arm_eval_Call, hb]
  have hform : methodCallForm (es.length + ([] : List Keyword).length) (backTo pos (starEach es env)) (backToKw pos (keywordEach [] env)) = true := by
    have h1 := star_plain (pos := pos) (env := env) es hs
    have h2 : (backTo pos (starEach es env)).all (fun x => !x.1) = true := by
      rw [List.all_eq_true]
      rw [List.any_eq_false] at h1
      intro x hx
      simpa using h1 x hx
    unfold methodCallForm
    rw [h2]
    show (true && true && decide (es.length + 0 + 0 < 30)) = true
    simp; omega
  have hpos : methodCallPos true o env apos pos = pure pos := by unfold methodCallPos; simp [hl]
  unfold methodCall
  rw [hform, hpos]
  rfl
structure MtKn (T : Nm) (Φ : Fn) (X : Cx) (f np : Nat) (C : Addr) (m : Str) : Prop where
  ok : ∃ k fa fd ps, Meth X.K C m fa ∧ FnOk X.prog X.w X.K X.mg X.base (L2.CX X.prog X.w) k fa fd ps (spF T Φ f np) ∧ Room k X.A ∧ Binds X.K fd ps []
theorem lookup_zip_none {m : Str} : ∀ {L : List Str} {xs : List V}, m ∉ L → (L.zip xs).lookup m = none
  | [], _, _ => rfl
  | _ :: _, [], _ => rfl
  | l :: L, x :: xs, h => by
    rw [List.zip_cons_cons, List.lookup_cons]
    have : (m == l) = false := by simpa using fun e : m = l => h (by rw [e]; simp)
    rw [this]
    exact lookup_zip_none fun z => h (List.mem_cons_of_mem _ z)
theorem mcall_imp {Φ : Fn} {m c f np i : Nat} {mn : Str} {ms : Env → Res (List Ar)} {σ : St} {H : Hp} {Q : VK} (hm : g.meth m = some (c, f)) (hn : mn ∉ (T.flds c).map T.fname) (hln : ∀ ρ as ρ', ms ρ = .ok as ρ' → as.length + 1 = np)
    (h : tM T W (fun ρ => mcallR g Φ m (argVar i ρ) ms) σ H Q) :
    tAr T W (argVar i) σ H fun x H1 => ∃ a dx fs, x = .ref a ∧ H1 a = some (.ins (T.cls c) dx fs) ∧ fs.lookup mn = none ∧ tAs T W ms σ H1 fun vs H2 => spF T Φ f np (x :: vs) H2 Q (WE W σ) := by
  obtain ⟨F, M, ρ, cf, q⟩ := h
  refine ⟨F, M, ρ, cf, (Out.bind q).imp fun a ρ1 q1 v F1 H1 i1 cf1 => ?_⟩
  rw [hm] at q1
  dsimp only at q1
  split at q1
  · rename_i hc
    have cell : ∃ p dx xs, v = .ref p ∧ H1 p = some (.ins (T.cls c) dx (T.zip c xs)) := by
      have hc1 := hc.1
      cases a with
      | v r =>
        cases r with
        | val d =>
          cases d with
          | ins c' ds =>
            have e : c' = c := Option.some.inj hc1
            subst e
            have rp : Rp T F1 v (.ins c' ds) := Cf.rp (M := M) cf1
            cases rp with
            | ins h1 hl h2 => exact ⟨_, _, _, rfl, Cf.sub cf1 _ _ h1⟩
          | _ => cases hc1
        | _ => cases hc1
      | b j =>
        have hc1 : (match ρ1.at j with
          | some (.obj c _) => some c
          | _ => none) = some c := hc1
        cases z : ρ1.at j with
        | none => rw [z] at hc1; cases hc1
        | some r =>
          rw [z] at hc1
          cases r with
          | obj c' rs =>
            have e : c' = c := Option.some.inj hc1
            subst e
            obtain ⟨w, e1, cf2⟩ := Cf.out (M := M) cf1 (at_get z)
            have i1 : σ[j]? = some (some v) := i1
            rw [i1] at e1
            cases e1
            obtain ⟨p, dx, xs, rfl, hp, _⟩ := cf2.objAt
            exact ⟨p, dx, xs, rfl, hp⟩
          | _ => cases hc1
    obtain ⟨p, dx, xs, rfl, hp⟩ := cell
    have q1 := Out.bind q1
    refine ⟨p, dx, _, rfl, hp, lookup_zip_none hn, F1, a.tmp (.ref p) ++ M, ρ1, cf1, ?_⟩
    have q1 := Out.wkL (P := a.tmp (.ref p)) q1
    cases z : ms ρ1 with
    | stuck => rw [z] at q1; exact q1.elim
    | exc c d ρ2 => rw [z] at q1; exact q1
    | ok as ρ2 =>
      rw [z] at q1
      have q1 : Out T W σ M (callR Φ f (a :: as) ρ2) _ := q1
      intro vs F2 H2 i2 cf2
      have cf3 : Cf T F2 H2 (tmps (a :: as) (.ref p :: vs) ++ M) ρ2 σ := by
        show Cf T F2 H2 ((a.tmp (.ref p) ++ tmps as vs) ++ M) ρ2 σ
        rw [List.append_assoc]
        exact Ar.tmp_in cf2
      refine callR_sp cf3 ⟨i1, i2⟩ ?_ q1
      have := hln ρ1 as ρ2 z
      have := ins_len i2
      rw [List.length_cons]; omega
  · exact q1.elim
theorem pe_mcallF {Φ : Fn} {m c f np i : Nat} {x mn : Str} {p0 p1 pos : Pos} {e : Expr} {es : List Expr} {ms : Env → Res (List Ar)} (kn : MtKn T Φ X f np (T.cls c) mn) (cl : Cls X.K (T.cls c)) (hm : g.meth m = some (c, f)) (hn : mn ∉ (T.flds c).map T.fname) (tk : Takes X W)
    (ho : PE X (.Name x p0) (tVar i)) (ha : PA X (e :: es) (tAs T W ms)) (h1 : Ex.star e = false) (h2 : es.all (fun e => !Ex.star e) = true) (h3 : es.length < 28) (hl : (p1.endLine == pos.line) = true) (hln : ∀ ρ as ρ', ms ρ = .ok as ρ' → as.length + 1 = np) :
    PE X (.Call (.Attribute (.Name x p0) mn p1) (e :: es) [] pos) (tM T W fun ρ => mcallR g Φ m (argVar i ρ) ms) := by
  obtain ⟨k, fa, fd, ps, mt, F, hr, hb⟩ := kn.ok
  refine (pe_methW (pe_argVar (T := T) (W := W) ho) cl mt F hr hb (fun σ => passAt tk σ) ha (star_cons es _ h1) (star_plain es h2) (meth_eq (att_plain rfl) (by rw [List.all_cons, h1, h2]; rfl) (by rw [List.length_cons]; omega) hl)).imp fun σ H Q h => ?_
  exact mcall_imp hm hn hln h
theorem pe_mcall0F {Φ : Fn} {m c f i : Nat} {x mn : Str} {p0 p1 pos : Pos} (kn : MtKn T Φ X f 1 (T.cls c) mn) (cl : Cls X.K (T.cls c)) (hm : g.meth m = some (c, f)) (hn : mn ∉ (T.flds c).map T.fname) (tk : Takes X W) (ho : PE X (.Name x p0) (tVar i)) (hl : (p1.endLine == pos.line) = true) :
    PE X (.Call (.Attribute (.Name x p0) mn p1) [] [] pos) (tM T W fun ρ => mcallR g Φ m (argVar i ρ) fun ρ => .ok [] ρ) := by
  obtain ⟨k, fa, fd, ps, mt, F, hr, hb⟩ := kn.ok
  refine (pe_meth0W (pe_argVar (T := T) (W := W) ho) cl mt F hr hb (fun σ => passAt tk σ) (meth_eq (att_plain rfl) rfl (by decide) hl)).imp fun σ H Q h => ?_
  obtain ⟨F1, M1, ρ1, cf1, q1⟩ := mcall_imp (np := 1) hm hn (fun ρ as ρ' e => by cases e; rfl) h
  refine ⟨F1, M1, ρ1, cf1, q1.imp fun a ρ2 q2 v F2 H2 i2 cf2 => ?_⟩
  obtain ⟨p, dx, fs, ev, e1, e2, F3, M3, ρ3, cf3, q3⟩ := q2 v F2 H2 i2 cf2
  exact ⟨p, dx, fs, ev, e1, e2, q3 [] F3 H2 trivial cf3⟩
/-! ### owned fields -/
theorem Cf.closeO {F H : Hp} {ρ : Env} {c : Nat} {rs : List R} {p dx : Addr} {xs : List V} (h : Cf T F H ((.raw (.ins (T.cls c) dx (T.zip c xs)), .ref p) :: (rs.zip xs ++ M)) ρ σ) (e : rs.length = xs.length) (l : xs.length ≤ (T.flds c).length) : Cf T F H ((.obj c rs, .ref p) :: M) ρ σ := by
  obtain ⟨L, sl, rp⟩ := h
  refine ⟨L, sl, ?_⟩
  rw [List.cons_append, List.append_assoc] at rp
  exact rp.closeO e l
theorem Cf.putV {F H : Hp} {ρ : Env} {i : Nat} {r : R} {v : V} (h : Cf T F H ((r, v) :: M) ρ σ) (e : σ[i]? = some (some v)) : Cf T F H M (ρ.set i (some r)) σ := by
  have q := Cf.into (i := i) h (List.getElem?_eq_some_iff.mp e).1
  rwa [set_id e] at q
theorem Cf.fldAt {nc f i c j : Nat} {rs : List R} {r : R} {F H : Hp} {ρ : Env} (cf : Cf T F H M ρ σ) (A : ClsAll T X.K nc) (hnc : g.nc = nc) (hfl : g.flds = T.flds) (e : fldR g f (ρ.at i) = some (c, rs, j, r)) : ∃ p dx xs w, σ[i]? = some (some (.ref p)) ∧ H p = some (.ins (T.cls c) dx (T.zip c xs)) ∧ Cls X.K (T.cls c) ∧
    NoAttr X.K (T.cls c) (T.fname f) ∧ (T.zip c xs).lookup (T.fname f) = some w ∧ rs[j]? = some r ∧ xs[j]? = some w ∧ rs.length = xs.length ∧ xs.length ≤ (T.flds c).length ∧
    Cf T F H ((.raw (.ins (T.cls c) dx (T.zip c xs)), .ref p) :: (rs.zip xs ++ M)) (ρ.set i none) σ := by
  cases z : ρ.at i with
  | none => rw [z] at e; cases e
  | some r0 =>
    rw [z] at e
    cases r0 with
    | obj c' rs' =>
      unfold fldR at e
      dsimp only at e
      split at e
      · rename_i hc
        split at e
        · rename_i r1 e1
          cases e
          obtain ⟨v, ev, cf'⟩ := cf.out (at_get z)
          obtain ⟨L, sl, rp⟩ := cf'
          obtain ⟨p, dx, xs, rfl, hp, hl, hx, rp'⟩ := Reps.openO (L := M ++ L) rp
          rw [hnc] at hc
          rw [hfl] at e1 ⊢
          have kn := A.of _ hc
          have hj : (T.flds c).idxOf f < xs.length := by rw [← hl]; exact (List.getElem?_eq_some_iff.mp e1).1
          have e2 : xs[(T.flds c).idxOf f]? = some xs[(T.flds c).idxOf f] := List.getElem?_eq_getElem hj
          refine ⟨p, dx, xs, _, ev, hp, kn.cl, kn.na f (idx_mem (by omega)), zip_look f T.fname _ xs _ kn.nd e2 (idx_mem (by omega)), e1, e2, hl, hx, L, sl, ?_⟩
          rw [List.cons_append, List.append_assoc]
          exact rp'
        · cases e
      · cases e
    | _ => cases e
section
variable {nc i f : Nat} {x n : Str} {p0 p1 p2 pos : Pos} {ek e : Expr} {mk m : Env → Res D}
theorem pe_idfF (hK : KW X T) (hu : X.A.units + 64 < cLine) (A : ClsAll T X.K nc) (hnc : g.nc = nc) (hfl : g.flds = T.flds) (hn : n = T.fname f) (ho : PE X (.Name x p0) (tVar i)) (hk : PE X ek (tD T W mk)) (hs : ixP ek = true) :
    PE X (.Subscript (.Attribute (.Name x p0) n p1) ek pos) (tM T W fun ρ => match fldR g f (ρ.at i) with
    | some (c, rs, _, .dct ks vs) => (mk (ρ.set i none)).bind fun kd ρ => if keyOk ks kd = true then optR ((dGet ks vs kd).map .val) (ρ.set i (some (.obj c rs))) else .stuck
    | _ => .stuck) := by
  subst hn
  refine (pe_ix (ix_F hK hu) (pe_fld ho (att_plain rfl)) hk (plainIx hs)).imp fun σ H Q h => ?_
  obtain ⟨F, M, ρ, cf, q⟩ := h
  dsimp only at q
  split at q
  · rename_i c rs j ks vs z
    obtain ⟨p, dx, xs, w, ev, hp, cl, na, lk, e1, e2, hl, hx, cf1⟩ := Cf.fldAt cf A hnc hfl z
    refine ⟨_, ev, p, T.cls c, dx, _, w, rfl, hp, cl, na, lk, ?_⟩
    refine ⟨F, _, ρ.set i none, cf1, (Out.wkL (P := (.raw (.ins (T.cls c) dx (T.zip c xs)), .ref p) :: rs.zip xs) (Out.bind q)).imp fun kd ρ1 q1 v1 F1 H1 cf2 => ?_⟩
    split at q1
    · rename_i ok
      obtain ⟨r, e3, kk⟩ := q1.opt
      obtain ⟨d, e4, e5⟩ := Option.map_eq_some_iff.mp e3
      subst e5
      have rk := cf2.rp
      have cf3 := cf2.tail
      have cf4 := Cf.putV (Cf.closeO cf3 hl hx) ev
      obtain ⟨L, sl, rp⟩ := cf3
      rw [List.cons_append, List.append_assoc] at rp
      obtain ⟨B, rp1, _⟩ := Reps.fldOut rp e1 e2
      obtain ⟨p', o, rfl, h1, h2⟩ := rp1.dctAt
      refine ⟨F1, .dct ks vs, kd, d, cf2.sub, ⟨p', o, rfl, .inl h1, h2⟩, rk.rt cf2.sub, ?_, fun v r => kk v F1 H1 (cf4.val r)⟩
      have : idxD (.dct ks vs) kd = if keyOk ks kd = true then dGet ks vs kd else none := by cases kd <;> rfl
      rw [this, if_pos ok]
      exact e4
    · exact q1.elim
  · exact q.elim
theorem rt_fld {F H : Hp} {c j : Nat} {rs : List R} {p dx : Addr} {xs : List V} {ks vs : List D} {w : V} {ρ : Env} (cf : Cf T F H ((.raw (.ins (T.cls c) dx (T.zip c xs)), .ref p) :: (rs.zip xs ++ M)) ρ σ) (e1 : rs[j]? = some (.dct ks vs)) (e2 : xs[j]? = some w) : Rt T F H w (.dct ks vs) := by
  obtain ⟨L, sl, rp⟩ := cf
  rw [List.cons_append, List.append_assoc] at rp
  obtain ⟨B, rp1, _⟩ := Reps.fldOut rp e1 e2
  obtain ⟨p', o, rfl, h1, h2⟩ := rp1.dctAt
  exact ⟨p', o, rfl, .inl h1, h2⟩
theorem inf_imp {α : Type} {ng : Bool} (A : ClsAll T X.K nc) (hnc : g.nc = nc) (hfl : g.flds = T.flds) {σ : St} {H : Hp} {Q : VK} {K : Lv → α → Env → Prop} {fin : R → Env → Res α}
    (h : ∃ F M ρ, Cf T F H M ρ σ ∧ Out T W σ M ((mk ρ).bind fun kd ρ => match fldR g f (ρ.at i) with
      | some (_, _, _, .dct ks _) => if keyOk ks kd = true then fin (.val (.bl (ng ^^ (dFind ks kd).isSome))) ρ else .stuck
      | _ => .stuck) (K M))
    (k : ∀ F M ρ H b, Cf T F H M ρ σ → Out T W σ M (fin (.val (.bl b)) ρ) (K M) → Q (.bl b) H) :
    tD T W mk σ H fun y H1 => tFld X.K (tVar i) (T.fname f) σ H1 fun z H2 => rC T (cmpD (if ng = true then .NotIn else .In)) y z H2 Q := by
  obtain ⟨F, M, ρ, cf, q⟩ := h
  refine ⟨F, M, ρ, cf, (Out.bind q).imp fun kd ρ1 q1 v1 F1 H1 cf1 => ?_⟩
  split at q1
  · rename_i c rs j ks vs z
    split at q1
    · rename_i ok
      obtain ⟨p, dx, xs, w, ev, hp, cl, na, lk, e1, e2, hl, hx, cf2⟩ := Cf.fldAt cf1 A hnc hfl z
      refine ⟨_, ev, p, T.cls c, dx, _, w, rfl, hp, cl, na, lk, F1, kd, .dct ks vs, (ng ^^ (dFind ks kd).isSome), cf1.sub, cf1.rp.rt cf1.sub, rt_fld cf2 e1 e2, ?_, k F1 M ρ1 H1 _ cf1.tail q1⟩
      have e : inD kd (.dct ks vs) = some (dFind ks kd).isSome := by
        have : inD kd (.dct ks vs) = if keyOk ks kd = true then some (dFind ks kd).isSome else none := by cases kd <;> rfl
        rw [this, if_pos ok]
      cases ng with
      | true =>
        show (inD kd (.dct ks vs)).map not = _
        rw [e]; simp
      | false =>
        show inD kd (.dct ks vs) = _
        rw [e]; simp
    · exact q1.elim
  · exact q1.elim
theorem pe_infF {ng : Bool} (hK : KW X T) (hu : X.A.units + 64 < cLine) (A : ClsAll T X.K nc) (hnc : g.nc = nc) (hfl : g.flds = T.flds) (hn : n = T.fname f) (ho : PE X (.Name x p0) (tVar i)) (hk : PE X ek (tD T W mk)) :
    PE X (.Compare ek [if ng = true then .NotIn else .In] [.Attribute (.Name x p0) n p1] pos) (tM T W fun ρ => (mk ρ).bind fun kd ρ => match fldR g f (ρ.at i) with
      | some (_, _, _, .dct ks _) => if keyOk ks kd = true then .ok (.val (.bl (ng ^^ (dFind ks kd).isSome))) ρ else .stuck
      | _ => .stuck) := by
  subst hn
  refine (pe_cmpR (op_cmpF hK hu _) hk (pe_fld ho (att_plain rfl)) (behind_plain rfl)).imp fun σ H Q h => ?_
  exact inf_imp (K := fun M r ρ' => ∀ v F' H', Cf T F' H' ((r, v) :: M) ρ' σ → Q v H') (fin := fun r ρ => .ok r ρ) A hnc hfl h fun F M ρ H b cf q => q _ F H (cf.val (.bl b))
theorem pt_infF {ng : Bool} (hK : KW X T) (hu : X.A.units + 64 < cLine) (A : ClsAll T X.K nc) (hnc : g.nc = nc) (hfl : g.flds = T.flds) (hn : n = T.fname f) (ho : PE X (.Name x p0) (tVar i)) (hk : PE X ek (tD T W mk)) :
    PT X (.Compare ek [if ng = true then .NotIn else .In] [.Attribute (.Name x p0) n p1] pos) (tT T W fun ρ => (mk ρ).bind fun kd ρ => match fldR g f (ρ.at i) with
      | some (_, _, _, .dct ks _) => if keyOk ks kd = true then .ok (ng ^^ (dFind ks kd).isSome) ρ else .stuck
      | _ => .stuck) := by
  subst hn
  refine (pt_cmpR (op_cmpF hK hu _) hk (pe_fld ho (att_plain rfl)) (behind_plain rfl)).imp fun σ H Q h => ?_
  refine inf_imp (K := fun M b ρ' => ∀ F' H', Cf T F' H' M ρ' σ → Q b H') (fin := fun r ρ => match r with
    | .val (.bl b) => .ok b ρ
    | _ => .stuck) A hnc hfl h fun F M ρ H b cf q => ⟨b, rfl, q F H cf⟩
theorem ps_setfF (hK : KW X T) (hu : X.A.units + 64 < cLine) (A : ClsAll T X.K nc) (hnc : g.nc = nc) (hfl : g.flds = T.flds) (hn : n = T.fname f) (ho : PE X (.Name x p0) (tVar i)) (hk : PE X ek (tD T W mk)) (he : PE X e (tD T W m)) (hc : Ex.compr e = false) (hsl : Ex.isSlice ek = false) :
    PS X (.Assign [.Subscript (.Attribute (.Name x p0) n p1) ek p2] e pos) (tS T W wr fun ρ => (m ρ).thn fun d ρ => match fldR g f (ρ.at i) with
    | some (c, rs, j, .dct ks vs) => (mk (ρ.set i none)).thn fun kd ρ => if keyOk ks kd = true ∧ ks.length < LINE then .nx (ρ.set i (some (.obj c (rs.set j (.dct (dPutK ks kd) (dPutV ks vs kd d)))))) else .stuck
    | _ => .stuck) := by
  subst hn
  have ha : ∀ v, assign (.Subscript (.Attribute (.Name x p0) (T.fname f) p1) ek p2) X.env v = (do
      let ov ← holding [v] (eval (.Attribute (.Name x p0) (T.fname f) p1) X.env)
      let iv ← holding [v, ov] (eval ek X.env)
      standAt p2
      holding [v, ov, iv] (setItem ov iv v)
      release [v, ov, iv] []) := by
    intro v
    cases ek <;> first | rfl | cases hsl
  refine (ps_asg he (pg_sub (pe_fld ho (att_plain rfl)) hk (set_dF hK hu) ha) (by unfold swapsWithSole; exact swaps_plain hc) rfl rfl).imp fun D σ H q => ?_
  obtain ⟨F, M, ρ, cf, q⟩ := q
  refine ⟨F, M, ρ, cf, (SOut.thn q).imp fun d ρ1 k v F1 H1 cf1 => ?_⟩
  split at k
  · rename_i c rs j ks vs z
    obtain ⟨p, dx, xs, w, ev, hp, cl, na, lk, e1, e2, hl, hx, cf2⟩ := Cf.fldAt cf1 A hnc hfl z
    have cf3 : Cf T F1 H1 (((.val d, v) :: (.raw (.ins (T.cls c) dx (T.zip c xs)), .ref p) :: rs.zip xs) ++ M) (ρ1.set i none) σ := cf2.permM ((List.Perm.cons _ List.perm_middle).trans (List.Perm.swap _ _ _))
    refine ⟨_, ev, p, T.cls c, dx, _, w, rfl, hp, cl, na, lk, F1, _, ρ1.set i none, cf3, (Out.wkL (SOut.thn k)).imp fun kd ρ2 k2 v2 F2 H2 cf4 => ?_⟩
    split at k2
    · rename_i ok
      have rk := cf4.rp
      have rv := Cf.rp (M := ((.raw (.ins (T.cls c) dx (T.zip c xs)), .ref p) :: rs.zip xs) ++ M) cf4.tail
      have cf5 := Cf.tail (M := ((.raw (.ins (T.cls c) dx (T.zip c xs)), .ref p) :: rs.zip xs) ++ M) cf4.tail
      obtain ⟨L, sl, rp⟩ := cf5
      rw [List.cons_append, List.cons_append, List.append_assoc] at rp
      obtain ⟨B, rp1, bk⟩ := Reps.fldOut rp e1 e2
      obtain ⟨p', ob, rfl, h1, h2⟩ := rp1.dctAt
      refine ⟨F2, p', ob, ks, vs, kd, d, cf4.sub, rfl, h1, h2, rk.rt cf4.sub, ok.1, ok.2, rv, fun o2 dr2 => ?_⟩
      have rp2 := bk F2 _ _ _ _ (rp1.putD dr2)
      have rp3 := rp2.closeO (by rw [List.length_set]; exact hl) hx
      exact k2 _ F2 _ .refl (Cf.putV (M := M) ⟨L, sl, rp3⟩ ev)
    · exact k2.elim
  · exact k.elim
theorem putF_zip_set (fn : Str) (v : V) : ∀ (L : List Str) (xs : List V) (j : Nat), L.Nodup → L[j]? = some fn → j < xs.length → putF fn v (L.zip xs) = L.zip (xs.set j v)
  | [], xs, j, _, e, _ => by simp at e
  | g :: L, [], j, nd, e, h => by simp at h
  | g :: L, x :: xs, 0, nd, e, h => by
    simp at e; subst e
    show (if g = g then _ else _) = _
    rw [if_pos rfl]; rfl
  | g :: L, x :: xs, j + 1, nd, e, h => by
    simp only [List.nodup_cons] at nd
    have e' : L[j]? = some fn := by simpa using e
    have ne : g ≠ fn := fun z => nd.1 (z ▸ List.mem_of_getElem? e')
    show (if g = fn then _ else _) = _
    rw [if_neg ne]
    show (g, x) :: putF fn v (L.zip xs) = (g, x) :: L.zip (xs.set j v)
    rw [putF_zip_set fn v L xs j nd.2 e' (by simpa using h)]
theorem ps_fldoF {m : Env → Res R} (A : ClsAll T X.K nc) (hnc : g.nc = nc) (hfl : g.flds = T.flds) (hn : n = T.fname f) (ho : PE X (.Name x p0) (tVar i)) (he : PE X e (tM T W m)) (hc : Ex.compr e = false) :
    PS X (.Assign [.Attribute (.Name x p0) n p1] e pos) (tS T W wr fun ρ => (m ρ).thn fun r ρ => match ρ.at i with
    | some (.obj c rs) => if c < g.nc then (match fldPut ((g.flds c).idxOf f) (g.flds c).length rs r with
      | some rs' => .nx (ρ.set i (some (.obj c rs')))
      | none => .stuck) else .stuck
    | _ => .stuck) := by
  subst hn
  refine (ps_fld ho he (swaps_plain hc)).imp fun D σ H q => ?_
  obtain ⟨F, M, ρ, cf, q⟩ := q
  refine ⟨F, M, ρ, cf, (SOut.thn q).imp fun r ρ1 k v F1 H1 cf1 => ?_⟩
  cases z : ρ1.at i with
  | none => rw [z] at k; exact k.elim
  | some r0 =>
    cases r0 with
    | obj c rs =>
      rw [z] at k
      dsimp only at k
      split at k
      · rename_i h1
        split at k
        · rename_i rs' e0
          rw [hfl] at e0
          rw [hnc] at h1
          have kn := A.of c h1
          obtain ⟨w, e1, cf2⟩ := cf1.out (at_get z)
          obtain ⟨L, sl, rp⟩ := cf2
          obtain ⟨p, dx, xs, rfl, hp, hl, hx, rp1⟩ := Reps.openO (L := (r, v) :: (M ++ L)) rp
          obtain ⟨xs', hxs, hl', hx', rp2⟩ := Reps.fldIn (n := (T.flds c).length) hl hx e0 rp1
          have rp3 := (rp2.rawPut (o' := .ins (T.cls c) dx (T.zip c xs'))).closeO hl' hx'
          have hj : (T.flds c).idxOf f < (T.flds c).length := by
            unfold fldPut at e0
            split at e0
            · omega
            · split at e0
              · rename_i h2; exact h2.2
              · cases e0
          have hg : ((T.flds c).map T.fname)[(T.flds c).idxOf f]? = some (T.fname f) := by
            rw [List.getElem?_map, List.getElem?_eq_getElem hj, List.getElem_idxOf]
            rfl
          refine ⟨_, e1, p, T.cls c, dx, _, rfl, hp, kn.cl, kn.na f (idx_mem hj), ?_, ?_⟩
          · have := kn.ln
            unfold Nm.zip
            rw [List.length_zip]
            omega
          · have ep : putF (T.fname f) v (T.zip c xs) = T.zip c xs' := by
              split at hxs
              · rename_i h3
                subst hxs
                exact putF_zip_set _ _ _ _ _ kn.nd hg h3
              · rename_i h3
                subst hxs
                have e2 : (T.flds c).idxOf f = xs.length := by
                  unfold fldPut at e0
                  split at e0
                  · omega
                  · split at e0
                    · rename_i h4; omega
                    · cases e0
                rw [e2] at hg
                exact putF_zip _ _ _ _ kn.nd hg
            rw [ep]
            exact k _ F1 _ .refl (Cf.back (M := M) ⟨L, sl, rp3⟩ e1)
        · exact k.elim
      · exact k.elim
    | _ => rw [z] at k; exact k.elim
end
/-! ### gcd -/
theorem pe_gcdF {p pos : Pos} {ea eb : Expr} {ma mb : Env → Res D} (hg : Gl X "gcd") (hm : X.mg "gcd" = some (.builtin "math.gcd")) (ha : PE X ea (tD T W ma)) (hb : PE X eb (tD T W mb)) (h1 : Ex.star ea = false) (h2 : Ex.star eb = false) :
    PE X (.Call (.Name "gcd" p) [ea, eb] [] pos) (tM T W fun ρ => (ma ρ).bind fun x ρ => (mb ρ).bind fun y ρ => match x, y with
      | .int i, .int j => .ok (.val (.int (Nat.gcd i.natAbs j.natAbs))) ρ
      | _, _ => .stuck) := by
  refine (pe_callBfun cr_gcd hg hm (pa_cons ha (pa_cons hb pa_nil (star_cons [] _ h2)) (star_cons [eb] _ h1)) (by decide) (star_cons [eb] _ h1) (star_plain [eb] (by simp [h2]))).imp fun σ H Q h => ?_
  obtain ⟨F, M, ρ, cf, q⟩ := h
  refine ⟨F, M, ρ, cf, (Out.bind q).imp fun x ρ1 q1 vx F1 H1 cf1 => ?_⟩
  refine ⟨F1, _, ρ1, cf1, (Out.wk (Out.bind q1)).imp fun y ρ2 q2 vy F2 H2 cf2 => ?_⟩
  cases x with
  | int i =>
    cases y with
    | int j =>
      have r1 := cf2.tail.rp
      have r2 := cf2.rp
      cases r1
      cases r2
      exact ⟨i, j, rfl, q2 _ F2 H2 (cf2.tail.tail.val (.int _))⟩
    | _ => exact q2.elim
  | _ => exact q2.elim
/-! ### x += e -/
theorem ps_augF {sb : Bool} {i : Nat} {x : Str} {pos pos' : Pos} {e : Expr} {m : Env → Res D} (hw : i ∈ wr) (hN : X.N.Nodup) (hi : X.N[i]? = some x) (hx : Loc X.env.scope x) (hf : X.fn x = true ∨ X.env.scope.names.lookup x = some .local) (he : PE X e (tD T W m)) :
    PS X (.AugAssign (.Name x pos') (if sb = true then .Sub else .Add) e pos) (tS T W wr fun ρ => match ρ.at i with
    | some (.val (.int a)) => (m ρ).thn fun d ρ => (match d with
      | .int b => .nx (ρ.set i (some (.val (.int (if sb = true then a - b else a + b)))))
      | _ => .stuck)
    | _ => .stuck) := by
  have ho : PIp X (if sb = true then .Sub else .Add) (fun x y H Q => ∃ i j, x = .int i ∧ y = .int j ∧ Q (.int (if sb = true then i - j else i + j)) H) := by
    cases sb with
    | true => exact in_sub
    | false => exact in_add
  refine (ps_aug hN hi hx he ho hf).impL fun D σ H hl q => ?_
  obtain ⟨F, M, ρ, cf, q⟩ := q
  dsimp only at q
  split at q
  · rename_i a z
    obtain ⟨v, F', ev, s, cf'⟩ := cf.read (at_get z) rfl
    rw [show R.toD (.val (.int a)) = .int a from rfl, set_same (at_get z)] at cf'
    have ra := cf'.rp
    cases ra
    refine ⟨_, ev, F', M, ρ, cf'.tail, (SOut.thn q).imp fun d ρ1 k y F1 H1 cf1 => ?_⟩
    split at k
    · rename_i b
      have rb := cf1.rp
      cases rb
      refine ⟨a, b, rfl, rfl, ?_⟩
      have cf2 := cf1.tail.val (.int (if sb = true then a - b else a + b))
      have hi' : i < σ.length := by rw [hl]; exact (List.getElem?_eq_some_iff.mp hi).1
      exact k _ F1 H1 (.set hw) (cf2.into hi')
    · exact k.elim
  · exact q.elim
/-! ### while -/
theorem ps_whlF {c : Expr} {body : List Stmt} {pos : Pos} {mc : Env → Res Bool} {mb : Env → SRes} {n : Nat} (hp : PassesOwn (model X.prog X.w) X.A X.env X.xe) (hc : PT X c (tT T W mc)) (hb : PSs X body (tS T W wr mb)) :
    PS X (.While c body [] pos) (tS T W wr fun ρ => whF mc mb n ρ) := by
  refine (ps_while hp hc hb).imp fun D σ H q => ?_
  obtain ⟨F, M, ρ, cf, q⟩ := q
  refine ⟨fun m σ' H' => ∃ F ρ, Cf T F H' M ρ σ' ∧ SOut T W wr M (whF mc mb m ρ) D σ', ⟨n, F, ρ, cf, q⟩, ?_⟩
  rintro m σ1 H1 ⟨F1, ρ1, cf1, q1⟩
  cases m with
  | zero => exact q1.elim
  | succ m =>
    have q1 : SOut T W wr M ((mc ρ1).thn fun b ρ => if b = true then (match mb ρ with
      | .nx ρ2 => whF mc mb m ρ2
      | .ct ρ2 => whF mc mb m ρ2
      | .bk ρ2 => .nx ρ2
      | x => x) else .nx ρ) D σ1 := q1
    refine ⟨F1, M, ρ1, cf1, (SOut.thn q1).imp fun b ρ2 k F2 H2 cf2 => ?_⟩
    cases b with
    | false => exact k σ1 F2 H2 .refl cf2
    | true =>
      have k : SOut T W wr M (match mb ρ2 with
        | .nx ρ2 => whF mc mb m ρ2
        | .ct ρ2 => whF mc mb m ρ2
        | .bk ρ2 => .nx ρ2
        | x => x) D σ1 := k
      refine ⟨fun σ' H' => ∃ F ρ, Cf T F H' M ρ σ' ∧ SOut T W wr M (whF mc mb m ρ) D σ', fun σ' H' p => ⟨m, Nat.lt_succ_self m, p⟩, F2, M, ρ2, cf2, ?_⟩
      exact SOut.lp (k := fun ρ => whF mc mb m ρ) k fun ρ σ3 F3 H3 h a3 cf3 => ⟨F3, ρ, cf3, h.ag a3⟩
end Fx
end
section
set_option linter.all false
set_option Elab.async false
set_option maxRecDepth 100000
set_option maxHeartbeats 4000000
/-! list.index, of whole numbers. -/
namespace Fx
open PySem PySem.Spec L2
variable {T : Nm} {W : WX} {X : Cx} {σ : St} {M : Lv}
/-- no call without arguments -/
def nc0 : Expr → Bool
  | .Call (.Name _ _) [] [] _ => false
  | _ => true
theorem att_nc {o : Expr} {n : Str} {env : PySem.Env} {w : Sem Value} (h : nc0 o = true) : attributeBase o n env w = w := by
  unfold attributeBase
  split
  · cases h
  · rfl
theorem ints_flat {F : Hp} : ∀ {ds : List D} {vs : List V}, RpL T F vs ds → ds.all D.isInt = true → vs.all flatV = true
  | [], _, h, _ => by cases h; rfl
  | d :: ds, _, h, k => by
    rw [List.all_cons, Bool.and_eq_true] at k
    cases h with
    | cons r t =>
      rw [List.all_cons, ints_flat t k.2, Bool.and_true]
      cases d with
      | int i => cases r; rfl
      | _ => cases k.1
theorem int_eqV {F : Hp} {d e : D} {v w : V} (hd : d.isInt = true) (he : e.isInt = true) (r : Rp T F v d) (r' : Rp T F w e) : eqV v w = d.eqv e := by
  cases d with
  | int i =>
    cases e with
    | int j =>
      cases r
      cases r'
      show (i == j) = decide (i = j)
      rfl
    | _ => cases he
  | _ => cases hd
theorem pe_lixF {ea eb : Expr} {apos cpos : Pos} {ma mb : Env → Res D} (hK : KW X T) (ha : PE X ea (tD T W ma)) (hb : PE X eb (tD T W mb)) (h2 : Ex.star eb = false) (hc : nc0 ea = true) (hl : (apos.endLine == cpos.line) = true) :
    PE X (.Call (.Attribute ea "index" apos) [eb] [] cpos) (tM T W fun ρ => (ma ρ).bind fun x ρ => match x with
      | .lst ds => (mb ρ).bind fun y ρ => if (ds.all D.isInt && y.isInt) = true then optR ((ds.findIdx? fun z => z.eqv y).map fun j => R.val (.int j)) ρ else .stuck
      | _ => .stuck) := by
  refine (pe_bm (X := X) PySem.F.plainAttrs_list PySem.F.slot_list_index PySem.F.type_list_index mt_index ha (pa_cons hb pa_nil (star_cons [] _ h2)) (att_nc hc) (by rw [star_cons [] _ h2]; rfl) hl (star_cons [] _ h2) rfl).imp fun σ H Q h => ?_
  obtain ⟨F, M, ρ, cf, q⟩ := h
  refine ⟨F, M, ρ, cf, (Out.bind q).imp fun x ρ1 q1 vx F1 H1 cf1 => ?_⟩
  cases x with
  | lst ds =>
    have rx := cf1.rp
    cases rx with
    | @lst a xs _ t r =>
      refine ⟨.inl ⟨rfl, xs, by rw [hK.1]; exact same_sqL cf1.sub t⟩, ?_⟩
      refine ⟨F1, _, ρ1, cf1, (Out.wk (Out.bind q1)).imp fun y ρ2 q2 vy F2 H2 cf2 => ?_⟩
      split at q2
      · rename_i hc
        rw [Bool.and_eq_true] at hc
        have rx2 := cf2.tail.rp
        have ry := cf2.rp
        cases rx2 with
        | @lst a xs2 _ t2 r2 =>
          cases hf : ds.findIdx? fun z => z.eqv y with
          | none => rw [hf] at q2; exact q2.elim
          | some j =>
            rw [hf] at q2
            obtain ⟨hj, e1, e2⟩ := List.findIdx?_eq_some_iff_getElem.mp hf
            obtain ⟨z, ez, rz⟩ := r2.get (List.getElem?_eq_getElem hj)
            have iz : ds[j].isInt = true := List.all_eq_true.mp hc.1 _ (List.getElem_mem hj)
            refine ⟨a, xs2, vy, j, z, rfl, rfl, by rw [hK.1]; exact same_sqL cf2.sub t2, ?_, ints_flat r2 hc.1, ez, by rw [int_eqV iz hc.2 rz ry]; exact e1, fun m z' hm hz' => ?_, q2 _ F2 H2 (cf2.tail.tail.val (.int _))⟩
            · cases y with
              | int i => cases ry; rfl
              | _ => cases hc.2
            · have hm2 : m < ds.length := by omega
              obtain ⟨z'', ez'', rz''⟩ := r2.get (List.getElem?_eq_getElem hm2)
              rw [hz'] at ez''
              cases ez''
              rw [int_eqV (List.all_eq_true.mp hc.1 _ (List.getElem_mem hm2)) hc.2 rz'' ry]
              have := e2 m hm
              simpa using this
      · exact q2.elim
  | _ => exact q1.elim
end Fx
end
section
set_option linter.all false
set_option Elab.async false
set_option maxRecDepth 100000
set_option maxHeartbeats 4000000
/-! == of tuples whose members may have an own ==. -/
namespace Fx
open PySem PySem.SeqAt
open AutoSeq1 (wpAny_loadPart')
open MeetsSeq MeetsSeq2 MeetsSeq3 SeqRoads2
section
variable {prog : Program} {w : World} {A : Around} {R : Result → Shared → Prop}
theorem tup_eqA (t u : Addr) (xs ys : Array Value) (n m : Nat) (dt du : Option Addr) (st su : Array (Option Value)) (len : xs.size = ys.size) (J : Nat → Shared → Prop)
    (turn : ∀ i (p : i < xs.size) (q : i < ys.size) z, J i z → wpAny (model prog w) A.in1 (eqBool xs[i] ys[i]) (fun r z' => (r = true ∧ J (i + 1) z') ∨ (r = false ∧ R (.ok (.ret (.bool false))) z')) (fun e z' => R (.error e) z') z)
    (last : ∀ z, J xs.size z → R (.ok (.ret (.bool true))) z) {z : Shared} (ht : z.heap.get? t = some { cls := .type "tuple", dict := dt, data := .seq xs n, slots := st }) (hu : z.heap.get? u = some { cls := .type "tuple", dict := du, data := .seq ys m, slots := su }) (j0 : J 0 z) :
    wpAny (model prog w) A.in1 (Builtin.«tuple.__eq__» ⟨[.ref t, .ref u], []⟩) (GQ.FinOf prog w A R) (fun e z' => R (.error e) z') z := by
  have sub := AutoSeq1.sub_tuple_tuple
  have zl : (xs.toList.zip ys.toList).length = xs.size := by simp [len]
  have j00 := j0
  obtain ⟨h1, h2, h3, h4, h5⟩ := z
  wp_walk using wpAny_loadPart' ht, wpAny_loadPart' hu, wpAny_forIn_list _ (fun rest b z' => b.1 = none ∧ ∃ i, rest = (xs.toList.zip ys.toList).drop i ∧ i ≤ xs.size ∧ J i z') _
  case turn =>
    rintro ⟨v1, v2⟩ rest b z' ⟨q0, i, q1, q2, q3⟩
    have il : i < (xs.toList.zip ys.toList).length := by
      refine Nat.lt_of_not_le fun q => ?_
      rw [List.drop_of_length_le q] at q1
      cases q1
    have ix : i < xs.size := zl ▸ il
    have iy : i < ys.size := len ▸ ix
    rw [List.drop_eq_getElem_cons il] at q1
    injection q1 with q4 q5
    have e1 : v1 = xs[i] := by have q := congrArg Prod.fst q4; simpa using q
    have e2 : v2 = ys[i] := by have q := congrArg Prod.snd q4; simpa using q
    subst e1 e2
    refine wpAny_bind (wpAny_mono (turn i ix iy z' q3) (fun r z2 q => ?_) fun _ _ q => q)
    rcases q with ⟨q6, q7⟩ | ⟨q6, q7⟩
    · subst q6
      wp_walk
      exact ⟨rfl, i + 1, q5, ix, q7⟩
    · subst q6
      wp_walk
      exact q7
  case fin =>
    rintro ⟨b1, b2⟩ z' ⟨q0, i, q1, q2, q3⟩
    simp only at q0
    subst q0
    have ge : xs.size ≤ i := by
      refine Nat.le_of_not_lt fun q => ?_
      rw [List.drop_eq_getElem_cons (zl.symm ▸ q)] at q1
      cases q1
    have ei : i = xs.size := by omega
    have hR := last z' (ei ▸ q3)
    wp_walk
    simpa [Builtin.Tuple.tupleCompareSizes, len] using hR
  case h =>
    exact ⟨rfl, 0, rfl, Nat.zero_le _, j00⟩
end
section
variable {prog : Program} {w : World} {A : Around} {E : Value → Shared → Prop} {s : Shared}
theorem rc_tupEq {t u : Addr} {xs ys : Array Value} {Q : Value → Shared → Prop} (len : xs.size = ys.size) (hu : A.units < cLine) (J : Nat → Shared → Prop)
    (ht : s.heap.IsTuple t xs) (hy : s.heap.IsTuple u ys)
    (turn : ∀ i (p : i < xs.size) (q : i < ys.size) z, J i z → wpAny (model prog w) A.in1 (eqBool xs[i] ys[i]) (fun r z' => (r = true ∧ J (i + 1) z') ∨ (r = false ∧ Q (.bool false) z')) E z)
    (last : ∀ z, J xs.size z → Q (.bool true) z) (j0 : J 0 s) : wpAny (model prog w) A (richCompare .Eq (.ref t) (.ref u)) Q E s := by
  obtain ⟨⟨c1, d1, a1, l1⟩, o1, e1, n1, f1⟩ := id ht
  obtain ⟨⟨c2, d2, a2, l2⟩, o2, e2, n2, f2⟩ := id hy
  simp only at e1 f1 e2 f2
  subst e1 f1 e2 f2
  refine wpAny_richCompare_same_room (op := .Eq) ⟨_, o1, rfl⟩ ⟨_, o2, rfl⟩ F.slot_tuple_eq (GQ.call_here F.slot_tuple_eq ⟨_, o1, rfl⟩ F.entry_tuple_eq (F.args_tuple_eq_2 _ _) ?_) hu
  refine tup_eqA (R := wants (fun v s' => v ≠ .notImplemented ∧ Q v s') E) t u xs ys n1 n2 d1 d2 l1 l2 len J (fun i p q z j => ?_) (fun z q => ⟨(fun x => nomatch x), last z q⟩) o1 o2 j0
  refine wpAny_mono (turn i p q z j) (fun r z' k => ?_) fun _ _ x => x
  rcases k with k | ⟨k1, k2⟩
  · exact .inl k
  · exact .inr ⟨k1, (fun x => nomatch x), k2⟩
end
end Fx
namespace Fx
open PySem PySem.Spec L2
variable {T : Nm} {W : WX} {X : Cx} {σ : St} {M : Lv} {g : G} {Φ : Fn} {wr : List Nat}
/-! ### one value, two readings -/
theorem relV_inj {x y : V} {u : Value} (h : RelV x u) (k : RelV y u) : x = y := by
  have key : ∀ x : V, RelV x u → absV u = some x := fun x h => by
    cases x <;> first | (obtain ⟨_, rfl⟩ := h; rfl) | (cases h; rfl)
  have a := key x h
  rw [key y k] at a
  exact (Option.some.inj a).symm
theorem vals_inj : ∀ {xs ys : List V} {us : List Value}, Vals xs us → Vals ys us → xs = ys
  | _, _, _, .nil, .nil => rfl
  | _, _, _, .cons a t, .cons b r => by rw [relV_inj a b, vals_inj t r]
theorem zip_inj : ∀ (L : List Str) (a b : List V), a.length ≤ L.length → b.length ≤ L.length → L.zip a = L.zip b → a = b
  | [], a, b, h1, h2, _ => by
    cases a with
    | nil => cases b with
      | nil => rfl
      | cons _ _ => simp at h2
    | cons _ _ => simp at h1
  | x :: L, [], [], _, _, _ => rfl
  | x :: L, [], _ :: _, _, _, h => by simp at h
  | x :: L, _ :: _, [], _, _, h => by simp at h
  | x :: L, y :: a, z :: b, h1, h2, h => by
    simp only [List.zip_cons_cons, List.cons.injEq, Prod.mk.injEq, true_and] at h
    rw [h.1, zip_inj L a b (by simpa using h1) (by simpa using h2) h.2]
mutual
theorem Rp.one (hK : KW X T) {pins : List (Addr × Obj)} {F H : Hp} {s : Shared} (I : Inv X pins σ H s) (sub : Same F H) : ∀ (x y : D) (v : V), x.alk y = true → Rp T F v x → Rp T F v y → x = y
  | .int i, y, v, h, a, b => by
    cases y with
    | int j => cases a; cases b; rfl
    | _ => cases h
  | .tup xs, y, v, h, a, b => by
    cases y with
    | tup ys =>
      cases a with
      | @tup p vs _ t1 r1 =>
        cases b with
        | @tup _ ws _ t2 r2 =>
          have t1' := same_sqT sub t1
          have t2' := same_sqT sub t2
          rw [← hK.1] at t1' t2'
          obtain ⟨its, v1, p1, _⟩ := I.tuple t1'
          obtain ⟨its2, v2, p2, _⟩ := I.tuple t2'
          have e : its = its2 := by
            obtain ⟨o1, a1, a2, n1, a3⟩ := p1
            obtain ⟨o2, b1, b2, n2, b3⟩ := p2
            rw [a1] at b1
            cases b1
            rw [a3] at b3
            injection b3 with b4 b5
            exact congrArg Array.toList b4
          subst e
          have ev := vals_inj v1 v2
          subst ev
          rw [RpL.one hK I sub xs ys vs h r1 r2]
    | _ => cases h
  | .ins c xs, y, v, h, a, b => by
    cases y with
    | ins c' ys =>
      have h : (decide (c = c') && D.alks xs ys) = true := h
      simp only [Bool.and_eq_true, decide_eq_true_eq] at h
      obtain ⟨rfl, hh⟩ := h
      cases a with
      | @ins p dx _ vs _ a1 l1 r1 =>
        cases b with
        | @ins _ dx' _ ws _ b1 l2 r2 =>
          rw [a1] at b1
          have e1 := Option.some.inj b1
          injection e1 with _ _ e2
          have e3 := zip_inj _ _ _ (by rw [List.length_map, l1]; exact Nat.le_refl _) (by rw [List.length_map, l2]; exact Nat.le_refl _) e2
          subst e3
          rw [RpL.one hK I sub xs ys vs hh r1 r2]
    | _ => cases h
  | .non, y, _, h, _, _ => by cases y <;> cases h
  | .bl _, y, _, h, _, _ => by cases y <;> cases h
  | .str _, y, _, h, _, _ => by cases y <;> cases h
  | .lst _, y, _, h, _, _ => by cases y <;> cases h
  | .rng _ _, y, _, h, _, _ => by cases y <;> cases h
  | .dct _ _, y, _, h, _, _ => by cases y <;> cases h
  | .err _ _, y, _, h, _, _ => by cases y <;> cases h
theorem RpL.one (hK : KW X T) {pins : List (Addr × Obj)} {F H : Hp} {s : Shared} (I : Inv X pins σ H s) (sub : Same F H) : ∀ (xs ys : List D) (vs : List V), D.alks xs ys = true → RpL T F vs xs → RpL T F vs ys → xs = ys
  | [], ys, vs, h, a, b => by cases a; cases ys with
    | nil => rfl
    | cons y ys => cases b
  | x :: xs, [], vs, h, a, b => by cases a; cases b
  | x :: xs, y :: ys, vs, h, a, b => by
    have h : (x.alk y && D.alks xs ys) = true := h
    simp only [Bool.and_eq_true] at h
    cases a with | cons a1 a2 =>
      cases b with | cons b1 b2 => rw [Rp.one hK I sub x y _ h.1 a1 b1, RpL.one hK I sub xs ys _ h.2 a2 b2]
end
/-! ### == of tuples, member by member -/
theorem okT_some {x : FRes} {b : Bool} (h : okT x = some b) : ∃ outs, x = .ok (.val (.bl b)) outs := by
  unfold okT at h
  split at h
  · cases h; exact ⟨_, rfl⟩
  · cases h
/-- two members -/
theorem dat_turn (hK : KW X T) (hu : X.A.units + 64 < cLine) (A : ClsAll T X.K g.nc) (kn : ∀ c, c < g.nc → g.eqk c = true → EqKn T Φ g X c) {pins : List (Addr × Obj)} {F H : Hp} {L : Lv} {s : Shared} {dx dy : D} {x y : V} {v u : Value} {b : Bool}
    (I : Inv X pins σ H s) (rp : Reps T F H L) (hx : Rp T F x dx) (hy : Rp T F y dy) (rx : RelV x v) (ry : RelV y u) (sm : datD g Φ dx dy = some b) :
    wpAny (model X.prog X.w) X.A.in1 (eqBool v u) (fun r s' => r = b ∧ ∃ F' H', Inv X pins σ H' s' ∧ Reps T F' H' L) X.xe s := by
  have plain : eqD dx dy = some b → wpAny (model X.prog X.w) X.A.in1 (eqBool v u) (fun r s' => r = b ∧ ∃ F' H', Inv X pins σ H' s' ∧ Reps T F' H' L) X.xe s := fun e => by
    obtain ⟨p1, p2, dp, eb⟩ := eqD_some e
    obtain ⟨as, r1⟩ := Rp.reads I hK dx x v p1 (hx.mono rp.sub) rx
    obtain ⟨bs, r2⟩ := Rp.reads I hK dy y u p2 (hy.mono rp.sub) ry
    have q := PySem.SeqAt.eqAt_plain dx.py dy.py X.A.in1 s v u as bs r1 r2 (D.py_plain dx p1) (D.py_plain dy p2) (by rw [D.py_depth dx p1, D.py_depth dy p2]; show X.A.units + 1 + _ < _; omega)
    rw [D.py_eqv dx dy p1 p2, ← eb] at q
    exact q X.prog X.w X.xe _ ⟨rfl, F, H, I, rp⟩
  unfold datD at sm
  split at sm
  · rename_i c ds c' es
    split at sm
    · rename_i hh
      simp only [Bool.and_eq_true, decide_eq_true_eq] at hh
      obtain ⟨h1, h2, h3⟩ := hh
      have K := kn c h2 h1
      obtain ⟨kk, fa, fd, ps, hs, hf, Fo, hr, hb⟩ := K.ok
      have main : ∀ (a' : Addr) (b' : Addr), x = .ref a' → y = .ref b' → a' ≠ b' → okT (Φ (g.eqf c) [.val (.ins c ds), .val (.ins c' es)]) = some b → wpAny (model X.prog X.w) X.A.in1 (eqBool v u) (fun r s' => r = b ∧ ∃ F' H', Inv X pins σ H' s' ∧ Reps T F' H' L) X.xe s := by
        intro a' b' ea eb hab ok
        cases hx with
        | @ins a ddx _ xs _ ha hl rr =>
          cases hy with
          | @ins b2 ddy _ ys _ hb' hl' rr' =>
            cases ea
            cases eb
            cases (show v = Value.ref a' from rx)
            cases (show u = Value.ref b' from ry)
            have ha' := rp.sub _ _ ha
            obtain ⟨mA, J, _⟩ := ins_get I.hok ha'
            obtain ⟨od, J, _⟩ := J.look
            obtain ⟨m, hF⟩ := I.fr
            obtain ⟨P, KX, hP, _⟩ := kit_of I (show RelV (V.ref b') (Value.ref b') from rfl) (Rt.ty hK A rp.sub (Rp.rt rp.sub (.ins hb' hl' rr')) h3)
            refine GQ.eqBool_refG hab ?_
            refine PySem.W.cmp_K (op := .Eq) (A := X.A.in1) (tb := (D.ins c' es).ty T) (by show X.A.units + 1 < cLine; omega) hF I.ok.mod.kin J (KX.ty _ _ I.kIn hP) (K.nf h3) hs hf ?_
            have sp : spF T Φ (g.eqf c) 2 [.ref a', .ref b'] H (fun w H' => w = .bl b ∧ ∃ F', Reps T F' H' L) (fun _ _ _ => False) := by
              refine ⟨rfl, F, L, [.val (.ins c ds), .val (.ins c' es)], rfl, (rp.val (.ins hb' hl' rr')).val (.ins ha hl rr), ?_⟩
              obtain ⟨outs, z⟩ := okT_some ok
              rw [z]
              intro w F' H' rp'
              have rw' := rp'.rp
              cases rw'
              exact ⟨rfl, F', Reps.drop (M := lives outs [V.ref a', V.ref b']) rp'.tail⟩
            refine wpAny_mono (run_fnI (us := [.ref a', .ref b']) (vs := [.ref a', .ref b']) (E := fun _ _ _ => False) Fo hr hb passes_false I (.cons rfl (.cons rfl .nil)) sp) (fun w s' z => ?_) fun _ _ x => x
            obtain ⟨z', H', I', rz, rfl, F', qz⟩ := z
            cases rz
            exact ⟨b, rfl, rfl, F', H', I', qz⟩
      have refs : ∃ a' b', x = .ref a' ∧ y = .ref b' := by
        cases hx
        cases hy
        exact ⟨_, _, rfl, rfl⟩
      obtain ⟨a', b', ea, eb⟩ := refs
      by_cases hab : a' = b'
      · subst hab
        subst ea eb
        cases (show v = Value.ref a' from rx)
        cases (show u = Value.ref a' from ry)
        have ebt : b = true := by
          split at sm
          · exact (Option.some.inj sm).symm
          · rename_i ok
            split at sm
            · rename_i q
              simp only [Bool.and_eq_true, decide_eq_true_eq] at q
              have e := Rp.one hK I rp.sub _ _ _ q.1 hx hy
              rw [← e, q.2] at ok
              cases ok
            · cases sm
          · cases sm
        subst ebt
        exact PySem.SeqAt.EqAt.same (A := X.A.in1) (s := s) (.ref a') X.prog X.w X.xe _ ⟨rfl, F, H, I, rp⟩
      · refine main a' b' ea eb hab ?_
        split at sm
        · rename_i ok; cases sm; exact ok
        · rename_i ok
          split at sm
          · cases sm; exact ok
          · cases sm
        · cases sm
    · cases sm
  · exact plain sm
def rEqt (T : Nm) (g : G) (Φ : Fn) : R2 := fun x y H Q => ∃ F L dx dy b, Reps T F H ((.val dx, x) :: (.val dy, y) :: L) ∧ datT g Φ dx dy = some b ∧ ∀ F' H', Reps T F' H' L → Q (.bl b) H'
theorem datL_len : ∀ {xs ys : List D} {b : Bool}, datL g Φ xs ys = some b → xs.length = ys.length
  | [], [], _, _ => rfl
  | [], _ :: _, _, h => by cases h
  | _ :: _, [], _, h => by cases h
  | x :: xs, y :: ys, b, h => by
    unfold datL at h
    split at h
    · rename_i e; simp [e]
    · cases h
/-- at each place: equal and on, or the answer -/
theorem datL_get : ∀ {xs ys : List D} {b : Bool}, datL g Φ xs ys = some b → ∀ i, (∀ j, j < i → ∀ x y, xs[j]? = some x → ys[j]? = some y → datD g Φ x y = some true) → (∀ x y, xs[i]? = some x → ys[i]? = some y → datD g Φ x y = some true ∨ (datD g Φ x y = some false ∧ b = false)) ∧ (xs.length ≤ i → b = true)
  | [], [], b, h, i, _ => ⟨fun x y e => by simp at e, fun _ => by cases h; rfl⟩
  | [], _ :: _, _, h, _, _ => by cases h
  | _ :: _, [], _, h, _, _ => by cases h
  | x :: xs, y :: ys, b, h, i, hp => by
    unfold datL at h
    split at h
    · split at h
      · rename_i d
        cases i with
        | zero => exact ⟨fun a c e1 e2 => by simp at e1 e2; subst e1 e2; exact .inl d, fun z => by simp at z⟩
        | succ i =>
          obtain ⟨q1, q2⟩ := datL_get h i fun j hj a c e1 e2 => hp (j + 1) (by omega) a c (by simpa using e1) (by simpa using e2)
          exact ⟨fun a c e1 e2 => q1 a c (by simpa using e1) (by simpa using e2), fun z => q2 (by simpa using z)⟩
      · rename_i d
        cases h
        cases i with
        | zero => exact ⟨fun a c e1 e2 => by simp at e1 e2; subst e1 e2; exact .inr ⟨d, rfl⟩, fun z => by simp at z⟩
        | succ i =>
          have := hp 0 (by omega) x y rfl rfl
          rw [d] at this
          cases this
      · cases h
    · cases h
theorem op_eqt (hK : KW X T) (hu : X.A.units + 64 < cLine) (A : ClsAll T X.K g.nc) (kn : ∀ c, c < g.nc → g.eqk c = true → EqKn T Φ g X c) : OpR X (compareOp .Eq) (rEqt T g Φ) := by
  intro pins s σ H x y v u Q I rx ry h
  obtain ⟨F, L, dx, dy, b, rp, sm, k⟩ := h
  cases dx with
  | tup ds =>
    cases dy with
    | tup es =>
      have sm : datL g Φ ds es = some b := sm
      have hl := datL_len sm
      have hg := datL_get sm
      have ax := rp.rp
      have ay := rp.tail.rp
      cases ax with
      | @tup a xs _ t1 r1 =>
        cases ay with
        | @tup a2 ys _ t2 r2 =>
          have t1' := same_sqT rp.sub t1
          have t2' := same_sqT rp.sub t2
          rw [← hK.1] at t1' t2'
          cases (show v = Value.ref a from rx)
          cases (show u = Value.ref a2 from ry)
          obtain ⟨its, v1, p1, _⟩ := I.tuple t1'
          obtain ⟨its2, v2, p2, _⟩ := I.tuple t2'
          have l1 := v1.length
          have l2 := v2.length
          have l3 := r1.len
          have l4 := r2.len
          show wpAny (model X.prog X.w) X.A (richCompare .Eq (.ref a) (.ref a2)) (EP X pins σ Q) X.xe s
          refine rc_tupEq (by rw [List.size_toArray, List.size_toArray]; omega) (by omega) (fun i s' => (∀ j, j < i → ∀ x y, ds[j]? = some x → es[j]? = some y → datD g Φ x y = some true) ∧ ∃ F' H', Inv X pins σ H' s' ∧ Reps T F' H' (vals_ ds xs ++ (vals_ es ys ++ L))) p1 p2 (fun i h1 h2 s' q => ?_) (fun s' q => ?_) ⟨fun j hj => absurd hj (Nat.not_lt_zero _), F, H, I, reps_vals r1 (reps_vals r2 rp.tail.tail)⟩
          · obtain ⟨hp, F1, H1, I1, q1⟩ := q
            obtain ⟨s1, q2⟩ := vals_reps l3 q1
            obtain ⟨s2, q3⟩ := vals_reps l4 q2
            have h1' : i < its.length := by simpa using h1
            have h2' : i < its2.length := by simpa using h2
            have g5 := List.getElem?_eq_getElem (show i < ds.length by omega)
            have g6 := List.getElem?_eq_getElem (show i < es.length by omega)
            obtain ⟨x1, g1, w1⟩ := s1.get g5
            obtain ⟨y1, g2, w2⟩ := s2.get g6
            obtain ⟨u1, g3, w3⟩ := v1.get g1
            obtain ⟨u2, g4, w4⟩ := v2.get g2
            rw [List.getElem?_eq_getElem h1'] at g3
            rw [List.getElem?_eq_getElem h2'] at g4
            cases g3
            cases g4
            have fin : ∀ s'', (∃ F' H', Inv X pins σ H' s'' ∧ Reps T F' H' (vals_ ds xs ++ (vals_ es ys ++ L))) → EP X pins σ Q (Value.bool b) s'' := fun s'' ⟨F', H', I', q'⟩ => ⟨V.bl _, H', I', rfl, k F' H' (Reps.drop (M := vals_ es ys) (Reps.drop (M := vals_ ds xs) q'))⟩
            rcases (hg i hp).1 _ _ g5 g6 with d | ⟨d, eb⟩
            · refine wpAny_mono (dat_turn hK hu A kn I1 q1 w1 w2 w3 w4 d) (fun r s'' q' => ?_) fun _ _ x => x
              refine .inl ⟨q'.1, fun j hj a c e1 e2 => ?_, q'.2⟩
              rcases Nat.lt_or_ge j i with z | z
              · exact hp j z a c e1 e2
              · have : j = i := by omega
                subst this
                rw [g5] at e1
                rw [g6] at e2
                cases e1
                cases e2
                exact d
            · subst eb
              refine wpAny_mono (dat_turn hK hu A kn I1 q1 w1 w2 w3 w4 d) (fun r s'' q' => ?_) fun _ _ x => x
              exact .inr ⟨q'.1, fin s'' q'.2⟩
          · obtain ⟨hp, F1, H1, I1, q1⟩ := q
            have eb : b = true := (hg its.toArray.size hp).2 (by rw [List.size_toArray]; omega)
            subst eb
            exact (⟨V.bl _, H1, I1, rfl, k F1 H1 (Reps.drop (M := vals_ es ys) (Reps.drop (M := vals_ ds xs) q1))⟩ : EP X pins σ Q (Value.bool true) s')
    | _ => cases sm
  | _ => cases dy <;> cases sm
theorem eqt_imp {ma mb : Env → Res D} {H : Hp} {α : Type} {f : Bool → Env → Res α} {K : Lv → α → Env → Prop} {Q : VK}
    (h : ∃ F M ρ, Cf T F H M ρ σ ∧ Out T W σ M ((ma ρ).bind fun x ρ => (mb ρ).bind fun y ρ => (optR (datT g Φ x y) ρ).bind f) (K M))
    (k : ∀ F M ρ H b, Cf T F H M ρ σ → Out T W σ M (f b ρ) (K M) → Q (.bl b) H) : tD T W ma σ H fun x H1 => tD T W mb σ H1 fun y H2 => rEqt T g Φ x y H2 Q := by
  obtain ⟨F, M, ρ, cf, q⟩ := h
  refine ⟨F, M, ρ, cf, (Out.bind q).imp fun x ρ1 q1 vx F1 H1 cf1 => ?_⟩
  refine ⟨F1, _, ρ1, cf1, (Out.wk (Out.bind q1)).imp fun y ρ2 q2 vy F2 H2 cf2 => ?_⟩
  obtain ⟨b, e, q3⟩ := (Out.bind q2).opt
  obtain ⟨L, sl, rp⟩ := cf2.swap
  exact ⟨F2, M ++ L, x, y, b, rp, e, fun F' H' rp' => k F' M ρ2 H' b ⟨L, sl, rp'⟩ q3⟩
theorem pe_eqtF {a b : Expr} {pos : Pos} {ma mb : Env → Res D} (hK : KW X T) (hu : X.A.units + 64 < cLine) (A : ClsAll T X.K g.nc) (kn : ∀ c, c < g.nc → g.eqk c = true → EqKn T Φ g X c) (ha : PE X a (tD T W ma)) (hb : PE X b (tD T W mb)) (hm : behindInMarks .Eq b = false) :
    PE X (.Compare a [.Eq] [b] pos) (tM T W fun ρ => (ma ρ).bind fun x ρ => (mb ρ).bind fun y ρ => optR ((datT g Φ x y).map fun k => .val (.bl k)) ρ) := by
  refine (pe_cmpR (op_eqt hK hu A kn) ha hb hm).imp fun σ H Q h => ?_
  refine eqt_imp (f := fun b ρ => .ok (R.val (.bl b)) ρ) (K := fun M r ρ' => ∀ v F' H', Cf T F' H' ((r, v) :: M) ρ' σ → Q v H') ?_ fun F M ρ H b cf q => q _ F H (cf.val (.bl b))
  obtain ⟨F, M, ρ, cf, q⟩ := h
  refine ⟨F, M, ρ, cf, ?_⟩
  have e : ∀ (x y : D) (ρ : Env), (optR ((datT g Φ x y).map fun k => R.val (.bl k)) ρ) = (optR (datT g Φ x y) ρ).bind fun b ρ => .ok (R.val (.bl b)) ρ := fun x y ρ => by cases datT g Φ x y <;> rfl
  simpa only [e] using q
end Fx
end
section
set_option linter.all false
set_option Elab.async false
set_option maxRecDepth 100000
set_option maxHeartbeats 4000000
/-! Lists that a field owns; identity of owned objects. -/
namespace Fx
open PySem PySem.Spec L2
variable {T : Nm} {W : WX} {X : Cx} {σ : St} {M : Lv} {wr : List Nat} {g : G} {Φ : Fn}
theorem Reps.lstAtP {F H : Hp} {L : Lv} {ds : List D} {v : V} (h : Reps T F H ((.lst ds, v) :: L)) : ∃ p xs, v = .ref p ∧ H p = some (.lst xs) ∧ RpL T F xs ds := by
  obtain ⟨s, fp, h1, nd, av⟩ := h
  cases h1 with | cons h2 h3 => cases h2 with | lst h4 h5 => exact ⟨_, _, rfl, h4, h5⟩
/-- the list that a field holds, read -/
theorem fldL_at {nc i f : Nat} {F H : Hp} {ρ : Env} {ds : List D} (hK : KW X T) (A : ClsAll T X.K nc) (hnc : g.nc = nc) (hfl : g.flds = T.flds) (cf : Cf T F H M ρ σ) (e : fldL g f (ρ.at i) = some ds) :
    ∃ v a C dx fs w, σ[i]? = some (some v) ∧ v = .ref a ∧ H a = some (.ins C dx fs) ∧ Cls X.K C ∧ NoAttr X.K C (T.fname f) ∧ fs.lookup (T.fname f) = some w ∧ Rt T F H w (.lst ds) := by
  cases z : ρ.at i with
  | none => rw [z] at e; cases e
  | some r =>
    rw [z] at e
    cases r with
    | obj c rs =>
      unfold fldL at e
      dsimp only at e
      split at e
      · rename_i hc
        split at e
        · rename_i ds' e1
          cases e
          have e2 : fldR g f (ρ.at i) = some (c, rs, (g.flds c).idxOf f, .lst ds) := by
            rw [z]
            unfold fldR
            dsimp only
            rw [if_pos hc, e1]
          obtain ⟨p, dx, xs, w, ev, hp, cl, na, lk, q1, q2, hl, hx, cf1⟩ := Cf.fldAt cf A hnc hfl e2
          refine ⟨_, p, _, dx, _, w, ev, rfl, hp, cl, na, lk, ?_⟩
          obtain ⟨L, sl, rp⟩ := cf1
          rw [List.cons_append, List.append_assoc] at rp
          obtain ⟨B, rp1, _⟩ := Reps.fldOut rp q1 q2
          obtain ⟨q, ys, rfl, h1, h2⟩ := rp1.lstAtP
          exact ⟨q, ys, rfl, .inl (.inl h1), h2⟩
        · cases e
      · cases e
    | val d =>
      cases d with
      | ins c es =>
        unfold fldL at e
        dsimp only at e
        split at e
        · rename_i hc
          split at e
          · rename_i xs e1
            cases e
            obtain ⟨v, F', ev, s, cf'⟩ := cf.read (at_get z) rfl
            rw [show R.toD (.val (.ins c es)) = .ins c es from rfl, set_same (at_get z)] at cf'
            have e2 : attrR g f (.ins c es) = some (.lst ds) := by
              unfold attrR
              dsimp only
              rw [if_pos hc, e1]
            obtain ⟨v2, ev2, cf2⟩ := cf.out (at_get z)
            rw [ev] at ev2
            cases ev2
            obtain ⟨a, C, dx, fs, w, rfl, h1, cl, na, l, rw'⟩ := fld_val hK A hnc hfl cf2.sub cf2.rp e2
            exact ⟨.ref a, a, C, dx, fs, w, ev, rfl, h1, cl, na, l, rw'.rt cf.sub⟩
          · cases e
        · cases e
      | _ => cases e
    | _ => cases e
section
variable {nc i f : Nat} {x n : Str} {p0 p1 p2 p3 pos : Pos}
theorem tFld_L {α : Type} {h : List D → α} {H : Hp} {Q : VK} {K : Lv → α → Env → Prop} (hK : KW X T) (A : ClsAll T X.K nc) (hnc : g.nc = nc) (hfl : g.flds = T.flds)
    (q : ∃ F M ρ, Cf T F H M ρ σ ∧ Out T W σ M (optR ((fldL g f (ρ.at i)).map h) ρ) (K M))
    (k : ∀ F M ρ ds w, Cf T F H M ρ σ → Rt T F H w (.lst ds) → K M (h ds) ρ → Q w H) : tFld X.K (tVar i) (T.fname f) σ H Q := by
  obtain ⟨F, M, ρ, cf, q⟩ := q
  obtain ⟨a, e1, e2⟩ := q.opt
  obtain ⟨ds, e3, rfl⟩ := Option.map_eq_some_iff.mp e1
  obtain ⟨v, p, C, dx, fs, w, ev, rfl, hp, cl, na, lk, rt⟩ := fldL_at hK A hnc hfl cf e3
  exact ⟨_, ev, p, C, dx, fs, w, rfl, hp, cl, na, lk, k F M ρ ds w cf rt e2⟩
theorem pe_flnF (hK : KW X T) (hc : X.calm = true) (hu : X.A.units + 64 < cLine) (A : ClsAll T X.K nc) (hnc : g.nc = nc) (hfl : g.flds = T.flds) (hn : n = T.fname f) (hg : Gl X "len") (hm : X.mg "len" = none) (ho : PE X (.Name x p0) (tVar i)) :
    PE X (.Call (.Name "len" p2) [.Attribute (.Name x p0) n p1] [] pos) (tM T W fun ρ => optR ((fldL g f (ρ.at i)).map fun ds => .val (.int ds.length)) ρ) := by
  subst hn
  have hcb := call_cb (T := T) hK hc hu .len
  have hv := BF.boot .len
  have ha : PA X [.Attribute (.Name x p0) (T.fname f) p1] (tCons (tFld X.K (tVar i) (T.fname f)) tNil) := pa_cons (pe_fld ho (att_plain rfl)) pa_nil (star_cons [] _ rfl)
  refine (pe_callB (p := p2) (pos := pos) hcb hg hm hv ha (BF.nm .len) (BF.db .len) (star_cons [] _ rfl) (star_plain [] rfl)).imp fun σ H Q q => ?_
  refine tFld_L (K := fun M r ρ' => ∀ v F' H', Cf T F' H' ((r, v) :: M) ρ' σ → Q v H') hK A hnc hfl q fun F M ρ ds w cf rt k => ?_
  refine ⟨F, [.lst ds], .val (.int ds.length), cf.sub, ⟨rt, trivial⟩, rfl, fun v H' nw => ?_⟩
  obtain ⟨F', cf'⟩ := cf.new nw
  exact k v F' H' cf'
theorem pt_ftrF (hK : KW X T) (A : ClsAll T X.K nc) (hnc : g.nc = nc) (hfl : g.flds = T.flds) (hn : n = T.fname f) (ho : PE X (.Name x p0) (tVar i)) :
    PT X (.Attribute (.Name x p0) n p1) (tT T W fun ρ => optR ((fldL g f (ρ.at i)).map fun ds => !ds.isEmpty) ρ) := by
  subst hn
  refine (pt_truth (pe_fld ho (att_plain rfl)) (tst_plain rfl)).imp fun σ H Q q => ?_
  refine tFld_L (K := fun M b ρ' => ∀ F' H', Cf T F' H' M ρ' σ → Q b H') hK A hnc hfl q fun F M ρ ds w cf rt k => ?_
  exact ⟨!ds.isEmpty, rt.tru hK cf.sub rfl, k F H cf⟩
/-- the list that a field owns, in hand -/
theorem fldO_at {nc i f c j : Nat} {rs : List R} {ds : List D} {F H : Hp} {ρ : Env} (cf : Cf T F H M ρ σ) (A : ClsAll T X.K nc) (hnc : g.nc = nc) (hfl : g.flds = T.flds) (e : fldR g f (ρ.at i) = some (c, rs, j, .lst ds)) :
    ∃ p dx fs q ys, σ[i]? = some (some (.ref p)) ∧ H p = some (.ins (T.cls c) dx fs) ∧ Cls X.K (T.cls c) ∧ NoAttr X.K (T.cls c) (T.fname f) ∧ fs.lookup (T.fname f) = some (.ref q) ∧ H q = some (.lst ys) ∧ RpL T F ys ds ∧
      ∀ F' ys' ds', Cf T F' H M ρ σ → RpL T F' ys' ds' → Cf T F' (upd H q (.lst ys')) M (ρ.set i (some (.obj c (rs.set j (.lst ds'))))) σ := by
  obtain ⟨p, dx, xs, w, ev, hp, cl, na, lk, q1, q2, hl, hx, cf1⟩ := Cf.fldAt cf A hnc hfl e
  have at1 : ∃ q ys, w = .ref q ∧ H q = some (.lst ys) ∧ RpL T F ys ds := by
    obtain ⟨L, sl, rp⟩ := cf1
    rw [List.cons_append, List.append_assoc] at rp
    obtain ⟨B, rp1, _⟩ := Reps.fldOut rp q1 q2
    exact rp1.lstAtP
  obtain ⟨q, ys, rfl, h1, h2⟩ := at1
  refine ⟨p, dx, _, q, ys, ev, hp, cl, na, lk, h1, h2, fun F' ys' ds' cfn r' => ?_⟩
  obtain ⟨p', dx', xs', w', ev', hp', _, _, _, q1', q2', hl', hx', L, sl, rp⟩ := Cf.fldAt cfn A hnc hfl e
  rw [ev] at ev'
  cases ev'
  rw [hp] at hp'
  have e1 := Option.some.inj hp'
  injection e1 with _ e2 e3
  have e4 : xs = xs' := zip_inj _ _ _ (by rw [List.length_map]; exact hx) (by rw [List.length_map]; exact hx') e3
  subst e4 e2
  rw [q2] at q2'
  cases q2'
  rw [List.cons_append, List.append_assoc] at rp
  obtain ⟨B, rp1, bk⟩ := Reps.fldOut rp q1 q2
  have rp2 := Reps.put rp1 r'
  have rp3 := bk F' _ _ _ _ rp2
  have rp4 := rp3.closeO (by rw [List.length_set]; exact hl) hx
  exact Cf.back (M := M) ⟨L, sl, rp4⟩ ev
theorem pe_fpopF (A : ClsAll T X.K nc) (hnc : g.nc = nc) (hfl : g.flds = T.flds) (hn : n = T.fname f) (ho : PE X (.Name x p0) (tVar i)) (hl : (p2.endLine == pos.line) = true) :
    PE X (.Call (.Attribute (.Attribute (.Name x p0) n p1) "pop" p2) [] [] pos) (tM T W fun ρ => match fldR g f (ρ.at i) with
      | some (c, rs, j, .lst ds) => (match ds[ds.length - 1]? with
        | some d => .ok (.val d) (ρ.set i (some (.obj c (rs.set j (.lst ds.dropLast)))))
        | none => .stuck)
      | _ => .stuck) := by
  subst hn
  refine (pe_bm0 (X := X) PySem.F.plainAttrs_list PySem.F.slot_list_pop PySem.F.type_list_pop mt_pop (pe_fld ho (att_plain rfl)) (att_plain rfl) hl).imp fun σ H Q h => ?_
  obtain ⟨F, M, ρ, cf, q⟩ := h
  dsimp only at q
  split at q
  · rename_i c rs j ds z
    split at q
    · rename_i d ed
      obtain ⟨p, dx, fs, b, ys, ev, hp, cl, na, lk, h1, h2, k⟩ := fldO_at cf A hnc hfl z
      refine ⟨_, ev, p, _, dx, fs, _, rfl, hp, cl, na, lk, .inl ⟨rfl, ys, .inl (.inl h1)⟩, ?_⟩
      obtain ⟨y, e1, ry⟩ := h2.get ed
      refine ⟨b, ys, y, rfl, rfl, h1, by rw [h2.len]; exact e1, ?_⟩
      have r' : RpL T F ys.dropLast ds.dropLast := by
        rw [List.dropLast_eq_take, List.dropLast_eq_take, h2.len]
        exact h2.take _
      exact q y F _ ((k F ys.dropLast ds.dropLast cf r').val ry)
    · exact q.elim
  · exact q.elim
/-- x.f.append((x.f1, x.f2)) -/
theorem ps_fappF {f1 f2 kt : Nat} {n1 n2 : Str} {q1 q2 q3 q4 qt : Pos} (hK : KW X T) (A : ClsAll T X.K nc) (hnc : g.nc = nc) (hfl : g.flds = T.flds) (hn : n = T.fname f) (hn1 : n1 = T.fname f1) (hn2 : n2 = T.fname f2) (ho : ∀ p, PE X (.Name x p) (tVar i)) (hl : (p2.endLine == p3.line) = true) :
    PS X (.Expr (.Call (.Attribute (.Attribute (.Name x p0) n p1) "append" p2) [.Tuple [.Attribute (.Name x q1) n1 q2, .Attribute (.Name x q3) n2 q4] kt qt] [] p3) pos) (tS T W wr fun ρ => match fldR g f (ρ.at i), (ρ.at i).bind (attrO g f1), (ρ.at i).bind (attrO g f2) with
      | some (c, rs, j, .lst ds), some a, some b => if ds.length < LINE then .nx (ρ.set i (some (.obj c (rs.set j (.lst (ds ++ [.tup [a, b]])))))) else .stuck
      | _, _, _ => .stuck) := by
  subst hn hn1 hn2
  have hp1 : PE X (.Attribute (.Name x q1) (T.fname f1) q2) (tM T W fun ρ => match ρ.at i with
      | some r => optR ((attrO g f1 r).map .val) ρ
      | none => .stuck) := pe_fldV hK A hnc hfl rfl (ho q1) rfl
  have hp2 : PE X (.Attribute (.Name x q3) (T.fname f2) q4) (tM T W fun ρ => match ρ.at i with
      | some r => optR ((attrO g f2 r).map .val) ρ
      | none => .stuck) := pe_fldV hK A hnc hfl rfl (ho q3) rfl
  have hpt : PE X (.Tuple [.Attribute (.Name x q1) (T.fname f1) q2, .Attribute (.Name x q3) (T.fname f2) q4] kt qt) (tTup (tCons (tFld X.K (tVar i) (T.fname f1)) (tCons (tFld X.K (tVar i) (T.fname f2)) tNil))) :=
    pe_tup (pa_cons (pe_fld (ho q1) (att_plain rfl)) (pa_cons (pe_fld (ho q3) (att_plain rfl)) pa_nil (star_cons [] _ rfl)) (star_cons [_] _ rfl))
  refine (ps_expr (pe_bm (X := X) PySem.F.plainAttrs_list PySem.F.slot_list_append PySem.F.type_list_append mt_append (pe_fld (ho p0) (att_plain rfl)) (pa_cons hpt pa_nil (star_cons [] _ rfl)) (att_plain rfl) (by rw [star_cons [] _ rfl]; rfl) hl (star_cons [] _ rfl) rfl) (swaps_plain rfl)).imp fun D σ H q => ?_
  obtain ⟨F, M, ρ, cf, q⟩ := q
  dsimp only at q
  cases z : fldR g f (ρ.at i) with
  | none => rw [z] at q; exact q.elim
  | some t =>
    obtain ⟨c, rs, j, r⟩ := t
    cases r with
    | lst ds =>
      cases za : (ρ.at i).bind (attrO g f1) with
      | none => rw [z, za] at q; exact q.elim
      | some a =>
        cases zb : (ρ.at i).bind (attrO g f2) with
        | none => rw [z, za, zb] at q; exact q.elim
        | some b =>
          rw [z, za, zb] at q
          dsimp only at q
          split at q
          · rename_i hlt
            obtain ⟨p, dx, fs, qa, ys, ev, hp, cl, na, lk, h1, h2, k⟩ := fldO_at cf A hnc hfl z
            refine ⟨_, ev, p, _, dx, fs, _, rfl, hp, cl, na, lk, .inl ⟨rfl, ys, .inl (.inl h1)⟩, ?_⟩
            have rd : ∀ {f' : Nat} {d : Fx.D}, (ρ.at i).bind (attrO g f') = some d → ∃ w, tFld X.K (tVar i) (T.fname f') σ H (fun v H' => v = w ∧ H' = H) ∧ Rp T F w d := by
              intro f' d e
              have hh : ∃ o, ρ.at i = some (.obj c o) := by
                cases zz : ρ.at i with
                | none => rw [zz] at z; cases z
                | some r0 =>
                  rw [zz] at z
                  cases r0 with
                  | obj c0 o0 =>
                    unfold fldR at z
                    dsimp only at z
                    split at z
                    · split at z
                      · cases z; exact ⟨_, rfl⟩
                      · cases z
                    · cases z
                  | _ => cases z
              obtain ⟨o, zo⟩ := hh
              rw [zo] at e
              have e : attrO g f' (.obj c o) = some d := e
              obtain ⟨v, ev', cf'⟩ := cf.out (at_get zo)
              obtain ⟨L, sl, sF, fp, h1', nd, av⟩ := cf'
              simp only [attrO] at e
              split at e
              · rename_i hc
                rw [hnc] at hc
                rw [hfl] at e
                have kn := A.of c hc
                split at e
                · rename_i d' eq
                  cases e
                  cases h1' with | cons h2' h3' =>
                    cases h2' with | @obj a0 dx0 _ xs0 _ gp0 h4 hl0 h5 =>
                      obtain ⟨w, fp', e5, r5⟩ := h5.get eq
                      cases r5 with | val rw' =>
                        have hi : (T.flds c).idxOf f' < (T.flds c).length := by
                          have := (List.getElem?_eq_some_iff.mp e5).1
                          omega
                        exact ⟨w, ⟨.ref a0, ev', a0, T.cls c, dx0, _, w, rfl, h4, kn.cl, kn.na f' (idx_mem hi), zip_look f' T.fname _ xs0 w kn.nd e5 (idx_mem hi), rfl, rfl⟩, rw'⟩
                · cases e
              · cases e
            obtain ⟨wa, ta, ra⟩ := rd za
            obtain ⟨wb, tb, rb⟩ := rd zb
            show tCons (tTup (tCons (tFld X.K (tVar i) (T.fname f1)) (tCons (tFld X.K (tVar i) (T.fname f2)) tNil))) tNil σ H _
            obtain ⟨v1, e1, a1, C1, d1, g1, u1, r1, r2, r3, r4, r5, r6, r7⟩ := ta
            obtain ⟨v2, e2, a2, C2, d2, g2, u2, s1, s2, s3, s4, s5, s6, s7⟩ := tb
            subst r6 s6
            refine ⟨v1, e1, a1, C1, d1, g1, u1, r1, r2, r3, r4, r5, v2, e2, a2, C2, d2, g2, u2, s1, s2, s3, s4, s5, (show (2 : Nat) ≤ sizeLine by decide), fun pt npt => ?_⟩
            obtain ⟨F1, cf1⟩ := cf.new (r := .val (.tup [a, b])) (v := .ref pt) (H' := upd H pt (.tup [u1, u2])) (.inr (.inl ⟨pt, _, _, rfl, rfl, npt, rfl, .cons ra (.cons rb .nil)⟩))
            have hq : qa ≠ pt := fun zz => by rw [zz, npt] at h1; cases h1
            have hq1 : upd H pt (.tup [u1, u2]) qa = some (.lst ys) := by rw [upd_ne hq]; exact h1
            refine ⟨qa, ys, .ref pt, rfl, rfl, hq1, by rw [h2.len, ← line_eq]; exact hlt, ?_⟩
            obtain ⟨p', dx', fs', qa', ys', ev', hp', _, _, lk', h1', h2', k'⟩ := fldO_at (M := (.val (.tup [a, b]), .ref pt) :: M) cf1 A hnc hfl z
            rw [ev] at ev'
            cases ev'
            have hpp : p ≠ pt := fun zz => by rw [zz, npt] at hp; cases hp
            rw [upd_ne hpp, hp] at hp'
            cases hp'
            rw [lk] at lk'
            cases lk'
            rw [hq1] at h1'
            cases h1'
            have cf2 := k' F1 (ys ++ [.ref pt]) (ds ++ [.tup [a, b]]) cf1 (h2'.app (.cons cf1.rp .nil))
            exact q _ F1 _ .refl cf2.tail
          · exact q.elim
    | _ => rw [z] at q; exact q.elim
end
end Fx
end
section
set_option linter.all false
set_option Elab.async false
set_option maxRecDepth 100000
set_option maxHeartbeats 4000000
/-! == of owned objects without an own ==: identity. -/
namespace Fx
open PySem PySem.Spec PyProof.Rows PySem.SeqAt
section
variable {M : Model} {prog : Program} {w : World} {A : Around} {E : Value → Shared → Prop} {s : Shared} {K : PySem.W.Frag} {x y C : Addr} {ox oy : Obj} {od od' : Option Obj}
theorem objEqS {Q : Value → Shared → Prop} (X : K.In s.heap) (I : PySem.W.InstAt s.heap x ox C od) (hm : PySem.W.mroIn K C (.type "object") = some true) (hq : Q (.bool true) s) :
    wpAny (model prog w) A (call (.builtin "object.__eq__") [.ref x, .ref x]) Q E s :=
  wpAny_call (codeAny_call_builtin F.cmp_object.eq.plain F.cmpEntry_eq (PySem.W.check_slot F.cmpKind_eq F.cmpSplit_eq (I.type.andThen (PySem.W.looks_mroIn X hm)) (F.cmpArgs_eq _ _) (objEq_entry_same hq)))
theorem objEqO {Q : Value → Shared → Prop} (X : K.In s.heap) (I : PySem.W.InstAt s.heap x ox C od) (hy : s.heap.get? y = some oy) (hx : s.heap.get? x = some ox) (hc : ox.cls = .ref C) (ne : x ≠ y) (hm : PySem.W.mroIn K C (.type "object") = some true) (hq : Q .notImplemented s) :
    wpAny (model prog w) A (call (.builtin "object.__eq__") [.ref x, .ref y]) Q E s :=
  wpAny_call (codeAny_call_builtin F.cmp_object.eq.plain F.cmpEntry_eq (PySem.W.check_slot F.cmpKind_eq F.cmpSplit_eq (I.type.andThen (PySem.W.looks_mroIn X hm)) (F.cmpArgs_eq _ _) (objEq_entry_other ne hx hy (by rw [hc]; intro e; cases e) hq)))
theorem rc_objS {Q : Value → Shared → Prop} (hu : A.units < cLine) (X : K.In s.heap) (I : PySem.W.InstAt s.heap x ox C od) (hm : PySem.W.mroIn K C (.type "object") = some true) (hs : PySem.W.findIn K (.ref C) "__eq__" = some (some (.builtin "object.__eq__"))) (h : Q (.bool true) s) :
    wpAny (model prog w) A (richCompare .Eq (.ref x) (.ref x)) Q E s := by
  have one : wpAny (model prog w) A (tryCompare (.ref x) "__eq__" (.ref x)) (fun r s' => r = some (.bool true) ∧ s' = s) E s := by
    unfold tryCompare
    exact wpAny_bind (HN.ifBound_objEq X I hs (objEqS X I hm (wpAny_pure ⟨rfl, rfl⟩)))
  simp only [richCompare, cmpInfo_Eq, oneThing_ref]
  refine wpAny_holding (wpAny_bind (wpAny_cRoomFor hu ?_))
  refine wpAny_bind (I.type.here ?_)
  refine wpAny_bind (I.type.here ?_)
  simp only [bne_self_eq_false, Bool.false_eq_true, if_false, Bool.false_and, Bool.not_false, if_true, pure_bind, bind_pure_comp]
  refine wpAny_bind (m := tryCompare (.ref x) _ (.ref x)) (wpAny_mono one (fun r s1 z => ?_) fun _ _ e => e)
  obtain ⟨z1, z2⟩ := z
  subst z1
  subst z2
  exact wpAny_pure h
theorem rc_objO {Q : Value → Shared → Prop} (hu : A.units < cLine) (X : K.In s.heap) (I : PySem.W.InstAt s.heap x ox C od) (J : PySem.W.InstAt s.heap y oy C od') (hx : s.heap.get? x = some ox) (hy : s.heap.get? y = some oy) (hcx : ox.cls = .ref C) (hcy : oy.cls = .ref C) (ne : x ≠ y) (hm : PySem.W.mroIn K C (.type "object") = some true) (hs : PySem.W.findIn K (.ref C) "__eq__" = some (some (.builtin "object.__eq__"))) (h : Q (.bool false) s) :
    wpAny (model prog w) A (richCompare .Eq (.ref x) (.ref y)) Q E s := by
  have one : wpAny (model prog w) A (tryCompare (.ref x) "__eq__" (.ref y)) (fun r s' => r = none ∧ s' = s) E s := by
    unfold tryCompare
    exact wpAny_bind (HN.ifBound_objEq X I hs (objEqO X I hy hx hcx ne hm (wpAny_pure ⟨rfl, rfl⟩)))
  have two : wpAny (model prog w) A (tryCompare (.ref y) "__eq__" (.ref x)) (fun r s' => r = none ∧ s' = s) E s := by
    unfold tryCompare
    exact wpAny_bind (HN.ifBound_objEq X J hs (objEqO X J hx hy hcy ne.symm hm (wpAny_pure ⟨rfl, rfl⟩)))
  simp only [richCompare, cmpInfo_Eq, oneThing_ref]
  refine wpAny_holding (wpAny_bind (wpAny_cRoomFor hu ?_))
  refine wpAny_bind (I.type.here ?_)
  refine wpAny_bind (J.type.here ?_)
  simp only [bne_self_eq_false, Bool.false_eq_true, if_false, Bool.false_and, Bool.not_false, if_true, pure_bind, bind_pure_comp]
  refine wpAny_bind (m := tryCompare (.ref x) _ (.ref y)) (wpAny_mono one (fun r s1 z => ?_) fun _ _ e => e)
  obtain ⟨z1, z2⟩ := z
  subst z1
  subst z2
  refine wpAny_bind (m := tryCompare (.ref y) _ (.ref x)) (wpAny_mono two (fun r s2 z => ?_) fun _ _ e => e)
  obtain ⟨z1, z2⟩ := z
  subst z1
  subst z2
  refine wpAny_bind (wpAny_rule ?_)
  rw [← bind_pure_comp]
  exact wpAny_bind (wpAny_isSame_ref_other ne hx hy (by rw [hcx]; intro e; cases e) (wpAny_pure h))
end
end Fx
namespace Fx
open PySem PySem.Spec L2
variable {T : Nm} {W : WX} {X : Cx} {σ : St} {M : Lv} {wr : List Nat} {g : G} {Φ : Fn}
def rIdo (K : PySem.W.Frag) : R2 := fun x y H Q => ∃ p q C dx dx' fs fs', x = .ref p ∧ y = .ref q ∧ H p = some (.ins C dx fs) ∧ H q = some (.ins C dx' fs') ∧ PySem.W.mroIn K C (.type "object") = some true ∧ PySem.W.findIn K (.ref C) "__eq__" = some (some (.builtin "object.__eq__")) ∧ Q (.bl (decide (p = q))) H
theorem op_ido (hu : X.A.units + 64 < cLine) : OpR X (compareOp .Eq) (rIdo X.K) := by
  intro pins s σ H x y v u Q I rx ry h
  obtain ⟨p, q, C, dx, dx', fs, fs', rfl, rfl, h1, h2, hm, hs, k⟩ := h
  cases (show v = Value.ref p from rx)
  cases (show u = Value.ref q from ry)
  obtain ⟨mA, J, _⟩ := ins_get I.hok h1
  obtain ⟨od, J, _⟩ := J.look
  obtain ⟨mB, J2, _⟩ := ins_get I.hok h2
  obtain ⟨od2, J2, _⟩ := J2.look
  show wpAny (model X.prog X.w) X.A (richCompare .Eq (.ref p) (.ref q)) (EP X pins σ Q) X.xe s
  by_cases e : p = q
  · subst e
    rw [decide_eq_true rfl] at k
    exact rc_objS (by omega) I.kIn J hm hs (⟨V.bl _, H, I, rfl, k⟩ : EP X pins σ Q (Value.bool true) s)
  · rw [decide_eq_false e] at k
    exact rc_objO (by omega) I.kIn J J2 J.at_ J2.at_ J.cls J2.cls e hm hs (⟨V.bl _, H, I, rfl, k⟩ : EP X pins σ Q (Value.bool false) s)
/-- two owned objects at two places -/
theorem Cf.apart {F H : Hp} {ρ : Env} {i j c c' : Nat} {rs rs' : List R} (cf : Cf T F H M ρ σ) (e1 : ρ.at i = some (.obj c rs)) (e2 : ρ.at j = some (.obj c' rs')) : ∃ p q dx dx' xs xs', σ[i]? = some (some (.ref p)) ∧ σ[j]? = some (some (.ref q)) ∧ H p = some (.ins (T.cls c) dx (T.zip c xs)) ∧ H q = some (.ins (T.cls c') dx' (T.zip c' xs')) ∧ (p = q ↔ i = j) := by
  obtain ⟨v, ev, cf1⟩ := cf.out (at_get e1)
  obtain ⟨p, dx, xs, rfl, hp, _⟩ := cf1.objAt
  by_cases ij : i = j
  · subst ij
    rw [e1] at e2
    cases e2
    exact ⟨p, p, dx, dx, xs, xs, ev, ev, hp, hp, iff_of_true rfl rfl⟩
  · have e3 : Env.at (ρ.set i none) j = some (.obj c' rs') := by
      unfold Env.at at e2 ⊢
      rw [List.getElem?_set_ne ij]
      exact e2
    obtain ⟨w, ew, cf2⟩ := cf1.out (at_get e3)
    obtain ⟨q, dx', xs', rfl, hq, _⟩ := cf2.objAt
    refine ⟨p, q, dx, dx', xs, xs', ev, ew, hp, hq, iff_of_false (fun pq => ?_) ij⟩
    subst pq
    obtain ⟨L, sl, sF, fp, h1, nd, av⟩ := cf2
    cases h1 with | cons h2 h3 =>
      cases h2 with | obj a1 a2 a3 =>
        cases h3 with | cons h4 h5 =>
          cases h4 with | obj b1 b2 b3 =>
            simp at nd
structure IdKn (T : Nm) (X : Cx) (c : Nat) : Prop where
  m : PySem.W.mroIn X.K (T.cls c) (.type "object") = some true
  e : PySem.W.findIn X.K (.ref (T.cls c)) "__eq__" = some (some (.builtin "object.__eq__"))
theorem eqb_imp {i j : Nat} {α : Type} {h : Bool → α} {K : Lv → α → Env → Prop} {Q : VK} {H : Hp} (kn : ∀ c, c < g.nc → g.eqk c = false → IdKn T X c)
    (q : ∃ F M ρ, Cf T F H M ρ σ ∧ Out T W σ M (match ρ.at i, ρ.at j with
      | some (.obj c _), some (.obj c' _) => if g.eqk c = false ∧ c < g.nc ∧ c' = c then .ok (h (decide (i = j))) ρ else .stuck
      | _, _ => .stuck) (K M))
    (k : ∀ F M ρ b, Cf T F H M ρ σ → K M (h b) ρ → Q (.bl b) H) : tVar i σ H fun x H1 => tVar j σ H1 fun y H2 => rIdo X.K x y H2 Q := by
  obtain ⟨F, M, ρ, cf, q⟩ := q
  split at q
  · rename_i c rs c' rs' z1 z2
    split at q
    · rename_i hh
      obtain ⟨h1, h2, h3⟩ := hh
      subst h3
      obtain ⟨p, r, dx, dx', xs, xs', e1, e2, hp, hq, iff⟩ := cf.apart z1 z2
      have kk := kn _ h2 h1
      refine ⟨_, e1, _, e2, p, r, _, dx, dx', _, _, rfl, rfl, hp, hq, kk.m, kk.e, ?_⟩
      have : decide (p = r) = decide (i = j) := decide_eq_decide.mpr iff
      rw [this]
      exact k F M ρ _ cf q
    · exact q.elim
  · exact q.elim
theorem pe_eqbF {i j : Nat} {x y : Str} {p0 p1 pos : Pos} (hu : X.A.units + 64 < cLine) (kn : ∀ c, c < g.nc → g.eqk c = false → IdKn T X c) (ho : PE X (.Name x p0) (tVar i)) (hp : PE X (.Name y p1) (tVar j)) :
    PE X (.Compare (.Name x p0) [.Eq] [.Name y p1] pos) (tM T W fun ρ => match ρ.at i, ρ.at j with
      | some (.obj c _), some (.obj c' _) => if g.eqk c = false ∧ c < g.nc ∧ c' = c then .ok (.val (.bl (decide (i = j)))) ρ else .stuck
      | _, _ => .stuck) := by
  refine (pe_cmpR (op_ido hu) ho hp (behind_plain rfl)).imp fun σ H Q h => ?_
  exact eqb_imp (W := W) (h := fun b => R.val (.bl b)) (K := fun M r ρ' => ∀ v F' H', Cf T F' H' ((r, v) :: M) ρ' σ → Q v H') kn h fun F M ρ b cf k => k _ F H (cf.val (.bl b))
theorem pt_eqbF {i j : Nat} {x y : Str} {p0 p1 pos : Pos} (hu : X.A.units + 64 < cLine) (kn : ∀ c, c < g.nc → g.eqk c = false → IdKn T X c) (ho : PE X (.Name x p0) (tVar i)) (hp : PE X (.Name y p1) (tVar j)) :
    PT X (.Compare (.Name x p0) [.Eq] [.Name y p1] pos) (tT T W fun ρ => match ρ.at i, ρ.at j with
      | some (.obj c _), some (.obj c' _) => if g.eqk c = false ∧ c < g.nc ∧ c' = c then .ok (decide (i = j)) ρ else .stuck
      | _, _ => .stuck) := by
  refine (pt_cmpR (op_ido hu) ho hp (behind_plain rfl)).imp fun σ H Q h => ?_
  refine eqb_imp (W := W) (h := fun b => b) (K := fun M b ρ' => ∀ F' H', Cf T F' H' M ρ' σ → Q b H') kn h fun F M ρ b cf k => ?_
  exact ⟨b, rfl, k F H cf⟩
end Fx
end
section
set_option linter.all false
set_option Elab.async false
set_option maxRecDepth 100000
set_option maxHeartbeats 4000000
/-! Errors as values: made, asked for their class, their field read. -/
namespace Fx
open PySem PySem.Spec L2
variable {T : Nm} {W : WX} {X : Cx} {σ : St} {M : Lv} {wr : List Nat} {g : G} {Φ : Fn}
/-! ### making -/
def tMkE (C : Addr) (sp : Sp) (ta : TA) : TE := fun σ H Q => ta σ H fun vs H1 => vs.length ≤ 1000 ∧ ∀ a, H1 a = none → sp (.ref a :: vs) (upd H1 a (exo a C none)) (fun v H2 => v = .non ∧ Q (.ref a) H2) (fun _ _ _ => False)
section
open PyProof.Rows
variable {CX : CXT} {x : Str} {C fI : Addr} {k : Nat} {fd : FuncData} {ps : List Str} {sp : Sp} {ta : TA} {e : Expr} {es : List Expr} {p pos : Pos}
theorem pe_mkE (O : OexC X.K C) (iC : PySem.W.findIn X.K (.ref C) "__init__" = some (some (.ref fI))) (tI : PySem.W.typeIn X.K (.ref fI) = some (.type "function")) (F1 : FnOk X.prog X.w X.K X.mg X.base CX k fI fd ps sp) (hr : Room (k + 1) X.A) (hb : Binds X.K fd ps [])
    (hx : Passes CX X (fun _ _ _ => False)) (hg : Gl X x) (hm : X.mg x = some (.ref C)) (ha : PA X (e :: es) ta) (hdb : (x == ("__debug__" : Str)) = false) (he : starEach (e :: es) X.env = (false, eval e X.env) :: starEach es X.env) (hpl : (backTo pos (starEach es X.env)).any (·.1) = false) :
    PE X (.Call (.Name x p) (e :: es) [] pos) (tMkE C sp ta) := by
  refine ⟨fun pins s σ H Q I h => ?_⟩
  obtain ⟨nm, q, N, bs, bm, sn, sub, ab, col, dd, k0, k1, k2, k3, k5, hC, hbm⟩ := O.cls
  refine wpAny_Call_Name_kw (ld_glob I hg hm ?_ hdb)
  refine PySem.W.callWith_K (h₀ := X.base) I.ok.mod.kin O.kC (thn (ha.run pos pins s σ H _ I h) fun us s1 ⟨vs, H1, I1, r1, hz, q1⟩ => ⟨I1.kIn, ?_⟩) he hpl
  show wpAny _ _ (call (.ref C) us) _ _ _
  obtain ⟨hp, gs, dr, tk, os⟩ := s1
  have hsz : hp.objs.size ≤ hp.objs.size + 1 := Nat.le_succ _
  have hq := q1 (hp.objs.size + 1) (I1.hok.fresh hsz)
  have hget : ((hp.push (PySem.W.kdv_tup us)).push (PySem.HandSPX.excO C hp.objs.size)).get? (hp.objs.size + 1) = some (PySem.HandSPX.excO C hp.objs.size) := by heap_get
  have I2 : Inv X pins σ (upd H1 (hp.objs.size + 1) (exo (hp.objs.size + 1) C none)) ⟨(hp.push (PySem.W.kdv_tup us)).push (PySem.HandSPX.excO C hp.objs.size), gs, dr, tk, os⟩ :=
    I1.laid (t' := tk) (a := hp.objs.size + 1) (o := exo (hp.objs.size + 1) C none) (h' := (hp.push (PySem.W.kdv_tup us)).push (PySem.HandSPX.excO C hp.objs.size)) (fun b o e => Heap.get?_push_of_some _ (Heap.get?_push_of_some _ e)) hsz (exo_ok hget)
  have r2 : Vals (V.ref (hp.objs.size + 1) :: vs) (Value.ref (hp.objs.size + 1) :: us) := .cons rfl r1
  have hl : (Value.ref (hp.objs.size + 1) :: us ++ []).length = ps.length := by
    have e := r2.length
    rw [F1.len _ _ _ _ hq] at e
    rw [List.append_nil]
    exact e.symm
  have hus : us.length ≤ sizeLine := by
    rw [← Paired.length r1, sizeLine_eq]
    omega
  have bt := hb _ (Value.ref (hp.objs.size + 1) :: us) I2.kIn hl
  rw [List.append_nil] at bt
  refine wpAny_call (PySem.HandSPX.call_own F.excBase_ValueError (fun Y => PySem.HandSPX.refsVE_contains Y bm hbm) (I1.kIn _ _ hC) (PySem.W.looks_findIn I1.kIn iC) (fun self => PySem.W.bind_fn I1.kIn self tI) hus
    (codeAny_mono (F1.run _ X.stack _ _ ⟨Value.ref (hp.objs.size + 1) :: us, []⟩ (Value.ref (hp.objs.size + 1) :: us) _ _ (fun _ _ _ => False) (hr.make C us []) (I2.env0.make C us []) bt r2 hq) fun r s' hq' => ?_))
  cases r with
  | error er => exact hx pins σ _ _ er s' I2 hq'
  | ok fl =>
    cases fl with
    | ret u =>
      obtain ⟨v, H2, I3, rv, ev, q2⟩ := I2.after hq'
      subst ev
      exact ⟨rv, ⟨.ref (hp.objs.size + 1), H2, I3, rfl, q2⟩⟩
    | next => exact False.elim hq'
    | brk => exact False.elim hq'
    | cont => exact False.elim hq'
end
theorem pe_emkF {c : Nat} {x : Str} {e : Expr} {p pos : Pos} {m : Env → Res D} (tk : Takes X W) (kn : XMk T X c) (hg : Gl X x) (hm : X.mg x = some (.ref (T.xcls c))) (he : PE X e (tD T W m)) (h1 : Ex.star e = false) (hdb : (x == ("__debug__" : Str)) = false) :
    PE X (.Call (.Name x p) [e] [] pos) (tM T W fun ρ => (m ρ).bind fun d ρ => .ok (.val (.err c d)) ρ) := by
  obtain ⟨k, fI, fd, ps, iC, tI, F1, hr, hb⟩ := kn.ok
  refine (pe_mkE kn.cl.oc iC tI F1 hr hb passes_false hg hm (pa_cons he pa_nil (star_cons [] _ h1)) hdb (star_cons [] _ h1) rfl).imp fun σ H Q q => ?_
  obtain ⟨F, M, ρ, cf, q⟩ := q
  refine ⟨F, M, ρ, cf, (Out.bind q).imp fun d ρ1 k v F1 H1 cf1 => ⟨by simp, fun a na => ?_⟩⟩
  refine ⟨a, T.xcls c, v, rfl, kn.cl.oc, kn.cl.no, upd_same, fun dx nd ne => ⟨rfl, ?_⟩⟩
  have nd1 : H1 dx = none := by rw [← nd, upd_ne ne]
  obtain ⟨cf2, s2⟩ := cf1.newF (o := exd dx [(T.xfld c, v)]) nd1
  have na2 : upd H1 dx (exd dx [(T.xfld c, v)]) a = none := by rw [upd_ne (Ne.symm ne)]; exact na
  obtain ⟨cf3, s3⟩ := cf2.newF (o := exo a (T.xcls c) (some dx)) na2
  have eH : upd (upd (upd H1 a (exo a (T.xcls c) none)) dx (exd dx [(T.xfld c, v)])) a (exo a (T.xcls c) (some dx)) = upd (upd H1 dx (exd dx [(T.xfld c, v)])) a (exo a (T.xcls c) (some dx)) := by
    funext b
    by_cases h1 : b = a
    · subst h1; rw [upd_same, upd_same]
    · rw [upd_ne h1, upd_ne h1]
      by_cases h2 : b = dx
      · subst h2; rw [upd_same, upd_same]
      · rw [upd_ne h2, upd_ne h2, upd_ne h1]
  rw [eH]
  refine k _ _ _ (cf3.tail.val (.err (.inl upd_same) (.inl ?_) cf3.rp))
  rw [upd_ne ne, upd_same]
/-! ### the field -/
def tEat (K : PySem.W.Frag) (n : Str) (te : TE) : TE := fun σ H Q => te σ H fun x H1 => ∃ a dx C v, x = .ref a ∧ Rd H1 a (exo a C (some dx)) ∧ Rd H1 dx (exd dx [(n, v)]) ∧ XfC K C ∧ PySem.W.findIn K (.ref C) n = some none ∧ Q v H1
/-- an error's own dict, as the reading asks for it -/
theorem err_inst {pins : List (Addr × Obj)} {H : Hp} {s : Shared} {a dx C : Addr} {fs : List (Str × V)} (I : Inv X pins σ H s) (h1 : Rd H a (exo a C (some dx))) (h2 : Rd H dx (exd dx fs)) :
    ∃ (oe od : Obj) (mA : Str → Option Value), PySem.W.InstAt s.heap a oe C (some od) ∧ (∀ name, PySem.W.lookIn name od = some (mA name)) ∧ ∀ f, RelO (fs.lookup f) (mA f) := by
  obtain ⟨t1, ha⟩ : ∃ t1 : Addr, s.heap.get? a = some ({ cls := .ref C, dict := some dx, data := .fields #[.ref t1, .none, .none, .none, .bool false, .none] } : Obj) := (h1.ok I.hok).1
  obtain ⟨mA, hns, hr⟩ : ∃ mA, s.heap.Ns1 dx mA ∧ ∀ f, RelO (fs.lookup f) (mA f) := (h2.ok I.hok).1
  obtain ⟨od, ho, hl⟩ := lookIn_ns hns
  exact ⟨_, od, mA, ⟨ha, rfl, rfl, ho⟩, hl, hr⟩
theorem pe_eat {e : Expr} {te : TE} {pos : Pos} {n : Str} (he : PE X e te) (hb : attributeBase e n X.env (eval e X.env) = eval e X.env) : PE X (.Attribute e n pos) (tEat X.K n te) := by
  refine ⟨fun pins s σ H Q I h => ?_⟩
  refine attr_of hb (thn (he.run pins s σ H _ I h) fun u s1 hh => ?_)
  obtain ⟨x, H1, I1, rx, a, dx, C, v, ex, h1, h2, xf, no, q⟩ := hh
  subst ex
  obtain rfl : u = Value.ref a := rx
  obtain ⟨oe, od, mA, J, hl, hr⟩ := err_inst I1 h1 h2
  obtain ⟨u, hu, ru⟩ := RelO.some_of (v := v) (o := mA n) (by have := hr n; rw [show ([(n, v)] : List (Str × V)).lookup n = some v by simp [List.lookup]] at this; exact this)
  exact PySem.HandSPX.exc_get I1.kIn J xf.ga xf.gg xf.exC (PySem.W.findObj_own xf.hdC no rfl (by rw [hl, hu])) (handed_of ru) ⟨v, H1, I1.tok _, ru, q⟩
theorem err_val {F H : Hp} {v : V} {c : Nat} {d : D} (s : Same F H) (r : Rp T F v (.err c d)) : ∃ a dx w, v = .ref a ∧ Rd H a (exo a (T.xcls c) (some dx)) ∧ Rd H dx (exd dx [(T.xfld c, w)]) ∧ Rp T F w d := by
  cases r with
  | err h1 h2 h3 => exact ⟨_, _, _, rfl, same_rd s h1, same_rd s h2, h3⟩
theorem pe_eatF {e : Expr} {pos : Pos} {n : Str} {m : Env → Res D} (kx : ∀ c, c < g.nx → XMk T X c) (hxf : g.xf = T.xfld) (h : PE X e (tD T W m)) (hb : Ex.isCall e = false) :
    PE X (.Attribute e n pos) (tM T W fun ρ => (m ρ).bind fun x ρ => match x with
      | .err c d => if c < g.nx ∧ g.xf c = n then .ok (.val d) ρ else .stuck
      | _ => .stuck) := by
  refine (pe_eat h (att_plain hb)).imp fun σ H Q q => ?_
  obtain ⟨F, M, ρ, cf, q⟩ := q
  refine ⟨F, M, ρ, cf, (Out.bind q).imp fun d ρ1 q1 v1 F1 H1 cf1 => ?_⟩
  cases d with
  | err c d =>
    dsimp only at q1
    split at q1
    · rename_i hh
      obtain ⟨h1, h2⟩ := hh
      obtain ⟨a, dx, w, ev, r1, r2, rw'⟩ := err_val cf1.sub cf1.rp
      rw [hxf] at h2
      subst h2
      exact ⟨a, dx, _, w, ev, r1, r2, (kx c h1).cl.xf, (kx c h1).cl.no, q1 w F1 H1 (cf1.tail.val rw')⟩
    · exact q1.elim
  | _ => exact q1.elim
end Fx
/-! ### isinstance -/
namespace PySem.W
open PySem PySem.Spec PySem.Calls PyProof.Rows
section
variable {prog : Program} {w : World} {A : Around} {E : Value → Shared → Prop} {s : Shared} {K : Frag} {x D : Addr} {ox : Obj} {od : Option Obj}
theorem findObj_dataD {C : Addr} {name : Str} {a g : Value} (hc : (clsIn K C).isSome = true) (ha : findIn K (.ref C) name = some (some a)) (hg : specialIn K a "__get__" = some (some g)) (ht : takesIn K a = some true) : findObj K C od name = some (.bind g a) := by
  obtain ⟨cd, hc⟩ := Option.isSome_iff_exists.mp hc
  unfold findObj
  rw [hc, Option.bind_some, ha, Option.bind_some]
  simp [hg, ht]
theorem kin_clsD {Q : Option Value → Shared → Prop} (T : L2.ExcC K D) (X : K.In s.heap) (I : InstAt s.heap x ox D od) (h : Q (some (.ref D)) { s with toks := s.toks + 1 }) : wpAny (model prog w) A (getAttr? (.ref x) "__class__") Q E s := by
  have hf : findObj K D od "__class__" = some (.bind (.builtin "getset_descriptor.__get__") (.builtin "object.__class__")) := findObj_dataD (by obtain ⟨cd, hc, _⟩ := any_some T.hd; rw [hc]; rfl) T.ha T.hn T.ht
  obtain ⟨hp, g, d, t, os⟩ := s
  have L0 := I.type (M := model prog w)
  have L1 := looks_findIn (M := model prog w) X T.hg
  have L2 := looks_findIn (M := model prog w) X T.hk
  have L3 := looks_find (M := model prog w) X I hf
  have sub : Looks (model prog w) hp (isInstance (.ref x) (.type "BaseException")) true := L0.andThen (looks_subIn X T.hs)
  have hx0 : (false && onTheHeap (Value.builtin "BaseException.__getattribute__")) = false := rfl
  have hx2 : (Value.builtin "BaseException.__getattribute__" == Value.builtin "object.__getattribute__") = false := by decide +kernel
  have hx1 : (onTheHeap (Value.ref D) && Value.builtin "BaseException.__getattribute__" == Value.builtin "object.__getattribute__") = false := by rw [hx2]; rfl
  unfold getAttr? getAttrBy? getAttrBy
  refine wpAny_bind (wpAny_mkText (wpAny_bind (wpAny_attempt (wpAny_holding (wpAny_bind (L0.at (wpAny_bind (L1.at ?_))))))))
  show wpAny _ _ (if (onTheHeap (Value.ref D) && Value.builtin "BaseException.__getattribute__" == Value.builtin "object.__getattribute__") = true then _ else _) _ _ _
  rw [hx1, if_neg Bool.false_ne_true]
  unfold getAttrByItsOwn hookBefore
  refine wpAny_bind ?_
  rw [if_pos (show onTheHeap (Value.ref D) = true from rfl)]
  refine L2.at ?_
  refine wpAny_bind (wpAny_attempt (wpAny_holding ?_))
  unfold callGetattribute
  rw [hx0, if_neg Bool.false_ne_true]
  unfold boundAndCalled
  rw [PySem.F.excAttr_ValueError.ga.bind (.ref x)]
  refine wpAny_bind (wpAny_pure ?_)
  show wpAny _ _ (call (.builtin "BaseException.__getattribute__") [.ref x, .str "__class__" t]) _ _ _
  refine wpAny_call (codeAny_call_builtin PySem.F.excAttr_ValueError.ga.plain PySem.F.entry_bexc_ga ?_)
  refine @check_slot (model prog w) _ _ ⟨hp, g, d, t + 1, os⟩ "BaseException.__getattribute__" "BaseException" "__getattribute__" (.ref x) [.str "__class__" t] [] _ (by decide +kernel) (by decide +kernel) sub (PySem.F.args_bexc_ga (.ref x) (.str "__class__" t)) ?_
  unfold Builtin.«object.__getattribute__»
  refine wpAny_bind (wpAny_of_eq (a := ((Value.ref x : Value), [Value.str "__class__" t])) (by first | rfl | (simp only [slotArgs]; rfl)) ?_)
  refine wpAny_bind (wpAny_pure (wpAny_bind (L0.at (wpAny_bind (L3.at ?_)))))
  show wpAny _ _ (holding [Value.builtin "object.__class__"] (call (.builtin "getset_descriptor.__get__") [.builtin "object.__class__", .ref x, .ref D]) >>= ret) _ _ _
  refine wpAny_bind (wpAny_holding (wpAny_call (class_get (s := ⟨hp, g, d, t + 1, os⟩) (ox := ox) (od := od) X I T.hm ?_)))
  refine wpAny_pure ?_
  show wpAny _ _ (handedOut (.ref D)) _ _ _
  rw [handedOut_of (v := .ref D) rfl]
  first
    | exact wpAny_pure (wpAny_pure h)
    | exact wpAny_pure h
    | exact wpAny_pure (wpAny_bind (wpAny_pure (wpAny_pure h)))
theorem kitx_errD (T : L2.ExcC K D) : KitX K (.ref x) (.ref D) (fun h => InstAt h x ox D od) where
  ty := fun _ _ _ I => I.type
  it := fun _ _ X _ => by
    obtain ⟨cdD, hcD, _⟩ := any_some T.hd
    unfold clsIn at hcD
    split at hcD
    · rename_i ho
      intro A' Q' E' s' k q
      unfold isType loadHead
      exact wpAny_bind (wpAny_loadPart (k _ _ (X _ _ ho)) (wpAny_pure q))
    · cases hcD
  ne := fun h tp dd its n sl X htp => (handS_kitx_exc (x := x) (ox := ox) T.hg T.hk T.hs T.hd T.ha T.hn T.ht T.hm).ne h tp dd its n sl X htp
  ca := fun X I k => kin_clsD T X I k
end
end PySem.W
namespace Fx
open PySem PySem.Spec L2
variable {T : Nm} {W : WX} {X : Cx} {σ : St} {M : Lv} {wr : List Nat} {g : G} {Φ : Fn}
/-- isinstance(e, c), e an error -/
def rIsX (K : PySem.W.Frag) : List V → Hp → VK → Prop := fun xs H Q => ∃ (a dx C : Addr) (fs : List (Str × V)) (c : V) (cv : Value) (b : Bool), xs = [.ref a, c] ∧ Rd H a (exo a C (some dx)) ∧ Rd H dx (exd dx fs) ∧ ExcC K C ∧ (∀ u, RelV c u → u = cv) ∧ PySem.W.kitOne K (.ref C) cv = some b ∧ Q (.bl b) H
theorem call_isx : CallR X (.builtin "isinstance") (rIsX X.K) := by
  intro pins s σ H xs us Q I r h
  obtain ⟨a, dx, C, fs, c, cv, b, rfl, h1, h2, xc, hcv, e, q⟩ := h
  cases r with
  | cons rx rr =>
    cases rr with
    | cons rt rr =>
      cases rr
      cases rx
      have ec := hcv _ rt
      subst ec
      obtain ⟨oe, od, mA, J, _, _⟩ := err_inst I h1 h2
      exact PySem.W.kia_one (PySem.W.kitx_errD xc) I.kIn J e (fun z => nomatch z) fun tk => ⟨.bl b, H, I.kept (t' := tk) fun _ _ z => z, rfl, q⟩
/-- what isinstance wants of the errors' classes -/
structure XisKn (T : Nm) (g : G) (K : PySem.W.Frag) (n : Nat) : Prop where
  ec : ∀ c, c < g.nx → ExcC K (T.xcls c)
  on : ∀ c c', c < g.nx → c' < n → PySem.W.kitOne K (.ref (T.xcls c)) (.ref (T.xcls c')) = some (g.isa c c')
  ve : ∀ c, c < g.nx → PySem.W.kitOne K (.ref (T.xcls c)) (.type "ValueError") = some true
theorem pe_isxF {n : Nat} {a t : Expr} {o : Option Nat} {p pos : Pos} {m : Env → Res D} (kn : XisKn T g X.K n) (hg : Gl X "isinstance") (hm : X.mg "isinstance" = none) (ha : PE X a (tD T W m)) (ht : PE X t (tC (match o with | some c => .ref (T.xcls c) | none => .ty "ValueError"))) (ho : ∀ c, o = some c → c < n)
    (h1 : Ex.star a = false) (h2 : Ex.star t = false) :
    PE X (.Call (.Name "isinstance" p) [a, t] [] pos) (tM T W fun ρ => (m ρ).bind fun x ρ => match x with
      | .err c _ => if c < g.nx then .ok (.val (.bl (isxB g c o))) ρ else .stuck
      | _ => .stuck) := by
  have key := pe_callB (pos := pos) (p := p) (id := "isinstance") (call_isx (X := X)) hg hm (by decide +kernel) (pa_cons ha (pa_cons ht pa_nil (star_cons [] _ h2)) (star_cons [t] _ h1)) (by decide +kernel) (by decide +kernel) (star_cons [t] _ h1) (star_plain [t] (by simp [h2]))
  refine key.imp fun σ H Q q => ?_
  obtain ⟨F, M, ρ, cf, q⟩ := q
  refine ⟨F, M, ρ, cf, (Out.bind q).imp fun d ρ1 q1 v1 F1 H1 cf1 => ?_⟩
  cases d with
  | err c d =>
    dsimp only at q1
    split at q1
    · rename_i hc
      obtain ⟨ad, dx, w, ev, r1, r2, rw'⟩ := err_val cf1.sub cf1.rp
      cases o with
      | none => exact ⟨ad, dx, _, _, .ty "ValueError", .type "ValueError", true, by rw [ev], r1, r2, kn.ec c hc, fun u ru => ru, kn.ve c hc, q1 _ F1 H1 (cf1.tail.val (.bl _))⟩
      | some c' => exact ⟨ad, dx, _, _, .ref (T.xcls c'), .ref (T.xcls c'), g.isa c c', by rw [ev], r1, r2, kn.ec c hc, fun u ru => ru, kn.on c c' hc (ho c' rfl), q1 _ F1 H1 (cf1.tail.val (.bl _))⟩
    · exact q1.elim
  | _ => exact q1.elim
end Fx
/-! ### the suite that asks for the class and for the field -/
namespace Fx
open PySem PySem.Spec L2
variable {T : Nm} {W : WX} {X : Cx} {σ : St} {M : Lv} {wr : List Nat} {g : G} {Φ : Fn}
section
variable {a : Addr} {oe : Obj} {cls : Value} {dd : Option Addr} {pn : List (Addr × Obj)}
def rIsS (K : PySem.W.Frag) (a : Addr) (cls : Value) (dd : Option Addr) : List V → Hp → VK → Prop := fun xs H Q => ∃ (C da : Addr) (fs : List (Str × V)) (c : V) (cv : Value) (b : Bool), xs = [.ref a, c] ∧ cls = .ref C ∧ dd = some da ∧ H da = some (.xd fs) ∧ ExcC K C ∧ (∀ u, RelV c u → u = cv) ∧ PySem.W.kitOne K (.ref C) cv = some b ∧ Q (.bl b) H
theorem call_isS (hz : Zc cls dd oe) (hf : ∃ vs, oe.data = .fields vs) : CallR (X.suite a ((a, oe) :: pn)) (.builtin "isinstance") (rIsS X.K a cls dd) := by
  intro pins s σ H xs us Q I r h
  obtain ⟨C, da, fs, c, cv, b, rfl, rfl, rfl, ea, xc, hcv, e, q⟩ := h
  cases r with
  | cons rx rr =>
    cases rr with
    | cons rt rr =>
      cases rr
      cases rx
      have ec := hcv _ rt
      subst ec
      obtain ⟨ha, _⟩ := I.pin (a, oe) (List.mem_append.mpr (.inl List.mem_cons_self))
      obtain ⟨vs, hd⟩ := hf
      have hx : ObjOk X.prog X.w H s.heap da (.xd fs) := I.hok da _ ea
      obtain ⟨mA, hns, hr⟩ := hx
      obtain ⟨od, ho, hl⟩ := lookIn_ns hns
      have J : PySem.W.InstAt s.heap a oe C (some od) := ⟨ha, hz.1, by unfold PySem.W.notCls; rw [hd] <;> rfl, by rw [hz.2]; exact ho⟩
      exact PySem.W.kia_one (PySem.W.kitx_errD xc) I.kIn J e (fun z => nomatch z) fun tk => ⟨.bl b, H, I.kept (t' := tk) fun _ _ z => z, rfl, q⟩
theorem pss_hE {n c' i : Nat} {x nm y : Str} {p0 p1 p2 p3 p4 p5 p6 pos pos2 : Pos} {ec : Expr} {v0 : V} {x0 : D} (hK : KW X T) (hu : X.A.units + 64 < cLine) (hxf : g.xf = T.xfld) (kn : XisKn T g X.K n) (hc' : c' < n) (XA : ∀ c, c < g.nx → XCls T X.K c) (hg : Gl X "isinstance") (hm : X.mg "isinstance" = none) (hz : Zc cls dd oe) (hf : ∃ vs, oe.data = .fields vs)
    (hv : ∀ p, PE (X.suite a ((a, oe) :: pn)) (.Name x p) (tVar i)) (hy : PE (X.suite a ((a, oe) :: pn)) (.Name y p3) (tC (.ref (T.xcls c'))))
    (he : PE (X.suite a ((a, oe) :: pn)) ec (tC v0)) (r0 : ∀ F, Rp T F v0 x0) (hst : behindInMarks .Eq ec = false) :
    PSs (X.suite a ((a, oe) :: pn)) [.Return (some (.BoolOp .And [.Call (.Name "isinstance" p0) [.Name x p1, .Name y p3] [] p4, .Compare (.Attribute (.Name x p2) nm p5) [.Eq] [ec] p6] pos)) pos2] (tH T g a cls dd (some i) (.isEq c' nm x0)) := by
  have k1 := pe_callB (X := X.suite a ((a, oe) :: pn)) (pos := p4) (p := p0) (id := "isinstance") (call_isS (X := X) (pn := pn) hz hf) hg hm (by decide +kernel) (pa_cons (hv p1) (pa_cons hy pa_nil (star_cons [] _ rfl)) (star_cons [_] _ rfl)) (by decide +kernel) (by decide +kernel) (star_cons [_] _ rfl) (star_plain [_] rfl)
  have k2 := pe_cmpR (pos := p6) (op_eqF (X := X.suite a ((a, oe) :: pn)) (T := T) hK hu) (pe_xA (nx := g.nx) (n := nm) (pos := p5) XA hz hf (hv p2)) he hst
  refine (pss_one (ps_ret (pe_and k1 (pe_one (pos := pos) k2)))).imp fun D σ H q => ?_
  obtain ⟨c, d, w, da, r', F, L, h1, h2, h3, h4, h5, e, rp, k⟩ := q
  subst h2 h3
  refine ⟨_, h5 i rfl, T.xcls c, da, _, .ref (T.xcls c'), .ref (T.xcls c'), g.isa c c', rfl, rfl, rfl, h4, kn.ec c h1, fun u ru => ru, kn.on c c' h1 hc', g.isa c c', rfl, ?_⟩
  have e : (if g.isa c c' = true then (if g.xf c = nm then (eqD d x0).map .bl else none) else some (.bl false)) = some r' := e
  split at e
  · rename_i hi
    rw [if_pos hi]
    split at e
    · rename_i hn
      obtain ⟨b, e2, rfl⟩ := Option.map_eq_some_iff.mp e
      rw [hxf] at hn
      subst hn
      refine ⟨c, w, da, h1, rfl, rfl, rfl, h4, h5 i rfl, F, d, x0, b, rp.1, ?_, ?_, e2, k _ F H (rp.tail.val (.bl b))⟩
      · exact Rp.rt rp.1 (Reps.rp rp)
      · exact Rp.rt rp.1 (r0 F)
    · cases e
  · rename_i hi
    cases e
    rw [if_neg hi]
    exact k _ F H (rp.tail.val (.bl false))
end
end Fx
end
section
set_option linter.all false
set_option Elab.async false
set_option maxRecDepth 100000
set_option maxHeartbeats 4000000
/-! The text of an expression is one of the language: the check. -/
namespace Fx
open PySem PySem.Spec L2
/-- the names -/
structure Tb where
  N : List Str
  fns : List (Str × Nat)
  cls : List (Str × Nat)
  xcs : List Str
  nx : Nat
  gls : List Str
  fnm : List Str
  /-- methods: the class, the name, the def, the number of parameters -/
  mts : List (Nat × Str × Nat × Nat)
  hasG : Bool
  hasX : Bool
def visB (sc : Scope) (x : Str) : Bool := match sc.names.lookup x with
  | some .local => true
  | some .cell => true
  | some .free => true
  | _ => false
def glB (sc : Scope) (x : Str) : Bool := match sc.names.lookup x with
  | some .globalImplicit => true
  | _ => false
def dbgB (x : Str) : Bool := !(x == ("__debug__" : Str)) && !(x == ("__classdict__" : Str))
section
variable (tb : Tb)
def okV (sc : Scope) (i : Nat) (x : Str) : Bool := decide (tb.N[i]? = some x) && (visB sc x && dbgB x)
def okC : D → Expr → Bool
  | .int i, .Constant (.int j) _ _ => decide (i = j)
  | .str x, .Constant (.str y) _ _ => decide (x = y)
  | .bl b, .Constant (.bool c) _ _ => decide (b = c)
  | .non, .Constant .none _ _ => true
  | _, _ => false
def okIs (sc : Scope) : IsT → Expr → Bool
  | .int, .Name x _ => decide (x = "int") && glB sc x
  | .bool, .Name x _ => decide (x = "bool") && glB sc x
  | .tuple, .Name x _ => decide (x = "tuple") && glB sc x
  | .list, .Name x _ => decide (x = "list") && glB sc x
  | .str, .Name x _ => decide (x = "str") && glB sc x
  | .cls c, .Name x _ => decide ((tb.cls[c]?).map (·.1) = some x) && (glB sc x && dbgB x)
  | .listTuple, .Tuple [.Name x _, .Name y _] _ _ => decide (x = "list") && decide (y = "tuple") && (glB sc x && glB sc y)
  | _, _ => false
/-- a target's text; own: storable -/
def stB (sc : Scope) (x : Str) : Bool := match sc.names.lookup x with
  | some .local => true
  | some .cell => true
  | _ => false
def okTN (sc : Scope) : List Nat → List Expr → Bool
  | [], [] => true
  | i :: is, .Name x _ :: es => decide (tb.N[i]? = some x) && stB sc x && okTN sc is es
  | _, _ => false
def okTg (sc : Scope) : Tg → Expr → Bool
  | .one i, .Name x _ => decide (tb.N[i]? = some x) && stB sc x
  | .many is, .Tuple es _ _ => okTN tb sc is es
  | _, _ => false
def ownP (own : List Nat) : List (Str × Nat) := own.map fun i => ((tb.N[i]?).getD "", i)
def noStar (es : List Expr) : Bool := es.all fun e => !Ex.star e
def xnmB (o : Option Nat) (z : Str) : Bool := match o with
  | some c => decide (tb.xcs[c]? = some z)
  | none => decide (z = "ValueError")
mutual
/-- t: as a test -/
def okE (t : Bool) (sc : Scope) : IE → Expr → Bool
  | .any, e => !Ex.compr e && !Ex.star e
  | .var i, .Name x _ => okV tb sc i x
  | .cst d, e => okC d e
  | .glob gi, .Name x _ => decide (tb.gls[gi]? = some x) && (glB sc x && dbgB x)
  | .tup es, .Tuple l _ _ => okEs false sc es l
  | .lst es, .List l _ => okEs false sc es l
  | .bin op a b, .BinOp x o y _ => decide (op = o) && (okE false sc a x && okE false sc b y)
  | .neg a, .UnaryOp .USub x _ => !t && okE false sc a x
  | .bop isAnd es, .BoolOp o l _ => decide (o = if isAnd = true then .And else .Or) && (decide (2 ≤ l.length) && okEs t sc es l)
  | .nt a, .UnaryOp .Not x _ => okE t sc a x
  | .cmp op a b, .Compare x [o] [y] _ => decide (op = o) && (!behindInMarks o y && (okE false sc a x && okE false sc b y))
  | .eqo a b, .Compare x [.Eq] [y] _ => !behindInMarks .Eq y && (okE false sc a x && okE false sc b y)
  | .neo a b, .Compare x [.NotEq] [y] _ => !behindInMarks .NotEq y && (okE false sc a x && okE false sc b y)
  | .cmp2 o1 o2 a b c, .Compare x [p1, p2] [y, z] _ => decide (o1 = p1) && (decide (o2 = p2) && (!lastMarks [p1, p2] [y, z] && (okE false sc a x && (okE false sc b y && okE false sc c z))))
  | .ife c a b, .IfExp c' a' b' _ => !t && (okE true sc c c' && (okE false sc a a' && okE false sc b b'))
  | .idx a b, .Subscript x y _ => ixP y && (okE false sc a x && okE false sc b y)
  | .slc a lo hi, .Subscript x (.Slice l h none _) _ => okE false sc a x && (okO sc lo l && okO sc hi h)
  | .rev a, .Subscript x (.Slice none none (some (.UnaryOp .USub (.Constant (.int 1) _ _) _)) _) _ => okE false sc a x
  | .attr a f, .Attribute x n _ => decide (tb.fnm[f]? = some n) && (!Ex.isCall x && okE false sc a x)
  | .call f es, .Call (.Name x _) l [] _ => decide (tb.fns[f]? = some (x, l.length)) && (!l.isEmpty && (noStar l && (glB sc x && (dbgB x && okEs false sc es l))))
  | .make c es, .Call (.Name x _) l [] _ => decide (tb.cls[c]? = some (x, l.length)) && (!l.isEmpty && (noStar l && (glB sc x && (dbgB x && okEs false sc es l))))
  | .cb b es, .Call (.Name x _) l [] _ => decide (x = b.name) && (!l.isEmpty && (noStar l && (glB sc x && okEs false sc es l)))
  | .isi a t, .Call (.Name x _) [y, z] [] _ => decide (x = "isinstance") && (glB sc x && (!Ex.star y && (!Ex.star z && (okE false sc a y && okIs tb sc t z))))
  | .dnew, .Dict [] [] _ => !t
  | .mcall m i es, .Call (.Attribute (.Name x _) n p1) l [] p2 => (match tb.mts[m]? with
    | some (_, n', _, np) => decide (n' = n) && decide (np = l.length + 1)
    | none => false) && (okV tb sc i x && (noStar l && (decide (l.length < 28) && (p1.endLine == p2.line && okEs false sc es l))))
  | .idf i f k, .Subscript (.Attribute (.Name x _) n _) y _ => okV tb sc i x && (decide (tb.fnm[f]? = some n) && (ixP y && okE false sc k y))
  | .inf ng k i f, .Compare y [o] [.Attribute (.Name x _) n _] _ => decide (o = if ng = true then .NotIn else .In) && (okV tb sc i x && (decide (tb.fnm[f]? = some n) && okE false sc k y))
  | .lix a b, .Call (.Attribute x n p1) [y] [] p2 => decide (n = "index") && (nc0 x && (p1.endLine == p2.line && (!Ex.star y && (okE false sc a x && okE false sc b y))))
  | .gcd a b, .Call (.Name x _) [y, z] [] _ => tb.hasG && (decide (x = "gcd") && (glB sc x && (!Ex.star y && (!Ex.star z && (okE false sc a y && okE false sc b z)))))
  | .frz i, .Name x _ => okV tb sc i x
  | .fln i f, .Call (.Name y _) [.Attribute (.Name x _) n _] [] _ => decide (y = "len") && (glB sc y && (okV tb sc i x && decide (tb.fnm[f]? = some n)))
  | .ftr i f, .Attribute (.Name x _) n _ => t && (okV tb sc i x && decide (tb.fnm[f]? = some n))
  | .fpop i f, .Call (.Attribute (.Attribute (.Name x _) n _) m p1) [] [] p2 => decide (m = "pop") && (p1.endLine == p2.line && (okV tb sc i x && decide (tb.fnm[f]? = some n)))
  | .eqb i j, .Compare (.Name x _) [.Eq] [.Name y _] _ => okV tb sc i x && okV tb sc j y
  | .eqt a b, .Compare x [.Eq] [y] _ => !t && (!behindInMarks .Eq y && (okE false sc a x && okE false sc b y))
  | .emk c e, .Call (.Name x _) [y] [] _ => decide (tb.xcs[c]? = some x) && (decide (c < tb.nx) && (!Ex.star y && (glB sc x && (dbgB x && okE false sc e y))))
  | .eat a n, .Attribute x m _ => decide (m = n) && (!Ex.isCall x && okE false sc a x)
  | .isx a o, .Call (.Name x _) [y, .Name z _] [] _ => tb.hasX && (decide (x = "isinstance") && (glB sc x && (!Ex.star y && (glB sc z && (dbgB z && (xnmB tb o z && okE false sc a y))))))
  | .srts a, .Call (.Name x _) [.Call (.Name y _) [e] [] _] [] _ => decide (x = "sorted") && (decide (y = "set") && (glB sc x && (glB sc y && (!Ex.star e && okE false sc a e))))
  | .comp elt own tg src c, .ListComp e [⟨tgE, iter, ifs, 0⟩] scope _ => blkC tb.N sc scope (ownP tb own) && (decide own.Nodup && (decide (∀ i ∈ own, i < tb.N.length) && (decide (∀ i ∈ tg.slots, i ∈ own) && (okTg tb scope tg tgE && (!Ex.isSet iter && (okI sc src tgE iter && (okF (relS scope sc) c ifs && okE false (relS scope sc) elt e)))))))
  | .compd i elt own tg c, .ListComp e [⟨tgE, .Name x _, ifs, 0⟩] scope _ => okV tb sc i x && (blkC tb.N sc scope (ownP tb own) && (decide own.Nodup && (decide (∀ i ∈ own, i < tb.N.length) && (decide (∀ i ∈ tg.slots, i ∈ own) && (okTg tb scope tg tgE && (okF (relS scope sc) c ifs && okE false (relS scope sc) elt e))))))
  | .comp2 elt own own1 tg src tg1 src1 c, .ListComp e [⟨tgE, iter, [], 0⟩, ⟨tgE1, iter1, ifs1, 0⟩] scope _ => blkC tb.N sc scope (ownP tb own) && (decide own.Nodup && (decide own1.Nodup && (decide (∀ i ∈ own1, i ∈ own) && (decide (∀ i ∈ own, i < tb.N.length) && (decide (∀ i ∈ tg.slots, i ∈ own) && (decide (∀ i ∈ tg1.slots, i ∈ own1) &&
      (okTg tb scope tg tgE && (okTg tb scope tg1 tgE1 && (!Ex.isSet iter && (!Ex.isSet iter1 && (okI sc src tgE iter && (okI (relS scope sc) src1 tgE1 iter1 && (okF (relS scope sc) c ifs1 && okE false (relS scope sc) elt e)))))))))))))
  | _, _ => false
def okO (sc : Scope) : IO → Option Expr → Bool
  | .non, none => true
  | .som e, some x => okE false sc e x
  | _, _ => false
def okF (sc : Scope) : IO → List Expr → Bool
  | .non, [] => true
  | .som e, [x] => okE true sc e x
  | _, _ => false
def okEs (t : Bool) (sc : Scope) : IEs → List Expr → Bool
  | .nil, [] => true
  | .cons e es, x :: xs => okE t sc e x && okEs t sc es xs
  | .star e es, .Starred x _ :: xs => okE false sc e x && okEs t sc es xs
  | _, _ => false
def okI (sc : Scope) : II → Expr → Expr → Bool
  | .seq e, _, x => okE false sc e x
  | .zip a b, .Tuple _ _ _, .Call (.Name x _) [e1, e2] [] _ => decide (x = "zip") && (glB sc x && (!Ex.star e1 && (!Ex.star e2 && (okE false sc a e1 && okE false sc b e2))))
  | .items a, .Tuple _ _ _, .Call (.Attribute e1 m p1) [] [] p2 => decide (m = "items") && (!Ex.isCall e1 && (p1.endLine == p2.line && okE false sc a e1))
  | .enum a, .Tuple _ _ _, .Call (.Name x _) [e1] [] _ => decide (x = "enumerate") && (glB sc x && (!Ex.star e1 && okE false sc a e1))
  | _, _, _ => false
end
/-! ### statements -/
def slB (sc : Scope) (o : Option Nat) (y : Str) : Bool := match o with
  | some i => okV tb sc i y
  | none => false
def nmB (wr : List Nat) (sc : Scope) (o : Option Nat) (nm : Option Str) : Bool := match o, nm with
  | none, none => true
  | some i, some n => decide (tb.N[i]? = some n) && (decide (sc.names.lookup n = some .local) && decide (i ∈ wr))
  | _, _ => false
def okHE (sc : Scope) (o : Option Nat) : HE → Expr → Bool
  | .cst d, e => okC d e
  | .fld n, .Attribute (.Name y _) m _ => decide (n = m) && slB tb sc o y
  | .pair d n, .Tuple [ec, .Attribute (.Name y _) m _] _ _ => okC d ec && (decide (n = m) && slB tb sc o y)
  | .isEq c n d, .BoolOp .And [.Call (.Name x _) [.Name y _, .Name z _] [] _, .Compare (.Attribute (.Name y2 _) m _) [.Eq] [ec] _] _ => tb.hasX && (decide (x = "isinstance") && (glB sc x && (slB tb sc o y && (decide (y2 = y) && (decide (tb.xcs[c]? = some z) && (glB sc z && (dbgB z && (decide (n = m) && (okC d ec && !behindInMarks .Eq ec)))))))))
  | _, _ => false
def okHd (wr : List Nat) (sc : Scope) (h : Hd) : ExceptHandler → Bool
  | .ExceptHandler (some (.Name x _)) nm [.Return (some e) _] _ => decide (tb.xcs[h.c]? = some x) && (glB sc x && (dbgB x && (okHE tb sc h.slot h.ret e && nmB tb wr sc h.slot nm)))
  | _ => false
def okHds (wr : List Nat) (sc : Scope) : List Hd → List ExceptHandler → Bool
  | [], [] => true
  | h :: hs, e :: es => okHd tb wr sc h e && okHds wr sc hs es
  | _, _ => false
/-- no pair of stores is swapped -/
def notTup : Expr → Bool
  | .Tuple vs _ _ => vs.all (foldedForSure 8)
  | _ => true
/-- some name of the target is no plain local -/
def nonLoc (sc : Scope) : Expr → Bool
  | .Tuple ts _ _ => ts.any fun t => match t with
    | .Name x _ => !decide (sc.names.lookup x = some .local)
    | _ => false
  | _ => false
/-- the stores of a, b = x, y are swapped -/
def parB (sc : Scope) (xs : List (Str × Pos)) (vs : List Expr) : Bool := noStar vs && (xs.all (fun p => decide (sc.names.lookup p.1 = some .local) && p.2.line == ((xs.head?.map (·.2.line)).getD 0)) && (decide ((xs.map (·.1)).eraseDups.length = xs.length) && (decide ((xs.map (·.1)).Nodup) && (!vs.all (foldedForSure 8) && !vs.all (constantsAlone 8)))))
def swB (sc : Scope) (x : Str) (p : Pos) : Expr → Bool
  | .ListComp _ _ scope pos => decide (sc.names.lookup x = some .local) && (p.line == pos.line && !(scope.names.any fun (n, k) => n == x && (k == .local || k == .cell)))
  | _ => false
mutual
def okS (wr : List Nat) (sc : Scope) : IS → Stmt → Bool
  | .any, _ => true
  | .asg i e, .Assign [.Name x _] v _ => decide (tb.N[i]? = some x) && (decide (i ∈ wr) && (stB sc x && (!isCd e && okE tb false sc e v)))
  | .unp is e, .Assign [tgE] v _ => okTg tb sc (.many is) tgE && (decide (∀ i ∈ is, i ∈ wr) && (decide (∀ i ∈ is, i < tb.N.length) && (!Ex.compr v && ((notTup v || nonLoc sc tgE) && okE tb false sc e v))))
  | .par [i, j] es, .Assign [.Tuple [.Name x px, .Name y py] kt pt] (.Tuple [a, b] _ _) _ => decide (tb.N[i]? = some x) && (decide (tb.N[j]? = some y) && (decide (i ∈ wr) && (decide (j ∈ wr) && ((parB sc [(x, px), (y, py)] [a, b] || (decide (i ≠ j) && (noStar [a, b] && (nonLoc sc (.Tuple [.Name x px, .Name y py] kt pt) && okTg tb sc (.many [i, j]) (.Tuple [.Name x px, .Name y py] kt pt))))) && okEs tb false sc es [a, b]))))
  | .par [i, j, l] es, .Assign [.Tuple [.Name x px, .Name y py, .Name z pz] _ _] (.Tuple [a, b, c] _ _) _ => decide (tb.N[i]? = some x) && (decide (tb.N[j]? = some y) && (decide (tb.N[l]? = some z) && (decide (i ∈ wr) && (decide (j ∈ wr) && (decide (l ∈ wr) && (parB sc [(x, px), (y, py), (z, pz)] [a, b, c] && okEs tb false sc es [a, b, c]))))))
  | .sdf i k e, .Expr (.Call (.Attribute (.Name x _) m p1) [b, a] [] p2) _ => decide (m = "setdefault") && (okV tb sc i x && (!Ex.star b && (!Ex.star a && (p1.endLine == p2.line && (okE tb false sc k b && okE tb false sc e a)))))
  | .seti i k e, .Assign [.Subscript (.Name x _) ek _] v _ => okV tb sc i x && (!Ex.compr v && (!Ex.isSlice ek && (okE tb false sc k ek && okE tb false sc e v)))
  | .setd i k e, .Assign [.Subscript (.Name x _) ek _] v _ => okV tb sc i x && (!Ex.compr v && (!Ex.isSlice ek && (okE tb false sc k ek && okE tb false sc e v)))
  | .fld i f e, .Assign [.Attribute (.Name x _) n _] v _ => okV tb sc i x && (decide (tb.fnm[f]? = some n) && (!Ex.compr v && okE tb false sc e v))
  | .fldo i f e, .Assign [.Attribute (.Name x _) n _] v _ => okV tb sc i x && (decide (tb.fnm[f]? = some n) && (!Ex.compr v && okE tb false sc e v))
  | .setf i f k e, .Assign [.Subscript (.Attribute (.Name x _) n _) ek _] v _ => okV tb sc i x && (decide (tb.fnm[f]? = some n) && (!Ex.compr v && (!Ex.isSlice ek && (okE tb false sc k ek && okE tb false sc e v))))
  | .aug sb i e, .AugAssign (.Name x _) op v _ => decide (op = if sb = true then .Sub else .Add) && (decide (tb.N[i]? = some x) && (decide (i ∈ wr) && (stB sc x && okE tb false sc e v)))
  | .whl c body, .While c' b [] _ => okE tb true sc c c' && okSs wr sc body b
  | .app i e, .Expr (.Call (.Attribute (.Name x _) m p1) [a] [] p2) _ => decide (m = "append") && (okV tb sc i x && (!Ex.star a && (p1.endLine == p2.line && okE tb false sc e a)))
  | .fapp i f f1 f2, .Expr (.Call (.Attribute (.Attribute (.Name x _) n _) m p1) [.Tuple [.Attribute (.Name x1 _) n1 _, .Attribute (.Name x2 _) n2 _] _ _] [] p2) _ => decide (m = "append") && (p1.endLine == p2.line && (okV tb sc i x && (decide (x1 = x) && (decide (x2 = x) && (decide (tb.fnm[f]? = some n) && (decide (tb.fnm[f1]? = some n1) && decide (tb.fnm[f2]? = some n2)))))))
  | .insr i k e, .Expr (.Call (.Attribute (.Name x _) m p1) [b, a] [] p2) _ => decide (m = "insert") && (okV tb sc i x && (!Ex.star b && (!Ex.star a && (p1.endLine == p2.line && (okE tb false sc k b && okE tb false sc e a)))))
  | .ex e, .Expr v _ => !Ex.compr v && okE tb false sc e v
  | .ifs c a b, .If c' a' b' _ => okE tb true sc c c' && (okSs wr sc a a' && okSs wr sc b b')
  | .for_ tg src body, .For tgE iter b [] _ => okI tb sc src tgE iter && (okTg tb sc tg tgE && (decide (∀ i ∈ tg.slots, i < tb.N.length) && (decide (∀ i ∈ tg.slots, i ∈ wr) && (!Ex.isSet iter && okSs wr sc body b))))
  | .ret e, .Return (some v) _ => okE tb false sc e v
  | .retm i, .Return (some (.Name x _)) _ => okV tb sc i x
  | .rai c e, .Raise (some (.Call (.Name x _) [a] [] _)) none _ => decide (tb.xcs[c]? = some x) && (decide (c < tb.nx) && (glB sc x && (dbgB x && (!Ex.star a && okE tb false sc e a))))
  | .try_ body hs, .Try b (h :: hds) [] [] _ => okSs wr sc body b && okHds tb wr sc hs (h :: hds)
  | .brk, .Break _ => true
  | .cnt, .Continue _ => true
  | .pas, .Pass _ => true
  | _, _ => false
def okSs (wr : List Nat) (sc : Scope) : ISs → List Stmt → Bool
  | .nil, [] => true
  | .cons s ss, t :: ts => okS wr sc s t && okSs wr sc ss ts
  | _, _ => false
end
end
end Fx
end
section
set_option linter.all false
set_option Elab.async false
set_option maxRecDepth 100000
set_option maxHeartbeats 4000000
/-! The check of an expression is sound. -/
namespace Fx
open PySem PySem.Spec L2
variable {T : Nm} {W : WX} {X : Cx} {σ : St} {M : Lv} {g : G} {Φ : Fn} {tb : Tb} {sc : Scope}
def frees : List Str := ["set", "zip", "enumerate"]
/-- what a body must know of its module -/
structure Kn (T : Nm) (g : G) (Φ : Fn) (tb : Tb) (X : Cx) : Prop where
  hK : KW X T
  hN : X.N = tb.N
  nd : X.N.Nodup
  hc : X.calm = true
  hu : X.A.units + 64 < cLine
  fl : g.flds = T.flds
  cl : ClsAll T X.K g.nc
  fd : ∀ f n, tb.fnm[f]? = some n → T.fname f = n
  fn : ∀ f x np, tb.fns[f]? = some (x, np) → ∃ fa, X.mg x = some (.ref fa) ∧ FnKn T Φ X f np fa
  mkk : ∀ c x np, tb.cls[c]? = some (x, np) → X.mg x = some (.ref (T.cls c)) ∧ c < g.nc ∧ MkKn T Φ g.ini X c np
  gl : ∀ i x, tb.gls[i]? = some x → ∃ u v d, X.mg x = some u ∧ RelV v u ∧ (∀ F, Rp T F v d) ∧ g.gl i = some d
  bt : ∀ b : BF, X.mg b.name = none
  bi : X.mg "isinstance" = none
  bb : X.mg "bool" = none
  fr : ∀ x ∈ frees, X.mg x = none
  eq : ∀ c, c < g.nc → g.eqk c = true → EqKn T Φ g X c
  xf : g.xf = T.xfld
  nx : tb.nx = g.nx
  xm : ∀ c x, tb.xcs[c]? = some x → X.mg x = some (.ref (T.xcls c))
  xr : ∀ c, c < g.nx → XMk T X c
  xe : ∀ c c', c < g.nx → c' < tb.xcs.length → PySem.W.exmOne X.K (.ref (T.xcls c)) (.ref (T.xcls c')) = some (g.isa c c')
  mt : ∀ m c n f np, tb.mts[m]? = some (c, n, f, np) → c < g.nc ∧ g.meth m = some (c, f) ∧ n ∉ (T.flds c).map T.fname ∧ MtKn T Φ X f np (T.cls c) n
  gc : tb.hasG = true → X.mg "gcd" = some (.builtin "math.gcd")
  ido : ∀ c, c < g.nc → g.eqk c = false → IdKn T X c
  hx : tb.hasX = true → X.mg "ValueError" = none ∧ XisKn T g X.K tb.xcs.length
theorem Kn.blk {s : Shared} {H : Hp} {scope : Scope} {env : PySem.Env} {fp : List Addr} (k : Kn T g Φ tb X) : Kn T g Φ tb (X.blk s H scope env fp) :=
  ⟨k.hK, k.hN, k.nd, k.hc, k.hu, k.fl, k.cl, k.fd, fun f x np e => let ⟨fa, h1, h2⟩ := k.fn f x np e; ⟨fa, h1, ⟨h2.kp, h2.ok⟩⟩, fun c x np e => let ⟨h1, h2, h3⟩ := k.mkk c x np e; ⟨h1, h2, ⟨h3.ok⟩⟩, k.gl, k.bt, k.bi, k.bb, k.fr, fun c h1 h2 => let e := k.eq c h1 h2; ⟨e.ok, e.ne, e.so, e.nf1, e.nf2⟩, k.xf, k.nx, k.xm, fun c hc => let e := k.xr c hc; ⟨e.cl, e.ok⟩, k.xe, fun m c n f np e => let ⟨h1, h2, h3, h4⟩ := k.mt m c n f np e; ⟨h1, h2, h3, ⟨h4.ok⟩⟩, k.gc, fun c h1 h2 => let e := k.ido c h1 h2; ⟨e.m, e.e⟩, fun h => let ⟨h1, h2⟩ := k.hx h; ⟨h1, ⟨h2.ec, h2.on, h2.ve⟩⟩⟩
theorem Kn.tr {pn : List (Addr × Obj)} {xe : Value → Shared → Prop} (k : Kn T g Φ tb X) : Kn T g Φ tb (X.tr pn xe) :=
  ⟨k.hK, k.hN, k.nd, k.hc, k.hu, k.fl, k.cl, k.fd, fun f x np e => let ⟨fa, h1, h2⟩ := k.fn f x np e; ⟨fa, h1, ⟨h2.kp, h2.ok⟩⟩, fun c x np e => let ⟨h1, h2, h3⟩ := k.mkk c x np e; ⟨h1, h2, ⟨h3.ok⟩⟩, k.gl, k.bt, k.bi, k.bb, k.fr, fun c h1 h2 => let e := k.eq c h1 h2; ⟨e.ok, e.ne, e.so, e.nf1, e.nf2⟩, k.xf, k.nx, k.xm, fun c hc => let e := k.xr c hc; ⟨e.cl, e.ok⟩, k.xe, fun m c n f np e => let ⟨h1, h2, h3, h4⟩ := k.mt m c n f np e; ⟨h1, h2, h3, ⟨h4.ok⟩⟩, k.gc, fun c h1 h2 => let e := k.ido c h1 h2; ⟨e.m, e.e⟩, fun h => let ⟨h1, h2⟩ := k.hx h; ⟨h1, ⟨h2.ec, h2.on, h2.ve⟩⟩⟩

/-! ### names -/
theorem gl_of {x : Str} (hsc : X.env.scope = sc) (h : glB sc x = true) : Gl X x := by
  unfold glB at h
  split at h
  · rename_i e
    show X.env.scope.names.lookup x = _
    rw [hsc]; exact e
  · cases h
theorem dbg_of {x : Str} (h : dbgB x = true) : (x == ("__debug__" : Str)) = false ∧ (x == ("__classdict__" : Str)) = false := by
  unfold dbgB at h
  simpa using h
theorem vis_of {x : Str} (h : visB sc x = true) : Vis sc x := by
  unfold visB at h
  split at h
  · exact .inl (by assumption)
  · exact .inr (.inl (by assumption))
  · exact .inr (.inr (by assumption))
  · cases h
theorem pv_of {i : Nat} {x : Str} {p : Pos} (k : X.N = tb.N) (hsc : X.env.scope = sc) (h : okV tb sc i x = true) : PE X (.Name x p) (tVar i) := by
  unfold okV at h
  simp only [Bool.and_eq_true, decide_eq_true_eq] at h
  obtain ⟨h1, h2, h3⟩ := h
  obtain ⟨h4, h5⟩ := dbg_of h3
  exact pe_var (by rw [k]; exact h1) (by rw [hsc]; exact vis_of h2) h4 h5
/-! ### values and tests -/
def tvM (fl : Nat → List Nat) (m : Env → Res R) : Env → Res Bool := fun ρ => (m ρ).bind fun r ρ => optR ((fullD fl r).bind truD) ρ
theorem pt_of {e : Expr} {m : Env → Res R} (hK : KW X T) (h : PE X e (tM T W m)) (he : Ex.tst e = true) : PT X e (tT T W (tvM T.flds m)) := by
  refine (pt_truF hK (pe_arOf h) he).imp fun σ H Q q => ?_
  obtain ⟨F, M, ρ, cf, q⟩ := q
  refine ⟨F, M, ρ, cf, ?_⟩
  have e : tvM T.flds m ρ = one_ T.flds (fun d ρ => optR (truD d) ρ) (fun ρ => (m ρ).bind fun r ρ => .ok (.v r) ρ) ρ := by
    unfold tvM one_
    dsimp only
    cases m ρ with
    | ok r ρ1 =>
      show optR ((fullD T.flds r).bind truD) ρ1 = match fullD T.flds r with
        | some x => optR (truD x) ρ1
        | none => .stuck
      cases fullD T.flds r <;> rfl
    | exc _ _ _ => rfl
    | stuck => rfl
  rw [e] at q; exact q
theorem bind_asc {α β γ : Type} (x : Res α) (k : α → Env → Res β) (l : β → Env → Res γ) : (x.bind k).bind l = x.bind fun a ρ => (k a ρ).bind l := by cases x <;> rfl
/-- the test of an expression that is no name -/
theorem te_tv {ie : IE} (h : ie.isVar = none) : teE g Φ ie = tvM g.flds (evE g Φ ie) := by
  funext ρ
  unfold teE tvM tstA
  have e : asArg ie ρ (evE g Φ ie ρ) = (evE g Φ ie ρ).bind fun r ρ => .ok (.v r) ρ := by
    cases ie <;> first | rfl | cases h
  rw [e, bind_asc]
  rfl
theorem te_var {i : Nat} : teE g Φ (.var i) = one_ g.flds (fun d ρ => optR (truD d) ρ) (argVar i) := by
  funext ρ
  show (argVar i ρ).bind _ = (argVar i ρ).bind _
  congr 1
  funext a ρ
  cases a.d g.flds ρ <;> rfl
theorem pt_teE {ie : IE} {e : Expr} (kn : Kn T g Φ tb X) (hsc : X.env.scope = sc) (h : okE tb true sc ie e = true) (hp : PT X e (tT T W (tvM T.flds (evE g Φ ie)))) : PT X e (tT T W (teE g Φ ie)) := by
  cases z : ie.isVar with
  | none => rw [te_tv z, kn.fl]; exact hp
  | some i =>
    cases ie with
    | var j =>
      cases e with
      | Name x p =>
        rw [te_var, kn.fl]
        exact pt_truF kn.hK (pe_argVar (pv_of kn.hN hsc h)) rfl
      | _ => cases h
    | _ => cases z
/-! ### targets -/
theorem PGs.names {S : Scope} (hN : X.N = tb.N) (nd : X.N.Nodup) (hst : ∀ x, stB S x = true → Loc X.env.scope x ∧ (X.fn x = true ∨ X.env.scope.names.lookup x = some .local)) :
    ∀ {is : List Nat} {es : List Expr}, okTN tb S is es = true → PGs X es (gNames is) ∧ (assignEach es X.env).length = is.length ∧ (assignEach es X.env).findIdx? (·.1) = none
  | [], [], _ => ⟨pgs_nil, rfl, rfl⟩
  | i :: is, .Name x p :: es, h => by
    unfold okTN at h
    simp only [Bool.and_eq_true, decide_eq_true_eq] at h
    obtain ⟨⟨h1, h2⟩, h3⟩ := h
    obtain ⟨q1, q2, q3⟩ := PGs.names hN nd hst h3
    obtain ⟨l1, l2⟩ := hst x h2
    refine ⟨pgs_cons (pg_name nd (by rw [hN]; exact h1) l1 l2) q1 rfl, ?_, ?_⟩
    · show (_ :: assignEach es X.env).length = _
      rw [List.length_cons, q2]; rfl
    · show ((false, _) :: assignEach es X.env).findIdx? (·.1) = none
      rw [List.findIdx?_cons, q3]; rfl
  | [], _ :: _, h => by cases h
  | _ :: _, [], h => by cases h
  | _ :: _, .BoolOp .. :: _, h => by cases h
  | _ :: _, .NamedExpr .. :: _, h => by cases h
  | _ :: _, .BinOp .. :: _, h => by cases h
  | _ :: _, .UnaryOp .. :: _, h => by cases h
  | _ :: _, .Lambda .. :: _, h => by cases h
  | _ :: _, .IfExp .. :: _, h => by cases h
  | _ :: _, .Dict .. :: _, h => by cases h
  | _ :: _, .Set .. :: _, h => by cases h
  | _ :: _, .ListComp .. :: _, h => by cases h
  | _ :: _, .SetComp .. :: _, h => by cases h
  | _ :: _, .DictComp .. :: _, h => by cases h
  | _ :: _, .GeneratorExp .. :: _, h => by cases h
  | _ :: _, .Await .. :: _, h => by cases h
  | _ :: _, .Yield .. :: _, h => by cases h
  | _ :: _, .YieldFrom .. :: _, h => by cases h
  | _ :: _, .Compare .. :: _, h => by cases h
  | _ :: _, .Call .. :: _, h => by cases h
  | _ :: _, .FormattedValue .. :: _, h => by cases h
  | _ :: _, .JoinedStr .. :: _, h => by cases h
  | _ :: _, .Constant .. :: _, h => by cases h
  | _ :: _, .Attribute .. :: _, h => by cases h
  | _ :: _, .Subscript .. :: _, h => by cases h
  | _ :: _, .Starred .. :: _, h => by cases h
  | _ :: _, .List .. :: _, h => by cases h
  | _ :: _, .Tuple .. :: _, h => by cases h
  | _ :: _, .Slice .. :: _, h => by cases h
theorem pg_of {S : Scope} {tg : Tg} {e : Expr} (hN : X.N = tb.N) (nd : X.N.Nodup) (hc : X.calm = true) (hst : ∀ x, stB S x = true → Loc X.env.scope x ∧ (X.fn x = true ∨ X.env.scope.names.lookup x = some .local)) (h : okTg tb S tg e = true) : PG X e (tg.rd X.K) := by
  cases tg with
  | one i =>
    cases e with
    | Name x p =>
      unfold okTg at h
      simp only [Bool.and_eq_true, decide_eq_true_eq] at h
      obtain ⟨l1, l2⟩ := hst x h.2
      exact pg_name nd (by rw [hN]; exact h.1) l1 l2
    | _ => cases h
  | many is =>
    cases e with
    | Tuple es k p =>
      obtain ⟨q1, q2, q3⟩ := PGs.names hN nd hst (show okTN tb S is es = true from h)
      exact pg_tup hc q1 q2 q3
    | _ => cases h
/-- the names of a comprehension's own scope -/
theorem st_blk {s : Shared} {H : Hp} {scope : Scope} {cl : List (Str × Addr)} {C : Addr} {fp : List Addr} : ∀ x, stB scope x = true →
    Loc (X.blk s H scope (compEnvC scope cl C X.env) fp).env.scope x ∧ ((X.blk s H scope (compEnvC scope cl C X.env) fp).fn x = true ∨ (X.blk s H scope (compEnvC scope cl C X.env) fp).env.scope.names.lookup x = some .local) := by
  intro x h
  unfold stB at h
  split at h
  · rename_i e
    have e2 : (relS scope X.env.scope).names.lookup x = some .local := lookup_relS_keep (by decide) e
    exact ⟨.inl e2, .inr e2⟩
  · rename_i e
    have e2 : (relS scope X.env.scope).names.lookup x = some .cell := lookup_relS_keep (by decide) e
    exact ⟨.inr e2, .inl (by show (scope.names.lookup x == some .cell) = true; rw [e]; rfl)⟩
  · cases h
theorem is_of {t : IsT} {e : Expr} (kn : Kn T g Φ tb X) (hsc : X.env.scope = sc) (h : okIs tb sc t e = true) : PE X e (tIs T t) ∧ t.ok g.nc = true := by
  have bi : ∀ {x : Str} {p : Pos} {ty : String}, glB sc x = true → X.mg x = none → bootBuiltins x = some (.type ty) → x ≠ "__name__" → (x == ("__debug__" : Str)) = false → PE X (.Name x p) (tC (.ty ty)) := fun h1 h2 h3 h4 h5 => pe_bltn (gl_of hsc h1) h2 h3 rfl h4 h5
  cases t with
  | listTuple =>
    have h0 : ∃ x p1 y p2 k p3, e = .Tuple [.Name x p1, .Name y p2] k p3 ∧ (decide (x = "list") && decide (y = "tuple") && (glB sc x && glB sc y)) = true := by
      unfold okIs at h
      split at h <;> first | exact ⟨_, _, _, _, _, _, rfl, h⟩ | exact absurd h Bool.false_ne_true | contradiction
    obtain ⟨x, p1, y, p2, k, p3, rfl, hh⟩ := h0
    simp only [Bool.and_eq_true, decide_eq_true_eq] at hh
    obtain ⟨⟨rfl, rfl⟩, h1, h2⟩ := hh
    exact ⟨pe_tup (pa_cons (bi h1 (kn.bt .list) (BF.boot .list) (BF.nm .list) (BF.db .list)) (pa_cons (bi h2 (kn.bt .tuple) (BF.boot .tuple) (BF.nm .tuple) (BF.db .tuple)) pa_nil (star_cons [] _ rfl)) (star_cons [_] _ rfl)), rfl⟩
  | cls c =>
    cases e with
    | Name x p =>
      unfold okIs at h
      simp only [Bool.and_eq_true, decide_eq_true_eq] at h
      obtain ⟨h1, h2, h3⟩ := h
      obtain ⟨⟨x', np⟩, e1, rfl⟩ := Option.map_eq_some_iff.mp h1
      obtain ⟨m1, m2, _⟩ := kn.mkk c x' np e1
      exact ⟨pe_glob (gl_of hsc h2) m1 rfl (dbg_of h3).1, by simpa [IsT.ok] using m2⟩
    | _ => cases h
  | int =>
    cases e with
    | Name x p =>
      unfold okIs at h
      simp only [Bool.and_eq_true, decide_eq_true_eq] at h
      obtain ⟨rfl, h2⟩ := h
      exact ⟨bi h2 (kn.bt .int) (BF.boot .int) (BF.nm .int) (BF.db .int), rfl⟩
    | _ => cases h
  | bool =>
    cases e with
    | Name x p =>
      unfold okIs at h
      simp only [Bool.and_eq_true, decide_eq_true_eq] at h
      obtain ⟨rfl, h2⟩ := h
      exact ⟨bi h2 kn.bb (by decide +kernel) (by decide +kernel) (by decide +kernel), rfl⟩
    | _ => cases h
  | tuple =>
    cases e with
    | Name x p =>
      unfold okIs at h
      simp only [Bool.and_eq_true, decide_eq_true_eq] at h
      obtain ⟨rfl, h2⟩ := h
      exact ⟨bi h2 (kn.bt .tuple) (BF.boot .tuple) (BF.nm .tuple) (BF.db .tuple), rfl⟩
    | _ => cases h
  | list =>
    cases e with
    | Name x p =>
      unfold okIs at h
      simp only [Bool.and_eq_true, decide_eq_true_eq] at h
      obtain ⟨rfl, h2⟩ := h
      exact ⟨bi h2 (kn.bt .list) (BF.boot .list) (BF.nm .list) (BF.db .list), rfl⟩
    | _ => cases h
  | str =>
    cases e with
    | Name x p =>
      unfold okIs at h
      simp only [Bool.and_eq_true, decide_eq_true_eq] at h
      obtain ⟨rfl, h2⟩ := h
      exact ⟨bi h2 (kn.bt .str) (BF.boot .str) (BF.nm .str) (BF.db .str), rfl⟩
    | _ => cases h
theorem cst_of {d : D} {e : Expr} (h : okC d e = true) : PE X e (tM T W fun ρ => .ok (.val d) ρ) ∧ Ex.tst e = true := by
  unfold okC at h
  split at h
  · obtain rfl := of_decide_eq_true h; exact ⟨pe_cst pe_int fun F => .int _, rfl⟩
  · obtain rfl := of_decide_eq_true h; exact ⟨pe_cst pe_str fun F => .str _, rfl⟩
  · obtain rfl := of_decide_eq_true h; exact ⟨pe_cst pe_bl fun F => .bl _, rfl⟩
  · exact ⟨pe_cst pe_non fun F => .non, rfl⟩
  · cases h
end Fx
end
section
set_option linter.all false
set_option Elab.async false
set_option maxRecDepth 100000
set_option maxHeartbeats 4000000
/-! The check of an expression is sound: the induction. -/
namespace Fx
open PySem PySem.Spec L2
variable {T : Nm} {g : G} {Φ : Fn} {tb : Tb}
/-- an argument -/
theorem ar_of {W : WX} {X : Cx} {sc : Scope} {ie : IE} {e : Expr} (kn : Kn T g Φ tb X) (hsc : X.env.scope = sc) (h : okE tb false sc ie e = true) (hp : PE X e (tM T W (evE g Φ ie))) : PE X e (tAr T W fun ρ => asArg ie ρ (evE g Φ ie ρ)) := by
  cases z : ie.isVar with
  | none =>
    have e2 : (fun ρ => asArg ie ρ (evE g Φ ie ρ)) = fun ρ => (evE g Φ ie ρ).bind fun r ρ => .ok (.v r) ρ := by
      funext ρ
      cases ie <;> first | rfl | cases z
    rw [e2]
    exact pe_arOf hp
  | some i =>
    cases ie with
    | var j =>
      cases e with
      | Name x p => exact pe_argVar (pv_of kn.hN hsc h)
      | _ => cases h
    | _ => cases z
theorem restB_as {isAnd : Bool} {m : Env → Res R} {r : Env → Res R} {fl : Nat → List Nat} : tvM fl (fun ρ => (asD fl (m ρ)).bind fun d ρ => restB isAnd d r ρ) = fun ρ => (tvM fl m ρ).bind fun k ρ => if k = isAnd then tvM fl r ρ else .ok k ρ := by
  funext ρ
  unfold tvM asD
  dsimp only
  cases m ρ with
  | exc c d ρ1 => rfl
  | stuck => rfl
  | ok x ρ1 =>
    show (((optR (fullD fl x) ρ1).bind fun d ρ => restB isAnd d r ρ).bind fun r ρ => optR ((fullD fl r).bind truD) ρ) = (optR ((fullD fl x).bind truD) ρ1).bind _
    cases fullD fl x with
    | none => rfl
    | some d =>
      show (restB isAnd d r ρ1).bind _ = (optR (truD d) ρ1).bind _
      unfold restB
      cases e : truD d with
      | none => rfl
      | some k =>
        show (if k = isAnd then r ρ1 else .ok (.val d) ρ1).bind _ = if k = isAnd then _ else _
        split
        · rfl
        · show optR ((fullD fl (.val d)).bind truD) ρ1 = .ok k ρ1
          rw [show fullD fl (.val d) = some d from rfl]
          show optR (truD d) ρ1 = _
          rw [e]; rfl
theorem all_star {e : Expr} {l : List Expr} (h : noStar (e :: l) = true) : Ex.star e = false ∧ l.all (fun e => !Ex.star e) = true := by
  unfold noStar at h
  simpa using h
theorem own_map {own : List Nat} : (ownP tb own).map (·.2) = own := by
  unfold ownP
  rw [List.map_map]
  exact List.map_id own
theorem len_As : ∀ (es : IEs) (l : List Expr) (sc : Scope), okEs tb false sc es l = true → ∀ ρ as ρ', evAs g Φ es ρ = .ok as ρ' → as.length = l.length
  | .nil, [], _, _, ρ, as, ρ', e => by cases e; rfl
  | .star _ _, _, _, _, _, _, _, e => by cases e
  | .cons ie es, x :: xs, sc, h, ρ, as, ρ', e => by
    have h : (okE tb false sc ie x && okEs tb false sc es xs) = true := h
    have e : (asArg ie ρ (evE g Φ ie ρ)).bind (fun a ρ => (evAs g Φ es ρ).bind fun as ρ => .ok (a :: as) ρ) = .ok as ρ' := e
    obtain ⟨a, ρ1, e1, e2⟩ := bind_ok e
    obtain ⟨as', ρ2, e3, e4⟩ := bind_ok e2
    cases e4
    rw [List.length_cons, List.length_cons, len_As es xs sc (Bool.and_eq_true_iff.mp h).2 ρ1 as' _ e3]
  | .nil, _ :: _, _, h, _, _, _, _ => by cases h
  | .cons _ _, [], _, h, _, _, _, _ => by cases h

theorem tv_tst {W : WX} {X : Cx} {e : Expr} {m : Env → Res R} (kn : Kn T g Φ tb X) (pe : PE X e (tM T W m)) (he : Ex.tst e = true) (t : Bool) : (t = false → PE X e (tM T W m)) ∧ (t = true → PT X e (tT T W (tvM T.flds m))) :=
  ⟨fun _ => pe, fun _ => pt_of kn.hK pe he⟩
def Sn (T : Nm) (W : WX) (X : Cx) (t : Bool) (e : Expr) (m : Env → Res R) : Prop := (t = false → PE X e (tM T W m)) ∧ (t = true → PT X e (tT T W (tvM T.flds m)))
def SnW (T : Nm) (W : WX) (X : Cx) (t : Bool) (e : Expr) (m : Env → Res R) : Prop := (t = false → PE X e (tM T W m)) ∧ (t = true → PW X e (tT T W (tvM T.flds m)))
theorem pts_nilF {W : WX} {X : Cx} : PTs X [] (tT T W fun ρ => .ok true ρ) := ⟨fun pins s σ H Q I h => by
  obtain ⟨F, M, ρ, cf, q⟩ := h
  exact pts_nil.run pins s σ H Q I (q F H cf)⟩
theorem pw_bop1 {W : WX} {X : Cx} {isAnd : Bool} {a : Expr} {pos : Pos} {m : Env → Res Bool} (ha : PT X a (tT T W m)) : PW X (.BoolOp (if isAnd = true then .And else .Or) [a] pos) (tT T W m) := by
  cases isAnd with
  | true => exact pw_and1 ha
  | false => exact pw_or1 ha
/-- what is never reached -/
theorem pe_any {W : WX} {X : Cx} {e : Expr} : PE X e (tM T W fun _ => .stuck) := ⟨fun pins s σ H Q I h => by obtain ⟨_, _, _, _, q⟩ := h; exact q.elim⟩
theorem pt_any {W : WX} {X : Cx} {e : Expr} {f : Nat → List Nat} : PT X e (tT T W (tvM f fun _ => .stuck)) := ⟨fun pins s σ H Q I h => by obtain ⟨_, _, _, _, q⟩ := h; exact q.elim⟩
theorem pw_any {W : WX} {X : Cx} {e : Expr} {f : Nat → List Nat} : PW X e (tT T W (tvM f fun _ => .stuck)) := ⟨fun whole pins s σ H Q I h => by obtain ⟨_, _, _, _, q⟩ := h; exact q.elim⟩
theorem pa_any {W : WX} {X : Cx} {l : List Expr} : PA X l (tAs T W fun _ => .stuck) := ⟨fun pos pins s σ H Q I h => by obtain ⟨_, _, _, _, q⟩ := h; exact q.elim⟩
theorem snw_any {W : WX} {X : Cx} {t : Bool} {e : Expr} : SnW T W X t e fun _ => .stuck := ⟨fun _ => pe_any, fun _ => pw_any⟩
theorem ok_star {t : Bool} {sc : Scope} {ie : IE} {e : Expr} (h : okE tb t sc ie e = true) : Ex.star e = false := by
  cases e with
  | Starred x p => cases ie with
    | cst d => cases d <;> cases h
    | _ => cases h
  | _ => rfl
mutual
theorem snE : ∀ (ie : IE) (t : Bool) (sc : Scope) (e : Expr) (W : WX) (X : Cx), Kn T g Φ tb X → X.env.scope = sc → Takes X W → okE tb t sc ie e = true → Sn T W X t e (evE g Φ ie)
  | .any, t, sc, e, W, X, kn, hsc, tk, h => ⟨fun _ => pe_any, fun _ => pt_any⟩
  | .var i, t, sc, e, W, X, kn, hsc, tk, h => by
    cases e with
    | Name x p =>
      have e2 : evE g Φ (.var i) = rdVar T.flds i := by rw [← kn.fl]; rfl
      rw [e2]
      exact tv_tst kn (pe_rd (pv_of kn.hN hsc h)) rfl t
    | _ => cases h
  | .cst d, t, sc, e, W, X, kn, hsc, tk, h => by
    obtain ⟨h1, h2⟩ := cst_of (T := T) (W := W) (X := X) (show okC d e = true by cases e <;> exact h)
    exact tv_tst kn h1 h2 t
  | .glob gi, t, sc, e, W, X, kn, hsc, tk, h => by
    cases e with
    | Name x p =>
      have h : (decide (tb.gls[gi]? = some x) && (glB sc x && dbgB x)) = true := h
      simp only [Bool.and_eq_true, decide_eq_true_eq] at h
      obtain ⟨h1, h2, h3⟩ := h
      obtain ⟨u, v, d, m1, m2, m3, m4⟩ := kn.gl gi x h1
      exact tv_tst kn (pe_globF (g := g) (gl_of hsc h2) m1 m2 (dbg_of h3).1 m3 m4) rfl t
    | _ => cases h
  | .tup es, t, sc, e, W, X, kn, hsc, tk, h => by
    cases e with
    | Tuple l k p =>
      have h : okEs tb false sc es l = true := h
      exact tv_tst kn (pe_tupF (snDs es sc l W X kn hsc tk h)) rfl t
    | _ => cases h
  | .lst es, t, sc, e, W, X, kn, hsc, tk, h => by
    cases e with
    | List l p =>
      have h : okEs tb false sc es l = true := h
      exact tv_tst kn (pe_lstF (snDs es sc l W X kn hsc tk h)) rfl t
    | _ => cases h
  | .bin op a b, t, sc, e, W, X, kn, hsc, tk, h => by
    cases e with
    | BinOp x o y p =>
      have h : (decide (op = o) && (okE tb false sc a x && okE tb false sc b y)) = true := h
      simp only [Bool.and_eq_true, decide_eq_true_eq] at h
      obtain ⟨rfl, h1, h2⟩ := h
      have ea := ar_of kn hsc h1 ((snE a false sc x W X kn hsc tk h1).1 rfl)
      have eb := ar_of kn hsc h2 ((snE b false sc y W X kn hsc tk h2).1 rfl)
      have q := pe_binF (op := op) (pos := p) kn.hK ea eb
      rw [← kn.fl] at q
      exact tv_tst kn q rfl t
    | _ => cases h
  | .neg a, t, sc, e, W, X, kn, hsc, tk, h => by
    cases e with
    | UnaryOp o x p =>
      cases o with
      | USub =>
        have h : (!t && okE tb false sc a x) = true := h
        simp only [Bool.and_eq_true, Bool.not_eq_true'] at h
        obtain ⟨rfl, h1⟩ := h
        have q := pe_negF (pos := p) (pe_asD ((snE a false sc x W X kn hsc tk h1).1 rfl))
        rw [← kn.fl] at q
        exact ⟨fun _ => q, fun z => by cases z⟩
      | _ => cases h
    | _ => cases h
  | .bop isAnd es, t, sc, e, W, X, kn, hsc, tk, h => by
    cases e with
    | BoolOp o l p =>
      have h : (decide (o = if isAnd = true then .And else .Or) && (decide (2 ≤ l.length) && okEs tb t sc es l)) = true := h
      simp only [Bool.and_eq_true, decide_eq_true_eq] at h
      obtain ⟨rfl, h1, h2⟩ := h
      exact ⟨(snB es isAnd t sc l p W X kn hsc tk h1 h2).1, fun z => ((snB es isAnd t sc l p W X kn hsc tk h1 h2).2 z).pt⟩
    | _ => cases h
  | .nt a, t, sc, e, W, X, kn, hsc, tk, h => by
    cases e with
    | UnaryOp o x p =>
      cases o with
      | Not =>
        have h : okE tb t sc a x = true := h
        have q := snE a t sc x W X kn hsc tk h
        cases t with
        | false =>
          have q := pe_notF (pos := p) kn.hK (ar_of kn hsc h (q.1 rfl))
          refine ⟨fun _ => ?_, fun z => by cases z⟩
          have e2 : evE g Φ (.nt a) = one_ T.flds (fun d ρ => (optR (truD d) ρ).bind fun b ρ => .ok (.val (.bl (!b))) ρ) fun ρ => asArg a ρ (evE g Φ a ρ) := by
            funext ρ
            rw [← kn.fl]
            show ((asArg a ρ (evE g Φ a ρ)).bind fun a ρ => optR ((a.d g.flds ρ).bind truD) ρ).bind _ = (asArg a ρ (evE g Φ a ρ)).bind _
            rw [bind_asc]
            congr 1
            funext y ρ
            cases y.d g.flds ρ <;> rfl
          rw [e2]; exact q
        | true =>
          have q := pt_notF (pos := p) (pt_teE kn hsc h (q.2 rfl))
          refine ⟨fun z => (by cases z), fun _ => ?_⟩
          have e2 : tvM T.flds (evE g Φ (.nt a)) = fun ρ => (teE g Φ a ρ).bind fun b ρ => .ok (!b) ρ := by
            funext ρ
            show ((teE g Φ a ρ).bind fun b ρ => Res.ok (R.val (D.bl (!b))) ρ).bind (fun r ρ => optR ((fullD T.flds r).bind truD) ρ) = _
            rw [bind_asc]
            rfl
          rw [e2]; exact q
      | _ => cases h
    | _ => cases h
  | .cmp op a b, t, sc, e, W, X, kn, hsc, tk, h => by
    cases e with
    | Compare x os ys p =>
      cases os with
      | nil => cases h
      | cons o os =>
        cases os with
        | cons _ _ => cases h
        | nil =>
          cases ys with
          | nil => cases h
          | cons y ys =>
            cases ys with
            | cons _ _ => cases h
            | nil =>
              have h : (decide (op = o) && (!behindInMarks o y && (okE tb false sc a x && okE tb false sc b y))) = true := h
              simp only [Bool.and_eq_true, decide_eq_true_eq, Bool.not_eq_true'] at h
              obtain ⟨rfl, h0, h1, h2⟩ := h
              have ea := ar_of kn hsc h1 ((snE a false sc x W X kn hsc tk h1).1 rfl)
              have eb := ar_of kn hsc h2 ((snE b false sc y W X kn hsc tk h2).1 rfl)
              refine ⟨fun _ => ?_, fun _ => ?_⟩
              · have q := pe_cmpF (pos := p) kn.hK kn.hu ea eb h0
                rw [← kn.fl] at q
                exact q
              · have q := pt_cmpF (pos := p) kn.hK kn.hu ea eb h0
                have e2 : tvM T.flds (evE g Φ (.cmp op a b)) = two T.flds (fun x y ρ => optR (cmpD op x y) ρ) (fun ρ => asArg a ρ (evE g Φ a ρ)) (fun ρ => asArg b ρ (evE g Φ b ρ)) := by
                  funext ρ
                  rw [← kn.fl]
                  show ((asArg a ρ (evE g Φ a ρ)).bind _).bind _ = (asArg a ρ (evE g Φ a ρ)).bind _
                  rw [bind_asc]
                  congr 1
                  funext x ρ
                  show ((asArg b ρ (evE g Φ b ρ)).bind _).bind _ = (asArg b ρ (evE g Φ b ρ)).bind _
                  rw [bind_asc]
                  congr 1
                  funext y ρ
                  cases x.d g.flds ρ with
                  | none => rfl
                  | some dx =>
                    cases y.d g.flds ρ with
                    | none => rfl
                    | some dy =>
                      show (cmpP op dx dy ρ).bind _ = optR (cmpD op dx dy) ρ
                      unfold cmpP
                      cases cmpD op dx dy <;> rfl
                rw [e2]; exact q
    | _ => cases h
  | .eqo a b, t, sc, e, W, X, kn, hsc, tk, h => by
    cases e with
    | Compare x os ys p =>
      cases os with
      | nil => cases h
      | cons o os =>
        cases os with
        | cons _ _ => cases o <;> cases h
        | nil =>
          cases ys with
          | nil => cases o <;> cases h
          | cons y ys =>
            cases ys with
            | cons _ _ => cases o <;> cases h
            | nil =>
              cases o with
              | Eq =>
                have h : (!behindInMarks .Eq y && (okE tb false sc a x && okE tb false sc b y)) = true := h
                simp only [Bool.and_eq_true, decide_eq_true_eq, Bool.not_eq_true'] at h
                obtain ⟨h0, h1, h2⟩ := h
                have ea := pe_asD ((snE a false sc x W X kn hsc tk h1).1 rfl)
                have eb := pe_asD ((snE b false sc y W X kn hsc tk h2).1 rfl)
                rw [← kn.fl] at ea eb
                refine ⟨fun _ => pe_eqoF (pos := p) kn.hK kn.hu kn.cl kn.eq ea eb h0, fun _ => ?_⟩
                have q := pt_eqoF (pos := p) kn.hK kn.hu kn.cl kn.eq ea eb h0
                have e2 : tvM T.flds (evE g Φ (.eqo a b)) = fun ρ => (asD g.flds (evE g Φ a ρ)).bind fun x ρ => (asD g.flds (evE g Φ b ρ)).bind fun y ρ => (eqoR g Φ x y ρ).bind fun r ρ => optR ((fullD T.flds r).bind truD) ρ := by
                  funext ρ
                  show ((asD g.flds (evE g Φ a ρ)).bind _).bind _ = _
                  rw [bind_asc]
                  congr 1
                  funext x ρ
                  show ((asD g.flds (evE g Φ b ρ)).bind _).bind _ = _
                  rw [bind_asc]
                rw [e2]; exact q
              | _ => cases h
    | _ => cases h
  | .neo a b, t, sc, e, W, X, kn, hsc, tk, h => by
    cases e with
    | Compare x os ys p =>
      cases os with
      | nil => cases h
      | cons o os =>
        cases os with
        | cons _ _ => cases o <;> cases h
        | nil =>
          cases ys with
          | nil => cases o <;> cases h
          | cons y ys =>
            cases ys with
            | cons _ _ => cases o <;> cases h
            | nil =>
              cases o with
              | NotEq =>
                have h : (!behindInMarks .NotEq y && (okE tb false sc a x && okE tb false sc b y)) = true := h
                simp only [Bool.and_eq_true, decide_eq_true_eq, Bool.not_eq_true'] at h
                obtain ⟨h0, h1, h2⟩ := h
                have ea := pe_asD ((snE a false sc x W X kn hsc tk h1).1 rfl)
                have eb := pe_asD ((snE b false sc y W X kn hsc tk h2).1 rfl)
                rw [← kn.fl] at ea eb
                refine ⟨fun _ => pe_neoF (pos := p) kn.hK kn.hu kn.cl kn.eq ea eb h0, fun _ => ?_⟩
                have q := pt_neoF (pos := p) kn.hK kn.hu kn.cl kn.eq ea eb h0
                have e2 : tvM T.flds (evE g Φ (.neo a b)) = fun ρ => (asD g.flds (evE g Φ a ρ)).bind fun x ρ => (asD g.flds (evE g Φ b ρ)).bind fun y ρ => (neoR g Φ x y ρ).bind fun r ρ => optR ((fullD T.flds r).bind truD) ρ := by
                  funext ρ
                  show ((asD g.flds (evE g Φ a ρ)).bind _).bind _ = _
                  rw [bind_asc]
                  congr 1
                  funext x ρ
                  show ((asD g.flds (evE g Φ b ρ)).bind _).bind _ = _
                  rw [bind_asc]
                rw [e2]; exact q
              | _ => cases h
    | _ => cases h
  | .cmp2 o1 o2 a b c, t, sc, e, W, X, kn, hsc, tk, h => by
    cases e with
    | Compare x os ys p =>
      obtain ⟨y, z, rfl, rfl, hh⟩ : ∃ y z, os = [o1, o2] ∧ ys = [y, z] ∧ (!lastMarks [o1, o2] [y, z] && (okE tb false sc a x && (okE tb false sc b y && okE tb false sc c z))) = true := by
        cases os with
        | nil => cases h
        | cons p1 os =>
          cases os with
          | nil => cases h
          | cons p2 os =>
            cases os with
            | cons _ _ => cases h
            | nil =>
              cases ys with
              | nil => cases h
              | cons y ys =>
                cases ys with
                | nil => cases h
                | cons z ys =>
                  cases ys with
                  | cons _ _ => cases h
                  | nil =>
                    have h : (decide (o1 = p1) && (decide (o2 = p2) && (!lastMarks [p1, p2] [y, z] && (okE tb false sc a x && (okE tb false sc b y && okE tb false sc c z))))) = true := h
                    simp only [Bool.and_eq_true, decide_eq_true_eq] at h
                    obtain ⟨rfl, rfl, h⟩ := h
                    exact ⟨y, z, rfl, rfl, by simpa only [Bool.and_eq_true] using h⟩
      simp only [Bool.and_eq_true, Bool.not_eq_true'] at hh
      obtain ⟨h0, h1, h2, h3⟩ := hh
      have ea := pe_asD ((snE a false sc x W X kn hsc tk h1).1 rfl)
      have eb := pe_asD ((snE b false sc y W X kn hsc tk h2).1 rfl)
      have ec := pe_asD ((snE c false sc z W X kn hsc tk h3).1 rfl)
      rw [← kn.fl] at ea eb ec
      refine ⟨fun _ => pe_cmp2F (pos := p) kn.hK kn.hu ea eb ec h0, fun _ => ?_⟩
      have q := pt_cmp2F (pos := p) kn.hK kn.hu ea eb ec h0
      have e2 : tvM T.flds (evE g Φ (.cmp2 o1 o2 a b c)) = fun ρ => (asD g.flds (evE g Φ a ρ)).bind fun x ρ => (asD g.flds (evE g Φ b ρ)).bind fun y ρ => match cmpD o1 x y with
          | some true => (asD g.flds (evE g Φ c ρ)).bind fun z ρ => optR (cmpD o2 y z) ρ
          | some false => .ok false ρ
          | none => .stuck := by
        funext ρ
        show ((asD g.flds (evE g Φ a ρ)).bind _).bind _ = _
        rw [bind_asc]
        congr 1
        funext x ρ
        show ((asD g.flds (evE g Φ b ρ)).bind _).bind _ = _
        rw [bind_asc]
        congr 1
        funext y ρ
        cases cmpD o1 x y with
        | none => rfl
        | some k =>
          cases k with
          | false => rfl
          | true =>
            show ((asD g.flds (evE g Φ c ρ)).bind _).bind _ = (asD g.flds (evE g Φ c ρ)).bind _
            rw [bind_asc]
            congr 1
            funext z ρ
            cases cmpD o2 y z <;> rfl
      rw [e2]; exact q
    | _ => cases h
  | .ife c a b, t, sc, e, W, X, kn, hsc, tk, h => by
    cases e with
    | IfExp c' a' b' p =>
      have h : (!t && (okE tb true sc c c' && (okE tb false sc a a' && okE tb false sc b b'))) = true := h
      simp only [Bool.and_eq_true, Bool.not_eq_true'] at h
      obtain ⟨rfl, h1, h2, h3⟩ := h
      refine ⟨fun _ => ?_, fun z => by cases z⟩
      exact pe_ifF (pos := p) (pt_teE kn hsc h1 ((snE c true sc c' W X kn hsc tk h1).2 rfl)) ((snE a false sc a' W X kn hsc tk h2).1 rfl) ((snE b false sc b' W X kn hsc tk h3).1 rfl)
    | _ => cases h
  | .idx a b, t, sc, e, W, X, kn, hsc, tk, h => by
    cases e with
    | Subscript x y p =>
      have h : (ixP y && (okE tb false sc a x && okE tb false sc b y)) = true := h
      simp only [Bool.and_eq_true] at h
      obtain ⟨h0, h1, h2⟩ := h
      have q := pe_ixF (pos := p) kn.hK kn.hu (ar_of kn hsc h1 ((snE a false sc x W X kn hsc tk h1).1 rfl)) (pe_asD ((snE b false sc y W X kn hsc tk h2).1 rfl)) h0
      rw [← kn.fl] at q
      exact tv_tst kn q rfl t
    | _ => cases h
  | .slc a lo hi, t, sc, e, W, X, kn, hsc, tk, h => by
    cases e with
    | Subscript x y p =>
      cases y with
      | Slice l u s p2 =>
        cases s with
        | some _ => cases h
        | none =>
          have h : (okE tb false sc a x && (okO tb sc lo l && okO tb sc hi u)) = true := h
          simp only [Bool.and_eq_true] at h
          obtain ⟨h1, h2, h3⟩ := h
          have q := pe_slcF (pos := p) (p2 := p2) kn.hK (ar_of kn hsc h1 ((snE a false sc x W X kn hsc tk h1).1 rfl)) (snO lo sc l W X kn hsc tk h2) (snO hi sc u W X kn hsc tk h3)
          rw [← kn.fl] at q
          exact tv_tst kn q rfl t
      | _ => cases h
    | _ => cases h
  | .rev a, t, sc, e, W, X, kn, hsc, tk, h => by
    obtain ⟨x, k, p1, p2, p3, p, rfl, h⟩ : ∃ x k p1 p2 p3 p, e = .Subscript x (.Slice none none (some (.UnaryOp .USub (.Constant (.int 1) k p1) p2)) p3) p ∧ okE tb false sc a x = true := by
      unfold okE at h
      split at h <;> first | exact ⟨_, _, _, _, _, _, rfl, h⟩ | exact absurd h Bool.false_ne_true | contradiction | (rename_i z; cases z; exact ⟨_, _, _, _, _, _, rfl, h⟩)
    have q := pe_revF (k := k) (p1 := p1) (p2 := p2) (p3 := p3) (pos := p) kn.hK (ar_of kn hsc h ((snE a false sc x W X kn hsc tk h).1 rfl))
    rw [← kn.fl] at q
    exact tv_tst kn q rfl t
  | .attr a f, t, sc, e, W, X, kn, hsc, tk, h => by
    cases e with
    | Attribute x n p =>
      have h : (decide (tb.fnm[f]? = some n) && (!Ex.isCall x && okE tb false sc a x)) = true := h
      simp only [Bool.and_eq_true, decide_eq_true_eq, Bool.not_eq_true'] at h
      obtain ⟨h1, h2, h3⟩ := h
      have hn := kn.fd f n h1
      refine tv_tst kn ?_ rfl t
      cases z : a.isVar with
      | none =>
        have q := pe_fldD (g := g) (pos := p) kn.hK kn.cl rfl kn.fl hn.symm (pe_asD ((snE a false sc x W X kn hsc tk h3).1 rfl)) h2
        rw [← kn.fl] at q
        have e2 : evE g Φ (.attr a f) = fun ρ => (asD g.flds (evE g Φ a ρ)).bind fun x ρ => optR ((attrR g f x).map .val) ρ := by
          cases a <;> first | rfl | cases z
        rw [e2]; exact q
      | some i =>
        cases a with
        | var i =>
          cases x with
          | Name y p0 => exact pe_fldV (g := g) (pos := p) kn.hK kn.cl rfl kn.fl hn.symm (pv_of kn.hN hsc h3) h2
          | _ => cases h3
        | _ => cases z
    | _ => cases h
  | .call f es, t, sc, e, W, X, kn, hsc, tk, h => by
    cases e with
    | Call fe l kw p =>
      cases fe with
      | Name x p0 =>
        cases kw with
        | cons _ _ => cases h
        | nil =>
          have h : (decide (tb.fns[f]? = some (x, l.length)) && (!l.isEmpty && (noStar l && (glB sc x && (dbgB x && okEs tb false sc es l))))) = true := h
          simp only [Bool.and_eq_true, decide_eq_true_eq] at h
          obtain ⟨h1, h2, h3, h4, h5, h6⟩ := h
          cases l with
          | nil => cases h2
          | cons y ys =>
            obtain ⟨fa, m1, m2⟩ := kn.fn f x _ h1
            obtain ⟨s1, s2⟩ := all_star h3
            exact tv_tst kn (pe_callF (pos := p) (p := p0) m2 tk (gl_of hsc h4) m1 rfl (snAs es sc (y :: ys) W X kn hsc tk h3 h6) (dbg_of h5).1 s1 s2 (fun ρ as ρ' e => len_As es _ sc h6 ρ as ρ' e)) rfl t
      | _ => cases h
    | _ => cases h
  | .make c es, t, sc, e, W, X, kn, hsc, tk, h => by
    cases e with
    | Call fe l kw p =>
      cases fe with
      | Name x p0 =>
        cases kw with
        | cons _ _ => cases h
        | nil =>
          have h : (decide (tb.cls[c]? = some (x, l.length)) && (!l.isEmpty && (noStar l && (glB sc x && (dbgB x && okEs tb false sc es l))))) = true := h
          simp only [Bool.and_eq_true, decide_eq_true_eq] at h
          obtain ⟨h1, h2, h3, h4, h5, h6⟩ := h
          cases l with
          | nil => cases h2
          | cons y ys =>
            obtain ⟨m1, m0, m2⟩ := kn.mkk c x _ h1
            obtain ⟨s1, s2⟩ := all_star h3
            exact tv_tst kn (pe_makeF (pos := p) (p := p0) m2 tk (gl_of hsc h4) m1 (snAs es sc (y :: ys) W X kn hsc tk h3 h6) (dbg_of h5).1 s1 s2 (fun ρ as ρ' e => len_As es _ sc h6 ρ as ρ' e)) rfl t
      | _ => cases h
    | _ => cases h
  | .cb b es, t, sc, e, W, X, kn, hsc, tk, h => by
    cases e with
    | Call fe l kw p =>
      cases fe with
      | Name x p0 =>
        cases kw with
        | cons _ _ => cases h
        | nil =>
          have h : (decide (x = b.name) && (!l.isEmpty && (noStar l && (glB sc x && okEs tb false sc es l)))) = true := h
          simp only [Bool.and_eq_true, decide_eq_true_eq] at h
          obtain ⟨rfl, h2, h3, h4, h6⟩ := h
          cases l with
          | nil => cases h2
          | cons y ys =>
            obtain ⟨s1, s2⟩ := all_star h3
            have q := pe_cbF (b := b) (pos := p) (p := p0) kn.hK kn.hc kn.hu rfl (gl_of hsc h4) (kn.bt b) (snAs es sc (y :: ys) W X kn hsc tk h3 h6) s1 s2
            rw [← kn.fl] at q
            exact tv_tst kn q rfl t
      | _ => cases h
    | _ => cases h
  | .mcall m i es, t, sc, e, W, X, kn, hsc, tk, h => by
    obtain ⟨x, p0, n, p1, l, p2, rfl, hh⟩ : ∃ x p0 n p1 l p2, e = .Call (.Attribute (.Name x p0) n p1) l [] p2 ∧ ((match tb.mts[m]? with
      | some (_, n', _, np) => decide (n' = n) && decide (np = l.length + 1)
      | none => false) && (okV tb sc i x && (noStar l && (decide (l.length < 28) && (p1.endLine == p2.line && okEs tb false sc es l))))) = true := by
      unfold okE at h
      split at h <;> first | exact ⟨_, _, _, _, _, _, rfl, h⟩ | exact absurd h Bool.false_ne_true | contradiction | (rename_i z; cases z; exact ⟨_, _, _, _, _, _, rfl, h⟩)
    rw [Bool.and_eq_true] at hh
    simp only [Bool.and_eq_true, decide_eq_true_eq] at hh
    obtain ⟨h0, h1, h2, h3, h4, h5⟩ := hh
    split at h0
    · rename_i c n' f np hm
      simp only [Bool.and_eq_true, decide_eq_true_eq] at h0
      obtain ⟨rfl, h6⟩ := h0
      obtain ⟨m1, m2, m3, m4⟩ := kn.mt m c n' f np hm
      have cl := (kn.cl.of c m1).cl
      cases l with
      | nil =>
        have e2 : evE g Φ (.mcall m i es) = fun ρ => mcallR g Φ m (argVar i ρ) fun ρ => .ok [] ρ := by
          cases es with
          | nil => rfl
          | cons _ _ => cases h5
          | star _ _ => cases h5
        rw [e2]
        subst h6
        exact tv_tst kn (pe_mcall0F (pos := p2) m4 cl m2 m3 tk (pv_of kn.hN hsc h1) h4) rfl t
      | cons y ys =>
        obtain ⟨s1, s2⟩ := all_star h2
        refine tv_tst kn (pe_mcallF (pos := p2) m4 cl m2 m3 tk (pv_of kn.hN hsc h1) (snAs es sc (y :: ys) W X kn hsc tk h2 h5) s1 s2 (by rw [List.length_cons] at h3; omega) h4 (fun ρ as ρ' e => ?_)) rfl t
        have := len_As es _ sc h5 ρ as ρ' e
        rw [h6, this]
    · cases h0
  | .idf i f k, t, sc, e, W, X, kn, hsc, tk, h => by
    obtain ⟨x, p0, n, p1, y, p2, rfl, hh⟩ : ∃ x p0 n p1 y p2, e = .Subscript (.Attribute (.Name x p0) n p1) y p2 ∧ (okV tb sc i x && (decide (tb.fnm[f]? = some n) && (ixP y && okE tb false sc k y))) = true := by
      unfold okE at h
      split at h <;> first | exact ⟨_, _, _, _, _, _, rfl, h⟩ | exact absurd h Bool.false_ne_true | contradiction | (rename_i z; cases z; exact ⟨_, _, _, _, _, _, rfl, h⟩)
    simp only [Bool.and_eq_true, decide_eq_true_eq] at hh
    obtain ⟨h1, h2, h3, h4⟩ := hh
    have hk := pe_asD ((snE k false sc y W X kn hsc tk h4).1 rfl)
    rw [← kn.fl] at hk
    exact tv_tst kn (pe_idfF (g := g) (pos := p2) (p1 := p1) kn.hK kn.hu kn.cl rfl kn.fl (kn.fd f n h2).symm (pv_of (p := p0) kn.hN hsc h1) hk h3) rfl t
  | .inf ng k i f, t, sc, e, W, X, kn, hsc, tk, h => by
    obtain ⟨y, o, x, p0, n, p1, p2, rfl, hh⟩ : ∃ y o x p0 n p1 p2, e = .Compare y [o] [.Attribute (.Name x p0) n p1] p2 ∧ (decide (o = if ng = true then .NotIn else .In) && (okV tb sc i x && (decide (tb.fnm[f]? = some n) && okE tb false sc k y))) = true := by
      unfold okE at h
      split at h <;> first | exact ⟨_, _, _, _, _, _, _, rfl, h⟩ | exact absurd h Bool.false_ne_true | contradiction | (rename_i z; cases z; exact ⟨_, _, _, _, _, _, _, rfl, h⟩)
    simp only [Bool.and_eq_true, decide_eq_true_eq] at hh
    obtain ⟨rfl, h1, h2, h4⟩ := hh
    have hk := pe_asD ((snE k false sc y W X kn hsc tk h4).1 rfl)
    rw [← kn.fl] at hk
    refine ⟨fun _ => pe_infF (g := g) (pos := p2) (p1 := p1) kn.hK kn.hu kn.cl rfl kn.fl (kn.fd f n h2).symm (pv_of (p := p0) kn.hN hsc h1) hk, fun _ => ?_⟩
    have q := pt_infF (g := g) (ng := ng) (pos := p2) (p1 := p1) kn.hK kn.hu kn.cl rfl kn.fl (kn.fd f n h2).symm (pv_of (p := p0) kn.hN hsc h1) hk
    have e2 : tvM T.flds (evE g Φ (.inf ng k i f)) = fun ρ => (asD g.flds (evE g Φ k ρ)).bind fun kd ρ => match fldR g f (ρ.at i) with
      | some (_, _, _, .dct ks _) => if keyOk ks kd = true then .ok (ng ^^ (dFind ks kd).isSome) ρ else .stuck
      | _ => .stuck := by
      funext ρ
      unfold tvM
      show ((asD g.flds (evE g Φ k ρ)).bind _).bind _ = _
      rw [bind_asc]
      congr 1
      funext kd ρ
      cases z : fldR g f (ρ.at i) with
      | none => rfl
      | some p =>
        obtain ⟨c, rs, j, r⟩ := p
        cases r with
        | dct ks vs =>
          show (if keyOk ks kd = true then (Res.ok (R.val (.bl (ng ^^ (dFind ks kd).isSome))) ρ) else .stuck).bind _ = _
          by_cases ok : keyOk ks kd = true
          · rw [if_pos ok]
            show _ = if keyOk ks kd = true then _ else _
            rw [if_pos ok]; rfl
          · rw [if_neg ok]
            show _ = if keyOk ks kd = true then _ else _
            rw [if_neg ok]; rfl
        | _ => rfl
    rw [e2]; exact q
  | .lix a b, t, sc, e, W, X, kn, hsc, tk, h => by
    obtain ⟨x, n, p1, y, p2, rfl, hh⟩ : ∃ x n p1 y p2, e = .Call (.Attribute x n p1) [y] [] p2 ∧ (decide (n = "index") && (nc0 x && (p1.endLine == p2.line && (!Ex.star y && (okE tb false sc a x && okE tb false sc b y))))) = true := by
      unfold okE at h
      split at h <;> first | exact ⟨_, _, _, _, _, rfl, h⟩ | exact absurd h Bool.false_ne_true | contradiction | (rename_i z; cases z; exact ⟨_, _, _, _, _, rfl, h⟩)
    simp only [Bool.and_eq_true, decide_eq_true_eq, Bool.not_eq_true'] at hh
    obtain ⟨rfl, h1, h2, h3, h4, h5⟩ := hh
    have ha := pe_asD ((snE a false sc x W X kn hsc tk h4).1 rfl)
    have hb := pe_asD ((snE b false sc y W X kn hsc tk h5).1 rfl)
    rw [← kn.fl] at ha hb
    exact tv_tst kn (pe_lixF (apos := p1) (cpos := p2) kn.hK ha hb h3 h1 h2) rfl t
  | .gcd a b, t, sc, e, W, X, kn, hsc, tk, h => by
    obtain ⟨x, p0, y, z, p, rfl, hh⟩ : ∃ x p0 y z p, e = .Call (.Name x p0) [y, z] [] p ∧ (tb.hasG && (decide (x = "gcd") && (glB sc x && (!Ex.star y && (!Ex.star z && (okE tb false sc a y && okE tb false sc b z)))))) = true := by
      unfold okE at h
      split at h <;> first | exact ⟨_, _, _, _, _, rfl, h⟩ | exact absurd h Bool.false_ne_true | contradiction | (rename_i z; cases z; exact ⟨_, _, _, _, _, rfl, h⟩)
    simp only [Bool.and_eq_true, decide_eq_true_eq, Bool.not_eq_true'] at hh
    obtain ⟨h0, rfl, h1, h2, h3, h4, h5⟩ := hh
    have ha := pe_asD ((snE a false sc y W X kn hsc tk h4).1 rfl)
    have hb := pe_asD ((snE b false sc z W X kn hsc tk h5).1 rfl)
    rw [← kn.fl] at ha hb
    exact tv_tst kn (pe_gcdF (pos := p) (p := p0) (gl_of hsc h1) (kn.gc h0) ha hb h2 h3) rfl t
  | .frz i, t, sc, e, W, X, kn, hsc, tk, h => by
    cases e with
    | Name x p =>
      have e2 : evE g Φ (.frz i) = rdVar T.flds i := by rw [← kn.fl]; rfl
      rw [e2]
      exact tv_tst kn (pe_rd (pv_of kn.hN hsc h)) rfl t
    | _ => cases h
  | .fln i f, t, sc, e, W, X, kn, hsc, tk, h => by
    obtain ⟨y, p2, x, p0, n, p1, p, rfl, hh⟩ : ∃ y p2 x p0 n p1 p, e = .Call (.Name y p2) [.Attribute (.Name x p0) n p1] [] p ∧ (decide (y = "len") && (glB sc y && (okV tb sc i x && decide (tb.fnm[f]? = some n)))) = true := by
      unfold okE at h
      split at h <;> first | exact ⟨_, _, _, _, _, _, _, rfl, h⟩ | exact absurd h Bool.false_ne_true | contradiction | (rename_i z; cases z; exact ⟨_, _, _, _, _, _, _, rfl, h⟩)
    simp only [Bool.and_eq_true, decide_eq_true_eq] at hh
    obtain ⟨rfl, h1, h2, h3⟩ := hh
    exact tv_tst kn (pe_flnF (g := g) (p2 := p2) (p1 := p1) (pos := p) kn.hK kn.hc kn.hu kn.cl rfl kn.fl (kn.fd f n h3).symm (gl_of hsc h1) (kn.bt .len) (pv_of (p := p0) kn.hN hsc h2)) rfl t
  | .ftr i f, t, sc, e, W, X, kn, hsc, tk, h => by
    obtain ⟨x, p0, n, p1, rfl, hh⟩ : ∃ x p0 n p1, e = .Attribute (.Name x p0) n p1 ∧ (t && (okV tb sc i x && decide (tb.fnm[f]? = some n))) = true := by
      unfold okE at h
      split at h <;> first | exact ⟨_, _, _, _, rfl, h⟩ | exact absurd h Bool.false_ne_true | contradiction | (rename_i z; cases z; exact ⟨_, _, _, _, rfl, h⟩)
    simp only [Bool.and_eq_true, decide_eq_true_eq] at hh
    obtain ⟨h1, h2, h3⟩ := hh
    refine ⟨fun z => (by rw [h1] at z; cases z), fun _ => ?_⟩
    have q := pt_ftrF (W := W) (g := g) (p1 := p1) kn.hK kn.cl rfl kn.fl (kn.fd f n h3).symm (pv_of (p := p0) kn.hN hsc h2)
    have e2 : tvM T.flds (evE g Φ (.ftr i f)) = fun ρ => optR ((fldL g f (ρ.at i)).map fun ds => !ds.isEmpty) ρ := by
      funext ρ
      show (optR ((fldL g f (ρ.at i)).map fun ds => R.val (.bl (!ds.isEmpty))) ρ).bind _ = _
      cases fldL g f (ρ.at i) <;> rfl
    rw [e2]; exact q
  | .fpop i f, t, sc, e, W, X, kn, hsc, tk, h => by
    obtain ⟨x, p0, n, p1, m, p2, p, rfl, hh⟩ : ∃ x p0 n p1 m p2 p, e = .Call (.Attribute (.Attribute (.Name x p0) n p1) m p2) [] [] p ∧ (decide (m = "pop") && (p2.endLine == p.line && (okV tb sc i x && decide (tb.fnm[f]? = some n)))) = true := by
      unfold okE at h
      split at h <;> first | exact ⟨_, _, _, _, _, _, _, rfl, h⟩ | exact absurd h Bool.false_ne_true | contradiction | (rename_i z; cases z; exact ⟨_, _, _, _, _, _, _, rfl, h⟩)
    simp only [Bool.and_eq_true, decide_eq_true_eq] at hh
    obtain ⟨rfl, h1, h2, h3⟩ := hh
    exact tv_tst kn (pe_fpopF (g := g) (p1 := p1) (p2 := p2) (pos := p) kn.cl rfl kn.fl (kn.fd f n h3).symm (pv_of (p := p0) kn.hN hsc h2) h1) rfl t
  | .eqb i j, t, sc, e, W, X, kn, hsc, tk, h => by
    obtain ⟨x, p0, y, p1, p, rfl, hh⟩ : ∃ x p0 y p1 p, e = .Compare (.Name x p0) [.Eq] [.Name y p1] p ∧ (okV tb sc i x && okV tb sc j y) = true := by
      unfold okE at h
      split at h <;> first | exact ⟨_, _, _, _, _, rfl, h⟩ | exact absurd h Bool.false_ne_true | contradiction | (rename_i z; cases z; exact ⟨_, _, _, _, _, rfl, h⟩)
    simp only [Bool.and_eq_true] at hh
    refine ⟨fun _ => pe_eqbF (pos := p) kn.hu kn.ido (pv_of (p := p0) kn.hN hsc hh.1) (pv_of (p := p1) kn.hN hsc hh.2), fun _ => ?_⟩
    have q := pt_eqbF (W := W) (g := g) (pos := p) kn.hu kn.ido (pv_of (p := p0) kn.hN hsc hh.1) (pv_of (p := p1) kn.hN hsc hh.2)
    have e2 : tvM T.flds (evE g Φ (.eqb i j)) = fun ρ => match ρ.at i, ρ.at j with
      | some (.obj c _), some (.obj c' _) => if g.eqk c = false ∧ c < g.nc ∧ c' = c then .ok (decide (i = j)) ρ else .stuck
      | _, _ => .stuck := by
      funext ρ
      show (match ρ.at i, ρ.at j with
        | some (.obj c _), some (.obj c' _) => if g.eqk c = false ∧ c < g.nc ∧ c' = c then Res.ok (R.val (.bl (decide (i = j)))) ρ else .stuck
        | _, _ => .stuck).bind _ = _
      cases ρ.at i with
      | none => rfl
      | some r =>
        cases ρ.at j with
        | none => cases r <;> rfl
        | some r' =>
          cases r with
          | obj c rs =>
            cases r' with
            | obj c' rs' =>
              dsimp only
              split <;> rfl
            | _ => rfl
          | _ => cases r' <;> rfl
    rw [e2]; exact q
  | .eqt a b, t, sc, e, W, X, kn, hsc, tk, h => by
    obtain ⟨x, y, p, rfl, hh⟩ : ∃ x y p, e = .Compare x [.Eq] [y] p ∧ (!t && (!behindInMarks .Eq y && (okE tb false sc a x && okE tb false sc b y))) = true := by
      unfold okE at h
      split at h <;> first | exact ⟨_, _, _, rfl, h⟩ | exact absurd h Bool.false_ne_true | contradiction | (rename_i z; cases z; exact ⟨_, _, _, rfl, h⟩)
    simp only [Bool.and_eq_true, Bool.not_eq_true'] at hh
    obtain ⟨h0, h1, h2, h3⟩ := hh
    have ea := pe_asD ((snE a false sc x W X kn hsc tk h2).1 rfl)
    have eb := pe_asD ((snE b false sc y W X kn hsc tk h3).1 rfl)
    rw [← kn.fl] at ea eb
    exact ⟨fun _ => pe_eqtF (pos := p) kn.hK kn.hu kn.cl kn.eq ea eb h1, fun z => by rw [h0] at z; cases z⟩
  | .emk c a, t, sc, e, W, X, kn, hsc, tk, h => by
    obtain ⟨x, p0, y, p, rfl, hh⟩ : ∃ x p0 y p, e = .Call (.Name x p0) [y] [] p ∧ (decide (tb.xcs[c]? = some x) && (decide (c < tb.nx) && (!Ex.star y && (glB sc x && (dbgB x && okE tb false sc a y))))) = true := by
      unfold okE at h
      split at h <;> first | exact ⟨_, _, _, _, rfl, h⟩ | exact absurd h Bool.false_ne_true | contradiction | (rename_i z; cases z; exact ⟨_, _, _, _, rfl, h⟩)
    simp only [Bool.and_eq_true, decide_eq_true_eq, Bool.not_eq_true'] at hh
    obtain ⟨h1, h2, h3, h4, h5, h6⟩ := hh
    have ea := pe_asD ((snE a false sc y W X kn hsc tk h6).1 rfl)
    rw [← kn.fl] at ea
    exact tv_tst kn (pe_emkF (pos := p) (p := p0) tk (kn.xr c (by rw [← kn.nx]; exact h2)) (gl_of hsc h4) (kn.xm c x h1) ea h3 (dbg_of h5).1) rfl t
  | .eat a n, t, sc, e, W, X, kn, hsc, tk, h => by
    obtain ⟨x, m, p, rfl, hh⟩ : ∃ x m p, e = .Attribute x m p ∧ (decide (m = n) && (!Ex.isCall x && okE tb false sc a x)) = true := by
      unfold okE at h
      split at h <;> first | exact ⟨_, _, _, rfl, h⟩ | exact absurd h Bool.false_ne_true | contradiction | (rename_i z; cases z; exact ⟨_, _, _, rfl, h⟩)
    simp only [Bool.and_eq_true, decide_eq_true_eq, Bool.not_eq_true'] at hh
    obtain ⟨rfl, h2, h3⟩ := hh
    have ea := pe_asD ((snE a false sc x W X kn hsc tk h3).1 rfl)
    rw [← kn.fl] at ea
    exact tv_tst kn (pe_eatF (g := g) (pos := p) kn.xr kn.xf ea h2) rfl t
  | .isx a o, t, sc, e, W, X, kn, hsc, tk, h => by
    obtain ⟨x, p0, y, z, p1, p, rfl, hh⟩ : ∃ x p0 y z p1 p, e = .Call (.Name x p0) [y, .Name z p1] [] p ∧ (tb.hasX && (decide (x = "isinstance") && (glB sc x && (!Ex.star y && (glB sc z && (dbgB z && (xnmB tb o z && okE tb false sc a y))))))) = true := by
      unfold okE at h
      split at h <;> first | exact ⟨_, _, _, _, _, _, rfl, h⟩ | exact absurd h Bool.false_ne_true | contradiction | (rename_i z; cases z; exact ⟨_, _, _, _, _, _, rfl, h⟩)
    simp only [Bool.and_eq_true, decide_eq_true_eq, Bool.not_eq_true'] at hh
    obtain ⟨h0, rfl, h2, h3, h4, h5, h6, h7⟩ := hh
    obtain ⟨hv, hx⟩ := kn.hx h0
    have ea := pe_asD ((snE a false sc y W X kn hsc tk h7).1 rfl)
    rw [← kn.fl] at ea
    refine tv_tst kn (pe_isxF (g := g) (t := .Name z p1) (o := o) (pos := p) (p := p0) hx (gl_of hsc h2) kn.bi ea ?_ (fun c e => ?_) h3 rfl) rfl t
    · cases o with
      | none =>
        obtain rfl := of_decide_eq_true h6
        exact pe_bltn (gl_of hsc h4) hv PyProof.Rows.Boot.«ValueError» rfl (by decide +kernel) (by decide +kernel)
      | some c => exact pe_glob (gl_of hsc h4) (kn.xm c z (of_decide_eq_true h6)) rfl (dbg_of h5).1
    · subst e
      exact (List.getElem?_eq_some_iff.mp (of_decide_eq_true h6)).1
  | .isi a it, t, sc, e, W, X, kn, hsc, tk, h => by
    cases e with
    | Call fe l kw p =>
      cases fe with
      | Name x p0 =>
        obtain ⟨y, z, rfl, rfl, hh⟩ : ∃ y z, l = [y, z] ∧ kw = [] ∧ (decide (x = "isinstance") && (glB sc x && (!Ex.star y && (!Ex.star z && (okE tb false sc a y && okIs tb sc it z))))) = true := by
          cases l with
          | nil => cases h
          | cons y l =>
            cases l with
            | nil => cases h
            | cons z l =>
              cases l with
              | cons _ _ => cases h
              | nil =>
                cases kw with
                | cons _ _ => cases h
                | nil => exact ⟨y, z, rfl, rfl, h⟩
        simp only [Bool.and_eq_true, decide_eq_true_eq, Bool.not_eq_true'] at hh
        obtain ⟨rfl, h1, h2, h3, h4, h5⟩ := hh
        obtain ⟨i1, i2⟩ := is_of kn hsc h5
        have q := pe_isiF (pos := p) (p := p0) kn.hK kn.cl (gl_of hsc h1) kn.bi (ar_of kn hsc h4 ((snE a false sc y W X kn hsc tk h4).1 rfl)) i1 i2 h2 h3
        rw [← kn.fl] at q
        exact tv_tst kn q rfl t
      | _ => cases h
    | _ => cases h
  | .dnew, t, sc, e, W, X, kn, hsc, tk, h => by
    obtain ⟨p, rfl, ht⟩ : ∃ p, e = .Dict [] [] p ∧ (!t) = true := by
      unfold okE at h
      split at h <;> first | exact ⟨_, rfl, h⟩ | exact absurd h Bool.false_ne_true | contradiction | (rename_i z; cases z; exact ⟨_, rfl, h⟩)
    refine ⟨fun _ => pe_dnewF, fun z => ?_⟩
    rw [z] at ht
    cases ht
  | .srts a, t, sc, e, W, X, kn, hsc, tk, h => by
    obtain ⟨x, p1, y, p2, e1, p3, p4, rfl, hh⟩ : ∃ x p1 y p2 e1 p3 p4, e = .Call (.Name x p1) [.Call (.Name y p2) [e1] [] p3] [] p4 ∧ (decide (x = "sorted") && (decide (y = "set") && (glB sc x && (glB sc y && (!Ex.star e1 && okE tb false sc a e1))))) = true := by
      unfold okE at h
      split at h <;> first | exact ⟨_, _, _, _, _, _, _, rfl, h⟩ | exact absurd h Bool.false_ne_true | contradiction | (rename_i z; cases z; exact ⟨_, _, _, _, _, _, _, rfl, h⟩)
    simp only [Bool.and_eq_true, decide_eq_true_eq, Bool.not_eq_true'] at hh
    obtain ⟨rfl, rfl, h1, h2, h3, h4⟩ := hh
    have ea := pe_asD ((snE a false sc e1 W X kn hsc tk h4).1 rfl)
    rw [← kn.fl] at ea
    exact tv_tst kn (pe_srtsF (p1 := p1) (p2 := p2) (p3 := p3) (p4 := p4) kn.hK kn.hc (gl_of hsc h1) (kn.bt .sorted) (gl_of hsc h2) (kn.fr _ (by simp [frees])) ea h3) rfl t
  | .comp elt own tg src c, t, sc, e, W, X, kn, hsc, tk, h => by
    obtain ⟨el, tgE, iter, ifs, scope, p, rfl, hh⟩ : ∃ el tgE iter ifs scope p, e = .ListComp el [⟨tgE, iter, ifs, 0⟩] scope p ∧ (blkC tb.N sc scope (ownP tb own) && (decide own.Nodup && (decide (∀ i ∈ own, i < tb.N.length) && (decide (∀ i ∈ tg.slots, i ∈ own) && (okTg tb scope tg tgE && (!Ex.isSet iter && (okI tb sc src tgE iter && (okF tb (relS scope sc) c ifs && okE tb false (relS scope sc) elt el)))))))) = true := by
      unfold okE at h
      split at h <;> first | exact ⟨_, _, _, _, _, _, rfl, h⟩ | exact absurd h Bool.false_ne_true | contradiction | (rename_i z; cases z; exact ⟨_, _, _, _, _, _, rfl, h⟩)
    simp only [Bool.and_eq_true, decide_eq_true_eq, Bool.not_eq_true'] at hh
    obtain ⟨h1, h2, h3, h4, h5, h6, h7, h8, h9⟩ := hh
    have em : (ownP tb own).map (·.2) = own := own_map
    have blk := blkOk_by h1
    rw [← hsc, ← kn.hN] at blk
    have q := pe_lcF (T := T) (W := W) (X := X) (elt := el) (tg := tgE) (iter := iter) (ifs := ifs) (scope := scope) (own := ownP tb own) (pos := p) (it := tg) (src := evI g Φ src) (c := evC g Φ c) (el := fun ρ => asD g.flds (evE g Φ elt ρ)) kn.hc kn.hK kn.nd (snI src sc tgE iter W X kn hsc tk h7) blk (by rw [em]; exact h2) (by rw [em, kn.hN]; exact h3) (by rw [em]; exact h4)
      (fun s H C cl fp => pg_of (X := X.blk s H scope (compEnvC scope cl C X.env) fp) kn.hN kn.nd kn.hc st_blk h5)
      (fun s H C cl fp => snF c (relS scope sc) ifs W0 (X.blk s H scope (compEnvC scope cl C X.env) fp) kn.blk (by rw [← hsc]; rfl) takes_none5 h8)
      (fun s H C cl fp => by
        have q := pe_asD ((snE elt false (relS scope sc) el W0 (X.blk s H scope (compEnvC scope cl C X.env) fp) kn.blk (by rw [← hsc]; rfl) takes_none5 h9).1 rfl)
        rw [← kn.fl] at q
        exact q) h6
    rw [em] at q
    exact tv_tst kn q rfl t
  | .compd i elt own tg c, t, sc, e, W, X, kn, hsc, tk, h => by
    obtain ⟨el, tgE, x, px, ifs, scope, p, rfl, hh⟩ : ∃ el tgE x px ifs scope p, e = .ListComp el [⟨tgE, .Name x px, ifs, 0⟩] scope p ∧ (okV tb sc i x && (blkC tb.N sc scope (ownP tb own) && (decide own.Nodup && (decide (∀ i ∈ own, i < tb.N.length) && (decide (∀ i ∈ tg.slots, i ∈ own) && (okTg tb scope tg tgE && (okF tb (relS scope sc) c ifs && okE tb false (relS scope sc) elt el))))))) = true := by
      unfold okE at h
      split at h <;> first | exact ⟨_, _, _, _, _, _, _, rfl, h⟩ | exact absurd h Bool.false_ne_true | contradiction | (rename_i z; cases z; exact ⟨_, _, _, _, _, _, _, rfl, h⟩)
    simp only [Bool.and_eq_true, decide_eq_true_eq, Bool.not_eq_true'] at hh
    obtain ⟨h0, h1, h2, h3, h4, h5, h8, h9⟩ := hh
    have em : (ownP tb own).map (·.2) = own := own_map
    have blk := blkOk_by h1
    rw [← hsc, ← kn.hN] at blk
    have hi : i < X.N.length := by
      have h0' := h0
      unfold okV at h0'
      simp only [Bool.and_eq_true, decide_eq_true_eq] at h0'
      rw [kn.hN]
      exact (List.getElem?_eq_some_iff.mp h0'.1).1
    have q := pe_lcdF (T := T) (W := W) (X := X) (elt := el) (tg := tgE) (ifs := ifs) (scope := scope) (own := ownP tb own) (pos := p) (it := tg) (i := i) (c := evC g Φ c) (el := fun ρ => asD g.flds (evE g Φ elt ρ)) kn.hc kn.hK kn.nd (pv_of (p := px) kn.hN hsc h0) hi blk (by rw [em]; exact h2) (by rw [em, kn.hN]; exact h3) (by rw [em]; exact h4)
      (fun s H C cl fp => pg_of (X := X.blk s H scope (compEnvC scope cl C X.env) fp) kn.hN kn.nd kn.hc st_blk h5)
      (fun s H C cl fp => snF c (relS scope sc) ifs W0 (X.blk s H scope (compEnvC scope cl C X.env) fp) kn.blk (by rw [← hsc]; rfl) takes_none5 h8)
      (fun s H C cl fp => by
        have q := pe_asD ((snE elt false (relS scope sc) el W0 (X.blk s H scope (compEnvC scope cl C X.env) fp) kn.blk (by rw [← hsc]; rfl) takes_none5 h9).1 rfl)
        rw [← kn.fl] at q
        exact q)
    rw [em] at q
    exact tv_tst kn q rfl t
  | .comp2 elt own own1 tg src tg1 src1 c, t, sc, e, W, X, kn, hsc, tk, h => by
    obtain ⟨el, tgE, iter, tgE1, iter1, ifs, scope, p, rfl, hh⟩ : ∃ el tgE iter tgE1 iter1 ifs1 scope p, e = .ListComp el [⟨tgE, iter, [], 0⟩, ⟨tgE1, iter1, ifs1, 0⟩] scope p ∧ (blkC tb.N sc scope (ownP tb own) && (decide own.Nodup && (decide own1.Nodup && (decide (∀ i ∈ own1, i ∈ own) && (decide (∀ i ∈ own, i < tb.N.length) && (decide (∀ i ∈ tg.slots, i ∈ own) && (decide (∀ i ∈ tg1.slots, i ∈ own1) &&
      (okTg tb scope tg tgE && (okTg tb scope tg1 tgE1 && (!Ex.isSet iter && (!Ex.isSet iter1 && (okI tb sc src tgE iter && (okI tb (relS scope sc) src1 tgE1 iter1 && (okF tb (relS scope sc) c ifs1 && okE tb false (relS scope sc) elt el)))))))))))))) = true := by
      unfold okE at h
      split at h <;> first | exact ⟨_, _, _, _, _, _, _, _, rfl, h⟩ | exact absurd h Bool.false_ne_true | contradiction | (rename_i z; cases z; exact ⟨_, _, _, _, _, _, _, _, rfl, h⟩)
    simp only [Bool.and_eq_true, decide_eq_true_eq, Bool.not_eq_true'] at hh
    obtain ⟨h1, h2, h2', hv, h3, h4, h4', h5, h5', h6, h6', h7, h7', h8, h9⟩ := hh
    have em : (ownP tb own).map (·.2) = own := own_map
    have blk := blkOk_by h1
    rw [← hsc, ← kn.hN] at blk
    have q := pe_lc2F (T := T) (W := W) (X := X) (elt := el) (tg := tgE) (iter := iter) (tg1 := tgE1) (iter1 := iter1) (ifs1 := ifs) (scope := scope) (own := ownP tb own) (vs1 := own1) (pos := p) (it := tg) (it1 := tg1) (src := evI g Φ src) (src1 := evI g Φ src1) (c := evC g Φ c) (el := fun ρ => asD g.flds (evE g Φ elt ρ)) kn.hc kn.hK kn.nd (snI src sc tgE iter W X kn hsc tk h7) blk (by rw [em]; exact h2) (by rw [em, kn.hN]; exact h3) (by rw [em]; exact hv) h2' (by rw [em]; exact h4) h4'
      (fun s H C cl fp => pg_of (X := X.blk s H scope (compEnvC scope cl C X.env) fp) kn.hN kn.nd kn.hc st_blk h5)
      (fun s H C cl fp => snI src1 (relS scope sc) tgE1 iter1 W0 (X.blk s H scope (compEnvC scope cl C X.env) fp) kn.blk (by rw [← hsc]; rfl) takes_none5 h7')
      (fun s H C cl fp => pg_of (X := X.blk s H scope (compEnvC scope cl C X.env) fp) kn.hN kn.nd kn.hc st_blk h5')
      (fun s H C cl fp => snF c (relS scope sc) ifs W0 (X.blk s H scope (compEnvC scope cl C X.env) fp) kn.blk (by rw [← hsc]; rfl) takes_none5 h8)
      (fun s H C cl fp => by
        have q := pe_asD ((snE elt false (relS scope sc) el W0 (X.blk s H scope (compEnvC scope cl C X.env) fp) kn.blk (by rw [← hsc]; rfl) takes_none5 h9).1 rfl)
        rw [← kn.fl] at q
        exact q) h6 h6'
    rw [em] at q
    exact tv_tst kn q rfl t
theorem snO : ∀ (io : IO) (sc : Scope) (o : Option Expr) (W : WX) (X : Cx), Kn T g Φ tb X → X.env.scope = sc → Takes X W → okO tb sc io o = true → PO X o (tO T W (evO g Φ io))
  | .non, sc, o, W, X, kn, hsc, tk, h => by
    cases o with
    | none => exact po_noneF
    | some _ => cases h
  | .som ie, sc, o, W, X, kn, hsc, tk, h => by
    cases o with
    | none => cases h
    | some e =>
      have h : okE tb false sc ie e = true := h
      have q := po_someF (pe_asD ((snE ie false sc e W X kn hsc tk h).1 rfl))
      rw [← kn.fl] at q
      exact q
theorem snF : ∀ (io : IO) (sc : Scope) (l : List Expr) (W : WX) (X : Cx), Kn T g Φ tb X → X.env.scope = sc → Takes X W → okF tb sc io l = true → PTs X l (tT T W (evC g Φ io))
  | .non, sc, l, W, X, kn, hsc, tk, h => by
    cases l with
    | nil => exact pts_nilF
    | cons _ _ => cases h
  | .som ie, sc, l, W, X, kn, hsc, tk, h => by
    cases l with
    | nil => cases h
    | cons e l =>
      cases l with
      | cons _ _ => cases h
      | nil =>
        have h : okE tb true sc ie e = true := h
        exact pts_one (pt_teE kn hsc h ((snE ie true sc e W X kn hsc tk h).2 rfl))
theorem snDs : ∀ (es : IEs) (sc : Scope) (l : List Expr) (W : WX) (X : Cx), Kn T g Φ tb X → X.env.scope = sc → Takes X W → okEs tb false sc es l = true → PA X l (tDs T W (evDs g Φ es))
  | .nil, sc, l, W, X, kn, hsc, tk, h => by
    cases l with
    | nil => exact pa_nilF
    | cons _ _ => cases h
  | .star ie es, sc, l, W, X, kn, hsc, tk, h => by
    cases l with
    | nil => cases h
    | cons e l =>
      cases e with
      | Starred x p =>
        have h : (okE tb false sc ie x && okEs tb false sc es l) = true := h
        simp only [Bool.and_eq_true] at h
        have q := pa_starF (p := p) kn.hK (pe_asD ((snE ie false sc x W X kn hsc tk h.1).1 rfl)) (snDs es sc l W X kn hsc tk h.2)
        rw [← kn.fl] at q
        exact q
      | _ => cases h
  | .cons ie es, sc, l, W, X, kn, hsc, tk, h => by
    cases l with
    | nil => cases h
    | cons e l =>
      have h : (okE tb false sc ie e && okEs tb false sc es l) = true := h
      simp only [Bool.and_eq_true] at h
      have q := pa_consF (pe_asD ((snE ie false sc e W X kn hsc tk h.1).1 rfl)) (snDs es sc l W X kn hsc tk h.2) (ok_star h.1)
      rw [← kn.fl] at q
      exact q
theorem snAs : ∀ (es : IEs) (sc : Scope) (l : List Expr) (W : WX) (X : Cx), Kn T g Φ tb X → X.env.scope = sc → Takes X W → noStar l = true → okEs tb false sc es l = true → PA X l (tAs T W (evAs g Φ es))
  | .nil, sc, l, W, X, kn, hsc, tk, hn, h => by
    cases l with
    | nil => exact pa_nilA
    | cons _ _ => cases h
  | .star _ _, sc, l, W, X, kn, hsc, tk, hn, h => pa_any
  | .cons ie es, sc, l, W, X, kn, hsc, tk, hn, h => by
    cases l with
    | nil => cases h
    | cons e l =>
      have h : (okE tb false sc ie e && okEs tb false sc es l) = true := h
      simp only [Bool.and_eq_true] at h
      obtain ⟨s1, s2⟩ := all_star hn
      exact pa_consA (ar_of kn hsc h.1 ((snE ie false sc e W X kn hsc tk h.1).1 rfl)) (snAs es sc l W X kn hsc tk s2 h.2) s1
theorem snB : ∀ (es : IEs) (isAnd t : Bool) (sc : Scope) (l : List Expr) (p : Pos) (W : WX) (X : Cx), Kn T g Φ tb X → X.env.scope = sc → Takes X W → 2 ≤ l.length → okEs tb t sc es l = true → SnW T W X t (.BoolOp (if isAnd = true then .And else .Or) l p) (evB g Φ isAnd es)
  | .nil, _, _, _, l, _, _, _, _, _, _, h0, h => by
    cases l with
    | nil => simp at h0
    | cons _ _ => cases h
  | .cons ie .nil, _, _, _, l, _, _, _, _, _, _, h0, h => by
    cases l with
    | nil => simp at h0
    | cons e l =>
      cases l with
      | nil => simp at h0
      | cons e2 l =>
        have h := (Bool.and_eq_true_iff.mp (show (_ && okEs tb _ _ .nil (e2 :: l)) = true from h)).2
        cases h
  | .star _ _, _, _, _, _, _, _, _, _, _, _, _, _ => snw_any
  | .cons _ (.star _ _), _, _, _, _, _, _, _, _, _, _, _, _ => snw_any
  | .cons ie (.cons ie2 (.star _ _)), isAnd, t, sc, l, p, W, X, kn, hsc, tk, h0, h => by
    cases l with
    | nil => cases h
    | cons e l =>
      cases l with
      | nil => simp at h0
      | cons e2 l =>
        have h := Bool.and_eq_true_iff.mp (show (okE tb t sc ie e && okEs tb t sc (.cons ie2 (.star _ _)) (e2 :: l)) = true from h)
        have q1 := snE ie t sc e W X kn hsc tk h.1
        cases t with
        | false =>
          refine ⟨fun _ => ?_, fun z => by cases z⟩
          have q := pe_bopF (isAnd := isAnd) (pos := p) kn.hK (pe_asD (q1.1 rfl)) (r := fun _ => .stuck) (rest := l) (b := e2) pe_any
          rw [← kn.fl] at q
          exact q
        | true =>
          refine ⟨fun z => (by cases z), fun _ => ?_⟩
          have q := (pw_bopF (isAnd := isAnd) (pos := p) (rest := l) (b := e2) (q1.2 rfl) (r := tvM T.flds fun _ => .stuck) pw_any)
          rw [← restB_as, ← kn.fl] at q
          rw [← kn.fl]
          exact q
  | .cons ie (.cons ie2 .nil), isAnd, t, sc, l, p, W, X, kn, hsc, tk, h0, h => by
    cases l with
    | nil => cases h
    | cons e l =>
      cases l with
      | nil => simp at h0
      | cons e2 l =>
        cases l with
        | cons e3 l =>
          have h := (Bool.and_eq_true_iff.mp (show (_ && okEs tb _ _ (.cons ie2 .nil) (e2 :: e3 :: l)) = true from h)).2
          have h := (Bool.and_eq_true_iff.mp (show (_ && okEs tb _ _ .nil (e3 :: l)) = true from h)).2
          cases h
        | nil =>
          have h : (okE tb t sc ie e && (okE tb t sc ie2 e2 && true)) = true := h
          simp only [Bool.and_eq_true, and_true] at h
          have q1 := snE ie t sc e W X kn hsc tk h.1
          have q2 := snE ie2 t sc e2 W X kn hsc tk h.2
          cases t with
          | false =>
            refine ⟨fun _ => ?_, fun z => by cases z⟩
            have q := pe_bopF (isAnd := isAnd) (pos := p) kn.hK (pe_asD (q1.1 rfl)) (pe_one (q2.1 rfl))
            rw [← kn.fl] at q
            exact q
          | true =>
            refine ⟨fun z => (by cases z), fun _ => ?_⟩
            have q := (pw_bopF (isAnd := isAnd) (pos := p) (q1.2 rfl) (pw_bop1 (isAnd := isAnd) (pos := p) (q2.2 rfl)))
            rw [← restB_as, ← kn.fl] at q
            rw [← kn.fl]
            exact q
  | .cons ie (.cons ie2 (.cons ie3 es)), isAnd, t, sc, l, p, W, X, kn, hsc, tk, h0, h => by
    cases l with
    | nil => cases h
    | cons e l =>
      cases l with
      | nil => simp at h0
      | cons e2 l =>
        have h := Bool.and_eq_true_iff.mp (show (okE tb t sc ie e && okEs tb t sc (.cons ie2 (.cons ie3 es)) (e2 :: l)) = true from h)
        have h0' : 2 ≤ (e2 :: l).length := by
          cases l with
          | nil =>
            have h2 := (Bool.and_eq_true_iff.mp (show (_ && okEs tb t sc (.cons ie3 es) []) = true from h.2)).2
            cases h2
          | cons _ _ => simp
        have q1 := snE ie t sc e W X kn hsc tk h.1
        have q2 := snB (.cons ie2 (.cons ie3 es)) isAnd t sc (e2 :: l) p W X kn hsc tk h0' h.2
        cases t with
        | false =>
          refine ⟨fun _ => ?_, fun z => by cases z⟩
          have q := pe_bopF (isAnd := isAnd) (pos := p) kn.hK (pe_asD (q1.1 rfl)) (q2.1 rfl)
          rw [← kn.fl] at q
          exact q
        | true =>
          refine ⟨fun z => (by cases z), fun _ => ?_⟩
          have q := (pw_bopF (isAnd := isAnd) (pos := p) (q1.2 rfl) (q2.2 rfl))
          rw [← restB_as, ← kn.fl] at q
          rw [← kn.fl]
          exact q
theorem snI : ∀ (ii : II) (sc : Scope) (tgE e : Expr) (W : WX) (X : Cx), Kn T g Φ tb X → X.env.scope = sc → Takes X W → okI tb sc ii tgE e = true → PI X tgE e (tIt T W (evI g Φ ii))
  | .seq ie, sc, tgE, e, W, X, kn, hsc, tk, h => by
    have h : okE tb false sc ie e = true := h
    have q := pi_seqF (tg := tgE) kn.hK (pe_asD ((snE ie false sc e W X kn hsc tk h).1 rfl))
    rw [← kn.fl] at q
    exact q
  | .enum a, sc, tgE, e, W, X, kn, hsc, tk, h => by
    obtain ⟨l, k, p0, x, p1, e1, p2, rfl, rfl, hh⟩ : ∃ l k p0 x p1 e1 p2, tgE = .Tuple l k p0 ∧ e = .Call (.Name x p1) [e1] [] p2 ∧ (decide (x = "enumerate") && (glB sc x && (!Ex.star e1 && okE tb false sc a e1))) = true := by
      unfold okI at h
      split at h <;> first | exact ⟨_, _, _, _, _, _, _, rfl, rfl, h⟩ | exact absurd h Bool.false_ne_true | contradiction | (injections; subst_vars; exact ⟨_, _, _, _, _, _, _, rfl, rfl, h⟩)
    simp only [Bool.and_eq_true, decide_eq_true_eq, Bool.not_eq_true'] at hh
    obtain ⟨rfl, h1, h2, h3⟩ := hh
    have ea := pe_asD ((snE a false sc e1 W X kn hsc tk h3).1 rfl)
    rw [← kn.fl] at ea
    exact pi_enumF kn.hK (gl_of hsc h1) (kn.fr _ (by simp [frees])) ea h2
  | .zip a b, sc, tgE, e, W, X, kn, hsc, tk, h => by
    obtain ⟨l, k, p0, x, p1, e1, e2, p2, rfl, rfl, hh⟩ : ∃ l k p0 x p1 e1 e2 p2, tgE = .Tuple l k p0 ∧ e = .Call (.Name x p1) [e1, e2] [] p2 ∧ (decide (x = "zip") && (glB sc x && (!Ex.star e1 && (!Ex.star e2 && (okE tb false sc a e1 && okE tb false sc b e2))))) = true := by
      unfold okI at h
      split at h <;> first | exact ⟨_, _, _, _, _, _, _, _, rfl, rfl, h⟩ | exact absurd h Bool.false_ne_true | contradiction | (injections; subst_vars; exact ⟨_, _, _, _, _, _, _, _, rfl, rfl, h⟩)
    simp only [Bool.and_eq_true, decide_eq_true_eq, Bool.not_eq_true'] at hh
    obtain ⟨rfl, h1, h2, h3, h4, h5⟩ := hh
    have ea := pe_asD ((snE a false sc e1 W X kn hsc tk h4).1 rfl)
    have eb := pe_asD ((snE b false sc e2 W X kn hsc tk h5).1 rfl)
    rw [← kn.fl] at ea eb
    exact pi_zipF (x := "zip") kn.hK (gl_of hsc h1) (kn.fr _ (by simp [frees])) ea eb h2 h3
  | .items a, sc, tgE, e, W, X, kn, hsc, tk, h => by
    obtain ⟨l, k, p0, e1, m, p1, p2, rfl, rfl, hh⟩ : ∃ l k p0 e1 m p1 p2, tgE = .Tuple l k p0 ∧ e = .Call (.Attribute e1 m p1) [] [] p2 ∧ (decide (m = "items") && (!Ex.isCall e1 && (p1.endLine == p2.line && okE tb false sc a e1))) = true := by
      unfold okI at h
      split at h <;> first | exact ⟨_, _, _, _, _, _, _, rfl, rfl, h⟩ | exact absurd h Bool.false_ne_true | contradiction | (injections; subst_vars; exact ⟨_, _, _, _, _, _, _, rfl, rfl, h⟩)
    simp only [Bool.and_eq_true, decide_eq_true_eq, Bool.not_eq_true'] at hh
    obtain ⟨rfl, h1, h2, h3⟩ := hh
    have ea := pe_asD ((snE a false sc e1 W X kn hsc tk h3).1 rfl)
    rw [← kn.fl] at ea
    exact pi_itemsF ea h1 h2
end
end Fx
end
section
set_option linter.all false
set_option Elab.async false
set_option maxRecDepth 100000
set_option maxHeartbeats 4000000
/-! The check of a statement is sound. -/
namespace Fx
open PySem PySem.Spec L2
variable {T : Nm} {g : G} {Φ : Fn} {tb : Tb} {wr : List Nat}
/-- a def's body, or what stands in a try -/
structure Bd (X : Cx) (sc : Scope) : Prop where
  sc_ : X.env.scope = sc
  hs : X.stack = X.env :: X.outer
  hf : X.env.frame = some X.env.locals
  fn : ∀ x, X.fn x = true
  kd : X.env.scope.kind = .function
theorem Bd.tr {X : Cx} {sc : Scope} {pn : List (Addr × Obj)} {xe : Value → Shared → Prop} (b : Bd X sc) : Bd (X.tr pn xe) sc := ⟨b.sc_, b.hs, b.hf, b.fn, b.kd⟩
theorem st_def {X : Cx} {sc : Scope} (b : Bd X sc) : ∀ x, stB sc x = true → Loc X.env.scope x ∧ (X.fn x = true ∨ X.env.scope.names.lookup x = some .local) := by
  intro x h
  unfold stB at h
  rw [b.sc_]
  split at h
  · exact ⟨.inl (by assumption), .inl (b.fn x)⟩
  · exact ⟨.inr (by assumption), .inl (b.fn x)⟩
  · cases h
theorem sw_eq {elt : Expr} {gs : List Comprehension} {scope : Scope} {pos py : Pos} {y : Str} {l : Nat} {env : PySem.Env} {sc : Scope} (hsc : env.scope = sc) (hk : env.scope.kind = .function) :
    swapsWith (.ListComp elt gs scope pos) (some (.Name y py)) l env = pure (swB sc y py (.ListComp elt gs scope pos)) := by
  have hb : env.blockKind = .function := by unfold Env.blockKind; rw [hk]; rfl
  have ky : env.kindOf y = sc.names.lookup y := by rw [← hsc]; rfl
  unfold swapsWith swB
  simp only [hb, ky, Expr.pos]
  show (pure (true && (sc.names.lookup y == some NameKind.local) && (py.line == pos.line) && !(scope.names.any fun (n, k) => n == y && (k == .local || k == .cell))) : Sem Bool) = _
  congr 1
  rw [Bool.true_and, Bool.and_assoc]
  congr 1
  cases sc.names.lookup y with
  | none => rfl
  | some k => cases k <;> rfl
theorem sw_any {v : Expr} {py : Pos} {y : Str} {l : Nat} {env : PySem.Env} {sc : Scope} (hsc : env.scope = sc) (hk : env.scope.kind = .function) (h : Ex.compr v = false ∨ ∃ elt gs scope pos, v = .ListComp elt gs scope pos) :
    swapsWith v (some (.Name y py)) l env = pure (swB sc y py v) := by
  rcases h with h | ⟨elt, gs, scope, pos, rfl⟩
  · rw [swaps_plain h]
    cases v <;> first | rfl | cases h
  · exact sw_eq hsc hk
theorem ps_asgW {W : WX} {X : Cx} {i : Nat} {x : Str} {pos' pos : Pos} {e : Expr} {m : Env → Res R} (hw : i ∈ wr) (hN : X.N.Nodup) (hi : X.N[i]? = some x) (hx : Loc X.env.scope x) (hf : X.fn x = true) (he : PE X e (tM T W m)) (hc : swapsWith e (some (.Name x pos')) pos.line X.env = pure false) :
    PS X (.Assign [.Name x pos'] e pos) (tS T W wr fun ρ => (m ρ).thn fun r ρ => .nx (ρ.set i (some r))) :=
  (ps_set hN hi hx he hc (.inl hf)).impL fun D σ H hl q => asg_imp hw (by rw [hl]; exact (List.getElem?_eq_some_iff.mp hi).1) q
/-- name = [..], stored at once -/
theorem ps_asgC {W : WX} {X : Cx} {sc : Scope} {i : Nat} {x : Str} {pos' pos : Pos} {ie : IE} {elt : Expr} {gs : List Comprehension} {scope : Scope} {p : Pos} (kn : Kn T g Φ tb X) (b : Bd X sc) (tk : Takes X W) (hw : i ∈ wr) (hi : X.N[i]? = some x)
    (hcd : isCd ie = false) (h : okE tb false sc ie (.ListComp elt gs scope p) = true) (hsw : swB sc x pos' (.ListComp elt gs scope p) = true) :
    PS X (.Assign [.Name x pos'] (.ListComp elt gs scope p) pos) (tS T W wr fun ρ => (evE g Φ ie ρ).thn fun r ρ => .nx (ρ.set i (some r))) := by
  have hsc := b.sc_
  have hyl : X.env.scope.names.lookup x = some .local := by
    unfold swB at hsw
    rw [hsc]
    exact of_decide_eq_true (Bool.and_eq_true_iff.mp hsw).1
  have swt : swapsWith (.ListComp elt gs scope p) (some (.Name x pos')) pos.line X.env = pure true := by rw [sw_eq hsc b.kd, hsw]
  cases ie with
  | comp el own tg src c =>
    obtain ⟨tgE, iter, ifs, rfl, hh⟩ : ∃ tgE iter ifs, gs = [⟨tgE, iter, ifs, 0⟩] ∧ (blkC tb.N sc scope (ownP tb own) && (decide own.Nodup && (decide (∀ i ∈ own, i < tb.N.length) && (decide (∀ i ∈ tg.slots, i ∈ own) && (okTg tb scope tg tgE && (!Ex.isSet iter && (okI tb sc src tgE iter && (okF tb (relS scope sc) c ifs && okE tb false (relS scope sc) el elt)))))))) = true := by
      generalize he : (Expr.ListComp elt gs scope p) = e at h
      unfold okE at h
      split at h <;> first | (cases he; exact ⟨_, _, _, rfl, h⟩) | exact absurd h Bool.false_ne_true | contradiction | (rename_i z; cases z; cases he; exact ⟨_, _, _, rfl, h⟩)
    simp only [Bool.and_eq_true, decide_eq_true_eq, Bool.not_eq_true'] at hh
    obtain ⟨h1, h2, h3, h4, h5, h6, h7, h8, h9⟩ := hh
    have em : (ownP tb own).map (·.2) = own := own_map
    have blk := blkOk_by h1
    rw [← hsc, ← kn.hN] at blk
    have q := ps_setLc (X := X) (pos := p) (spos := pos) (py := pos') (own := ownP tb own) (g := tg.rd X.K) (tt := tT T W0 (evC g Φ c)) (te := tD T W0 fun ρ => asD g.flds (evE g Φ el ρ)) kn.hc kn.nd hi hyl swt (snI src sc tgE iter W X kn hsc tk h7) blk
      (fun s H C cl fp => pg_of (X := X.blk s H scope (compEnvC scope cl C X.env) fp) kn.hN kn.nd kn.hc st_blk h5)
      (fun s H C cl fp => snF c (relS scope sc) ifs W0 (X.blk s H scope (compEnvC scope cl C X.env) fp) kn.blk (by rw [← hsc]; rfl) takes_none5 h8)
      (fun s H C cl fp => by
        have q := pe_asD ((snE el false (relS scope sc) elt W0 (X.blk s H scope (compEnvC scope cl C X.env) fp) kn.blk (by rw [← hsc]; rfl) takes_none5 h9).1 rfl)
        rw [← kn.fl] at q
        exact q) (fold_plain h6)
    refine q.impL fun D σ H hl q => lc_imp kn.hK.1 (by rw [em]; exact h2) (n := X.N.length) (by rw [em, kn.hN]; exact h3) (by rw [em]; exact h4) hl ?_
    rw [em]
    exact asg_imp hw (by rw [hl]; exact (List.getElem?_eq_some_iff.mp hi).1) q
  | comp2 el own own1 tg src tg1 src1 c =>
    obtain ⟨tgE, iter, tgE1, iter1, ifs, rfl, hh⟩ : ∃ tgE iter tgE1 iter1 ifs1, gs = [⟨tgE, iter, [], 0⟩, ⟨tgE1, iter1, ifs1, 0⟩] ∧ (blkC tb.N sc scope (ownP tb own) && (decide own.Nodup && (decide own1.Nodup && (decide (∀ i ∈ own1, i ∈ own) && (decide (∀ i ∈ own, i < tb.N.length) && (decide (∀ i ∈ tg.slots, i ∈ own) && (decide (∀ i ∈ tg1.slots, i ∈ own1) &&
      (okTg tb scope tg tgE && (okTg tb scope tg1 tgE1 && (!Ex.isSet iter && (!Ex.isSet iter1 && (okI tb sc src tgE iter && (okI tb (relS scope sc) src1 tgE1 iter1 && (okF tb (relS scope sc) c ifs1 && okE tb false (relS scope sc) el elt)))))))))))))) = true := by
      generalize he : (Expr.ListComp elt gs scope p) = e at h
      unfold okE at h
      split at h <;> first | (cases he; exact ⟨_, _, _, _, _, rfl, h⟩) | exact absurd h Bool.false_ne_true | contradiction | (rename_i z; cases z; cases he; exact ⟨_, _, _, _, _, rfl, h⟩)
    simp only [Bool.and_eq_true, decide_eq_true_eq, Bool.not_eq_true'] at hh
    obtain ⟨h1, h2, h2', hv, h3, h4, h4', h5, h5', h6, h6', h7, h7', h8, h9⟩ := hh
    have em : (ownP tb own).map (·.2) = own := own_map
    have blk := blkOk_by h1
    rw [← hsc, ← kn.hN] at blk
    have q := ps_setLc2 (X := X) (pos := p) (spos := pos) (py := pos') (own := ownP tb own) (vs1 := own1) (g := tg.rd X.K) (g1 := tg1.rd X.K) (tt := tYes) (tt1 := tT T W0 (evC g Φ c)) (te := tD T W0 fun ρ => asD g.flds (evE g Φ el ρ)) kn.hc kn.nd hi hyl swt (snI src sc tgE iter W X kn hsc tk h7) blk (by rw [em]; exact hv)
      (fun s H C cl fp => pg_of (X := X.blk s H scope (compEnvC scope cl C X.env) fp) kn.hN kn.nd kn.hc st_blk h5)
      (fun _ _ _ _ _ => pts_nil)
      (fun s H C cl fp => snI src1 (relS scope sc) tgE1 iter1 W0 (X.blk s H scope (compEnvC scope cl C X.env) fp) kn.blk (by rw [← hsc]; rfl) takes_none5 h7')
      (fun s H C cl fp => pg_of (X := X.blk s H scope (compEnvC scope cl C X.env) fp) kn.hN kn.nd kn.hc st_blk h5')
      (fun s H C cl fp => snF c (relS scope sc) ifs W0 (X.blk s H scope (compEnvC scope cl C X.env) fp) kn.blk (by rw [← hsc]; rfl) takes_none5 h8)
      (fun s H C cl fp => by
        have q := pe_asD ((snE el false (relS scope sc) elt W0 (X.blk s H scope (compEnvC scope cl C X.env) fp) kn.blk (by rw [← hsc]; rfl) takes_none5 h9).1 rfl)
        rw [← kn.fl] at q
        exact q) (fold_plain h6) (fun _ => fold_plain h6')
    refine q.impL fun D σ H hl q => lc2_imp kn.hK.1 (by rw [em]; exact h2) (n := X.N.length) (by rw [em, kn.hN]; exact h3) (by rw [em]; exact hv) (by rw [em]; exact h4) h4' hl ?_
    rw [em]
    exact asg_imp hw (by rw [hl]; exact (List.getElem?_eq_some_iff.mp hi).1) q
  | cst d => exact absurd h (by unfold okE; cases d <;> exact Bool.false_ne_true)
  | compd i el own tg c => cases hcd
  | _ => cases h
theorem sws_of {tgE v : Expr} {env : PySem.Env} (h : notTup v = true) : swappedStores [tgE] v env = pure none := by
  cases v with
  | Tuple vs k p =>
    have h : vs.all (foldedForSure 8) = true := h
    have go : ∀ ts : List Expr, swappedStores [.Tuple ts 0 p] (.Tuple vs k p) env = pure none := fun ts => by
      unfold swappedStores
      dsimp only [bind_pure_comp, pure_bind]
      simp only [h, if_true]
      repeat' (first | rfl | split)
    cases tgE with
    | Tuple ts k2 p2 => exact go ts
    | List ts p2 => exact go ts
    | _ => rfl
  | _ => cases tgE <;> rfl
theorem sws_nl {tgE v : Expr} {env : PySem.Env} {sc : Scope} (hs : env.scope = sc) (h : nonLoc sc tgE = true) : swappedStores [tgE] v env = pure none := by
  cases tgE with
  | Tuple ts k p =>
    have h : (ts.any fun t => match t with
      | .Name x _ => !decide (sc.names.lookup x = some .local)
      | _ => false) = true := h
    rw [List.any_eq_true] at h
    obtain ⟨t, ht, h⟩ := h
    cases t with
    | Name x px =>
      have h : ¬ sc.names.lookup x = some .local := by simpa using h
      have lt : ∀ f : Expr → Option Str, f (.Name x px) = none → ((ts.filterMap f).length != ts.length) = true := fun f hf => by
        have q : (ts.filterMap f).length < ts.length := List.length_filterMap_lt_length_iff_exists.mpr ⟨_, ht, hf⟩
        rw [bne_iff_ne]
        exact Nat.ne_of_lt q
      cases v with
      | Tuple vs k2 p2 =>
        unfold swappedStores
        dsimp only [bind_pure_comp, pure_bind]
        have q : ∀ line : Nat, (List.filterMap (fun
          | Expr.Name id pos => if (env.kindOf id == some .local && pos.line == line) = true then some id else none
          | _ => none) ts).length != ts.length := fun line => lt _ (by
            have : (env.kindOf x == some .local) = false := by
              have e : env.kindOf x = env.scope.names.lookup x := rfl
              rw [e, hs]
              cases hq : sc.names.lookup x with
              | none => rfl
              | some k => cases k <;> first | rfl | exact absurd hq h
            dsimp only
            rw [this]; rfl)
        split
        · rfl
        · split
          · rfl
          · rw [if_pos (by rw [Bool.or_eq_true]; exact .inl (q _))]
      | _ => rfl
    | _ => cases h
  | _ => cases h
theorem sws_any {tgE v : Expr} {env : PySem.Env} {sc : Scope} (hs : env.scope = sc) (h : (notTup v || nonLoc sc tgE) = true) : swappedStores [tgE] v env = pure none := by
  rw [Bool.or_eq_true] at h
  rcases h with h | h
  · exact sws_of h
  · exact sws_nl hs h
theorem noStar_sw {vs : List Expr} (h : noStar vs = true) : (vs.any fun | .Starred .. => true | _ => false) = false := by
  unfold noStar at h
  rw [List.all_eq_true] at h
  rw [List.any_eq_false]
  intro e he
  have q := h e he
  cases e <;> first | exact Bool.false_ne_true | cases q
theorem sw_par2 {env : PySem.Env} {sc : Scope} {x y : Str} {px py pt : Pos} {a b : Expr} {kt k2 pt2} (hsc : env.scope = sc) (hk : env.scope.kind = .function) (h : parB sc [(x, px), (y, py)] [a, b] = true) :
    swappedStores [.Tuple [.Name x px, .Name y py] kt pt] (.Tuple [a, b] k2 pt2) env = pure (some [x, y]) ∧ x ≠ y ∧ sc.names.lookup x = some .local ∧ sc.names.lookup y = some .local ∧ noStar [a, b] = true := by
  have hb : env.blockKind = .function := by unfold Env.blockKind; rw [hk]; rfl
  unfold parB at h
  simp only [Bool.and_eq_true, decide_eq_true_eq, Bool.not_eq_true', List.all_cons, List.all_nil, List.head?_cons, Option.map_some, Option.getD_some, List.map_cons, List.map_nil, and_true] at h
  obtain ⟨h1, ⟨⟨h2, h3⟩, ⟨h4, h5⟩⟩, h6, h7, h8, h9⟩ := h
  have kx : env.kindOf x = some .local := by rw [← h2, ← hsc]; rfl
  have ky : env.kindOf y = some .local := by rw [← h4, ← hsc]; rfl
  refine ⟨?_, ?_, h2, h4, h1⟩
  · unfold swappedStores
    have e1 : (px.line == px.line) = true := by simp
    have e5 : (py.line == px.line) = true := h5
    have s1 := noStar_sw h1
    have h8' : ([a, b].all (foldedForSure 8)) = false := by simpa using h8
    have h9' : ([a, b].all (constantsAlone 8)) = false := by simpa using h9
    dsimp only [List.filterMap_cons, List.filterMap_nil, Expr.pos, List.head?_cons, Option.map_some, Option.getD_some]
    have e0 : ((some NameKind.local : Option NameKind) == some NameKind.local) = true := rfl
    simp only [kx, ky, e1, e5, hb, e0, Bool.and_self, if_true]
    have h6' : [x, y].eraseDups.length = [x, y].length := h6
    refine (if_neg Bool.false_ne_true).trans ((if_neg fun q => Bool.false_ne_true (s1.symm.trans q)).trans ((if_neg ?_).trans ((if_neg fun q => Bool.false_ne_true (h8'.symm.trans q)).trans (if_neg fun q => Bool.false_ne_true (h9'.symm.trans q)))))
    rw [h6']
    exact Bool.false_ne_true
  · simpa using h7
theorem sw_par3 {env : PySem.Env} {sc : Scope} {x y z : Str} {px py pz pt : Pos} {a b c : Expr} {kt k2 pt2} (hsc : env.scope = sc) (hk : env.scope.kind = .function) (h : parB sc [(x, px), (y, py), (z, pz)] [a, b, c] = true) :
    swappedStores [.Tuple [.Name x px, .Name y py, .Name z pz] kt pt] (.Tuple [a, b, c] k2 pt2) env = pure (some [x, y, z]) ∧ x ≠ y ∧ x ≠ z ∧ y ≠ z ∧ sc.names.lookup x = some .local ∧ sc.names.lookup y = some .local ∧ sc.names.lookup z = some .local ∧ noStar [a, b, c] = true := by
  have hb : env.blockKind = .function := by unfold Env.blockKind; rw [hk]; rfl
  unfold parB at h
  simp only [Bool.and_eq_true, decide_eq_true_eq, Bool.not_eq_true', List.all_cons, List.all_nil, List.head?_cons, Option.map_some, Option.getD_some, List.map_cons, List.map_nil, and_true] at h
  obtain ⟨h1, ⟨⟨h2, h3⟩, ⟨h4, h5⟩, ⟨h10, h11⟩⟩, h6, h7, h8, h9⟩ := h
  have kx : env.kindOf x = some .local := by rw [← h2, ← hsc]; rfl
  have ky : env.kindOf y = some .local := by rw [← h4, ← hsc]; rfl
  have kz : env.kindOf z = some .local := by rw [← h10, ← hsc]; rfl
  have nd : x ≠ y ∧ x ≠ z ∧ y ≠ z := by
    simp at h7
    exact ⟨h7.1.1, h7.1.2, h7.2⟩
  refine ⟨?_, nd.1, nd.2.1, nd.2.2, h2, h4, h10, h1⟩
  unfold swappedStores
  have e1 : (px.line == px.line) = true := by simp
  have e5 : (py.line == px.line) = true := h5
  have e6 : (pz.line == px.line) = true := h11
  have s1 := noStar_sw h1
  have h8' : ([a, b, c].all (foldedForSure 8)) = false := by simpa using h8
  have h9' : ([a, b, c].all (constantsAlone 8)) = false := by simpa using h9
  dsimp only [List.filterMap_cons, List.filterMap_nil, Expr.pos, List.head?_cons, Option.map_some, Option.getD_some]
  have e0 : ((some NameKind.local : Option NameKind) == some NameKind.local) = true := rfl
  simp only [kx, ky, kz, e1, e5, e6, hb, e0, Bool.and_self, if_true]
  have h6' : [x, y, z].eraseDups.length = [x, y, z].length := h6
  refine (if_neg Bool.false_ne_true).trans ((if_neg fun q => Bool.false_ne_true (s1.symm.trans q)).trans ((if_neg ?_).trans ((if_neg fun q => Bool.false_ne_true (h8'.symm.trans q)).trans (if_neg fun q => Bool.false_ne_true (h9'.symm.trans q)))))
  rw [h6']
  exact Bool.false_ne_true
/-! ### except clauses -/
theorem var_suite {X : Cx} {a : Addr} {oe : Obj} {pn : List (Addr × Obj)} {sc : Scope} {i : Nat} {y : Str} {p : Pos} (hN : X.N = tb.N) (hsc : X.env.scope = sc) (h : okV tb sc i y = true) : PE (X.suite a ((a, oe) :: pn)) (.Name y p) (tVar i) :=
  pv_of (X := X.suite a ((a, oe) :: pn)) hN hsc h
theorem cst_tC {X : Cx} {d : D} {e : Expr} (h : okC d e = true) : ∃ v, PE X e (tC v) ∧ (∀ F, Rp T F v d) ∧ Ex.star e = false := by
  unfold okC at h
  split at h
  · obtain rfl := of_decide_eq_true h; exact ⟨_, pe_int, fun F => .int _, rfl⟩
  · obtain rfl := of_decide_eq_true h; exact ⟨_, pe_str, fun F => .str _, rfl⟩
  · obtain rfl := of_decide_eq_true h; exact ⟨_, pe_bl, fun F => .bl _, rfl⟩
  · exact ⟨_, pe_non, fun F => .non, rfl⟩
  · cases h
theorem he_of {X : Cx} {sc : Scope} {a : Addr} {oe : Obj} {cls : Value} {dd : Option Addr} {pn : List (Addr × Obj)} {o : Option Nat} {he : HE} {e : Expr} {pos : Pos} (kn : Kn T g Φ tb X) (hsc : X.env.scope = sc) (hz : Zc cls dd oe) (hf : ∃ vs, oe.data = .fields vs) (h : okHE tb sc o he e = true) :
    PSs (X.suite a ((a, oe) :: pn)) [.Return (some e) pos] (tH T g a cls dd o he) := by
  cases he with
  | cst d =>
    obtain ⟨v, h1, h2, _⟩ := cst_tC (T := T) (X := X.suite a ((a, oe) :: pn)) (show okC d e = true by cases e <;> exact h)
    exact pss_hC h1 h2
  | fld n =>
    cases e with
    | Attribute x m p =>
      cases x with
      | Name y p0 =>
        have h' : (decide (n = m) && slB tb sc o y) = true := h
        simp only [Bool.and_eq_true, decide_eq_true_eq] at h'
        obtain ⟨rfl, h'⟩ := h'
        cases o with
        | none => cases h'
        | some i => exact pss_hF (nx := g.nx) rfl kn.xf (fun c hc => (kn.xr c hc).cl) hz hf (var_suite kn.hN hsc h')
      | _ => cases h
    | _ => cases h
  | pair d n =>
    obtain ⟨ec, y, p0, m, p1, k, p2, rfl, hh⟩ : ∃ ec y p0 m p1 k p2, e = .Tuple [ec, .Attribute (.Name y p0) m p1] k p2 ∧ (okC d ec && (decide (n = m) && slB tb sc o y)) = true := by
      unfold okHE at h
      split at h <;> first | exact ⟨_, _, _, _, _, _, _, rfl, h⟩ | exact absurd h Bool.false_ne_true | contradiction | (rename_i z; cases z; exact ⟨_, _, _, _, _, _, _, rfl, h⟩)
    simp only [Bool.and_eq_true, decide_eq_true_eq] at hh
    obtain ⟨h1, rfl, h3⟩ := hh
    obtain ⟨v, q1, q2, q3⟩ := cst_tC (T := T) (X := X.suite a ((a, oe) :: pn)) h1
    cases o with
    | none => cases h3
    | some i => exact pss_hP (nx := g.nx) rfl kn.xf (fun c hc => (kn.xr c hc).cl) hz hf (var_suite kn.hN hsc h3) q1 q2 q3
  | isEq c n d =>
    obtain ⟨x, p0, y, p1, z, p2, p3, y2, p4, m, p5, ec, p6, p7, rfl, hh⟩ : ∃ x p0 y p1 z p2 p3 y2 p4 m p5 ec p6 p7, e = .BoolOp .And [.Call (.Name x p0) [.Name y p1, .Name z p2] [] p3, .Compare (.Attribute (.Name y2 p4) m p5) [.Eq] [ec] p6] p7 ∧
        (tb.hasX && (decide (x = "isinstance") && (glB sc x && (slB tb sc o y && (decide (y2 = y) && (decide (tb.xcs[c]? = some z) && (glB sc z && (dbgB z && (decide (n = m) && (okC d ec && !behindInMarks .Eq ec)))))))))) = true := by
      unfold okHE at h
      split at h <;> first | exact ⟨_, _, _, _, _, _, _, _, _, _, _, _, _, _, rfl, h⟩ | exact absurd h Bool.false_ne_true | contradiction | (rename_i z; cases z; exact ⟨_, _, _, _, _, _, _, _, _, _, _, _, _, _, rfl, h⟩)
    simp only [Bool.and_eq_true, decide_eq_true_eq, Bool.not_eq_true'] at hh
    obtain ⟨h0, rfl, h2, h3, rfl, h5, h6, h7, rfl, h9, h10⟩ := hh
    obtain ⟨hv, hx⟩ := kn.hx h0
    obtain ⟨v, q1, q2, q3⟩ := cst_tC (T := T) (X := X.suite a ((a, oe) :: pn)) h9
    cases o with
    | none => cases h3
    | some i => exact pss_hE (g := g) kn.hK kn.hu kn.xf hx (List.getElem?_eq_some_iff.mp h5).1 (fun c hc => (kn.xr c hc).cl) (gl_of hsc h2) kn.bi hz hf (fun p => var_suite kn.hN hsc h3) (pe_glob (X := X.suite a ((a, oe) :: pn)) (gl_of hsc h6) (kn.xm c z h5) rfl (dbg_of h7).1) q1 q2 h10
theorem hds_of {X : Cx} {sc : Scope} (kn : Kn T g Φ tb X) (b : Bd X sc) : ∀ {hl : List Hd} {hds : List ExceptHandler}, okHds tb wr sc hl hds = true →
    ClOk X hds (hl.map fun h => (.ref (T.xcls h.c), h.slot, fun a cls dd => tH T g a cls dd h.slot h.ret)) ∧ (∀ h ∈ hl, h.c < tb.xcs.length) ∧ (∀ h ∈ hl, ∀ i, h.slot = some i → i ∈ wr) ∧ (∀ h ∈ hl, ∀ i, h.slot = some i → i < X.N.length)
  | [], [], _ => ⟨.nil, by simp, by simp, by simp⟩
  | h :: hl, e :: hds, hh => by
    have hh : (okHd tb wr sc h e && okHds tb wr sc hl hds) = true := hh
    simp only [Bool.and_eq_true] at hh
    obtain ⟨h1, h2⟩ := hh
    obtain ⟨r1, r2, r3, r4⟩ := hds_of kn b h2
    obtain ⟨c, slot, ret⟩ := h
    obtain ⟨x, p0, nm, v, p1, p2, rfl, hv⟩ : ∃ x p0 nm v p1 p2, e = .ExceptHandler (some (.Name x p0)) nm [.Return (some v) p1] p2 ∧ (decide (tb.xcs[c]? = some x) && (glB sc x && (dbgB x && (okHE tb sc slot ret v && nmB tb wr sc slot nm)))) = true := by
      unfold okHd at h1
      split at h1
      · exact ⟨_, _, _, _, _, _, rfl, h1⟩
      · cases h1
    simp only [Bool.and_eq_true, decide_eq_true_eq] at hv
    obtain ⟨a1, a2, a3, a4, a5⟩ := hv
    have nms : Names X x (.ref (T.xcls c)) := ⟨gl_of b.sc_ a2, (dbg_of a3).1, .inl (kn.xm c x a1)⟩
    have hc : c < tb.xcs.length := (List.getElem?_eq_some_iff.mp a1).1
    have su := fun (a : Addr) (oe : Obj) (cls : Value) (d : Option Addr) (pn : List (Addr × Obj)) (z : Zc cls d oe) (f : ∃ vs, oe.data = .fields vs) => he_of (a := a) (pos := p1) (pn := pn) kn b.sc_ z f a4
    cases slot with
    | none =>
      cases nm with
      | some _ => cases a5
      | none =>
        exact ⟨.bare nms su r1, fun h m => by rcases List.mem_cons.mp m with rfl | m; exact hc; exact r2 h m, fun h m i e => by rcases List.mem_cons.mp m with rfl | m; cases e; exact r3 h m i e, fun h m i e => by rcases List.mem_cons.mp m with rfl | m; cases e; exact r4 h m i e⟩
    | some i =>
      cases nm with
      | none => cases a5
      | some n =>
        have a5 : (decide (tb.N[i]? = some n) && (decide (sc.names.lookup n = some .local) && decide (i ∈ wr))) = true := a5
        simp only [Bool.and_eq_true, decide_eq_true_eq] at a5
        obtain ⟨b1, b2, b3⟩ := a5
        have hi : X.N[i]? = some n := by rw [kn.hN]; exact b1
        refine ⟨.named hi (by show X.env.scope.names.lookup n = _; rw [b.sc_]; exact b2) nms su r1, fun h m => by rcases List.mem_cons.mp m with rfl | m; exact hc; exact r2 h m, fun h m j e => ?_, fun h m j e => ?_⟩
        · rcases List.mem_cons.mp m with rfl | m
          · cases e; exact b3
          · exact r3 h m j e
        · rcases List.mem_cons.mp m with rfl | m
          · cases e; exact (List.getElem?_eq_some_iff.mp hi).1
          · exact r4 h m j e
  | [], _ :: _, h => by cases h
  | _ :: _, [], h => by cases h
mutual
theorem snS : ∀ (is : IS) (sc : Scope) (st : Stmt) (W : WX) (X : Cx), Kn T g Φ tb X → Bd X sc → Takes X W → PassesOwn (model X.prog X.w) X.A X.env X.xe → okS tb wr sc is st = true → PS X st (tS T W wr (evS g Φ is))
  | .any, sc, st, W, X, kn, b, tk, po, h => ⟨fun pins s σ H D I h => by obtain ⟨_, _, _, _, q⟩ := h; exact q.elim⟩
  | .asg i e, sc, st, W, X, kn, b, tk, po, h => by
    obtain ⟨x, px, v, p, rfl, hh⟩ : ∃ x px v p, st = .Assign [.Name x px] v p ∧ (decide (tb.N[i]? = some x) && (decide (i ∈ wr) && (stB sc x && (!isCd e && okE tb false sc e v)))) = true := by
      unfold okS at h
      split at h <;> first | exact ⟨_, _, _, _, rfl, h⟩ | exact absurd h Bool.false_ne_true | contradiction | (rename_i z; cases z; exact ⟨_, _, _, _, rfl, h⟩)
    simp only [Bool.and_eq_true, decide_eq_true_eq, Bool.not_eq_true'] at hh
    obtain ⟨h1, h2, h3, hcd, h4⟩ := hh
    have hi : X.N[i]? = some x := by rw [kn.hN]; exact h1
    by_cases sw : swB sc x px v = true
    · cases v with
      | ListComp elt gs scope p' => exact ps_asgC kn b tk h2 hi hcd h4 sw
      | _ => cases sw
    · have hv : Ex.compr v = false ∨ ∃ elt gs scope pos, v = .ListComp elt gs scope pos := by
        cases v <;> first | exact .inl rfl | exact .inr ⟨_, _, _, _, rfl⟩ | (exfalso; revert h4; cases e <;> first | (intro h4; cases h4; done) | (rename_i d; cases d <;> (intro h4; cases h4)))
      exact ps_asgW h2 kn.nd hi (st_def b x h3).1 (b.fn x) ((snE e false sc v W X kn b.sc_ tk h4).1 rfl) (by rw [sw_any b.sc_ b.kd hv]; rw [Bool.eq_false_iff.mpr sw])
  | .unp is e, sc, st, W, X, kn, b, tk, po, h => by
    obtain ⟨tgE, v, p, rfl, hh⟩ : ∃ tgE v p, st = .Assign [tgE] v p ∧ (okTg tb sc (.many is) tgE && (decide (∀ i ∈ is, i ∈ wr) && (decide (∀ i ∈ is, i < tb.N.length) && (!Ex.compr v && ((notTup v || nonLoc sc tgE) && okE tb false sc e v))))) = true := by
      unfold okS at h
      split at h <;> first | exact ⟨_, _, _, rfl, h⟩ | exact absurd h Bool.false_ne_true | contradiction | (rename_i z; cases z; exact ⟨_, _, _, rfl, h⟩)
    simp only [Bool.and_eq_true, decide_eq_true_eq, Bool.not_eq_true'] at hh
    obtain ⟨h1, h2, h3, h4, h5, h6⟩ := hh
    have he := pe_asD ((snE e false sc v W X kn b.sc_ tk h6).1 rfl)
    rw [← kn.fl] at he
    refine ps_unpF kn.hK h2 (by rw [kn.hN]; exact h3) he (pg_of kn.hN kn.nd kn.hc (st_def b) h1) h4 (sws_any b.sc_ h5) ?_
    cases tgE with
    | Tuple es k p' => rfl
    | _ => cases h1
  | .par is es, sc, st, W, X, kn, b, tk, po, h => by
    have key : (∃ i j x px y py kt pt a c k2 pt2 pos, is = [i, j] ∧ st = .Assign [.Tuple [.Name x px, .Name y py] kt pt] (.Tuple [a, c] k2 pt2) pos ∧ (decide (tb.N[i]? = some x) && (decide (tb.N[j]? = some y) && (decide (i ∈ wr) && (decide (j ∈ wr) && ((parB sc [(x, px), (y, py)] [a, c] || (decide (i ≠ j) && (noStar [a, c] && (nonLoc sc (.Tuple [.Name x px, .Name y py] kt pt) && okTg tb sc (.many [i, j]) (.Tuple [.Name x px, .Name y py] kt pt))))) && okEs tb false sc es [a, c]))))) = true) ∨
        ∃ i j l x px y py z pz kt pt a c d k2 pt2 pos, is = [i, j, l] ∧ st = .Assign [.Tuple [.Name x px, .Name y py, .Name z pz] kt pt] (.Tuple [a, c, d] k2 pt2) pos ∧ (decide (tb.N[i]? = some x) && (decide (tb.N[j]? = some y) && (decide (tb.N[l]? = some z) && (decide (i ∈ wr) && (decide (j ∈ wr) && (decide (l ∈ wr) && (parB sc [(x, px), (y, py), (z, pz)] [a, c, d] && okEs tb false sc es [a, c, d]))))))) = true := by
      unfold okS at h
      split at h <;> first
        | (injections; subst_vars; exact .inl ⟨_, _, _, _, _, _, _, _, _, _, _, _, _, rfl, rfl, h⟩)
        | (injections; subst_vars; exact .inr ⟨_, _, _, _, _, _, _, _, _, _, _, _, _, _, _, _, _, rfl, rfl, h⟩)
        | contradiction
    rcases key with ⟨i, j, x, px, y, py, kt, pt, a, c, k2, pt2, pos, rfl, rfl, hh⟩ | ⟨i, j, l, x, px, y, py, z, pz, kt, pt, a, c, d, k2, pt2, pos, rfl, rfl, hh⟩
    · simp only [Bool.and_eq_true, Bool.or_eq_true, decide_eq_true_eq] at hh
      obtain ⟨h1, h2, h3, h4, h5, h6⟩ := hh
      have hi : X.N[i]? = some x := by rw [kn.hN]; exact h1
      have hj : X.N[j]? = some y := by rw [kn.hN]; exact h2
      rcases h5 with h5 | ⟨g1, g2, g3, g4⟩
      case inr =>
        exact ps_parG kn.hK g1 h3 h4 (List.getElem?_eq_some_iff.mp hi).1 (List.getElem?_eq_some_iff.mp hj).1 (snAs es sc [a, c] W X kn b.sc_ tk g2 h6) (pg_of kn.hN kn.nd kn.hc (st_def b) g4) (sws_nl b.sc_ g3) rfl
      obtain ⟨q1, q2, q3, q4, q5⟩ := sw_par2 (kt := kt) (pt := pt) (k2 := k2) (pt2 := pt2) b.sc_ b.kd h5
      exact ps_parF kn.hc kn.nd hi hj (fun z => q2 (by rw [z, hj] at hi; exact (Option.some.inj hi).symm)) h3 h4 (by rw [b.sc_]; exact q3) (by rw [b.sc_]; exact q4) (snAs es sc [a, c] W X kn b.sc_ tk q5 h6) q1
    · simp only [Bool.and_eq_true, decide_eq_true_eq] at hh
      obtain ⟨h1, h2, h2', h3, h4, h4', h5, h6⟩ := hh
      obtain ⟨q1, q2, q2', q2'', q3, q4, q4', q5⟩ := sw_par3 (kt := kt) (pt := pt) (k2 := k2) (pt2 := pt2) b.sc_ b.kd h5
      have hi : X.N[i]? = some x := by rw [kn.hN]; exact h1
      have hj : X.N[j]? = some y := by rw [kn.hN]; exact h2
      have hl : X.N[l]? = some z := by rw [kn.hN]; exact h2'
      exact ps_par3F kn.hc kn.nd hi hj hl (fun w => q2 (by rw [w, hj] at hi; exact (Option.some.inj hi).symm)) (fun w => q2' (by rw [w, hl] at hi; exact (Option.some.inj hi).symm)) (fun w => q2'' (by rw [w, hl] at hj; exact (Option.some.inj hj).symm)) h3 h4 h4' (by rw [b.sc_]; exact q3) (by rw [b.sc_]; exact q4) (by rw [b.sc_]; exact q4') (snAs es sc [a, c, d] W X kn b.sc_ tk q5 h6) q1
  | .sdf i k e, sc, st, W, X, kn, b, tk, po, h => by
    obtain ⟨x, p0, m, p1, c, a, p2, p, rfl, hh⟩ : ∃ x p0 m p1 c a p2 p, st = .Expr (.Call (.Attribute (.Name x p0) m p1) [c, a] [] p2) p ∧ (decide (m = "setdefault") && (okV tb sc i x && (!Ex.star c && (!Ex.star a && (p1.endLine == p2.line && (okE tb false sc k c && okE tb false sc e a)))))) = true := by
      unfold okS at h
      split at h <;> first | exact ⟨_, _, _, _, _, _, _, _, rfl, h⟩ | exact absurd h Bool.false_ne_true | contradiction | (rename_i z; cases z; exact ⟨_, _, _, _, _, _, _, _, rfl, h⟩)
    simp only [Bool.and_eq_true, decide_eq_true_eq, Bool.not_eq_true'] at hh
    obtain ⟨rfl, h1, h2, h3, h4, h5, h6⟩ := hh
    have hk := pe_asD ((snE k false sc c W X kn b.sc_ tk h5).1 rfl)
    have he := pe_asD ((snE e false sc a W X kn b.sc_ tk h6).1 rfl)
    rw [← kn.fl] at he hk
    exact ps_sdfF (wr := wr) (pos := p) kn.hK (pv_of (p := p0) kn.hN b.sc_ h1) hk he h2 h3 h4
  | .seti i k e, sc, st, W, X, kn, b, tk, po, h => by
    obtain ⟨x, px, ek, p1, v, p, rfl, hh⟩ : ∃ x px ek p1 v p, st = .Assign [.Subscript (.Name x px) ek p1] v p ∧ (okV tb sc i x && (!Ex.compr v && (!Ex.isSlice ek && (okE tb false sc k ek && okE tb false sc e v)))) = true := by
      unfold okS at h
      split at h <;> first | exact ⟨_, _, _, _, _, _, rfl, h⟩ | exact absurd h Bool.false_ne_true | contradiction | (rename_i z; cases z; exact ⟨_, _, _, _, _, _, rfl, h⟩)
    simp only [Bool.and_eq_true, decide_eq_true_eq, Bool.not_eq_true'] at hh
    obtain ⟨h1, h2, h3, h4, h5⟩ := hh
    have q := ps_setiF (wr := wr) (pos := p) (p1 := p1) (pv_of (p := px) kn.hN b.sc_ h1) (pe_asD ((snE k false sc ek W X kn b.sc_ tk h4).1 rfl)) (pe_asD ((snE e false sc v W X kn b.sc_ tk h5).1 rfl)) h2 h3
    rw [← kn.fl] at q
    exact q
  | .setd i k e, sc, st, W, X, kn, b, tk, po, h => by
    obtain ⟨x, px, ek, p1, v, p, rfl, hh⟩ : ∃ x px ek p1 v p, st = .Assign [.Subscript (.Name x px) ek p1] v p ∧ (okV tb sc i x && (!Ex.compr v && (!Ex.isSlice ek && (okE tb false sc k ek && okE tb false sc e v)))) = true := by
      unfold okS at h
      split at h <;> first | exact ⟨_, _, _, _, _, _, rfl, h⟩ | exact absurd h Bool.false_ne_true | contradiction | (rename_i z; cases z; exact ⟨_, _, _, _, _, _, rfl, h⟩)
    simp only [Bool.and_eq_true, decide_eq_true_eq, Bool.not_eq_true'] at hh
    obtain ⟨h1, h2, h3, h4, h5⟩ := hh
    have q := ps_setdF (wr := wr) (pos := p) (p1 := p1) kn.hK kn.hu (pv_of (p := px) kn.hN b.sc_ h1) (pe_asD ((snE k false sc ek W X kn b.sc_ tk h4).1 rfl)) (pe_asD ((snE e false sc v W X kn b.sc_ tk h5).1 rfl)) h2 h3
    rw [← kn.fl] at q
    exact q
  | .fld i f e, sc, st, W, X, kn, b, tk, po, h => by
    obtain ⟨x, px, n, p1, v, p, rfl, hh⟩ : ∃ x px n p1 v p, st = .Assign [.Attribute (.Name x px) n p1] v p ∧ (okV tb sc i x && (decide (tb.fnm[f]? = some n) && (!Ex.compr v && okE tb false sc e v))) = true := by
      unfold okS at h
      split at h <;> first | exact ⟨_, _, _, _, _, _, rfl, h⟩ | exact absurd h Bool.false_ne_true | contradiction | (rename_i z; cases z; exact ⟨_, _, _, _, _, _, rfl, h⟩)
    simp only [Bool.and_eq_true, decide_eq_true_eq, Bool.not_eq_true'] at hh
    obtain ⟨h1, h2, h3, h4⟩ := hh
    have he := pe_asD ((snE e false sc v W X kn b.sc_ tk h4).1 rfl)
    rw [← kn.fl] at he
    exact ps_fldF (g := g) (wr := wr) (pos := p) kn.hK kn.cl rfl kn.fl (kn.fd f n h2).symm (pv_of (p := px) kn.hN b.sc_ h1) he h3
  | .fldo i f e, sc, st, W, X, kn, b, tk, po, h => by
    obtain ⟨x, px, n, p1, v, p, rfl, hh⟩ : ∃ x px n p1 v p, st = .Assign [.Attribute (.Name x px) n p1] v p ∧ (okV tb sc i x && (decide (tb.fnm[f]? = some n) && (!Ex.compr v && okE tb false sc e v))) = true := by
      unfold okS at h
      split at h <;> first | exact ⟨_, _, _, _, _, _, rfl, h⟩ | exact absurd h Bool.false_ne_true | contradiction | (rename_i z; cases z; exact ⟨_, _, _, _, _, _, rfl, h⟩)
    simp only [Bool.and_eq_true, decide_eq_true_eq, Bool.not_eq_true'] at hh
    obtain ⟨h1, h2, h3, h4⟩ := hh
    exact ps_fldoF (g := g) (wr := wr) (pos := p) kn.cl rfl kn.fl (kn.fd f n h2).symm (pv_of (p := px) kn.hN b.sc_ h1) ((snE e false sc v W X kn b.sc_ tk h4).1 rfl) h3
  | .setf i f k e, sc, st, W, X, kn, b, tk, po, h => by
    obtain ⟨x, px, n, p1, ek, p2, v, p, rfl, hh⟩ : ∃ x px n p1 ek p2 v p, st = .Assign [.Subscript (.Attribute (.Name x px) n p1) ek p2] v p ∧ (okV tb sc i x && (decide (tb.fnm[f]? = some n) && (!Ex.compr v && (!Ex.isSlice ek && (okE tb false sc k ek && okE tb false sc e v))))) = true := by
      unfold okS at h
      split at h <;> first | exact ⟨_, _, _, _, _, _, _, _, rfl, h⟩ | exact absurd h Bool.false_ne_true | contradiction | (rename_i z; cases z; exact ⟨_, _, _, _, _, _, _, _, rfl, h⟩)
    simp only [Bool.and_eq_true, decide_eq_true_eq, Bool.not_eq_true'] at hh
    obtain ⟨h1, h2, h3, h4, h5, h6⟩ := hh
    have hk := pe_asD ((snE k false sc ek W X kn b.sc_ tk h5).1 rfl)
    have he := pe_asD ((snE e false sc v W X kn b.sc_ tk h6).1 rfl)
    rw [← kn.fl] at he hk
    exact ps_setfF (g := g) (wr := wr) (pos := p) (p1 := p1) (p2 := p2) kn.hK kn.hu kn.cl rfl kn.fl (kn.fd f n h2).symm (pv_of (p := px) kn.hN b.sc_ h1) hk he h3 h4
  | .aug sb i e, sc, st, W, X, kn, b, tk, po, h => by
    obtain ⟨x, px, op', v, p, rfl, hh⟩ : ∃ x px op v p, st = .AugAssign (.Name x px) op v p ∧ (decide (op = if sb = true then .Sub else .Add) && (decide (tb.N[i]? = some x) && (decide (i ∈ wr) && (stB sc x && okE tb false sc e v)))) = true := by
      unfold okS at h
      split at h <;> first | exact ⟨_, _, _, _, _, rfl, h⟩ | exact absurd h Bool.false_ne_true | contradiction | (rename_i z; cases z; exact ⟨_, _, _, _, _, rfl, h⟩)
    simp only [Bool.and_eq_true, decide_eq_true_eq] at hh
    obtain ⟨rfl, h1, h2, h3, h4⟩ := hh
    have he := pe_asD ((snE e false sc v W X kn b.sc_ tk h4).1 rfl)
    rw [← kn.fl] at he
    exact ps_augF (wr := wr) (pos := p) h2 kn.nd (by rw [kn.hN]; exact h1) (st_def b x h3).1 (.inl (b.fn x)) he
  | .whl c body, sc, st, W, X, kn, b, tk, po, h => by
    obtain ⟨c', bd, p, rfl, hh⟩ : ∃ c' bd p, st = .While c' bd [] p ∧ (okE tb true sc c c' && okSs tb wr sc body bd) = true := by
      unfold okS at h
      split at h <;> first | exact ⟨_, _, _, rfl, h⟩ | exact absurd h Bool.false_ne_true | contradiction | (rename_i z; cases z; exact ⟨_, _, _, rfl, h⟩)
    simp only [Bool.and_eq_true] at hh
    exact ps_whlF (n := 100) po (pt_teE kn b.sc_ hh.1 ((snE c true sc c' W X kn b.sc_ tk hh.1).2 rfl)) (snSs body sc bd W X kn b tk po hh.2)
  | .app i e, sc, st, W, X, kn, b, tk, po, h => by
    obtain ⟨x, p0, m, p1, a, p2, p, rfl, hh⟩ : ∃ x p0 m p1 a p2 p, st = .Expr (.Call (.Attribute (.Name x p0) m p1) [a] [] p2) p ∧ (decide (m = "append") && (okV tb sc i x && (!Ex.star a && (p1.endLine == p2.line && okE tb false sc e a)))) = true := by
      unfold okS at h
      split at h <;> first | exact ⟨_, _, _, _, _, _, _, rfl, h⟩ | exact absurd h Bool.false_ne_true | contradiction | (rename_i z; cases z; exact ⟨_, _, _, _, _, _, _, rfl, h⟩)
    simp only [Bool.and_eq_true, decide_eq_true_eq, Bool.not_eq_true'] at hh
    obtain ⟨rfl, h1, h2, h3, h4⟩ := hh
    have he := pe_asD ((snE e false sc a W X kn b.sc_ tk h4).1 rfl)
    rw [← kn.fl] at he
    exact ps_appF (wr := wr) (pos := p) (pv_of (p := p0) kn.hN b.sc_ h1) he h2 h3
  | .fapp i f f1 f2, sc, st, W, X, kn, b, tk, po, h => by
    obtain ⟨x, p0, n, p1, m, p2, x1, q1, n1, q2, x2, q3, n2, q4, kt, qt, p3, p, rfl, hh⟩ : ∃ x p0 n p1 m p2 x1 q1 n1 q2 x2 q3 n2 q4 kt qt p3 p, st = .Expr (.Call (.Attribute (.Attribute (.Name x p0) n p1) m p2) [.Tuple [.Attribute (.Name x1 q1) n1 q2, .Attribute (.Name x2 q3) n2 q4] kt qt] [] p3) p ∧
        (decide (m = "append") && (p2.endLine == p3.line && (okV tb sc i x && (decide (x1 = x) && (decide (x2 = x) && (decide (tb.fnm[f]? = some n) && (decide (tb.fnm[f1]? = some n1) && decide (tb.fnm[f2]? = some n2)))))))) = true := by
      unfold okS at h
      split at h <;> first | exact ⟨_, _, _, _, _, _, _, _, _, _, _, _, _, _, _, _, _, _, rfl, h⟩ | exact absurd h Bool.false_ne_true | contradiction | (rename_i z; cases z; exact ⟨_, _, _, _, _, _, _, _, _, _, _, _, _, _, _, _, _, _, rfl, h⟩)
    simp only [Bool.and_eq_true, decide_eq_true_eq] at hh
    obtain ⟨rfl, h1, h2, rfl, rfl, h3, h4, h5⟩ := hh
    exact ps_fappF (g := g) (wr := wr) (pos := p) (p1 := p1) (p2 := p2) (p3 := p3) kn.hK kn.cl rfl kn.fl (kn.fd f n h3).symm (kn.fd f1 n1 h4).symm (kn.fd f2 n2 h5).symm (fun p => pv_of (p := p) kn.hN b.sc_ h2) h1
  | .insr i k e, sc, st, W, X, kn, b, tk, po, h => by
    obtain ⟨x, p0, m, p1, c, a, p2, p, rfl, hh⟩ : ∃ x p0 m p1 c a p2 p, st = .Expr (.Call (.Attribute (.Name x p0) m p1) [c, a] [] p2) p ∧ (decide (m = "insert") && (okV tb sc i x && (!Ex.star c && (!Ex.star a && (p1.endLine == p2.line && (okE tb false sc k c && okE tb false sc e a)))))) = true := by
      unfold okS at h
      split at h <;> first | exact ⟨_, _, _, _, _, _, _, _, rfl, h⟩ | exact absurd h Bool.false_ne_true | contradiction | (rename_i z; cases z; exact ⟨_, _, _, _, _, _, _, _, rfl, h⟩)
    simp only [Bool.and_eq_true, decide_eq_true_eq, Bool.not_eq_true'] at hh
    obtain ⟨rfl, h1, h2, h3, h4, h5, h6⟩ := hh
    have hk := pe_asD ((snE k false sc c W X kn b.sc_ tk h5).1 rfl)
    have he := pe_asD ((snE e false sc a W X kn b.sc_ tk h6).1 rfl)
    rw [← kn.fl] at he hk
    exact ps_insrF (wr := wr) (pos := p) (pv_of (p := p0) kn.hN b.sc_ h1) hk he h2 h3 h4
  | .ex e, sc, st, W, X, kn, b, tk, po, h => by
    obtain ⟨v, p, rfl, hh⟩ : ∃ v p, st = .Expr v p ∧ (!Ex.compr v && okE tb false sc e v) = true := by
      unfold okS at h
      split at h <;> first | exact ⟨_, _, rfl, h⟩ | exact absurd h Bool.false_ne_true | contradiction | (rename_i z; cases z; exact ⟨_, _, rfl, h⟩)
    simp only [Bool.and_eq_true, decide_eq_true_eq, Bool.not_eq_true'] at hh
    exact ps_exF ((snE e false sc v W X kn b.sc_ tk hh.2).1 rfl) hh.1
  | .ifs c x y, sc, st, W, X, kn, b, tk, po, h => by
    obtain ⟨c', x', y', p, rfl, hh⟩ : ∃ c' x' y' p, st = .If c' x' y' p ∧ (okE tb true sc c c' && (okSs tb wr sc x x' && okSs tb wr sc y y')) = true := by
      unfold okS at h
      split at h <;> first | exact ⟨_, _, _, _, rfl, h⟩ | exact absurd h Bool.false_ne_true | contradiction | (rename_i z; cases z; exact ⟨_, _, _, _, rfl, h⟩)
    simp only [Bool.and_eq_true] at hh
    obtain ⟨h1, h2, h3⟩ := hh
    exact ps_ifsF (pt_teE kn b.sc_ h1 ((snE c true sc c' W X kn b.sc_ tk h1).2 rfl)) (snSs x sc x' W X kn b tk po h2) (snSs y sc y' W X kn b tk po h3)
  | .for_ tg src body, sc, st, W, X, kn, b, tk, po, h => by
    obtain ⟨tgE, iter, bd, p, rfl, hh⟩ : ∃ tgE iter bd p, st = .For tgE iter bd [] p ∧ (okI tb sc src tgE iter && (okTg tb sc tg tgE && (decide (∀ i ∈ tg.slots, i < tb.N.length) && (decide (∀ i ∈ tg.slots, i ∈ wr) && (!Ex.isSet iter && okSs tb wr sc body bd))))) = true := by
      unfold okS at h
      split at h <;> first | exact ⟨_, _, _, _, rfl, h⟩ | exact absurd h Bool.false_ne_true | contradiction | (rename_i z; cases z; exact ⟨_, _, _, _, rfl, h⟩)
    simp only [Bool.and_eq_true, decide_eq_true_eq, Bool.not_eq_true'] at hh
    obtain ⟨h1, h2, h3, h4, h5, h6⟩ := hh
    exact ps_forF po kn.hc kn.hK (snI src sc tgE iter W X kn b.sc_ tk h1) (pg_of kn.hN kn.nd kn.hc (st_def b) h2) (by rw [kn.hN]; exact h3) h4 (snSs body sc bd W X kn b tk po h6) h5
  | .ret e, sc, st, W, X, kn, b, tk, po, h => by
    obtain ⟨v, p, rfl, hh⟩ : ∃ v p, st = .Return (some v) p ∧ (okE tb false sc e v) = true := by
      unfold okS at h
      split at h <;> first | exact ⟨_, _, rfl, h⟩ | exact absurd h Bool.false_ne_true | contradiction | (rename_i z; cases z; exact ⟨_, _, rfl, h⟩)
    exact ps_retF ((snE e false sc v W X kn b.sc_ tk hh).1 rfl)
  | .retm i, sc, st, W, X, kn, b, tk, po, h => by
    obtain ⟨x, p0, p, rfl, hh⟩ : ∃ x p0 p, st = .Return (some (.Name x p0)) p ∧ (okV tb sc i x) = true := by
      unfold okS at h
      split at h <;> first | exact ⟨_, _, _, rfl, h⟩ | exact absurd h Bool.false_ne_true | contradiction | (rename_i z; cases z; exact ⟨_, _, _, rfl, h⟩)
    exact ps_retmF (pv_of (p := p0) kn.hN b.sc_ hh)
  | .rai c e, sc, st, W, X, kn, b, tk, po, h => by
    obtain ⟨x, p0, a, p1, p, rfl, hh⟩ : ∃ x p0 a p1 p, st = .Raise (some (.Call (.Name x p0) [a] [] p1)) none p ∧ (decide (tb.xcs[c]? = some x) && (decide (c < tb.nx) && (glB sc x && (dbgB x && (!Ex.star a && okE tb false sc e a))))) = true := by
      unfold okS at h
      split at h <;> first | exact ⟨_, _, _, _, _, rfl, h⟩ | exact absurd h Bool.false_ne_true | contradiction | (rename_i z; cases z; exact ⟨_, _, _, _, _, rfl, h⟩)
    simp only [Bool.and_eq_true, decide_eq_true_eq, Bool.not_eq_true'] at hh
    obtain ⟨h1, h2, h3, h4, h5, h6⟩ := hh
    have he := pe_asD ((snE e false sc a W X kn b.sc_ tk h6).1 rfl)
    rw [← kn.fl] at he
    exact ps_raiF kn.hc tk (kn.xr c (by rw [← kn.nx]; exact h2)) (gl_of b.sc_ h3) (kn.xm c x h1) he h5 (dbg_of h4).1
  | .try_ body hs, sc, st, W, X, kn, b, tk, po, h => by
    obtain ⟨bd, h0, hds, p, rfl, hh⟩ : ∃ bd h0 hds p, st = .Try bd (h0 :: hds) [] [] p ∧ (okSs tb wr sc body bd && okHds tb wr sc hs (h0 :: hds)) = true := by
      unfold okS at h
      split at h <;> first | exact ⟨_, _, _, _, rfl, h⟩ | exact absurd h Bool.false_ne_true | contradiction | (rename_i z; cases z; exact ⟨_, _, _, _, rfl, h⟩)
    simp only [Bool.and_eq_true] at hh
    obtain ⟨r1, r2, r3, r4⟩ := hds_of kn b hh.2
    exact ps_tryF b.hs b.hf kn.nd tk (fun W' pn xe tk' po' => snSs body sc bd W' (X.tr pn xe) kn.tr b.tr tk' po' hh.1) r1 (fun h m c hc => kn.xe c h.c hc (r2 h m)) r3 r4
  | .brk, sc, st, W, X, kn, b, tk, po, h => by
    cases st with
    | Break p => exact ps_brkF
    | _ => cases h
  | .cnt, sc, st, W, X, kn, b, tk, po, h => by
    cases st with
    | Continue p => exact ps_cntF
    | _ => cases h
  | .pas, sc, st, W, X, kn, b, tk, po, h => by
    cases st with
    | Pass p => exact ps_pasF
    | _ => cases h
theorem snSs : ∀ (is : ISs) (sc : Scope) (sts : List Stmt) (W : WX) (X : Cx), Kn T g Φ tb X → Bd X sc → Takes X W → PassesOwn (model X.prog X.w) X.A X.env X.xe → okSs tb wr sc is sts = true → PSs X sts (tS T W wr (evSs g Φ is))
  | .nil, sc, sts, W, X, kn, b, tk, po, h => by
    cases sts with
    | nil => exact pss_nilF
    | cons _ _ => cases h
  | .cons i is, sc, sts, W, X, kn, b, tk, po, h => by
    cases sts with
    | nil => cases h
    | cons st sts =>
      have h := Bool.and_eq_true_iff.mp (show (okS tb wr sc i st && okSs tb wr sc is sts) = true from h)
      exact pss_consF (snS i sc st W X kn b tk po h.1) (snSs is sc sts W X kn b tk po h.2)
end
end Fx
end
section
set_option linter.all false
set_option Elab.async false
set_option maxRecDepth 100000
set_option maxHeartbeats 4000000
/-! The module: its defs, what they compute, and that the model agrees. -/
namespace Fx
open PySem PySem.Spec L2
def GlV.d : GlV → D
  | .int i => .int i
  | .txs zs => .tup (zs.map .str)
/-- a def: its statement, where it stands, its names, what it may write, its body -/
structure DefI where
  st : Stmt
  at_ : Str × Option Str
  name : Str
  qual : Str
  ps : List Str
  N : List Str
  wr : List Nat
  body : ISs
/-- an error class's __init__ -/
structure ErrI where
  x : Str
  f : Str
  st : Stmt
  qual : Str
  s : Str
  v : Str
structure Md where
  defs : List DefI
  fns : List (Str × Nat)
  cls : List (Str × Nat)
  ini : List Nat
  eqf : List (Option Nat)
  flds : List (List Nat)
  fnm : List Str
  errs : List ErrI
  /-- the classes that clauses name: first those of errs -/
  xcs : List Str
  isa : List (List Bool)
  gls : List (Str × GlV)
  /-- methods: the class, the name, the def, its parameters -/
  meths : List (Nat × Str × Nat × Nat) := []
  hasG : Bool := false
  /-- the errors are asked for their class -/
  hasX : Bool := false
variable (md : Md)
def Md.tb (N : List Str) : Tb := ⟨N, md.fns, md.cls, md.xcs, md.errs.length, md.gls.map (·.1), md.fnm, md.meths, md.hasG, md.hasX⟩
def Md.g : G where
  nc := md.cls.length
  flds := fun c => md.flds.getD c []
  ini := fun c => md.ini.getD c 0
  eqf := fun c => (md.eqf.getD c none).getD 0
  eqk := fun c => (md.eqf.getD c none).isSome
  gl := fun i => (md.gls[i]?).map fun p => p.2.d
  isa := fun c x => (md.isa.getD c []).getD x false
  nx := md.errs.length
  xf := fun c => (md.errs.map (·.f)).getD c ""
  meth := fun m => (md.meths[m]?).map fun p => (p.1, p.2.2.1)
def Md.T (K : PySem.W.Frag) (w : World) : Nm where
  K := K
  w := w
  cls := fun c => He.ga K ((md.cls.map (·.1)).getD c "")
  flds := fun c => md.flds.getD c []
  fname := fun f => md.fnm.getD f ""
  xcls := fun c => He.ga K (md.xcs.getD c "")
  xfld := fun c => (md.errs.map (·.f)).getD c ""
/-! ### what the defs compute -/
/-- what a body gives back of its parameters -/
def outsA (wr : List Nat) (ρ : Env) : Nat → Nat → Env
  | _, 0 => []
  | i, n + 1 => (if i ∈ wr then none else ρ.at i) :: outsA wr ρ (i + 1) n
def DefI.fin (d : DefI) (x : SRes) : FRes := match x with
  | .nx ρ => .ok (.val .non) (outsA d.wr ρ 0 d.ps.length)
  | .rt r ρ => .ok r (outsA d.wr ρ 0 d.ps.length)
  | .exc c v ρ => .exc c v (outsA d.wr ρ 0 d.ps.length)
  | _ => .stuck
def DefI.env (d : DefI) (rs : List R) : Env := rs.map some ++ List.replicate (d.N.length - rs.length) none
def Md.Φ : Nat → Fn
  | 0, _, _ => .stuck
  | n + 1, f, rs => match md.defs[f]? with
    | some d => if rs.length = d.ps.length then d.fin (evSs md.g (Md.Φ n) d.body (d.env rs)) else .stuck
    | none => .stuck
/-! ### Boolean checks -/
def DefI.okB (d : DefI) : Bool := C8.scC d.N d.ps (defScope d.st) && okSs (md.tb d.N) d.wr (defScope d.st) d.body (defBody d.st)
theorem oexB_ok {K : PySem.W.Frag} {C : Addr} (h : oexB K C = true) : ∃ nm q N bs bm sn sub ab col dd k0 k1 k2 k3 k5, K.lookup C = some (excClassObj nm q C N bs bm true sn sub ab col dd k0 k1 k2 k3 k5 "ValueError.__new__") ∧ PySem.HandSPX.refsVE bm = true := by
  unfold oexB at h
  split at h
  · rename_i dd cd sl ho
    split at h
    · rename_i C' bm k0 k1 k2 k3 n k5 hm hs
      simp only [Bool.and_eq_true, decide_eq_true_eq, Bool.not_eq_true'] at h
      obtain ⟨rfl, rfl, hdel, hdict, ht⟩ := h
      obtain ⟨nm, bs, mro, ns, qn, hd, sn, sub, ab, col, del⟩ := cd
      dsimp only at hm hdel hdict
      subst hm hdel hdict
      have hsl : sl = #[k0, k1, k2, k3, some (.builtin "ValueError.__new__"), k5] := by
        obtain ⟨l⟩ := sl
        simp only at hs
        rw [hs]
      subst hsl
      exact ⟨nm, qn, ns, bs, bm, sn, sub, ab, col, dd, k0, k1, k2, k3, k5, ho, ht⟩
    · cases h
  · cases h
def Md.xisB (K : PySem.W.Frag) : Bool := (He.Fa.free "ValueError").ok K && ((List.range md.errs.length).all fun c => excB K (He.ga K (md.xcs.getD c "")) && (dB (PySem.W.kitOne K (.ref (He.ga K (md.xcs.getD c ""))) (.type "ValueError")) (some true) &&
  ((List.range md.xcs.length).all fun c' => dB (PySem.W.kitOne K (.ref (He.ga K (md.xcs.getD c ""))) (.ref (He.ga K (md.xcs.getD c' "")))) (some (md.g.isa c c')))))
def Md.chkM (K : PySem.W.Frag) : Bool := (md.meths.all fun p => (He.Fa.meth ((md.cls.map (·.1)).getD p.1 "") p.2.1).ok K) && ((!md.hasG || gcdB K) && (!md.hasX || md.xisB K))
def bfs : List BF := [.len, .abs, .int, .str, .list, .tuple, .all, .any, .sum, .range, .sorted, .max, .min]
/-- what the run tells of the written part -/
def Md.chk (K : PySem.W.Frag) : Bool :=
  (md.fns.all fun p => dB p.1 "" || (He.Fa.glo p.1).ok K) && (((List.range md.cls.length).all fun c => clsB K ((md.cls.map (·.1)).getD c "") ((md.flds.getD c []).map fun f => md.fnm.getD f "")) &&
  (((List.range md.cls.length).all fun c => (List.range md.cls.length).all fun c' => dB (PySem.W.kitOne K (.ref (He.ga K ((md.cls.map (·.1)).getD c ""))) (.ref (He.ga K ((md.cls.map (·.1)).getD c' "")))) (some (decide (c' = c))) && PySem.W.notFirst K (He.ga K ((md.cls.map (·.1)).getD c "")) (.ref (He.ga K ((md.cls.map (·.1)).getD c' "")))) &&
  (((List.range md.cls.length).all fun c => cond (md.eqf.getD c none).isSome (eqB K ((md.cls.map (·.1)).getD c "")) (idB K ((md.cls.map (·.1)).getD c ""))) &&
  ((md.errs.all fun e => errB K e.x e.f) && ((md.xcs.all fun x => (He.Fa.glo x).ok K) &&
  (((List.range md.errs.length).all fun c => (List.range md.xcs.length).all fun c' => dB (PySem.W.exmOne K (.ref (He.ga K (md.xcs.getD c ""))) (.ref (He.ga K (md.xcs.getD c' "")))) (some (md.g.isa c c'))) &&
  ((bfs.all fun b => (He.Fa.free b.name).ok K) && ((He.Fa.free "isinstance").ok K && ((He.Fa.free "bool").ok K && ((frees.all fun x => (He.Fa.free x).ok K) && ((md.gls.all fun p => p.2.okB K p.1) && md.chkM K)))))))))))
/-- the check, in two parts -/
def Md.chkA (K : PySem.W.Frag) : Bool :=
  (md.fns.all fun p => dB p.1 "" || (He.Fa.glo p.1).ok K) && (((List.range md.cls.length).all fun c => clsB K ((md.cls.map (·.1)).getD c "") ((md.flds.getD c []).map fun f => md.fnm.getD f "")) &&
  (((List.range md.cls.length).all fun c => (List.range md.cls.length).all fun c' => dB (PySem.W.kitOne K (.ref (He.ga K ((md.cls.map (·.1)).getD c ""))) (.ref (He.ga K ((md.cls.map (·.1)).getD c' "")))) (some (decide (c' = c))) && PySem.W.notFirst K (He.ga K ((md.cls.map (·.1)).getD c "")) (.ref (He.ga K ((md.cls.map (·.1)).getD c' "")))) &&
  ((List.range md.cls.length).all fun c => cond (md.eqf.getD c none).isSome (eqB K ((md.cls.map (·.1)).getD c "")) (idB K ((md.cls.map (·.1)).getD c "")))))
def Md.chkB (K : PySem.W.Frag) : Bool :=
  ((md.errs.all fun e => errB K e.x e.f) && ((md.xcs.all fun x => (He.Fa.glo x).ok K) &&
  (((List.range md.errs.length).all fun c => (List.range md.xcs.length).all fun c' => dB (PySem.W.exmOne K (.ref (He.ga K (md.xcs.getD c ""))) (.ref (He.ga K (md.xcs.getD c' "")))) (some (md.g.isa c c'))) &&
  ((bfs.all fun b => (He.Fa.free b.name).ok K) && ((He.Fa.free "isinstance").ok K && ((He.Fa.free "bool").ok K && ((frees.all fun x => (He.Fa.free x).ok K) && ((md.gls.all fun p => p.2.okB K p.1) && md.chkM K))))))))
/-- the names alone -/
def Md.nt : Nt := ⟨md.fns.map (·.1), md.cls.map (·.1), md.eqf.map (·.isSome), md.flds.map fun l => l.map fun f => md.fnm.getD f "", md.errs.map fun e => (e.x, e.f), md.xcs, md.isa, md.gls, md.meths.map fun p => (p.1, p.2.1), md.hasG, md.hasX, bfs.map (·.name) ++ (([("isinstance" : Str), ("bool" : Str)] : List Str) ++ frees)⟩
theorem getD_map {α β : Type} {f : α → β} {l : List α} {i : Nat} {a : α} {b : β} (h : f a = b) : (l.map f).getD i b = f (l.getD i a) := by
  rw [List.getD_eq_getElem?_getD, List.getD_eq_getElem?_getD, List.getElem?_map]
  cases l[i]? with
  | none => exact h.symm
  | some x => rfl
theorem Md.chkA_nt (K : PySem.W.Frag) : md.chkA K = md.nt.chkA K := by
  unfold Md.chkA Nt.chkA Nt.a1 Nt.a2 Nt.a3 Nt.a4 Md.nt
  dsimp only
  simp only [List.all_map, List.length_map, Function.comp_def, getD_map (f := fun l : List Nat => l.map fun f => md.fnm.getD f ("" : Str)) (a := []) (b := []) rfl, getD_map (f := fun o : Option Nat => o.isSome) (a := none) (b := false) rfl]
theorem Md.chkB_nt (K : PySem.W.Frag) : md.chkB K = md.nt.chkB K := by
  unfold Md.chkB Nt.chkB Md.chkM Nt.chkM Md.xisB Nt.xisB Md.nt
  dsimp only
  simp only [List.all_map, List.length_map, Function.comp_def, List.all_append, List.all_cons, List.all_nil, Bool.and_true, Bool.and_assoc]
  rfl
theorem Md.chk_ab (K : PySem.W.Frag) (a : md.chkA K = true) (b : md.chkB K = true) : md.chk K = true := by
  unfold Md.chkA at a
  simp only [Bool.and_eq_true] at a
  obtain ⟨a1, a2, a3, a4⟩ := a
  unfold Md.chk
  unfold Md.chkB at b
  rw [a1, a2, a3, a4, b]
  rfl
def ErrI.okB (e : ErrI) : Bool := C8.scC [e.s, e.v] [e.s, e.v] (defScope e.st) && ((dbgB e.s && (dbgB e.v && (visB (defScope e.st) e.s && visB (defScope e.st) e.v))) && (match defBody e.st with
  | [.Assign [.Attribute (.Name s _) f _] (.Name v _) _] => dB s e.s && (dB f e.f && dB v e.v)
  | _ => false))
def lnkF (d? : Option DefI) (a : Str × Option Str) (np : Nat) : Bool := match d? with
  | some d => decide (d.at_ = a) && decide (d.ps.length = np)
  | none => false
def Md.lnk : Bool :=
  (List.range md.fns.length).all (fun f => match md.fns[f]? with
    | some (x, np) => lnkF md.defs[f]? (x, none) np
    | none => false) &&
  ((List.range md.cls.length).all (fun c => match md.cls[c]? with
    | some (x, np) => lnkF md.defs[md.g.ini c]? (x, some "__init__") (np + 1) && (!md.g.eqk c || lnkF md.defs[md.g.eqf c]? (x, some "__eq__") 2)
    | none => false) &&
  md.meths.all fun p => match md.cls[p.1]? with
    | some (x, _) => lnkF md.defs[p.2.2.1]? (x, some p.2.1) p.2.2.2 && !(((md.flds.getD p.1 []).map fun f => md.fnm.getD f ("" : Str)).contains p.2.1)
    | none => false)
/-- what is to be seen of the description alone -/
def Md.shape : Bool :=
  (List.range md.errs.length).all (fun c => dB ((md.errs.map (·.x)).getD c ("" : Str)) (md.xcs.getD c "")) && (decide (md.errs.length ≤ md.xcs.length) &&
  (List.range md.cls.length).all (fun c => decide (((md.flds.getD c []).map fun f => md.fnm.getD f ("" : Str)).Nodup) && decide ((md.flds.getD c []).length ≤ 900)))
end Fx
end
section
set_option linter.all false
set_option Elab.async false
set_option maxRecDepth 100000
set_option maxHeartbeats 4000000
/-! Each def keeps the promise of its level. -/
namespace Fx
open PySem PySem.Spec L2
variable {md : Md}
theorem dB_ok {α : Type} [DecidableEq α] {a b : α} (h : dB a b = true) : a = b := of_decide_eq_true h
/-- the facts -/
structure Fs (md : Md) (K : PySem.W.Frag) (mg : Str → Option Value) : Prop where
  X : ∃ h : Heap, K.In h ∧ h.Ns mainGlobals mg
  chk : md.chk K = true
  shape : md.shape = true
  lnk : md.lnk = true
  nb : ∀ (f : Nat) (x : Str) (np : Nat), md.fns[f]? = some (x, np) → x = "" → False
  defs : ∀ (f : Nat) (d : DefI), md.defs[f]? = some d → d.okB md = true ∧ ∃ fd, FunD K d.name d.qual (defArgs d.st) (defBody d.st) (defScope d.st) [] [] (He.fAd K d.at_) fd ∧ Binds K fd d.ps []
  errs : ∀ (c : Nat) (e : ErrI), md.errs[c]? = some e → e.okB = true ∧ ∃ fd, FunD K "__init__" e.qual (defArgs e.st) (defBody e.st) (defScope e.st) [] [] (He.fAd K (e.x, some "__init__")) fd ∧ Binds K fd [e.s, e.v] []
theorem all_range {n : Nat} {p : Nat → Bool} (h : (List.range n).all p = true) {i : Nat} (hi : i < n) : p i = true := List.all_eq_true.mp h i (List.mem_range.mpr hi)
theorem all_get {α : Type} {l : List α} {p : α → Bool} (h : l.all p = true) {i : Nat} {a : α} (e : l[i]? = some a) : p a = true := List.all_eq_true.mp h a (List.mem_of_getElem? e)
section
variable {P : Program} {w : World} {K : PySem.W.Frag} {mg : Str → Option Value} {base : Heap}
/-- an error's __init__ -/
theorem err_fn {CX : CXT} {e : ErrI} {fa : Addr} {fd : FuncData} (ok : e.okB = true) (F : FunD K "__init__" e.qual (defArgs e.st) (defBody e.st) (defScope e.st) [] [] fa fd) : FnOk P w K mg base CX 1 fa fd [e.s, e.v] (spI K e.f) := by
  unfold ErrI.okB at ok
  simp only [Bool.and_eq_true] at ok
  obtain ⟨h1, ⟨h2, h3, h4, h5⟩, h6⟩ := ok
  have S := C8.fnScope_by h1
  refine F.ok (k := 0) S (fun vs H Q E h => ?_) fun cdv A outer s H vs Q E hr h => ?_
  · obtain ⟨a, C, y, rfl, _⟩ := h; rfl
  · split at h6
    · rename_i s' ps f pf v pv p hb
      simp only [Bool.and_eq_true] at h6
      obtain ⟨e1, e2, e3⟩ := h6
      have e1 := dB_ok e1
      have e2 := dB_ok e2
      have e3 := dB_ok e3
      subst e1 e2 e3
      rw [hb]
      obtain ⟨d1, d2⟩ := dbg_of h2
      obtain ⟨d3, d4⟩ := dbg_of h3
      refine ⟨_, pss_one (ps_ost (pe_var (i := 0) rfl (vis_of h4) d1 d2) (pe_var (i := 1) rfl (vis_of h5) d3 d4) (swaps_plain rfl)), ?_⟩
      obtain ⟨a, C, y, rfl, oc, no, ha, k⟩ := h
      exact ⟨y, rfl, .ref a, rfl, a, C, rfl, oc, no, .inl ⟨ha, fun dx n1 n2 => k dx n1 n2⟩⟩
    · cases h6
theorem lives_sl {T : Nm} : ∀ (outs : Env) (vs : List V) (ρ : Env) (σ : St) (L : Lv), Sl ρ σ L → (∀ (i : Nat) (r : R) (v : V), outs[i]? = some (some r) → vs[i]? = some v → ρ[i]? = some (some r) ∧ σ[i]? = some (some v)) → ∃ K, L.Perm (K ++ lives outs vs)
  | [], vs, _, _, L, _, _ => ⟨L, by unfold lives; simp⟩
  | some r :: outs, [], _, _, L, _, _ => ⟨L, by unfold lives; simp⟩
  | none :: outs, [], _, _, L, _, _ => ⟨L, by unfold lives; simp⟩
  | some r :: outs, v :: vs, ρ, σ, L, sl, h => by
    obtain ⟨e1, e2⟩ := h 0 r v rfl rfl
    cases sl with
    | nil => simp at e1
    | non sl => simp at e1
    | @som ρ' σ' L' r' v' sl =>
      simp at e1 e2
      subst e1 e2
      obtain ⟨K, p⟩ := lives_sl (T := T) outs vs ρ' σ' L' sl fun i r v a b => by
        have := h (i + 1) r v (by simpa using a) (by simpa using b)
        simpa using this
      exact ⟨K, (List.Perm.cons _ p).trans List.perm_middle.symm⟩
  | none :: outs, v :: vs, ρ, σ, L, sl, h => by
    cases sl with
    | nil =>
      have hn : ∀ (os : Env) (vs : List V), (∀ (i : Nat) (r : R) (v : V), os[i]? = some (some r) → vs[i]? = some v → False) → lives os vs = [] := by
        intro os
        induction os with
        | nil => intro vs _; rfl
        | cons o os ih =>
          intro vs h
          cases vs with
          | nil => cases o <;> rfl
          | cons v vs =>
            cases o with
            | some r => exact (h 0 r v rfl rfl).elim
            | none => exact ih vs fun i r v a b => h (i + 1) r v (by simpa using a) (by simpa using b)
      refine ⟨[], ?_⟩
      have e : lives (none :: outs) (v :: vs) = [] := hn _ _ fun i r v a b => by
        have := (h i r v a b).1
        simp at this
      rw [e]; exact .refl _
    | @non ρ' σ' L' x sl =>
      obtain ⟨K, p⟩ := lives_sl (T := T) outs vs ρ' σ' L sl fun i r v a b => by
        have := h (i + 1) r v (by simpa using a) (by simpa using b)
        simpa using this
      exact ⟨K, p⟩
    | @som ρ' σ' L' r' v' sl =>
      obtain ⟨K, p⟩ := lives_sl (T := T) outs vs ρ' σ' L' sl fun i r v a b => by
        have := h (i + 1) r v (by simpa using a) (by simpa using b)
        simpa using this
      exact ⟨(r', v') :: K, List.Perm.cons _ p⟩
theorem outsA_get {wr : List Nat} {ρ : Env} : ∀ {n i j : Nat} {r : R}, (outsA wr ρ i n)[j]? = some (some r) → (i + j) ∉ wr ∧ ρ.at (i + j) = some r
  | 0, _, j, _, h => by simp [outsA] at h
  | n + 1, i, 0, r, h => by
    simp only [outsA, List.getElem?_cons_zero, Option.some.injEq] at h
    split at h
    · cases h
    · rename_i hn
      exact ⟨hn, h⟩
  | n + 1, i, j + 1, r, h => by
    have h : (outsA wr ρ (i + 1) n)[j]? = some (some r) := by simpa [outsA] using h
    have q := outsA_get h
    have e : i + 1 + j = i + (j + 1) := by omega
    rw [e] at q
    exact q
theorem back_cf {T : Nm} {F H : Hp} {M : Lv} {ρ : Env} {σ : St} {wr : List Nat} {N : List Str} {vs : List V} (cf : Cf T F H M ρ σ) (ag : Ag wr (start N vs) σ) : Reps T F H (lives (outsA wr ρ 0 vs.length) vs ++ M) := by
  obtain ⟨L, sl, rp⟩ := cf
  obtain ⟨K, p⟩ := lives_sl (T := T) (outsA wr ρ 0 vs.length) vs ρ σ L sl fun i r v a b => by
    obtain ⟨h1, h2⟩ := outsA_get a
    rw [Nat.zero_add] at h1 h2
    refine ⟨at_get h2, ?_⟩
    rw [ag.2 i h1]
    unfold L2.start
    rw [List.getElem?_append_left (by rw [List.length_map]; exact (List.getElem?_eq_some_iff.mp b).1), List.getElem?_map, b]
    rfl
  have q : Reps T F H (K ++ (lives (outsA wr ρ 0 vs.length) vs ++ M)) := rp.perm ((List.Perm.append_left M p).trans (by
    refine List.perm_append_comm.trans ?_
    rw [List.append_assoc]))
  exact q.drop
theorem start_cf {T : Nm} {F H : Hp} {L : Lv} {rs : List R} {vs : List V} {N : List Str} (hl : rs.length = vs.length) (rp : Reps T F H (rs.zip vs ++ L)) : Cf T F H L (rs.map some ++ List.replicate (N.length - rs.length) none) (start N vs) := by
  have key : ∀ (rs : List R) (vs : List V) (n : Nat), rs.length = vs.length → Sl (rs.map some ++ List.replicate n none) (vs.map some ++ List.replicate n none) (rs.zip vs) := by
    intro rs
    induction rs with
    | nil =>
      intro vs n h
      cases vs with
      | nil =>
        induction n with
        | zero => exact .nil
        | succ n ih => exact .non ih
      | cons _ _ => simp at h
    | cons r rs ih =>
      intro vs n h
      cases vs with
      | nil => simp at h
      | cons v vs => exact .som (ih vs n (by simpa using h))
  exact ⟨rs.zip vs, by unfold L2.start; rw [← hl]; exact key rs vs _ hl, rp.perm List.perm_append_comm⟩
/-- the promise from the body's reading -/
theorem body_sp {T : Nm} {g : G} {Φ : Fn} {d : DefI} {f : Nat} {F H : Hp} {L : Lv} {rs : List R} {vs : List V} {Q : VK} {E : XK} (hl : rs.length = vs.length) (hp : vs.length = d.ps.length) (rp : Reps T F H (rs.zip vs ++ L))
    (h : match d.fin (evSs g Φ d.body (d.env rs)) with
      | .ok r outs => ∀ v F' H', Reps T F' H' ((r, v) :: (lives outs vs ++ L)) → Q v H'
      | .exc c x outs => ∀ v dd F' H', Reps T F' H' (lives outs vs ++ L) → H' dd = some (.xd [(T.xfld c, v)]) → Rp T F' v x → E (.ref (T.xcls c)) (some dd) H'
      | .stuck => False) :
    tS T (fun cls dd _ H => E cls dd H) d.wr (evSs g Φ d.body) { nx := fun _ H' => Q .non H', rt := Q } (start d.N vs) H := by
  refine ⟨F, L, d.env rs, start_cf hl rp, ?_⟩
  cases z : evSs g Φ d.body (d.env rs) with
  | nx ρ =>
    rw [z] at h
    intro σ F' H' ag cf
    refine h .non F' H' ?_
    rw [← hp]
    exact (back_cf cf ag).val .non
  | rt r ρ =>
    rw [z] at h
    intro σ v F' H' ag cf
    refine h v F' H' ?_
    rw [← hp]
    exact (back_cf cf ag).perm List.perm_middle
  | bk ρ => rw [z] at h; exact h.elim
  | ct ρ => rw [z] at h; exact h.elim
  | exc c x ρ =>
    rw [z] at h
    intro σ ag v dd F' H' cf hd rv
    refine h v dd F' H' ?_ hd rv
    rw [← hp]
    exact back_cf cf ag
  | stuck => rw [z] at h; exact h.elim
end
end Fx
end
section
set_option linter.all false
set_option Elab.async false
set_option maxRecDepth 100000
set_option maxHeartbeats 4000000
/-! The levels. -/
namespace Fx
open PySem PySem.Spec L2
variable {md : Md}
section
variable {P : Program} {w : World} {K : PySem.W.Frag} {mg : Str → Option Value} {base : Heap}
theorem getD_get {α : Type} {l : List α} {i : Nat} {a d : α} (e : l[i]? = some a) : l.getD i d = a := by
  rw [List.getD_eq_getElem?_getD, e]; rfl
theorem lnkF_ok {d? : Option DefI} {a : Str × Option Str} {np : Nat} (h : lnkF d? a np = true) : ∃ d, d? = some d ∧ d.at_ = a ∧ d.ps.length = np := by
  cases d? with
  | none => cases h
  | some d =>
    have h : (decide (d.at_ = a) && decide (d.ps.length = np)) = true := h
    simp only [Bool.and_eq_true, decide_eq_true_eq] at h
    exact ⟨d, rfl, h.1, h.2⟩
theorem bfs_all (b : BF) : b ∈ bfs := by cases b <;> decide
/-- the classes, from what the run tells -/
theorem cls_kn {w : World} (fs : Fs md K mg) (c : Nat) (hc : c < md.cls.length) : ClsKn (md.T K w) K c ∧ Mk K ((md.T K w).cls c) (He.ma K ((md.T K w).cls c) "__init__") ∧ mg ((md.cls.map (·.1)).getD c ("" : Str)) = some (.ref ((md.T K w).cls c)) := by
  have hk := fs.chk
  unfold Md.chk at hk
  simp only [Bool.and_eq_true] at hk
  have h := all_range hk.2.1 hc
  unfold clsB at h
  simp only [Bool.and_eq_true] at h
  obtain ⟨a1, a2, a3, a4, a5, a6, a7, a8, a9, a10⟩ := h
  obtain ⟨hp, X, G⟩ := fs.X
  have sh := fs.shape
  unfold Md.shape at sh
  simp only [Bool.and_eq_true] at sh
  have hs := all_range sh.2.2 hc
  simp only [Bool.and_eq_true, decide_eq_true_eq] at hs
  refine ⟨⟨He.cls_ok a2, fun f hf => ?_, hs.1, hs.2, dB_ok a5, dB_ok a6, dB_ok a7, dB_ok a8, fun n hn => dB_ok (List.all_eq_true.mp a9 n hn), fun n hn => dB_ok (List.all_eq_true.mp a10 n hn)⟩, He.mkr_ok a4, He.glo_ok X G a1⟩
  exact He.noat_ok (List.all_eq_true.mp a3 _ (List.mem_map.mpr ⟨f, hf, rfl⟩))
theorem err_kn {w : World} (fs : Fs md K mg) (c : Nat) (hc : c < md.errs.length) : ∃ e, md.errs[c]? = some e ∧ e.x = md.xcs.getD c ("" : Str) ∧ (md.T K w).xfld c = e.f ∧ XCls (md.T K w) K c ∧ PySem.W.findIn K (.ref ((md.T K w).xcls c)) "__init__" = some (some (.ref (He.fAd K (e.x, some "__init__")))) ∧ PySem.W.typeIn K (.ref (He.fAd K (e.x, some "__init__"))) = some (.type "function") := by
  have ee : md.errs[c]? = some md.errs[c] := List.getElem?_eq_getElem hc
  have hk := fs.chk
  unfold Md.chk at hk
  simp only [Bool.and_eq_true] at hk
  have h := all_get hk.2.2.2.2.1 ee
  unfold errB at h
  simp only [Bool.and_eq_true] at h
  obtain ⟨a1, a2, a3, a4, a5, a6, a7, a8, a9⟩ := h
  have sh := fs.shape
  unfold Md.shape at sh
  simp only [Bool.and_eq_true] at sh
  have hx : md.errs[c].x = md.xcs.getD c ("" : Str) := by
    have q := dB_ok (all_range sh.1 hc)
    rw [getD_get (by rw [List.getElem?_map, ee]; rfl)] at q
    exact q
  have hxa : (md.T K w).xcls c = He.ga K md.errs[c].x := by rw [hx]; rfl
  have hf : (md.T K w).xfld c = md.errs[c].f := by
    show (md.errs.map (·.f)).getD c ("" : Str) = _
    exact getD_get (by rw [List.getElem?_map, ee]; rfl)
  rw [← hxa] at a1 a2 a3 a4 a5 a6 a8
  have a7 : PySem.W.findIn K (.ref ((md.T K w).xcls c)) ((md.T K w).xfld c) = some none := by
    rw [hxa, hf]; exact He.noat_ok a7
  have a9' : PySem.W.typeIn K (.ref (He.fAd K (md.errs[c].x, some "__init__"))) = some (.type "function") := dB_ok a9
  refine ⟨_, ee, hx, hf, ⟨⟨oexB_ok a1, dB_ok a2, dB_ok a3, dB_ok a4, a5⟩, xfB_ok a6, a7⟩, ?_, a9'⟩
  have q := dB_ok a8
  rw [q, hxa]
  rfl
theorem funD_at {x qual : Str} {params : Arguments} {body : List Stmt} {scope : Scope} {dvs : List V} {kws : List (Str × V)} {f : Addr} {fd : FuncData} (F : FunD K x qual params body scope dvs kws f fd) : ∃ oc od osl, K.lookup f = some ⟨oc, od, .func fd, osl⟩ := by
  obtain ⟨oc, od, dV, kV, doc, pm, an, cdv, ct, osl, rfl, lk, _⟩ := F.ex
  exact ⟨oc, od, osl, lk⟩
/-- the level n of a def -/
def Lev (md : Md) (P : Program) (w : World) (K : PySem.W.Frag) (mg : Str → Option Value) (base : Heap) (n : Nat) : Prop :=
  ∀ f d, md.defs[f]? = some d → ∃ fd, FnOk P w K mg base (L2.CX P w) (2 * n + 2) (He.fAd K d.at_) fd d.ps (spF (md.T K w) (md.Φ n) f d.ps.length) ∧ Binds K fd d.ps [] ∧ PySem.W.keepIn K (.ref (He.fAd K d.at_)) = true ∧ ∃ oc od osl, K.lookup (He.fAd K d.at_) = some ⟨oc, od, .func fd, osl⟩
/-- what a body of level n + 1 knows -/
theorem strs_vals : ∀ {zs : List Str} {vs : List Value}, strsB zs vs = true → Vals (zs.map V.str) vs
  | [], [], _ => .nil
  | [], v :: vs, h => by simp [strsB] at h
  | z :: zs, [], h => by simp [strsB] at h
  | z :: zs, v :: vs, h => by
    cases v with
    | str y t =>
      simp only [strsB, Bool.and_eq_true, decide_eq_true_eq] at h
      obtain ⟨rfl, h⟩ := h
      exact .cons ⟨t, rfl⟩ (strs_vals h)
    | _ => simp [strsB] at h
theorem strs_rp {T : Nm} {F : Hp} : ∀ {zs : List Str}, RpL T F (zs.map V.str) (zs.map D.str)
  | [] => .nil
  | z :: zs => .cons (.str z) strs_rp
theorem kn_of {X : Cx} {n : Nat} (fs : Fs md K mg) (lv : Lev md P w K mg base n) (h1 : X.prog = P) (h2 : X.w = w) (h3 : X.K = K) (h4 : X.mg = mg) (h5 : X.base = base) (hr : Room (2 * n + 3) X.A) (hN : X.N.Nodup) (hc : X.calm = true) : Kn (md.T K w) md.g (md.Φ n) (md.tb X.N) X := by
  subst h1 h2 h3 h4 h5
  obtain ⟨hp, XK, G⟩ := fs.X
  have hk := fs.chk
  unfold Md.chk at hk
  simp only [Bool.and_eq_true] at hk
  obtain ⟨k1, k2, k3, k4, k5, k6, k7, k8, k9, k10, k12, k11, k13⟩ := hk
  have lk := fs.lnk
  unfold Md.lnk at lk
  simp only [Bool.and_eq_true] at lk
  have clk : ∀ c x np, md.cls[c]? = some (x, np) → (∃ d, md.defs[md.g.ini c]? = some d ∧ d.at_ = (x, some ("__init__" : Str)) ∧ d.ps.length = np + 1) ∧ (md.g.eqk c = true → ∃ d, md.defs[md.g.eqf c]? = some d ∧ d.at_ = (x, some ("__eq__" : Str)) ∧ d.ps.length = 2) := by
    intro c x np e
    have q := all_range lk.2.1 (List.getElem?_eq_some_iff.mp e).1
    rw [e] at q
    simp only [Bool.and_eq_true, Bool.or_eq_true, Bool.not_eq_true'] at q
    refine ⟨lnkF_ok q.1, fun h => ?_⟩
    rcases q.2 with q | q
    · rw [h] at q; cases q
    · exact lnkF_ok q
  have cx : ∀ (c : Nat) (x : Str) (np : Nat), md.cls[c]? = some (x, np) → (md.cls.map (·.1)).getD c ("" : Str) = x := fun c x np e => getD_get (by rw [List.getElem?_map, e]; rfl)
  refine ⟨⟨rfl, rfl⟩, rfl, hN, hc, hr.units, rfl, ⟨fun c h => (cls_kn fs c h).1, fun c c' h h' => ?_⟩, fun f n e => getD_get e, fun f x np e => ?_, fun c x np e => ?_, fun i x e => ?_, fun b => ?_, He.free_ok XK G k9, He.free_ok XK G k10, fun x hx => He.free_ok XK G (List.all_eq_true.mp k12 x hx), fun c h e => ?_, rfl, rfl, fun c x e => ?_, fun c h => ?_, fun c c' h h' => ?_, fun m c x f np e => ?_, fun hG => ?_, fun c h e => ?_, fun hX => ?_⟩
  · have q := all_range (all_range k3 h) h'
    simp only [Bool.and_eq_true] at q
    exact dB_ok q.1
  · have e : md.fns[f]? = some (x, np) := e
    have q := all_range lk.1 (List.getElem?_eq_some_iff.mp e).1
    rw [e] at q
    obtain ⟨d, d1, d2, d3⟩ := lnkF_ok q
    obtain ⟨fd, F, b, kp, _⟩ := lv f d d1
    have ex : x ≠ "" ∨ x = "" := (Classical.em (x = "")).symm
    have g1 := all_get k1 e
    simp only [Bool.or_eq_true] at g1
    rw [d2] at F kp
    refine ⟨He.fAd X.K (x, none), ?_, ⟨kp, _, fd, d.ps, by rw [← d3]; exact F, hr.mono (by omega), b⟩⟩
    rcases g1 with g1 | g1
    · have := (fs.defs f d d1).1
      exact He.glo_ok XK G (by
        have g2 := dB_ok g1
        exact (fs.nb f x np e g2).elim)
    · exact He.glo_ok XK G g1
  · have e : md.cls[c]? = some (x, np) := e
    have hcl := (List.getElem?_eq_some_iff.mp e).1
    obtain ⟨q1, q2, q3⟩ := cls_kn fs c hcl
    obtain ⟨d, d1, d2, d3⟩ := (clk c x np e).1
    obtain ⟨fd, F, b, kp, _⟩ := lv _ d d1
    rw [cx c x np e] at q3
    refine ⟨q3, hcl, ⟨2 * n + 2, He.ma X.K ((md.T X.K X.w).cls c) "__init__", fd, d.ps, q2, ?_, hr, b⟩⟩
    rw [d2, d3] at F
    have ea : He.ma X.K ((md.T X.K X.w).cls c) "__init__" = He.fAd X.K (x, some "__init__") := by
      show He.ma X.K (He.ga X.K ((md.cls.map (·.1)).getD c ("" : Str))) "__init__" = _
      rw [cx c x np e]; rfl
    rw [ea]; exact F
  · have e : (md.gls.map (·.1))[i]? = some x := e
    rw [List.getElem?_map] at e
    obtain ⟨p, e1, rfl⟩ := Option.map_eq_some_iff.mp e
    have q := all_get k11 e1
    have eg : md.g.gl i = some p.2.d := by show (md.gls[i]?).map _ = _; rw [e1]; rfl
    obtain ⟨px, pv⟩ := p
    cases pv with
    | int z =>
      obtain ⟨t, ht⟩ := He.int_ok XK G q
      exact ⟨.int z t, .int z, .int z, ht, ⟨t, rfl⟩, fun F => .int _, eg⟩
    | txs zs =>
      have q : tupB X.K px zs = true := q
      unfold tupB at q
      simp only [Bool.and_eq_true] at q
      obtain ⟨q1, q2⟩ := q
      split at q2
      · rename_i dd its n sl ho
        simp only [Bool.and_eq_true, decide_eq_true_eq] at q2
        refine ⟨.ref (He.ga X.K px), .ref (He.ga X.K px), .tup (zs.map .str), He.glo_ok XK G q1, rfl, fun F => .tup (xs := zs.map V.str) (.inr ⟨_, its, n, ho, rfl, rfl, Nat.le_trans q2.2 (by decide), strs_vals q2.1⟩) strs_rp, eg⟩
      · cases q2
  · exact He.free_ok XK G (List.all_eq_true.mp k8 b (bfs_all b))
  · have ee : md.cls[c]? = some md.cls[c] := List.getElem?_eq_getElem h
    obtain ⟨d, d1, d2, d3⟩ := (clk c _ _ ee).2 e
    obtain ⟨fd, F, b, kp, _⟩ := lv _ d d1
    have q := all_range k4 h
    have q : eqB X.K ((md.cls.map (·.1)).getD c ("" : Str)) = true := by
      have e' : (md.eqf.getD c none).isSome = true := e
      rw [e'] at q
      exact q
    rw [cx c _ _ ee] at q
    unfold eqB at q
    simp only [Bool.and_eq_true] at q
    obtain ⟨a1, a2, a3, a4, a5⟩ := q
    have ea : (md.T X.K X.w).cls c = He.ga X.K md.cls[c].1 := by
      show He.ga X.K ((md.cls.map (·.1)).getD c ("" : Str)) = _
      rw [cx c _ _ ee]
      rfl
    rw [d2, d3] at F
    refine ⟨⟨2 * n + 2, He.fAd X.K (md.cls[c].1, some "__eq__"), fd, d.ps, ?_, ?_, F, hr, b⟩, by rw [ea]; exact dB_ok a4, by rw [ea]; exact dB_ok a5, fun m hm => ?_, fun c' h' => ?_⟩
    · rw [ea]; exact dB_ok a1
    · exact a2
    · rw [ea]; exact List.all_eq_true.mp a3 m hm
    · have q := all_range (all_range k3 h) h'
      simp only [Bool.and_eq_true] at q
      exact q.2
  · have e : md.xcs[c]? = some x := e
    have q := He.glo_ok XK G (all_get k6 e)
    show X.mg x = some (.ref (He.ga X.K (md.xcs.getD c ("" : Str))))
    rw [getD_get e]; exact q
  · obtain ⟨e, e1, e2, e3, e4, e5, e6⟩ := err_kn fs c h
    obtain ⟨o1, fd, F, b⟩ := fs.errs c e e1
    refine ⟨e4, 1, He.fAd X.K (e.x, some "__init__"), fd, _, e5, e6, ?_, hr.mono (by omega), b⟩
    rw [e3]
    exact err_fn o1 F
  · exact dB_ok (all_range (all_range k7 h) h')
  · have e : md.meths[m]? = some (c, x, f, np) := e
    have q := all_get lk.2.2 e
    dsimp only at q
    cases ec : md.cls[c]? with
    | none => rw [ec] at q; cases q
    | some p =>
      obtain ⟨y, np0⟩ := p
      rw [ec] at q
      simp only [Bool.and_eq_true, Bool.not_eq_true'] at q
      obtain ⟨q1, q2⟩ := q
      obtain ⟨d, d1, d2, d3⟩ := lnkF_ok q1
      obtain ⟨fd, F, b, kp, _⟩ := lv f d d1
      rw [d2] at F
      unfold Md.chkM at k13
      simp only [Bool.and_eq_true] at k13
      have mk := He.meth_ok (all_get k13.1 e)
      have ea : (md.T X.K X.w).cls c = He.ga X.K ((md.cls.map (·.1)).getD c ("" : Str)) := rfl
      have ey : (md.cls.map (·.1)).getD c ("" : Str) = y := cx c y np0 ec
      refine ⟨(List.getElem?_eq_some_iff.mp ec).1, ?_, ?_, 2 * n + 2, He.fAd X.K (y, some x), fd, d.ps, ?_, by rw [← d3]; exact F, hr.mono (by omega), b⟩
      · show (md.meths[m]?).map _ = _
        rw [e]; rfl
      · intro z
        rw [← List.contains_iff_mem] at z
        have z' : (((md.flds.getD c []).map fun f => md.fnm.getD f ("" : Str)).contains x) = true := z
        rw [z'] at q2; cases q2
      · rw [ea, ey]
        dsimp only at mk
        rw [ey] at mk
        exact mk
  · unfold Md.chkM at k13
    simp only [Bool.and_eq_true, Bool.or_eq_true, Bool.not_eq_true'] at k13
    have hG : md.hasG = true := hG
    rcases k13.2.1 with z | z
    · rw [hG] at z; cases z
    · unfold gcdB at z
      split at z
      · rename_i id hn
        have : id = "math.gcd" := of_decide_eq_true z
        subst this
        exact PySem.W.mg_of XK G hn
      · cases z
  · have h : c < md.cls.length := h
    have q := all_range k4 h
    have e' : (md.eqf.getD c none).isSome = false := e
    rw [e'] at q
    have q : idB X.K ((md.cls.map (·.1)).getD c ("" : Str)) = true := q
    have kn : ClsKn (md.T X.K X.w) X.K c := (cls_kn fs c h).1
    exact ⟨kn.hm, dB_ok q⟩
  · unfold Md.chkM at k13
    simp only [Bool.and_eq_true, Bool.or_eq_true, Bool.not_eq_true'] at k13
    have hX : md.hasX = true := hX
    rcases k13.2.2 with z | z
    · rw [hX] at z; cases z
    · unfold Md.xisB at z
      simp only [Bool.and_eq_true] at z
      obtain ⟨z1, z2⟩ := z
      refine ⟨He.free_ok XK G z1, ⟨fun c h => ?_, fun c c' h h' => ?_, fun c h => ?_⟩⟩
      · have q := all_range z2 h
        simp only [Bool.and_eq_true] at q
        have q := q.1
        unfold excB at q
        simp only [Bool.and_eq_true] at q
        obtain ⟨a1, a2, a3, a4, a5, a6, a7, a8⟩ := q
        exact ⟨dB_ok a1, dB_ok a2, dB_ok a3, a4, dB_ok a5, dB_ok a6, dB_ok a7, dB_ok a8⟩
      · have q := all_range z2 h
        simp only [Bool.and_eq_true] at q
        exact dB_ok (all_range q.2.2 h')
      · have q := all_range z2 h
        simp only [Bool.and_eq_true] at q
        exact dB_ok q.2.1
theorem Lev.zero (fs : Fs md K mg) : Lev md P w K mg base 0 := by
  intro f d e
  obtain ⟨_, fd, F, b⟩ := fs.defs f d e
  refine ⟨fd, ⟨fun vs H Q E h => h.1, fun A outer s H args us vs Q E hr e0 hb hv h => ?_⟩, b, F.kp, funD_at F⟩
  obtain ⟨_, F, L, rs, _, _, h⟩ := h
  exact h.elim
theorem Lev.succ {n : Nat} (fs : Fs md K mg) (lv : Lev md P w K mg base n) : Lev md P w K mg base (n + 1) := by
  intro f d e
  obtain ⟨ok, fd, F, b⟩ := fs.defs f d e
  unfold DefI.okB at ok
  simp only [Bool.and_eq_true] at ok
  obtain ⟨ok1, ok2⟩ := ok
  have S := C8.fnScope_by ok1
  refine ⟨fd, F.ok (k := 2 * n + 3) S (fun vs H Q E h => h.1) fun cdv A outer s H vs Q E hr h => ?_, b, F.kp, funD_at F⟩
  obtain ⟨hp, F0, L, rs, hl, rp, h⟩ := h
  have kn : Kn (md.T K w) md.g (md.Φ n) (md.tb d.N) (cxOf (L2.CX P w) P w K mg base d.N d.qual (defScope d.st) (He.fAd K d.at_) cdv A outer s H E) :=
    kn_of (X := cxOf (L2.CX P w) P w K mg base d.N d.qual (defScope d.st) (He.fAd K d.at_) cdv A outer s H E) fs lv rfl rfl rfl rfl rfl hr S.nd rfl
  have tk : Takes (cxOf (L2.CX P w) P w K mg base d.N d.qual (defScope d.st) (He.fAd K d.at_) cdv A outer s H E) (fun cls dd _ H => E cls dd H) := takes_of rfl rfl rfl rfl
  have po : PassesOwn (model P w) (cxOf (L2.CX P w) P w K mg base d.N d.qual (defScope d.st) (He.fAd K d.at_) cdv A outer s H E).A (cxOf (L2.CX P w) P w K mg base d.N d.qual (defScope d.st) (He.fAd K d.at_) cdv A outer s H E).env (cxOf (L2.CX P w) P w K mg base d.N d.qual (defScope d.st) (He.fAd K d.at_) cdv A outer s H E).xe :=
    passes_of (X := cxOf (L2.CX P w) P w K mg base d.N d.qual (defScope d.st) (He.fAd K d.at_) cdv A outer s H E) rfl
  refine ⟨_, snSs d.body (defScope d.st) (defBody d.st) _ _ kn ⟨rfl, rfl, rfl, fun _ => rfl, S.kind⟩ tk po ok2, ?_⟩
  refine body_sp (f := f) hl hp rp ?_
  have e2 : md.Φ (n + 1) f rs = d.fin (evSs md.g (md.Φ n) d.body (d.env rs)) := by
    show (match md.defs[f]? with
      | some d => if rs.length = d.ps.length then d.fin (evSs md.g (md.Φ n) d.body (d.env rs)) else .stuck
      | none => .stuck) = _
    rw [e]
    show (if rs.length = d.ps.length then d.fin (evSs md.g (md.Φ n) d.body (d.env rs)) else .stuck) = _
    rw [if_pos (hl.trans hp)]
  rw [e2] at h
  exact h
theorem lev (fs : Fs md K mg) : ∀ n, Lev md P w K mg base n
  | 0 => .zero fs
  | n + 1 => .succ fs (lev fs n)
end
end Fx
end
section
set_option linter.all false
set_option Elab.async false
set_option maxRecDepth 100000
set_option maxHeartbeats 4000000
/-! The head's Hook, and the law's end. -/
namespace Fx
open PySem PySem.Spec L2
variable (md : Md)
def DefI.dd (d : DefI) : He.DefD := ⟨d.at_, d.name, d.qual, defArgs d.st, defBody d.st, defScope d.st, [], []⟩
def ErrI.dd (e : ErrI) : He.DefD := ⟨(e.x, some "__init__"), "__init__", e.qual, defArgs e.st, defBody e.st, defScope e.st, [], []⟩
def Md.fn : List He.DefD := md.defs.map DefI.dd ++ md.errs.map ErrI.dd
def Md.obsK (K : PySem.W.Frag) : He.AlD := (md.chk K && md.fn.all fun d => d.ok K, md.fn.map fun d => He.fnW K d.at_)
def Md.valK : He.AlD := (true, md.fn.map He.DefD.val)
def Md.obsG (n : Nat) (g : Addr → Option Obj) : He.AlD := md.obsK (He.frG g (asQ g n))
def Md.hook (n : Nat) : PySem.W.Hook where
  α := He.AlD
  obs := fun s => md.obsG n s.heap.get?
  val := fun _ => md.valK
  says := fun _ h => ∃ K : PySem.W.Frag, K.In h ∧ md.obsK K = md.valK
  of := fun _ _ e => ⟨_, He.frG_in, e⟩
  keeps := fun _ _ _ ⟨K, hK, c⟩ k => ⟨K, PySem.W.Frag.In.keeps hK k, c⟩
theorem Md.obsG_eq {n : Nat} {g : Addr → Option Obj} {s : Shared} (h : ∀ a, g a = s.heap.get? a) : md.obsG n g = (md.hook n).obs s := by
  have e : g = s.heap.get? := funext h
  rw [e] <;> rfl
/-- the run's equation, out of its parts -/
theorem run_join {n M : Nat} {r : PySem.W.OpenRow} {q : Program} {loose : List Str} {w : World}
    (h0 : ∀ os : OsState, (HandSHeadRun.endF (HandSHeadRun.stepQ (HandSHeadRun.denQ HandSHeadRun.tabQ) r.prog w) M r.prog w os).map (fun s => (HandSHeadRun.looksF r.prog (PySem.W.boot_heap w.params) s.abs, HandSHeadRun.seenQ q loose (importedModules r.prog.main.body) (fun s => PySem.W.xlAt q [] s && PySem.W.recOk r.toRowW.records s) s.abs)) = some (true, PySem.W.openGood q loose))
    (h1 : ∀ os : OsState, (HandSHeadRun.endF (HandSHeadRun.stepQ (HandSHeadRun.denQ HandSHeadRun.tabQ) r.prog w) M r.prog w os).map (fun s => md.chkA (He.frG (HandSHeadRun.getT s) (asQ (HandSHeadRun.getT s) n))) = some true)
    (h2 : ∀ os : OsState, (HandSHeadRun.endF (HandSHeadRun.stepQ (HandSHeadRun.denQ HandSHeadRun.tabQ) r.prog w) M r.prog w os).map (fun s => md.chkB (He.frG (HandSHeadRun.getT s) (asQ (HandSHeadRun.getT s) n))) = some true)
    (h3 : ∀ os : OsState, (HandSHeadRun.endF (HandSHeadRun.stepQ (HandSHeadRun.denQ HandSHeadRun.tabQ) r.prog w) M r.prog w os).map (fun s => md.fn.all fun d => d.ok (He.frG (HandSHeadRun.getT s) (asQ (HandSHeadRun.getT s) n))) = some true)
    (h4 : ∀ os : OsState, (HandSHeadRun.endF (HandSHeadRun.stepQ (HandSHeadRun.denQ HandSHeadRun.tabQ) r.prog w) M r.prog w os).map (fun s => md.fn.map fun d => He.fnW (He.frG (HandSHeadRun.getT s) (asQ (HandSHeadRun.getT s) n)) d.at_) = some (md.fn.map He.DefD.val)) :
    HandSHeadRun.RunEq r q (md.hook n) (fun s => md.obsG n (HandSHeadRun.getT s)) M loose w := by
  intro os
  have h0 := h0 os
  have h1 := h1 os
  have h2 := h2 os
  have h3 := h3 os
  have h4 := h4 os
  cases e : HandSHeadRun.endF (HandSHeadRun.stepQ (HandSHeadRun.denQ HandSHeadRun.tabQ) r.prog w) M r.prog w os with
  | none => rw [e] at h0; cases h0
  | some s =>
    rw [e] at h0 h1 h2 h3 h4
    have g1 : md.chkA (He.frG (HandSHeadRun.getT s) (asQ (HandSHeadRun.getT s) n)) = true := Option.some.inj h1
    have g2 : md.chkB (He.frG (HandSHeadRun.getT s) (asQ (HandSHeadRun.getT s) n)) = true := Option.some.inj h2
    have g3 : (md.fn.all fun d => d.ok (He.frG (HandSHeadRun.getT s) (asQ (HandSHeadRun.getT s) n))) = true := Option.some.inj h3
    have g4 : (md.fn.map fun d => He.fnW (He.frG (HandSHeadRun.getT s) (asQ (HandSHeadRun.getT s) n)) d.at_) = md.fn.map He.DefD.val := Option.some.inj h4
    have g5 := md.chk_ab _ g1 g2
    have g6 : md.obsG n (HandSHeadRun.getT s) = md.valK := by
      show (md.chk (He.frG (HandSHeadRun.getT s) (asQ (HandSHeadRun.getT s) n)) && md.fn.all (fun d => d.ok (He.frG (HandSHeadRun.getT s) (asQ (HandSHeadRun.getT s) n))), md.fn.map fun d => He.fnW (He.frG (HandSHeadRun.getT s) (asQ (HandSHeadRun.getT s) n)) d.at_) = (true, md.fn.map He.DefD.val)
      rw [g5, g3, g4]
      rfl
    show some (_, _, md.obsG n (HandSHeadRun.getT s)) = some (_, _, md.valK)
    rw [g6]
    have g7 := Prod.mk.inj (Option.some.inj h0)
    exact congrArg some (Prod.ext g7.1 (Prod.ext g7.2 rfl))
/-- how a def binds: every parameter is written -/
def BA (name qual : Str) (params : Arguments) (body : List Stmt) (scope : Scope) (ps : List Str) : Prop :=
  ∀ (kV doc pm : Value) (an : Option Addr) (cdv ct : Value) (us : List Value), us.length = ps.length → bindArgs (PySem.W.fnOf name qual params body scope .none kV doc pm an cdv ct) ⟨us, []⟩ = pure (ps.zip us)
def DefI.ba (d : DefI) : Prop := BA d.name d.qual (defArgs d.st) (defBody d.st) (defScope d.st) d.ps
def ErrI.ba (e : ErrI) : Prop := BA "__init__" e.qual (defArgs e.st) (defBody e.st) (defScope e.st) [e.s, e.v]
/-- for each of a list -/
def Each {α : Type} (p : α → Prop) : List α → Prop
  | [] => True
  | a :: l => p a ∧ Each p l
theorem Each.get {α : Type} {p : α → Prop} : ∀ {l : List α} {i : Nat} {a : α}, Each p l → l[i]? = some a → p a
  | [], _, _, _, e => by simp at e
  | b :: l, 0, a, h, e => by simp at e; subst e; exact h.1
  | b :: l, i + 1, a, h, e => Each.get h.2 (by simpa using e)
variable {md}
theorem obs_get {K : PySem.W.Frag} (h : md.obsK K = md.valK) : md.chk K = true ∧ ∀ (i : Nat) (d : He.DefD), md.fn[i]? = some d → ∃ fd, FunD K d.name d.qual d.params d.body d.scope (d.dvs K) (d.kws K) (He.fAd K d.at_) fd := by
  have c1 : (md.chk K && md.fn.all fun d => d.ok K) = true := congrArg (fun z : He.AlD => z.1) h
  have c2 : md.fn.map (fun d => He.fnW K d.at_) = md.fn.map He.DefD.val := congrArg (fun z : He.AlD => z.2) h
  simp only [Bool.and_eq_true] at c1
  refine ⟨c1.1, fun i d e => ?_⟩
  have e2 : (md.fn.map fun d => He.fnW K d.at_)[i]? = (md.fn.map He.DefD.val)[i]? := by rw [c2]
  rw [List.getElem?_map, List.getElem?_map, e] at e2
  exact He.DefD.funD (Option.some.inj e2) (List.all_eq_true.mp c1.2 d (List.mem_of_getElem? e))
theorem fs_of {K : PySem.W.Frag} {mg : Str → Option Value} {h : Heap} (X : K.In h) (G : h.Ns mainGlobals mg) (o : md.obsK K = md.valK) (sh : md.shape = true) (lk : md.lnk = true) (nb : ∀ (f : Nat) (x : Str) (np : Nat), md.fns[f]? = some (x, np) → x = "" → False)
    (ok : Each (fun d : DefI => d.okB md = true) md.defs) (eok : Each (fun e : ErrI => e.okB = true) md.errs) (b : Each DefI.ba md.defs) (eb : Each ErrI.ba md.errs) : Fs md K mg := by
  obtain ⟨c, g⟩ := obs_get o
  refine ⟨⟨h, X, G⟩, c, sh, lk, nb, fun f d e => ⟨ok.get e, ?_⟩, fun i e ee => ⟨eok.get ee, ?_⟩⟩
  · obtain ⟨fd, F⟩ := g f d.dd (by unfold Md.fn; rw [List.getElem?_append_left (by rw [List.length_map]; exact (List.getElem?_eq_some_iff.mp e).1), List.getElem?_map, e]; rfl)
    exact ⟨fd, F, FunD.bindsN F (b.get e)⟩
  · obtain ⟨fd, F⟩ := g (md.defs.length + i) e.dd (by
      unfold Md.fn
      rw [List.getElem?_append_right (by rw [List.length_map]; omega), List.length_map, Nat.add_sub_cancel_left, List.getElem?_map, ee]; rfl)
    exact ⟨fd, F, FunD.bindsN F (eb.get ee)⟩
/-- what a def lets out, at whatever world -/
def CXu (P : Program) : CXT := fun outer H s E u s' => ∃ w, L2.CX P w outer H s E u s'
theorem CXu_no {P : Program} : ∀ (H : Hp) (s : Shared) (e : Value) (s' : Shared), CXu P [] H s (fun _ _ _ => False) e s' → False := fun H s e s' h => by
  obtain ⟨_, _, _, _, _, _, _, _, _, _, _, _, _, q⟩ := h
  exact q
theorem fn_cxu {P : Program} {w : World} {K : PySem.W.Frag} {mg : Str → Option Value} {base : Heap} {k : Nat} {f : Addr} {fd : FuncData} {ps : List Str} {sp : Sp} (F : FnOk P w K mg base (L2.CX P w) k f fd ps sp) : FnOk P w K mg base (CXu P) k f fd ps sp :=
  ⟨F.len, fun A outer s H args us vs Q E hr e0 hb hv hs => codeAny_mono (F.run A outer s H args us vs Q E hr e0 hb hv hs) fun r s' q => by
    cases r with
    | error e => exact ⟨w, q⟩
    | ok fl => cases fl <;> exact q⟩
theorem law_F {P : Program} {n f np : Nat} {d : DefI} {x : Str} {w : World} {mg : Str → Option Value} {fa : Addr} {h : Heap} (Y : ∃ K : PySem.W.Frag, K.In h ∧ md.obsK K = md.valK) (G : h.Ns mainGlobals mg) (hm : mg ("law" : Str) = some (.ref fa))
    (hd : md.defs[f]? = some d) (hat : d.at_ = (("law" : Str), none)) (hps : d.ps = [x]) (hf : md.fns[f]? = some (("law" : Str), np))
    (sh : md.shape = true) (lk : md.lnk = true) (nb : ∀ (f : Nat) (x : Str) (np : Nat), md.fns[f]? = some (x, np) → x = "" → False)
    (ok : Each (fun d : DefI => d.okB md = true) md.defs) (eok : Each (fun e : ErrI => e.okB = true) md.errs) (b : Each DefI.ba md.defs) (eb : Each ErrI.ba md.errs)
    (tr : ∀ ns : List Int, ns.length ≤ 63 → ∃ outs, md.Φ n f [.val (.lst (ns.map .int))] = .ok (.val (.bl true)) outs) :
    ∃ (K : PySem.W.Frag) (fd : FuncData) (sp : Sp), K.In h ∧ (∀ (s : Shared) (u : Value), BindsTo s fd ⟨[u], []⟩ [(x, u)]) ∧
        (∀ (H : Hp) (a : Addr) (ns : List Int), ns.length ≤ 63 → Only H → SqL K H a (ns.map V.int) → sp [.ref a] H (fun v _ => v = .bl true) fun _ _ _ => False) ∧
        ∀ base : Heap, K.In base → base.Ns mainGlobals mg → FnOk P w K mg base (CXu P) (2 * n + 2) fa fd [x] sp := by
  obtain ⟨K, X, o⟩ := Y
  have fs := fs_of X G o sh lk nb ok eok b eb
  obtain ⟨c, g⟩ := obs_get o
  obtain ⟨fd0, F0⟩ := g f d.dd (by unfold Md.fn; rw [List.getElem?_append_left (by rw [List.length_map]; exact (List.getElem?_eq_some_iff.mp hd).1), List.getElem?_map, hd]; rfl)
  have hfa : fa = He.fAd K d.at_ := by
    have hk := fs.chk
    unfold Md.chk at hk
    simp only [Bool.and_eq_true] at hk
    have q := all_get hk.1 hf
    simp only [Bool.or_eq_true] at q
    have q : (He.Fa.glo ("law" : Str)).ok K = true := by
      rcases q with q | q
      · exact absurd (dB_ok q) (by decide)
      · exact q
    have q2 := He.glo_ok X G q
    rw [hm] at q2
    rw [hat]
    cases q2
    rfl
  refine ⟨K, fd0, spF (md.T K w) (md.Φ n) f d.ps.length, X, fun s u => ?_, fun H a ns hl hO hS => ?_, fun base Xb Gb => ?_⟩
  · have q := FunD.bindsA F0 (b.get hd) s [u] (by rw [hps]; rfl)
    rw [hps] at q
    exact q
  · rw [hps]
    refine ⟨rfl, H, [], [.val (.lst (ns.map .int))], rfl, ?_, ?_⟩
    · have rl : ∀ ns : List Int, RpL (md.T K w) H (ns.map V.int) (ns.map D.int) := by
        intro ns
        induction ns with
        | nil => exact .nil
        | cons i ns ih => exact .cons (.int i) ih
      exact ⟨Same.refl _, [] ++ [], .cons (.val (.lst hS (rl ns))) .nil, .nil, fun a ha => by cases ha⟩
    · obtain ⟨outs, e⟩ := tr ns hl
      rw [e]
      intro v F' H' rp
      have r := rp.rp
      cases r
      rfl
  · obtain ⟨fd, F, b', kp, oc, od, osl, l1⟩ := lev (P := P) (w := w) (base := base) fs n f d hd
    have efd : fd = fd0 := by
      obtain ⟨oc', od', osl', l2⟩ := funD_at F0
      have l2 : K.lookup (He.fAd K d.at_) = some ⟨oc', od', .func fd0, osl'⟩ := l2
      rw [l1] at l2
      have := Option.some.inj l2
      injection this with _ _ h3
      injection h3
    rw [hfa, ← hps, ← efd]
    exact fn_cxu F
end Fx
end
section
set_option linter.all false
set_option Elab.async false
set_option maxRecDepth 100000
set_option maxHeartbeats 4000000
namespace KL
open Fx
open PySem PySem.Spec L2
def F_is_integer : Nat := 0
def F_is_within : Nat := 1
def F_is_tuple : Nat := 2
def F_is_ascending : Nat := 3
def F_is_rising : Nat := 4
def F_is_bunch : Nat := 5
def F_are_rows : Nat := 6
def F__law_box : Nat := 7
def F__law_take : Nat := 8
def F__law_pick : Nat := 9
def F__law_ones : Nat := 10
def F__law_kinds : Nat := 11
def F_law : Nat := 12
def F_Table_init : Nat := 13
def C_Table : Nat := 0
def X_InvalidNumber : Nat := 0
def X_InvalidLocks : Nat := 1
def X_InvalidKeys : Nat := 2
def X_InvalidKind : Nat := 3
def X_InvalidCut : Nat := 4
def X_InvalidCuts : Nat := 5
def X_InvalidTable : Nat := 6
def X_InvalidPair : Nat := 7
def X_InvalidQuestion : Nat := 8
def X_InvalidClaim : Nat := 9
def X_Undefined : Nat := 10
def X_NothingToUndo : Nat := 11
def X_LockError : Nat := 12
def A_many : Nat := 0
def A_rows : Nat := 1
def G_MOST_KEYS : Nat := 0
def G_MOST_LOCKS : Nat := 1
def b_is_integer : ISs := (.cons (.ret (.bop true (.cons (.isi (.var 0) .int) (.cons (.nt (.isi (.var 0) .bool)) .nil)))) .nil)
def b_is_within : ISs := (.cons (.ret (.bop true (.cons (.call F_is_integer (.cons (.var 0) .nil)) (.cons (.cmp2 .LtE .LtE (.var 1) (.var 0) (.var 2)) .nil)))) .nil)
def b_is_tuple : ISs := (.cons (.ret (.bop true (.cons (.isi (.var 0) .tuple) (.cons (.cmp2 .LtE .LtE (.var 1) (.cb .len (.cons (.var 0) .nil)) (.var 2)) .nil)))) .nil)
def b_is_ascending : ISs := (.cons (.ret (.cb .all (.cons (.comp (.cmp .Lt (.idx (.var 0) (.bin .Sub (.var 1) (.cst (.int 1)))) (.idx (.var 0) (.var 1))) [1] (.one 1) (.seq (.cb .range (.cons (.cst (.int 1)) (.cons (.cb .len (.cons (.var 0) .nil)) .nil)))) .non) .nil))) .nil)
def b_is_rising : ISs := (.cons (.ret (.bop true (.cons (.isi (.var 0) .tuple) (.cons (.cb .all (.cons (.comp (.call F_is_within (.cons (.var 2) (.cons (.cst (.int 0)) (.cons (.var 1) .nil)))) [2] (.one 2) (.seq (.var 0)) .non) .nil)) (.cons (.call F_is_ascending (.cons (.var 0) .nil)) .nil))))) .nil)
def b_is_bunch : ISs := (.cons (.ret (.bop true (.cons (.call F_is_rising (.cons (.var 0) (.cons (.bin .Sub (.var 1) (.cst (.int 1))) .nil))) (.cons (.cmp .Gt (.cb .len (.cons (.var 0) .nil)) (.cst (.int 0))) .nil)))) .nil)
def b_are_rows : ISs := (.cons (.ret (.bop true (.cons (.call F_is_tuple (.cons (.var 0) (.cons (.cst (.int 1)) (.cons (.glob G_MOST_LOCKS) .nil)))) (.cons (.cb .all (.cons (.comp (.call F_is_bunch (.cons (.var 2) (.cons (.var 1) .nil))) [2] (.one 2) (.seq (.var 0)) .non) .nil)) .nil)))) .nil)
def b__law_box : ISs := (.cons (.asg 2 (.bin .Add (.bin .Mult (.cst (.int 7919)) (.var 1)) (.cst (.int 101)))) (.cons (.ifs (.cmp .Lt (.var 1) (.cb .len (.cons (.var 0) .nil))) (.cons (.asg 2 (.cb .abs (.cons (.idx (.var 0) (.var 1)) .nil))) .nil) (.cons (.ifs (.cmp .Gt (.cb .len (.cons (.var 0) .nil)) (.cst (.int 0))) (.cons (.asg 2 (.bin .Add (.bin .Mult (.bin .Mod (.cb .int (.cons (.cb .abs (.cons (.idx (.var 0) (.bin .Mod (.cb .int (.cons (.var 1) .nil)) (.cb .len (.cons (.var 0) .nil)))) .nil)) .nil)) (.cst (.int 1000000007))) (.cst (.int 31))) (.bin .Mult (.cst (.int 7919)) (.var 1)))) .nil) .nil) .nil)) (.cons (.asg 3 (.idx (.lst (.cons (.cst (.int 0)) (.cons (.var 2) .nil))) (.cb .int (.cons (.cmp .GtE (.var 2) (.bin .Pow (.cst (.int 10)) (.cst (.int 18)))) .nil)))) (.cons (.ret (.lst (.cons (.var 3) (.cons (.bin .Add (.bin .Mod (.cb .int (.cons (.bin .Add (.bin .Mult (.bin .Mod (.cb .int (.cons (.var 2) .nil)) (.cst (.int 1000000007))) (.cst (.int 48271))) (.bin .Mult (.cst (.int 613)) (.var 1))) .nil)) (.cst (.int 2147483647))) (.cst (.int 1))) .nil)))) .nil))))
def b__law_take : ISs := (.cons (.ifs (.cmp .Gt (.idx (.var 0) (.cst (.int 0))) (.cst (.int 0))) (.cons (.asg 2 (.bin .Mod (.cb .int (.cons (.idx (.var 0) (.cst (.int 0))) .nil)) (.var 1))) (.cons (.seti 0 (.cst (.int 0)) (.bin .FloorDiv (.idx (.var 0) (.cst (.int 0))) (.var 1))) (.cons (.retm 2) .nil))) .nil) (.cons (.seti 0 (.cst (.int 1)) (.bin .Mod (.cb .int (.cons (.bin .Add (.bin .Mult (.idx (.var 0) (.cst (.int 1))) (.cst (.int 39373))) (.cst (.int 69621))) .nil)) (.cst (.int 2147483647)))) (.cons (.ret (.bin .Mod (.cb .int (.cons (.bin .FloorDiv (.idx (.var 0) (.cst (.int 1))) (.cst (.int 8191))) .nil)) (.var 1))) .nil)))
def b__law_pick : ISs := (.cons (.ret (.idx (.var 1) (.call F__law_take (.cons (.var 0) (.cons (.cb .len (.cons (.var 1) .nil)) .nil))))) .nil)
def b__law_ones : ISs := (.cons (.asg 1 (.lst (.cons (.emk X_InvalidNumber (.var 0)) (.cons (.emk X_InvalidLocks (.var 0)) (.cons (.emk X_InvalidKeys (.var 0)) (.cons (.emk X_InvalidKind (.var 0)) (.cons (.emk X_InvalidCut (.var 0)) (.cons (.emk X_InvalidCuts (.var 0)) .nil)))))))) (.cons (.ret (.bin .Add (.var 1) (.lst (.cons (.emk X_InvalidTable (.var 0)) (.cons (.emk X_InvalidPair (.var 0)) (.cons (.emk X_InvalidQuestion (.var 0)) (.cons (.emk X_InvalidClaim (.var 0)) .nil))))))) .nil))
def b__law_kinds : ISs := (.cons (.asg 1 (.lst (.cons (.isx (.var 0) (some X_InvalidNumber)) (.cons (.isx (.var 0) (some X_InvalidLocks)) (.cons (.isx (.var 0) (some X_InvalidKeys)) (.cons (.isx (.var 0) (some X_InvalidKind)) .nil)))))) (.cons (.asg 1 (.bin .Add (.var 1) (.lst (.cons (.isx (.var 0) (some X_InvalidCut)) (.cons (.isx (.var 0) (some X_InvalidCuts)) (.cons (.isx (.var 0) (some X_InvalidTable)) .nil)))))) (.cons (.asg 1 (.bin .Add (.var 1) (.lst (.cons (.isx (.var 0) (some X_InvalidPair)) (.cons (.isx (.var 0) (some X_InvalidQuestion)) (.cons (.isx (.var 0) (some X_InvalidClaim)) .nil)))))) (.cons (.asg 1 (.bin .Add (.var 1) (.lst (.cons (.isx (.var 0) (some X_Undefined)) (.cons (.isx (.var 0) (some X_NothingToUndo)) .nil))))) (.cons (.ret (.bin .Add (.var 1) (.lst (.cons (.isx (.var 0) (some X_LockError)) (.cons (.isx (.var 0) none) .nil))))) .nil)))))
def b_law_T0 : ISs := (.cons (.ex (.make C_Table (.cons (.cst (.int 0)) (.cons (.tup .nil) .nil)))) (.cons (.ret (.cst (.bl false))) .nil))
def b_law_L0 : ISs := (.cons (.ifs (.cmp .NotEq (.call F__law_kinds (.cons (.idx (.var 4) (.var 8)) .nil)) (.comp (.bop false (.cons (.cmp .Eq (.var 10) (.var 8)) (.cons (.cmp .GtE (.var 10) (.cb .len (.cons (.var 4) .nil))) .nil))) [10] (.one 10) (.seq (.cb .range (.cons (.bin .Add (.cb .len (.cons (.var 4) .nil)) (.cst (.int 2))) .nil))) .non)) (.cons (.ret (.cst (.bl false))) .nil) .nil) .nil)
def b_law_L1 : ISs := (.cons (.ifs (.cmp .NotEq (.eat (.var 5) "value") (.var 3)) (.cons (.ret (.cst (.bl false))) .nil) .nil) .nil)
def b_law : ISs := (.cons (.asg 1 (.call F__law_box (.cons (.var 0) (.cons (.cst (.int 0)) .nil)))) (.cons (.asg 2 (.lst (.cons (.bin .Sub (.call F__law_take (.cons (.var 1) (.cons (.bin .Pow (.cst (.int 10)) (.cst (.int 6))) .nil))) (.cst (.int 500000))) (.cons (.bin .Add (.cst (.str "text ")) (.cb .str (.cons (.call F__law_take (.cons (.var 1) (.cons (.cst (.int 99)) .nil))) .nil))) (.cons (.tup (.cons (.cst (.int 1)) (.cons (.call F__law_take (.cons (.var 1) (.cons (.cst (.int 9)) .nil))) .nil))) .nil))))) (.cons (.asg 2 (.bin .Add (.var 2) (.lst (.cons (.lst (.cons (.call F__law_take (.cons (.var 1) (.cons (.cst (.int 9)) .nil))) .nil)) (.cons (.cst .non) (.cons (.cst (.bl true)) (.cons (.tup .nil) .nil))))))) (.cons (.asg 3 (.call F__law_pick (.cons (.var 1) (.cons (.var 2) .nil)))) (.cons (.asg 4 (.call F__law_ones (.cons (.var 3) .nil))) (.cons (.for_ (.one 5) (.seq (.var 4)) b_law_L1) (.cons (.par [6, 7] (.cons (.emk X_Undefined (.var 3)) (.cons (.emk X_NothingToUndo (.var 3)) .nil))) (.cons (.ifs (.bop false (.cons (.cmp .NotEq (.eat (.var 6) "what") (.var 3)) (.cons (.cmp .NotEq (.eat (.var 7) "word") (.var 3)) .nil))) (.cons (.ret (.cst (.bl false))) .nil) .nil) (.cons (.asg 4 (.bin .Add (.var 4) (.lst (.cons (.var 6) (.cons (.var 7) .nil))))) (.cons (.for_ (.one 8) (.seq (.cb .range (.cons (.cb .len (.cons (.var 4) .nil)) .nil))) b_law_L0) (.cons (.try_ b_law_T0 [⟨X_LockError, some 9, (.isEq X_InvalidNumber "value" (.int 0))⟩]) .nil)))))))))))
def b_Table_init : ISs := (.cons (.ifs (.nt (.call F_is_within (.cons (.var 1) (.cons (.cst (.int 1)) (.cons (.glob G_MOST_KEYS) .nil))))) (.cons (.rai X_InvalidNumber (.var 1)) .nil) .nil) (.cons (.ifs (.nt (.call F_are_rows (.cons (.var 2) (.cons (.var 1) .nil)))) (.cons (.rai X_InvalidLocks (.var 2)) .nil) .nil) (.cons (.fld 0 A_many (.var 1)) (.cons (.fld 0 A_rows (.var 2)) .nil))))
def b_Table_eq : ISs := (.cons (.ret (.bop true (.cons (.isi (.var 1) (.cls C_Table)) (.cons (.cmp .Eq (.attr (.var 0) A_many) (.attr (.var 1) A_many)) (.cons (.cmp .Eq (.attr (.var 0) A_rows) (.attr (.var 1) A_rows)) .nil))))) .nil)
def d_is_integer : DefI := ⟨top 15, ("is_integer", none), "is_integer", "is_integer", [("value" : Str)], [("value" : Str)], [], b_is_integer⟩
def d_is_within : DefI := ⟨top 16, ("is_within", none), "is_within", "is_within", [("value" : Str), ("low" : Str), ("high" : Str)], [("value" : Str), ("low" : Str), ("high" : Str)], [], b_is_within⟩
def d_is_tuple : DefI := ⟨top 17, ("is_tuple", none), "is_tuple", "is_tuple", [("value" : Str), ("least" : Str), ("most" : Str)], [("value" : Str), ("least" : Str), ("most" : Str)], [], b_is_tuple⟩
def d_is_ascending : DefI := ⟨top 18, ("is_ascending", none), "is_ascending", "is_ascending", [("value" : Str)], [("value" : Str), ("at" : Str)], [], b_is_ascending⟩
def d_is_rising : DefI := ⟨top 19, ("is_rising", none), "is_rising", "is_rising", [("value" : Str), ("high" : Str)], [("value" : Str), ("high" : Str), ("part" : Str)], [], b_is_rising⟩
def d_is_bunch : DefI := ⟨top 23, ("is_bunch", none), "is_bunch", "is_bunch", [("value" : Str), ("many" : Str)], [("value" : Str), ("many" : Str)], [], b_is_bunch⟩
def d_are_rows : DefI := ⟨top 24, ("are_rows", none), "are_rows", "are_rows", [("value" : Str), ("many" : Str)], [("value" : Str), ("many" : Str), ("row" : Str)], [], b_are_rows⟩
def d__law_box : DefI := ⟨top 27, ("_law_box", none), "_law_box", "_law_box", [("script" : Str), ("k" : Str)], [("script" : Str), ("k" : Str), ("cell" : Str), ("great" : Str)], [2, 3], b__law_box⟩
def d__law_take : DefI := ⟨top 28, ("_law_take", none), "_law_take", "_law_take", [("box" : Str), ("many" : Str)], [("box" : Str), ("many" : Str), ("got" : Str)], [2], b__law_take⟩
def d__law_pick : DefI := ⟨top 29, ("_law_pick", none), "_law_pick", "_law_pick", [("box" : Str), ("some" : Str)], [("box" : Str), ("some" : Str)], [], b__law_pick⟩
def d__law_ones : DefI := ⟨top 30, ("_law_ones", none), "_law_ones", "_law_ones", [("v" : Str)], [("v" : Str), ("found" : Str)], [1], b__law_ones⟩
def d__law_kinds : DefI := ⟨top 31, ("_law_kinds", none), "_law_kinds", "_law_kinds", [("e" : Str)], [("e" : Str), ("found" : Str)], [1], b__law_kinds⟩
def d_law : DefI := ⟨top 32, ("law", none), "law", "law", [("script" : Str)], [("script" : Str), ("box" : Str), ("some" : Str), ("v" : Str), ("errors" : Str), ("one" : Str), ("what" : Str), ("word" : Str), ("k" : Str), ("e" : Str), ("j" : Str)], [1, 2, 3, 4, 5, 6, 7, 8, 9], b_law⟩
def d_Table_init : DefI := ⟨meth 25 0, ("Table", some "__init__"), "__init__", "Table.__init__", [("self" : Str), ("many" : Str), ("rows" : Str)], [("self" : Str), ("many" : Str), ("rows" : Str)], [], b_Table_init⟩
def d_Table_eq : DefI := ⟨meth 25 1, ("Table", some "__eq__"), "__eq__", "Table.__eq__", [("self" : Str), ("other" : Str)], [("self" : Str), ("other" : Str)], [], b_Table_eq⟩
def md : Md where
  defs := [d_is_integer, d_is_within, d_is_tuple, d_is_ascending, d_is_rising, d_is_bunch, d_are_rows, d__law_box, d__law_take, d__law_pick, d__law_ones, d__law_kinds, d_law, d_Table_init, d_Table_eq]
  fns := [(("is_integer" : Str), 1), (("is_within" : Str), 3), (("is_tuple" : Str), 3), (("is_ascending" : Str), 1), (("is_rising" : Str), 2), (("is_bunch" : Str), 2), (("are_rows" : Str), 2), (("_law_box" : Str), 2), (("_law_take" : Str), 2), (("_law_pick" : Str), 2), (("_law_ones" : Str), 1), (("_law_kinds" : Str), 1), (("law" : Str), 1)]
  cls := [("Table", 2)]
  ini := [13]
  eqf := [some 14]
  flds := [[0, 1]]
  fnm := [("many" : Str), ("rows" : Str)]
  errs := [⟨"InvalidNumber", "value", meth 2 0, "InvalidNumber.__init__", "self", "value"⟩, ⟨"InvalidLocks", "value", meth 3 0, "InvalidLocks.__init__", "self", "value"⟩, ⟨"InvalidKeys", "value", meth 4 0, "InvalidKeys.__init__", "self", "value"⟩, ⟨"InvalidKind", "value", meth 5 0, "InvalidKind.__init__", "self", "value"⟩, ⟨"InvalidCut", "value", meth 6 0, "InvalidCut.__init__", "self", "value"⟩, ⟨"InvalidCuts", "value", meth 7 0, "InvalidCuts.__init__", "self", "value"⟩, ⟨"InvalidTable", "value", meth 8 0, "InvalidTable.__init__", "self", "value"⟩, ⟨"InvalidPair", "value", meth 9 0, "InvalidPair.__init__", "self", "value"⟩, ⟨"InvalidQuestion", "value", meth 10 0, "InvalidQuestion.__init__", "self", "value"⟩, ⟨"InvalidClaim", "value", meth 11 0, "InvalidClaim.__init__", "self", "value"⟩, ⟨"Undefined", "what", meth 12 0, "Undefined.__init__", "self", "what"⟩, ⟨"NothingToUndo", "word", meth 13 0, "NothingToUndo.__init__", "self", "word"⟩]
  xcs := [("InvalidNumber" : Str), ("InvalidLocks" : Str), ("InvalidKeys" : Str), ("InvalidKind" : Str), ("InvalidCut" : Str), ("InvalidCuts" : Str), ("InvalidTable" : Str), ("InvalidPair" : Str), ("InvalidQuestion" : Str), ("InvalidClaim" : Str), ("Undefined" : Str), ("NothingToUndo" : Str), ("LockError" : Str)]
  isa := [[true, false, false, false, false, false, false, false, false, false, false, false, true], [false, true, false, false, false, false, false, false, false, false, false, false, true], [false, false, true, false, false, false, false, false, false, false, false, false, true], [false, false, false, true, false, false, false, false, false, false, false, false, true], [false, false, false, false, true, false, false, false, false, false, false, false, true], [false, false, false, false, false, true, false, false, false, false, false, false, true], [false, false, false, false, false, false, true, false, false, false, false, false, true], [false, false, false, false, false, false, false, true, false, false, false, false, true], [false, false, false, false, false, false, false, false, true, false, false, false, true], [false, false, false, false, false, false, false, false, false, true, false, false, true], [false, false, false, false, false, false, false, false, false, false, true, false, true], [false, false, false, false, false, false, false, false, false, false, false, true, true]]
  gls := [(("MOST_KEYS" : Str), GlV.int 5), (("MOST_LOCKS" : Str), GlV.int 5)]
  hasX := true
theorem md_nt : md.nt = nt := rfl
theorem md_fn : md.fn = dds := rfl
theorem t_shape : md.shape = true := by decide +kernel
theorem t_lnk : md.lnk = true := by decide +kernel
theorem t_nb : ∀ (f : Nat) (x : Str) (np : Nat), md.fns[f]? = some (x, np) → x = "" → False := by
  intro f x np e z
  have h : md.fns.all (fun p => !decide (p.1 = "")) = true := by decide +kernel
  have q := all_get h e
  subst z
  simp at q
theorem ok_is_integer : d_is_integer.okB md = true := by decide +kernel
theorem ba_is_integer : d_is_integer.ba := fun _ _ _ _ _ _ us hl => match us, hl with | [_], _ => rfl
theorem ok_is_within : d_is_within.okB md = true := by decide +kernel
theorem ba_is_within : d_is_within.ba := fun _ _ _ _ _ _ us hl => match us, hl with | [_, _, _], _ => rfl
theorem ok_is_tuple : d_is_tuple.okB md = true := by decide +kernel
theorem ba_is_tuple : d_is_tuple.ba := fun _ _ _ _ _ _ us hl => match us, hl with | [_, _, _], _ => rfl
theorem ok_is_ascending : d_is_ascending.okB md = true := by decide +kernel
theorem ba_is_ascending : d_is_ascending.ba := fun _ _ _ _ _ _ us hl => match us, hl with | [_], _ => rfl
theorem ok_is_rising : d_is_rising.okB md = true := by decide +kernel
theorem ba_is_rising : d_is_rising.ba := fun _ _ _ _ _ _ us hl => match us, hl with | [_, _], _ => rfl
theorem ok_is_bunch : d_is_bunch.okB md = true := by decide +kernel
theorem ba_is_bunch : d_is_bunch.ba := fun _ _ _ _ _ _ us hl => match us, hl with | [_, _], _ => rfl
theorem ok_are_rows : d_are_rows.okB md = true := by decide +kernel
theorem ba_are_rows : d_are_rows.ba := fun _ _ _ _ _ _ us hl => match us, hl with | [_, _], _ => rfl
theorem ok__law_box : d__law_box.okB md = true := by decide +kernel
theorem ba__law_box : d__law_box.ba := fun _ _ _ _ _ _ us hl => match us, hl with | [_, _], _ => rfl
theorem ok__law_take : d__law_take.okB md = true := by decide +kernel
theorem ba__law_take : d__law_take.ba := fun _ _ _ _ _ _ us hl => match us, hl with | [_, _], _ => rfl
theorem ok__law_pick : d__law_pick.okB md = true := by decide +kernel
theorem ba__law_pick : d__law_pick.ba := fun _ _ _ _ _ _ us hl => match us, hl with | [_, _], _ => rfl
theorem ok__law_ones : d__law_ones.okB md = true := by decide +kernel
theorem ba__law_ones : d__law_ones.ba := fun _ _ _ _ _ _ us hl => match us, hl with | [_], _ => rfl
theorem ok__law_kinds : d__law_kinds.okB md = true := by decide +kernel
theorem ba__law_kinds : d__law_kinds.ba := fun _ _ _ _ _ _ us hl => match us, hl with | [_], _ => rfl
theorem ok_law : d_law.okB md = true := by decide +kernel
theorem ba_law : d_law.ba := fun _ _ _ _ _ _ us hl => match us, hl with | [_], _ => rfl
theorem ok_Table_init : d_Table_init.okB md = true := by decide +kernel
theorem ba_Table_init : d_Table_init.ba := fun _ _ _ _ _ _ us hl => match us, hl with | [_, _, _], _ => rfl
theorem ok_Table_eq : d_Table_eq.okB md = true := by decide +kernel
theorem ba_Table_eq : d_Table_eq.ba := fun _ _ _ _ _ _ us hl => match us, hl with | [_, _], _ => rfl
theorem t_ok : Each (fun d : DefI => d.okB md = true) md.defs := ⟨ok_is_integer, ok_is_within, ok_is_tuple, ok_is_ascending, ok_is_rising, ok_is_bunch, ok_are_rows, ok__law_box, ok__law_take, ok__law_pick, ok__law_ones, ok__law_kinds, ok_law, ok_Table_init, ok_Table_eq, trivial⟩
theorem t_ba : Each DefI.ba md.defs := ⟨ba_is_integer, ba_is_within, ba_is_tuple, ba_is_ascending, ba_is_rising, ba_is_bunch, ba_are_rows, ba__law_box, ba__law_take, ba__law_pick, ba__law_ones, ba__law_kinds, ba_law, ba_Table_init, ba_Table_eq, trivial⟩
theorem t_eok : Each (fun e : ErrI => e.okB = true) md.errs := ⟨by decide +kernel, by decide +kernel, by decide +kernel, by decide +kernel, by decide +kernel, by decide +kernel, by decide +kernel, by decide +kernel, by decide +kernel, by decide +kernel, by decide +kernel, by decide +kernel, trivial⟩
theorem t_eba : Each ErrI.ba md.errs := ⟨(fun _ _ _ _ _ _ us hl => match us, hl with | [_, _], _ => rfl), (fun _ _ _ _ _ _ us hl => match us, hl with | [_, _], _ => rfl), (fun _ _ _ _ _ _ us hl => match us, hl with | [_, _], _ => rfl), (fun _ _ _ _ _ _ us hl => match us, hl with | [_, _], _ => rfl), (fun _ _ _ _ _ _ us hl => match us, hl with | [_, _], _ => rfl), (fun _ _ _ _ _ _ us hl => match us, hl with | [_, _], _ => rfl), (fun _ _ _ _ _ _ us hl => match us, hl with | [_, _], _ => rfl), (fun _ _ _ _ _ _ us hl => match us, hl with | [_, _], _ => rfl), (fun _ _ _ _ _ _ us hl => match us, hl with | [_, _], _ => rfl), (fun _ _ _ _ _ _ us hl => match us, hl with | [_, _], _ => rfl), (fun _ _ _ _ _ _ us hl => match us, hl with | [_, _], _ => rfl), (fun _ _ _ _ _ _ us hl => match us, hl with | [_, _], _ => rfl), trivial⟩
end KL
end
section
set_option linter.all false
set_option Elab.async false
set_option maxRecDepth 100000
set_option maxHeartbeats 0
namespace KH
open Fx KL PySem PySem.Spec L2
abbrev hk : PySem.W.Hook := md.hook 5
def ob (s : PySem.W.SharedT) : He.AlD := md.obsG 5 (HandSHeadRun.getT s)
theorem ob_eq (s : PySem.W.SharedT) : ob s = hk.obs s.abs := md.obsG_eq (HandSHeadRun.getT_eq s)
theorem run (w : World) : HandSHeadRun.RunEq R (PySem.W.view R.prog [32]) hk ob 30000 names w := by
  refine run_join md (n := 5) (run0 w) (fun os => ?_) (fun os => ?_) (fun os => ?_) (fun os => ?_)
  · exact map_to (fun s => (md.chkA_nt _).trans (congrArg (fun t => Nt.chkA t _) md_nt)) (run1 w os)
  · exact map_to (fun s => (md.chkB_nt _).trans (congrArg (fun t => Nt.chkB t _) md_nt)) (run2 w os)
  · rw [md_fn]
    exact run3 w os
  · rw [md_fn]
    exact run4 w os
end KH
end
section
set_option linter.all false
set_option Elab.async false
set_option maxRecDepth 100000
set_option maxHeartbeats 1000000
/-! The evaluator as rewriting: every step a rule whose rests are data. -/
namespace Fx
open PySem (Operator CmpOp)
section
variable (g : G) (Φ : Fn)
/-- an argument -/
def arE (e : IE) (ρ : Env) : Res Ar := asArg e ρ (evE g Φ e ρ)
/-- plain data -/
def dE (e : IE) (ρ : Env) : Res D := asD g.flds (evE g Φ e ρ)
def toAr (x : Res R) : Res Ar := x.bind fun r ρ => .ok (.v r) ρ
def toD (x : Res R) : Res D := asD g.flds x
def arD (a : Ar) (ρ : Env) : Option D := a.d g.flds ρ
def opt {α : Type} (o : Option α) (ρ : Env) : Res α := optR o ρ
/-! constants, names, displays -/
def tupK (x : Res (List D)) : Res R := x.bind fun ds ρ => if ds.length ≤ 16777216 then .ok (.val (.tup ds)) ρ else .stuck
def lstK (x : Res (List D)) : Res R := x.bind fun ds ρ => if ds.length ≤ 16777216 then .ok (.lst ds) ρ else .stuck
def consK (es : IEs) (x : Res D) : Res (List D) := x.bind fun d ρ => (evDs g Φ es ρ).bind fun ds ρ => .ok (d :: ds) ρ
def consK2 (d : D) (x : Res (List D)) : Res (List D) := x.bind fun ds ρ => .ok (d :: ds) ρ
def star2 (xs : List D) (x : Res (List D)) : Res (List D) := x.bind fun ds ρ => .ok (xs ++ ds) ρ
def starK (es : IEs) (x : Res D) : Res (List D) := x.bind fun d ρ => match d with
  | .tup xs => star2 xs (evDs g Φ es ρ)
  | .lst xs => star2 xs (evDs g Φ es ρ)
  | _ => .stuck
def argsK (es : IEs) (x : Res Ar) : Res (List Ar) := x.bind fun a ρ => (evAs g Φ es ρ).bind fun as ρ => .ok (a :: as) ρ
def argsK2 (a : Ar) (x : Res (List Ar)) : Res (List Ar) := x.bind fun as ρ => .ok (a :: as) ρ
/-! operators -/
def bin2 (op : Operator) (x y : Option D) (ρ : Env) : Res R := match x, y with
  | some x, some y => optR (binD op x y) ρ
  | _, _ => .stuck
def binK (op : Operator) (b : IE) (x : Res Ar) : Res R := x.bind fun x ρ => (arE g Φ b ρ).bind fun y ρ => bin2 op (x.d g.flds ρ) (y.d g.flds ρ) ρ
def binK2 (op : Operator) (a : Ar) (x : Res Ar) : Res R := x.bind fun y ρ => bin2 op (a.d g.flds ρ) (y.d g.flds ρ) ρ
def cmpA (op : CmpOp) (x y : Option D) (ρ : Env) : Res R := match x, y with
  | some x, some y => optR ((cmpD op x y).map fun b => .val (.bl b)) ρ
  | _, _ => .stuck
def cmpK (op : CmpOp) (b : IE) (x : Res Ar) : Res R := x.bind fun x ρ => (arE g Φ b ρ).bind fun y ρ => cmpA op (x.d g.flds ρ) (y.d g.flds ρ) ρ
def cmpK2 (op : CmpOp) (a : Ar) (x : Res Ar) : Res R := x.bind fun y ρ => cmpA op (a.d g.flds ρ) (y.d g.flds ρ) ρ
def negK (x : Res D) : Res R := x.bind fun x ρ => match x with
  | .int i => .ok (.val (.int (-i))) ρ
  | _ => .stuck
def tstK (x : Res Ar) : Res Bool := tstA g x
def tst1 (o : Option D) (ρ : Env) : Res Bool := optR (o.bind truD) ρ
def notK (x : Res Bool) : Res R := x.bind fun b ρ => .ok (.val (.bl (!b))) ρ
def bopK (isAnd : Bool) (es : IEs) (x : Res D) : Res R := x.bind fun d ρ => restB isAnd d (fun ρ => evB g Φ isAnd es ρ) ρ
def bop2 (isAnd : Bool) (es : IEs) (t : Option Bool) (d : D) (ρ : Env) : Res R := match t with
  | some k => if k = isAnd then evB g Φ isAnd es ρ else .ok (.val d) ρ
  | none => .stuck
def iteK (a b : IE) (x : Res Bool) : Res R := x.bind fun k ρ => if k = true then evE g Φ a ρ else evE g Φ b ρ
def eqoK (b : IE) (x : Res D) : Res R := x.bind fun x ρ => (dE g Φ b ρ).bind fun y ρ => eqoR g Φ x y ρ
def eqoK2 (x : D) (z : Res D) : Res R := z.bind fun y ρ => eqoR g Φ x y ρ
def neoK (b : IE) (x : Res D) : Res R := x.bind fun x ρ => (dE g Φ b ρ).bind fun y ρ => neoR g Φ x y ρ
def neoK2 (x : D) (z : Res D) : Res R := z.bind fun y ρ => neoR g Φ x y ρ
def c2a (o2 : CmpOp) (c : IE) (y : D) (t : Option Bool) (ρ : Env) : Res R := match t with
  | some true => (dE g Φ c ρ).bind fun z ρ => optR ((cmpD o2 y z).map fun k => .val (.bl k)) ρ
  | some false => .ok (.val (.bl false)) ρ
  | none => .stuck
def c2K (o1 o2 : CmpOp) (b c : IE) (x : Res D) : Res R := x.bind fun x ρ => (dE g Φ b ρ).bind fun y ρ => c2a g Φ o2 c y (cmpD o1 x y) ρ
def c2K2 (o1 o2 : CmpOp) (c : IE) (x : D) (y : Res D) : Res R := y.bind fun y ρ => c2a g Φ o2 c y (cmpD o1 x y) ρ
def c2K3 (o2 : CmpOp) (y : D) (z : Res D) : Res R := z.bind fun z ρ => optR ((cmpD o2 y z).map fun k => .val (.bl k)) ρ
/-! subscripts, fields -/
def ix1 (x : Option D) (y : D) (ρ : Env) : Res R := match x with
  | some x => optR ((idxD x y).map .val) ρ
  | none => .stuck
def ixK (b : IE) (x : Res Ar) : Res R := x.bind fun x ρ => (dE g Φ b ρ).bind fun y ρ => ix1 (x.d g.flds ρ) y ρ
def ixK2 (a : Ar) (x : Res D) : Res R := x.bind fun y ρ => ix1 (a.d g.flds ρ) y ρ
def sl1 (x : Option D) (l h : Option Int) (ρ : Env) : Res R := match x with
  | some x => optR (slcD x l h) ρ
  | none => .stuck
def slK (lo hi : IO) (x : Res Ar) : Res R := x.bind fun x ρ => (evO g Φ lo ρ).bind fun l ρ => (evO g Φ hi ρ).bind fun h ρ => sl1 (x.d g.flds ρ) l h ρ
def slK2 (a : Ar) (hi : IO) (x : Res (Option Int)) : Res R := x.bind fun l ρ => (evO g Φ hi ρ).bind fun h ρ => sl1 (a.d g.flds ρ) l h ρ
def slK3 (a : Ar) (l : Option Int) (x : Res (Option Int)) : Res R := x.bind fun h ρ => sl1 (a.d g.flds ρ) l h ρ
def rev1 (x : Option D) (ρ : Env) : Res R := match x with
  | some x => optR (revD x) ρ
  | none => .stuck
def revK (x : Res Ar) : Res R := x.bind fun x ρ => rev1 (x.d g.flds ρ) ρ
def oK (x : Res D) : Res (Option Int) := x.bind fun d ρ => match d with
  | .int i => .ok (some i) ρ
  | _ => .stuck
def atV (f : Nat) (o : Option R) (ρ : Env) : Res R := match o with
  | some r => optR ((attrO g f r).map .val) ρ
  | none => .stuck
def atK (f : Nat) (x : Res D) : Res R := x.bind fun x ρ => optR ((attrR g f x).map .val) ρ
/-! calls -/
def calK (f : Nat) (x : Res (List Ar)) : Res R := x.bind fun as ρ => callR Φ f as ρ
def makK (c : Nat) (x : Res (List Ar)) : Res R := x.bind fun as ρ => makeR Φ g.ini c as ρ
def cb1 (b : BF) (x : Option (List D)) (ρ : Env) : Res R := match x with
  | some ds => optR (cbD b ds) ρ
  | none => .stuck
def cbK (b : BF) (x : Res (List Ar)) : Res R := x.bind fun as ρ => cb1 b (getDs g.flds ρ as) ρ
def is1 (t : IsT) (x : Option D) (ρ : Env) : Res R := match x with
  | some x => optR ((isiD g.nc x t).map fun b => .val (.bl b)) ρ
  | none => .stuck
def isK (t : IsT) (x : Res Ar) : Res R := x.bind fun x ρ => is1 g t (x.d g.flds ρ) ρ
def srtK (x : Res D) : Res R := x.bind fun x ρ => match x with
  | .lst ds => if ds.length < 64 then optR ((allI ds).map fun ns => .lst ((usort ns).map .int)) ρ else .stuck
  | _ => .stuck
/-! walks -/
def seq1 (d : D) (ρ : Env) : Res (List D) := match d with
  | .tup ds => .ok ds ρ
  | .lst ds => .ok ds ρ
  | .rng lo hi => if rngOk lo hi = true then .ok (rngL lo hi) ρ else .stuck
  | .dct ks _ => .ok ks ρ
  | _ => .stuck
def itm1 (d : D) (ρ : Env) : Res (List D) := match d with
  | .dct ks vs => .ok (zipD ks vs) ρ
  | _ => .stuck
def itmK (x : Res D) : Res (List D) := x.bind fun d ρ => itm1 d ρ
def seqK (x : Res D) : Res (List D) := x.bind fun d ρ => seq1 d ρ
def enumK (x : Res D) : Res (List D) := x.bind fun d ρ => match d with
  | .lst ds => .ok (enumD ds) ρ
  | .tup ds => .ok (enumD ds) ρ
  | _ => .stuck
def zip1 (x y : D) (ρ : Env) : Res (List D) := match x, y with
  | .lst xs, .lst ys => .ok (zipD xs ys) ρ
  | .tup xs, .tup ys => .ok (zipD xs ys) ρ
  | _, _ => .stuck
def zipK (b : IE) (x : Res D) : Res (List D) := x.bind fun x ρ => (dE g Φ b ρ).bind fun y ρ => zip1 x y ρ
def zipK2 (x : D) (y : Res D) : Res (List D) := y.bind fun y ρ => zip1 x y ρ
def compE (elt : IE) (own : List Nat) (tg : Tg) (c : IO) (ds : List D) (ρ : Env) : Res R :=
  ((compF own tg (fun ρ => evC g Φ c ρ) (fun ρ => asD g.flds (evE g Φ elt ρ)) ds (wipeE ρ own) []).bind fun acc ρ' => .ok (.lst acc) (restE ρ ρ' own)).calm
def comK (elt : IE) (own : List Nat) (tg : Tg) (c : IO) (x : Res (List D)) : Res R := x.bind fun ds ρ => compE g Φ elt own tg c ds ρ
def comp2E (elt : IE) (own own1 : List Nat) (tg tg1 : Tg) (src1 : II) (c : IO) (ds : List D) (ρ : Env) : Res R :=
  ((compF2 own tg (fun ρ => (evI g Φ src1 ρ).bind fun es ρ => .ok es (wipeE ρ own1)) (compF own1 tg1 (fun ρ => evC g Φ c ρ) (fun ρ => asD g.flds (evE g Φ elt ρ))) ds (wipeE ρ own) []).bind fun acc ρ' => .ok (.lst acc) (restE ρ ρ' own)).calm
def com2K (elt : IE) (own own1 : List Nat) (tg tg1 : Tg) (src1 : II) (c : IO) (x : Res (List D)) : Res R := x.bind fun ds ρ => comp2E g Φ elt own own1 tg tg1 src1 c ds ρ
/-! statements -/
def seqS (ss : ISs) (x : SRes) : SRes := x.thn fun ρ => evSs g Φ ss ρ
def asgK (i : Nat) (x : Res R) : SRes := x.thn fun r ρ => .nx (ρ.set i (some r))
def unp1 (o : Option Env) : SRes := match o with
  | some ρ' => .nx ρ'
  | none => .stuck
def par1 (is : List Nat) (o : Option (List R)) (ρ : Env) : SRes := match o with
  | some rs => if is.length = rs.length then .nx (setRs is rs ρ) else .stuck
  | none => .stuck
def parK (is : List Nat) (x : Res (List Ar)) : SRes := x.thn fun as ρ => par1 is (arRs as) ρ
def unpK (is : List Nat) (x : Res D) : SRes := x.thn fun d ρ => unp1 (setTg (.many is) d ρ)
def sti2 (i : Nat) (d : D) (o : Option R) (k : D) (ρ : Env) : SRes := match o, k with
  | some (.lst ds), .int k => (match L2.ixN ds.length k with
    | some j => .nx (ρ.set i (some (.lst (ds.set j d))))
    | none => .stuck)
  | _, _ => .stuck
def stiK2 (i : Nat) (d : D) (x : Res D) : SRes := x.thn fun k ρ => sti2 i d (ρ.at i) k ρ
def sti1 (i : Nat) (k : IE) (d : D) (o : Option R) (ρ : Env) : SRes := match o with
  | some (.lst _) => stiK2 i d (dE g Φ k ρ)
  | _ => .stuck
def stiK (i : Nat) (k : IE) (x : Res D) : SRes := x.thn fun d ρ => sti1 g Φ i k d (ρ.at i) ρ
def std2 (i : Nat) (d : D) (o : Option R) (k : D) (ρ : Env) : SRes := match o with
  | some (.dct ks vs) => if keyOk ks k = true ∧ ks.length < 16777216 then .nx (ρ.set i (some (.dct (dPutK ks k) (dPutV ks vs k d)))) else .stuck
  | _ => .stuck
def stdK2 (i : Nat) (d : D) (x : Res D) : SRes := x.thn fun k ρ => std2 i d (ρ.at i) k ρ
def std1 (i : Nat) (k : IE) (d : D) (o : Option R) (ρ : Env) : SRes := match o with
  | some (.dct _ _) => stdK2 i d (dE g Φ k ρ)
  | _ => .stuck
def stdK (i : Nat) (k : IE) (x : Res D) : SRes := x.thn fun d ρ => std1 g Φ i k d (ρ.at i) ρ
def sdf4 (i : Nat) (k d : D) (o : Option R) (ρ : Env) : SRes := match o with
  | some (.dct ks vs) => if k.isInt = true ∧ ks.all D.isInt = true ∧ ks.length < 16777216 then .nx (ρ.set i (some (match dFind ks k with
      | some _ => .dct ks vs
      | none => .dct (ks ++ [k]) (vs ++ [d])))) else .stuck
  | _ => .stuck
def sdf3 (i : Nat) (k : D) (x : Res D) : SRes := x.thn fun d ρ => sdf4 i k d (ρ.at i) ρ
def sdf2 (i : Nat) (v : IE) (x : Res D) : SRes := x.thn fun k ρ => sdf3 i k (dE g Φ v ρ)
def sdf1 (i : Nat) (k v : IE) (o : Option R) (ρ : Env) : SRes := match o with
  | some (.dct ks0 _) => if ks0.all D.isInt = true then sdf2 g Φ i v (dE g Φ k ρ) else .stuck
  | _ => .stuck
def fld1 (i f : Nat) (d : D) (o : Option R) (ρ : Env) : SRes := match o with
  | some (.obj c rs) => if c < g.nc ∧ (g.flds c).idxOf f = rs.length ∧ rs.length < (g.flds c).length then .nx (ρ.set i (some (.obj c (rs ++ [.val d])))) else .stuck
  | _ => .stuck
def fldK (i f : Nat) (x : Res D) : SRes := x.thn fun d ρ => fld1 g i f d (ρ.at i) ρ
def app2 (i : Nat) (d : D) (o : Option R) (ρ : Env) : SRes := match o with
  | some (.lst ds) => if ds.length < 16777216 then .nx (ρ.set i (some (.lst (ds ++ [d])))) else .stuck
  | _ => .stuck
def appK (i : Nat) (x : Res D) : SRes := x.thn fun d ρ => app2 i d (ρ.at i) ρ
def app1 (i : Nat) (e : IE) (o : Option R) (ρ : Env) : SRes := match o with
  | some (.lst _) => appK i (dE g Φ e ρ)
  | _ => .stuck
def ins2 (i : Nat) (k d : D) (o : Option R) (ρ : Env) : SRes := match o, k with
  | some (.lst ds), .int k => if ds.length < 16777216 ∧ 0 ≤ k ∧ k < 9223372036854775808 then .nx (ρ.set i (some (.lst (ds.take k.toNat ++ d :: ds.drop k.toNat)))) else .stuck
  | _, _ => .stuck
def insK2 (i : Nat) (k : D) (x : Res D) : SRes := x.thn fun d ρ => ins2 i k d (ρ.at i) ρ
def insK (i : Nat) (e : IE) (x : Res D) : SRes := x.thn fun k ρ => insK2 i k (dE g Φ e ρ)
def ins1 (i : Nat) (k e : IE) (o : Option R) (ρ : Env) : SRes := match o with
  | some (.lst _) => insK g Φ i e (dE g Φ k ρ)
  | _ => .stuck
def exK (x : Res R) : SRes := x.thn fun _ ρ => .nx ρ
def ifK (a b : ISs) (x : Res Bool) : SRes := x.thn fun k ρ => if k = true then evSs g Φ a ρ else evSs g Φ b ρ
def forE (tg : Tg) (body : ISs) (ds : List D) (ρ : Env) : SRes := forF tg (fun ρ => evSs g Φ body ρ) ds ρ
def forK (tg : Tg) (body : ISs) (x : Res (List D)) : SRes := x.thn fun ds ρ => forE g Φ tg body ds ρ
def retK (x : Res R) : SRes := x.thn fun r ρ => .rt r ρ
def retm1 (i : Nat) (o : Option R) (ρ : Env) : SRes := match o with
  | some r => .rt r (ρ.set i none)
  | none => .stuck
def raiK (c : Nat) (x : Res D) : SRes := x.thn fun d ρ => .exc c d ρ
def tryK (hs : List Hd) (x : SRes) : SRes := match x with
  | .exc c d ρ' => evHs g hs c d ρ'
  | x => x
end
section
variable {g : G} {Φ : Fn} {ρ : Env} {α : Type}
/-! ### expressions -/
@[simp] theorem q_var {i : Nat} : evE g Φ (.var i) ρ = rdVar g.flds i ρ := rfl
@[simp] theorem q_cst {d : D} : evE g Φ (.cst d) ρ = .ok (.val d) ρ := rfl
@[simp] theorem q_glob {x : Nat} : evE g Φ (.glob x) ρ = opt ((g.gl x).map .val) ρ := rfl
@[simp] theorem q_tup {es : IEs} : evE g Φ (.tup es) ρ = tupK (evDs g Φ es ρ) := rfl
@[simp] theorem q_lst {es : IEs} : evE g Φ (.lst es) ρ = lstK (evDs g Φ es ρ) := rfl
@[simp] theorem q_bin {op : Operator} {a b : IE} : evE g Φ (.bin op a b) ρ = binK g Φ op b (arE g Φ a ρ) := rfl
@[simp] theorem q_neg {a : IE} : evE g Φ (.neg a) ρ = negK (dE g Φ a ρ) := rfl
@[simp] theorem q_bop {k : Bool} {es : IEs} : evE g Φ (.bop k es) ρ = evB g Φ k es ρ := rfl
@[simp] theorem q_nt {a : IE} : evE g Φ (.nt a) ρ = notK (tstK g (arE g Φ a ρ)) := rfl
@[simp] theorem q_cmp {op : CmpOp} {a b : IE} : evE g Φ (.cmp op a b) ρ = cmpK g Φ op b (arE g Φ a ρ) := by
  show ((arE g Φ a ρ).bind fun x ρ => (arE g Φ b ρ).bind fun y ρ => match x.d g.flds ρ, y.d g.flds ρ with
    | some x, some y => cmpP op x y ρ
    | _, _ => .stuck) = _
  unfold cmpK
  congr 1
  funext x ρ
  congr 1
  funext y ρ
  unfold cmpA cmpP
  cases x.d g.flds ρ with
  | none => rfl
  | some x => cases y.d g.flds ρ with
    | none => rfl
    | some y => dsimp only; cases cmpD op x y <;> rfl
@[simp] theorem q_eqo {a b : IE} : evE g Φ (.eqo a b) ρ = eqoK g Φ b (dE g Φ a ρ) := rfl
@[simp] theorem q_neo {a b : IE} : evE g Φ (.neo a b) ρ = neoK g Φ b (dE g Φ a ρ) := rfl
@[simp] theorem q_cmp2 {o1 o2 : CmpOp} {a b c : IE} : evE g Φ (.cmp2 o1 o2 a b c) ρ = c2K g Φ o1 o2 b c (dE g Φ a ρ) := by
  show ((dE g Φ a ρ).bind fun x ρ => (dE g Φ b ρ).bind fun y ρ => match cmpD o1 x y with
    | some true => (dE g Φ c ρ).bind fun z ρ => optR ((cmpD o2 y z).map fun k => R.val (.bl k)) ρ
    | some false => Res.ok (R.val (.bl false)) ρ
    | none => .stuck) = _
  unfold c2K c2a
  rfl
@[simp] theorem q_ife {c a b : IE} : evE g Φ (.ife c a b) ρ = iteK g Φ a b (tstK g (arE g Φ c ρ)) := rfl
@[simp] theorem q_idx {a b : IE} : evE g Φ (.idx a b) ρ = ixK g Φ b (arE g Φ a ρ) := rfl
@[simp] theorem q_slc {a : IE} {lo hi : IO} : evE g Φ (.slc a lo hi) ρ = slK g Φ lo hi (arE g Φ a ρ) := rfl
@[simp] theorem q_rev {a : IE} : evE g Φ (.rev a) ρ = revK g (arE g Φ a ρ) := rfl
@[simp] theorem q_attrV {i f : Nat} : evE g Φ (.attr (.var i) f) ρ = atV g f (ρ.at i) ρ := rfl
@[simp] theorem q_attr_cst {d : D} {f : Nat} : evE g Φ (.attr (.cst d) f) ρ = atK g f (dE g Φ (.cst d) ρ) := rfl
@[simp] theorem q_attr_glob {i : Nat} {f : Nat} : evE g Φ (.attr (.glob i) f) ρ = atK g f (dE g Φ (.glob i) ρ) := rfl
@[simp] theorem q_attr_tup {es : IEs} {f : Nat} : evE g Φ (.attr (.tup es) f) ρ = atK g f (dE g Φ (.tup es) ρ) := rfl
@[simp] theorem q_attr_lst {es : IEs} {f : Nat} : evE g Φ (.attr (.lst es) f) ρ = atK g f (dE g Φ (.lst es) ρ) := rfl
@[simp] theorem q_attr_bin {op : Operator} {a b : IE} {f : Nat} : evE g Φ (.attr (.bin op a b) f) ρ = atK g f (dE g Φ (.bin op a b) ρ) := rfl
@[simp] theorem q_attr_neg {a : IE} {f : Nat} : evE g Φ (.attr (.neg a) f) ρ = atK g f (dE g Φ (.neg a) ρ) := rfl
@[simp] theorem q_attr_bop {k : Bool} {es : IEs} {f : Nat} : evE g Φ (.attr (.bop k es) f) ρ = atK g f (dE g Φ (.bop k es) ρ) := rfl
@[simp] theorem q_attr_nt {a : IE} {f : Nat} : evE g Φ (.attr (.nt a) f) ρ = atK g f (dE g Φ (.nt a) ρ) := rfl
@[simp] theorem q_attr_cmp {op : CmpOp} {a b : IE} {f : Nat} : evE g Φ (.attr (.cmp op a b) f) ρ = atK g f (dE g Φ (.cmp op a b) ρ) := rfl
@[simp] theorem q_attr_eqo {a b : IE} {f : Nat} : evE g Φ (.attr (.eqo a b) f) ρ = atK g f (dE g Φ (.eqo a b) ρ) := rfl
@[simp] theorem q_attr_cmp2 {o1 o2 : CmpOp} {a b c : IE} {f : Nat} : evE g Φ (.attr (.cmp2 o1 o2 a b c) f) ρ = atK g f (dE g Φ (.cmp2 o1 o2 a b c) ρ) := rfl
@[simp] theorem q_attr_ife {a b c : IE} {f : Nat} : evE g Φ (.attr (.ife a b c) f) ρ = atK g f (dE g Φ (.ife a b c) ρ) := rfl
@[simp] theorem q_attr_idx {a b : IE} {f : Nat} : evE g Φ (.attr (.idx a b) f) ρ = atK g f (dE g Φ (.idx a b) ρ) := rfl
@[simp] theorem q_attr_slc {a : IE} {lo hi : IO} {f : Nat} : evE g Φ (.attr (.slc a lo hi) f) ρ = atK g f (dE g Φ (.slc a lo hi) ρ) := rfl
@[simp] theorem q_attr_rev {a : IE} {f : Nat} : evE g Φ (.attr (.rev a) f) ρ = atK g f (dE g Φ (.rev a) ρ) := rfl
@[simp] theorem q_attr_attr {a : IE} {f2 : Nat} {f : Nat} : evE g Φ (.attr (.attr a f2) f) ρ = atK g f (dE g Φ (.attr a f2) ρ) := rfl
@[simp] theorem q_attr_call {f2 : Nat} {es : IEs} {f : Nat} : evE g Φ (.attr (.call f2 es) f) ρ = atK g f (dE g Φ (.call f2 es) ρ) := rfl
@[simp] theorem q_attr_make {f2 : Nat} {es : IEs} {f : Nat} : evE g Φ (.attr (.make f2 es) f) ρ = atK g f (dE g Φ (.make f2 es) ρ) := rfl
@[simp] theorem q_attr_cb {b : BF} {es : IEs} {f : Nat} : evE g Φ (.attr (.cb b es) f) ρ = atK g f (dE g Φ (.cb b es) ρ) := rfl
@[simp] theorem q_attr_isi {a : IE} {t : IsT} {f : Nat} : evE g Φ (.attr (.isi a t) f) ρ = atK g f (dE g Φ (.isi a t) ρ) := rfl
@[simp] theorem q_attr_dnew  {f : Nat} : evE g Φ (.attr (.dnew ) f) ρ = atK g f (dE g Φ (.dnew ) ρ) := rfl
@[simp] theorem q_attr_srts {a : IE} {f : Nat} : evE g Φ (.attr (.srts a) f) ρ = atK g f (dE g Φ (.srts a) ρ) := rfl
@[simp] theorem q_attr_comp {elt : IE} {own : List Nat} {tg : Tg} {src : II} {c : IO} {f : Nat} : evE g Φ (.attr (.comp elt own tg src c) f) ρ = atK g f (dE g Φ (.comp elt own tg src c) ρ) := rfl
@[simp] theorem q_attr_comp2 {elt : IE} {own own1 : List Nat} {tg : Tg} {src : II} {tg1 : Tg} {src1 : II} {c : IO} {f : Nat} : evE g Φ (.attr (.comp2 elt own own1 tg src tg1 src1 c) f) ρ = atK g f (dE g Φ (.comp2 elt own own1 tg src tg1 src1 c) ρ) := rfl
@[simp] theorem q_call {f : Nat} {es : IEs} : evE g Φ (.call f es) ρ = calK Φ f (evAs g Φ es ρ) := rfl
@[simp] theorem q_make {c : Nat} {es : IEs} : evE g Φ (.make c es) ρ = makK g Φ c (evAs g Φ es ρ) := rfl
@[simp] theorem q_cb {b : BF} {es : IEs} : evE g Φ (.cb b es) ρ = cbK g b (evAs g Φ es ρ) := rfl
@[simp] theorem q_isi {a : IE} {t : IsT} : evE g Φ (.isi a t) ρ = isK g t (arE g Φ a ρ) := rfl
@[simp] theorem q_dnew : evE g Φ .dnew ρ = .ok (.dct [] []) ρ := rfl
@[simp] theorem q_srts {a : IE} : evE g Φ (.srts a) ρ = srtK (dE g Φ a ρ) := rfl
@[simp] theorem q_comp {elt : IE} {own : List Nat} {tg : Tg} {src : II} {c : IO} : evE g Φ (.comp elt own tg src c) ρ = comK g Φ elt own tg c (evI g Φ src ρ) := rfl
@[simp] theorem q_comp2 {elt : IE} {own own1 : List Nat} {tg tg1 : Tg} {src src1 : II} {c : IO} : evE g Φ (.comp2 elt own own1 tg src tg1 src1 c) ρ = com2K g Φ elt own own1 tg tg1 src1 c (evI g Φ src ρ) := rfl
@[simp] theorem q_ar_cst {d : D} : arE g Φ (.cst d) ρ = toAr (evE g Φ (.cst d) ρ) := rfl
@[simp] theorem q_ar_glob {i : Nat} : arE g Φ (.glob i) ρ = toAr (evE g Φ (.glob i) ρ) := rfl
@[simp] theorem q_ar_tup {es : IEs} : arE g Φ (.tup es) ρ = toAr (evE g Φ (.tup es) ρ) := rfl
@[simp] theorem q_ar_lst {es : IEs} : arE g Φ (.lst es) ρ = toAr (evE g Φ (.lst es) ρ) := rfl
@[simp] theorem q_ar_bin {op : Operator} {a b : IE} : arE g Φ (.bin op a b) ρ = toAr (evE g Φ (.bin op a b) ρ) := rfl
@[simp] theorem q_ar_neg {a : IE} : arE g Φ (.neg a) ρ = toAr (evE g Φ (.neg a) ρ) := rfl
@[simp] theorem q_ar_bop {k : Bool} {es : IEs} : arE g Φ (.bop k es) ρ = toAr (evE g Φ (.bop k es) ρ) := rfl
@[simp] theorem q_ar_nt {a : IE} : arE g Φ (.nt a) ρ = toAr (evE g Φ (.nt a) ρ) := rfl
@[simp] theorem q_ar_cmp {op : CmpOp} {a b : IE} : arE g Φ (.cmp op a b) ρ = toAr (evE g Φ (.cmp op a b) ρ) := rfl
@[simp] theorem q_ar_neo {a b : IE} : arE g Φ (.neo a b) ρ = toAr (evE g Φ (.neo a b) ρ) := rfl
@[simp] theorem q_ar_eqo {a b : IE} : arE g Φ (.eqo a b) ρ = toAr (evE g Φ (.eqo a b) ρ) := rfl
@[simp] theorem q_ar_cmp2 {o1 o2 : CmpOp} {a b c : IE} : arE g Φ (.cmp2 o1 o2 a b c) ρ = toAr (evE g Φ (.cmp2 o1 o2 a b c) ρ) := rfl
@[simp] theorem q_ar_ife {a b c : IE} : arE g Φ (.ife a b c) ρ = toAr (evE g Φ (.ife a b c) ρ) := rfl
@[simp] theorem q_ar_idx {a b : IE} : arE g Φ (.idx a b) ρ = toAr (evE g Φ (.idx a b) ρ) := rfl
@[simp] theorem q_ar_slc {a : IE} {lo hi : IO} : arE g Φ (.slc a lo hi) ρ = toAr (evE g Φ (.slc a lo hi) ρ) := rfl
@[simp] theorem q_ar_rev {a : IE} : arE g Φ (.rev a) ρ = toAr (evE g Φ (.rev a) ρ) := rfl
@[simp] theorem q_ar_attr {a : IE} {f : Nat} : arE g Φ (.attr a f) ρ = toAr (evE g Φ (.attr a f) ρ) := rfl
@[simp] theorem q_ar_call {f : Nat} {es : IEs} : arE g Φ (.call f es) ρ = toAr (evE g Φ (.call f es) ρ) := rfl
@[simp] theorem q_ar_make {f : Nat} {es : IEs} : arE g Φ (.make f es) ρ = toAr (evE g Φ (.make f es) ρ) := rfl
@[simp] theorem q_ar_cb {b : BF} {es : IEs} : arE g Φ (.cb b es) ρ = toAr (evE g Φ (.cb b es) ρ) := rfl
@[simp] theorem q_ar_isi {a : IE} {t : IsT} : arE g Φ (.isi a t) ρ = toAr (evE g Φ (.isi a t) ρ) := rfl
@[simp] theorem q_ar_dnew  : arE g Φ (.dnew ) ρ = toAr (evE g Φ (.dnew ) ρ) := rfl
@[simp] theorem q_ar_srts {a : IE} : arE g Φ (.srts a) ρ = toAr (evE g Φ (.srts a) ρ) := rfl
@[simp] theorem q_ar_comp {elt : IE} {own : List Nat} {tg : Tg} {src : II} {c : IO} : arE g Φ (.comp elt own tg src c) ρ = toAr (evE g Φ (.comp elt own tg src c) ρ) := rfl
@[simp] theorem q_ar_comp2 {elt : IE} {own own1 : List Nat} {tg : Tg} {src : II} {tg1 : Tg} {src1 : II} {c : IO} : arE g Φ (.comp2 elt own own1 tg src tg1 src1 c) ρ = toAr (evE g Φ (.comp2 elt own own1 tg src tg1 src1 c) ρ) := rfl
@[simp] theorem q_arV {i : Nat} : arE g Φ (.var i) ρ = argVar i ρ := rfl
@[simp] theorem q_dE {e : IE} : dE g Φ e ρ = toD g (evE g Φ e ρ) := rfl
@[simp] theorem q_toAr {r : R} : toAr (.ok r ρ) = .ok (.v r) ρ := rfl
@[simp] theorem q_toArx {c : Nat} {d : D} : toAr (.exc c d ρ) = .exc c d ρ := rfl
@[simp] theorem q_toDv {d : D} : toD g (.ok (.val d) ρ) = .ok d ρ := rfl
@[simp] theorem q_toDl {ds : List D} : toD g (.ok (.lst ds) ρ) = .ok (.lst ds) ρ := rfl
@[simp] theorem q_toDd {ks vs : List D} : toD g (.ok (.dct ks vs) ρ) = .ok (.dct ks vs) ρ := rfl
@[simp] theorem q_toDx {c : Nat} {d : D} : toD g (.exc c d ρ) = .exc c d ρ := rfl
@[simp] theorem q_opt {a : α} : opt (some a) ρ = .ok a ρ := rfl
@[simp] theorem q_optR {a : α} : optR (some a) ρ = .ok a ρ := rfl
@[simp] theorem q_isV {i : Nat} : (IE.var i).isVar = some i := rfl
@[simp] theorem q_arDv {d : D} : Ar.d g.flds (.v (.val d)) ρ = some d := rfl
@[simp] theorem q_arDl {ds : List D} : Ar.d g.flds (.v (.lst ds)) ρ = some (.lst ds) := rfl
@[simp] theorem q_arDd {ks vs : List D} : Ar.d g.flds (.v (.dct ks vs)) ρ = some (.dct ks vs) := rfl
@[simp] theorem q_arDb {i : Nat} : Ar.d g.flds (.b i) ρ = (ρ.at i).bind (fullD g.flds) := rfl
@[simp] theorem q_fv {d : D} : fullD g.flds (.val d) = some d := rfl
@[simp] theorem q_fl {ds : List D} : fullD g.flds (.lst ds) = some (.lst ds) := rfl
@[simp] theorem q_fd {ks vs : List D} : fullD g.flds (.dct ks vs) = some (.dct ks vs) := rfl
/-! names -/
@[simp] theorem q_at0 {x : Option R} {l : Env} : Env.at (x :: l) 0 = x := rfl
@[simp] theorem q_atS {x : Option R} {l : Env} {i : Nat} : Env.at (x :: l) (i + 1) = Env.at l i := rfl
/-- what a name that holds r reads as -/
def rdO (fl : Nat → List Nat) (i : Nat) (o : Option R) (ρ : Env) : Res R := match o with
  | some (.val d) => .ok (.val d) ρ
  | some r => if r.fullB fl = true then .ok (.val r.toD) (ρ.set i (some (.val r.toD))) else .stuck
  | none => .stuck
def avO (i : Nat) (o : Option R) (ρ : Env) : Res Ar := match o with
  | some (.val d) => .ok (.v (.val d)) ρ
  | some _ => .ok (.b i) ρ
  | none => .stuck
@[simp] theorem q_rd {fl : Nat → List Nat} {i : Nat} : rdVar fl i ρ = rdO fl i (ρ.at i) ρ := rfl
@[simp] theorem q_av {i : Nat} : argVar i ρ = avO i (ρ.at i) ρ := rfl
@[simp] theorem q_rdv {fl : Nat → List Nat} {i : Nat} {d : D} : rdO fl i (some (.val d)) ρ = .ok (.val d) ρ := rfl
@[simp] theorem q_rdl {fl : Nat → List Nat} {i : Nat} {ds : List D} : rdO fl i (some (.lst ds)) ρ = .ok (.val (.lst ds)) (ρ.set i (some (.val (.lst ds)))) := rfl
@[simp] theorem q_rdd {fl : Nat → List Nat} {i : Nat} {ks vs : List D} : rdO fl i (some (.dct ks vs)) ρ = .ok (.val (.dct ks vs)) (ρ.set i (some (.val (.dct ks vs)))) := rfl
@[simp] theorem q_avv {i : Nat} {d : D} : avO i (some (.val d)) ρ = .ok (.v (.val d)) ρ := rfl
@[simp] theorem q_avl {i : Nat} {ds : List D} : avO i (some (.lst ds)) ρ = .ok (.b i) ρ := rfl
@[simp] theorem q_avd {i : Nat} {ks vs : List D} : avO i (some (.dct ks vs)) ρ = .ok (.b i) ρ := rfl
@[simp] theorem q_avo {i c : Nat} {rs : List R} : avO i (some (.obj c rs)) ρ = .ok (.b i) ρ := rfl
/-! displays -/
@[simp] theorem q_ds0 : evDs g Φ .nil ρ = .ok [] ρ := rfl
@[simp] theorem q_dsc {e : IE} {es : IEs} : evDs g Φ (.cons e es) ρ = consK g Φ es (dE g Φ e ρ) := rfl
@[simp] theorem q_ck {es : IEs} {d : D} : consK g Φ es (.ok d ρ) = consK2 d (evDs g Φ es ρ) := rfl
@[simp] theorem q_ckx {es : IEs} {c : Nat} {d : D} : consK g Φ es (.exc c d ρ) = .exc c d ρ := rfl
@[simp] theorem q_ck2 {d : D} {ds : List D} : consK2 d (.ok ds ρ) = .ok (d :: ds) ρ := rfl
@[simp] theorem q_tk {ds : List D} : tupK (.ok ds ρ) = if ds.length ≤ 16777216 then .ok (.val (.tup ds)) ρ else .stuck := rfl
@[simp] theorem q_lk {ds : List D} : lstK (.ok ds ρ) = if ds.length ≤ 16777216 then .ok (.lst ds) ρ else .stuck := rfl
@[simp] theorem q_as0 : evAs g Φ .nil ρ = .ok [] ρ := rfl
@[simp] theorem q_asc {e : IE} {es : IEs} : evAs g Φ (.cons e es) ρ = argsK g Φ es (arE g Φ e ρ) := rfl
@[simp] theorem q_ak {es : IEs} {a : Ar} : argsK g Φ es (.ok a ρ) = argsK2 a (evAs g Φ es ρ) := rfl
@[simp] theorem q_akx {es : IEs} {c : Nat} {d : D} : argsK g Φ es (.exc c d ρ) = .exc c d ρ := rfl
@[simp] theorem q_ak2 {a : Ar} {as : List Ar} : argsK2 a (.ok as ρ) = .ok (a :: as) ρ := rfl
/-! operators -/
@[simp] theorem q_bk {op : Operator} {b : IE} {a : Ar} : binK g Φ op b (.ok a ρ) = binK2 g op a (arE g Φ b ρ) := rfl
@[simp] theorem q_bk2 {op : Operator} {a b : Ar} : binK2 g op a (.ok b ρ) = bin2 op (a.d g.flds ρ) (b.d g.flds ρ) ρ := rfl
@[simp] theorem q_b2 {op : Operator} {x y : D} : bin2 op (some x) (some y) ρ = opt (binD op x y) ρ := rfl
@[simp] theorem q_cmk {op : CmpOp} {b : IE} {a : Ar} : cmpK g Φ op b (.ok a ρ) = cmpK2 g op a (arE g Φ b ρ) := rfl
@[simp] theorem q_cmk2 {op : CmpOp} {a b : Ar} : cmpK2 g op a (.ok b ρ) = cmpA op (a.d g.flds ρ) (b.d g.flds ρ) ρ := rfl
@[simp] theorem q_cm {op : CmpOp} {x y : D} : cmpA op (some x) (some y) ρ = opt ((cmpD op x y).map fun b => .val (.bl b)) ρ := rfl
@[simp] theorem q_nk {i : Int} : negK (.ok (.int i) ρ) = .ok (.val (.int (-i))) ρ := rfl
@[simp] theorem q_tsk {a : Ar} : tstK g (.ok a ρ) = tst1 (a.d g.flds ρ) ρ := rfl
@[simp] theorem q_tskx {c : Nat} {d : D} : tstK g (.exc c d ρ) = .exc c d ρ := rfl
@[simp] theorem q_ts {d : D} : tst1 (some d) ρ = opt (truD d) ρ := rfl
@[simp] theorem q_ntk {b : Bool} : notK (.ok b ρ) = .ok (.val (.bl (!b))) ρ := rfl
@[simp] theorem q_b1 {k : Bool} {e : IE} : evB g Φ k (.cons e .nil) ρ = evE g Φ e ρ := rfl
@[simp] theorem q_bc {k : Bool} {e e2 : IE} {es : IEs} : evB g Φ k (.cons e (.cons e2 es)) ρ = bopK g Φ k (.cons e2 es) (dE g Φ e ρ) := rfl
@[simp] theorem q_bpk {k : Bool} {es : IEs} {d : D} : bopK g Φ k es (.ok d ρ) = bop2 g Φ k es (truD d) d ρ := rfl
@[simp] theorem q_bp2 {k t : Bool} {es : IEs} {d : D} : bop2 g Φ k es (some t) d ρ = if t = k then evB g Φ k es ρ else .ok (.val d) ρ := rfl
@[simp] theorem q_ik {a b : IE} {k : Bool} : iteK g Φ a b (.ok k ρ) = if k = true then evE g Φ a ρ else evE g Φ b ρ := rfl
@[simp] theorem q_eqk {b : IE} {x : D} : eqoK g Φ b (.ok x ρ) = eqoK2 g Φ x (dE g Φ b ρ) := rfl
@[simp] theorem q_nek {b : IE} {x : D} : neoK g Φ b (.ok x ρ) = neoK2 g Φ x (dE g Φ b ρ) := rfl
@[simp] theorem q_nek2 {x y : D} : neoK2 g Φ x (.ok y ρ) = neoR g Φ x y ρ := rfl
@[simp] theorem q_nt1 {b : Bool} : notR (.ok (.val (.bl b)) ρ) = .ok (.val (.bl (!b))) ρ := rfl
@[simp] theorem q_eqk2 {x y : D} : eqoK2 g Φ x (.ok y ρ) = eqoR g Φ x y ρ := rfl
@[simp] theorem q_c2 {o1 o2 : CmpOp} {b c : IE} {x : D} : c2K g Φ o1 o2 b c (.ok x ρ) = c2K2 g Φ o1 o2 c x (dE g Φ b ρ) := rfl
@[simp] theorem q_c22 {o1 o2 : CmpOp} {c : IE} {x y : D} : c2K2 g Φ o1 o2 c x (.ok y ρ) = c2a g Φ o2 c y (cmpD o1 x y) ρ := rfl
@[simp] theorem q_c2t {o2 : CmpOp} {c : IE} {y : D} {t : Bool} : c2a g Φ o2 c y (some t) ρ = if t = true then c2K3 o2 y (dE g Φ c ρ) else .ok (.val (.bl false)) ρ := by cases t <;> rfl
@[simp] theorem q_c23 {o2 : CmpOp} {y z : D} : c2K3 o2 y (.ok z ρ) = opt ((cmpD o2 y z).map fun k => .val (.bl k)) ρ := rfl
/-! subscripts -/
@[simp] theorem q_ixk {b : IE} {a : Ar} : ixK g Φ b (.ok a ρ) = ixK2 g a (dE g Φ b ρ) := rfl
@[simp] theorem q_ixk2 {a : Ar} {y : D} : ixK2 g a (.ok y ρ) = ix1 (a.d g.flds ρ) y ρ := rfl
@[simp] theorem q_ix {x y : D} : ix1 (some x) y ρ = opt ((idxD x y).map .val) ρ := rfl
@[simp] theorem q_slk {lo hi : IO} {a : Ar} : slK g Φ lo hi (.ok a ρ) = slK2 g Φ a hi (evO g Φ lo ρ) := rfl
@[simp] theorem q_slk2 {hi : IO} {a : Ar} {l : Option Int} : slK2 g Φ a hi (.ok l ρ) = slK3 g a l (evO g Φ hi ρ) := rfl
@[simp] theorem q_slk3 {a : Ar} {l h : Option Int} : slK3 g a l (.ok h ρ) = sl1 (a.d g.flds ρ) l h ρ := rfl
@[simp] theorem q_sl {x : D} {l h : Option Int} : sl1 (some x) l h ρ = opt (slcD x l h) ρ := rfl
@[simp] theorem q_rvk {a : Ar} : revK g (.ok a ρ) = rev1 (a.d g.flds ρ) ρ := rfl
@[simp] theorem q_rv {x : D} : rev1 (some x) ρ = opt (revD x) ρ := rfl
@[simp] theorem q_o0 : evO g Φ .non ρ = .ok none ρ := rfl
@[simp] theorem q_o1 {e : IE} : evO g Φ (.som e) ρ = oK (dE g Φ e ρ) := rfl
@[simp] theorem q_ok {i : Int} : oK (.ok (.int i) ρ) = .ok (some i) ρ := rfl
@[simp] theorem q_atv {f : Nat} {r : R} : atV g f (some r) ρ = opt ((attrO g f r).map .val) ρ := rfl
@[simp] theorem q_atk {f : Nat} {x : D} : atK g f (.ok x ρ) = opt ((attrR g f x).map .val) ρ := rfl
@[simp] theorem q_atO {f : Nat} {d : D} : attrO g f (.val d) = attrR g f d := rfl
/-! calls -/
@[simp] theorem q_calk {f : Nat} {as : List Ar} : calK Φ f (.ok as ρ) = callR Φ f as ρ := rfl
@[simp] theorem q_calkx {f c : Nat} {d : D} : calK Φ f (.exc c d ρ) = .exc c d ρ := rfl
@[simp] theorem q_mak {c : Nat} {as : List Ar} : makK g Φ c (.ok as ρ) = makeR Φ g.ini c as ρ := rfl
@[simp] theorem q_makx {c x : Nat} {d : D} : makK g Φ c (.exc x d ρ) = .exc x d ρ := rfl
@[simp] theorem q_cbk {b : BF} {as : List Ar} : cbK g b (.ok as ρ) = cb1 b (getDs g.flds ρ as) ρ := rfl
@[simp] theorem q_cb1 {b : BF} {ds : List D} : cb1 b (some ds) ρ = opt (cbD b ds) ρ := rfl
@[simp] theorem q_gd0 : getDs g.flds ρ [] = some [] := rfl
/-- one more -/
def consO : Option D → Option (List D) → Option (List D)
  | some d, some ds => some (d :: ds)
  | _, _ => none
@[simp] theorem q_gdc {a : Ar} {as : List Ar} : getDs g.flds ρ (a :: as) = consO (a.d g.flds ρ) (getDs g.flds ρ as) := by
  show (match a.d g.flds ρ, getDs g.flds ρ as with
    | some d, some ds => some (d :: ds)
    | _, _ => none) = _
  cases a.d g.flds ρ <;> cases getDs g.flds ρ as <;> rfl
@[simp] theorem q_co {d : D} {ds : List D} : consO (some d) (some ds) = some (d :: ds) := rfl
@[simp] theorem q_isk {t : IsT} {a : Ar} : isK g t (.ok a ρ) = is1 g t (a.d g.flds ρ) ρ := rfl
@[simp] theorem q_is1 {t : IsT} {x : D} : is1 g t (some x) ρ = opt ((isiD g.nc x t).map fun b => .val (.bl b)) ρ := rfl
@[simp] theorem q_srt {ds : List D} : srtK (.ok (.lst ds) ρ) = if ds.length < 64 then opt ((allI ds).map fun ns => .lst ((usort ns).map .int)) ρ else .stuck := rfl
/-! walks -/
@[simp] theorem q_iseq {e : IE} : evI g Φ (.seq e) ρ = seqK (dE g Φ e ρ) := by
  show ((dE g Φ e ρ).bind fun d ρ => match d with
    | .tup ds => .ok ds ρ
    | .lst ds => .ok ds ρ
    | .rng lo hi => if rngOk lo hi = true then .ok (rngL lo hi) ρ else .stuck
    | .dct ks _ => .ok ks ρ
    | _ => .stuck) = _
  unfold seqK seq1
  rfl
@[simp] theorem q_ienum {e : IE} : evI g Φ (.enum e) ρ = enumK (dE g Φ e ρ) := rfl
@[simp] theorem q_izip {a b : IE} : evI g Φ (.zip a b) ρ = zipK g Φ b (dE g Φ a ρ) := by
  show ((dE g Φ a ρ).bind fun x ρ => (dE g Φ b ρ).bind fun y ρ => match x, y with
    | .lst xs, .lst ys => .ok (zipD xs ys) ρ
    | .tup xs, .tup ys => .ok (zipD xs ys) ρ
    | _, _ => .stuck) = _
  unfold zipK zip1
  rfl
@[simp] theorem q_iitm {e : IE} : evI g Φ (.items e) ρ = itmK (dE g Φ e ρ) := by
  show ((dE g Φ e ρ).bind fun d ρ => match d with
    | .dct ks vs => .ok (zipD ks vs) ρ
    | _ => .stuck) = _
  unfold itmK itm1
  rfl
@[simp] theorem q_itmk {d : D} : itmK (.ok d ρ) = itm1 d ρ := rfl
@[simp] theorem q_itm1 {ks vs : List D} : itm1 (.dct ks vs) ρ = .ok (zipD ks vs) ρ := rfl
@[simp] theorem q_seqd {ks vs : List D} : seq1 (.dct ks vs) ρ = .ok ks ρ := rfl
@[simp] theorem q_seqk {d : D} : seqK (.ok d ρ) = seq1 d ρ := rfl
@[simp] theorem q_seqt {ds : List D} : seq1 (.tup ds) ρ = .ok ds ρ := rfl
@[simp] theorem q_seql {ds : List D} : seq1 (.lst ds) ρ = .ok ds ρ := rfl
@[simp] theorem q_seqr {i j : Int} : seq1 (.rng i j) ρ = if rngOk i j = true then .ok (rngL i j) ρ else .stuck := rfl
@[simp] theorem q_enumkt {ds : List D} : enumK (.ok (.tup ds) ρ) = .ok (enumD ds) ρ := rfl
@[simp] theorem q_enumk {ds : List D} : enumK (.ok (.lst ds) ρ) = .ok (enumD ds) ρ := rfl
@[simp] theorem q_zipk {b : IE} {x : D} : zipK g Φ b (.ok x ρ) = zipK2 x (dE g Φ b ρ) := rfl
@[simp] theorem q_zipk2 {x y : D} : zipK2 x (.ok y ρ) = zip1 x y ρ := rfl
@[simp] theorem q_zipl {xs ys : List D} : zip1 (.lst xs) (.lst ys) ρ = .ok (zipD xs ys) ρ := rfl
@[simp] theorem q_zipt {xs ys : List D} : zip1 (.tup xs) (.tup ys) ρ = .ok (zipD xs ys) ρ := rfl
@[simp] theorem q_comk {elt : IE} {own : List Nat} {tg : Tg} {c : IO} {ds : List D} : comK g Φ elt own tg c (.ok ds ρ) = compE g Φ elt own tg c ds ρ := rfl
@[simp] theorem q_com2k {elt : IE} {own own1 : List Nat} {tg tg1 : Tg} {src1 : II} {c : IO} {ds : List D} : com2K g Φ elt own own1 tg tg1 src1 c (.ok ds ρ) = comp2E g Φ elt own own1 tg tg1 src1 c ds ρ := rfl
@[simp] theorem q_c0 : evC g Φ .non ρ = .ok true ρ := rfl
@[simp] theorem q_c1 {e : IE} : evC g Φ (.som e) ρ = tstK g (arE g Φ e ρ) := rfl
/-! ### statements -/
@[simp] theorem q_dstar {e : IE} {es : IEs} : evDs g Φ (.star e es) ρ = starK g Φ es (dE g Φ e ρ) := by
  unfold starK dE
  show (asD g.flds (evE g Φ e ρ)).bind _ = (asD g.flds (evE g Φ e ρ)).bind _
  congr 1
@[simp] theorem q_stark {es : IEs} {xs : List D} : starK g Φ es (.ok (.tup xs) ρ) = star2 xs (evDs g Φ es ρ) := rfl
@[simp] theorem q_starkl {es : IEs} {xs : List D} : starK g Φ es (.ok (.lst xs) ρ) = star2 xs (evDs g Φ es ρ) := rfl
@[simp] theorem q_star2 {xs ds : List D} : star2 xs (.ok ds ρ) = .ok (xs ++ ds) ρ := rfl
@[simp] theorem q_ss0 : evSs g Φ .nil ρ = .nx ρ := rfl
@[simp] theorem q_ssc {s : IS} {ss : ISs} : evSs g Φ (.cons s ss) ρ = seqS g Φ ss (evS g Φ s ρ) := rfl
@[simp] theorem q_snx {ss : ISs} : seqS g Φ ss (.nx ρ) = evSs g Φ ss ρ := rfl
@[simp] theorem q_srt' {ss : ISs} {r : R} : seqS g Φ ss (.rt r ρ) = .rt r ρ := rfl
@[simp] theorem q_sbk {ss : ISs} : seqS g Φ ss (.bk ρ) = .bk ρ := rfl
@[simp] theorem q_sct {ss : ISs} : seqS g Φ ss (.ct ρ) = .ct ρ := rfl
@[simp] theorem q_sex {ss : ISs} {c : Nat} {d : D} : seqS g Φ ss (.exc c d ρ) = .exc c d ρ := rfl
@[simp] theorem q_asg {i : Nat} {e : IE} : evS g Φ (.asg i e) ρ = asgK i (evE g Φ e ρ) := rfl
@[simp] theorem q_asgk {i : Nat} {r : R} : asgK i (.ok r ρ) = .nx (ρ.set i (some r)) := rfl
@[simp] theorem q_asgx {i c : Nat} {d : D} : asgK i (.exc c d ρ) = .exc c d ρ := rfl
@[simp] theorem q_par {is : List Nat} {es : IEs} : evS g Φ (.par is es) ρ = parK is (evAs g Φ es ρ) := by
  show ((evAs g Φ es ρ).thn fun as ρ => match arRs as with
    | some rs => if is.length = rs.length then .nx (setRs is rs ρ) else .stuck
    | none => .stuck) = _
  unfold parK par1
  rfl
@[simp] theorem q_park {is : List Nat} {as : List Ar} : parK is (.ok as ρ) = par1 is (arRs as) ρ := rfl
@[simp] theorem q_parx {is : List Nat} {c : Nat} {d : D} : parK is (.exc c d ρ) = .exc c d ρ := rfl
@[simp] theorem q_par1 {is : List Nat} {rs : List R} : par1 is (some rs) ρ = if is.length = rs.length then .nx (setRs is rs ρ) else .stuck := rfl
@[simp] theorem q_ar0 : arRs [] = some [] := rfl
@[simp] theorem q_arc {r : R} {as : List Ar} : arRs (.v r :: as) = (arRs as).map (r :: ·) := rfl
@[simp] theorem q_sr0 {rs : List R} : setRs [] rs ρ = ρ := by cases rs <;> rfl
@[simp] theorem q_src {i : Nat} {is : List Nat} {r : R} {rs : List R} : setRs (i :: is) (r :: rs) ρ = setRs is rs (ρ.set i (some r)) := rfl
@[simp] theorem q_sdf {i : Nat} {k v : IE} : evS g Φ (.sdf i k v) ρ = sdf1 g Φ i k v (ρ.at i) ρ := by
  show (match ρ.at i with
    | some (.dct ks0 _) => if ks0.all D.isInt = true then (dE g Φ k ρ).thn fun k ρ => (dE g Φ v ρ).thn fun d ρ => (match ρ.at i with
      | some (.dct ks vs) => if k.isInt = true ∧ ks.all D.isInt = true ∧ ks.length < 16777216 then .nx (ρ.set i (some (match dFind ks k with
        | some _ => .dct ks vs
        | none => .dct (ks ++ [k]) (vs ++ [d])))) else .stuck
      | _ => .stuck) else .stuck
    | _ => .stuck) = _
  unfold sdf1 sdf2 sdf3 sdf4
  rfl
@[simp] theorem q_sdf1 {i : Nat} {k v : IE} {ks vs : List D} : sdf1 g Φ i k v (some (.dct ks vs)) ρ = if ks.all D.isInt = true then sdf2 g Φ i v (dE g Φ k ρ) else .stuck := rfl
@[simp] theorem q_sdf2 {i : Nat} {v : IE} {k : D} : sdf2 g Φ i v (.ok k ρ) = sdf3 i k (dE g Φ v ρ) := rfl
@[simp] theorem q_sdf3 {i : Nat} {k d : D} : sdf3 i k (.ok d ρ) = sdf4 i k d (ρ.at i) ρ := rfl
@[simp] theorem q_sdf4 {i : Nat} {k d : D} {ks vs : List D} : sdf4 i k d (some (.dct ks vs)) ρ = if k.isInt = true ∧ ks.all D.isInt = true ∧ ks.length < 16777216 then .nx (ρ.set i (some (match dFind ks k with
      | some _ => .dct ks vs
      | none => .dct (ks ++ [k]) (vs ++ [d])))) else .stuck := rfl
@[simp] theorem q_unp {is : List Nat} {e : IE} : evS g Φ (.unp is e) ρ = unpK is (dE g Φ e ρ) := rfl
@[simp] theorem q_unpk {is : List Nat} {d : D} : unpK is (.ok d ρ) = unp1 (setTg (.many is) d ρ) := rfl
@[simp] theorem q_unpx {is : List Nat} {c : Nat} {d : D} : unpK is (.exc c d ρ) = .exc c d ρ := rfl
@[simp] theorem q_unp1 : unp1 (some ρ) = .nx ρ := rfl
@[simp] theorem q_tg1 {i : Nat} {d : D} : setTg (.one i) d ρ = some (ρ.set i (some (.val d))) := rfl
@[simp] theorem q_tgm {is : List Nat} {ds : List D} : setTg (.many is) (.tup ds) ρ = if is.length = ds.length then some (storeL is ds ρ) else none := rfl
@[simp] theorem q_st0 {ds : List D} : storeL [] ds ρ = ρ := by cases ds <;> rfl
@[simp] theorem q_stc {i : Nat} {is : List Nat} {d : D} {ds : List D} : storeL (i :: is) (d :: ds) ρ = storeL is ds (ρ.set i (some (.val d))) := rfl
@[simp] theorem q_seti {i : Nat} {k v : IE} : evS g Φ (.seti i k v) ρ = stiK g Φ i k (dE g Φ v ρ) := by
  show ((dE g Φ v ρ).thn fun d ρ => match ρ.at i with
    | some (.lst _) => (dE g Φ k ρ).thn fun k ρ => (match ρ.at i, k with
      | some (.lst ds), .int k => (match L2.ixN ds.length k with
        | some j => .nx (ρ.set i (some (.lst (ds.set j d))))
        | none => .stuck)
      | _, _ => .stuck)
    | _ => .stuck) = _
  unfold stiK sti1 stiK2 sti2
  rfl
@[simp] theorem q_stik {i : Nat} {k : IE} {d : D} : stiK g Φ i k (.ok d ρ) = sti1 g Φ i k d (ρ.at i) ρ := rfl
@[simp] theorem q_sti1 {i : Nat} {k : IE} {d : D} {ds : List D} : sti1 g Φ i k d (some (.lst ds)) ρ = stiK2 i d (dE g Φ k ρ) := rfl
@[simp] theorem q_stik2 {i : Nat} {d k : D} : stiK2 i d (.ok k ρ) = sti2 i d (ρ.at i) k ρ := rfl
@[simp] theorem q_setd {i : Nat} {k v : IE} : evS g Φ (.setd i k v) ρ = stdK g Φ i k (dE g Φ v ρ) := by
  show ((dE g Φ v ρ).thn fun d ρ => match ρ.at i with
    | some (.dct _ _) => (dE g Φ k ρ).thn fun k ρ => (match ρ.at i with
      | some (.dct ks vs) => if keyOk ks k = true ∧ ks.length < 16777216 then .nx (ρ.set i (some (.dct (dPutK ks k) (dPutV ks vs k d)))) else .stuck
      | _ => .stuck)
    | _ => .stuck) = _
  unfold stdK std1 stdK2 std2
  rfl
@[simp] theorem q_stdk {i : Nat} {k : IE} {d : D} : stdK g Φ i k (.ok d ρ) = std1 g Φ i k d (ρ.at i) ρ := rfl
@[simp] theorem q_std1 {i : Nat} {k : IE} {d : D} {ks vs : List D} : std1 g Φ i k d (some (.dct ks vs)) ρ = stdK2 i d (dE g Φ k ρ) := rfl
@[simp] theorem q_stdk2 {i : Nat} {d k : D} : stdK2 i d (.ok k ρ) = std2 i d (ρ.at i) k ρ := rfl
@[simp] theorem q_std2 {i : Nat} {d k : D} {ks vs : List D} : std2 i d (some (.dct ks vs)) k ρ = if keyOk ks k = true ∧ ks.length < 16777216 then .nx (ρ.set i (some (.dct (dPutK ks k) (dPutV ks vs k d)))) else .stuck := rfl
@[simp] theorem q_fld {i f : Nat} {e : IE} : evS g Φ (.fld i f e) ρ = fldK g i f (dE g Φ e ρ) := rfl
@[simp] theorem q_fldk {i f : Nat} {d : D} : fldK g i f (.ok d ρ) = fld1 g i f d (ρ.at i) ρ := rfl
@[simp] theorem q_fld1 {i f c : Nat} {d : D} {rs : List R} : fld1 g i f d (some (.obj c rs)) ρ = if c < g.nc ∧ (g.flds c).idxOf f = rs.length ∧ rs.length < (g.flds c).length then .nx (ρ.set i (some (.obj c (rs ++ [.val d])))) else .stuck := rfl
@[simp] theorem q_app {i : Nat} {e : IE} : evS g Φ (.app i e) ρ = app1 g Φ i e (ρ.at i) ρ := rfl
@[simp] theorem q_app1 {i : Nat} {e : IE} {ds : List D} : app1 g Φ i e (some (.lst ds)) ρ = appK i (dE g Φ e ρ) := rfl
@[simp] theorem q_appk {i : Nat} {d : D} : appK i (.ok d ρ) = app2 i d (ρ.at i) ρ := rfl
@[simp] theorem q_app2 {i : Nat} {d : D} {ds : List D} : app2 i d (some (.lst ds)) ρ = if ds.length < 16777216 then .nx (ρ.set i (some (.lst (ds ++ [d])))) else .stuck := rfl
@[simp] theorem q_insr {i : Nat} {k e : IE} : evS g Φ (.insr i k e) ρ = ins1 g Φ i k e (ρ.at i) ρ := by
  show (match ρ.at i with
    | some (.lst _) => (dE g Φ k ρ).thn fun k ρ => (dE g Φ e ρ).thn fun d ρ => (match ρ.at i, k with
      | some (.lst ds), .int k => if ds.length < 16777216 ∧ 0 ≤ k ∧ k < 9223372036854775808 then .nx (ρ.set i (some (.lst (ds.take k.toNat ++ d :: ds.drop k.toNat)))) else .stuck
      | _, _ => .stuck)
    | _ => .stuck) = _
  unfold ins1 insK insK2 ins2
  rfl
@[simp] theorem q_ins1 {i : Nat} {k e : IE} {ds : List D} : ins1 g Φ i k e (some (.lst ds)) ρ = insK g Φ i e (dE g Φ k ρ) := rfl
@[simp] theorem q_insk {i : Nat} {e : IE} {k : D} : insK g Φ i e (.ok k ρ) = insK2 i k (dE g Φ e ρ) := rfl
@[simp] theorem q_insk2 {i : Nat} {k d : D} : insK2 i k (.ok d ρ) = ins2 i k d (ρ.at i) ρ := rfl
@[simp] theorem q_ins2 {i : Nat} {k : Int} {d : D} {ds : List D} : ins2 i (.int k) d (some (.lst ds)) ρ = if ds.length < 16777216 ∧ 0 ≤ k ∧ k < 9223372036854775808 then .nx (ρ.set i (some (.lst (ds.take k.toNat ++ d :: ds.drop k.toNat)))) else .stuck := rfl
@[simp] theorem q_ex {e : IE} : evS g Φ (.ex e) ρ = exK (evE g Φ e ρ) := rfl
@[simp] theorem q_exk {r : R} : exK (.ok r ρ) = .nx ρ := rfl
@[simp] theorem q_exx {c : Nat} {d : D} : exK (.exc c d ρ) = .exc c d ρ := rfl
@[simp] theorem q_ifs {c : IE} {a b : ISs} : evS g Φ (.ifs c a b) ρ = ifK g Φ a b (tstK g (arE g Φ c ρ)) := rfl
@[simp] theorem q_ifk {a b : ISs} {k : Bool} : ifK g Φ a b (.ok k ρ) = if k = true then evSs g Φ a ρ else evSs g Φ b ρ := rfl
@[simp] theorem q_ifx {a b : ISs} {c : Nat} {d : D} : ifK g Φ a b (.exc c d ρ) = .exc c d ρ := rfl
@[simp] theorem q_for {tg : Tg} {src : II} {body : ISs} : evS g Φ (.for_ tg src body) ρ = forK g Φ tg body (evI g Φ src ρ) := rfl
@[simp] theorem q_fork {tg : Tg} {body : ISs} {ds : List D} : forK g Φ tg body (.ok ds ρ) = forE g Φ tg body ds ρ := rfl
@[simp] theorem q_forx {tg : Tg} {body : ISs} {c : Nat} {d : D} : forK g Φ tg body (.exc c d ρ) = .exc c d ρ := rfl
@[simp] theorem q_ret {e : IE} : evS g Φ (.ret e) ρ = retK (evE g Φ e ρ) := rfl
@[simp] theorem q_retk {r : R} : retK (.ok r ρ) = .rt r ρ := rfl
@[simp] theorem q_retx {c : Nat} {d : D} : retK (.exc c d ρ) = .exc c d ρ := rfl
@[simp] theorem q_retm {i : Nat} : evS g Φ (.retm i) ρ = retm1 i (ρ.at i) ρ := rfl
@[simp] theorem q_retm1 {i : Nat} {r : R} : retm1 i (some r) ρ = .rt r (ρ.set i none) := rfl
@[simp] theorem q_rai {c : Nat} {e : IE} : evS g Φ (.rai c e) ρ = raiK c (dE g Φ e ρ) := rfl
@[simp] theorem q_raik {c : Nat} {d : D} : raiK c (.ok d ρ) = .exc c d ρ := rfl
@[simp] theorem q_try {body : ISs} {hs : List Hd} : evS g Φ (.try_ body hs) ρ = tryK g hs (evSs g Φ body ρ) := rfl
@[simp] theorem q_trn {hs : List Hd} : tryK g hs (.nx ρ) = .nx ρ := rfl
@[simp] theorem q_trr {hs : List Hd} {r : R} : tryK g hs (.rt r ρ) = .rt r ρ := rfl
@[simp] theorem q_tre {hs : List Hd} {c : Nat} {d : D} : tryK g hs (.exc c d ρ) = evHs g hs c d ρ := rfl
@[simp] theorem q_brk : evS g Φ .brk ρ = .bk ρ := rfl
@[simp] theorem q_cnt : evS g Φ .cnt ρ = .ct ρ := rfl
@[simp] theorem q_pas : evS g Φ .pas ρ = .nx ρ := rfl
/-! ### calls of defs: by the value alone -/
end
inductive VRes where
  | ok (r : R) | exc (c : Nat) (d : D) | stuck
def FRes.v : FRes → VRes
  | .ok r _ => .ok r
  | .exc c d _ => .exc c d
  | .stuck => .stuck
def VRes.res : VRes → Env → Res R
  | .ok r, ρ => .ok r ρ
  | .exc c d, ρ => .exc c d ρ
  | .stuck, _ => .stuck
section
variable {g : G} {Φ : Fn} {ρ : Env}
@[simp] theorem q_vok {r : R} : (VRes.ok r).res ρ = .ok r ρ := rfl
@[simp] theorem q_vex {c : Nat} {d : D} : (VRes.exc c d).res ρ = .exc c d ρ := rfl
theorem hand_vs : ∀ (rs : List R), hand (rs.map Ar.v) ρ = some (rs, ρ)
  | [] => rfl
  | r :: rs => by
    show (hand (rs.map Ar.v) ρ).map _ = _
    rw [hand_vs rs]; rfl
theorem give_vs : ∀ (rs : List R) (outs : Env), giveB (rs.map Ar.v) outs ρ = ρ
  | [], _ => rfl
  | r :: rs, [] => rfl
  | r :: rs, o :: outs => give_vs rs outs
theorem call_vs {f : Nat} (rs : List R) : callR Φ f (rs.map Ar.v) ρ = (Φ f rs).v.res ρ := by
  unfold callR
  rw [hand_vs]
  dsimp only
  cases Φ f rs with
  | ok r outs => show Res.ok r (giveB _ _ _) = _; rw [give_vs]; rfl
  | exc c d outs => show Res.exc c d (giveB _ _ _) = _; rw [give_vs]; rfl
  | stuck => rfl
@[simp] theorem q_call1 {f : Nat} {a : R} : callR Φ f [.v a] ρ = (Φ f [a]).v.res ρ := call_vs [a]
@[simp] theorem q_call2 {f : Nat} {a b : R} : callR Φ f [.v a, .v b] ρ = (Φ f [a, b]).v.res ρ := call_vs [a, b]
@[simp] theorem q_call3 {f : Nat} {a b c : R} : callR Φ f [.v a, .v b, .v c] ρ = (Φ f [a, b, c]).v.res ρ := call_vs [a, b, c]
@[simp] theorem q_call4 {f : Nat} {a b c d : R} : callR Φ f [.v a, .v b, .v c, .v d] ρ = (Φ f [a, b, c, d]).v.res ρ := call_vs [a, b, c, d]
@[simp] theorem q_call5 {f : Nat} {a b c d e : R} : callR Φ f [.v a, .v b, .v c, .v d, .v e] ρ = (Φ f [a, b, c, d, e]).v.res ρ := call_vs [a, b, c, d, e]
@[simp] theorem q_call6 {f : Nat} {a b c d e h : R} : callR Φ f [.v a, .v b, .v c, .v d, .v e, .v h] ρ = (Φ f [a, b, c, d, e, h]).v.res ρ := call_vs [a, b, c, d, e, h]
/-- a borrowed first argument -/
def back1 (i : Nat) (x : FRes) (ρ : Env) : Res R := match x with
  | .ok r (o :: _) => .ok r (ρ.set i o)
  | .ok r [] => .ok r (ρ.set i none)
  | .exc c d (o :: _) => .exc c d (ρ.set i o)
  | .exc c d [] => .exc c d (ρ.set i none)
  | .stuck => .stuck
def callB1 (Φ : Fn) (f i : Nat) (as : List R) (o : Option R) (ρ : Env) : Res R := match o with
  | some r => back1 i (Φ f (r :: as)) ρ
  | none => .stuck
theorem call_b1 {f i : Nat} (rs : List R) : callR Φ f (.b i :: rs.map Ar.v) ρ = callB1 Φ f i rs (ρ.at i) ρ := by
  unfold callR
  have e : hand (.b i :: rs.map Ar.v) ρ = match ρ.at i with
    | some r => (hand (rs.map Ar.v) (ρ.set i none)).map fun p => (r :: p.1, p.2)
    | none => none := rfl
  rw [e]
  cases ρ.at i with
  | none => rfl
  | some r =>
    dsimp only
    rw [hand_vs]
    show (match Φ f (r :: rs) with
      | .ok x outs => Res.ok x (giveB (.b i :: rs.map Ar.v) outs (ρ.set i none))
      | .exc c d outs => .exc c d (giveB (.b i :: rs.map Ar.v) outs (ρ.set i none))
      | .stuck => .stuck) = back1 i (Φ f (r :: rs)) ρ
    have gv : ∀ outs : Env, giveB (.b i :: rs.map Ar.v) outs (ρ.set i none) = match outs with
      | o :: _ => ρ.set i o
      | [] => ρ.set i none := fun outs => by
      cases outs with
      | nil => rfl
      | cons o os =>
        show (giveB (rs.map Ar.v) os (ρ.set i none)).set i o = _
        rw [give_vs, List.set_set]
    cases Φ f (r :: rs) with
    | ok x outs => dsimp only; rw [gv]; cases outs <;> rfl
    | exc c d outs => dsimp only; rw [gv]; cases outs <;> rfl
    | stuck => rfl
@[simp] theorem q_callb1 {f i : Nat} : callR Φ f [.b i] ρ = callB1 Φ f i [] (ρ.at i) ρ := call_b1 []
@[simp] theorem q_callb2 {f i : Nat} {a : R} : callR Φ f [.b i, .v a] ρ = callB1 Φ f i [a] (ρ.at i) ρ := call_b1 [a]
@[simp] theorem q_callb3 {f i : Nat} {a b : R} : callR Φ f [.b i, .v a, .v b] ρ = callB1 Φ f i [a, b] (ρ.at i) ρ := call_b1 [a, b]
@[simp] theorem q_callb4 {f i : Nat} {a b c : R} : callR Φ f [.b i, .v a, .v b, .v c] ρ = callB1 Φ f i [a, b, c] (ρ.at i) ρ := call_b1 [a, b, c]
@[simp] theorem q_cb1s {f i : Nat} {as : List R} {r : R} : callB1 Φ f i as (some r) ρ = back1 i (Φ f (r :: as)) ρ := rfl
@[simp] theorem q_bk1 {i : Nat} {r : R} {o : Option R} {os : Env} : back1 i (.ok r (o :: os)) ρ = .ok r (ρ.set i o) := rfl
@[simp] theorem q_bk1x {i c : Nat} {d : D} {o : Option R} {os : Env} : back1 i (.exc c d (o :: os)) ρ = .exc c d (ρ.set i o) := rfl
end
/-! ### the def's end -/
@[simp] theorem q_finr {d : DefI} {r : R} {ρ : Env} : (d.fin (.rt r ρ)).v = .ok r := rfl
@[simp] theorem q_finn {d : DefI} {ρ : Env} : (d.fin (.nx ρ)).v = .ok (.val .non) := rfl
@[simp] theorem q_finx {d : DefI} {c : Nat} {v : D} {ρ : Env} : (d.fin (.exc c v ρ)).v = .exc c v := rfl
/-- a def, opened -/
theorem phi {md : Md} {n f : Nat} {d : DefI} {rs : List R} (hd : md.defs[f]? = some d) (hl : rs.length = d.ps.length) : md.Φ (n + 1) f rs = d.fin (evSs md.g (md.Φ n) d.body (d.env rs)) := by
  show (match md.defs[f]? with
    | some d => if rs.length = d.ps.length then d.fin (evSs md.g (md.Φ n) d.body (d.env rs)) else .stuck
    | none => .stuck) = _
  rw [hd]
  show (if rs.length = d.ps.length then d.fin (evSs md.g (md.Φ n) d.body (d.env rs)) else .stuck) = _
  rw [if_pos hl]
@[simp] theorem q_env {d : DefI} {rs : List R} : d.env rs = rs.map some ++ List.replicate (d.N.length - rs.length) none := rfl
section
variable {c : Prop} [Decidable c]
@[simp] theorem ii_res {α : Type} {a b : α} {ρ : Env} : (if c then Res.ok a ρ else Res.ok b ρ) = Res.ok (if c then a else b) ρ := by split <;> rfl
@[simp] theorem ii_val {a b : D} : (if c then R.val a else R.val b) = R.val (if c then a else b) := by split <;> rfl
@[simp] theorem ii_lst {a b : List D} : (if c then R.lst a else R.lst b) = R.lst (if c then a else b) := by split <;> rfl
@[simp] theorem ii_bl {a b : Bool} : (if c then D.bl a else D.bl b) = D.bl (if c then a else b) := by split <;> rfl
@[simp] theorem ii_int {a b : Int} : (if c then D.int a else D.int b) = D.int (if c then a else b) := by split <;> rfl
@[simp] theorem ii_some {α : Type} {a b : α} : (if c then some a else some b) = some (if c then a else b) := by split <;> rfl
end
/-- what a def tells, what it hands back -/
def finV : SRes → VRes
  | .nx _ => .ok (.val .non)
  | .rt r _ => .ok r
  | .exc c d _ => .exc c d
  | _ => .stuck
def finF (wr : List Nat) (k : Nat) : SRes → FRes
  | .nx ρ => .ok (.val .non) (outsA wr ρ 0 k)
  | .rt r ρ => .ok r (outsA wr ρ 0 k)
  | .exc c v ρ => .exc c v (outsA wr ρ 0 k)
  | _ => .stuck
@[simp] theorem fv_n {ρ : Env} : finV (.nx ρ) = .ok (.val .non) := rfl
@[simp] theorem fv_r {r : R} {ρ : Env} : finV (.rt r ρ) = .ok r := rfl
@[simp] theorem fv_x {c : Nat} {d : D} {ρ : Env} : finV (.exc c d ρ) = .exc c d := rfl
@[simp] theorem ff_n {wr : List Nat} {k : Nat} {ρ : Env} : finF wr k (.nx ρ) = .ok (.val .non) (outsA wr ρ 0 k) := rfl
@[simp] theorem ff_r {wr : List Nat} {k : Nat} {r : R} {ρ : Env} : finF wr k (.rt r ρ) = .ok r (outsA wr ρ 0 k) := rfl
@[simp] theorem ff_x {wr : List Nat} {k c : Nat} {d : D} {ρ : Env} : finF wr k (.exc c d ρ) = .exc c d (outsA wr ρ 0 k) := rfl
theorem phi_v {md : Md} {n f : Nat} {d : DefI} {rs : List R} (hd : md.defs[f]? = some d) (hl : rs.length = d.ps.length) : (md.Φ (n + 1) f rs).v = finV (evSs md.g (md.Φ n) d.body (d.env rs)) := by
  rw [phi hd hl]
  cases evSs md.g (md.Φ n) d.body (d.env rs) <;> rfl
theorem phi_f {md : Md} {n f : Nat} {d : DefI} {rs : List R} (hd : md.defs[f]? = some d) (hl : rs.length = d.ps.length) : md.Φ (n + 1) f rs = finF d.wr d.ps.length (evSs md.g (md.Φ n) d.body (d.env rs)) := by
  rw [phi hd hl]
  cases evSs md.g (md.Φ n) d.body (d.env rs) <;> rfl
end Fx
end
section
set_option linter.all false
set_option Elab.async false
set_option maxRecDepth 100000
set_option maxHeartbeats 1000000
/-! Methods, owned fields, while, as rewriting. -/
namespace Fx
open PySem (Operator CmpOp)
section
variable (g : G) (Φ : Fn)
def clsO (o : Option R) : Option Nat := match o with
  | some (.obj c _) => some c
  | _ => none
def mcK (m : Nat) (es : IEs) (x : Res Ar) : Res R := mcallR g Φ m x fun ρ => evAs g Φ es ρ
def mc2 (f : Nat) (a : Ar) (x : Res (List Ar)) : Res R := x.bind fun as ρ => callR Φ f (a :: as) ρ
def mc1 (a : Ar) (es : IEs) (p : Option (Nat × Nat)) (o : Option Nat) (ρ : Env) : Res R := match p with
  | some (c, f) => if o = some c ∧ c < g.nc then mc2 Φ f a (evAs g Φ es ρ) else .stuck
  | none => .stuck
def lix1 (ds : List D) (x : Res D) : Res R := x.bind fun y ρ => if (ds.all D.isInt && y.isInt) = true then optR ((ds.findIdx? fun z => z.eqv y).map fun j => R.val (.int j)) ρ else .stuck
def lixK (b : IE) (x : Res D) : Res R := x.bind fun x ρ => match x with
  | .lst ds => lix1 ds (dE g Φ b ρ)
  | _ => .stuck
def setB (i : Nat) (r : R) (x : Res R) : Res R := match x with
  | .ok v ρ => .ok v (ρ.set i (some r))
  | _ => .stuck
def cd1 (elt : IE) (own : List Nat) (tg : Tg) (c : IO) (i : Nat) (o : Option R) (ρ : Env) : Res R := match o with
  | some (.dct ks vs) => setB i (.dct ks vs) (compE g Φ elt own tg c ks (ρ.set i none))
  | _ => .stuck
def idf2 (i c : Nat) (rs : List R) (ks vs : List D) (x : Res D) : Res R := x.bind fun kd ρ => if keyOk ks kd = true then optR ((dGet ks vs kd).map R.val) (ρ.set i (some (.obj c rs))) else .stuck
def idf1 (k : IE) (i : Nat) (o : Option (Nat × List R × Nat × R)) (ρ : Env) : Res R := match o with
  | some (c, rs, _, .dct ks vs) => idf2 i c rs ks vs (dE g Φ k (ρ.set i none))
  | _ => .stuck
def inf1 (ng : Bool) (kd : D) (o : Option (Nat × List R × Nat × R)) (ρ : Env) : Res R := match o with
  | some (_, _, _, .dct ks _) => if keyOk ks kd = true then Res.ok (R.val (D.bl (ng ^^ (dFind ks kd).isSome))) ρ else .stuck
  | _ => .stuck
def infK (ng : Bool) (i f : Nat) (x : Res D) : Res R := x.bind fun kd ρ => inf1 ng kd (fldR g f (ρ.at i)) ρ
def gcd1 (x y : D) (ρ : Env) : Res R := match x, y with
  | .int i, .int j => Res.ok (R.val (D.int (Nat.gcd i.natAbs j.natAbs))) ρ
  | _, _ => .stuck
def gcdK2 (x : D) (z : Res D) : Res R := z.bind fun y ρ => gcd1 x y ρ
def gcdK (b : IE) (z : Res D) : Res R := z.bind fun x ρ => gcdK2 x (dE g Φ b ρ)
def fdo2 (i c : Nat) (o : Option (List R)) (ρ : Env) : SRes := match o with
  | some rs' => .nx (ρ.set i (some (.obj c rs')))
  | none => .stuck
def fdo1 (i f : Nat) (r : R) (o : Option R) (ρ : Env) : SRes := match o with
  | some (.obj c rs) => if c < g.nc then fdo2 i c (fldPut ((g.flds c).idxOf f) (g.flds c).length rs r) ρ else .stuck
  | _ => .stuck
def fdoK (i f : Nat) (x : Res R) : SRes := x.thn fun r ρ => fdo1 g i f r (ρ.at i) ρ
def stf2 (i c : Nat) (rs : List R) (j : Nat) (ks vs : List D) (d : D) (x : Res D) : SRes := x.thn fun kd ρ => if keyOk ks kd = true ∧ ks.length < 16777216 then .nx (ρ.set i (some (.obj c (rs.set j (.dct (dPutK ks kd) (dPutV ks vs kd d)))))) else .stuck
def stf1 (i : Nat) (k : IE) (d : D) (o : Option (Nat × List R × Nat × R)) (ρ : Env) : SRes := match o with
  | some (c, rs, j, .dct ks vs) => stf2 i c rs j ks vs d (dE g Φ k (ρ.set i none))
  | _ => .stuck
def stfK (i f : Nat) (k : IE) (x : Res D) : SRes := x.thn fun d ρ => stf1 g Φ i k d (fldR g f (ρ.at i)) ρ
def augK (sb : Bool) (i : Nat) (a : Int) (x : Res D) : SRes := x.thn fun d ρ => match d with
  | .int b => .nx (ρ.set i (some (R.val (D.int (if sb = true then a - b else a + b)))))
  | _ => .stuck
def aug1 (sb : Bool) (i : Nat) (e : IE) (o : Option R) (ρ : Env) : SRes := match o with
  | some (R.val (D.int a)) => augK sb i a (dE g Φ e ρ)
  | _ => .stuck
def whE (c : IE) (body : ISs) (n : Nat) (ρ : Env) : SRes := whF (fun ρ => teE g Φ c ρ) (fun ρ => evSs g Φ body ρ) n ρ
def whB (c : IE) (body : ISs) (n : Nat) (x : SRes) : SRes := match x with
  | .nx ρ2 => whE g Φ c body n ρ2
  | .ct ρ2 => whE g Φ c body n ρ2
  | .bk ρ2 => .nx ρ2
  | x => x
def whK (c : IE) (body : ISs) (n : Nat) (x : Res Bool) : SRes := x.thn fun b ρ => if b = true then whB g Φ c body n (evSs g Φ body ρ) else .nx ρ
end
section
variable {g : G} {Φ : Fn} {ρ : Env}
@[simp] theorem q_compd {i : Nat} {elt : IE} {own : List Nat} {tg : Tg} {c : IO} : evE g Φ (.compd i elt own tg c) ρ = cd1 g Φ elt own tg c i (ρ.at i) ρ := by
  show (match ρ.at i with
    | some (.dct ks vs) => ((compF own tg (fun ρ => evC g Φ c ρ) (fun ρ => asD g.flds (evE g Φ elt ρ)) ks (wipeE (ρ.set i none) own) []).bind fun acc ρ' => .ok (R.lst acc) ((restE (ρ.set i none) ρ' own).set i (some (.dct ks vs)))).calm
    | _ => .stuck) = _
  unfold cd1
  cases ρ.at i with
  | none => rfl
  | some r =>
    cases r with
    | dct ks vs =>
      show _ = setB i (.dct ks vs) ((compF own tg (fun ρ => evC g Φ c ρ) (fun ρ => asD g.flds (evE g Φ elt ρ)) ks (wipeE (ρ.set i none) own) []).bind fun acc ρ' => .ok (R.lst acc) (restE (ρ.set i none) ρ' own)).calm
      dsimp only
      cases compF own tg (fun ρ => evC g Φ c ρ) (fun ρ => asD g.flds (evE g Φ elt ρ)) ks (wipeE (ρ.set i none) own) [] <;> rfl
    | _ => rfl
@[simp] theorem q_ar_compd {i : Nat} {elt : IE} {own : List Nat} {tg : Tg} {c : IO} : arE g Φ (.compd i elt own tg c) ρ = toAr (evE g Φ (.compd i elt own tg c) ρ) := rfl
@[simp] theorem q_cd1 {i : Nat} {elt : IE} {own : List Nat} {tg : Tg} {c : IO} {ks vs : List D} : cd1 g Φ elt own tg c i (some (.dct ks vs)) ρ = setB i (.dct ks vs) (compE g Φ elt own tg c ks (ρ.set i none)) := rfl
@[simp] theorem q_setB {i : Nat} {r v : R} : setB i r (.ok v ρ) = .ok v (ρ.set i (some r)) := rfl
@[simp] theorem q_clsO {c : Nat} {rs : List R} : clsO (some (.obj c rs)) = some c := rfl
@[simp] theorem q_clsB {i : Nat} : clsA ρ (.b i) = clsO (ρ.at i) := rfl
@[simp] theorem q_clsV {c : Nat} {ds : List D} : clsA ρ (.v (.val (.ins c ds))) = some c := rfl
@[simp] theorem q_mcall {m i : Nat} {es : IEs} : evE g Φ (.mcall m i es) ρ = mcK g Φ m es (argVar i ρ) := rfl
@[simp] theorem q_ar_mcall {m i : Nat} {es : IEs} : arE g Φ (.mcall m i es) ρ = toAr (evE g Φ (.mcall m i es) ρ) := rfl
@[simp] theorem q_attr_mcall {m i : Nat} {es : IEs} {f : Nat} : evE g Φ (.attr (.mcall m i es) f) ρ = atK g f (dE g Φ (.mcall m i es) ρ) := rfl
@[simp] theorem q_mck {m : Nat} {es : IEs} {a : Ar} : mcK g Φ m es (.ok a ρ) = mc1 g Φ a es (g.meth m) (clsA ρ a) ρ := by
  show (match g.meth m with
    | some (c, f) => if clsA ρ a = some c ∧ c < g.nc then (evAs g Φ es ρ).bind fun as ρ => callR Φ f (a :: as) ρ else .stuck
    | none => .stuck) = _
  unfold mc1 mc2
  rfl
@[simp] theorem q_mc1 {a : Ar} {es : IEs} {c f c' : Nat} : mc1 g Φ a es (some (c, f)) (some c') ρ = if c' = c ∧ c < g.nc then mc2 Φ f a (evAs g Φ es ρ) else .stuck := by
  show (if some c' = some c ∧ c < g.nc then mc2 Φ f a (evAs g Φ es ρ) else Res.stuck) = _
  simp only [Option.some.injEq]
@[simp] theorem q_mc2 {f : Nat} {a : Ar} {as : List Ar} : mc2 Φ f a (.ok as ρ) = callR Φ f (a :: as) ρ := rfl
@[simp] theorem q_fldR {f c : Nat} {rs : List R} : fldR g f (some (.obj c rs)) = if c < g.nc then (rs[(g.flds c).idxOf f]?).map fun r => (c, rs, (g.flds c).idxOf f, r) else none := by
  show (if c < g.nc then (match rs[(g.flds c).idxOf f]? with
    | some r => some (c, rs, (g.flds c).idxOf f, r)
    | none => none) else none) = _
  cases rs[(g.flds c).idxOf f]? <;> rfl
@[simp] theorem q_idf {i f : Nat} {k : IE} : evE g Φ (.idf i f k) ρ = idf1 g Φ k i (fldR g f (ρ.at i)) ρ := by
  show (match fldR g f (ρ.at i) with
    | some (c, rs, _, .dct ks vs) => (asD g.flds (evE g Φ k (ρ.set i none))).bind fun kd ρ => if keyOk ks kd = true then optR ((dGet ks vs kd).map R.val) (ρ.set i (some (.obj c rs))) else .stuck
    | _ => .stuck) = _
  unfold idf1 idf2
  rfl
@[simp] theorem q_ar_idf {i f : Nat} {k : IE} : arE g Φ (.idf i f k) ρ = toAr (evE g Φ (.idf i f k) ρ) := rfl
@[simp] theorem q_idf1 {i c j : Nat} {k : IE} {rs : List R} {ks vs : List D} : idf1 g Φ k i (some (c, rs, j, .dct ks vs)) ρ = idf2 i c rs ks vs (dE g Φ k (ρ.set i none)) := rfl
@[simp] theorem q_idf2 {i c : Nat} {rs : List R} {ks vs : List D} {kd : D} : idf2 i c rs ks vs (.ok kd ρ) = if keyOk ks kd = true then opt ((dGet ks vs kd).map R.val) (ρ.set i (some (.obj c rs))) else .stuck := rfl
@[simp] theorem q_inf {i f : Nat} {ng : Bool} {k : IE} : evE g Φ (.inf ng k i f) ρ = infK g ng i f (dE g Φ k ρ) := by
  show ((asD g.flds (evE g Φ k ρ)).bind fun kd ρ => match fldR g f (ρ.at i) with
    | some (_, _, _, .dct ks _) => if keyOk ks kd = true then Res.ok (R.val (D.bl (ng ^^ (dFind ks kd).isSome))) ρ else .stuck
    | _ => .stuck) = _
  unfold infK inf1
  rfl
@[simp] theorem q_ar_inf {i f : Nat} {ng : Bool} {k : IE} : arE g Φ (.inf ng k i f) ρ = toAr (evE g Φ (.inf ng k i f) ρ) := rfl
@[simp] theorem q_infk {i f : Nat} {ng : Bool} {kd : D} : infK g ng i f (.ok kd ρ) = inf1 ng kd (fldR g f (ρ.at i)) ρ := rfl
@[simp] theorem q_inf1 {c j : Nat} {ng : Bool} {kd : D} {rs : List R} {ks vs : List D} : inf1 ng kd (some (c, rs, j, .dct ks vs)) ρ = if keyOk ks kd = true then Res.ok (R.val (D.bl (ng ^^ (dFind ks kd).isSome))) ρ else .stuck := rfl
@[simp] theorem q_lix {a b : IE} : evE g Φ (.lix a b) ρ = lixK g Φ b (dE g Φ a ρ) := by
  show ((dE g Φ a ρ).bind fun x ρ => match x with
    | .lst ds => (asD g.flds (evE g Φ b ρ)).bind fun y ρ => if (ds.all D.isInt && y.isInt) = true then optR ((ds.findIdx? fun z => z.eqv y).map fun j => R.val (.int j)) ρ else .stuck
    | _ => .stuck) = _
  unfold lixK lix1
  rfl
@[simp] theorem q_ar_lix {a b : IE} : arE g Φ (.lix a b) ρ = toAr (evE g Φ (.lix a b) ρ) := rfl
@[simp] theorem q_lixk {b : IE} {ds : List D} : lixK g Φ b (.ok (.lst ds) ρ) = lix1 ds (dE g Φ b ρ) := rfl
@[simp] theorem q_lix1 {ds : List D} {y : D} : lix1 ds (.ok y ρ) = if (ds.all D.isInt && y.isInt) = true then opt ((ds.findIdx? fun z => z.eqv y).map fun j => R.val (.int j)) ρ else .stuck := rfl
@[simp] theorem q_gcd {a b : IE} : evE g Φ (.gcd a b) ρ = gcdK g Φ b (dE g Φ a ρ) := by
  show ((dE g Φ a ρ).bind fun x ρ => (dE g Φ b ρ).bind fun y ρ => match x, y with
    | .int i, .int j => Res.ok (R.val (D.int (Nat.gcd i.natAbs j.natAbs))) ρ
    | _, _ => .stuck) = _
  unfold gcdK gcdK2 gcd1
  rfl
@[simp] theorem q_ar_gcd {a b : IE} : arE g Φ (.gcd a b) ρ = toAr (evE g Φ (.gcd a b) ρ) := rfl
@[simp] theorem q_gcdk {b : IE} {x : D} : gcdK g Φ b (.ok x ρ) = gcdK2 x (dE g Φ b ρ) := rfl
@[simp] theorem q_gcdk2 {x y : D} : gcdK2 x (.ok y ρ) = gcd1 x y ρ := rfl
@[simp] theorem q_gcd1 {i j : Int} : gcd1 (.int i) (.int j) ρ = Res.ok (R.val (D.int (Nat.gcd i.natAbs j.natAbs))) ρ := rfl
@[simp] theorem q_fldo {i f : Nat} {e : IE} : evS g Φ (.fldo i f e) ρ = fdoK g i f (evE g Φ e ρ) := by
  show ((evE g Φ e ρ).thn fun r ρ => match ρ.at i with
    | some (.obj c rs) => if c < g.nc then (match fldPut ((g.flds c).idxOf f) (g.flds c).length rs r with
      | some rs' => .nx (ρ.set i (some (.obj c rs')))
      | none => .stuck) else .stuck
    | _ => .stuck) = _
  unfold fdoK fdo1 fdo2
  rfl
@[simp] theorem q_fdok {i f : Nat} {r : R} : fdoK g i f (.ok r ρ) = fdo1 g i f r (ρ.at i) ρ := rfl
@[simp] theorem q_fdo1 {i f c : Nat} {r : R} {rs : List R} : fdo1 g i f r (some (.obj c rs)) ρ = if c < g.nc then fdo2 i c (fldPut ((g.flds c).idxOf f) (g.flds c).length rs r) ρ else .stuck := rfl
@[simp] theorem q_fdo2 {i c : Nat} {rs : List R} : fdo2 i c (some rs) ρ = .nx (ρ.set i (some (.obj c rs))) := rfl
@[simp] theorem q_fdox {i f c : Nat} {d : D} : fdoK g i f (.exc c d ρ) = .exc c d ρ := rfl
@[simp] theorem q_setf {i f : Nat} {k v : IE} : evS g Φ (.setf i f k v) ρ = stfK g Φ i f k (dE g Φ v ρ) := by
  show ((dE g Φ v ρ).thn fun d ρ => match fldR g f (ρ.at i) with
    | some (c, rs, j, .dct ks vs) => (asD g.flds (evE g Φ k (ρ.set i none))).thn fun kd ρ => if keyOk ks kd = true ∧ ks.length < 16777216 then .nx (ρ.set i (some (.obj c (rs.set j (.dct (dPutK ks kd) (dPutV ks vs kd d)))))) else .stuck
    | _ => .stuck) = _
  unfold stfK stf1 stf2
  rfl
@[simp] theorem q_stfk {i f : Nat} {k : IE} {d : D} : stfK g Φ i f k (.ok d ρ) = stf1 g Φ i k d (fldR g f (ρ.at i)) ρ := rfl
@[simp] theorem q_stf1 {i c j : Nat} {k : IE} {d : D} {rs : List R} {ks vs : List D} : stf1 g Φ i k d (some (c, rs, j, .dct ks vs)) ρ = stf2 i c rs j ks vs d (dE g Φ k (ρ.set i none)) := rfl
@[simp] theorem q_stf2 {i c j : Nat} {kd d : D} {rs : List R} {ks vs : List D} : stf2 i c rs j ks vs d (.ok kd ρ) = if keyOk ks kd = true ∧ ks.length < 16777216 then .nx (ρ.set i (some (.obj c (rs.set j (.dct (dPutK ks kd) (dPutV ks vs kd d)))))) else .stuck := rfl
@[simp] theorem q_aug {sb : Bool} {i : Nat} {e : IE} : evS g Φ (.aug sb i e) ρ = aug1 g Φ sb i e (ρ.at i) ρ := by
  show (match ρ.at i with
    | some (R.val (D.int a)) => (asD g.flds (evE g Φ e ρ)).thn fun d ρ => (match d with
      | .int b => .nx (ρ.set i (some (R.val (D.int (if sb = true then a - b else a + b)))))
      | _ => .stuck)
    | _ => .stuck) = _
  unfold aug1 augK
  rfl
@[simp] theorem q_aug1 {sb : Bool} {i : Nat} {e : IE} {a : Int} : aug1 g Φ sb i e (some (R.val (D.int a))) ρ = augK sb i a (dE g Φ e ρ) := rfl
@[simp] theorem q_augk {sb : Bool} {i : Nat} {a b : Int} : augK sb i a (.ok (.int b) ρ) = .nx (ρ.set i (some (R.val (D.int (if sb = true then a - b else a + b))))) := rfl
@[simp] theorem q_whl {c : IE} {body : ISs} : evS g Φ (.whl c body) ρ = whE g Φ c body 100 ρ := rfl
@[simp] theorem q_whk {c : IE} {body : ISs} {n : Nat} {b : Bool} : whK g Φ c body n (.ok b ρ) = if b = true then whB g Φ c body n (evSs g Φ body ρ) else .nx ρ := rfl
@[simp] theorem q_whx {c : IE} {body : ISs} {n : Nat} {x : Nat} {d : D} : whK g Φ c body n (.exc x d ρ) = .exc x d ρ := rfl
@[simp] theorem q_whb {c : IE} {body : ISs} {n : Nat} : whB g Φ c body n (.nx ρ) = whE g Φ c body n ρ := rfl
@[simp] theorem q_whc {c : IE} {body : ISs} {n : Nat} : whB g Φ c body n (.ct ρ) = whE g Φ c body n ρ := rfl
@[simp] theorem q_whr {c : IE} {body : ISs} {n : Nat} {r : R} : whB g Φ c body n (.rt r ρ) = .rt r ρ := rfl
@[simp] theorem o_rep0 {a : List D} {k : Int} (h : a ≠ []) (h1 : -1000 ≤ k) (h2 : k ≤ 0) : binD .Mult (.tup a) (.int k) = some (.val (.tup [])) := by
  show (if a ≠ [] ∧ 2 ≤ k ∧ k ≤ 1000 ∧ a.length ≤ 1000 then some (R.val (.tup (List.replicate k.toNat a).flatten)) else if (a = [] ∨ k = 1) ∧ -1000 ≤ k ∧ k ≤ 1000 then some (R.val (.tup a)) else if a ≠ [] ∧ -1000 ≤ k ∧ k ≤ 0 then some (R.val (.tup [])) else none) = _
  rw [if_neg (by omega), if_neg (by
    rintro ⟨h3 | h3, _⟩
    · exact h h3
    · omega), if_pos ⟨h, h1, h2⟩]
end
end Fx
end
section
set_option linter.all false
set_option Elab.async false
set_option maxRecDepth 100000
set_option maxHeartbeats 1000000
/-! Lists that a field owns, identity, == of tuples, as rewriting. -/
namespace Fx
open PySem (Operator CmpOp)
section
variable (g : G) (Φ : Fn)
def lstO (o : Option R) : Option (List D) := match o with
  | some (.lst ds) => some ds
  | _ => none
def lstD (o : Option D) : Option (List D) := match o with
  | some (.lst ds) => some ds
  | _ => none
def fpop2 (i c : Nat) (rs : List R) (j : Nat) (ds : List D) (o : Option D) (ρ : Env) : Res R := match o with
  | some d => .ok (.val d) (ρ.set i (some (.obj c (rs.set j (.lst ds.dropLast)))))
  | none => .stuck
def fpop1 (i : Nat) (o : Option (Nat × List R × Nat × R)) (ρ : Env) : Res R := match o with
  | some (c, rs, j, .lst ds) => fpop2 i c rs j ds ds[ds.length - 1]? ρ
  | _ => .stuck
def eqb1 (i j : Nat) (a b : Option R) (ρ : Env) : Res R := match a, b with
  | some (.obj c _), some (.obj c' _) => if g.eqk c = false ∧ c < g.nc ∧ c' = c then .ok (.val (.bl (decide (i = j)))) ρ else .stuck
  | _, _ => .stuck
def eqtK2 (x : D) (z : Res D) : Res R := z.bind fun y ρ => optR ((datT g Φ x y).map fun k => .val (.bl k)) ρ
def eqtK (b : IE) (z : Res D) : Res R := z.bind fun x ρ => eqtK2 g Φ x (dE g Φ b ρ)
def fap2 (i c : Nat) (rs : List R) (j : Nat) (ds : List D) (a b : Option D) (ρ : Env) : SRes := match a, b with
  | some a, some b => if ds.length < 16777216 then .nx (ρ.set i (some (.obj c (rs.set j (.lst (ds ++ [.tup [a, b]])))))) else .stuck
  | _, _ => .stuck
def fap1 (i : Nat) (o : Option (Nat × List R × Nat × R)) (a b : Option D) (ρ : Env) : SRes := match o with
  | some (c, rs, j, .lst ds) => fap2 i c rs j ds a b ρ
  | _ => .stuck
end
section
variable {g : G} {Φ : Fn} {ρ : Env}
@[simp] theorem q_frz {i : Nat} : evE g Φ (.frz i) ρ = rdVar g.flds i ρ := rfl
@[simp] theorem q_ar_frz {i : Nat} : arE g Φ (.frz i) ρ = toAr (evE g Φ (.frz i) ρ) := rfl
@[simp] theorem q_lstO {ds : List D} : lstO (some (.lst ds)) = some ds := rfl
@[simp] theorem q_lstD {ds : List D} : lstD (some (.lst ds)) = some ds := rfl
@[simp] theorem q_fldLo {f c : Nat} {rs : List R} : fldL g f (some (.obj c rs)) = if c < g.nc then lstO rs[(g.flds c).idxOf f]? else none := by
  show (if c < g.nc then (match rs[(g.flds c).idxOf f]? with
    | some (.lst ds) => some ds
    | _ => none) else none) = _
  rfl
@[simp] theorem q_fldLi {f c : Nat} {ds : List D} : fldL g f (some (.val (.ins c ds))) = if c < g.nc then lstD ds[(g.flds c).idxOf f]? else none := by
  show (if c < g.nc then (match ds[(g.flds c).idxOf f]? with
    | some (.lst ds) => some ds
    | _ => none) else none) = _
  rfl
@[simp] theorem q_fln {i f : Nat} : evE g Φ (.fln i f) ρ = opt ((fldL g f (ρ.at i)).map fun ds => R.val (D.int ds.length)) ρ := rfl
@[simp] theorem q_ar_fln {i f : Nat} : arE g Φ (.fln i f) ρ = toAr (evE g Φ (.fln i f) ρ) := rfl
@[simp] theorem q_ftr {i f : Nat} : evE g Φ (.ftr i f) ρ = opt ((fldL g f (ρ.at i)).map fun ds => R.val (D.bl (!ds.isEmpty))) ρ := rfl
@[simp] theorem q_ar_ftr {i f : Nat} : arE g Φ (.ftr i f) ρ = toAr (evE g Φ (.ftr i f) ρ) := rfl
@[simp] theorem q_fpop {i f : Nat} : evE g Φ (.fpop i f) ρ = fpop1 i (fldR g f (ρ.at i)) ρ := by
  show (match fldR g f (ρ.at i) with
    | some (c, rs, j, .lst ds) => (match ds[ds.length - 1]? with
      | some d => Res.ok (R.val d) (ρ.set i (some (.obj c (rs.set j (.lst ds.dropLast)))))
      | none => .stuck)
    | _ => .stuck) = _
  unfold fpop1 fpop2
  rfl
@[simp] theorem q_ar_fpop {i f : Nat} : arE g Φ (.fpop i f) ρ = toAr (evE g Φ (.fpop i f) ρ) := rfl
@[simp] theorem q_fpop1 {i c j : Nat} {rs : List R} {ds : List D} : fpop1 i (some (c, rs, j, .lst ds)) ρ = fpop2 i c rs j ds ds[ds.length - 1]? ρ := rfl
@[simp] theorem q_fpop2 {i c j : Nat} {rs : List R} {ds : List D} {d : D} : fpop2 i c rs j ds (some d) ρ = .ok (.val d) (ρ.set i (some (.obj c (rs.set j (.lst ds.dropLast))))) := rfl
@[simp] theorem q_eqb {i j : Nat} : evE g Φ (.eqb i j) ρ = eqb1 g i j (ρ.at i) (ρ.at j) ρ := by
  show (match ρ.at i, ρ.at j with
    | some (.obj c _), some (.obj c' _) => if g.eqk c = false ∧ c < g.nc ∧ c' = c then Res.ok (R.val (D.bl (decide (i = j)))) ρ else .stuck
    | _, _ => .stuck) = _
  rfl
@[simp] theorem q_ar_eqb {i j : Nat} : arE g Φ (.eqb i j) ρ = toAr (evE g Φ (.eqb i j) ρ) := rfl
@[simp] theorem q_eqb1 {i j c c' : Nat} {rs rs' : List R} : eqb1 g i j (some (.obj c rs)) (some (.obj c' rs')) ρ = if g.eqk c = false ∧ c < g.nc ∧ c' = c then .ok (R.val (D.bl (decide (i = j)))) ρ else .stuck := rfl
@[simp] theorem q_eqt {a b : IE} : evE g Φ (.eqt a b) ρ = eqtK g Φ b (dE g Φ a ρ) := rfl
@[simp] theorem q_ar_eqt {a b : IE} : arE g Φ (.eqt a b) ρ = toAr (evE g Φ (.eqt a b) ρ) := rfl
@[simp] theorem q_eqtk {b : IE} {x : D} : eqtK g Φ b (.ok x ρ) = eqtK2 g Φ x (dE g Φ b ρ) := rfl
@[simp] theorem q_eqtk2 {x y : D} : eqtK2 g Φ x (.ok y ρ) = opt ((datT g Φ x y).map fun k => R.val (D.bl k)) ρ := rfl
@[simp] theorem q_fapp {i f f1 f2 : Nat} : evS g Φ (.fapp i f f1 f2) ρ = fap1 i (fldR g f (ρ.at i)) ((ρ.at i).bind (attrO g f1)) ((ρ.at i).bind (attrO g f2)) ρ := by
  show (match fldR g f (ρ.at i), (ρ.at i).bind (attrO g f1), (ρ.at i).bind (attrO g f2) with
    | some (c, rs, j, .lst ds), some a, some b => if ds.length < 16777216 then SRes.nx (ρ.set i (some (.obj c (rs.set j (.lst (ds ++ [D.tup [a, b]])))))) else .stuck
    | _, _, _ => .stuck) = _
  unfold fap1 fap2
  cases fldR g f (ρ.at i) with
  | none => rfl
  | some t =>
    obtain ⟨c, rs, j, r⟩ := t
    cases r with
    | lst ds => cases (ρ.at i).bind (attrO g f1) <;> cases (ρ.at i).bind (attrO g f2) <;> rfl
    | _ => rfl
@[simp] theorem q_fap1 {i c j : Nat} {rs : List R} {ds : List D} {a b : Option D} : fap1 i (some (c, rs, j, .lst ds)) a b ρ = fap2 i c rs j ds a b ρ := rfl
@[simp] theorem q_fap2 {i c j : Nat} {rs : List R} {ds : List D} {a b : D} : fap2 i c rs j ds (some a) (some b) ρ = if ds.length < 16777216 then .nx (ρ.set i (some (.obj c (rs.set j (.lst (ds ++ [.tup [a, b]])))))) else .stuck := rfl
end
end Fx
end
section
set_option linter.all false
set_option Elab.async false
set_option maxRecDepth 100000
set_option maxHeartbeats 1000000
/-! Errors as values, as rewriting. -/
namespace Fx
open PySem (Operator CmpOp)
section
variable (g : G) (Φ : Fn)
def emk1 (c : Nat) (z : Res D) : Res R := z.bind fun d ρ => .ok (.val (.err c d)) ρ
def eat1 (n : PySem.Str) (x : D) (ρ : Env) : Res R := match x with
  | .err c d => if c < g.nx ∧ g.xf c = n then .ok (.val d) ρ else .stuck
  | _ => .stuck
def eatK (n : PySem.Str) (z : Res D) : Res R := z.bind (eat1 g n)
def isx1 (o : Option Nat) (x : D) (ρ : Env) : Res R := match x with
  | .err c _ => if c < g.nx then .ok (.val (.bl (isxB g c o))) ρ else .stuck
  | _ => .stuck
def isxK (o : Option Nat) (z : Res D) : Res R := z.bind (isx1 g o)
end
section
variable {g : G} {Φ : Fn} {ρ : Env}
@[simp] theorem q_emk {c : Nat} {e : IE} : evE g Φ (.emk c e) ρ = emk1 c (dE g Φ e ρ) := rfl
@[simp] theorem q_ar_emk {c : Nat} {e : IE} : arE g Φ (.emk c e) ρ = toAr (evE g Φ (.emk c e) ρ) := rfl
@[simp] theorem q_emk1 {c : Nat} {d : D} : emk1 c (.ok d ρ) = .ok (.val (.err c d)) ρ := rfl
@[simp] theorem q_eat {e : IE} {n : PySem.Str} : evE g Φ (.eat e n) ρ = eatK g n (dE g Φ e ρ) := by
  show ((asD g.flds (evE g Φ e ρ)).bind fun x ρ => match x with
    | .err c d => if c < g.nx ∧ g.xf c = n then Res.ok (R.val d) ρ else .stuck
    | _ => .stuck) = _
  rfl
@[simp] theorem q_ar_eat {e : IE} {n : PySem.Str} : arE g Φ (.eat e n) ρ = toAr (evE g Φ (.eat e n) ρ) := rfl
@[simp] theorem q_eatk {n : PySem.Str} {x : D} : eatK g n (.ok x ρ) = eat1 g n x ρ := rfl
@[simp] theorem q_eat1 {c : Nat} {n : PySem.Str} {d : D} : eat1 g n (.err c d) ρ = if c < g.nx ∧ g.xf c = n then .ok (.val d) ρ else .stuck := rfl
@[simp] theorem q_isx {e : IE} {o : Option Nat} : evE g Φ (.isx e o) ρ = isxK g o (dE g Φ e ρ) := by
  show ((asD g.flds (evE g Φ e ρ)).bind fun x ρ => match x with
    | .err c _ => if c < g.nx then Res.ok (R.val (D.bl (isxB g c o))) ρ else .stuck
    | _ => .stuck) = _
  rfl
@[simp] theorem q_ar_isx {e : IE} {o : Option Nat} : arE g Φ (.isx e o) ρ = toAr (evE g Φ (.isx e o) ρ) := rfl
@[simp] theorem q_isxk {o : Option Nat} {x : D} : isxK g o (.ok x ρ) = isx1 g o x ρ := rfl
@[simp] theorem q_isx1 {c : Nat} {o : Option Nat} {d : D} : isx1 g o (.err c d) ρ = if c < g.nx then .ok (.val (.bl (isxB g c o))) ρ else .stuck := rfl
end
end Fx
end
section
set_option linter.all false
set_option Elab.async false
set_option maxRecDepth 100000
set_option maxHeartbeats 1000000
/-! Operations on data, comprehensions, loops: as rewriting. -/
namespace Fx
open PySem (Operator CmpOp)
/-! ### operations -/
@[simp] theorem o_add {i j : Int} : binD .Add (.int i) (.int j) = some (.val (.int (i + j))) := rfl
@[simp] theorem o_sub {i j : Int} : binD .Sub (.int i) (.int j) = some (.val (.int (i - j))) := rfl
@[simp] theorem o_mul {i j : Int} : binD .Mult (.int i) (.int j) = if mulOk i j = true then some (.val (.int (i * j))) else none := rfl
@[simp] theorem o_div {i j : Int} : binD .FloorDiv (.int i) (.int j) = if 0 < j ∧ j < 1073741824 then some (.val (.int (i / j))) else none := rfl
@[simp] theorem o_mod {i j : Int} : binD .Mod (.int i) (.int j) = if 0 < j then some (.val (.int (i % j))) else none := rfl
@[simp] theorem o_pow {i j : Int} : binD .Pow (.int i) (.int j) = if 0 ≤ j ∧ j ≤ 1000000 ∧ i.natAbs < 18446744073709551616 then some (.val (.int (i ^ j.toNat))) else none := rfl
@[simp] theorem o_catT {a b : List D} : binD .Add (.tup a) (.tup b) = if a.length + b.length ≤ 16777216 then some (.val (.tup (a ++ b))) else none := rfl
@[simp] theorem o_catL {a b : List D} : binD .Add (.lst a) (.lst b) = if a.length + b.length ≤ 16777216 then some (.lst (a ++ b)) else none := rfl
@[simp] theorem o_catS {a b : PySem.Str} : binD .Add (.str a) (.str b) = if a.length + b.length ≤ 16777216 then some (.val (.str (a ++ b))) else none := rfl
theorem o_rep {a : List D} {k : Int} (h : a ≠ [] ∧ 1 ≤ k ∧ k ≤ 1000 ∧ a.length ≤ 1000) : binD .Mult (.tup a) (.int k) = some (.val (.tup (List.replicate k.toNat a).flatten)) := by
  show (if a ≠ [] ∧ 2 ≤ k ∧ k ≤ 1000 ∧ a.length ≤ 1000 then some (R.val (.tup (List.replicate k.toNat a).flatten)) else if (a = [] ∨ k = 1) ∧ -1000 ≤ k ∧ k ≤ 1000 then some (R.val (D.tup a)) else if a ≠ [] ∧ -1000 ≤ k ∧ k ≤ 0 then some (R.val (D.tup [])) else none) = _
  by_cases h2 : 2 ≤ k
  · rw [if_pos ⟨h.1, h2, h.2.2⟩]
  · have e : k = 1 := by omega
    subst e
    rw [if_neg (by omega), if_pos (by omega)]
    simp
@[simp] theorem o_repT {x : D} {k : Int} (h : 1 ≤ k ∧ k ≤ 1000) : binD .Mult (.tup [x]) (.int k) = some (.val (.tup (List.replicate k.toNat x))) := by
  rw [o_rep ⟨by simp, h.1, h.2, by simp⟩]
  simp
@[simp] theorem o_lt {x y : D} : cmpD .Lt x y = ltD x y := rfl
@[simp] theorem o_gt {x y : D} : cmpD .Gt x y = ltD y x := rfl
@[simp] theorem o_le {x y : D} : cmpD .LtE x y = (ltD y x).map not := rfl
@[simp] theorem o_ge {x y : D} : cmpD .GtE x y = (ltD x y).map not := rfl
@[simp] theorem o_eq {x y : D} : cmpD .Eq x y = eqD x y := rfl
@[simp] theorem o_ne {x y : D} : cmpD .NotEq x y = (eqD x y).map not := rfl
@[simp] theorem o_is {x y : D} : cmpD .Is x y = isD x y := rfl
@[simp] theorem o_isn {x y : D} : cmpD .IsNot x y = (isD x y).map not := rfl
@[simp] theorem o_in {x y : D} : cmpD .In x y = inD x y := rfl
@[simp] theorem o_ni {x y : D} : cmpD .NotIn x y = (inD x y).map not := rfl
@[simp] theorem o_ltI {i j : Int} : ltD (.int i) (.int j) = some (decide (i < j)) := rfl
@[simp] theorem o_isN {x : D} : isD x .non = some x.isNon := by cases x <;> rfl
@[simp] theorem o_isB {a b : Bool} : isD (.bl a) (.bl b) = some (a == b) := rfl
@[simp] theorem o_nn : D.isNon .non = true := rfl
@[simp] theorem o_nb {b : Bool} : D.isNon (.bl b) = false := rfl
@[simp] theorem o_ni' {i : Int} : D.isNon (.int i) = false := rfl
@[simp] theorem o_nt {ds : List D} : D.isNon (.tup ds) = false := rfl
@[simp] theorem o_nl {ds : List D} : D.isNon (.lst ds) = false := rfl
@[simp] theorem o_ns {x : PySem.Str} : D.isNon (.str x) = false := rfl
@[simp] theorem o_nins {c : Nat} {ds : List D} : D.isNon (.ins c ds) = false := rfl
@[simp] theorem o_tb {b : Bool} : truD (.bl b) = some b := rfl
@[simp] theorem o_ti {i : Int} : truD (.int i) = some (i != 0) := rfl
@[simp] theorem o_tn : truD .non = some false := rfl
@[simp] theorem o_tt {ds : List D} : truD (.tup ds) = some (!ds.isEmpty) := rfl
@[simp] theorem o_tl {ds : List D} : truD (.lst ds) = some (!ds.isEmpty) := rfl
@[simp] theorem o_ixT {ds : List D} {k : Int} : idxD (.tup ds) (.int k) = L2.atI ds k := rfl
@[simp] theorem o_ixL {ds : List D} {k : Int} : idxD (.lst ds) (.int k) = L2.atI ds k := rfl
@[simp] theorem o_ixD {ks vs : List D} {k : D} : idxD (.dct ks vs) k = if keyOk ks k = true then dGet ks vs k else none := by cases k <;> rfl
@[simp] theorem o_slT {ds : List D} {l h : Option Int} : slcD (.tup ds) l h = some (.val (.tup (cutD ds l h))) := rfl
@[simp] theorem o_slL {ds : List D} {l h : Option Int} : slcD (.lst ds) l h = some (.lst (cutD ds l h)) := rfl
@[simp] theorem o_slS {t : PySem.Str} {l h : Option Int} : slcD (.str t) l h = if t.length ≤ LINE then some (.val (.str (PySem.Txt.slice t l h))) else none := rfl
@[simp] theorem o_rvT {ds : List D} : revD (.tup ds) = some (.val (.tup ds.reverse)) := rfl
@[simp] theorem o_rvL {ds : List D} : revD (.lst ds) = some (.lst ds.reverse) := rfl
@[simp] theorem b_lenT {ds : List D} : cbD .len [.tup ds] = some (.val (.int ds.length)) := rfl
@[simp] theorem b_lenL {ds : List D} : cbD .len [.lst ds] = some (.val (.int ds.length)) := rfl
@[simp] theorem b_abs {i : Int} : cbD .abs [.int i] = some (.val (.int i.natAbs)) := by
  show some (R.val (.int (if i < 0 then -i else i))) = _
  have e : (if i < 0 then -i else i) = ((i.natAbs : Nat) : Int) := by split <;> omega
  rw [e]
@[simp] theorem b_int {i : Int} : cbD .int [.int i] = some (.val (.int i)) := rfl
@[simp] theorem b_intb {b : Bool} : cbD .int [.bl b] = some (.val (.int (if b then 1 else 0))) := rfl
@[simp] theorem b_str {i : Int} : cbD .str [.int i] = if i.natAbs.log2 < 1920 then some (.val (.str (toString i))) else none := rfl
@[simp] theorem b_listT {ds : List D} : cbD .list [.tup ds] = some (.lst ds) := rfl
@[simp] theorem b_listL {ds : List D} : cbD .list [.lst ds] = some (.lst ds) := rfl
@[simp] theorem b_tupT {ds : List D} : cbD .tuple [.tup ds] = some (.val (.tup ds)) := rfl
@[simp] theorem b_tupL {ds : List D} : cbD .tuple [.lst ds] = some (.val (.tup ds)) := rfl
@[simp] theorem b_all {ds : List D} : cbD .all [.lst ds] = (allB ds).map fun bs => .val (.bl (bs.all id)) := rfl
@[simp] theorem b_any {ds : List D} : cbD .any [.lst ds] = (allB ds).map fun bs => .val (.bl (bs.any id)) := rfl
@[simp] theorem b_sum {ds : List D} : cbD .sum [.lst ds] = (allI ds).map fun ns => .val (.int ns.sum) := rfl
@[simp] theorem b_rng1 {n : Int} : cbD .range [.int n] = some (.val (.rng 0 n)) := rfl
@[simp] theorem b_rng2 {i j : Int} : cbD .range [.int i, .int j] = some (.val (.rng i j)) := rfl
@[simp] theorem b_tupR {i j : Int} : cbD .tuple [.rng i j] = if rngOk i j = true ∧ (j - i).toNat ≤ 16777216 then some (.val (.tup (rngL i j))) else none := rfl
@[simp] theorem b_listR {i j : Int} : cbD .list [.rng i j] = if rngOk i j = true ∧ (j - i).toNat ≤ 16777216 then some (.lst (rngL i j)) else none := rfl
@[simp] theorem b_srtL {ds : List D} : cbD .sorted [.lst ds] = (sortD ds).map .lst := rfl
@[simp] theorem b_srtD {ds vs : List D} : cbD .sorted [.dct ds vs] = (sortD ds).map .lst := rfl
@[simp] theorem b_srtT {ds : List D} : cbD .sorted [.tup ds] = (sortD ds).map .lst := rfl
@[simp] theorem b_lenD {ds vs : List D} : cbD .len [.dct ds vs] = some (.val (.int ds.length)) := rfl
@[simp] theorem b_max2 {i j : Int} : cbD .max [.int i, .int j] = some (.val (.int (max i j))) := rfl
@[simp] theorem b_min2 {i j : Int} : cbD .min [.int i, .int j] = some (.val (.int (min i j))) := rfl
@[simp] theorem b_maxL {ds : List D} : cbD .max [.lst ds] = (allI ds).bind fun ns => (maxI ns).map fun m => .val (.int m) := rfl
@[simp] theorem b_maxT {ds : List D} : cbD .max [.tup ds] = (allI ds).bind fun ns => (maxI ns).map fun m => .val (.int m) := rfl
@[simp] theorem b_minL {ds : List D} : cbD .min [.lst ds] = (allI ds).bind fun ns => (minI ns).map fun m => .val (.int m) := rfl
@[simp] theorem b_minT {ds : List D} : cbD .min [.tup ds] = (allI ds).bind fun ns => (minI ns).map fun m => .val (.int m) := rfl
/-! ### isinstance -/
section
variable {nc : Nat} {t : IsT}
@[simp] theorem i_int {i : Int} : isiD nc (.int i) t = some (decide (t = .int)) := rfl
@[simp] theorem i_bl {b : Bool} : isiD nc (.bl b) t = some (decide (t = .int) || decide (t = .bool)) := rfl
@[simp] theorem i_tup {ds : List D} : isiD nc (.tup ds) t = some (decide (t = .tuple) || decide (t = .listTuple)) := rfl
@[simp] theorem i_lst {ds : List D} : isiD nc (.lst ds) t = some (decide (t = .list) || decide (t = .listTuple)) := rfl
@[simp] theorem i_str {x : PySem.Str} : isiD nc (.str x) t = some (decide (t = .str)) := rfl
@[simp] theorem i_non : isiD nc .non t = some false := rfl
@[simp] theorem i_ins {c : Nat} {ds : List D} : isiD nc (.ins c ds) t = if c < nc then some (decide (t = .cls c)) else none := rfl
end
/-! ### lists of booleans, of ints -/
@[simp] theorem allB_nil : allB [] = some [] := rfl
@[simp] theorem allB_cons {b : Bool} {ds : List D} : allB (.bl b :: ds) = (allB ds).map (b :: ·) := rfl
@[simp] theorem allB_map {α : Type} {f : α → Bool} : ∀ {l : List α}, allB (l.map fun x => .bl (f x)) = some (l.map f)
  | [] => rfl
  | x :: l => by show (allB _).map _ = _; rw [allB_map]; rfl
@[simp] theorem allI_nil : allI [] = some [] := rfl
@[simp] theorem allI_cons {b : Int} {ds : List D} : allI (.int b :: ds) = (allI ds).map (b :: ·) := rfl
@[simp] theorem allI_map {α : Type} {f : α → Int} : ∀ {l : List α}, allI (l.map fun x => .int (f x)) = some (l.map f)
  | [] => rfl
  | x :: l => by show (allI _).map _ = _; rw [allI_map]; rfl
@[simp] theorem allI_map' : ∀ {l : List Int}, allI (l.map D.int) = some l
  | [] => rfl
  | x :: l => by show (allI _).map _ = _; rw [allI_map']; rfl
/-! ### plainness, depth, equality -/
@[simp] theorem p_non : D.plain .non = true := rfl
@[simp] theorem p_bl {b : Bool} : D.plain (.bl b) = true := rfl
@[simp] theorem p_int {i : Int} : D.plain (.int i) = true := rfl
@[simp] theorem p_str {x : PySem.Str} : D.plain (.str x) = true := rfl
@[simp] theorem p_tup {ds : List D} : D.plain (.tup ds) = D.plains ds := rfl
@[simp] theorem p_lst {ds : List D} : D.plain (.lst ds) = D.plains ds := rfl
@[simp] theorem p_ins {c : Nat} {ds : List D} : D.plain (.ins c ds) = false := rfl
@[simp] theorem ps_nil : D.plains [] = true := rfl
@[simp] theorem ps_cons {d : D} {ds : List D} : D.plains (d :: ds) = (d.plain && D.plains ds) := rfl
theorem plains_all : ∀ {ds : List D}, D.plains ds = ds.all D.plain
  | [] => rfl
  | d :: ds => by rw [ps_cons, plains_all]; rfl
@[simp] theorem ps_app {a b : List D} : D.plains (a ++ b) = (D.plains a && D.plains b) := by rw [plains_all, plains_all, plains_all, List.all_append]
@[simp] theorem ps_map {α : Type} {f : α → D} {l : List α} : D.plains (l.map f) = l.all fun x => (f x).plain := by rw [plains_all, List.all_map]; rfl
/-- nested no deeper than n -/
def D.dle : Nat → D → Bool
  | 0, .tup _ => false
  | 0, .lst _ => false
  | n + 1, .tup ds => ds.all (D.dle n)
  | n + 1, .lst ds => ds.all (D.dle n)
  | _, _ => true
theorem depths_le {n : Nat} : ∀ {ds : List D}, (∀ d ∈ ds, d.depth ≤ n) → D.depths ds ≤ n
  | [], _ => Nat.zero_le _
  | d :: ds, h => by
    show max d.depth (D.depths ds) ≤ n
    have := h d (by simp)
    have := depths_le (ds := ds) fun d hd => h d (by simp [hd])
    omega
theorem dle_depth : ∀ {n : Nat} {d : D}, d.dle n = true → d.depth ≤ n
  | 0, .tup _, h => by cases h
  | 0, .lst _, h => by cases h
  | n + 1, .tup ds, h => by
    have h : ds.all (D.dle n) = true := h
    show D.depths ds + 1 ≤ n + 1
    have := depths_le (n := n) (ds := ds) fun d hd => dle_depth (List.all_eq_true.mp h d hd)
    omega
  | n + 1, .lst ds, h => by
    have h : ds.all (D.dle n) = true := h
    show D.depths ds + 1 ≤ n + 1
    have := depths_le (n := n) (ds := ds) fun d hd => dle_depth (List.all_eq_true.mp h d hd)
    omega
  | _, .non, _ => Nat.zero_le _
  | _, .bl _, _ => Nat.zero_le _
  | _, .int _, _ => Nat.zero_le _
  | _, .str _, _ => Nat.zero_le _
  | _, .rng _ _, _ => Nat.zero_le _
  | _, .ins _ _, _ => Nat.zero_le _
  | _, .dct _ _, _ => Nat.zero_le _
  | _, .err _ _, _ => Nat.zero_le _
@[simp] theorem d_tup {n : Nat} {ds : List D} : D.dle (n + 1) (.tup ds) = ds.all (D.dle n) := rfl
@[simp] theorem d_lst {n : Nat} {ds : List D} : D.dle (n + 1) (.lst ds) = ds.all (D.dle n) := rfl
@[simp] theorem d_non {n : Nat} : D.dle n .non = true := by cases n <;> rfl
@[simp] theorem d_bl {n : Nat} {b : Bool} : D.dle n (.bl b) = true := by cases n <;> rfl
@[simp] theorem d_int {n : Nat} {i : Int} : D.dle n (.int i) = true := by cases n <;> rfl
@[simp] theorem d_str {n : Nat} {x : PySem.Str} : D.dle n (.str x) = true := by cases n <;> rfl
/-- one of two is not deep -/
theorem eqD_of {x y : D} (h1 : x.plain = true) (h2 : y.plain = true) (h3 : (x.dle 12 || y.dle 12) = true) : eqD x y = some (x.eqv y) := by
  unfold eqD
  rw [if_pos]
  rw [h1, h2]
  simp only [Bool.true_and, decide_eq_true_eq]
  rcases Bool.or_eq_true _ _ ▸ h3 with h | h <;> (have := dle_depth h; omega)
@[simp] theorem eqD_ok {x y : D} (h1 : x.plain = true) (h2 : y.plain = true) (h3 : (x.dle 12 || y.dle 12) = true) : eqD x y = some (x.eqv y) := eqD_of h1 h2 h3
@[simp] theorem inD_t {x : D} {ds : List D} (h1 : x.plain = true) (h2 : D.plains ds = true) (h3 : x.dle 12 = true) : inD x (.tup ds) = some (ds.any fun y => y.eqv x) := by
  unfold inD
  dsimp only
  rw [if_pos]
  rw [h1, h2]
  have := dle_depth h3
  simp only [Bool.true_and, decide_eq_true_eq]
  omega
@[simp] theorem inD_l {x : D} {ds : List D} (h1 : x.plain = true) (h2 : D.plains ds = true) (h3 : x.dle 12 = true) : inD x (.lst ds) = some (ds.any fun y => y.eqv x) := by
  unfold inD
  dsimp only
  rw [if_pos]
  rw [h1, h2]
  have := dle_depth h3
  simp only [Bool.true_and, decide_eq_true_eq]
  omega
theorem inD_d {x : D} {ks vs : List D} : inD x (.dct ks vs) = if keyOk ks x = true then some (dFind ks x).isSome else none := by cases x <;> rfl
@[simp] theorem v_ii {i j : Int} : D.eqv (.int i) (.int j) = decide (i = j) := by show (i == j) = _; exact Bool.beq_eq_decide_eq i j
@[simp] theorem v_bb {i j : Bool} : D.eqv (.bl i) (.bl j) = (i == j) := rfl
@[simp] theorem v_ss {i j : PySem.Str} : D.eqv (.str i) (.str j) = (i == j) := rfl
@[simp] theorem v_tt {a b : List D} : D.eqv (.tup a) (.tup b) = D.eqvs a b := rfl
@[simp] theorem v_ll {a b : List D} : D.eqv (.lst a) (.lst b) = D.eqvs a b := rfl
@[simp] theorem v_nn : D.eqv .non .non = true := rfl
@[simp] theorem v_nt {b : List D} : D.eqv .non (.tup b) = false := rfl
@[simp] theorem v_tn {b : List D} : D.eqv (.tup b) .non = false := rfl
@[simp] theorem v_nl {b : List D} : D.eqv .non (.lst b) = false := rfl
@[simp] theorem v_ln {b : List D} : D.eqv (.lst b) .non = false := rfl
@[simp] theorem v_ni {i : Int} : D.eqv .non (.int i) = false := rfl
@[simp] theorem v_in {i : Int} : D.eqv (.int i) .non = false := rfl
@[simp] theorem v_ns {i : PySem.Str} : D.eqv .non (.str i) = false := rfl
@[simp] theorem v_sn {i : PySem.Str} : D.eqv (.str i) .non = false := rfl
@[simp] theorem v_nb {i : Bool} : D.eqv .non (.bl i) = false := rfl
@[simp] theorem v_bn {i : Bool} : D.eqv (.bl i) .non = false := rfl
@[simp] theorem v_it {i : Int} {b : List D} : D.eqv (.int i) (.tup b) = false := rfl
@[simp] theorem v_ti {i : Int} {b : List D} : D.eqv (.tup b) (.int i) = false := rfl
@[simp] theorem v_il {i : Int} {b : List D} : D.eqv (.int i) (.lst b) = false := rfl
@[simp] theorem v_li {i : Int} {b : List D} : D.eqv (.lst b) (.int i) = false := rfl
@[simp] theorem v_is {i : Int} {b : PySem.Str} : D.eqv (.int i) (.str b) = false := rfl
@[simp] theorem v_si {i : Int} {b : PySem.Str} : D.eqv (.str b) (.int i) = false := rfl
@[simp] theorem v_tl {a b : List D} : D.eqv (.tup a) (.lst b) = false := rfl
@[simp] theorem v_lt {a b : List D} : D.eqv (.lst a) (.tup b) = false := rfl
@[simp] theorem v_st {a : PySem.Str} {b : List D} : D.eqv (.str a) (.tup b) = false := rfl
@[simp] theorem v_ts {a : PySem.Str} {b : List D} : D.eqv (.tup b) (.str a) = false := rfl
@[simp] theorem v_sl {a : PySem.Str} {b : List D} : D.eqv (.str a) (.lst b) = false := rfl
@[simp] theorem v_ls {a : PySem.Str} {b : List D} : D.eqv (.lst b) (.str a) = false := rfl
@[simp] theorem v_bt {a : Bool} {b : List D} : D.eqv (.bl a) (.tup b) = false := rfl
@[simp] theorem v_tb {a : Bool} {b : List D} : D.eqv (.tup b) (.bl a) = false := rfl
@[simp] theorem v_bl {a : Bool} {b : List D} : D.eqv (.bl a) (.lst b) = false := rfl
@[simp] theorem v_lb {a : Bool} {b : List D} : D.eqv (.lst b) (.bl a) = false := rfl
@[simp] theorem v_bs {a : Bool} {b : PySem.Str} : D.eqv (.bl a) (.str b) = false := rfl
@[simp] theorem v_sb {a : Bool} {b : PySem.Str} : D.eqv (.str b) (.bl a) = false := rfl
@[simp] theorem v_ib {i : Int} {b : Bool} : D.eqv (.int i) (.bl b) = decide (i = if b then 1 else 0) := by show (i == _) = _; exact Bool.beq_eq_decide_eq _ _
@[simp] theorem v_bi {i : Int} {b : Bool} : D.eqv (.bl b) (.int i) = decide ((if b then 1 else 0) = i) := by show (_ == i) = _; exact Bool.beq_eq_decide_eq _ _
@[simp] theorem vs_nil : D.eqvs [] [] = true := rfl
@[simp] theorem vs_cn {x : D} {xs : List D} : D.eqvs (x :: xs) [] = false := rfl
@[simp] theorem vs_nc {x : D} {xs : List D} : D.eqvs [] (x :: xs) = false := rfl
@[simp] theorem vs_cc {x y : D} {xs ys : List D} : D.eqvs (x :: xs) (y :: ys) = (x.eqv y && D.eqvs xs ys) := rfl
/-- rows of like things -/
theorem vs_map {α : Type} [DecidableEq α] {f : α → D} (h : ∀ a b, (f a).eqv (f b) = decide (a = b)) : ∀ {xs ys : List α}, D.eqvs (xs.map f) (ys.map f) = decide (xs = ys)
  | [], [] => rfl
  | [], _ :: _ => rfl
  | _ :: _, [] => rfl
  | x :: xs, y :: ys => by
    rw [List.map_cons, List.map_cons, vs_cc, h, vs_map h]
    by_cases e : x = y
    · subst e; simp
    · simp [e]
@[simp] theorem vs_ints {xs ys : List Int} : D.eqvs (xs.map D.int) (ys.map D.int) = decide (xs = ys) := vs_map fun a b => by simp
@[simp] theorem vs_nilL {α : Type} {f : α → D} {xs : List α} : D.eqvs (xs.map f) [] = xs.isEmpty := by cases xs <;> rfl
@[simp] theorem vs_nilR {α : Type} {f : α → D} {xs : List α} : D.eqvs [] (xs.map f) = xs.isEmpty := by cases xs <;> rfl
/-! ### encodings -/
/-- a tuple of ints, a pair, tuples of such -/
def tI (xs : List Int) : D := .tup (xs.map .int)
def pr (p : Int × Int) : D := .tup [.int p.1, .int p.2]
def tP (xs : List (Int × Int)) : D := .tup (xs.map pr)
def tII (xs : List (List Int)) : D := .tup (xs.map tI)
@[simp] theorem tI_eqv {a b : List Int} : (tI a).eqv (tI b) = decide (a = b) := vs_ints
@[simp] theorem pr_eqv {a b : Int × Int} : (pr a).eqv (pr b) = decide (a = b) := by
  obtain ⟨a1, a2⟩ := a
  obtain ⟨b1, b2⟩ := b
  simp [pr, Prod.mk.injEq]
@[simp] theorem vs_prs {xs ys : List (Int × Int)} : D.eqvs (xs.map pr) (ys.map pr) = decide (xs = ys) := vs_map fun a b => pr_eqv
@[simp] theorem vs_tIs {xs ys : List (List Int)} : D.eqvs (xs.map tI) (ys.map tI) = decide (xs = ys) := vs_map fun a b => tI_eqv
@[simp] theorem tI_plain {a : List Int} : (tI a).plain = true := by simp [tI]
@[simp] theorem pr_plain {a : Int × Int} : (pr a).plain = true := by simp [pr]
@[simp] theorem tP_plain {a : List (Int × Int)} : (tP a).plain = true := by simp [tP]
@[simp] theorem tII_plain {a : List (List Int)} : (tII a).plain = true := by simp [tII]
@[simp] theorem tI_dle {a : List Int} {n : Nat} : (tI a).dle (n + 1) = true := by simp [tI]
@[simp] theorem pr_dle {a : Int × Int} {n : Nat} : (pr a).dle (n + 1) = true := by simp [pr]
@[simp] theorem tP_dle {a : List (Int × Int)} {n : Nat} : (tP a).dle (n + 2) = true := by simp [tP]
@[simp] theorem tII_dle {a : List (List Int)} {n : Nat} : (tII a).dle (n + 2) = true := by simp [tII]
@[simp] theorem any_ints {xs : List Int} {k : Int} : (xs.map D.int).any (fun y => y.eqv (.int k)) = decide (k ∈ xs) := by
  rw [List.any_map]
  induction xs with
  | nil => rfl
  | cons x xs ih =>
    rw [List.any_cons, ih]
    simp [eq_comm]
@[simp] theorem any_prs {xs : List (Int × Int)} {k : Int × Int} : (xs.map pr).any (fun y => y.eqv (pr k)) = decide (k ∈ xs) := by
  rw [List.any_map]
  induction xs with
  | nil => rfl
  | cons x xs ih =>
    rw [List.any_cons, ih]
    simp [eq_comm]
@[simp] theorem any_tIs {xs : List (List Int)} {k : List Int} : (xs.map tI).any (fun y => y.eqv (tI k)) = decide (k ∈ xs) := by
  rw [List.any_map]
  induction xs with
  | nil => rfl
  | cons x xs ih =>
    rw [List.any_cons, ih]
    simp [eq_comm]
/-! ### ranges, places -/
def irange (lo hi : Int) : List Int := (List.range (hi - lo).toNat).map fun (i : Nat) => lo + i
theorem rngL_ir {lo hi : Int} : rngL lo hi = (irange lo hi).map D.int := by unfold rngL irange; rw [List.map_map]; rfl
@[simp] theorem q_rngL {lo hi : Int} : rngL lo hi = (irange lo hi).map D.int := rngL_ir
@[simp] theorem mem_irange {lo hi k : Int} : k ∈ irange lo hi ↔ lo ≤ k ∧ k < hi := by
  unfold irange
  rw [List.mem_map]
  constructor
  · rintro ⟨i, h, rfl⟩
    have := List.mem_range.mp h
    omega
  · intro h
    exact ⟨(k - lo).toNat, List.mem_range.mpr (by omega), by omega⟩
@[simp] theorem len_irange {lo hi : Int} : (irange lo hi).length = (hi - lo).toNat := by unfold irange; simp
/-- the item at a place -/
def ix {α : Type} [Inhabited α] (xs : List α) (i : Int) : α := xs.getD i.toNat default
theorem atI_ix {α β : Type} [Inhabited α] {f : α → β} {xs : List α} {i : Int} (h0 : 0 ≤ i) (h1 : i < xs.length) : L2.atI (xs.map f) i = some (f (ix xs i)) := by
  have e : i = ((i.toNat : Nat) : Int) := by omega
  unfold L2.atI ix
  have h2 : i.toNat < xs.length := by omega
  have e2 : L2.ixN (xs.map f).length i = some i.toNat := by
    unfold L2.ixN
    rw [List.length_map]
    simp [h0, h1]
  rw [e2]
  show (xs.map f)[i.toNat]? = _
  rw [List.getElem?_map, List.getElem?_eq_getElem h2, List.getD_eq_getElem?_getD, List.getElem?_eq_getElem h2]
  rfl
@[simp] theorem q_atI {α β : Type} [Inhabited α] {f : α → β} {xs : List α} {i : Int} (h : 0 ≤ i ∧ i < xs.length) : L2.atI (xs.map f) i = some (f (ix xs i)) := atI_ix h.1 h.2
theorem ix_mem {α : Type} [Inhabited α] {xs : List α} {i : Int} (h0 : 0 ≤ i) (h1 : i < xs.length) : ix xs i ∈ xs := by
  unfold ix
  have h2 : i.toNat < xs.length := by omega
  rw [List.getD_eq_getElem?_getD, List.getElem?_eq_getElem h2]
  exact List.getElem_mem h2
@[simp] theorem atI_0 {α : Type} {x : α} {xs : List α} : L2.atI (x :: xs) 0 = some x := by unfold L2.atI L2.ixN; simp
theorem atI_nat {α : Type} {xs : List α} {i : Nat} {x : α} (h : xs[i]? = some x) : L2.atI xs (i : Int) = some x := by
  have hl := (List.getElem?_eq_some_iff.mp h).1
  unfold L2.atI L2.ixN
  rw [if_pos (by omega), if_pos (by omega)]
  exact h
@[simp] theorem atI_1 {α : Type} {x y : α} {xs : List α} : L2.atI (x :: y :: xs) 1 = some y := atI_nat (i := 1) rfl
@[simp] theorem atI_2 {α : Type} {x y z : α} {xs : List α} : L2.atI (x :: y :: z :: xs) 2 = some z := atI_nat (i := 2) rfl
theorem rngOk_of {a b : Int} (h1 : -1000000000 ≤ a) (h2 : a ≤ 1000000000) (h3 : -1000000000 ≤ b) (h4 : b ≤ 1000000000) : rngOk a b = true := by
  unfold rngOk
  simp only [Bool.and_eq_true, decide_eq_true_eq]
  omega
@[simp] theorem q_rngOk {a b : Int} (h : (-1000000000 ≤ a ∧ a ≤ 1000000000) ∧ -1000000000 ≤ b ∧ b ≤ 1000000000) : rngOk a b = true := rngOk_of h.1.1 h.1.2 h.2.1 h.2.2
/-! ### comprehensions that change nothing -/
/-- x is done, and the names are ρ -/
def Res.is {α : Type} (x : Res α) (ρ : Env) : Prop := ∃ a, x = .ok a ρ
def Res.get {α : Type} [Inhabited α] : Res α → α
  | .ok a _ => a
  | _ => default
@[simp] theorem is_ok {α : Type} {a : α} {ρ ρ' : Env} : (Res.ok a ρ).is ρ' ↔ ρ = ρ' := ⟨fun ⟨_, h⟩ => by cases h; rfl, fun h => ⟨a, by rw [h]⟩⟩
@[simp] theorem get_ok {α : Type} [Inhabited α] {a : α} {ρ : Env} : (Res.ok a ρ).get = a := rfl
theorem is_eq {α : Type} [Inhabited α] {x : Res α} {ρ : Env} (h : x.is ρ) : x = .ok x.get ρ := by obtain ⟨a, rfl⟩ := h; rfl
section
variable {g : G} {Φ : Fn} {ρ : Env} {α : Type}
theorem set_atE {i : Nat} (h : i < ρ.length) : ρ.set i (ρ.at i) = ρ := by
  apply List.ext_getElem?
  intro j
  by_cases e : i = j
  · subst e
    rw [List.getElem?_set_self h, List.getElem?_eq_getElem h]
    show some ((ρ[i]?).bind id) = _
    rw [List.getElem?_eq_getElem h]; rfl
  · rw [List.getElem?_set_ne e]
/-- the names behind a target -/
def tgE (tg : Tg) (d : D) (ρ : Env) : Env := (setTg tg d ρ).getD []
theorem compF_is {own : List Nat} {tg : Tg} {f : α → D} {c : Env → Res Bool} {el : Env → Res D} : ∀ {xs : List α} {acc : List D} {ρw : Env}, acc.length + xs.length ≤ 16777216 →
    (∀ x ∈ xs, setTg tg (f x) ρw = some (tgE tg (f x) ρw) ∧ wipeE (tgE tg (f x) ρw) own = ρw) →
    (∀ x ∈ xs, (c (tgE tg (f x) ρw)).is (tgE tg (f x) ρw)) → (∀ x ∈ xs, (c (tgE tg (f x) ρw)).get = true → (el (tgE tg (f x) ρw)).is (tgE tg (f x) ρw)) →
    compF own tg c el (xs.map f) ρw acc = .ok (acc ++ (xs.filter fun x => (c (tgE tg (f x) ρw)).get).map fun x => (el (tgE tg (f x) ρw)).get) ρw
  | [], acc, ρw, _, _, _, _ => by simp [compF]
  | x :: xs, acc, ρw, hl, ht, hc, he => by
    obtain ⟨t1, t2⟩ := ht x (by simp)
    rw [List.map_cons]
    unfold compF
    rw [t1]
    dsimp only
    rw [is_eq (hc x (by simp))]
    show (if (c (tgE tg (f x) ρw)).get = true then _ else _) = _
    have hl' : acc.length + xs.length + 1 ≤ 16777216 := by simp at hl; omega
    cases e : (c (tgE tg (f x) ρw)).get with
    | true =>
      rw [if_pos rfl, is_eq (he x (by simp) e)]
      show (if acc.length < 16777216 then _ else _) = _
      rw [if_pos (by omega), t2, compF_is (by simp; omega) (fun y h => ht y (by simp [h])) (fun y h => hc y (by simp [h])) (fun y h => he y (by simp [h]))]
      simp [List.filter_cons, e]
    | false =>
      rw [if_neg Bool.false_ne_true, t2, compF_is (by omega) (fun y h => ht y (by simp [h])) (fun y h => hc y (by simp [h])) (fun y h => he y (by simp [h]))]
      simp [List.filter_cons, e]
/-- one name -/
@[simp] theorem q_comp1 {i : Nat} {elt : IE} {c : IO} {f : α → D} {xs : List α} (hi : i < ρ.length) (hl : xs.length ≤ 16777216)
    (hc : ∀ x ∈ xs, (evC g Φ c (ρ.set i (some (.val (f x))))).is (ρ.set i (some (.val (f x)))))
    (he : ∀ x ∈ xs, (evC g Φ c (ρ.set i (some (.val (f x))))).get = true → (dE g Φ elt (ρ.set i (some (.val (f x))))).is (ρ.set i (some (.val (f x))))) :
    compE g Φ elt [i] (.one i) c (xs.map f) ρ = .ok (.lst ((xs.filter fun x => (evC g Φ c (ρ.set i (some (.val (f x))))).get).map fun x => (dE g Φ elt (ρ.set i (some (.val (f x))))).get)) ρ := by
  have et : ∀ x, tgE (.one i) (f x) (ρ.set i none) = ρ.set i (some (.val (f x))) := fun x => by
    show (ρ.set i none).set i _ = _
    rw [List.set_set]
  have k := compF_is (own := [i]) (tg := .one i) (f := f) (c := fun ρ => evC g Φ c ρ) (el := fun ρ => asD g.flds (evE g Φ elt ρ)) (xs := xs) (acc := []) (ρw := ρ.set i none) (by simpa using hl) (fun x _ => ⟨rfl, by
    show (tgE (.one i) (f x) (ρ.set i none)).set i none = _
    rw [et, List.set_set]⟩) (fun x h => by rw [et]; exact hc x h) (fun x h h' => by rw [et] at h' ⊢; exact he x h h')
  unfold compE
  show ((compF [i] (.one i) _ _ (xs.map f) (ρ.set i none) []).bind _).calm = _
  rw [k]
  show Res.ok (R.lst _) (restE ρ (ρ.set i none) [i]) = _
  have e : restE ρ (ρ.set i none) [i] = ρ := by
    show (ρ.set i none).set i (ρ.at i) = ρ
    rw [List.set_set, set_atE hi]
  rw [e]
  simp only [et, List.nil_append]
  rfl
theorem set_two {i j : Nat} {a b x y : Option R} (h : i ≠ j) : (((ρ.set j x).set i y).set i a).set j b = (ρ.set i a).set j b := by
  rw [List.set_set, List.set_comm _ _ (Ne.symm h), List.set_set]
/-- two names, of pairs -/
theorem comp_pair {i j : Nat} {elt : IE} {c : IO} {f : α → D} {p q : α → D} {xs : List α} (hf : ∀ x, f x = .tup [p x, q x]) (hij : i ≠ j) (hi : i < ρ.length) (hj : j < ρ.length) (hl : xs.length ≤ 16777216)
    (hc : ∀ x ∈ xs, (evC g Φ c ((ρ.set i (some (.val (p x)))).set j (some (.val (q x))))).is ((ρ.set i (some (.val (p x)))).set j (some (.val (q x)))))
    (he : ∀ x ∈ xs, (evC g Φ c ((ρ.set i (some (.val (p x)))).set j (some (.val (q x))))).get = true → (dE g Φ elt ((ρ.set i (some (.val (p x)))).set j (some (.val (q x))))).is ((ρ.set i (some (.val (p x)))).set j (some (.val (q x))))) :
    compE g Φ elt [i, j] (.many [i, j]) c (xs.map f) ρ = .ok (.lst ((xs.filter fun x => (evC g Φ c ((ρ.set i (some (.val (p x)))).set j (some (.val (q x))))).get).map fun x => (dE g Φ elt ((ρ.set i (some (.val (p x)))).set j (some (.val (q x))))).get)) ρ := by
  have es : ∀ x, setTg (.many [i, j]) (f x) ((ρ.set j none).set i none) = some ((ρ.set i (some (.val (p x)))).set j (some (.val (q x)))) := fun x => by
    rw [hf x]
    show some ((((ρ.set j none).set i none).set i _).set j _) = _
    rw [set_two hij]
  have et : ∀ x, tgE (.many [i, j]) (f x) ((ρ.set j none).set i none) = (ρ.set i (some (.val (p x)))).set j (some (.val (q x))) := fun x => by
    unfold tgE
    rw [es]; rfl
  have k := compF_is (own := [i, j]) (tg := .many [i, j]) (f := f) (c := fun ρ => evC g Φ c ρ) (el := fun ρ => asD g.flds (evE g Φ elt ρ)) (xs := xs) (acc := []) (ρw := (ρ.set j none).set i none) (by simpa using hl) (fun x _ => ⟨by rw [es, et], by
    rw [et]
    show (((ρ.set i _).set j _).set j none).set i none = _
    rw [List.set_set, List.set_comm _ _ hij, List.set_set]⟩) (fun x h => by rw [et]; exact hc x h) (fun x h h' => by rw [et] at h' ⊢; exact he x h h')
  unfold compE
  show ((compF [i, j] (.many [i, j]) _ _ (xs.map f) ((ρ.set j none).set i none) []).bind _).calm = _
  rw [k]
  show Res.ok (R.lst _) (restE ρ ((ρ.set j none).set i none) [i, j]) = _
  have e : restE ρ ((ρ.set j none).set i none) [i, j] = ρ := by
    show (((ρ.set j none).set i none).set j (ρ.at j)).set i (ρ.at i) = ρ
    rw [List.set_comm _ _ hij, List.set_set, List.set_set, List.set_comm _ _ (Ne.symm hij), set_atE hi, set_atE hj]
  rw [e]
  simp only [et, List.nil_append]
  rfl
@[simp] theorem q_compP {i j : Nat} {elt : IE} {c : IO} {xs : List (Int × Int)} (hij : i ≠ j) (hi : i < ρ.length) (hj : j < ρ.length) (hl : xs.length ≤ 16777216)
    (hc : ∀ x ∈ xs, (evC g Φ c ((ρ.set i (some (.val (.int x.1)))).set j (some (.val (.int x.2))))).is ((ρ.set i (some (.val (.int x.1)))).set j (some (.val (.int x.2)))))
    (he : ∀ x ∈ xs, (evC g Φ c ((ρ.set i (some (.val (.int x.1)))).set j (some (.val (.int x.2))))).get = true → (dE g Φ elt ((ρ.set i (some (.val (.int x.1)))).set j (some (.val (.int x.2))))).is ((ρ.set i (some (.val (.int x.1)))).set j (some (.val (.int x.2))))) :
    compE g Φ elt [i, j] (.many [i, j]) c (xs.map pr) ρ = .ok (.lst ((xs.filter fun x => (evC g Φ c ((ρ.set i (some (.val (.int x.1)))).set j (some (.val (.int x.2))))).get).map fun x => (dE g Φ elt ((ρ.set i (some (.val (.int x.1)))).set j (some (.val (.int x.2))))).get)) ρ :=
  comp_pair (fun x => rfl) hij hi hj hl hc he
@[simp] theorem q_compT {i j : Nat} {elt : IE} {c : IO} {p q : α → D} {xs : List α} (hij : i ≠ j) (hi : i < ρ.length) (hj : j < ρ.length) (hl : xs.length ≤ 16777216)
    (hc : ∀ x ∈ xs, (evC g Φ c ((ρ.set i (some (.val (p x)))).set j (some (.val (q x))))).is ((ρ.set i (some (.val (p x)))).set j (some (.val (q x)))))
    (he : ∀ x ∈ xs, (evC g Φ c ((ρ.set i (some (.val (p x)))).set j (some (.val (q x))))).get = true → (dE g Φ elt ((ρ.set i (some (.val (p x)))).set j (some (.val (q x))))).is ((ρ.set i (some (.val (p x)))).set j (some (.val (q x))))) :
    compE g Φ elt [i, j] (.many [i, j]) c (xs.map fun x => .tup [p x, q x]) ρ = .ok (.lst ((xs.filter fun x => (evC g Φ c ((ρ.set i (some (.val (p x)))).set j (some (.val (q x))))).get).map fun x => (dE g Φ elt ((ρ.set i (some (.val (p x)))).set j (some (.val (q x))))).get)) ρ :=
  comp_pair (fun x => rfl) hij hi hj hl hc he
@[simp] theorem q_zipD {β : Type} {f : α → D} {h : β → D} {xs : List α} {ys : List β} : zipD (xs.map f) (ys.map h) = (xs.zip ys).map fun p => .tup [f p.1, h p.2] := by
  unfold zipD
  rw [List.zip_map, List.map_map]; rfl
@[simp] theorem q_enumD {f : α → D} {xs : List α} : enumD (xs.map f) = (xs.zipIdx).map fun p => .tup [.int p.2, f p.1] := by
  unfold enumD
  rw [List.zipIdx_map, List.map_map]; rfl
end
end Fx
end
section
set_option linter.all false
set_option Elab.async false
set_option maxRecDepth 100000
set_option maxHeartbeats 1000000
/-! Normal forms: tuples of ints, of pairs, of rows. -/
namespace Fx
open PySem (Operator CmpOp)
@[simp] theorem nlt {a b : Int} : (!decide (b < a)) = decide (a ≤ b) := by
  by_cases h : b < a
  · simp [h, Int.not_le.mpr h]
  · simp [h, Int.not_lt.mp h]
@[simp] theorem filt_t {α : Type} {l : List α} : l.filter (fun _ => true) = l := by simp
@[simp] theorem all_id {α : Type} {f : α → Bool} {xs : List α} : (xs.map f).all id = xs.all f := by rw [List.all_map]; rfl
@[simp] theorem any_id {α : Type} {f : α → Bool} {xs : List α} : (xs.map f).any id = xs.any f := by rw [List.any_map]; rfl
@[simp] theorem at_ite {α : Type} {x y : α} {c : Prop} [Decidable c] : L2.atI [x, y] (if c then 1 else 0) = some (if c then y else x) := by split <;> simp
section
variable {c : Prop} [Decidable c]
@[simp] theorem st_s {a : SRes} (h : c) : (if c then a else .stuck) = a := if_pos h
@[simp] theorem st_r {α : Type} {a : Res α} (h : c) : (if c then a else .stuck) = a := if_pos h
@[simp] theorem st_o {α : Type} {a : α} (h : c) : (if c then some a else none) = some a := if_pos h
end
@[simp] theorem and_ite {b c : Bool} : (if b = true then c else b) = (b && c) := by cases b <;> rfl
@[simp] theorem or_ite {b c : Bool} : (if b = false then c else b) = (b || c) := by cases b <;> rfl
@[simp] theorem all_t {α : Type} {l : List α} : (l.all fun _ => true) = true := by induction l with
  | nil => rfl
  | cons x l ih => exact ih
@[simp] theorem any_f {α : Type} {l : List α} : (l.any fun _ => false) = false := by induction l with
  | nil => rfl
  | cons x l ih => exact ih
/-! ### folding -/
@[simp] theorem f_int {α : Type} {f : α → Int} {l : List α} : (l.map fun x => D.int (f x)) = (l.map f).map D.int := by rw [List.map_map]; rfl
@[simp] theorem f_bl {α : Type} {f : α → Bool} {l : List α} : (l.map fun x => D.bl (f x)) = (l.map f).map D.bl := by rw [List.map_map]; rfl
@[simp] theorem f_tI {α : Type} {f : α → List Int} {l : List α} : (l.map fun x => tI (f x)) = (l.map f).map tI := by rw [List.map_map]; rfl
@[simp] theorem f_tP {α : Type} {f : α → List (Int × Int)} {l : List α} : (l.map fun x => tP (f x)) = (l.map f).map tP := by rw [List.map_map]; rfl
@[simp] theorem f_tII {α : Type} {f : α → List (List Int)} {l : List α} : (l.map fun x => tII (f x)) = (l.map f).map tII := by rw [List.map_map]; rfl
@[simp] theorem f_pr' {α : Type} {f : α → Int × Int} {l : List α} : (l.map fun x => pr (f x)) = (l.map f).map pr := by rw [List.map_map]; rfl
@[simp] theorem f_pr {α : Type} {f h : α → Int} {l : List α} : (l.map fun x => D.tup [.int (f x), .int (h x)]) = (l.map fun x => (f x, h x)).map pr := by rw [List.map_map]; rfl
@[simp] theorem t_int {l : List Int} : D.tup (l.map .int) = tI l := rfl
@[simp] theorem t_tI {l : List (List Int)} : D.tup (l.map tI) = tII l := rfl
@[simp] theorem t_pr {l : List (Int × Int)} : D.tup (l.map pr) = tP l := rfl
@[simp] theorem t_one {i : Int} : D.tup [.int i] = tI [i] := rfl
@[simp] theorem allB_m {l : List Bool} : allB (l.map D.bl) = some l := by
  have := allB_map (f := id) (l := l)
  simpa using this
/-! ### the parts of those -/
section
variable {g : G} {Φ : Fn} {ρ : Env}
@[simp] theorem e_ixI {l : List Int} {k : Int} : idxD (tI l) (.int k) = L2.atI (l.map D.int) k := rfl
@[simp] theorem e_ixII {l : List (List Int)} {k : Int} : idxD (tII l) (.int k) = L2.atI (l.map tI) k := rfl
@[simp] theorem e_ixP {l : List (Int × Int)} {k : Int} : idxD (tP l) (.int k) = L2.atI (l.map pr) k := rfl
@[simp] theorem e_lenI {l : List Int} : cbD .len [tI l] = some (.val (.int l.length)) := by show some _ = _; rw [List.length_map]
@[simp] theorem e_lenII {l : List (List Int)} : cbD .len [tII l] = some (.val (.int l.length)) := by show some _ = _; rw [List.length_map]
@[simp] theorem e_lenP {l : List (Int × Int)} : cbD .len [tP l] = some (.val (.int l.length)) := by show some _ = _; rw [List.length_map]
@[simp] theorem e_seqI {l : List Int} : seq1 (tI l) ρ = .ok (l.map D.int) ρ := rfl
@[simp] theorem e_seqII {l : List (List Int)} : seq1 (tII l) ρ = .ok (l.map tI) ρ := rfl
@[simp] theorem e_seqP {l : List (Int × Int)} : seq1 (tP l) ρ = .ok (l.map pr) ρ := rfl
@[simp] theorem e_isI {l : List Int} {nc : Nat} {t : IsT} : isiD nc (tI l) t = some (decide (t = .tuple) || decide (t = .listTuple)) := rfl
@[simp] theorem e_isII {l : List (List Int)} {nc : Nat} {t : IsT} : isiD nc (tII l) t = some (decide (t = .tuple) || decide (t = .listTuple)) := rfl
@[simp] theorem e_isP {l : List (Int × Int)} {nc : Nat} {t : IsT} : isiD nc (tP l) t = some (decide (t = .tuple) || decide (t = .listTuple)) := rfl
@[simp] theorem e_listI {l : List Int} : cbD .list [tI l] = some (.lst (l.map D.int)) := rfl
@[simp] theorem e_listII {l : List (List Int)} : cbD .list [tII l] = some (.lst (l.map tI)) := rfl
@[simp] theorem e_listP {l : List (Int × Int)} : cbD .list [tP l] = some (.lst (l.map pr)) := rfl
@[simp] theorem e_tupI {l : List Int} : cbD .tuple [tI l] = some (.val (tI l)) := rfl
@[simp] theorem e_tupII {l : List (List Int)} : cbD .tuple [tII l] = some (.val (tII l)) := rfl
@[simp] theorem e_catI {a b : List Int} : binD .Add (tI a) (tI b) = if a.length + b.length ≤ 16777216 then some (.val (tI (a ++ b))) else none := by
  show (if (a.map D.int).length + (b.map D.int).length ≤ 16777216 then some (R.val (.tup (a.map D.int ++ b.map D.int))) else none) = _
  rw [List.length_map, List.length_map, ← List.map_append]; rfl
@[simp] theorem e_catII {a b : List (List Int)} : binD .Add (tII a) (tII b) = if a.length + b.length ≤ 16777216 then some (.val (tII (a ++ b))) else none := by
  show (if (a.map tI).length + (b.map tI).length ≤ 16777216 then some (R.val (.tup (a.map tI ++ b.map tI))) else none) = _
  rw [List.length_map, List.length_map, ← List.map_append]; rfl
@[simp] theorem e_repI {x k : Int} (h : 1 ≤ k ∧ k ≤ 1000) : binD .Mult (tI [x]) (.int k) = some (.val (tI (List.replicate k.toNat x))) := by
  show binD .Mult (.tup [.int x]) (.int k) = _
  rw [o_repT h, tI, List.map_replicate]
@[simp] theorem e_repII {x : List Int} {k : Int} (h : 1 ≤ k ∧ k ≤ 1000) : binD .Mult (tII [x]) (.int k) = some (.val (tII (List.replicate k.toNat x))) := by
  show binD .Mult (.tup [tI x]) (.int k) = _
  rw [o_repT h, tII, List.map_replicate]
@[simp] theorem e_inI {x : D} {l : List Int} (h : x.plain = true) (h2 : x.dle 12 = true) : inD x (tI l) = some ((l.map D.int).any fun y => y.eqv x) := inD_t h (by simp) h2
@[simp] theorem e_inII {x : D} {l : List (List Int)} (h : x.plain = true) (h2 : x.dle 12 = true) : inD x (tII l) = some ((l.map tI).any fun y => y.eqv x) := inD_t h (by simp) h2
@[simp] theorem e_inP {x : D} {l : List (Int × Int)} (h : x.plain = true) (h2 : x.dle 12 = true) : inD x (tP l) = some ((l.map pr).any fun y => y.eqv x) := inD_t h (by simp) h2
@[simp] theorem e_maxI {l : List Int} : cbD .max [tI l] = (maxI l).map fun m => .val (.int m) := by
  show ((allI (l.map D.int)).bind fun ns => (maxI ns).map fun m => R.val (.int m)) = _
  rw [allI_map']; rfl
@[simp] theorem e_maxL {l : List Int} : cbD .max [.lst (l.map D.int)] = (maxI l).map fun m => .val (.int m) := by
  show ((allI (l.map D.int)).bind fun ns => (maxI ns).map fun m => R.val (.int m)) = _
  rw [allI_map']; rfl
@[simp] theorem e_tru {l : List Int} : truD (tI l) = some (!l.isEmpty) := by cases l <;> rfl
@[simp] theorem v_tP {a b : List (Int × Int)} : (tP a).eqv (tP b) = decide (a = b) := vs_prs
@[simp] theorem v_tII {a b : List (List Int)} : (tII a).eqv (tII b) = decide (a = b) := vs_tIs
@[simp] theorem v_tP0 {a : List (Int × Int)} : (tP a).eqv (.tup []) = a.isEmpty := vs_nilL
@[simp] theorem v_tI0 {a : List Int} : (tI a).eqv (.tup []) = a.isEmpty := vs_nilL
end
/-! ### the pure side -/
def within (i a b : Int) : Bool := decide (a ≤ i) && decide (i ≤ b)
/-- an int within bounds, of any datum -/
def wI : D → Int → Int → Bool
  | .int i, a, b => within i a b
  | _, _, _ => false
@[simp] theorem wI_i {i a b : Int} : wI (.int i) a b = within i a b := rfl
@[simp] theorem wI_n {a b : Int} : wI .non a b = false := rfl
@[simp] theorem wI_b {x : Bool} {a b : Int} : wI (.bl x) a b = false := rfl
@[simp] theorem wI_s {x : PySem.Str} {a b : Int} : wI (.str x) a b = false := rfl
@[simp] theorem wI_t {ds : List D} {a b : Int} : wI (.tup ds) a b = false := rfl
@[simp] theorem wI_l {ds : List D} {a b : Int} : wI (.lst ds) a b = false := rfl
@[simp] theorem wI_tI {l : List Int} {a b : Int} : wI (tI l) a b = false := rfl
@[simp] theorem wI_tII {l : List (List Int)} {a b : Int} : wI (tII l) a b = false := rfl
/-- the greatest -/
def mx (l : List Int) : Int := (maxI l).getD 0
end Fx
namespace Fx
section
variable {g : G} {Φ : Fn} {ρ : Env} {α : Type}
/-- a comprehension of one name, what it tells given -/
theorem comp1_of (b : α → Bool) (v : α → D) {i : Nat} {elt : IE} {c : IO} {f : α → D} {xs : List α} (hi : i < ρ.length) (hl : xs.length ≤ 16777216)
    (hc : ∀ x ∈ xs, evC g Φ c (ρ.set i (some (.val (f x)))) = .ok (b x) (ρ.set i (some (.val (f x)))))
    (he : ∀ x ∈ xs, b x = true → dE g Φ elt (ρ.set i (some (.val (f x)))) = .ok (v x) (ρ.set i (some (.val (f x))))) :
    compE g Φ elt [i] (.one i) c (xs.map f) ρ = .ok (.lst ((xs.filter b).map v)) ρ := by
  rw [q_comp1 hi hl (fun x h => ⟨_, hc x h⟩) (fun x h h' => ⟨_, he x h (by rw [hc x h] at h'; exact h')⟩)]
  have e1 : (xs.filter fun x => (evC g Φ c (ρ.set i (some (.val (f x))))).get) = xs.filter b := List.filter_congr fun x h => by rw [hc x h]; rfl
  rw [e1]
  have e2 : ((xs.filter b).map fun x => (dE g Φ elt (ρ.set i (some (.val (f x))))).get) = (xs.filter b).map v := List.map_congr_left fun x h => by
    rw [List.mem_filter] at h
    rw [he x h.1 h.2]; rfl
  rw [e2]
/-- all parts -/
theorem comp1_all (v : α → D) {i : Nat} {elt : IE} {f : α → D} {xs : List α} (hi : i < ρ.length) (hl : xs.length ≤ 16777216)
    (he : ∀ x ∈ xs, dE g Φ elt (ρ.set i (some (.val (f x)))) = .ok (v x) (ρ.set i (some (.val (f x))))) :
    compE g Φ elt [i] (.one i) .non (xs.map f) ρ = .ok (.lst (xs.map v)) ρ := by
  rw [comp1_of (fun _ => true) v hi hl (fun _ _ => rfl) (fun x h _ => he x h)]
  simp
end
end Fx
end
section
set_option linter.all false
set_option Elab.async false
set_option maxRecDepth 100000
set_option maxHeartbeats 1000000
/-! Loops and comprehensions that change what stands around them; draws. -/
namespace Fx
open PySem (Operator CmpOp)
section
variable {g : G} {Φ : Fn} {ρ : Env} {α : Type}
theorem set_any {i : Nat} {ρ : Env} : ρ.set i (ρ.at i) = ρ := by
  by_cases h : i < ρ.length
  · exact set_atE h
  · exact List.set_eq_of_length_le (by omega)
/-- a comprehension of one name whose parts change other names -/
theorem comp_invW {i : Nat} {elt : IE} {c : IO} {f : α → D} {I : List α → List D → Env → Prop} {xs : List α} (hl : xs.length ≤ 16777216) (hi : I [] [] (ρ.set i none))
    (h : ∀ p x q acc ρ, xs = p ++ x :: q → I p acc ρ → ∃ b ρ1, evC g Φ c (ρ.set i (some (.val (f x)))) = .ok b ρ1 ∧
      (b = true → ∃ d ρ2, dE g Φ elt ρ1 = .ok d ρ2 ∧ I (p ++ [x]) (acc ++ [d]) (ρ2.set i none)) ∧ (b = false → I (p ++ [x]) acc (ρ1.set i none))) :
    ∃ acc ρ', compE g Φ elt [i] (.one i) c (xs.map f) ρ = .ok (.lst acc) (ρ'.set i (ρ.at i)) ∧ I xs acc ρ' ∧ acc.length ≤ xs.length := by
  have key : ∀ (ys pre : List α) (acc : List D) (ρw : Env), xs = pre ++ ys → I pre acc ρw → acc.length ≤ pre.length →
      ∃ acc' ρ', compF [i] (.one i) (fun ρ => evC g Φ c ρ) (fun ρ => asD g.flds (evE g Φ elt ρ)) (ys.map f) ρw acc = .ok acc' ρ' ∧ I xs acc' ρ' ∧ acc'.length ≤ xs.length := by
    intro ys
    induction ys with
    | nil =>
      intro pre acc ρw e hI hL
      rw [List.append_nil] at e
      exact ⟨acc, ρw, rfl, by rw [e]; exact hI, by rw [e]; exact hL⟩
    | cons y ys ih =>
      intro pre acc ρw e hI hL
      obtain ⟨b, ρ1, e1, ht, hf⟩ := h pre y ys acc ρw e hI
      rw [List.map_cons]
      unfold compF
      show ∃ acc' ρ', ((evC g Φ c (ρw.set i (some (.val (f y))))).bind _) = _ ∧ _
      rw [e1]
      show ∃ acc' ρ', (if b = true then _ else _) = _ ∧ _
      have e2 : xs = (pre ++ [y]) ++ ys := by rw [e, List.append_assoc]; rfl
      cases b with
      | true =>
        obtain ⟨d, ρ2, e3, hI2⟩ := ht rfl
        have e3' : asD g.flds (evE g Φ elt ρ1) = .ok d ρ2 := e3
        rw [if_pos rfl, e3']
        have hL2 : acc.length < 16777216 := by
          have : xs.length = pre.length + (ys.length + 1) := by rw [e, List.length_append, List.length_cons]
          omega
        show ∃ acc' ρ', (if acc.length < 16777216 then _ else _) = _ ∧ _
        rw [if_pos hL2]
        exact ih (pre ++ [y]) (acc ++ [d]) (ρ2.set i none) e2 hI2 (by simp; omega)
      | false =>
        rw [if_neg Bool.false_ne_true]
        exact ih (pre ++ [y]) acc (ρ1.set i none) e2 (hf rfl) (by simp; omega)
  obtain ⟨acc, ρ', e, hI, hL⟩ := key xs [] [] (ρ.set i none) rfl hi (Nat.zero_le _)
  refine ⟨acc, ρ', ?_, hI, hL⟩
  unfold compE
  show ((compF [i] (.one i) _ _ (xs.map f) (ρ.set i none) []).bind _).calm = _
  rw [e]; rfl
end
/-! ### draws -/
/-- a box: what is left of a great cell, and a number that is mixed on -/
abbrev Box := Int × Int
def bx (B : Box) : List D := [.int B.1, .int B.2]
structure BOk (B : Box) : Prop where
  a : 0 ≤ B.1
  b : 0 ≤ B.2
  c : B.2 < 2147483648
def tk (B : Box) (m : Int) : Int × Box := if 0 < B.1 then (B.1 % m, (B.1 / m, B.2)) else
  ((B.2 * 39373 + 69621) % 2147483647 / 8191 % m, (B.1, (B.2 * 39373 + 69621) % 2147483647))
theorem tk_ok {B : Box} {m : Int} (h : BOk B) (hm : 0 < m) : BOk (tk B m).2 := by
  obtain ⟨a, b, c⟩ := h
  unfold tk
  split
  · exact ⟨Int.ediv_nonneg a (by omega), b, c⟩
  · exact ⟨a, by dsimp only; omega, by dsimp only; omega⟩
theorem tk_in {B : Box} {m : Int} (hm : 0 < m) : 0 ≤ (tk B m).1 ∧ (tk B m).1 < m := by
  unfold tk
  split
  · exact ⟨Int.emod_nonneg _ (by omega), Int.emod_lt_of_pos _ hm⟩
  · exact ⟨Int.emod_nonneg _ (by omega), Int.emod_lt_of_pos _ hm⟩
/-- many draws -/
def dw (B : Box) (m : Int) : Nat → List Int × Box
  | 0 => ([], B)
  | n + 1 => let t := dw B m n
    (t.1 ++ [(tk t.2 m).1], (tk t.2 m).2)
theorem dw_ok {B : Box} {m : Int} (h : BOk B) (hm : 0 < m) : ∀ {n : Nat}, BOk (dw B m n).2
  | 0 => h
  | n + 1 => tk_ok (dw_ok h hm) hm
/-- rows of draws -/
def dww (B : Box) (m : Int) (k : Nat) : Nat → List (List Int) × Box
  | 0 => ([], B)
  | n + 1 => let t := dww B m k n
    (t.1 ++ [(dw t.2 m k).1], (dw t.2 m k).2)
theorem dww_ok {B : Box} {m : Int} {k : Nat} (h : BOk B) (hm : 0 < m) : ∀ {n : Nat}, BOk (dww B m k n).2
  | 0 => h
  | n + 1 => dw_ok (dww_ok h hm) hm
/-- the box of a script -/
def cellS (ns : List Int) (k : Int) : Int := if k < ns.length then (ix ns k).natAbs else if 0 < ns.length then (ix ns (k % ns.length)).natAbs % 1000000007 * 31 + 7919 * k else 7919 * k + 101
def boxS (ns : List Int) (k : Int) : Box := (if 1000000000000000000 ≤ cellS ns k then cellS ns k else 0, (cellS ns k % 1000000007 * 48271 + 613 * k) % 2147483647 + 1)
theorem boxS_ok {ns : List Int} {k : Int} (hk : 0 ≤ k) : BOk (boxS ns k) := by
  refine ⟨?_, ?_, ?_⟩
  · unfold boxS; dsimp only; split <;> omega
  · unfold boxS; dsimp only; omega
  · unfold boxS; dsimp only; omega
@[simp] theorem bx_len {B : Box} : (bx B).length = 2 := rfl
@[simp] theorem bx_0 {B : Box} : L2.atI (bx B) 0 = some (.int B.1) := rfl
@[simp] theorem bx_1 {B : Box} : L2.atI (bx B) 1 = some (.int B.2) := rfl
@[simp] theorem bx_n0 : L2.ixN 2 0 = some 0 := rfl
@[simp] theorem bx_n1 : L2.ixN 2 1 = some 1 := rfl
@[simp] theorem bx_s0 {B : Box} {x : Int} : (bx B).set 0 (.int x) = bx (x, B.2) := rfl
@[simp] theorem bx_s1 {B : Box} {x : Int} : (bx B).set 1 (.int x) = bx (B.1, x) := rfl
@[simp] theorem bx_st0 {i : Nat} {x : Int} {B : Box} {ρ : Env} : sti2 i (.int x) (some (.lst (bx B))) (.int 0) ρ = .nx (ρ.set i (some (.lst (bx (x, B.2))))) := rfl
@[simp] theorem bx_st1 {i : Nat} {x : Int} {B : Box} {ρ : Env} : sti2 i (.int x) (some (.lst (bx B))) (.int 1) ρ = .nx (ρ.set i (some (.lst (bx (B.1, x))))) := rfl
theorem at_set {ρ : Env} {i j : Nat} {x : Option R} (h : i ≠ j) : Env.at (ρ.set i x) j = ρ.at j := by
  show ((ρ.set i x)[j]?).bind id = (ρ[j]?).bind id
  rw [List.getElem?_set_ne h]
theorem at_set' {ρ : Env} {i : Nat} {x : Option R} (h : i < ρ.length) : Env.at (ρ.set i x) i = x := by
  show ((ρ.set i x)[i]?).bind id = x
  rw [List.getElem?_set_self h]; rfl
theorem at_lt {ρ : Env} {i : Nat} {x : R} (h : ρ.at i = some x) : i < ρ.length := by
  by_cases hl : i < ρ.length
  · exact hl
  · have e : ρ.at i = none := by
      show (ρ[i]?).bind id = none
      rw [List.getElem?_eq_none (by omega)]; rfl
    rw [e] at h; cases h
end Fx
end
section
set_option linter.all false
set_option Elab.async false
set_option maxRecDepth 100000
set_option maxHeartbeats 1000000
/-! Tables, outs, what partings keep out: plain. -/
namespace Fx
/-- a row of a lock: its keys -/
structure RowOk (m : Int) (r : List Int) : Prop where
  ne : r ≠ []
  up : r.Pairwise (· < ·)
  inn : ∀ i ∈ r, 0 ≤ i ∧ i < m
abbrev Tab := Int × List (List Int)
structure TOk (T : Tab) : Prop where
  m1 : 1 ≤ T.1
  m5 : T.1 ≤ 5
  r1 : 1 ≤ T.2.length
  r5 : T.2.length ≤ 5
  rows : ∀ r ∈ T.2, RowOk T.1 r
theorem ir_up {a b : Int} : (irange a b).Pairwise (· < ·) := by
  unfold irange
  rw [List.pairwise_map]
  exact List.Pairwise.imp (fun h => by omega) List.pairwise_lt_range
/-- the pairs of a key and a lock that it shall not open -/
def outsR (T : Tab) (k : Int) : List (Int × Int) := ((irange 0 T.2.length).filter fun l => !decide (k ∈ ix T.2 l)).map fun l => (k, l)
def outsL (T : Tab) : List (Int × Int) := (irange 0 T.1).flatMap (outsR T)
theorem mem_outs {T : Tab} {q : Int × Int} : q ∈ outsL T ↔ (0 ≤ q.1 ∧ q.1 < T.1) ∧ (0 ≤ q.2 ∧ q.2 < T.2.length) ∧ q.1 ∉ ix T.2 q.2 := by
  obtain ⟨k, l⟩ := q
  unfold outsL outsR
  simp only [List.mem_flatMap, List.mem_map, List.mem_filter, mem_irange, Bool.not_eq_true', decide_eq_false_iff_not, Prod.mk.injEq]
  constructor
  · rintro ⟨a, ha, b, ⟨hb, hn⟩, rfl, rfl⟩
    exact ⟨ha, hb, hn⟩
  · rintro ⟨ha, hb, hn⟩
    exact ⟨k, ha, l, ⟨hb, hn⟩, rfl, rfl⟩
/-- whether a parting keeps a pair out, plainly, deeply -/
def keepB (T : Tab) (p : List Int) (plain : Bool) (q : Int × Int) : Bool :=
  if plain = true then !decide (ix p q.1 ∈ (ix T.2 q.2).map (ix p)) else decide (mx ((ix T.2 q.2).map (ix p)) < ix p q.1)
def keptL (T : Tab) (p : List Int) (plain : Bool) : List (Int × Int) := (outsL T).filter (keepB T p plain)
def kindS (b : Bool) : PySem.Str := if b = true then "plain" else "deep"
end Fx
end
section
set_option linter.all false
set_option Elab.async false
set_option maxRecDepth 100000
set_option maxHeartbeats 1000000
/-! Objects that a name owns, or plain ones: alike to what is asked. -/
namespace Fx
/-- an object, owned (o) or plain -/
def obR (o : Bool) (c : Nat) (ds : List D) : R := if o = true then .obj c (ds.map .val) else .val (.ins c ds)
def obA (o : Bool) (i c : Nat) (ds : List D) : Ar := if o = true then .b i else .v (.val (.ins c ds))
section
variable {g : G} {Φ : Fn} {ρ : Env} {o : Bool} {i c f : Nat} {ds : List D}
@[simp] theorem ob_av : avO i (some (obR o c ds)) ρ = .ok (obA o i c ds) ρ := by cases o <;> rfl
theorem vals_full {fl : Nat → List Nat} : ∀ {ds : List D}, R.fullBs fl (ds.map R.val) = true
  | [] => rfl
  | d :: ds => vals_full (ds := ds)
theorem vals_toD : ∀ {ds : List D}, R.toDs (ds.map R.val) = ds
  | [] => rfl
  | d :: ds => by
    show d :: R.toDs (ds.map R.val) = _
    rw [vals_toD]
@[simp] theorem ob_full (hl : ds.length = (g.flds c).length) : fullD g.flds (obR o c ds) = some (.ins c ds) := by
  cases o with
  | false => rfl
  | true =>
    show (if (decide ((ds.map R.val).length = (g.flds c).length) && R.fullBs g.flds (ds.map R.val)) = true then some (D.ins c (R.toDs (ds.map R.val))) else none) = _
    rw [vals_full, vals_toD, List.length_map, if_pos]
    simp [hl]
@[simp] theorem ob_atv : attrO g f (obR o c ds) = attrR g f (.ins c ds) := by
  cases o with
  | false => rfl
  | true =>
    show ((if c < g.nc then (match (ds.map R.val)[(g.flds c).idxOf f]? with
      | some (.val d) => some d
      | _ => none) else none : Option D)) = _
    rw [List.getElem?_map]
    show _ = ((if c < g.nc then ds[(g.flds c).idxOf f]? else none : Option D))
    cases ds[(g.flds c).idxOf f]? <;> rfl
@[simp] theorem ob_d (h : ρ.at i = some (obR o c ds)) (hl : ds.length = (g.flds c).length) : Ar.d g.flds (obA o i c ds) ρ = some (.ins c ds) := by
  cases o with
  | false => rfl
  | true =>
    show (ρ.at i).bind (fullD g.flds) = _
    rw [h]
    exact ob_full hl
@[simp] theorem ob_rd (hl : ds.length = (g.flds c).length) (h : ρ.at i = some (obR o c ds)) : rdO g.flds i (some (obR o c ds)) ρ = .ok (.val (.ins c ds)) (ρ.set i (some (obR false c ds))) := by
  cases o with
  | false =>
    show Res.ok _ ρ = Res.ok _ (ρ.set i (some (obR false c ds)))
    rw [← h, set_atE (at_lt h)]
  | true =>
    show (if (decide ((ds.map R.val).length = (g.flds c).length) && R.fullBs g.flds (ds.map R.val)) = true then Res.ok (R.val (D.ins c (R.toDs (ds.map R.val)))) (ρ.set i (some (.val (D.ins c (R.toDs (ds.map R.val)))))) else .stuck) = _
    rw [vals_full, vals_toD, List.length_map, if_pos]
    · rfl
    · simp [hl]
/-- behind a call with such an object as its first argument -/
def backO (o : Bool) (i : Nat) (x : FRes) (ρ : Env) : Res R := if o = true then back1 i x ρ else x.v.res ρ
theorem ob_call (h : ρ.at i = some (obR o c ds)) (rs : List R) : callR Φ f (obA o i c ds :: rs.map Ar.v) ρ = backO o i (Φ f (obR o c ds :: rs)) ρ := by
  cases o with
  | false => exact call_vs (R.val (.ins c ds) :: rs)
  | true =>
    show callR Φ f (.b i :: rs.map Ar.v) ρ = _
    rw [call_b1, h]; rfl
@[simp] theorem ob_call1 (h : ρ.at i = some (obR o c ds)) : callR Φ f [obA o i c ds] ρ = backO o i (Φ f [obR o c ds]) ρ := ob_call h []
@[simp] theorem ob_call2 {a : R} (h : ρ.at i = some (obR o c ds)) : callR Φ f [obA o i c ds, .v a] ρ = backO o i (Φ f [obR o c ds, a]) ρ := ob_call h [a]
@[simp] theorem ob_call3 {a b : R} (h : ρ.at i = some (obR o c ds)) : callR Φ f [obA o i c ds, .v a, .v b] ρ = backO o i (Φ f [obR o c ds, a, b]) ρ := ob_call h [a, b]
@[simp] theorem ob_call4 {a b d : R} (h : ρ.at i = some (obR o c ds)) : callR Φ f [obA o i c ds, .v a, .v b, .v d] ρ = backO o i (Φ f [obR o c ds, a, b, d]) ρ := ob_call h [a, b, d]
@[simp] theorem ob_call5 {a b d e : R} (h : ρ.at i = some (obR o c ds)) : callR Φ f [obA o i c ds, .v a, .v b, .v d, .v e] ρ = backO o i (Φ f [obR o c ds, a, b, d, e]) ρ := ob_call h [a, b, d, e]
@[simp] theorem ob_back {x : R} {os : Env} (h : ρ.at i = some (obR o c ds)) : backO o i (.ok x (some (obR o c ds) :: os)) ρ = .ok x ρ := by
  cases o with
  | false => rfl
  | true =>
    show Res.ok x (ρ.set i (some (obR true c ds))) = _
    rw [← h, set_atE (at_lt h)]
@[simp] theorem ob_backx {k : Nat} {d : D} {os : Env} (h : ρ.at i = some (obR o c ds)) : backO o i (.exc k d (some (obR o c ds) :: os)) ρ = .exc k d ρ := by
  cases o with
  | false => rfl
  | true =>
    show Res.exc k d (ρ.set i (some (obR true c ds))) = _
    rw [← h, set_atE (at_lt h)]
/-- a new object -/
def mk1 : FRes → Env → Res R
  | .ok (.val .non) (some r :: _), ρ => .ok r ρ
  | .exc x d (_ :: _), ρ => .exc x d ρ
  | _, _ => .stuck
theorem mk_vs {ini : Nat → Nat} (rs : List R) : makeR Φ ini c (rs.map Ar.v) ρ = mk1 (Φ (ini c) (.obj c [] :: rs)) ρ := by
  unfold makeR
  rw [hand_vs]
  dsimp only
  cases Φ (ini c) (.obj c [] :: rs) with
  | ok r os =>
    cases r with
    | val d => cases d <;> (cases os with
      | nil => rfl
      | cons x os => cases x <;> first | rfl | (show Res.ok _ (giveB _ _ _) = _; rw [give_vs]; rfl))
    | _ => rfl
  | exc x d os => cases os with
    | nil => rfl
    | cons y os => show Res.exc x d (giveB _ _ _) = _; rw [give_vs]; rfl
  | stuck => rfl
@[simp] theorem mk_1 {ini : Nat → Nat} {a : R} : makeR Φ ini c [.v a] ρ = mk1 (Φ (ini c) [.obj c [], a]) ρ := mk_vs [a]
@[simp] theorem mk_2 {ini : Nat → Nat} {a b : R} : makeR Φ ini c [.v a, .v b] ρ = mk1 (Φ (ini c) [.obj c [], a, b]) ρ := mk_vs [a, b]
@[simp] theorem mk_3 {ini : Nat → Nat} {a b d : R} : makeR Φ ini c [.v a, .v b, .v d] ρ = mk1 (Φ (ini c) [.obj c [], a, b, d]) ρ := mk_vs [a, b, d]
@[simp] theorem mk_ok {r : R} {os : Env} : mk1 (.ok (.val .non) (some r :: os)) ρ = .ok r ρ := rfl
@[simp] theorem mk_x {k : Nat} {d : D} {y : Option R} {os : Env} : mk1 (.exc k d (y :: os)) ρ = .exc k d ρ := rfl
end
end Fx
namespace Fx
section
variable {g : G} {Φ : Fn} {ρ : Env}
end
end Fx
end
section
set_option linter.all false
set_option Elab.async false
set_option maxRecDepth 100000
set_option maxHeartbeats 1000000
/-! Cuts and stacks: plain. -/
namespace Fx
theorem ins_mem {x y : Int} : ∀ {l : List Int}, y ∈ insI x l ↔ y = x ∨ y ∈ l
  | [] => by unfold insI; simp
  | z :: l => by
    unfold insI
    split
    · simp
    · split
      · next e => subst e; simp
      · rw [List.mem_cons, ins_mem, List.mem_cons]
        constructor
        · rintro (h | h | h)
          · exact .inr (.inl h)
          · exact .inl h
          · exact .inr (.inr h)
        · rintro (h | h | h)
          · exact .inr (.inl h)
          · exact .inl h
          · exact .inr (.inr h)
@[simp] theorem mem_usort {y : Int} : ∀ {l : List Int}, y ∈ usort l ↔ y ∈ l
  | [] => Iff.rfl
  | x :: l => by
    show y ∈ insI x (usort l) ↔ _
    rw [ins_mem, mem_usort, List.mem_cons]
/-- the cuts of keys -/
structure COk (m d : Int) (C : List (List Int)) : Prop where
  len : (C.length : Int) = m
  m1 : 1 ≤ m
  k1 : 1 ≤ (ix C 0).length
  k5 : (ix C 0).length ≤ 5
  all : ∀ c ∈ C, c.length = (ix C 0).length ∧ ∀ x ∈ c, 0 ≤ x ∧ x < d
/-- a chamber of cuts -/
def col (C : List (List Int)) (c : Int) : List Int := C.map fun cut => ix cut c
section
variable {ρ : Env}
@[simp] theorem e_zip {a : List Int} {b : List (List Int)} : zip1 (tI a) (tII b) ρ = .ok ((a.zip b).map fun p => .tup [.int p.1, tI p.2]) ρ := by
  show Res.ok (zipD (a.map D.int) (b.map tI)) ρ = _
  rw [q_zipD]
end
end Fx
namespace Fx
@[simp] theorem kindS_t : kindS true = "plain" := rfl
@[simp] theorem kindS_f : kindS false = "deep" := rfl
/-- partings of m keys -/
structure POk (m d : Int) (P : List (List Int)) : Prop where
  k1 : 1 ≤ P.length
  k5 : P.length ≤ 5
  all : ∀ p ∈ P, (p.length : Int) = m ∧ ∀ x ∈ p, 0 ≤ x ∧ x < d
end Fx
end
section
set_option linter.all false
set_option Elab.async false
set_option maxRecDepth 100000
set_option maxHeartbeats 1000000
/-! Partings, best sets, the search: plain. -/
namespace Fx
/-! ### counting -/
theorem nodup_len {α : Type} [DecidableEq α] : ∀ {l m : List α}, l.Nodup → (∀ x ∈ l, x ∈ m) → l.length ≤ m.length
  | [], _, _, _ => Nat.zero_le _
  | x :: l, m, h, k => by
    rw [List.nodup_cons] at h
    have hx := k x List.mem_cons_self
    have := nodup_len (l := l) (m := m.erase x) h.2 fun y hy => (List.mem_erase_of_ne (by rintro rfl; exact h.1 hy)).mpr (k y (List.mem_cons_of_mem _ hy))
    rw [List.length_erase_of_mem hx] at this
    have : 0 < m.length := List.length_pos_of_mem hx
    rw [List.length_cons]; omega
/-- all parts of a list -/
def pw {α : Type} : List α → List (List α)
  | [] => [[]]
  | x :: l => pw l ++ (pw l).map (x :: ·)
theorem pw_len {α : Type} : ∀ {l : List α}, (pw l).length = 2 ^ l.length
  | [] => rfl
  | x :: l => by
    unfold pw
    rw [List.length_append, List.length_map, pw_len, List.length_cons, Nat.pow_succ]; omega
theorem sub_pw {α : Type} {a l : List α} (h : a.Sublist l) : a ∈ pw l := by
  induction h with
  | slnil => exact List.mem_singleton.mpr rfl
  | cons x _ ih => exact List.mem_append.mpr (.inl ih)
  | cons_cons x _ ih => exact List.mem_append.mpr (.inr (List.mem_map.mpr ⟨_, ih, rfl⟩))
theorem subs_len {α : Type} [DecidableEq α] {l : List α} {ks : List (List α)} (h : ks.Nodup) (hs : ∀ k ∈ ks, k.Sublist l) : ks.length ≤ 2 ^ l.length := by
  rw [← pw_len]
  exact nodup_len h fun k hk => sub_pw (hs k hk)
/-! ### there are at most 20 outs -/
theorem outs_up {T : Tab} : (outsL T).Pairwise fun a b => a.1 < b.1 ∨ a.1 = b.1 ∧ a.2 < b.2 := by
  unfold outsL
  rw [List.pairwise_flatMap]
  constructor
  · intro k _
    unfold outsR
    rw [List.pairwise_map]
    exact (ir_up.filter _).imp fun h => .inr ⟨rfl, h⟩
  · refine ir_up.imp ?_
    intro a b hab p hp q hq
    unfold outsR at hp hq
    rw [List.mem_map] at hp hq
    obtain ⟨_, _, rfl⟩ := hp
    obtain ⟨_, _, rfl⟩ := hq
    exact .inl hab
theorem outs_nodup {T : Tab} : (outsL T).Nodup := outs_up.imp fun h e => by subst e; omega
theorem outs_20 {T : Tab} (h : TOk T) : (outsL T).length ≤ 20 := by
  have h1 := h.m1
  have h2 := h.m5
  have h3 := h.r1
  have h4 := h.r5
  have key := nodup_len (l := outsL T ++ (irange 0 T.2.length).map fun l => (ix (ix T.2 l) 0, l)) (m := (irange 0 T.1).flatMap fun k => (irange 0 T.2.length).map fun l => (k, l)) (by
    rw [List.nodup_append]
    refine ⟨outs_nodup, ?_, ?_⟩
    · rw [List.Nodup, List.pairwise_map]
      exact ir_up.imp fun h e => by
        have := congrArg Prod.snd e
        dsimp only at this
        omega
    · intro a ha b hb e
      subst e
      rw [List.mem_map] at hb
      obtain ⟨l, hl, rfl⟩ := hb
      rw [mem_outs] at ha
      rw [mem_irange] at hl
      have r := h.rows _ (ix_mem hl.1 hl.2)
      have l0 : 0 < (ix T.2 l).length := List.length_pos_iff.mpr r.ne
      have hm : ix (ix T.2 l) 0 ∈ ix T.2 l := ix_mem (by omega) (by omega)
      exact ha.2.2 hm) (by
    intro q hq
    rcases List.mem_append.mp hq with hq | hq
    · rw [mem_outs] at hq
      rw [List.mem_flatMap]
      exact ⟨q.1, mem_irange.mpr hq.1, List.mem_map.mpr ⟨q.2, mem_irange.mpr hq.2.1, rfl⟩⟩
    · rw [List.mem_map] at hq
      obtain ⟨l, hl, rfl⟩ := hq
      have hl' := mem_irange.mp hl
      have r := h.rows _ (ix_mem hl'.1 hl'.2)
      have l0 : 0 < (ix T.2 l).length := List.length_pos_iff.mpr r.ne
      rw [List.mem_flatMap]
      exact ⟨ix (ix T.2 l) 0, mem_irange.mpr (r.inn _ (ix_mem (by omega) (by omega))), List.mem_map.mpr ⟨l, hl, rfl⟩⟩)
  have e : ((irange 0 T.1).flatMap fun k => (irange 0 T.2.length).map fun l => (k, l)).length = T.1.toNat * T.2.length := by
    rw [List.length_flatMap]
    have e1 : ((irange 0 T.1).map fun k => ((irange 0 T.2.length).map fun l => (k, l)).length) = (irange 0 T.1).map fun _ => T.2.length := by
      apply List.map_congr_left
      intro k _
      rw [List.length_map, len_irange]; omega
    rw [e1, List.map_const', List.sum_replicate_nat, len_irange]
    have : (T.1 - 0).toNat = T.1.toNat := by omega
    rw [this]
  rw [e, List.length_append, List.length_map, len_irange] at key
  have hm : T.1.toNat ≤ 5 := by omega
  have hk : T.1.toNat * T.2.length ≤ 5 * T.2.length := Nat.mul_le_mul_right _ hm
  omega
@[simp] theorem maxI_c {x : Int} {l : List Int} : maxI (x :: l) = some (mx (x :: l)) := rfl
/-! ### partings -/
def topP (d : Int) (b : Bool) (row : List Int) : Int := if b = true then min d (mx (-1 :: row) + 2) else d
def growP (d : Int) (b : Bool) (row : List Int) : List (List Int) := (irange 0 (topP d b row)).map fun t => row ++ [t]
def partsL (d : Int) (b : Bool) : Nat → List (List Int)
  | 0 => [[]]
  | n + 1 => (partsL d b n).flatMap (growP d b)
theorem top_le {d : Int} {b : Bool} {row : List Int} : topP d b row ≤ d := by unfold topP; split <;> omega
/-! ### greatest sets -/
def subB (a b : List (Int × Int)) : Bool := (a.filter fun q => !decide (q ∈ b)).isEmpty
/-- none of every is greater -/
def topB (every : List (List (Int × Int))) (k : List (Int × Int)) : Bool := (every.filter fun o => decide (k.length < o.length) && subB k o).isEmpty
abbrev Ent := List (Int × Int) × List Int
/-- the greatest sets of outs, each with its parting -/
structure BestOk (T : Tab) (d : Int) (b : Bool) (best : List Ent) : Prop where
  len : best.length ≤ 1024
  is : ∀ e ∈ best, e.1 = keptL T e.2 b ∧ e.2 ∈ partsL d b T.1.toNat
  dom : ∀ p ∈ partsL d b T.1.toNat, ∃ e ∈ best, ∀ q ∈ keptL T p b, q ∈ e.1
end Fx
end
section
set_option linter.all false
set_option Elab.async false
set_option maxRecDepth 100000
set_option maxHeartbeats 1000000
/-! Dicts whose keys are rows of pairs; sorted rows of pairs. -/
namespace Fx
open PySem
theorem keys_pr : ∀ {l : List (Int × Int)}, D.areKeys (l.map pr) = true
  | [] => rfl
  | x :: l => by
    show (true && D.areKeys (l.map pr)) = true
    rw [keys_pr]; rfl
theorem nks_pr : ∀ {l : List (Int × Int)}, NestedKey.depthAll (D.nks (l.map pr)) ≤ 2
  | [] => Nat.zero_le _
  | x :: l => by
    have := nks_pr (l := l)
    show max (max 0 (max 0 0) + 1) (NestedKey.depthAll (D.nks (l.map pr))) ≤ 2
    omega
@[simp] theorem tk_tP {l : List (Int × Int)} : (tP l).isTK = true := by
  show (D.areKeys (l.map pr) && decide (NestedKey.depthAll (D.nks (l.map pr)) + 1 ≤ 8)) = true
  rw [keys_pr]
  have := nks_pr (l := l)
  simp; omega
theorem tks_tP {ks : List (List (Int × Int))} : (ks.map tP).all D.isTK = true := by
  rw [List.all_eq_true]
  intro d hd
  rw [List.mem_map] at hd
  obtain ⟨l, _, rfl⟩ := hd
  exact tk_tP
@[simp] theorem key_tP {ks : List (List (Int × Int))} {k : List (Int × Int)} : keyOk (ks.map tP) (tP k) = true := by
  unfold keyOk
  rw [tks_tP, tk_tP]
  simp
theorem find_tP {ks : List (List (Int × Int))} {k : List (Int × Int)} : dFind (ks.map tP) (tP k) = ks.findIdx? fun x => decide (x = k) := by
  unfold dFind
  rw [List.findIdx?_map]
  congr 1
  funext x
  exact v_tP
theorem none_tP {ks : List (List (Int × Int))} {k : List (Int × Int)} (h : k ∉ ks) : dFind (ks.map tP) (tP k) = none := by
  rw [find_tP, List.findIdx?_eq_none_iff]
  intro x hx
  simp; rintro rfl; exact h hx
@[simp] theorem in_dP {ks : List (List (Int × Int))} {vs : List D} {k : List (Int × Int)} : inD (tP k) (.dct (ks.map tP) vs) = some (decide (k ∈ ks)) := by
  rw [inD_d, key_tP, if_pos rfl]
  congr 1
  by_cases h : k ∈ ks
  · cases e : dFind (ks.map tP) (tP k) with
    | some j => simp [h]
    | none =>
      rw [find_tP, List.findIdx?_eq_none_iff] at e
      have := e k h
      simp at this
  · rw [none_tP h]; simp [h]
@[simp] theorem putK_tP {ks : List (List (Int × Int))} {k : List (Int × Int)} (h : k ∉ ks) : dPutK (ks.map tP) (tP k) = (ks ++ [k]).map tP := by
  unfold dPutK
  rw [none_tP h, List.map_append]; rfl
@[simp] theorem putV_tP {ks : List (List (Int × Int))} {vs : List D} {v : D} {k : List (Int × Int)} (h : k ∉ ks) : dPutV (ks.map tP) vs (tP k) v = vs ++ [v] := by
  unfold dPutV
  rw [none_tP h]
end Fx
namespace Fx
/-! ### what the search for greatest sets has seen -/
def stepS (T : Tab) (b : Bool) (s : List Ent) (p : List Int) : List Ent := if keptL T p b ∈ s.map (·.1) then s else s ++ [(keptL T p b, p)]
def seenL (T : Tab) (b : Bool) (ps : List (List Int)) : List Ent := ps.foldl (stepS T b) []
end Fx
end
section
set_option linter.all false
set_option Elab.async false
set_option maxRecDepth 100000
set_option maxHeartbeats 1000000
/-! The search for the fewest chambers: plain; lists in either form. -/
namespace Fx
@[simp] theorem t_oneI {x : List Int} : D.tup [tI x] = tII [x] := rfl
/-- a list, owned or plain -/
def lsR (o : Bool) (ds : List D) : R := if o = true then .lst ds else .val (.lst ds)
@[simp] theorem ls_rd {fl : Nat → List Nat} {i : Nat} {o : Bool} {ds : List D} {ρ : Env} (h : ρ.at i = some (lsR o ds)) : rdO fl i (some (lsR o ds)) ρ = .ok (.val (.lst ds)) (ρ.set i (some (.val (.lst ds)))) := by
  cases o with
  | true => rfl
  | false =>
    show Res.ok _ ρ = Res.ok _ (ρ.set i (some (.val (.lst ds))))
    have e : ρ.at i = some (.val (.lst ds)) := h
    rw [← e, set_atE (at_lt h)]
abbrev RowE := List (Int × Int) × List (List Int)
structure FRow (T : Tab) (d : Int) (b : Bool) (k : Nat) (r : RowE) : Prop where
  sub : r.1.Sublist (outsL T)
  len : r.2.length = k
  inn : ∀ p ∈ r.2, p ∈ partsL d b T.1.toNat
  cov : ∀ q ∈ outsL T, q ∉ r.1 → ∃ p ∈ r.2, keepB T p b q = true
/-- a good answer: k partings that keep out all outs -/
structure Fine (T : Tab) (d : Int) (b : Bool) (ps : List (List Int)) : Prop where
  k1 : 1 ≤ ps.length
  km : (ps.length : Int) ≤ T.1
  inn : ∀ p ∈ ps, p ∈ partsL d b T.1.toNat
  cov : ∀ q ∈ outsL T, ∃ p ∈ ps, keepB T p b q = true
variable {T : Tab} {d : Int} {b : Bool} {best : List Ent} {k : Nat} {r : RowE} {e : Ent}
end Fx
namespace Fx
end Fx
end
section
set_option linter.all false
set_option Elab.async false
set_option maxRecDepth 100000
set_option maxHeartbeats 1000000
/-! Loops over lists that stand written. -/
namespace Fx
section
variable (g : G) (Φ : Fn)
def forC (tg : Tg) (body : ISs) (ds : List D) (x : SRes) : SRes := match x with
  | .nx ρ => forE g Φ tg body ds ρ
  | .ct ρ => forE g Φ tg body ds ρ
  | .bk ρ => .nx ρ
  | x => x
def forS (tg : Tg) (body : ISs) (ds : List D) (o : Option Env) : SRes := match o with
  | some ρ => forC g Φ tg body ds (evSs g Φ body ρ)
  | none => .stuck
end
section
variable {g : G} {Φ : Fn} {tg : Tg} {body : ISs} {ds : List D} {ρ : Env}
@[simp] theorem fo_nil : forE g Φ tg body [] ρ = .nx ρ := rfl
@[simp] theorem fo_cons {d : D} : forE g Φ tg body (d :: ds) ρ = forS g Φ tg body ds (setTg tg d ρ) := by
  unfold forE forS
  show (match setTg tg d ρ with
    | none => SRes.stuck
    | some ρ1 => match evSs g Φ body ρ1 with
      | .nx ρ2 => forF tg (fun ρ => evSs g Φ body ρ) ds ρ2
      | .ct ρ2 => forF tg (fun ρ => evSs g Φ body ρ) ds ρ2
      | .bk ρ2 => .nx ρ2
      | x => x) = _
  cases setTg tg d ρ with
  | none => rfl
  | some ρ1 => dsimp only; unfold forC; cases evSs g Φ body ρ1 <;> rfl
@[simp] theorem fo_some : forS g Φ tg body ds (some ρ) = forC g Φ tg body ds (evSs g Φ body ρ) := rfl
@[simp] theorem fo_nx : forC g Φ tg body ds (.nx ρ) = forE g Φ tg body ds ρ := rfl
@[simp] theorem fo_ct : forC g Φ tg body ds (.ct ρ) = forE g Φ tg body ds ρ := rfl
@[simp] theorem fo_bk : forC g Φ tg body ds (.bk ρ) = .nx ρ := rfl
@[simp] theorem fo_rt {r : R} : forC g Φ tg body ds (.rt r ρ) = .rt r ρ := rfl
@[simp] theorem fo_x {c : Nat} {d : D} : forC g Φ tg body ds (.exc c d ρ) = .exc c d ρ := rfl
end
end Fx
end
section
set_option linter.all false
set_option Elab.async false
set_option maxRecDepth 100000
set_option maxHeartbeats 1000000
/-! Sorted ints; what a cut opens: plain. -/
namespace Fx
open PySem (Operator CmpOp)
/-! ### a datum equals itself -/
mutual
theorem eqv_refl : ∀ {d : D}, d.plain = true → d.eqv d = true
  | .non, _ => rfl
  | .bl b, _ => by simp
  | .int i, _ => by simp
  | .str x, _ => by simp
  | .tup ds, h => eqvs_refl (ds := ds) h
  | .lst ds, h => eqvs_refl (ds := ds) h
  | .rng _ _, h => by cases h
  | .ins _ _, h => by cases h
  | .dct _ _, h => by cases h
  | .err _ _, h => by cases h
theorem eqvs_refl : ∀ {ds : List D}, D.plains ds = true → D.eqvs ds ds = true
  | [], _ => rfl
  | d :: ds, h => by
    have h : (d.plain && D.plains ds) = true := h
    rw [Bool.and_eq_true] at h
    rw [vs_cc, eqv_refl h.1, eqvs_refl h.2]; rfl
end
end Fx
namespace Fx
section
variable {g : G} {Φ : Fn} {ρ : Env} {o : Bool} {i f : Nat} {ds : List D}
/-! ### lists in either form, as arguments -/
def lsA (o : Bool) (i : Nat) (ds : List D) : Ar := if o = true then .b i else .v (.val (.lst ds))
@[simp] theorem ls_av : avO i (some (lsR o ds)) ρ = .ok (lsA o i ds) ρ := by cases o <;> rfl
@[simp] theorem ls_d (h : ρ.at i = some (lsR o ds)) : Ar.d g.flds (lsA o i ds) ρ = some (.lst ds) := by
  cases o with
  | false => rfl
  | true =>
    show (ρ.at i).bind (fullD g.flds) = _
    rw [h]; rfl
theorem ls_call (h : ρ.at i = some (lsR o ds)) (rs : List R) : callR Φ f (lsA o i ds :: rs.map Ar.v) ρ = backO o i (Φ f (lsR o ds :: rs)) ρ := by
  cases o with
  | false => exact call_vs (R.val (.lst ds) :: rs)
  | true =>
    show callR Φ f (.b i :: rs.map Ar.v) ρ = _
    rw [call_b1, h]; rfl
@[simp] theorem ls_call1 (h : ρ.at i = some (lsR o ds)) : callR Φ f [lsA o i ds] ρ = backO o i (Φ f [lsR o ds]) ρ := ls_call h []
@[simp] theorem ls_call2 {a : R} (h : ρ.at i = some (lsR o ds)) : callR Φ f [lsA o i ds, .v a] ρ = backO o i (Φ f [lsR o ds, a]) ρ := ls_call h [a]
@[simp] theorem ls_call3 {a b : R} (h : ρ.at i = some (lsR o ds)) : callR Φ f [lsA o i ds, .v a, .v b] ρ = backO o i (Φ f [lsR o ds, a, b]) ρ := ls_call h [a, b]
@[simp] theorem ls_back {x : R} {os : Env} (h : ρ.at i = some (lsR o ds)) : backO o i (.ok x (some (.val (.lst ds)) :: os)) ρ = .ok x (ρ.set i (some (.val (.lst ds)))) := by
  cases o with
  | false =>
    show Res.ok x ρ = Res.ok x (ρ.set i (some (lsR false ds)))
    rw [← h, set_atE (at_lt h)]
  | true => rfl
end
end Fx
namespace Fx
@[simp] theorem fres_ok {r : R} {os : Env} : (FRes.ok r os).v = .ok r := rfl
@[simp] theorem fres_x {c : Nat} {d : D} {os : Env} : (FRes.exc c d os).v = .exc c d := rfl
theorem v_ok {x : FRes} {r : R} (h : x.v = .ok r) : ∃ outs, x = .ok r outs := by
  cases x with
  | ok r' outs => exact ⟨outs, by cases h; rfl⟩
  | exc c d o => cases h
  | stuck => cases h
end Fx
end
section
set_option linter.all false
set_option Elab.async false
set_option maxRecDepth 100000
set_option maxHeartbeats 1000000
/-! Filing: plain. -/
namespace Fx
/-- a key's cuts and a lock's stacks, chamber by chamber -/
def zl (T : Tab) (C : List (List Int)) (q : Int × Int) : List (Int × List Int) := (irange 0 (ix C 0).length).map fun c => (ix (ix C q.1) c, usort ((ix T.2 q.2).map fun k => ix (ix C k) c))
def oD : Option (List Int) → D
  | none => .non
  | some l => tI l
@[simp] theorem oD_n : oD none = .non := rfl
@[simp] theorem oD_s {l : List Int} : oD (some l) = tI l := rfl
end Fx
namespace Fx
@[simp] theorem nn_tI {l : List Int} : (tI l).isNon = false := rfl
@[simp] theorem nn_tII {l : List (List Int)} : (tII l).isNon = false := rfl
@[simp] theorem nn_tP {l : List (Int × Int)} : (tP l).isNon = false := rfl
end Fx
namespace Fx
end Fx
namespace Fx
open PySem (Operator CmpOp)
section
variable {g : G} {Φ : Fn} {ρ : Env} {c : Nat} {d : D}
/-! ### an error passes -/
@[simp] theorem x_ck2 {x : D} : consK2 x (.exc c d ρ) = .exc c d ρ := rfl
@[simp] theorem x_tk : tupK (.exc c d ρ) = .exc c d ρ := rfl
@[simp] theorem x_lk : lstK (.exc c d ρ) = .exc c d ρ := rfl
@[simp] theorem x_ak2 {a : Ar} : argsK2 a (.exc c d ρ) = .exc c d ρ := rfl
@[simp] theorem x_bk {op : Operator} {b : IE} : binK g Φ op b (.exc c d ρ) = .exc c d ρ := rfl
@[simp] theorem x_bk2 {op : Operator} {a : Ar} : binK2 g op a (.exc c d ρ) = .exc c d ρ := rfl
@[simp] theorem x_cmk {op : CmpOp} {b : IE} : cmpK g Φ op b (.exc c d ρ) = .exc c d ρ := rfl
@[simp] theorem x_cmk2 {op : CmpOp} {a : Ar} : cmpK2 g op a (.exc c d ρ) = .exc c d ρ := rfl
@[simp] theorem x_ntk : notK (.exc c d ρ) = .exc c d ρ := rfl
@[simp] theorem x_bpk {k : Bool} {es : IEs} : bopK g Φ k es (.exc c d ρ) = .exc c d ρ := rfl
@[simp] theorem x_ik {a b : IE} : iteK g Φ a b (.exc c d ρ) = .exc c d ρ := rfl
@[simp] theorem x_eqk {b : IE} : eqoK g Φ b (.exc c d ρ) = .exc c d ρ := rfl
@[simp] theorem x_eqk2 {x : D} : eqoK2 g Φ x (.exc c d ρ) = .exc c d ρ := rfl
@[simp] theorem x_ixk {b : IE} : ixK g Φ b (.exc c d ρ) = .exc c d ρ := rfl
@[simp] theorem x_ixk2 {a : Ar} : ixK2 g a (.exc c d ρ) = .exc c d ρ := rfl
@[simp] theorem x_atk {f : Nat} : atK g f (.exc c d ρ) = .exc c d ρ := rfl
@[simp] theorem x_cbk {b : BF} : cbK g b (.exc c d ρ) = .exc c d ρ := rfl
@[simp] theorem x_isk {t : IsT} : isK g t (.exc c d ρ) = .exc c d ρ := rfl
@[simp] theorem x_seqk : seqK (.exc c d ρ) = .exc c d ρ := rfl
@[simp] theorem x_raik {k : Nat} : raiK k (.exc c d ρ) = .exc c d ρ := rfl
end
end Fx
end
section
set_option linter.all false
set_option Elab.async false
set_option maxRecDepth 100000
set_option maxHeartbeats 1000000
/-! Any small data: cuts or none; what is spoilt. -/
namespace Fx
open PySem (Operator CmpOp)
/-- small data, nested no deeper than n -/
def D.sm : Nat → D → Bool
  | _, .non => true
  | _, .bl _ => true
  | _, .int i => decide (i.natAbs < 18446744073709551616)
  | _, .str _ => true
  | n + 1, .tup ds => decide (ds.length ≤ 4000000) && ds.all (D.sm n)
  | n + 1, .lst ds => decide (ds.length ≤ 4000000) && ds.all (D.sm n)
  | _, _ => false
/-! ### raw rows -/
section
variable {g : G} {Φ : Fn} {ρ : Env}
end
end Fx
namespace Fx
/-- what is handed back: a datum, or a list that is owned -/
def ownR (d : D) : R := match d with
  | .lst ds => .lst ds
  | d => .val d
@[simp] theorem own_toD {g : G} {d : D} {ρ : Env} : toD g (.ok (ownR d) ρ) = .ok d ρ := by cases d <;> rfl
end Fx
namespace Fx
open PySem (Operator CmpOp)
@[simp] theorem e_catTI {a : List D} {b : List Int} : binD .Add (.tup a) (tI b) = if a.length + b.length ≤ 16777216 then some (.val (.tup (a ++ b.map .int))) else none := by
  show (if a.length + (b.map D.int).length ≤ 16777216 then some (R.val (.tup (a ++ b.map D.int))) else none) = _
  rw [List.length_map]
@[simp] theorem e_catIT {a : List Int} {b : List D} : binD .Add (tI a) (.tup b) = if a.length + b.length ≤ 16777216 then some (.val (.tup (a.map .int ++ b))) else none := by
  show (if (a.map D.int).length + b.length ≤ 16777216 then some (R.val (.tup (a.map D.int ++ b))) else none) = _
  rw [List.length_map]
@[simp] theorem e_catTII {a : List D} {b : List (List Int)} : binD .Add (.tup a) (tII b) = if a.length + b.length ≤ 16777216 then some (.val (.tup (a ++ b.map tI))) else none := by
  show (if a.length + (b.map tI).length ≤ 16777216 then some (R.val (.tup (a ++ b.map tI))) else none) = _
  rw [List.length_map]
@[simp] theorem e_catIIT {a : List (List Int)} {b : List D} : binD .Add (tII a) (.tup b) = if a.length + b.length ≤ 16777216 then some (.val (.tup (a.map tI ++ b))) else none := by
  show (if (a.map tI).length + b.length ≤ 16777216 then some (R.val (.tup (a.map tI ++ b))) else none) = _
  rw [List.length_map]
end Fx
end
section
set_option linter.all false
set_option Elab.async false
set_option maxRecDepth 100000
set_option maxHeartbeats 1000000
/-! Slices; sorted ints; stacks with a depth more: plain. -/
namespace Fx
open PySem (Operator CmpOp)
theorem cut_to {α : Type} {f : α → D} {l : List α} {c : Int} (h0 : 0 ≤ c) : cutD (l.map f) none (some c) = (l.take c.toNat).map f := by
  obtain ⟨k, rfl⟩ : ∃ k : Nat, c = k := ⟨c.toNat, by omega⟩
  unfold cutD
  rw [HT.sIx_none, HT.sIx_nat, List.drop_zero, Nat.sub_zero, Int.toNat_natCast, List.length_map, ← List.map_take]
  congr 1
  by_cases h : k ≤ l.length
  · rw [Nat.min_eq_left h]
  · rw [Nat.min_eq_right (by omega), List.take_of_length_le (Nat.le_refl _), List.take_of_length_le (by omega)]
theorem cut_from {α : Type} {f : α → D} {l : List α} {c : Int} (h0 : 0 ≤ c) : cutD (l.map f) (some c) none = (l.drop c.toNat).map f := by
  obtain ⟨k, rfl⟩ : ∃ k : Nat, c = k := ⟨c.toNat, by omega⟩
  unfold cutD
  rw [HT.sIx_none, HT.sIx_nat, Int.toNat_natCast, List.length_map, ← List.map_drop, ← List.map_take]
  congr 1
  by_cases h : k ≤ l.length
  · rw [Nat.min_eq_left h, List.take_of_length_le (by rw [List.length_drop]; omega)]
  · rw [Nat.min_eq_right (by omega), List.drop_of_length_le (Nat.le_refl _), List.drop_of_length_le (by omega), List.take_nil]
theorem cut_neg1 {α : Type} {f : α → D} {l : List α} : cutD (l.map f) none (some (-1)) = l.dropLast.map f := by
  unfold cutD
  have e : HT.sIx (l.map f).length (l.map f).length (some (-1)) = l.length - 1 := by
    simp only [HT.sIx, List.length_map]
    rw [if_pos (by decide)]
    omega
  rw [HT.sIx_none, e, List.drop_zero, Nat.sub_zero, ← List.map_take, List.dropLast_eq_take]
@[simp] theorem e_slIto {l : List Int} {c : Int} (h : 0 ≤ c) : slcD (tI l) none (some c) = some (.val (tI (l.take c.toNat))) := by
  show some (R.val (.tup (cutD _ _ _))) = _; rw [cut_to h]; rfl
@[simp] theorem e_slIfrom {l : List Int} {c : Int} (h : 0 ≤ c) : slcD (tI l) (some c) none = some (.val (tI (l.drop c.toNat))) := by
  show some (R.val (.tup (cutD _ _ _))) = _; rw [cut_from h]; rfl
@[simp] theorem e_slIIto {l : List (List Int)} {c : Int} (h : 0 ≤ c) : slcD (tII l) none (some c) = some (.val (tII (l.take c.toNat))) := by
  show some (R.val (.tup (cutD _ _ _))) = _; rw [cut_to h]; rfl
@[simp] theorem e_slIIfrom {l : List (List Int)} {c : Int} (h : 0 ≤ c) : slcD (tII l) (some c) none = some (.val (tII (l.drop c.toNat))) := by
  show some (R.val (.tup (cutD _ _ _))) = _; rw [cut_from h]; rfl
@[simp] theorem e_slII1 {l : List (List Int)} : slcD (tII l) none (some (-1)) = some (.val (tII l.dropLast)) := by
  show some (R.val (.tup (cutD _ _ _))) = _; rw [cut_neg1]; rfl
end Fx
end
section
set_option linter.all false
set_option Elab.async false
set_option maxRecDepth 100000
set_option maxHeartbeats 1000000
/-! Sorted rows of tuples of ints; subsets; what can be made: plain. -/
namespace Fx
open PySem (Operator CmpOp)
section
variable {g : G} {Φ : Fn} {ρ : Env}
@[simp] theorem e_starI {es : IEs} {xs : List Int} : starK g Φ es (.ok (tI xs) ρ) = star2 (xs.map .int) (evDs g Φ es ρ) := rfl
@[simp] theorem e_starII {es : IEs} {xs : List (List Int)} : starK g Φ es (.ok (tII xs) ρ) = star2 (xs.map tI) (evDs g Φ es ρ) := rfl
@[simp] theorem e_enumI {xs : List Int} : enumK (.ok (tI xs) ρ) = .ok (enumD (xs.map .int)) ρ := rfl
@[simp] theorem e_enumII {xs : List (List Int)} : enumK (.ok (tII xs) ρ) = .ok (enumD (xs.map tI)) ρ := rfl
end
end Fx
end
section
set_option linter.all false
set_option Elab.async false
set_option maxRecDepth 100000
set_option maxHeartbeats 1000000
/-! An object lent as the second argument. -/
namespace Fx
section
variable {g : G} {Φ : Fn} {ρ : Env} {o : Bool} {i c f : Nat} {ds : List D}
def outB (i : Nat) (os : Env) (ρ : Env) : Env := match os with
  | _ :: y :: _ => ρ.set i y
  | _ => ρ.set i none
def backP (o : Bool) (i : Nat) (x : FRes) (ρ : Env) : Res R := if o = true then (match x with
  | .ok r os => .ok r (outB i os ρ)
  | .exc k d os => .exc k d (outB i os ρ)
  | .stuck => .stuck) else x.v.res ρ
theorem ob2_call (h : ρ.at i = some (obR o c ds)) (a : R) (rs : List R) : callR Φ f (.v a :: obA o i c ds :: rs.map Ar.v) ρ = backP o i (Φ f (a :: obR o c ds :: rs)) ρ := by
  cases o with
  | false => exact call_vs (a :: R.val (.ins c ds) :: rs)
  | true =>
    show callR Φ f (.v a :: .b i :: rs.map Ar.v) ρ = _
    unfold callR
    have e : hand (.v a :: .b i :: rs.map Ar.v) ρ = some (a :: obR true c ds :: rs, ρ.set i none) := by
      have e1 : hand (.b i :: rs.map Ar.v) ρ = match ρ.at i with
        | some r => (hand (rs.map Ar.v) (ρ.set i none)).map fun p => (r :: p.1, p.2)
        | none => none := rfl
      have e2 : hand (.v a :: .b i :: rs.map Ar.v) ρ = (hand (.b i :: rs.map Ar.v) ρ).map fun p => (a :: p.1, p.2) := rfl
      rw [e2, e1, h]
      dsimp only
      rw [hand_vs]; rfl
    rw [e]
    dsimp only
    have gv : ∀ outs : Env, giveB (.v a :: .b i :: rs.map Ar.v) outs (ρ.set i none) = outB i outs ρ := fun outs => by
      cases outs with
      | nil => rfl
      | cons x os =>
        cases os with
        | nil => rfl
        | cons y os =>
          show (giveB (rs.map Ar.v) os (ρ.set i none)).set i y = _
          rw [give_vs, List.set_set]; rfl
    unfold backP
    rw [if_pos rfl]
    cases Φ f (a :: obR true c ds :: rs) with
    | ok r os => show Res.ok r (giveB _ _ _) = _; rw [gv]
    | exc k d os => show Res.exc k d (giveB _ _ _) = _; rw [gv]
    | stuck => rfl
@[simp] theorem ob2_call2 {a : R} (h : ρ.at i = some (obR o c ds)) : callR Φ f [.v a, obA o i c ds] ρ = backP o i (Φ f [a, obR o c ds]) ρ := ob2_call h a []
@[simp] theorem ob2_call3 {a b : R} (h : ρ.at i = some (obR o c ds)) : callR Φ f [.v a, obA o i c ds, .v b] ρ = backP o i (Φ f [a, obR o c ds, b]) ρ := ob2_call h a [b]
@[simp] theorem ob2_call4 {a b d : R} (h : ρ.at i = some (obR o c ds)) : callR Φ f [.v a, obA o i c ds, .v b, .v d] ρ = backP o i (Φ f [a, obR o c ds, b, d]) ρ := ob2_call h a [b, d]
@[simp] theorem ob2_call5 {a b d e : R} (h : ρ.at i = some (obR o c ds)) : callR Φ f [.v a, obA o i c ds, .v b, .v d, .v e] ρ = backP o i (Φ f [a, obR o c ds, b, d, e]) ρ := ob2_call h a [b, d, e]
@[simp] theorem ob2_back {x : R} {y : Option R} {os : Env} (h : ρ.at i = some (obR o c ds)) : backP o i (.ok x (y :: some (obR o c ds) :: os)) ρ = .ok x ρ := by
  cases o with
  | false => rfl
  | true =>
    show Res.ok x (ρ.set i (some (obR true c ds))) = _
    rw [← h, set_atE (at_lt h)]
@[simp] theorem ob2_backx {k : Nat} {d : D} {y : Option R} {os : Env} (h : ρ.at i = some (obR o c ds)) : backP o i (.exc k d (y :: some (obR o c ds) :: os)) ρ = .exc k d ρ := by
  cases o with
  | false => rfl
  | true =>
    show Res.exc k d (ρ.set i (some (obR true c ds))) = _
    rw [← h, set_atE (at_lt h)]
@[simp] theorem ob_toD (hl : ds.length = (g.flds c).length) : toD g (.ok (obR o c ds) ρ) = .ok (.ins c ds) ρ := by
  show optR (fullD g.flds (obR o c ds)) ρ = _
  rw [ob_full hl]; rfl
end
end Fx
end
section
set_option linter.all false
set_option Elab.async false
set_option maxRecDepth 100000
set_option maxHeartbeats 1000000
/-! A lock more, a key more: plain. -/
namespace Fx
@[simp] theorem t_appI {l : List Int} {x : Int} : D.tup (l.map .int ++ [.int x]) = tI (l ++ [x]) := by rw [← t_int, List.map_append]; rfl
@[simp] theorem t_appII {l : List (List Int)} {x : List Int} : D.tup (l.map tI ++ [tI x]) = tII (l ++ [x]) := by rw [← t_tI, List.map_append]; rfl
/-- a cut of k chambers -/
structure CutOk (k : Nat) (d : Int) (c : List Int) : Prop where
  len : c.length = k
  inn : ∀ x ∈ c, 0 ≤ x ∧ x < d
end Fx
end
section
set_option linter.all false
set_option Elab.async false
set_option maxRecDepth 100000
set_option maxHeartbeats 1000000
/-! Tables with rows less or twice; a tuple of one, many times. -/
namespace Fx
@[simp] theorem e_repB {x : Bool} {k : Int} (h : 1 ≤ k ∧ k ≤ 1000) : binD .Mult (.tup [.bl x]) (.int k) = some (.val (.tup ((List.replicate k.toNat x).map .bl))) := by
  rw [o_repT h, List.map_replicate]
theorem eqD_refl {v : D} (h1 : v.plain = true) (h2 : v.dle 12 = true) : eqD v v = some true := by
  rw [eqD_of h1 h1 (by rw [h2]; rfl), eqv_refl h1]
/-! an instance is made, an object lent first -/
section
variable {g : G} {Φ : Fn} {ini : Nat → Nat} {ρ : Env} {o : Bool} {i c C : Nat} {ds : List D}
def outM (o : Bool) (i : Nat) (os ρ : Env) : Env := if o = true then (match os with
  | y :: _ => ρ.set i y
  | [] => ρ.set i none) else ρ
def mkB (o : Bool) (i : Nat) (x : FRes) (ρ : Env) : Res R := match x with
  | .ok (.val .non) (some r :: os) => .ok r (outM o i os ρ)
  | .exc k d (_ :: os) => .exc k d (outM o i os ρ)
  | _ => .stuck
theorem mk_at {as : List Ar} {rs : List R} {ρ' : Env} (e : hand as ρ = some (rs, ρ')) (gv : ∀ os : Env, giveB as os ρ' = outM o i os ρ) : makeR Φ ini C as ρ = mkB o i (Φ (ini C) (.obj C [] :: rs)) ρ := by
  unfold makeR
  rw [e]
  dsimp only
  generalize Φ (ini C) (.obj C [] :: rs) = x
  cases x with
  | stuck => rfl
  | exc k d os =>
    cases os with
    | nil => rfl
    | cons y os => show Res.exc k d (giveB as os ρ') = _; rw [gv]; rfl
  | ok r os =>
    cases r with
    | val d =>
      cases d with
      | non =>
        cases os with
        | nil => rfl
        | cons y os =>
          cases y with
          | none => rfl
          | some r => show Res.ok r (giveB as os ρ') = _; rw [gv]; rfl
      | _ => rfl
    | _ => rfl
@[simp] theorem ob_mk3 {a b : R} (h : ρ.at i = some (obR o c ds)) : makeR Φ ini C [obA o i c ds, .v a, .v b] ρ = mkB o i (Φ (ini C) [.obj C [], obR o c ds, a, b]) ρ := by
  cases o with
  | false => exact mk_at (hand_vs [.val (.ins c ds), a, b]) fun os => give_vs [.val (.ins c ds), a, b] os
  | true =>
    refine mk_at (o := true) (i := i) (as := [.b i, .v a, .v b]) (rs := [obR true c ds, a, b]) (ρ' := ρ.set i none) ?_ fun os => ?_
    · have e1 : hand [.b i, .v a, .v b] ρ = match ρ.at i with
        | some r => (hand ([a, b].map Ar.v) (ρ.set i none)).map fun p => (r :: p.1, p.2)
        | none => none := rfl
      rw [e1, h]
      dsimp only
      rw [hand_vs]; rfl
    · cases os with
      | nil => rfl
      | cons y os =>
        show (giveB ([a, b].map Ar.v) os (ρ.set i none)).set i y = ρ.set i y
        rw [give_vs, List.set_set]
/-! two owned values lent -/
def backBB (i j : Nat) (x : FRes) (ρ : Env) : Res R := match x with
  | .ok r os => .ok r (giveB [.b i, .b j] os ((ρ.set i none).set j none))
  | .exc k d os => .exc k d (giveB [.b i, .b j] os ((ρ.set i none).set j none))
  | .stuck => .stuck
@[simp] theorem bb_call {f j : Nat} {r1 r2 : R} (hi : ρ.at i = some r1) (hj : ρ.at j = some r2) (ne : i ≠ j) : callR Φ f [.b i, .b j] ρ = backBB i j (Φ f [r1, r2]) ρ := by
  have e1 : hand [.b i, .b j] ρ = match ρ.at i with
    | some r => (hand [.b j] (ρ.set i none)).map fun p => (r :: p.1, p.2)
    | none => none := rfl
  have e2 : hand [.b j] (ρ.set i none) = match Env.at (ρ.set i none) j with
    | some r => (hand [] ((ρ.set i none).set j none)).map fun p => (r :: p.1, p.2)
    | none => none := rfl
  have e : hand [.b i, .b j] ρ = some ([r1, r2], (ρ.set i none).set j none) := by
    rw [e1, hi]
    dsimp only
    rw [e2, at_set ne, hj]
    rfl
  unfold callR
  rw [e]
  rfl
@[simp] theorem bb_back {j : Nat} {r : R} {a b : Option R} {os : Env} (ne : i ≠ j) : backBB i j (.ok r (a :: b :: os)) ρ = .ok r ((ρ.set i a).set j b) := by
  have e : giveB [.b i, .b j] (a :: b :: os) ((ρ.set i none).set j none) = (((ρ.set i none).set j none).set j b).set i a := rfl
  show Res.ok r (giveB [.b i, .b j] (a :: b :: os) ((ρ.set i none).set j none)) = _
  rw [e, List.set_set, List.set_comm _ _ ne, List.set_set, List.set_comm _ _ (Ne.symm ne)]
@[simp] theorem mkb_ok {r : R} {os : Env} (h : ρ.at i = some (obR o c ds)) : mkB o i (.ok (.val .non) (some r :: some (obR false c ds) :: os)) ρ = .ok r (ρ.set i (some (obR false c ds))) := by
  cases o with
  | true => rfl
  | false =>
    show Res.ok r ρ = _
    rw [← h, set_atE (at_lt h)]
@[simp] theorem mkb_ex {k : Nat} {d : D} {x : Option R} {os : Env} (h : ρ.at i = some (obR o c ds)) : mkB o i (.exc k d (x :: some (obR o c ds) :: os)) ρ = .exc k d ρ := by
  cases o with
  | false => rfl
  | true =>
    show Res.exc k d (ρ.set i (some (obR true c ds))) = _
    rw [← h, set_atE (at_lt h)]
end
end Fx
end
section
set_option linter.all false
set_option Elab.async false
set_option maxRecDepth 100000
set_option maxHeartbeats 1000000
/-! Masks: sets of outs as numbers. -/
namespace Fx
open PySem
/-! ### bits -/
def maskB : List Bool → Nat
  | [] => 0
  | b :: bs => b.toNat + 2 * maskB bs
/-! ### masks of sets of outs -/
def mk (O : List (Int × Int)) (S : Int × Int → Bool) : Nat := maskB (O.map S)
/-- a list of outs as a mask -/
def mkL (O l : List (Int × Int)) : Nat := mk O fun q => decide (q ∈ l)
/-! ### the operators -/
@[simp] theorem o_and {a b : Nat} : binD .BitAnd (.int (a : Int)) (.int (b : Int)) = some (.val (.int ((a &&& b : Nat) : Int))) := by
  show some (R.val (.int (Builtin.bitAnd (a : Int) (b : Int)))) = _
  unfold Builtin.bitAnd
  rw [decide_eq_true (Int.natCast_nonneg a), decide_eq_true (Int.natCast_nonneg b)]
  rfl
@[simp] theorem o_shl1 {k : Nat} (h : k ≤ 1000) : binD .LShift (.int 1) (.int (k : Int)) = some (.val (.int ((2 ^ k : Nat) : Int))) := by
  show (if 0 ≤ (k : Int) ∧ (k : Int) ≤ 1000 ∧ (1 : Int).natAbs < 18446744073709551616 then some (R.val (.int (1 * 2 ^ (k : Int).toNat))) else none) = _
  rw [if_pos ⟨by omega, by omega, by decide⟩, Int.one_mul, Int.toNat_natCast]
  simp
end Fx
end
section
set_option linter.all false
set_option Elab.async false
set_option maxRecDepth 100000
set_option maxHeartbeats 1000000
/-! What partings keep out: the greatest sets, as the program has them. -/
namespace Fx
/-- the greatest ones -/
def greatL (T : Tab) (d : Int) (b : Bool) : List Ent := (seenL T b (partsL d false T.1.toNat)).filter fun e => topB ((seenL T b (partsL d false T.1.toNat)).map (·.1)) e.1
structure GreatOk (T : Tab) (d : Int) (b : Bool) (gs : List Ent) : Prop where
  len : gs.length ≤ 1024
  is : ∀ e ∈ gs, e.1 = keptL T e.2 b ∧ e.2 ∈ partsL d false T.1.toNat
  dom : ∀ p ∈ partsL d false T.1.toNat, ∃ e ∈ gs, ∀ q ∈ keptL T p b, q ∈ e.1
/-- the law's partings are some of all -/
theorem parts_all {d : Int} {b : Bool} : ∀ {n : Nat} {p : List Int}, p ∈ partsL d b n → p ∈ partsL d false n := by
  intro n
  induction n with
  | zero => intro p hp; exact hp
  | succ n ih =>
    intro p hp
    have hp : p ∈ (partsL d b n).flatMap (growP d b) := hp
    rw [List.mem_flatMap] at hp
    obtain ⟨r, hr, hg⟩ := hp
    show _ ∈ (partsL d false n).flatMap (growP d false)
    rw [List.mem_flatMap]
    refine ⟨r, ih hr, ?_⟩
    unfold growP at hg ⊢
    rw [List.mem_map] at hg ⊢
    obtain ⟨t, ht, e⟩ := hg
    rw [mem_irange] at ht
    have := top_le (d := d) (b := b) (row := r)
    refine ⟨t, mem_irange.mpr ⟨ht.1, ?_⟩, e⟩
    have e2 : topP d false r = d := rfl
    rw [e2]; omega
end Fx
end
section
set_option linter.all false
set_option Elab.async false
set_option maxRecDepth 100000
set_option maxHeartbeats 1000000
/-! Dicts whose keys are ints. -/
namespace Fx
section
variable {α : Type} {f : α → Int} {h : α → D} {l : List α} {m : Int}
@[simp] theorem ints_all : (l.map fun x => D.int (f x)).all D.isInt = true := by
  rw [List.all_map, List.all_eq_true]
  intro x _; rfl
@[simp] theorem ints_all' {ns : List Int} : (ns.map D.int).all D.isInt = true := by
  rw [List.all_map, List.all_eq_true]
  intro x _; rfl
@[simp] theorem key_int : keyOk (l.map fun x => D.int (f x)) (.int m) = true := by
  unfold keyOk
  rw [ints_all]; rfl
@[simp] theorem key_int' {ns : List Int} : keyOk (ns.map D.int) (.int m) = true := by
  unfold keyOk
  rw [ints_all']; rfl
end
@[simp] theorem e_enumP {xs : List (Int × Int)} {ρ : Env} : enumK (.ok (tP xs) ρ) = .ok (enumD (xs.map pr)) ρ := rfl
@[simp] theorem isInt_int {i : Int} : D.isInt (.int i) = true := rfl
end Fx
end
section
set_option linter.all false
set_option Elab.async false
set_option maxRecDepth 100000
set_option maxHeartbeats 1000000
/-! Loops that look at each member and may end early. -/
namespace Fx
section
variable {g : G} {Φ : Fn} {ρ : Env} {α : Type}
theorem forE_step {tg : Tg} {body : ISs} {d : D} {ds : List D} {ρ ρ1 : Env} (e1 : setTg tg d ρ = some ρ1) : forE g Φ tg body (d :: ds) ρ = match evSs g Φ body ρ1 with
    | .nx ρ2 => forE g Φ tg body ds ρ2
    | .ct ρ2 => forE g Φ tg body ds ρ2
    | .bk ρ2 => .nx ρ2
    | x => x := by
  unfold forE
  show (match setTg tg d ρ with
    | none => SRes.stuck
    | some ρ1 => match evSs g Φ body ρ1 with
      | .nx ρ2 => forF tg (fun ρ => evSs g Φ body ρ) ds ρ2
      | .ct ρ2 => forF tg (fun ρ => evSs g Φ body ρ) ds ρ2
      | .bk ρ2 => .nx ρ2
      | x => x) = _
  rw [e1]
/-- each member is looked at; at the first that is not right the value v is returned -/
theorem for_chk {J : Type} {tg : Tg} {body : ISs} {f : α → D} (E : J → Env) (P : α → Bool) (v : R) : ∀ {xs : List α} {j : J},
    (∀ x ∈ xs, ∀ j, ∃ ρ1 j', setTg tg (f x) (E j) = some ρ1 ∧ evSs g Φ body ρ1 = (if P x = true then .nx (E j') else .rt v (E j'))) →
    ∃ j', forE g Φ tg body (xs.map f) (E j) = (if xs.all P = true then .nx (E j') else .rt v (E j'))
  | [], j, _ => ⟨j, rfl⟩
  | x :: xs, j, h => by
    obtain ⟨ρ1, j1, e1, e2⟩ := h x (by simp) j
    rw [List.map_cons, forE_step e1, e2, List.all_cons]
    cases hp : P x with
    | true =>
      obtain ⟨j2, k⟩ := for_chk E P v (xs := xs) (j := j1) fun y hy => h y (List.mem_cons_of_mem _ hy)
      exact ⟨j2, by rw [if_pos rfl, Bool.true_and]; exact k⟩
    | false => exact ⟨j1, by rw [if_neg (by simp), Bool.false_and, if_neg (by simp)]⟩
end
end Fx
end
section
set_option linter.all false
set_option Elab.async false
set_option maxRecDepth 100000
set_option maxHeartbeats 1000000
/-! Rows of lots: sorted, kept in dicts. -/
namespace Fx
end Fx
namespace Fx
@[simp] theorem mkb_same {o : Bool} {i c : Nat} {ds : List D} {r : R} {os ρ : Env} (h : ρ.at i = some (obR o c ds)) : mkB o i (.ok (.val .non) (some r :: some (obR o c ds) :: os)) ρ = .ok r ρ := by
  show Res.ok r (outM o i (some (obR o c ds) :: os) ρ) = _
  unfold outM
  cases o with
  | true =>
    rw [if_pos rfl]
    show Res.ok r (ρ.set i (some (obR true c ds))) = _
    rw [← h, set_any]
  | false => rfl
end Fx
namespace Fx
section
variable {g : G} {Φ : Fn} {ρ : Env} {α : Type}
end
def restK (l k : List (Int × Int)) : List (Int × Int) := l.filter fun q => !decide (q ∈ k)
end Fx
namespace Fx
/-! ### long bodies in parts -/
def takeS : Nat → ISs → ISs
  | 0, _ => .nil
  | _ + 1, .nil => .nil
  | n + 1, .cons s ss => .cons s (takeS n ss)
def dropS : Nat → ISs → ISs
  | 0, ss => ss
  | _ + 1, .nil => .nil
  | n + 1, .cons _ ss => dropS n ss
@[simp] theorem takeS_s {n : Nat} {s : IS} {ss : ISs} : takeS (n + 1) (.cons s ss) = .cons s (takeS n ss) := rfl
@[simp] theorem takeS_0 {ss : ISs} : takeS 0 ss = .nil := rfl
@[simp] theorem dropS_s {n : Nat} {s : IS} {ss : ISs} : dropS (n + 1) (.cons s ss) = dropS n ss := rfl
@[simp] theorem dropS_0 {ss : ISs} : dropS 0 ss = ss := rfl
end Fx
end
section
set_option linter.all false
set_option Elab.async false
set_option maxRecDepth 100000
set_option maxHeartbeats 1000000
/-! Covers: how many partings keep out a lot; masks of lots; what a cover has found. -/
namespace Fx
open PySem
/-- so many partings at most keep out all of a lot -/
def Cv (T : Tab) (d : Int) (b : Bool) (m : Nat) (l : List (Int × Int)) : Prop := ∃ ps : List (List Int), ps.length ≤ m ∧ (∀ p ∈ ps, p ∈ partsL d false T.1.toNat) ∧ ∀ q ∈ l, ∃ p ∈ ps, q ∈ keptL T p b
variable {T : Tab} {d : Int} {b : Bool} {m : Nat} {l k : List (Int × Int)}
theorem cv_nil : Cv T d b m [] := ⟨[], Nat.zero_le _, by simp, by simp⟩
theorem cv_mono {m' : Nat} (h : Cv T d b m l) (hm : m ≤ m') : Cv T d b m' l := by
  obtain ⟨ps, h1, h2, h3⟩ := h
  exact ⟨ps, by omega, h2, h3⟩
theorem restK_mem {q : Int × Int} : q ∈ restK l k ↔ q ∈ l ∧ q ∉ k := by
  unfold restK
  rw [List.mem_filter]
  simp
/-- what partings_for tells of a lot -/
def OkV (T : Tab) (d : Int) (b : Bool) (m : Nat) (l : List (Int × Int)) (v : D) : Prop :=
  (v = .non ∧ ¬ Cv T d b m l) ∨ ∃ ps : List (List Int), v = tII ps ∧ ps.length ≤ m ∧ (∀ p ∈ ps, p ∈ partsL d false T.1.toNat) ∧ ∀ q ∈ l, ∃ p ∈ ps, q ∈ keptL T p b
theorem OkV.cons {ps : List (List Int)} {e : Ent} {gs : List Ent} (hg : GreatOk T d b gs) (he : e ∈ gs) (h : OkV T d b m (restK l e.1) (tII ps)) : OkV T d b (m + 1) l (tII (e.2 :: ps)) := by
  rcases h with ⟨h, _⟩ | ⟨ps', e1, h1, h2, h3⟩
  · cases h
  · have : ps = ps' := by
      have e1 : D.tup (ps.map tI) = D.tup (ps'.map tI) := e1
      have e2 := D.tup.inj e1
      have inj : ∀ {a b : List (List Int)}, a.map tI = b.map tI → a = b := by
        intro a
        induction a with
        | nil => intro b hb; cases b with
          | nil => rfl
          | cons _ _ => cases hb
        | cons x a ih => intro b hb; cases b with
          | nil => cases hb
          | cons y b =>
            rw [List.map_cons, List.map_cons] at hb
            have h1 := (List.cons.inj hb).1
            have h2 := D.tup.inj h1
            have h3 : ∀ {u w : List Int}, u.map D.int = w.map D.int → u = w := by
              intro u
              induction u with
              | nil => intro w hw; cases w with
                | nil => rfl
                | cons _ _ => cases hw
              | cons x u ih => intro w hw; cases w with
                | nil => cases hw
                | cons y w =>
                  rw [List.map_cons, List.map_cons] at hw
                  rw [D.int.inj (List.cons.inj hw).1, ih (List.cons.inj hw).2]
            rw [h3 h2, ih (List.cons.inj hb).2]
      exact inj e2
    subst this
    refine .inr ⟨e.2 :: ps, rfl, by rw [List.length_cons]; omega, fun p hp => ?_, fun q hq => ?_⟩
    · rcases List.mem_cons.mp hp with rfl | hp
      · exact (hg.is e he).2
      · exact h2 p hp
    · by_cases hk : q ∈ e.1
      · exact ⟨e.2, by simp, by rw [← (hg.is e he).1]; exact hk⟩
      · obtain ⟨p, hp, hh⟩ := h3 q (restK_mem.mpr ⟨hq, hk⟩)
        exact ⟨p, List.mem_cons_of_mem _ hp, hh⟩
theorem OkV.non (h : OkV T d b m l .non) : ¬ Cv T d b m l := by
  rcases h with ⟨_, h⟩ | ⟨ps, e, _⟩
  · exact h
  · cases e
theorem OkV.tup (h : OkV T d b m l (.tup ds)) : Cv T d b m l := by
  rcases h with ⟨e, _⟩ | ⟨ps, e, h⟩
  · cases e
  · exact ⟨ps, h⟩
theorem OkV.cases {v : D} (h : OkV T d b m l v) : v = .non ∨ ∃ ps : List (List Int), v = tII ps ∧ ps.length ≤ m := by
  rcases h with ⟨e, _⟩ | ⟨ps, e, h, _⟩
  · exact .inl e
  · exact .inr ⟨ps, e, h⟩
/-! ### what a cover has found -/
abbrev KE := (List (Int × Int) × Nat) × D
def keyK (O : List (Int × Int)) (x : List (Int × Int) × Nat) : D := .tup [.int ((mkL O x.1 : Nat) : Int), .int x.2]
@[simp] theorem tk_K {O : List (Int × Int)} {x : List (Int × Int) × Nat} : (keyK O x).isTK = true := rfl
structure KOk (T : Tab) (d : Int) (b : Bool) (es : List KE) : Prop where
  nd : (es.map (·.1)).Nodup
  ok : ∀ e ∈ es, e.1.1.Sublist (outsL T) ∧ e.1.2 ≤ 5 ∧ OkV T d b e.1.2 e.1.1 e.2
theorem KOk.nil : KOk T d b [] := ⟨List.nodup_nil, by simp⟩
theorem KOk.sub {es : List KE} (h : KOk T d b es) : ∀ y ∈ es.map (·.1), y.1.Sublist (outsL T) := fun y hy => by
  rw [List.mem_map] at hy
  obtain ⟨e, he, rfl⟩ := hy
  exact (h.ok e he).1
theorem KOk.len {es : List KE} (hT : TOk T) (h : KOk T d b es) : es.length < 16777216 := by
  have key := nodup_len h.nd (m := (pw (outsL T)).flatMap fun l => (List.range 6).map fun m => (l, m)) (fun x hx => by
    rw [List.mem_map] at hx
    obtain ⟨e, he, rfl⟩ := hx
    have := h.ok e he
    rw [List.mem_flatMap]
    exact ⟨e.1.1, sub_pw this.1, List.mem_map.mpr ⟨e.1.2, List.mem_range.mpr (by omega), rfl⟩⟩)
  have e1 : ∀ L : List (List (Int × Int)), (L.flatMap fun l => (List.range 6).map fun m => (l, m)).length = 6 * L.length := by
    intro L
    induction L with
    | nil => rfl
    | cons x L ih => rw [List.flatMap_cons, List.length_append, ih]; simp; omega
  rw [e1, List.length_map] at key
  have h2 := outs_20 hT
  have h3 : 2 ^ (outsL T).length ≤ 2 ^ 20 := Nat.pow_le_pow_right (by omega) h2
  have h4 : (pw (outsL T)).length = 2 ^ (outsL T).length := by
    have : ∀ L : List (Int × Int), (pw L).length = 2 ^ L.length := by
      intro L
      induction L with
      | nil => rfl
      | cons x L ih => simp [pw, ih, Nat.pow_succ]; omega
    exact this _
  omega
end Fx
end
section
set_option linter.all false
set_option Elab.async false
set_option maxRecDepth 100000
set_option maxHeartbeats 1000000
/-! The least number of partings that keep out all outs. -/
namespace Fx
variable {T : Tab} {d : Int} {b : Bool}
/-- k is the least number from 1 on -/
structure Least (T : Tab) (d : Int) (b : Bool) (k : Nat) : Prop where
  k1 : 1 ≤ k
  km : (k : Int) ≤ T.1
  cv : Cv T d b k (outsL T)
  no : ∀ j, 1 ≤ j → j < k → ¬ Cv T d b j (outsL T)
theorem Fine.cv {ps : List (List Int)} (h : Fine T d b ps) : Cv T d b ps.length (outsL T) :=
  ⟨ps, Nat.le_refl _, fun p hp => parts_all (h.inn p hp), fun q hq => by
    obtain ⟨p, hp, e⟩ := h.cov q hq
    exact ⟨p, hp, List.mem_filter.mpr ⟨hq, e⟩⟩⟩
end Fx
end
section
set_option linter.all false
set_option Elab.async false
set_option maxRecDepth 100000
set_option maxHeartbeats 1000000
/-! Master cuts: how many fit (chains of cuts, each below the next). -/
namespace Fx
end Fx
end
section
set_option linter.all false
set_option Elab.async false
set_option maxRecDepth 100000
set_option maxHeartbeats 1000000
/-! Master cuts of any data; their shares. -/
namespace Fx
structure CsOk (k d : Int) (C : List (List Int)) : Prop where
  all : ∀ c ∈ C, (c.length : Int) = k ∧ ∀ v ∈ c, 0 ≤ v ∧ v < d
structure Shr (L : Nat) (p : Nat × Nat) (S : Nat) : Prop where
  pos : 0 < p.2
  eq : p.1 * L = p.2 * S
  co : Nat.Coprime p.1 p.2
theorem Shr.nil {L : Nat} : Shr L (0, 1) 0 := ⟨Nat.one_pos, by simp, by simp⟩
end Fx
end
section
set_option linter.all false
set_option Elab.async false
set_option maxRecDepth 100000
set_option maxHeartbeats 1000000
/-! The table of a master and n locks: as many chambers as greatest tells. -/
namespace Fx
end Fx
end
section
set_option linter.all false
set_option Elab.async false
set_option maxRecDepth 100000
set_option maxHeartbeats 1000000
/-! Walls: bits of masks, lots that so many partings do not keep out. -/
namespace Fx
open PySem
/-- lots, each once, that so many partings do not keep out -/
structure Lots (T : Tab) (d : Int) (b : Bool) (m : Nat) (L : List (List (Int × Int))) : Prop where
  nd : L.Nodup
  ok : ∀ l ∈ L, l.Sublist (outsL T) ∧ ¬ Cv T d b m l
theorem Lots.nil {T : Tab} {d : Int} {b : Bool} {m : Nat} : Lots T d b m [] := ⟨List.nodup_nil, by simp⟩
theorem Lots.len {T : Tab} {d : Int} {b : Bool} {m : Nat} {L : List (List (Int × Int))} (hT : TOk T) (h : Lots T d b m L) : L.length ≤ 1048576 := by
  have h1 := subs_len h.nd fun k hk => (h.ok k hk).1
  have h2 := outs_20 hT
  have h3 : 2 ^ (outsL T).length ≤ 2 ^ 20 := Nat.pow_le_pow_right (by omega) h2
  omega
theorem Lots.ne {T : Tab} {d : Int} {b : Bool} {m : Nat} {L : List (List (Int × Int))} (h : Lots T d b m L) : ∀ l ∈ L, l ≠ [] := fun l hl e => (h.ok l hl).2 (by rw [e]; exact cv_mono cv_nil (Nat.zero_le _))
end Fx
namespace Fx
open PySem
/-- rows of lots, each leading on to the next -/
def leads (gs : List Ent) (R R' : List (List (Int × Int))) : Prop := ∀ l ∈ R, ∀ e ∈ gs, ∃ o ∈ R', ∀ q ∈ o, q ∈ restK l e.1
end Fx
end
section
set_option linter.all false
set_option Elab.async false
set_option maxRecDepth 100000
set_option maxHeartbeats 1000000
/-! Rows of walls: sorted lots, rows that lead on. -/
namespace Fx
open PySem
/-- walls, row by row: the row i is not kept out by K - i partings, and each leads on to the next -/
structure WOk (T : Tab) (d : Int) (b : Bool) (K : Nat) (rows : List (List (List (Int × Int)))) : Prop where
  ne : ix rows 0 ≠ []
  lots : ∀ i : Nat, i < rows.length → Lots T d b (K - i) (ix rows i)
  ld : ∀ i : Nat, i + 1 < rows.length → leads (greatL T d b) (ix rows i) (ix rows ((i + 1 : Nat) : Int))
theorem WOk.one {T : Tab} {d : Int} {b : Bool} {K : Nat} {R : List (List (Int × Int))} (h : Lots T d b K R) (hn : R ≠ []) : WOk T d b K [R] := by
  refine ⟨hn, fun i hi => ?_, fun i hi => ?_⟩
  · have : i = 0 := by simp at hi; exact hi
    subst this
    exact h
  · simp at hi
end Fx
end
section
set_option linter.all false
set_option Elab.async false
set_option maxRecDepth 100000
set_option maxHeartbeats 1000000
/-! Cuts of any data. -/
namespace Fx
open PySem
end Fx
end
section
set_option linter.all false
set_option Elab.async false
set_option maxRecDepth 100000
set_option maxHeartbeats 1000000
/-! Keys and locks taken out, a key cut anew. -/
namespace Fx
end Fx
end
section
set_option linter.all false
set_option Elab.async false
set_option maxRecDepth 100000
set_option maxHeartbeats 400000
namespace KL
open Fx
/-! checks of kinds -/
@[simp] theorem g_cls : C_Table < md.g.nc := by decide
@[simp] theorem at_many {a b : D} : attrR md.g A_many (.ins C_Table [a, b]) = some a := rfl
@[simp] theorem at_rows {a b : D} : attrR md.g A_rows (.ins C_Table [a, b]) = some b := rfl
@[simp] theorem gl_keys : md.g.gl G_MOST_KEYS = some (.int 5) := rfl
@[simp] theorem gl_locks : md.g.gl G_MOST_LOCKS = some (.int 5) := rfl
@[simp] theorem fl_T : md.g.flds C_Table = [A_many, A_rows] := rfl
@[simp] theorem id_T0 : List.idxOf A_many [A_many, A_rows] = 0 := by decide
@[simp] theorem id_T1 : List.idxOf A_rows [A_many, A_rows] = 1 := by decide
variable {n : Nat}
/-- an int that is no bool -/
@[simp] theorem is_integer_d {d : D} (h : d.plain = true) : (md.Φ (n + 1) F_is_integer [.val d]).v = .ok (.val (.bl d.isInt)) := by
  cases d with
  | rng _ _ => cases h
  | ins _ _ => cases h
  | dct _ _ => cases h
  | err _ _ => cases h
  | int i => 
    rw [phi_v (d := d_is_integer) rfl rfl]
    simp -implicitDefEqProofs +contextual (disch := first | omega | (simp -implicitDefEqProofs +contextual (disch := first | omega | (simp -implicitDefEqProofs +contextual (disch := omega) [-List.map_map, -List.any_map, -List.all_map, -List.any_filter, -List.all_filter, -List.length_flatMap, -List.all_eq_true, -List.any_eq_true, -List.all_eq_false, -List.any_eq_false, d_is_integer, b_is_integer, D.isInt]; try omega; done)) [-List.map_map, -List.any_map, -List.all_map, -List.any_filter, -List.all_filter, -List.length_flatMap, -List.all_eq_true, -List.any_eq_true, -List.all_eq_false, -List.any_eq_false, d_is_integer, b_is_integer, D.isInt]; try omega; done)) [-List.map_map, -List.any_map, -List.all_map, -List.any_filter, -List.all_filter, -List.length_flatMap, -List.all_eq_true, -List.any_eq_true, -List.all_eq_false, -List.any_eq_false, d_is_integer, b_is_integer, D.isInt]
  | non => 
    rw [phi_v (d := d_is_integer) rfl rfl]
    simp -implicitDefEqProofs +contextual (disch := first | omega | (simp -implicitDefEqProofs +contextual (disch := first | omega | (simp -implicitDefEqProofs +contextual (disch := omega) [-List.map_map, -List.any_map, -List.all_map, -List.any_filter, -List.all_filter, -List.length_flatMap, -List.all_eq_true, -List.any_eq_true, -List.all_eq_false, -List.any_eq_false, d_is_integer, b_is_integer, D.isInt]; try omega; done)) [-List.map_map, -List.any_map, -List.all_map, -List.any_filter, -List.all_filter, -List.length_flatMap, -List.all_eq_true, -List.any_eq_true, -List.all_eq_false, -List.any_eq_false, d_is_integer, b_is_integer, D.isInt]; try omega; done)) [-List.map_map, -List.any_map, -List.all_map, -List.any_filter, -List.all_filter, -List.length_flatMap, -List.all_eq_true, -List.any_eq_true, -List.all_eq_false, -List.any_eq_false, d_is_integer, b_is_integer, D.isInt]
  | bl b => 
    rw [phi_v (d := d_is_integer) rfl rfl]
    simp -implicitDefEqProofs +contextual (disch := first | omega | (simp -implicitDefEqProofs +contextual (disch := first | omega | (simp -implicitDefEqProofs +contextual (disch := omega) [-List.map_map, -List.any_map, -List.all_map, -List.any_filter, -List.all_filter, -List.length_flatMap, -List.all_eq_true, -List.any_eq_true, -List.all_eq_false, -List.any_eq_false, d_is_integer, b_is_integer, D.isInt]; try omega; done)) [-List.map_map, -List.any_map, -List.all_map, -List.any_filter, -List.all_filter, -List.length_flatMap, -List.all_eq_true, -List.any_eq_true, -List.all_eq_false, -List.any_eq_false, d_is_integer, b_is_integer, D.isInt]; try omega; done)) [-List.map_map, -List.any_map, -List.all_map, -List.any_filter, -List.all_filter, -List.length_flatMap, -List.all_eq_true, -List.any_eq_true, -List.all_eq_false, -List.any_eq_false, d_is_integer, b_is_integer, D.isInt]
  | str b => 
    rw [phi_v (d := d_is_integer) rfl rfl]
    simp -implicitDefEqProofs +contextual (disch := first | omega | (simp -implicitDefEqProofs +contextual (disch := first | omega | (simp -implicitDefEqProofs +contextual (disch := omega) [-List.map_map, -List.any_map, -List.all_map, -List.any_filter, -List.all_filter, -List.length_flatMap, -List.all_eq_true, -List.any_eq_true, -List.all_eq_false, -List.any_eq_false, d_is_integer, b_is_integer, D.isInt]; try omega; done)) [-List.map_map, -List.any_map, -List.all_map, -List.any_filter, -List.all_filter, -List.length_flatMap, -List.all_eq_true, -List.any_eq_true, -List.all_eq_false, -List.any_eq_false, d_is_integer, b_is_integer, D.isInt]; try omega; done)) [-List.map_map, -List.any_map, -List.all_map, -List.any_filter, -List.all_filter, -List.length_flatMap, -List.all_eq_true, -List.any_eq_true, -List.all_eq_false, -List.any_eq_false, d_is_integer, b_is_integer, D.isInt]
  | tup b => 
    rw [phi_v (d := d_is_integer) rfl rfl]
    simp -implicitDefEqProofs +contextual (disch := first | omega | (simp -implicitDefEqProofs +contextual (disch := first | omega | (simp -implicitDefEqProofs +contextual (disch := omega) [-List.map_map, -List.any_map, -List.all_map, -List.any_filter, -List.all_filter, -List.length_flatMap, -List.all_eq_true, -List.any_eq_true, -List.all_eq_false, -List.any_eq_false, d_is_integer, b_is_integer, D.isInt]; try omega; done)) [-List.map_map, -List.any_map, -List.all_map, -List.any_filter, -List.all_filter, -List.length_flatMap, -List.all_eq_true, -List.any_eq_true, -List.all_eq_false, -List.any_eq_false, d_is_integer, b_is_integer, D.isInt]; try omega; done)) [-List.map_map, -List.any_map, -List.all_map, -List.any_filter, -List.all_filter, -List.length_flatMap, -List.all_eq_true, -List.any_eq_true, -List.all_eq_false, -List.any_eq_false, d_is_integer, b_is_integer, D.isInt]
  | lst b => 
    rw [phi_v (d := d_is_integer) rfl rfl]
    simp -implicitDefEqProofs +contextual (disch := first | omega | (simp -implicitDefEqProofs +contextual (disch := first | omega | (simp -implicitDefEqProofs +contextual (disch := omega) [-List.map_map, -List.any_map, -List.all_map, -List.any_filter, -List.all_filter, -List.length_flatMap, -List.all_eq_true, -List.any_eq_true, -List.all_eq_false, -List.any_eq_false, d_is_integer, b_is_integer, D.isInt]; try omega; done)) [-List.map_map, -List.any_map, -List.all_map, -List.any_filter, -List.all_filter, -List.length_flatMap, -List.all_eq_true, -List.any_eq_true, -List.all_eq_false, -List.any_eq_false, d_is_integer, b_is_integer, D.isInt]; try omega; done)) [-List.map_map, -List.any_map, -List.all_map, -List.any_filter, -List.all_filter, -List.length_flatMap, -List.all_eq_true, -List.any_eq_true, -List.all_eq_false, -List.any_eq_false, d_is_integer, b_is_integer, D.isInt]
@[simp] theorem is_within_d {d : D} {a b : Int} (h : d.plain = true) : (md.Φ (n + 2) F_is_within [.val d, .val (.int a), .val (.int b)]).v = .ok (.val (.bl (wI d a b))) := by
  cases d with
  | rng _ _ => cases h
  | ins _ _ => cases h
  | dct _ _ => cases h
  | err _ _ => cases h
  | int i => 
    rw [phi_v (d := d_is_within) rfl rfl]
    simp -implicitDefEqProofs +contextual (disch := first | omega | (simp -implicitDefEqProofs +contextual (disch := first | omega | (simp -implicitDefEqProofs +contextual (disch := omega) [-List.map_map, -List.any_map, -List.all_map, -List.any_filter, -List.all_filter, -List.length_flatMap, -List.all_eq_true, -List.any_eq_true, -List.all_eq_false, -List.any_eq_false, d_is_within, b_is_within, D.isInt, within]; try omega; done)) [-List.map_map, -List.any_map, -List.all_map, -List.any_filter, -List.all_filter, -List.length_flatMap, -List.all_eq_true, -List.any_eq_true, -List.all_eq_false, -List.any_eq_false, d_is_within, b_is_within, D.isInt, within]; try omega; done)) [-List.map_map, -List.any_map, -List.all_map, -List.any_filter, -List.all_filter, -List.length_flatMap, -List.all_eq_true, -List.any_eq_true, -List.all_eq_false, -List.any_eq_false, d_is_within, b_is_within, D.isInt, within]
  | non => 
    rw [phi_v (d := d_is_within) rfl rfl]
    simp -implicitDefEqProofs +contextual (disch := first | omega | (simp -implicitDefEqProofs +contextual (disch := first | omega | (simp -implicitDefEqProofs +contextual (disch := omega) [-List.map_map, -List.any_map, -List.all_map, -List.any_filter, -List.all_filter, -List.length_flatMap, -List.all_eq_true, -List.any_eq_true, -List.all_eq_false, -List.any_eq_false, d_is_within, b_is_within, D.isInt]; try omega; done)) [-List.map_map, -List.any_map, -List.all_map, -List.any_filter, -List.all_filter, -List.length_flatMap, -List.all_eq_true, -List.any_eq_true, -List.all_eq_false, -List.any_eq_false, d_is_within, b_is_within, D.isInt]; try omega; done)) [-List.map_map, -List.any_map, -List.all_map, -List.any_filter, -List.all_filter, -List.length_flatMap, -List.all_eq_true, -List.any_eq_true, -List.all_eq_false, -List.any_eq_false, d_is_within, b_is_within, D.isInt]
  | bl b => 
    rw [phi_v (d := d_is_within) rfl rfl]
    simp -implicitDefEqProofs +contextual (disch := first | omega | (simp -implicitDefEqProofs +contextual (disch := first | omega | (simp -implicitDefEqProofs +contextual (disch := omega) [-List.map_map, -List.any_map, -List.all_map, -List.any_filter, -List.all_filter, -List.length_flatMap, -List.all_eq_true, -List.any_eq_true, -List.all_eq_false, -List.any_eq_false, d_is_within, b_is_within, D.isInt]; try omega; done)) [-List.map_map, -List.any_map, -List.all_map, -List.any_filter, -List.all_filter, -List.length_flatMap, -List.all_eq_true, -List.any_eq_true, -List.all_eq_false, -List.any_eq_false, d_is_within, b_is_within, D.isInt]; try omega; done)) [-List.map_map, -List.any_map, -List.all_map, -List.any_filter, -List.all_filter, -List.length_flatMap, -List.all_eq_true, -List.any_eq_true, -List.all_eq_false, -List.any_eq_false, d_is_within, b_is_within, D.isInt]
  | str b => 
    rw [phi_v (d := d_is_within) rfl rfl]
    simp -implicitDefEqProofs +contextual (disch := first | omega | (simp -implicitDefEqProofs +contextual (disch := first | omega | (simp -implicitDefEqProofs +contextual (disch := omega) [-List.map_map, -List.any_map, -List.all_map, -List.any_filter, -List.all_filter, -List.length_flatMap, -List.all_eq_true, -List.any_eq_true, -List.all_eq_false, -List.any_eq_false, d_is_within, b_is_within, D.isInt]; try omega; done)) [-List.map_map, -List.any_map, -List.all_map, -List.any_filter, -List.all_filter, -List.length_flatMap, -List.all_eq_true, -List.any_eq_true, -List.all_eq_false, -List.any_eq_false, d_is_within, b_is_within, D.isInt]; try omega; done)) [-List.map_map, -List.any_map, -List.all_map, -List.any_filter, -List.all_filter, -List.length_flatMap, -List.all_eq_true, -List.any_eq_true, -List.all_eq_false, -List.any_eq_false, d_is_within, b_is_within, D.isInt]
  | tup b => 
    rw [phi_v (d := d_is_within) rfl rfl]
    simp -implicitDefEqProofs +contextual (disch := first | omega | (simp -implicitDefEqProofs +contextual (disch := first | omega | (simp -implicitDefEqProofs +contextual (disch := omega) [-List.map_map, -List.any_map, -List.all_map, -List.any_filter, -List.all_filter, -List.length_flatMap, -List.all_eq_true, -List.any_eq_true, -List.all_eq_false, -List.any_eq_false, d_is_within, b_is_within, h, D.isInt]; try omega; done)) [-List.map_map, -List.any_map, -List.all_map, -List.any_filter, -List.all_filter, -List.length_flatMap, -List.all_eq_true, -List.any_eq_true, -List.all_eq_false, -List.any_eq_false, d_is_within, b_is_within, h, D.isInt]; try omega; done)) [-List.map_map, -List.any_map, -List.all_map, -List.any_filter, -List.all_filter, -List.length_flatMap, -List.all_eq_true, -List.any_eq_true, -List.all_eq_false, -List.any_eq_false, d_is_within, b_is_within, h, D.isInt]
  | lst b => 
    rw [phi_v (d := d_is_within) rfl rfl]
    simp -implicitDefEqProofs +contextual (disch := first | omega | (simp -implicitDefEqProofs +contextual (disch := first | omega | (simp -implicitDefEqProofs +contextual (disch := omega) [-List.map_map, -List.any_map, -List.all_map, -List.any_filter, -List.all_filter, -List.length_flatMap, -List.all_eq_true, -List.any_eq_true, -List.all_eq_false, -List.any_eq_false, d_is_within, b_is_within, h, D.isInt]; try omega; done)) [-List.map_map, -List.any_map, -List.all_map, -List.any_filter, -List.all_filter, -List.length_flatMap, -List.all_eq_true, -List.any_eq_true, -List.all_eq_false, -List.any_eq_false, d_is_within, b_is_within, h, D.isInt]; try omega; done)) [-List.map_map, -List.any_map, -List.all_map, -List.any_filter, -List.all_filter, -List.length_flatMap, -List.all_eq_true, -List.any_eq_true, -List.all_eq_false, -List.any_eq_false, d_is_within, b_is_within, h, D.isInt]
@[simp] theorem is_tuple_t {ds : List D} {a b : Int} : (md.Φ (n + 1) F_is_tuple [.val (.tup ds), .val (.int a), .val (.int b)]).v = .ok (.val (.bl (within ds.length a b))) := by
  rw [phi_v (d := d_is_tuple) rfl rfl]
  simp -implicitDefEqProofs +contextual (disch := first | omega | (simp -implicitDefEqProofs +contextual (disch := first | omega | (simp -implicitDefEqProofs +contextual (disch := omega) [-List.map_map, -List.any_map, -List.all_map, -List.any_filter, -List.all_filter, -List.length_flatMap, -List.all_eq_true, -List.any_eq_true, -List.all_eq_false, -List.any_eq_false, d_is_tuple, b_is_tuple, within]; try omega; done)) [-List.map_map, -List.any_map, -List.all_map, -List.any_filter, -List.all_filter, -List.length_flatMap, -List.all_eq_true, -List.any_eq_true, -List.all_eq_false, -List.any_eq_false, d_is_tuple, b_is_tuple, within]; try omega; done)) [-List.map_map, -List.any_map, -List.all_map, -List.any_filter, -List.all_filter, -List.length_flatMap, -List.all_eq_true, -List.any_eq_true, -List.all_eq_false, -List.any_eq_false, d_is_tuple, b_is_tuple, within]
@[simp] theorem is_tuple_I {l : List Int} {a b : Int} : (md.Φ (n + 1) F_is_tuple [.val (tI l), .val (.int a), .val (.int b)]).v = .ok (.val (.bl (within l.length a b))) := by
  rw [tI, is_tuple_t, List.length_map]
@[simp] theorem is_tuple_II {l : List (List Int)} {a b : Int} : (md.Φ (n + 1) F_is_tuple [.val (tII l), .val (.int a), .val (.int b)]).v = .ok (.val (.bl (within l.length a b))) := by
  rw [tII, is_tuple_t, List.length_map]
def asc (l : List Int) : Bool := (irange 1 l.length).all fun i => decide (ix l (i - 1) < ix l i)
@[simp] theorem is_ascending_I {l : List Int} (h : l.length ≤ 4000000) : (md.Φ (n + 1) F_is_ascending [.val (tI l)]).v = .ok (.val (.bl (asc l))) := by
  rw [phi_v (d := d_is_ascending) rfl rfl]
  simp -implicitDefEqProofs +contextual (disch := first | omega | (simp -implicitDefEqProofs +contextual (disch := first | omega | (simp -implicitDefEqProofs +contextual (disch := omega) [-List.map_map, -List.any_map, -List.all_map, -List.any_filter, -List.all_filter, -List.length_flatMap, -List.all_eq_true, -List.any_eq_true, -List.all_eq_false, -List.any_eq_false, d_is_ascending, b_is_ascending, -q_comp1, asc, comp1_all (α := Int) (fun i => .bl (decide (ix l (i - 1) < ix l i)))]; try omega; done)) [-List.map_map, -List.any_map, -List.all_map, -List.any_filter, -List.all_filter, -List.length_flatMap, -List.all_eq_true, -List.any_eq_true, -List.all_eq_false, -List.any_eq_false, d_is_ascending, b_is_ascending, -q_comp1, asc, comp1_all (α := Int) (fun i => .bl (decide (ix l (i - 1) < ix l i)))]; try omega; done)) [-List.map_map, -List.any_map, -List.all_map, -List.any_filter, -List.all_filter, -List.length_flatMap, -List.all_eq_true, -List.any_eq_true, -List.all_eq_false, -List.any_eq_false, d_is_ascending, b_is_ascending, -q_comp1, asc, comp1_all (α := Int) (fun i => .bl (decide (ix l (i - 1) < ix l i)))]
end KL
end
section
set_option linter.all false
set_option Elab.async false
set_option maxRecDepth 100000
set_option maxHeartbeats 400000
namespace KL
open Fx
/-! draws -/
variable {n : Nat}
@[simp] theorem law_box {ns : List Int} {k : Int} (hk : 0 ≤ k) (hk2 : k < 1000) (hn : ns.length ≤ 63) : (md.Φ (n + 1) F__law_box [.val (.lst (ns.map .int)), .val (.int k)]).v = .ok (.lst (bx (boxS ns k))) := by
  rw [phi_v (d := d__law_box) rfl rfl]
  have m1 : mulOk 7919 k = true := by unfold mulOk; simp
  have m2 : mulOk 613 k = true := by unfold mulOk; simp
  have m3 : ∀ i : Int, mulOk i 48271 = true := fun i => by unfold mulOk; simp
  have m4 : ∀ i : Int, mulOk i 31 = true := fun i => by unfold mulOk; simp
  by_cases h1 : k < ns.length
  · simp -implicitDefEqProofs +contextual (disch := first | omega | (simp -implicitDefEqProofs +contextual (disch := first | omega | (simp -implicitDefEqProofs +contextual (disch := omega) [-List.map_map, -List.any_map, -List.all_map, -List.any_filter, -List.all_filter, -List.length_flatMap, -List.all_eq_true, -List.any_eq_true, -List.all_eq_false, -List.any_eq_false, d__law_box, b__law_box, m1, m2, m3, m4, h1, boxS, cellS]; try omega; done)) [-List.map_map, -List.any_map, -List.all_map, -List.any_filter, -List.all_filter, -List.length_flatMap, -List.all_eq_true, -List.any_eq_true, -List.all_eq_false, -List.any_eq_false, d__law_box, b__law_box, m1, m2, m3, m4, h1, boxS, cellS]; try omega; done)) [-List.map_map, -List.any_map, -List.all_map, -List.any_filter, -List.all_filter, -List.length_flatMap, -List.all_eq_true, -List.any_eq_true, -List.all_eq_false, -List.any_eq_false, d__law_box, b__law_box, m1, m2, m3, m4, h1, boxS, cellS]
    rfl
  · by_cases h2 : 0 < ns.length
    · have h3 : 0 ≤ k % ns.length := Int.emod_nonneg _ (by omega)
      have h4 : k % ns.length < ns.length := Int.emod_lt_of_pos _ (by omega)
      simp -implicitDefEqProofs +contextual (disch := first | omega | (simp -implicitDefEqProofs +contextual (disch := first | omega | (simp -implicitDefEqProofs +contextual (disch := omega) [-List.map_map, -List.any_map, -List.all_map, -List.any_filter, -List.all_filter, -List.length_flatMap, -List.all_eq_true, -List.any_eq_true, -List.all_eq_false, -List.any_eq_false, d__law_box, b__law_box, m1, m2, m3, m4, h1, h2, h3, h4, boxS, cellS]; try omega; done)) [-List.map_map, -List.any_map, -List.all_map, -List.any_filter, -List.all_filter, -List.length_flatMap, -List.all_eq_true, -List.any_eq_true, -List.all_eq_false, -List.any_eq_false, d__law_box, b__law_box, m1, m2, m3, m4, h1, h2, h3, h4, boxS, cellS]; try omega; done)) [-List.map_map, -List.any_map, -List.all_map, -List.any_filter, -List.all_filter, -List.length_flatMap, -List.all_eq_true, -List.any_eq_true, -List.all_eq_false, -List.any_eq_false, d__law_box, b__law_box, m1, m2, m3, m4, h1, h2, h3, h4, boxS, cellS]
      rfl
    · simp -implicitDefEqProofs +contextual (disch := first | omega | (simp -implicitDefEqProofs +contextual (disch := first | omega | (simp -implicitDefEqProofs +contextual (disch := omega) [-List.map_map, -List.any_map, -List.all_map, -List.any_filter, -List.all_filter, -List.length_flatMap, -List.all_eq_true, -List.any_eq_true, -List.all_eq_false, -List.any_eq_false, d__law_box, b__law_box, m1, m2, m3, m4, h1, h2, boxS, cellS]; try omega; done)) [-List.map_map, -List.any_map, -List.all_map, -List.any_filter, -List.all_filter, -List.length_flatMap, -List.all_eq_true, -List.any_eq_true, -List.all_eq_false, -List.any_eq_false, d__law_box, b__law_box, m1, m2, m3, m4, h1, h2, boxS, cellS]; try omega; done)) [-List.map_map, -List.any_map, -List.all_map, -List.any_filter, -List.all_filter, -List.length_flatMap, -List.all_eq_true, -List.any_eq_true, -List.all_eq_false, -List.any_eq_false, d__law_box, b__law_box, m1, m2, m3, m4, h1, h2, boxS, cellS]
      rfl
@[simp] theorem law_take {B : Box} {m : Int} (hB : BOk B) (hm : 0 < m) (hm2 : m < 1073741824) : md.Φ (n + 1) F__law_take [.lst (bx B), .val (.int m)] = .ok (.val (.int (tk B m).1)) [some (.lst (bx (tk B m).2)), some (.val (.int m))] := by
  obtain ⟨ha, hb, hc⟩ := hB
  have m1 : mulOk B.2 39373 = true := by unfold mulOk; simp
  by_cases h : 0 < B.1
  · rw [phi_f (d := d__law_take) rfl rfl]
    simp -implicitDefEqProofs +contextual (disch := first | omega | (simp -implicitDefEqProofs +contextual (disch := first | omega | (simp -implicitDefEqProofs +contextual (disch := omega) [-List.map_map, -List.any_map, -List.all_map, -List.any_filter, -List.all_filter, -List.length_flatMap, -List.all_eq_true, -List.any_eq_true, -List.all_eq_false, -List.any_eq_false, d__law_take, b__law_take, outsA, m1, tk, h, hm, hm2]; try omega; done)) [-List.map_map, -List.any_map, -List.all_map, -List.any_filter, -List.all_filter, -List.length_flatMap, -List.all_eq_true, -List.any_eq_true, -List.all_eq_false, -List.any_eq_false, d__law_take, b__law_take, outsA, m1, tk, h, hm, hm2]; try omega; done)) [-List.map_map, -List.any_map, -List.all_map, -List.any_filter, -List.all_filter, -List.length_flatMap, -List.all_eq_true, -List.any_eq_true, -List.all_eq_false, -List.any_eq_false, d__law_take, b__law_take, outsA, m1, tk, h, hm, hm2]
  · rw [phi_f (d := d__law_take) rfl rfl]
    simp -implicitDefEqProofs +contextual (disch := first | omega | (simp -implicitDefEqProofs +contextual (disch := first | omega | (simp -implicitDefEqProofs +contextual (disch := omega) [-List.map_map, -List.any_map, -List.all_map, -List.any_filter, -List.all_filter, -List.length_flatMap, -List.all_eq_true, -List.any_eq_true, -List.all_eq_false, -List.any_eq_false, d__law_take, b__law_take, outsA, m1, tk, h, hm, hm2]; try omega; done)) [-List.map_map, -List.any_map, -List.all_map, -List.any_filter, -List.all_filter, -List.length_flatMap, -List.all_eq_true, -List.any_eq_true, -List.all_eq_false, -List.any_eq_false, d__law_take, b__law_take, outsA, m1, tk, h, hm, hm2]; try omega; done)) [-List.map_map, -List.any_map, -List.all_map, -List.any_filter, -List.all_filter, -List.length_flatMap, -List.all_eq_true, -List.any_eq_true, -List.all_eq_false, -List.any_eq_false, d__law_take, b__law_take, outsA, m1, tk, h, hm, hm2]
@[simp] theorem law_pick {α : Type} [Inhabited α] {f : α → D} {l : List α} {B : Box} (hB : BOk B) (h0 : 0 < l.length) (hm2 : l.length < 1073741824) : md.Φ (n + 2) F__law_pick [.lst (bx B), .lst (l.map f)] = .ok (.val (f (ix l (tk B l.length).1))) [some (.lst (bx (tk B l.length).2)), some (.lst (l.map f))] := by
  have h1 := tk_in (B := B) (m := l.length) (by omega)
  rw [phi_f (d := d__law_pick) rfl rfl]
  simp -implicitDefEqProofs +contextual (disch := first | omega | (simp -implicitDefEqProofs +contextual (disch := first | omega | (simp -implicitDefEqProofs +contextual (disch := omega) [-List.map_map, -List.any_map, -List.all_map, -List.any_filter, -List.all_filter, -List.length_flatMap, -List.all_eq_true, -List.any_eq_true, -List.all_eq_false, -List.any_eq_false, d__law_pick, b__law_pick, outsA, hB, h0, hm2, h1.1, h1.2]; try omega; done)) [-List.map_map, -List.any_map, -List.all_map, -List.any_filter, -List.all_filter, -List.length_flatMap, -List.all_eq_true, -List.any_eq_true, -List.all_eq_false, -List.any_eq_false, d__law_pick, b__law_pick, outsA, hB, h0, hm2, h1.1, h1.2]; try omega; done)) [-List.map_map, -List.any_map, -List.all_map, -List.any_filter, -List.all_filter, -List.length_flatMap, -List.all_eq_true, -List.any_eq_true, -List.all_eq_false, -List.any_eq_false, d__law_pick, b__law_pick, outsA, hB, h0, hm2, h1.1, h1.2]
/-- draws in a row -/
@[simp] theorem draws_v {ρ : Env} {b k i : Nat} {α : Type} {f : α → D} {xs : List α} {B : Box} {m : Int} (hb : ρ.at b = some (.lst (bx B))) (hk : ρ.at k = some (.val (.int m))) (ib : i ≠ b) (ik : i ≠ k) (hB : BOk B) (hm : 0 < m) (hm2 : m < 1073741824) (hl : xs.length ≤ 16777216) :
    compE md.g (md.Φ (n + 1)) (.call F__law_take (.cons (.var b) (.cons (.var k) .nil))) [i] (.one i) .non (xs.map f) ρ = .ok (.lst ((dw B m xs.length).1.map .int)) (ρ.set b (some (.lst (bx (dw B m xs.length).2)))) := by
  have bl := at_lt hb
  obtain ⟨acc, ρ', e, ⟨e1, e2⟩, _⟩ := comp_invW (g := md.g) (Φ := md.Φ (n + 1)) (i := i) (elt := .call F__law_take (.cons (.var b) (.cons (.var k) .nil))) (c := .non) (f := f) (xs := xs) (ρ := ρ)
    (I := fun p acc ρ' => ρ' = (ρ.set i none).set b (some (.lst (bx (dw B m p.length).2))) ∧ acc = (dw B m p.length).1.map .int) hl ⟨by
      show ρ.set i none = (ρ.set i none).set b (some (.lst (bx B)))
      have := set_any (i := b) (ρ := ρ)
      rw [hb] at this
      rw [List.set_comm _ _ ib, this], rfl⟩ (by
    rintro p x q acc _ _ ⟨rfl, rfl⟩
    refine ⟨true, _, rfl, fun _ => ?_, fun h => by cases h⟩
    have a0 : ((ρ.set i none).set b (some (.lst (bx (dw B m p.length).2)))).set i (some (.val (f x))) = (ρ.set i (some (.val (f x)))).set b (some (.lst (bx (dw B m p.length).2))) := by
      rw [List.set_comm _ _ (Ne.symm ib), List.set_set]
    rw [a0]
    have a1 : Env.at ((ρ.set i (some (.val (f x)))).set b (some (.lst (bx (dw B m p.length).2)))) b = some (.lst (bx (dw B m p.length).2)) := by
      rw [at_set' (by rw [List.length_set]; exact bl)]
    have a2 : Env.at ((ρ.set i (some (.val (f x)))).set b (some (.lst (bx (dw B m p.length).2)))) k = some (.val (.int m)) := by
      rw [at_set (by rintro rfl; rw [hb] at hk; cases hk), at_set ik, hk]
    have k1 := law_take (n := n) (dw_ok hB hm (n := p.length)) hm hm2
    refine ⟨.int (tk (dw B m p.length).2 m).1, ((ρ.set i (some (.val (f x)))).set b (some (.lst (bx (dw B m p.length).2)))).set b (some (.lst (bx (tk (dw B m p.length).2 m).2))), ?_, ?_, ?_⟩
    · simp -implicitDefEqProofs +contextual (disch := first | omega | (simp -implicitDefEqProofs +contextual (disch := first | omega | (simp -implicitDefEqProofs +contextual (disch := omega) [-List.map_map, -List.any_map, -List.all_map, -List.any_filter, -List.all_filter, -List.length_flatMap, -List.all_eq_true, -List.any_eq_true, -List.all_eq_false, -List.any_eq_false, a1, a2, k1, -List.set_set]; try omega; done)) [-List.map_map, -List.any_map, -List.all_map, -List.any_filter, -List.all_filter, -List.length_flatMap, -List.all_eq_true, -List.any_eq_true, -List.all_eq_false, -List.any_eq_false, a1, a2, k1, -List.set_set]; try omega; done)) [-List.map_map, -List.any_map, -List.all_map, -List.any_filter, -List.all_filter, -List.length_flatMap, -List.all_eq_true, -List.any_eq_true, -List.all_eq_false, -List.any_eq_false, a1, a2, k1, -List.set_set]
    · rw [List.length_append]
      show (((ρ.set i _).set b _).set b _).set i none = (ρ.set i none).set b (some (.lst (bx (dw B m (p.length + 1)).2)))
      rw [List.set_set, List.set_comm _ _ (Ne.symm ib), List.set_set]
      rfl
    · rw [List.length_append]
      show _ = List.map D.int (dw B m (p.length + 1)).1
      simp [dw])
  rw [e, e1, e2, List.set_comm _ _ (Ne.symm ib), List.set_set, set_any]
/-- the same, the bound a constant -/
@[simp] theorem draws_c {ρ : Env} {b i : Nat} {α : Type} {f : α → D} {xs : List α} {B : Box} {m : Int} (hb : ρ.at b = some (.lst (bx B))) (ib : i ≠ b) (hB : BOk B) (hm : 0 < m) (hm2 : m < 1073741824) (hl : xs.length ≤ 16777216) :
    compE md.g (md.Φ (n + 1)) (.call F__law_take (.cons (.var b) (.cons (.cst (.int m)) .nil))) [i] (.one i) .non (xs.map f) ρ = .ok (.lst ((dw B m xs.length).1.map .int)) (ρ.set b (some (.lst (bx (dw B m xs.length).2)))) := by
  have bl := at_lt hb
  obtain ⟨acc, ρ', e, ⟨e1, e2⟩, _⟩ := comp_invW (g := md.g) (Φ := md.Φ (n + 1)) (i := i) (elt := .call F__law_take (.cons (.var b) (.cons (.cst (.int m)) .nil))) (c := .non) (f := f) (xs := xs) (ρ := ρ)
    (I := fun p acc ρ' => ρ' = (ρ.set i none).set b (some (.lst (bx (dw B m p.length).2))) ∧ acc = (dw B m p.length).1.map .int) hl ⟨by
      show ρ.set i none = (ρ.set i none).set b (some (.lst (bx B)))
      have := set_any (i := b) (ρ := ρ)
      rw [hb] at this
      rw [List.set_comm _ _ ib, this], rfl⟩ (by
    rintro p x q acc _ _ ⟨rfl, rfl⟩
    refine ⟨true, _, rfl, fun _ => ?_, fun h => by cases h⟩
    have a0 : ((ρ.set i none).set b (some (.lst (bx (dw B m p.length).2)))).set i (some (.val (f x))) = (ρ.set i (some (.val (f x)))).set b (some (.lst (bx (dw B m p.length).2))) := by
      rw [List.set_comm _ _ (Ne.symm ib), List.set_set]
    rw [a0]
    have a1 : Env.at ((ρ.set i (some (.val (f x)))).set b (some (.lst (bx (dw B m p.length).2)))) b = some (.lst (bx (dw B m p.length).2)) := by
      rw [at_set' (by rw [List.length_set]; exact bl)]
    have k1 := law_take (n := n) (dw_ok hB hm (n := p.length)) hm hm2
    refine ⟨.int (tk (dw B m p.length).2 m).1, ((ρ.set i (some (.val (f x)))).set b (some (.lst (bx (dw B m p.length).2)))).set b (some (.lst (bx (tk (dw B m p.length).2 m).2))), ?_, ?_, ?_⟩
    · simp -implicitDefEqProofs +contextual (disch := first | omega | (simp -implicitDefEqProofs +contextual (disch := first | omega | (simp -implicitDefEqProofs +contextual (disch := omega) [-List.map_map, -List.any_map, -List.all_map, -List.any_filter, -List.all_filter, -List.length_flatMap, -List.all_eq_true, -List.any_eq_true, -List.all_eq_false, -List.any_eq_false, a1, k1, -List.set_set]; try omega; done)) [-List.map_map, -List.any_map, -List.all_map, -List.any_filter, -List.all_filter, -List.length_flatMap, -List.all_eq_true, -List.any_eq_true, -List.all_eq_false, -List.any_eq_false, a1, k1, -List.set_set]; try omega; done)) [-List.map_map, -List.any_map, -List.all_map, -List.any_filter, -List.all_filter, -List.length_flatMap, -List.all_eq_true, -List.any_eq_true, -List.all_eq_false, -List.any_eq_false, a1, k1, -List.set_set]
    · rw [List.length_append]
      show (((ρ.set i _).set b _).set b _).set i none = (ρ.set i none).set b (some (.lst (bx (dw B m (p.length + 1)).2)))
      rw [List.set_set, List.set_comm _ _ (Ne.symm ib), List.set_set]
      rfl
    · rw [List.length_append]
      show _ = List.map D.int (dw B m (p.length + 1)).1
      simp [dw])
  rw [e, e1, e2, List.set_comm _ _ (Ne.symm ib), List.set_set, set_any]
/-- rows of draws -/
@[simp] theorem drawss_v {ρ : Env} {b k i j c : Nat} {α : Type} {f : α → D} {xs : List α} {B : Box} {m h : Int} (hb : ρ.at b = some (.lst (bx B))) (hk : ρ.at k = some (.val (.int m))) (hc : ρ.at c = some (.val (.int h)))
    (ib : i ≠ b) (ik : i ≠ k) (ic : i ≠ c) (jb : j ≠ b) (jk : j ≠ k) (hB : BOk B) (hm : 0 < m) (hm2 : m < 1073741824) (hh : 0 ≤ h ∧ h ≤ 1000) (hl : xs.length ≤ 16777216) :
    compE md.g (md.Φ (n + 1)) (.cb .tuple (.cons (.comp (.call F__law_take (.cons (.var b) (.cons (.var k) .nil))) [j] (.one j) (.seq (.cb .range (.cons (.var c) .nil))) .non) .nil)) [i] (.one i) .non (xs.map f) ρ
      = .ok (.lst ((dww B m h.toNat xs.length).1.map tI)) (ρ.set b (some (.lst (bx (dww B m h.toNat xs.length).2)))) := by
  have bl := at_lt hb
  obtain ⟨acc, ρ', e, ⟨e1, e2⟩, _⟩ := comp_invW (g := md.g) (Φ := md.Φ (n + 1)) (i := i) (elt := .cb .tuple (.cons (.comp (.call F__law_take (.cons (.var b) (.cons (.var k) .nil))) [j] (.one j) (.seq (.cb .range (.cons (.var c) .nil))) .non) .nil)) (c := .non) (f := f) (xs := xs) (ρ := ρ)
    (I := fun p acc ρ' => ρ' = (ρ.set i none).set b (some (.lst (bx (dww B m h.toNat p.length).2))) ∧ acc = (dww B m h.toNat p.length).1.map tI) hl ⟨by
      show ρ.set i none = (ρ.set i none).set b (some (.lst (bx B)))
      have := set_any (i := b) (ρ := ρ)
      rw [hb] at this
      rw [List.set_comm _ _ ib, this], rfl⟩ (by
    rintro p x q acc _ _ ⟨rfl, rfl⟩
    refine ⟨true, _, rfl, fun _ => ?_, fun h => by cases h⟩
    generalize hB' : (dww B m h.toNat p.length).2 = B'
    have oB : BOk B' := by rw [← hB']; exact dww_ok hB hm
    have bk : b ≠ k := by rintro rfl; rw [hb] at hk; cases hk
    have bc : b ≠ c := by rintro rfl; rw [hb] at hc; cases hc
    have a0 : ((ρ.set i none).set b (some (.lst (bx B')))).set i (some (.val (f x))) = (ρ.set i (some (.val (f x)))).set b (some (.lst (bx B'))) := by
      rw [List.set_comm _ _ (Ne.symm ib), List.set_set]
    rw [a0]
    have a1 : Env.at ((ρ.set i (some (.val (f x)))).set b (some (.lst (bx B')))) b = some (.lst (bx B')) := by
      rw [at_set' (by rw [List.length_set]; exact bl)]
    have a2 : Env.at ((ρ.set i (some (.val (f x)))).set b (some (.lst (bx B')))) k = some (.val (.int m)) := by
      rw [at_set bk, at_set ik, hk]
    have a3 : Env.at ((ρ.set i (some (.val (f x)))).set b (some (.lst (bx B')))) c = some (.val (.int h)) := by
      rw [at_set bc, at_set ic, hc]
    have k1 := draws_v (n := n) (f := D.int) (xs := irange 0 h) a1 a2 jb jk oB hm hm2 (by simp; omega)
    have l1 : (irange 0 h).length = h.toNat := by simp
    rw [l1] at k1
    refine ⟨tI (dw B' m h.toNat).1, ((ρ.set i (some (.val (f x)))).set b (some (.lst (bx B')))).set b (some (.lst (bx (dw B' m h.toNat).2))), ?_, ?_, ?_⟩
    · have hh2 : (-1000000000 ≤ h) ∧ h ≤ 1000000000 := by omega
      simp -implicitDefEqProofs +contextual (disch := first | omega | (simp -implicitDefEqProofs +contextual (disch := first | omega | (simp -implicitDefEqProofs +contextual (disch := omega) [-List.map_map, -List.any_map, -List.all_map, -List.any_filter, -List.all_filter, -List.length_flatMap, -List.all_eq_true, -List.any_eq_true, -List.all_eq_false, -List.any_eq_false, a3, k1, hh2.1, hh2.2, -List.set_set]; try omega; done)) [-List.map_map, -List.any_map, -List.all_map, -List.any_filter, -List.all_filter, -List.length_flatMap, -List.all_eq_true, -List.any_eq_true, -List.all_eq_false, -List.any_eq_false, a3, k1, hh2.1, hh2.2, -List.set_set]; try omega; done)) [-List.map_map, -List.any_map, -List.all_map, -List.any_filter, -List.all_filter, -List.length_flatMap, -List.all_eq_true, -List.any_eq_true, -List.all_eq_false, -List.any_eq_false, a3, k1, hh2.1, hh2.2, -List.set_set]
    · rw [List.length_append]
      show (((ρ.set i _).set b _).set b _).set i none = (ρ.set i none).set b (some (.lst (bx (dww B m h.toNat (p.length + 1)).2)))
      rw [List.set_set, List.set_comm _ _ (Ne.symm ib), List.set_set]
      show _ = (ρ.set i none).set b (some (.lst (bx (dw (dww B m h.toNat p.length).2 m h.toNat).2)))
      rw [hB']
    · rw [List.length_append]
      show _ = List.map tI ((dww B m h.toNat p.length).1 ++ [(dw (dww B m h.toNat p.length).2 m h.toNat).1])
      rw [hB']
      simp)
  rw [e, e1, e2, List.set_comm _ _ (Ne.symm ib), List.set_set, set_any]
end KL
end
section
set_option linter.all false
set_option Elab.async false
set_option maxRecDepth 100000
set_option maxHeartbeats 1000000
namespace KL
open Fx
variable {n : Nat}
/-! law k01 -/
def tenE (v : D) : List D := (List.range 10).map fun c => .err c v
def twelveE (v : D) : List D := (List.range 12).map fun c => .err c v
/-- of which classes -/
def kindE (c : Nat) : List D := (irange 0 14).map fun j => .bl (decide (j = (c : Int)) || decide (12 ≤ j))
theorem isa_e : ∀ c < 12, ∀ x < 12, md.g.isa c x = decide (c = x) := by decide
theorem nx_e {c : Nat} (h : c < 12) : c < md.g.nx := h
theorem xf_v : ∀ c < 10, md.g.xf c = "value" := by decide
theorem xf_w : md.g.xf X_Undefined = "what" := rfl
theorem xf_u : md.g.xf X_NothingToUndo = "word" := rfl
theorem ones_t {v : D} : md.Φ (n + 1) F__law_ones [.val v] = .ok (.lst (tenE v)) [some (.val v)] := by
  rw [phi_f (d := d__law_ones) rfl rfl]
  simp -implicitDefEqProofs +contextual (disch := first | omega | (simp -implicitDefEqProofs +contextual (disch := first | omega | (simp -implicitDefEqProofs +contextual (disch := omega) [d__law_ones, b__law_ones, outsA]; try omega; done)) [d__law_ones, b__law_ones, outsA]; try omega; done)) [-List.map_map, -List.any_map, -List.all_map, -List.any_filter, -List.all_filter, -List.length_flatMap, -List.all_eq_true, -List.any_eq_true, -List.all_eq_false, -List.any_eq_false, d__law_ones, b__law_ones, outsA]
  rfl
theorem isx_e {c x : Nat} (h : c < 12) (hx : x < 12) : isxB md.g c (some x) = decide (c = x) := isa_e c h x hx
theorem isx_l : ∀ c < 12, isxB md.g c (some X_LockError) = true := by decide
theorem isx_v {c : Nat} : isxB md.g c none = true := rfl
theorem kinds_t {c : Nat} {v : D} (h : c < 12) : (md.Φ (n + 1) F__law_kinds [.val (.err c v)]).v = .ok (.lst (kindE c)) := by
  have i0 := isx_e h (x := X_InvalidNumber) (by decide)
  have i1 := isx_e h (x := X_InvalidLocks) (by decide)
  have i2 := isx_e h (x := X_InvalidKeys) (by decide)
  have i3 := isx_e h (x := X_InvalidKind) (by decide)
  have i4 := isx_e h (x := X_InvalidCut) (by decide)
  have i5 := isx_e h (x := X_InvalidCuts) (by decide)
  have i6 := isx_e h (x := X_InvalidTable) (by decide)
  have i7 := isx_e h (x := X_InvalidPair) (by decide)
  have i8 := isx_e h (x := X_InvalidQuestion) (by decide)
  have i9 := isx_e h (x := X_InvalidClaim) (by decide)
  have i10 := isx_e h (x := X_Undefined) (by decide)
  have i11 := isx_e h (x := X_NothingToUndo) (by decide)
  have i12 := isx_l c h
  have hn := nx_e h
  rw [phi_v (d := d__law_kinds) rfl rfl]
  simp -implicitDefEqProofs +contextual (disch := first | omega | (simp -implicitDefEqProofs +contextual (disch := first | omega | (simp -implicitDefEqProofs +contextual (disch := omega) [d__law_kinds, b__law_kinds, hn, i0, i1, i2, i3, i4, i5, i6, i7, i8, i9, i10, i11, i12, isx_v]; try omega; done)) [d__law_kinds, b__law_kinds, hn, i0, i1, i2, i3, i4, i5, i6, i7, i8, i9, i10, i11, i12, isx_v]; try omega; done)) [-List.map_map, -List.any_map, -List.all_map, -List.any_filter, -List.all_filter, -List.length_flatMap, -List.all_eq_true, -List.any_eq_true, -List.all_eq_false, -List.any_eq_false, d__law_kinds, b__law_kinds, hn, i0, i1, i2, i3, i4, i5, i6, i7, i8, i9, i10, i11, i12, isx_v]
  have e : irange 0 14 = [0, 1, 2, 3, 4, 5, 6, 7, 8, 9, 10, 11, 12, 13] := by decide
  have k : ∀ (i : Nat), decide (c = i) = decide ((i : Int) = (c : Int)) := fun i => decide_eq_decide.mpr (by omega)
  unfold kindE
  rw [e]
  simp only [List.map_cons, List.map_nil, k]
  simp [X_InvalidNumber, X_InvalidLocks, X_InvalidKeys, X_InvalidKind, X_InvalidCut, X_InvalidCuts, X_InvalidTable, X_InvalidPair, X_InvalidQuestion, X_InvalidClaim, X_Undefined, X_NothingToUndo]
  repeat' apply And.intro
  all_goals exact decide_eq_decide.mpr Iff.rfl
/-- the seven -/
def someV (a b c d : Int) : List D := [.int a, .str (PySem.Str.ofString "text " ++ PySem.Str.ofString b.repr), .tup [.int 1, .int c], .lst [.int d], .non, .bl true, .tup []]
theorem some_eq {a b c d : Int} {v : D} (h : v ∈ someV a b c d) : eqD v v = some true := by
  unfold someV at h
  simp only [List.mem_cons, List.not_mem_nil, or_false] at h
  rcases h with rfl | rfl | rfl | rfl | rfl | rfl | rfl <;> exact eqD_refl rfl rfl
theorem table_bad : md.Φ (n + 6) F_Table_init [.obj C_Table [], .val (.int 0), .val (.tup [])] = .exc X_InvalidNumber (.int 0) [some (.obj C_Table []), some (.val (.int 0)), some (.val (.tup []))] := by
  rw [phi_f (d := d_Table_init) rfl rfl]
  simp -implicitDefEqProofs +contextual (disch := first | omega | (simp -implicitDefEqProofs +contextual (disch := first | omega | (simp -implicitDefEqProofs +contextual (disch := omega) [d_Table_init, b_Table_init, outsA, within]; try omega; done)) [d_Table_init, b_Table_init, outsA, within]; try omega; done)) [-List.map_map, -List.any_map, -List.all_map, -List.any_filter, -List.all_filter, -List.length_flatMap, -List.all_eq_true, -List.any_eq_true, -List.all_eq_false, -List.any_eq_false, d_Table_init, b_Table_init, outsA, within]
@[simp] theorem ini_T : md.g.ini C_Table = F_Table_init := rfl
@[simp] theorem len_ten {v : D} : (tenE v).length = 10 := rfl
@[simp] theorem len_twelve {v : D} : (twelveE v).length = 12 := rfl
theorem l1 {r0 r1 r2 r4 j : Option R} {v : D} (hv : eqD v v = some true) : ∃ j', forE md.g (md.Φ n) (.one 5) b_law_L1 (tenE v) [r0, r1, r2, some (.val v), r4, j, none, none, none, none, none] = .nx [r0, r1, r2, some (.val v), r4, j', none, none, none, none, none] := by
  have k := for_chk (g := md.g) (Φ := md.Φ n) (tg := .one 5) (body := b_law_L1) (f := fun c : Nat => D.err c v) (j := j) (E := fun j : Option R => [r0, r1, r2, some (.val v), r4, j, none, none, none, none, none]) (fun _ => true) (.val (.bl false)) (xs := List.range 10) (by
    intro c hc j
    have h1 : c < md.g.nx := by have := List.mem_range.mp hc; show c < 12; omega
    have h2 := xf_v c (List.mem_range.mp hc)
    refine ⟨_, some (.val (.err c v)), rfl, ?_⟩
    simp -implicitDefEqProofs +contextual (disch := first | omega | (simp -implicitDefEqProofs +contextual (disch := first | omega | (simp -implicitDefEqProofs +contextual (disch := omega) [b_law_L1, h1, h2, hv]; try omega; done)) [b_law_L1, h1, h2, hv]; try omega; done)) [-List.map_map, -List.any_map, -List.all_map, -List.any_filter, -List.all_filter, -List.length_flatMap, -List.all_eq_true, -List.any_eq_true, -List.all_eq_false, -List.any_eq_false, b_law_L1, h1, h2, hv])
  obtain ⟨j', k⟩ := k
  exact ⟨j', k.trans (if_pos (by simp))⟩
theorem l2 {r0 r1 r2 r5 r6 r7 j : Option R} {v : D} : ∃ j', forE md.g (md.Φ (n + 1)) (.one 8) b_law_L0 ((irange 0 12).map D.int) [r0, r1, r2, some (.val v), some (.lst (twelveE v)), r5, r6, r7, j, none, none] = .nx [r0, r1, r2, some (.val v), some (.lst (twelveE v)), r5, r6, r7, j', none, none] := by
  have k := for_chk (g := md.g) (Φ := md.Φ (n + 1)) (tg := .one 8) (body := b_law_L0) (f := D.int) (j := j) (E := fun j : Option R => [r0, r1, r2, some (.val v), some (.lst (twelveE v)), r5, r6, r7, j, none, none]) (fun _ => true) (.val (.bl false)) (xs := irange 0 12) (by
    intro c hc j
    rw [mem_irange] at hc
    obtain ⟨m, rfl⟩ : ∃ m : Nat, c = m := ⟨c.toNat, by omega⟩
    have hm : m < 12 := by omega
    have kk := kinds_t (n := n) (v := v) hm
    have e1 : idxD (.lst (twelveE v)) (.int (m : Int)) = some (.err m v) := by
      have : ∀ m : Nat, m < 12 → idxD (.lst (twelveE v)) (.int (m : Int)) = some (.err m v) := by
        intro m hm
        have hh : m = 0 ∨ m = 1 ∨ m = 2 ∨ m = 3 ∨ m = 4 ∨ m = 5 ∨ m = 6 ∨ m = 7 ∨ m = 8 ∨ m = 9 ∨ m = 10 ∨ m = 11 := by omega
        rcases hh with rfl | rfl | rfl | rfl | rfl | rfl | rfl | rfl | rfl | rfl | rfl | rfl <;> rfl
      exact this m hm
    have e2 : ∀ ρ : Env, True := fun _ => trivial
    refine ⟨_, some (.val (.int m)), rfl, ?_⟩
    have kc := comp1_all (g := md.g) (Φ := md.Φ (n + 1)) (ρ := [r0, r1, r2, some (.val v), some (.lst (twelveE v)), r5, r6, r7, some (.val (.int (m : Int))), none, none]) (i := 10) (elt := .bop false (.cons (.cmp .Eq (.var 10) (.var 8)) (.cons (.cmp .GtE (.var 10) (.cb .len (.cons (.var 4) .nil))) .nil))) (f := D.int) (xs := irange 0 14) (fun j => D.bl (decide (j = (m : Int)) || decide (12 ≤ j))) (by simp) (by simp) (by
      intro j hj
      by_cases hjm : j = (m : Int)
      · simp -implicitDefEqProofs +contextual (disch := first | omega | (simp -implicitDefEqProofs +contextual (disch := first | omega | (simp -implicitDefEqProofs +contextual (disch := omega) [hjm]; try omega; done)) [hjm]; try omega; done)) [-List.map_map, -List.any_map, -List.all_map, -List.any_filter, -List.all_filter, -List.length_flatMap, -List.all_eq_true, -List.any_eq_true, -List.all_eq_false, -List.any_eq_false, hjm]
      · simp -implicitDefEqProofs +contextual (disch := first | omega | (simp -implicitDefEqProofs +contextual (disch := first | omega | (simp -implicitDefEqProofs +contextual (disch := omega) [hjm]; try omega; done)) [hjm]; try omega; done)) [-List.map_map, -List.any_map, -List.all_map, -List.any_filter, -List.all_filter, -List.length_flatMap, -List.all_eq_true, -List.any_eq_true, -List.all_eq_false, -List.any_eq_false, hjm])
    simp -implicitDefEqProofs +contextual (disch := first | omega | (simp -implicitDefEqProofs +contextual (disch := first | omega | (simp -implicitDefEqProofs +contextual (disch := omega) [b_law_L0, kk, e1, -q_comp1]; try omega; done)) [b_law_L0, kk, e1, -q_comp1]; try omega; done)) [-List.map_map, -List.any_map, -List.all_map, -List.any_filter, -List.all_filter, -List.length_flatMap, -List.all_eq_true, -List.any_eq_true, -List.all_eq_false, -List.any_eq_false, b_law_L0, kk, e1, -q_comp1]
    rw [kc]
    have ke : D.eqvs (((irange 0 14).map fun x => decide (x = (m : Int)) || decide (12 ≤ x)).map D.bl) (((irange 0 14).map fun x => decide (x = (m : Int)) || decide (12 ≤ x)).map D.bl) = true := eqv_refl (d := .lst (((irange 0 14).map fun x => decide (x = (m : Int)) || decide (12 ≤ x)).map D.bl)) rfl
    unfold kindE
    simp -implicitDefEqProofs +contextual (disch := first | omega | (simp -implicitDefEqProofs +contextual (disch := first | omega | (simp -implicitDefEqProofs +contextual (disch := omega) [ke]; try omega; done)) [ke]; try omega; done)) [-List.map_map, -List.any_map, -List.all_map, -List.any_filter, -List.all_filter, -List.length_flatMap, -List.all_eq_true, -List.any_eq_true, -List.all_eq_false, -List.any_eq_false, ke])
  obtain ⟨j', k⟩ := k
  exact ⟨j', k.trans (if_pos (by simp))⟩
theorem law_t {ns : List Int} (hn : ns.length ≤ 63) : (md.Φ (n + 8) F_law [.val (.lst (ns.map .int))]).v = .ok (.val (.bl true)) := by
  have b0 := boxS_ok (ns := ns) (k := 0) (by omega)
  have b1 := tk_ok b0 (m := 1000000) (by omega)
  have b2 := tk_ok b1 (m := 99) (by omega)
  have b3 := tk_ok b2 (m := 9) (by omega)
  have b4 := tk_ok b3 (m := 9) (by omega)
  have i2 := tk_in (B := (tk (boxS ns 0) 1000000).2) (m := 99) (by omega)
  have lg : (tk (tk (boxS ns 0) 1000000).2 99).1.natAbs.log2 < 1920 := by
    have := Nat.log2_le_self (tk (tk (boxS ns 0) 1000000).2 99).1.natAbs
    omega
  have ln : (PySem.Str.ofString "text ").length + (PySem.Str.ofString (tk (tk (boxS ns 0) 1000000).2 99).1.repr).length ≤ 16777216 := by
    generalize (tk (tk (boxS ns 0) 1000000).2 99).1 = z at i2
    obtain ⟨m, rfl⟩ : ∃ m : Nat, z = m := ⟨z.toNat, by omega⟩
    have hm : m < 99 := by omega
    have : ∀ m : Nat, m < 99 → (PySem.Str.ofString "text ").length + (PySem.Str.ofString (m : Int).repr).length ≤ 16777216 := by decide +kernel
    exact this m hm
  have kt := table_bad (n := n + 1)
  have kp := law_pick (n := n + 5) (f := id) (l := someV ((tk (boxS ns 0) 1000000).1 - 500000) (tk (tk (boxS ns 0) 1000000).2 99).1 (tk (tk (tk (boxS ns 0) 1000000).2 99).2 9).1 (tk (tk (tk (tk (boxS ns 0) 1000000).2 99).2 9).2 9).1) b4 (by show (0 : Nat) < 7; omega) (by show (7 : Nat) < 1073741824; omega)
  have hv := some_eq (ix_mem (xs := someV ((tk (boxS ns 0) 1000000).1 - 500000) (tk (tk (boxS ns 0) 1000000).2 99).1 (tk (tk (tk (boxS ns 0) 1000000).2 99).2 9).1 (tk (tk (tk (tk (boxS ns 0) 1000000).2 99).2 9).2 9).1) (tk_in (B := (tk (tk (tk (tk (boxS ns 0) 1000000).2 99).2 9).2 9).2) (m := 7) (by omega)).1 (tk_in (B := (tk (tk (tk (tk (boxS ns 0) 1000000).2 99).2 9).2 9).2) (m := 7) (by omega)).2)
  rw [List.map_id] at kp
  obtain ⟨v, kp, hv⟩ : ∃ v, (md.Φ (n + 7) F__law_pick [.lst (bx (tk (tk (tk (tk (boxS ns 0) 1000000).2 99).2 9).2 9).2), .lst (someV ((tk (boxS ns 0) 1000000).1 - 500000) (tk (tk (boxS ns 0) 1000000).2 99).1 (tk (tk (tk (boxS ns 0) 1000000).2 99).2 9).1 (tk (tk (tk (tk (boxS ns 0) 1000000).2 99).2 9).2 9).1)] = .ok (.val v) [some (.lst (bx (tk (tk (tk (tk (tk (boxS ns 0) 1000000).2 99).2 9).2 9).2 7).2)), some (.lst (someV ((tk (boxS ns 0) 1000000).1 - 500000) (tk (tk (boxS ns 0) 1000000).2 99).1 (tk (tk (tk (boxS ns 0) 1000000).2 99).2 9).1 (tk (tk (tk (tk (boxS ns 0) 1000000).2 99).2 9).2 9).1))]) ∧ eqD v v = some true := ⟨_, kp, hv⟩
  unfold someV at kp
  rw [phi_v (d := d_law) rfl rfl]
  simp -implicitDefEqProofs +contextual (disch := first | omega | (simp -implicitDefEqProofs +contextual (disch := first | omega | (simp -implicitDefEqProofs +contextual (disch := omega) [d_law, b_law, hn, b0, b1, b2, b3, b4, lg, ln]; try omega; done)) [d_law, b_law, hn, b0, b1, b2, b3, b4, lg, ln]; try omega; done)) [-List.map_map, -List.any_map, -List.all_map, -List.any_filter, -List.all_filter, -List.length_flatMap, -List.all_eq_true, -List.any_eq_true, -List.all_eq_false, -List.any_eq_false, d_law, b_law, hn, b0, b1, b2, b3, b4, lg, ln]
  rw [bb_call rfl rfl (by decide), kp]
  have lo := ones_t (n := n + 6) (v := v)
  have ht : tenE v ++ [.err X_Undefined v, .err X_NothingToUndo v] = twelveE v := rfl
  simp -implicitDefEqProofs +contextual (disch := first | omega | (simp -implicitDefEqProofs +contextual (disch := first | omega | (simp -implicitDefEqProofs +contextual (disch := omega) [lo]; try omega; done)) [lo]; try omega; done)) [-List.map_map, -List.any_map, -List.all_map, -List.any_filter, -List.all_filter, -List.length_flatMap, -List.all_eq_true, -List.any_eq_true, -List.all_eq_false, -List.any_eq_false, lo]
  obtain ⟨j5, k1⟩ := l1 (n := n + 7) (r0 := some (.val (.lst (ns.map .int)))) (r1 := some (.lst (bx (tk (tk (tk (tk (tk (boxS ns 0) 1000000).2 99).2 9).2 9).2 7).2))) (r2 := some (.lst (someV ((tk (boxS ns 0) 1000000).1 - 500000) (tk (tk (boxS ns 0) 1000000).2 99).1 (tk (tk (tk (boxS ns 0) 1000000).2 99).2 9).1 (tk (tk (tk (tk (boxS ns 0) 1000000).2 99).2 9).2 9).1))) (r4 := some (.val (.lst (tenE v)))) (j := none) hv
  unfold someV at k1
  rw [k1]
  have nu : X_Undefined < md.g.nx := by decide
  have nw : X_NothingToUndo < md.g.nx := by decide
  simp -implicitDefEqProofs +contextual (disch := first | omega | (simp -implicitDefEqProofs +contextual (disch := first | omega | (simp -implicitDefEqProofs +contextual (disch := omega) [hv, xf_w, xf_u, ht, nu, nw]; try omega; done)) [hv, xf_w, xf_u, ht, nu, nw]; try omega; done)) [-List.map_map, -List.any_map, -List.all_map, -List.any_filter, -List.all_filter, -List.length_flatMap, -List.all_eq_true, -List.any_eq_true, -List.all_eq_false, -List.any_eq_false, hv, xf_w, xf_u, ht, nu, nw]
  obtain ⟨j8, k2⟩ := l2 (n := n + 6) (r0 := some (.val (.lst (ns.map .int)))) (r1 := some (.lst (bx (tk (tk (tk (tk (tk (boxS ns 0) 1000000).2 99).2 9).2 9).2 7).2))) (r2 := some (.lst (someV ((tk (boxS ns 0) 1000000).1 - 500000) (tk (tk (boxS ns 0) 1000000).2 99).1 (tk (tk (tk (boxS ns 0) 1000000).2 99).2 9).1 (tk (tk (tk (tk (boxS ns 0) 1000000).2 99).2 9).2 9).1))) (r5 := j5) (r6 := some (.val (.err X_Undefined v))) (r7 := some (.val (.err X_NothingToUndo v))) (j := none) (v := v)
  unfold someV at k2
  rw [k2]
  have q1 : X_InvalidNumber < md.g.nx := by decide
  have q2 : md.g.isa X_InvalidNumber X_LockError = true := by decide
  have q3 : md.g.isa X_InvalidNumber X_InvalidNumber = true := by decide
  have q4 : md.g.xf X_InvalidNumber = "value" := rfl
  have q5 : eqD (.int 0) (.int 0) = some true := rfl
  simp -implicitDefEqProofs +contextual (disch := first | omega | (simp -implicitDefEqProofs +contextual (disch := first | omega | (simp -implicitDefEqProofs +contextual (disch := omega) [b_law_T0, kt, evHs, HE.ev, q1, q2, q3, q4, q5]; try omega; done)) [b_law_T0, kt, evHs, HE.ev, q1, q2, q3, q4, q5]; try omega; done)) [-List.map_map, -List.any_map, -List.all_map, -List.any_filter, -List.all_filter, -List.length_flatMap, -List.all_eq_true, -List.any_eq_true, -List.all_eq_false, -List.any_eq_false, b_law_T0, kt, evHs, HE.ev, q1, q2, q3, q4, q5]
theorem tr {ns : List Int} (hn : ns.length ≤ 63) : ∃ outs, md.Φ 8 F_law [.val (.lst (ns.map .int))] = .ok (.val (.bl true)) outs := v_ok (law_t (n := 0) hn)
end KL
end
section
set_option linter.all false
set_option Elab.async false
set_option maxRecDepth 100000
set_option maxHeartbeats 0
open PySem PySem.W PySem.Calls PyProof.Rows
theorem ended (tr : ∀ ns : List Int, ns.length ≤ 63 → ∃ outs, KL.md.Φ 8 KL.F_law [.val (.lst (ns.map .int))] = .ok (.val (.bl true)) outs) : PySem.Challenge.rw_chambercuts_k01_errors.Holds := by
  w_on; o_law
  refine HandSHeadRun.head_any (r := OpenLaw.row PySem.Challenge.rw_chambercuts_k01_errors) (q := view (OpenLaw.row PySem.Challenge.rw_chambercuts_k01_errors).prog [32]) (H := KH.hk) (ob := KH.ob) (M := 30000) (loose := KH.names) (d := HandSHeadRun.topDef (OpenLaw.row PySem.Challenge.rw_chambercuts_k01_errors).prog 32) (kwd := []) KH.ob_eq
    (by kernel_rfl) (fun s => by kernel_rfl) KH.run (by kernel_rfl) (by kernel_rfl) (by kernel_rfl) (by rfl) (by first | assumption | decide +kernel) (by decide +kernel) ⟨rfl, rfl, rfl, rfl, rfl, by decide +kernel⟩ ?hw ?hc
  case hw => w_witness2
  case hc =>
    refine L2.walk_ofE (l := PySem.Challenge.rw_chambercuts_k01_errors) (n := 63) (k := 2 * 8 + 2) (x := "script") (CX := Fx.CXu PySem.Challenge.rw_chambercuts_k01_errors.prog) rfl (by decide) (by kernel_rfl) ⟨rfl, by decide, by decide⟩ ?F Fx.CXu_no
    intro w mg fa h Y G hmg0
    have hmg : mg ("law" : PySem.Str) = some (.ref fa) := by
      have e : (HandSHeadRun.topDef (OpenLaw.row PySem.Challenge.rw_chambercuts_k01_errors).prog 32).name = ("law" : PySem.Str) := by kernel_rfl
      rw [← e]
      exact hmg0
    exact Fx.law_F (md := KL.md) (n := 8) (f := KL.F_law) (d := KL.d_law) (x := "script") (np := 1) Y G hmg rfl rfl rfl rfl KL.t_shape KL.t_lnk KL.t_nb KL.t_ok KL.t_eok KL.t_ba KL.t_eba tr
end
theorem PySem.Challenge.cw_chambercuts_k01_errors_holds : PySem.Challenge.rw_chambercuts_k01_errors.Holds :=
  ended fun _ h => KL.tr h
