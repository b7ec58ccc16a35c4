import PyProof.Rows.All
import Wide.All
import OpenK.AllK
import Wide.FinOn
import HandS.ForMost
import HandS.ForExc
import HandS.ExcInit
import HandS.ExcValue
import HandS.Head0
import HandS.Head1
import HandS.Head2
import HandS.HeadEnd
import HandS.HeadHook1
import HandS.HeadHook2
import HandS.MakeKw
import HandS.IsInst
import KE.KExcIs
import HandS.SortInts
import HandS.Conv
import HandS.Walk
import HandS.Rev
import HandS.RevTup
import HandS.Iter
import KE.KDictZip
import HandS.Style
import HandS.HeadWalk
import HandS.Zip
import HandS.DictComp
import HandS.Defaults
import HandS.Hot
import HandS.HotCalls
import HandS.ExcValueHot
import HandS.ExcInitHot
import HandS.ExcIs
import PySem.Challenge.RW_foldflat_k95_errors_of_what_is_asked
set_option Elab.async false
set_option linter.all false
set_option maxRecDepth 100000
set_option Elab.async false
set_option linter.all false
set_option maxRecDepth 100000
/-! what the head is asked, told ahead of all else -/
namespace Fd
open PySem L2 PyProof.Rows
variable {φ : Type}
/-- which def a call of the small language means, which class -/
structure Lk (φ : Type) where
  fnm : φ → Str × Option Str
  on : φ → Bool
  cnm : Nat → Str
  fl : Nat → List Str
  con : Nat → Bool
  xin : Nat → Bool := fun _ => false
  x0 : Nat → Bool := fun _ => false
  xmro : Nat → List Nat := fun _ => []
  /-- the def that tells an error's kinds, row by row -/
  kin : Option (Str × List (List Nat)) := none
def bnames : List Str := ["len", "sum", "min", "max", "abs", "int", "all", "any", "list", "tuple", "sorted", "range", "enumerate", "zip", "reversed", "isinstance", "str", "dict", "bool", "ValueError", "KeyError", "IndexError", "TypeError"]
def veB : List Value := [.type "ValueError", .type "Exception", .type "BaseException", .type "object"]
def xcB (L : Lk φ) (c : Nat) : Bool := L.xin c || L.x0 c
def fnd (K : PySem.W.Frag) (a : Addr) (f : Str) (v : Option Value) : Bool := decide (PySem.W.findIn K (.ref a) f = some v)
def xcChk (K : PySem.W.Frag) (a : Addr) : Bool :=
  (PySem.W.clsIn K a).isSome && fnd K a "__getattribute__" (some (.builtin "BaseException.__getattribute__")) && fnd K a "__getattr__" none && decide (PySem.W.subIn K (.ref a) (.type "BaseException") = some true) &&
  fnd K a "__class__" (some (.builtin "object.__class__")) && decide (PySem.W.specialIn K (.builtin "object.__class__") "__get__" = some (some (.builtin "getset_descriptor.__get__"))) && decide (PySem.W.takesIn K (.builtin "object.__class__") = some true) &&
  decide (PySem.W.mroIn K a (.type "object") = some true) && decide (PySem.W.typeIn K (.ref a) = some (.type "type")) && PySem.W.hasDictIn K a && PySem.W.keepIn K (.ref a)
def oexB (K : PySem.W.Frag) (a : Addr) : Bool := match K.lookup a with
  | some ⟨.type "type", _, .cls cd, sl⟩ => (match cd.mro, sl.toList with
    | .ref a' :: bm, [_, _, _, _, some (.builtin n), _] => a' == a && n == "ValueError.__new__" && !cd.hasDel && cd.hasDict && PySem.HandSPX.refsVE bm
    | _, _ => false)
  | _ => false
def xiChk (K : PySem.W.Frag) (a : Addr) (f : Str) : Bool :=
  oexB K a && fnd K a "__setattr__" (some (.builtin "object.__setattr__")) && fnd K a "__init__" (some (.ref (He.ma K a "__init__"))) && decide (PySem.W.typeIn K (.ref (He.ma K a "__init__")) = some (.type "function")) && fnd K a f none
def mroChk (K : PySem.W.Frag) (as : List Addr) : Bool := match as with
  | a :: _ => (match PySem.W.clsIn K a with
    | some cd => decide (cd.mro = as.map Value.ref ++ veB)
    | none => false)
  | [] => false
/-- of one exception class -/
def xcP (L : Lk φ) (K : PySem.W.Frag) (c : Nat) : Bool := (He.Fa.glo (L.cnm c)).ok K && xcChk K (He.ga K (L.cnm c)) && mroChk K ((L.xmro c).map fun b => He.ga K (L.cnm b)) &&
    (if L.xin c then xiChk K (He.ga K (L.cnm c)) ((L.fl c).headD Str.empty) else PySem.W.excIn K (He.ga K (L.cnm c)) veB "ValueError.__new__")
def ndX (L : Lk φ) (xs : List Nat) (K : PySem.W.Frag) : Bool := decide ((xs.map fun c => He.ga K (L.cnm c)).Nodup)
def lkChkX (L : Lk φ) (xs : List Nat) (K : PySem.W.Frag) : Bool := ndX L xs K && xs.all (xcP L K)
abbrev FnW := He.FnW
def obsL (chk : PySem.W.Frag → Bool) (fn : List He.DefD) (K : PySem.W.Frag) : He.AlD := (chk K && fn.all fun d => d.ok K, fn.map fun d => He.fnW K d.at_)
def SaysL (chk : PySem.W.Frag → Bool) (fn : List He.DefD) (K : PySem.W.Frag) : Prop := obsL chk fn K = He.valD fn
/-- what the module's names reach: defs, classes, their dicts, code objects -/
def refsP (o : Obj) : List Addr := match o.data with
  | .dict es _ => es.toList.flatMap fun e => He.refV e.val
  | .func fd => He.refV fd.code
  | .cls cd => [cd.ns]
  | _ => []
def asP (g : Addr → Option Obj) : Nat → List Addr → List Addr
  | 0, l => l
  | n + 1, l => l ++ asP g n (l.flatMap fun a => match g a with
    | some o => refsP o
    | none => [])
def frP (n : Nat) (g : Addr → Option Obj) : PySem.W.Frag := He.frG g (asP g n [mainGlobals])
def obsLG (n : Nat) (chk : PySem.W.Frag → Bool) (fn : List He.DefD) (g : Addr → Option Obj) : He.AlD := obsL chk fn (frP n g)
def hookL (n : Nat) (chk : PySem.W.Frag → Bool) (fn : List He.DefD) : PySem.W.Hook where
  α := He.AlD
  obs := fun s => obsLG n chk fn s.heap.get?
  val := fun _ => He.valD fn
  says := fun _ h => ∃ K : PySem.W.Frag, K.In h ∧ SaysL chk fn K
  of := fun _ _ e => ⟨_, He.frG_in, e⟩
  keeps := fun _ _ _ ⟨K, hK, c⟩ k => ⟨K, PySem.W.Frag.In.keeps hK k, c⟩
theorem obsLG_eq {n : Nat} {chk : PySem.W.Frag → Bool} {fn : List He.DefD} {g : Addr → Option Obj} {s : Shared} (h : ∀ a, g a = s.heap.get? a) : obsLG n chk fn g = (hookL n chk fn).obs s := by
  have e : g = s.heap.get? := funext h
  rw [e] <;> rfl
def tyL6 : List String := ["int", "bool", "str", "list", "tuple", "dict"]
def tyL7 : List String := ["NoneType", "int", "bool", "str", "list", "tuple", "dict"]
/-- of a class -/
def clsX (K : PySem.W.Frag) (a : Addr) : Bool :=
  decide (PySem.W.findIn K (.ref a) "__class__" = some (some (.builtin "object.__class__"))) && decide (PySem.W.specialIn K (.builtin "object.__class__") "__get__" = some (some (.builtin "getset_descriptor.__get__"))) &&
  decide (PySem.W.takesIn K (.builtin "object.__class__") = some true) && decide (PySem.W.mroIn K a (.type "object") = some true) &&
  (tyL6.all fun T => decide (PySem.W.kitOne K (.ref a) (.type T) = some false)) && (tyL7.all fun T => decide (PySem.W.kitOne K (.type T) (.ref a) = some false))
def fnChk (L : Lk φ) (K : PySem.W.Frag) (f : φ) : Bool := match L.fnm f with
  | (x, none) => (He.Fa.glo x).ok K && (He.Fa.keep x).ok K
  | (x, some m) => if m = ("__init__" : Str) then (He.Fa.mkr x).ok K else (He.Fa.meth x m).ok K
def lkChk (L : Lk φ) (fs : List φ) (cs : List Nat) (K : PySem.W.Frag) : Bool :=
  fs.all (fnChk L K) && (cs.all fun c => (He.Fa.glo (L.cnm c)).ok K && (He.Fa.cls (L.cnm c)).ok K && clsX K (He.ga K (L.cnm c)) && (L.fl c).all fun f => (He.Fa.noat (L.cnm c) f).ok K) &&
  bnames.all fun x => (He.Fa.free x).ok K
def chkL (L : Lk φ) (fs : List φ) (cs xs : List Nat) : PySem.W.Frag → Bool := fun K => lkChk L fs cs K && lkChkX L xs K
/-! ### the run of the top, asked in parts -/
section
open PySem.W PySem.Calls
def RunG {α : Type} (r : OpenRow) (M : Nat) (w : World) (f : SharedT → α) (v : α) : Prop :=
  ∀ os : OsState, (HandSHeadRun.endF (HandSHeadRun.stepQ (HandSHeadRun.denQ HandSHeadRun.tabQ) r.prog w) M r.prog w os).map f = some v
abbrev Kf (s : SharedT) : Frag := frP 4 (HandSHeadRun.getT s)
def RunP (r : OpenRow) (M : Nat) (w : World) (P : SharedT → Prop) : Prop :=
  ∀ os : OsState, ∃ s, HandSHeadRun.endF (HandSHeadRun.stepQ (HandSHeadRun.denQ HandSHeadRun.tabQ) r.prog w) M r.prog w os = some s ∧ P s
theorem RunG.p {α : Type} {r : OpenRow} {M : Nat} {w : World} {f : SharedT → α} {a : α} (h : RunG r M w f a) : RunP r M w fun s => f s = a := fun os => Option.map_eq_some_iff.mp (h os)
theorem RunP.and {r : OpenRow} {M : Nat} {w : World} {P Q : SharedT → Prop} (h : RunP r M w P) (k : RunP r M w Q) : RunP r M w fun s => P s ∧ Q s := fun os => by
  obtain ⟨s, e, a⟩ := h os
  obtain ⟨s2, e2, b⟩ := k os
  rw [e] at e2
  cases e2
  exact ⟨s, e, a, b⟩
theorem all_cut {α : Type} {p : α → Bool} {l : List α} (n : Nat) (h1 : (l.take n).all p = true) (h2 : (l.drop n).all p = true) : l.all p = true := by
  rw [← List.take_append_drop n l, List.all_append, h1, h2]; rfl
theorem map_cut {α β : Type} {f g : α → β} {l : List α} (n : Nat) (h1 : (l.take n).map f = (l.take n).map g) (h2 : (l.drop n).map f = (l.drop n).map g) : l.map f = l.map g := by
  rw [← List.take_append_drop n l, List.map_append, List.map_append, h1, h2]
end
end Fd

set_option maxHeartbeats 0
namespace LW
open PySem L2 Fd
abbrev R : PySem.W.OpenRow := PySem.W.OpenLaw.row PySem.Challenge.rw_foldflat_k95_errors_of_what_is_asked
abbrev qv : Program := PySem.W.view R.prog [86]
def names0 : List PySem.Str := ["FoldError", "BadOrder", "BadStep", "BadSteps", "BadLock", "NotTold", "BadAnswer", "BadAnswerText", "BadWholeText", "BadCases", "BadFreed", "BadPrices", "NotFolding", "BadWants", "BadIndex", "NotFree", "BadMany", "BadCell", "BadGap", "BadCells"]
def names1 : List PySem.Str := ["NotEqual", "BadPages", "BadFaces", "BadFolded", "BadFold", "BadFolds", "NotOdd", "NotPaired", "NotClosed", "BadEdit", "BadDesk", "BadDeskText", "NothingToUndo", "NothingToRedo", "BadLengths", "BadCreases", "BadStrip", "BadRing", "BadCrease", "BadSegment"]
def names2 : List PySem.Str := ["BadLetter", "BadLetters", "BadFirst", "BadLast", "BadOther", "BadStripText", "BadRingText", "BadLayers", "BadPlace", "BadRows", "BadColumns", "BadAcross", "BadDown", "BadSheet", "BadLine", "BadLines", "NotEven", "BadTimes", "BadLength", "BadOne"]
def names3 : List PySem.Str := ["BadTwo", "BadStrips", "BadStarts", "BadStack", "BadLayer", "BadSquare", "BadPile", "_law_start", "_law_pick", "_law_between", "_law_same", "_law_kinds_of", "_law_others", "_law_is_other", "_law_made_a", "_law_made_b", "_law_made_c", "_law_made_d", "_law_made_at", "_law_object"]
def names4 : List PySem.Str := ["_law_very", "_law_caught"]
def names : List PySem.Str := names0 ++ names1 ++ names2 ++ names3 ++ names4
def pbody : List Stmt := PySem.Challenge.pw_foldflat_k95_errors_of_what_is_asked.main.body
def top (i : Nat) : Stmt := pbody.getD i (.Pass ⟨0, 0, 0, 0⟩)
def clsB : Stmt → List Stmt
  | .ClassDef (body := b) .. => b
  | _ => []
def sub (i j : Nat) : Stmt := (clsB (top i)).getD j (.Pass ⟨0, 0, 0, 0⟩)
inductive Fid where
  | f_law_start | f_law_pick | f_law_between | f_law_same | f_law_kinds_of | f_law_others | f_law_is_other | f_law_made_a | f_law_made_b | f_law_made_c | f_law_made_d | f_law_made_at | f_law_object | f_law_very | f_law_caught | f_law | z
  deriving DecidableEq
def fnm : Fid → Str × Option Str
  | .f_law_start => ("_law_start", none)
  | .f_law_pick => ("_law_pick", none)
  | .f_law_between => ("_law_between", none)
  | .f_law_same => ("_law_same", none)
  | .f_law_kinds_of => ("_law_kinds_of", none)
  | .f_law_others => ("_law_others", none)
  | .f_law_is_other => ("_law_is_other", none)
  | .f_law_made_a => ("_law_made_a", none)
  | .f_law_made_b => ("_law_made_b", none)
  | .f_law_made_c => ("_law_made_c", none)
  | .f_law_made_d => ("_law_made_d", none)
  | .f_law_made_at => ("_law_made_at", none)
  | .f_law_object => ("_law_object", none)
  | .f_law_very => ("_law_very", none)
  | .f_law_caught => ("_law_caught", none)
  | .f_law => ("law", none)
  | .z => ("", none)
def onB : Fid → Bool
  | .z => false
  | _ => true
def cnms0 : List Str := ["FoldError", "BadOrder", "BadStep", "BadSteps", "BadLock", "NotTold", "BadAnswer", "BadAnswerText", "BadWholeText", "BadCases", "BadFreed", "BadPrices", "NotFolding", "BadWants", "BadIndex", "NotFree", "BadMany", "BadCell", "BadGap", "BadCells"]
def cnms1 : List Str := ["NotEqual", "BadPages", "BadFaces", "BadFolded", "BadFold", "BadFolds", "NotOdd", "NotPaired", "NotClosed", "BadEdit", "BadDesk", "BadDeskText", "NothingToUndo", "NothingToRedo", "BadLengths", "BadCreases", "BadStrip", "BadRing", "BadCrease", "BadSegment"]
def cnms2 : List Str := ["BadLetter", "BadLetters", "BadFirst", "BadLast", "BadOther", "BadStripText", "BadRingText", "BadLayers", "BadPlace", "BadRows", "BadColumns", "BadAcross", "BadDown", "BadSheet", "BadLine", "BadLines", "NotEven", "BadTimes", "BadLength", "BadOne"]
def cnms3 : List Str := ["BadTwo", "BadStrips", "BadStarts", "BadStack", "BadLayer", "BadSquare", "BadPile"]
def cnms : List Str := cnms0 ++ cnms1 ++ cnms2 ++ cnms3
def fls0 : List (List Str) := [[], ["order"], ["step"], ["index"], ["lock"], ["strip"], ["answer"], ["line"], ["line"], ["rows"], ["some"], ["prices"], ["strip"], ["wants"], ["index"], ["strip"], ["many"], ["cell"], ["gap"], ["cells"]]
def fls1 : List (List Str) := [["strip"], ["pages"], ["faces"], ["some"], ["fold"], ["index"], ["some"], ["some"], ["some"], ["edit"], ["desk"], ["line"], [], [], ["index"], ["index"], ["strip"], ["ring"], ["crease"], ["segment"]]
def fls2 : List (List Str) := [["letter"], ["letters"], ["start"], ["last"], ["other"], ["line"], ["line"], ["order"], ["place"], ["many"], ["many"], ["index"], ["index"], ["sheet"], ["line"], ["index"], ["strip"], ["times"], ["length"], ["one"]]
def fls3 : List (List Str) := [["two"], ["index"], ["index"], ["stack"], ["layer"], ["square"], ["pile"]]
def fls : List (List Str) := fls0 ++ fls1 ++ fls2 ++ fls3
def xmros0 : List (List Nat) := [[0], [1, 0], [2, 0], [3, 0], [4, 0], [5, 0], [6, 0], [7, 0], [8, 0], [9, 0], [10, 0], [11, 0], [12, 0], [13, 0], [14, 0], [15, 0], [16, 0], [17, 0], [18, 0], [19, 0]]
def xmros1 : List (List Nat) := [[20, 0], [21, 0], [22, 0], [23, 0], [24, 0], [25, 0], [26, 0], [27, 0], [28, 0], [29, 0], [30, 0], [31, 0], [32, 0], [33, 0], [34, 0], [35, 0], [36, 0], [37, 0], [38, 0], [39, 0]]
def xmros2 : List (List Nat) := [[40, 0], [41, 0], [42, 0], [43, 0], [44, 0], [45, 0], [46, 0], [47, 0], [48, 0], [49, 0], [50, 0], [51, 0], [52, 0], [53, 0], [54, 0], [55, 0], [56, 0], [57, 0], [58, 0], [59, 0]]
def xmros3 : List (List Nat) := [[60, 0], [61, 0], [62, 0], [63, 0], [64, 0], [65, 0], [66, 0]]
def xmros : List (List Nat) := xmros0 ++ xmros1 ++ xmros2 ++ xmros3
def kin0 : Option (Str × List (List Nat)) := some ("_law_kinds_of", [[10, 11, 12, 13], [14, 15, 16, 17], [18, 19, 20, 21], [22, 23, 24, 25], [26, 27, 28, 29], [30, 31, 32, 33]])
def Lk0 : Lk Fid := ⟨fnm, onB, fun c => cnms.getD c "", fun c => fls.getD c [], fun c => decide (67 ≤ c) && decide (c < 67), fun c => decide (c < 67) && decide ((fls.getD c []).length = 1), fun c => decide (c < 67) && decide ((fls.getD c []).length = 0), fun c => xmros.getD c [], kin0⟩
def stm : Fid → Stmt
  | .f_law_start => top 71
  | .f_law_pick => top 72
  | .f_law_between => top 73
  | .f_law_same => top 74
  | .f_law_kinds_of => top 75
  | .f_law_others => top 76
  | .f_law_is_other => top 77
  | .f_law_made_a => top 78
  | .f_law_made_b => top 79
  | .f_law_made_c => top 80
  | .f_law_made_d => top 81
  | .f_law_made_at => top 82
  | .f_law_object => top 83
  | .f_law_very => top 84
  | .f_law_caught => top 85
  | .f_law => top 86
  | .z => top 0
def qn : Fid → Str
  | .f_law_start => "_law_start"
  | .f_law_pick => "_law_pick"
  | .f_law_between => "_law_between"
  | .f_law_same => "_law_same"
  | .f_law_kinds_of => "_law_kinds_of"
  | .f_law_others => "_law_others"
  | .f_law_is_other => "_law_is_other"
  | .f_law_made_a => "_law_made_a"
  | .f_law_made_b => "_law_made_b"
  | .f_law_made_c => "_law_made_c"
  | .f_law_made_d => "_law_made_d"
  | .f_law_made_at => "_law_made_at"
  | .f_law_object => "_law_object"
  | .f_law_very => "_law_very"
  | .f_law_caught => "_law_caught"
  | .f_law => "law"
  | .z => ""
def dd (f : Fid) : He.DefD := ⟨fnm f, (match (fnm f).2 with | none => (fnm f).1 | some m => m), qn f, defArgs (stm f), defBody (stm f), defScope (stm f), [], []⟩
def fs0 : List Fid := [.f_law_start, .f_law_pick, .f_law_between, .f_law_same, .f_law_kinds_of, .f_law_others, .f_law_is_other, .f_law_made_a, .f_law_made_b, .f_law_made_c, .f_law_made_d, .f_law_made_at, .f_law_object, .f_law_very, .f_law_caught, .f_law]
def fs : List Fid := fs0
def xstm0 : List Stmt := [(top 0), (sub 2 0), (sub 3 0), (sub 4 0), (sub 5 0), (sub 6 0), (sub 7 0), (sub 8 0), (sub 9 0), (sub 10 0), (sub 12 0), (sub 13 0), (sub 14 0), (sub 15 0), (sub 16 0), (sub 17 0), (sub 18 0), (sub 19 0), (sub 20 0), (sub 21 0)]
def xstm1 : List Stmt := [(sub 22 0), (sub 23 0), (sub 24 0), (sub 25 0), (sub 26 0), (sub 27 0), (sub 28 0), (sub 29 0), (sub 30 0), (sub 31 0), (sub 32 0), (sub 33 0), (top 0), (top 0), (sub 37 0), (sub 38 0), (sub 39 0), (sub 40 0), (sub 41 0), (sub 42 0)]
def xstm2 : List Stmt := [(sub 43 0), (sub 44 0), (sub 45 0), (sub 46 0), (sub 47 0), (sub 48 0), (sub 49 0), (sub 50 0), (sub 51 0), (sub 52 0), (sub 53 0), (sub 54 0), (sub 55 0), (sub 56 0), (sub 57 0), (sub 58 0), (sub 59 0), (sub 60 0), (sub 61 0), (sub 62 0)]
def xstm3 : List Stmt := [(sub 63 0), (sub 64 0), (sub 65 0), (sub 66 0), (sub 67 0), (sub 68 0), (sub 69 0)]
def xstm : List Stmt := xstm0 ++ xstm1 ++ xstm2 ++ xstm3
def xst (c : Nat) : Stmt := xstm.getD c (top 0)
def dx (c : Nat) : He.DefD := ⟨(cnms.getD c "", some "__init__"), "__init__", (cnms.getD c "") ++ (".__init__" : Str), defArgs (xst c), defBody (xst c), defScope (xst c), [], []⟩
def csL : List Nat := (List.range 0).map fun i => i + 67
def xsL : List Nat := List.range 67
def fnL : List He.DefD := fs.map dd ++ (xsL.filter Lk0.xin).map dx
end LW
namespace LW
open PySem PySem.W PySem.Calls PyProof.Rows
abbrev HM : Nat := 40000
theorem hdA (w : World) : Fd.RunG R HM w (fun s => (HandSHeadRun.looksF R.prog (boot_heap w.params) s.abs, Fd.lkChk Lk0 fs csL (Fd.Kf s))) (true, true) := by
  intro os
  kernel_rfl
theorem hdS (w : World) : Fd.RunG R HM w (fun s => HandSHeadRun.seenQ qv names (importedModules R.prog.main.body) (fun s => xlAt qv [] s && recOk R.toRowW.records s) s.abs) (openGood qv names) := by
  intro os
  kernel_rfl
theorem hdN (w : World) : Fd.RunG R HM w (fun s => Fd.ndX Lk0 xsL (Fd.Kf s)) true := by
  intro os
  kernel_rfl
theorem hdQ0 (w : World) : Fd.RunG R HM w (fun s => ((xsL.take 17).all (Fd.xcP Lk0 (Fd.Kf s)), (fnL.take 20).all (fun d => d.ok (Fd.Kf s)), (fnL.take 20).map fun d => He.fnW (Fd.Kf s) d.at_)) (true, true, (fnL.take 20).map He.DefD.val) := by
  intro os
  kernel_rfl
theorem hdQ1 (w : World) : Fd.RunG R HM w (fun s => (((xsL.drop 17).take 17).all (Fd.xcP Lk0 (Fd.Kf s)), ((fnL.drop 20).take 20).all (fun d => d.ok (Fd.Kf s)), ((fnL.drop 20).take 20).map fun d => He.fnW (Fd.Kf s) d.at_)) (true, true, ((fnL.drop 20).take 20).map He.DefD.val) := by
  intro os
  kernel_rfl
theorem hdQ2 (w : World) : Fd.RunG R HM w (fun s => ((((xsL.drop 17).drop 17).take 17).all (Fd.xcP Lk0 (Fd.Kf s)), (((fnL.drop 20).drop 20).take 20).all (fun d => d.ok (Fd.Kf s)), (((fnL.drop 20).drop 20).take 20).map fun d => He.fnW (Fd.Kf s) d.at_)) (true, true, (((fnL.drop 20).drop 20).take 20).map He.DefD.val) := by
  intro os
  kernel_rfl
theorem hdQ3 (w : World) : Fd.RunG R HM w (fun s => ((((xsL.drop 17).drop 17).drop 17).all (Fd.xcP Lk0 (Fd.Kf s)), (((fnL.drop 20).drop 20).drop 20).all (fun d => d.ok (Fd.Kf s)), (((fnL.drop 20).drop 20).drop 20).map fun d => He.fnW (Fd.Kf s) d.at_)) (true, true, (((fnL.drop 20).drop 20).drop 20).map He.DefD.val) := by
  intro os
  kernel_rfl
abbrev hk : Hook := Fd.hookL 4 (Fd.chkL Lk0 fs csL xsL) fnL
def ob (s : SharedT) : He.AlD := Fd.obsLG 4 (Fd.chkL Lk0 fs csL xsL) fnL (HandSHeadRun.getT s)
theorem ob_eq (s : SharedT) : ob s = hk.obs s.abs := Fd.obsLG_eq (HandSHeadRun.getT_eq s)
theorem run (w : World) : HandSHeadRun.RunEq R qv hk ob HM names w := by
  intro os
  obtain ⟨s, e, ⟨⟨⟨⟨⟨⟨hA, hS⟩, hN⟩, q0⟩, q1⟩, q2⟩, q3⟩⟩ := (((((((hdA w).p.and (hdS w).p).and (hdN w).p).and (hdQ0 w).p).and (hdQ1 w).p).and (hdQ2 w).p).and (hdQ3 w).p) os
  obtain ⟨a1, a2⟩ := Prod.mk.inj hA
  obtain ⟨x0, y0⟩ := Prod.mk.inj q0
  obtain ⟨y0, z0⟩ := Prod.mk.inj y0
  obtain ⟨x1, y1⟩ := Prod.mk.inj q1
  obtain ⟨y1, z1⟩ := Prod.mk.inj y1
  obtain ⟨x2, y2⟩ := Prod.mk.inj q2
  obtain ⟨y2, z2⟩ := Prod.mk.inj y2
  obtain ⟨x3, y3⟩ := Prod.mk.inj q3
  obtain ⟨y3, z3⟩ := Prod.mk.inj y3
  have hx : xsL.all (Fd.xcP Lk0 (Fd.Kf s)) = true := (Fd.all_cut 17 x0 (Fd.all_cut 17 x1 (Fd.all_cut 17 x2 x3)))
  have hf : (fnL.all fun d => d.ok (Fd.Kf s)) = true := (Fd.all_cut 20 y0 (Fd.all_cut 20 y1 (Fd.all_cut 20 y2 y3)))
  have hv : (fnL.map fun d => He.fnW (Fd.Kf s) d.at_) = fnL.map He.DefD.val := (Fd.map_cut 20 z0 (Fd.map_cut 20 z1 (Fd.map_cut 20 z2 z3)))
  rw [e]
  have c : Fd.chkL Lk0 fs csL xsL (Fd.Kf s) = true := by
    unfold Fd.chkL Fd.lkChkX
    rw [a2, hN, hx]
    rfl
  have o : ob s = He.valD fnL := by
    show (Fd.chkL Lk0 fs csL xsL (Fd.Kf s) && fnL.all fun d => d.ok (Fd.Kf s), fnL.map fun d => He.fnW (Fd.Kf s) d.at_) = _
    rw [c, hf, hv]
    rfl
  show some (_, _, _) = some (_, _, _)
  rw [a1, hS, o]
  rfl
end LW
set_option Elab.async false
set_option linter.all false
set_option maxRecDepth 100000
set_option maxHeartbeats 2000000
/-! exceptions of the program's own as values: made, looked at, their field read -/
namespace PySem
namespace HandSPX
open PySem.W PySem.Calls PyProof.Rows
section
variable {M : Model} {prog : Program} {w : World} {A : Around} {E : Value → Shared → Prop} {R : Result → Shared → Prop} {h : Heap} {g : Array GenState} {d : Drawn} {t : Nat} {os : OsState}
variable {nm q : Str} {C N : Addr} {bs bm bmB : List Value} {hdct : Bool} {sn : List Str} {sub : List Value} {ab : Bool} {col : Option Bool} {dd : Option Addr} {k0 k1 k2 k3 k5 : Option Value} {B newId initId : String}
theorem xk_check (F : ExcBaseFacts B newId initId bmB) (hT : ∀ X : String, bm.contains (.type X) = bmB.contains (.type X)) {rest : List Value} {kw : List (Str × Value)} {Q : Unit → Shared → Prop}
    (hC : h.get? C = some (excClassObj nm q C N bs bm hdct sn sub ab col dd k0 k1 k2 k3 k5 newId)) (hq : Q () ⟨h, g, d, t, os⟩) : wpAny M A (checkBuiltinCall newId ⟨.ref C :: rest, kw⟩) Q E ⟨h, g, d, t, os⟩ := by
  have h1 : (Value.ref C :: bm).contains (.type B) = true := by rw [List.contains_cons, hT, F.hasB, Bool.or_true]
  have h2 := F.noStar
  simp only [checkBuiltinCall, F.newKind, F.newSplit, F.newRow]
  repeat (first | refine wpAny_loadPart_at hC ?_ | (refine wpAny_isSubtype_exc hC ?_; rw [h1]) | refine wpAny_staticBase_exc hC ?_ | refine wpAny_madeBy_exc hC ?_ | simp only [bne_self_eq_false, Bool.false_eq_true, if_false] | wp_step)
  exact hq
theorem xk_new (F : ExcBaseFacts B newId initId bmB) (hT : ∀ X : String, bm.contains (.type X) = bmB.contains (.type X)) {rest : List Value} {kw : List (Str × Value)}
    (hC : h.get? C = some (excClassObj nm q C N bs bm hdct sn sub ab col dd k0 k1 k2 k3 k5 newId))
    (hq : R (.ok (.ret (.ref (h.objs.size + 1)))) ⟨(h.push (W.kdv_tup rest)).push (excO C h.objs.size), g, d, t, os⟩) (hrest : rest.length ≤ sizeLine) :
    codeAny (model prog w) A (.builtin newId ⟨.ref C :: rest, kw⟩) R ⟨h, g, d, t, os⟩ := by
  have h0 := F.ends
  have h1 : (Value.ref C :: bm).contains (.type B) = true := by rw [List.contains_cons, hT, F.hasB, Bool.or_true]
  have h2 : (Value.ref C :: bm).contains (.type "AttributeError") = false := by rw [List.contains_cons, hT, F.noAttr]; rfl
  have h3 : (Value.ref C :: bm).contains (.type "NameError") = false := by rw [List.contains_cons, hT, F.noName]; rfl
  refine codeAny_builtinAt F.entry ?_
  unfold Builtin.«BaseException.__new__»
  refine wpAt_bind ?_
  show wpAt _ _ _ (stack >>= _) _ _ _
  refine wpAt_bind (wpAt_stack fun p below => wpAt_of_wpAny ?_)
  wp_walk
  refine wpAt_of_wpAny ?_
  rw [F.owner]
  repeat (first | with_reducible refine wpAny_madeHere_exc F.canon hC ?_ | with_reducible refine wpAny_loadPart_at hC ?_ | (with_reducible refine wpAny_isSubtype_exc hC ?_; first | rw [h1] | rw [h2] | rw [h3]) | wp_step)
  show R _ _
  rw [Heap.size_push]
  exact hq
theorem xk_typeCall (F : ExcBaseFacts B newId initId bmB) (hT : ∀ X : String, bm.contains (.type X) = bmB.contains (.type X)) {rest : List Value} {kw : List (Str × Value)} {fI : Addr} {Q : Fin → Shared → Prop}
    (hC : h.get? C = some (excClassObj nm q C N bs bm hdct sn sub ab col dd k0 k1 k2 k3 k5 newId))
    (hi : W.Looks (model prog w) h (typeLookup (.ref C) "__init__") (some (.ref fI))) (hb : ∀ self, W.Looks (model prog w) h (bindSpecial (.ref fI) self) (.ref fI, [self])) (hrest : rest.length ≤ sizeLine)
    (hq : codeAny (model prog w) A (.call (.ref fI) ⟨.ref (h.objs.size + 1) :: rest, kw⟩)
      (fun r s' => match r with | .ok (.ret v) => v = .none ∧ Q (.done (.ret (.ref (h.objs.size + 1)))) s' | .ok _ => False | .error e => E e s')
      ⟨(h.push (W.kdv_tup rest)).push (excO C h.objs.size), g, d, t, os⟩) :
    wpAny (model prog w) A (Builtin.«type.__call__» ⟨.ref C :: rest, kw⟩) Q E ⟨h, g, d, t, os⟩ := by
  repeat (first | with_reducible refine wpAny_loadPart_at hC ?_ | with_reducible refine wpAny_madeBy_exc hC ?_ | wp_step)
  refine codeAny_call_builtin_code (Code.quiet_builtin _ F.quiet) (xk_check F hT hC ?_)
  refine xk_new F hT hC ?_ hrest
  show wpAny _ _ _ _ _ _
  have k : ∀ b o, h.get? b = some o → ((h.push (W.kdv_tup rest)).push (excO C h.objs.size)).get? b = some o := fun b o e => Heap.get?_push_of_some _ (Heap.get?_push_of_some _ e)
  have q1 := k _ _ hC
  have q2 : ((h.push (W.kdv_tup rest)).push (excO C h.objs.size)).get? (h.objs.size + 1) = some (excO C h.objs.size) := by heap_get
  have q3 : (Value.ref C :: bm).contains (.ref C) = true := by simp
  have i1 := hi.keeps k
  have b1 := (hb (.ref (h.objs.size + 1))).keeps k
  unfold isInstance
  repeat (first | with_reducible refine wpAny_loadPart_at q2 ?_ | (with_reducible refine wpAny_isSubtype_exc q1 ?_; rw [q3]) | wp_step)
  show wpAny _ _ (typeLookup (.ref C) _) _ _ _
  refine i1.at ?_
  refine wpAny_holding (wpAny_bind (b1.at ?_))
  refine wpAny_bind (wpAny_call (codeAny_mono hq fun r s' z => ?_))
  rcases r with e | (v | _ | _ | _) <;> first | exact z | exact z.elim | skip
  obtain ⟨rfl, z⟩ := z
  first
    | exact wpAny_pure (wpAny_pure z)
    | (wp_walk; exact z)
theorem xk_call (F : ExcBaseFacts B newId initId bmB) (hT : ∀ X : String, bm.contains (.type X) = bmB.contains (.type X)) {rest : List Value} {kw : List (Str × Value)} {fI : Addr}
    (hC : h.get? C = some (excClassObj nm q C N bs bm hdct sn sub ab col dd k0 k1 k2 k3 k5 newId))
    (hi : W.Looks (model prog w) h (typeLookup (.ref C) "__init__") (some (.ref fI))) (hb : ∀ self, W.Looks (model prog w) h (bindSpecial (.ref fI) self) (.ref fI, [self])) (hrest : rest.length ≤ sizeLine)
    (hq : codeAny (model prog w) (A.under (.builtin "type.__call__" ⟨.ref C :: rest, kw⟩)) (.call (.ref fI) ⟨.ref (h.objs.size + 1) :: rest, kw⟩) (W.InitBack (h.objs.size + 1) R)
      ⟨(h.push (W.kdv_tup rest)).push (excO C h.objs.size), g, d, t, os⟩) :
    codeAny (model prog w) A (.call (.ref C) ⟨rest, kw⟩) R ⟨h, g, d, t, os⟩ := by
  have f1 := tc_lookup
  have f2 := tc_bind (.ref C)
  have hTy : (⟨h, g, d, t, os⟩ : Shared).TypeIs (.ref C) "type" := ⟨_, hC, rfl⟩
  refine codeAny_of_tree ?_
  show wpAny _ _ (callAny (.ref C) _) _ _ _
  repeat (any_goals (first | assumption | with_reducible refine wpAny_loadPart_at hC ?_ | wp_step))
  refine ⟨rfl, ?_⟩
  refine codeAny_call_builtin_at (Code.quiet_builtin _ (by decide +kernel)) entry_typeCall (wpAny_check_type_call_sub hC (xk_typeCall F hT hC hi hb hrest ?_))
  refine codeAny_mono hq fun r s' z => ?_
  rcases r with e | (v | _ | _ | _) <;> exact z
end
end HandSPX
end PySem
namespace Fd
open PySem L2 PySem.Spec PyProof.Rows
/-- an own exception class -/
structure XcOk (K : PySem.W.Frag) (A : Addr) : Prop where
  cl : (PySem.W.clsIn K A).isSome = true
  ga : PySem.W.findIn K (.ref A) "__getattribute__" = some (some (.builtin "BaseException.__getattribute__"))
  gg : PySem.W.findIn K (.ref A) "__getattr__" = some none
  sb : PySem.W.subIn K (.ref A) (.type "BaseException") = some true
  ca : PySem.W.findIn K (.ref A) "__class__" = some (some (.builtin "object.__class__"))
  cn : PySem.W.specialIn K (.builtin "object.__class__") "__get__" = some (some (.builtin "getset_descriptor.__get__"))
  ct : PySem.W.takesIn K (.builtin "object.__class__") = some true
  mo : PySem.W.mroIn K A (.type "object") = some true
  ty : PySem.W.typeIn K (.ref A) = some (.type "type")
  hd : PySem.W.hasDictIn K A = true
  kp : PySem.W.keepIn K (.ref A) = true
/-- .. with its own __init__(self, f) -/
structure XiOk (K : PySem.W.Frag) (A fI : Addr) (f : Str) : Prop where
  oex : OexC K A
  it : PySem.W.findIn K (.ref A) "__init__" = some (some (.ref fI))
  ft : PySem.W.typeIn K (.ref fI) = some (.type "function")
  no : PySem.W.findIn K (.ref A) f = some none
def spXI (C : Addr) (f : Str) : Sp := fun vs H Q _ => ∃ (a : Addr) (y : V), vs = [.ref a, y] ∧ H a = some (exo a C none) ∧ ∀ dx, H dx = none → dx ≠ a → Q .non (upd (upd H dx (exd dx [(f, y)])) a (exo a C (some dx)))
/-- __init__(self, f): self.f = f -/
theorem fnXI {P : Program} {w : World} {K : PySem.W.Frag} {mg : Str → Option Value} {base : Heap} {C fI : Addr} {fd : FuncData} {x qual s p f : Str} {a0 a1 : Arg} {p1 p2 p3 pos : Pos} {scope : Scope} (X : XiOk K C fI f)
    {kws : List (Str × V)} (F : FunD K x qual ⟨[], [a0, a1], none, [], [], none, []⟩ [.Assign [.Attribute (.Name s p1) f p2] (.Name p p3) pos] scope [] kws fI fd) (S : FnScope [s, p] [s, p] scope) (hs : (s == ("__debug__" : Str)) = false ∧ (s == ("__classdict__" : Str)) = false) (hp : (p == ("__debug__" : Str)) = false ∧ (p == ("__classdict__" : Str)) = false) :
    FnOk P w K mg base (L2.CX P w) 1 fI fd [s, p] (spXI C f) := by
  refine F.ok S (fun vs H Q E ⟨a, y, e, _⟩ => by subst e; rfl) fun cdv A outer st H vs Q E hr ⟨a, y, e, ha, q⟩ => ?_
  subst e
  have vs0 : Vis scope s := by
    rcases S.par s (by simp) with h | h
    · exact .inl h
    · exact .inr (.inl h)
  have vs1 : Vis scope p := by
    rcases S.par p (by simp) with h | h
    · exact .inl h
    · exact .inr (.inl h)
  refine ⟨_, pss_one (ps_ost (pe_var (i := 0) rfl vs0 hs.1 hs.2) (pe_var (i := 1) rfl vs1 hp.1 hp.2)), ?_⟩
  refine ⟨y, rfl, .ref a, rfl, a, C, rfl, X.oex, X.no, .inl ⟨ha, fun dx n ne => q dx n ne⟩⟩
section
variable {X : Cx} {CX : CXT} {x : Str} {e : Expr} {es : List Expr} {ta : TA} {p pos : Pos} {C fI : Addr} {k : Nat} {fd : FuncData} {ps : List Str} {sp : Sp}
theorem pe_oex (T : OexC X.K C) (iC : PySem.W.findIn X.K (.ref C) "__init__" = some (some (.ref fI))) (tI : PySem.W.typeIn X.K (.ref fI) = some (.type "function"))
    (F1 : FnOk X.prog X.w X.K X.mg X.base CX k fI fd ps sp) (hr : Room (k + 1) X.A) (hb : Binds X.K fd ps []) (hx : Passes CX X (fun _ _ _ => False)) (hg : Gl X x) (hm : X.mg x = some (.ref C)) (ha : PA X (e :: es) ta)
    (hdb : (x == ("__debug__" : Str)) = false := by decide) (he : starEach (e :: es) X.env = (false, eval e X.env) :: starEach es X.env := by rfl) (hpl : (backTo pos (starEach es X.env)).any (·.1) = false := by rfl) :
    PE X (.Call (.Name x p) (e :: es) [] pos) (fun σ H Q => ta σ H fun vs H1 => vs.length ≤ 1000 ∧ ∀ a, H1 a = none → sp (.ref a :: vs) (upd H1 a (exo a C none)) (fun v H2 => v = .non ∧ Q (.ref a) H2) (fun _ _ _ => False)) := by
  refine ⟨fun pins s σ H Q I h => ?_⟩
  obtain ⟨nm, q, N, bs, bm, sn, sub, ab, col, dd, k0, k1, k2, k3, k5, hC, hbm⟩ := T.cls
  refine wpAny_Call_Name_kw (ld_glob I hg hm ?_ hdb)
  refine PySem.W.callWith_K (h₀ := X.base) I.ok.mod.kin T.kC (thn (ha.run pos pins s σ H _ I h) fun us s1 ⟨vs, H1, I1, r1, hz, q1⟩ => ⟨I1.kIn, ?_⟩) he hpl
  show wpAny _ _ (call (.ref C) us) _ _ _
  obtain ⟨hp, g, dr, tk, os⟩ := s1
  have hsz : hp.objs.size ≤ hp.objs.size + 1 := Nat.le_succ _
  have hn : H1 (hp.objs.size + 1) = none := I1.hok.fresh hsz
  have hq := q1 (hp.objs.size + 1) hn
  have kk : ∀ b o, hp.get? b = some o → ((hp.push (PySem.W.kdv_tup us)).push (PySem.HandSPX.excO C hp.objs.size)).get? b = some o := fun b o e => Heap.get?_push_of_some _ (Heap.get?_push_of_some _ e)
  have hget : ((hp.push (PySem.W.kdv_tup us)).push (PySem.HandSPX.excO C hp.objs.size)).get? (hp.objs.size + 1) = some (PySem.HandSPX.excO C hp.objs.size) := by heap_get
  have I2 : Inv X pins σ (upd H1 (hp.objs.size + 1) (exo (hp.objs.size + 1) C none)) ⟨(hp.push (PySem.W.kdv_tup us)).push (PySem.HandSPX.excO C hp.objs.size), g, dr, tk, os⟩ :=
    I1.laid (t' := tk) (a := hp.objs.size + 1) (o := exo (hp.objs.size + 1) C none) (h' := (hp.push (PySem.W.kdv_tup us)).push (PySem.HandSPX.excO C hp.objs.size)) kk hsz (exo_ok hget)
  have r2 : Vals (V.ref (hp.objs.size + 1) :: vs) (Value.ref (hp.objs.size + 1) :: us) := .cons rfl r1
  have hl : (Value.ref (hp.objs.size + 1) :: us ++ []).length = ps.length := by
    have e := r2.length
    rw [F1.len _ _ _ _ hq] at e
    rw [List.append_nil]
    exact e.symm
  have hus : us.length ≤ sizeLine := by
    rw [← Paired.length r1, sizeLine_eq]
    omega
  have b2 := hb _ (Value.ref (hp.objs.size + 1) :: us) I2.kIn hl
  rw [List.append_nil] at b2
  refine wpAny_call (PySem.HandSPX.call_own F.excBase_ValueError (fun Y => PySem.HandSPX.refsVE_contains Y bm hbm) (I1.kIn _ _ hC) (PySem.W.looks_findIn I1.kIn iC) (fun self => PySem.W.bind_fn I1.kIn self tI) hus
    (codeAny_mono (F1.run _ X.stack _ _ ⟨Value.ref (hp.objs.size + 1) :: us, []⟩ (Value.ref (hp.objs.size + 1) :: us) _ _ (fun _ _ _ => False) (hr.make C us []) (I2.env0.make C us []) b2 r2 hq) fun r s' hq' => ?_))
  cases r with
  | error er => exact hx pins σ _ _ er s' I2 hq'
  | ok fl =>
    cases fl with
    | ret u =>
      obtain ⟨v, H', I3, rv, ev, q3⟩ := I2.after hq'
      subst ev
      exact ⟨rv, ⟨V.ref (hp.objs.size + 1), H', I3, rfl, q3⟩⟩
    | next => exact False.elim hq'
    | brk => exact False.elim hq'
    | cont => exact False.elim hq'
def kwQ (P : V → Hp → Prop) : List V → Hp → Prop
  | [y], H => P y H
  | _, _ => False
/-- .. by name -/
theorem pe_oexK {f : Str} {kp : Pos} {te : TE} (T : OexC X.K C) (iC : PySem.W.findIn X.K (.ref C) "__init__" = some (some (.ref fI))) (tI : PySem.W.typeIn X.K (.ref fI) = some (.type "function"))
    (F1 : FnOk X.prog X.w X.K X.mg X.base CX k fI fd ps sp) (hr : Room (k + 1) X.A) (hb : ∀ (s : Shared) (u0 u1 : Value), BindsTo s fd ⟨[u0], [(f, u1)]⟩ (ps.zip [u0, u1])) (hx : Passes CX X (fun _ _ _ => False)) (hg : Gl X x) (hm : X.mg x = some (.ref C)) (he : PE X e te)
    (hdb : (x == ("__debug__" : Str)) = false := by decide) :
    PE X (.Call (.Name x p) [] [⟨some f, e, kp⟩] pos) (fun σ H Q => te σ H fun y H1 => ∀ a, H1 a = none → sp [.ref a, y] (upd H1 a (exo a C none)) (fun v H2 => v = .non ∧ Q (.ref a) H2) (fun _ _ _ => False)) := by
  refine ⟨fun pins s σ H Q I h => ?_⟩
  obtain ⟨nm, q, N, bs, bm, sn, sub, ab, col, dd, k0, k1, k2, k3, k5, hC, hbm⟩ := T.cls
  refine wpAny_Call_Name_kw (ld_glob I hg hm ?_ hdb)
  have h2 : tCons te tNil σ H (kwQ fun y H1 => ∀ a, H1 a = none → sp [.ref a, y] (upd H1 a (exo a C none)) (fun v H2 => v = .non ∧ Q (.ref a) H2) (fun _ _ _ => False)) := h
  have h3 := (pk_cons (nm := some f) (kpos := kp) he pk_nil).run pos pins s σ H _ I h2
  refine PySem.W.callWith_KW0 (h₀ := X.base) (kws := [⟨some f, e, kp⟩]) I.ok.mod.kin T.kC rfl (thn h3 fun ws s1 ⟨zs, H1, I1, rz, q1⟩ => ⟨I1.kIn, ?_⟩) rfl
  have hks : (backToKw pos (keywordEach [⟨some f, e, kp⟩] X.env)).filterMap (·.1) = [f] := rfl
  rw [hks]
  obtain ⟨y, u, r1, ez, ew⟩ : ∃ y u, RelV y u ∧ zs = [y] ∧ ws = [u] := by
    cases rz with
    | nil => exact q1.elim
    | cons r1 rn => cases rn with
      | nil => exact ⟨_, _, r1, rfl, rfl⟩
      | cons _ _ => exact q1.elim
  subst ez ew
  show wpAny _ _ (call (.ref C) [] [(f, u)]) _ _ _
  obtain ⟨hp, g, dr, tk, os⟩ := s1
  have z0 : hp.objs.size ≤ hp.objs.size + 1 := Nat.le_succ _
  have z1 : H1 (hp.objs.size + 1) = none := I1.hok.fresh z0
  have z2 := q1 (hp.objs.size + 1) z1
  have z3 : ∀ b o, hp.get? b = some o → ((hp.push (PySem.W.kdv_tup [])).push (PySem.HandSPX.excO C hp.objs.size)).get? b = some o := fun b o e => Heap.get?_push_of_some _ (Heap.get?_push_of_some _ e)
  have z4 : ((hp.push (PySem.W.kdv_tup [])).push (PySem.HandSPX.excO C hp.objs.size)).get? (hp.objs.size + 1) = some (PySem.HandSPX.excO C hp.objs.size) := by heap_get
  have I2 : Inv X pins σ (upd H1 (hp.objs.size + 1) (exo (hp.objs.size + 1) C none)) ⟨(hp.push (PySem.W.kdv_tup [])).push (PySem.HandSPX.excO C hp.objs.size), g, dr, tk, os⟩ :=
    I1.laid (t' := tk) (a := hp.objs.size + 1) (o := exo (hp.objs.size + 1) C none) (h' := (hp.push (PySem.W.kdv_tup [])).push (PySem.HandSPX.excO C hp.objs.size)) z3 z0 (exo_ok z4)
  have r2 : Vals [V.ref (hp.objs.size + 1), y] [Value.ref (hp.objs.size + 1), u] := .cons rfl (.cons r1 .nil)
  refine wpAny_call (PySem.HandSPX.xk_call F.excBase_ValueError (fun Y => PySem.HandSPX.refsVE_contains Y bm hbm) (I1.kIn _ _ hC) (PySem.W.looks_findIn I1.kIn iC) (fun self => PySem.W.bind_fn I1.kIn self tI) (Nat.zero_le _)
    (codeAny_mono (F1.run _ X.stack _ _ ⟨[Value.ref (hp.objs.size + 1)], [(f, u)]⟩ [Value.ref (hp.objs.size + 1), u] _ _ (fun _ _ _ => False) (hr.make C [] [(f, u)]) (I2.env0.make C [] [(f, u)]) (hb _ _ _) r2 z2) fun r s' hq' => ?_))
  cases r with
  | error er => exact hx pins σ _ _ er s' I2 hq'
  | ok fl =>
    cases fl with
    | ret u =>
      obtain ⟨v, H', I3, rv, ev, q3⟩ := I2.after hq'
      subst ev
      exact ⟨rv, ⟨V.ref (hp.objs.size + 1), H', I3, rfl, q3⟩⟩
    | next => exact False.elim hq'
    | brk => exact False.elim hq'
    | cont => exact False.elim hq'
end
/-- (self, f): by position, by name -/
theorem bind_kw {x qual : Str} {a0 a1 : Arg} {body : List Stmt} {scope : Scope} {kV doc pm cdv ct : Value} {an : Option Addr} {u0 u1 : Value} (ne : a0.arg ≠ a1.arg) :
    bindArgs (PySem.W.fnOf x qual ⟨[], [a0, a1], none, [], [], none, []⟩ body scope .none kV doc pm an cdv ct) ⟨[u0], [(a1.arg, u1)]⟩ = pure [(a0.arg, u0), (a1.arg, u1)] := by
  have e1 : (a1.arg == a0.arg) = false := beq_false_of_ne (Ne.symm ne)
  have e2 : (a0.arg == a1.arg) = false := beq_false_of_ne ne
  have hs : seqItems? Value.none = pure none := rfl
  unfold bindArgs
  simp [PySem.W.fnOf, hs, e1, e2, List.lookup]
/-- an exception at a, of the class at A, its fields fs -/
def ExcAt (F : Hp) (a A : Addr) (fs : List (Str × V)) : Prop := (fs = [] ∧ F a = some (ExO (.ref A) a)) ∨ ∃ dx, F a = some (exo a A (some dx)) ∧ F dx = some (exd dx fs)
theorem ExcAt.mono {F F' : Hp} {a A : Addr} {fs : List (Str × V)} (f : ∀ b o, F b = some o → F' b = some o) (h : ExcAt F a A fs) : ExcAt F' a A fs := by
  rcases h with ⟨e, h⟩ | ⟨dx, h1, h2⟩
  · exact .inl ⟨e, f _ _ h⟩
  · exact .inr ⟨dx, f _ _ h1, f _ _ h2⟩
theorem ExcAt.there {F : Hp} {a A : Addr} {fs : List (Str × V)} (h : ExcAt F a A fs) : ∃ o, F a = some o := by
  rcases h with ⟨e, h⟩ | ⟨dx, h1, h2⟩
  · exact ⟨_, h⟩
  · exact ⟨_, h1⟩
section
variable {X : Cx} {pins : List (Addr × Obj)} {σ : L2.St} {H : Hp} {s : Shared}
theorem exc_inst {a A : Addr} {fs : List (Str × V)} (I : Inv X pins σ H s) (h : ExcAt H a A fs) : ∃ oe od, PySem.W.InstAt s.heap a oe A od := by
  rcases h with ⟨e, h⟩ | ⟨dx, h1, h2⟩
  · obtain ⟨⟨oe, vs, ho, hz, hd, _⟩, _, _⟩ := I.hok a _ h
    refine ⟨oe, none, ho, hz.1, by unfold PySem.W.notCls; rw [hd] <;> rfl, ?_⟩
    rw [hz.2]
    trivial
  · obtain ⟨t1, ho⟩ := exo_at I.hok h1
    obtain ⟨mA, hns, _⟩ := exd_at I.hok h2
    obtain ⟨od, es, ep, e, _⟩ := hns
    exact ⟨_, some od, ho, rfl, rfl, e⟩
/-- e.f -/
theorem pe_xat {o : Expr} {te : TE} {pos : Pos} {n : Str} (ho : PE X o te) (hb : attributeBase o n X.env (eval o X.env) = eval o X.env) :
    PE X (.Attribute o n pos) (fun σ H Q => te σ H fun x H1 => ∃ (a A : Addr) (fs : List (Str × V)) (v : V), x = .ref a ∧ XcOk X.K A ∧ PySem.W.findIn X.K (.ref A) n = some none ∧ ExcAt H1 a A fs ∧ fs.lookup n = some v ∧ Q v H1) := by
  refine ⟨fun pins s σ H Q I h => ?_⟩
  refine attr_of hb (thn (ho.run pins s σ H _ I h) fun u s1 ⟨x, H1, I1, rx, a, A, fs, v, ex, T, hno, hx, l, q⟩ => ?_)
  subst ex
  obtain rfl : u = Value.ref a := rx
  rcases hx with ⟨e, _⟩ | ⟨dx, h1, h2⟩
  · rw [e] at l; cases l
  · obtain ⟨t1, ha⟩ := exo_at I1.hok h1
    obtain ⟨mA, hns, hr⟩ := exd_at I1.hok h2
    obtain ⟨od, hd, hl⟩ := lookIn_ns hns
    obtain ⟨u, hu, ru⟩ := RelO.some_of (v := v) (o := mA n) (by rw [← l]; exact hr n)
    have J : PySem.W.InstAt s1.heap a _ A (some od) := ⟨ha, rfl, rfl, hd⟩
    exact HandSPX.exc_get I1.kIn J T.ga T.gg T.sb (PySem.W.findObj_own T.hd hno rfl (by rw [hl, hu])) (handed_of ru) ⟨v, H1, I1.tok _, ru, q⟩
theorem exc_kit {a A : Addr} {oe : Obj} {od : Option Obj} (T : XcOk X.K A) : PySem.W.KitX X.K (.ref a) (.ref A) (fun h => PySem.W.InstAt h a oe A od) :=
  PySem.W.kitx_exc T.cl T.ga T.gg T.sb T.ca T.cn T.ct T.mo
def rIsX (K : PySem.W.Frag) : List V → Hp → VK → Prop := fun xs H Q => ∃ (a A : Addr) (fs : List (Str × V)) (c : V) (u : Value) (b : Bool), xs = [.ref a, c] ∧ ClsV c u ∧ XcOk K A ∧ ExcAt H a A fs ∧ PySem.W.kitOne K (.ref A) u = some b ∧ Q (.bl b) H
def rIsXT (K : PySem.W.Frag) : List V → Hp → VK → Prop := fun xs H Q => ∃ (a A tp : Addr) (fs : List (Str × V)) (cs : List V) (us : List Value) (b : Bool), xs = [.ref a, .ref tp] ∧ H tp = some (.tup cs) ∧ Paired ClsV cs us ∧ XcOk K A ∧ ExcAt H a A fs ∧
  PySem.W.kitAny K (.ref A) us = some b ∧ Q (.bl b) H
theorem call_isX : CallR X (.builtin "isinstance") (rIsX X.K) := by
  intro pins s σ H xs us Q I r h
  obtain ⟨a, A, fs, c, u, b, rfl, k, T, hx, e, q⟩ := h
  obtain ⟨u1, u2, rfl, r1, r2⟩ := vals2 r
  cases k.eq r2
  obtain rfl : u1 = Value.ref a := r1
  obtain ⟨oe, od, J⟩ := exc_inst I hx
  exact PySem.W.kia_one (exc_kit T) I.kIn J e (fun z => nomatch z) fun tk => ⟨.bl b, H, I.tok tk, rfl, q⟩
theorem call_isXT : CallR X (.builtin "isinstance") (rIsXT X.K) := by
  intro pins s σ H xs us Q I r h
  obtain ⟨a, A, tp, fs, cs, ws, b, rfl, hT, k, T, hx, e, q⟩ := h
  obtain ⟨u1, u2, rfl, r1, r2⟩ := vals2 r
  obtain rfl : u2 = Value.ref tp := r2
  obtain rfl : u1 = Value.ref a := r1
  obtain ⟨oe, od, J⟩ := exc_inst I hx
  obtain ⟨_, its, rv, o, h1, h2, n, h3⟩ := (show ObjOk X.prog X.w H s.heap tp (.tup cs) from I.hok tp _ hT)
  cases ClsV.all k rv
  obtain ⟨oc, odd, dt, sl⟩ := o
  simp only at h2 h3
  subst h2 h3
  exact PySem.W.kia_tup (exc_kit T) I.kIn J h1 e (fun z => nomatch z) fun tk => ⟨.bl b, H, I.tok tk, rfl, q⟩
/-- C(): no __init__ of its own -/
theorem pe_exc0 {C : Addr} {bmB : List Value} {B newId initId : String} {x : Str} {p pos : Pos} (F : ExcBaseFacts B newId initId bmB) (q : PySem.W.excIn X.K C bmB newId = true) (gC : X.mg x = some (.ref C)) (kC : PySem.W.keepIn X.K (.ref C) = true) (hg : Gl X x)
    (hdb : (x == ("__debug__" : Str)) = false := by decide) : PE X (.Call (.Name x p) [] [] pos) (fun σ H Q => ∀ a, H a = none → Q (.ref a) (upd H a (ExO (.ref C) a))) := by
  refine ⟨fun pins s σ H Q I h => ?_⟩
  refine wpAny_Call_Name_kw (ld_glob I hg gC ?_ hdb)
  refine PySem.W.callWith_K0 I.kIn kC ?_
  show wpAny _ _ (call (.ref C) []) _ _ _
  obtain ⟨bm, N, nm, qn, bs, hdct, sn, sub, ab, col, dd, k0, k1, k2, k3, k5, mN, hC, hN, hni, T⟩ := exc_obj I.kIn q
  refine wpAny_call_exc_subT F T hC hN hni (fun h' a hm => ?_) (Nat.zero_le _)
  have hn : H a = none := I.hok.gone hm.new
  obtain ⟨t, ht, _, _⟩ := hm.there
  exact ⟨.ref a, upd H a (ExO (.ref C) a), I.laidN hm.keeps hm.new hn (exO_ok ht ⟨rfl, rfl⟩ rfl rfl rfl (show 4 < 6 by decide)), rfl, h a hn⟩
end
end Fd

set_option Elab.async false
set_option linter.all false
namespace Fd
open PySem L2

/-! ### data -/
inductive D where
  | non | bl (b : Bool) | int (i : Int) | str (x : Str)
  | lst (xs : List D) | tup (xs : List D)
  | dK (ks : List Key) (vs : List D)
  | dT (ks : List (List Key)) (vs : List D)
  | obj (c : Nat) (vs : List D)
  | exc (c : Nat) (vs : List D)
  | ref (i : Nat)
  | scr (ns : List Int)

/-- what a mutable object holds -/
inductive Cell where
  | lst (xs : List D) | dK (ks : List Key) (vs : List D) | dT (ks : List (List Key)) (vs : List D) | obj (c : Nat) (vs : List D)
def Cell.toD : Cell → D
  | .lst xs => .lst xs
  | .dK ks vs => .dK ks vs
  | .dT ks vs => .dT ks vs
  | .obj c vs => .obj c vs
inductive Slot where
  | live (c : Cell) | froz (c : Cell)
abbrev Sto := List Slot
/-- a value: data, or a new object that nobody else knows -/
inductive Wv where
  | d (x : D) | fr (c : Cell)
def Wv.toD : Wv → D
  | .d x => x
  | .fr c => c.toD
abbrev Rho := List (Option D)
structure Exc where
  c : Nat
  vs : List D
inductive Rs (α : Type) where
  | ok (a : α) (st : Sto) | exc (e : Exc) (st : Sto) | err
def Rs.bind {α β : Type} (r : Rs α) (f : α → Sto → Rs β) : Rs β := match r with
  | .ok a st => f a st
  | .exc e st => .exc e st
  | .err => .err
def Rs.map {α β : Type} (r : Rs α) (f : α → β) : Rs β := match r with
  | .ok a st => .ok (f a) st
  | .exc e st => .exc e st
  | .err => .err
def ofO {α : Type} (o : Option α) (st : Sto) : Rs α := match o with
  | some a => .ok a st
  | none => .err

/-! ### what data stands for what value -/
/-- a class: where it stands, its instances' fields in their order -/
structure Cl where
  adr : Addr
  fl : List Str
structure Gx where
  K : PySem.W.Frag
  cl : Nat → Cl
  con : Nat → Bool
section
variable (C : Gx)
mutual
inductive Rep (F : Hp) (ι : List Addr) : V → D → Prop
  | non : Rep F ι .non .non
  | bl (b : Bool) : Rep F ι (.bl b) (.bl b)
  | int (i : Int) : Rep F ι (.int i) (.int i)
  | str (x : Str) : Rep F ι (.str x) (.str x)
  | ref {a : Addr} {i : Nat} (h : ι[i]? = some a) : Rep F ι (.ref a) (.ref i)
  | lst {a : Addr} {vs : List V} {xs : List D} (h : F a = some (.lst vs)) (z : xs.length ≤ sizeLine) (r : RepL F ι vs xs) : Rep F ι (.ref a) (.lst xs)
  | tup {a : Addr} {vs : List V} {xs : List D} (h : F a = some (.tup vs)) (z : xs.length ≤ sizeLine) (r : RepL F ι vs xs) : Rep F ι (.ref a) (.tup xs)
  | dK {a : Addr} {kvs : List (Key × V)} {ks : List Key} {vs : List V} {xs : List D} (h : Rd F a (.dK kvs)) (hk : kvs.map (·.1) = ks) (hv : kvs.map (·.2) = vs) (z : xs.length ≤ sizeLine) (r : RepL F ι vs xs) : Rep F ι (.ref a) (.dK ks xs)
  | dT {a : Addr} {kvs : List (List Key × V)} {ks : List (List Key)} {vs : List V} {xs : List D} (h : F a = some (.dT kvs)) (hk : kvs.map (·.1) = ks) (hv : kvs.map (·.2) = vs) (z : xs.length ≤ sizeLine) (r : RepL F ι vs xs) : Rep F ι (.ref a) (.dT ks xs)
  | obj {a dx : Addr} {fs : List (Str × V)} {c : Nat} {vs : List V} {xs : List D} (h : F a = some (.ins (C.cl c).adr dx fs)) (hk : fs.map (·.1) = (C.cl c).fl.take xs.length ∧ C.con c = true) (hv : fs.map (·.2) = vs) (r : RepL F ι vs xs) : Rep F ι (.ref a) (.obj c xs)
  | exc {a : Addr} {fs : List (Str × V)} {c : Nat} {vs : List V} {xs : List D} (h : ExcAt F a (C.cl c).adr fs) (hk : fs.map (·.1) = (C.cl c).fl.take xs.length) (hv : fs.map (·.2) = vs) (r : RepL F ι vs xs) : Rep F ι (.ref a) (.exc c xs)
  | scr {a : Addr} {ns : List Int} (h : SqL C.K F a (ns.map V.int)) : Rep F ι (.ref a) (.scr ns)
inductive RepL (F : Hp) (ι : List Addr) : List V → List D → Prop
  | nil : RepL F ι [] []
  | cons {v : V} {vs : List V} {d : D} {ds : List D} : Rep F ι v d → RepL F ι vs ds → RepL F ι (v :: vs) (d :: ds)
end
/-- F', ι' go on from F, ι -/
structure Ext (F : Hp) (ι : List Addr) (F' : Hp) (ι' : List Addr) : Prop where
  f : ∀ a o, F a = some o → F' a = some o
  i : ∀ (k : Nat) (a : Addr), ι[k]? = some a → ι'[k]? = some a
theorem Ext.refl {F : Hp} {ι : List Addr} : Ext F ι F ι := ⟨fun _ _ h => h, fun _ _ h => h⟩
theorem Ext.trans {F F1 F2 : Hp} {ι ι1 ι2 : List Addr} (a : Ext F ι F1 ι1) (b : Ext F1 ι1 F2 ι2) : Ext F ι F2 ι2 := ⟨fun x o h => b.f x o (a.f x o h), fun k x h => b.i k x (a.i k x h)⟩
variable {C}
theorem rd_mono {F F' : Hp} {a : Addr} {u : HO} (f : ∀ a o, F a = some o → F' a = some o) (h : Rd F a u) : Rd F' a u := by
  rcases h with h | ⟨o, h⟩
  · exact .inl (f _ _ h)
  · exact .inr ⟨o, f _ _ h⟩
mutual
theorem Rep.mono {F F' : Hp} {ι ι' : List Addr} (x : Ext F ι F' ι') : ∀ {v : V} {d : D}, Rep C F ι v d → Rep C F' ι' v d
  | _, _, .non => .non
  | _, _, .bl b => .bl b
  | _, _, .int i => .int i
  | _, _, .str y => .str y
  | _, _, .ref h => .ref (x.i _ _ h)
  | _, _, .lst h z r => .lst (x.f _ _ h) z (RepL.mono x r)
  | _, _, .tup h z r => .tup (x.f _ _ h) z (RepL.mono x r)
  | _, _, .dK h hk hv z r => .dK (rd_mono x.f h) hk hv z (RepL.mono x r)
  | _, _, .dT h hk hv z r => .dT (x.f _ _ h) hk hv z (RepL.mono x r)
  | _, _, .obj h hk hv r => .obj (x.f _ _ h) hk hv (RepL.mono x r)
  | _, _, .exc h hk hv r => .exc (h.mono x.f) hk hv (RepL.mono x r)
  | _, _, .scr h => .scr (by
    rcases h with (h | ⟨o, h⟩) | h
    · exact .inl (.inl (x.f _ _ h))
    · exact .inl (.inr ⟨o, x.f _ _ h⟩)
    · exact .inr h)
theorem RepL.mono {F F' : Hp} {ι ι' : List Addr} (x : Ext F ι F' ι') : ∀ {vs : List V} {ds : List D}, RepL C F ι vs ds → RepL C F' ι' vs ds
  | _, _, .nil => .nil
  | _, _, .cons a b => .cons (Rep.mono x a) (RepL.mono x b)
end
theorem RepL.length {F : Hp} {ι : List Addr} : ∀ {vs : List V} {ds : List D}, RepL C F ι vs ds → vs.length = ds.length
  | _, _, .nil => rfl
  | _, _, .cons _ b => congrArg Nat.succ (RepL.length b)
theorem RepL.get {F : Hp} {ι : List Addr} : ∀ {vs : List V} {ds : List D} {i : Nat} {d : D}, RepL C F ι vs ds → ds[i]? = some d → ∃ v, vs[i]? = some v ∧ Rep C F ι v d
  | _, _, _, _, .nil, h => by simp at h
  | _, _, 0, _, .cons (v := v) a _, h => by simp at h; subst h; exact ⟨v, rfl, a⟩
  | _, _, i + 1, _, .cons _ b, h => by simpa using RepL.get (i := i) b (by simpa using h)
theorem RepL.getV {F : Hp} {ι : List Addr} : ∀ {vs : List V} {ds : List D} {i : Nat} {v : V}, RepL C F ι vs ds → vs[i]? = some v → ∃ d, ds[i]? = some d ∧ Rep C F ι v d
  | _, _, _, _, .nil, h => by simp at h
  | _, _, 0, _, .cons (d := d) a _, h => by simp at h; subst h; exact ⟨d, rfl, a⟩
  | _, _, i + 1, _, .cons _ b, h => by simpa using RepL.getV (i := i) b (by simpa using h)
theorem RepL.append {F : Hp} {ι : List Addr} : ∀ {vs ws : List V} {ds es : List D}, RepL C F ι vs ds → RepL C F ι ws es → RepL C F ι (vs ++ ws) (ds ++ es)
  | _, _, _, _, .nil, h => h
  | _, _, _, _, .cons a b, h => .cons a (RepL.append b h)
theorem RepL.take {F : Hp} {ι : List Addr} : ∀ {vs : List V} {ds : List D} (n : Nat), RepL C F ι vs ds → RepL C F ι (vs.take n) (ds.take n)
  | _, _, 0, _ => .nil
  | _, _, _ + 1, .nil => .nil
  | _, _, n + 1, .cons a b => .cons a (RepL.take n b)
theorem RepL.drop {F : Hp} {ι : List Addr} : ∀ {vs : List V} {ds : List D} (n : Nat), RepL C F ι vs ds → RepL C F ι (vs.drop n) (ds.drop n)
  | _, _, 0, h => h
  | _, _, _ + 1, .nil => .nil
  | _, _, n + 1, .cons _ b => RepL.drop n b
theorem RepL.set {F : Hp} {ι : List Addr} {v : V} {d : D} (r : Rep C F ι v d) : ∀ {vs : List V} {ds : List D} (n : Nat), RepL C F ι vs ds → RepL C F ι (vs.set n v) (ds.set n d)
  | _, _, _, .nil => .nil
  | _, _, 0, .cons _ b => .cons r b
  | _, _, n + 1, .cons a b => .cons a (RepL.set r n b)
theorem RepL.eraseIdx {F : Hp} {ι : List Addr} : ∀ {vs : List V} {ds : List D} (n : Nat), RepL C F ι vs ds → RepL C F ι (vs.eraseIdx n) (ds.eraseIdx n)
  | _, _, _, .nil => .nil
  | _, _, 0, .cons _ b => b
  | _, _, n + 1, .cons a b => .cons a (RepL.eraseIdx n b)
theorem RepL.dropLast {F : Hp} {ι : List Addr} : ∀ {vs : List V} {ds : List D}, RepL C F ι vs ds → RepL C F ι vs.dropLast ds.dropLast
  | _, _, .nil => .nil
  | _, _, .cons a .nil => .nil
  | _, _, .cons a (.cons b c) => .cons a (RepL.dropLast (.cons b c))
theorem RepL.reverse {F : Hp} {ι : List Addr} {vs : List V} {ds : List D} (h : RepL C F ι vs ds) : RepL C F ι vs.reverse ds.reverse := by
  induction ds generalizing vs with
  | nil => cases h; exact .nil
  | cons d ds ih =>
    cases h with
    | cons a b => rw [List.reverse_cons, List.reverse_cons]; exact RepL.append (ih b) (.cons a .nil)

/-- the object at a of the heap H holds c -/
def CellAt (C : Gx) (F : Hp) (ι : List Addr) (H : Hp) (a : Addr) : Cell → Prop
  | .lst xs => ∃ vs, H a = some (.lst vs) ∧ xs.length ≤ sizeLine ∧ RepL C F ι vs xs
  | .dK ks xs => ∃ kvs : List (Key × V), H a = some (.dK kvs) ∧ kvs.map (·.1) = ks ∧ xs.length ≤ sizeLine ∧ RepL C F ι (kvs.map (·.2)) xs
  | .dT ks xs => ∃ kvs : List (List Key × V), H a = some (.dT kvs) ∧ kvs.map (·.1) = ks ∧ xs.length ≤ sizeLine ∧ RepL C F ι (kvs.map (·.2)) xs
  | .obj c xs => ∃ dx fs, H a = some (.ins (C.cl c).adr dx fs) ∧ (fs.map (·.1) = (C.cl c).fl.take xs.length ∧ C.con c = true) ∧ RepL C F ι (fs.map (·.2)) xs
theorem CellAt.rep {F : Hp} {ι : List Addr} {a : Addr} : ∀ {c : Cell}, CellAt C F ι F a c → Rep C F ι (.ref a) c.toD
  | .lst _, ⟨_, h, z, r⟩ => .lst h z r
  | .dK _ _, ⟨_, h, k, z, r⟩ => .dK (.inl h) k rfl z r
  | .dT _ _, ⟨_, h, k, z, r⟩ => .dT h k rfl z r
  | .obj _ _, ⟨_, _, h, k, r⟩ => .obj h k rfl r
theorem CellAt.mono {F F' H H' : Hp} {ι ι' : List Addr} {a : Addr} (x : Ext F ι F' ι') (e : H a = H' a) : ∀ {c : Cell}, CellAt C F ι H a c → CellAt C F' ι' H' a c
  | .lst _, ⟨vs, h, z, r⟩ => ⟨vs, e ▸ h, z, r.mono x⟩
  | .dK _ _, ⟨kvs, h, k, z, r⟩ => ⟨kvs, e ▸ h, k, z, r.mono x⟩
  | .dT _ _, ⟨kvs, h, k, z, r⟩ => ⟨kvs, e ▸ h, k, z, r.mono x⟩
  | .obj _ _, ⟨dx, fs, h, k, r⟩ => ⟨dx, fs, e ▸ h, k, r.mono x⟩
theorem CellAt.there {F H : Hp} {ι : List Addr} {a : Addr} {c : Cell} (h : CellAt C F ι H a c) : ∃ o, H a = some o := by
  cases c <;> simp only [CellAt] at h
  · obtain ⟨_, h, _⟩ := h; exact ⟨_, h⟩
  · obtain ⟨_, h, _⟩ := h; exact ⟨_, h⟩
  · obtain ⟨_, h, _⟩ := h; exact ⟨_, h⟩
  · obtain ⟨_, _, h, _⟩ := h; exact ⟨_, h⟩

structure Sim (C : Gx) (F : Hp) (ι : List Addr) (st : Sto) (H : Hp) : Prop where
  fro : ∀ a o, F a = some o → H a = some o
  len : ι.length = st.length
  nd : ι.Nodup
  has : ∀ a ∈ ι, ∃ o, H a = some o
  cell : ∀ (i : Nat) (c : Cell) (a : Addr), st[i]? = some (Slot.live c) → ι[i]? = some a → F a = none ∧ CellAt C F ι H a c
  frz : ∀ (i : Nat) (c : Cell) (a : Addr), st[i]? = some (Slot.froz c) → ι[i]? = some a → Rep C F ι (.ref a) c.toD
  no : ∀ (a x : Addr), F a ≠ some (.own x)
/-- what a cell may hold -/
def CelO : HO → Prop
  | .lst _ => True | .dK _ => True | .dT _ => True | .ins .. => True
  | _ => False
theorem CellAt.kind {F H : Hp} {ι : List Addr} {a : Addr} {o : HO} : ∀ {c : Cell}, CellAt C F ι H a c → H a = some o → CelO o
  | .lst _, ⟨_, h, _⟩, e => by rw [h] at e; cases e; trivial
  | .dK .., ⟨_, h, _⟩, e => by rw [h] at e; cases e; trivial
  | .dT .., ⟨_, h, _⟩, e => by rw [h] at e; cases e; trivial
  | .obj .., ⟨_, _, h, _⟩, e => by rw [h] at e; cases e; trivial
theorem CelO.own {o : HO} (h : CelO o) (x : Addr) : o ≠ .own x := fun e => by subst e; exact h
theorem no_upd {F : Hp} {p : Addr} {o : HO} (h : ∀ (a x : Addr), F a ≠ some (.own x)) (n : ∀ x, o ≠ .own x) : ∀ (a x : Addr), upd F p o a ≠ some (.own x) := fun a x e => by
  by_cases c : a = p
  · subst c; rw [upd_same] at e; exact n x (Option.some.inj e)
  · rw [upd_ne c] at e; exact h a x e
def EnvR (C : Gx) (F : Hp) (ι : List Addr) (ρ : Rho) (σ : St) : Prop := ρ.length = σ.length ∧ ∀ (i : Nat) (d : D), ρ[i]? = some (some d) → ∃ v, σ[i]? = some (some v) ∧ Rep C F ι v d
theorem EnvR.mono {F F' : Hp} {ι ι' : List Addr} {ρ : Rho} {σ : St} (h : EnvR C F ι ρ σ) (x : Ext F ι F' ι') : EnvR C F' ι' ρ σ :=
  ⟨h.1, fun i d e => let ⟨v, a, b⟩ := h.2 i d e; ⟨v, a, b.mono x⟩⟩
/-- a new object beside -/
theorem Sim.more {F : Hp} {ι : List Addr} {st : Sto} {H : Hp} {p : Addr} {o : HO} (S : Sim C F ι st H) (hp : H p = none) : Sim C F ι st (upd H p o) ∧ F p = none ∧ p ∉ ι := by
  have fp : F p = none := by
    cases e : F p with
    | none => rfl
    | some u => rw [S.fro _ _ e] at hp; cases hp
  have np : p ∉ ι := fun h => by obtain ⟨u, e⟩ := S.has p h; rw [e] at hp; cases hp
  have ne : ∀ a u, H a = some u → upd H p o a = some u := fun a u h => by
    rw [upd_ne (fun z => by rw [z, hp] at h; cases h)]; exact h
  refine ⟨⟨fun a u h => ne a u (S.fro a u h), S.len, S.nd, fun a h => ?_, fun i c a h1 h2 => ?_, S.frz, S.no⟩, fp, np⟩
  · obtain ⟨u, e⟩ := S.has a h; exact ⟨u, ne a u e⟩
  · obtain ⟨q1, q2⟩ := S.cell i c a h1 h2
    have na : a ≠ p := fun z => np (z ▸ List.mem_of_getElem? h2)
    exact ⟨q1, q2.mono Ext.refl (upd_ne na).symm⟩
/-- a new object is frozen -/
theorem Sim.freeze {F : Hp} {ι : List Addr} {st : Sto} {H : Hp} {p : Addr} {o : HO} (S : Sim C F ι st H) (hp : H p = some o) (fp : F p = none) (np : p ∉ ι) (nx : ∀ x, o ≠ .own x) : Sim C (upd F p o) ι st H ∧ Ext F ι (upd F p o) ι := by
  have x : Ext F ι (upd F p o) ι := ⟨fun a u h => by rw [upd_ne (fun z => by rw [z, fp] at h; cases h)]; exact h, fun _ _ h => h⟩
  refine ⟨⟨fun a u h => ?_, S.len, S.nd, S.has, fun i c a h1 h2 => ?_, fun i c a h1 h2 => (S.frz i c a h1 h2).mono x, no_upd S.no nx⟩, x⟩
  · by_cases e : a = p
    · subst e; rw [upd_same] at h; cases h; exact hp
    · rw [upd_ne e] at h; exact S.fro a u h
  · obtain ⟨q1, q2⟩ := S.cell i c a h1 h2
    have na : a ≠ p := fun z => np (z ▸ List.mem_of_getElem? h2)
    exact ⟨by rw [upd_ne na]; exact q1, q2.mono x rfl⟩
/-- a new object becomes a cell -/
theorem Sim.cellNew {F : Hp} {ι : List Addr} {st : Sto} {H : Hp} {p : Addr} {c : Cell} (S : Sim C F ι st H) (fp : F p = none) (np : p ∉ ι) (hc : CellAt C F ι H p c) :
    Sim C F (ι ++ [p]) (st ++ [.live c]) H ∧ Ext F ι F (ι ++ [p]) ∧ (ι ++ [p])[st.length]? = some p := by
  have x : Ext F ι F (ι ++ [p]) := ⟨fun _ _ h => h, fun k a h => by
    rw [List.getElem?_append_left (List.getElem?_eq_some_iff.mp h).1]; exact h⟩
  have at_ : (ι ++ [p])[st.length]? = some p := by rw [← S.len]; simp
  refine ⟨⟨S.fro, by simp [S.len], ?_, fun a h => ?_, fun i c' a h1 h2 => ?_, fun i c' a h1 h2 => ?_, S.no⟩, x, at_⟩
  · rw [List.nodup_append]
    exact ⟨S.nd, by simp, fun a ha b hb => by simp at hb; subst hb; exact fun z => np (z ▸ ha)⟩
  · rcases List.mem_append.mp h with h | h
    · exact S.has a h
    · simp at h; subst h; exact hc.there
  · by_cases hi : i < st.length
    · rw [List.getElem?_append_left hi] at h1
      rw [List.getElem?_append_left (by rw [S.len]; exact hi)] at h2
      obtain ⟨q1, q2⟩ := S.cell i c' a h1 h2
      exact ⟨q1, q2.mono x rfl⟩
    · have hi' : i = st.length := by
        have := (List.getElem?_eq_some_iff.mp h1).1
        simp at this; omega
      subst hi'
      rw [at_] at h2; cases h2
      simp at h1; subst h1
      exact ⟨fp, hc.mono x rfl⟩
  · by_cases hi : i < st.length
    · rw [List.getElem?_append_left hi] at h1
      rw [List.getElem?_append_left (by rw [S.len]; exact hi)] at h2
      exact (S.frz i c' a h1 h2).mono x
    · have hi' : i = st.length := by
        have := (List.getElem?_eq_some_iff.mp h1).1
        simp at this; omega
      subst hi'
      simp at h1
/-- a cell's object changes -/
theorem Sim.write {F : Hp} {ι : List Addr} {st : Sto} {H : Hp} {i : Nat} {a : Addr} {c c' : Cell} {o : HO} (S : Sim C F ι st H) (hi : st[i]? = some (.live c)) (ha : ι[i]? = some a) (hc : CellAt C F ι (upd H a o) a c') :
    Sim C F ι (st.set i (.live c')) (upd H a o) := by
  obtain ⟨fa, _⟩ := S.cell i c a hi ha
  have uniq : ∀ {j : Nat} {b : Addr}, ι[j]? = some b → b = a → j = i := fun {j b} h e => by
    subst e
    obtain ⟨l1, e1⟩ := List.getElem?_eq_some_iff.mp h
    obtain ⟨l2, e2⟩ := List.getElem?_eq_some_iff.mp ha
    exact (List.getElem_inj S.nd).mp (e1.trans e2.symm)
  refine ⟨fun b u h => ?_, by simpa using S.len, S.nd, fun b h => ?_, fun j c'' b h1 h2 => ?_, fun j c'' b h1 h2 => ?_, S.no⟩
  · rw [upd_ne (fun z => by rw [z, fa] at h; cases h)]; exact S.fro b u h
  · by_cases e : b = a
    · subst e; exact ⟨_, upd_same⟩
    · obtain ⟨u, q⟩ := S.has b h; exact ⟨u, by rw [upd_ne e]; exact q⟩
  · by_cases e : j = i
    · subst e
      rw [ha] at h2; cases h2
      rw [List.getElem?_set_self (List.getElem?_eq_some_iff.mp hi).1] at h1
      cases h1
      exact ⟨fa, hc⟩
    · rw [List.getElem?_set_ne (Ne.symm e)] at h1
      obtain ⟨q1, q2⟩ := S.cell j c'' b h1 h2
      exact ⟨q1, q2.mono Ext.refl (upd_ne (fun z => e (uniq h2 z))).symm⟩
  · by_cases e : j = i
    · subst e
      rw [List.getElem?_set_self (List.getElem?_eq_some_iff.mp hi).1] at h1
      cases h1
    · rw [List.getElem?_set_ne (Ne.symm e)] at h1
      exact S.frz j c'' b h1 h2
/-- a cell is frozen for good -/
theorem Sim.still {F : Hp} {ι : List Addr} {st : Sto} {H : Hp} {i : Nat} {a : Addr} {c : Cell} {o : HO} (S : Sim C F ι st H) (hi : st[i]? = some (.live c)) (ha : ι[i]? = some a) (ho : H a = some o) :
    Sim C (upd F a o) ι (st.set i (.froz c)) H ∧ Ext F ι (upd F a o) ι ∧ Rep C (upd F a o) ι (.ref a) c.toD := by
  obtain ⟨fa, hc⟩ := S.cell i c a hi ha
  have x : Ext F ι (upd F a o) ι := ⟨fun b u h => by rw [upd_ne (fun z => by rw [z, fa] at h; cases h)]; exact h, fun _ _ h => h⟩
  have rp : Rep C (upd F a o) ι (.ref a) c.toD := CellAt.rep (hc.mono x (by rw [upd_same]; exact ho))
  have uniq : ∀ {j : Nat} {b : Addr}, ι[j]? = some b → b = a → j = i := fun {j b} h e => by
    subst e
    obtain ⟨l1, e1⟩ := List.getElem?_eq_some_iff.mp h
    obtain ⟨l2, e2⟩ := List.getElem?_eq_some_iff.mp ha
    exact (List.getElem_inj S.nd).mp (e1.trans e2.symm)
  refine ⟨⟨fun b u h => ?_, by simpa using S.len, S.nd, S.has, fun j c'' b h1 h2 => ?_, fun j c'' b h1 h2 => ?_, no_upd S.no (hc.kind ho).own⟩, x, rp⟩
  · by_cases e : b = a
    · subst e; rw [upd_same] at h; cases h; exact ho
    · rw [upd_ne e] at h; exact S.fro b u h
  · by_cases e : j = i
    · subst e
      rw [List.getElem?_set_self (List.getElem?_eq_some_iff.mp hi).1] at h1
      cases h1
    · rw [List.getElem?_set_ne (Ne.symm e)] at h1
      obtain ⟨q1, q2⟩ := S.cell j c'' b h1 h2
      have nb : b ≠ a := fun z => e (uniq h2 z)
      exact ⟨by rw [upd_ne nb]; exact q1, q2.mono x rfl⟩
  · by_cases e : j = i
    · subst e
      rw [List.getElem?_set_self (List.getElem?_eq_some_iff.mp hi).1] at h1
      cases h1
      rw [ha] at h2; cases h2
      exact rp
    · rw [List.getElem?_set_ne (Ne.symm e)] at h1
      exact (S.frz j c'' b h1 h2).mono x
end
end Fd

set_option Elab.async false
set_option linter.all false
/-! a call leaves what it doesn't know of: the cells at δ are kept out of its sight -/
namespace Fd
open PySem L2
def gone (H : Hp) (δ : List Addr) (b : Addr) : Bool := decide (b ∈ δ) || (match H b with | some (.own a) => decide (a ∈ δ) | _ => false)
def dropH (H : Hp) (δ : List Addr) : Hp := fun b => if gone H δ b = true then none else H b
def joinH (H : Hp) (δ : List Addr) (H' : Hp) : Hp := fun b => if gone H δ b = true then H b else H' b
structure DOk (H : Hp) (δ : List Addr) : Prop where
  cel : ∀ a ∈ δ, ∃ o, H a = some o ∧ CelO o
section
variable {P : Program} {w : World} {H H' : Hp} {δ : List Addr} {h h' B : Heap} {b : Addr} {o : HO}
theorem gone_none (D : DOk H δ) (e : H b = none) : gone H δ b = false := by
  unfold gone
  rw [e]
  have : b ∉ δ := fun m => by obtain ⟨o, h, _⟩ := D.cel b m; rw [e] at h; cases h
  simp [this]
theorem gone_not (D : DOk H δ) (e : H b = some o) (hc : ¬ CelO o) (ho : ∀ x, o ≠ .own x) : gone H δ b = false := by
  unfold gone
  rw [e]
  have : b ∉ δ := fun m => by obtain ⟨u, h, k⟩ := D.cel b m; rw [e] at h; cases h; exact hc k
  cases o <;> first | (simp [this]; done) | exact absurd rfl (ho _)
theorem gone_own {a : Addr} (D : DOk H δ) (e : H b = some (.own a)) : gone H δ b = true ↔ a ∈ δ := by
  unfold gone
  rw [e]
  have : b ∉ δ := fun m => by obtain ⟨u, h, k⟩ := D.cel b m; rw [e] at h; cases h; exact k
  simp [this]
theorem gone_mem (m : b ∈ δ) : gone H δ b = true := by unfold gone; simp [m]
theorem drop_at (g : gone H δ b = false) : dropH H δ b = H b := by unfold dropH; rw [g]; rfl
theorem drop_gone (g : gone H δ b = true) : dropH H δ b = none := by unfold dropH; rw [if_pos g]
theorem join_at (g : gone H δ b = false) : joinH H δ H' b = H' b := by unfold joinH; rw [g]; rfl
theorem join_gone (g : gone H δ b = true) : joinH H δ H' b = H b := by unfold joinH; rw [if_pos g]
theorem drop_none (D : DOk H δ) (e : H b = none) : dropH H δ b = none := by rw [drop_at (gone_none D e)]; exact e
theorem drop_some (e : dropH H δ b = some o) : gone H δ b = false ∧ H b = some o := by
  cases g : gone H δ b with
  | true => rw [drop_gone g] at e; cases e
  | false => rw [drop_at g] at e; exact ⟨rfl, e⟩
theorem gone_some (D : DOk H δ) (g : gone H δ b = true) : ∃ o, H b = some o := by
  cases e : H b with
  | none => rw [gone_none D e] at g; cases g
  | some o => exact ⟨o, rfl⟩
theorem hok_drop (D : DOk H δ) (x : HOk P w H h) : HOk P w (dropH H δ) h := fun a o e => by
  obtain ⟨g, e1⟩ := drop_some e
  refine (x a o e1).stay (fun _ _ _ q => q) (fun c q => ?_) fun c xs q => ?_
  · have : gone H δ c = false := by
      cases gc : gone H δ c with
      | false => rfl
      | true => rw [gone_mem ((gone_own D q).mp gc)] at g; cases g
    rw [drop_at this]; exact q
  · rw [drop_at (gone_not D q id (fun _ z => nomatch z))]; exact q
theorem hok_join (D : DOk H δ) (x : HOk P w H h) (x' : HOk P w H' h') (keep : ∀ b o, h.get? b = some o → gone H δ b = true → h'.get? b = some o) (hn : ∀ b, gone H δ b = true → H' b = none)
    (tups : ∀ b xs, dropH H δ b = some (.tup xs) → H' b = some (.tup xs)) : HOk P w (joinH H δ H') h' := fun a o e => by
  have tp : ∀ b xs, H b = some (.tup xs) → joinH H δ H' b = some (.tup xs) := fun b xs q => by
    have g := gone_not D q id (fun _ z => nomatch z)
    rw [join_at g]
    exact tups b xs (by rw [drop_at g]; exact q)
  have up : ∀ b u, H' b = some u → joinH H δ H' b = some u := fun b u q => by
    cases g : gone H δ b with
    | false => rw [join_at g]; exact q
    | true => rw [hn b g] at q; cases q
  cases g : gone H δ a with
  | false =>
    rw [join_at g] at e
    exact (x' a o e).stay (fun _ _ _ q => q) (fun c q => up c _ q) fun c xs q => up c _ q
  | true =>
    rw [join_gone g] at e
    by_cases m : a ∈ δ
    · refine (x a o e).stay (fun c u hc q => keep c u q ?_) (fun c q => ?_) tp
      · rcases hc with rfl | hc
        · exact g
        · exact (gone_own D hc).mpr m
      · rw [join_gone ((gone_own D q).mpr m)]; exact q
    · have : ∃ y, o = .own y := by
        unfold gone at g
        rw [e] at g
        cases o <;> simp [m] at g
        exact ⟨_, rfl⟩
      obtain ⟨y, rfl⟩ := this
      obtain ⟨ob, q⟩ := (show ∃ o, h.get? a = some o from x a _ e)
      exact ⟨ob, keep a ob q g⟩
theorem un_join {fs : List Addr} (D : DOk H δ) (x : HOk P w H h) (un : Un fs [] (dropH H δ) H' h h') (hn : ∀ b, gone H δ b = true → H' b = none) : Un fs [] H (joinH H δ H') h h' where
  keep := fun b o q n hb hx => un.keep b o q (drop_none D n) hb hx
  slot := fun b o q n hb hx => un.slot b o q (drop_none D n) hb hx
  free := fun b o q n hx => by rw [join_at (gone_none D n)]; exact un.free b o q (drop_none D n) hx
  there := fun b o q hx => un.there b o q hx
  tups := fun b xs q => by
    have g := gone_not D q id (fun _ z => nomatch z)
    rw [join_at g]; exact un.tups b xs (by rw [drop_at g]; exact q)
  frzs := fun b o u q => by
    have g := gone_not D q id (fun _ z => nomatch z)
    rw [join_at g]; exact un.frzs b o u (by rw [drop_at g]; exact q)
  tbls := fun b ps q => by
    have g := gone_not D q id (fun _ z => nomatch z)
    rw [join_at g]; exact un.tbls b ps (by rw [drop_at g]; exact q)
theorem ub_join {fs : List Addr} (D : DOk H δ) (x : HOk P w H h) (un : L2.UB fs (dropH H δ) H' h B h') : L2.UB fs H (joinH H δ H') h B h' where
  keep := fun b o q n hb => un.keep b o q (drop_none D n) hb
  slot := fun b o q hb => un.slot b o q hb
  free := fun b o q n => by rw [join_at (gone_none D n)]; exact un.free b o q (drop_none D n)
  there := fun b o q hb => un.there b o q hb
  tups := fun b xs q => by
    have g := gone_not D q id (fun _ z => nomatch z)
    rw [join_at g]; exact un.tups b xs (by rw [drop_at g]; exact q)
  frzs := fun b o u q => by
    have g := gone_not D q id (fun _ z => nomatch z)
    rw [join_at g]; exact un.frzs b o u (by rw [drop_at g]; exact q)
  tbls := fun b ps q => by
    have g := gone_not D q id (fun _ z => nomatch z)
    rw [join_at g]; exact un.tbls b ps (by rw [drop_at g]; exact q)
/-- a spec that is asked of a smaller heap -/
def spF (sp : Sp) : Sp := fun vs H Q E => ∃ δ, DOk H δ ∧ sp vs (dropH H δ) (fun v H' => (∀ b, gone H δ b = true → H' b = none) → Q v (joinH H δ H')) (fun c d H' => (∀ b, gone H δ b = true → H' b = none) → E c d (joinH H δ H'))
theorem FnOk.frame {K : PySem.W.Frag} {mg : Str → Option Value} {base : Heap} {k : Nat} {f : Addr} {fd : FuncData} {ps : List Str} {sp : Sp} (F : FnOk P w K mg base (L2.CX P w) k f fd ps sp) : FnOk P w K mg base (L2.CX P w) k f fd ps (spF sp) := by
  refine ⟨fun vs H Q E ⟨δ, D, h⟩ => F.len _ _ _ _ h, fun A outer s H args us vs Q E hr e0 hb r ⟨δ, D, h⟩ => ?_⟩
  have e1 : Env0 P w K mg base A outer s (dropH H δ) := ⟨e0.frames, e0.mod, fun b o q => ⟨(e0.bs b o q).1, drop_none D (e0.bs b o q).2⟩, e0.bsz, e0.funs, fun b hb => drop_none D (e0.frf b hb), hok_drop D e0.hok, e0.bare⟩
  have nfr : ∀ b, gone H δ b = true → b ∉ frs outer := fun b g m => by
    rw [gone_none D (e0.frf b m)] at g; cases g
  have hap : ∀ b, gone H δ b = true → ∃ o, s.heap.get? b = some o := fun b g => by
    obtain ⟨o, q⟩ := gone_some D g
    exact objOk_get (e0.hok b o q)
  refine codeAny_mono (F.run A outer s _ args us vs _ _ hr e1 hb r h) fun r' s' hq => ?_
  cases r' with
  | error e =>
    obtain ⟨a, B, H', cls, d, rfl, fl, hok, ub, na, os, ag, hE⟩ := hq
    have hn : ∀ b, gone H δ b = true → H' b = none := fun b g => by
      obtain ⟨o, q⟩ := hap b g
      exact ub.free b o q (drop_gone g)
    have keep : ∀ b o, s.heap.get? b = some o → gone H δ b = true → B.get? b = some o := fun b o q g => ub.keep b o q (drop_gone g) (nfr b g)
    refine ⟨a, B, joinH H δ H', cls, d, rfl, fl, hok_join D e0.hok hok keep hn (fun b xs q => ub.tups b xs q), ub_join D e0.hok ub, ?_, os, ag, hE hn⟩
    have g : gone H δ a = false := by
      cases g : gone H δ a with
      | false => rfl
      | true =>
        obtain ⟨o, q⟩ := hap a g
        have := keep a o q g
        rw [fl.2.1] at this
        cases this
    rw [join_at g]
    exact na
  | ok f =>
    cases f with
    | ret u =>
      obtain ⟨v, H', os, bare, un, hok, rv, q⟩ := hq
      have hn : ∀ b, gone H δ b = true → H' b = none := fun b g => by
        obtain ⟨o, q⟩ := hap b g
        exact un.free b o q (drop_gone g) (by simp)
      exact ⟨v, joinH H δ H', os, bare, un_join D e0.hok un hn, hok_join D e0.hok hok (fun b o q g => un.keep b o q (drop_gone g) (nfr b g) (by simp)) hn (fun b xs q => un.tups b xs q), rv, q hn⟩
    | next => exact hq
    | brk => exact hq
    | cont => exact hq
end
end Fd

set_option Elab.async false
set_option linter.all false
namespace Fd
open PySem L2

/-! ### the small language -/
inductive BOp where | add | sub | mul | mod | fdiv | pow
inductive COp where | eq | ne | lt | le | gt | ge | isin | notin
inductive Kd where | int | bool | str | list | tuple | dict | seq | cls (c : Nat)
inductive Bi where
  | len | sum | min1 | max1 | min2 | max2 | abs | int1 | str1 | all | any | list | tuple | sorted | listRange | listZip | listRev | dict | divmod
  | range | enum | zip | rev
inductive Lm where | append | extend | pop | popAt | index | insert | values | items | split | join | endswith | count
inductive Tg where | nm (i : Nat) | tu (t : Tg) | nil | cons (t r : Tg)
inductive IE (φ : Type) where
  | nil | cons (a r : IE φ)
  | var (i : Nat) | snap (i : Nat)
  | non | bl (b : Bool) | int (i : Int) | str (s : Str)
  | bin (op : BOp) (a b : IE φ) | neg (a : IE φ)
  | cmp (op : COp) (a b : IE φ) | chain (op op' : COp) (a b c : IE φ)
  | isN (a : IE φ) | notN (a : IE φ) | isB (b : Bool) (a : IE φ) | notB (b : Bool) (a : IE φ)
  | isI (k : Kd) (a : IE φ)
  | and (a b : IE φ) | or (a b : IE φ) | one (a : IE φ) | not (a : IE φ)
  | ife (c a b : IE φ)
  | list (es : IE φ) | tup (es : IE φ) | dict (ks vs : IE φ)
  | mk (a : IE φ) | frz (a : IE φ)
  | idx (a i : IE φ) | slice (a lo hi : IE φ) | back (a : IE φ) | step2 (a : IE φ) | step2f (a : IE φ)
  | call (f : φ) (es : IE φ)
  | make (c : Nat) (f : φ) (fz : Bool) (es : IE φ)
  | meth (c : Nat) (f : φ) (a es : IE φ)
  | attr (c j : Nat) (a : IE φ)
  | bi (b : Bi) (es : IE φ)
  | lm (m : Lm) (a es : IE φ)
  | lc (own : List Nat) (t : Tg) (it cond elt : IE φ)
  | dc (own : List Nat) (t : Tg) (it cond k v : IE φ)
  | none
  | mkq (a : IE φ)
  | lcd (own : List Nat) (t : Tg) (i : Nat) (cond elt : IE φ)
  | mkx (c : Nat) (kw : Bool) (a : IE φ) | mkx0 (c : Nat)
  | xattr (c j : Nat) (a : IE φ)
  | isX (n : Nat) (tbl : List Nat) (tup : Bool) (ts : List (Option Nat)) (a : IE φ)
  | fcall (f : φ) (es : IE φ)
  | fmeth (c : Nat) (f : φ) (a es : IE φ)
  | fmake (c : Nat) (f : φ) (es : IE φ)
  | isXn (n : Nat) (ts : List String) (a : IE φ)
  | dpop (a k : IE φ)
inductive IS (φ : Type) where
  | nil | cons (s r : IS φ)
  | pass
  | expr (e : IE φ)
  | asg (t : Tg) (e : IE φ)
  | par (is : List Nat) (es : IE φ)
  | asgSub (a i e : IE φ)
  | asgSub2 (a i b j e : IE φ)
  | asgAttr (c j : Nat) (a e : IE φ)
  | ret (e : IE φ) | retN
  | ife (c : IE φ) (a b : IS φ)
  | for_ (t : Tg) (it : IE φ) (b : IS φ)
  | while_ (c : IE φ) (b : IS φ)
  | tryX (c k i j : Nat) (ks : List Int)
  | never

/-! ### values -/
/-- a frozen cell is its content -/
def res (st : Sto) : D → D
  | .ref k => match st[k]? with
    | some (.froz c) => c.toD
    | _ => .ref k
  | d => d
/-- the value is frozen for good -/
def still (st : Sto) : D → D × Sto
  | .ref k => match st[k]? with
    | some (.froz c) => (c.toD, st)
    | some (.live c) => (c.toD, st.set k (.froz c))
    | none => (.ref k, st)
  | d => (d, st)
def stillL : List D → Sto → List D × Sto
  | [], st => ([], st)
  | d :: ds, st =>
    let (x, st1) := still st d
    let (xs, st2) := stillL ds st1
    (x :: xs, st2)
def cellOf (st : Sto) (k : Nat) : Option Cell := match st[k]? with
  | some (.live c) => some c
  | some (.froz c) => some c
  | none => none
def lstOf (st : Sto) : D → Option (List D)
  | .lst xs => some xs
  | .ref k => match cellOf st k with
    | some (.lst xs) => some xs
    | _ => none
  | _ => none
/-- a list or a tuple -/
def seqOf (st : Sto) : D → Option (List D)
  | .tup xs => some xs
  | d => lstOf st d
/-- a dict with plain keys -/
def dicOf (st : Sto) : D → Option (List Key × List D)
  | .dK ks vs => some (ks, vs)
  | .ref k => match cellOf st k with
    | some (.dK ks vs) => some (ks, vs)
    | _ => none
  | _ => none
def dicTOf (st : Sto) : D → Option (List (List Key) × List D)
  | .dT ks vs => some (ks, vs)
  | .ref k => match cellOf st k with
    | some (.dT ks vs) => some (ks, vs)
    | _ => none
  | _ => none
def objOf (st : Sto) : D → Option (Nat × List D)
  | .obj c vs => some (c, vs)
  | .ref k => match cellOf st k with
    | some (.obj c vs) => some (c, vs)
    | _ => none
  | _ => none
def isNonB : D → Bool
  | .non => true
  | _ => false
def lim : Nat := 16777216
def isTup : D → Bool
  | .tup _ => true
  | _ => false
mutual
def D.py : D → Option PyData
  | .non => some .none
  | .bl b => some (.bool b)
  | .int i => some (.int i)
  | .str x => some (.str x)
  | .lst xs => (D.pyL xs).map .list
  | .tup xs => (D.pyL xs).map .tuple
  | _ => none
def D.pyL : List D → Option (List PyData)
  | [] => some []
  | d :: ds => match d.py, D.pyL ds with
    | some x, some xs => some (x :: xs)
    | _, _ => none
end
/-- a value as data for == -/
def pyOf (st : Sto) (d : D) : Option PyData := match d with
  | .ref k => match cellOf st k with
    | some (.lst xs) => (D.pyL xs).map .list
    | _ => none
  | d => d.py
def eqD (st : Sto) (x y : D) : Option Bool := match pyOf st x, pyOf st y with
  | some p, some q => if SeqAt.shaped p && SeqAt.shaped q then some (PyData.eqv p q) else none
  | _, _ => none
/-- a plain value for «in» -/
def flatOf : D → Option V
  | .non => some .non
  | .bl b => some (.bl b)
  | .int i => some (.int i)
  | .str x => some (.str x)
  | _ => none
def flats : List D → Option (List V)
  | [] => some []
  | d :: ds => match flatOf d, flats ds with
    | some x, some xs => if flatV x then some (x :: xs) else none
    | _, _ => none
def keyOf : D → Option Key
  | .int i => some (.inl i)
  | .str x => some (.inr x)
  | _ => none
def keysOf : List D → Option (List Key)
  | [] => some []
  | d :: ds => match keyOf d, keysOf ds with
    | some x, some xs => some (x :: xs)
    | _, _ => none
def dkey : Key → D
  | .inl i => .int i
  | .inr x => .str x
def lookK {κ : Type} [DecidableEq κ] : List κ → List D → κ → Option D
  | k :: ks, v :: vs, x => if k = x then some v else lookK ks vs x
  | _, _, _ => none
def memK {κ : Type} [DecidableEq κ] (ks : List κ) (k : κ) : Bool := ks.any fun x => decide (x = k)
/-- d[k] = v -/
def putK {κ : Type} [DecidableEq κ] (ks : List κ) (vs : List D) (k : κ) (v : D) : List κ × List D :=
  if memK ks k = true then (ks, List.zipWith (fun a w => if a = k then v else w) ks vs) else (ks ++ [k], vs ++ [v])
def intOf : D → Option Int
  | .int i => some i
  | _ => none
def intsOf : List D → Option (List Int)
  | [] => some []
  | d :: ds => match intOf d, intsOf ds with
    | some x, some xs => some (x :: xs)
    | _, _ => none
def boolsOf : List D → Option (List Bool)
  | [] => some []
  | .bl b :: ds => match boolsOf ds with
    | some xs => some (b :: xs)
    | none => none
  | _ => none
def insI (x : Int) : List Int → List Int
  | [] => [x]
  | y :: ys => if x ≤ y then x :: y :: ys else y :: insI x ys
def sortI : List Int → List Int
  | [] => []
  | x :: xs => insI x (sortI xs)
def maxI : List Int → Option Int
  | [] => none
  | x :: xs => some (xs.foldl (fun m y => if y > m then y else m) x)
def minI : List Int → Option Int
  | [] => none
  | x :: xs => some (xs.foldl (fun m y => if y < m then y else m) x)
def rangeD (a b : Int) : List D := (List.range (b - a).toNat).map fun i => .int (a + (i : Nat))
def zipD : List D → List D → List D
  | x :: xs, y :: ys => .tup [x, y] :: zipD xs ys
  | _, _ => []
def enumD : Nat → List D → List D
  | _, [] => []
  | i, x :: xs => .tup [.int i, x] :: enumD (i + 1) xs
def cutD (xs : List D) (lo hi : Option Int) : List D := (xs.drop (HT.sIx xs.length 0 lo)).take (HT.sIx xs.length xs.length hi - HT.sIx xs.length 0 lo)
/-- every second one -/
def even {α : Type} : List α → List α
  | [] => []
  | [x] => [x]
  | x :: _ :: r => x :: even r

def opB (op : BOp) (x y : D) (st : Sto) : Rs Wv := match op, x, y with
  | .add, .int i, .int j => .ok (.d (.int (i + j))) st
  | .sub, .int i, .int j => .ok (.d (.int (i - j))) st
  | .mul, .int i, .int j => if (-(2 ^ 64) < i ∧ i < 2 ^ 64) ∨ (-(2 ^ 64) < j ∧ j < 2 ^ 64) then .ok (.d (.int (i * j))) st else .err
  | .mod, .int i, .int j => if 0 < j then .ok (.d (.int (i % j))) st else .err
  | .fdiv, .int i, .int j => if 0 < j ∧ j < 1073741824 then .ok (.d (.int (i / j))) st else .err
  | .pow, .int i, .int j => if 0 ≤ j ∧ j ≤ 1000000 ∧ i.natAbs < 2 ^ 64 then .ok (.d (.int (i ^ j.toNat))) st else .err
  | .add, .str a, .str b => if a.length + b.length ≤ lim then .ok (.d (.str (a ++ b))) st else .err
  | .mul, l, .int k => match lstOf st l with
    | some xs => if -(2 ^ 63) ≤ k ∧ k < 2 ^ 63 ∧ xs.length * k.toNat ≤ lim then .ok (.fr (.lst (List.replicate k.toNat xs).flatten)) st else .err
    | none => .err
  | .add, l, r => match lstOf st l, lstOf st r with
    | some xs, some ys => if xs.length + ys.length ≤ lim then .ok (.fr (.lst (xs ++ ys))) st else .err
    | _, _ => .err
  | _, _, _ => .err
def opC (op : COp) (x y : D) (st : Sto) : Rs Bool := match op, x, y with
  | .lt, .int i, .int j => .ok (decide (i < j)) st
  | .le, .int i, .int j => .ok (decide (i ≤ j)) st
  | .gt, .int i, .int j => .ok (decide (j < i)) st
  | .ge, .int i, .int j => .ok (decide (j ≤ i)) st
  | .eq, x, y => ofO (eqD st x y) st
  | .ne, x, y => ofO ((eqD st x y).map not) st
  | .isin, .int i, y => match dicOf st y with
    | some (ks, _) => .ok (memK ks (Sum.inl i)) st
    | none => match (seqOf st y).bind flats with
      | some vs => .ok (inV (.int i) vs) st
      | none => .err
  | .isin, .str i, y => match dicOf st y with
    | some (ks, _) => .ok (memK ks (Sum.inr i)) st
    | none => match (seqOf st y).bind flats with
      | some vs => .ok (inV (.str i) vs) st
      | none => .err
  | .isin, .bl i, y => match (seqOf st y).bind flats with
    | some vs => .ok (inV (.bl i) vs) st
    | none => .err
  | .notin, .int i, y => match dicOf st y with
    | some (ks, _) => .ok (!memK ks (Sum.inl i)) st
    | none => match (seqOf st y).bind flats with
      | some vs => .ok (!inV (.int i) vs) st
      | none => .err
  | .notin, .str i, y => match dicOf st y with
    | some (ks, _) => .ok (!memK ks (Sum.inr i)) st
    | none => match (seqOf st y).bind flats with
      | some vs => .ok (!inV (.str i) vs) st
      | none => .err
  | _, _, _ => .err
/-- an item -/
def getAt (st : Sto) (x i : D) : Option D := match x, i with
  | .str z, .int i => if z.length ≤ lim then (atI z.cps.toList i).map fun c => .str ⟨#[c]⟩ else none
  | x, i => match dicOf st x with
    | some (ks, vs) => (keyOf i).bind fun k => (lookK ks vs k).map (res st)
    | none => match seqOf st x, i with
      | some xs, .int i => (atI xs i).map (res st)
      | _, _ => none
def kindIs (st : Sto) (k : Kd) : D → Option Bool
  | .non => some (match k with | _ => false)
  | .bl _ => some (match k with | .int => true | .bool => true | _ => false)
  | .int _ => some (match k with | .int => true | _ => false)
  | .str _ => some (match k with | .str => true | _ => false)
  | .lst _ => some (match k with | .list => true | .seq => true | _ => false)
  | .tup _ => some (match k with | .tuple => true | .seq => true | _ => false)
  | .dK .. => some (match k with | .dict => true | _ => false)
  | .dT .. => some (match k with | .dict => true | _ => false)
  | .obj c _ => match k with | .cls c' => if c = c' then some true else none | _ => some false
  | .exc .. => none
  | .ref j => match cellOf st j with
    | some (.lst _) => some (match k with | .list => true | .seq => true | _ => false)
    | some (.dK ..) => some (match k with | .dict => true | _ => false)
    | some (.dT ..) => some (match k with | .dict => true | _ => false)
    | some (.obj c _) => match k with | .cls c' => if c = c' then some true else none | _ => some false
    | none => none
  | .scr _ => none
/-- the frozen list -/
def lstF : D → Option (List D)
  | .lst xs => some xs
  | _ => none
def tupF : D → Option (List D)
  | .tup xs => some xs
  | _ => none
/-- pairs (key, value) -/
def pairsOf : List D → Option (List (Key × D))
  | [] => some []
  | d :: ds => match tupF d with
    | some [k, v] => match keyOf k, pairsOf ds with
      | some k, some r => some ((k, v) :: r)
      | _, _ => none
    | _ => none
def merD : List (Key × D) → List Key → List D → List Key × List D
  | [], ks, vs => (ks, vs)
  | p :: r, ks, vs => merD r (putK ks vs p.1 p.2).1 (putK ks vs p.1 p.2).2
def evBi (b : Bi) (ds : List D) (st : Sto) : Rs Wv := match b, ds with
  | .len, [.str z] => if z.length ≤ lim then .ok (.d (.int z.length)) st else .err
  | .len, [x] => match dicOf st x with
    | some (ks, _) => .ok (.d (.int ks.length)) st
    | none => match seqOf st x with
      | some xs => .ok (.d (.int xs.length)) st
      | none => .err
  | .sum, [x] => match (lstOf st x).bind intsOf with
    | some ns => .ok (.d (.int ns.sum)) st
    | none => .err
  | .min1, [x] => match ((lstOf st x).bind intsOf).bind minI with
    | some m => .ok (.d (.int m)) st
    | none => .err
  | .max1, [x] => match ((lstOf st x).bind intsOf).bind maxI with
    | some m => .ok (.d (.int m)) st
    | none => .err
  | .min2, [.int i, .int j] => .ok (.d (.int (if j < i then j else i))) st
  | .max2, [.int i, .int j] => .ok (.d (.int (if j > i then j else i))) st
  | .abs, [.int i] => .ok (.d (.int (if i < 0 then -i else i))) st
  | .int1, [.int i] => .ok (.d (.int i)) st
  | .str1, [.int i] => if i.natAbs.log2 < 1920 then .ok (.d (.str (Str.ofString (toString i)))) st else .err
  | .all, [x] => match (lstOf st x).bind boolsOf with
    | some bs => .ok (.d (.bl (bs.all id))) st
    | none => .err
  | .any, [x] => match (lstOf st x).bind boolsOf with
    | some bs => .ok (.d (.bl (bs.any id))) st
    | none => .err
  | .list, [.scr ns] => if ns.length ≤ lim then .ok (.fr (.lst (ns.map .int))) st else .err
  | .list, [x] => match dicOf st x with
    | some (ks, _) => .ok (.fr (.lst (ks.map dkey))) st
    | none => match seqOf st x with
      | some xs => .ok (.fr (.lst xs)) st
      | none => .err
  | .tuple, [.tup xs] => .ok (.d (.tup xs)) st
  | .tuple, [x] => match lstOf st x with
    | some xs => .ok (.d (.tup xs)) st
    | none => .err
  | .sorted, [x] => match (lstOf st x).bind intsOf with
    | some ns => .ok (.fr (.lst ((sortI ns).map .int))) st
    | none => .err
  | .listRange, [.int j] => if j ≤ lim ∧ 0 ≤ j then .ok (.fr (.lst (rangeD 0 j))) st else .err
  | .listRev, [x] => match lstOf st x with
    | some xs => .ok (.fr (.lst xs.reverse)) st
    | none => .err
  | .listZip, [x, y] => match lstOf st x, lstOf st y with
    | some xs, some ys => .ok (.fr (.lst (zipD xs ys))) st
    | _, _ => .err
  | .dict, [x] => match (lstOf st x).bind pairsOf with
    | some kvs => .ok (.fr (.dK (merD kvs [] []).1 (merD kvs [] []).2)) st
    | none => .err
  | .listRange, [.int i, .int j] => if 0 ≤ i ∧ j ≤ lim ∧ i ≤ lim ∧ 0 ≤ j then .ok (.fr (.lst (rangeD i j))) st else .err
  | _, _ => .err
/-- what a for, a comprehension walks -/
inductive Src where
  | lst (xs : List D) | tup (xs : List D) | rng (lo : Int) (n : Nat) | rngC (lo c : Int) (n : Nat) | str (z : Str) | enum (xs : List D) | zip (xs ys : List D) | zipT (xs ys : List D) | rev (xs : List D)
def Src.items : Src → List D
  | .lst xs => xs
  | .tup xs => xs
  | .rng lo n => (List.range n).map fun i => .int (lo + (i : Nat))
  | .rngC lo c n => (List.range n).map fun i => .int (lo + (i : Nat) * c)
  | .str z => z.cps.toList.map fun c => .str ⟨#[c]⟩
  | .enum xs => enumD 0 xs
  | .zip xs ys => zipD xs ys
  | .zipT xs ys => zipD xs ys
  | .rev xs => xs.reverse
def small62 (i : Int) : Prop := -(2 ^ 62) ≤ i ∧ i < 2 ^ 62
instance (i : Int) : Decidable (small62 i) := inferInstanceAs (Decidable (_ ∧ _))
def srcBi (b : Bi) (ds : List D) : Option Src := match b, ds with
  | .range, [.int j] => if small62 j then some (.rng 0 j.toNat) else none
  | .range, [.int i, .int j] => if small62 i ∧ small62 j then some (.rng i (j - i).toNat) else none
  | .range, [.int i, .int j, .int c] => if small62 i ∧ small62 j ∧ c = -1 then some (.rngC i (-1) (i - j).toNat) else none
  | .enum, [x] => (lstF x).map .enum
  | .rev, [x] => (lstF x).map .rev
  | .zip, [x, y] => match lstF x, lstF y with
    | some xs, some ys => some (.zip xs ys)
    | _, _ => match tupF x, tupF y with
      | some xs, some ys => some (.zipT xs ys)
      | _, _ => none
  | _, _ => none
def srcOf : D → Option Src
  | .lst xs => some (.lst xs)
  | .tup xs => some (.tup xs)
  | .str z => some (.str z)
  | _ => none

/-! ### targets -/
mutual
def asgT : Tg → D → Sto → Rho → Option Rho
  | .nm i, d, _, ρ => some (ρ.set i (some d))
  | .tu t, d, st, ρ => (tupF d).bind fun xs => asgTs t (xs.map (res st)) st ρ
  | _, _, _, _ => none
def asgTs : Tg → List D → Sto → Rho → Option Rho
  | .nil, [], _, ρ => some ρ
  | .cons t r, x :: xs, st, ρ => (asgT t x st ρ).bind fun ρ1 => asgTs r xs st ρ1
  | _, _, _, _ => none
end
def wipeR (ρ : Rho) : List Nat → Rho
  | [] => ρ
  | v :: vs => (wipeR ρ vs).set v none

/-! ### lists by their methods -/
def evLm (m : Lm) (x : D) (ds : List D) (st : Sto) : Rs Wv := match m, x, ds with
  | .append, .ref k, [y] => match st[k]? with
    | some (.live (.lst xs)) => if xs.length < lim then .ok (.d .non) (st.set k (.live (.lst (xs ++ [y])))) else .err
    | _ => .err
  | .extend, .ref k, [y] => match st[k]?, lstF y with
    | some (.live (.lst xs)), some ys => if xs.length + ys.length ≤ lim then .ok (.d .non) (st.set k (.live (.lst (xs ++ ys)))) else .err
    | _, _ => .err
  | .pop, .ref k, [] => match st[k]? with
    | some (.live (.lst xs)) => match xs[xs.length - 1]? with
      | some y => .ok (.d (res st y)) (st.set k (.live (.lst xs.dropLast)))
      | none => .err
    | _ => .err
  | .popAt, .ref k, [.int i] => match st[k]? with
    | some (.live (.lst xs)) => match seqIndex? i xs.length with
      | some j => match xs[j]? with
        | some y => if -(2 ^ 63) ≤ i ∧ i < 2 ^ 63 then .ok (.d (res st y)) (st.set k (.live (.lst (xs.eraseIdx j)))) else .err
        | none => .err
      | none => .err
    | _ => .err
  | .index, x, [y] => match (lstOf st x).bind flats, flatOf y with
    | some vs, some v => if flatV v then (match vs.findIdx? (fun z => eqV z v) with
        | some j => .ok (.d (.int j)) st
        | none => .err) else .err
    | _, _ => .err
  | _, _, _ => .err

/-- d.pop(k), k there -/
def delK {κ : Type} [DecidableEq κ] (ks : List κ) (vs : List D) (k : κ) : List κ × List D := ((ks.zip vs).filter fun p => decide (p.1 ≠ k)).unzip
def evDp (x y : D) (st : Sto) : Rs Wv := match x, keyOf y with
  | .ref i, some key => match st[i]? with
    | some (.live (.dK ks vs)) => match lookK ks vs key with
      | some d => .ok (.d (res st d)) (st.set i (.live (.dK (delK ks vs key).1 (delK ks vs key).2)))
      | none => .err
    | _ => .err
  | _, _ => .err
/-! ### calls that see no cell -/
mutual
/-- no cell within -/
def D.clo : D → Bool
  | .ref _ => false
  | .lst xs => D.cloL xs
  | .tup xs => D.cloL xs
  | .dK _ vs => D.cloL vs
  | .dT _ vs => D.cloL vs
  | .obj _ vs => D.cloL vs
  | .exc _ vs => D.cloL vs
  | .non => true
  | .bl _ => true
  | .int _ => true
  | .str _ => true
  | .scr _ => true
def D.cloL : List D → Bool
  | [] => true
  | d :: ds => d.clo && D.cloL ds
end
/-- a cell is seen as what it holds -/
def viewD (st : Sto) (d : D) : Option D := match d with
  | .ref k => match cellOf st k with
    | some c => if c.toD.clo then some c.toD else none
    | none => none
  | d => if d.clo then some d else none
def viewL (st : Sto) : List D → Option (List D)
  | [] => some []
  | d :: ds => match viewD st d, viewL st ds with
    | some x, some xs => some (x :: xs)
    | _, _ => none
def scal : D → Bool
  | .non => true | .bl _ => true | .int _ => true | .str _ => true
  | _ => false
/-- what a call hands out -/
def outW (w : Wv) (st' : Sto) : Option Wv := match w with
  | .d (.ref j) => match st'[j]? with
    | some (.live c) => if c.toD.clo then some (.fr c) else none
    | some (.froz c) => if c.toD.clo then some (.d c.toD) else none
    | none => none
  | .d x => if x.clo then some (.d x) else none
  | .fr c => if c.toD.clo then some (.fr c) else none
def outR (pure : Bool) (r : Rs Wv) (st : Sto) : Rs Wv := match r with
  | .ok w st' => match outW w st' with
    | some w' => if pure || scal w'.toD then .ok w' st else .err
    | none => .err
  | .exc e st' => if pure && D.cloL e.vs then .exc e st else .err
  | .err => .err
def outM (r : Rs Wv) (st : Sto) : Rs Wv := match r with
  | .ok w st' => match st'[(0 : Nat)]? with
    | some (.live (.obj c' vs)) => match (stillL vs st').2[(0 : Nat)]? with
      | some (.live _) => if isNonB w.toD && D.cloL (stillL vs st').1 then .ok (.fr (.obj c' (stillL vs st').1)) st else .err
      | _ => .err
    | _ => .err
  | .exc e st' => if D.cloL e.vs then .exc e st else .err
  | .err => .err
/-- k, v, k, v, .. -/
def pairD : List D → Option (List (Key × D))
  | [] => some []
  | k :: v :: r => match keyOf k, pairD r with
    | some k, some ps => some ((k, v) :: ps)
    | _, _ => none
  | _ => none
/-! ### evaluation -/
abbrev Cll (φ : Type) := φ → List D → Sto → Rs Wv
def lcLoop (t : Tg) (ρ : Rho) (cond elt : Rho → Sto → Rs D) : List D → List D → Sto → Rs (List D)
  | [], acc, st => .ok acc st
  | x :: xs, acc, st => match asgT t x st ρ with
    | none => .err
    | some ρ1 => match cond ρ1 st with
      | .ok (.bl true) st1 => match elt ρ1 st1 with
        | .ok y st2 => if acc.length < lim then lcLoop t ρ cond elt xs (acc ++ [y]) st2 else .err
        | _ => .err
      | .ok (.bl false) st1 => lcLoop t ρ cond elt xs acc st1
      | _ => .err
termination_by xs => xs.length
def dcLoop (t : Tg) (ρ : Rho) (cond ke ve : Rho → Sto → Rs D) : List D → List Key → List D → Sto → Rs (List Key × List D)
  | [], ks, vs, st => .ok (ks, vs) st
  | x :: xs, ks, vs, st => match asgT t x st ρ with
    | none => .err
    | some ρ1 => match cond ρ1 st with
      | .ok (.bl true) st1 => match ke ρ1 st1 with
        | .ok k st2 => match ve ρ1 st2, keyOf k with
          | .ok v st3, some k => if ks.length < lim then let r := putK ks vs k v; dcLoop t ρ cond ke ve xs r.1 r.2 st3 else .err
          | _, _ => .err
        | _ => .err
      | .ok (.bl false) st1 => dcLoop t ρ cond ke ve xs ks vs st1
      | _ => .err
termination_by xs => xs.length
variable {φ : Type}
def vD (r : Rs Wv) : Rs D := r.map Wv.toD
def ofB (r : Rs Bool) : Rs Wv := r.map fun b => .d (.bl b)
def noneB : IE φ → Bool
  | .none => true
  | _ => false
/-- a slice's bound -/
def bnd (ir : IE φ) (d : D) : Option (Option Int) := if noneB ir = true then some none else match d with
  | .int i => some (some i)
  | _ => none
mutual
def evE (cl : Cll φ) : IE φ → Rho → Sto → Rs Wv
  | .var i, ρ, st => match ρ[i]? with
    | some (some d) => .ok (.d (res st d)) st
    | _ => .err
  | .snap i, ρ, st => match ρ[i]? with
    | some (some d) => let r := still st d; .ok (.d r.1) r.2
    | _ => .err
  | .non, _, st => .ok (.d .non) st
  | .bl b, _, st => .ok (.d (.bl b)) st
  | .int i, _, st => .ok (.d (.int i)) st
  | .str s, _, st => .ok (.d (.str s)) st
  | .bin op a b, ρ, st => (vD (evE cl a ρ st)).bind fun x st1 => (vD (evE cl b ρ st1)).bind fun y st2 => opB op x y st2
  | .neg a, ρ, st => (vD (evE cl a ρ st)).bind fun x st1 => match x with
    | .int i => .ok (.d (.int (-i))) st1
    | _ => .err
  | .cmp op a b, ρ, st => (vD (evE cl a ρ st)).bind fun x st1 => (vD (evE cl b ρ st1)).bind fun y st2 => ofB (opC op x y st2)
  | .chain op op' a b c, ρ, st => (vD (evE cl a ρ st)).bind fun x st1 => (vD (evE cl b ρ st1)).bind fun y st2 => (opC op x y st2).bind fun k st3 =>
      if k = true then (vD (evE cl c ρ st3)).bind fun z st4 => ofB (opC op' y z st4) else .ok (.d (.bl false)) st3
  | .isN a, ρ, st => (vD (evE cl a ρ st)).bind fun x st1 => .ok (.d (.bl (isNonB x))) st1
  | .notN a, ρ, st => (vD (evE cl a ρ st)).bind fun x st1 => .ok (.d (.bl (!isNonB x))) st1
  | .isB b a, ρ, st => (vD (evE cl a ρ st)).bind fun x st1 => match x with
    | .bl c => .ok (.d (.bl (decide (c = b)))) st1
    | _ => .err
  | .notB b a, ρ, st => (vD (evE cl a ρ st)).bind fun x st1 => match x with
    | .bl c => .ok (.d (.bl (decide (c ≠ b)))) st1
    | _ => .err
  | .isI k a, ρ, st => (vD (evE cl a ρ st)).bind fun x st1 => ofB (ofO (kindIs st1 k x) st1)
  | .and a b, ρ, st => (vD (evE cl a ρ st)).bind fun x st1 => match x with
    | .bl true => evE cl b ρ st1
    | .bl false => .ok (.d (.bl false)) st1
    | _ => .err
  | .or a b, ρ, st => (vD (evE cl a ρ st)).bind fun x st1 => match x with
    | .bl true => .ok (.d (.bl true)) st1
    | .bl false => evE cl b ρ st1
    | _ => .err
  | .one a, ρ, st => evE cl a ρ st
  | .not a, ρ, st => (vD (evE cl a ρ st)).bind fun x st1 => match x with
    | .bl b => .ok (.d (.bl (!b))) st1
    | _ => .err
  | .ife c a b, ρ, st => (vD (evE cl c ρ st)).bind fun x st1 => match x with
    | .bl true => evE cl a ρ st1
    | .bl false => evE cl b ρ st1
    | _ => .err
  | .list es, ρ, st => (evEs cl es ρ st).bind fun xs st1 => if xs.length ≤ lim then .ok (.fr (.lst xs)) st1 else .err
  | .tup es, ρ, st => (evEs cl es ρ st).bind fun xs st1 => if xs.length ≤ lim then .ok (.d (.tup xs)) st1 else .err
  | .dict ks vs, ρ, st => match vs with
    | .nil => (evEs cl ks ρ st).bind fun xs st1 => match pairD xs with
      | some ps => if ps.length ≤ 15 then .ok (.fr (.dK (merD ps [] []).1 (merD ps [] []).2)) st1 else .err
      | none => .err
    | _ => .err
  | .mk a, ρ, st => (evE cl a ρ st).bind fun w st1 => match w with
    | .fr c => .ok (.d (.ref st1.length)) (st1 ++ [.live c])
    | .d _ => .err
  | .frz a, ρ, st => (vD (evE cl a ρ st)).bind fun x st1 => let r := still st1 x; .ok (.d r.1) r.2
  | .idx a i, ρ, st => (vD (evE cl a ρ st)).bind fun x st1 => (vD (evE cl i ρ st1)).bind fun y st2 => (ofO (getAt st2 x y) st2).map .d
  | .slice a lo hi, ρ, st => (vD (evE cl a ρ st)).bind fun x st1 => ((vD (evE cl lo ρ st1)).bind fun l st2 => ofO (bnd lo l) st2).bind fun l st2 => ((vD (evE cl hi ρ st2)).bind fun h st3 => ofO (bnd hi h) st3).bind fun h st3 =>
      match lstOf st3 x with
      | some xs => .ok (.fr (.lst (cutD xs l h))) st3
      | none => .err
  | .back a, ρ, st => (vD (evE cl a ρ st)).bind fun x st1 => match lstOf st1 x with
    | some xs => .ok (.fr (.lst xs.reverse)) st1
    | none => .err
  | .step2 a, ρ, st => .err
  | .step2f a, ρ, st => .err
  | .call f es, ρ, st => (evEs cl es ρ st).bind fun xs st1 => cl f xs st1
  | .make c f fz es, ρ, st => (evEs cl es ρ st).bind fun xs st1 => (cl f (.ref st1.length :: xs) (st1 ++ [.live (.obj c [])])).bind fun w st2 =>
      match w.toD with
      | .non => match st2[st1.length]? with
        | some (.live (.obj c' vs)) => if fz then (let r := stillL vs st2
            match r.2[st1.length]? with
            | some (.live (.obj c2 vs2)) => .ok (.d (.obj c' r.1)) (r.2.set st1.length (.froz (.obj c' r.1)))
            | _ => .err) else .ok (.d (.ref st1.length)) st2
        | _ => .err
      | _ => .err
  | .meth c f a es, ρ, st => (vD (evE cl a ρ st)).bind fun x st1 => match objOf st1 x with
    | some (c', _) => if c' = c then (evEs cl es ρ st1).bind fun xs st2 => cl f (x :: xs) st2 else .err
    | none => .err
  | .attr c j a, ρ, st => (vD (evE cl a ρ st)).bind fun x st1 => match objOf st1 x with
    | some (c', vs) => if c' = c then (ofO (vs[j]?.map (res st1)) st1).map .d else .err
    | none => .err
  | .bi b es, ρ, st => (evEs cl es ρ st).bind fun xs st1 => evBi b xs st1
  | .lm m a es, ρ, st => (vD (evE cl a ρ st)).bind fun x st1 => match lstOf st1 x with
    | some _ => (evEs cl es ρ st1).bind fun xs st2 => evLm m x xs st2
    | none => .err
  | .lc own t it cond elt, ρ, st => (evI cl it ρ st).bind fun s st1 =>
      (lcLoop t (wipeR ρ own) (fun ρ1 st => vD (evE cl cond ρ1 st)) (fun ρ1 st => vD (evE cl elt ρ1 st)) s.items [] st1).map fun xs => .fr (.lst xs)
  | .dc own t it cond k v, ρ, st => (evI cl it ρ st).bind fun s st1 =>
      (dcLoop t (wipeR ρ own) (fun ρ1 st => vD (evE cl cond ρ1 st)) (fun ρ1 st => vD (evE cl k ρ1 st)) (fun ρ1 st => vD (evE cl v ρ1 st)) s.items [] [] st1).map fun r => .fr (.dK r.1 r.2)
  | .nil, _, _ => .err
  | .cons .., _, _ => .err
  | .none, _, st => .ok (.d .non) st
  | .lcd own t i cond elt, ρ, st => match ρ[i]? with
    | some (some d) => match res st d with
      | .dK ks _ => (lcLoop t (wipeR ρ own) (fun ρ1 st => vD (evE cl cond ρ1 st)) (fun ρ1 st => vD (evE cl elt ρ1 st)) (ks.map dkey) [] st).map fun xs => .fr (.lst xs)
      | _ => .err
    | _ => .err
  | .mkq a, ρ, st => (evE cl a ρ st).bind fun w st1 => match w with
    | .fr c => .ok (.d (.ref st1.length)) (st1 ++ [.live c])
    | .d x => .ok (.d x) st1
  | .mkx c kw a, ρ, st => (vD (evE cl a ρ st)).bind fun x st1 => .ok (.d (.exc c [x])) st1
  | .mkx0 c, _, st => .ok (.d (.exc c [])) st
  | .xattr c j a, ρ, st => (vD (evE cl a ρ st)).bind fun x st1 => match x with
    | .exc c' vs => if c' = c then (ofO (vs[j]?.map (res st1)) st1).map .d else .err
    | _ => .err
  | .isX n tbl _ _ a, ρ, st => (vD (evE cl a ρ st)).bind fun x st1 => match x with
    | .exc c _ => if c < n then .ok (.d (.bl (decide (c ∈ tbl)))) st1 else .err
    | _ => .err
  | .fcall f es, ρ, st => (evEs cl es ρ st).bind fun xs st1 => match viewL st1 xs with
    | some ys => outR (D.cloL xs) (cl f ys []) st1
    | none => .err
  | .fmeth c f a es, ρ, st => (vD (evE cl a ρ st)).bind fun x st1 => match objOf st1 x with
    | some (c', _) => if c' = c then (evEs cl es ρ st1).bind fun xs st2 => match viewL st2 (x :: xs) with
        | some ys => outR (D.cloL (x :: xs)) (cl f ys []) st2
        | none => .err
      else .err
    | none => .err
  | .fmake c f es, ρ, st => (evEs cl es ρ st).bind fun xs st1 => if D.cloL xs then outM (cl f (.ref 0 :: xs) [.live (.obj c [])]) st1 else .err
  | .isXn n _ a, ρ, st => (vD (evE cl a ρ st)).bind fun x st1 => match x with
    | .exc c _ => if c < n then .ok (.d (.bl false)) st1 else .err
    | _ => .err
  | .dpop a k, ρ, st => (vD (evE cl a ρ st)).bind fun x st1 => match dicOf st1 x with
    | some _ => (vD (evE cl k ρ st1)).bind fun y st2 => evDp x y st2
    | none => .err
termination_by e => sizeOf e
def evEs (cl : Cll φ) : IE φ → Rho → Sto → Rs (List D)
  | .nil, _, st => .ok [] st
  | .cons a r, ρ, st => (vD (evE cl a ρ st)).bind fun x st1 => (evEs cl r ρ st1).bind fun xs st2 => .ok (x :: xs) st2
  | _, _, _ => .err
termination_by e => sizeOf e
def evI (cl : Cll φ) : IE φ → Rho → Sto → Rs Src
  | .bi .range es, ρ, st => (evEs cl es ρ st).bind fun xs st1 => ofO (srcBi .range xs) st1
  | .bi .enum es, ρ, st => (evEs cl es ρ st).bind fun xs st1 => ofO (srcBi .enum xs) st1
  | .bi .zip es, ρ, st => (evEs cl es ρ st).bind fun xs st1 => ofO (srcBi .zip xs) st1
  | .bi .rev es, ρ, st => (evEs cl es ρ st).bind fun xs st1 => ofO (srcBi .rev xs) st1
  | .one a, ρ, st => (vD (evE cl a ρ st)).bind fun x st1 => ofO (srcOf x) st1
  | _, _, _ => .err
termination_by e => sizeOf e
end
inductive Rt where
  | next (ρ : Rho) (st : Sto) | ret (w : Wv) (st : Sto) | exc (e : Exc) (ρ : Rho) (st : Sto) | err
def Rs.st {α : Type} (r : Rs α) (ρ : Rho) (f : α → Sto → Rt) : Rt := match r with
  | .ok a st => f a st
  | .exc e st => .exc e ρ st
  | .err => .err
def Rt.bind (r : Rt) (f : Rho → Sto → Rt) : Rt := match r with
  | .next ρ st => f ρ st
  | .ret w st => .ret w st
  | .exc e ρ st => .exc e ρ st
  | .err => .err
def ofOt (o : Option Rho) (st : Sto) : Rt := match o with
  | some ρ => .next ρ st
  | none => .err
/-- several names at once -/
def setAll : List Nat → List D → Rho → Option Rho
  | [], [], ρ => some ρ
  | i :: is, d :: ds, ρ => setAll is ds (ρ.set i (some d))
  | _, _, _ => none
/-- o[i] = v -/
def setSub (o i v : D) (st : Sto) : Option Sto := match o with
  | .ref k => match st[k]?, i with
    | some (.live (.lst xs)), .int i => (ixN xs.length i).map fun j => st.set k (.live (.lst (xs.set j v)))
    | some (.live (.dK ks vs)), i => (keyOf i).bind fun key => if ks.length < lim then (let r := putK ks vs key v; some (st.set k (.live (.dK r.1 r.2)))) else none
    | _, _ => none
  | _ => none
/-- o.f = v, f the j-th field of the class c -/
def setFld (c j : Nat) (o v : D) (st : Sto) : Option Sto := match o with
  | .ref k => match st[k]? with
    | some (.live (.obj c' vs)) => if c' = c then (if j < vs.length then some (st.set k (.live (.obj c (vs.set j v)))) else if j = vs.length then some (st.set k (.live (.obj c (vs ++ [v])))) else none) else none
    | _ => none
  | _ => none
def forLoop (t : Tg) (body : Rho → Sto → Rt) : List D → Rho → Sto → Rt
  | [], ρ, st => .next ρ st
  | x :: xs, ρ, st => match asgT t x st ρ with
    | none => .err
    | some ρ1 => (body ρ1 st).bind fun ρ2 st2 => forLoop t body xs ρ2 st2
termination_by xs => xs.length
def whLoop (test : Rho → Sto → Rs D) (body : Rho → Sto → Rt) : Nat → Rho → Sto → Rt
  | 0, _, _ => .err
  | n + 1, ρ, st => (test ρ st).st ρ fun x st1 => match x with
    | .bl true => (body ρ st1).bind fun ρ2 st2 => whLoop test body n ρ2 st2
    | .bl false => .next ρ st1
    | _ => .err
termination_by n => n
def exS (cl : Cll φ) (wf : Nat) : IS φ → Rho → Sto → Rt
  | .nil, ρ, st => .next ρ st
  | .cons s r, ρ, st => (exS cl wf s ρ st).bind fun ρ1 st1 => exS cl wf r ρ1 st1
  | .pass, ρ, st => .next ρ st
  | .expr e, ρ, st => (vD (evE cl e ρ st)).st ρ fun _ st1 => .next ρ st1
  | .asg t e, ρ, st => (vD (evE cl e ρ st)).st ρ fun x st1 => ofOt (asgT t x st1 ρ) st1
  | .par is es, ρ, st => (evEs cl es ρ st).st ρ fun xs st1 => ofOt (setAll is xs ρ) st1
  | .asgSub a i e, ρ, st => (vD (evE cl e ρ st)).st ρ fun v st1 => (vD (evE cl a ρ st1)).st ρ fun o st2 => (vD (evE cl i ρ st2)).st ρ fun k st3 =>
      match setSub o k v st3 with
      | some st4 => .next ρ st4
      | none => .err
  | .asgSub2 a i b j e, ρ, st => (vD (evE cl e ρ st)).st ρ fun x st1 => match tupF x with
      | some [u, v] => (vD (evE cl a ρ st1)).st ρ fun o st2 => (vD (evE cl i ρ st2)).st ρ fun k st3 => match setSub o k u st3 with
        | some st4 => (vD (evE cl b ρ st4)).st ρ fun o2 st5 => (vD (evE cl j ρ st5)).st ρ fun k2 st6 => match setSub o2 k2 v st6 with
          | some st7 => .next ρ st7
          | none => .err
        | none => .err
      | _ => .err
  | .asgAttr c j a e, ρ, st => (vD (evE cl e ρ st)).st ρ fun v st1 => (vD (evE cl a ρ st1)).st ρ fun o st2 =>
      match setFld c j o v st2 with
      | some st3 => .next ρ st3
      | none => .err
  | .ret e, ρ, st => (evE cl e ρ st).st ρ fun w st1 => .ret w st1
  | .retN, _, st => .ret (.d .non) st
  | .ife c a b, ρ, st => (vD (evE cl c ρ st)).st ρ fun x st1 => match x with
    | .bl true => exS cl wf a ρ st1
    | .bl false => exS cl wf b ρ st1
    | _ => .err
  | .for_ t it b, ρ, st => (evI cl it ρ st).st ρ fun s st1 => forLoop t (fun ρ st => exS cl wf b ρ st) s.items ρ st1
  | .while_ c b, ρ, st => whLoop (fun ρ st => vD (evE cl c ρ st)) (fun ρ st => exS cl wf b ρ st) wf ρ st
  | .never, _, _ => .err
  | .tryX _ k i j ks, ρ, st => match ρ[k]? with
    | some (some _) => if i < ρ.length then .next ((ρ.set j (some (.lst (ks.map .int)))).set i none) st else .err
    | _ => .err
termination_by s => sizeOf s
/-! ### a program -/
structure Fn (φ : Type) where
  np : Nat
  N : List Str
  body : IS φ
def startR (n : Nat) (ds : List D) : Rho := ds.map some ++ List.replicate (n - ds.length) none
def callN (T : φ → Fn φ) (wf : Nat) : Nat → Cll φ
  | 0, _, _, _ => .err
  | n + 1, f, ds, st => if ds.length = (T f).np then (match exS (callN T wf n) wf (T f).body (startR (T f).N.length ds) st with
    | .next _ st1 => .ok (.d .non) st1
    | .ret w st1 => .ok w st1
    | .exc e _ st1 => .exc e st1
    | .err => .err) else .err
termination_by n => n
end Fd

set_option Elab.async false
set_option linter.all false
namespace Fd
open PySem L2

section
variable {C : Gx} {F F' F1 F2 : Hp} {ι ι' ι1 ι2 : List Addr} {st st' : Sto} {H H' H0 H1 H2 : Hp} {p : Addr} {o : HO}
/-- what goes on: F, ι grow, what else stood stands -/
structure Go (F : Hp) (ι : List Addr) (H : Hp) (F' : Hp) (ι' : List Addr) (H' : Hp) : Prop where
  x : Ext F ι F' ι'
  fr : ∀ a o, H a = some o → F a = none → a ∉ ι → H' a = some o ∧ F' a = none ∧ a ∉ ι'
theorem Go.refl : Go F ι H F ι H := ⟨.refl, fun _ _ h f n => ⟨h, f, n⟩⟩
theorem Go.trans (a : Go F ι H F1 ι1 H1) (b : Go F1 ι1 H1 F2 ι2 H2) : Go F ι H F2 ι2 H2 :=
  ⟨a.x.trans b.x, fun q o h f n => let ⟨h1, f1, n1⟩ := a.fr q o h f n; b.fr q o h1 f1 n1⟩
theorem mem_ext (x : Ext F ι F' ι') {a : Addr} (h : a ∈ ι) : a ∈ ι' := by
  obtain ⟨k, hk⟩ := List.mem_iff_getElem?.mp h
  exact List.mem_iff_getElem?.mpr ⟨k, x.i k a hk⟩
theorem Go.dom (g : Go F ι H F' ι' H') (S : Sim C F ι st H) (S' : Sim C F' ι' st' H') {a : Addr} (h : H' a = none) : H a = none := by
  cases e : H a with
  | none => rfl
  | some u =>
    cases f : F a with
    | some v => have := S'.fro _ _ (g.x.f _ _ f); rw [h] at this; cases this
    | none =>
      by_cases n : a ∈ ι
      · obtain ⟨w, q⟩ := S'.has a (mem_ext g.x n); rw [h] at q; cases q
      · have := (g.fr a u e f n).1; rw [h] at this; cases this
theorem Go.more (hp : H p = none) : Go F ι H F ι (upd H p o) :=
  ⟨.refl, fun a u h f n => ⟨by rw [upd_ne (fun z => by rw [z, hp] at h; cases h)]; exact h, f, n⟩⟩
theorem Go.frz (g : Go F ι H F' ι' H') (hp : H p = none) (x : Ext F' ι' (upd F' p o) ι') : Go F ι H (upd F' p o) ι' H' :=
  ⟨g.x.trans x, fun a u h f n => by
    obtain ⟨q1, q2, q3⟩ := g.fr a u h f n
    exact ⟨q1, by rw [upd_ne (fun z => by rw [z, hp] at h; cases h)]; exact q2, q3⟩⟩
theorem Go.cell (g : Go F ι H F' ι' H') (hp : H p = none) (x : Ext F' ι' F' (ι' ++ [p])) : Go F ι H F' (ι' ++ [p]) H' :=
  ⟨g.x.trans x, fun a u h f n => by
    obtain ⟨q1, q2, q3⟩ := g.fr a u h f n
    refine ⟨q1, q2, fun z => ?_⟩
    rcases List.mem_append.mp z with z | z
    · exact q3 z
    · simp at z; rw [z, hp] at h; cases h⟩
theorem Go.write {i : Nat} {a : Addr} (ha : ι[i]? = some a) : Go F ι H F ι (upd H a o) :=
  ⟨.refl, fun b u h f n => ⟨by rw [upd_ne (fun (z : b = a) => n (z ▸ List.mem_of_getElem? ha))]; exact h, f, n⟩⟩
theorem Go.still {i : Nat} {a : Addr} (ha : ι[i]? = some a) (x : Ext F ι (upd F a o) ι) : Go F ι H (upd F a o) ι H :=
  ⟨x, fun b u h f n => ⟨h, by rw [upd_ne (fun (z : b = a) => n (z ▸ List.mem_of_getElem? ha))]; exact f, n⟩⟩

/-- what a value stands for, H0 the heap ahead -/
def RepW (C : Gx) (F : Hp) (ι : List Addr) (H0 H : Hp) (v : V) : Wv → Prop
  | .d x => Rep C F ι v x
  | .fr c => ∃ a, v = .ref a ∧ H0 a = none ∧ F a = none ∧ a ∉ ι ∧ CellAt C F ι H a c
def ExR (C : Gx) (F : Hp) (ι : List Addr) (H : Hp) (cl : Value) (d : Option Addr) (e : Exc) : Prop :=
  cl = .ref (C.cl e.c).adr ∧ ((d = none ∧ e.vs = []) ∨ ∃ dd fs, d = some dd ∧ H dd = some (.xd fs) ∧ fs.map (·.1) = (C.cl e.c).fl.take e.vs.length ∧ RepL C F ι (fs.map (·.2)) e.vs)
/-- what a run leaves -/
def Wpr {α : Type} (C : Gx) (E : XK) (r : Rs α) (F : Hp) (ι : List Addr) (H : Hp) (K : α → Hp → List Addr → Sto → Hp → Prop) : Prop := match r with
  | .ok a st' => ∀ F' ι' H', Go F ι H F' ι' H' → Sim C F' ι' st' H' → K a F' ι' st' H'
  | .exc e st' => ∀ F' ι' H' cl d, Go F ι H F' ι' H' → Sim C F' ι' st' H' → ExR C F' ι' H' cl d e → E cl d H'
  | .err => False
theorem Wpr.bind {α β : Type} {E : XK} {r : Rs α} {f : α → Sto → Rs β} {K : β → Hp → List Addr → Sto → Hp → Prop} (h : Wpr C E (r.bind f) F ι H K) :
    Wpr C E r F ι H fun a F1 ι1 st1 H1 => Wpr C E (f a st1) F1 ι1 H1 K := by
  cases r with
  | ok a st1 =>
    intro F1 ι1 H1 g1 S1
    have h : Wpr C E (f a st1) F ι H K := h
    show Wpr C E (f a st1) F1 ι1 H1 K
    revert h
    cases f a st1 with
    | ok b st2 => exact fun h F2 ι2 H2 g2 S2 => h F2 ι2 H2 (g1.trans g2) S2
    | exc e st2 => exact fun h F2 ι2 H2 cl d g2 S2 => h F2 ι2 H2 cl d (g1.trans g2) S2
    | err => exact id
  | exc e st1 => exact h
  | err => exact h
theorem Wpr.imp {α : Type} {E : XK} {r : Rs α} {K K' : α → Hp → List Addr → Sto → Hp → Prop} (h : Wpr C E r F ι H K) (f : ∀ a F' ι' st' H', Go F ι H F' ι' H' → Sim C F' ι' st' H' → K a F' ι' st' H' → K' a F' ι' st' H') : Wpr C E r F ι H K' := by
  cases r with
  | ok a st1 => exact fun F' ι' H' g S => f _ _ _ _ _ g S (h F' ι' H' g S)
  | exc e st1 => exact h
  | err => exact h
theorem Wpr.map {α β : Type} {E : XK} {r : Rs α} {f : α → β} {K : β → Hp → List Addr → Sto → Hp → Prop} (h : Wpr C E (r.map f) F ι H K) :
    Wpr C E r F ι H fun a => K (f a) := by
  cases r with
  | ok a st1 => exact h
  | exc e st1 => exact h
  | err => exact h
theorem Wpr.here {α : Type} {E : XK} {a : α} {K : α → Hp → List Addr → Sto → Hp → Prop} (h : Wpr C E (.ok a st) F ι H K) (S : Sim C F ι st H) : K a F ι st H := h F ι H .refl S
end

/-! ### readings -/
variable {φ : Type}
section
variable (C : Gx) (cl : Cll φ) (E : XK)
def tE (ir : IE φ) : TE := fun σ H Q => ∃ F ι st ρ, Sim C F ι st H ∧ EnvR C F ι ρ σ ∧ Wpr C E (evE cl ir ρ st) F ι H fun w F' ι' st' H' => ∀ v, RepW C F' ι' H H' v w → Q v H'
def tT (ir : IE φ) : TT := fun σ H Q => ∃ F ι st ρ, Sim C F ι st H ∧ EnvR C F ι ρ σ ∧ Wpr C E (vD (evE cl ir ρ st)) F ι H fun d F' ι' st' H' => ∃ b, d = .bl b ∧ Q b H'
def tA (ir : IE φ) : TA := fun σ H Q => ∃ F ι st ρ, Sim C F ι st H ∧ EnvR C F ι ρ σ ∧ Wpr C E (evEs cl ir ρ st) F ι H fun ds F' ι' st' H' => ∀ vs, RepL C F' ι' vs ds → Q vs H'
end
section
variable {C : Gx} {cl : Cll φ} {E : XK} {ir : IE φ} {F : Hp} {ι : List Addr} {st : Sto} {ρ : Rho} {σ : St} {H : Hp} {Q : VK}
/-- a new value is frozen where data is wanted -/
theorem frzW {F' : Hp} {ι' : List Addr} {st' : Sto} {H' : Hp} {v : V} {w : Wv} (g : Go F ι H F' ι' H') (S' : Sim C F' ι' st' H') (r : RepW C F' ι' H H' v w) :
    ∃ F2, Go F ι H F2 ι' H' ∧ Sim C F2 ι' st' H' ∧ Rep C F2 ι' v w.toD := by
  cases w with
  | d x => exact ⟨F', g, S', r⟩
  | fr c =>
    obtain ⟨a, rfl, h0, fa, na, hc⟩ := r
    obtain ⟨o, ho⟩ := hc.there
    obtain ⟨S2, x2⟩ := S'.freeze ho fa na (hc.kind ho).own
    exact ⟨_, g.frz h0 x2, S2, CellAt.rep (hc.mono x2 (by rw [upd_same]; exact ho))⟩
theorem eD (S : Sim C F ι st H) (R : EnvR C F ι ρ σ) (w : Wpr C E (vD (evE cl ir ρ st)) F ι H fun d F' ι' st' H' => ∀ v, Rep C F' ι' v d → Q v H') : tE C cl E ir σ H Q := by
  refine ⟨F, ι, st, ρ, S, R, ?_⟩
  revert w
  unfold vD
  cases evE cl ir ρ st with
  | ok x st1 =>
    intro w F' ι' H' g S' v r
    obtain ⟨F2, g2, S2, r2⟩ := frzW g S' r
    exact w F2 ι' H' g2 S2 v r2
  | exc e st1 => exact id
  | err => exact id
theorem eT {Q : Bool → Hp → Prop} (S : Sim C F ι st H) (R : EnvR C F ι ρ σ) (w : Wpr C E (vD (evE cl ir ρ st)) F ι H fun d F' ι' st' H' => ∃ b, d = .bl b ∧ Q b H') : tT C cl E ir σ H Q := ⟨F, ι, st, ρ, S, R, w⟩
end
theorem PE.imp {X : Cx} {e : Expr} {t t' : TE} (h : PE X e t) (f : ∀ σ H Q, t' σ H Q → t σ H Q) : PE X e t' := ⟨fun pins s σ H Q I w => h.run pins s σ H Q I (f σ H Q w)⟩
theorem PT.imp {X : Cx} {e : Expr} {t t' : TT} (h : PT X e t) (f : ∀ σ H Q, t' σ H Q → t σ H Q) : PT X e t' := ⟨fun pins s σ H Q I w => h.run pins s σ H Q I (f σ H Q w)⟩
theorem PW.imp {X : Cx} {e : Expr} {t t' : TT} (h : PW X e t) (f : ∀ σ H Q, t' σ H Q → t σ H Q) : PW X e t' := ⟨fun wh pins s σ H Q I w => h.run wh pins s σ H Q I (f σ H Q w)⟩
theorem PA.imp {X : Cx} {e : List Expr} {t t' : TA} (h : PA X e t) (f : ∀ σ H Q, t' σ H Q → t σ H Q) : PA X e t' := ⟨fun pos pins s σ H Q I w => h.run pos pins s σ H Q I (f σ H Q w)⟩
theorem PS.imp {X : Cx} {e : Stmt} {t t' : TS} (h : PS X e t) (f : ∀ D σ H, t' D σ H → t D σ H) : PS X e t' := ⟨fun pins s σ H D I w => h.run pins s σ H D I (f D σ H w)⟩
theorem PSs.imp {X : Cx} {e : List Stmt} {t t' : TS} (h : PSs X e t) (f : ∀ D σ H, t' D σ H → t D σ H) : PSs X e t' := ⟨fun pins s σ H D I w => h.run pins s σ H D I (f D σ H w)⟩
theorem PI.imp {X : Cx} {tg e : Expr} {t t' : TI} (h : PI X tg e t) (f : ∀ σ H R, t' σ H R → t σ H R) : PI X tg e t' := ⟨fun pins s σ H R I w => h.run pins s σ H R I (f σ H R w)⟩
theorem PI.or {X : Cx} {tg e : Expr} {t t' : TI} (h : PI X tg e t) (h' : PI X tg e t') : PI X tg e (fun σ H R => t σ H R ∨ t' σ H R) := ⟨fun pins s σ H R I w => w.elim (h.run pins s σ H R I) (h'.run pins s σ H R I)⟩
theorem PE.or {X : Cx} {e : Expr} {t t' : TE} (h : PE X e t) (h' : PE X e t') : PE X e (fun σ H R => t σ H R ∨ t' σ H R) := ⟨fun pins s σ H R I w => w.elim (h.run pins s σ H R I) (h'.run pins s σ H R I)⟩
end Fd

set_option Elab.async false
set_option linter.all false
namespace Fd
open PySem L2
section
variable {C : Gx} {F : Hp} {ι : List Addr} {st : Sto} {H : Hp} {v : V} {d : D}
theorem lim_eq : lim = sizeLine := by rw [sizeLine_eq]; rfl
/-- .. to be read: a dict may be locked -/
def CellRd (C : Gx) (F : Hp) (ι : List Addr) (H : Hp) (a : Addr) : Cell → Prop
  | .dK ks xs => ∃ kvs : List (Key × V), Rd H a (.dK kvs) ∧ kvs.map (·.1) = ks ∧ xs.length ≤ sizeLine ∧ RepL C F ι (kvs.map (·.2)) xs
  | .lst xs => CellAt C F ι H a (.lst xs)
  | .dT ks xs => CellAt C F ι H a (.dT ks xs)
  | .obj c xs => CellAt C F ι H a (.obj c xs)
theorem CellAt.rd {H' : Hp} {a : Addr} : ∀ {c : Cell}, CellAt C F ι H' a c → CellRd C F ι H' a c
  | .lst _, h => h
  | .dK _ _, ⟨kvs, h, k, z, r⟩ => ⟨kvs, .inl h, k, z, r⟩
  | .dT _ _, h => h
  | .obj _ _, h => h
theorem CellRd.there {H' : Hp} {a : Addr} : ∀ {c : Cell}, CellRd C F ι H' a c → ∃ o, H' a = some o
  | .lst xs, h => CellAt.there (C := C) (F := F) (ι := ι) (c := .lst xs) h
  | .dK _ _, ⟨kvs, h, _⟩ => by
    rcases h with h | ⟨o, h⟩
    · exact ⟨_, h⟩
    · exact ⟨_, h⟩
  | .dT ks xs, h => CellAt.there (C := C) (F := F) (ι := ι) (c := .dT ks xs) h
  | .obj c xs, h => CellAt.there (C := C) (F := F) (ι := ι) (c := .obj c xs) h
theorem Rep.cellA {a : Addr} : ∀ {c : Cell}, Rep C F ι (.ref a) c.toD → CellRd C F ι F a c
  | .lst xs, r => by cases r with | lst h z r => exact ⟨_, h, z, r⟩
  | .dK ks vs, r => by cases r with | dK h k hv z r => subst hv; exact ⟨_, h, k, z, r⟩
  | .dT ks vs, r => by cases r with | dT h k hv z r => subst hv; exact ⟨_, h, k, z, r⟩
  | .obj c vs, r => by cases r with | obj h k hv r => subst hv; exact ⟨_, _, h, k, r⟩
theorem CellRd.up {H' : Hp} {a : Addr} (f : ∀ a o, F a = some o → H' a = some o) : ∀ {c : Cell}, CellRd C F ι F a c → CellRd C F ι H' a c
  | .lst _, ⟨vs, h, z, r⟩ => ⟨vs, f _ _ h, z, r⟩
  | .dK _ _, ⟨kvs, h, k, z, r⟩ => ⟨kvs, rd_mono f h, k, z, r⟩
  | .dT _ _, ⟨kvs, h, k, z, r⟩ => ⟨kvs, f _ _ h, k, z, r⟩
  | .obj _ _, ⟨dx, fs, h, k, r⟩ => ⟨dx, fs, f _ _ h, k, r⟩
theorem Sim.cellOf (S : Sim C F ι st H) {k : Nat} {a : Addr} {c : Cell} (ha : ι[k]? = some a) (h : cellOf st k = some c) : CellRd C F ι H a c := by
  unfold Fd.cellOf at h
  cases e : st[k]? with
  | none => rw [e] at h; cases h
  | some s =>
    rw [e] at h
    cases s with
    | live c' => cases h; exact (S.cell k c a e ha).2.rd
    | froz c' => cases h; exact (Rep.cellA (S.frz k c a e ha)).up S.fro
theorem Sim.res (S : Sim C F ι st H) (r : Rep C F ι v d) : Rep C F ι v (res st d) := by
  unfold Fd.res
  split
  · rename_i k
    split
    · rename_i c e
      cases r with
      | ref ha => exact S.frz k c _ e ha
    · exact r
  · exact r
theorem Sim.resL (S : Sim C F ι st H) : ∀ {vs : List V} {ds : List D}, RepL C F ι vs ds → RepL C F ι vs (ds.map (Fd.res st))
  | _, _, .nil => .nil
  | _, _, .cons a b => .cons (S.res a) (Sim.resL S b)
theorem Sim.lst (S : Sim C F ι st H) (r : Rep C F ι v d) {xs : List D} (h : lstOf st d = some xs) : ∃ a vs, v = .ref a ∧ H a = some (.lst vs) ∧ xs.length ≤ sizeLine ∧ RepL C F ι vs xs := by
  cases d <;> simp only [lstOf] at h <;> try cases h
  · cases r with | lst h z r => exact ⟨_, _, rfl, S.fro _ _ h, z, r⟩
  · rename_i k
    cases r with
    | ref ha =>
      split at h
      · rename_i c e
        cases h
        obtain ⟨vs, q1, q2, q3⟩ := S.cellOf ha e
        exact ⟨_, vs, rfl, q1, q2, q3⟩
      · cases h
theorem Sim.seq (S : Sim C F ι st H) (r : Rep C F ι v d) {xs : List D} (h : seqOf st d = some xs) : ∃ a vs, v = .ref a ∧ (H a = some (.lst vs) ∨ (H a = some (.tup vs) ∧ F a = some (.tup vs) ∧ d = .tup xs)) ∧ xs.length ≤ sizeLine ∧ RepL C F ι vs xs := by
  unfold seqOf at h
  split at h
  · cases h
    cases r with | tup h z r => exact ⟨_, _, rfl, .inr ⟨S.fro _ _ h, h, rfl⟩, z, r⟩
  · obtain ⟨a, vs, e, q, z, rl⟩ := S.lst r h
    exact ⟨a, vs, e, .inl q, z, rl⟩
theorem Sim.dic (S : Sim C F ι st H) (r : Rep C F ι v d) {ks : List Key} {xs : List D} (h : dicOf st d = some (ks, xs)) :
    ∃ a kvs, v = .ref a ∧ Rd H a (.dK kvs) ∧ kvs.map (·.1) = ks ∧ xs.length ≤ sizeLine ∧ RepL C F ι (kvs.map (·.2)) xs := by
  cases d <;> simp only [dicOf] at h <;> try cases h
  · cases r with | dK h k hv z r => subst hv; exact ⟨_, _, rfl, rd_mono S.fro h, k, z, r⟩
  · rename_i k
    cases r with
    | ref ha =>
      split at h
      · rename_i c e
        cases h
        obtain ⟨kvs, q1, q2, q3, q4⟩ := S.cellOf ha e
        exact ⟨_, kvs, rfl, q1, q2, q3, q4⟩
      · cases h
theorem Sim.obj (S : Sim C F ι st H) (r : Rep C F ι v d) {c : Nat} {xs : List D} (h : objOf st d = some (c, xs)) :
    ∃ a dx fs, v = .ref a ∧ H a = some (.ins (C.cl c).adr dx fs) ∧ (fs.map (·.1) = (C.cl c).fl.take xs.length ∧ C.con c = true) ∧ RepL C F ι (fs.map (·.2)) xs := by
  cases d <;> simp only [objOf] at h <;> try cases h
  · cases r with | obj h k hv r => subst hv; exact ⟨_, _, _, rfl, S.fro _ _ h, k, r⟩
  · rename_i k
    cases r with
    | ref ha =>
      split at h
      · rename_i c' e
        cases h
        obtain ⟨dx, fs, q1, q2, q3⟩ := S.cellOf ha e
        exact ⟨_, dx, fs, rfl, q1, q2, q3⟩
      · cases h
theorem Rep.is_int {i : Int} (r : Rep C F ι v (.int i)) : v = .int i := by cases r; rfl
theorem Rep.is_str {i : Str} (r : Rep C F ι v (.str i)) : v = .str i := by cases r; rfl
theorem Rep.is_bl {i : Bool} (r : Rep C F ι v (.bl i)) : v = .bl i := by cases r; rfl
theorem Rep.is_non (r : Rep C F ι v .non) : v = .non := by cases r; rfl
/-- still -/
theorem Sim.stillD (S : Sim C F ι st H) (r : Rep C F ι v d) :
    ∃ F2, Sim C F2 ι (Fd.still st d).2 H ∧ Go F ι H F2 ι H ∧ Rep C F2 ι v (Fd.still st d).1 := by
  unfold Fd.still
  split
  · rename_i k
    cases r with
    | ref ha =>
      split
      · rename_i c e
        exact ⟨F, S, .refl, S.frz k c _ e ha⟩
      · rename_i c e
        obtain ⟨o, ho⟩ := (S.cell k c _ e ha).2.there
        obtain ⟨S2, x2, r2⟩ := Sim.still S e ha ho
        exact ⟨_, S2, Go.still ha x2, r2⟩
      · exact ⟨F, S, .refl, .ref ha⟩
  · exact ⟨F, S, .refl, r⟩
/-! ### == of data -/
mutual
theorem Rep.dp (f : ∀ a o, F a = some o → H a = some o) : ∀ {v : V} {d : D} {p : PyData}, Rep C F ι v d → d.py = some p → Dp C.K H v p
  | _, _, _, .non, h => by simp only [D.py] at h; cases h; exact .non
  | _, _, _, .bl b, h => by simp only [D.py] at h; cases h; exact .bl b
  | _, _, _, .int b, h => by simp only [D.py] at h; cases h; exact .int b
  | _, _, _, .str b, h => by simp only [D.py] at h; cases h; exact .str b
  | _, _, _, .lst e z r, h => by
    simp only [D.py, Option.map_eq_some_iff] at h
    obtain ⟨ps, h1, rfl⟩ := h
    exact .lst (SqL.of (f _ _ e)) (RepL.dp f r h1)
  | _, _, _, .tup e z r, h => by
    simp only [D.py, Option.map_eq_some_iff] at h
    obtain ⟨ps, h1, rfl⟩ := h
    exact .tup (SqT.of (f _ _ e)) (RepL.dp f r h1)
  | _, _, _, .dK .., h => by simp only [D.py] at h; cases h
  | _, _, _, .dT .., h => by simp only [D.py] at h; cases h
  | _, _, _, .obj .., h => by simp only [D.py] at h; cases h
  | _, _, _, .exc .., h => by simp only [D.py] at h; cases h
  | _, _, _, .ref .., h => by simp only [D.py] at h; cases h
  | _, _, _, .scr .., h => by simp only [D.py] at h; cases h
theorem RepL.dp (f : ∀ a o, F a = some o → H a = some o) : ∀ {vs : List V} {ds : List D} {ps : List PyData}, RepL C F ι vs ds → D.pyL ds = some ps → DpAll C.K H vs ps
  | _, _, _, .nil, h => by simp only [D.pyL] at h; cases h; exact .nil
  | _, _, _, .cons a b, h => by
    simp only [D.pyL] at h
    split at h
    · rename_i x xs e1 e2
      cases h
      exact .cons (Rep.dp f a e1) (RepL.dp f b e2)
    · cases h
end
theorem Sim.py (S : Sim C F ι st H) (r : Rep C F ι v d) {p : PyData} (h : pyOf st d = some p) : Dp C.K H v p := by
  unfold pyOf at h
  split at h
  · rename_i k
    split at h
    · rename_i xs e
      simp only [Option.map_eq_some_iff] at h
      obtain ⟨ps, h1, rfl⟩ := h
      cases r with
      | ref ha =>
        obtain ⟨vs, q1, q2, q3⟩ := S.cellOf ha e
        exact .lst (SqL.of q1) (RepL.dp S.fro q3 h1)
    · cases h
  · exact Rep.dp S.fro r h
theorem Sim.eqD (S : Sim C F ι st H) {x y : V} {dx dy : D} (rx : Rep C F ι x dx) (ry : Rep C F ι y dy) {b : Bool} (h : eqD st dx dy = some b) {Q : VK} (q : Q (.bl b) H) : rEqD C.K x y H Q := by
  unfold Fd.eqD at h
  split at h
  · rename_i p p' e1 e2
    split at h
    · rename_i hs
      cases h
      simp only [Bool.and_eq_true] at hs
      exact ⟨p, p', S.py rx e1, S.py ry e2, hs.1, hs.2, q⟩
    · cases h
  · cases h
theorem Sim.neD (S : Sim C F ι st H) {x y : V} {dx dy : D} (rx : Rep C F ι x dx) (ry : Rep C F ι y dy) {b : Bool} (h : Fd.eqD st dx dy = some b) {Q : VK} (q : Q (.bl (!b)) H) : rNeD C.K x y H Q := by
  unfold Fd.eqD at h
  split at h
  · rename_i p p' e1 e2
    split at h
    · rename_i hs
      cases h
      simp only [Bool.and_eq_true] at hs
      exact ⟨p, p', S.py rx e1, S.py ry e2, hs.1, hs.2, q⟩
    · cases h
  · cases h
/-! ### flat things -/
theorem flat_rep (r : Rep C F ι v d) {w : V} (h : flatOf d = some w) : v = w := by
  cases d <;> simp only [flatOf] at h <;> cases h <;> cases r <;> rfl
theorem flats_rep : ∀ {ds : List D} {vs ws : List V}, RepL C F ι vs ds → flats ds = some ws → vs = ws ∧ ws.all flatV = true
  | [], _, _, .nil, h => by simp only [flats] at h; cases h; exact ⟨rfl, rfl⟩
  | d :: ds, _, _, .cons a b, h => by
    simp only [flats] at h
    split at h
    · rename_i x xs e1 e2
      split at h
      · rename_i hf
        cases h
        obtain ⟨q1, q2⟩ := flats_rep b e2
        subst q1
        rw [flat_rep a e1]
        exact ⟨rfl, by simp [hf, q2]⟩
      · cases h
    · cases h
theorem key_rep (r : Rep C F ι v d) {k : Key} (h : keyOf d = some k) : v = kV k := by
  cases d <;> simp only [keyOf] at h <;> cases h <;> cases r <;> rfl
theorem ints_rep : ∀ {ds : List D} {vs : List V} {ns : List Int}, RepL C F ι vs ds → intsOf ds = some ns → vs = ns.map V.int
  | [], _, _, .nil, h => by simp only [intsOf] at h; cases h; rfl
  | d :: ds, _, _, .cons a b, h => by
    simp only [intsOf] at h
    split at h
    · rename_i x xs e1 e2
      cases h
      cases d <;> simp only [intOf] at e1 <;> cases e1
      rw [ints_rep b e2, a.is_int]
      rfl
    · cases h
theorem bools_rep : ∀ {ds : List D} {vs : List V} {ns : List Bool}, RepL C F ι vs ds → boolsOf ds = some ns → vs = ns.map V.bl
  | [], _, _, .nil, h => by simp only [boolsOf] at h; cases h; rfl
  | d :: ds, _, _, .cons a b, h => by
    cases d <;> simp only [boolsOf] at h <;> try cases h
    split at h
    · rename_i xs e2
      cases h
      rw [bools_rep b e2, a.is_bl]
      rfl
    · cases h
theorem repInts (ns : List Int) : RepL C F ι (ns.map V.int) (ns.map D.int) := by
  induction ns with
  | nil => exact .nil
  | cons n ns ih => exact .cons (.int n) ih
/-- a thing beside, that nobody else knows, changes -/
theorem Sim.side {p : Addr} {o : HO} (S : Sim C F ι st H) (fp : F p = none) (np : p ∉ ι) : Sim C F ι st (upd H p o) := by
  refine ⟨fun a u h => ?_, S.len, S.nd, fun a h => ?_, fun i c a h1 h2 => ?_, S.frz, S.no⟩
  · rw [upd_ne (fun z => by rw [z, fp] at h; cases h)]; exact S.fro a u h
  · obtain ⟨u, e⟩ := S.has a h; exact ⟨u, by rw [upd_ne (fun (z : a = p) => np (z ▸ h))]; exact e⟩
  · obtain ⟨q1, q2⟩ := S.cell i c a h1 h2
    exact ⟨q1, q2.mono Ext.refl (upd_ne (fun (z : a = p) => np (z ▸ List.mem_of_getElem? h2))).symm⟩
theorem Go.side {F' : Hp} {ι' : List Addr} {H' : Hp} {p : Addr} {o : HO} (g : Go F ι H F' ι' H') (hp : H p = none) : Go F ι H F' ι' (upd H' p o) :=
  ⟨g.x, fun a u h f n => by
    obtain ⟨q1, q2, q3⟩ := g.fr a u h f n
    exact ⟨by rw [upd_ne (fun z => by rw [z, hp] at h; cases h)]; exact q1, q2, q3⟩⟩
end
end Fd

set_option Elab.async false
set_option linter.all false
namespace Fd
open PySem L2
section
variable {C : Gx} {E : XK} {F : Hp} {ι : List Addr} {st : Sto} {H H0 : Hp} {Q : VK} {x y : V} {dx dy : D}
/-- K of an expression's end -/
abbrev Kq (C : Gx) (H0 : Hp) (Q : VK) : Wv → Hp → List Addr → Sto → Hp → Prop := fun w F' ι' _ H' => ∀ v, RepW C F' ι' H0 H' v w → Q v H'
theorem endD {d : D} {v : V} (w : Wpr C E (.ok (.d d) st) F ι H (Kq C H0 Q)) (S : Sim C F ι st H) (r : Rep C F ι v d) : Q v H := w F ι H .refl S v r
theorem endF {c : Cell} {o : HO} {p : Addr} (w : Wpr C E (.ok (.fr c) st) F ι H (Kq C H0 Q)) (S : Sim C F ι st H) (dom : ∀ a, H a = none → H0 a = none) (hp : H p = none) (hc : CellAt C F ι (upd H p o) p c) : Q (.ref p) (upd H p o) := by
  obtain ⟨S2, fp, np⟩ := S.more (o := o) hp
  exact w F ι _ (Go.more hp) S2 _ ⟨p, rfl, dom p hp, fp, np, hc⟩
theorem endT {xs : List D} {vs : List V} {p : Addr} (w : Wpr C E (.ok (.d (.tup xs)) st) F ι H (Kq C H0 Q)) (S : Sim C F ι st H) (hp : H p = none) (z : xs.length ≤ sizeLine) (r : RepL C F ι vs xs) : Q (.ref p) (upd H p (.tup vs)) := by
  obtain ⟨S2, fp, np⟩ := S.more (o := .tup vs) hp
  obtain ⟨S3, x3⟩ := S2.freeze (upd_same (a := p)) fp np (fun _ h => nomatch h)
  exact w _ ι _ ((Go.more hp).frz hp x3) S3 _ (.tup upd_same z (r.mono x3))
def BOp.op : BOp → Operator
  | .add => .Add | .sub => .Sub | .mul => .Mult | .mod => .Mod | .fdiv => .FloorDiv | .pow => .Pow
def rB : BOp → R2
  | .add => fun x y H Q => rI0 (fun i j => .int (i + j)) x y H Q ∨ (rCat x y H Q ∨ (∃ i j, x = .str i ∧ y = .str j ∧ i.length + j.length ≤ sizeLine ∧ Q (.str (i ++ j)) H))
  | .sub => rI0 fun i j => .int (i - j)
  | .mul => fun x y H Q => rI CMul (fun i j => .int (i * j)) x y H Q ∨ rRep x y H Q
  | .mod => rI (fun _ j => 0 < j) fun i j => .int (i % j)
  | .fdiv => rI CDiv fun i j => .int (i / j)
  | .pow => rI CPow fun i j => .int (i ^ j.toNat)
theorem opr {X : Cx} : ∀ b : BOp, OpR X (binaryOp b.op) (rB b)
  | .add => op_add.or (op_cat.or op_add_str)
  | .sub => op_sub
  | .mul => op_mul.or op_rep
  | .mod => op_mod
  | .fdiv => op_fdiv
  | .pow => op_pow
theorem RepL.rep {vs : List V} {xs : List D} (r : RepL C F ι vs xs) : ∀ k : Nat, RepL C F ι (List.replicate k vs).flatten (List.replicate k xs).flatten
  | 0 => .nil
  | k + 1 => by
    rw [List.replicate_succ, List.replicate_succ, List.flatten_cons, List.flatten_cons]
    exact RepL.append r (RepL.rep r k)
theorem flat_rep_length {α : Type} (xs : List α) (k : Nat) : (List.replicate k xs).flatten.length = xs.length * k := by
  induction k with
  | zero => simp
  | succ k ih => rw [List.replicate_succ, List.flatten_cons, List.length_append, ih, Nat.mul_succ]; omega
theorem opB_ok {op : BOp} (S : Sim C F ι st H) (rx : Rep C F ι x dx) (ry : Rep C F ι y dy) (dom : ∀ a, H a = none → H0 a = none)
    (w : Wpr C E (opB op dx dy st) F ι H (Kq C H0 Q)) : rB op x y H Q := by
  unfold opB at w
  split at w
  · exact .inl ⟨_, _, rx.is_int, ry.is_int, endD w S (.int _)⟩
  · exact ⟨_, _, rx.is_int, ry.is_int, endD w S (.int _)⟩
  · split at w
    · rename_i h; exact .inl ⟨_, _, rx.is_int, ry.is_int, h, endD w S (.int _)⟩
    · exact w.elim
  · split at w
    · rename_i h; exact ⟨_, _, rx.is_int, ry.is_int, h, endD w S (.int _)⟩
    · exact w.elim
  · split at w
    · rename_i h; exact ⟨_, _, rx.is_int, ry.is_int, h, endD w S (.int _)⟩
    · exact w.elim
  · split at w
    · rename_i h; exact ⟨_, _, rx.is_int, ry.is_int, h, endD w S (.int _)⟩
    · exact w.elim
  · split at w
    · rename_i h; exact .inr (.inr ⟨_, _, rx.is_str, ry.is_str, lim_eq ▸ h, endD w S (.str _)⟩)
    · exact w.elim
  · split at w
    · rename_i xs e
      split at w
      · rename_i h
        obtain ⟨a, vs, rfl, ha, z, r⟩ := S.lst rx e
        refine .inr ⟨a, _, vs, rfl, ry.is_int, ha, h.1, h.2.1, by rw [r.length, ← lim_eq]; exact h.2.2, fun p hp => ?_⟩
        exact endF w S dom hp ⟨_, upd_same, by rw [flat_rep_length, ← lim_eq]; exact h.2.2, r.rep _⟩
      · exact w.elim
    · exact w.elim
  · split at w
    · rename_i xs ys e1 e2
      split at w
      · rename_i h
        obtain ⟨a, vs, rfl, ha, z, r⟩ := S.lst rx e1
        obtain ⟨b, ws, rfl, hb, z2, r2⟩ := S.lst ry e2
        refine .inr (.inl ⟨a, b, vs, ws, rfl, rfl, ha, hb, by rw [r.length, r2.length, ← lim_eq]; exact h, fun p hp => ?_⟩)
        exact endF w S dom hp ⟨_, upd_same, by rw [List.length_append, ← lim_eq]; exact h, r.append r2⟩
      · exact w.elim
    · exact w.elim
  · exact w.elim
/-! ### comparisons -/
def COp.op : COp → CmpOp
  | .eq => .Eq | .ne => .NotEq | .lt => .Lt | .le => .LtE | .gt => .Gt | .ge => .GtE | .isin => .In | .notin => .NotIn
def rDin (neg : Bool) : R2 := fun x y H Q => ∃ d k o, y = .ref d ∧ DGet H d x o ∧ k = o.isSome ∧ Q (.bl (if neg then !k else k)) H
def rC (K : PySem.W.Frag) : COp → R2
  | .eq => rEqD K
  | .ne => rNeD K
  | .lt => rI0 fun i j => .bl (decide (i < j))
  | .le => rI0 fun i j => .bl (decide (i ≤ j))
  | .gt => rI0 fun i j => .bl (decide (j < i))
  | .ge => rI0 fun i j => .bl (decide (j ≤ i))
  | .isin => fun x y H Q => rDin false x y H Q ∨ rIn K false x y H Q
  | .notin => fun x y H Q => rDin true x y H Q ∨ rIn K true x y H Q
theorem op_din {X : Cx} (hu : X.A.units + 1 < cLine) : OpR X (compareOp .In) (rDin false) := by
  intro pins s σ H x y v u Q I rx ry h
  obtain ⟨d, k, o, rfl, g, rfl, q⟩ := h
  obtain rfl : u = Value.ref d := ry
  exact d_in hu I g rx fun s3 I3 => ⟨.bl o.isSome, H, I3, rfl, q⟩
theorem op_dnotin {X : Cx} (hu : X.A.units + 1 < cLine) : OpR X (compareOp .NotIn) (rDin true) := by
  intro pins s σ H x y v u Q I rx ry h
  obtain ⟨d, k, o, rfl, g, rfl, q⟩ := h
  obtain rfl : u = Value.ref d := ry
  exact d_notIn hu I g rx fun s3 I3 => ⟨.bl (!o.isSome), H, I3, rfl, q⟩
theorem opc {X : Cx} (hu : X.A.units + 64 < cLine) : ∀ c : COp, OpR X (compareOp c.op) (rC X.K c)
  | .eq => op_eqD hu
  | .ne => op_neD hu
  | .lt => op_lt
  | .le => op_le
  | .gt => op_gt
  | .ge => op_ge
  | .isin => (op_din (by omega)).or op_in_seq
  | .notin => (op_dnotin (by omega)).or op_notIn_seq
theorem valV_mem {kvs : List (Key × V)} {k : Key} : (valV kvs k).isSome = memK (kvs.map (·.1)) k := by
  unfold valV memK
  induction kvs with
  | nil => rfl
  | cons p r ih =>
    simp only [List.find?_cons, List.map_cons, List.any_cons]
    cases h : decide (p.1 = k) with
    | true => rfl
    | false => simpa using ih
theorem opC_ok {op : COp} (S : Sim C F ι st H) (rx : Rep C F ι x dx) (ry : Rep C F ι y dy)
    (w : Wpr C E (opC op dx dy st) F ι H fun b _ _ _ H' => Q (.bl b) H') : rC C.K op x y H Q := by
  have dict : ∀ {i : Key} {ks : List Key} {vs : List D} {neg : Bool}, x = kV i → dicOf st dy = some (ks, vs) → Q (.bl (if neg then !memK ks i else memK ks i)) H → rDin neg x y H Q := by
    intro i ks vs neg ex e q
    obtain ⟨a, kvs, rfl, ha, hk, z, r⟩ := S.dic ry e
    subst ex
    refine ⟨a, _, _, rfl, (.inl ⟨_, _, ha, rfl, rfl⟩), rfl, ?_⟩
    rw [valV_mem, hk]
    exact q
  have flat : ∀ {v : V} {vs : List V} {neg : Bool}, x = v → flatV v = true → (seqOf st dy).bind flats = some vs → Q (.bl (if neg then !inV v vs else inV v vs)) H → rIn C.K neg x y H Q := by
    intro v vs neg ex hf e q
    obtain ⟨xs, e1, e2⟩ := Option.bind_eq_some_iff.mp e
    obtain ⟨a, ws, rfl, ha, z, r⟩ := S.seq ry e1
    obtain ⟨h1, h2⟩ := flats_rep r e2
    subst h1 ex
    refine ⟨a, ws, rfl, ?_, hf, h2, q⟩
    rcases ha with ha | ⟨ha, _⟩
    · exact .inl (SqL.of ha)
    · exact .inr (SqT.of ha)
  unfold opC at w
  split at w
  · exact ⟨_, _, rx.is_int, ry.is_int, w.here S⟩
  · exact ⟨_, _, rx.is_int, ry.is_int, w.here S⟩
  · exact ⟨_, _, rx.is_int, ry.is_int, w.here S⟩
  · exact ⟨_, _, rx.is_int, ry.is_int, w.here S⟩
  · unfold ofO at w
    split at w
    · rename_i b e; exact S.eqD rx ry e (w.here S)
    · exact w.elim
  · unfold ofO at w
    split at w
    · rename_i b e
      obtain ⟨b', e', rfl⟩ := Option.map_eq_some_iff.mp e
      exact S.neD rx ry e' (w.here S)
    · exact w.elim
  · split at w
    · rename_i ks vs e; exact .inl (dict (i := .inl _) (neg := false) rx.is_int e (w.here S))
    · split at w
      · rename_i vs e; exact .inr (flat (neg := false) rx.is_int rfl e (w.here S))
      · exact w.elim
  · split at w
    · rename_i ks vs e; exact .inl (dict (i := .inr _) (neg := false) rx.is_str e (w.here S))
    · split at w
      · rename_i vs e; exact .inr (flat (neg := false) rx.is_str rfl e (w.here S))
      · exact w.elim
  · split at w
    · rename_i vs e; exact .inr (flat (neg := false) rx.is_bl rfl e (w.here S))
    · exact w.elim
  · split at w
    · rename_i ks vs e; exact .inl (dict (i := .inl _) (neg := true) rx.is_int e (w.here S))
    · split at w
      · rename_i vs e; exact .inr (flat (neg := true) rx.is_int rfl e (w.here S))
      · exact w.elim
  · split at w
    · rename_i ks vs e; exact .inl (dict (i := .inr _) (neg := true) rx.is_str e (w.here S))
    · split at w
      · rename_i vs e; exact .inr (flat (neg := true) rx.is_str rfl e (w.here S))
      · exact w.elim
  · exact w.elim
/-! ### items -/
def rDI : R2 := fun x y H Q => ∃ a v, x = .ref a ∧ DGet H a y (some v) ∧ Q v H
theorem ix_dict {X : Cx} (hu : X.A.units + 1 < cLine) : IxR X rDI := by
  intro value slice pins s σ H x y v u Q I rx ry h hs
  obtain ⟨a, w, rfl, g, q⟩ := h
  obtain rfl : v = Value.ref a := rx
  exact PyProof.Rows.tail_any (dict_typeIs I g) PySem.F.slot_dict_getitem.lookup (d_getItem hu I g ry fun w' s3 I3 rw' => ⟨w, H, I3, rw', q⟩) hs
def rIxA (K : PySem.W.Frag) : R2 := fun x y H Q => rDI x y H Q ∨ rIx K x y H Q
theorem ixr {X : Cx} (hu : X.A.units + 1 < cLine) : IxR X (rIxA X.K) := (ix_dict hu).or ix_seq
theorem lookK_rep : ∀ {kvs : List (Key × V)} {xs : List D} {k : Key} {d : D}, RepL C F ι (kvs.map (·.2)) xs → lookK (kvs.map (·.1)) xs k = some d → ∃ v, valV kvs k = some v ∧ Rep C F ι v d
  | [], _, _, _, _, h => by simp [lookK] at h
  | (a, v) :: r, [], _, _, rl, _ => by cases rl
  | (a, v) :: r, x :: xs, k, d, .cons q1 q2, h => by
    simp only [List.map_cons, lookK] at h
    by_cases e : a = k
    · rw [if_pos e] at h
      cases h
      exact ⟨v, by simp [valV, e], q1⟩
    · rw [if_neg e] at h
      obtain ⟨w, h1, h2⟩ := lookK_rep q2 h
      exact ⟨w, by simpa [valV, e] using h1, h2⟩
theorem atI_rep {vs : List V} {xs : List D} {i : Int} {d : D} (r : RepL C F ι vs xs) (h : atI xs i = some d) : ∃ v, atI vs i = some v ∧ Rep C F ι v d := by
  unfold atI at h ⊢
  obtain ⟨j, h1, h2⟩ := Option.bind_eq_some_iff.mp h
  obtain ⟨v, q1, q2⟩ := r.get h2
  exact ⟨v, by rw [r.length, h1]; exact q1, q2⟩
theorem getAt_ok {d : D} (S : Sim C F ι st H) (rx : Rep C F ι x dx) (ry : Rep C F ι y dy) (h : getAt st dx dy = some d) (q : ∀ v, Rep C F ι v d → Q v H) : rIxA C.K x y H Q := by
  unfold getAt at h
  split at h
  · split at h
    · rename_i z i hz
      obtain ⟨c, h1, rfl⟩ := Option.map_eq_some_iff.mp h
      exact .inr (.inr (.inr ⟨z, i, c, rx.is_str, ry.is_int, lim_eq ▸ hz, h1, q _ (.str _)⟩))
    · cases h
  · split at h
    · rename_i ks vs e
      obtain ⟨k, h1, h2⟩ := Option.bind_eq_some_iff.mp h
      obtain ⟨d', h3, rfl⟩ := Option.map_eq_some_iff.mp h2
      obtain ⟨a, kvs, rfl, ha, hk, z, r⟩ := S.dic rx e
      subst hk
      obtain ⟨v, g1, g2⟩ := lookK_rep r h3
      rw [key_rep ry h1]
      exact .inl ⟨a, v, rfl, by rw [← g1]; exact (.inl ⟨_, _, ha, rfl, rfl⟩), q v (S.res g2)⟩
    · split at h
      · rename_i xs i e _
        obtain ⟨d', h3, rfl⟩ := Option.map_eq_some_iff.mp h
        obtain ⟨a, vs, rfl, ha, z, r⟩ := S.seq rx e
        obtain ⟨v, g1, g2⟩ := atI_rep r h3
        rcases ha with ha | ⟨ha, _⟩
        · exact .inr (.inl ⟨a, vs, i, v, rfl, ry.is_int, SqL.of ha, g1, q v (S.res g2)⟩)
        · exact .inr (.inr (.inl ⟨a, vs, i, v, rfl, ry.is_int, SqT.of ha, g1, q v (S.res g2)⟩))
      · cases h
/-! ### stores -/
def rSD : V → V → V → Hp → (Hp → Prop) → Prop := fun o i v H Q => ∃ a H', o = .ref a ∧ DPut H a i v H' ∧ Q H'
theorem set_dict {X : Cx} (hu : X.A.units + 1 < cLine) : PSet X rSD := by
  intro pins s σ H o i v ov iv u Q I ro ri rv h
  obtain ⟨a, H', rfl, g, q⟩ := h
  obtain rfl : ov = Value.ref a := ro
  exact d_setItem hu I g ri rv fun s' I' => ⟨H', I', q⟩
theorem PSet.or {X : Cx} {t t' : TSet} (h : PSet X t) (h' : PSet X t') : PSet X (fun o i v H Q => t o i v H Q ∨ t' o i v H Q) :=
  fun pins s σ H o i v ov iv u Q I ro ri rv w => w.elim (h pins s σ H o i v ov iv u Q I ro ri rv) (h' pins s σ H o i v ov iv u Q I ro ri rv)
def rSet : TSet := fun o i v H Q => rSetL o i v H Q ∨ rSD o i v H Q
theorem setr {X : Cx} (hu : X.A.units + 1 < cLine) : PSet X rSet := PSet.or set_list (set_dict hu)
theorem RepL.zipK {k : Key} {v : V} {d : D} (rv : Rep C F ι v d) : ∀ {kvs : List (Key × V)} {xs : List D}, RepL C F ι (kvs.map (·.2)) xs →
    RepL C F ι ((kvs.map fun kv => if kv.1 = k then (kv.1, v) else kv).map (·.2)) (List.zipWith (fun a w => if a = k then d else w) (kvs.map (·.1)) xs)
  | [], _, .nil => .nil
  | p :: r, _, .cons a b => by
    simp only [List.map_cons, List.zipWith_cons_cons]
    refine .cons ?_ (RepL.zipK rv b)
    by_cases e : p.1 = k
    · rw [if_pos e, if_pos e]; exact rv
    · rw [if_neg e, if_neg e]; exact a
theorem putK_rep {kvs : List (Key × V)} {xs : List D} {k : Key} {v : V} {d : D} (r : RepL C F ι (kvs.map (·.2)) xs) (rv : Rep C F ι v d) :
    (L2.putK kvs k v).map (·.1) = (Fd.putK (kvs.map (·.1)) xs k d).1 ∧ RepL C F ι ((L2.putK kvs k v).map (·.2)) (Fd.putK (kvs.map (·.1)) xs k d).2 := by
  have e : memK (kvs.map (·.1)) k = kvs.any fun kv => decide (kv.1 = k) := by
    unfold memK; rw [List.any_map]; rfl
  unfold L2.putK Fd.putK
  rw [e]
  cases h : kvs.any fun kv => decide (kv.1 = k) with
  | true =>
    rw [if_pos rfl, if_pos rfl]
    refine ⟨?_, RepL.zipK rv r⟩
    rw [List.map_map]
    apply List.map_congr_left
    intro p _
    show (if p.1 = k then (p.1, v) else p).1 = p.1
    split <;> rfl
  | false =>
    rw [if_neg (by decide), if_neg (by decide)]
    refine ⟨by simp, ?_⟩
    rw [List.map_append]
    exact RepL.append r (.cons rv .nil)
theorem putK_len {ks : List Key} {vs : List D} {k : Key} {d : D} (h : ks.length = vs.length) (n : Nat) (hn : vs.length < n) : (Fd.putK ks vs k d).2.length ≤ n := by
  unfold Fd.putK
  split
  · simp only [List.length_zipWith]; omega
  · simp only [List.length_append, List.length_cons, List.length_nil]; omega
/-- a store -/
theorem setSub_ok {o i v : V} {od id vd : D} {st' : Sto} {Q : Hp → Prop} (S : Sim C F ι st H) (ro : Rep C F ι o od) (ri : Rep C F ι i id) (rv : Rep C F ι v vd) (h : setSub od id vd st = some st')
    (q : ∀ H', Go F ι H F ι H' → Sim C F ι st' H' → Q H') : rSet o i v H Q := by
  unfold setSub at h
  split at h
  · rename_i k
    cases ro with
    | ref ha =>
      rename_i a
      split at h
      · rename_i xs n e
        obtain ⟨j, h1, rfl⟩ := Option.map_eq_some_iff.mp h
        obtain ⟨fa, vs, h2, z, r⟩ := S.cell _ _ _ e ha
        refine .inl ⟨a, vs, n, j, rfl, ri.is_int, h2, by rw [r.length]; exact h1, q _ (Go.write ha) ?_⟩
        exact S.write e ha ⟨_, upd_same, by simpa using z, r.set rv j⟩
      · rename_i ks vs e
        obtain ⟨key, h1, h2⟩ := Option.bind_eq_some_iff.mp h
        split at h2
        · rename_i hl
          cases h2
          obtain ⟨fa, kvs, h3, hk, z, r⟩ := S.cell _ _ _ e ha
          subst hk
          have hlen : kvs.length = vs.length := by have := r.length; simpa using this
          obtain ⟨g1, g2⟩ := putK_rep (k := key) r rv
          rw [List.length_map] at hl
          refine .inr ⟨a, _, rfl, ?_, q _ (Go.write ha) (S.write e ha ⟨L2.putK kvs key v, upd_same, g1, ?_, g2⟩)⟩
          · rw [key_rep ri h1]
            exact DPut.k h3 (by rw [← lim_eq]; exact hl)
          · rw [← lim_eq]
            exact putK_len (by simpa using hlen) _ (by omega)
        · cases h2
      · cases h
  · cases h
end
end Fd

set_option Elab.async false
set_option linter.all false
set_option maxRecDepth 100000
set_option maxHeartbeats 2000000
namespace Fd
open PySem PySem.Spec PyProof.Rows L2 RT
/-! ### list(reversed(a list)) -/
section
variable {prog : Program} {w : World} {A : Around} {E : Value → Shared → Prop} {s : Shared}
theorem ext_rev {R : Result → Shared → Prop} {it l S : Addr} {items : Array Value} {res : Value} {c₀ : Nat} (hh : A.handled = none) (hit : s.heap.IsRevIter it l ((items.size : Int) - 1)) (hl : s.heap.IsList l items) (hne : l ≠ it) (hn : items.size ≤ sizeLine)
    (hS : s.heap.get? S = some { cls := .type "list", dict := none, data := .seq #[] c₀, slots := #[] }) (hSi : S ≠ it) (hSl : S ≠ l)
    (hR : ∀ h' tk acc' c', (∀ b o, b ≠ S → b ≠ it → s.heap.get? b = some o → h'.get? b = some o) → h'.get? S = some { cls := .type "list", dict := none, data := .seq acc' c', slots := #[] } →
      ItemsOf (fun i v => items[items.size - 1 - i]? = some v) acc' items.size → R (.ok (.ret res)) { s with heap := h', toks := tk }) :
    wpAny (model prog w) A.in1 (Builtin.List.listExtendWith (.ref S) (.ref it) res)
      (fun fin s' => match fin with | .done f => R (.ok f) s' | .again c' => c'.quiet = true ∧ codeAny (model prog w) A c' R s') (fun e s' => R (.error e) s') s := by
  have W := (Walks.listRev (prog := prog) (w := w) (A := A.in1) hh it l hne items).toS
  have hSf : S ∉ [it, l] := by simp only [List.mem_cons, List.not_mem_nil, or_false, not_or]; exact ⟨hSi, hSl⟩
  have hT : s.TypeIs (.ref it) "list_reverseiterator" := hit.typeIs
  have h1 : Builtin.List.listSameRef (.ref S) (.ref it) = false := by simp [Builtin.List.listSameRef, hSi]
  unfold Builtin.List.listExtendWith
  refine wpAny_bind (wpAny_typeOf hT ?_)
  rw [if_neg (by rw [h1]; decide)]
  refine wpAny_bind (wpAny_pyIter_revIter hit ?_)
  refine wpAny_bind (wpAny_holding ?_)
  unfold Builtin.List.listLengthHint
  refine wpAny_bind (wpAny_specialOf hT nolen_lri ?_)
  show wpAny _ A.in1 (specialOf (Value.ref it) (Str.ofString "__length_hint__") >>= _) _ _ _
  refine wpAny_bind (wpAny_specialOf hT hint_lri ?_)
  generalize hid : ("list_reverseiterator.__length_hint__" : String) = id0
  wp_delta
  rw [show splitId id0 = some ("list_reverseiterator", "__length_hint__") from by subst hid; decide +kernel]
  subst hid
  refine wpAny_bind (wpAny_isInstance (b := true) hT (by rw [isSubtype_type]; kernel_rfl) ?_)
  refine wpAny_pure ?_
  rw [if_neg (by decide)]
  have e0 : ((items.size : Nat) : Int) - 1 - ((0 : Nat) : Int) = (items.size : Int) - 1 := by omega
  refine wpAny_pure ⟨plainId_quiet F.plain_extend_loop _, codeAny_extend_loopS W hn _ hSf _ items.size 0 _ _ _ rfl (Nat.zero_le _) ⟨Nat.zero_le _, by rw [e0]; exact hit, hl⟩ hS (ItemsOf.nil _) fun s' acc' c' hm hS' hacc => ?_⟩
  rw [Moved.eq_with hm]
  refine hR s'.heap s'.toks acc' c' (fun b o hb hb2 e => hm.heap b o (fun hmem => ?_) e) hS' hacc
  rcases List.mem_cons.mp hmem with e' | hmem
  · exact hb e'
  · exact hb2 (List.mem_singleton.mp hmem)
theorem init_rev {R : Result → Shared → Prop} {it l S : Addr} {items : Array Value} (hh : A.handled = none) (hit : s.heap.IsRevIter it l ((items.size : Int) - 1)) (hl : s.heap.IsList l items) (hne : l ≠ it) (hn : items.size ≤ sizeLine)
    (hS : s.heap.get? S = some { cls := .type "list", data := .seq #[] }) (hSi : S ≠ it) (hSl : S ≠ l)
    (hR : ∀ h' tk acc' c', (∀ b o, b ≠ S → b ≠ it → s.heap.get? b = some o → h'.get? b = some o) → h'.get? S = some { cls := .type "list", dict := none, data := .seq acc' c', slots := #[] } →
      ItemsOf (fun i v => items[items.size - 1 - i]? = some v) acc' items.size → R (.ok (.ret .none)) { s with heap := h', toks := tk }) :
    wpAny (model prog w) A.in1 (Builtin.«list.__init__» ⟨[.ref S, .ref it], []⟩)
      (fun fin s' => match fin with | .done f => R (.ok f) s' | .again c' => c'.quiet = true ∧ codeAny (model prog w) A c' R s') (fun e s' => R (.error e) s') s := by
  show wpAny _ _ (do let old ← Builtin.List.listItems (.ref S); Builtin.List.listUpdate (.ref S) (fun _ => #[]); letGo old.toList.reverse; Builtin.List.listExtendWith (.ref S) (.ref it) .none) _ _ s
  refine wpAny_bind ?_
  unfold Builtin.List.listItems
  refine wpAny_bind (wpAny_seqItems hS rfl (wpAny_pure ?_))
  show wpAny _ _ (updateSeq S (fun _ => #[]) >>= fun _ => letGo (#[] : Array Value).toList.reverse >>= fun _ => Builtin.List.listExtendWith (.ref S) (.ref it) .none) _ _ s
  refine wpAny_bind (wpAny_updateSeq hS rfl ?_)
  have hS₂ := Heap.get?_update_self (Obj.mapSeq (fun _ => (#[] : Array Value))) hS rfl
  have oth : ∀ b o, b ≠ S → s.heap.get? b = some o → (s.heap.update S (Obj.mapSeq (fun _ => (#[] : Array Value)))).get? b = some o :=
    fun b o hb e => (Heap.get?_update_other _ _ (Ne.symm hb)).trans e
  refine wpAny_bind (wpAny_letGo ?_)
  refine ext_rev (s := { s with heap := s.heap.update S (Obj.mapSeq (fun _ => (#[] : Array Value))) }) hh (hit.at fun o e => oth it o (Ne.symm hSi) e) (hl.at fun o e => oth l o (Ne.symm hSl) e) hne hn hS₂ hSi hSl fun h' tk acc' c' hk hS' hacc => ?_
  exact hR h' tk acc' c' (fun b o hb hb2 e => hk b o hb hb2 (oth b o hb e)) hS' hacc
theorem call_list_rev {Q : Value → Shared → Prop} {it l : Addr} {items : Array Value} (hh : A.handled = none) (hit : s.heap.IsRevIter it l ((items.size : Int) - 1)) (hl : s.heap.IsList l items) (hne : l ≠ it) (hn : items.size ≤ sizeLine)
    (hQ : ∀ h' tk acc' c', (∀ b o, b ≠ it → s.heap.get? b = some o → h'.get? b = some o) →
      h'.get? s.heap.objs.size = some { cls := .type "list", dict := none, data := .seq acc' c', slots := #[] } → ItemsOf (fun i v => items[items.size - 1 - i]? = some v) acc' items.size → Q (.ref s.heap.objs.size) { s with heap := h', toks := tk }) :
    wpAny (model prog w) A (call (.type "list") [.ref it]) Q E s := by
  refine callType_codes (Q₁ := fun obj s₁ => obj = .ref s.heap.objs.size ∧ s₁ = { s with heap := s.heap.push { cls := .type "list", data := .seq #[] } }) F.called_list (F.typeCall_list_1 _) F.entry_list_init
    (code_list_new _ ⟨rfl, rfl⟩) fun obj s₁ h₁ => ?_
  obtain ⟨rfl, rfl⟩ := h₁
  have hS : (s.heap.push { cls := .type "list", data := .seq #[] }).get? s.heap.objs.size = some { cls := .type "list", data := .seq #[] } := Heap.get?_push_size _ rfl
  obtain ⟨oi, hoi, _⟩ := id hit
  obtain ⟨ol, hol, _⟩ := id hl
  have hSi : s.heap.objs.size ≠ it := Nat.ne_of_gt (Heap.lt_size hoi)
  have hSl : s.heap.objs.size ≠ l := Nat.ne_of_gt (Heap.lt_size hol)
  refine ⟨⟨_, hS, rfl⟩, F.args_list_init_2 _ _, init_rev (A := A.in1) (s := { s with heap := s.heap.push { cls := .type "list", data := .seq #[] } }) hh (hit.at fun o e => Heap.get?_push_of_some _ e) (hl.push _) hne hn hS hSi hSl fun h' tk acc' c' hk hS' hacc => ?_⟩
  exact ⟨rfl, hQ h' tk acc' c' (fun b o hb e => hk b o (Nat.ne_of_lt (Heap.lt_size e)) hb (Heap.get?_push_of_some _ e)) hS' hacc⟩
end
section
variable {X : Cx}
def tLstRev (K : PySem.W.Frag) (te : TE) : TE := fun σ H Q => te σ H fun v H1 => ∃ (a : Addr) (xs : List V), v = .ref a ∧ SqL K H1 a xs ∧ ∀ q, H1 q = none → Q (.ref q) (upd H1 q (.lst xs.reverse))
theorem pe_lstRev {e : Expr} {te : TE} {p p2 pos pos2 : Pos} (hc : X.calm = true) (hg : Gl X "list") (hm : X.mg "list" = none) (hg2 : Gl X "reversed") (hm2 : X.mg "reversed" = none) (he : PE X e te)
    (hs : starEach [e] X.env = (false, eval e X.env) :: starEach [] X.env)
    (hs2 : starEach [.Call (.Name "reversed" p2) [e] [] pos2] X.env = (false, eval (.Call (.Name "reversed" p2) [e] [] pos2) X.env) :: starEach [] X.env := by rfl) :
    PE X (.Call (.Name "list" p) [.Call (.Name "reversed" p2) [e] [] pos2] [] pos) (tLstRev X.K te) := by
  refine ⟨fun pins s σ H Q I h => ?_⟩
  refine Call_ (ld_blt I hg hm boot_list (PyProof.Rows.callWith_type1 (args_cons (Call_ (ld_blt I hg2 hm2 PyProof.Rows.boot_reversed (PyProof.Rows.callWith_type1 (args_cons (thn (he.run pins s σ H _ I h) fun u s1 ⟨v, H1, I1, r1, q1⟩ => args_nil ?_) hs) hs rfl))) hs2) hs2 rfl))
  obtain ⟨a, xs, ev, hq, q⟩ := q1
  subst ev
  obtain rfl : u = Value.ref a := r1
  obtain ⟨its, rv, p', hz⟩ := I1.list hq
  refine call_reversed_list p'.isList ?_
  refine args_nil ?_
  have k0 : ∀ b o, s1.heap.get? b = some o → (s1.heap.push (revObj a ((its.toArray.size : Int) - 1))).get? b = some o := fun b o e => Heap.get?_push_of_some _ e
  have I2 : Inv X pins σ H1 { s1 with heap := s1.heap.push (revObj a ((its.toArray.size : Int) - 1)) } := I1.kept (t' := s1.toks) k0
  obtain ⟨f0, f1, f2, f3, f4, f5⟩ := I1.fpOk (H' := H1) (b := s1.heap.objs.size) (Nat.le_refl _) (I1.hok.fresh (Nat.le_refl _))
  have hl := p'.isList
  obtain ⟨ol, hol, _⟩ := id hl
  have hne : a ≠ s1.heap.objs.size := Nat.ne_of_lt (Heap.lt_size hol)
  have hn : its.toArray.size ≤ sizeLine := by rw [List.size_toArray, ← rv.length]; exact hz
  refine call_list_rev (s := { s1 with heap := s1.heap.push (revObj a ((its.toArray.size : Int) - 1)) }) (I1.ok.hd hc) ⟨_, Heap.get?_push_size _ rfl, rfl, rfl⟩ (hl.push _) hne hn fun h' tk acc c' hk hS' hi => ?_
  have sz : (s1.heap.push (revObj a ((its.toArray.size : Int) - 1))).objs.size = s1.heap.objs.size + 1 := Heap.size_push _ _
  have hQ1 : H1 (s1.heap.objs.size + 1) = none := I1.hok.fresh (Nat.le_succ _)
  have hf : ∀ b ∈ [s1.heap.objs.size], FpOk X pins H1 b := fun b hb => by
    have e : b = s1.heap.objs.size := by simpa using hb
    subst e
    exact ⟨f0, f1, f2, f3, f4, f5⟩
  rw [sz] at hS'
  have I3 := I2.turnedNew (t' := tk) (ch := [s1.heap.objs.size]) (h' := h') (T := s1.heap.objs.size + 1) (ob := .lst xs.reverse) (fun b o hb e => hk b o (by simpa using hb) e) hf (by rw [sz]; exact Nat.le_refl _)
    (show ObjOk X.prog X.w _ _ _ (.lst xs.reverse) from ⟨by rw [List.length_reverse]; exact hz, acc.toList, c', vals_rev rv hi, by rw [Array.toArray_toList]; exact hS'⟩)
  rw [sz]
  exact ⟨.ref (s1.heap.objs.size + 1), _, I3, rfl, q _ hQ1⟩
end
end Fd

set_option Elab.async false
set_option linter.all false
set_option maxRecDepth 100000
set_option maxHeartbeats 2000000
namespace Fd
open PySem PySem.Spec PyProof.Rows L2 RT
/-! ### list(zip(a list, a list)) -/
/-- the heap behind i turns: a new pair each, put to the list at q -/
inductive ZLay (q : Addr) (xs ys : List V) (H0 : Hp) : Nat → List V → Hp → Prop where
  | nil : ZLay q xs ys H0 0 [] H0
  | snoc {i : Nat} {ts : List V} {H : Hp} {T : Addr} {x y : V} : ZLay q xs ys H0 i ts H → H T = none → xs[i]? = some x → ys[i]? = some y → ZLay q xs ys H0 (i + 1) (ts ++ [.ref T]) (upd (upd H T (.tup [x, y])) q (.lst (ts ++ [.ref T])))
theorem ZLay.len {q : Addr} {xs ys : List V} {H0 H : Hp} {i : Nat} {ts : List V} (h : ZLay q xs ys H0 i ts H) : ts.length = i := by
  induction h with
  | nil => rfl
  | snoc _ _ _ _ ih => simp [ih]
theorem sqL_upd {K : PySem.W.Frag} {H : Hp} {a p : Addr} {xs : List V} {o : HO} (h : SqL K H a xs) (ne : a ≠ p) : SqL K (upd H p o) a xs := by
  rcases h with (h | ⟨u, h⟩) | h
  · exact .inl (.inl (by rw [upd_ne ne]; exact h))
  · exact .inl (.inr ⟨u, by rw [upd_ne ne]; exact h⟩)
  · exact .inr h
structure ZOk (z TI TO i1 i2 : Addr) (i : Nat) (h : Heap) : Prop where
  st : (IsZip h z TI TO .none ∧ ∃ a b, IsPair h TO a b) ∨ ∃ T f oT, IsZipHeld h z TI TO T f ∧ h.get? T = some oT ∧ T ≠ z ∧ T ≠ i1 ∧ T ≠ i2
  ti : IsPair h TI (.ref i1) (.ref i2)
  e1 : ∃ o, h.get? TO = some o
def zch (z TI TO i1 i2 : Addr) : List Addr := [z, TI, TO, i1, i2]
section
variable {X : Cx} {pins : List (Addr × Obj)} {σ : L2.St}
theorem ext_zip_loop {A : Around} {R : Result → Shared → Prop} {res : Value} {z TI TO i1 i2 a b q : Addr} {xs ys : List V} {H0 : Hp} (hh : A.in1.handled = none) (D : ZipApart z TI TO i1 i2 a b) (hqa : a ≠ q) (hqb : b ≠ q) (hqc : ∀ c ∈ zch z TI TO i1 i2, c ≠ q) (hn : min xs.length ys.length ≤ sizeLine) :
    ∀ (k i : Nat) (s : Shared) (H : Hp) (ts : List V), min xs.length ys.length - i = k → i ≤ min xs.length ys.length → Inv X pins σ H s → ZOk z TI TO i1 i2 i s.heap → s.heap.IsListIter i1 a i → s.heap.IsListIter i2 b i → SqL X.K H a xs → SqL X.K H b ys → (∀ c ∈ zch z TI TO i1 i2, FpOk X pins H c) →
      ZLay q xs ys H0 i ts H → H q = some (.lst ts) → (∀ s' H' ts', Inv X pins σ H' s' → ZLay q xs ys H0 (min xs.length ys.length) ts' H' → R (.ok (.ret res)) s') →
      codeAny (model X.prog X.w) A (.builtin "list.extend.loop" ⟨[.ref q, .ref z, res], []⟩) R s := by
  intro k
  induction k with
  | zero =>
    intro i s H ts hk hi I Z h1 h2 hx hy hf L hq hR
    have hin : i = min xs.length ys.length := by omega
    subst hin
    obtain ⟨its, rv, p1, _⟩ := I.list hx
    obtain ⟨its2, rv2, p2, _⟩ := I.list hy
    have l1 := rv.length
    have l2 := rv2.length
    have hend : its.toArray[min xs.length ys.length]? = none ∨ its2.toArray[min xs.length ys.length]? = none := by
      by_cases c : xs.length ≤ ys.length
      · exact .inl (by simp; omega)
      · exact .inr (by simp; omega)
    refine codeAny_builtin F.entry_extend_loop ?_
    rw [Around.under_plainId F.plain_extend_loop _]
    show wpAny _ A.in1 (pyNext (.ref z) >>= _) _ _ s
    rcases Z.st with ⟨hz, ta, tb, hTO⟩ | ⟨T, f, oT, hz, hT, t1, t2, t3⟩
    · refine wpAny_bind (wpAny_pyNext_zip_end hh D hz Z.ti hTO h1 h2 p1.isList p2.isList hend fun h' hk' => ?_)
      have I2 : Inv X pins σ H { s with heap := h' } := I.turnedL (t' := s.toks) (ch := zch z TI TO i1 i2) (fun c o hb e => hk' c o (fun w => hb (by simp [zch, w])) (fun w => hb (by simp [zch, w])) (fun w => hb (by simp [zch, w])) (fun w => hb (by simp [zch, w])) e) hf
      exact wpAny_pure (hR _ H ts I2 L)
    · refine wpAny_bind (wpAny_pyNext_zip_end_held hh D hz hT Z.ti h1 h2 p1.isList p2.isList hend fun h' hk' => ?_)
      have I2 : Inv X pins σ H { s with heap := h' } := I.turnedL (t' := s.toks) (ch := zch z TI TO i1 i2) (fun c o hb e => hk' c o (fun w => hb (by simp [zch, w])) (fun w => hb (by simp [zch, w])) (fun w => hb (by simp [zch, w])) e) hf
      exact wpAny_pure (hR _ H ts I2 L)
  | succ k ih =>
    intro i s H ts hk hi I Z h1 h2 hx hy hf L hq hR
    have hlt : i < min xs.length ys.length := by omega
    have hlx : i < xs.length := by omega
    have hly : i < ys.length := by omega
    obtain ⟨its, rv, p1, _⟩ := I.list hx
    obtain ⟨its2, rv2, p2, _⟩ := I.list hy
    obtain ⟨u, hu, ru⟩ := rv.get (List.getElem?_eq_getElem hlx)
    obtain ⟨u2, hu2, ru2⟩ := rv2.get (List.getElem?_eq_getElem hly)
    refine codeAny_builtin F.entry_extend_loop ?_
    rw [Around.under_plainId F.plain_extend_loop _]
    show wpAny _ A.in1 (pyNext (.ref z) >>= _) _ _ s
    have inh : ∀ c ∈ zch z TI TO i1 i2, c < s.heap.objs.size := fun c hc => by
      simp only [zch, List.mem_cons, List.not_mem_nil, or_false] at hc
      have hz0 : ∃ o, s.heap.get? z = some o := by
        rcases Z.st with ⟨hz, _⟩ | ⟨T, f, oT, hz, _⟩
        · exact ⟨_, hz⟩
        · exact ⟨_, hz⟩
      obtain ⟨oz, ez⟩ := hz0
      obtain ⟨o3, e3⟩ := Z.e1
      obtain ⟨_, e4, _⟩ := id h1
      obtain ⟨_, e5, _⟩ := id h2
      rcases hc with rfl | rfl | rfl | rfl | rfl
      · exact Heap.lt_size ez
      · exact Heap.lt_size Z.ti
      · exact Heap.lt_size e3
      · exact Heap.lt_size e4
      · exact Heap.lt_size e5
    have hTn : H s.heap.objs.size = none := I.hok.fresh (Nat.le_refl _)
    have hqs : q ≠ s.heap.objs.size := fun e => by rw [← e, hq] at hTn; cases hTn
    -- the turn's end
    have fin : ∀ h', (∀ c o, c ∉ zch z TI TO i1 i2 → s.heap.get? c = some o → h'.get? c = some o) → IsPair h' s.heap.objs.size u u2 → h'.objs.size = s.heap.objs.size + 1 → ZOk z TI TO i1 i2 (i + 1) h' → h'.IsListIter i1 a (i + 1) → h'.IsListIter i2 b (i + 1) →
        wpAny (model X.prog X.w) A.in1 (do Builtin.List.listUpdate (.ref q) (·.push (.ref s.heap.objs.size)); again (.builtin "list.extend.loop" ⟨[.ref q, .ref z, res], []⟩))
          (fun fin s' => match fin with | .done f => R (.ok f) s' | .again c' => c'.quiet = true ∧ codeAny (model X.prog X.w) A c' R s') (fun e s' => R (.error e) s') { s with heap := h' } := by
      intro h' hk' hT' hsz Z' h1' h2'
      have new : ObjOk X.prog X.w (upd H s.heap.objs.size (.tup [xs[i], ys[i]])) h' s.heap.objs.size (.tup [xs[i], ys[i]]) :=
        ⟨by show 2 ≤ sizeLine; decide, [u, u2], .cons ru (.cons ru2 .nil), ⟨_, hT', rfl, _, rfl⟩⟩
      have I1 := I.turnedNew (t' := s.toks) (ch := zch z TI TO i1 i2) hk' hf (Nat.le_refl _) new
      have hq1 : upd H s.heap.objs.size (.tup [xs[i], ys[i]]) q = some (.lst ts) := by rw [upd_ne hqs]; exact hq
      obtain ⟨hz1, lits, ln, lr, ll, le⟩ := I1.lstM hq1
      have hlen := L.len
      have hlz : (ts ++ [V.ref s.heap.objs.size]).length ≤ sizeLine := by rw [List.length_append]; simp only [List.length_cons, List.length_nil]; omega
      have I2 := I1.lset (ys := ts ++ [.ref s.heap.objs.size]) (its := lits) (its' := lits ++ [.ref s.heap.objs.size]) (f := (·.push (.ref s.heap.objs.size))) (t' := s.toks) hq1 le (by simp) (lr.append (.cons (show L2.RelV (V.ref s.heap.objs.size) (.ref s.heap.objs.size) from rfl) .nil)) hlz
      show wpAny _ A.in1 (updateSeq q (·.push (.ref s.heap.objs.size)) >>= _) _ _ _
      refine wpAny_bind ?_
      have ot : ∀ c, c ≠ q → ∀ o, h'.get? c = some o → (h'.update q (Obj.mapSeq (·.push (.ref s.heap.objs.size)))).get? c = some o := fun c hc o e => (Heap.get?_update_other _ _ (Ne.symm hc)).trans e
      have cz : z ≠ q := hqc z (by simp [zch])
      have cTI : TI ≠ q := hqc TI (by simp [zch])
      have cTO : TO ≠ q := hqc TO (by simp [zch])
      have c1 : i1 ≠ q := hqc i1 (by simp [zch])
      have c2 : i2 ≠ q := hqc i2 (by simp [zch])
      refine wpAny_updateSeq (s := { s with heap := h' }) le rfl (wpAny_pure ⟨plainId_quiet F.plain_extend_loop _, ih (i + 1) _ _ _ (by omega) hlt I2 ⟨?_, ot TI cTI _ Z'.ti, ?_⟩ (h1'.at fun o e => ot i1 c1 o e) (h2'.at fun o e => ot i2 c2 o e)
        (sqL_upd (sqL_upd hx (Nat.ne_of_lt p1.lt)) hqa) (sqL_upd (sqL_upd hy (Nat.ne_of_lt p2.lt)) hqb) (fun c hc => ?_) (.snoc L hTn (List.getElem?_eq_getElem hlx) (List.getElem?_eq_getElem hly)) upd_same hR⟩) (by rw [List.size_toArray, ← ll, hlen]; omega) (by show (lits.toArray.push _).size ≤ sizeLine + 1; rw [Array.size_push, List.size_toArray, ← ll, hlen]; omega)
      · rcases Z'.st with ⟨hz, ta, tb, hTO⟩ | ⟨T, f, oT, hz, hT, t⟩
        · exact .inl ⟨ot z cz _ hz, ta, tb, ot TO cTO _ hTO⟩
        · right
          by_cases eT : T = q
          · subst eT
            exact ⟨_, f, _, ot z cz _ hz, Heap.get?_update_self _ hT (by rw [le] at hT; cases hT; rfl), t⟩
          · exact ⟨T, f, oT, ot z cz _ hz, ot T eT _ hT, t⟩
      · obtain ⟨o, e⟩ := Z'.e1
        exact ⟨o, ot TO cTO o e⟩
      · obtain ⟨f0, fr⟩ := hf c hc
        refine ⟨?_, fr⟩
        rw [upd_ne (hqc c hc), upd_ne (Nat.ne_of_lt (inh c hc))]
        exact f0
    rcases Z.st with ⟨hz, ta, tb, hTO⟩ | ⟨T, f, oT, hz, hT, t1, t2, t3⟩
    · refine wpAny_bind (wpAny_pyNext_zip_item D hz Z.ti hTO h1 h2 p1.isList p2.isList (x := u) (y := u2) (by simpa using hu) (by simpa using hu2) fun h' hz' hTO' h1' h2' hp hsz hk' => ?_)
      have ne : ∀ c ∈ zch z TI TO i1 i2, s.heap.objs.size ≠ c := fun c hc => Nat.ne_of_gt (inh c hc)
      exact fin h' (fun c o hb e => hk' c o (fun w => hb (by simp [zch, w])) (fun w => hb (by simp [zch, w])) (fun w => hb (by simp [zch, w])) (fun w => hb (by simp [zch, w])) e) hp hsz
        ⟨.inr ⟨_, false, _, hz', hp, ne z (by simp [zch]), ne i1 (by simp [zch]), ne i2 (by simp [zch])⟩, hk' TI _ D.TIz D.TITO D.TIi1 D.TIi2 Z.ti, ⟨_, hTO'⟩⟩ h1' h2'
    · refine wpAny_bind (wpAny_pyNext_zip_item_held D hz hT Z.ti h1 h2 p1.isList p2.isList (x := u) (y := u2) (by simpa using hu) (by simpa using hu2) fun h' hz' h1' h2' hp hsz hk' => ?_)
      obtain ⟨o3, e3⟩ := Z.e1
      exact fin h' (fun c o hb e => hk' c o (fun w => hb (by simp [zch, w])) (fun w => hb (by simp [zch, w])) (fun w => hb (by simp [zch, w])) e) hp hsz
        ⟨.inr ⟨T, true, oT, hz', hk' T oT t1 t2 t3 hT, t1, t2, t3⟩, hk' TI _ D.TIz D.TIi1 D.TIi2 Z.ti, ⟨o3, hk' TO o3 D.TOz D.TOi1 D.TOi2 e3⟩⟩ h1' h2'
theorem nolen_zip : typeLookup (.type "zip") "__len__" = pure none := by rw [typeLookup_type, builtinLookup_eq_fast]; kernel_rfl
theorem nohint_zip : typeLookup (.type "zip") "__length_hint__" = pure none := by rw [typeLookup_type, builtinLookup_eq_fast]; kernel_rfl
theorem ext_zip {A : Around} {R : Result → Shared → Prop} {res : Value} {z TI TO i1 i2 a b q : Addr} {xs ys : List V} {H0 : Hp} {s : Shared} (hh : A.in1.handled = none) (D : ZipApart z TI TO i1 i2 a b) (hqa : a ≠ q) (hqb : b ≠ q) (hqc : ∀ c ∈ zch z TI TO i1 i2, c ≠ q) (hn : min xs.length ys.length ≤ sizeLine)
    (I : Inv X pins σ H0 s) (hz : IsZip s.heap z TI TO .none) (hTI : IsPair s.heap TI (.ref i1) (.ref i2)) (hTO : ∃ x y, IsPair s.heap TO x y) (h1 : s.heap.IsListIter i1 a 0) (h2 : s.heap.IsListIter i2 b 0) (hx : SqL X.K H0 a xs) (hy : SqL X.K H0 b ys) (hf : ∀ c ∈ zch z TI TO i1 i2, FpOk X pins H0 c)
    (hq : H0 q = some (.lst [])) (hR : ∀ s' H' ts', Inv X pins σ H' s' → ZLay q xs ys H0 (min xs.length ys.length) ts' H' → R (.ok (.ret res)) s') :
    wpAny (model X.prog X.w) A.in1 (Builtin.List.listExtendWith (.ref q) (.ref z) res)
      (fun fin s' => match fin with | .done f => R (.ok f) s' | .again c' => c'.quiet = true ∧ codeAny (model X.prog X.w) A c' R s') (fun e s' => R (.error e) s') s := by
  have hqz : q ≠ z := Ne.symm (hqc z (by simp [zch]))
  have hT : s.TypeIs (.ref z) "zip" := ⟨_, hz, rfl⟩
  have e1 : Builtin.List.listSameRef (.ref q) (.ref z) = false := by simp [Builtin.List.listSameRef, hqz]
  unfold Builtin.List.listExtendWith
  refine wpAny_bind (wpAny_typeOf hT ?_)
  rw [if_neg (by rw [e1]; decide)]
  refine wpAny_bind (wpAny_pyIter_zip hz ?_)
  refine wpAny_bind (wpAny_holding ?_)
  unfold Builtin.List.listLengthHint
  refine wpAny_bind (wpAny_specialOf hT nolen_zip ?_)
  show wpAny _ A.in1 (specialOf (Value.ref z) (Str.ofString "__length_hint__") >>= _) _ _ _
  refine wpAny_bind (wpAny_specialOf hT nohint_zip ?_)
  refine wpAny_pure ?_
  rw [if_pos (by rfl)]
  refine wpAny_bind (wpAny_rule ?_)
  refine wpAny_bind ?_
  show wpAny _ _ (updateSeq q (·.push .none) >>= fun _ => updateSeq q (·.pop)) _ _ _
  obtain ⟨_, its, n, r, ll, le⟩ := I.lstM hq
  cases r
  have I1 := I.lset (ys := [V.non]) (its := []) (its' := [Value.none]) (f := (·.push .none)) (t' := s.toks) hq le (by simp) (.cons (show L2.RelV V.non Value.none from rfl) .nil) (by rw [sizeLine_eq]; decide)
  refine wpAny_bind (wpAny_updateSeq le rfl ?_ (by first | (simp; done) | (simp; decide)) (by first | (simp; done) | (simp; decide)))
  have hq1 : upd H0 q (.lst [V.non]) q = some (.lst [V.non]) := upd_same
  obtain ⟨_, its2, n2, r2, ll2, le2⟩ := I1.lstM hq1
  have ei : its2 = [Value.none] := by
    cases r2 with
    | cons a b => cases b; rw [show _ = Value.none from a]
  subst ei
  have I2 := I1.lset (ys := []) (its := [Value.none]) (its' := []) (f := (·.pop)) (t' := s.toks) hq1 le2 (by simp) .nil (Nat.zero_le _)
  have eH : upd (upd H0 q (.lst [V.non])) q (.lst []) = H0 := by
    funext c
    by_cases e : c = q
    · subst e; rw [upd_same, hq]
    · rw [upd_ne e, upd_ne e]
  rw [eH] at I2
  refine wpAny_updateSeq (s := { s with heap := s.heap.update q (Obj.mapSeq (·.push .none)) }) le2 rfl ?_ (by first | (simp; done) | (simp; decide)) (by first | (simp; done) | (simp; decide))
  have ot : ∀ c, c ≠ q → ∀ o, s.heap.get? c = some o → ((s.heap.update q (Obj.mapSeq (·.push .none))).update q (Obj.mapSeq (·.pop))).get? c = some o := fun c hc o e =>
    (Heap.get?_update_other _ _ (Ne.symm hc)).trans ((Heap.get?_update_other _ _ (Ne.symm hc)).trans e)
  obtain ⟨ta, tb, hTO⟩ := hTO
  refine wpAny_pure ⟨plainId_quiet F.plain_extend_loop _, ext_zip_loop hh D hqa hqb hqc hn _ 0 _ H0 [] rfl (Nat.zero_le _) I2
    ⟨.inl ⟨ot z (Ne.symm hqz) _ hz, ta, tb, ot TO (hqc TO (by simp [zch])) _ hTO⟩, ot TI (hqc TI (by simp [zch])) _ hTI, ⟨_, ot TO (hqc TO (by simp [zch])) _ hTO⟩⟩
    (h1.at fun o e => ot i1 (hqc i1 (by simp [zch])) o e) (h2.at fun o e => ot i2 (hqc i2 (by simp [zch])) o e) hx hy hf .nil hq hR⟩
theorem init_zip {A : Around} {R : Result → Shared → Prop} {z TI TO i1 i2 a b q : Addr} {xs ys : List V} {H0 : Hp} {s : Shared} (hh : A.in1.handled = none) (D : ZipApart z TI TO i1 i2 a b) (hqa : a ≠ q) (hqb : b ≠ q) (hqc : ∀ c ∈ zch z TI TO i1 i2, c ≠ q) (hn : min xs.length ys.length ≤ sizeLine)
    (I : Inv X pins σ H0 s) (hz : IsZip s.heap z TI TO .none) (hTI : IsPair s.heap TI (.ref i1) (.ref i2)) (hTO : ∃ x y, IsPair s.heap TO x y) (h1 : s.heap.IsListIter i1 a 0) (h2 : s.heap.IsListIter i2 b 0) (hx : SqL X.K H0 a xs) (hy : SqL X.K H0 b ys) (hf : ∀ c ∈ zch z TI TO i1 i2, FpOk X pins H0 c)
    (hq : H0 q = some (.lst [])) (hR : ∀ s' H' ts', Inv X pins σ H' s' → ZLay q xs ys H0 (min xs.length ys.length) ts' H' → R (.ok (.ret .none)) s') :
    wpAny (model X.prog X.w) A.in1 (Builtin.«list.__init__» ⟨[.ref q, .ref z], []⟩)
      (fun fin s' => match fin with | .done f => R (.ok f) s' | .again c' => c'.quiet = true ∧ codeAny (model X.prog X.w) A c' R s') (fun e s' => R (.error e) s') s := by
  obtain ⟨_, its, n, r, ll, le⟩ := I.lstM hq
  cases r
  show wpAny _ _ (do let old ← Builtin.List.listItems (.ref q); Builtin.List.listUpdate (.ref q) (fun _ => #[]); letGo old.toList.reverse; Builtin.List.listExtendWith (.ref q) (.ref z) .none) _ _ s
  refine wpAny_bind ?_
  unfold Builtin.List.listItems
  refine wpAny_bind (wpAny_seqItems le rfl (wpAny_pure ?_))
  show wpAny _ _ (updateSeq q (fun _ => #[]) >>= fun _ => letGo _ >>= fun _ => Builtin.List.listExtendWith (.ref q) (.ref z) .none) _ _ s
  have I1 := I.lset (ys := []) (its := []) (its' := []) (f := fun _ => #[]) (t' := s.toks) hq le (by simp) .nil (Nat.zero_le _)
  have eH : upd H0 q (.lst []) = H0 := by
    funext c
    by_cases e : c = q
    · subst e; rw [upd_same, hq]
    · rw [upd_ne e]
  rw [eH] at I1
  refine wpAny_bind (wpAny_updateSeq le rfl ?_)
  have ot : ∀ c, c ≠ q → ∀ o, s.heap.get? c = some o → (s.heap.update q (Obj.mapSeq (fun _ => (#[] : Array Value)))).get? c = some o := fun c hc o e => (Heap.get?_update_other _ _ (Ne.symm hc)).trans e
  obtain ⟨ta, tb, hTO⟩ := hTO
  refine wpAny_bind (wpAny_letGo ?_)
  exact ext_zip hh D hqa hqb hqc hn I1 (ot z (hqc z (by simp [zch])) _ hz) (ot TI (hqc TI (by simp [zch])) _ hTI) ⟨ta, tb, ot TO (hqc TO (by simp [zch])) _ hTO⟩ (h1.at fun o e => ot i1 (hqc i1 (by simp [zch])) o e) (h2.at fun o e => ot i2 (hqc i2 (by simp [zch])) o e) hx hy hf hq hR
theorem le5 (n k : Nat) (h : k < 5) : n ≤ n + k ∧ n + k < n + 5 := ⟨by omega, by omega⟩
theorem ne_lt {a b n k : Nat} (h : a < n) (e : b = n + k) : a ≠ b := by omega
/-- the reading of list(zip(a, b)), by the two lists -/
def rLZ (K : PySem.W.Frag) (u v : V) (H : Hp) (Q : VK) : Prop := ∃ a b xs ys, u = .ref a ∧ v = .ref b ∧ SqL K H a xs ∧ SqL K H b ys ∧ ∀ q ts H', H q = none → ZLay q xs ys (upd H q (.lst [])) (min xs.length ys.length) ts H' → Q (.ref q) H'
def tLZ (K : PySem.W.Frag) (ta : TA) : TE := fun σ H Q => ta σ H fun vs H1 => ∃ u v, vs = [u, v] ∧ rLZ K u v H1 Q
theorem pe_lz {e e2 : Expr} {ta : TA} {p p2 pos pos2 : Pos} (hc : X.calm = true) (hg : Gl X "list") (hm : X.mg "list" = none) (hg2 : Gl X "zip") (hm2 : X.mg "zip" = none) (ha : PA X [e, e2] ta)
    (hs : starEach [e, e2] X.env = (false, eval e X.env) :: starEach [e2] X.env) (hpl : (backTo pos2 (starEach [e2] X.env)).any (·.1) = false)
    (hs2 : starEach [.Call (.Name "zip" p2) [e, e2] [] pos2] X.env = (false, eval (.Call (.Name "zip" p2) [e, e2] [] pos2) X.env) :: starEach [] X.env := by rfl) :
    PE X (.Call (.Name "list" p) [.Call (.Name "zip" p2) [e, e2] [] pos2] [] pos) (tLZ X.K ta) := by
  refine ⟨fun pins s σ H Q I h => ?_⟩
  refine Call_ (ld_blt I hg hm boot_list (PyProof.Rows.callWith_type1 (args_cons (Call_ (ld_blt I hg2 hm2 PyProof.Rows.boot_zip (PyProof.Rows.callWith_type1 (thn (ha.run pos2 pins s σ H _ I h) fun us s1 ⟨vs, H1, I1, r1, q1⟩ => ?_) hs hpl))) hs2) hs2))
  obtain ⟨v1, v2, rfl, a, b, xs, ys, rfl, rfl, hqx, hqy, q⟩ := q1
  cases r1 with
  | cons r rr =>
    cases rr with
    | cons r' rr =>
      cases rr
      cases r
      cases r'
      obtain ⟨its, rv, p1, hz1⟩ := I1.list hqx
      obtain ⟨its2, rv2, p2, hz2⟩ := I1.list hqy
      have la : a < s1.heap.objs.size := p1.lt
      have lb : b < s1.heap.objs.size := p2.lt
      refine call_zip_2 p1.isList p2.isList fun h' hz hTI hTO h1 h2 hsz hk => ?_
      refine args_nil ?_
      have I2 : Inv X pins σ H1 { s1 with heap := h' } := I1.kept (t' := s1.toks) hk
      have hle : ∀ c ∈ zch (s1.heap.objs.size + 4) (s1.heap.objs.size + 2) (s1.heap.objs.size + 3) s1.heap.objs.size (s1.heap.objs.size + 1), s1.heap.objs.size ≤ c ∧ c < s1.heap.objs.size + 5 := fun c hc => by
        simp only [zch, List.mem_cons, List.not_mem_nil, or_false] at hc
        rcases hc with h | h | h | h | h
        · rw [h]; exact le5 _ 4 (by decide)
        · rw [h]; exact le5 _ 2 (by decide)
        · rw [h]; exact le5 _ 3 (by decide)
        · rw [h]; exact le5 _ 0 (by decide)
        · rw [h]; exact le5 _ 1 (by decide)
      have hf : ∀ c ∈ zch (s1.heap.objs.size + 4) (s1.heap.objs.size + 2) (s1.heap.objs.size + 3) s1.heap.objs.size (s1.heap.objs.size + 1), FpOk X pins H1 c := fun c hc => I1.fpOk (hle c hc).1 (I1.hok.fresh (hle c hc).1)
      refine callType_codes (Q₁ := fun obj s₁ => obj = .ref h'.objs.size ∧ s₁ = { s1 with heap := h'.push { cls := .type "list", data := .seq #[] } }) F.called_list (F.typeCall_list_1 _) F.entry_list_init
        (code_list_new _ ⟨rfl, rfl⟩) fun obj s₁ h₁ => ?_
      obtain ⟨rfl, rfl⟩ := h₁
      have hS : (h'.push { cls := .type "list", data := .seq #[] }).get? h'.objs.size = some { cls := .type "list", data := .seq #[] } := Heap.get?_push_size _ rfl
      have hqn : H1 h'.objs.size = none := I1.hok.fresh (by rw [hsz]; exact Nat.le_add_right _ _)
      have I3 : Inv X pins σ (upd H1 h'.objs.size (.lst [])) { s1 with heap := h'.push { cls := .type "list", data := .seq #[] } } :=
        I2.laid (t' := s1.toks) (fun b o e => Heap.get?_push_of_some _ e) (Nat.le_refl _) ⟨Nat.zero_le _, [], 0, .nil, hS⟩
      have ka : a ≠ h'.objs.size := ne_lt la hsz
      have kb : b ≠ h'.objs.size := ne_lt lb hsz
      have kc : ∀ c ∈ zch (s1.heap.objs.size + 4) (s1.heap.objs.size + 2) (s1.heap.objs.size + 3) s1.heap.objs.size (s1.heap.objs.size + 1), c ≠ h'.objs.size := fun c hc => Nat.ne_of_lt (by rw [hsz]; exact (hle c hc).2)
      refine ⟨⟨_, hS, rfl⟩, F.args_list_init_2 _ _, init_zip (A := X.A.in1) (q := h'.objs.size) (s := { s1 with heap := h'.push { cls := .type "list", data := .seq #[] } }) (I.ok.hd hc) (PySem.W.ktu_apart s1.heap.objs.size a b la lb) ka kb kc ?_ I3 (Heap.get?_push_of_some _ hz) (Heap.get?_push_of_some _ hTI) ⟨_, _, Heap.get?_push_of_some _ hTO⟩
        (h1.at fun o e => Heap.get?_push_of_some _ e) (h2.at fun o e => Heap.get?_push_of_some _ e) (sqL_upd hqx ka) (sqL_upd hqy kb) (fun c hc => ?_) upd_same fun s' H' ts' I' L => ?_⟩
      · omega
      · obtain ⟨f0, fr⟩ := hf c hc
        exact ⟨by rw [upd_ne (kc c hc)]; exact f0, fr⟩
      · exact ⟨rfl, ⟨.ref h'.objs.size, H', I', rfl, q _ ts' H' hqn L⟩⟩
end
end Fd

set_option Elab.async false
set_option linter.all false
namespace Fd
open PySem L2 PyProof.Rows
section
theorem insI_perm (x : Int) : ∀ ys : List Int, (insI x ys).Perm (x :: ys)
  | [] => .refl _
  | y :: ys => by
    unfold insI
    split
    · exact .refl _
    · exact ((insI_perm x ys).cons y).trans (List.Perm.swap x y ys)
theorem sortI_perm : ∀ xs : List Int, (sortI xs).Perm xs
  | [] => .refl _
  | x :: xs => (insI_perm x _).trans ((sortI_perm xs).cons x)
theorem insI_sorted (x : Int) : ∀ ys : List Int, ys.Pairwise (· ≤ ·) → (insI x ys).Pairwise (· ≤ ·)
  | [], _ => by simp [insI]
  | y :: ys, h => by
    unfold insI
    rw [List.pairwise_cons] at h
    split
    · rename_i hxy
      rw [List.pairwise_cons]
      refine ⟨fun z hz => ?_, List.pairwise_cons.mpr h⟩
      rcases List.mem_cons.mp hz with e | hz
      · omega
      · have := h.1 z hz; omega
    · rename_i hxy
      rw [List.pairwise_cons]
      refine ⟨fun z hz => ?_, insI_sorted x ys h.2⟩
      rcases List.mem_cons.mp ((insI_perm x ys).mem_iff.mp hz) with e | hz
      · omega
      · exact h.1 z hz
theorem sortI_sorted : ∀ xs : List Int, (sortI xs).Pairwise (· ≤ ·)
  | [] => .nil
  | x :: xs => insI_sorted x _ (sortI_sorted xs)
theorem sort_uniq {a b : List Int} (h : a.Perm b) (ha : a.Pairwise (· ≤ ·)) : a = sortI b :=
  List.Perm.eq_of_pairwise (fun x y _ _ h1 h2 => Int.le_antisymm h1 h2) ha (sortI_sorted b) (h.trans (sortI_perm b).symm)
theorem fold_max (xs : List Int) : ∀ x : Int, let m := xs.foldl (fun m y => if y > m then y else m) x; m ∈ x :: xs ∧ ∀ y ∈ x :: xs, y ≤ m := by
  induction xs with
  | nil => intro x; simp
  | cons z zs ih =>
    intro x
    simp only [List.foldl_cons]
    by_cases c : z > x
    · rw [if_pos c]
      obtain ⟨h1, h2⟩ := ih z
      refine ⟨List.mem_cons_of_mem _ h1, fun y hy => ?_⟩
      have hz := h2 z List.mem_cons_self
      rcases List.mem_cons.mp hy with rfl | hy
      · omega
      · exact h2 y hy
    · rw [if_neg c]
      obtain ⟨h1, h2⟩ := ih x
      have hx := h2 x List.mem_cons_self
      refine ⟨?_, fun y hy => ?_⟩
      · rcases List.mem_cons.mp h1 with e | h1
        · rw [e]; exact List.mem_cons_self
        · exact List.mem_cons_of_mem _ (List.mem_cons_of_mem _ h1)
      · rcases List.mem_cons.mp hy with rfl | hy
        · exact hx
        · rcases List.mem_cons.mp hy with rfl | hy
          · omega
          · exact h2 y (List.mem_cons_of_mem _ hy)
theorem fold_min (xs : List Int) : ∀ x : Int, let m := xs.foldl (fun m y => if y < m then y else m) x; m ∈ x :: xs ∧ ∀ y ∈ x :: xs, m ≤ y := by
  induction xs with
  | nil => intro x; simp
  | cons z zs ih =>
    intro x
    simp only [List.foldl_cons]
    by_cases c : z < x
    · rw [if_pos c]
      obtain ⟨h1, h2⟩ := ih z
      refine ⟨List.mem_cons_of_mem _ h1, fun y hy => ?_⟩
      have hz := h2 z List.mem_cons_self
      rcases List.mem_cons.mp hy with rfl | hy
      · omega
      · exact h2 y hy
    · rw [if_neg c]
      obtain ⟨h1, h2⟩ := ih x
      have hx := h2 x List.mem_cons_self
      refine ⟨?_, fun y hy => ?_⟩
      · rcases List.mem_cons.mp h1 with e | h1
        · rw [e]; exact List.mem_cons_self
        · exact List.mem_cons_of_mem _ (List.mem_cons_of_mem _ h1)
      · rcases List.mem_cons.mp hy with rfl | hy
        · exact hx
        · rcases List.mem_cons.mp hy with rfl | hy
          · omega
          · exact h2 y (List.mem_cons_of_mem _ hy)
theorem maxI_spec {ns : List Int} {m : Int} (h : maxI ns = some m) : m ∈ ns ∧ ∀ y ∈ ns, y ≤ m := by
  cases ns with
  | nil => cases h
  | cons x xs => cases h; exact fold_max xs x
theorem minI_spec {ns : List Int} {m : Int} (h : minI ns = some m) : m ∈ ns ∧ ∀ y ∈ ns, m ≤ y := by
  cases ns with
  | nil => cases h
  | cons x xs => cases h; exact fold_min xs x
end
section
variable {C : Gx} {E : XK} {F : Hp} {ι : List Addr} {st : Sto} {H H0 : Hp} {Q : VK} {x y : V} {dx dy : D}
/-- the built-in behind a name: its value, whether it is a type -/
def Bi.val : Bi → Option (Str × Value)
  | .len => some ("len", .builtin "len")
  | .sum => some ("sum", .builtin "sum")
  | .min1 => some ("min", .builtin "min")
  | .max1 => some ("max", .builtin "max")
  | .min2 => some ("min", .builtin "min")
  | .max2 => some ("max", .builtin "max")
  | .abs => some ("abs", .builtin "abs")
  | .int1 => some ("int", .type "int")
  | .all => some ("all", .builtin "all")
  | .any => some ("any", .builtin "any")
  | .list => some ("list", .type "list")
  | .tuple => some ("tuple", .type "tuple")
  | .sorted => some ("sorted", .builtin "sorted")
  | .dict => some ("dict", .type "dict")
  | .str1 => some ("str", .type "str")
  | _ => none
abbrev RL := List V → Hp → VK → Prop
theorem call_lenDR {X : Cx} : CallR X (.builtin "len") (fun xs H Q => ∃ a kvs, xs = [V.ref a] ∧ Rd H a (.dK kvs) ∧ Q (.int kvs.length) H) := by
  intro pins s σ H xs us Q I r h
  obtain ⟨a, kvs, rfl, ha, q⟩ := h
  obtain ⟨u, rfl, ru⟩ := vals1 r
  cases ru
  exact d_len I ha fun t s' I' => ⟨.int kvs.length, H, I', ⟨t, rfl⟩, q⟩
def rListDR : List V → Hp → VK → Prop := fun xs H Q => ∃ p kvs, xs = [.ref p] ∧ Rd H p (.dK kvs) ∧ ∀ q, H q = none → Q (.ref q) (upd H q (.lst (kvs.map fun kv => kV kv.1)))
theorem call_list_dKR {X : Cx} (hc : X.calm = true) : CallR X (.type "list") rListDR := by
  intro pins s σ H xs us Q I r h
  obtain ⟨p, kvs, e, hk, q⟩ := h
  subst e
  obtain ⟨u, eu, rx⟩ := vals1 r
  subst eu
  obtain rfl : u = Value.ref p := rx
  obtain ⟨z, lo, vs, rk, hd⟩ := dk_rd I.hok hk
  obtain ⟨ep, hat⟩ := hd.dictAt
  have hl : kvs.length = vs.length := Paired.length rk
  refine PySem.W.kdl_call (PySem.W.kdl_dict (knd := mixKind X.prog X.w) (kvs := vs) (ep := ep) lo) (I.ok.hd hc) hat (by rw [← hl]; exact z) fun h' tk acc c1 hkeep hS hacc => ?_
  refine ⟨.ref s.heap.objs.size, upd H s.heap.objs.size (.lst (kvs.map fun kv => kV kv.1)), I.laid hkeep (Nat.le_refl _) (show ObjOk X.prog X.w _ _ _ (.lst (kvs.map fun kv => kV kv.1)) from ⟨?_, acc.toList, c1, ?_, ?_⟩), rfl, q _ (I.hok.fresh (Nat.le_refl _))⟩
  · rw [List.length_map]; exact z
  · have el : acc.toList.length = acc.size := by simp
    refine vals_of_at (by rw [List.length_map, el, hacc.1, hl]) fun j x w h1 h2 => ?_
    obtain ⟨k, y, hky, hi⟩ := hacc.2 j w (by rw [← Array.getElem?_toList]; exact h2)
    have e1 : (kvs.map (·.1))[j]? = some k := by
      rw [KV.keys rk, List.getElem?_map, hky] <;> rfl
    have e2 : (kvs.map fun kv => kV kv.1)[j]? = some (kV k) := by
      have e3 : (kvs.map fun kv => kV kv.1) = (kvs.map (·.1)).map kV := by rw [List.map_map] <;> rfl
      rw [e3, List.getElem?_map, e1] <;> rfl
    rw [e2] at h1
    cases h1
    exact keyIs_rel hi
  · rw [Array.toArray_toList]; exact hS
def rBi (K : PySem.W.Frag) : Bi → RL
  | .len => fun xs H Q => (∃ p ys, xs = [.ref p] ∧ (SqL K H p ys ∨ SqT K H p ys) ∧ Q (.int ys.length) H) ∨ ((∃ a kvs, xs = [V.ref a] ∧ Rd H a (.dK kvs) ∧ Q (.int kvs.length) H) ∨ ∃ z, xs = [.str z] ∧ z.length ≤ sizeLine ∧ Q (.int z.length) H)
  | .sum => rSum K
  | .min1 => rMin K
  | .max1 => rMax K
  | .min2 => fun xs H Q => ∃ i j, xs = [.int i, .int j] ∧ Q (.int (if j < i then j else i)) H
  | .max2 => fun xs H Q => ∃ i j, xs = [.int i, .int j] ∧ Q (.int (if j > i then j else i)) H
  | .abs => fun xs H Q => ∃ i, xs = [.int i] ∧ Q (.int (if i < 0 then -i else i)) H
  | .int1 => fun xs H Q => (∃ i, xs = [.int i] ∧ Q (.int i) H) ∨ ∃ k, xs = [.bl k] ∧ Q (.int (if k then 1 else 0)) H
  | .str1 => fun xs H Q => ∃ i, xs = [.int i] ∧ i.natAbs.log2 < 1920 ∧ Q (.str (toString i)) H
  | .all => rAll K
  | .any => rAny K
  | .list => fun xs H Q => (∃ p ys, xs = [.ref p] ∧ (SqL K H p ys ∨ SqT K H p ys) ∧ ∀ l, H l = none → Q (.ref l) (upd H l (.lst ys))) ∨ rListDR xs H Q
  | .tuple => fun xs H Q => ∃ p ys, xs = [.ref p] ∧ ((SqL K H p ys ∧ ∀ l, H l = none → Q (.ref l) (upd H l (.tup ys))) ∨ (SqT K H p ys ∧ Q (.ref p) H))
  | .sorted => rSortedI K
  | .dict => fun xs H Q => ∃ (a : Addr) (ps : List Addr) (kvs : List (Key × V)), xs = [.ref a] ∧ SqL K H a (ps.map V.ref) ∧ Paired (fun p kv => SqT K H p [kV kv.1, kv.2]) ps kvs ∧ ∀ p, H p = none → Q (.ref p) (upd H p (.dK (mergeK [] kvs)))
  | .listRev => fun xs H Q => ∃ (a : Addr) (ys : List V), xs = [.ref a] ∧ SqL K H a ys ∧ ∀ q, H q = none → Q (.ref q) (upd H q (.lst ys.reverse))
  | .listZip => fun xs H Q => ∃ u v, xs = [u, v] ∧ rLZ K u v H Q
  | .listRange => fun xs H Q => (∃ j : Int, xs = [.int j] ∧ RgOk 0 j ∧ ∀ q, H q = none → Q (.ref q) (upd H q (.lst (rgV 0 j)))) ∨ ∃ i j : Int, xs = [.int i, .int j] ∧ RgOk i j ∧ ∀ q, H q = none → Q (.ref q) (upd H q (.lst (rgV i j)))
  | _ => fun _ _ _ => False
theorem CallR.or' {X : Cx} {f : Value} {r r' : RL} (h : CallR X f r) (h' : CallR X f r') : CallR X f (fun xs H Q => r xs H Q ∨ r' xs H Q) :=
  fun pins s σ H xs us Q I rr w => w.elim (h pins s σ H xs us Q I rr) (h' pins s σ H xs us Q I rr)
theorem bir {X : Cx} (hc : X.calm = true) : ∀ {b : Bi} {n : Str} {v : Value}, b.val = some (n, v) → CallR X v (rBi X.K b)
  | .len, _, _, h => by cases h; exact CallR.or' call_len_seq (CallR.or' call_lenDR call_len_str)
  | .sum, _, _, h => by cases h; exact cr_sum hc
  | .min1, _, _, h => by cases h; exact cr_min hc
  | .max1, _, _, h => by cases h; exact cr_max hc
  | .min2, _, _, h => by cases h; exact call_min2 hc
  | .max2, _, _, h => by cases h; exact call_max2 hc
  | .abs, _, _, h => by cases h; exact call_abs
  | .int1, _, _, h => by cases h; exact call_int1
  | .str1, _, _, h => by cases h; exact call_str_int
  | .all, _, _, h => by cases h; exact cr_all hc
  | .any, _, _, h => by cases h; exact cr_any hc
  | .list, _, _, h => by cases h; exact CallR.or' call_list_of (call_list_dKR hc)
  | .tuple, _, _, h => by cases h; exact call_tuple_of
  | .sorted, _, _, h => by cases h; exact cr_sortedI
  | .dict, _, _, h => by cases h; exact call_dictP hc
theorem rep1 {vs : List V} {d : D} (r : RepL C F ι vs [d]) : ∃ v, vs = [v] ∧ Rep C F ι v d := by
  cases r with | cons a b => cases b; exact ⟨_, rfl, a⟩
theorem rep2 {vs : List V} {d e : D} (r : RepL C F ι vs [d, e]) : ∃ v w, vs = [v, w] ∧ Rep C F ι v d ∧ Rep C F ι w e := by
  cases r with | cons a b => cases b with | cons a2 b2 => cases b2; exact ⟨_, _, rfl, a, a2⟩
theorem Sim.sq (S : Sim C F ι st H) {v : V} {d : D} (r : Rep C F ι v d) {xs : List D} (h : seqOf st d = some xs) : ∃ a vs, v = .ref a ∧ (SqL C.K H a vs ∨ SqT C.K H a vs) ∧ xs.length ≤ sizeLine ∧ RepL C F ι vs xs := by
  obtain ⟨a, vs, e, ha, z, rl⟩ := S.seq r h
  refine ⟨a, vs, e, ?_, z, rl⟩
  rcases ha with ha | ⟨ha, _⟩
  · exact .inl (SqL.of ha)
  · exact .inr (SqT.of ha)
theorem Sim.ints (S : Sim C F ι st H) {v : V} {d : D} (r : Rep C F ι v d) {ns : List Int} (h : (lstOf st d).bind intsOf = some ns) : ∃ a, v = .ref a ∧ SqL C.K H a (ns.map V.int) ∧ ns.length ≤ sizeLine := by
  obtain ⟨xs, h1, h2⟩ := Option.bind_eq_some_iff.mp h
  obtain ⟨a, vs, e, ha, z, rl⟩ := S.lst r h1
  have e2 := ints_rep rl h2
  have := rl.length
  subst e2
  exact ⟨a, e, SqL.of ha, by rw [List.length_map] at this; omega⟩
theorem Sim.bools (S : Sim C F ι st H) {v : V} {d : D} (r : Rep C F ι v d) {ns : List Bool} (h : (lstOf st d).bind boolsOf = some ns) : ∃ a, v = .ref a ∧ SqL C.K H a (ns.map V.bl) := by
  obtain ⟨xs, h1, h2⟩ := Option.bind_eq_some_iff.mp h
  obtain ⟨a, vs, e, ha, z, rl⟩ := S.lst r h1
  have e2 := bools_rep rl h2
  subst e2
  exact ⟨a, e, SqL.of ha⟩
theorem keysD : ∀ {kvs : List (Key × V)}, RepL C F ι (kvs.map fun kv => kV kv.1) ((kvs.map (·.1)).map dkey)
  | [] => .nil
  | (k, v) :: r => .cons (by cases k <;> constructor) keysD
theorem repRg (i j : Int) : RepL C F ι (rgV i j) (rangeD i j) := by
  unfold rgV rangeD
  generalize List.range (j - i).toNat = l
  induction l with
  | nil => exact .nil
  | cons a l ih => exact .cons (.int _) ih
theorem rangeD_len (i j : Int) : (rangeD i j).length = (j - i).toNat := by unfold rangeD; simp
theorem tupF_rep {v : V} {d : D} (r : Rep C F ι v d) {xs : List D} (h : tupF d = some xs) : ∃ a vs, v = .ref a ∧ F a = some (.tup vs) ∧ xs.length ≤ sizeLine ∧ RepL C F ι vs xs := by
  cases d <;> simp only [tupF] at h <;> cases h
  cases r with | tup h z r => exact ⟨_, _, rfl, h, z, r⟩
theorem pairs_rep (f : ∀ a o, F a = some o → H a = some o) : ∀ {ds : List D} {vs : List V} {kds : List (Key × D)}, RepL C F ι vs ds → pairsOf ds = some kds →
    ∃ (ps : List Addr) (kvs : List (Key × V)), vs = ps.map V.ref ∧ Paired (fun p kv => SqT C.K H p [kV kv.1, kv.2]) ps kvs ∧ kvs.map (·.1) = kds.map (·.1) ∧ RepL C F ι (kvs.map (·.2)) (kds.map (·.2))
  | [], _, _, .nil, h => by simp only [pairsOf] at h; cases h; exact ⟨[], [], rfl, .nil, rfl, .nil⟩
  | d :: ds, _, _, .cons a b, h => by
    simp only [pairsOf] at h
    split at h
    · rename_i k v e
      split at h
      · rename_i k' r e1 e2
        cases h
        obtain ⟨ps, kvs, rfl, h2, h3, h4⟩ := pairs_rep f b e2
        obtain ⟨p, ws, rfl, hF, _, rl⟩ := tupF_rep a e
        obtain ⟨u, w, rfl, r1, r2⟩ := rep2 rl
        have := key_rep r1 e1
        subst this
        exact ⟨p :: ps, (k', w) :: kvs, rfl, .cons (SqT.of (f _ _ hF)) h2, by simp [h3], .cons r2 h4⟩
      · cases h
    · cases h
theorem mer_rep : ∀ {kvs : List (Key × V)} {kds : List (Key × D)} {acc : List (Key × V)} {vs : List D}, kvs.map (·.1) = kds.map (·.1) → RepL C F ι (kvs.map (·.2)) (kds.map (·.2)) → RepL C F ι (acc.map (·.2)) vs →
    (mergeK acc kvs).map (·.1) = (merD kds (acc.map (·.1)) vs).1 ∧ RepL C F ι ((mergeK acc kvs).map (·.2)) (merD kds (acc.map (·.1)) vs).2
  | [], [], acc, vs, _, _, r => ⟨rfl, r⟩
  | p :: kvs, q :: kds, acc, vs, h1, .cons a b, r => by
    simp only [List.map_cons, List.cons.injEq] at h1
    obtain ⟨e1, e2⟩ := putK_rep (k := q.1) r a
    have := mer_rep (acc := L2.putK acc q.1 p.2) h1.2 b e2
    show (mergeK (L2.putK acc p.1 p.2) kvs).map (·.1) = _ ∧ RepL C F ι ((mergeK (L2.putK acc p.1 p.2) kvs).map (·.2)) _
    rw [h1.1]
    unfold merD
    rw [e1] at this
    exact this
  | [], _ :: _, _, _, h, _, _ => by cases h
  | _ :: _, [], _, _, h, _, _ => by cases h
theorem merD_len : ∀ {kds : List (Key × D)} {ks : List Key} {vs : List D}, ks.length = vs.length → (merD kds ks vs).2.length ≤ vs.length + kds.length ∧ (merD kds ks vs).1.length = (merD kds ks vs).2.length
  | [], ks, vs, h => ⟨by simp [merD], h⟩
  | p :: r, ks, vs, h => by
    unfold merD
    have l1 : (Fd.putK ks vs p.1 p.2).2.length ≤ vs.length + 1 := putK_len h _ (Nat.lt_succ_self _)
    have l2 : (Fd.putK ks vs p.1 p.2).1.length = (Fd.putK ks vs p.1 p.2).2.length := by
      unfold Fd.putK
      split
      · simp only [List.length_zipWith]; omega
      · simp [h]
    obtain ⟨h1, h2⟩ := merD_len (kds := r) l2
    exact ⟨by rw [List.length_cons]; omega, h2⟩
theorem pairsOf_len : ∀ {ds : List D} {kds : List (Key × D)}, pairsOf ds = some kds → kds.length = ds.length
  | [], _, h => by simp only [pairsOf] at h; cases h; rfl
  | d :: ds, _, h => by
    simp only [pairsOf] at h
    split at h
    · split at h
      · rename_i e1 e2
        cases h
        exact congrArg Nat.succ (pairsOf_len e2)
      · cases h
    · cases h
theorem zipD_at : ∀ {xs ys : List D} {i : Nat} {d e : D}, xs[i]? = some d → ys[i]? = some e → (zipD xs ys)[i]? = some (.tup [d, e])
  | x :: xs, y :: ys, 0, d, e, h1, h2 => by simp at h1 h2; subst h1 h2; rfl
  | x :: xs, y :: ys, i + 1, d, e, h1, h2 => by simp only [zipD, List.getElem?_cons_succ]; exact zipD_at (by simpa using h1) (by simpa using h2)
  | [], _, _, _, _, h, _ => by simp at h
  | _ :: _, [], _, _, _, _, h => by simp at h
theorem zlay_ok {q : Addr} {vs ws : List V} {xs ys : List D} (S : Sim C F ι st H) (rx : RepL C F ι vs xs) (ry : RepL C F ι ws ys) (hq : H q = none) : ∀ {n : Nat} {ts : List V} {H' : Hp}, ZLay q vs ws (upd H q (.lst [])) n ts H' →
    ∃ F', Sim C F' ι st H' ∧ Go F ι H F' ι H' ∧ F' q = none ∧ q ∉ ι ∧ H' q = some (.lst ts) ∧ RepL C F' ι ts ((zipD xs ys).take n) := by
  intro n ts H' L
  induction L with
  | nil =>
    obtain ⟨S2, fq, nq⟩ := S.more (o := .lst []) hq
    exact ⟨F, S2, Go.more hq, fq, nq, upd_same, by rw [List.take_zero]; exact .nil⟩
  | @snoc i ts H1 T x y L hT hx hy ih =>
    obtain ⟨F1, S1, g1, fq, nq, e1, rl⟩ := ih
    have hTH : H T = none := g1.dom S S1 hT
    obtain ⟨S2, fT, nT⟩ := S1.more (o := .tup [x, y]) hT
    obtain ⟨S3, x3⟩ := S2.freeze (upd_same (a := T)) fT nT (fun _ h => nomatch h)
    have qT : q ≠ T := fun e => by rw [e, hT] at e1; cases e1
    have g3 : Go F ι H (upd F1 T (.tup [x, y])) ι (upd H1 T (.tup [x, y])) := (g1.trans (Go.more hT)).frz hTH x3
    have fq3 : upd F1 T (.tup [x, y]) q = none := by rw [upd_ne qT]; exact fq
    obtain ⟨d, hd, rd⟩ := rx.getV hx
    obtain ⟨e, he, re⟩ := ry.getV hy
    refine ⟨_, S3.side fq3 nq, g3.side hq, fq3, nq, upd_same, ?_⟩
    rw [List.take_add_one, zipD_at hd he]
    have x13 := g1.x.trans x3
    refine (rl.mono x3).append (.cons (.tup upd_same (by show 2 ≤ sizeLine; decide) (.cons (rd.mono x13) (.cons (re.mono x13) .nil))) .nil)
theorem zipD_lenS : ∀ {xs ys : List D}, (zipD xs ys).length = min xs.length ys.length
  | [], _ => by simp [zipD]
  | _ :: _, [] => by simp [zipD]
  | x :: xs, y :: ys => by simp only [zipD, List.length_cons, zipD_lenS]; omega
theorem evBi_ok {b : Bi} {ds : List D} {vs : List V} (S : Sim C F ι st H) (r : RepL C F ι vs ds) (dom : ∀ a, H a = none → H0 a = none)
    (w : Wpr C E (evBi b ds st) F ι H (Kq C H0 Q)) : rBi C.K b vs H Q := by
  unfold evBi at w
  split at w
  · split at w
    · rename_i z h
      obtain ⟨v, rfl, r1⟩ := rep1 r
      rw [r1.is_str]
      exact .inr (.inr ⟨_, rfl, lim_eq ▸ h, endD w S (.int _)⟩)
    · exact w.elim
  · obtain ⟨v, rfl, r1⟩ := rep1 r
    split at w
    · rename_i ks vs e
      obtain ⟨a, kvs, rfl, ha, hk, z, rl⟩ := S.dic r1 e
      subst hk
      refine .inr (.inl ⟨a, kvs, rfl, ha, endD w S ?_⟩)
      rw [List.length_map]
      exact .int _
    · split at w
      · rename_i xs e
        obtain ⟨a, ws, rfl, ha, z, rl⟩ := S.sq r1 e
        refine .inl ⟨a, ws, rfl, ha, endD w S ?_⟩
        rw [rl.length]
        exact .int _
      · exact w.elim
  · obtain ⟨v, rfl, r1⟩ := rep1 r
    split at w
    · rename_i ns e
      obtain ⟨a, rfl, h, _⟩ := S.ints r1 e
      exact ⟨a, ns, rfl, h, endD w S (.int _)⟩
    · exact w.elim
  · obtain ⟨v, rfl, r1⟩ := rep1 r
    split at w
    · rename_i m e
      obtain ⟨ns, e1, e2⟩ := Option.bind_eq_some_iff.mp e
      obtain ⟨a, rfl, h, _⟩ := S.ints r1 e1
      obtain ⟨q1, q2⟩ := minI_spec e2
      refine ⟨a, ns, rfl, h, List.length_pos_of_mem q1, fun m' h1 h2 => ?_⟩
      have : m' = m := Int.le_antisymm (h2 m q1) (q2 m' h1)
      subst this
      exact endD w S (.int _)
    · exact w.elim
  · obtain ⟨v, rfl, r1⟩ := rep1 r
    split at w
    · rename_i m e
      obtain ⟨ns, e1, e2⟩ := Option.bind_eq_some_iff.mp e
      obtain ⟨a, rfl, h, _⟩ := S.ints r1 e1
      obtain ⟨q1, q2⟩ := maxI_spec e2
      refine ⟨a, ns, rfl, h, List.length_pos_of_mem q1, fun m' h1 h2 => ?_⟩
      have : m' = m := Int.le_antisymm (q2 m' h1) (h2 m q1)
      subst this
      exact endD w S (.int _)
    · exact w.elim
  · obtain ⟨v, w', rfl, r1, r2⟩ := rep2 r
    rw [r1.is_int, r2.is_int]
    exact ⟨_, _, rfl, endD w S (.int _)⟩
  · obtain ⟨v, w', rfl, r1, r2⟩ := rep2 r
    rw [r1.is_int, r2.is_int]
    exact ⟨_, _, rfl, endD w S (.int _)⟩
  · obtain ⟨v, rfl, r1⟩ := rep1 r
    rw [r1.is_int]
    exact ⟨_, rfl, endD w S (.int _)⟩
  · obtain ⟨v, rfl, r1⟩ := rep1 r
    rw [r1.is_int]
    exact .inl ⟨_, rfl, endD w S (.int _)⟩
  · obtain ⟨v, rfl, r1⟩ := rep1 r
    split at w
    · rename_i i e
      exact ⟨i, by rw [r1.is_int], e, endD w S (.str _)⟩
    · exact w.elim
  · obtain ⟨v, rfl, r1⟩ := rep1 r
    split at w
    · rename_i bs e
      obtain ⟨a, rfl, h⟩ := S.bools r1 e
      exact ⟨a, bs, rfl, h, endD w S (.bl _)⟩
    · exact w.elim
  · obtain ⟨v, rfl, r1⟩ := rep1 r
    split at w
    · rename_i bs e
      obtain ⟨a, rfl, h⟩ := S.bools r1 e
      exact ⟨a, bs, rfl, h, endD w S (.bl _)⟩
    · exact w.elim
  · rename_i ns
    obtain ⟨v, rfl, r1⟩ := rep1 r
    cases r1 with
    | scr h =>
      rename_i a
      have h' : SqL C.K H a (ns.map V.int) := by
        rcases h with (h | ⟨o, h⟩) | h
        · exact .inl (.inl (S.fro _ _ h))
        · exact .inl (.inr ⟨o, S.fro _ _ h⟩)
        · exact .inr h
      split at w
      · rename_i hz
        exact .inl ⟨a, _, rfl, .inl h', fun p hp => endF w S dom hp ⟨_, upd_same, by rw [List.length_map, ← lim_eq]; exact hz, repInts _⟩⟩
      · exact w.elim
  · obtain ⟨v, rfl, r1⟩ := rep1 r
    split at w
    · rename_i ks vs e
      obtain ⟨a, kvs, rfl, ha, hk, z, rl⟩ := S.dic r1 e
      subst hk
      refine .inr ⟨a, kvs, rfl, ha, fun p hp => endF w S dom hp ⟨_, upd_same, ?_, keysD⟩⟩
      have := rl.length
      simp only [List.length_map] at this ⊢
      omega
    · split at w
      · rename_i xs e
        obtain ⟨a, ws, rfl, ha, z, rl⟩ := S.sq r1 e
        exact .inl ⟨a, ws, rfl, ha, fun p hp => endF w S dom hp ⟨_, upd_same, z, rl⟩⟩
      · exact w.elim
  · obtain ⟨v, rfl, r1⟩ := rep1 r
    cases r1 with
    | tup h z rl => exact ⟨_, _, rfl, .inr ⟨SqT.of (S.fro _ _ h), endD w S (.tup h z rl)⟩⟩
  · obtain ⟨v, rfl, r1⟩ := rep1 r
    split at w
    · rename_i xs e
      obtain ⟨a, ws, rfl, ha, z, rl⟩ := S.lst r1 e
      exact ⟨a, ws, rfl, .inl ⟨SqL.of ha, fun p hp => endT w S hp z rl⟩⟩
    · exact w.elim
  · obtain ⟨v, rfl, r1⟩ := rep1 r
    split at w
    · rename_i ns e
      obtain ⟨a, rfl, h, z⟩ := S.ints r1 e
      refine ⟨a, ns, rfl, h, fun ns' p h1 h2 hp => ?_⟩
      rw [sort_uniq h1 h2]
      refine endF w S dom hp ⟨_, upd_same, ?_, repInts _⟩
      rw [List.length_map, (sortI_perm ns).length_eq]
      exact z
    · exact w.elim
  · obtain ⟨v, rfl, r1⟩ := rep1 r
    rw [r1.is_int]
    split at w
    · rename_i j h
      unfold lim at h
      refine .inl ⟨j, rfl, RgOk.of_le (by omega) (by omega) (by omega) h.2, fun q hq => endF w S dom hq ⟨_, upd_same, ?_, repRg 0 j⟩⟩
      rw [rangeD_len, sizeLine_eq]
      omega
    · exact w.elim
  · obtain ⟨v, rfl, r1⟩ := rep1 r
    split at w
    · rename_i xs e
      obtain ⟨a, ws, rfl, ha, z, rl⟩ := S.lst r1 e
      exact ⟨a, ws, rfl, SqL.of ha, fun q hq => endF w S dom hq ⟨_, upd_same, by rw [List.length_reverse]; exact z, rl.reverse⟩⟩
    · exact w.elim
  · obtain ⟨v, u, rfl, r1, r2⟩ := rep2 r
    split at w
    · rename_i xs ys e1 e2
      obtain ⟨a, ws, rfl, ha, z, rl⟩ := S.lst r1 e1
      obtain ⟨a2, ws2, rfl, ha2, z2, rl2⟩ := S.lst r2 e2
      refine ⟨_, _, rfl, a, a2, ws, ws2, rfl, rfl, SqL.of ha, SqL.of ha2, fun q ts H' hq L => ?_⟩
      obtain ⟨F', S', g', fq, nq, eq, rl'⟩ := zlay_ok S rl rl2 hq L
      rw [rl.length, rl2.length, ← zipD_lenS, List.take_length] at rl'
      exact w F' ι H' g' S' _ ⟨q, rfl, dom q hq, fq, nq, ts, eq, by rw [zipD_lenS]; omega, rl'⟩
    · exact w.elim
  · obtain ⟨v, rfl, r1⟩ := rep1 r
    split at w
    · rename_i kds e
      obtain ⟨xs, e1, e2⟩ := Option.bind_eq_some_iff.mp e
      obtain ⟨a, ws, rfl, ha, z, rl⟩ := S.lst r1 e1
      obtain ⟨ps, kvs, rfl, h2, h3, h4⟩ := pairs_rep S.fro rl e2
      obtain ⟨q1, q2⟩ := mer_rep (acc := []) h3 h4 .nil
      refine ⟨a, ps, kvs, rfl, SqL.of ha, h2, fun p hp => endF w S dom hp ⟨mergeK [] kvs, upd_same, q1, ?_, q2⟩⟩
      have l1 := (merD_len (kds := kds) (ks := []) (vs := []) rfl).1
      have l2 := pairsOf_len e2
      simp only [List.length_nil] at l1
      omega
    · exact w.elim
  · obtain ⟨v, w', rfl, r1, r2⟩ := rep2 r
    rw [r1.is_int, r2.is_int]
    split at w
    · rename_i i j h
      unfold lim at h
      refine .inr ⟨i, j, rfl, RgOk.of_le h.1 (by omega) (by omega) h.2.2.2, fun q hq => endF w S dom hq ⟨_, upd_same, ?_, repRg i j⟩⟩
      rw [rangeD_len, sizeLine_eq]
      omega
    · exact w.elim
  · exact w.elim
end
end Fd

set_option Elab.async false
set_option linter.all false
namespace Fd
open PySem L2 PyProof.Rows
section
variable {C : Gx} {E : XK} {F : Hp} {ι : List Addr} {st : Sto} {H H0 : Hp} {Q : VK} {x y : V} {dx dy : D}
abbrev RM := V → List V → Hp → VK → Prop
def Lm.info : Lm → Option (Str × String)
  | .append => some ("append", "list.append")
  | .extend => some ("extend", "list.extend")
  | .pop => some ("pop", "list.pop")
  | .popAt => some ("pop", "list.pop")
  | .index => some ("index", "list.index")
  | _ => none
def rLm (K : PySem.W.Frag) : Lm → RM
  | .append => rAppend
  | .extend => rExtend
  | .pop => rPop
  | .popAt => rPopAt
  | .index => rIndex K
  | _ => fun _ _ _ _ => False
theorem lmr {X : Cx} : ∀ {m : Lm} {n : Str} {id : String}, m.info = some (n, id) → MtR X id (rLm X.K m)
  | .append, _, _, h => by cases h; exact mt_append
  | .extend, _, _, h => by cases h; exact mt_extend
  | .pop, _, _, h => by cases h; exact mt_pop
  | .popAt, _, _, h => by cases h; exact mt_popAt
  | .index, _, _, h => by cases h; exact mt_index
theorem lm_slot : ∀ {m : Lm} {n : Str} {id : String}, m.info = some (n, id) → PySem.Slot "list" n id ∧ typeOf (.builtin id) = pure (.type "method_descriptor")
  | .append, _, _, h => by cases h; exact ⟨PySem.F.slot_list_append, PySem.F.type_list_append⟩
  | .extend, _, _, h => by cases h; exact ⟨PySem.F.slot_list_extend, PySem.F.type_list_extend⟩
  | .pop, _, _, h => by cases h; exact ⟨PySem.F.slot_list_pop, PySem.F.type_list_pop⟩
  | .popAt, _, _, h => by cases h; exact ⟨PySem.F.slot_list_pop, PySem.F.type_list_pop⟩
  | .index, _, _, h => by cases h; exact ⟨PySem.F.slot_list_index, PySem.F.type_list_index⟩
theorem findIdx_spec {α : Type} {p : α → Bool} : ∀ {l : List α} {j : Nat}, l.findIdx? p = some j → ∃ z, l[j]? = some z ∧ p z = true ∧ ∀ (m : Nat) (z' : α), m < j → l[m]? = some z' → p z' = false
  | [], _, h => by simp at h
  | a :: l, j, h => by
    rw [List.findIdx?_cons] at h
    cases e : p a with
    | true =>
      rw [e] at h
      cases h
      exact ⟨a, rfl, e, fun m z' hm => absurd hm (Nat.not_lt_zero _)⟩
    | false =>
      rw [e] at h
      obtain ⟨i, h1, rfl⟩ := Option.map_eq_some_iff.mp h
      obtain ⟨z, q1, q2, q3⟩ := findIdx_spec h1
      refine ⟨z, by simpa using q1, q2, fun m z' hm hz => ?_⟩
      cases m with
      | zero => simp at hz; rw [← hz]; exact e
      | succ m => exact q3 m z' (by omega) (by simpa using hz)
theorem lstF_rep (S : Sim C F ι st H) {v : V} {d : D} (r : Rep C F ι v d) {xs : List D} (h : lstF d = some xs) : ∃ a vs, v = .ref a ∧ F a = some (.lst vs) ∧ xs.length ≤ sizeLine ∧ RepL C F ι vs xs := by
  cases d <;> simp only [lstF] at h <;> cases h
  cases r with | lst h z r => exact ⟨_, _, rfl, h, z, r⟩
/-- the end of a write -/
theorem endW {d : D} {v : V} {i : Nat} {a : Addr} {c c' : Cell} {o : HO} (w : Wpr C E (.ok (.d d) (st.set i (.live c'))) F ι H (Kq C H0 Q)) (S : Sim C F ι st H) (hi : st[i]? = some (.live c)) (ha : ι[i]? = some a) (hc : CellAt C F ι (upd H a o) a c')
    (r : Rep C F ι v d) : Q v (upd H a o) := w F ι _ (Go.write ha) (S.write hi ha hc) v r
theorem evLm_ok {m : Lm} {ds : List D} {vs : List V} (S : Sim C F ι st H) (rx : Rep C F ι x dx) (r : RepL C F ι vs ds)
    (w : Wpr C E (evLm m dx ds st) F ι H (Kq C H0 Q)) : rLm C.K m x vs H Q := by
  unfold evLm at w
  split at w
  · obtain ⟨v, rfl, r1⟩ := rep1 r
    split at w
    · rename_i k y xs e
      cases rx with
      | ref ha =>
        obtain ⟨fa, ws, h1, z, rl⟩ := S.cell _ _ _ e ha
        split at w
        · rename_i hl
          refine ⟨_, ws, v, rfl, rfl, h1, by rw [rl.length, ← lim_eq]; exact hl, endW w S e ha ⟨_, upd_same, ?_, rl.append (.cons r1 .nil)⟩ .non⟩
          rw [List.length_append, ← lim_eq]
          simp only [List.length_cons, List.length_nil]; omega
        · exact w.elim
    · exact w.elim
  · obtain ⟨v, rfl, r1⟩ := rep1 r
    split at w
    · rename_i k y xs ys e1 e2
      cases rx with
      | ref ha =>
        obtain ⟨fa, ws, h1, z, rl⟩ := S.cell _ _ _ e1 ha
        obtain ⟨b, us, rfl, h2, z2, rl2⟩ := lstF_rep S r1 e2
        split at w
        · rename_i hl
          refine ⟨_, b, ws, us, rfl, rfl, h1, S.fro _ _ h2, by rw [rl.length, rl2.length, ← lim_eq]; exact hl, endW w S e1 ha ⟨_, upd_same, ?_, rl.append rl2⟩ .non⟩
          rw [List.length_append, ← lim_eq]
          exact hl
        · exact w.elim
    · exact w.elim
  · cases r
    split at w
    · rename_i k xs e
      cases rx with
      | ref ha =>
        obtain ⟨fa, ws, h1, z, rl⟩ := S.cell _ _ _ e ha
        split at w
        · rename_i y hy
          obtain ⟨u, g1, g2⟩ := rl.get hy
          refine ⟨_, ws, u, rfl, rfl, h1, by rw [rl.length]; exact g1, endW w S e ha ⟨_, upd_same, ?_, rl.dropLast⟩ (S.res g2)⟩
          rw [List.length_dropLast]; omega
        · exact w.elim
    · exact w.elim
  · rename_i i
    obtain ⟨v, rfl, r1⟩ := rep1 r
    split at w
    · rename_i xs e
      cases rx with
      | ref ha =>
        obtain ⟨fa, ws, h1, z, rl⟩ := S.cell _ _ _ e ha
        split at w
        · rename_i j hj
          split at w
          · rename_i y hy
            split at w
            · rename_i hi
              obtain ⟨u, g1, g2⟩ := rl.get hy
              refine ⟨_, ws, i, j, u, rfl, by rw [r1.is_int], h1, hi.1, hi.2, by rw [rl.length]; exact hj, g1, endW w S e ha ⟨_, upd_same, ?_, rl.eraseIdx j⟩ (S.res g2)⟩
              exact Nat.le_trans (len_erase xs j) z
            · exact w.elim
          · exact w.elim
        · exact w.elim
    · exact w.elim
  · obtain ⟨v, rfl, r1⟩ := rep1 r
    split at w
    · rename_i vs' v' e1 e2
      obtain ⟨xs, g1, g2⟩ := Option.bind_eq_some_iff.mp e1
      obtain ⟨a, ws, rfl, ha, z, rl⟩ := S.lst rx g1
      obtain ⟨q1, q2⟩ := flats_rep rl g2
      subst q1
      have ev := flat_rep r1 e2
      subst ev
      split at w
      · rename_i hf
        split at w
        · rename_i j hj
          obtain ⟨z1, p1, p2, p3⟩ := findIdx_spec hj
          exact ⟨a, ws, v, j, z1, rfl, rfl, SqL.of ha, hf, q2, p1, p2, p3, endD w S (.int _)⟩
        · exact w.elim
      · exact w.elim
    · exact w.elim
  · exact w.elim
theorem ty_list (S : Sim C F ι st H) (rx : Rep C F ι x dx) {xs : List D} (h : lstOf st dx = some xs) : tyV C.K "list" x H := by
  obtain ⟨a, vs, rfl, ha, _⟩ := S.lst rx h
  exact .inl ⟨rfl, vs, SqL.of ha⟩
/-! ### kinds -/
/-- what the head's look tells of the classes -/
structure ClsOk (C : Gx) (c : Nat) : Prop where
  cls : Cls C.K (C.cl c).adr
  nd : (C.cl c).fl.Nodup
  few : (C.cl c).fl.length < 900
  noat : ∀ f ∈ (C.cl c).fl, NoAttr C.K (C.cl c).adr f
  oc : PySem.W.findIn C.K (.ref (C.cl c).adr) "__class__" = some (some (.builtin "object.__class__"))
  og : PySem.W.specialIn C.K (.builtin "object.__class__") "__get__" = some (some (.builtin "getset_descriptor.__get__"))
  ot : PySem.W.takesIn C.K (.builtin "object.__class__") = some true
  om : PySem.W.mroIn C.K (C.cl c).adr (.type "object") = some true
  kb : ∀ T ∈ (["int", "bool", "str", "list", "tuple", "dict"] : List String), PySem.W.kitOne C.K (.ref (C.cl c).adr) (.type T) = some false
  ck : ∀ T ∈ (["NoneType", "int", "bool", "str", "list", "tuple", "dict"] : List String), PySem.W.kitOne C.K (.type T) (.ref (C.cl c).adr) = some false
/-- a datum's type -/
def tyD (C : Gx) (st : Sto) : D → Option Value
  | .non => some (.type "NoneType")
  | .bl _ => some (.type "bool")
  | .int _ => some (.type "int")
  | .str _ => some (.type "str")
  | .lst _ => some (.type "list")
  | .tup _ => some (.type "tuple")
  | .dK .. => some (.type "dict")
  | .dT .. => some (.type "dict")
  | .obj c _ => some (.ref (C.cl c).adr)
  | .exc .. => none
  | .ref j => match cellOf st j with
    | some (.lst _) => some (.type "list")
    | some (.dK ..) => some (.type "dict")
    | some (.dT ..) => some (.type "dict")
    | some (.obj c _) => some (.ref (C.cl c).adr)
    | none => none
  | .scr _ => none
theorem ty_rd {K : PySem.W.Frag} {H : Hp} {a : Addr} {kvs : List (Key × V)} (h : Rd H a (.dK kvs)) : TyX K H (.ref a) (.type "dict") := by
  rcases h with h | ⟨o, h⟩
  · exact .base (.dK h)
  · exact .fDict h
theorem tyD_ok (S : Sim C F ι st H) (rx : Rep C F ι x dx) (hc : ∀ c, C.con c = true → ClsOk C c) {t : Value} (h : tyD C st dx = some t) : TyX C.K H x t := by
  have ob : ∀ {a dx : Addr} {c : Nat} {fs : List (Str × V)}, H a = some (.ins (C.cl c).adr dx fs) → C.con c = true → TyX C.K H (.ref a) (.ref (C.cl c).adr) :=
    fun {a dx c fs} h k => .base (.ins h (hc c k).cls (hc c k).oc (hc c k).og (hc c k).ot (hc c k).om)
  cases rx with
  | non => cases h; exact .base .non
  | bl b => cases h; exact .base (.bl b)
  | int i => cases h; exact .base (.int i)
  | str z => cases h; exact .base (.str z)
  | lst e z r => cases h; exact .base (.lst (S.fro _ _ e))
  | tup e z r => cases h; exact .base (.tup (S.fro _ _ e))
  | dK e hk hv z r => cases h; exact ty_rd (rd_mono S.fro e)
  | dT e hk hv z r => cases h; exact .base (.dT (S.fro _ _ e))
  | obj e hk hv r => cases h; exact ob (S.fro _ _ e) hk.2
  | exc e => cases h
  | scr e => cases h
  | ref ha =>
    simp only [tyD] at h
    split at h
    · rename_i e; cases h; obtain ⟨vs, q, _⟩ := S.cellOf ha e; exact .base (.lst q)
    · rename_i e; cases h; obtain ⟨vs, q, _⟩ := S.cellOf ha e; exact ty_rd q
    · rename_i e; cases h; obtain ⟨vs, q, _⟩ := S.cellOf ha e; exact .base (.dT q)
    · rename_i e; cases h; obtain ⟨_, _, q, k, _⟩ := S.cellOf ha e; exact ob q k.2
    · cases h
def Kd.ty : Kd → Option String
  | .int => some "int" | .bool => some "bool" | .str => some "str" | .list => some "list" | .tuple => some "tuple" | .dict => some "dict" | _ => none
/-- the classes that an isinstance names -/
def Kd.cls? (C : Gx) : Kd → List Value
  | .seq => [.type "list", .type "tuple"]
  | .cls c => [.ref (C.cl c).adr]
  | k => match k.ty with
    | some T => [.type T]
    | none => []
end
end Fd

set_option Elab.async false
set_option linter.all false
namespace Fd
open PySem L2 PyProof.Rows
variable {φ : Type}
def visB (sc : Scope) (x : Str) : Bool := (match sc.names.lookup x with | some .local => true | some .cell => true | some .free => true | _ => false) && !(x == ("__debug__" : Str)) && !(x == ("__classdict__" : Str))
def glB (sc : Scope) (x : Str) : Bool := (match sc.names.lookup x with | some .globalImplicit => true | _ => false) && !(x == ("__debug__" : Str)) && decide (x ≠ "__name__")
def locB (sc : Scope) (x : Str) : Bool := match sc.names.lookup x with | some .local => true | some .cell => true | _ => false
def nmB (N : List Str) (i : Nat) (x : Str) : Bool := decide (N[i]? = some x)
def starB : Expr → Bool
  | .Starred .. => false
  | _ => true
def setB : Expr → Bool
  | .Set .. => false
  | _ => true
def sliceB : Expr → Bool
  | .Slice .. => false
  | _ => true
/-- no call: for an attribute's base -/
def baseB : Expr → Bool
  | .Call (.Name ..) [] [] _ => false
  | _ => true
def bopB : BOp → Operator → Bool
  | .add, .Add => true | .sub, .Sub => true | .mul, .Mult => true | .mod, .Mod => true | .fdiv, .FloorDiv => true | .pow, .Pow => true
  | _, _ => false
def copB : COp → CmpOp → Bool
  | .eq, .Eq => true | .ne, .NotEq => true | .lt, .Lt => true | .le, .LtE => true | .gt, .Gt => true | .ge, .GtE => true | .isin, .In => true | .notin, .NotIn => true
  | _, _ => false
def trueB : IE φ → Bool
  | .bl true => true
  | _ => false
end Fd

set_option Elab.async false
set_option linter.all false
namespace Fd
open PySem L2 PyProof.Rows
variable {φ : Type}
/-! ### the def's text -/
def elB (L : Lk φ) (sc : Scope) (x : Str) (t : Nat) (e : Expr) : Bool := match e with
  | .Call (.Name f _) [.Name z _, .Name y _] [] _ => decide (f = "isinstance") && glB sc f && decide (z = x) && xcB L t && decide (L.cnm t = y) && glB sc y
  | _ => false
def elsB (L : Lk φ) (sc : Scope) (x : Str) : List Nat → List Expr → Bool
  | [], [] => true
  | t :: ts, e :: es => elB L sc x t e && elsB L sc x ts es
  | _, _ => false
def kinE (N : List Str) (sc : Scope) (n : Nat) (body : List Stmt) : Bool := match body with
  | [.Return (some (.ListComp (.Name z0 _) [⟨.Name z1 _, .Call (.Name r _) [.Constant (.int k) _ _] [] _, [.Subscript (.Name y _) (.Name z2 _) _], 0⟩] scope _)) _] =>
    decide (z1 = z0) && decide (z2 = z0) && nmB N 1 y && nmB N 2 z0 && decide (r = "range") && glB sc r && decide (k = n) && blkC N sc scope [(z0, 2)] && visB (relS scope sc) y && visB (relS scope sc) z0 && locB (relS scope sc) z0 &&
      (scope.names.lookup z0 == some .cell || (match (relS scope sc).names.lookup z0 with | some .local => true | _ => false))
  | _ => false
def kinR (L : Lk φ) (N : List Str) (sc : Scope) (n : Nat) (x : Str) : List (List Nat) → List Stmt → Bool
  | [], body => kinE N sc n body
  | t :: tr, body => match body with
    | .Expr (.Call (.Attribute (.Name y _) m ap) [.List es _] [] cp) _ :: rest => nmB N 1 y && visB sc y && decide (m = "extend") && (ap.endLine == cp.line) && elsB L sc x t es && kinR L N sc n x tr rest
    | _ => false
def kinB (L : Lk φ) (N : List Str) (sc : Scope) (ts : List (List Nat)) (body : List Stmt) : Bool := match N, ts, body with
  | [x, _, _], t :: tr, .Assign [.Name y p] (.List es q) _ :: rest => visB sc x && nmB N 1 y && locB sc y && elsB L sc x t es && decide ((t :: tr).flatten.length ≤ 1000) && kinR L N sc (t :: tr).flatten.length x tr rest
  | _, _, _ => false
/-- a def that tells an error's kinds: its text, where it stands -/
structure KinD (C : Gx) (L : Lk φ) (f : Addr) (fd : FuncData) (ts : List (List Nat)) : Prop where
  ex : ∃ (name qual : Str) (params : Arguments) (body : List Stmt) (scope : Scope) (dV kV doc pm cdv ct oc : Value) (an od : Option Addr) (osl : Array (Option Value)) (N ps : List Str), fd = PySem.W.fnOf name qual params body scope dV kV doc pm an cdv ct ∧
    C.K.lookup f = some ⟨oc, od, .func (PySem.W.fnOf name qual params body scope dV kV doc pm an cdv ct), osl⟩ ∧ PySem.W.codeIn C.K cdv qual = true ∧ FnScope N ps scope ∧ Binds C.K fd ps [] ∧ ps.length = 1 ∧ N.length = 3 ∧ kinB L N scope ts body = true
end Fd

set_option Elab.async false
set_option linter.all false
set_option maxHeartbeats 1000000
namespace Fd
open PySem L2
variable {φ : Type}
def spN (C : Gx) (T : φ → Fn φ) (wf n : Nat) (f : φ) : Sp := fun vs H Q E => vs.length = (T f).np ∧ ∃ F ι st ds, Sim C F ι st H ∧ RepL C F ι vs ds ∧ Wpr C E (callN T wf n f ds st) F ι H (Kq C H Q)
/-- what stands behind a def's name at fuel n -/
structure FnAt (C : Gx) (T : φ → Fn φ) (wf : Nat) (P : Program) (w : World) (mg : Str → Option Value) (base : Heap) (n : Nat) (f : φ) (a : Addr) : Prop where
  ex : ∃ fd ps, Binds C.K fd ps [] ∧ FnOk P w C.K mg base (L2.CX P w) (2 * n + 1) a fd ps (spN C T wf n f)

/-- the exception class at A, its __init__(self, f): self.f = f -/
structure XI (K : PySem.W.Frag) (A : Addr) (f : Str) : Prop where
  ex : ∃ (fI : Addr) (fd : FuncData) (x qual s : Str) (a0 a1 : Arg) (p1 p2 p3 pos : Pos) (scope : Scope) (kws : List (Str × V)), XiOk K A fI f ∧ FunD K x qual ⟨[], [a0, a1], none, [], [], none, []⟩ [.Assign [.Attribute (.Name s p1) f p2] (.Name f p3) pos] scope [] kws fI fd ∧
    FnScope [s, f] [s, f] scope ∧ a0.arg = s ∧ a1.arg = f ∧ ((s == ("__debug__" : Str)) = false ∧ (s == ("__classdict__" : Str)) = false) ∧ (f == ("__debug__" : Str)) = false ∧ (f == ("__classdict__" : Str)) = false


def xmB (L : Lk φ) (c : Nat) : Option Nat → Bool
  | none => true
  | some c' => decide (c' ∈ L.xmro c)
def xval (C : Gx) : Option Nat → Value
  | none => .type "ValueError"
  | some c => .ref (C.cl c).adr
/-- errors of Python's own that none of ours is one of -/
def otherX : List String := ["KeyError", "IndexError", "TypeError"]
/-- what the head's look tells -/
structure Tx (C : Gx) (L : Lk φ) (mg : Str → Option Value) (ad : φ → Addr) : Prop where
  flE : ∀ c, L.fl c = (C.cl c).fl
  gl : ∀ f x, L.on f = true → L.fnm f = (x, none) → mg x = some (.ref (ad f)) ∧ PySem.W.keepIn C.K (.ref (ad f)) = true
  me : ∀ f c m, L.on f = true → L.con c = true → L.fnm f = (L.cnm c, some m) → m ≠ "__init__" → Meth C.K (C.cl c).adr m (ad f)
  mak : ∀ f c, L.on f = true → L.con c = true → L.fnm f = (L.cnm c, some ("__init__" : Str)) → Mk C.K (C.cl c).adr (ad f)
  cg : ∀ c, L.con c = true → mg (L.cnm c) = some (.ref (C.cl c).adr)
  co : ∀ c, L.con c = true → C.con c = true
  cl : ∀ c, C.con c = true → ClsOk C c
  bl : ∀ x ∈ bnames, mg x = none
  xg : ∀ c, xcB L c = true → mg (L.cnm c) = some (.ref (C.cl c).adr) ∧ XcOk C.K (C.cl c).adr
  xi : ∀ c, L.xin c = true → ∃ f, L.fl c = [f] ∧ XI C.K (C.cl c).adr f
  xz : ∀ c, L.x0 c = true → L.fl c = [] ∧ PySem.W.excIn C.K (C.cl c).adr veB "ValueError.__new__" = true
  xk : ∀ c t, xcB L c = true → (∀ c', t = some c' → xcB L c' = true) → PySem.W.kitOne C.K (.ref (C.cl c).adr) (xval C t) = some (xmB L c t)
  xm : ∀ c c', xcB L c = true → xcB L c' = true → PySem.W.mroIn C.K (C.cl c).adr (.ref (C.cl c').adr) = some (decide (c' ∈ L.xmro c))
  xn : ∀ c s, xcB L c = true → s ∈ otherX → PySem.W.kitOne C.K (.ref (C.cl c).adr) (.type s) = some false
  kn : ∀ g ts, L.kin = some (g, ts) → ∃ f fd, mg g = some (.ref f) ∧ PySem.W.keepIn C.K (.ref f) = true ∧ KinD C L f fd ts
structure XOk (C : Gx) (L : Lk φ) (T : φ → Fn φ) (wf : Nat) (ad : φ → Addr) (n : Nat) (N : List Str) (sc : Scope) (E : XK) (X : Cx) : Prop where
  k : X.K = C.K
  nms : X.N = N
  nd : N.Nodup
  scp : X.env.scope = sc
  calm : X.calm = true
  room : Room (2 * n + 2) X.A
  tk : Takes X (fun cls d _ H => E cls d H)
  po : PassesOwn (model X.prog X.w) X.A X.env X.xe
  tx : Tx C L X.mg ad
  fn : ∀ f, L.on f = true → FnAt C T wf X.prog X.w X.mg X.base n f (ad f)
section
variable {C : Gx} {L : Lk φ} {T : φ → Fn φ} {wf : Nat} {ad : φ → Addr} {n : Nat} {N : List Str} {sc : Scope} {E : XK} {X : Cx}
theorem XOk.u (x : XOk C L T wf ad n N sc E X) : X.A.units + 64 < cLine := x.room.units
theorem star_ok {e : Expr} (h : starB e = true) (es : List Expr) (env : Env) : starEach (e :: es) env = (false, eval e env) :: starEach es env := by
  cases e <;> first | rfl | cases h
theorem nil_star (env : Env) : starEach [] env = [] := rfl
theorem vis_ok {x : Str} (h : visB sc x = true) : Vis sc x ∧ (x == ("__debug__" : Str)) = false ∧ (x == ("__classdict__" : Str)) = false := by
  unfold visB at h
  simp only [Bool.and_eq_true, Bool.not_eq_true'] at h
  obtain ⟨⟨h1, h2⟩, h3⟩ := h
  refine ⟨?_, h2, h3⟩
  unfold Vis
  split at h1
  · rename_i e; exact .inl e
  · rename_i e; exact .inr (.inl e)
  · rename_i e; exact .inr (.inr e)
  · cases h1
theorem gl_ok (hs : X.env.scope = sc) {x : Str} (h : glB sc x = true) : Gl X x ∧ (x == ("__debug__" : Str)) = false ∧ x ≠ "__name__" := by
  unfold glB at h
  simp only [Bool.and_eq_true, Bool.not_eq_true', decide_eq_true_eq] at h
  obtain ⟨⟨h1, h2⟩, h3⟩ := h
  refine ⟨?_, h2, h3⟩
  subst hs
  show X.env.scope.names.lookup x = some .globalImplicit
  split at h1
  · rename_i e; exact e
  · cases h1
theorem loc_ok {x : Str} (h : locB sc x = true) : Loc sc x := by
  unfold locB at h
  split at h
  · rename_i e; exact .inl e
  · rename_i e; exact .inr e
  · cases h
/-- the runs one behind another -/
theorem tE_of {cl : Cll φ} {ir : IE φ} {σ : St} {H : Hp} {Q : VK} : tE C cl E ir σ H Q ↔ ∃ F ι st ρ, Sim C F ι st H ∧ EnvR C F ι ρ σ ∧ Wpr C E (evE cl ir ρ st) F ι H (Kq C H Q) := Iff.rfl
/-! ### leaves -/
theorem p_var (x : XOk C L T wf ad n N sc E X) {cl : Cll φ} {i : Nat} {y : Str} {pos : Pos} (h : nmB N i y = true) (hv : visB sc y = true) : PE X (.Name y pos) (tE C cl E (.var i)) := by
  obtain ⟨v1, v2, v3⟩ := vis_ok hv
  refine PE.imp (pe_var (i := i) (by rw [x.nms]; exact of_decide_eq_true h) (by rw [x.scp]; exact v1) v2 v3) fun σ H Q ⟨F, ι, st, ρ, S, R, w⟩ => ?_
  simp only [evE] at w
  split at w
  · rename_i d e
    obtain ⟨v, h1, h2⟩ := R.2 i d e
    exact ⟨v, h1, endD w S (S.res h2)⟩
  · exact w.elim
theorem p_snap (x : XOk C L T wf ad n N sc E X) {cl : Cll φ} {i : Nat} {y : Str} {pos : Pos} (h : nmB N i y = true) (hv : visB sc y = true) : PE X (.Name y pos) (tE C cl E (.snap i)) := by
  obtain ⟨v1, v2, v3⟩ := vis_ok hv
  refine PE.imp (pe_var (i := i) (by rw [x.nms]; exact of_decide_eq_true h) (by rw [x.scp]; exact v1) v2 v3) fun σ H Q ⟨F, ι, st, ρ, S, R, w⟩ => ?_
  simp only [evE] at w
  split at w
  · rename_i d e
    obtain ⟨v, h1, h2⟩ := R.2 i d e
    obtain ⟨F2, S2, g2, r2⟩ := S.stillD h2
    exact ⟨v, h1, w F2 ι H g2 S2 v r2⟩
  · exact w.elim
theorem p_con {cl : Cll φ} {ir : IE φ} {e : Expr} {v : V} {d : D} (p : PE X e (tC v)) (he : ∀ ρ st, evE cl ir ρ st = .ok (.d d) st) (r : ∀ F ι, Rep C F ι v d) : PE X e (tE C cl E ir) := by
  refine PE.imp p fun σ H Q ⟨F, ι, st, ρ, S, R, w⟩ => ?_
  rw [he] at w
  exact endD w S (r F ι)
/-! ### one, two operands -/
theorem bind1 {cl : Cll φ} {a : IE φ} {α : Type} {k : D → Sto → Rs Wv} {F : Hp} {ι : List Addr} {st : Sto} {ρ : Rho} {σ : St} {H : Hp} {Q : VK} {R : V → Hp → Prop} (S : Sim C F ι st H) (ER : EnvR C F ι ρ σ)
    (w : Wpr C E ((vD (evE cl a ρ st)).bind k) F ι H (Kq C H Q))
    (h : ∀ v d F1 ι1 st1 H1, Go F ι H F1 ι1 H1 → Sim C F1 ι1 st1 H1 → EnvR C F1 ι1 ρ σ → Rep C F1 ι1 v d → (∀ a, H1 a = none → H a = none) → Wpr C E (k d st1) F1 ι1 H1 (Kq C H Q) → R v H1) : tE C cl E a σ H R :=
  eD S ER (w.bind.imp fun d F1 ι1 st1 H1 g1 S1 w1 v r => h v d F1 ι1 st1 H1 g1 S1 (ER.mono g1.x) r (fun a ha => g1.dom S S1 ha) w1)
/-- .. with the heap of the whole's beginning kept apart -/
theorem bindK {cl : Cll φ} {a : IE φ} {k : D → Sto → Rs Wv} {F : Hp} {ι : List Addr} {st : Sto} {ρ : Rho} {σ : St} {H H0 : Hp} {Q : VK} {R : V → Hp → Prop} (S : Sim C F ι st H) (ER : EnvR C F ι ρ σ) (dom : ∀ a, H a = none → H0 a = none)
    (w : Wpr C E ((vD (evE cl a ρ st)).bind k) F ι H (Kq C H0 Q))
    (h : ∀ v d F1 ι1 st1 H1, Go F ι H F1 ι1 H1 → Sim C F1 ι1 st1 H1 → EnvR C F1 ι1 ρ σ → Rep C F1 ι1 v d → (∀ a, H1 a = none → H0 a = none) → Wpr C E (k d st1) F1 ι1 H1 (Kq C H0 Q) → R v H1) : tE C cl E a σ H R :=
  eD S ER (w.bind.imp fun d F1 ι1 st1 H1 g1 S1 w1 v r => h v d F1 ι1 st1 H1 g1 S1 (ER.mono g1.x) r (fun a ha => dom a (g1.dom S S1 ha)) w1)
theorem p_bin (x : XOk C L T wf ad n N sc E X) {cl : Cll φ} {op : BOp} {o : Operator} {a b : IE φ} {ea eb : Expr} {pos : Pos} (ho : bopB op o = true) (ha : PE X ea (tE C cl E a)) (hb : PE X eb (tE C cl E b)) : PE X (.BinOp ea o eb pos) (tE C cl E (.bin op a b)) := by
  have e : o = op.op := by cases op <;> cases o <;> first | rfl | cases ho
  subst e
  refine PE.imp (pe_op (opr op) ha hb) fun σ H Q ⟨F, ι, st, ρ, S, R, w⟩ => ?_
  simp only [evE] at w
  refine bindK S R (fun _ h => h) w fun v d F1 ι1 st1 H1 g1 S1 R1 r1 dom1 w1 => ?_
  refine bindK S1 R1 dom1 w1 fun v2 d2 F2 ι2 st2 H2 g2 S2 R2 r2 dom2 w2 => ?_
  exact opB_ok S2 (r1.mono g2.x) r2 dom2 w2
theorem ofB_w {r : Rs Bool} {F : Hp} {ι : List Addr} {H H0 : Hp} {Q : VK} (w : Wpr C E (ofB r) F ι H (Kq C H0 Q)) : Wpr C E r F ι H fun b _ _ _ H' => Q (.bl b) H' :=
  (Wpr.map w).imp fun b F' ι' st' H' g S k => k _ (.bl b)
theorem tT_tE {cl : Cll φ} {ir : IE φ} {σ : St} {H : Hp} {Q : Bool → Hp → Prop} (h : tT C cl E ir σ H Q) : tE C cl E ir σ H fun x H1 => ∃ k, x = .bl k ∧ Q k H1 := by
  obtain ⟨F, ι, st, ρ, S, R, w⟩ := h
  exact eD S R (w.imp fun d F' ι' st' H' g S' ⟨b, e, q⟩ v r => by subst e; exact ⟨b, r.is_bl, q⟩)
theorem i_cmp {cl : Cll φ} {op : COp} {a b : IE φ} {σ : St} {H : Hp} {Q : VK} (h : tE C cl E (.cmp op a b) σ H Q) : tOp (rC C.K op) (tE C cl E a) (tE C cl E b) σ H Q := by
  obtain ⟨F, ι, st, ρ, S, R, w⟩ := h
  simp only [evE] at w
  refine bindK S R (fun _ h => h) w fun v d F1 ι1 st1 H1 g1 S1 R1 r1 dom1 w1 => ?_
  refine bindK S1 R1 dom1 w1 fun v2 d2 F2 ι2 st2 H2 g2 S2 R2 r2 dom2 w2 => ?_
  exact opC_ok S2 (r1.mono g2.x) r2 (ofB_w w2)
theorem cop_eq {op : COp} {o : CmpOp} (ho : copB op o = true) : o = op.op := by cases op <;> cases o <;> first | rfl | cases ho
theorem set_ok {eb : Expr} (op : CmpOp) (hs : setB eb = true) : behindInMarks op eb = false := by cases eb <;> first | rfl | cases hs
theorem opc' (x : XOk C L T wf ad n N sc E X) (op : COp) : OpR X (compareOp op.op) (rC C.K op) := by
  have := opc x.u op
  rw [x.k] at this
  exact this
theorem p_cmp (x : XOk C L T wf ad n N sc E X) {cl : Cll φ} {op : COp} {o : CmpOp} {a b : IE φ} {ea eb : Expr} {pos : Pos} (ho : copB op o = true) (hs : setB eb = true) (ha : PE X ea (tE C cl E a)) (hb : PE X eb (tE C cl E b)) :
    PE X (.Compare ea [o] [eb] pos) (tE C cl E (.cmp op a b)) := by
  rw [cop_eq ho]
  exact PE.imp (pe_cmpR (opc' x op) ha hb (set_ok _ hs)) fun σ H Q h => i_cmp h
theorem t_cmp (x : XOk C L T wf ad n N sc E X) {cl : Cll φ} {op : COp} {o : CmpOp} {a b : IE φ} {ea eb : Expr} {pos : Pos} (ho : copB op o = true) (hs : setB eb = true) (ha : PE X ea (tE C cl E a)) (hb : PE X eb (tE C cl E b)) :
    PT X (.Compare ea [o] [eb] pos) (tT C cl E (.cmp op a b)) := by
  rw [cop_eq ho]
  exact PT.imp (pt_cmpR (opc' x op) ha hb (set_ok _ hs)) fun σ H Q h => i_cmp (tT_tE h)
theorem i_chain {cl : Cll φ} {op op' : COp} {a b c : IE φ} {σ : St} {H : Hp} {Q : VK} (h : tE C cl E (.chain op op' a b c) σ H Q) : tChain (rC C.K op) (rC C.K op') (tE C cl E a) (tE C cl E b) (tE C cl E c) σ H Q := by
  obtain ⟨F, ι, st, ρ, S, R, w⟩ := h
  simp only [evE] at w
  refine bindK S R (fun _ h => h) w fun v d F1 ι1 st1 H1 g1 S1 R1 r1 dom1 w1 => ?_
  refine bindK S1 R1 dom1 w1 fun v2 d2 F2 ι2 st2 H2 g2 S2 R2 r2 dom2 w2 => ?_
  refine opC_ok S2 (r1.mono g2.x) r2 (w2.bind.imp fun k F3 ι3 st3 H3 g3 S3 w3 => ?_)
  refine ⟨k, rfl, ?_⟩
  cases k with
  | true =>
    rw [if_pos rfl] at w3 ⊢
    refine bindK S3 (R2.mono g3.x) (fun a ha => dom2 a (g3.dom S2 S3 ha)) w3 fun v4 d4 F4 ι4 st4 H4 g4 S4 R4 r4 dom4 w4 => ?_
    exact opC_ok S4 ((r2.mono g3.x).mono g4.x) r4 (ofB_w w4)
  | false =>
    rw [if_neg (by decide)] at w3 ⊢
    exact endD w3 S3 (.bl false)
theorem p_chain (x : XOk C L T wf ad n N sc E X) {cl : Cll φ} {op op' : COp} {o o' : CmpOp} {a b c : IE φ} {ea eb ec : Expr} {pos : Pos} (ho : copB op o = true) (ho' : copB op' o' = true) (hs : setB eb = true) (hs' : setB ec = true)
    (ha : PE X ea (tE C cl E a)) (hb : PE X eb (tE C cl E b)) (hc : PE X ec (tE C cl E c)) : PE X (.Compare ea [o, o'] [eb, ec] pos) (tE C cl E (.chain op op' a b c)) := by
  rw [cop_eq ho, cop_eq ho']
  exact PE.imp (pe_chain (opc' x op) (opc' x op') ha hb hc (set_ok _ hs')) fun σ H Q h => i_chain h
theorem t_chain (x : XOk C L T wf ad n N sc E X) {cl : Cll φ} {op op' : COp} {o o' : CmpOp} {a b c : IE φ} {ea eb ec : Expr} {pos : Pos} (ho : copB op o = true) (ho' : copB op' o' = true) (hs : setB eb = true) (hs' : setB ec = true)
    (ha : PE X ea (tE C cl E a)) (hb : PE X eb (tE C cl E b)) (hc : PE X ec (tE C cl E c)) : PT X (.Compare ea [o, o'] [eb, ec] pos) (tT C cl E (.chain op op' a b c)) := by
  rw [cop_eq ho, cop_eq ho']
  exact PT.imp (pt_chain (opc' x op) (opc' x op') ha hb hc (set_ok _ hs')) fun σ H Q h => i_chain (tT_tE h)
theorem p_neg {cl : Cll φ} {a : IE φ} {ea : Expr} {pos : Pos} (ha : PE X ea (tE C cl E a)) : PE X (.UnaryOp .USub ea pos) (tE C cl E (.neg a)) := by
  refine PE.imp (pe_un un_neg ha) fun σ H Q ⟨F, ι, st, ρ, S, R, w⟩ => ?_
  simp only [evE] at w
  refine bindK S R (fun _ h => h) w fun v d F1 ι1 st1 H1 g1 S1 R1 r1 dom1 w1 => ?_
  split at w1
  · exact ⟨_, r1.is_int, endD w1 S1 (.int _)⟩
  · exact w1.elim
theorem non_iff {F : Hp} {ι : List Addr} {v : V} {d : D} (r : Rep C F ι v d) : decide (v = .non) = isNonB d := by
  cases r <;> rfl
theorem i_isN {cl : Cll φ} {a : IE φ} {σ : St} {H : Hp} {Q : VK} (h : tE C cl E (.isN a) σ H Q) : tIsN (tE C cl E a) σ H Q := by
  obtain ⟨F, ι, st, ρ, S, R, w⟩ := h
  simp only [evE] at w
  refine bindK S R (fun _ h => h) w fun v d F1 ι1 st1 H1 g1 S1 R1 r1 dom1 w1 => ?_
  rw [non_iff r1]
  exact endD w1 S1 (.bl _)
theorem i_notN {cl : Cll φ} {a : IE φ} {σ : St} {H : Hp} {Q : VK} (h : tE C cl E (.notN a) σ H Q) : tNotN (tE C cl E a) σ H Q := by
  obtain ⟨F, ι, st, ρ, S, R, w⟩ := h
  simp only [evE] at w
  refine bindK S R (fun _ h => h) w fun v d F1 ι1 st1 H1 g1 S1 R1 r1 dom1 w1 => ?_
  rw [non_iff r1]
  exact endD w1 S1 (.bl _)
theorem p_isN {cl : Cll φ} {a : IE φ} {ea : Expr} {pos p2 : Pos} {k : Nat} (ha : PE X ea (tE C cl E a)) : PE X (.Compare ea [.Is] [.Constant .none k p2] pos) (tE C cl E (.isN a)) := PE.imp (pe_cmp (pc_isN ha) rfl) fun _ _ _ h => i_isN h
theorem t_isN {cl : Cll φ} {a : IE φ} {ea : Expr} {pos p2 : Pos} {k : Nat} (ha : PE X ea (tE C cl E a)) : PT X (.Compare ea [.Is] [.Constant .none k p2] pos) (tT C cl E (.isN a)) := PT.imp (pt_cmp (pc_isN ha) rfl) fun _ _ _ h => i_isN (tT_tE h)
theorem p_notN {cl : Cll φ} {a : IE φ} {ea : Expr} {pos p2 : Pos} {k : Nat} (ha : PE X ea (tE C cl E a)) : PE X (.Compare ea [.IsNot] [.Constant .none k p2] pos) (tE C cl E (.notN a)) := PE.imp (pe_cmp (pc_notN ha) rfl) fun _ _ _ h => i_notN h
theorem t_notN {cl : Cll φ} {a : IE φ} {ea : Expr} {pos p2 : Pos} {k : Nat} (ha : PE X ea (tE C cl E a)) : PT X (.Compare ea [.IsNot] [.Constant .none k p2] pos) (tT C cl E (.notN a)) := PT.imp (pt_cmp (pc_notN ha) rfl) fun _ _ _ h => i_notN (tT_tE h)
/-! ### and, or, not, if .. else -/
theorem p_and {cl : Cll φ} {a b : IE φ} {ea eb : Expr} {rest : List Expr} {pos : Pos} (ha : PE X ea (tE C cl E a)) (hb : PE X (.BoolOp .And (eb :: rest) pos) (tE C cl E b)) : PE X (.BoolOp .And (ea :: eb :: rest) pos) (tE C cl E (.and a b)) := by
  refine PE.imp (pe_and ha hb) fun σ H Q ⟨F, ι, st, ρ, S, R, w⟩ => ?_
  simp only [evE] at w
  refine bindK S R (fun _ h => h) w fun v d F1 ι1 st1 H1 g1 S1 R1 r1 dom1 w1 => ?_
  split at w1
  · exact ⟨true, r1.is_bl, ⟨F1, ι1, st1, ρ, S1, R1, w1.imp fun w' F2 ι2 st2 H2 g2 S2 k v rw' => k v (by
      cases w' with
      | d x => exact rw'
      | fr c => obtain ⟨a, h1, h2, h3⟩ := rw'; exact ⟨a, h1, dom1 a h2, h3⟩)⟩⟩
  · exact ⟨false, r1.is_bl, endD w1 S1 (.bl false)⟩
  · exact w1.elim
/-- a run within, seen from the whole's beginning -/
theorem tE_in {cl : Cll φ} {b : IE φ} {F1 : Hp} {ι1 : List Addr} {st1 : Sto} {ρ : Rho} {σ : St} {H0 H1 : Hp} {Q : VK} (S1 : Sim C F1 ι1 st1 H1) (R1 : EnvR C F1 ι1 ρ σ) (dom : ∀ a, H1 a = none → H0 a = none)
    (w : Wpr C E (evE cl b ρ st1) F1 ι1 H1 (Kq C H0 Q)) : tE C cl E b σ H1 Q :=
  ⟨F1, ι1, st1, ρ, S1, R1, w.imp fun w' F2 ι2 st2 H2 g2 S2 k v r => k v (by
      cases w' with
      | d x => exact r
      | fr c => obtain ⟨a, h1, h2, h3⟩ := r; exact ⟨a, h1, dom a h2, h3⟩)⟩
theorem p_or {cl : Cll φ} {a b : IE φ} {ea eb : Expr} {rest : List Expr} {pos : Pos} (ha : PE X ea (tE C cl E a)) (hb : PE X (.BoolOp .Or (eb :: rest) pos) (tE C cl E b)) : PE X (.BoolOp .Or (ea :: eb :: rest) pos) (tE C cl E (.or a b)) := by
  refine PE.imp (pe_or ha hb) fun σ H Q ⟨F, ι, st, ρ, S, R, w⟩ => ?_
  simp only [evE] at w
  refine bindK S R (fun _ h => h) w fun v d F1 ι1 st1 H1 g1 S1 R1 r1 dom1 w1 => ?_
  split at w1
  · exact ⟨true, r1.is_bl, endD w1 S1 (.bl true)⟩
  · exact ⟨false, r1.is_bl, tE_in S1 R1 dom1 w1⟩
  · exact w1.elim
theorem p_one {cl : Cll φ} {a : IE φ} {op : PySem.BoolOp} {ea : Expr} {pos : Pos} (ha : PE X ea (tE C cl E a)) : PE X (.BoolOp op [ea] pos) (tE C cl E (.one a)) :=
  PE.imp (pe_one ha) fun σ H Q ⟨F, ι, st, ρ, S, R, w⟩ => ⟨F, ι, st, ρ, S, R, by simpa only [evE] using w⟩
theorem p_not {cl : Cll φ} {a : IE φ} {ea : Expr} {pos : Pos} (ha : PE X ea (tE C cl E a)) : PE X (.UnaryOp .Not ea pos) (tE C cl E (.not a)) := by
  refine PE.imp (pe_not ha) fun σ H Q ⟨F, ι, st, ρ, S, R, w⟩ => ?_
  simp only [evE] at w
  refine bindK S R (fun _ h => h) w fun v d F1 ι1 st1 H1 g1 S1 R1 r1 dom1 w1 => ?_
  split at w1
  · exact ⟨_, r1.is_bl, endD w1 S1 (.bl _)⟩
  · exact w1.elim
/-- a test's run, as a bool -/
theorem tT_bind {cl : Cll φ} {a : IE φ} {α : Type} {k : D → Sto → Rs α} {F : Hp} {ι : List Addr} {st : Sto} {ρ : Rho} {σ : St} {H : Hp} {K : α → Hp → List Addr → Sto → Hp → Prop} {R : Bool → Hp → Prop} (S : Sim C F ι st H) (ER : EnvR C F ι ρ σ)
    (w : Wpr C E ((vD (evE cl a ρ st)).bind k) F ι H K) (hk : ∀ d st1, (∀ b, d ≠ .bl b) → k d st1 = .err)
    (h : ∀ b F1 ι1 st1 H1, Go F ι H F1 ι1 H1 → Sim C F1 ι1 st1 H1 → EnvR C F1 ι1 ρ σ → Wpr C E (k (.bl b) st1) F1 ι1 H1 K → R b H1) : tT C cl E a σ H R := by
  refine ⟨F, ι, st, ρ, S, ER, w.bind.imp fun d F1 ι1 st1 H1 g1 S1 w1 => ?_⟩
  by_cases e : ∃ b, d = .bl b
  · obtain ⟨b, rfl⟩ := e
    exact ⟨b, rfl, h b F1 ι1 st1 H1 g1 S1 (ER.mono g1.x) w1⟩
  · rw [hk d st1 fun b e' => e ⟨b, e'⟩] at w1
    exact w1.elim
theorem p_ife {cl : Cll φ} {c a b : IE φ} {ec ea eb : Expr} {pos : Pos} (hc : PT X ec (tT C cl E c)) (ha : PE X ea (tE C cl E a)) (hb : PE X eb (tE C cl E b)) : PE X (.IfExp ec ea eb pos) (tE C cl E (.ife c a b)) := by
  refine PE.imp (pe_ifExp hc ha hb) fun σ H Q ⟨F, ι, st, ρ, S, R, w⟩ => ?_
  simp only [evE] at w
  refine tT_bind S R w (fun d st1 h => by cases d <;> first | rfl | (rename_i b; exact absurd rfl (h b))) fun k F1 ι1 st1 H1 g1 S1 R1 w1 => ?_
  cases k with
  | true => exact tE_in S1 R1 (fun a ha => g1.dom S S1 ha) w1
  | false => exact tE_in S1 R1 (fun a ha => g1.dom S S1 ha) w1
/-! ### tests -/
theorem t_val {cl : Cll φ} {ir : IE φ} {e : Expr} (h : PE X e (tE C cl E ir)) (he : ∀ whole, isTrue e X.env whole = (do let v ← whole; standAt e.pos; holding [v] (truthy v))) : PT X e (tT C cl E ir) :=
  PT.imp (pt_val h he) fun σ H Q q => tT_tE q
theorem vD_bind {r : Rs Wv} {β : Type} {f : Wv → Sto → Rs Wv} : vD (r.bind f) = r.bind fun a st => vD (f a st) := by cases r <;> rfl
theorem vD_bindD {α : Type} {r : Rs α} {f : α → Sto → Rs Wv} : vD (r.bind f) = r.bind fun a st => vD (f a st) := by cases r <;> rfl
theorem t_not {cl : Cll φ} {a : IE φ} {ea : Expr} {pos : Pos} (ha : PT X ea (tT C cl E a)) : PT X (.UnaryOp .Not ea pos) (tT C cl E (.not a)) := by
  refine PT.imp (pt_not ha) fun σ H Q ⟨F, ι, st, ρ, S, R, w⟩ => ?_
  simp only [evE, vD_bindD] at w
  refine tT_bind S R w (fun d st1 h => ?_) fun k F1 ι1 st1 H1 g1 S1 R1 w1 => ?_
  · cases d <;> first | rfl | (rename_i b; exact absurd rfl (h b))
  · obtain ⟨b, e, q⟩ := Wpr.here (st := st1) w1 S1
    cases e
    exact q
theorem w_and {cl : Cll φ} {a b : IE φ} {ea eb : Expr} {rest : List Expr} {pos : Pos} (ha : PT X ea (tT C cl E a)) (hb : PW X (.BoolOp .And (eb :: rest) pos) (tT C cl E b)) : PW X (.BoolOp .And (ea :: eb :: rest) pos) (tT C cl E (.and a b)) := by
  refine PW.imp (pw_and ha hb) fun σ H Q ⟨F, ι, st, ρ, S, R, w⟩ => ?_
  simp only [evE, vD_bindD] at w
  refine tT_bind S R w (fun d st1 h => ?_) fun k F1 ι1 st1 H1 g1 S1 R1 w1 => ?_
  · cases d <;> first | rfl | (rename_i b; exact absurd rfl (h b))
  · cases k with
    | true => exact ⟨F1, ι1, st1, ρ, S1, R1, w1⟩
    | false =>
      obtain ⟨b, e, q⟩ := Wpr.here (st := st1) w1 S1
      cases e
      exact q
theorem w_or {cl : Cll φ} {a b : IE φ} {ea eb : Expr} {rest : List Expr} {pos : Pos} (ha : PT X ea (tT C cl E a)) (hb : PW X (.BoolOp .Or (eb :: rest) pos) (tT C cl E b)) : PW X (.BoolOp .Or (ea :: eb :: rest) pos) (tT C cl E (.or a b)) := by
  refine PW.imp (pw_or ha hb) fun σ H Q ⟨F, ι, st, ρ, S, R, w⟩ => ?_
  simp only [evE, vD_bindD] at w
  refine tT_bind S R w (fun d st1 h => ?_) fun k F1 ι1 st1 H1 g1 S1 R1 w1 => ?_
  · cases d <;> first | rfl | (rename_i b; exact absurd rfl (h b))
  · cases k with
    | false => exact ⟨F1, ι1, st1, ρ, S1, R1, w1⟩
    | true =>
      obtain ⟨b, e, q⟩ := Wpr.here (st := st1) w1 S1
      cases e
      exact q
theorem w_one {cl : Cll φ} {a : IE φ} {op : PySem.BoolOp} {ea : Expr} {pos : Pos} (ha : PT X ea (tT C cl E a)) : PW X (.BoolOp op [ea] pos) (tT C cl E (.one a)) := by
  have i : ∀ σ H Q, tT C cl E (.one a) σ H Q → tT C cl E a σ H Q := fun σ H Q ⟨F, ι, st, ρ, S, R, w⟩ => ⟨F, ι, st, ρ, S, R, by simpa only [evE] using w⟩
  cases op with
  | And => exact PW.imp (pw_and1 ha) i
  | Or => exact PW.imp (pw_or1 ha) i
/-! ### displays, subscripts -/
theorem p_list {cl : Cll φ} {es : IE φ} {xs : List Expr} {pos : Pos} (ha : PA X xs (tA C cl E es)) : PE X (.List xs pos) (tE C cl E (.list es)) := by
  refine PE.imp (pe_lst ha) fun σ H Q ⟨F, ι, st, ρ, S, R, w⟩ => ?_
  simp only [evE] at w
  refine ⟨F, ι, st, ρ, S, R, w.bind.imp fun ds F1 ι1 st1 H1 g1 S1 w1 vs r => ?_⟩
  split at w1
  · rename_i h
    refine ⟨by rw [r.length, ← lim_eq]; exact h, fun p hp => endF w1 S1 (fun a ha => g1.dom S S1 ha) hp ⟨_, upd_same, by rw [← lim_eq]; exact h, r⟩⟩
  · exact w1.elim
theorem p_tup {cl : Cll φ} {es : IE φ} {xs : List Expr} {k : Nat} {pos : Pos} (ha : PA X xs (tA C cl E es)) : PE X (.Tuple xs k pos) (tE C cl E (.tup es)) := by
  refine PE.imp (pe_tup ha) fun σ H Q ⟨F, ι, st, ρ, S, R, w⟩ => ?_
  simp only [evE] at w
  refine ⟨F, ι, st, ρ, S, R, w.bind.imp fun ds F1 ι1 st1 H1 g1 S1 w1 vs r => ?_⟩
  split at w1
  · rename_i h
    exact ⟨by rw [r.length, ← lim_eq]; exact h, fun p hp => endT w1 S1 hp (by rw [← lim_eq]; exact h) r⟩
  · exact w1.elim
theorem p_mk {cl : Cll φ} {a : IE φ} {e : Expr} (ha : PE X e (tE C cl E a)) : PE X e (tE C cl E (.mk a)) := by
  refine PE.imp ha fun σ H Q ⟨F, ι, st, ρ, S, R, w⟩ => ?_
  simp only [evE] at w
  refine ⟨F, ι, st, ρ, S, R, ?_⟩
  revert w
  cases evE cl a ρ st with
  | ok w' st1 =>
    cases w' with
    | d x => exact fun w => w.elim
    | fr c =>
      intro w F1 ι1 H1 g1 S1 v r
      obtain ⟨p, rfl, h0, fp, np, hc⟩ := r
      obtain ⟨S2, x2, at2⟩ := S1.cellNew fp np hc
      exact w F1 (ι1 ++ [p]) H1 (g1.cell h0 x2) S2 _ (.ref at2)
  | exc e st1 => exact id
  | err => exact id
theorem p_frz {cl : Cll φ} {a : IE φ} {e : Expr} (ha : PE X e (tE C cl E a)) : PE X e (tE C cl E (.frz a)) := by
  refine PE.imp ha fun σ H Q ⟨F, ι, st, ρ, S, R, w⟩ => ?_
  simp only [evE] at w
  refine bindK S R (fun _ h => h) w fun v d F1 ι1 st1 H1 g1 S1 R1 r1 dom1 w1 => ?_
  obtain ⟨F2, S2, g2, r2⟩ := S1.stillD r1
  exact w1 F2 ι1 H1 g2 S2 v r2
theorem plain_ok {s : Expr} (h : sliceB s = true) : PlainIx s := by
  intro o i
  cases s <;> first | rfl | cases h
theorem ixr' (x : XOk C L T wf ad n N sc E X) : IxR X (rIxA C.K) := by
  have := ixr (X := X) (by have := x.u; omega)
  rw [x.k] at this
  exact this
theorem p_idx (x : XOk C L T wf ad n N sc E X) {cl : Cll φ} {a i : IE φ} {ea ei : Expr} {pos : Pos} (hs : sliceB ei = true) (ha : PE X ea (tE C cl E a)) (hi : PE X ei (tE C cl E i)) : PE X (.Subscript ea ei pos) (tE C cl E (.idx a i)) := by
  refine PE.imp (pe_ix (ixr' x) ha hi (plain_ok hs)) fun σ H Q ⟨F, ι, st, ρ, S, R, w⟩ => ?_
  simp only [evE] at w
  refine bindK S R (fun _ h => h) w fun v d F1 ι1 st1 H1 g1 S1 R1 r1 dom1 w1 => ?_
  refine bindK S1 R1 dom1 w1 fun v2 d2 F2 ι2 st2 H2 g2 S2 R2 r2 dom2 w2 => ?_
  cases e : getAt st2 d d2 with
  | none => rw [e] at w2; exact w2.elim
  | some y =>
    rw [e] at w2
    exact getAt_ok S2 (r1.mono g2.x) r2 e fun v r => w2 F2 ι2 H2 .refl S2 v r
end
end Fd

set_option Elab.async false
set_option linter.all false
set_option maxHeartbeats 1000000
namespace Fd
open PySem L2
variable {φ : Type}
section
variable {C : Gx} {L : Lk φ} {T : φ → Fn φ} {wf : Nat} {ad : φ → Addr} {n : Nat} {N : List Str} {sc : Scope} {E : XK} {X : Cx}
/-! ### slices -/
def evB (cl : Cll φ) (ir : IE φ) (ρ : Rho) (st : Sto) : Rs (Option Int) := (vD (evE cl ir ρ st)).bind fun l st2 => ofO (bnd ir l) st2
def tB (C : Gx) (cl : Cll φ) (E : XK) (ir : IE φ) : TO := fun σ H R => ∃ F ι st ρ, Sim C F ι st H ∧ EnvR C F ι ρ σ ∧ Wpr C E (evB cl ir ρ st) F ι H fun o F' ι' st' H' => R o H'
theorem PO.imp {l : Option Expr} {t t' : TO} (h : PO X l t) (f : ∀ σ H R, t' σ H R → t σ H R) : PO X l t' := ⟨fun pins s σ H R I w => h.run pins s σ H R I (f σ H R w)⟩
theorem po_ok {cl : Cll φ} {lo : IE φ} {l : Option Expr} (h : match l with | some e => noneB lo = false ∧ PE X e (tE C cl E lo) | none => noneB lo = true) : PO X l (tB C cl E lo) := by
  cases l with
  | none =>
    refine PO.imp po_none fun σ H R ⟨F, ι, st, ρ, S, ER, w⟩ => ?_
    cases lo <;> first | (cases h; done) | skip
    have e0 : evB cl IE.none ρ st = .ok none st := by rw [evB, evE]; rfl
    rw [e0] at w
    exact Wpr.here (st := st) w S
  | some e =>
    obtain ⟨h1, h2⟩ := h
    refine PO.imp (po_some h2) fun σ H R ⟨F, ι, st, ρ, S, ER, w⟩ => ?_
    refine eD S ER (w.bind.imp fun d F1 ι1 st1 H1 g1 S1 w1 v r => ?_)
    unfold bnd at w1
    rw [h1, if_neg (by decide)] at w1
    split at w1
    · exact ⟨_, r.is_int, Wpr.here (st := st1) w1 S1⟩
    · exact w1.elim
theorem p_slice (x : XOk C L T wf ad n N sc E X) {cl : Cll φ} {a lo hi : IE φ} {ea : Expr} {l h : Option Expr} {p2 pos : Pos} (ha : PE X ea (tE C cl E a))
    (hl : match l with | some e => noneB lo = false ∧ PE X e (tE C cl E lo) | none => noneB lo = true) (hh : match h with | some e => noneB hi = false ∧ PE X e (tE C cl E hi) | none => noneB hi = true) :
    PE X (.Subscript ea (.Slice l h none p2) pos) (tE C cl E (.slice a lo hi)) := by
  refine PE.imp (pe_slice sl_list ha (po_ok hl) (po_ok hh)) fun σ H Q ⟨F, ι, st, ρ, S, R, w⟩ => ?_
  simp only [evE] at w
  refine bindK S R (fun _ h => h) w fun v d F1 ι1 st1 H1 g1 S1 R1 r1 dom1 w1 => ?_
  refine ⟨F1, ι1, st1, ρ, S1, R1, w1.bind.imp fun l' F2 ι2 st2 H2 g2 S2 w2 => ?_⟩
  refine ⟨F2, ι2, st2, ρ, S2, R1.mono g2.x, w2.bind.imp fun h' F3 ι3 st3 H3 g3 S3 w3 => ?_⟩
  split at w3
  · rename_i xs e
    obtain ⟨p, vs, rfl, hp, z, rl⟩ := S3.lst ((r1.mono g2.x).mono g3.x) e
    rw [x.k]
    refine ⟨p, vs, rfl, SqL.of hp, fun q hq => endF w3 S3 (fun a ha => dom1 a (g2.dom S1 S2 (g3.dom S2 S3 ha))) hq ⟨_, upd_same, ?_, ?_⟩⟩
    · unfold cutD
      rw [List.length_take, List.length_drop]
      omega
    · unfold cutV cutD
      rw [rl.length]
      exact (rl.drop _).take _
  · exact w3.elim
theorem p_back (x : XOk C L T wf ad n N sc E X) {cl : Cll φ} {a : IE φ} {ea : Expr} {k : Nat} {p1 p2 p3 pos : Pos} (ha : PE X ea (tE C cl E a)) :
    PE X (.Subscript ea (.Slice none none (some (.UnaryOp .USub (.Constant (.int 1) k p1) p2)) p3) pos) (tE C cl E (.back a)) := by
  refine PE.imp (pe_revL ha) fun σ H Q ⟨F, ι, st, ρ, S, R, w⟩ => ?_
  simp only [evE] at w
  refine bindK S R (fun _ h => h) w fun v d F1 ι1 st1 H1 g1 S1 R1 r1 dom1 w1 => ?_
  split at w1
  · rename_i xs e
    obtain ⟨p, vs, rfl, hp, z, rl⟩ := S1.lst r1 e
    rw [x.k]
    refine ⟨p, vs, rfl, SqL.of hp, fun q hq => endF w1 S1 dom1 hq ⟨_, upd_same, by rw [List.length_reverse]; exact z, rl.reverse⟩⟩
  · exact w1.elim
/-! ### arguments -/
theorem a_nil {cl : Cll φ} : PA X [] (tA C cl E .nil) := PA.imp pa_nil fun σ H Q ⟨F, ι, st, ρ, S, R, w⟩ => by
  simp only [evEs] at w
  exact Wpr.here (st := st) w S [] .nil
theorem a_cons {cl : Cll φ} {a r : IE φ} {e : Expr} {es : List Expr} (hs : starB e = true) (ha : PE X e (tE C cl E a)) (hr : PA X es (tA C cl E r)) : PA X (e :: es) (tA C cl E (.cons a r)) := by
  refine PA.imp (pa_cons ha hr (star_ok hs _ _)) fun σ H Q ⟨F, ι, st, ρ, S, R, w⟩ => ?_
  simp only [evEs] at w
  refine eD S R (w.bind.imp fun d F1 ι1 st1 H1 g1 S1 w1 v rv => ?_)
  refine ⟨F1, ι1, st1, ρ, S1, R.mono g1.x, w1.bind.imp fun ds F2 ι2 st2 H2 g2 S2 w2 vs rl => ?_⟩
  exact Wpr.here (st := st2) w2 S2 (v :: vs) (.cons (rv.mono g2.x) rl)
theorem stars_any {es : List Expr} (h : es.all starB = true) (pos : Pos) (env : Env) : (backTo pos (starEach es env)).any (·.1) = false := by
  induction es with
  | nil => rfl
  | cons e es ih =>
    simp only [List.all_cons, Bool.and_eq_true] at h
    rw [star_ok h.1]
    have := ih h.2
    simpa [backTo] using this
theorem stars_len {es : List Expr} (h : es.all starB = true) (env : Env) : (starEach es env).all (fun x => !x.1) = true := by
  induction es with
  | nil => rfl
  | cons e es ih =>
    simp only [List.all_cons, Bool.and_eq_true] at h
    rw [star_ok h.1]
    simpa using ih h.2
theorem form_ok {es : List Expr} (h : es.all starB = true) (hl : es.length < 20) (pos : Pos) (env : Env) : methodCallForm (es.length + 0) (backTo pos (starEach es env)) (backToKw pos (keywordEach [] env)) = true := by
  have h1 : (backTo pos (starEach es env)).all (fun x => !x.1) = true := by
    have := stars_len h env
    simpa [backTo] using this
  unfold methodCallForm
  rw [h1]
  simp [backToKw, keywordEach]
  omega
theorem callN_len {m : Nat} {f : φ} {ds : List D} {st : Sto} (h : callN T wf m f ds st ≠ .err) : ds.length = (T f).np := by
  cases m with
  | zero => exact absurd (by rw [callN]) h
  | succ m =>
    unfold callN at h
    by_cases e : ds.length = (T f).np
    · exact e
    · rw [if_neg e] at h; exact absurd rfl h
theorem Wpr.ne {α : Type} {r : Rs α} {F : Hp} {ι : List Addr} {H : Hp} {K : α → Hp → List Addr → Sto → Hp → Prop} (w : Wpr C E r F ι H K) : r ≠ .err := fun e => by rw [e] at w; exact w
theorem Wpr.go {α : Type} {r : Rs α} {F F2 : Hp} {ι ι2 : List Addr} {H H2 : Hp} {K : α → Hp → List Addr → Sto → Hp → Prop} (w : Wpr C E r F ι H K) (g : Go F ι H F2 ι2 H2) : Wpr C E r F2 ι2 H2 K := by
  cases r with
  | ok b st2 => exact fun F3 ι3 H3 g3 S3 => w F3 ι3 H3 (g.trans g3) S3
  | exc e st2 => exact fun F3 ι3 H3 cl d g3 S3 => w F3 ι3 H3 cl d (g.trans g3) S3
  | err => exact w
theorem tE_mono {cl : Cll φ} {a : IE φ} {σ : St} {H : Hp} {Q Q' : VK} (q : tE C cl E a σ H Q) (f : ∀ v H', Q v H' → Q' v H') : tE C cl E a σ H Q' := by
  obtain ⟨F, ι, st, ρ, S, R, w⟩ := q
  exact ⟨F, ι, st, ρ, S, R, w.imp fun w' F2 ι2 st2 H2 g2 S2 k v r => f _ _ (k v r)⟩
/-- a call's wish -/
theorem sp_ok {f : φ} {ds : List D} {vs : List V} {F : Hp} {ι : List Addr} {st : Sto} {H H0 : Hp} {Q : VK} (S : Sim C F ι st H) (r : RepL C F ι vs ds) (dom : ∀ a, H a = none → H0 a = none) (w : Wpr C E (callN T wf n f ds st) F ι H (Kq C H0 Q)) :
    spN C T wf n f vs H Q E := by
  refine ⟨by rw [r.length]; exact callN_len w.ne, F, ι, st, ds, S, r, w.imp fun w' F2 ι2 st2 H2 g2 S2 k v rw' => k v ?_⟩
  cases w' with
  | d x => exact rw'
  | fr c => obtain ⟨a, h1, h2, h3⟩ := rw'; exact ⟨a, h1, dom a h2, h3⟩
theorem XOk.pass (x : XOk C L T wf ad n N sc E X) : Passes (L2.CX X.prog X.w) X E := passes_call x.tk (fun _ _ _ _ h => h)
theorem tA_nil {cl : Cll φ} {σ : St} {H : Hp} {R : List V → Hp → Prop} (h : tA C cl E .nil σ H R) : tNil σ H R := by
  obtain ⟨F, ι, st, ρ, S, ER, w⟩ := h
  simp only [evEs] at w
  exact Wpr.here (st := st) w S [] .nil
theorem p_call (x : XOk C L T wf ad n N sc E X) {f : φ} {es : IE φ} {xs : List Expr} {y : Str} {p pos : Pos} (hon : L.on f = true) (hf : L.fnm f = (y, none)) (hg : glB sc y = true) (hst : xs.all starB = true) (hn : xs = [] → es = .nil) (ha : PA X xs (tA C (callN T wf n) E es)) :
    PE X (.Call (.Name y p) xs [] pos) (tE C (callN T wf n) E (.call f es)) := by
  obtain ⟨g1, g2, g3⟩ := gl_ok x.scp hg
  obtain ⟨m1, m2⟩ := x.tx.gl f y hon hf
  rw [← x.k] at m2
  obtain ⟨fd, ps, hb, F⟩ := (x.fn f hon).ex
  rw [← x.k] at hb F
  have i : ∀ σ H Q, tE C (callN T wf n) E (.call f es) σ H Q → tCall (spN C T wf n f) [] E (tA C (callN T wf n) E es) σ H Q := fun σ H Q ⟨F, ι, st, ρ, S, R, w⟩ => by
    simp only [evE] at w
    refine ⟨F, ι, st, ρ, S, R, w.bind.imp fun ds F1 ι1 st1 H1 g1 S1 w1 vs r => ?_⟩
    show spN C T wf n f (vs ++ []) H1 Q E
    rw [List.append_nil]
    exact sp_ok S1 r (fun a ha => g1.dom S S1 ha) w1
  cases xs with
  | nil =>
    cases hn rfl
    exact PE.imp (pe_call0 F (x.room.mono (by omega)) g1 m1 m2 hb .nil x.pass g2) fun σ H Q q => tA_nil (i σ H Q q)
  | cons e xs =>
    simp only [List.all_cons, Bool.and_eq_true] at hst
    exact PE.imp (pe_call F (x.room.mono (by omega)) g1 m1 m2 hb .nil x.pass ha g2 (star_ok hst.1 _ _) (stars_any hst.2 _ _)) i
/-! ### objects -/
theorem Sim.stillLs {ι : List Addr} {H : Hp} : ∀ {ds : List D} {vs : List V} {F : Hp} {st : Sto}, Sim C F ι st H → RepL C F ι vs ds → ∃ F2, Sim C F2 ι (stillL ds st).2 H ∧ Go F ι H F2 ι H ∧ RepL C F2 ι vs (stillL ds st).1
  | [], _, F, st, S, .nil => ⟨F, S, .refl, .nil⟩
  | d :: ds, _, F, st, S, .cons a b => by
    obtain ⟨F1, S1, g1, r1⟩ := S.stillD a
    obtain ⟨F2, S2, g2, r2⟩ := Sim.stillLs S1 (b.mono g1.x)
    exact ⟨F2, S2, g1.trans g2, .cons (r1.mono g2.x) r2⟩
theorem stillL_len : ∀ (ds : List D) (st : Sto), (stillL ds st).1.length = ds.length
  | [], _ => rfl
  | d :: ds, st => by
    show (stillL ds (still st d).2).1.length + 1 = ds.length + 1
    rw [stillL_len]
/-- the object at a is frozen, its fields told anew -/
theorem Sim.stillObj {F : Hp} {ι : List Addr} {st : Sto} {H : Hp} {i c : Nat} {a dx : Addr} {fs : List (Str × V)} {c0 : Cell} {xs : List D} (S : Sim C F ι st H) (hi : st[i]? = some (.live c0)) (ha : ι[i]? = some a) (ho : H a = some (.ins (C.cl c).adr dx fs)) (hk : fs.map (·.1) = (C.cl c).fl.take xs.length ∧ C.con c = true) (r : RepL C F ι (fs.map (·.2)) xs) :
    ∃ F2, Sim C F2 ι (st.set i (.froz (.obj c xs))) H ∧ Go F ι H F2 ι H ∧ Rep C F2 ι (.ref a) (.obj c xs) := by
  have S1 : Sim C F ι (st.set i (.live (.obj c xs))) H := by
    refine ⟨S.fro, by simpa using S.len, S.nd, S.has, fun j c' b h1 h2 => ?_, fun j c' b h1 h2 => ?_, S.no⟩
    · by_cases e : j = i
      · subst e
        rw [ha] at h2; cases h2
        rw [List.getElem?_set_self (List.getElem?_eq_some_iff.mp hi).1] at h1
        cases h1
        exact ⟨(S.cell j c0 a hi ha).1, dx, fs, ho, hk, r⟩
      · rw [List.getElem?_set_ne (Ne.symm e)] at h1
        exact S.cell j c' b h1 h2
    · by_cases e : j = i
      · subst e
        rw [List.getElem?_set_self (List.getElem?_eq_some_iff.mp hi).1] at h1
        cases h1
      · rw [List.getElem?_set_ne (Ne.symm e)] at h1
        exact S.frz j c' b h1 h2
  have hi1 : (st.set i (.live (.obj c xs)))[i]? = some (.live (.obj c xs)) := by
    rw [List.getElem?_set_self (List.getElem?_eq_some_iff.mp hi).1]
  obtain ⟨S2, x2, r2⟩ := Sim.still S1 hi1 ha ho
  rw [List.set_set] at S2
  exact ⟨_, S2, Go.still ha x2, r2⟩
theorem i_make {f : φ} {c : Nat} {fz : Bool} {es : IE φ} {σ : St} {H : Hp} {Q : VK} (hC : C.con c = true) (q : tE C (callN T wf n) E (.make c f fz es) σ H Q) : tMake (C.cl c).adr (spN C T wf n f) [] E (tA C (callN T wf n) E es) σ H Q := by
  obtain ⟨F, ι, st, ρ, S, R, w⟩ := q
  simp only [evE] at w
  refine ⟨F, ι, st, ρ, S, R, w.bind.imp fun ds F1 ι1 st1 H1 g1 S1 w1 vs r a dx ha hdx hne => ?_⟩
  rw [List.append_nil]
  obtain ⟨S2, fdx, ndx⟩ := S1.more (o := .own a) hdx
  have ha2 : upd H1 dx (.own a) a = none := by rw [upd_ne (Ne.symm hne)]; exact ha
  obtain ⟨S3, fa, na⟩ := S2.more (o := .ins (C.cl c).adr dx []) ha2
  obtain ⟨S4, x4, at4⟩ := S3.cellNew (c := .obj c []) fa na ⟨dx, [], upd_same, ⟨by simp, hC⟩, .nil⟩
  have g4 : Go F1 ι1 H1 F1 (ι1 ++ [a]) (upd (upd H1 dx (.own a)) a (.ins (C.cl c).adr dx [])) := ((Go.more hdx).trans (Go.more ha2)).cell ha x4
  have w2 := (w1.go g4).bind
  refine ⟨by rw [show (V.ref a :: vs).length = (D.ref st1.length :: ds).length by simp [r.length]]; exact callN_len w2.ne, F1, ι1 ++ [a], _, _, S4, .cons (.ref at4) (r.mono x4), w2.imp fun w' F5 ι5 st5 H5 g5 S5 k v rw' => ?_⟩
  split at k
  · rename_i e
    have hv : v = .non := by
      cases w' with
      | d x => cases e; exact rw'.is_non
      | fr c' => cases c' <;> cases e
    refine ⟨hv, ?_⟩
    have at5 := g5.x.i _ _ at4
    split at k
    · rename_i c' vs' hc
      split at k
      · obtain ⟨_, dx', fs', h1, h2, h3⟩ := S5.cell _ _ _ hc at5
        obtain ⟨F6, S6, g6, r6⟩ := Sim.stillLs S5 h3
        split at k
        · rename_i c2 vs2 hl
          obtain ⟨F7, S7, g7, r7⟩ := Sim.stillObj (c := c') (xs := (stillL vs' st5).1) S6 hl at5 h1 (by rw [stillL_len]; exact h2) r6
          exact k F7 ι5 H5 (g6.trans g7) S7 _ r7
        · exact k.elim
      · exact endD k S5 (.ref at5)
    · exact k.elim
  · exact k.elim
theorem p_make (x : XOk C L T wf ad n N sc E X) {f : φ} {c : Nat} {fz : Bool} {es : IE φ} {xs : List Expr} {y : Str} {p pos : Pos} (hon : L.on f = true) (hc : L.con c = true) (hcn : L.cnm c = y) (hf : L.fnm f = (y, some ("__init__" : Str))) (hg : glB sc y = true) (hst : xs.all starB = true) (hn : xs = [] → es = .nil)
    (ha : PA X xs (tA C (callN T wf n) E es)) : PE X (.Call (.Name y p) xs [] pos) (tE C (callN T wf n) E (.make c f fz es)) := by
  subst hcn
  obtain ⟨g1, g2, g3⟩ := gl_ok x.scp hg
  have M := x.tx.mak f c hon hc hf
  have cg := x.tx.cg c hc
  obtain ⟨fd, ps, hb, F⟩ := (x.fn f hon).ex
  rw [← x.k] at hb F M
  cases xs with
  | nil =>
    cases hn rfl
    exact PE.imp (pe_make0 M F (x.room) g1 cg hb .nil x.pass g2) fun σ H Q q => tA_nil (i_make (x.tx.co c hc) q)
  | cons e xs =>
    simp only [List.all_cons, Bool.and_eq_true] at hst
    exact PE.imp (pe_make M F x.room g1 cg hb .nil x.pass ha g2 (star_ok hst.1 _ _) (stars_any hst.2 _ _)) fun σ H Q q => i_make (x.tx.co c hc) q
theorem base_ok {o : Expr} {m : Str} {env : Env} {w : Sem Value} (h : baseB o = true) : attributeBase o m env w = w := by
  unfold attributeBase
  split
  · cases h
  · rfl
theorem p_meth (x : XOk C L T wf ad n N sc E X) {f : φ} {c : Nat} {a es : IE φ} {o : Expr} {xs : List Expr} {m : Str} {ap pos : Pos} (hon : L.on f = true) (hc : L.con c = true) (hf : L.fnm f = (L.cnm c, some m)) (hm : m ∉ L.fl c) (hi : m ≠ ("__init__" : Str)) (hb : baseB o = true) (hl : (ap.endLine == pos.line) = true) (hlen : xs.length < 20)
    (hst : xs.all starB = true) (hn : xs = [] → es = .nil) (ho : PE X o (tE C (callN T wf n) E a)) (ha : PA X xs (tA C (callN T wf n) E es)) : PE X (.Call (.Attribute o m ap) xs [] pos) (tE C (callN T wf n) E (.meth c f a es)) := by
  have M := x.tx.me f c m hon hc hf hi
  have cls := (x.tx.cl c (x.tx.co c hc)).cls
  obtain ⟨fd, ps, hb', F⟩ := (x.fn f hon).ex
  rw [← x.k] at hb' F M cls
  have i : ∀ σ H Q, tE C (callN T wf n) E (.meth c f a es) σ H Q → tMeth (C.cl c).adr m (spN C T wf n f) [] E (tE C (callN T wf n) E a) (tA C (callN T wf n) E es) σ H Q := fun σ H Q ⟨F, ι, st, ρ, S, R, w⟩ => by
    simp only [evE] at w
    refine bindK S R (fun _ h => h) w fun v d F1 ι1 st1 H1 g1 S1 R1 r1 dom1 w1 => ?_
    split at w1
    · rename_i c' vs e
      split at w1
      · rename_i hcc
        subst hcc
        obtain ⟨p, dx, fs, rfl, h1, h2, h3⟩ := S1.obj r1 e
        refine ⟨p, dx, fs, rfl, h1, ?_, F1, ι1, st1, ρ, S1, R1, w1.bind.imp fun ds F2 ι2 st2 H2 g2 S2 w2 us r => ?_⟩
        · refine List.lookup_eq_none_iff.mpr fun q hq => ?_
          have : q.1 ∈ (C.cl c').fl := List.mem_of_mem_take (h2.1 ▸ List.mem_map_of_mem hq)
          rw [← x.tx.flE] at this
          simp only [beq_eq_false_iff_ne, Bool.not_eq_true', bne_iff_ne, ne_eq]
          exact fun z => hm (z ▸ this)
        · show spN C T wf n f (.ref p :: (us ++ [])) H2 Q E
          rw [List.append_nil]
          exact sp_ok S2 (.cons (r1.mono g2.x) r) (fun a ha => dom1 a (g2.dom S1 S2 ha)) w2
      · exact w1.elim
    · exact w1.elim
  have ht : ∀ ys : List Expr, ys.all starB = true → ys.length < 20 → eval (.Call (.Attribute o m ap) ys [] pos) X.env = (do
      let ov ← eval o X.env
      standAt ap.atName
      let (f, first) ← holding [ov] (getMethod ov m (plainOf o X.env))
      callWith pos f first (backTo pos (starEach ys X.env)) (backToKw pos (keywordEach [] X.env))) := fun ys h1 h2 => by
    rw [show eval (.Call (.Attribute o m ap) ys [] pos) X.env = (do
      let ov ← attributeBase o m X.env (eval o X.env)
      standAt ap.atName
      methodCall o m ap pos X.env ov (ys.length + 0) (backTo pos (starEach ys X.env)) (backToKw pos (keywordEach [] X.env))) from rfl, base_ok hb]
    congr 1
    funext ov
    congr 1
    funext _
    exact mcall_line (form_ok h1 h2 _ _) hl
  cases xs with
  | nil =>
    cases hn rfl
    exact PE.imp (pe_meth0 ho cls M F (x.room.mono (by omega)) hb' .nil x.pass (ht [] rfl (by decide))) fun σ H Q q => by
      refine tE_mono (i σ H Q q) fun v H1 ⟨a, dx, fs, h1, h2, h3, h4⟩ => ⟨a, dx, fs, h1, h2, h3, tA_nil h4⟩
  | cons e xs =>
    have hst' := hst
    simp only [List.all_cons, Bool.and_eq_true] at hst
    exact PE.imp (pe_meth ho cls M F (x.room.mono (by omega)) hb' .nil x.pass ha (star_ok hst.1 _ _) (stars_any hst.2 _ _) (ht _ hst' hlen)) i
/-! ### fields -/
theorem lookup_zip {F : Hp} {ι : List Addr} {fl : List Str} (nd : fl.Nodup) : ∀ {fs : List (Str × V)} {xs : List D} {j : Nat} {f : Str} {d : D} (k : Nat), fs.map (·.1) = (fl.drop k).take xs.length → RepL C F ι (fs.map (·.2)) xs → xs[j]? = some d → fl[k + j]? = some f → ∃ v, fs.lookup f = some v ∧ Rep C F ι v d
  | [], [], j, f, d, k, _, _, h3, _ => by simp at h3
  | p :: r, x :: xs, j, f, d, k, h1, .cons a b, h3, h4 => by
    rw [List.length_cons] at h1
    have hk : k < fl.length := by
      by_cases e : k < fl.length
      · exact e
      · rw [List.drop_eq_nil_of_le (by omega)] at h1; cases h1
    rw [List.drop_eq_getElem_cons hk, List.take_succ_cons, List.map_cons] at h1
    injection h1 with h5 h6
    rw [List.lookup_cons]
    cases j with
    | zero =>
      simp only [List.getElem?_cons_zero, Option.some.injEq] at h3
      subst h3
      have : fl[k]? = some p.1 := by rw [h5]; exact List.getElem?_eq_getElem hk
      rw [Nat.add_zero, this] at h4
      cases h4
      simp only [beq_self_eq_true]
      exact ⟨p.2, rfl, a⟩
    | succ j =>
      have ne : (f == p.1) = false := by
        rw [beq_eq_false_iff_ne]
        intro e
        obtain ⟨l1, e1⟩ := List.getElem?_eq_some_iff.mp h4
        have : fl[k + (j + 1)] = fl[k] := by rw [e1, e, h5]
        have := (List.getElem_inj nd).mp this
        omega
      rw [ne]
      exact lookup_zip nd (k + 1) h6 b (by simpa using h3) (by rw [← h4]; congr 1; omega)
theorem p_attr (x : XOk C L T wf ad n N sc E X) {cl : Cll φ} {c j : Nat} {a : IE φ} {o : Expr} {f : Str} {pos : Pos} (hc : L.con c = true) (hf : (L.fl c)[j]? = some f) (hb : baseB o = true) (ho : PE X o (tE C cl E a)) : PE X (.Attribute o f pos) (tE C cl E (.attr c j a)) := by
  have K := x.tx.cl c (x.tx.co c hc)
  refine PE.imp (pe_fld ho (base_ok hb)) fun σ H Q ⟨F, ι, st, ρ, S, R, w⟩ => ?_
  simp only [evE] at w
  refine bindK S R (fun _ h => h) w fun v d F1 ι1 st1 H1 g1 S1 R1 r1 dom1 w1 => ?_
  split at w1
  · rename_i c' vs e
    split at w1
    · rename_i hcc
      subst hcc
      obtain ⟨p, dx, fs, rfl, h1, h2, h3⟩ := S1.obj r1 e
      cases e2 : vs[j]? with
      | none => rw [e2] at w1; exact w1.elim
      | some y =>
        rw [e2] at w1
        rw [x.tx.flE] at hf
        obtain ⟨v, q1, q2⟩ := lookup_zip K.nd 0 (by simpa using h2.1) h3 e2 (by simpa using hf)
        rw [x.k]
        exact ⟨p, _, dx, fs, v, rfl, h1, K.cls, K.noat f (List.mem_of_getElem? hf), q1, w1 F1 ι1 H1 .refl S1 v (S1.res q2)⟩
    · exact w1.elim
  · exact w1.elim
/-! ### built-ins -/
theorem bi_name {b : Bi} {y : Str} {v : Value} (h : b.val = some (y, v)) : y ∈ bnames ∧ bootBuiltins y = some v := by
  cases b <;> cases h <;> exact ⟨by decide, by first | exact PyProof.Rows.boot_len | rfl | decide⟩
theorem XOk.bl (x : XOk C L T wf ad n N sc E X) {y : Str} (h : y ∈ bnames) : X.mg y = none := x.tx.bl y h
theorem p_bi (x : XOk C L T wf ad n N sc E X) {cl : Cll φ} {b : Bi} {es : IE φ} {xs : List Expr} {y : Str} {v : Value} {p pos : Pos} (hb : b.val = some (y, v)) (hg : glB sc y = true) (hst : xs.all starB = true) (hn : xs.isEmpty = false) (ha : PA X xs (tA C cl E es)) :
    PE X (.Call (.Name y p) xs [] pos) (tE C cl E (.bi b es)) := by
  obtain ⟨g1, g2, g3⟩ := gl_ok x.scp hg
  obtain ⟨n1, n2⟩ := bi_name hb
  have m := x.bl n1
  have r := bir (X := X) x.calm hb
  rw [x.k] at r
  have i : ∀ σ H Q, tE C cl E (.bi b es) σ H Q → tCB (rBi C.K b) (tA C cl E es) σ H Q := fun σ H Q ⟨F, ι, st, ρ, S, R, w⟩ => by
    simp only [evE] at w
    exact ⟨F, ι, st, ρ, S, R, w.bind.imp fun ds F1 ι1 st1 H1 g1 S1 w1 vs r => evBi_ok S1 r (fun a ha => g1.dom S S1 ha) w1⟩
  cases xs with
  | nil => cases hn
  | cons e xs =>
    simp only [List.all_cons, Bool.and_eq_true] at hst
    cases v with
    | type T' => exact PE.imp (pe_callTy r g1 m n2 ha g3 g2 (star_ok hst.1 _ _) (stars_any hst.2 _ _)) i
    | builtin id => exact PE.imp (pe_callB r g1 m n2 ha g3 g2 (star_ok hst.1 _ _) (stars_any hst.2 _ _)) i
    | _ => cases b <;> cases hb
theorem p_lr1 (x : XOk C L T wf ad n N sc E X) {cl : Cll φ} {a : IE φ} {e : Expr} {p p2 pos pos2 : Pos} (hg : glB sc "list" = true) (hg2 : glB sc "range" = true) (hs : starB e = true) (ha : PE X e (tE C cl E a)) :
    PE X (.Call (.Name "list" p) [.Call (.Name "range" p2) [e] [] pos2] [] pos) (tE C cl E (.bi .listRange (.cons a .nil))) := by
  refine PE.imp (pe_listRg x.calm (gl_ok x.scp hg).1 (x.bl (by decide)) (prg_1 (gl_ok x.scp hg2).1 (x.bl (by decide)) ha (star_ok hs _ _)) rfl) fun σ H Q ⟨F, ι, st, ρ, S, R, w⟩ => ?_
  simp only [evE, evEs] at w
  refine eD S R (w.bind.bind.imp fun d F1 ι1 st1 H1 g1 S1 w1 v r => ?_)
  have w2 := Wpr.here (st := st1) w1.bind S1
  have w3 := Wpr.here (st := st1) w2 S1
  have w4 := evBi_ok S1 (.cons r .nil) (fun a ha => g1.dom S S1 ha) w3
  rcases w4 with ⟨j, h1, h2, h3⟩ | ⟨i, j, h1, h2, h3⟩
  · cases h1
    exact ⟨j, rfl, h2, h3⟩
  · cases h1
theorem p_lr2 (x : XOk C L T wf ad n N sc E X) {cl : Cll φ} {a b : IE φ} {e e2 : Expr} {p p2 pos pos2 : Pos} (hg : glB sc "list" = true) (hg2 : glB sc "range" = true) (hs : starB e = true) (hs2 : starB e2 = true) (ha : PE X e (tE C cl E a)) (hb : PE X e2 (tE C cl E b)) :
    PE X (.Call (.Name "list" p) [.Call (.Name "range" p2) [e, e2] [] pos2] [] pos) (tE C cl E (.bi .listRange (.cons a (.cons b .nil)))) := by
  refine PE.imp (pe_listRg x.calm (gl_ok x.scp hg).1 (x.bl (by decide)) (prg_2 (gl_ok x.scp hg2).1 (x.bl (by decide)) ha hb (star_ok hs _ _) (star_ok hs2 _ _) (stars_any (es := [e2]) (by simp [hs2]) _ _)) rfl) fun σ H Q ⟨F, ι, st, ρ, S, R, w⟩ => ?_
  simp only [evE, evEs] at w
  refine eD S R (w.bind.bind.imp fun d F1 ι1 st1 H1 g1 S1 w1 v r => ?_)
  refine eD S1 (R.mono g1.x) (w1.bind.bind.imp fun d2 F2 ι2 st2 H2 g2 S2 w2 v2 r2 => ?_)
  have w3 := Wpr.here (st := st2) w2.bind S2
  have w4 := Wpr.here (st := st2) w3 S2
  have w5 := Wpr.here (st := st2) w4 S2
  have w6 := evBi_ok S2 (.cons (r.mono g2.x) (.cons r2 .nil)) (fun a ha => g1.dom S S1 (g2.dom S1 S2 ha)) w5
  rcases w6 with ⟨j, h1, h2, h3⟩ | ⟨i, j, h1, h2, h3⟩
  · cases h1
  · cases h1
    exact ⟨i, j, rfl, rfl, h2, h3⟩
theorem p_lrev (x : XOk C L T wf ad n N sc E X) {cl : Cll φ} {a : IE φ} {e : Expr} {p p2 pos pos2 : Pos} (hg : glB sc "list" = true) (hg2 : glB sc "reversed" = true) (hs : starB e = true) (ha : PE X e (tE C cl E a)) :
    PE X (.Call (.Name "list" p) [.Call (.Name "reversed" p2) [e] [] pos2] [] pos) (tE C cl E (.bi .listRev (.cons a .nil))) := by
  refine PE.imp (pe_lstRev x.calm (gl_ok x.scp hg).1 (x.bl (by decide)) (gl_ok x.scp hg2).1 (x.bl (by decide)) ha (star_ok hs _ _)) fun σ H Q ⟨F, ι, st, ρ, S, R, w⟩ => ?_
  simp only [evE, evEs] at w
  refine eD S R (w.bind.bind.imp fun d F1 ι1 st1 H1 g1 S1 w1 v r => ?_)
  have w2 := Wpr.here (st := st1) w1.bind S1
  have w3 := Wpr.here (st := st1) w2 S1
  obtain ⟨q, ys, h1, h2, h3⟩ := evBi_ok S1 (.cons r .nil) (fun a ha => g1.dom S S1 ha) w3
  cases h1
  rw [x.k]
  exact ⟨q, ys, rfl, h2, h3⟩
theorem p_lzip (x : XOk C L T wf ad n N sc E X) {cl : Cll φ} {es : IE φ} {e e2 : Expr} {p p2 pos pos2 : Pos} (hg : glB sc "list" = true) (hg2 : glB sc "zip" = true) (hs : starB e = true) (hs2 : starB e2 = true) (ha : PA X [e, e2] (tA C cl E es)) :
    PE X (.Call (.Name "list" p) [.Call (.Name "zip" p2) [e, e2] [] pos2] [] pos) (tE C cl E (.bi .listZip es)) := by
  refine PE.imp (pe_lz x.calm (gl_ok x.scp hg).1 (x.bl (by decide)) (gl_ok x.scp hg2).1 (x.bl (by decide)) ha (star_ok hs _ _) (stars_any (es := [e2]) (by simp [hs2]) _ _)) fun σ H Q ⟨F, ι, st, ρ, S, R, w⟩ => ?_
  simp only [evE] at w
  refine ⟨F, ι, st, ρ, S, R, w.bind.imp fun ds F1 ι1 st1 H1 g1 S1 w1 vs r => ?_⟩
  rw [x.k]
  exact evBi_ok S1 r (fun a ha => g1.dom S S1 ha) w1
/-! ### lists by their methods -/
theorem few_ok {es : List Expr} (h : es.all starB = true) (hl : es.length < 20) (pos : Pos) (env : Env) : ((backTo pos (starEach es env)).all (fun x => !x.1) && (backToKw pos (keywordEach [] env)).all (fun x => x.1.isSome)
      && decide (es.length + ([] : List Keyword).length + (if ([] : List Keyword).isEmpty then 0 else 1) < 30)) = true := by
  have h1 : (backTo pos (starEach es env)).all (fun x => !x.1) = true := by
    have := stars_len h env
    simpa [backTo] using this
  rw [h1]
  simp [backToKw, keywordEach]
  omega
theorem p_lm (x : XOk C L T wf ad n N sc E X) {cl : Cll φ} {m : Lm} {a es : IE φ} {o : Expr} {xs : List Expr} {nm : Str} {id : String} {ap pos : Pos} (hm : m.info = some (nm, id)) (hb : baseB o = true) (hl : (ap.endLine == pos.line) = true) (hlen : xs.length < 20)
    (hst : xs.all starB = true) (hn : xs = [] → es = .nil) (ho : PE X o (tE C cl E a)) (ha : PA X xs (tA C cl E es)) : PE X (.Call (.Attribute o nm ap) xs [] pos) (tE C cl E (.lm m a es)) := by
  obtain ⟨s1, s2⟩ := lm_slot hm
  have r := lmr (X := X) hm
  rw [x.k] at r
  have i : ∀ σ H Q, tE C cl E (.lm m a es) σ H Q → tBM X.K "list" (rLm C.K m) (tE C cl E a) (tA C cl E es) σ H Q := fun σ H Q ⟨F, ι, st, ρ, S, R, w⟩ => by
    simp only [evE] at w
    refine bindK S R (fun _ h => h) w fun v d F1 ι1 st1 H1 g1 S1 R1 r1 dom1 w1 => ?_
    split at w1
    · rename_i vs e
      refine ⟨by rw [x.k]; exact ty_list S1 r1 e, F1, ι1, st1, ρ, S1, R1, w1.bind.imp fun ds F2 ι2 st2 H2 g2 S2 w2 us r => ?_⟩
      exact evLm_ok S2 (r1.mono g2.x) r w2
    · exact w1.elim
  cases xs with
  | nil =>
    cases hn rfl
    exact PE.imp (pe_bm0 PySem.F.plainAttrs_list s1 s2 r ho (base_ok hb) hl) fun σ H Q q => tE_mono (i σ H Q q) fun v H1 ⟨h1, h2⟩ => ⟨h1, tA_nil h2⟩
  | cons e xs =>
    have hst' := hst
    simp only [List.all_cons, Bool.and_eq_true] at hst
    exact PE.imp (pe_bm PySem.F.plainAttrs_list s1 s2 r ho ha (base_ok hb) (few_ok hst' hlen _ _) hl (star_ok hst.1 _ _) (stars_any hst.2 _ _)) i
end
end Fd

set_option Elab.async false
set_option linter.all false
set_option maxHeartbeats 1000000
namespace Fd
open PySem L2
variable {φ : Type}
/-- an iterator over these -/
structure SrcOk (C : Gx) (F : Hp) (ι : List Addr) (items : List D) (J : It) : Prop where
  go : ∀ i F' ι' st' H', i < items.length → Ext F ι F' ι' → Sim C F' ι' st' H' → J.go i H'
  stop : ∀ F' ι' st' H', Ext F ι F' ι' → Sim C F' ι' st' H' → J.stop items.length H'
  yld : ∀ i d F' ι' st' H' x H'', items[i]? = some d → Ext F ι F' ι' → Sim C F' ι' st' H' → J.yld i H' x H'' → ∃ F2, Sim C F2 ι' st' H'' ∧ Go F' ι' H' F2 ι' H'' ∧ Rep C F2 ι' x d
section
variable {C : Gx} {F : Hp} {ι : List Addr} {xs ys : List D} {vs ws : List V} {a b : Addr}
theorem so_list (h : F a = some (.lst vs)) (r : RepL C F ι vs xs) : SrcOk C F ι xs (Itl C.K a) where
  go := fun i F' ι' st' H' hi x S => (walk_list (xs := vs)).goes i H' (by rw [r.length]; exact hi) (SqL.of (S.fro _ _ (x.f _ _ h)))
  stop := fun F' ι' st' H' x S => by rw [← r.length]; exact (walk_list (xs := vs)).stops H' (SqL.of (S.fro _ _ (x.f _ _ h)))
  yld := fun i d F' ι' st' H' v H'' hd x S y => by
    obtain ⟨v', q1, q2⟩ := r.get hd
    obtain ⟨rfl, y2⟩ := (walk_list (xs := vs)).yields i H' v H'' (List.getElem?_eq_some_iff.mp q1).1 (SqL.of (S.fro _ _ (x.f _ _ h))) y
    rw [q1] at y2; cases y2
    exact ⟨F', S, .refl, q2.mono x⟩
theorem so_tup (h : F a = some (.tup vs)) (r : RepL C F ι vs xs) : SrcOk C F ι xs (Itt C.K a) where
  go := fun i F' ι' st' H' hi x S => (walk_tup (xs := vs)).goes i H' (by rw [r.length]; exact hi) (SqT.of (S.fro _ _ (x.f _ _ h)))
  stop := fun F' ι' st' H' x S => by rw [← r.length]; exact (walk_tup (xs := vs)).stops H' (SqT.of (S.fro _ _ (x.f _ _ h)))
  yld := fun i d F' ι' st' H' v H'' hd x S y => by
    obtain ⟨v', q1, q2⟩ := r.get hd
    obtain ⟨rfl, y2⟩ := (walk_tup (xs := vs)).yields i H' v H'' (List.getElem?_eq_some_iff.mp q1).1 (SqT.of (S.fro _ _ (x.f _ _ h))) y
    rw [q1] at y2; cases y2
    exact ⟨F', S, .refl, q2.mono x⟩
theorem so_rev (h : F a = some (.lst vs)) (r : RepL C F ι vs xs) : SrcOk C F ι xs.reverse (Itv C.K a vs.length) where
  go := fun i F' ι' st' H' hi x S => (walk_rev (xs := vs)).goes i H' (by rw [r.length]; simpa using hi) (SqL.of (S.fro _ _ (x.f _ _ h)))
  stop := fun F' ι' st' H' x S => by rw [List.length_reverse, ← r.length]; exact (walk_rev (xs := vs)).stops H' (SqL.of (S.fro _ _ (x.f _ _ h)))
  yld := fun i d F' ι' st' H' v H'' hd x S y => by
    have hi : i < xs.length := by simpa using (List.getElem?_eq_some_iff.mp hd).1
    rw [List.getElem?_reverse hi] at hd
    obtain ⟨v', q1, q2⟩ := r.get hd
    obtain ⟨rfl, y2⟩ := (walk_rev (xs := vs)).yields i H' v H'' (by rw [r.length]; exact hi) (SqL.of (S.fro _ _ (x.f _ _ h))) y
    rw [r.length, q1] at y2; cases y2
    exact ⟨F', S, .refl, q2.mono x⟩
theorem so_range {lo : Int} {n : Nat} : SrcOk C F ι ((List.range n).map fun i => .int (lo + (i : Nat))) (Itr lo n) where
  go := fun i F' ι' st' H' hi x S => (by simpa using hi : i < _)
  stop := fun F' ι' st' H' x S => by show n ≤ _; simp
  yld := fun i d F' ι' st' H' v H'' hd x S y => by
    obtain ⟨rfl, rfl⟩ := y
    obtain ⟨hi, e⟩ := List.getElem?_eq_some_iff.mp hd
    simp at e
    subst e
    exact ⟨F', S, .refl, .int _⟩
theorem so_rangeC {lo c : Int} {n : Nat} : SrcOk C F ι ((List.range n).map fun i => .int (lo + (i : Nat) * c)) (Itc lo c n) where
  go := fun i F' ι' st' H' hi x S => (by simpa using hi : i < _)
  stop := fun F' ι' st' H' x S => by show n ≤ _; simp
  yld := fun i d F' ι' st' H' v H'' hd x S y => by
    obtain ⟨rfl, rfl⟩ := y
    obtain ⟨hi, e⟩ := List.getElem?_eq_some_iff.mp hd
    simp at e
    subst e
    exact ⟨F', S, .refl, .int _⟩
theorem so_str {z : Str} : SrcOk C F ι (z.cps.toList.map fun c => .str ⟨#[c]⟩) (Its z) where
  go := fun i F' ι' st' H' hi x S => (by simpa using hi : i < _)
  stop := fun F' ι' st' H' x S => by show z.cps.size ≤ _; simp
  yld := fun i d F' ι' st' H' v H'' hd x S y => by
    obtain ⟨rfl, c, e, rfl⟩ := y
    rw [List.getElem?_map, Array.getElem?_toList, e] at hd
    cases hd
    exact ⟨F', S, .refl, .str _⟩
theorem pair_new {F' : Hp} {ι' : List Addr} {st' : Sto} {H' : Hp} {p : Addr} {x y : V} {d e : D} (S : Sim C F' ι' st' H') (hp : H' p = none) (rx : Rep C F' ι' x d) (ry : Rep C F' ι' y e) : ∃ F2, Sim C F2 ι' st' (upd H' p (.tup [x, y])) ∧ Go F' ι' H' F2 ι' (upd H' p (.tup [x, y])) ∧ Rep C F2 ι' (.ref p) (.tup [d, e]) := by
  obtain ⟨S2, fp, np⟩ := S.more (o := .tup [x, y]) hp
  obtain ⟨S3, x3⟩ := S2.freeze (upd_same (a := p)) fp np (fun _ h => nomatch h)
  exact ⟨_, S3, (Go.more hp).frz hp x3, .tup upd_same (by show 2 ≤ sizeLine; decide) (.cons (rx.mono x3) (.cons (ry.mono x3) .nil))⟩
theorem enumD_get : ∀ {xs : List D} {i k : Nat} {d : D}, (enumD k xs)[i]? = some d → ∃ x, xs[i]? = some x ∧ d = .tup [.int (k + i : Nat), x]
  | [], i, k, d, h => by simp [enumD] at h
  | x :: xs, 0, k, d, h => by simp only [enumD, List.getElem?_cons_zero, Option.some.injEq] at h; subst h; exact ⟨x, rfl, rfl⟩
  | x :: xs, i + 1, k, d, h => by
    simp only [enumD, List.getElem?_cons_succ] at h
    obtain ⟨y, h1, h2⟩ := enumD_get h
    refine ⟨y, by simpa using h1, ?_⟩
    rw [h2]
    have : k + 1 + i = k + (i + 1) := by omega
    rw [this]
theorem enumD_len : ∀ {xs : List D} {k : Nat}, (enumD k xs).length = xs.length
  | [], _ => rfl
  | x :: xs, k => congrArg Nat.succ enumD_len
theorem so_enum (h : F a = some (.lst vs)) (r : RepL C F ι vs xs) : SrcOk C F ι (enumD 0 xs) (Ite C.K a) where
  go := fun i F' ι' st' H' hi x S => (walk_enum (xs := vs)).goes i H' (by rw [r.length, ← enumD_len (k := 0)]; exact hi) (SqL.of (S.fro _ _ (x.f _ _ h)))
  stop := fun F' ι' st' H' x S => by rw [enumD_len, ← r.length]; exact (walk_enum (xs := vs)).stops H' (SqL.of (S.fro _ _ (x.f _ _ h)))
  yld := fun i d F' ι' st' H' v H'' hd x S y => by
    obtain ⟨z, e1, rfl⟩ := enumD_get hd
    obtain ⟨v', q1, q2⟩ := r.get e1
    obtain ⟨p, v1, v2, rfl, hp, rfl, e3, e4⟩ := (walk_enum (xs := vs)).yields i H' v H'' (List.getElem?_eq_some_iff.mp q1).1 (SqL.of (S.fro _ _ (x.f _ _ h))) y
    have e4 : vs[i]? = some v2 := e4
    rw [q1] at e4; cases e4
    cases e3
    rw [Nat.zero_add]
    exact pair_new S hp (.int _) (q2.mono x)
theorem zipD_get : ∀ {xs ys : List D} {i : Nat} {d : D}, (zipD xs ys)[i]? = some d → ∃ x y, xs[i]? = some x ∧ ys[i]? = some y ∧ d = .tup [x, y]
  | [], _, i, d, h => by simp [zipD] at h
  | _ :: _, [], i, d, h => by simp [zipD] at h
  | x :: xs, y :: ys, 0, d, h => by simp only [zipD, List.getElem?_cons_zero, Option.some.injEq] at h; subst h; exact ⟨x, y, rfl, rfl, rfl⟩
  | x :: xs, y :: ys, i + 1, d, h => by
    simp only [zipD, List.getElem?_cons_succ] at h
    obtain ⟨x', y', h1, h2, h3⟩ := zipD_get h
    exact ⟨x', y', by simpa using h1, by simpa using h2, h3⟩
theorem zipD_len : ∀ {xs ys : List D}, (zipD xs ys).length = min xs.length ys.length
  | [], _ => by simp [zipD]
  | _ :: _, [] => by simp [zipD]
  | x :: xs, y :: ys => by simp only [zipD, List.length_cons, zipD_len]; omega
theorem so_zip (h : F a = some (.lst vs)) (r : RepL C F ι vs xs) (h2 : F b = some (.lst ws)) (r2 : RepL C F ι ws ys) : SrcOk C F ι (zipD xs ys) (Itz C.K a b) where
  go := fun i F' ι' st' H' hi x S => (walk_zip (xs := vs) (ys := ws) rfl).goes i H' (by rw [r.length, r2.length, ← zipD_len]; exact hi) ⟨SqL.of (S.fro _ _ (x.f _ _ h)), SqL.of (S.fro _ _ (x.f _ _ h2))⟩
  stop := fun F' ι' st' H' x S => by rw [zipD_len, ← r.length, ← r2.length]; exact (walk_zip (xs := vs) (ys := ws) rfl).stops H' ⟨SqL.of (S.fro _ _ (x.f _ _ h)), SqL.of (S.fro _ _ (x.f _ _ h2))⟩
  yld := fun i d F' ι' st' H' v H'' hd x S y => by
    have hi := (List.getElem?_eq_some_iff.mp hd).1
    obtain ⟨z, z2, e1, e2, rfl⟩ := zipD_get hd
    obtain ⟨v', q1, q2⟩ := r.get e1
    obtain ⟨v'', q3, q4⟩ := r2.get e2
    obtain ⟨p, v1, v2, rfl, hp, rfl, e3, e4⟩ := (walk_zip (xs := vs) (ys := ws) rfl).yields i H' v H'' (by rw [r.length, r2.length, ← zipD_len]; exact hi) ⟨SqL.of (S.fro _ _ (x.f _ _ h)), SqL.of (S.fro _ _ (x.f _ _ h2))⟩ y
    have e3 : vs[i]? = some v1 := e3
    have e4 : ws[i]? = some v2 := e4
    rw [q1] at e3; cases e3
    rw [q3] at e4; cases e4
    exact pair_new S hp (q2.mono x) (q4.mono x)
theorem so_zipT (h : F a = some (.tup vs)) (r : RepL C F ι vs xs) (h2 : F b = some (.tup ws)) (r2 : RepL C F ι ws ys) : SrcOk C F ι (zipD xs ys) (RZ.ItzT C.K a b) where
  go := fun i F' ι' st' H' hi x S => by
    rw [zipD_len, ← r.length, ← r2.length] at hi
    have h1 : i < vs.length := by omega
    have h3 : i < ws.length := by omega
    exact ⟨vs, ws, vs[i], ws[i], SqT.of (S.fro _ _ (x.f _ _ h)), SqT.of (S.fro _ _ (x.f _ _ h2)), by simp [h1], by simp [h3]⟩
  stop := fun F' ι' st' H' x S => ⟨vs, ws, SqT.of (S.fro _ _ (x.f _ _ h)), SqT.of (S.fro _ _ (x.f _ _ h2)), by rw [zipD_len, r.length, r2.length]; omega⟩
  yld := fun i d F' ι' st' H' v H'' hd x S y => by
    obtain ⟨z, z2, e1, e2, rfl⟩ := zipD_get hd
    obtain ⟨v', q1, q2⟩ := r.get e1
    obtain ⟨v'', q3, q4⟩ := r2.get e2
    obtain ⟨p, v1, v2, rfl, hp, rfl, e3, e4⟩ := y
    have e3 := e3 vs (SqT.of (S.fro _ _ (x.f _ _ h)))
    have e4 := e4 ws (SqT.of (S.fro _ _ (x.f _ _ h2)))
    rw [q1] at e3; cases e3
    rw [q3] at e4; cases e4
    exact pair_new S hp (q2.mono x) (q4.mono x)
end
/-! ### sources -/
def tI (C : Gx) (cl : Cll φ) (E : XK) (ir : IE φ) : TI := fun σ H R => ∃ F ι st ρ, Sim C F ι st H ∧ EnvR C F ι ρ σ ∧ Wpr C E (evI cl ir ρ st) F ι H fun s F' ι' st' H' => ∀ J, SrcOk C F' ι' s.items J → R J H'
section
variable {C : Gx} {L : Lk φ} {T : φ → Fn φ} {wf : Nat} {ad : φ → Addr} {n : Nat} {N : List Str} {sc : Scope} {E : XK} {X : Cx}
theorem i_one (x : XOk C L T wf ad n N sc E X) {cl : Cll φ} {a : IE φ} {e tg : Expr} (ha : PE X e (tE C cl E a)) : PI X tg e (tI C cl E (.one a)) := by
  refine PI.imp (Fd.PI.or (Fd.PI.or (pi_list ha) (pi_tup ha)) (pi_str ha)) fun σ H R ⟨F, ι, st, ρ, S, ER, w⟩ => ?_
  simp only [evI] at w
  have k : ∀ (P : VK), (∀ d F1 ι1 st1 H1 v s, srcOf d = some s → vD (evE cl a ρ st) = .ok d st1 → Sim C F1 ι1 st1 H1 → Rep C F1 ι1 v d → (∀ J, SrcOk C F1 ι1 s.items J → R J H1) → P v H1) → tE C cl E a σ H P := fun P f => by
    refine eD S ER ?_
    revert w f
    cases vD (evE cl a ρ st) with
    | exc e st1 => exact fun w _ => w
    | err => exact fun w _ => w
    | ok d st1 =>
      intro w f F1 ι1 H1 g1 S1 v r
      have w : Wpr C E (ofO (srcOf d) st1) F ι H _ := w
      cases e : srcOf d with
      | none => rw [e] at w; exact w.elim
      | some s =>
        rw [e] at w
        exact f d F1 ι1 st1 H1 v s e rfl S1 r (w F1 ι1 H1 g1 S1)
  have lst : ∀ d st1, vD (evE cl a ρ st) = .ok d st1 → (∃ xs, d = .tup xs) → iTup X.K (tE C cl E a) σ H R := fun d st1 e ⟨xs, hd⟩ => k _ fun d' F1 ι1 st1' H1 v s hs e' S1 r q => by
    rw [e] at e'; cases e'; subst hd; cases hs
    cases r with
    | tup h z rl => rw [x.k]; exact ⟨_, rfl, ⟨_, SqT.of (S1.fro _ _ h)⟩, q _ (so_tup h rl)⟩
  have str : ∀ d st1, vD (evE cl a ρ st) = .ok d st1 → (∃ z, d = .str z) → iStr (tE C cl E a) σ H R := fun d st1 e ⟨xs, hd⟩ => k _ fun d' F1 ι1 st1' H1 v s hs e' S1 r q => by
    rw [e] at e'; cases e'; subst hd; cases hs
    exact ⟨_, r.is_str, q _ so_str⟩
  by_cases c1 : ∃ d st1, vD (evE cl a ρ st) = .ok d st1 ∧ ∃ xs, d = .tup xs
  · obtain ⟨d, st1, e, h⟩ := c1; exact .inl (.inr (lst d st1 e h))
  · by_cases c2 : ∃ d st1, vD (evE cl a ρ st) = .ok d st1 ∧ ∃ xs, d = .str xs
    · obtain ⟨d, st1, e, h⟩ := c2; exact .inr (str d st1 e h)
    · refine .inl (.inl (k _ fun d F1 ι1 st1 H1 v s hs e S1 r q => ?_))
      cases d <;> simp only [srcOf] at hs <;> cases hs
      · exact absurd ⟨_, _, e, _, rfl⟩ c2
      · cases r with
        | lst h z rl => rw [x.k]; exact ⟨_, rfl, ⟨_, SqL.of (S1.fro _ _ h)⟩, q _ (so_list h rl)⟩
      · exact absurd ⟨_, _, e, _, rfl⟩ c1
def _root_.Fd.IE.len : IE φ → Nat
  | .cons _ r => r.len + 1
  | _ => 0
theorem evEs_len {cl : Cll φ} (es : IE φ) : ∀ {ρ : Rho} {st st' : Sto} {ds : List D}, evEs cl es ρ st = .ok ds st' → ds.length = es.len := by
  induction es with
  | nil => intro ρ st st' ds h; simp only [evEs] at h; cases h; rfl
  | cons a r _ ih =>
    intro ρ st st' ds h
    simp only [evEs] at h
    cases e : vD (evE cl a ρ st) with
    | ok x st1 =>
      rw [e] at h
      have h : (evEs cl r ρ st1).bind (fun xs st2 => Rs.ok (x :: xs) st2) = .ok ds st' := h
      cases e2 : evEs cl r ρ st1 with
      | ok xs st2 =>
        rw [e2] at h
        cases h
        exact congrArg Nat.succ (ih e2)
      | exc e st2 => rw [e2] at h; cases h
      | err => rw [e2] at h; cases h
    | exc e st1 => rw [e] at h; cases h
    | err => rw [e] at h; cases h
  | _ => intro ρ st st' ds h; simp only [evEs] at h; cases h
theorem i_args {cl : Cll φ} {b : Bi} {es : IE φ} {σ : St} {H : Hp} {R : It → Hp → Prop} {P : List V → Hp → Prop} (hb : ∀ ρ st, evI cl (.bi b es) ρ st = (evEs cl es ρ st).bind fun xs st1 => ofO (srcBi b xs) st1) (h : tI C cl E (.bi b es) σ H R)
    (f : ∀ ds vs s F1 ι1 st1 H1, ds.length = es.len → srcBi b ds = some s → Sim C F1 ι1 st1 H1 → RepL C F1 ι1 vs ds → (∀ J, SrcOk C F1 ι1 s.items J → R J H1) → P vs H1) : tA C cl E es σ H P := by
  obtain ⟨F, ι, st, ρ, S, ER, w⟩ := h
  rw [hb] at w
  refine ⟨F, ι, st, ρ, S, ER, ?_⟩
  have hl : ∀ ds st', evEs cl es ρ st = .ok ds st' → ds.length = es.len := fun _ _ h => evEs_len es h
  revert w hl
  cases evEs cl es ρ st with
  | exc e st1 => exact fun w _ => w
  | err => exact fun w _ => w
  | ok ds st1 =>
    intro w hl F1 ι1 H1 g1 S1 vs r
    have w : Wpr C E (ofO (srcBi b ds) st1) F ι H _ := w
    cases e : srcBi b ds with
    | none => rw [e] at w; exact w.elim
    | some s => rw [e] at w; exact f ds vs s F1 ι1 st1 H1 (hl _ _ rfl) e S1 r (w F1 ι1 H1 g1 S1)
theorem rep3 {F : Hp} {ι : List Addr} {vs : List V} {d e f : D} (r : RepL C F ι vs [d, e, f]) : ∃ v w u, vs = [v, w, u] ∧ Rep C F ι v d ∧ Rep C F ι w e ∧ Rep C F ι u f := by
  cases r with | cons a b => cases b with | cons a2 b2 => cases b2 with | cons a3 b3 => cases b3; exact ⟨_, _, _, rfl, a, a2, a3⟩
theorem len2 {α : Type} : ∀ {l : List α}, l.length = 2 → ∃ a b, l = [a, b]
  | [a, b], _ => ⟨a, b, rfl⟩
theorem len3 {α : Type} : ∀ {l : List α}, l.length = 3 → ∃ a b c, l = [a, b, c]
  | [a, b, c], _ => ⟨a, b, c, rfl⟩
theorem i_range1 (x : XOk C L T wf ad n N sc E X) {cl : Cll φ} {es : IE φ} {a tg : Expr} {p pos : Pos} (hg : glB sc "range" = true) (hst : starB a = true) (hl : es.len = 1) (ha : PA X [a] (tA C cl E es)) :
    PI X tg (.Call (.Name "range" p) [a] [] pos) (tI C cl E (.bi .range es)) := by
  refine PI.imp (pi_range1 (gl_ok x.scp hg).1 (x.bl (by decide)) ha (star_ok hst _ _)) fun σ H R h => i_args (fun _ _ => by simp only [evI]) h fun ds vs s F1 ι1 st1 H1 len e S1 r q => ?_
  rw [hl] at len
  obtain ⟨d, rfl⟩ := List.length_eq_one_iff.mp len
  cases d <;> simp only [srcBi] at e <;> try cases e
  split at e
  · rename_i j hj
    cases e
    obtain ⟨v, rfl, r1⟩ := rep1 r
    exact ⟨_, by rw [r1.is_int], hj.1, hj.2, q _ so_range⟩
  · cases e
theorem i_range2 (x : XOk C L T wf ad n N sc E X) {cl : Cll φ} {es : IE φ} {a b tg : Expr} {p pos : Pos} (hg : glB sc "range" = true) (hst : starB a = true) (hst2 : starB b = true) (hl : es.len = 2) (ha : PA X [a, b] (tA C cl E es)) :
    PI X tg (.Call (.Name "range" p) [a, b] [] pos) (tI C cl E (.bi .range es)) := by
  refine PI.imp (pi_range2 (gl_ok x.scp hg).1 (x.bl (by decide)) ha (by rw [star_ok hst, star_ok hst2]; rfl) (star_ok hst2 _ _)) fun σ H R h => i_args (fun _ _ => by simp only [evI]) h fun ds vs s F1 ι1 st1 H1 len e S1 r q => ?_
  rw [hl] at len
  obtain ⟨d, d2, rfl⟩ := len2 len
  cases d <;> cases d2 <;> simp only [srcBi] at e <;> try cases e
  split at e
  · rename_i i j hj
    cases e
    obtain ⟨v, w, rfl, r1, r2⟩ := rep2 r
    exact ⟨_, _, by rw [r1.is_int, r2.is_int], ⟨hj.1.1, hj.1.2, hj.2.1, hj.2.2⟩, q _ so_range⟩
  · cases e
theorem i_range3 (x : XOk C L T wf ad n N sc E X) {cl : Cll φ} {es : IE φ} {a b c tg : Expr} {p pos : Pos} (hg : glB sc "range" = true) (hst : starB a = true) (hst2 : starB b = true) (hst3 : starB c = true) (hl : es.len = 3) (ha : PA X [a, b, c] (tA C cl E es)) :
    PI X tg (.Call (.Name "range" p) [a, b, c] [] pos) (tI C cl E (.bi .range es)) := by
  refine PI.imp (pi_range3 (gl_ok x.scp hg).1 (x.bl (by decide)) ha (star_ok hst _ _) (stars_any (es := [b, c]) (by simp [hst2, hst3]) _ _)) fun σ H R h => i_args (fun _ _ => by simp only [evI]) h fun ds vs s F1 ι1 st1 H1 len e S1 r q => ?_
  rw [hl] at len
  obtain ⟨d, d2, d3, rfl⟩ := len3 len
  cases d <;> cases d2 <;> cases d3 <;> simp only [srcBi] at e <;> try cases e
  split at e
  · rename_i i j k hj
    cases e
    obtain ⟨v, w, u, rfl, r1, r2, r3⟩ := rep3 r
    obtain ⟨h1, h2, rfl⟩ := hj
    exact ⟨_, _, _, _, by rw [r1.is_int, r2.is_int, r3.is_int], RgC.neg h1.1 h1.2 h2.1 h2.2, q _ so_rangeC⟩
  · cases e
theorem i_enum (x : XOk C L T wf ad n N sc E X) {cl : Cll φ} {es : IE φ} {a : Expr} {elts : List Expr} {kk : Nat} {tp p pos : Pos} (hg : glB sc "enumerate" = true) (hst : starB a = true) (hl : es.len = 1) (ha : PA X [a] (tA C cl E es)) :
    PI X (.Tuple elts kk tp) (.Call (.Name "enumerate" p) [a] [] pos) (tI C cl E (.bi .enum es)) := by
  refine PI.imp (pi_enum (gl_ok x.scp hg).1 (x.bl (by decide)) ha (star_ok hst _ _)) fun σ H R h => i_args (fun _ _ => by simp only [evI]) h fun ds vs s F1 ι1 st1 H1 len e S1 r q => ?_
  rw [hl] at len
  obtain ⟨d, rfl⟩ := List.length_eq_one_iff.mp len
  obtain ⟨xs, e1, rfl⟩ := Option.map_eq_some_iff.mp (show (lstF d).map Src.enum = some s by cases d <;> exact e)
  obtain ⟨v, rfl, r1⟩ := rep1 r
  obtain ⟨p, ws, rfl, h1, z, rl⟩ := lstF_rep S1 r1 e1
  rw [x.k]
  exact ⟨p, ws, rfl, SqL.of (S1.fro _ _ h1), q _ (so_enum h1 rl)⟩
theorem i_rev (x : XOk C L T wf ad n N sc E X) {cl : Cll φ} {es : IE φ} {a tg : Expr} {p pos : Pos} (hg : glB sc "reversed" = true) (hst : starB a = true) (hl : es.len = 1) (ha : PA X [a] (tA C cl E es)) :
    PI X tg (.Call (.Name "reversed" p) [a] [] pos) (tI C cl E (.bi .rev es)) := by
  refine PI.imp (pi_reversed (gl_ok x.scp hg).1 (x.bl (by decide)) ha (star_ok hst _ _)) fun σ H R h => i_args (fun _ _ => by simp only [evI]) h fun ds vs s F1 ι1 st1 H1 len e S1 r q => ?_
  rw [hl] at len
  obtain ⟨d, rfl⟩ := List.length_eq_one_iff.mp len
  obtain ⟨xs, e1, rfl⟩ := Option.map_eq_some_iff.mp (show (lstF d).map Src.rev = some s by cases d <;> exact e)
  obtain ⟨v, rfl, r1⟩ := rep1 r
  obtain ⟨p, ws, rfl, h1, z, rl⟩ := lstF_rep S1 r1 e1
  rw [x.k]
  exact ⟨p, ws, rfl, SqL.of (S1.fro _ _ h1), q _ (so_rev h1 rl)⟩
theorem i_zip (x : XOk C L T wf ad n N sc E X) {cl : Cll φ} {es : IE φ} {a b : Expr} {elts : List Expr} {kk : Nat} {tp p pos : Pos} (hg : glB sc "zip" = true) (hst : starB a = true) (hst2 : starB b = true) (hl : es.len = 2) (ha : PA X [a, b] (tA C cl E es)) :
    PI X (.Tuple elts kk tp) (.Call (.Name "zip" p) [a, b] [] pos) (tI C cl E (.bi .zip es)) := by
  refine PI.imp (RZ.pi_zipA (gl_ok x.scp hg).1 (x.bl (by decide)) ha (star_ok hst _ _) (stars_any (es := [b]) (by simp [hst2]) _ _)) fun σ H R h => i_args (fun _ _ => by simp only [evI]) h fun ds vs s F1 ι1 st1 H1 len e S1 r q => ?_
  rw [hl] at len
  obtain ⟨d, d2, rfl⟩ := len2 len
  have e : (match lstF d, lstF d2 with
    | some xs, some ys => some (Src.zip xs ys)
    | _, _ => match tupF d, tupF d2 with
      | some xs, some ys => some (.zipT xs ys)
      | _, _ => none) = some s := by cases d <;> cases d2 <;> exact e
  obtain ⟨v, w, rfl, r1, r2⟩ := rep2 r
  split at e
  · rename_i xs ys e1 e2
    cases e
    obtain ⟨p, ws, rfl, h1, z, rl⟩ := lstF_rep S1 r1 e1
    obtain ⟨p2, us, rfl, h2, z2, rl2⟩ := lstF_rep S1 r2 e2
    rw [x.k]
    exact ⟨p, p2, ws, us, rfl, .inl ⟨SqL.of (S1.fro _ _ h1), SqL.of (S1.fro _ _ h2), q _ (so_zip h1 rl h2 rl2)⟩⟩
  · split at e
    · rename_i xs ys e1 e2
      cases e
      obtain ⟨p, ws, rfl, h1, z, rl⟩ := tupF_rep r1 e1
      obtain ⟨p2, us, rfl, h2, z2, rl2⟩ := tupF_rep r2 e2
      rw [x.k]
      exact ⟨p, p2, ws, us, rfl, .inr ⟨SqT.of (S1.fro _ _ h1), SqT.of (S1.fro _ _ h2), q _ (so_zipT h1 rl h2 rl2)⟩⟩
    · cases e
end
end Fd

set_option Elab.async false
set_option linter.all false
set_option maxHeartbeats 1000000
namespace Fd
open PySem L2
variable {φ : Type}
def Tg.vars : Tg → List Nat
  | .nm i => [i]
  | .tu t => t.vars
  | .nil => []
  | .cons t r => t.vars ++ r.vars
/-- but for the target's slots as it was -/
def SameO (t : Tg) (σ σ' : St) : Prop := σ'.length = σ.length ∧ ∀ i, i ∉ t.vars → σ'[i]? = σ[i]?
def tG (C : Gx) (t : Tg) : TG := fun v σ H Q => ∃ F ι st ρ d ρ', Sim C F ι st H ∧ EnvR C F ι ρ σ ∧ Rep C F ι v d ∧ asgT t d st ρ = some ρ' ∧ ∀ σ', EnvR C F ι ρ' σ' → SameO t σ σ' → Q σ' H
def tGs (C : Gx) (t : Tg) : TGs := fun vs σ H Q => ∃ F ι st ρ ds ρ', Sim C F ι st H ∧ EnvR C F ι ρ σ ∧ RepL C F ι vs ds ∧ asgTs t ds st ρ = some ρ' ∧ ∀ σ', EnvR C F ι ρ' σ' → SameO t σ σ' → Q σ' H
theorem PG.imp {X : Cx} {e : Expr} {t t' : TG} (h : PG X e t) (f : ∀ v σ H Q, t' v σ H Q → t v σ H Q) : PG X e t' := ⟨fun pins s σ H v u Q I r w => h.run pins s σ H v u Q I r (f v σ H Q w)⟩
theorem PGs.imp {X : Cx} {e : List Expr} {t t' : TGs} (h : PGs X e t) (f : ∀ v σ H Q, t' v σ H Q → t v σ H Q) : PGs X e t' := ⟨fun pins s σ H v u Q I r w => h.run pins s σ H v u Q I r (f v σ H Q w)⟩
theorem EnvR.set {C : Gx} {F : Hp} {ι : List Addr} {ρ : Rho} {σ : St} {v : V} {d : D} {i : Nat} (h : EnvR C F ι ρ σ) (r : Rep C F ι v d) : EnvR C F ι (ρ.set i (some d)) (σ.set i (some v)) := by
  refine ⟨by simp [h.1], fun j e he => ?_⟩
  by_cases c : i = j
  · subst c
    have hl : i < ρ.length := by
      have := (List.getElem?_eq_some_iff.mp he).1
      simpa using this
    rw [List.getElem?_set_self hl] at he
    cases he
    exact ⟨v, by rw [List.getElem?_set_self (by rw [← h.1]; exact hl)], r⟩
  · rw [List.getElem?_set_ne c] at he ⊢
    exact h.2 j e he
theorem assign_star {e : Expr} (h : starB e = true) (es : List Expr) (env : Env) : assignEach (e :: es) env = (false, assign e env) :: assignEach es env := by
  cases e <;> first | rfl | cases h
theorem asg_len {es : List Expr} (h : es.all starB = true) (env : Env) : (assignEach es env).length = es.length ∧ (assignEach es env).findIdx? (·.1) = none := by
  induction es with
  | nil => exact ⟨rfl, rfl⟩
  | cons e es ih =>
    simp only [List.all_cons, Bool.and_eq_true] at h
    rw [assign_star h.1]
    obtain ⟨h1, h2⟩ := ih h.2
    exact ⟨by simp [h1], by simp [List.findIdx?_cons, h2]⟩
def Tg.len : Tg → Nat
  | .cons _ r => r.len + 1
  | _ => 0
theorem asgTs_len : ∀ {t : Tg} {ds : List D} {st : Sto} {ρ ρ' : Rho}, asgTs t ds st ρ = some ρ' → ds.length = t.len
  | .nil, [], _, _, _, _ => rfl
  | .cons t r, d :: ds, st, ρ, ρ', h => by
    simp only [asgTs] at h
    obtain ⟨ρ1, h1, h2⟩ := Option.bind_eq_some_iff.mp h
    exact congrArg Nat.succ (asgTs_len h2)
  | .nil, _ :: _, _, _, _, h => by simp only [asgTs] at h; cases h
  | .cons .., [], _, _, _, h => by simp only [asgTs] at h; cases h
  | .nm _, _, _, _, _, h => by simp only [asgTs] at h; cases h
  | .tu _, _, _, _, _, h => by simp only [asgTs] at h; cases h
mutual
def gB (N : List Str) (fn : Str → Bool) (sc : Scope) : Tg → Expr → Bool
  | .nm i, e => match e with
    | .Name x _ => nmB N i x && locB sc x && (fn x || (match sc.names.lookup x with | some .local => true | _ => false))
    | _ => false
  | .tu t, e => match e with
    | .Tuple es _ _ => gsB N fn sc t es && es.all starB && (t.len == es.length)
    | _ => false
  | _, _ => false
def gsB (N : List Str) (fn : Str → Bool) (sc : Scope) : Tg → List Expr → Bool
  | .nil, es => es.isEmpty
  | .cons t r, es => match es with
    | e :: es => starB e && gB N fn sc t e && gsB N fn sc r es
    | [] => false
  | _, _ => false
end
section
variable {C : Gx} {L : Lk φ} {T : φ → Fn φ} {wf : Nat} {ad : φ → Addr} {n : Nat} {N : List Str} {sc : Scope} {E : XK} {X : Cx}
mutual
theorem g_ok (x : XOk C L T wf ad n N sc E X) : ∀ {t : Tg} {e : Expr}, gB N X.fn sc t e = true → PG X e (tG C t)
  | .nm i, e, h => by
    simp only [gB] at h
    split at h
    · rename_i y p
      simp only [Bool.and_eq_true, Bool.or_eq_true] at h
      obtain ⟨⟨h1, h2⟩, h3⟩ := h
      refine PG.imp (pg_name (i := i) (by rw [x.nms]; exact x.nd) (by rw [x.nms]; exact of_decide_eq_true h1) (by rw [x.scp]; exact loc_ok h2) ?_) fun v σ H Q ⟨F, ι, st, ρ, d, ρ', S, ER, r, ha, q⟩ => ?_
      · rcases h3 with h3 | h3
        · exact .inl h3
        · right
          rw [x.scp]
          split at h3
          · assumption
          · cases h3
      · simp only [asgT] at ha
        cases ha
        exact q _ (ER.set r) ⟨by simp, fun j hj => by rw [List.getElem?_set_ne (fun e => hj (by simp [Tg.vars, e]))]⟩
    · cases h
  | .tu t, e, h => by
    simp only [gB] at h
    split at h
    · rename_i es k p
      simp only [Bool.and_eq_true, beq_iff_eq] at h
      obtain ⟨⟨h1, h2⟩, h3⟩ := h
      obtain ⟨l1, l2⟩ := asg_len h2 X.env
      refine PG.imp (pg_tup x.calm (gs_ok x h1) l1 l2) fun v σ H Q ⟨F, ι, st, ρ, d, ρ', S, ER, r, ha, q⟩ => ?_
      simp only [asgT] at ha
      obtain ⟨xs, e1, e2⟩ := Option.bind_eq_some_iff.mp ha
      obtain ⟨a, vs, rfl, hF, z, rl⟩ := tupF_rep r e1
      have rl' := S.resL rl
      have len := asgTs_len e2
      rw [x.k]
      refine ⟨a, vs, rfl, SqT.of (S.fro _ _ hF), ?_, F, ι, st, ρ, _, ρ', S, ER, rl', e2, q⟩
      have := rl'.length
      omega
    · cases h
  | .nil, e, h => by simp only [gB] at h; cases h
  | .cons .., e, h => by simp only [gB] at h; cases h
theorem gs_ok (x : XOk C L T wf ad n N sc E X) : ∀ {t : Tg} {es : List Expr}, gsB N X.fn sc t es = true → PGs X es (tGs C t)
  | .nil, es, h => by
    simp only [gsB, List.isEmpty_iff] at h
    subst h
    refine PGs.imp pgs_nil fun v σ H Q ⟨F, ι, st, ρ, d, ρ', S, ER, r, ha, q⟩ => ?_
    cases r with
    | nil =>
      simp only [asgTs] at ha
      cases ha
      exact ⟨rfl, q σ ER ⟨rfl, fun _ _ => rfl⟩⟩
    | cons a b => simp only [asgTs] at ha; cases ha
  | .cons t r, es, h => by
    simp only [gsB] at h
    split at h
    · rename_i e es
      simp only [Bool.and_eq_true] at h
      obtain ⟨⟨h1, h2⟩, h3⟩ := h
      refine PGs.imp (pgs_cons (g_ok x h2) (gs_ok x h3) (by rw [assign_star h1]; rfl)) fun v σ H Q ⟨F, ι, st, ρ, d, ρ', S, ER, rl, ha, q⟩ => ?_
      cases rl with
      | nil => simp only [asgTs] at ha; cases ha
      | cons a b =>
        simp only [asgTs] at ha
        obtain ⟨ρ1, e1, e2⟩ := Option.bind_eq_some_iff.mp ha
        refine ⟨_, _, rfl, F, ι, st, ρ, _, ρ1, S, ER, a, e1, fun σ1 ER1 so1 => ?_⟩
        refine ⟨F, ι, st, ρ1, _, ρ', S, ER1, b, e2, fun σ2 ER2 so2 => q σ2 ER2 ⟨so2.1.trans so1.1, fun i hi => ?_⟩⟩
        simp only [Tg.vars, List.mem_append, not_or] at hi
        rw [so2.2 i hi.2, so1.2 i hi.1]
    · cases h
  | .nm _, es, h => by simp only [gsB] at h; cases h
  | .tu _, es, h => by simp only [gsB] at h; cases h
end
/-! ### comprehensions -/
theorem wipe_get (σ : St) : ∀ (vs : List Nat) (i : Nat), (wipe σ vs)[i]? = if i ∈ vs then (σ[i]?).map (fun _ => none) else σ[i]?
  | [], i => by simp [wipe]
  | v :: vs, i => by
    unfold wipe
    by_cases e : v = i
    · subst e
      by_cases hl : v < (wipe σ vs).length
      · rw [List.getElem?_set_self hl, if_pos List.mem_cons_self]
        rw [wipe_length] at hl
        rw [List.getElem?_eq_getElem hl]
        rfl
      · rw [List.getElem?_eq_none (by simpa using hl), if_pos List.mem_cons_self]
        rw [wipe_length] at hl
        rw [List.getElem?_eq_none (by omega)]
        rfl
    · rw [List.getElem?_set_ne e, wipe_get σ vs i]
      by_cases m : i ∈ vs
      · rw [if_pos m, if_pos (List.mem_cons_of_mem _ m)]
      · rw [if_neg m, if_neg (by simp only [List.mem_cons, not_or]; exact ⟨fun z => e z.symm, m⟩)]
theorem wipe_same {t : Tg} {σ σ' : St} {vs : List Nat} (h : SameO t (wipe σ vs) σ') (hv : ∀ i ∈ t.vars, i ∈ vs) : wipe σ' vs = wipe σ vs := by
  apply List.ext_getElem?
  intro i
  rw [wipe_get, wipe_get]
  by_cases m : i ∈ vs
  · rw [if_pos m, if_pos m]
    have hl : σ'.length = σ.length := by rw [h.1, wipe_length]
    by_cases c : i < σ.length
    · rw [List.getElem?_eq_getElem c, List.getElem?_eq_getElem (by omega)]; rfl
    · rw [List.getElem?_eq_none (by omega), List.getElem?_eq_none (by omega)]
  · rw [if_neg m, if_neg m, h.2 i (fun z => m (hv i z)), wipe_get, if_neg m]
theorem wipeR_length (ρ : Rho) : ∀ vs : List Nat, (wipeR ρ vs).length = ρ.length
  | [] => rfl
  | v :: vs => by unfold wipeR; rw [List.length_set, wipeR_length ρ vs]
theorem wipeR_some {ρ : Rho} {i : Nat} {x : D} : ∀ {vs : List Nat}, (wipeR ρ vs)[i]? = some (some x) → ρ[i]? = some (some x) ∧ i ∉ vs
  | [], h => ⟨h, by simp⟩
  | v :: vs, h => by
    unfold wipeR at h
    by_cases hi : v = i
    · subst hi
      by_cases hv : v < (wipeR ρ vs).length
      · rw [List.getElem?_set_self hv] at h; cases h
      · rw [List.getElem?_eq_none (by simpa using hv)] at h; cases h
    · rw [List.getElem?_set_ne hi] at h
      obtain ⟨h1, h2⟩ := wipeR_some h
      exact ⟨h1, by simp only [List.mem_cons, not_or]; exact ⟨fun e => hi e.symm, h2⟩⟩
theorem EnvR.wipe {F : Hp} {ι : List Addr} {ρ : Rho} {σ : St} (h : EnvR C F ι ρ σ) (vs : List Nat) : EnvR C F ι (wipeR ρ vs) (L2.wipe σ vs) := by
  refine ⟨by rw [wipeR_length, wipe_length, h.1], fun i d e => ?_⟩
  obtain ⟨h1, h2⟩ := wipeR_some e
  obtain ⟨v, h3, h4⟩ := h.2 i d h1
  exact ⟨v, by rw [wipe_get, if_neg h2]; exact h3, h4⟩
/-- what a comprehension asks behind its source -/
def lcRest (J : It) (g : TG) (tt : TT) (te : TE) (vs : List Nat) (σ : St) (H1 : Hp) (Q : VK) : Prop := ∀ D, H1 D = none → ∃ W : Nat → Nat → Hp → Prop, (∃ m, W 0 m (upd H1 D (.lst []))) ∧ ∀ i m H, W i m H →
  (J.stop i H ∧ Q (.ref D) H) ∨ (J.go i H ∧ ∃ Nx : Hp → Prop, (∀ H', Nx H' → ∃ m', m' < m ∧ W (i + 1) m' H') ∧ ∀ x H', J.yld i H x H' → g x (wipe σ vs) H' fun σ2 H2 => wipe σ2 vs = wipe σ vs ∧ tt σ2 H2 fun b H3 =>
    if b = true then te σ2 H3 fun y H4 => ∃ acc, H4 D = some (.lst acc) ∧ acc.length < sizeLine ∧ Nx (upd H4 D (.lst (acc ++ [y]))) else Nx H3)
theorem i_lc0 {cl : Cll φ} {own : List Nat} {t : Tg} {cond elt : IE φ} (hv : ∀ i ∈ t.vars, i ∈ own) {σ : St} {H H1 : Hp} {Q : VK} {F1 : Hp} {ι1 : List Addr} {st1 : Sto} {ρ : Rho} {items : List Fd.D} {J : It} (S1 : Sim C F1 ι1 st1 H1) (ER1 : EnvR C F1 ι1 ρ σ) (dom : ∀ a, H1 a = none → H a = none) (so : SrcOk C F1 ι1 items J)
    (w1 : Wpr C E ((lcLoop t (wipeR ρ own) (fun ρ1 st => vD (evE cl cond ρ1 st)) (fun ρ1 st => vD (evE cl elt ρ1 st)) items [] st1).map fun xs => Wv.fr (.lst xs)) F1 ι1 H1 (Kq C H Q)) :
    lcRest J (tG C t) (tT C cl (fun _ _ _ => False) cond) (tE C cl (fun _ _ _ => False) elt) own σ H1 Q := by
  intro D hD
  have h0D : H D = none := dom D hD
  generalize hρ : wipeR ρ (own) = ρ0 at w1
  have ER0 : EnvR C F1 ι1 ρ0 (wipe σ (own)) := hρ ▸ ER1.wipe _
  let Pv : Nat → Hp → Prop := fun i H' => ∃ F' ι' st' acc accV, Go F1 ι1 H1 F' ι' H' ∧ Sim C F' ι' st' H' ∧ F' D = none ∧ D ∉ ι' ∧ H' D = some (.lst accV) ∧ RepL C F' ι' accV acc ∧ acc.length ≤ lim ∧
    Wpr C E ((lcLoop t ρ0 (fun ρ1 st => vD (evE cl cond ρ1 st)) (fun ρ1 st => vD (evE cl elt ρ1 st)) (items.drop i) acc st').map fun xs => Wv.fr (.lst xs)) F1 ι1 H1 (Kq C H Q)
  refine ⟨fun i m H => m = items.length - i ∧ i ≤ items.length ∧ Pv i H, ⟨items.length, by simp, Nat.zero_le _, ?_⟩, ?_⟩
  · obtain ⟨S2, fD, nD⟩ := S1.more (o := .lst []) hD
    exact ⟨F1, ι1, st1, [], [], Go.more hD, S2, fD, nD, upd_same, .nil, Nat.zero_le _, by rw [List.drop_zero]; exact w1⟩
  rintro i m H2 ⟨rfl, hle, F2, ι2, st2, acc, accV, g2, S2, fD, nD, hHD, rl, hal, w2⟩
  by_cases hlt : i < items.length
  · refine .inr ⟨so.go i F2 ι2 st2 H2 hlt g2.x S2, Pv (i + 1), fun H' p' => ⟨items.length - (i + 1), by omega, rfl, hlt, p'⟩, fun v H3 y => ?_⟩
    obtain ⟨F3, S3, g3, r3⟩ := so.yld i _ F2 ι2 st2 H2 v H3 (List.getElem?_eq_getElem hlt) g2.x S2 y
    obtain ⟨hHD3, fD3, nD3⟩ := g3.fr D _ hHD fD nD
    rw [List.drop_eq_getElem_cons hlt] at w2
    simp only [lcLoop] at w2
    have g13 := g2.trans g3
    cases ea : asgT t items[i] st2 ρ0 with
    | none => rw [ea] at w2; exact w2.elim
    | some ρ1 =>
      simp only [ea] at w2
      refine ⟨F3, ι2, st2, ρ0, _, ρ1, S3, ER0.mono g13.x, r3, ea, fun σ3 ER3 so3 => ⟨wipe_same so3 hv, F3, ι2, st2, ρ1, S3, ER3, ?_⟩⟩
      revert w2
      cases ec : vD (evE cl cond ρ1 st2) with
      | exc e st4 => exact fun w2 => w2.elim
      | err => exact fun w2 => w2.elim
      | ok b st4 =>
        intro w2 F4 ι4 H4 g4 S4
        obtain ⟨hHD4, fD4, nD4⟩ := g4.fr D _ hHD3 fD3 nD3
        have g14 := g13.trans g4
        cases b with
        | bl b =>
          refine ⟨b, rfl, ?_⟩
          cases b with
          | false =>
            exact ⟨F4, ι4, st4, acc, accV, g14, S4, fD4, nD4, hHD4, (rl.mono g3.x).mono g4.x, hal, w2⟩
          | true =>
            rw [if_pos rfl]
            refine eD S4 (ER3.mono g4.x) ?_
            revert w2
            simp only
            cases ee : vD (evE cl elt ρ1 st4) with
            | exc e st5 => exact fun w2 => w2.elim
            | err => exact fun w2 => w2.elim
            | ok d st5 =>
              intro w2 F5 ι5 H5 g5 S5 u ru
              obtain ⟨hHD5, fD5, nD5⟩ := g5.fr D _ hHD4 fD4 nD4
              simp only at w2
              have rl5 := ((rl.mono g3.x).mono g4.x).mono g5.x
              split at w2
              · rename_i hz
                refine ⟨accV, hHD5, by rw [rl5.length, ← lim_eq]; exact hz, F5, ι5, st5, acc ++ [d], accV ++ [u], (g14.trans g5).side hD, S5.side fD5 nD5, fD5, nD5, upd_same, rl5.append (.cons ru .nil), ?_, w2⟩
                rw [List.length_append]; simp only [List.length_cons, List.length_nil]; omega
              · exact w2.elim
        | _ => exact w2.elim
  · have e : i = items.length := by omega
    subst e
    refine .inl ⟨so.stop F2 ι2 st2 H2 g2.x S2, ?_⟩
    rw [List.drop_length] at w2
    simp only [lcLoop] at w2
    exact w2 F2 ι2 H2 g2 S2 _ ⟨D, rfl, h0D, fD, nD, accV, hHD, by rw [← lim_eq]; exact hal, rl⟩
theorem i_lc {cl : Cll φ} {own : List Nat} {t : Tg} {it cond elt : IE φ} (hv : ∀ i ∈ t.vars, i ∈ own) {σ : St} {H : Hp} {Q : VK} (h : tE C cl E (.lc own t it cond elt) σ H Q) :
    tLc (tI C cl E it) (tG C t) (tT C cl (fun _ _ _ => False) cond) (tE C cl (fun _ _ _ => False) elt) own σ H Q := by
  obtain ⟨F, ι, st, ρ, S, ER, w⟩ := h
  simp only [evE] at w
  exact ⟨F, ι, st, ρ, S, ER, w.bind.imp fun s F1 ι1 st1 H1 g1 S1 w1 J so => i_lc0 hv S1 (ER.mono g1.x) (fun a ha => g1.dom S S1 ha) so w1⟩
theorem p_lc (x : XOk C L T wf ad n N sc E X) {cl : Cll φ} {own : List (Str × Nat)} {t : Tg} {it cond elt : IE φ} {eelt tg iter : Expr} {ifs : List Expr} {scope : Scope} {pos : Pos}
    (hi : PI X tg iter (tI C cl E it)) (hb : blkC N sc scope own = true) (hv : ∀ i ∈ t.vars, i ∈ own.map (·.2))
    (hg : ∀ (s : Shared) (H : Hp) (c : Addr) (cls : List (Str × Addr)) (fp : List Addr), PG (X.blk s H scope (compEnvC scope cls c X.env) fp) tg (tG C t))
    (ht : ∀ (s : Shared) (H : Hp) (c : Addr) (cls : List (Str × Addr)) (fp : List Addr), PTs (X.blk s H scope (compEnvC scope cls c X.env) fp) ifs (tT C cl (fun _ _ _ => False) cond))
    (he : ∀ (s : Shared) (H : Hp) (c : Addr) (cls : List (Str × Addr)) (fp : List Addr), PE (X.blk s H scope (compEnvC scope cls c X.env) fp) eelt (tE C cl (fun _ _ _ => False) elt))
    (hs : ∀ y, foldedSetIterable iter X.env y = pure y) : PE X (.ListComp eelt [⟨tg, iter, ifs, 0⟩] scope pos) (tE C cl E (.lc (own.map (·.2)) t it cond elt)) := by
  exact PE.imp (pe_lc x.calm (by rw [x.nms]; exact x.nd) hi (by rw [x.nms, x.scp]; exact blkOk_by hb) hg ht he hs) fun σ H Q h => i_lc hv h
end
end Fd

set_option Elab.async false
set_option linter.all false
set_option maxHeartbeats 1000000
namespace Fd
open PySem L2
variable {φ : Type}
def WpS (C : Gx) (E : XK) (r : Rt) (F : Hp) (ι : List Addr) (H : Hp) (D : Ends) : Prop := match r with
  | .next ρ' st' => ∀ F' ι' H' σ', Go F ι H F' ι' H' → Sim C F' ι' st' H' → EnvR C F' ι' ρ' σ' → D.nx σ' H'
  | .ret w st' => ∀ F' ι' H' v, Go F ι H F' ι' H' → Sim C F' ι' st' H' → RepW C F' ι' H H' v w → D.rt v H'
  | .exc e _ st' => ∀ F' ι' H' cl d, Go F ι H F' ι' H' → Sim C F' ι' st' H' → ExR C F' ι' H' cl d e → E cl d H'
  | .err => False
def tS (C : Gx) (cl : Cll φ) (wf : Nat) (E : XK) (ir : IS φ) : TS := fun D σ H => ∃ F ι st ρ, Sim C F ι st H ∧ EnvR C F ι ρ σ ∧ WpS C E (exS cl wf ir ρ st) F ι H D
section
variable {C : Gx} {L : Lk φ} {T : φ → Fn φ} {wf : Nat} {ad : φ → Addr} {n : Nat} {N : List Str} {sc : Scope} {E : XK} {X : Cx}
theorem RepW.dom {F' : Hp} {ι' : List Addr} {H H2 H' : Hp} {v : V} {w : Wv} (dom : ∀ a, H2 a = none → H a = none) (r : RepW C F' ι' H2 H' v w) : RepW C F' ι' H H' v w := by
  cases w with
  | d x => exact r
  | fr c => obtain ⟨a, h1, h2, h3⟩ := r; exact ⟨a, h1, dom a h2, h3⟩
theorem WpS.go {r : Rt} {F F2 : Hp} {ι ι2 : List Addr} {st st2 : Sto} {H H2 : Hp} {D : Ends} (w : WpS C E r F ι H D) (g : Go F ι H F2 ι2 H2) (S : Sim C F ι st H) (S2 : Sim C F2 ι2 st2 H2) : WpS C E r F2 ι2 H2 D := by
  cases r with
  | next ρ' st' => exact fun F' ι' H' σ' g' => w F' ι' H' σ' (g.trans g')
  | ret w' st' => exact fun F' ι' H' v g' S' r => w F' ι' H' v (g.trans g') S' (r.dom fun a ha => g.dom S S2 ha)
  | exc e ρ' st' => exact fun F' ι' H' cl d g' => w F' ι' H' cl d (g.trans g')
  | err => exact w
theorem WpS.st {α : Type} {r : Rs α} {f : α → Sto → Rt} {F : Hp} {ι : List Addr} {st : Sto} {ρ : Rho} {H : Hp} {D : Ends} (S : Sim C F ι st H) (w : WpS C E (r.st ρ f) F ι H D) : Wpr C E r F ι H fun a F1 ι1 st1 H1 => WpS C E (f a st1) F1 ι1 H1 D := by
  cases r with
  | ok a st1 => exact fun F1 ι1 H1 g1 S1 => WpS.go (r := f a st1) w g1 S S1
  | exc e st1 => exact w
  | err => exact w
theorem ofOt_w {o : Option Rho} {st : Sto} {F : Hp} {ι : List Addr} {H : Hp} {D : Ends} (w : WpS C E (ofOt o st) F ι H D) : ∃ ρ', o = some ρ' ∧ WpS C E (.next ρ' st) F ι H D := by
  cases o with
  | none => exact w.elim
  | some ρ' => exact ⟨ρ', rfl, w⟩
/-! ### blocks -/
theorem s_nil {cl : Cll φ} : PSs X [] (tS C cl wf E .nil) := PSs.imp pss_nil fun D σ H ⟨F, ι, st, ρ, S, ER, w⟩ => by
  simp only [exS] at w
  exact w F ι H σ .refl S ER
theorem s_cons {cl : Cll φ} {s r : IS φ} {e : Stmt} {es : List Stmt} (h1 : PS X e (tS C cl wf E s)) (h2 : PSs X es (tS C cl wf E r)) : PSs X (e :: es) (tS C cl wf E (.cons s r)) := by
  refine PSs.imp (pss_cons h1 h2) fun D σ H ⟨F, ι, st, ρ, S, ER, w⟩ => ?_
  simp only [exS] at w
  refine ⟨F, ι, st, ρ, S, ER, ?_⟩
  revert w
  cases exS cl wf s ρ st with
  | next ρ1 st1 => exact fun w F1 ι1 H1 σ1 g1 S1 ER1 => ⟨F1, ι1, st1, ρ1, S1, ER1, WpS.go (r := exS cl wf r ρ1 st1) w g1 S S1⟩
  | ret w' st1 => exact id
  | exc e ρ' st1 => exact id
  | err => exact id
theorem s_pass {cl : Cll φ} {pos : Pos} : PS X (.Pass pos) (tS C cl wf E .pass) := PS.imp ps_pass fun D σ H ⟨F, ι, st, ρ, S, ER, w⟩ => by
  simp only [exS] at w
  exact w F ι H σ .refl S ER
theorem s_never {cl : Cll φ} {e : Stmt} : PS X e (tS C cl wf E .never) := PS.imp ps_never fun D σ H ⟨F, ι, st, ρ, S, ER, w⟩ => by
  simp only [exS] at w
  exact w
theorem s_retN {cl : Cll φ} {pos : Pos} : PS X (.Return none pos) (tS C cl wf E .retN) := PS.imp ps_retN fun D σ H ⟨F, ι, st, ρ, S, ER, w⟩ => by
  simp only [exS] at w
  exact w F ι H .non .refl S .non
theorem s_ret {cl : Cll φ} {a : IE φ} {e : Expr} {pos : Pos} (h : PE X e (tE C cl E a)) : PS X (.Return (some e) pos) (tS C cl wf E (.ret a)) := PS.imp (ps_ret h) fun D σ H ⟨F, ι, st, ρ, S, ER, w⟩ => by
  simp only [exS] at w
  refine ⟨F, ι, st, ρ, S, ER, ?_⟩
  revert w
  cases evE cl a ρ st with
  | ok w' st1 => exact fun w F1 ι1 H1 g1 S1 v r => w F1 ι1 H1 v g1 S1 r
  | exc e st1 => exact id
  | err => exact id
theorem s_expr {cl : Cll φ} {a : IE φ} {e : Expr} {pos : Pos} (h : PE X e (tE C cl E a)) (hs : swapsWith e none pos.line X.env = pure false) : PS X (.Expr e pos) (tS C cl wf E (.expr a)) := PS.imp (ps_expr h hs) fun D σ H ⟨F, ι, st, ρ, S, ER, w⟩ => by
  simp only [exS] at w
  refine eD S ER ((w.st S).imp fun d F1 ι1 st1 H1 g1 S1 w1 v r => ?_)
  exact w1 F1 ι1 H1 σ .refl S1 (ER.mono g1.x)
theorem s_if {cl : Cll φ} {c : IE φ} {a b : IS φ} {e : Expr} {es fs : List Stmt} {pos : Pos} (hc : PT X e (tT C cl E c)) (ha : PSs X es (tS C cl wf E a)) (hb : PSs X fs (tS C cl wf E b)) : PS X (.If e es fs pos) (tS C cl wf E (.ife c a b)) := by
  refine PS.imp (ps_if hc ha hb) fun D σ H ⟨F, ι, st, ρ, S, ER, w⟩ => ?_
  simp only [exS] at w
  refine ⟨F, ι, st, ρ, S, ER, (w.st S).imp fun d F1 ι1 st1 H1 g1 S1 w1 => ?_⟩
  split at w1
  · exact ⟨true, rfl, F1, ι1, st1, ρ, S1, ER.mono g1.x, w1⟩
  · exact ⟨false, rfl, F1, ι1, st1, ρ, S1, ER.mono g1.x, w1⟩
  · exact w1.elim
/-! ### stores -/
theorem i_asg {cl : Cll φ} {t : Tg} {a : IE φ} {D : Ends} {σ : St} {H : Hp} (h : tS C cl wf E (.asg t a) D σ H) : tE C cl E a σ H fun x H1 => tG C t x σ H1 D.nx := by
  obtain ⟨F, ι, st, ρ, S, ER, w⟩ := h
  simp only [exS] at w
  refine eD S ER ((w.st S).imp fun d F1 ι1 st1 H1 g1 S1 w1 v r => ?_)
  obtain ⟨ρ', e, w2⟩ := ofOt_w w1
  exact ⟨F1, ι1, st1, ρ, d, ρ', S1, ER.mono g1.x, r, e, fun σ' ER' so => w2 F1 ι1 H1 σ' .refl S1 ER'⟩
theorem s_asg {cl : Cll φ} {t : Tg} {a : IE φ} {tg e : Expr} {pos : Pos} (he : PE X e (tE C cl E a)) (hg : PG X tg (tG C t)) (hs : swapsWithSole [tg] e pos.line X.env = pure false) (hw : swappedStores [tg] e X.env = pure none) (hst : starB tg = true) :
    PS X (.Assign [tg] e pos) (tS C cl wf E (.asg t a)) :=
  PS.imp (ps_asg he hg hs hw (by rw [assign_star hst]; rfl)) fun D σ H h => i_asg h
theorem g_nm {i : Nat} {v : V} {σ : St} {H : Hp} {Q : St → Hp → Prop} (h : tG C (.nm i) v σ H Q) : gName i v σ H Q := by
  obtain ⟨F, ι, st, ρ, d, ρ', S, ER, r, ha, q⟩ := h
  simp only [asgT] at ha
  cases ha
  exact q _ (ER.set r) ⟨by simp, fun j hj => by rw [List.getElem?_set_ne (fun e => hj (by simp [Tg.vars, e]))]⟩
theorem s_setLc (x : XOk C L T wf ad n N sc E X) {cl : Cll φ} {i : Nat} {y : Str} {py : Pos} {own : List (Str × Nat)} {t : Tg} {it cond elt : IE φ} {eelt tg iter : Expr} {ifs : List Expr} {scope : Scope} {pos spos : Pos}
    (hy : nmB N i y = true) (hyl : sc.names.lookup y = some .local) (hsw : swapsWith (.ListComp eelt [⟨tg, iter, ifs, 0⟩] scope pos) (some (.Name y py)) spos.line X.env = pure true)
    (hi : PI X tg iter (tI C cl E it)) (hb : blkC N sc scope own = true) (hv : ∀ i ∈ t.vars, i ∈ own.map (·.2))
    (hg : ∀ (s : Shared) (H : Hp) (c : Addr) (cls : List (Str × Addr)) (fp : List Addr), PG (X.blk s H scope (compEnvC scope cls c X.env) fp) tg (tG C t))
    (ht : ∀ (s : Shared) (H : Hp) (c : Addr) (cls : List (Str × Addr)) (fp : List Addr), PTs (X.blk s H scope (compEnvC scope cls c X.env) fp) ifs (tT C cl (fun _ _ _ => False) cond))
    (he : ∀ (s : Shared) (H : Hp) (c : Addr) (cls : List (Str × Addr)) (fp : List Addr), PE (X.blk s H scope (compEnvC scope cls c X.env) fp) eelt (tE C cl (fun _ _ _ => False) elt))
    (hs : ∀ y, foldedSetIterable iter X.env y = pure y) : PS X (.Assign [.Name y py] (.ListComp eelt [⟨tg, iter, ifs, 0⟩] scope pos) spos) (tS C cl wf E (.asg (.nm i) (.lc (own.map (·.2)) t it cond elt))) := by
  refine PS.imp (ps_setLc x.calm (by rw [x.nms]; exact x.nd) (by rw [x.nms]; exact of_decide_eq_true hy) (by rw [x.scp]; exact hyl) hsw hi (by rw [x.nms, x.scp]; exact blkOk_by hb) hg ht he hs) fun D σ H h => ?_
  exact i_lc hv (tE_mono (i_asg h) fun v H' q => g_nm q)
theorem mk_ok {cl : Cll φ} {a : IE φ} {σ : St} {H : Hp} {Q : VK} (h : tE C cl E (.mk a) σ H Q) : tE C cl E a σ H Q := by
  obtain ⟨F, ι, st, ρ, S, R, w⟩ := h
  simp only [evE] at w
  refine ⟨F, ι, st, ρ, S, R, ?_⟩
  revert w
  cases evE cl a ρ st with
  | ok w' st1 =>
    cases w' with
    | d x => exact fun w => w.elim
    | fr c =>
      intro w F1 ι1 H1 g1 S1 v r
      obtain ⟨p, rfl, h0, fp, np, hc⟩ := r
      obtain ⟨S2, x2, at2⟩ := S1.cellNew fp np hc
      exact w F1 (ι1 ++ [p]) H1 (g1.cell h0 x2) S2 _ (.ref at2)
  | exc e st1 => exact id
  | err => exact id
/-- .. as a new cell -/
theorem s_setLcM (x : XOk C L T wf ad n N sc E X) {cl : Cll φ} {i : Nat} {y : Str} {py : Pos} {own : List (Str × Nat)} {t : Tg} {it cond elt : IE φ} {eelt tg iter : Expr} {ifs : List Expr} {scope : Scope} {pos spos : Pos}
    (hy : nmB N i y = true) (hyl : sc.names.lookup y = some .local) (hsw : swapsWith (.ListComp eelt [⟨tg, iter, ifs, 0⟩] scope pos) (some (.Name y py)) spos.line X.env = pure true)
    (hi : PI X tg iter (tI C cl E it)) (hb : blkC N sc scope own = true) (hv : ∀ i ∈ t.vars, i ∈ own.map (·.2))
    (hg : ∀ (s : Shared) (H : Hp) (c : Addr) (cls : List (Str × Addr)) (fp : List Addr), PG (X.blk s H scope (compEnvC scope cls c X.env) fp) tg (tG C t))
    (ht : ∀ (s : Shared) (H : Hp) (c : Addr) (cls : List (Str × Addr)) (fp : List Addr), PTs (X.blk s H scope (compEnvC scope cls c X.env) fp) ifs (tT C cl (fun _ _ _ => False) cond))
    (he : ∀ (s : Shared) (H : Hp) (c : Addr) (cls : List (Str × Addr)) (fp : List Addr), PE (X.blk s H scope (compEnvC scope cls c X.env) fp) eelt (tE C cl (fun _ _ _ => False) elt))
    (hs : ∀ y, foldedSetIterable iter X.env y = pure y) : PS X (.Assign [.Name y py] (.ListComp eelt [⟨tg, iter, ifs, 0⟩] scope pos) spos) (tS C cl wf E (.asg (.nm i) (.mk (.lc (own.map (·.2)) t it cond elt)))) := by
  refine PS.imp (ps_setLc x.calm (by rw [x.nms]; exact x.nd) (by rw [x.nms]; exact of_decide_eq_true hy) (by rw [x.scp]; exact hyl) hsw hi (by rw [x.nms, x.scp]; exact blkOk_by hb) hg ht he hs) fun D σ H h => ?_
  exact i_lc hv (mk_ok (tE_mono (i_asg h) fun v H' q => g_nm q))
theorem s_par2 (x : XOk C L T wf ad n N sc E X) {cl : Cll φ} {i j : Nat} {es : IE φ} {y z : Str} {a b : Expr} {py pz pt pt2 pos : Pos} {kt k2 : Nat} (hi : nmB N i y = true) (hj : nmB N j z = true) (hij : i ≠ j) (hl : es.len = 2) (hy : sc.names.lookup y = some .local) (hz : sc.names.lookup z = some .local)
    (ha : PA X [a, b] (tA C cl E es)) (hw : swappedStores [.Tuple [.Name y py, .Name z pz] kt pt] (.Tuple [a, b] k2 pt2) X.env = pure (some [y, z])) :
    PS X (.Assign [.Tuple [.Name y py, .Name z pz] kt pt] (.Tuple [a, b] k2 pt2) pos) (tS C cl wf E (.par [i, j] es)) := by
  refine PS.imp (ps_par x.calm (by rw [x.nms]; exact x.nd) (by rw [x.nms]; exact of_decide_eq_true hi) (by rw [x.nms]; exact of_decide_eq_true hj) hij (by rw [x.scp]; exact hy) (by rw [x.scp]; exact hz) ha hw) fun D σ H ⟨F, ι, st, ρ, S, ER, w⟩ => ?_
  simp only [exS] at w
  refine ⟨F, ι, st, ρ, S, ER, ?_⟩
  have hlen : ∀ ds st', evEs cl es ρ st = .ok ds st' → ds.length = es.len := fun _ _ h => evEs_len es h
  revert w hlen
  cases evEs cl es ρ st with
  | exc e st1 => exact fun w _ => w
  | err => exact fun w _ => w
  | ok ds st1 =>
    intro w hlen F1 ι1 H1 g1 S1 vs r
    have w : WpS C E (ofOt (setAll [i, j] ds ρ) st1) F ι H D := w
    obtain ⟨d, e, rfl⟩ := len2 ((hlen _ _ rfl).trans hl)
    obtain ⟨v, u, rfl, r1, r2⟩ := rep2 r
    exact ⟨v, u, rfl, w F1 ι1 H1 _ g1 S1 (((ER.mono g1.x).set r1).set r2)⟩
theorem s_par3 (x : XOk C L T wf ad n N sc E X) {cl : Cll φ} {i j k : Nat} {es : IE φ} {y z u : Str} {a b c : Expr} {py pz pu pt pt2 pos : Pos} {kt k2 : Nat} (hi : nmB N i y = true) (hj : nmB N j z = true) (hk : nmB N k u = true) (hij : i ≠ j) (hik : i ≠ k) (hjk : j ≠ k) (hl : es.len = 3)
    (hy : sc.names.lookup y = some .local) (hz : sc.names.lookup z = some .local) (hu : sc.names.lookup u = some .local)
    (ha : PA X [a, b, c] (tA C cl E es)) (hw : swappedStores [.Tuple [.Name y py, .Name z pz, .Name u pu] kt pt] (.Tuple [a, b, c] k2 pt2) X.env = pure (some [y, z, u])) :
    PS X (.Assign [.Tuple [.Name y py, .Name z pz, .Name u pu] kt pt] (.Tuple [a, b, c] k2 pt2) pos) (tS C cl wf E (.par [i, j, k] es)) := by
  refine PS.imp (ps_par3 x.calm (by rw [x.nms]; exact x.nd) (by rw [x.nms]; exact of_decide_eq_true hi) (by rw [x.nms]; exact of_decide_eq_true hj) (by rw [x.nms]; exact of_decide_eq_true hk) hij hik hjk (by rw [x.scp]; exact hy) (by rw [x.scp]; exact hz) (by rw [x.scp]; exact hu) ha hw) fun D σ H ⟨F, ι, st, ρ, S, ER, w⟩ => ?_
  simp only [exS] at w
  refine ⟨F, ι, st, ρ, S, ER, ?_⟩
  have hlen : ∀ ds st', evEs cl es ρ st = .ok ds st' → ds.length = es.len := fun _ _ h => evEs_len es h
  revert w hlen
  cases evEs cl es ρ st with
  | exc e st1 => exact fun w _ => w
  | err => exact fun w _ => w
  | ok ds st1 =>
    intro w hlen F1 ι1 H1 g1 S1 vs r
    have w : WpS C E (ofOt (setAll [i, j, k] ds ρ) st1) F ι H D := w
    obtain ⟨d, e, f, rfl⟩ := len3 ((hlen _ _ rfl).trans hl)
    obtain ⟨v, u, t, rfl, r1, r2, r3⟩ := rep3 r
    exact ⟨v, u, t, rfl, w F1 ι1 H1 _ g1 S1 ((((ER.mono g1.x).set r1).set r2).set r3)⟩
/-! ### loops -/
theorem s_for (x : XOk C L T wf ad n N sc E X) {cl : Cll φ} {t : Tg} {it : IE φ} {b : IS φ} {tg iter : Expr} {body : List Stmt} {pos : Pos} (hi : PI X tg iter (tI C cl E it)) (hg : PG X tg (tG C t)) (hb : PSs X body (tS C cl wf E b))
    (hs : ∀ y, foldedSetIterable iter X.env y = pure y) : PS X (.For tg iter body [] pos) (tS C cl wf E (.for_ t it b)) := by
  refine PS.imp (ps_for x.po x.calm hi hg hb hs) fun D σ H ⟨F, ι, st, ρ, S, ER, w⟩ => ?_
  simp only [exS] at w
  refine ⟨F, ι, st, ρ, S, ER, (w.st S).imp fun s F1 ι1 st1 H1 g1 S1 w1 J so => ?_⟩
  let Pv : Nat → St → Hp → Prop := fun i σ' H' => ∃ F' ι' st' ρ', Go F1 ι1 H1 F' ι' H' ∧ Sim C F' ι' st' H' ∧ EnvR C F' ι' ρ' σ' ∧
    WpS C E (forLoop t (fun ρ st => exS cl wf b ρ st) (s.items.drop i) ρ' st') F1 ι1 H1 D
  refine ⟨fun i m σ' H' => m = s.items.length - i ∧ i ≤ s.items.length ∧ Pv i σ' H', ⟨s.items.length, by simp, Nat.zero_le _, F1, ι1, st1, ρ, .refl, S1, ER.mono g1.x, by rw [List.drop_zero]; exact w1⟩, ?_⟩
  rintro i m σ2 H2 ⟨rfl, hle, F2, ι2, st2, ρ2, g2, S2, ER2, w2⟩
  by_cases hlt : i < s.items.length
  · refine .inr ⟨so.go i F2 ι2 st2 H2 hlt g2.x S2, Pv (i + 1), fun σ' H' p' => ⟨s.items.length - (i + 1), by omega, rfl, hlt, p'⟩, fun v H3 y => ?_⟩
    obtain ⟨F3, S3, g3, r3⟩ := so.yld i _ F2 ι2 st2 H2 v H3 (List.getElem?_eq_getElem hlt) g2.x S2 y
    rw [List.drop_eq_getElem_cons hlt] at w2
    simp only [forLoop] at w2
    have g13 := g2.trans g3
    cases ea : asgT t s.items[i] st2 ρ2 with
    | none => rw [ea] at w2; exact w2.elim
    | some ρ3 =>
      simp only [ea] at w2
      refine ⟨F3, ι2, st2, ρ2, _, ρ3, S3, ER2.mono g3.x, r3, ea, fun σ3 ER3 so3 => ⟨F3, ι2, st2, ρ3, S3, ER3, ?_⟩⟩
      revert w2
      cases exS cl wf b ρ3 st2 with
      | next ρ4 st4 => exact fun w2 F4 ι4 H4 σ4 g4 S4 ER4 => ⟨F4, ι4, st4, ρ4, g13.trans g4, S4, ER4, w2⟩
      | ret w' st4 => exact fun w2 => WpS.go (r := .ret w' st4) w2 g13 S1 S3
      | exc e ρ' st4 => exact fun w2 => WpS.go (r := .exc e ρ' st4) w2 g13 S1 S3
      | err => exact fun w2 => w2.elim
  · have e : i = s.items.length := by omega
    subst e
    refine .inl ⟨so.stop F2 ι2 st2 H2 g2.x S2, ?_⟩
    rw [List.drop_length] at w2
    simp only [forLoop] at w2
    exact w2 F2 ι2 H2 σ2 g2 S2 ER2
theorem s_while (x : XOk C L T wf ad n N sc E X) {cl : Cll φ} {c : IE φ} {b : IS φ} {e : Expr} {body : List Stmt} {pos : Pos} (hc : PT X e (tT C cl E c)) (hb : PSs X body (tS C cl wf E b)) : PS X (.While e body [] pos) (tS C cl wf E (.while_ c b)) := by
  refine PS.imp (ps_while x.po hc hb) fun D σ H ⟨F, ι, st, ρ, S, ER, w⟩ => ?_
  simp only [exS] at w
  refine ⟨fun m σ' H' => ∃ F' ι' st' ρ', Go F ι H F' ι' H' ∧ Sim C F' ι' st' H' ∧ EnvR C F' ι' ρ' σ' ∧ WpS C E (whLoop (fun ρ st => vD (evE cl c ρ st)) (fun ρ st => exS cl wf b ρ st) m ρ' st') F ι H D, ⟨wf, F, ι, st, ρ, .refl, S, ER, w⟩, ?_⟩
  rintro m σ2 H2 ⟨F2, ι2, st2, ρ2, g2, S2, ER2, w2⟩
  cases m with
  | zero => rw [whLoop] at w2; exact w2.elim
  | succ m =>
    simp only [whLoop] at w2
    refine ⟨F2, ι2, st2, ρ2, S2, ER2, ?_⟩
    revert w2
    cases vD (evE cl c ρ2 st2) with
    | exc e st3 => exact fun w2 F' ι' H' cl d g' => w2 F' ι' H' cl d (g2.trans g')
    | err => exact id
    | ok d st3 =>
      intro w2 F3 ι3 H3 g3 S3
      have g13 := g2.trans g3
      simp only [Rs.st] at w2
      split at w2
      · refine ⟨true, rfl, ?_⟩
        dsimp only
        rw [if_pos rfl]
        refine ⟨fun σ' H' => ∃ F' ι' st' ρ', Go F ι H F' ι' H' ∧ Sim C F' ι' st' H' ∧ EnvR C F' ι' ρ' σ' ∧ WpS C E (whLoop (fun ρ st => vD (evE cl c ρ st)) (fun ρ st => exS cl wf b ρ st) m ρ' st') F ι H D, fun σ' H' q => ⟨m, Nat.lt_succ_self m, q⟩, F3, ι3, st3, ρ2, S3, ER2.mono g3.x, ?_⟩
        revert w2
        cases exS cl wf b ρ2 st3 with
        | next ρ4 st4 => exact fun w2 F4 ι4 H4 σ4 g4 S4 ER4 => ⟨F4, ι4, st4, ρ4, g13.trans g4, S4, ER4, w2⟩
        | ret w' st4 => exact fun w2 => WpS.go (r := .ret w' st4) w2 g13 S S3
        | exc e ρ' st4 => exact fun w2 => WpS.go (r := .exc e ρ' st4) w2 g13 S S3
        | err => exact fun w2 => w2.elim
      · refine ⟨false, rfl, ?_⟩
        dsimp only
        rw [if_neg (by decide)]
        exact w2 F3 ι3 H3 σ2 g13 S3 (ER2.mono g3.x)
      · exact w2.elim
end
end Fd

set_option Elab.async false
set_option linter.all false
set_option maxHeartbeats 1000000
namespace Fd
open PySem L2 PySem.Spec PyProof.Rows
variable {φ : Type}
section
variable {C : Gx} {L : Lk φ} {T : φ → Fn φ} {wf : Nat} {ad : φ → Addr} {n : Nat} {N : List Str} {sc : Scope} {E : XK} {X : Cx}
/-! ### isinstance -/
theorem kit_tbl {a b : String} (ha : a ∈ (["NoneType", "int", "bool", "str", "list", "tuple", "dict"] : List String)) (hb : b ∈ (["int", "bool", "str", "list", "tuple", "dict"] : List String)) : kitB a b = some (a == b || (a == "bool" && b == "int")) := by
  have : (["NoneType", "int", "bool", "str", "list", "tuple", "dict"] : List String).all (fun a => (["int", "bool", "str", "list", "tuple", "dict"] : List String).all fun b => decide (kitB a b = some (a == b || (a == "bool" && b == "int")))) = true := by decide +kernel
  have h1 := List.all_eq_true.mp this a ha
  exact of_decide_eq_true (List.all_eq_true.mp h1 b hb)
def tyNm : D → Option String
  | .non => some "NoneType" | .bl _ => some "bool" | .int _ => some "int" | .str _ => some "str" | .lst _ => some "list" | .tup _ => some "tuple" | .dK .. => some "dict" | .dT .. => some "dict"
  | _ => none
/-- the type of what is asked: a name, a class, nothing -/
def tyK (st : Sto) (d : D) : Option (String ⊕ Nat) := match d with
  | .obj c _ => some (.inr c)
  | .ref j => match cellOf st j with
    | some (.lst _) => some (.inl "list")
    | some (.dK ..) => some (.inl "dict")
    | some (.dT ..) => some (.inl "dict")
    | some (.obj c _) => some (.inr c)
    | none => none
  | d => (tyNm d).map .inl
def tyVal (C : Gx) : String ⊕ Nat → Value
  | .inl s => .type s
  | .inr c => .ref (C.cl c).adr
theorem tyK_ok {st : Sto} {d : D} {t : String ⊕ Nat} (h : tyK st d = some t) : tyD C st d = some (tyVal C t) ∧ ∀ s, t = .inl s → s ∈ (["NoneType", "int", "bool", "str", "list", "tuple", "dict"] : List String) := by
  cases d with
  | ref j =>
    simp only [tyK] at h
    simp only [tyD]
    split at h <;> cases h <;> rename_i e <;> (try rw [e]) <;> exact ⟨rfl, fun s e => by cases e <;> decide⟩
  | scr ns => simp [tyK, tyNm] at h
  | exc c vs => simp [tyK, tyNm] at h
  | obj c vs => simp only [tyK] at h; cases h; exact ⟨rfl, fun s e => by cases e⟩
  | _ => simp only [tyK, tyNm, Option.map_some] at h; cases h; exact ⟨rfl, fun s e => by cases e <;> decide⟩
theorem tyK_con {F : Hp} {ι : List Addr} {st : Sto} {H : Hp} {v : V} {d : D} {c : Nat} (S : Sim C F ι st H) (r : Rep C F ι v d) (h : tyK st d = some (.inr c)) : C.con c = true := by
  cases r with
  | obj e hk hv r => cases h; exact hk.2
  | ref ha =>
    simp only [tyK] at h
    split at h
    · cases h
    · cases h
    · cases h
    · rename_i e; cases h; obtain ⟨_, _, _, k, _⟩ := S.cellOf ha e; exact k.2
    · cases h
  | _ => simp [tyK, tyNm] at h
def kdS : Kd → String → Bool
  | .int, s => s == "int" || s == "bool" | .bool, s => s == "bool" | .str, s => s == "str" | .list, s => s == "list" | .tuple, s => s == "tuple" | .dict, s => s == "dict" | .seq, s => s == "list" || s == "tuple" | .cls .., _ => false
def answ (k : Kd) : String ⊕ Nat → Bool → Prop
  | .inl s, b => b = kdS k s
  | .inr c, b => match k with | .cls c' => c = c' ∧ b = true | _ => b = false
theorem kind_ob {k : Kd} {b : Bool} (c : Nat) (h : (match k with | .cls c' => if c = c' then some true else none | _ => some false) = some b) : answ k (.inr c) b := by
  cases k <;> simp only [answ] at h ⊢ <;> try (cases h; rfl)
  split at h
  · rename_i hc; cases h; exact ⟨hc, rfl⟩
  · cases h
theorem kindIs_tyK {st : Sto} {k : Kd} {d : D} {b : Bool} (h : kindIs st k d = some b) : ∃ t, tyK st d = some t ∧ answ k t b := by
  cases d with
  | ref j =>
    simp only [kindIs] at h
    simp only [tyK]
    split at h
    · rename_i e; (try rw [e]); cases h; refine ⟨_, rfl, ?_⟩; cases k <;> rfl
    · rename_i e; (try rw [e]); cases h; refine ⟨_, rfl, ?_⟩; cases k <;> rfl
    · rename_i e; (try rw [e]); cases h; refine ⟨_, rfl, ?_⟩; cases k <;> rfl
    · rename_i e; (try rw [e]); exact ⟨_, rfl, kind_ob _ h⟩
    · cases h
  | scr ns => simp [kindIs] at h
  | exc c vs => simp [kindIs] at h
  | obj c vs => exact ⟨_, rfl, kind_ob c h⟩
  | _ => simp only [kindIs] at h; cases h; refine ⟨_, rfl, ?_⟩; cases k <;> rfl
def kitT : String ⊕ Nat → String → Bool
  | .inl a, s => a == s || (a == "bool" && s == "int")
  | .inr _, _ => false
theorem kit_ins (x : XOk C L T wf ad n N sc E X) {c : Nat} {s : String} (hc : C.con c = true) (h : s ∈ (["int", "bool", "str", "list", "tuple", "dict"] : List String)) : PySem.W.kitOne X.K (.ref (C.cl c).adr) (.type s) = some false := by
  rw [x.k]; exact (x.tx.cl c hc).kb s h
theorem kit_own (x : XOk C L T wf ad n N sc E X) {c : Nat} {s : String} (hc : C.con c = true) (h : s ∈ (["NoneType", "int", "bool", "str", "list", "tuple", "dict"] : List String)) : PySem.W.kitOne X.K (.type s) (.ref (C.cl c).adr) = some false := by
  rw [x.k]; exact (x.tx.cl c hc).ck s h
theorem kit_t1 (x : XOk C L T wf ad n N sc E X) {t : String ⊕ Nat} (ht : (∀ s, t = .inl s → s ∈ (["NoneType", "int", "bool", "str", "list", "tuple", "dict"] : List String)) ∧ ∀ c, t = .inr c → C.con c = true) {s : String} (hs : s ∈ (["int", "bool", "str", "list", "tuple", "dict"] : List String)) :
    PySem.W.kitOne X.K (tyVal C t) (.type s) = some (kitT t s) := by
  cases t with
  | inl a => exact kit_ty (kit_tbl (ht.1 a rfl) hs)
  | inr c => exact kit_ins x (ht.2 c rfl) hs
/-- the class named -/
theorem kd_one (x : XOk C L T wf ad n N sc E X) {k : Kd} {T0 : String} (hk : k.ty = some T0) : T0 ∈ (["int", "bool", "str", "list", "tuple", "dict"] : List String) ∧ Str.ofString T0 ∈ bnames ∧ bootBuiltins (Str.ofString T0) = some (.type T0) := by
  cases k <;> cases hk
  · exact ⟨by decide, by decide, PyProof.Rows.boot_int⟩
  · exact ⟨by decide, by decide, PyProof.Rows.boot_bool⟩
  · exact ⟨by decide, by decide, PyProof.Rows.boot_str⟩
  · exact ⟨by decide, by decide, PyProof.Rows.boot_list⟩
  · exact ⟨by decide, by decide, PyProof.Rows.boot_tuple⟩
  · exact ⟨by decide, by decide, PyProof.Rows.boot_dict⟩
theorem isi_call {k : Kd} {a : IE φ} {cl : Cll φ} {σ : L2.St} {H : Hp} {Q : VK} {P : V → Hp → Prop} (h : tE C cl E (.isI k a) σ H Q) (hc : ∀ c, C.con c = true → ClsOk C c) (f : ∀ v t b F1 ι1 st1 H1, Sim C F1 ι1 st1 H1 → (∀ H2, Sim C F1 ι1 st1 H2 → TyX C.K H2 v (tyVal C t)) → ((∀ s, t = .inl s → s ∈ (["NoneType", "int", "bool", "str", "list", "tuple", "dict"] : List String)) ∧ ∀ c, t = .inr c → C.con c = true) →
    answ k t b → (∀ o p, H1 p = none → Q (.bl b) (upd H1 p o)) → Q (.bl b) H1 → P v H1) : tE C cl E a σ H P := by
  obtain ⟨F, ι, st, ρ, S, R, w⟩ := h
  simp only [evE] at w
  refine bindK S R (fun _ h => h) w fun v d F1 ι1 st1 H1 g1 S1 R1 r1 dom1 w1 => ?_
  cases e : kindIs st1 k d with
  | none => rw [e] at w1; exact w1.elim
  | some b =>
    rw [e] at w1
    obtain ⟨t, e1, e2⟩ := kindIs_tyK e
    obtain ⟨e3, e4⟩ := tyK_ok (C := C) e1
    refine f v t b F1 ι1 st1 H1 S1 (fun H2 S2 => tyD_ok S2 r1 hc e3) ⟨e4, fun c ec => tyK_con S1 r1 (ec ▸ e1)⟩ e2 (fun o p hp => ?_) (w1 F1 ι1 H1 .refl S1 _ (.bl b))
    obtain ⟨S2, _, _⟩ := S1.more (o := o) hp
    exact w1 F1 ι1 _ (Go.more hp) S2 _ (.bl b)
theorem p_isTy (x : XOk C L T wf ad n N sc E X) {cl : Cll φ} {k : Kd} {T0 : String} {a : IE φ} {e : Expr} {p p2 pos : Pos} (hk : k.ty = some T0) (hg : glB sc "isinstance" = true) (hg2 : glB sc (Str.ofString T0) = true) (hs : starB e = true) (ha : PE X e (tE C cl E a)) :
    PE X (.Call (.Name "isinstance" p) [e, .Name (Str.ofString T0) p2] [] pos) (tE C cl E (.isI k a)) := by
  obtain ⟨k1, k2, k3⟩ := kd_one x hk
  obtain ⟨g1, g2, g3⟩ := gl_ok x.scp hg2
  refine PE.imp (pe_callB call_isi (gl_ok x.scp hg).1 (x.bl (by decide)) PyProof.Rows.boot_isinstance (pa_cons ha (pa_cons (pe_bltn (v := .ty T0) g1 (x.bl k2) k3 rfl g3 g2) pa_nil rfl) (star_ok hs _ _)) (by decide) (by decide) (star_ok hs _ _) rfl) fun σ H Q h => ?_
  refine isi_call h x.tx.cl fun v t b F1 ι1 st1 H1 S1 ty ht hb _ q => ?_
  refine ⟨v, .ty T0, tyVal C t, .type T0, b, rfl, .ty T0, by rw [x.k]; exact ty _ S1, ?_, q⟩
  rw [kit_t1 x ht k1]
  congr 1
  cases t with
  | inr c => cases k <;> cases hk <;> exact hb.symm
  | inl s =>
    have hs := ht.1 s rfl
    simp only [List.mem_cons, List.not_mem_nil, or_false] at hs
    rw [show b = kdS k s from hb]
    show kitT (.inl s) T0 = kdS k s
    clear hb ht h q
    cases k <;> cases hk <;> (rcases hs with rfl | rfl | rfl | rfl | rfl | rfl | rfl <;> decide)
theorem p_isCls (x : XOk C L T wf ad n N sc E X) {cl : Cll φ} {c : Nat} {a : IE φ} {e : Expr} {y : Str} {p p2 pos : Pos} (hc : L.con c = true) (hy : L.cnm c = y) (hg : glB sc "isinstance" = true) (hg2 : glB sc y = true) (hs : starB e = true) (ha : PE X e (tE C cl E a)) :
    PE X (.Call (.Name "isinstance" p) [e, .Name y p2] [] pos) (tE C cl E (.isI (.cls c) a)) := by
  subst hy
  obtain ⟨g1, g2, g3⟩ := gl_ok x.scp hg2
  refine PE.imp (pe_callB call_isi (gl_ok x.scp hg).1 (x.bl (by decide)) PyProof.Rows.boot_isinstance (pa_cons ha (pa_cons (pe_glob (v := .ref (C.cl c).adr) g1 (x.tx.cg c hc) rfl g2) pa_nil rfl) (star_ok hs _ _)) (by decide) (by decide) (star_ok hs _ _) rfl) fun σ H Q h => ?_
  refine isi_call h x.tx.cl fun v t b F1 ι1 st1 H1 S1 ty ht hb _ q => ?_
  refine ⟨v, .ref (C.cl c).adr, tyVal C t, .ref (C.cl c).adr, b, rfl, .own _, by rw [x.k]; exact ty _ S1, ?_, q⟩
  cases t with
  | inl s => rw [show b = false from hb]; exact kit_own x (x.tx.co c hc) (ht.1 s rfl)
  | inr c' =>
    obtain ⟨rfl, rfl⟩ := hb
    unfold PySem.W.kitOne
    rw [if_pos (by exact beq_self_eq_true _)]
theorem p_isSeq (x : XOk C L T wf ad n N sc E X) {cl : Cll φ} {a : IE φ} {e : Expr} {kk : Nat} {p p2 p3 p4 pos : Pos} (hg : glB sc "isinstance" = true) (hg2 : glB sc "list" = true) (hg3 : glB sc "tuple" = true) (hs : starB e = true) (ha : PE X e (tE C cl E a)) :
    PE X (.Call (.Name "isinstance" p) [e, .Tuple [.Name "list" p2, .Name "tuple" p3] kk p4] [] pos) (tE C cl E (.isI .seq a)) := by
  have e1 : PE X (.Name "list" p2) (tC (.ty "list")) := pe_bltn (v := .ty "list") (gl_ok x.scp hg2).1 (x.bl (by decide)) PyProof.Rows.boot_list rfl
  have e2 : PE X (.Name "tuple" p3) (tC (.ty "tuple")) := pe_bltn (v := .ty "tuple") (gl_ok x.scp hg3).1 (x.bl (by decide)) PyProof.Rows.boot_tuple rfl
  refine PE.imp (pe_callB call_isiT (gl_ok x.scp hg).1 (x.bl (by decide)) PyProof.Rows.boot_isinstance (pa_cons ha (pa_cons (pe_tup (pa_cons e1 (pa_cons e2 pa_nil rfl) rfl)) pa_nil rfl) (star_ok hs _ _)) (by decide) (by decide) (star_ok hs _ _) rfl) fun σ H Q h => ?_
  refine isi_call h x.tx.cl fun v t b F1 ι1 st1 H1 S1 ty ht hb q2 q => ?_
  refine ⟨by show 2 ≤ sizeLine; decide, fun tp htp => ?_⟩
  obtain ⟨S2, _, _⟩ := S1.more (o := .tup [.ty "list", .ty "tuple"]) htp
  refine ⟨v, tp, [.ty "list", .ty "tuple"], tyVal C t, [.type "list", .type "tuple"], b, rfl, upd_same, .cons (.ty _) (.cons (.ty _) .nil), by rw [x.k]; exact ty _ S2, ?_, q2 _ _ htp⟩
  have k1 := kit_t1 x ht (s := "list") (by decide)
  have k2 := kit_t1 x ht (s := "tuple") (by decide)
  unfold PySem.W.kitAny PySem.W.kitAny PySem.W.kitAny
  rw [k1, k2]
  cases t with
  | inr c => exact congrArg some (show false = b from hb.symm)
  | inl s =>
    have hs := ht.1 s rfl
    simp only [List.mem_cons, List.not_mem_nil, or_false] at hs
    rw [show b = kdS .seq s from hb]
    clear hb ht h q k1 k2 q2
    rcases hs with rfl | rfl | rfl | rfl | rfl | rfl | rfl <;> decide
/-! ### is True, is False -/
theorem i_isB {cl : Cll φ} {b : Bool} {a : IE φ} {σ : L2.St} {H : Hp} {Q : VK} (h : tE C cl E (.isB b a) σ H Q) : tOp rIsB (tE C cl E a) (tC (.bl b)) σ H Q := by
  obtain ⟨F, ι, st, ρ, S, R, w⟩ := h
  simp only [evE] at w
  refine bindK S R (fun _ h => h) w fun v d F1 ι1 st1 H1 g1 S1 R1 r1 dom1 w1 => ?_
  split at w1
  · exact ⟨_, _, r1.is_bl, rfl, endD w1 S1 (.bl _)⟩
  · exact w1.elim
theorem i_notB {cl : Cll φ} {b : Bool} {a : IE φ} {σ : L2.St} {H : Hp} {Q : VK} (h : tE C cl E (.notB b a) σ H Q) : tOp rNotB (tE C cl E a) (tC (.bl b)) σ H Q := by
  obtain ⟨F, ι, st, ρ, S, R, w⟩ := h
  simp only [evE] at w
  refine bindK S R (fun _ h => h) w fun v d F1 ι1 st1 H1 g1 S1 R1 r1 dom1 w1 => ?_
  split at w1
  · refine ⟨_, _, r1.is_bl, rfl, ?_⟩
    have := endD w1 S1 (.bl _)
    rw [decide_not] at this
    exact this
  · exact w1.elim
theorem p_isB {cl : Cll φ} {b : Bool} {a : IE φ} {ea : Expr} {k : Nat} {pos p2 : Pos} (ha : PE X ea (tE C cl E a)) : PE X (.Compare ea [.Is] [.Constant (.bool b) k p2] pos) (tE C cl E (.isB b a)) := PE.imp (pe_cmpR op_isBl ha pe_bl rfl) fun _ _ _ h => i_isB h
theorem t_isB {cl : Cll φ} {b : Bool} {a : IE φ} {ea : Expr} {k : Nat} {pos p2 : Pos} (ha : PE X ea (tE C cl E a)) : PT X (.Compare ea [.Is] [.Constant (.bool b) k p2] pos) (tT C cl E (.isB b a)) := PT.imp (pt_cmpR op_isBl ha pe_bl rfl) fun _ _ _ h => i_isB (tT_tE h)
theorem p_notB {cl : Cll φ} {b : Bool} {a : IE φ} {ea : Expr} {k : Nat} {pos p2 : Pos} (ha : PE X ea (tE C cl E a)) : PE X (.Compare ea [.IsNot] [.Constant (.bool b) k p2] pos) (tE C cl E (.notB b a)) := PE.imp (pe_cmpR op_notBl ha pe_bl rfl) fun _ _ _ h => i_notB h
theorem t_notB {cl : Cll φ} {b : Bool} {a : IE φ} {ea : Expr} {k : Nat} {pos p2 : Pos} (ha : PE X ea (tE C cl E a)) : PT X (.Compare ea [.IsNot] [.Constant (.bool b) k p2] pos) (tT C cl E (.notB b a)) := PT.imp (pt_cmpR op_notBl ha pe_bl rfl) fun _ _ _ h => i_notB (tT_tE h)
/-! ### stores into things -/
theorem setr' (x : XOk C L T wf ad n N sc E X) : PSet X rSet := setr (by have := x.u; omega)
theorem s_sub (x : XOk C L T wf ad n N sc E X) {cl : Cll φ} {a i e : IE φ} {ea ei ev : Expr} {p pos : Pos} (ha : PE X ea (tE C cl E a)) (hi : PE X ei (tE C cl E i)) (he : PE X ev (tE C cl E e))
    (hs : swapsWithSole [.Subscript ea ei p] ev pos.line X.env = pure false) (hsl : sliceB ei = true) : PS X (.Assign [.Subscript ea ei p] ev pos) (tS C cl wf E (.asgSub a i e)) := by
  refine PS.imp (ps_asg he (pg_sub ha hi (setr' x) ?_) hs (by cases ev <;> rfl) rfl) fun D σ H ⟨F, ι, st, ρ, S, ER, w⟩ => ?_
  · intro v
    cases ei <;> first | rfl | cases hsl
  simp only [exS] at w
  refine eD S ER ((w.st S).imp fun d F1 ι1 st1 H1 g1 S1 w1 v r => ?_)
  refine eD S1 (ER.mono g1.x) ((w1.st S1).imp fun o F2 ι2 st2 H2 g2 S2 w2 ov ro => ?_)
  refine eD S2 ((ER.mono g1.x).mono g2.x) ((w2.st S2).imp fun k F3 ι3 st3 H3 g3 S3 w3 kv rk => ?_)
  cases es : setSub o k d st3 with
  | none => rw [es] at w3; exact w3.elim
  | some st4 =>
    rw [es] at w3
    exact setSub_ok S3 (ro.mono g3.x) rk ((r.mono g2.x).mono g3.x) es fun H' g' S' => w3 F3 ι3 H' σ g' S' (((ER.mono g1.x).mono g2.x).mono g3.x)
def upF (xs : List D) (j : Nat) (d : D) : List D := if j < xs.length then xs.set j d else xs ++ [d]
theorem upF_succ {x : D} {xs : List D} {j : Nat} {d : D} : upF (x :: xs) (j + 1) d = x :: upF xs j d := by
  unfold upF
  by_cases h : j < xs.length
  · rw [if_pos h, if_pos (by simpa using h)]; rfl
  · rw [if_neg h, if_neg (by simpa using h)]; rfl
theorem putF_rep {F : Hp} {ι : List Addr} {fl : List Str} {f : Str} {v : V} {d : D} (nd : fl.Nodup) (rv : Rep C F ι v d) : ∀ {fs : List (Str × V)} {xs : List D} {j : Nat} (k : Nat), fs.map (·.1) = (fl.drop k).take xs.length → RepL C F ι (fs.map (·.2)) xs → fl[k + j]? = some f → j ≤ xs.length →
    (putF f v fs).map (·.1) = (fl.drop k).take (upF xs j d).length ∧ RepL C F ι ((putF f v fs).map (·.2)) (upF xs j d)
  | [], [], j, k, h1, h2, h3, h4 => by
    obtain rfl : j = 0 := by simpa using h4
    obtain ⟨hk, e⟩ := List.getElem?_eq_some_iff.mp h3
    refine ⟨?_, .cons rv .nil⟩
    rw [List.drop_eq_getElem_cons (by omega : k < fl.length)]
    show [f] = [fl[k]]
    rw [← e]
    rfl
  | p :: r, x :: xs, j, k, h1, .cons a b, h3, h4 => by
    rw [List.length_cons] at h1
    have hk : k < fl.length := by
      by_cases e : k < fl.length
      · exact e
      · rw [List.drop_eq_nil_of_le (by omega)] at h1; cases h1
    rw [List.drop_eq_getElem_cons hk, List.take_succ_cons, List.map_cons] at h1
    injection h1 with h5 h6
    cases j with
    | zero =>
      have ef : p.1 = f := by
        have : fl[k]? = some p.1 := by rw [h5]; exact List.getElem?_eq_getElem hk
        rw [Nat.add_zero, this] at h3
        cases h3
        rfl
      show (putF f v ((p.1, p.2) :: r)).map (·.1) = _ ∧ _
      unfold putF
      rw [if_pos ef]
      have eu : upF (x :: xs) 0 d = d :: xs := by unfold upF; rw [if_pos (by simp)]; rfl
      rw [eu, List.drop_eq_getElem_cons hk]
      refine ⟨?_, .cons rv b⟩
      rw [List.length_cons, List.take_succ_cons, List.map_cons, h6, h5]
    | succ j =>
      have ne : p.1 ≠ f := by
        intro e
        obtain ⟨l1, e1⟩ := List.getElem?_eq_some_iff.mp h3
        have : fl[k + (j + 1)] = fl[k] := by rw [e1, ← e, h5]
        have := (List.getElem_inj nd).mp this
        omega
      show (putF f v ((p.1, p.2) :: r)).map (·.1) = _ ∧ _
      unfold putF
      rw [if_neg ne, upF_succ, List.drop_eq_getElem_cons hk]
      obtain ⟨q1, q2⟩ := putF_rep (j := j) nd rv (k + 1) h6 b (by rw [← h3, show k + 1 + j = k + (j + 1) by omega]) (by simpa using h4)
      refine ⟨?_, .cons a q2⟩
      rw [List.length_cons, List.take_succ_cons, List.map_cons, q1, h5]
  | [], _ :: _, _, _, _, h2, _, _ => by cases h2
  | _ :: _, [], _, _, _, h2, _, _ => by cases h2
theorem s_fld (x : XOk C L T wf ad n N sc E X) {cl : Cll φ} {c j : Nat} {a e : IE φ} {o ev : Expr} {f : Str} {p pos : Pos} (hf : (L.fl c)[j]? = some f) (ha : PE X o (tE C cl E a)) (he : PE X ev (tE C cl E e)) (hs : swapsWith ev (some (.Attribute o f p)) pos.line X.env = pure false) :
    PS X (.Assign [.Attribute o f p] ev pos) (tS C cl wf E (.asgAttr c j a e)) := by
  refine PS.imp (ps_fld ha he hs) fun D σ H ⟨F, ι, st, ρ, S, ER, w⟩ => ?_
  simp only [exS] at w
  refine eD S ER ((w.st S).imp fun d F1 ι1 st1 H1 g1 S1 w1 v r => ?_)
  refine eD S1 (ER.mono g1.x) ((w1.st S1).imp fun o F2 ι2 st2 H2 g2 S2 w2 ov ro => ?_)
  rw [x.tx.flE] at hf
  unfold setFld at w2
  cases o <;> try exact w2.elim
  rename_i k
  cases ro with
  | ref hk =>
    rename_i q
    dsimp only at w2
    cases e1 : st2[k]? with
    | none => rw [e1] at w2; exact w2.elim
    | some sl =>
      cases sl with
      | froz c' => rw [e1] at w2; exact w2.elim
      | live c' =>
        cases c' with
        | obj c' vs =>
          rw [e1] at w2
          dsimp only at w2
          by_cases ec : c' = c
          · subst ec
            rw [if_pos rfl] at w2
            obtain ⟨fa, dx, fs, h1, ⟨h2, h2c⟩, h3⟩ := S2.cell _ _ _ e1 hk
            have K := x.tx.cl c' h2c
            have hjl : j ≤ vs.length ∧ WpS C E (.next ρ (st2.set k (.live (.obj c' (upF vs j d))))) F2 ι2 H2 D := by
              unfold upF
              by_cases hj : j < vs.length
              · rw [if_pos hj] at w2 ⊢
                exact ⟨by omega, w2⟩
              · rw [if_neg hj] at w2 ⊢
                by_cases hj2 : j = vs.length
                · rw [if_pos hj2] at w2
                  exact ⟨by omega, w2⟩
                · rw [if_neg hj2] at w2
                  exact w2.elim
            obtain ⟨hj, w3⟩ := hjl
            obtain ⟨q1, q2⟩ := putF_rep K.nd (r.mono g2.x) 0 (by simpa using h2) h3 (by simpa using hf) hj
            rw [x.k]
            refine ⟨q, _, dx, fs, rfl, h1, K.cls, K.noat f (List.mem_of_getElem? hf), ?_, ?_⟩
            · have l1 := congrArg List.length h2
              rw [List.length_map, List.length_take] at l1
              have := K.few
              omega
            · exact w3 F2 ι2 _ σ (Go.write hk) (S2.write e1 hk ⟨dx, _, upd_same, ⟨by simpa using q1, h2c⟩, q2⟩) ((ER.mono g1.x).mono g2.x)
          · rw [if_neg ec] at w2; exact w2.elim
        | _ => rw [e1] at w2; exact w2.elim
theorem s_sub2 (x : XOk C L T wf ad n N sc E X) {cl : Cll φ} {a i b j e : IE φ} {ea ei eb ej ev : Expr} {p p' p'' pos : Pos} {k : Nat} (ha : PE X ea (tE C cl E a)) (hi : PE X ei (tE C cl E i)) (hb : PE X eb (tE C cl E b)) (hj : PE X ej (tE C cl E j)) (he : PE X ev (tE C cl E e))
    (hs : swapsWithSole [.Tuple [.Subscript ea ei p, .Subscript eb ej p'] k p''] ev pos.line X.env = pure false) (hw : swappedStores [.Tuple [.Subscript ea ei p, .Subscript eb ej p'] k p''] ev X.env = pure none) (hsl : sliceB ei = true) (hsl2 : sliceB ej = true) :
    PS X (.Assign [.Tuple [.Subscript ea ei p, .Subscript eb ej p'] k p''] ev pos) (tS C cl wf E (.asgSub2 a i b j e)) := by
  have g1 := pg_sub (pos := p) ha hi (setr' x) (by intro v; cases ei <;> first | rfl | cases hsl)
  have g2 := pg_sub (pos := p') hb hj (setr' x) (by intro v; cases ej <;> first | rfl | cases hsl2)
  refine PS.imp (ps_asg he (pg_tup x.calm (pgs_cons g1 (pgs_cons g2 pgs_nil))) hs hw rfl) fun D σ H ⟨F, ι, st, ρ, S, ER, w⟩ => ?_
  simp only [exS] at w
  refine eD S ER ((w.st S).imp fun d F1 ι1 st1 H1 g1 S1 w1 v r => ?_)
  have ER1 := ER.mono g1.x
  split at w1
  · rename_i u u2 e1
    obtain ⟨q, ws, rfl, hF, _, rl⟩ := tupF_rep r e1
    obtain ⟨z, z2, rfl, r1, r2⟩ := rep2 rl
    rw [x.k]
    refine ⟨q, [z, z2], rfl, SqT.of (S1.fro _ _ hF), rfl, z, [z2], rfl, ?_⟩
    refine eD S1 ER1 ((w1.st S1).imp fun o F2 ι2 st2 H2 g2 S2 w2 ov ro => ?_)
    refine eD S2 (ER1.mono g2.x) ((w2.st S2).imp fun k F3 ι3 st3 H3 g3 S3 w3 kv rk => ?_)
    cases es : setSub o k u st3 with
    | none => rw [es] at w3; exact w3.elim
    | some st4 =>
      rw [es] at w3
      refine setSub_ok S3 (ro.mono g3.x) rk ((r1.mono g2.x).mono g3.x) es fun H4 g4 S4 => ⟨z2, [], rfl, ?_⟩
      have ER4 := ((ER1.mono g2.x).mono g3.x).mono g4.x
      have w4 := WpS.go w3 g4 S3 S4
      refine eD S4 ER4 ((w4.st S4).imp fun o2 F5 ι5 st5 H5 g5 S5 w5 ov2 ro2 => ?_)
      refine eD S5 (ER4.mono g5.x) ((w5.st S5).imp fun k2 F6 ι6 st6 H6 g6 S6 w6 kv2 rk2 => ?_)
      cases es2 : setSub o2 k2 u2 st6 with
      | none => rw [es2] at w6; exact w6.elim
      | some st7 =>
        rw [es2] at w6
        exact setSub_ok S6 (ro2.mono g6.x) rk2 (((((r2.mono g2.x).mono g3.x).mono g4.x).mono g5.x).mono g6.x) es2 fun H' g' S' => ⟨rfl, w6 _ _ H' σ g' S' (((ER4.mono g5.x).mono g6.x).mono g'.x)⟩
  · exact w1.elim
theorem p_dict0 {cl : Cll φ} {pos : Pos} : PE X (.Dict [] [] pos) (tE C cl E (.dict .nil .nil)) := by
  refine PE.imp pe_dnewK fun σ H Q ⟨F, ι, st, ρ, S, R, w⟩ p hp => ?_
  simp only [evE, evEs] at w
  exact endF w S (fun _ h => h) hp ⟨[], upd_same, rfl, Nat.zero_le _, .nil⟩
/-! ### dict comprehensions -/
theorem putK_lenK {ks : List Key} {vs : List D} {k : Key} {d : D} (h : ks.length = vs.length) : (Fd.putK ks vs k d).1.length = (Fd.putK ks vs k d).2.length := by
  unfold Fd.putK
  split
  · simp only [List.length_zipWith]; omega
  · simp [h]
theorem i_dc {cl : Cll φ} {own : List Nat} {t : Tg} {it cond ke ve : IE φ} (hv : ∀ i ∈ t.vars, i ∈ own) {σ : L2.St} {H : Hp} {Q : VK} (h : tE C cl E (.dc own t it cond ke ve) σ H Q) :
    tDc (tI C cl E it) (tG C t) (tT C cl (fun _ _ _ => False) cond) (tE C cl (fun _ _ _ => False) ke) (tE C cl (fun _ _ _ => False) ve) own σ H Q := by
  obtain ⟨F, ι, st, ρ, S, ER, w⟩ := h
  simp only [evE] at w
  refine ⟨F, ι, st, ρ, S, ER, w.bind.imp fun s F1 ι1 st1 H1 g1 S1 w1 J so q0 hD => ?_⟩
  have ER1 := ER.mono g1.x
  have h0D : H q0 = none := g1.dom S S1 hD
  generalize hρ : wipeR ρ own = ρ0 at w1
  have ER0 : EnvR C F1 ι1 ρ0 (wipe σ own) := hρ ▸ ER1.wipe _
  let Pv : Nat → Hp → Prop := fun i H' => ∃ (F' : Hp) (ι' : List Addr) (st' : Sto) (kvs : List (Key × V)) (ds : List Fd.D), Go F1 ι1 H1 F' ι' H' ∧ Sim C F' ι' st' H' ∧ F' q0 = none ∧ q0 ∉ ι' ∧ H' q0 = some (.dK kvs) ∧ RepL C F' ι' (kvs.map (·.2)) ds ∧ ds.length ≤ lim ∧
    Wpr C E ((dcLoop t ρ0 (fun ρ1 st => vD (evE cl cond ρ1 st)) (fun ρ1 st => vD (evE cl ke ρ1 st)) (fun ρ1 st => vD (evE cl ve ρ1 st)) (s.items.drop i) (kvs.map (·.1)) ds st').map fun r => Wv.fr (.dK r.1 r.2)) F1 ι1 H1 (Kq C H Q)
  refine ⟨fun i m H => m = s.items.length - i ∧ i ≤ s.items.length ∧ Pv i H, ⟨s.items.length, by simp, Nat.zero_le _, ?_⟩, ?_⟩
  · obtain ⟨S2, fD, nD⟩ := S1.more (o := .dK []) hD
    exact ⟨F1, ι1, st1, [], [], Go.more hD, S2, fD, nD, upd_same, .nil, Nat.zero_le _, by rw [List.drop_zero]; exact w1⟩
  rintro i m H2 ⟨rfl, hle, F2, ι2, st2, kvs, ds, g2, S2, fD, nD, hHD, rl, hal, w2⟩
  by_cases hlt : i < s.items.length
  · refine .inr ⟨so.go i F2 ι2 st2 H2 hlt g2.x S2, Pv (i + 1), fun H' p' => ⟨s.items.length - (i + 1), by omega, rfl, hlt, p'⟩, fun v H3 y => ?_⟩
    obtain ⟨F3, S3, g3, r3⟩ := so.yld i _ F2 ι2 st2 H2 v H3 (List.getElem?_eq_getElem hlt) g2.x S2 y
    obtain ⟨hHD3, fD3, nD3⟩ := g3.fr q0 _ hHD fD nD
    rw [List.drop_eq_getElem_cons hlt] at w2
    simp only [dcLoop] at w2
    have g13 := g2.trans g3
    cases ea : asgT t s.items[i] st2 ρ0 with
    | none => rw [ea] at w2; exact w2.elim
    | some ρ1 =>
      simp only [ea] at w2
      refine ⟨F3, ι2, st2, ρ0, _, ρ1, S3, ER0.mono g13.x, r3, ea, fun σ3 ER3 so3 => ⟨wipe_same so3 hv, F3, ι2, st2, ρ1, S3, ER3, ?_⟩⟩
      revert w2
      cases ec : vD (evE cl cond ρ1 st2) with
      | exc e st4 => exact fun w2 => w2.elim
      | err => exact fun w2 => w2.elim
      | ok b st4 =>
        intro w2 F4 ι4 H4 g4 S4
        obtain ⟨hHD4, fD4, nD4⟩ := g4.fr q0 _ hHD3 fD3 nD3
        have g14 := g13.trans g4
        cases b with
        | bl b =>
          refine ⟨b, rfl, ?_⟩
          cases b with
          | false =>
            exact ⟨F4, ι4, st4, kvs, ds, g14, S4, fD4, nD4, hHD4, (rl.mono g3.x).mono g4.x, hal, w2⟩
          | true =>
            rw [if_pos rfl]
            refine eD S4 (ER3.mono g4.x) ?_
            revert w2
            simp only
            cases ek : vD (evE cl ke ρ1 st4) with
            | exc e st5 => exact fun w2 => w2.elim
            | err => exact fun w2 => w2.elim
            | ok dk st5 =>
              intro w2 F5 ι5 H5 g5 S5 u ru
              obtain ⟨hHD5, fD5, nD5⟩ := g5.fr q0 _ hHD4 fD4 nD4
              refine eD S5 ((ER3.mono g4.x).mono g5.x) ?_
              revert w2
              simp only
              cases ev : vD (evE cl ve ρ1 st5) with
              | exc e st6 => exact fun w2 => w2.elim
              | err => exact fun w2 => w2.elim
              | ok dv st6 =>
                intro w2 F6 ι6 H6 g6 S6 u2 ru2
                obtain ⟨hHD6, fD6, nD6⟩ := g6.fr q0 _ hHD5 fD5 nD5
                have rl6 := (((rl.mono g3.x).mono g4.x).mono g5.x).mono g6.x
                cases hk : keyOf dk with
                | none => simp only [hk] at w2; exact w2.elim
                | some k =>
                  simp only [hk] at w2
                  have hkl : (kvs.map (·.1)).length = ds.length := by have := rl6.length; simpa using this
                  split at w2
                  · rename_i hz
                    obtain ⟨q1, q2⟩ := putK_rep (k := k) rl6 ru2
                    refine ⟨kvs, k, key_rep ru hk, hHD6, by rw [← lim_eq]; simpa using hz, F6, ι6, st6, L2.putK kvs k u2, (Fd.putK (kvs.map (·.1)) ds k dv).2, ((g14.trans g5).trans g6).side hD, S6.side fD6 nD6, fD6, nD6, upd_same, q2, putK_len hkl _ (by rw [← hkl]; exact hz), ?_⟩
                    rw [q1]
                    exact w2
                  · exact w2.elim
        | _ => exact w2.elim
  · have e : i = s.items.length := by omega
    subst e
    refine .inl ⟨so.stop F2 ι2 st2 H2 g2.x S2, ?_⟩
    rw [List.drop_length] at w2
    simp only [dcLoop] at w2
    exact w2 F2 ι2 H2 g2 S2 _ ⟨q0, rfl, h0D, fD, nD, kvs, hHD, rfl, by rw [← lim_eq]; exact hal, rl⟩
theorem ps_setDc {i : Nat} {y : Str} {py : Pos} {kx vx tg iter : Expr} {ifs : List Expr} {scope : Scope} {own : List (Str × Nat)} {pos spos : Pos} {wi : TI} {g : TG} {tt : TT} {tk tv : TE} (hc : X.calm = true) (hN : X.N.Nodup) (hy : X.N[i]? = some y) (hyl : X.env.scope.names.lookup y = some .local)
    (hsw : swapsWith (.DictComp kx vx [⟨tg, iter, ifs, 0⟩] scope pos) (some (.Name y py)) spos.line X.env = pure true) (hi : PI X tg iter wi) (ok : BlkOk X.N X.env.scope scope own)
    (hg : ∀ (s : Shared) (H : Hp) (C : Addr) (cl : List (Str × Addr)) (fp : List Addr), PG (X.blk s H scope (compEnvC scope cl C X.env) fp) tg g) (ht : ∀ (s : Shared) (H : Hp) (C : Addr) (cl : List (Str × Addr)) (fp : List Addr), PTs (X.blk s H scope (compEnvC scope cl C X.env) fp) ifs tt)
    (hk : ∀ (s : Shared) (H : Hp) (C : Addr) (cl : List (Str × Addr)) (fp : List Addr), PE (X.blk s H scope (compEnvC scope cl C X.env) fp) kx tk)
    (he : ∀ (s : Shared) (H : Hp) (C : Addr) (cl : List (Str × Addr)) (fp : List Addr), PE (X.blk s H scope (compEnvC scope cl C X.env) fp) vx tv) (hs : ∀ x, foldedSetIterable iter X.env x = pure x) :
    PS X (.Assign [.Name y py] (.DictComp kx vx [⟨tg, iter, ifs, 0⟩] scope pos) spos) (tAsg (tDc wi g tt tk tv (own.map (·.2))) (gName i)) := by
  refine ⟨fun pins s σ H D I h => ?_⟩
  rw [exec_Assign_Name_used _ _ _ _ hsw]
  refine wpAny_bind (wpAny_standAt (wpAny_bind ?_))
  show wpAny _ X.A (do let _ ← comprehension (.DictComp kx vx [⟨tg, iter, ifs, 0⟩] scope pos) scope X.env (firstIterPos [⟨tg, iter, ifs, 0⟩] pos) newDict false (eval iter X.env) (some (assign (.Name y py) X.env))) _ _ s
  have h : tDc wi g tt tk tv (own.map (·.2)) σ H (fun x H1 => gName i x σ H1 D.nx) := h
  refine wpAny_bind (thn (dc_core (Qf := fun _ s' => SP X pins D .next s') hc hN I hi ok hg ht hk he hs h fun L C s' m H' I' q hn f => ?_) fun _ s' hq => wpAny_pure (wpAny_pure hq))
  show wpAny _ _ (assign (.Name y py) X.env (.ref L)) _ _ _
  refine wpAny_assign_Name (store_ok2 (v := V.ref L) I' hN hy (.inl hyl) rfl (fun s2 I2 ⟨a, sb, ha⟩ => ?_) (.inr hyl))
  obtain ⟨f0, f1, f2, f3, f4, f5⟩ := f
  have haC : C ≠ a := by
    rcases ha with z | z
    · rw [z]; exact f1
    · exact fun e => f4 y a z e.symm
  refine ⟨m, hn.sameBut sb haC, fun h3 sb3 => ?_⟩
  exact ⟨_, H', I2.turned (t' := s2.toks) (fun b o hb e => (sb3.2 b hb).trans e) f0 f1 f3 f4 f5, q⟩
theorem p_dc (x : XOk C L T wf ad n N sc E X) {cl : Cll φ} {own : List (Str × Nat)} {t : Tg} {it cond ke ve : IE φ} {kx vx tg iter : Expr} {ifs : List Expr} {scope : Scope} {pos : Pos}
    (hi : PI X tg iter (tI C cl E it)) (hb : blkC N sc scope own = true) (hv : ∀ i ∈ t.vars, i ∈ own.map (·.2))
    (hg : ∀ (s : Shared) (H : Hp) (c : Addr) (cls : List (Str × Addr)) (fp : List Addr), PG (X.blk s H scope (compEnvC scope cls c X.env) fp) tg (tG C t))
    (ht : ∀ (s : Shared) (H : Hp) (c : Addr) (cls : List (Str × Addr)) (fp : List Addr), PTs (X.blk s H scope (compEnvC scope cls c X.env) fp) ifs (tT C cl (fun _ _ _ => False) cond))
    (hk : ∀ (s : Shared) (H : Hp) (c : Addr) (cls : List (Str × Addr)) (fp : List Addr), PE (X.blk s H scope (compEnvC scope cls c X.env) fp) kx (tE C cl (fun _ _ _ => False) ke))
    (he : ∀ (s : Shared) (H : Hp) (c : Addr) (cls : List (Str × Addr)) (fp : List Addr), PE (X.blk s H scope (compEnvC scope cls c X.env) fp) vx (tE C cl (fun _ _ _ => False) ve))
    (hs : ∀ y, foldedSetIterable iter X.env y = pure y) : PE X (.DictComp kx vx [⟨tg, iter, ifs, 0⟩] scope pos) (tE C cl E (.dc (own.map (·.2)) t it cond ke ve)) := by
  exact PE.imp (pe_dc x.calm (by rw [x.nms]; exact x.nd) hi (by rw [x.nms, x.scp]; exact blkOk_by hb) hg ht hk he hs) fun σ H Q h => i_dc hv h
theorem s_setDc (x : XOk C L T wf ad n N sc E X) {cl : Cll φ} {i : Nat} {y : Str} {py : Pos} {own : List (Str × Nat)} {t : Tg} {it cond ke ve : IE φ} {kx vx tg iter : Expr} {ifs : List Expr} {scope : Scope} {pos spos : Pos} {mk : Bool}
    (hy : nmB N i y = true) (hyl : sc.names.lookup y = some .local) (hsw : swapsWith (.DictComp kx vx [⟨tg, iter, ifs, 0⟩] scope pos) (some (.Name y py)) spos.line X.env = pure true)
    (hi : PI X tg iter (tI C cl E it)) (hb : blkC N sc scope own = true) (hv : ∀ i ∈ t.vars, i ∈ own.map (·.2))
    (hg : ∀ (s : Shared) (H : Hp) (c : Addr) (cls : List (Str × Addr)) (fp : List Addr), PG (X.blk s H scope (compEnvC scope cls c X.env) fp) tg (tG C t))
    (ht : ∀ (s : Shared) (H : Hp) (c : Addr) (cls : List (Str × Addr)) (fp : List Addr), PTs (X.blk s H scope (compEnvC scope cls c X.env) fp) ifs (tT C cl (fun _ _ _ => False) cond))
    (hk : ∀ (s : Shared) (H : Hp) (c : Addr) (cls : List (Str × Addr)) (fp : List Addr), PE (X.blk s H scope (compEnvC scope cls c X.env) fp) kx (tE C cl (fun _ _ _ => False) ke))
    (he : ∀ (s : Shared) (H : Hp) (c : Addr) (cls : List (Str × Addr)) (fp : List Addr), PE (X.blk s H scope (compEnvC scope cls c X.env) fp) vx (tE C cl (fun _ _ _ => False) ve))
    (hs : ∀ y, foldedSetIterable iter X.env y = pure y) : PS X (.Assign [.Name y py] (.DictComp kx vx [⟨tg, iter, ifs, 0⟩] scope pos) spos) (tS C cl wf E (.asg (.nm i) (if mk then .mk (.dc (own.map (·.2)) t it cond ke ve) else .dc (own.map (·.2)) t it cond ke ve))) := by
  refine PS.imp (ps_setDc x.calm (by rw [x.nms]; exact x.nd) (by rw [x.nms]; exact of_decide_eq_true hy) (by rw [x.scp]; exact hyl) hsw hi (by rw [x.nms, x.scp]; exact blkOk_by hb) hg ht hk he hs) fun D σ H h => ?_
  cases mk with
  | true => exact i_dc hv (mk_ok (tE_mono (i_asg h) fun v H' q => g_nm q))
  | false => exact i_dc hv (tE_mono (i_asg h) fun v H' q => g_nm q)
end
end Fd

set_option Elab.async false
set_option linter.all false
set_option maxHeartbeats 1000000
/-! calls that see no cell: the store stands as it was -/
namespace Fd
open PySem L2 PySem.Spec PyProof.Rows
variable {φ : Type}
section
variable {C : Gx}
/-! ### closed data -/
mutual
theorem Rep.clo {F F' : Hp} {ι ι' : List Addr} (f : ∀ a o, F a = some o → F' a = some o) : ∀ {v : V} {d : D}, Rep C F ι v d → d.clo = true → Rep C F' ι' v d
  | _, _, .non, _ => .non
  | _, _, .bl b, _ => .bl b
  | _, _, .int i, _ => .int i
  | _, _, .str y, _ => .str y
  | _, _, .ref h, e => by simp [D.clo] at e
  | _, _, .lst h z r, e => .lst (f _ _ h) z (RepL.clo f r (by simpa [D.clo] using e))
  | _, _, .tup h z r, e => .tup (f _ _ h) z (RepL.clo f r (by simpa [D.clo] using e))
  | _, _, .dK h hk hv z r, e => .dK (rd_mono f h) hk hv z (RepL.clo f r (by simpa [D.clo] using e))
  | _, _, .dT h hk hv z r, e => .dT (f _ _ h) hk hv z (RepL.clo f r (by simpa [D.clo] using e))
  | _, _, .obj h hk hv r, e => .obj (f _ _ h) hk hv (RepL.clo f r (by simpa [D.clo] using e))
  | _, _, .exc h hk hv r, e => .exc (h.mono f) hk hv (RepL.clo f r (by simpa [D.clo] using e))
  | _, _, .scr h, e => .scr (by
    rcases h with (h | ⟨o, h⟩) | h
    · exact .inl (.inl (f _ _ h))
    · exact .inl (.inr ⟨o, f _ _ h⟩)
    · exact .inr h)
theorem RepL.clo {F F' : Hp} {ι ι' : List Addr} (f : ∀ a o, F a = some o → F' a = some o) : ∀ {vs : List V} {ds : List D}, RepL C F ι vs ds → D.cloL ds = true → RepL C F' ι' vs ds
  | _, _, .nil, _ => .nil
  | _, _, .cons a b, e => by
    simp only [D.cloL, Bool.and_eq_true] at e
    exact .cons (Rep.clo f a e.1) (RepL.clo f b e.2)
end
theorem CellAt.clo {F F' H : Hp} {ι ι' : List Addr} {a : Addr} (f : ∀ a o, F a = some o → F' a = some o) : ∀ {c : Cell}, CellAt C F ι H a c → c.toD.clo = true → CellAt C F' ι' H a c
  | .lst _, ⟨vs, h, z, r⟩, e => ⟨vs, h, z, r.clo f (by simpa [Cell.toD, D.clo] using e)⟩
  | .dK _ _, ⟨kvs, h, k, z, r⟩, e => ⟨kvs, h, k, z, r.clo f (by simpa [Cell.toD, D.clo] using e)⟩
  | .dT _ _, ⟨kvs, h, k, z, r⟩, e => ⟨kvs, h, k, z, r.clo f (by simpa [Cell.toD, D.clo] using e)⟩
  | .obj _ _, ⟨dx, fs, h, k, r⟩, e => ⟨dx, fs, h, k, r.clo f (by simpa [Cell.toD, D.clo] using e)⟩
theorem CellAt.at' {F H H' : Hp} {ι : List Addr} {a : Addr} (e : H a = H' a) {c : Cell} (h : CellAt C F ι H a c) : CellAt C F ι H' a c := h.mono .refl e
theorem CellRd.cold {F F' H : Hp} {ι ι' : List Addr} {a : Addr} (f : ∀ a o, F a = some o → F' a = some o) (e : F' a = H a) : ∀ {c : Cell}, CellRd C F ι H a c → c.toD.clo = true → Rep C F' ι' (.ref a) c.toD
  | .lst _, ⟨vs, h, z, r⟩, k => .lst (by rw [e]; exact h) z (r.clo f (by simpa [Cell.toD, D.clo] using k))
  | .dK _ _, ⟨kvs, h, kk, z, r⟩, k => .dK (by unfold Rd; rw [e]; exact h) kk rfl z (r.clo f (by simpa [Cell.toD, D.clo] using k))
  | .dT _ _, ⟨kvs, h, kk, z, r⟩, k => .dT (by rw [e]; exact h) kk rfl z (r.clo f (by simpa [Cell.toD, D.clo] using k))
  | .obj _ _, ⟨dx, fs, h, kk, r⟩, k => .obj (by rw [e]; exact h) kk rfl (r.clo f (by simpa [Cell.toD, D.clo] using k))
theorem viewL_clo {st : Sto} : ∀ {xs ys : List D}, D.cloL xs = true → viewL st xs = some ys → ys = xs
  | [], _, _, h => by simp only [viewL] at h; cases h; rfl
  | x :: xs, ys, e, h => by
    simp only [D.cloL, Bool.and_eq_true] at e
    simp only [viewL] at h
    split at h
    · rename_i y ys' e1 e2
      cases h
      rw [viewL_clo e.2 e2]
      congr 1
      unfold viewD at e1
      split at e1
      · simp [D.clo] at e
      · rw [if_pos e.1] at e1; exact (Option.some.inj e1).symm
    · cases h
theorem scal_clo {F F' : Hp} {ι ι' : List Addr} {v : V} {d : D} (h : scal d = true) (r : Rep C F ι v d) : Rep C F' ι' v d := by
  cases d <;> simp [scal] at h <;> cases r
  · exact .non
  · exact .bl _
  · exact .int _
  · exact .str _
/-- the cells that are not frozen -/
def liveA (F : Hp) (ι : List Addr) : List Addr := ι.filter fun a => (F a).isNone
theorem live_mem {F : Hp} {ι : List Addr} {a : Addr} : a ∈ liveA F ι ↔ a ∈ ι ∧ F a = none := by
  unfold liveA
  rw [List.mem_filter, Option.isNone_iff_eq_none]
section
variable {F : Hp} {ι : List Addr} {st : Sto} {H : Hp}
theorem Sim.live (S : Sim C F ι st H) {a : Addr} (ha : a ∈ ι) (fa : F a = none) : ∃ (i : Nat) (c : Cell), st[i]? = some (Fd.Slot.live c) ∧ ι[i]? = some a := by
  obtain ⟨i, hi⟩ := List.mem_iff_getElem?.mp ha
  have hl : i < st.length := by rw [← S.len]; exact (List.getElem?_eq_some_iff.mp hi).1
  cases e : st[i] with
  | live c => exact ⟨i, c, by rw [List.getElem?_eq_getElem hl, e], hi⟩
  | froz c =>
    have := S.frz i c a (by rw [List.getElem?_eq_getElem hl, e]) hi
    obtain ⟨o, ho⟩ := (Rep.cellA this).there
    rw [fa] at ho; cases ho
theorem Sim.dok (S : Sim C F ι st H) : DOk H (liveA F ι) := ⟨fun a m => by
  obtain ⟨m1, m2⟩ := live_mem.mp m
  obtain ⟨i, c, h1, h2⟩ := S.live m1 m2
  obtain ⟨o, ho⟩ := (S.cell i c a h1 h2).2.there
  exact ⟨o, ho, (S.cell i c a h1 h2).2.kind ho⟩⟩
theorem Sim.frozen_in (S : Sim C F ι st H) {a : Addr} {o : HO} (h : F a = some o) : gone H (liveA F ι) a = false := by
  unfold gone
  have h1 : a ∉ liveA F ι := fun m => by have := (live_mem.mp m).2; rw [h] at this; cases this
  rw [S.fro _ _ h]
  have := S.no a
  rw [h] at this
  cases o <;> first | (simp [h1]; done) | exact absurd rfl (this _)
/-- without the cells -/
theorem Sim.bare (S : Sim C F ι st H) : Sim C F [] [] (dropH H (liveA F ι)) :=
  ⟨fun a o h => by rw [drop_at (S.frozen_in h)]; exact S.fro _ _ h, rfl, .nil, (fun _ h => nomatch h), fun i c a h => by simp at h, fun i c a h => by simp at h, S.no⟩
/-- .. and back -/
theorem Sim.again (S : Sim C F ι st H) {F' ι' st' H'} (S' : Sim C F' ι' st' H') (x : ∀ a o, F a = some o → F' a = some o) (hn : ∀ b, gone H (liveA F ι) b = true → H' b = none) :
    Sim C F' ι st (joinH H (liveA F ι) H') := by
  have nF : ∀ b, gone H (liveA F ι) b = true → F' b = none := fun b g => by
    cases e : F' b with
    | none => rfl
    | some o => have := S'.fro _ _ e; rw [hn b g] at this; cases this
  have ex : Ext F ι F' ι := ⟨x, fun _ _ h => h⟩
  refine ⟨fun a o h => ?_, S.len, S.nd, fun a h => ?_, fun i c a h1 h2 => ?_, fun i c a h1 h2 => (S.frz i c a h1 h2).mono ex, S'.no⟩
  · have : gone H (liveA F ι) a = false := by
      cases g : gone H (liveA F ι) a with
      | false => rfl
      | true => rw [nF a g] at h; cases h
    rw [join_at this]
    exact S'.fro _ _ h
  · cases e : F a with
    | some o =>
      rw [join_at (S.frozen_in e)]
      exact ⟨o, S'.fro _ _ (x _ _ e)⟩
    | none =>
      rw [join_gone (gone_mem (live_mem.mpr ⟨h, e⟩))]
      exact S.has a h
  · obtain ⟨q1, q2⟩ := S.cell i c a h1 h2
    have g := gone_mem (H := H) (live_mem.mpr ⟨List.mem_of_getElem? h2, q1⟩)
    exact ⟨nF a g, q2.mono ex (by rw [join_gone g])⟩
theorem Sim.goAgain (S : Sim C F ι st H) {F' ι' st' H'} (S' : Sim C F' ι' st' H') (g : Go F [] (dropH H (liveA F ι)) F' ι' H') (hn : ∀ b, gone H (liveA F ι) b = true → H' b = none) :
    Go F ι H F' ι (joinH H (liveA F ι) H') := by
  refine ⟨⟨g.x.f, fun _ _ h => h⟩, fun a o h f n => ?_⟩
  cases ga : gone H (liveA F ι) a with
  | true =>
    refine ⟨by rw [join_gone ga]; exact h, ?_, n⟩
    cases e : F' a with
    | none => rfl
    | some o => have := S'.fro _ _ e; rw [hn a ga] at this; cases this
  | false =>
    obtain ⟨q1, q2, _⟩ := g.fr a o (by rw [drop_at ga]; exact h) f (by simp)
    exact ⟨by rw [join_at ga]; exact q1, q2, n⟩
end
/-! ### the result -/
theorem outW_ok {F : Hp} {ι : List Addr} {st : Sto} {H H0 : Hp} {F' : Hp} {ι' : List Addr} {st' : Sto} {H' : Hp} {v : V} {w w' : Wv} (S : Sim C F ι st H) (dom : ∀ a, H a = none → H0 a = none) (S' : Sim C F' ι' st' H') (g : Go F [] (dropH H (liveA F ι)) F' ι' H')
    (hn : ∀ b, gone H (liveA F ι) b = true → H' b = none) (r : RepW C F' ι' (dropH H (liveA F ι)) H' v w) (e : outW w st' = some w') : RepW C F' ι H0 (joinH H (liveA F ι) H') v w' := by
  have fr : ∀ {a : Addr} {c : Cell}, dropH H (liveA F ι) a = none → F' a = none → CellAt C F' ι' H' a c → c.toD.clo = true → RepW C F' ι H0 (joinH H (liveA F ι) H') (.ref a) (.fr c) := fun {a c} h0 fa hc hclo => by
    obtain ⟨o, ho⟩ := hc.there
    have ga : gone H (liveA F ι) a = false := by
      cases ga : gone H (liveA F ι) a with
      | false => rfl
      | true => rw [hn a ga] at ho; cases ho
    rw [drop_at ga] at h0
    refine ⟨a, rfl, dom a h0, fa, fun m => ?_, (hc.clo (fun _ _ h => h) hclo).at' (by rw [join_at ga])⟩
    obtain ⟨u, hu⟩ := S.has a m
    rw [h0] at hu; cases hu
  unfold outW at e
  split at e
  · rename_i j
    cases r with
    | ref ha =>
      rename_i a
      split at e
      · rename_i c hc
        split at e
        · rename_i hclo
          cases e
          obtain ⟨fa, q⟩ := S'.cell j c a hc ha
          refine fr ?_ fa q hclo
          cases h : dropH H (liveA F ι) a with
          | none => rfl
          | some o =>
            cases hF : F a with
            | some u => rw [g.x.f _ _ hF] at fa; cases fa
            | none => exact absurd (List.mem_of_getElem? ha) (g.fr a o h hF (by simp)).2.2
        · cases e
      · rename_i c hc
        split at e
        · rename_i hclo
          cases e
          exact (S'.frz j c a hc ha).clo (fun _ _ h => h) hclo
        · cases e
      · cases e
  · rename_i x hx
    split at e
    · rename_i hclo
      cases e
      exact Rep.clo (fun _ _ h => h) r hclo
    · cases e
  · rename_i c
    split at e
    · rename_i hclo
      cases e
      obtain ⟨a, rfl, h0, fa, _, hc⟩ := r
      exact fr h0 fa hc hclo
    · cases e
variable {E : XK}
/-- a call whose arguments are closed -/
theorem pure_ok {F : Hp} {ι : List Addr} {st : Sto} {H H0 : Hp} {Q : VK} {r : Rs Wv} (S : Sim C F ι st H) (dom : ∀ a, H a = none → H0 a = none) (w : Wpr C E (outR true r st) F ι H (Kq C H0 Q)) :
    Wpr C (fun c d H' => (∀ b, gone H (liveA F ι) b = true → H' b = none) → E c d (joinH H (liveA F ι) H')) r F [] (dropH H (liveA F ι)) (Kq C (dropH H (liveA F ι)) fun v H' => (∀ b, gone H (liveA F ι) b = true → H' b = none) → Q v (joinH H (liveA F ι) H')) := by
  cases r with
  | err => exact w
  | ok w1 st' =>
    intro F' ι' H' g S' v rv hn
    simp only [outR, Bool.true_or, if_true] at w
    split at w
    · rename_i w' e
      exact w F' ι _ (S.goAgain S' g hn) (S.again S' g.x.f hn) v (outW_ok S dom S' g hn rv e)
    · exact w.elim
  | exc e st' =>
    intro F' ι' H' cl d g S' x hn
    simp only [outR, Bool.true_and] at w
    split at w
    · rename_i hc
      refine w F' ι _ cl d (S.goAgain S' g hn) (S.again S' g.x.f hn) ⟨x.1, ?_⟩
      rcases x.2 with x | ⟨dd, fs, h1, h2, h3, h4⟩
      · exact .inl x
      · have gd : gone H (liveA F ι) dd = false := by
          cases gd : gone H (liveA F ι) dd with
          | false => rfl
          | true => rw [hn dd gd] at h2; cases h2
        exact .inr ⟨dd, fs, h1, by rw [join_at gd]; exact h2, h3, h4.clo (fun _ _ h => h) hc⟩
    · exact w.elim
theorem scal_out {w w' : Wv} {st' : Sto} (e : outW w st' = some w') (h : scal w'.toD = true) : w = w' := by
  unfold outW at e
  split at e
  · split at e
    · rename_i c _
      split at e
      · cases e; cases c <;> simp [Wv.toD, Cell.toD, scal] at h
      · cases e
    · rename_i c _
      split at e
      · cases e; cases c <;> simp [Wv.toD, Cell.toD, scal] at h
      · cases e
    · cases e
  · split at e
    · cases e; rfl
    · cases e
  · split at e
    · cases e; rfl
    · cases e
/-- all that stands is frozen for a while -/
def coldF (F : Hp) (ι : List Addr) (H : Hp) : Hp := fun a => if a ∈ ι then H a else F a
section
variable {F : Hp} {ι : List Addr} {st : Sto} {H : Hp}
theorem Sim.coldx (S : Sim C F ι st H) : ∀ a o, F a = some o → coldF F ι H a = some o := fun a o h => by
  unfold coldF
  split
  · exact S.fro _ _ h
  · exact h
theorem Sim.cold (S : Sim C F ι st H) : Sim C (coldF F ι H) [] [] H := by
  refine ⟨fun a o h => ?_, rfl, .nil, (fun _ h => nomatch h), fun i c a h => by simp at h, fun i c a h => by simp at h, fun a x e => ?_⟩
  · unfold coldF at h
    split at h
    · exact h
    · exact S.fro _ _ h
  · unfold coldF at e
    split at e
    · rename_i m
      cases hf : F a with
      | some o => 
        have := S.fro _ _ hf
        rw [e] at this
        cases this
        exact S.no a x hf
      | none =>
        obtain ⟨i, c, h1, h2⟩ := S.live m hf
        exact ((S.cell i c a h1 h2).2.kind e).own x rfl
    · exact S.no a x e
theorem Sim.view (S : Sim C F ι st H) : ∀ {vs : List V} {xs ys : List D}, RepL C F ι vs xs → viewL st xs = some ys → RepL C (coldF F ι H) [] vs ys
  | _, _, _, .nil, h => by simp only [viewL] at h; cases h; exact .nil
  | _, _, _, .cons (v := v) (d := d) a b, h => by
    simp only [viewL] at h
    split at h
    · rename_i y ys e1 e2
      cases h
      refine .cons ?_ (Sim.view S b e2)
      unfold viewD at e1
      split at e1
      · rename_i k
        split at e1
        · rename_i c hc
          split at e1
          · rename_i hclo
            cases e1
            cases a with
            | ref ha =>
              have q := S.cellOf ha hc
              exact q.cold S.coldx (by unfold coldF; rw [if_pos (List.mem_of_getElem? ha)]) hclo
          · cases e1
        · cases e1
      · split at e1
        · rename_i hclo
          cases e1
          exact a.clo S.coldx hclo
        · cases e1
    · cases h
theorem Sim.warm (S : Sim C F ι st H) {F' ι' st' H'} (S' : Sim C F' ι' st' H') (g : Go (coldF F ι H) [] H F' ι' H') : Sim C F ι st H' ∧ Go F ι H F ι H' := by
  have at_ : ∀ a ∈ ι, H' a = H a := fun a m => by
    obtain ⟨o, ho⟩ := S.has a m
    rw [ho]
    exact S'.fro _ _ (g.x.f a o (by unfold coldF; rw [if_pos m]; exact ho))
  refine ⟨⟨fun a o h => S'.fro _ _ (g.x.f _ _ (S.coldx _ _ h)), S.len, S.nd, fun a h => by rw [at_ a h]; exact S.has a h, fun i c a h1 h2 => ?_, S.frz, S.no⟩, ⟨.refl, fun a o h f n => ?_⟩⟩
  · obtain ⟨q1, q2⟩ := S.cell i c a h1 h2
    exact ⟨q1, q2.at' (at_ a (List.mem_of_getElem? h2)).symm⟩
  · exact ⟨(g.fr a o h (by unfold coldF; rw [if_neg n]; exact f) (by simp)).1, f, n⟩
end
/-- a call that looks into cells and hands out a plain value -/
theorem look_ok {F : Hp} {ι : List Addr} {st : Sto} {H H0 : Hp} {Q : VK} {r : Rs Wv} (S : Sim C F ι st H) (w : Wpr C E (outR false r st) F ι H (Kq C H0 Q)) : Wpr C E r (coldF F ι H) [] H (Kq C H Q) := by
  cases r with
  | err => exact w
  | exc e st' => simp [outR] at w; exact w.elim
  | ok w1 st' =>
    intro F' ι' H' g S' v rv
    simp only [outR, Bool.false_or] at w
    split at w
    · rename_i w' e
      split at w
      · rename_i hs
        have ew := scal_out e hs
        subst ew
        obtain ⟨S2, g2⟩ := S.warm S' g
        refine w F ι H' g2 S2 v ?_
        cases w1 with
        | d x => exact scal_clo hs rv
        | fr c => cases c <;> simp [Wv.toD, Cell.toD, scal] at hs
      · exact w.elim
    · exact w.elim
end
section
variable {C : Gx} {L : Lk φ} {T : φ → Fn φ} {wf : Nat} {ad : φ → Addr} {n : Nat} {N : List Str} {sc : Scope} {E : XK} {X : Cx}
theorem spF_of {sp : Sp} {vs : List V} {H : Hp} {Q : VK} (h : sp vs H Q E) : spF sp vs H Q E := by
  have e1 : dropH H [] = H := by
    funext b
    unfold dropH gone
    simp
    intro h
    split at h <;> cases h
  have e2 : ∀ H', joinH H [] H' = H' := fun H' => by
    funext b
    unfold joinH gone
    simp
    intro h
    split at h <;> cases h
  refine ⟨[], ⟨fun _ h => nomatch h⟩, ?_⟩
  rw [e1]
  simp only [e2]
  have e3 : ∀ b, gone H [] b = true → False := fun b h => by
    unfold gone at h
    simp at h
    split at h <;> cases h
  have : (fun (v : V) (H' : Hp) => (∀ b, gone H [] b = true → H' b = none) → Q v H') = Q := by
    funext v H'
    exact propext ⟨fun q => q fun b h => (e3 b h).elim, fun q _ => q⟩
  rw [this]
  have : (fun (c : Value) (d : Option Addr) (H' : Hp) => (∀ b, gone H [] b = true → H' b = none) → E c d H') = E := by
    funext c d H'
    exact propext ⟨fun q => q fun b h => (e3 b h).elim, fun q _ => q⟩
  rw [this]
  exact h
theorem outM_ne {r : Rs Wv} {st : Sto} (h : outM r st ≠ .err) : r ≠ .err := fun e => by subst e; exact h rfl
theorem outR_ne {p : Bool} {r : Rs Wv} {st : Sto} (h : outR p r st ≠ .err) : r ≠ .err := fun e => by subst e; exact h rfl
/-- the wish of such a call -/
theorem spF_ok {f : φ} {ds ys : List D} {vs : List V} {F : Hp} {ι : List Addr} {st : Sto} {H H0 : Hp} {Q : VK} (S : Sim C F ι st H) (r : RepL C F ι vs ds) (hv : viewL st ds = some ys) (dom : ∀ a, H a = none → H0 a = none)
    (w : Wpr C E (outR (D.cloL ds) (callN T wf n f ys []) st) F ι H (Kq C H0 Q)) : spF (spN C T wf n f) vs H Q E := by
  have hl : ys.length = (T f).np := callN_len (outR_ne w.ne)
  cases hc : D.cloL ds with
  | true =>
    rw [hc] at w
    have e := viewL_clo hc hv
    subst e
    exact ⟨liveA F ι, S.dok, by rw [r.length]; exact hl, F, [], [], ys, S.bare, r.clo (fun _ _ h => h) hc, pure_ok S dom w⟩
  | false =>
    rw [hc] at w
    have r2 := S.view r hv
    exact spF_of ⟨by rw [r2.length]; exact hl, coldF F ι H, [], [], ys, S.cold, r2, look_ok S w⟩
theorem p_fcall (x : XOk C L T wf ad n N sc E X) {f : φ} {es : IE φ} {xs : List Expr} {y : Str} {p pos : Pos} (hon : L.on f = true) (hf : L.fnm f = (y, none)) (hg : glB sc y = true) (hst : xs.all starB = true) (hn : xs = [] → es = .nil) (ha : PA X xs (tA C (callN T wf n) E es)) :
    PE X (.Call (.Name y p) xs [] pos) (tE C (callN T wf n) E (.fcall f es)) := by
  obtain ⟨g1, g2, g3⟩ := gl_ok x.scp hg
  obtain ⟨m1, m2⟩ := x.tx.gl f y hon hf
  rw [← x.k] at m2
  obtain ⟨fd, ps, hb, F0⟩ := (x.fn f hon).ex
  have F := Fd.FnOk.frame F0
  rw [← x.k] at hb F
  have i : ∀ σ H Q, tE C (callN T wf n) E (.fcall f es) σ H Q → tCall (spF (spN C T wf n f)) [] E (tA C (callN T wf n) E es) σ H Q := fun σ H Q ⟨F, ι, st, ρ, S, R, w⟩ => by
    simp only [evE] at w
    refine ⟨F, ι, st, ρ, S, R, w.bind.imp fun ds F1 ι1 st1 H1 g1 S1 w1 vs r => ?_⟩
    show spF (spN C T wf n f) (vs ++ []) H1 Q E
    rw [List.append_nil]
    split at w1
    · rename_i ys e
      exact spF_ok S1 r e (fun a ha => g1.dom S S1 ha) w1
    · exact w1.elim
  cases xs with
  | nil =>
    cases hn rfl
    exact PE.imp (pe_call0 F (x.room.mono (by omega)) g1 m1 m2 hb .nil x.pass g2) fun σ H Q q => tA_nil (i σ H Q q)
  | cons e xs =>
    simp only [List.all_cons, Bool.and_eq_true] at hst
    exact PE.imp (pe_call F (x.room.mono (by omega)) g1 m1 m2 hb .nil x.pass ha g2 (star_ok hst.1 _ _) (stars_any hst.2 _ _)) i
end
end Fd

set_option Elab.async false
set_option linter.all false
set_option maxHeartbeats 1000000
/-! .. of methods, of new objects -/
namespace Fd
open PySem L2 PySem.Spec PyProof.Rows
variable {φ : Type}
section
variable {C : Gx} {L : Lk φ} {T : φ → Fn φ} {wf : Nat} {ad : φ → Addr} {n : Nat} {N : List Str} {sc : Scope} {E : XK} {X : Cx}
theorem p_fmeth (x : XOk C L T wf ad n N sc E X) {f : φ} {c : Nat} {a es : IE φ} {o : Expr} {xs : List Expr} {m : Str} {ap pos : Pos} (hon : L.on f = true) (hc : L.con c = true) (hf : L.fnm f = (L.cnm c, some m)) (hm : m ∉ L.fl c) (hi : m ≠ ("__init__" : Str)) (hb : baseB o = true) (hl : (ap.endLine == pos.line) = true) (hlen : xs.length < 20)
    (hst : xs.all starB = true) (hn : xs = [] → es = .nil) (ho : PE X o (tE C (callN T wf n) E a)) (ha : PA X xs (tA C (callN T wf n) E es)) : PE X (.Call (.Attribute o m ap) xs [] pos) (tE C (callN T wf n) E (.fmeth c f a es)) := by
  have M := x.tx.me f c m hon hc hf hi
  have cls := (x.tx.cl c (x.tx.co c hc)).cls
  obtain ⟨fd, ps, hb', F0⟩ := (x.fn f hon).ex
  have F := Fd.FnOk.frame F0
  rw [← x.k] at hb' F M cls
  have i : ∀ σ H Q, tE C (callN T wf n) E (.fmeth c f a es) σ H Q → tMeth (C.cl c).adr m (spF (spN C T wf n f)) [] E (tE C (callN T wf n) E a) (tA C (callN T wf n) E es) σ H Q := fun σ H Q ⟨F, ι, st, ρ, S, R, w⟩ => by
    simp only [evE] at w
    refine bindK S R (fun _ h => h) w fun v d F1 ι1 st1 H1 g1 S1 R1 r1 dom1 w1 => ?_
    split at w1
    · rename_i c' vs e
      split at w1
      · rename_i hcc
        subst hcc
        obtain ⟨p, dx, fs, rfl, h1, h2, h3⟩ := S1.obj r1 e
        refine ⟨p, dx, fs, rfl, h1, ?_, F1, ι1, st1, ρ, S1, R1, w1.bind.imp fun ds F2 ι2 st2 H2 g2 S2 w2 us r => ?_⟩
        · refine List.lookup_eq_none_iff.mpr fun q hq => ?_
          have : q.1 ∈ (C.cl c').fl := List.mem_of_mem_take (h2.1 ▸ List.mem_map_of_mem hq)
          rw [← x.tx.flE] at this
          simp only [beq_eq_false_iff_ne, Bool.not_eq_true', bne_iff_ne, ne_eq]
          exact fun z => hm (z ▸ this)
        · show spF (spN C T wf n f) (.ref p :: (us ++ [])) H2 Q E
          rw [List.append_nil]
          split at w2
          · rename_i ys e
            exact spF_ok S2 (.cons (r1.mono g2.x) r) e (fun a ha => dom1 a (g2.dom S1 S2 ha)) w2
          · exact w2.elim
      · exact w1.elim
    · exact w1.elim
  have ht : ∀ ys : List Expr, ys.all starB = true → ys.length < 20 → eval (.Call (.Attribute o m ap) ys [] pos) X.env = (do
      let ov ← eval o X.env
      standAt ap.atName
      let (f, first) ← holding [ov] (getMethod ov m (plainOf o X.env))
      callWith pos f first (backTo pos (starEach ys X.env)) (backToKw pos (keywordEach [] X.env))) := fun ys h1 h2 => by
    rw [show eval (.Call (.Attribute o m ap) ys [] pos) X.env = (do
      let ov ← attributeBase o m X.env (eval o X.env)
      standAt ap.atName
      methodCall o m ap pos X.env ov (ys.length + 0) (backTo pos (starEach ys X.env)) (backToKw pos (keywordEach [] X.env))) from rfl, base_ok hb]
    congr 1
    funext ov
    congr 1
    funext _
    exact mcall_line (form_ok h1 h2 _ _) hl
  cases xs with
  | nil =>
    cases hn rfl
    exact PE.imp (pe_meth0 ho cls M F (x.room.mono (by omega)) hb' .nil x.pass (ht [] rfl (by decide))) fun σ H Q q => by
      refine tE_mono (i σ H Q q) fun v H1 ⟨a, dx, fs, h1, h2, h3, h4⟩ => ⟨a, dx, fs, h1, h2, h3, tA_nil h4⟩
  | cons e xs =>
    have hst' := hst
    simp only [List.all_cons, Bool.and_eq_true] at hst
    exact PE.imp (pe_meth ho cls M F (x.room.mono (by omega)) hb' .nil x.pass ha (star_ok hst.1 _ _) (stars_any hst.2 _ _) (ht _ hst' hlen)) i
theorem Go.pick {F : Hp} {ι κ : List Addr} {H F' : Hp} {ι' : List Addr} {st' : Sto} {H' : Hp} (S' : Sim C F' ι' st' H') (g : Go F κ (dropH H (liveA F ι)) F' ι' H') (hn : ∀ b, gone H (liveA F ι) b = true → H' b = none) {b : Addr} {o : HO} (h : H b = some o) (f : F b = none) (k : b ∉ κ) :
    joinH H (liveA F ι) H' b = some o ∧ F' b = none := by
  cases gb : gone H (liveA F ι) b with
  | true =>
    refine ⟨by rw [join_gone gb]; exact h, ?_⟩
    cases e : F' b with
    | none => rfl
    | some o => have := S'.fro _ _ e; rw [hn b gb] at this; cases this
  | false =>
    obtain ⟨q1, q2, _⟩ := g.fr b o (by rw [drop_at gb]; exact h) f k
    exact ⟨by rw [join_at gb]; exact q1, q2⟩
theorem i_fmake {f : φ} {c : Nat} {es : IE φ} {σ : L2.St} {H : Hp} {Q : VK} (hC : C.con c = true) (q : tE C (callN T wf n) E (.fmake c f es) σ H Q) : tMake (C.cl c).adr (spF (spN C T wf n f)) [] E (tA C (callN T wf n) E es) σ H Q := by
  obtain ⟨F, ι, st, ρ, S, R, w⟩ := q
  simp only [evE] at w
  refine ⟨F, ι, st, ρ, S, R, w.bind.imp fun ds F1 ι1 st1 H1 g1 S1 w1 vs r a dx ha hdx hne => ?_⟩
  rw [List.append_nil]
  split at w1
  · rename_i hclo
    obtain ⟨S2, fdx, ndx⟩ := S1.more (o := .own a) hdx
    have ha2 : upd H1 dx (.own a) a = none := by rw [upd_ne (Ne.symm hne)]; exact ha
    obtain ⟨S3, fa, na⟩ := S2.more (o := .ins (C.cl c).adr dx []) ha2
    generalize hH2 : upd (upd H1 dx (.own a)) a (.ins (C.cl c).adr dx []) = H2 at S3
    have h2a : H2 a = some (.ins (C.cl c).adr dx []) := by rw [← hH2, upd_same]
    have h2o : ∀ b o, H1 b = some o → H2 b = some o := fun b o h => by
      rw [← hH2, upd_ne (fun z => by rw [z, ha] at h; cases h), upd_ne (fun z => by rw [z, hdx] at h; cases h)]; exact h
    have ga : gone H2 (liveA F1 ι1) a = false := by
      have : a ∉ liveA F1 ι1 := fun m => na (live_mem.mp m).1
      unfold gone
      rw [h2a]
      simp [this]
    obtain ⟨S4, x4, at4⟩ := S3.bare.cellNew (c := .obj c []) fa (by simp) ⟨dx, [], by rw [drop_at ga]; exact h2a, ⟨by simp, hC⟩, .nil⟩
    have at0 : ([a] : List Addr)[0]? = some a := rfl
    replace S4 : Sim C F1 [a] [.live (.obj c [])] (dropH H2 (liveA F1 ι1)) := S4
    have ne := outM_ne (st := st1) w1.ne
    refine ⟨liveA F1 ι1, S3.dok, by rw [show (V.ref a :: vs).length = (D.ref 0 :: ds).length by simp [r.length]]; exact callN_len ne, F1, [a], _, _, S4, .cons (.ref at0) (r.clo (fun _ _ h => h) hclo), ?_⟩
    have dom1 : ∀ a, H1 a = none → H a = none := fun a ha => g1.dom S S1 ha
    generalize callN T wf n f (.ref 0 :: ds) [.live (.obj c [])] = res at w1 ne ⊢
    cases res with
    | err => exact ne rfl
    | exc e st' =>
      simp only [outM] at w1
      split at w1
      · rename_i hc
        intro F' ι' H' cl d g S' xr hn
        have S5 := S3.again S' g.x.f hn
        refine w1 F' ι1 _ cl d ⟨⟨g.x.f, fun _ _ h => h⟩, fun b o h f n => ?_⟩ S5 ⟨xr.1, ?_⟩
        · have nb : b ∉ ([a] : List Addr) := by simp; exact fun z => by rw [z, ha] at h; cases h
          obtain ⟨q1, q2⟩ := Go.pick S' g hn (h2o b o h) f nb
          exact ⟨q1, q2, n⟩
        · rcases xr.2 with x | ⟨dd, fs, h1, h2, h3, h4⟩
          · exact .inl x
          · have gd : gone H2 (liveA F1 ι1) dd = false := by
              cases gd : gone H2 (liveA F1 ι1) dd with
              | false => rfl
              | true => rw [hn dd gd] at h2; cases h2
            exact .inr ⟨dd, fs, h1, by rw [join_at gd]; exact h2, h3, h4.clo (fun _ _ h => h) hc⟩
      · exact w1.elim
    | ok w' st' =>
      simp only [outM] at w1
      split at w1
      · rename_i c' vs' e0
        split at w1
        · rename_i c6 e6
          split at w1
          · rename_i hb
            simp only [Bool.and_eq_true] at hb
            intro F' ι' H' g S' v rv hn
            have hv : v = .non := by
              cases w' with
              | d x => cases x <;> simp [Wv.toD, isNonB] at hb; exact rv.is_non
              | fr c => cases c <;> simp [Wv.toD, Cell.toD, isNonB] at hb
            refine ⟨hv, ?_⟩
            have at1 : ι'[0]? = some a := g.x.i 0 a at0
            obtain ⟨fa', dx', fs', h1, h2, h3⟩ := S'.cell 0 _ a e0 at1
            obtain ⟨F6, S6, g6, r6⟩ := Sim.stillLs S' h3
            have fa6 := (S6.cell 0 _ a e6 at1).1
            have S7 := S3.again S6 (fun a o h => g6.x.f a o (g.x.f a o h)) hn
            refine w1 F6 ι1 _ ⟨⟨fun a o h => g6.x.f a o (g.x.f a o h), fun _ _ h => h⟩, fun b o h f n => ?_⟩ S7 _ ⟨a, rfl, dom1 a ha, fa6, na, ?_⟩
            · have nb : b ∉ ([a] : List Addr) := by simp; exact fun z => by rw [z, ha] at h; cases h
              obtain ⟨q1, q2⟩ := Go.pick S6 (g.trans g6) hn (h2o b o h) f nb
              exact ⟨q1, q2, n⟩
            · refine ⟨dx', fs', by rw [join_at ga]; exact h1, by rw [stillL_len]; exact h2, r6.clo (fun _ _ h => h) hb.2⟩
          · exact w1.elim
        · exact w1.elim
      · exact w1.elim
  · exact w1.elim
theorem p_fmake (x : XOk C L T wf ad n N sc E X) {f : φ} {c : Nat} {es : IE φ} {xs : List Expr} {y : Str} {p pos : Pos} (hon : L.on f = true) (hc : L.con c = true) (hcn : L.cnm c = y) (hf : L.fnm f = (y, some ("__init__" : Str))) (hg : glB sc y = true) (hst : xs.all starB = true) (hn : xs = [] → es = .nil)
    (ha : PA X xs (tA C (callN T wf n) E es)) : PE X (.Call (.Name y p) xs [] pos) (tE C (callN T wf n) E (.fmake c f es)) := by
  subst hcn
  obtain ⟨g1, g2, g3⟩ := gl_ok x.scp hg
  have M := x.tx.mak f c hon hc hf
  have cg := x.tx.cg c hc
  obtain ⟨fd, ps, hb, F0⟩ := (x.fn f hon).ex
  have F := Fd.FnOk.frame F0
  rw [← x.k] at hb F M
  cases xs with
  | nil =>
    cases hn rfl
    exact PE.imp (pe_make0 M F (x.room) g1 cg hb .nil x.pass g2) fun σ H Q q => tA_nil (i_fmake (x.tx.co c hc) q)
  | cons e xs =>
    simp only [List.all_cons, Bool.and_eq_true] at hst
    exact PE.imp (pe_make M F x.room g1 cg hb .nil x.pass ha g2 (star_ok hst.1 _ _) (stars_any hst.2 _ _)) fun σ H Q q => i_fmake (x.tx.co c hc) q
end
end Fd

set_option Elab.async false
set_option linter.all false
namespace Fd
open PySem L2
theorem zip_lookup {α : Type} : ∀ {ps : List Str} {us : List α}, us.length = ps.length → ∀ n ∈ ps, ((ps.zip us).lookup n).isSome = true
  | p :: ps, u :: us, h, n, hn => by
    rw [List.zip_cons_cons, List.lookup_cons]
    cases e : n == p with
    | true => rfl
    | false =>
      have : n ∈ ps := by
        rcases List.mem_cons.mp hn with rfl | h
        · simp at e
        · exact h
      exact zip_lookup (by simpa using h) n this
  | [], _, _, n, hn => by cases hn
  | _ :: _, [], h, _, _ => by simp at h
theorem fm_congr {α β : Type} {f g : α → Option β} : ∀ {l : List α}, (∀ n ∈ l, f n = g n) → l.filterMap f = l.filterMap g
  | [], _ => rfl
  | a :: l, h => by
    rw [List.filterMap_cons, List.filterMap_cons, h a List.mem_cons_self, fm_congr fun n hn => h n (List.mem_cons_of_mem _ hn)]
theorem zip_map : ∀ {ps : List Str} {us : List Value}, ps.Nodup → us.length = ps.length → ps.filterMap (fun n => ((ps.zip us).lookup n).map (n, ·)) = ps.zip us
  | [], [], _, _ => rfl
  | p :: ps, u :: us, nd, h => by
    rw [List.nodup_cons] at nd
    have ih := zip_map nd.2 (by simpa using h : us.length = ps.length)
    rw [List.zip_cons_cons, List.filterMap_cons]
    simp only [List.lookup_cons, beq_self_eq_true, Option.map_some]
    congr 1
    refine Eq.trans (fm_congr fun n hn => ?_) ih
    have : (n == p) = false := by
      rw [beq_eq_false_iff_ne]
      intro e
      exact nd.1 (e ▸ hn)
    rw [this]
  | [], _ :: _, _, h => by simp at h
  | _ :: _, [], _, h => by simp at h
theorem bind_plain {x qual : Str} {as : List Arg} {body : List Stmt} {scope : Scope} {kV doc pm cdv ct : Value} {an : Option Addr} {us : List Value} (nd : (as.map (·.arg)).Nodup) (hl : us.length = (as.map (·.arg)).length) :
    bindArgs (PySem.W.fnOf x qual ⟨[], as, none, [], [], none, []⟩ body scope .none kV doc pm an cdv ct) ⟨us, []⟩ = pure ((as.map (·.arg)).zip us) := by
  have hm : ((as.map (·.arg)).take ((as.map (·.arg)).length)).filter (fun n => (((as.map (·.arg)).zip us).lookup n).isNone) = [] := by
    rw [List.filter_eq_nil_iff]
    intro n hn
    have := zip_lookup hl n (List.mem_of_mem_take hn)
    simp only [Option.isNone_iff_eq_none, Bool.not_eq_true]
    intro e
    rw [e] at this
    cases this
  have hs : seqItems? Value.none = pure none := rfl
  have hd : decide (us.length > (as.map (·.arg)).length) = false := by simp [hl]
  unfold bindArgs
  simp only [PySem.W.fnOf, List.map_nil, List.nil_append, List.forIn_nil, pure_bind, hs, hd, Option.getD_none, Bool.false_and, Bool.false_eq_true, if_false, List.append_nil, List.length_nil, Nat.sub_zero, List.drop_nil, Nat.zero_sub, List.zip_nil_right, hm, List.isEmpty_nil, Bool.not_true, zip_map nd hl]
end Fd

set_option Elab.async false
set_option linter.all false
set_option maxHeartbeats 1000000
/-! exceptions as values, a cell where the value is new, displays of dicts -/
namespace Fd
open PySem L2 PySem.Spec PyProof.Rows
variable {φ : Type}
section
variable {C : Gx} {L : Lk φ} {T : φ → Fn φ} {wf : Nat} {ad : φ → Addr} {n : Nat} {N : List Str} {sc : Scope} {E : XK} {X : Cx}
theorem p_mkq {cl : Cll φ} {a : IE φ} {e : Expr} (ha : PE X e (tE C cl E a)) : PE X e (tE C cl E (.mkq a)) := by
  refine PE.imp ha fun σ H Q ⟨F, ι, st, ρ, S, R, w⟩ => ?_
  simp only [evE] at w
  refine ⟨F, ι, st, ρ, S, R, ?_⟩
  revert w
  cases evE cl a ρ st with
  | ok w' st1 =>
    cases w' with
    | d x => exact id
    | fr c =>
      intro w F1 ι1 H1 g1 S1 v r
      obtain ⟨p, rfl, h0, fp, np, hc⟩ := r
      obtain ⟨S2, x2, at2⟩ := S1.cellNew fp np hc
      exact w F1 (ι1 ++ [p]) H1 (g1.cell h0 x2) S2 _ (.ref at2)
  | exc e st1 => exact id
  | err => exact id
/-! ### exceptions -/
theorem Go.side2 {F : Hp} {ι : List Addr} {H : Hp} {a b : Addr} {o o1 o2 : HO} (S : ∃ st, Sim C F ι st H) (ha : H a = none) (hb : H b = none) (ne : b ≠ a) : Go F ι H F ι (upd (upd (upd H a o) b o1) a o2) := by
  refine ⟨.refl, fun c u h f n => ⟨?_, f, n⟩⟩
  have h1 : c ≠ a := fun z => by rw [z, ha] at h; cases h
  have h2 : c ≠ b := fun z => by rw [z, hb] at h; cases h
  rw [upd_ne h1, upd_ne h2, upd_ne h1]
  exact h
theorem exd_own' {e x : Addr} {fs : List (Str × V)} : exd e fs ≠ .own x := exd_own
/-- the end of an exception's making -/
theorem endX {c : Nat} {f : Str} {y : V} {d : D} {F : Hp} {ι : List Addr} {st : Sto} {H H0 : Hp} {Q : VK} {a dx : Addr} {o : HO} (hfl : (C.cl c).fl = [f]) (w : Wpr C E (.ok (.d (.exc c [d])) st) F ι H (Kq C H0 Q)) (S : Sim C F ι st H) (r : Rep C F ι y d) (ha : H a = none) (hdx : upd H a o dx = none) (ne : dx ≠ a) :
    Q (.ref a) (upd (upd (upd H a o) dx (exd dx [(f, y)])) a (exo a (C.cl c).adr (some dx))) := by
  have hdx0 : H dx = none := by rw [upd_ne ne] at hdx; exact hdx
  obtain ⟨S1, fa, na⟩ := S.more (o := o) ha
  obtain ⟨S2, fd, nd⟩ := S1.more (o := exd dx [(f, y)]) hdx
  have S3 := S2.side (o := exo a (C.cl c).adr (some dx)) fa na
  generalize hH : upd (upd (upd H a o) dx (exd dx [(f, y)])) a (exo a (C.cl c).adr (some dx)) = H3 at S3 ⊢
  have e1 : H3 a = some (exo a (C.cl c).adr (some dx)) := by rw [← hH, upd_same]
  have e2 : H3 dx = some (exd dx [(f, y)]) := by rw [← hH, upd_ne ne, upd_same]
  have g : Go F ι H F ι H3 := by rw [← hH]; exact Go.side2 ⟨st, S⟩ ha hdx0 ne
  obtain ⟨S4, x4⟩ := S3.freeze e2 fd nd (fun _ => exd_own)
  obtain ⟨S5, x5⟩ := S4.freeze e1 (by rw [upd_ne (Ne.symm ne)]; exact fa) na (fun _ => exo_own)
  refine w _ ι H3 ((g.frz hdx0 x4).frz ha x5) S5 _ (.exc (fs := [(f, y)]) (.inr ⟨dx, upd_same, by rw [upd_ne ne, upd_same]⟩) (by rw [hfl]; rfl) rfl (.cons ((r.mono x4).mono x5) .nil))
theorem endX0 {c : Nat} {F : Hp} {ι : List Addr} {st : Sto} {H H0 : Hp} {Q : VK} {a : Addr} (w : Wpr C E (.ok (.d (.exc c [])) st) F ι H (Kq C H0 Q)) (S : Sim C F ι st H) (ha : H a = none) : Q (.ref a) (upd H a (ExO (.ref (C.cl c).adr) a)) := by
  obtain ⟨S1, fa, na⟩ := S.more (o := ExO (.ref (C.cl c).adr) a) ha
  have no : ∀ x, ExO (.ref (C.cl c).adr) a ≠ .own x := fun x z => by
    have z' : HO.ext _ = HO.own x := z
    cases z'
  obtain ⟨S2, x2⟩ := S1.freeze (upd_same (a := a)) fa na no
  exact w _ ι _ ((Go.more ha).frz ha x2) S2 _ (.exc (.inl ⟨rfl, upd_same⟩) (by simp) rfl .nil)
theorem XI.fn {K : PySem.W.Frag} {A : Addr} {f : Str} (h : XI K A f) : ∃ (fI : Addr) (fd : FuncData) (ps : List Str), XiOk K A fI f ∧ Binds K fd ps [] ∧ (∀ (s : Shared) (u0 u1 : Value), BindsTo s fd ⟨[u0], [(f, u1)]⟩ (ps.zip [u0, u1])) ∧
    ∀ (P : Program) (w : World) (mg : Str → Option Value) (base : Heap), FnOk P w K mg base (L2.CX P w) 1 fI fd ps (spXI A f) := by
  obtain ⟨fI, fd, xn, qual, s, a0, a1, p1, p2, p3, ps, scope, kws, XO, FD, FS, e0, e1, n1, n2⟩ := h.ex
  have F1 := fun (P : Program) (w : World) (mg : Str → Option Value) (base : Heap) => fnXI (P := P) (w := w) (mg := mg) (base := base) XO FD FS n1 n2
  obtain ⟨oc, od, dV, kV, doc, pm, an, cdv, ct, osl, efd, lk, hcd, hD, hK⟩ := FD.ex
  have edV : dV = .none := by
    rcases hD with ⟨_, rfl⟩ | ⟨e, _⟩
    · rfl
    · exact absurd rfl e
  subst edV efd e0 e1
  have nd := FS.nd
  refine ⟨fI, _, [a0.arg, a1.arg], XO, .all fun us hl => bind_plain (as := [a0, a1]) nd hl, fun st u0 u1 => .of_eq ?_, F1⟩
  refine bind_kw fun e => ?_
  rw [e] at nd
  simp at nd
theorem p_mkx (x : XOk C L T wf ad n N sc E X) {c : Nat} {a : IE φ} {cl : Cll φ} {e : Expr} {y : Str} {p pos : Pos} (hx : L.xin c = true) (hcn : L.cnm c = y) (hg : glB sc y = true) (hs : starB e = true) (ha : PE X e (tE C cl E a)) :
    PE X (.Call (.Name y p) [e] [] pos) (tE C cl E (.mkx c false a)) := by
  subst hcn
  obtain ⟨g1, g2, g3⟩ := gl_ok x.scp hg
  have hc : xcB L c = true := by unfold xcB; rw [hx]; rfl
  obtain ⟨cg, K⟩ := x.tx.xg c hc
  obtain ⟨f, hf, hxi⟩ := x.tx.xi c hx
  obtain ⟨fI, fd, ps, XO, hb, _, F0⟩ := hxi.fn
  have F1 := F0 X.prog X.w X.mg X.base
  rw [← x.k] at hb F1 XO
  refine PE.imp (pe_oex XO.oex XO.it XO.ft F1 (x.room.mono (by omega)) hb (passes_call x.tk (fun _ _ _ _ h => h.elim)) g1 cg (pa_cons ha pa_nil (star_ok hs _ _)) g2 (star_ok hs _ _) rfl) fun σ H Q ⟨F, ι, st, ρ, S, R, w⟩ => ?_
  simp only [evE] at w
  refine bindK S R (fun _ h => h) w fun v d F1 ι1 st1 H1 g1 S1 R1 r1 dom1 w1 => ?_
  refine ⟨by show 1 ≤ 1000; decide, fun a0 h0 => ⟨a0, v, rfl, upd_same, fun dx hdx ne => ⟨rfl, ?_⟩⟩⟩
  exact endX (by rw [← x.tx.flE]; exact hf) w1 S1 r1 h0 hdx ne
theorem p_mkxK (x : XOk C L T wf ad n N sc E X) {c : Nat} {a : IE φ} {cl : Cll φ} {e : Expr} {y f : Str} {p kp pos : Pos} (hx : L.xin c = true) (hcn : L.cnm c = y) (hfl : L.fl c = [f]) (hg : glB sc y = true) (ha : PE X e (tE C cl E a)) :
    PE X (.Call (.Name y p) [] [⟨some f, e, kp⟩] pos) (tE C cl E (.mkx c true a)) := by
  subst hcn
  obtain ⟨g1, g2, g3⟩ := gl_ok x.scp hg
  have hc : xcB L c = true := by unfold xcB; rw [hx]; rfl
  obtain ⟨cg, K⟩ := x.tx.xg c hc
  obtain ⟨f', hf, hxi⟩ := x.tx.xi c hx
  rw [hfl] at hf
  cases hf
  obtain ⟨fI, fd, ps, XO, _, hb, F0⟩ := hxi.fn
  have F1 := F0 X.prog X.w X.mg X.base
  rw [← x.k] at F1 XO
  refine PE.imp (pe_oexK XO.oex XO.it XO.ft F1 (x.room.mono (by omega)) hb (passes_call x.tk (fun _ _ _ _ h => h.elim)) g1 cg ha g2) fun σ H Q ⟨F, ι, st, ρ, S, R, w⟩ => ?_
  simp only [evE] at w
  refine bindK S R (fun _ h => h) w fun v d F1 ι1 st1 H1 g1 S1 R1 r1 dom1 w1 => ?_
  refine fun a0 h0 => ⟨a0, v, rfl, upd_same, fun dx hdx ne => ⟨rfl, ?_⟩⟩
  exact endX (by rw [← x.tx.flE]; exact hfl) w1 S1 r1 h0 hdx ne
theorem p_mkx0 (x : XOk C L T wf ad n N sc E X) {c : Nat} {cl : Cll φ} {y : Str} {p pos : Pos} (hx : L.x0 c = true) (hcn : L.cnm c = y) (hg : glB sc y = true) : PE X (.Call (.Name y p) [] [] pos) (tE C cl E (.mkx0 c)) := by
  subst hcn
  obtain ⟨g1, g2, g3⟩ := gl_ok x.scp hg
  have hc : xcB L c = true := by unfold xcB; rw [hx, Bool.or_true]
  obtain ⟨cg, K⟩ := x.tx.xg c hc
  have q := (x.tx.xz c hx).2
  have kp := K.kp
  rw [← x.k] at q kp
  refine PE.imp (pe_exc0 PySem.F.excBase_ValueError q cg kp g1 g2) fun σ H Q ⟨F, ι, st, ρ, S, R, w⟩ a0 h0 => ?_
  simp only [evE] at w
  exact endX0 w S h0
theorem p_xattr (x : XOk C L T wf ad n N sc E X) {cl : Cll φ} {c j : Nat} {a : IE φ} {o : Expr} {f : Str} {pos : Pos} (hx : L.xin c = true) (hf : (L.fl c)[j]? = some f) (hb : baseB o = true) (ho : PE X o (tE C cl E a)) : PE X (.Attribute o f pos) (tE C cl E (.xattr c j a)) := by
  have hc : xcB L c = true := by unfold xcB; rw [hx]; rfl
  obtain ⟨cg, K⟩ := x.tx.xg c hc
  obtain ⟨f', hf', hxi⟩ := x.tx.xi c hx
  obtain ⟨fI, fd, ps, XO, _, _, _⟩ := hxi.fn
  have no := XO.no
  refine PE.imp (pe_xat ho (base_ok hb)) fun σ H Q ⟨F, ι, st, ρ, S, R, w⟩ => ?_
  simp only [evE] at w
  refine bindK S R (fun _ h => h) w fun v d F1 ι1 st1 H1 g1 S1 R1 r1 dom1 w1 => ?_
  split at w1
  · rename_i c' vs
    split at w1
    · rename_i hcc
      subst hcc
      cases r1 with
      | exc hx hk hv r =>
        subst hv
        rename_i a0 fs
        cases e2 : vs[j]? with
        | none => rw [e2] at w1; exact w1.elim
        | some d =>
          rw [e2] at w1
          have ef : f = f' := by
            rw [hf'] at hf
            cases j with
            | zero => exact (Option.some.inj hf).symm
            | succ j => simp at hf
          subst ef
          rw [x.tx.flE] at hf hf'
          obtain ⟨v, q1, q2⟩ := lookup_zip (fl := (C.cl c').fl) (by rw [hf']; simp) 0 (by simpa using hk) r e2 (by simpa using hf)
          rw [x.k]
          exact ⟨a0, _, fs, v, rfl, K, no, hx.mono S1.fro, q1, w1 F1 ι1 H1 .refl S1 v (S1.res q2)⟩
    · exact w1.elim
  · exact w1.elim
/-! ### isinstance of an exception -/
def nmX (L : Lk φ) (sc : Scope) (t : Option Nat) (e : Expr) : Bool := match e with
  | .Name y _ => glB sc y && (match t with
    | none => decide (y = "ValueError")
    | some c => xcB L c && decide (L.cnm c = y))
  | _ => false
def nmXs (L : Lk φ) (sc : Scope) : List (Option Nat) → List Expr → Bool
  | [], [] => true
  | t :: ts, e :: es => nmX L sc t e && nmXs L sc ts es
  | _, _ => false
def tblX (L : Lk φ) (n : Nat) (tbl : List Nat) (ts : List (Option Nat)) : Bool := (List.range n).all fun c => xcB L c && (decide (c ∈ tbl) == ts.any fun t => xmB L c t)
theorem p_nmX (x : XOk C L T wf ad n N sc E X) {t : Option Nat} {e : Expr} (h : nmX L sc t e = true) : ∃ v, ClsV v (xval C t) ∧ PE X e (tC v) ∧ (∀ c, t = some c → xcB L c = true) ∧ starB e = true := by
  unfold nmX at h
  split at h
  · rename_i y p
    simp only [Bool.and_eq_true] at h
    obtain ⟨h1, h2⟩ := h
    obtain ⟨g1, g2, g3⟩ := gl_ok x.scp h1
    cases t with
    | none =>
      have e := of_decide_eq_true h2
      subst e
      exact ⟨.ty "ValueError", .ty _, pe_bltn (v := .ty "ValueError") g1 (x.tx.bl _ (by decide)) PyProof.Rows.Boot.«ValueError» rfl g3 g2, (fun c h => nomatch h), rfl⟩
    | some c =>
      simp only [Bool.and_eq_true, decide_eq_true_eq] at h2
      obtain ⟨h3, rfl⟩ := h2
      exact ⟨.ref (C.cl c).adr, .own _, pe_glob (v := .ref (C.cl c).adr) g1 (x.tx.xg c h3).1 rfl g2, fun c' h => by cases h; exact h3, rfl⟩
  · cases h
theorem p_nmXs (x : XOk C L T wf ad n N sc E X) : ∀ {ts : List (Option Nat)} {es : List Expr}, nmXs L sc ts es = true → ∃ vs, Paired ClsV vs (ts.map (xval C)) ∧ PA X es (fun _ H Q => Q vs H) ∧ ∀ t ∈ ts, ∀ c, t = some c → xcB L c = true
  | [], [], _ => ⟨[], .nil, PA.imp pa_nil fun _ _ _ h => h, (fun _ h => nomatch h)⟩
  | t :: ts, e :: es, h => by
    simp only [nmXs, Bool.and_eq_true] at h
    obtain ⟨v, k, p, hc, hs⟩ := p_nmX x h.1
    obtain ⟨vs, ks, ps, hcs⟩ := p_nmXs x h.2
    refine ⟨v :: vs, .cons k ks, PA.imp (pa_cons p ps (star_ok hs _ _)) fun _ _ _ h => h, fun t' ht => ?_⟩
    rcases List.mem_cons.mp ht with rfl | ht
    · exact hc
    · exact hcs t' ht
theorem kit_one (x : XOk C L T wf ad n N sc E X) {c : Nat} {t : Option Nat} (hc : xcB L c = true) (ht : ∀ c', t = some c' → xcB L c' = true) : PySem.W.kitOne X.K (.ref (C.cl c).adr) (xval C t) = some (xmB L c t) := by
  rw [x.k]; exact x.tx.xk c t hc ht
theorem kit_any (x : XOk C L T wf ad n N sc E X) {c : Nat} (hc : xcB L c = true) : ∀ {ts : List (Option Nat)}, (∀ t ∈ ts, ∀ c', t = some c' → xcB L c' = true) → PySem.W.kitAny X.K (.ref (C.cl c).adr) (ts.map (xval C)) = some (ts.any fun t => xmB L c t)
  | [], _ => rfl
  | t :: ts, h => by
    have h1 := kit_one x hc (h t List.mem_cons_self)
    have h2 := kit_any x hc (ts := ts) fun t' ht => h t' (List.mem_cons_of_mem _ ht)
    rw [List.map_cons, List.any_cons]
    refine kitAny_cons h1 (fun e => ?_) fun e => ?_
    · rw [e, Bool.false_or]; exact h2
    · rw [e, Bool.true_or]
theorem tbl_ok {m : Nat} {tbl : List Nat} {ts : List (Option Nat)} (h : tblX L m tbl ts = true) {c : Nat} (hc : c < m) : xcB L c = true ∧ decide (c ∈ tbl) = ts.any fun t => xmB L c t := by
  have := List.all_eq_true.mp h c (List.mem_range.mpr hc)
  simp only [Bool.and_eq_true, beq_iff_eq] at this
  exact this
theorem i_isX {cl : Cll φ} {m : Nat} {tbl : List Nat} {tup : Bool} {ts : List (Option Nat)} {a : IE φ} {σ : L2.St} {H : Hp} {Q : VK} {P : V → Hp → Prop} (h : tE C cl E (.isX m tbl tup ts a) σ H Q)
    (f : ∀ v c fs F1 ι1 st1 H1, Sim C F1 ι1 st1 H1 → v = .ref fs → c < m → (∀ H2, (∀ b o, F1 b = some o → H2 b = some o) → ∃ gs, ExcAt H2 fs (C.cl c).adr gs) → (∀ o p, H1 p = none → Q (.bl (decide (c ∈ tbl))) (upd H1 p o)) → Q (.bl (decide (c ∈ tbl))) H1 → P v H1) : tE C cl E a σ H P := by
  obtain ⟨F, ι, st, ρ, S, R, w⟩ := h
  simp only [evE] at w
  refine bindK S R (fun _ h => h) w fun v d F1 ι1 st1 H1 g1 S1 R1 r1 dom1 w1 => ?_
  split at w1
  · rename_i c vs
    split at w1
    · rename_i hcm
      cases r1 with
      | exc hx hk hv r =>
        rename_i a0 fs _
        refine f _ c a0 F1 ι1 st1 H1 S1 rfl hcm (fun H2 h2 => ⟨fs, hx.mono h2⟩) (fun o p hp => ?_) (w1 F1 ι1 H1 .refl S1 _ (.bl _))
        obtain ⟨S2, _, _⟩ := S1.more (o := o) hp
        exact w1 F1 ι1 _ (Go.more hp) S2 _ (.bl _)
    · exact w1.elim
  · exact w1.elim
theorem p_isX (x : XOk C L T wf ad n N sc E X) {cl : Cll φ} {m : Nat} {tbl : List Nat} {t : Option Nat} {a : IE φ} {e y : Expr} {p pos : Pos} (hg : glB sc "isinstance" = true) (hn : nmX L sc t y = true) (hT : tblX L m tbl [t] = true) (hs : starB e = true) (ha : PE X e (tE C cl E a)) :
    PE X (.Call (.Name "isinstance" p) [e, y] [] pos) (tE C cl E (.isX m tbl false [t] a)) := by
  obtain ⟨v, k, py, hc, hs2⟩ := p_nmX x hn
  refine PE.imp (pe_callB call_isX (gl_ok x.scp hg).1 (x.tx.bl _ (by decide)) PyProof.Rows.boot_isinstance (pa_cons ha (pa_cons py pa_nil (star_ok hs2 _ _)) (star_ok hs _ _)) (by decide) (by decide) (star_ok hs _ _) (by rw [star_ok hs2]; rfl)) fun σ H Q h => ?_
  refine i_isX h fun u c a0 F1 ι1 st1 H1 S1 eu hcm hx _ q => ?_
  subst eu
  obtain ⟨fs, hx⟩ := hx H1 S1.fro
  obtain ⟨t1, t2⟩ := tbl_ok hT hcm
  have K := (x.tx.xg c t1).2
  have k1 := kit_one x t1 hc
  refine ⟨a0, (C.cl c).adr, fs, v, _, _, rfl, k, by rw [x.k]; exact K, hx, k1, ?_⟩
  rw [t2] at q
  simpa using q
theorem nmXs_len : ∀ {ts : List (Option Nat)} {es : List Expr}, nmXs L sc ts es = true → ts.length = es.length
  | [], [], _ => rfl
  | t :: ts, e :: es, h => by
    simp only [nmXs, Bool.and_eq_true] at h
    rw [List.length_cons, List.length_cons, nmXs_len h.2]
theorem p_isXT (x : XOk C L T wf ad n N sc E X) {cl : Cll φ} {m : Nat} {tbl : List Nat} {ts : List (Option Nat)} {a : IE φ} {e : Expr} {es : List Expr} {kk : Nat} {p p2 pos : Pos} (hg : glB sc "isinstance" = true) (hn : nmXs L sc ts es = true) (hT : tblX L m tbl ts = true) (hl : es.length ≤ 1000) (hs : starB e = true) (ha : PE X e (tE C cl E a)) :
    PE X (.Call (.Name "isinstance" p) [e, .Tuple es kk p2] [] pos) (tE C cl E (.isX m tbl true ts a)) := by
  obtain ⟨vs, ks, pes, hc⟩ := p_nmXs x hn
  refine PE.imp (pe_callB call_isXT (gl_ok x.scp hg).1 (x.tx.bl _ (by decide)) PyProof.Rows.boot_isinstance (pa_cons ha (pa_cons (pe_tup pes) pa_nil rfl) (star_ok hs _ _)) (by decide) (by decide) (star_ok hs _ _) rfl) fun σ H Q h => ?_
  refine i_isX h fun u c a0 F1 ι1 st1 H1 S1 eu hcm hx q2 q => ?_
  subst eu
  have lv : vs.length ≤ sizeLine := by
    have h1 := Paired.length ks
    have h2 := nmXs_len hn
    rw [List.length_map] at h1
    rw [sizeLine_eq]; omega
  refine ⟨lv, fun tp htp => ?_⟩
  obtain ⟨fs, hx⟩ := hx (upd H1 tp (.tup vs)) fun b o h => by rw [upd_ne (fun z => by rw [z] at h; rw [S1.fro _ _ h] at htp; cases htp)]; exact S1.fro _ _ h
  obtain ⟨t1, t2⟩ := tbl_ok hT hcm
  have K := (x.tx.xg c t1).2
  refine ⟨a0, (C.cl c).adr, tp, fs, vs, _, _, rfl, upd_same, ks, by rw [x.k]; exact K, hx, kit_any x t1 hc, ?_⟩
  rw [← t2]
  exact q2 _ _ htp
end
end Fd

set_option Elab.async false
set_option linter.all false
set_option maxHeartbeats 1000000
/-! a comprehension over a dict: the dict is locked meanwhile; displays of dicts -/
namespace Fd
open PySem L2 PySem.Spec PyProof.Rows
variable {φ : Type}
section
variable {C : Gx}
/-- at a: a dict, locked or not -/
def DicO (u : HO) (kvs : List (Key × V)) : Prop := u = .dK kvs ∨ ∃ o, u = .frz o (.dK kvs)
structure Swap (F F' : Hp) (a : Addr) (kvs : List (Key × V)) : Prop where
  here : ∃ u, F a = some u ∧ DicO u kvs
  there : ∃ u, F' a = some u ∧ DicO u kvs
  else_ : ∀ b, b ≠ a → F' b = F b
theorem Swap.ne {F F' : Hp} {a b : Addr} {kvs : List (Key × V)} {o : HO} (s : Swap F F' a kvs) (h : F b = some o) (n : ∀ kvs, ¬ DicO o kvs) : F' b = some o := by
  by_cases e : b = a
  · subst e
    obtain ⟨u, h1, h2⟩ := s.here
    rw [h] at h1
    cases h1
    exact absurd h2 (n _)
  · rw [s.else_ b e]; exact h
theorem Swap.rd {F F' : Hp} {a b : Addr} {kvs kvs' : List (Key × V)} (s : Swap F F' a kvs) (h : Rd F b (.dK kvs')) : Rd F' b (.dK kvs') := by
  by_cases e : b = a
  · subst e
    obtain ⟨u, h1, h2⟩ := s.here
    obtain ⟨u', h3, h4⟩ := s.there
    have ek : kvs' = kvs := by
      rcases h with h | ⟨o, h⟩ <;> rw [h1] at h <;> cases h <;> rcases h2 with h2 | ⟨o, h2⟩ <;> cases h2 <;> rfl
    subst ek
    rcases h4 with rfl | ⟨o, rfl⟩
    · exact .inl h3
    · exact .inr ⟨o, h3⟩
  · unfold Rd
    rw [s.else_ b e]
    exact h
theorem not_ext {φ : Heap → Prop} : ∀ kvs, ¬ DicO (.ext φ) kvs := fun kvs h => by
  rcases h with h | ⟨o, h⟩ <;> cases h
mutual
theorem Rep.swap {F F' : Hp} {ι : List Addr} {a : Addr} {kvs : List (Key × V)} (s : Swap F F' a kvs) : ∀ {v : V} {d : D}, Rep C F ι v d → Rep C F' ι v d
  | _, _, .non => .non
  | _, _, .bl b => .bl b
  | _, _, .int i => .int i
  | _, _, .str y => .str y
  | _, _, .ref h => .ref h
  | _, _, .lst h z r => .lst (s.ne h fun _ h => by rcases h with h | ⟨o, h⟩ <;> cases h) z (RepL.swap s r)
  | _, _, .tup h z r => .tup (s.ne h fun _ h => by rcases h with h | ⟨o, h⟩ <;> cases h) z (RepL.swap s r)
  | _, _, .dK h hk hv z r => .dK (s.rd h) hk hv z (RepL.swap s r)
  | _, _, .dT h hk hv z r => .dT (s.ne h fun _ h => by rcases h with h | ⟨o, h⟩ <;> cases h) hk hv z (RepL.swap s r)
  | _, _, .obj h hk hv r => .obj (s.ne h fun _ h => by rcases h with h | ⟨o, h⟩ <;> cases h) hk hv (RepL.swap s r)
  | _, _, .exc h hk hv r => .exc (by
    rcases h with ⟨e, h⟩ | ⟨dx, h1, h2⟩
    · exact .inl ⟨e, s.ne h not_ext⟩
    · exact .inr ⟨dx, s.ne h1 not_ext, s.ne h2 not_ext⟩) hk hv (RepL.swap s r)
  | _, _, .scr h => .scr (by
    rcases h with (h | ⟨o, h⟩) | h
    · exact .inl (.inl (s.ne h fun _ h => by rcases h with h | ⟨o, h⟩ <;> cases h))
    · exact .inl (.inr ⟨o, s.ne h fun _ h => by rcases h with h | ⟨o, h⟩ <;> cases h⟩)
    · exact .inr h)
theorem RepL.swap {F F' : Hp} {ι : List Addr} {a : Addr} {kvs : List (Key × V)} (s : Swap F F' a kvs) : ∀ {vs : List V} {ds : List D}, RepL C F ι vs ds → RepL C F' ι vs ds
  | _, _, .nil => .nil
  | _, _, .cons x y => .cons (Rep.swap s x) (RepL.swap s y)
end
theorem CellAt.swap {F F' H H' : Hp} {ι : List Addr} {a b : Addr} {kvs : List (Key × V)} (s : Swap F F' a kvs) (e : H b = H' b) : ∀ {c : Cell}, CellAt C F ι H b c → CellAt C F' ι H' b c
  | .lst _, ⟨vs, h, z, r⟩ => ⟨vs, e ▸ h, z, r.swap s⟩
  | .dK _ _, ⟨kvs, h, k, z, r⟩ => ⟨kvs, e ▸ h, k, z, r.swap s⟩
  | .dT _ _, ⟨kvs, h, k, z, r⟩ => ⟨kvs, e ▸ h, k, z, r.swap s⟩
  | .obj _ _, ⟨dx, fs, h, k, r⟩ => ⟨dx, fs, e ▸ h, k, r.swap s⟩
theorem Sim.swap {F : Hp} {ι : List Addr} {st : Sto} {H : Hp} {a : Addr} {kvs : List (Key × V)} {u' : HO} (S : Sim C F ι st H) (h : ∃ u, F a = some u ∧ DicO u kvs) (hu : DicO u' kvs) : Sim C (upd F a u') ι st (upd H a u') ∧ Swap F (upd F a u') a kvs := by
  have s : Swap F (upd F a u') a kvs := ⟨h, ⟨u', upd_same, hu⟩, fun b e => upd_ne e⟩
  obtain ⟨u, hF, hd⟩ := h
  refine ⟨⟨fun b o e => ?_, S.len, S.nd, fun b m => ?_, fun i c b h1 h2 => ?_, fun i c b h1 h2 => (S.frz i c b h1 h2).swap s, no_upd S.no ?_⟩, s⟩
  · by_cases c : b = a
    · subst c; rw [upd_same] at e ⊢; exact e
    · rw [upd_ne c] at e ⊢; exact S.fro _ _ e
  · by_cases c : b = a
    · subst c; exact ⟨_, upd_same⟩
    · rw [upd_ne c]; exact S.has b m
  · obtain ⟨q1, q2⟩ := S.cell i c b h1 h2
    have n : b ≠ a := fun e => by rw [e, hF] at q1; cases q1
    exact ⟨by rw [upd_ne n]; exact q1, q2.swap s (upd_ne n).symm⟩
  · rcases hu with rfl | ⟨o, rfl⟩ <;> exact fun _ h => nomatch h
theorem EnvR.swap {F F' : Hp} {ι : List Addr} {ρ : Rho} {σ : L2.St} {a : Addr} {kvs : List (Key × V)} (h : EnvR C F ι ρ σ) (s : Swap F F' a kvs) : EnvR C F' ι ρ σ := ⟨h.1, fun i d e => let ⟨v, x, y⟩ := h.2 i d e; ⟨v, x, y.swap s⟩⟩
theorem so_keys {F : Hp} {ι : List Addr} {a : Addr} {od : Obj} {kvs : List (Key × V)} (h : F a = some (.frz od (.dK kvs))) : SrcOk C F ι ((kvs.map (·.1)).map dkey) (Itk a od kvs) where
  go := fun i F' ι' st' H' hi x S => ⟨S.fro _ _ (x.f _ _ h), by simpa using hi⟩
  stop := fun F' ι' st' H' x S => ⟨S.fro _ _ (x.f _ _ h), by simp⟩
  yld := fun i d F' ι' st' H' v H'' hd x S y => by
    obtain ⟨rfl, k, w, h1, rfl⟩ := y
    rw [List.getElem?_map, List.getElem?_map, h1] at hd
    cases hd
    refine ⟨F', S, .refl, ?_⟩
    cases k with
    | inl i => exact .int i
    | inr z => exact .str z
theorem lcLoop_exc {t : Tg} {ρ : Rho} {c e : Rho → Sto → Rs D} : ∀ {xs acc : List D} {st st' : Sto} {x : Exc}, lcLoop t ρ c e xs acc st ≠ .exc x st'
  | [], _, _, _, _, h => by simp [lcLoop] at h
  | y :: ys, acc, st, st', x, h => by
    simp only [lcLoop] at h
    split at h
    · cases h
    · split at h
      · split at h
        · split at h
          · exact lcLoop_exc h
          · cases h
        · cases h
      · exact lcLoop_exc h
      · cases h
end
section
variable {C : Gx} {L : Lk φ} {T : φ → Fn φ} {wf : Nat} {ad : φ → Addr} {n : Nat} {N : List Str} {sc : Scope} {E : XK} {X : Cx}
theorem i_lcd {cl : Cll φ} {own : List Nat} {t : Tg} {i : Nat} {cond elt : IE φ} (hv : ∀ i ∈ t.vars, i ∈ own) {σ : L2.St} {H : Hp} {Q : VK} (h : tE C cl E (.lcd own t i cond elt) σ H Q) :
    tLockE (tLc (iKeys (tVar i)) (tG C t) (tT C cl (fun _ _ _ => False) cond) (tE C cl (fun _ _ _ => False) elt) own) σ H Q ∨ tLc (iKeys (tVar i)) (tG C t) (tT C cl (fun _ _ _ => False) cond) (tE C cl (fun _ _ _ => False) elt) own σ H Q := by
  obtain ⟨F, ι, st, ρ, S, ER, w⟩ := h
  simp only [evE] at w
  split at w
  · rename_i d hd
    obtain ⟨v, hv1, rv⟩ := ER.2 i d hd
    have rv2 := S.res rv
    split at w
    · rename_i ks vs hres
      rw [hres] at rv2
      cases rv2 with
      | dK hrd hk hvv z rl =>
        rename_i a kvs vs'
        subst hk
        rcases hrd with hF | ⟨o, hF⟩
        · refine .inl ⟨a, .dK kvs, S.fro _ _ hF, trivial, fun od => ?_⟩
          obtain ⟨S2, sw⟩ := S.swap (u' := .frz od (.dK kvs)) ⟨_, hF, .inl rfl⟩ (.inr ⟨od, rfl⟩)
          refine ⟨.ref a, hv1, a, od, rfl, .inl ⟨kvs, upd_same, i_lc0 (cl := cl) (cond := cond) (elt := elt) (Q := fun v H' => H' a = some (.frz od (.dK kvs)) ∧ Q v (upd H' a (.dK kvs))) (H := upd H a (.frz od (.dK kvs))) (E := E) hv S2 (ER.swap sw) (fun _ h => h) (so_keys upd_same) ?_⟩⟩
          revert w
          cases hr : lcLoop t (wipeR ρ own) (fun ρ1 st => vD (evE cl cond ρ1 st)) (fun ρ1 st => vD (evE cl elt ρ1 st)) ((kvs.map (·.1)).map dkey) [] st with
          | err => exact id
          | exc x st' => exact absurd hr lcLoop_exc
          | ok xs st' =>
            intro w F' ι' H' g S' v r
            have hF' : F' a = some (.frz od (.dK kvs)) := g.x.f _ _ upd_same
            refine ⟨S'.fro _ _ hF', ?_⟩
            obtain ⟨S3, sw3⟩ := S'.swap (u' := .dK kvs) ⟨_, hF', .inr ⟨od, rfl⟩⟩ (.inl rfl)
            refine w (upd F' a (.dK kvs)) ι' _ ⟨⟨fun b o e => ?_, g.x.i⟩, fun b o e f nn => ?_⟩ S3 v ?_
            · by_cases c : b = a
              · subst c; rw [hF] at e; cases e; rw [upd_same]
              · rw [upd_ne c]; exact g.x.f _ _ (by rw [upd_ne c]; exact e)
            · have c : b ≠ a := fun z => by rw [z, hF] at f; cases f
              obtain ⟨q1, q2, q3⟩ := g.fr b o (by rw [upd_ne c]; exact e) (by rw [upd_ne c]; exact f) nn
              exact ⟨by rw [upd_ne c]; exact q1, by rw [upd_ne c]; exact q2, q3⟩
            · obtain ⟨p, rfl, h0, fp, np, hc⟩ := r
              have c : p ≠ a := fun z => by rw [z, hF'] at fp; cases fp
              exact ⟨p, rfl, by rw [upd_ne c] at h0; exact h0, by rw [upd_ne c]; exact fp, np, hc.swap sw3 (upd_ne c).symm⟩
        · exact .inr ⟨.ref a, hv1, a, o, rfl, .inl ⟨kvs, S.fro _ _ hF, i_lc0 (cl := cl) (cond := cond) (elt := elt) (Q := Q) (E := E) hv S ER (fun _ h => h) (so_keys hF) w⟩⟩
    · exact w.elim
  · exact w.elim
theorem p_lcd (x : XOk C L T wf ad n N sc E X) {cl : Cll φ} {own : List (Str × Nat)} {t : Tg} {i : Nat} {y : Str} {cond elt : IE φ} {eelt tg : Expr} {ifs : List Expr} {scope : Scope} {ip pos : Pos}
    (hy : nmB N i y = true) (hvis : visB sc y = true) (hb : blkC N sc scope own = true) (hv : ∀ i ∈ t.vars, i ∈ own.map (·.2))
    (hg : ∀ (s : Shared) (H : Hp) (c : Addr) (cls : List (Str × Addr)) (fp : List Addr), PG (X.blk s H scope (compEnvC scope cls c X.env) fp) tg (tG C t))
    (ht : ∀ (s : Shared) (H : Hp) (c : Addr) (cls : List (Str × Addr)) (fp : List Addr), PTs (X.blk s H scope (compEnvC scope cls c X.env) fp) ifs (tT C cl (fun _ _ _ => False) cond))
    (he : ∀ (s : Shared) (H : Hp) (c : Addr) (cls : List (Str × Addr)) (fp : List Addr), PE (X.blk s H scope (compEnvC scope cls c X.env) fp) eelt (tE C cl (fun _ _ _ => False) elt)) :
    PE X (.ListComp eelt [⟨tg, .Name y ip, ifs, 0⟩] scope pos) (tE C cl E (.lcd (own.map (·.2)) t i cond elt)) := by
  obtain ⟨v1, v2, v3⟩ := vis_ok hvis
  have pk : PI X tg (.Name y ip) (iKeys (tVar i)) := pi_keys (pe_var (by rw [x.nms]; exact of_decide_eq_true hy) (by rw [x.scp]; exact v1) v2 v3)
  have p := pe_lc (elt := eelt) (pos := pos) x.calm (by rw [x.nms]; exact x.nd) pk (by rw [x.nms, x.scp]; exact blkOk_by hb) hg ht he (fun _ => rfl)
  exact PE.imp (Fd.PE.or (pe_lock p) p) fun σ H Q h => i_lcd hv h
end
end Fd

set_option Elab.async false
set_option linter.all false
set_option maxHeartbeats 1000000
/-! displays of dicts -/
namespace Fd
open PySem L2 PySem.Spec PyProof.Rows
variable {φ : Type}
def ilv : List (Option Expr) → List Expr → Option (List Expr)
  | [], [] => some []
  | some k :: ks, v :: vs => (ilv ks vs).map fun l => k :: v :: l
  | _, _ => none
def flatP : List (V × V) → List V
  | [] => []
  | p :: ps => p.1 :: p.2 :: flatP ps
section
variable {C : Gx} {L : Lk φ} {T : φ → Fn φ} {wf : Nat} {ad : φ → Addr} {n : Nat} {N : List Str} {sc : Scope} {E : XK} {X : Cx}
theorem pairD_rep {F : Hp} {ι : List Addr} : ∀ {ds : List D} {ps : List (V × V)} {kds : List (Key × D)}, RepL C F ι (flatP ps) ds → pairD ds = some kds → ∃ kvs : List (Key × V), ps = kvs.map (fun kv => (kV kv.1, kv.2)) ∧ kvs.map (·.1) = kds.map (·.1) ∧ RepL C F ι (kvs.map (·.2)) (kds.map (·.2))
  | [], [], _, _, h => by simp only [pairD] at h; cases h; exact ⟨[], rfl, rfl, .nil⟩
  | [], _ :: _, _, r, _ => by cases r
  | _ :: _, [], _, r, _ => by cases r
  | [_], p :: ps, _, r, _ => by
    unfold flatP at r
    cases r with
    | cons _ r => cases r
  | k :: v :: ds, p :: ps, _, r, h => by
    unfold flatP at r
    cases r with
    | cons rk r =>
      cases r with
      | cons rv r =>
        simp only [pairD] at h
        split at h
        · rename_i k' ps' e1 e2
          cases h
          obtain ⟨kvs, h1, h2, h3⟩ := pairD_rep r e2
          refine ⟨(k', p.2) :: kvs, ?_, ?_, .cons rv h3⟩
          · rw [List.map_cons, ← h1]
            have := key_rep rk e1
            rw [← this]
          · rw [List.map_cons, List.map_cons, h2]
        · cases h
theorem pairD_len : ∀ {ds : List D} {kds : List (Key × D)}, pairD ds = some kds → ds.length = 2 * kds.length
  | [], _, h => by simp only [pairD] at h; cases h; rfl
  | [_], _, h => by simp [pairD] at h
  | k :: v :: ds, _, h => by
    simp only [pairD] at h
    split at h
    · rename_i e1 e2
      cases h
      have := pairD_len e2
      simp only [List.length_cons]; omega
    · cases h
theorem tA_cons {cl : Cll φ} {a r : IE φ} {σ : L2.St} {H : Hp} {R : List V → Hp → Prop} (h : tA C cl E (.cons a r) σ H R) : tE C cl E a σ H fun v H1 => tA C cl E r σ H1 fun vs H2 => R (v :: vs) H2 := by
  obtain ⟨F, ι, st, ρ, S, ER, w⟩ := h
  simp only [evEs] at w
  refine eD S ER (w.bind.imp fun d F1 ι1 st1 H1 g1 S1 w1 v rv => ?_)
  refine ⟨F1, ι1, st1, ρ, S1, ER.mono g1.x, w1.bind.imp fun ds F2 ι2 st2 H2 g2 S2 w2 vs rl => ?_⟩
  exact Wpr.here (st := st2) w2 S2 (v :: vs) (.cons (rv.mono g2.x) rl)
end
end Fd

set_option Elab.async false
set_option linter.all false
set_option maxHeartbeats 2000000
/-! a list comprehension over range within an except suite: the end of the walk while an exception is handled (after the calm one) -/
namespace Fd
open PySem PySem.Spec PyProof.Rows L2 HotX
open L2H (HotC)
abbrev S2 := L2.St
/-- what a range's iterator does; its end asks the handled exception -/
theorem rg_item {X : Cx} {tg : Expr} {it : Addr} {lo : Int} {n i : Nat} {pins : List (Addr × Obj)} {s : Shared} {σ : S2} {H : Hp} {E : Value → Shared → Prop} (I : Inv X pins σ H s) (hf : ∀ b ∈ [it], FpOk X pins H b) (st : IsRangeIter s.heap it (lo + (i : Nat) * 1) ((n : Int) - (i : Nat)) 1) (hg : i < n) :
    wpAny (model X.prog X.w) X.A (pyNext (.ref it)) (fun r s1 => ∃ u, r = some u ∧ wpAny (model X.prog X.w) X.A (letOwnedTupleGo tg (.ref it) u) (fun _ s2 => ∃ x H', Inv X pins σ H' s2 ∧ RelV x u ∧ (Itr lo n).yld i H x H' ∧ IsRangeIter s2.heap it (lo + ((i + 1 : Nat) : Nat) * 1) ((n : Int) - ((i + 1 : Nat) : Nat)) 1 ∧ ∀ b ∈ [it], H' b = none) E s1) E s := by
  obtain ⟨f0, f1, f2, f3, f4, f5⟩ := hf it (by simp)
  refine wpAny_pyNext_range_item st (by omega) fun h' st' sb => ?_
  have st2 : IsRangeIter h' it (lo + ((i + 1 : Nat) : Int) * 1) ((n : Int) - ((i + 1 : Nat) : Int)) 1 := by
    have e1 : lo + ((i : Nat) : Int) * 1 + 1 = lo + ((i + 1 : Nat) : Int) * 1 := by omega
    have e2 : (n : Int) - ((i : Nat) : Int) - 1 = (n : Int) - ((i + 1 : Nat) : Int) := by omega
    rw [← e1, ← e2]
    exact st'
  have I1 : Inv X pins σ H { s with heap := h', toks := s.toks + 1 } := I.turned (fun b o hb e => (sb.2 b hb).trans e) f0 f1 f3 f4 f5
  refine ⟨_, rfl, go_of (s := { s with heap := h', toks := s.toks + 1 }) (n := "range_iterator") st2 rfl rfl (by decide) ⟨.int (lo + i), H, I1, ⟨s.toks, ?_⟩, ⟨rfl, rfl⟩, st2, fun b hb => (hf b hb).1⟩⟩
  rw [Int.mul_one]
theorem rg_done {X : Cx} {it x1 : Addr} {lo : Int} {n i : Nat} {pins : List (Addr × Obj)} {s : Shared} {σ : S2} {H : Hp} {E : Value → Shared → Prop} (hot : HotAt X.A x1 s.heap) (I : Inv X pins σ H s) (hf : ∀ b ∈ [it], FpOk X pins H b) (st : IsRangeIter s.heap it (lo + (i : Nat) * 1) ((n : Int) - (i : Nat)) 1) (hg : n ≤ i) :
    wpAny (model X.prog X.w) X.A (pyNext (.ref it)) (fun r s1 => r = none ∧ Inv X pins σ H s1) E s := by
  obtain ⟨f0, f1, f2, f3, f4, f5⟩ := hf it (by simp)
  exact pyNext_range_end_hot hot st (by omega) fun h' eb => ⟨rfl, I.turned (t' := s.toks) (fun b o _ e => eb b o e) f0 f1 f3 f4 f5⟩
def RgAt (it : Addr) (lo : Int) (n i : Nat) (h : Heap) : Prop := IsRangeIter h it (lo + (i : Nat) * 1) ((n : Int) - (i : Nat)) 1
theorem rg_obj {it : Addr} {lo : Int} {n i : Nat} {h : Heap} (st : RgAt it lo n i h) : ∀ b ∈ [it], ∃ o, h.get? b = some o ∧ ∀ v, o.data ≠ .cell v := fun b hb => by
  have e : b = it := by simpa using hb
  subst e
  exact ⟨_, st, fun v z => by
    have z' : Data.fields _ = Data.cell v := z
    cases z'⟩
theorem rg_keep {it : Addr} {lo : Int} {n i : Nat} {h h' : Heap} (st : RgAt it lo n i h) (k : ∀ b ∈ [it], ∀ o, h.get? b = some o → h'.get? b = some o) : RgAt it lo n i h' := k it (by simp) _ st
def PIER (X : Cx) (pins : List (Addr × Obj)) (σ : S2) (R : It → Hp → Prop) (itv : Value) (s2 : Shared) : Prop :=
  ∃ (it : Addr) (lo : Int) (n : Nat) (H' : Hp), itv = .ref it ∧ Inv X pins σ H' s2 ∧ RgAt it lo n 0 s2.heap ∧ (∀ b ∈ [it], FpOk X pins H' b) ∧ R (Itr lo n) H'
structure PIEHR (X : Cx) (iter : Expr) (wi : TI) : Prop where
  run : ∀ (pins : List (Addr × Obj)) (s : Shared) (σ : S2) (H : Hp) (R : It → Hp → Prop), Inv X pins σ H s → wi σ H R →
    wpAny (model X.prog X.w) X.A (eval iter X.env) (fun v s1 => wpAny (model X.prog X.w) X.A (pyIter v) (PIER X pins σ R) X.xe s1) X.xe s
section
variable {X : Cx}
theorem rg_it {pins : List (Addr × Obj)} {σ : S2} {H : Hp} {s : Shared} {R : It → Hp → Prop} {E : Value → Shared → Prop} {lo hi : Int} {t u v : Tok} {tk : Nat} (I : Inv X pins σ H s) (h1 : -(2 ^ 62) ≤ lo) (h2 : lo < 2 ^ 62) (h3 : -(2 ^ 62) ≤ hi) (h4 : hi < 2 ^ 62)
    (q : R (Itr lo (hi - lo).toNat) H) : wpAny (model X.prog X.w) X.A (pyIter (.ref s.heap.objs.size)) (PIER X pins σ R) E { s with heap := s.heap.push { cls := .type "range", data := .fields #[.int lo t, .int hi u, .int 1 v] }, toks := tk } := by
  refine wpAny_pyIter_range (IsRange.new ..) (small_one h1 h2 h3 h4) ?_
  have I1 : Inv X pins σ H { s with heap := s.heap.push { cls := .type "range", data := .fields #[.int lo t, .int hi u, .int 1 v] }, toks := tk } := I.kept fun b o e => Heap.get?_push_of_some _ e
  refine ⟨_, lo, (hi - lo).toNat, H, rfl, I1.kept (t' := tk) fun b o e => Heap.get?_push_of_some _ e, ?_, fun b hb => ?_, q⟩
  · have e1 : lo + ((0 : Nat) : Int) * 1 = lo := by simp
    have e2 : (((hi - lo).toNat : Nat) : Int) - ((0 : Nat) : Int) = Builtin.Range.rangeSize lo hi 1 := by rw [rangeSize_one]; split <;> omega
    show IsRangeIter _ _ (lo + ((0 : Nat) : Int) * 1) ((((hi - lo).toNat : Nat) : Int) - ((0 : Nat) : Int)) 1
    rw [e1, e2]
    exact Heap.get?_push_size _ rfl
  · have e : b = (s.heap.push { cls := .type "range", data := .fields #[.int lo t, .int hi u, .int 1 v] }).objs.size := by simpa using hb
    subst e
    exact I1.fpOk (Nat.le_refl _) (I1.hok.fresh (Nat.le_refl _))
theorem ph_range1 {a : Expr} {ta : TA} {p pos : Pos} (hg : Gl X "range") (hm : X.mg "range" = none) (ha : PA X [a] ta) (hs : starEach [a] X.env = [(false, eval a X.env)]) : PIEHR X (.Call (.Name "range" p) [a] [] pos) (iRng1 ta) := by
  refine ⟨fun pins s σ H R I h => ?_⟩
  refine Call_ (ld_blt I hg hm boot_range (PyProof.Rows.callWith_type1 (thn (ha.run pos pins s σ H _ I h) fun us s1 ⟨vs, H1, I1, r1, q1⟩ => ?_) hs rfl))
  obtain ⟨j, e, q1, q2, q⟩ := q1
  subst e
  cases r1 with
  | cons r rr =>
    cases rr
    obtain ⟨t, rfl⟩ := r
    exact call_range_1 (rg_it I1 (by omega) (by omega) q1 q2 (by simpa using q))
end
section
variable {X : Cx}
theorem lc_hot {pins : List (Addr × Obj)} {s : Shared} {σ : S2} {H : Hp} {Q : VK} {elt tg iter : Expr} {ifs : List Expr} {scope : Scope} {own : List (Str × Nat)} {pos pos' : Pos} {wi : TI} {g : TG} {tt : TT} {te : TE} {use : Option (Value → Sem Unit)} {Qf : Value → Shared → Prop}
    (hc : HotC X) (hN : X.N.Nodup) (I : Inv X pins σ H s) (hi : PIEHR X iter wi) (ok : BlkOk X.N X.env.scope scope own)
    (hg : ∀ (s : Shared) (H : Hp) (C : Addr) (cl : List (Str × Addr)) (fp : List Addr), PG (X.blk s H scope (compEnvC scope cl C X.env) fp) tg g) (ht : ∀ (s : Shared) (H : Hp) (C : Addr) (cl : List (Str × Addr)) (fp : List Addr), PTs (X.blk s H scope (compEnvC scope cl C X.env) fp) ifs tt)
    (he : ∀ (s : Shared) (H : Hp) (C : Addr) (cl : List (Str × Addr)) (fp : List Addr), PE (X.blk s H scope (compEnvC scope cl C X.env) fp) elt te) (hs : ∀ x, foldedSetIterable iter X.env x = pure x)
    (h : tLc wi g tt te (own.map (·.2)) σ H Q)
    (hRR : ∀ D C s' m H', Inv X pins σ H' s' → Q (.ref D) H' → s'.heap.Ns C m → FpOk X pins H' C → compPost (model X.prog X.w) X.A X.xe use Qf (.ref D) C (.ok .next) s') :
    wpAny (model X.prog X.w) X.A (comprehension (.ListComp elt [⟨tg, iter, ifs, 0⟩] scope pos) scope X.env pos' (newList []) false (eval iter X.env) use) Qf X.xe s := by
  have hfree : ∀ y ∈ scope.names, y.2 = .free → ∃ c, X.env.cells.lookup y.1 = some c := fun y hy e => by
    rcases ok.free y hy e with k | k
    · exact I.ok.has _ (.inl k)
    · exact I.ok.has _ (.inr k)
  refine wpAny_comprehension_free (use := use) rfl hs (closure_ok hfree) ok.kind (fun y hy e => by rw [ok.uniq y hy, e])
    (thn (hi.run pins s σ H _ I h) fun xv s1 hx => thn hx fun itv s2 h2 => ?_)
  obtain ⟨it, lo, nn, H2, e, I2, st2, f2, q⟩ := h2
  subst e
  refine wpAny_newObj_type (newEnv_comp ?_) (by show 0 ≤ sizeLine; decide)
  generalize hD : s2.heap.objs.size = D
  have hDn : H2 D = none := I2.hok.fresh (Nat.le_of_eq hD)
  obtain ⟨W, ⟨m0, w0⟩, turn⟩ := q D hDn
  -- the new list
  generalize hs3 : ({ s2 with heap := s2.heap.push { cls := .type "list", data := .seq ([] : List Value).toArray } } : Shared) = s3
  have I3 : Inv X pins σ (upd H2 D (.lst [])) s3 := by
    rw [← hs3]
    refine I2.laid (t' := s2.toks) (fun b o e => Heap.get?_push_of_some _ e) (Nat.le_of_eq hD) ⟨Nat.zero_le _, [], 0, .nil, ?_⟩
    rw [← hD]
    exact Heap.get?_push_size _ rfl
  have h3 : s3.heap = s2.heap.push { cls := .type "list", data := .seq ([] : List Value).toArray } := by rw [← hs3]
  have sz : ∀ b ∈ [it], b < s2.heap.objs.size := fun b hb => by
    obtain ⟨o, e, _⟩ := rg_obj st2 b hb
    exact Heap.lt_size e
  have f3 : ∀ b ∈ [it], FpOk X pins (upd H2 D (.lst [])) b ∧ b < s3.heap.objs.size := fun b hb => by
    have hlt := sz b hb
    refine ⟨⟨?_, (f2 b hb).2⟩, by rw [h3, Heap.size_push]; exact Nat.lt_succ_of_lt hlt⟩
    rw [upd_ne (by rw [← hD]; exact Nat.ne_of_lt hlt)]
    exact (f2 b hb).1
  have st3 : RgAt it lo nn 0 s3.heap := rg_keep st2 fun b _ o e => by rw [h3]; exact Heap.get?_push_of_some _ e
  have I4 := block_start I3 ok hN f3
  have pg := hg s3 (upd H2 D (.lst [])) s3.heap.objs.size (cellsFrom (s3.heap.objs.size + 1) scope.names (cloFrom X.env.cells scope.names [])) [it]
  have pt := ht s3 (upd H2 D (.lst [])) s3.heap.objs.size (cellsFrom (s3.heap.objs.size + 1) scope.names (cloFrom X.env.cells scope.names [])) [it]
  have pe := he s3 (upd H2 D (.lst [])) s3.heap.objs.size (cellsFrom (s3.heap.objs.size + 1) scope.names (cloFrom X.env.cells scope.names [])) [it]
  show codeAny _ _ (.compStart (.ListComp elt [⟨tg, iter, ifs, 0⟩] scope pos) 0 (.ref it) (.ref D) (compEnvC scope (cellsFrom (s3.heap.objs.size + 1) scope.names (cloFrom X.env.cells scope.names [])) s3.heap.objs.size X.env)) (compPost (model X.prog X.w) X.A X.xe use Qf (.ref D) s3.heap.objs.size) { s3 with heap := pushCells (s3.heap.push { cls := .type "dict", data := .dict #[] }) scope.names }
  have nfp : ∀ b ∈ [it], (upd H2 D (.lst [])) b = none := fun b hb => (f3 b hb).1.1
  generalize hce : compEnvC scope (cellsFrom (s3.heap.objs.size + 1) scope.names (cloFrom X.env.cells scope.names [])) s3.heap.objs.size X.env = ce at I4 pg pt pe ⊢
  have cL : ce.locals = s3.heap.objs.size := by subst hce; rfl
  generalize hH3 : upd H2 D (.lst []) = H3 at I3 I4 pg pt pe w0 nfp f3
  generalize hs4 : ({ s3 with heap := pushCells (s3.heap.push { cls := .type "dict", data := .dict #[] }) scope.names } : Shared) = s4 at I4 ⊢
  have st4 : RgAt it lo nn 0 s4.heap := rg_keep st3 fun b _ o e => by rw [← hs4]; exact pushCells_keeps _ _ _ _ (Heap.get?_push_of_some _ e)
  have stat : ∀ {σ' : L2.St} {H' : Hp} {s' : Shared}, Inv (X.blk s3 H3 scope ce [it]) [] σ' H' s' → (∀ b ∈ [it], H' b = none) → ∀ b ∈ [it], FpOk (X.blk s3 H3 scope ce [it]) [] H' b := fun {σ' H' s'} I' hn b hb =>
    ⟨hn b hb, (I'.ok.exf b hb).1, I'.ok.exfs b hb, .inl hb, fun x c e => (I'.ok.exf b hb).2 x c e, fun p hp => absurd (show p ∈ ([] : List (Addr × Obj)) ++ [] from hp) (by simp)⟩
  have loop : codeAny (model X.prog X.w) X.A (.compLoop (.ListComp elt [⟨tg, iter, ifs, 0⟩] scope pos) 0 (.ref it) (.ref D) ce) (compPost (model X.prog X.w) X.A X.xe use Qf (.ref D) s3.heap.objs.size) s4 := by
    refine compLoop_any (fun n s' => ∃ i H', Inv (X.blk s3 H3 scope ce [it]) [] (wipe σ (own.map (·.2))) H' s' ∧ RgAt it lo nn i s'.heap ∧ (∀ b ∈ [it], H' b = none) ∧ W i n H') ?_ m0 ⟨0, H3, I4, st4, nfp, w0⟩
    rintro n s5 ⟨i, H5, I5, st5, n5, w5⟩
    rcases turn i n H5 w5 with ⟨stop, qq⟩ | ⟨go, Nx, hNx, step⟩
    · have Iq : Inv X pins σ H5 s5 := I3.call' (ch := [it]) I5.os I5.base I5.hok I5.bare fun b hb => ⟨(f3 b hb).1.2.2.2.1, (f3 b hb).1.2.1, (f3 b hb).1.2.2.2.2.1, (f3 b hb).1.2.2.2.2.2⟩
      obtain ⟨x1, hot⟩ := hc.at Iq
      have td := rg_done (X := X.blk s3 H3 scope ce [it]) (E := fun _ _ => False) hot I5 (stat I5 n5) st5 stop
      refine thnF td fun r s6 ⟨hr, I6⟩ => ?_
      subst hr
      -- back in the def's context
      have I7 : Inv X pins σ H5 s6 := I3.call' (ch := [it]) I6.os I6.base I6.hok I6.bare fun b hb => ⟨(f3 b hb).1.2.2.2.1, (f3 b hb).1.2.1, (f3 b hb).1.2.2.2.2.1, (f3 b hb).1.2.2.2.2.2⟩
      have nC : H5 s3.heap.objs.size = none := by
        have z : H5 ce.locals = none := I6.free
        rw [cL] at z
        exact z
      obtain ⟨m, hn, _⟩ := I6.loc
      have hn : s6.heap.Ns ce.locals m := hn
      rw [cL] at hn
      exact hRR D s3.heap.objs.size s6 m H5 I7 qq hn (I3.fpOk (Nat.le_refl _) nC)
    · have ti := rg_item (X := X.blk s3 H3 scope ce [it]) (tg := tg) (E := fun _ _ => False) I5 (stat I5 n5) st5 go
      refine thnF ti fun r s6 ⟨u, hr, h6⟩ => ?_
      subst hr
      refine thnF h6 fun _ s7 ⟨x, H7, I7, r7, y7, st7, n7⟩ => ?_
      have I7' := I7.pinned (stat I7 n7) (rg_obj st7)
      refine thnF (pg.run _ s7 _ H7 x u _ I7' r7 (step x H7 y7)) fun _ s8 ⟨σ8, H8, I8, hw8, q8⟩ => ?_
      refine thnF (pt.run _ s8 σ8 H8 _ I8 q8) fun b s9 ⟨H9, I9, q9⟩ => ?_
      -- the turn's end
      have fin : ∀ {s' : Shared} {H' : Hp}, Inv (X.blk s3 H3 scope ce [it]) ([] ++ pinsAt [it] s7.heap) σ8 H' s' → Nx H' → ∃ m, m < n ∧ ∃ i H', Inv (X.blk s3 H3 scope ce [it]) [] (wipe σ (own.map (·.2))) H' s' ∧ RgAt it lo nn i s'.heap ∧ (∀ b ∈ [it], H' b = none) ∧ W i m H' := fun {s' H'} I' nx => by
        obtain ⟨m', hm, w'⟩ := hNx H' nx
        have pin' : ∀ b ∈ [it], ∀ o, s7.heap.get? b = some o → s'.heap.get? b = some o ∧ H' b = none := fun b hb o e =>
          let z := I'.pin (b, o) (List.mem_append_right _ (List.mem_append_right _ (mem_pinsAt hb e)))
          ⟨z.1, z.2.1⟩
        have hl : (wipe σ (own.map (·.2))).length = σ8.length := by rw [← hw8, wipe_length]
        refine ⟨m', hm, i + 1, H', (I'.unpinned (pins := [])).weak hl (fun j v e => ?_), rg_keep st7 fun b hb o e => (pin' b hb o e).1, fun b hb => ?_, w'⟩
        · rw [← hw8] at e
          exact (wipe_some e).1
        · obtain ⟨o, e, _⟩ := rg_obj st7 b hb
          exact (pin' b hb o e).2
      cases b with
      | false =>
        simp only [Bool.false_eq_true, if_false] at q9 ⊢
        exact fin I9 q9
      | true =>
        simp only [if_true] at q9 ⊢
        refine thnF (pe.run _ s9 σ8 H9 _ I9 q9) fun z s10 ⟨yv, H10, I10, r10, acc, hD10, hz10, nx⟩ => ?_
        exact app_ok (X := X.blk s3 H3 scope ce [it]) I10 hD10 hz10 r10 fun s11 I11 => fin I11 nx
  exact codeAny_compStart_list loop (wpAny_pyIter_rangeiter st4 loop)
/-- [elt for tg in range(a) if ..] as a value -/
theorem pe_lcHot {elt tg a : Expr} {ifs : List Expr} {scope : Scope} {own : List (Str × Nat)} {pos p pos2 : Pos} {ta : TA} {g : TG} {tt : TT} {te : TE} (hc : HotC X) (hN : X.N.Nodup) (hgr : Gl X "range") (hmr : X.mg "range" = none) (ha : PA X [a] ta) (hst : starEach [a] X.env = [(false, eval a X.env)]) (ok : BlkOk X.N X.env.scope scope own)
    (hg : ∀ (s : Shared) (H : Hp) (C : Addr) (cl : List (Str × Addr)) (fp : List Addr), PG (X.blk s H scope (compEnvC scope cl C X.env) fp) tg g) (ht : ∀ (s : Shared) (H : Hp) (C : Addr) (cl : List (Str × Addr)) (fp : List Addr), PTs (X.blk s H scope (compEnvC scope cl C X.env) fp) ifs tt)
    (he : ∀ (s : Shared) (H : Hp) (C : Addr) (cl : List (Str × Addr)) (fp : List Addr), PE (X.blk s H scope (compEnvC scope cl C X.env) fp) elt te) :
    PE X (.ListComp elt [⟨tg, .Call (.Name "range" p) [a] [] pos2, ifs, 0⟩] scope pos) (tLc (iRng1 ta) g tt te (own.map (·.2))) := by
  refine ⟨fun pins s σ H Q I h => ?_⟩
  rw [eval_ListComp]
  refine lc_hot hc hN I (ph_range1 hgr hmr ha hst) ok hg ht he (fun _ => rfl) h fun D C s' m H' I' q hn f => ⟨m, hn, fun h'' sb => ?_⟩
  obtain ⟨f0, f1, f2, f3, f4, f5⟩ := f
  exact ⟨.ref D, H', I'.turned (t' := s'.toks) (fun b o hb e => (sb.2 b hb).trans e) f0 f1 f3 f4 f5, rfl, q⟩
end
end Fd

set_option Elab.async false
set_option linter.all false
set_option maxHeartbeats 1000000
/-! isinstance of the exception that an except suite has handed to a def -/
namespace Fd
open PySem PySem.Spec PyProof.Rows L2 HotX
open L2H (HotC)
variable {φ : Type}
/-- the exception that is handled: at a, of the class at A, its dict at dx -/
structure HotX (X : Cx) (a A dx : Addr) (oe : Obj) : Prop where
  pin : (a, oe) ∈ X.pn
  cls : oe.cls = .ref A
  fld : ∃ vs, oe.data = .fields vs
  dic : oe.dict = some dx
  own : XcOk X.K A
def DxOk (H : Hp) (dx : Addr) : Prop := ∃ fs, H dx = some (.xd fs)
section
variable {X : Cx} {a A dx : Addr} {oe : Obj}
theorem call_isP (h : HotX X a A dx oe) : CallR X (.builtin "isinstance") (fun xs H Q => ∃ c u b, xs = [.ref a, c] ∧ ClsV c u ∧ DxOk H dx ∧ PySem.W.kitOne X.K (.ref A) u = some b ∧ Q (.bl b) H) := by
  intro pins s σ H xs us Q I r ⟨c, u, b, ex, k, ⟨fs, hx⟩, e, q⟩
  subst ex
  obtain ⟨u1, u2, rfl, r1, r2⟩ := vals2 r
  cases k.eq r2
  obtain rfl : u1 = Value.ref a := r1
  obtain ⟨mA, hns, _⟩ := (show ObjOk X.prog X.w H s.heap dx (.xd fs) from I.hok dx _ hx)
  obtain ⟨od, es, ep, e1, _⟩ := hns
  obtain ⟨vs, hf⟩ := h.fld
  have J : PySem.W.InstAt s.heap a oe A (some od) := ⟨(I.pin (a, oe) (List.mem_append_left _ h.pin)).1, h.cls, by unfold PySem.W.notCls; rw [hf] <;> rfl, by rw [h.dic]; exact e1⟩
  exact PySem.W.kia_one (exc_kit h.own) I.kIn J e (fun z => nomatch z) fun tk => ⟨.bl b, H, I.tok tk, rfl, q⟩
/-- what an element of the row asks -/
def tP (a dx : Addr) (b : Bool) : TE := fun σ H Q => σ[(0 : Nat)]? = some (some (.ref a)) ∧ DxOk H dx ∧ Q (.bl b) H
theorem pe_isP (h : HotX X a A dx oe) {x y : Str} {p p1 p2 pos : Pos} {A' : Addr} {b : Bool} (hN : X.N[(0 : Nat)]? = some x) (hv : Vis X.env.scope x) (hd : (x == ("__debug__" : Str)) = false) (hcd : (x == ("__classdict__" : Str)) = false)
    (hg : Gl X "isinstance") (hm : X.mg "isinstance" = none) (hgy : Gl X y) (hyd : (y == ("__debug__" : Str)) = false) (hmy : X.mg y = some (.ref A')) (hk : PySem.W.kitOne X.K (.ref A) (.ref A') = some b) :
    PE X (.Call (.Name "isinstance" p) [.Name x p1, .Name y p2] [] pos) (tP a dx b) := by
  refine PE.imp (pe_callB (call_isP h) hg hm PyProof.Rows.boot_isinstance (pa_cons (pe_var (i := 0) hN hv hd hcd) (pa_cons (pe_glob (v := .ref A') hgy hmy rfl hyd) pa_nil rfl) rfl) (by decide) (by decide) rfl rfl) fun σ H Q ⟨h1, h2, h3⟩ => ?_
  exact ⟨.ref a, h1, .ref A', _, b, rfl, .own _, h2, hk, h3⟩
def tPs (a dx : Addr) (bs : List Bool) : TA := fun σ H Q => σ[(0 : Nat)]? = some (some (.ref a)) ∧ DxOk H dx ∧ Q (bs.map V.bl) H
theorem pa_isPs : ∀ {es : List Expr} {bs : List Bool}, Paired (fun e b => PE X e (tP a dx b) ∧ starB e = true) es bs → PA X es (tPs a dx bs)
  | [], [], .nil => PA.imp pa_nil fun _ _ _ h => h.2.2
  | e :: es, b :: bs, .cons h r => PA.imp (pa_cons h.1 (pa_isPs r) (star_ok h.2 _ _)) fun σ H Q ⟨h1, h2, h3⟩ => ⟨h1, h2, h1, h2, h3⟩
end
end Fd

set_option Elab.async false
set_option linter.all false
set_option maxHeartbeats 1000000
/-! the def that tells an error's kinds, called within an except suite -/
namespace Fd
open PySem PySem.Spec PyProof.Rows L2 HotX
open L2H (HotC)
variable {φ : Type}
/-- where the row is true -/
def idxF : Nat → List Bool → List Int
  | _, [] => []
  | k, b :: bs => if b = true then (k : Int) :: idxF (k + 1) bs else idxF (k + 1) bs
theorem idxF_snoc : ∀ {bs : List Bool} {k : Nat} {b : Bool}, idxF k (bs ++ [b]) = idxF k bs ++ (if b = true then [((k + bs.length : Nat) : Int)] else [])
  | [], k, b => by cases b <;> simp [idxF]
  | c :: bs, k, b => by
    have ih := @idxF_snoc bs (k + 1) b
    have e : k + 1 + bs.length = k + (c :: bs).length := by simp; omega
    cases c <;> simp [idxF, ih, e]
theorem idxF_len : ∀ {bs : List Bool} {k : Nat}, (idxF k bs).length ≤ bs.length
  | [], _ => Nat.le_refl _
  | c :: bs, k => by
    have := @idxF_len bs (k + 1)
    cases c <;> simp [idxF] <;> omega
section
variable {X : Cx}
theorem kinds_lc (hot : HotC X) (nd : X.N.Nodup) {y z : Str} {n : Nat} {scope : Scope} {j : Nat} {p0 p1 p2 p3 p4 p5 p6 p7 p8 : Pos} (hy : X.N[(1 : Nat)]? = some y) (hz : X.N[(2 : Nat)]? = some z) (hg : Gl X "range") (hm : X.mg "range" = none) (hb : blkC X.N X.env.scope scope [(z, 2)] = true)
    (vy : visB (relS scope X.env.scope) y = true) (vz : visB (relS scope X.env.scope) z = true) (lz : locB (relS scope X.env.scope) z = true) (cz : (scope.names.lookup z == some .cell || (match (relS scope X.env.scope).names.lookup z with | some .local => true | _ => false)) = true) :
    PE X (.ListComp (.Name z p0) [⟨.Name z p1, .Call (.Name "range" p2) [.Constant (.int n) j p3] [] p4, [.Subscript (.Name y p5) (.Name z p6) p7], 0⟩] scope p8)
      (fun σ H Q => ∃ p bs, σ[(1 : Nat)]? = some (some (.ref p)) ∧ H p = some (.lst (bs.map V.bl)) ∧ bs.length = n ∧ n ≤ 1000 ∧ σ.length = 3 ∧ ∀ q, H q = none → Q (.ref q) (upd H q (.lst ((idxF 0 bs).map V.int)))) := by
  obtain ⟨vy1, vy2, vy3⟩ := vis_ok vy
  obtain ⟨vz1, vz2, vz3⟩ := vis_ok vz
  refine PE.imp (pe_lcHot (g := gName 2) (tt := L2.tB (tOp (rIx X.K) (tVar 1) (tVar 2))) (te := tVar 2) (own := [(z, 2)]) hot nd hg hm (pa_cons pe_int pa_nil rfl) rfl (blkOk_by hb) (fun s H C cl fp => ?_) (fun s H C cl fp => ?_) (fun s H C cl fp => ?_)) fun σ H Q ⟨p, bs, h1, h2, h3, h4, h5, q⟩ => ?_
  · refine pg_name (i := 2) nd hz (loc_ok lz) ?_
    simp only [Bool.or_eq_true] at cz
    rcases cz with c | c
    · exact .inl c
    · right
      split at c
      · assumption
      · cases c
  · let X' := X.blk s H scope (compEnvC scope cl C X.env) fp
    exact pts_one (pt_val (pe_ix (X := X') ix_seq (pe_var (X := X') hy vy1 vy2 vy3) (pe_var (X := X') hz vz1 vz2 vz3) (fun _ _ => rfl)) fun _ => rfl)
  · exact pe_var (X := X.blk s H scope (compEnvC scope cl C X.env) fp) hz vz1 vz2 vz3
  · have hl : 2 < σ.length := by omega
    refine ⟨n, rfl, by omega, by omega, fun D hD => ?_⟩
    have hDp : p ≠ D := fun e => by rw [e, hD] at h2; cases h2
    refine ⟨fun i m H' => m = n - i ∧ i ≤ n ∧ H' = upd H D (.lst ((idxF 0 (bs.take i)).map V.int)), ⟨n, by simp, Nat.zero_le _, by simp [idxF]⟩, ?_⟩
    rintro i m H' ⟨rfl, hi, rfl⟩
    by_cases hlt : i < n
    · refine .inr ⟨by simpa [Itr] using hlt, fun H' => H' = upd H D (.lst ((idxF 0 (bs.take (i + 1))).map V.int)), fun H' e => ⟨n - (i + 1), by omega, rfl, hlt, e⟩, fun x H' hx => ?_⟩
      obtain ⟨e0, ex⟩ := hx
      subst e0 ex
      have hib : i < bs.length := by omega
      have etake : bs.take (i + 1) = bs.take i ++ [bs[i]] := by rw [List.take_succ_eq_append_getElem hib]
      have es : (wipe σ [2]).length = σ.length := wipe_length σ [2]
      have g1 : ((wipe σ [2]).set 2 (some (V.int (0 + (i : Nat)))))[(1 : Nat)]? = some (some (.ref p)) := by
        rw [List.getElem?_set_ne (by decide)]
        show (σ.set 2 none)[1]? = _
        rw [List.getElem?_set_ne (by decide)]; exact h1
      have g2 : ((wipe σ [2]).set 2 (some (V.int (0 + (i : Nat)))))[(2 : Nat)]? = some (some (V.int (i : Nat))) := by
        rw [List.getElem?_set_self (by omega)]
        simp
      refine ⟨?_, ?_⟩
      · show (((σ.set 2 none).set 2 (some _)).set 2 none) = σ.set 2 none
        rw [List.set_set, List.set_set]
      · refine ⟨.ref p, g1, V.int (i : Nat), g2, .inl ⟨p, bs.map V.bl, (i : Nat), .bl bs[i], rfl, rfl, SqL.of (by rw [upd_ne hDp]; exact h2), atI_nat (by rw [List.getElem?_map, List.getElem?_eq_getElem hib]; rfl), bs[i], rfl, ?_⟩⟩
        have ei := @idxF_snoc (bs.take i) 0 bs[i]
        rw [← etake] at ei
        have el : 0 + (bs.take i).length = i := by simp; omega
        rw [el] at ei
        cases hbi : bs[i] with
        | true =>
          rw [hbi] at ei
          simp only [if_true] at ei ⊢
          refine ⟨V.int (i : Nat), g2, _, upd_same, ?_, ?_⟩
          · have := @idxF_len (bs.take i) 0
            rw [List.length_map, sizeLine_eq]
            simp at this
            omega
          · rw [upd_upd, ei, List.map_append]; rfl
        | false =>
          rw [hbi] at ei
          simp only [if_false, Bool.false_eq_true, List.append_nil] at ei ⊢
          rw [ei]
    · have e : i = n := by omega
      subst e
      refine .inl ⟨by simp [Itr], ?_⟩
      have e2 : bs.take i = bs := by rw [← h3]; simp
      rw [e2]
      exact q D hD
end
/-- the context of the def's body there -/
structure KinX (C : Gx) (L : Lk φ) (ad : φ → Addr) (N : List Str) (sc : Scope) (X : Cx) (c : Nat) (a dx : Addr) (oe : Obj) : Prop where
  hot : HotC X
  hx : HotX X a (C.cl c).adr dx oe
  k : X.K = C.K
  nms : X.N = N
  nd : N.Nodup
  scp : X.env.scope = sc
  fnk : sc.kind = .function
  fn : X.fn = fun _ => true
  tx : Tx C L X.mg ad
  xc : xcB L c = true
section
variable {C : Gx} {L : Lk φ} {ad : φ → Addr} {N : List Str} {sc : Scope} {X : Cx} {c : Nat} {a dx : Addr} {oe : Obj}
theorem kin_el (K : KinX C L ad N sc X c a dx oe) {x : Str} (hN : N[(0 : Nat)]? = some x) (hv : visB sc x = true) {t : Nat} {e : Expr} (h : elB L sc x t e = true) : PE X e (tP a dx (xmB L c (some t))) ∧ starB e = true := by
  unfold elB at h
  split at h
  · simp only [Bool.and_eq_true, decide_eq_true_eq] at h
    obtain ⟨⟨⟨⟨⟨rfl, h2⟩, rfl⟩, h4⟩, rfl⟩, h6⟩ := h
    obtain ⟨v1, v2, v3⟩ := vis_ok hv
    obtain ⟨g1, g2, g3⟩ := gl_ok K.scp h2
    obtain ⟨k1, k2, k3⟩ := gl_ok K.scp h6
    refine ⟨pe_isP K.hx (by rw [K.nms]; exact hN) (by rw [K.scp]; exact v1) v2 v3 g1 (K.tx.bl _ (by decide)) k1 k2 (K.tx.xg t h4).1 ?_, rfl⟩
    rw [K.k]
    exact K.tx.xk c (some t) K.xc fun c' e => by cases e; exact h4
  · cases h
theorem kin_els (K : KinX C L ad N sc X c a dx oe) {x : Str} (hN : N[(0 : Nat)]? = some x) (hv : visB sc x = true) : ∀ {ts : List Nat} {es : List Expr}, elsB L sc x ts es = true → Paired (fun e b => PE X e (tP a dx b) ∧ starB e = true) es (ts.map fun t => xmB L c (some t))
  | [], [], _ => .nil
  | t :: ts, e :: es, h => by
    simp only [elsB, Bool.and_eq_true] at h
    exact .cons (kin_el K hN hv h.1) (kin_els K hN hv h.2)
/-- what stands ahead of the rest -/
def KR (H0 : Hp) (a dx : Addr) (pre rest : List Bool) : TS := fun D σ H => σ.length = 3 ∧ σ[(0 : Nat)]? = some (some (.ref a)) ∧ DxOk H dx ∧ (∀ b o, H0 b = some o → H b = some o) ∧ (pre ++ rest).length ≤ 1000 ∧
  ∃ p, H0 p = none ∧ σ[(1 : Nat)]? = some (some (.ref p)) ∧ H p = some (.lst (pre.map V.bl)) ∧ ∀ q H', (∀ b o, H0 b = some o → H' b = some o) → H0 q = none → H' q = some (.lst ((idxF 0 (pre ++ rest)).map V.int)) → D.rt (.ref q) H'
theorem dx_ne {H : Hp} {p dx : Addr} {xs : List V} (h : H p = some (.lst xs)) (d : DxOk H dx) : dx ≠ p := fun e => by
  obtain ⟨fs, h2⟩ := d
  rw [e, h] at h2
  cases h2
theorem DxOk.upd {H : Hp} {p dx : Addr} {o : HO} (d : DxOk H dx) (h : dx ≠ p) : DxOk (upd H p o) dx := by
  obtain ⟨fs, e⟩ := d
  exact ⟨fs, by rw [upd_ne h]; exact e⟩
theorem kin_end (K : KinX C L ad N sc X c a dx oe) {n : Nat} {body : List Stmt} (h : kinE N sc n body = true) (H0 : Hp) (pre : List Bool) (hn : pre.length = n) : PSs X body (KR H0 a dx pre []) := by
  unfold kinE at h
  split at h
  · simp only [Bool.and_eq_true, decide_eq_true_eq] at h
    obtain ⟨⟨⟨⟨⟨⟨⟨⟨⟨⟨⟨rfl, rfl⟩, h3⟩, h4⟩, rfl⟩, h6⟩, rfl⟩, h8⟩, h9⟩, h10⟩, h11⟩, h12⟩ := h
    obtain ⟨g1, g2, g3⟩ := gl_ok K.scp h6
    refine PSs.imp (pss_one (ps_ret (kinds_lc K.hot (by rw [K.nms]; exact K.nd) (by rw [K.nms]; exact of_decide_eq_true h3) (by rw [K.nms]; exact of_decide_eq_true h4) g1 (K.tx.bl _ (by decide)) (by rw [K.nms, K.scp]; exact h8) (by rw [K.scp]; exact h9) (by rw [K.scp]; exact h10) (by rw [K.scp]; exact h11) (by rw [K.scp]; exact h12)))) fun D σ H ⟨q1, q2, q3, q4, q5, p, q6, q7, q8, q9⟩ => ?_
    simp only [List.append_nil] at q5 q9
    refine ⟨p, pre, q7, q8, hn, by omega, q1, fun q hq => q9 q _ (fun b o hb => ?_) ?_ upd_same⟩
    · rw [upd_ne (fun e => by rw [e] at hb; rw [q4 _ _ hb] at hq; cases hq)]; exact q4 _ _ hb
    · cases e : H0 q with
      | none => rfl
      | some o => rw [q4 _ _ e] at hq; cases hq
  · cases h
theorem kin_rest (K : KinX C L ad N sc X c a dx oe) {x : Str} (hN : N[(0 : Nat)]? = some x) (hv : visB sc x = true) {n : Nat} (H0 : Hp) : ∀ {ts : List (List Nat)} {body : List Stmt} {pre : List Bool}, kinR L N sc n x ts body = true → pre.length + ts.flatten.length = n →
    PSs X body (KR H0 a dx pre (ts.flatten.map fun t => xmB L c (some t)))
  | [], body, pre, h, hn => by
    unfold kinR at h
    exact kin_end K h H0 pre (by simpa using hn)
  | t :: tr, body, pre, h, hn => by
    unfold kinR at h
    split at h
    · rename_i y p1 m ap es p2 cp p3 rest
      simp only [Bool.and_eq_true, decide_eq_true_eq] at h
      obtain ⟨⟨⟨⟨⟨h1, h2⟩, rfl⟩, h4⟩, h5⟩, h6⟩ := h
      obtain ⟨v1, v2, v3⟩ := vis_ok h2
      have ih := kin_rest K hN hv H0 (pre := pre ++ t.map fun t => xmB L c (some t)) h6 (by simp at hn ⊢; omega)
      obtain ⟨s1, s2⟩ := lm_slot (m := .extend) rfl
      refine PSs.imp (pss_cons (ps_expr (pe_bm PySem.F.plainAttrs_list s1 s2 (lmr (m := .extend) rfl) (pe_var (i := 1) (by rw [K.nms]; exact of_decide_eq_true h1) (by rw [K.scp]; exact v1) v2 v3) (pa_cons (pe_lst (pa_isPs (kin_els K hN hv h5))) pa_nil rfl) rfl rfl h4 rfl rfl) rfl) ih) fun D σ H ⟨q1, q2, q3, q4, q5, p, q6, q7, q8, q9⟩ => ?_
      have ef : (t :: tr).flatten.map (fun t => xmB L c (some t)) = (t.map fun t => xmB L c (some t)) ++ tr.flatten.map fun t => xmB L c (some t) := by simp
      rw [ef] at q5 q9
      refine ⟨.ref p, q7, .inl ⟨rfl, _, SqL.of q8⟩, q2, q3, ?_, fun l hl => ?_⟩
      · simp at q5 ⊢; rw [sizeLine_eq]; omega
      · have hlp : p ≠ l := fun e => by rw [e, hl] at q8; cases q8
        have dl : dx ≠ l := fun e => by obtain ⟨fs, z⟩ := q3; rw [e, hl] at z; cases z
        refine ⟨p, l, pre.map V.bl, (t.map fun t => xmB L c (some t)).map V.bl, rfl, rfl, by rw [upd_ne hlp]; exact q8, upd_same, by simp at q5 ⊢; rw [sizeLine_eq]; omega, ?_⟩
        have hd : dx ≠ p := dx_ne q8 q3
        refine ⟨q1, q2, (q3.upd dl).upd hd, fun b o hb => ?_, by simpa using q5, p, q6, q7, by rw [upd_same, List.map_append], fun q H' e1 e2 e3 => q9 q H' e1 e2 (by rw [e3]; simp)⟩
        have b1 : b ≠ p := fun e => by rw [e, q6] at hb; cases hb
        have b2 : b ≠ l := fun e => by rw [e] at hb; rw [q4 _ _ hb] at hl; cases hl
        rw [upd_ne b1, upd_ne b2]
        exact q4 _ _ hb
    · cases h
/-- the body: from the handled exception at slot 0 to the places of its classes -/
theorem kin_body (K : KinX C L ad N sc X c a dx oe) {ts : List (List Nat)} {body : List Stmt} (h : kinB L N sc ts body = true) (H0 : Hp) :
    PSs X body (fun D σ H => H = H0 ∧ σ = [some (.ref a), none, none] ∧ DxOk H dx ∧ ∀ q H', (∀ b o, H0 b = some o → H' b = some o) → H0 q = none → H' q = some (.lst ((idxF 0 (ts.flatten.map fun t => xmB L c (some t))).map V.int)) → D.rt (.ref q) H') := by
  unfold kinB at h
  split at h
  · rename_i x n1 n2 t tr y p es q pos rest
    simp only [Bool.and_eq_true, decide_eq_true_eq] at h
    obtain ⟨⟨⟨⟨⟨h0, h1⟩, h2⟩, h3⟩, h4⟩, h5⟩ := h
    have hN : [x, n1, n2][(0 : Nat)]? = some x := rfl
    have ih := kin_rest K hN h0 H0 (pre := t.map fun t => xmB L c (some t)) h5 (by simp)
    have hk : X.env.scope.kind = .function := by rw [K.scp]; exact K.fnk
    refine PSs.imp (pss_cons (ps_asg (pe_lst (pa_isPs (kin_els K hN h0 h3))) (pg_name (i := 1) (by rw [K.nms]; exact K.nd) (by rw [K.nms]; exact of_decide_eq_true h1) (by rw [K.scp]; exact loc_ok h2) (.inl (by rw [K.fn]))) rfl rfl rfl) ih) fun D σ H ⟨e1, e2, q3, q9⟩ => ?_
    subst e1 e2
    refine ⟨rfl, q3, by simp at h4 ⊢; rw [sizeLine_eq]; omega, fun p hp => ?_⟩
    have dl : dx ≠ p := fun e => by obtain ⟨fs, z⟩ := q3; rw [e, hp] at z; cases z
    refine ⟨rfl, rfl, q3.upd dl, fun b o hb => ?_, by rw [← List.map_append, List.length_map, ← List.flatten_cons]; exact h4, p, hp, rfl, upd_same, fun q H' e1 e2 e3 => q9 q H' e1 e2 (by rw [e3]; simp)⟩
    rw [upd_ne (fun e => by rw [e, hp] at hb; cases hb)]
    exact hb
  · cases h
end
end Fd

set_option Elab.async false
set_option linter.all false
set_option maxHeartbeats 1000000
/-! .. called there -/
namespace Fd
open PySem PySem.Spec PyProof.Rows L2 HotX
open L2H (HotC RoomH Hot1 PinOk cxH inv_startH)
variable {φ : Type}
/-- what the call leaves -/
def KinQ (L : Lk φ) (ts : List (List Nat)) (c : Nat) (H : Hp) (Q : VK) : Prop := ∀ q H', (∀ b o, H b = some o → H' b = some o) → H q = none → H' q = some (.lst ((idxF 0 (ts.flatten.map fun t => xmB L c (some t))).map V.int)) → Q (.ref q) H'
section
variable {C : Gx} {L : Lk φ} {ad : φ → Addr} {P : Program} {w : World} {mg : Str → Option Value} {base : Heap} {CX : CXT}
theorem kin_run (tx : Tx C L mg ad) {f : Addr} {fd : FuncData} {ts : List (List Nat)} (D : KinD C L f fd ts) {A : Around} {outer : List Env} {s : Shared} {H : Hp} {Q : VK} {a dx : Addr} {oe : Obj} {c : Nat} (hr : RoomH 1 A) (hot : Hot1 A (a, oe)) (hpin : PinOk outer H s (a, oe)) (e0 : Env0 P w C.K mg base A outer s H)
    (hxc : xcB L c = true) (hcls : oe.cls = .ref (C.cl c).adr) (hdic : oe.dict = some dx) (hdx : DxOk H dx) (q : KinQ L ts c H Q) : codeAny (model P w) A (.call (.ref f) ⟨[.ref a], []⟩) (CR CX outer P w H s Q fun _ _ _ => False) s := by
  obtain ⟨name, qual, params, body, scope, dV, kV, doc, pm, cdv, ct, oc, an, od, osl, N, ps, rfl, lk, hcd, S, hb, hl, hN, hk⟩ := D.ex
  have r : Vals [V.ref a] [Value.ref a] := .cons rfl .nil
  have KX : C.K.In s.heap := e0.mod.kin.keeps fun b o e => (e0.bs b o e).1
  have lim : s.heap.NoLimit := e0.mod.nolimit.keeps fun b o e => (e0.bs b o e).1
  have hkind : ∀ y ∈ ps.zip [Value.ref a], scope.names.lookup y.1 = some .local ∨ (scope.names.lookup y.1 = some .cell ∧ ((cellsFrom (s.heap.objs.size + 1) scope.names []).lookup y.1).isSome = true) := fun ⟨n, v⟩ hy => by
    rcases S.par n (List.of_mem_zip hy).1 with q | q
    · exact .inl q
    · exact .inr ⟨q, PySem.W.cellsFrom_some _ _ _ (.inl q)⟩
  have b := hb s [Value.ref a] KX (by rw [List.append_nil]; exact hl.symm)
  rw [List.append_nil] at b
  refine codeAny_call_function hr.depth (KX _ _ lk) rfl S.co S.gen rfl (PySem.W.codeRec_of KX hcd) (b _ _ _ _ ?_)
  refine wpAny_newFunctionEnv_cells S.kind hkind fun env he s1 x => ?_
  subst he
  refine ⟨lim.keeps x.toInCall.keep, codeAny_func ?_⟩
  have I : Inv (cxH CX P w C.K mg base N qual scope f cdv A outer s H (fun _ _ _ => False) (a, oe)) [] (L2.start N [V.ref a]) H s1 := inv_startH S hpin e0 hl.symm r x
  obtain ⟨vs0, hf, hf2⟩ := hot.2
  have KK : KinX C L ad N scope (cxH CX P w C.K mg base N qual scope f cdv A outer s H (fun _ _ _ => False) (a, oe)) c a dx oe :=
    ⟨⟨(a, oe), ⟨hot.1, hot.2⟩, List.mem_singleton.mpr rfl⟩, ⟨List.mem_singleton.mpr rfl, hcls, ⟨vs0, hf⟩, hdic, (tx.xg c hxc).2⟩, rfl, rfl, S.nd, rfl, S.kind, rfl, tx, hxc⟩
  have st : L2.start N [V.ref a] = [some (V.ref a), none, none] := by
    unfold L2.start
    rw [hN]
    rfl
  refine wpAny_mono ((kin_body KK hk H).run [] s1 (L2.start N [V.ref a]) H { nx := fun _ H' => Q .non H', rt := Q } I ⟨rfl, st, hdx, q⟩) (fun fl s' hs => ?_) fun e s' hs => hs
  have fin : ∀ {σ' : L2.St} {H' : Hp} {v : V} {u : Value}, Inv (cxH CX P w C.K mg base N qual scope f cdv A outer s H (fun _ _ _ => False) (a, oe)) [] σ' H' s' → RelV v u → Q v H' → CE outer P w H s Q u s' :=
    fun {σ' H' v u} J rv q => ⟨v, H', J.os, J.bare, J.base, J.hok, rv, q⟩
  cases fl with
  | ret u =>
    obtain ⟨v, σ', H', J, rv, q⟩ := hs
    exact fin J rv q
  | next =>
    obtain ⟨σ', H', J, q⟩ := hs
    exact fin (v := V.non) (u := Value.none) J rfl q
  | brk =>
    obtain ⟨_, _, _, q⟩ := hs
    exact False.elim q
  | cont =>
    obtain ⟨_, _, _, q⟩ := hs
    exact False.elim q
end
end Fd

set_option Elab.async false
set_option linter.all false
set_option maxHeartbeats 1000000
/-! d.pop(k); isinstance of Python's own errors; try: raise C(x) except B as e: y = kinds(e) -/
namespace Fd
open PySem L2 PySem.Spec PyProof.Rows
variable {φ : Type}
section
variable {C : Gx} {L : Lk φ} {T : φ → Fn φ} {wf : Nat} {ad : φ → Addr} {n : Nat} {N : List Str} {sc : Scope} {E : XK} {X : Cx}
/-! ### d.pop(k) -/
theorem dropK_rep {F : Hp} {ι : List Addr} {k : Key} : ∀ {kvs : List (Key × V)} {xs : List D}, RepL C F ι (kvs.map (·.2)) xs →
    (L2.dropK kvs k).map (·.1) = (delK (kvs.map (·.1)) xs k).1 ∧ RepL C F ι ((L2.dropK kvs k).map (·.2)) (delK (kvs.map (·.1)) xs k).2
  | [], _, .nil => ⟨rfl, .nil⟩
  | p :: r, x :: xs, .cons a b => by
    obtain ⟨h1, h2⟩ := dropK_rep (k := k) b
    unfold L2.dropK delK at h1 h2 ⊢
    simp only [List.map_cons, List.zip_cons_cons, List.filter_cons, List.unzip_eq_map] at h1 h2 ⊢
    by_cases e : p.1 = k
    · rw [if_neg (by simpa using e), if_neg (by simpa using e)]
      exact ⟨h1, h2⟩
    · rw [if_pos (by simpa using e), if_pos (by simpa using e)]
      simp only [List.map_cons]
      exact ⟨by rw [h1], .cons a h2⟩
theorem delK_len {κ : Type} [DecidableEq κ] {ks : List κ} {vs : List D} {k : κ} : (delK ks vs k).2.length ≤ vs.length := by
  unfold delK
  rw [List.unzip_eq_map, List.length_map]
  refine Nat.le_trans (List.length_filter_le _ _) ?_
  simp only [List.length_zip]
  omega
theorem p_dpop (x : XOk C L T wf ad n N sc E X) {cl : Cll φ} {a k : IE φ} {o e : Expr} {ap pos : Pos} (hb : baseB o = true) (hl : (ap.endLine == pos.line) = true) (hs : starB e = true) (ho : PE X o (tE C cl E a)) (he : PE X e (tE C cl E k)) :
    PE X (.Call (.Attribute o "pop" ap) [e] [] pos) (tE C cl E (.dpop a k)) := by
  have hst : [e].all starB = true := by simp [hs]
  refine PE.imp (pe_dpop1 ho he ⟨base_ok hb, few_ok hst (by simp) _ _, hl, by rw [star_ok hs]; rfl⟩) fun σ H Q ⟨F, ι, st, ρ, S, R, w⟩ => ?_
  simp only [evE] at w
  refine bindK S R (fun _ h => h) w fun v d F1 ι1 st1 H1 g1 S1 R1 r1 dom1 w1 => ?_
  split at w1
  · rename_i kv ed
    obtain ⟨ks, vs⟩ := kv
    obtain ⟨a0, kvs, rfl, hrd, _, _, _⟩ := S1.dic r1 ed
    refine ⟨a0, rfl, .inl ⟨kvs, hrd⟩, ?_⟩
    refine bindK S1 R1 dom1 w1 fun v2 d2 F2 ι2 st2 H2 g2 S2 R2 r2 dom2 w2 => ?_
    unfold evDp at w2
    split at w2
    · rename_i i key hk
      split at w2
      · rename_i ks2 vs2 hc
        split at w2
        · rename_i d3 hl3
          have r1' := r1.mono g2.x
          cases r1' with
          | ref ha =>
            obtain ⟨fa, kvs2, q1, q2, q3, q4⟩ := S2.cell _ _ _ hc ha
            subst q2
            obtain ⟨v3, h1, h2⟩ := lookK_rep q4 hl3
            obtain ⟨h3, h4⟩ := dropK_rep (k := key) q4
            refine ⟨kvs2, key, v3, q1, key_rep r2 hk, h1, endW w2 S2 hc ha ⟨_, upd_same, h3, Nat.le_trans delK_len q3, h4⟩ (S2.res h2)⟩
        · exact w2.elim
      · exact w2.elim
    · exact w2.elim
  · exact w1.elim
/-! ### isinstance of Python's own errors -/
def nmsB (sc : Scope) : List String → List Expr → Bool
  | [], [] => true
  | t :: ts, e :: es => (match e with | .Name y _ => decide (y = Str.ofString t) && glB sc y && decide (t ∈ otherX) | _ => false) && nmsB sc ts es
  | _, _ => false
theorem otherX_boot {t : String} (h : t ∈ otherX) : Str.ofString t ∈ bnames ∧ bootBuiltins (Str.ofString t) = some (.type t) := by
  simp only [otherX, List.mem_cons, List.not_mem_nil, or_false] at h
  rcases h with rfl | rfl | rfl
  · exact ⟨by decide, PyProof.Rows.Boot.«KeyError»⟩
  · exact ⟨by decide, PyProof.Rows.Boot.«IndexError»⟩
  · exact ⟨by decide, PyProof.Rows.Boot.«TypeError»⟩
theorem p_nms (x : XOk C L T wf ad n N sc E X) : ∀ {ts : List String} {es : List Expr}, nmsB sc ts es = true → PA X es (fun _ H Q => Q (ts.map V.ty) H) ∧ Paired ClsV (ts.map V.ty) (ts.map Value.type) ∧ (∀ t ∈ ts, t ∈ otherX) ∧ ts.length = es.length
  | [], [], _ => ⟨PA.imp pa_nil fun _ _ _ h => h, .nil, (fun _ h => nomatch h), rfl⟩
  | t :: ts, e :: es, h => by
    simp only [nmsB, Bool.and_eq_true] at h
    obtain ⟨h1, h2⟩ := h
    split at h1
    · simp only [Bool.and_eq_true, decide_eq_true_eq] at h1
      obtain ⟨⟨rfl, h3⟩, h4⟩ := h1
      obtain ⟨g1, g2, g3⟩ := gl_ok x.scp h3
      obtain ⟨b1, b2⟩ := otherX_boot h4
      obtain ⟨p, k, o, l⟩ := p_nms x h2
      refine ⟨PA.imp (pa_cons (pe_bltn (v := .ty t) g1 (x.tx.bl _ b1) b2 rfl g3 g2) p rfl) fun _ _ _ h => h, .cons (.ty t) k, fun t' ht => ?_, by simp [l]⟩
      rcases List.mem_cons.mp ht with rfl | ht
      · exact h4
      · exact o t' ht
    · cases h1
theorem any_no (x : XOk C L T wf ad n N sc E X) {c : Nat} (hc : xcB L c = true) : ∀ {ts : List String}, (∀ t ∈ ts, t ∈ otherX) → PySem.W.kitAny X.K (.ref (C.cl c).adr) (ts.map Value.type) = some false
  | [], _ => rfl
  | t :: ts, h => by
    have h1 := x.tx.xn c t hc (h t List.mem_cons_self)
    have h2 := any_no x hc (ts := ts) fun t' ht => h t' (List.mem_cons_of_mem _ ht)
    rw [← x.k] at h1
    exact kitAny_cons h1 (fun _ => h2) fun e => nomatch e
def allX (L : Lk φ) (m : Nat) : Bool := (List.range m).all (xcB L)
theorem p_isXn (x : XOk C L T wf ad n N sc E X) {cl : Cll φ} {m : Nat} {ts : List String} {a : IE φ} {e : Expr} {es : List Expr} {kk : Nat} {p p2 pos : Pos} (hg : glB sc "isinstance" = true) (hn : nmsB sc ts es = true) (hm : allX L m = true) (hl : es.length ≤ 1000) (hs : starB e = true) (ha : PE X e (tE C cl E a)) :
    PE X (.Call (.Name "isinstance" p) [e, .Tuple es kk p2] [] pos) (tE C cl E (.isXn m ts a)) := by
  obtain ⟨pes, ks, ho, hlen⟩ := p_nms x hn
  refine PE.imp (pe_callB call_isXT (gl_ok x.scp hg).1 (x.tx.bl _ (by decide)) PyProof.Rows.boot_isinstance (pa_cons ha (pa_cons (pe_tup pes) pa_nil rfl) (star_ok hs _ _)) (by decide) (by decide) (star_ok hs _ _) rfl) fun σ H Q ⟨F, ι, st, ρ, S, R, w⟩ => ?_
  simp only [evE] at w
  refine bindK S R (fun _ h => h) w fun v d F1 ι1 st1 H1 g1 S1 R1 r1 dom1 w1 => ?_
  split at w1
  · rename_i c vs
    split at w1
    · rename_i hcm
      have hx := List.all_eq_true.mp hm c (List.mem_range.mpr hcm)
      cases r1 with
      | exc hxc hk hv r =>
        rename_i a0 fs _
        have lv : (ts.map V.ty).length ≤ sizeLine := by
          rw [List.length_map, hlen, sizeLine_eq]; omega
        refine ⟨lv, fun tp htp => ?_⟩
        have hx2 := hxc.mono (F' := upd H1 tp (.tup (ts.map V.ty))) fun b o h => by rw [upd_ne (fun z => by rw [z] at h; rw [S1.fro _ _ h] at htp; cases htp)]; exact S1.fro _ _ h
        obtain ⟨S2, _, _⟩ := S1.more (o := .tup (ts.map V.ty)) htp
        exact ⟨a0, (C.cl c).adr, tp, fs, ts.map V.ty, _, false, rfl, upd_same, ks, by rw [x.k]; exact (x.tx.xg c hx).2, hx2, any_no x hx ho, w1 F1 ι1 _ (Go.more htp) S2 _ (.bl _)⟩
    · exact w1.elim
  · exact w1.elim
end
end Fd

set_option Elab.async false
set_option linter.all false
set_option maxHeartbeats 1000000
/-! try: raise C(x) except B as e: y = kinds(e) -/
namespace Fd
open PySem L2 PySem.Spec PyProof.Rows
open L2H (HotC RoomH Hot1 PinOk)
variable {φ : Type}
section
variable {X : Cx} {CX : CXT} {x : Str} {e : Expr} {es : List Expr} {ta : TA} {p pos : Pos} {C fI : Addr} {k : Nat} {fd : FuncData} {ps : List Str} {sp : Sp}
/-- C(e, ..) to be raised, its context None -/
theorem pmk_oexN (T : OexC X.K C) (iC : PySem.W.findIn X.K (.ref C) "__init__" = some (some (.ref fI))) (tI : PySem.W.typeIn X.K (.ref fI) = some (.type "function"))
    (F1 : FnOk X.prog X.w X.K X.mg X.base CX k fI fd ps sp) (hr : Room (k + 1) X.A) (hb : Binds X.K fd ps []) (hx : Passes CX X (fun _ _ _ => False)) (hg : Gl X x) (hm : X.mg x = some (.ref C)) (ha : PA X (e :: es) ta)
    (hdb : (x == ("__debug__" : Str)) = false) (he : starEach (e :: es) X.env = (false, eval e X.env) :: starEach es X.env) (hpl : (backTo pos (starEach es X.env)).any (·.1) = false) :
    L2N.PMk X (.Call (.Name x p) (e :: es) [] pos) (tMkO C sp [] ta) := by
  intro pins s σ H Q I h
  obtain ⟨nm, q, N, bs, bm, sn, sub, ab, col, dd, k0, k1, k2, k3, k5, hC, hbm⟩ := T.cls
  refine wpAny_Call_Name_kw (ld_glob I hg hm ?_ hdb)
  refine PySem.W.callWith_K (h₀ := X.base) I.ok.mod.kin T.kC (thn (ha.run pos pins s σ H _ I h) fun us s1 ⟨vs, H1, I1, r1, hz, q1⟩ => ⟨I1.kIn, ?_⟩) he hpl
  show wpAny _ _ (call (.ref C) us) _ _ _
  obtain ⟨hp, g, dr, tk, os⟩ := s1
  have hsz : hp.objs.size ≤ hp.objs.size + 1 := Nat.le_succ _
  have hn : H1 (hp.objs.size + 1) = none := I1.hok.fresh hsz
  have hq := q1 (hp.objs.size + 1) hn
  rw [List.append_nil] at hq
  have kk : ∀ b o, hp.get? b = some o → ((hp.push (PySem.W.kdv_tup us)).push (PySem.HandSPX.excO C hp.objs.size)).get? b = some o := fun b o e => Heap.get?_push_of_some _ (Heap.get?_push_of_some _ e)
  have hget : ((hp.push (PySem.W.kdv_tup us)).push (PySem.HandSPX.excO C hp.objs.size)).get? (hp.objs.size + 1) = some (PySem.HandSPX.excO C hp.objs.size) := by heap_get
  have I2 : Inv X pins σ (upd H1 (hp.objs.size + 1) (exo (hp.objs.size + 1) C none)) ⟨(hp.push (PySem.W.kdv_tup us)).push (PySem.HandSPX.excO C hp.objs.size), g, dr, tk, os⟩ :=
    I1.laid (t' := tk) (a := hp.objs.size + 1) (o := exo (hp.objs.size + 1) C none) (h' := (hp.push (PySem.W.kdv_tup us)).push (PySem.HandSPX.excO C hp.objs.size)) kk hsz (exo_ok hget)
  have r2 : Vals (V.ref (hp.objs.size + 1) :: vs) (Value.ref (hp.objs.size + 1) :: us) := .cons rfl r1
  have hl : (Value.ref (hp.objs.size + 1) :: us ++ []).length = ps.length := by
    have e := r2.length
    rw [F1.len _ _ _ _ hq] at e
    rw [List.append_nil]
    exact e.symm
  have hus : us.length ≤ sizeLine := by
    rw [← Paired.length r1, sizeLine_eq]
    omega
  have b2 := hb _ (Value.ref (hp.objs.size + 1) :: us) I2.kIn hl
  rw [List.append_nil] at b2
  refine wpAny_call (PySem.HandSPX.call_own F.excBase_ValueError (fun Y => PySem.HandSPX.refsVE_contains Y bm hbm) (I1.kIn _ _ hC) (PySem.W.looks_findIn I1.kIn iC) (fun self => PySem.W.bind_fn I1.kIn self tI) hus
    (codeAny_mono (F1.run _ X.stack _ _ ⟨Value.ref (hp.objs.size + 1) :: us, []⟩ (Value.ref (hp.objs.size + 1) :: us) _ _ (fun _ _ _ => False) (hr.make C us []) (I2.env0.make C us []) b2 r2 hq) fun r s' hq' => ?_))
  cases r with
  | error er => exact hx pins σ _ _ er s' I2 hq'
  | ok fl =>
    cases fl with
    | ret u =>
      obtain ⟨v, H2, os2, bare2, un2, hok2, rv, ev, d, fs, ea, ed, hd1, q2⟩ := hq'
      subst ev
      obtain ⟨h2, g2, d2, t2, os'⟩ := s'
      obtain ⟨t0, G, J, kG, ge, hoe, na⟩ := mk_end0 (d2 := d2) (t2 := t2) I1 hsz kk un2 hok2 os2 bare2 ea ed hd1
      exact ⟨rv, ⟨hp.objs.size + 1, _, _, ⟨G, g2, d2, t2, os'⟩, _, .ref C, some d, rfl, J, kG, ge, hoe, ⟨rfl, rfl, fun vs hv => by cases hv; rfl⟩, rfl, rfl, na, rfl, bare2, raises_own T.exC T.tyC, q2⟩⟩
    | next => exact False.elim hq'
    | brk => exact False.elim hq'
    | cont => exact False.elim hq'
end
section
variable {C : Gx} {L : Lk φ} {T : φ → Fn φ} {wf : Nat} {ad : φ → Addr} {n : Nat} {N : List Str} {sc : Scope} {E : XK} {X : Cx}
/-- kinds(e) within the suite -/
theorem pe_kin (x : XOk C L T wf ad n N sc E X) {i c : Nat} {g y : Str} {ts : List (List Nat)} {p p1 pos : Pos} {a : Addr} {oe : Obj} {cls : Value} {d : Option Addr} {pn : List (Addr × Obj)} (hk : L.kin = some (g, ts)) (hg : glB sc g = true) (hy : nmB N i y = true) (hv : visB sc y = true) (hc : xcB L c = true)
    (hz : L2N.Zn cls d oe) (hf : ∃ vs, oe.data = .fields vs) : PE (X.suite a ((a, oe) :: pn)) (.Call (.Name g p) [.Name y p1] [] pos)
      (fun σ H Q => cls = .ref (C.cl c).adr ∧ (∃ dx, d = some dx ∧ DxOk H dx) ∧ σ[i]? = some (some (.ref a)) ∧ KinQ L ts c H Q) := by
  obtain ⟨v1, v2, v3⟩ := vis_ok hv
  obtain ⟨g1, g2, g3⟩ := gl_ok x.scp hg
  obtain ⟨f, fd, m1, m2, KD⟩ := x.tx.kn g ts hk
  refine ⟨fun pins s σ H Q I ⟨ec, ⟨dx, ed, hdx⟩, hi, q⟩ => ?_⟩
  subst ec ed
  refine wpAny_Call_Name_kw (ld_glob (X := X.suite a ((a, oe) :: pn)) I g1 m1 ?_ g2)
  have pv : PE (X.suite a ((a, oe) :: pn)) (.Name y p1) (tVar i) := pe_var (X := X.suite a ((a, oe) :: pn)) (by show X.N[i]? = _; rw [x.nms]; exact of_decide_eq_true hy) (by show Vis X.env.scope y; rw [x.scp]; exact v1) v2 v3
  have pa := pa_cons (X := X.suite a ((a, oe) :: pn)) pv pa_nil rfl
  refine PySem.W.callWith_K (h₀ := X.base) I.ok.mod.kin (by rw [x.k]; exact m2) (thn (pa.run pos pins s σ H (fun vs H1 => vs = [.ref a] ∧ H1 = H) I ⟨.ref a, hi, rfl, rfl⟩) fun us s1 ⟨vs, H1, I1, r1, e1, e2⟩ => ⟨I1.kIn, ?_⟩) rfl rfl
  subst e1 e2
  obtain ⟨u, rfl, ru⟩ := r1.one
  obtain rfl : u = Value.ref a := ru
  obtain ⟨vs0, hf⟩ := hf
  have hot : Hot1 (X.suite a ((a, oe) :: pn)).A (a, oe) := ⟨rfl, vs0, hf, hz.2.2 vs0 hf⟩
  have P1 := I1.pin (a, oe) (List.mem_append_left _ List.mem_cons_self)
  have hpin : PinOk X.stack H1 s1 (a, oe) := ⟨P1.1, P1.2.1, fun hm => (List.mem_cons.mp (I1.stkSub a hm)).elim P1.2.2.1 P1.2.2.2.1, P1.2.2.2.2⟩
  have e0 := I1.env0
  have ek : X.K = C.K := x.k
  refine wpAny_call (codeAny_mono (kin_run (CX := L2.CX X.prog X.w) (P := X.prog) (w := X.w) (mg := X.mg) (base := X.base) x.tx KD (L2H.roomH_mark (x.room.mono (by omega)) _) hot hpin (by rw [← ek]; exact e0) hc hz.1 hz.2.1 hdx q) fun r s' hq => ?_)
  cases r with
  | error er => exact cx_no hq
  | ok fl =>
    cases fl with
    | ret u => exact I1.after hq
    | next => exact False.elim hq
    | brk => exact False.elim hq
    | cont => exact False.elim hq
where
  cx_no {P : Program} {w : World} {outer : List Env} {H : Hp} {s : Shared} {e : Value} {s' : Shared} {R : Prop} (h : L2.CX P w outer H s (fun _ _ _ => False) e s') : R := by
    obtain ⟨a, B, H', cls, d, h1, h2, h3, h4, h5, h6, h7, h8⟩ := h
    exact h8.elim
theorem Sim.grow {F : Hp} {ι : List Addr} {st : Sto} {H H' : Hp} (S : Sim C F ι st H) (h : ∀ b o, H b = some o → H' b = some o) : Sim C F ι st H' ∧ Go F ι H F ι H' := by
  refine ⟨⟨fun a o e => h a o (S.fro a o e), S.len, S.nd, fun a ha => ?_, fun i c a h1 h2 => ?_, S.frz, S.no⟩, .refl, fun a o e f n => ⟨h a o e, f, n⟩⟩
  · obtain ⟨o, e⟩ := S.has a ha; exact ⟨o, h a o e⟩
  · obtain ⟨q1, q2⟩ := S.cell i c a h1 h2
    obtain ⟨o, e⟩ := S.has a (List.mem_of_getElem? h2)
    exact ⟨q1, q2.mono .refl (by rw [e, h a o e])⟩
theorem EnvR.unset {F : Hp} {ι : List Addr} {ρ : Rho} {σ : L2.St} (h : EnvR C F ι ρ σ) (i : Nat) (u : Option V) : EnvR C F ι (ρ.set i none) (σ.set i u) := by
  refine ⟨by simp [h.1], fun j d e => ?_⟩
  by_cases hj : i = j
  · subst hj
    by_cases hl : i < ρ.length
    · rw [List.getElem?_set_self hl] at e; cases e
    · rw [List.getElem?_eq_none (by simpa using hl)] at e; cases e
  · rw [List.getElem?_set_ne hj] at e ⊢
    exact h.2 j d e
theorem exm_own (x : XOk C L T wf ad n N sc E X) {c b : Nat} (hc : xcB L c = true) (hb : xcB L b = true) (hm : b ∈ L.xmro c) : PySem.W.exmOne X.K (.ref (C.cl c).adr) (.ref (C.cl b).adr) = some true := by
  have B := (x.tx.xg b hb).2
  rw [x.k]
  refine PySem.W.exm_ref B.sb B.hd B.ty ?_
  show PySem.W.mroIn C.K (C.cl c).adr (.ref (C.cl b).adr) = _
  rw [x.tx.xm c b hc hb]
  simp [hm]
theorem s_tryX (x : XOk C L T wf ad n N sc E X) {cl : Cll φ} (hst : X.stack = X.env :: X.outer) (hfr : X.env.frame = some X.env.locals) {c k i j b : Nat} {ks : List Int} {ts : List (List Nat)} {y x0 bn nm m g : Str} {p p1 p2 p3 p4 p5 p6 p7 p8 p9 p10 p11 : Pos} (hx : L.xin c = true) (hcn : L.cnm c = y) (hg : glB sc y = true)
    (hk : nmB N k x0 = true) (hkv : visB sc x0 = true) (hb : xcB L b = true) (hbn : L.cnm b = bn) (hbg : glB sc bn = true) (hbm : b ∈ L.xmro c) (hi : nmB N i nm = true) (hil : sc.names.lookup nm = some .local) (hiv : visB sc nm = true)
    (hj : nmB N j m = true) (hjl : sc.names.lookup m = some .local) (hij : i ≠ j) (hkin : L.kin = some (g, ts)) (hgg : glB sc g = true) (hks : ks = idxF 0 (ts.flatten.map fun t => xmB L c (some t))) (hlen : ks.length ≤ 1000) :
    PS X (.Try [.Raise (some (.Call (.Name y p) [.Name x0 p1] [] p2)) none p3] [.ExceptHandler (some (.Name bn p4)) (some nm) [.Assign [.Name m p5] (.Call (.Name g p6) [.Name nm p7] [] p8) p9] p10] [] [] p11) (tS C cl wf E (.tryX c k i j ks)) := by
  subst hcn hbn
  obtain ⟨g1, g2, g3⟩ := gl_ok x.scp hg
  obtain ⟨b1, b2, b3⟩ := gl_ok x.scp hbg
  obtain ⟨v1, v2, v3⟩ := vis_ok hkv
  have hc : xcB L c = true := by unfold xcB; rw [hx]; rfl
  obtain ⟨cg, KK⟩ := x.tx.xg c hc
  obtain ⟨fl, hf, hxi⟩ := x.tx.xi c hx
  obtain ⟨fI, fd, ps, XO, hbi, _, F0⟩ := hxi.fn
  have F1 := F0 X.prog X.w X.mg X.base
  rw [← x.k] at hbi F1 XO
  have nd : X.N.Nodup := by rw [x.nms]; exact x.nd
  have hNi : X.N[i]? = some nm := by rw [x.nms]; exact of_decide_eq_true hi
  have hNj : X.N[j]? = some m := by rw [x.nms]; exact of_decide_eq_true hj
  have tkF : L2N.Takes X (fun _ _ _ _ => False) := fun u s' ⟨a, B, sI, pins, σ, H, cls, d, e, I, nb, up, sky, na, os, ag, w⟩ => w.elim
  refine PS.imp (L2N.ps_try_as (i := i) (tb := fun W => fun _ σ H => tMkO (C.cl c).adr (spXI (C.cl c).adr fl) [] (tCons (tVar k) tNil) σ H fun cls d H' => W cls d σ H') (ts := fun a cls d => tAsg (fun σ H Q => cls = .ref (C.cl c).adr ∧ (∃ dx, d = some dx ∧ DxOk H dx) ∧ σ[i]? = some (some (.ref a)) ∧ KinQ L ts c H Q) (gName j))
    hst hfr nd hNi (by show X.env.scope.names.lookup nm = _; rw [x.scp]; exact hil) (show Names X (L.cnm b) (.ref (C.cl b).adr) from ⟨b1, b2, .inl (x.tx.xg b hb).1⟩) tkF (fun W pn xe tkW po => ?_) (fun a oe cls d pn hz hfl => ?_)) fun D σ H ⟨F, ι, st, ρ, S, ER, w⟩ => ?_
  · refine pss_one (L2N.ps_raise (X := X.tr pn xe) x.calm tkW ?_)
    exact pmk_oexN (X := X.tr pn xe) XO.oex XO.it XO.ft F1 (x.room.mono (by omega)) hbi (fun pins σ H s e s' I h => pe_kin.cx_no h) g1 cg (pa_cons (X := X.tr pn xe) (pe_var (X := X.tr pn xe) (by show X.N[k]? = _; rw [x.nms]; exact of_decide_eq_true hk) (by show Vis X.env.scope x0; rw [x.scp]; exact v1) v2 v3) pa_nil rfl) g2 rfl rfl
  · refine pss_one (ps_asg (X := X.suite a ((a, oe) :: pn)) (pe_kin x hkin hgg hi hiv hc hz hfl) (pg_name (X := X.suite a ((a, oe) :: pn)) nd hNj (.inl (by show X.env.scope.names.lookup m = _; rw [x.scp]; exact hjl)) (.inr (by show X.env.scope.names.lookup m = _; rw [x.scp]; exact hjl))) rfl rfl rfl)
  · simp only [exS] at w
    split at w
    · rename_i d hd
      split at w
      case isFalse => exact w.elim
      rename_i hir
      obtain ⟨v, hv, rv⟩ := ER.2 k d hd
      refine ⟨v, hv, by show 1 ≤ 1000; decide, fun a ha => ⟨a, v, rfl, upd_same, fun dx hdx ne => ⟨rfl, dx, [(fl, v)], upd_same, by rw [upd_ne ne, upd_same], ?_, ?_⟩⟩⟩
      · rw [upd_ne ne] at hdx; exact hdx
      · have hdx0 : H dx = none := by rw [upd_ne ne] at hdx; exact hdx
        have eH : upd (L2.del (upd (upd (upd H a (exo a (C.cl c).adr none)) dx (exd dx [(fl, v)])) a (exo a (C.cl c).adr (some dx))) a) dx (.xd [(fl, v)]) = upd H dx (.xd [(fl, v)]) := by
          funext q
          by_cases q1 : q = dx
          · subst q1; rw [upd_same, upd_same]
          · rw [upd_ne q1, upd_ne q1]
            by_cases q2 : q = a
            · subst q2; rw [del_same, ha]
            · rw [del_ne q2, upd_ne q2, upd_ne q1, upd_ne q2]
        rw [eH]
        refine ⟨true, exm_own x hc hb hbm, fun _ a' ha' => ?_, fun z => by cases z⟩
        have hil2 : i < σ.length := by rw [← ER.1]; exact hir
        refine ⟨rfl, ⟨dx, rfl, _, upd_same⟩, List.getElem?_set_self hil2, fun q H3 ext hq hl => ?_⟩
        have hq0 : H q = none := by
          by_cases e : q = dx
          · rw [e]; exact hdx0
          · rw [upd_ne e] at hq; exact hq
        have up : ∀ b o, H b = some o → H3 b = some o := fun b o e => ext b o (by rw [upd_ne (fun z => by rw [z, hdx0] at e; cases e)]; exact e)
        obtain ⟨S3, G3⟩ := S.grow up
        have fq : F q = none := by
          cases e : F q with
          | none => rfl
          | some o => rw [S.fro _ _ e] at hq0; cases hq0
        have nq : q ∉ ι := fun h => by obtain ⟨o, e⟩ := S.has q h; rw [e] at hq0; cases hq0
        obtain ⟨S4, x4⟩ := S3.freeze hl fq nq (fun _ z => nomatch z)
        refine w _ ι H3 _ (G3.frz hq0 x4) S4 ?_
        have r : Rep C (upd F q (.lst (ks.map V.int))) ι (.ref q) (.lst (ks.map Fd.D.int)) := .lst upd_same (by rw [List.length_map, sizeLine_eq]; omega) (repInts ks)
        rw [← hks] at x4 hl ⊢
        have e1 := ((ER.mono x4).set (i := j) r).unset i none
        have e2 : ((σ.set i (some (V.ref a'))).set j (some (V.ref q))).set i none = (σ.set j (some (V.ref q))).set i none := by
          rw [List.set_comm _ _ hij, List.set_set]
        rw [e2]
        exact e1
    · exact w.elim
end
end Fd

set_option Elab.async false
set_option linter.all false
set_option maxHeartbeats 1000000
namespace Fd
open PySem L2
variable {φ : Type}
/-- what may stand as a test -/
def tstB : IE φ → Bool
  | .mk _ => false
  | .mkq _ => false
  | .frz _ => false
  | .ife .. => false
  | .and a b => tstB a && tstB b
  | .or a b => tstB a && tstB b
  | .one a => tstB a
  | .not a => tstB a
  | _ => true
def ownL (N : List Str) (own : List Nat) : List (Str × Nat) := own.filterMap fun i => (N[i]?).map fun n => (n, i)
def ownB (N : List Str) (own : List Nat) (t : Tg) : Bool := decide ((ownL N own).map (·.2) = own) && t.vars.all fun i => decide (i ∈ own)
def celF (scope : Scope) : Str → Bool := fun x => scope.names.lookup x == some .cell
section
variable (L : Lk φ) (N : List Str)
mutual
def mE (sc : Scope) : IE φ → Expr → Bool
  | .var i, e => match e with
    | .Name x _ => nmB N i x && visB sc x
    | _ => false
  | .snap i, e => match e with
    | .Name x _ => nmB N i x && visB sc x
    | _ => false
  | .non, e => match e with
    | .Constant .none _ _ => true
    | _ => false
  | .bl b, e => match e with
    | .Constant (.bool c) _ _ => decide (b = c)
    | _ => false
  | .int i, e => match e with
    | .Constant (.int j) _ _ => decide (i = j)
    | _ => false
  | .str s, e => match e with
    | .Constant (.str t) _ _ => decide (s = t)
    | _ => false
  | .bin op a b, e => match e with
    | .BinOp x o y _ => bopB op o && mE sc a x && mE sc b y
    | _ => false
  | .neg a, e => match e with
    | .UnaryOp .USub x _ => mE sc a x
    | _ => false
  | .cmp op a b, e => match e with
    | .Compare x [o] [y] _ => copB op o && setB y && mE sc a x && mE sc b y
    | _ => false
  | .chain op op' a b c, e => match e with
    | .Compare x [o, o'] [y, z] _ => copB op o && copB op' o' && setB y && setB z && mE sc a x && mE sc b y && mE sc c z
    | _ => false
  | .isN a, e => match e with
    | .Compare x [.Is] [.Constant .none _ _] _ => mE sc a x
    | _ => false
  | .notN a, e => match e with
    | .Compare x [.IsNot] [.Constant .none _ _] _ => mE sc a x
    | _ => false
  | .isB b a, e => match e with
    | .Compare x [.Is] [.Constant (.bool c) _ _] _ => decide (b = c) && mE sc a x
    | _ => false
  | .notB b a, e => match e with
    | .Compare x [.IsNot] [.Constant (.bool c) _ _] _ => decide (b = c) && mE sc a x
    | _ => false
  | .isI k a, e => match e with
    | .Call (.Name f _) [x, t] [] _ => decide (f = "isinstance") && glB sc f && starB x && mE sc a x && (match t with
      | .Tuple [.Name y _, .Name z _] _ _ => (match k with | .seq => true | _ => false) && decide (y = "list") && decide (z = "tuple") && glB sc y && glB sc z
      | .Name y _ => glB sc y && (match k with
        | .cls c => decide (L.cnm c = y) && L.con c
        | k => match k.ty with
          | some T => decide (PySem.Str.ofString T = y)
          | none => false)
      | _ => false)
    | _ => false
  | .and a b, e => match e with
    | .BoolOp .And (x :: y :: r) p => mE sc a x && mE sc b (.BoolOp .And (y :: r) p)
    | _ => false
  | .or a b, e => match e with
    | .BoolOp .Or (x :: y :: r) p => mE sc a x && mE sc b (.BoolOp .Or (y :: r) p)
    | _ => false
  | .one a, e => match e with
    | .BoolOp _ [x] _ => mE sc a x
    | _ => false
  | .not a, e => match e with
    | .UnaryOp .Not x _ => mE sc a x
    | _ => false
  | .ife c a b, e => match e with
    | .IfExp t x y _ => tstB c && mE sc c t && mE sc a x && mE sc b y
    | _ => false
  | .list es, e => match e with
    | .List xs _ => mEs sc es xs
    | _ => false
  | .tup es, e => match e with
    | .Tuple xs _ _ => mEs sc es xs
    | _ => false
  | .mk a, e => mE sc a e
  | .frz a, e => mE sc a e
  | .idx a i, e => match e with
    | .Subscript x s _ => sliceB s && mE sc a x && mE sc i s
    | _ => false
  | .slice a lo hi, e => match e with
    | .Subscript x (.Slice l h none _) _ => mE sc a x && (match l with | some l => !noneB lo && mE sc lo l | none => noneB lo) && (match h with | some h => !noneB hi && mE sc hi h | none => noneB hi)
    | _ => false
  | .back a, e => match e with
    | .Subscript x (.Slice none none (some (.UnaryOp .USub (.Constant (.int 1) _ _) _)) _) _ => mE sc a x
    | _ => false
  | .call f es, e => match e with
    | .Call (.Name x _) xs [] _ => L.on f && decide (L.fnm f = (x, none)) && glB sc x && mEs sc es xs
    | _ => false
  | .make c f _ es, e => match e with
    | .Call (.Name x _) xs [] _ => L.on f && L.con c && decide (L.cnm c = x) && decide (L.fnm f = (x, some ("__init__" : Str))) && glB sc x && mEs sc es xs
    | _ => false
  | .meth c f a es, e => match e with
    | .Call (.Attribute o m ap) xs [] cp => L.on f && L.con c && decide (L.fnm f = (L.cnm c, some m)) && decide (m ∉ L.fl c) && decide (m ≠ "__init__") && baseB o && (ap.endLine == cp.line) && decide (xs.length < 20) && mE sc a o && mEs sc es xs
    | _ => false
  | .attr c j a, e => match e with
    | .Attribute o f _ => L.con c && decide ((L.fl c)[j]? = some f) && baseB o && mE sc a o
    | _ => false
  | .bi b es, e => match e with
    | .Call (.Name x _) xs [] _ => (match b, xs with
      | .listRange, [.Call (.Name y _) ys [] _] => decide (x = "list") && decide (y = "range") && glB sc x && glB sc y && mEs sc es ys && (ys.length == 1 || ys.length == 2)
      | .listRev, [.Call (.Name y _) ys [] _] => decide (x = "list") && decide (y = "reversed") && glB sc x && glB sc y && mEs sc es ys && ys.length == 1
      | .listZip, [.Call (.Name y _) ys [] _] => decide (x = "list") && decide (y = "zip") && glB sc x && glB sc y && mEs sc es ys && ys.length == 2
      | _, _ => (match b.val with | some (n, _) => decide (n = x) | none => false) && !xs.isEmpty && glB sc x && mEs sc es xs)
    | _ => false
  | .lm m a es, e => match e with
    | .Call (.Attribute o nm ap) xs [] cp => (match m.info with | some (n, _) => decide (n = nm) | none => false) && baseB o && (ap.endLine == cp.line) && decide (xs.length < 20) && mE sc a o && mEs sc es xs
    | _ => false
  | .lc own t it cond elt, e => match e with
    | .ListComp x [⟨tg, iter, ifs, 0⟩] scope _ => blkC N sc scope (ownL N own) && ownB N own t && setB iter && mI sc it tg iter && gB N (celF scope) (relS scope sc) t tg &&
        (match ifs with | [] => trueB cond | [c] => tstB cond && mE (relS scope sc) cond c | _ => false) && mE (relS scope sc) elt x
    | _ => false
  | .dc own t it cond ke ve, e => match e with
    | .DictComp kx vx [⟨tg, iter, ifs, 0⟩] scope _ => blkC N sc scope (ownL N own) && ownB N own t && setB iter && mI sc it tg iter && gB N (celF scope) (relS scope sc) t tg &&
        (match ifs with | [] => trueB cond | [c] => tstB cond && mE (relS scope sc) cond c | _ => false) && mE (relS scope sc) ke kx && mE (relS scope sc) ve vx
    | _ => false
  | .nil, _ => false
  | .cons .., _ => false
  | .dict ks vs, e => match vs with
    | .nil => match e with
      | .Dict keys values _ => (match ilv keys values with
        | some l => mEs sc ks l
        | none => false) && decide (keys.length ≤ 15)
      | _ => false
    | _ => false
  | .mkq a, e => mE sc a e
  | .mkx c kw a, e => match e with
    | .Call (.Name x _) xs ks _ => L.xin c && decide (L.cnm c = x) && glB sc x && (match xs, ks with
      | [y], [] => !kw && starB y && mE sc a y
      | [], [⟨some f, y, _⟩] => kw && decide (L.fl c = [f]) && mE sc a y
      | _, _ => false)
    | _ => false
  | .mkx0 c, e => match e with
    | .Call (.Name x _) [] [] _ => L.x0 c && decide (L.cnm c = x) && glB sc x
    | _ => false
  | .xattr c j a, e => match e with
    | .Attribute o f _ => L.xin c && decide ((L.fl c)[j]? = some f) && baseB o && mE sc a o
    | _ => false
  | .isX m tbl tup ts a, e => match e with
    | .Call (.Name f _) [x, t] [] _ => decide (f = "isinstance") && glB sc f && starB x && mE sc a x && tblX L m tbl ts && (match tup with
      | false => match ts with
        | [t0] => nmX L sc t0 t
        | _ => false
      | true => match t with
        | .Tuple es _ _ => nmXs L sc ts es && decide (es.length ≤ 1000)
        | _ => false)
    | _ => false
  | .fcall f es, e => match e with
    | .Call (.Name x _) xs [] _ => L.on f && decide (L.fnm f = (x, none)) && glB sc x && mEs sc es xs
    | _ => false
  | .fmeth c f a es, e => match e with
    | .Call (.Attribute o m ap) xs [] cp => L.on f && L.con c && decide (L.fnm f = (L.cnm c, some m)) && decide (m ∉ L.fl c) && decide (m ≠ "__init__") && baseB o && (ap.endLine == cp.line) && decide (xs.length < 20) && mE sc a o && mEs sc es xs
    | _ => false
  | .fmake c f es, e => match e with
    | .Call (.Name x _) xs [] _ => L.on f && L.con c && decide (L.cnm c = x) && decide (L.fnm f = (x, some ("__init__" : Str))) && glB sc x && mEs sc es xs
    | _ => false
  | .lcd own t i cond elt, e => match e with
    | .ListComp x [⟨tg, .Name y _, ifs, 0⟩] scope _ => nmB N i y && visB sc y && blkC N sc scope (ownL N own) && ownB N own t && gB N (celF scope) (relS scope sc) t tg &&
        (match ifs with | [] => trueB cond | [c] => tstB cond && mE (relS scope sc) cond c | _ => false) && mE (relS scope sc) elt x
    | _ => false
  | .isXn m ts a, e => match e with
    | .Call (.Name f _) [x, .Tuple es _ _] [] _ => decide (f = "isinstance") && glB sc f && starB x && mE sc a x && nmsB sc ts es && allX L m && decide (es.length ≤ 1000)
    | _ => false
  | .dpop a k, e => match e with
    | .Call (.Attribute o nm ap) [x] [] cp => decide (nm = "pop") && baseB o && (ap.endLine == cp.line) && starB x && mE sc a o && mE sc k x
    | _ => false
  | .step2 .., _ => false
  | .step2f .., _ => false
  | .none, _ => false
def mEs (sc : Scope) : IE φ → List Expr → Bool
  | .nil, es => es.isEmpty
  | .cons a r, es => match es with
    | e :: es => starB e && mE sc a e && mEs sc r es
    | [] => false
  | _, _ => false
def mI (sc : Scope) : IE φ → Expr → Expr → Bool
  | .bi b es, tg, e => match e with
    | .Call (.Name x _) xs [] _ => glB sc x && mEs sc es xs && (match b with
      | .range => decide (x = "range") && (xs.length == 1 || xs.length == 2 || xs.length == 3)
      | .enum => decide (x = "enumerate") && xs.length == 1 && (match tg with | .Tuple .. => true | _ => false)
      | .zip => decide (x = "zip") && xs.length == 2 && (match tg with | .Tuple .. => true | _ => false)
      | .rev => decide (x = "reversed") && xs.length == 1
      | _ => false)
    | _ => false
  | .one a, tg, e => mE sc a e
  | _, _, _ => false
end
end
section
variable {C : Gx} {L : Lk φ} {T : φ → Fn φ} {wf : Nat} {ad : φ → Addr} {n : Nat} {N : List Str}
structure Ok (C : Gx) (L : Lk φ) (T : φ → Fn φ) (wf : Nat) (ad : φ → Addr) (n : Nat) (N : List Str) (ir : IE φ) : Prop where
  e : ∀ {sc : Scope} {E : XK} {X : Cx} {e : Expr}, XOk C L T wf ad n N sc E X → mE L N sc ir e = true → PE X e (tE C (callN T wf n) E ir)
  t : ∀ {sc : Scope} {E : XK} {X : Cx} {e : Expr}, XOk C L T wf ad n N sc E X → mE L N sc ir e = true → tstB ir = true → PT X e (tT C (callN T wf n) E ir)
  w : ∀ {sc : Scope} {E : XK} {X : Cx} {op : PySem.BoolOp} {vs : List Expr} {p : Pos}, XOk C L T wf ad n N sc E X → mE L N sc ir (.BoolOp op vs p) = true → tstB ir = true → PW X (.BoolOp op vs p) (tT C (callN T wf n) E ir)
  a : ∀ {sc : Scope} {E : XK} {X : Cx} {es : List Expr}, XOk C L T wf ad n N sc E X → mEs L N sc ir es = true → PA X es (tA C (callN T wf n) E ir) ∧ es.all starB = true ∧ (es = [] → ir = .nil) ∧ ir.len = es.length
  i : ∀ {sc : Scope} {E : XK} {X : Cx} {tg e : Expr}, XOk C L T wf ad n N sc E X → mI L N sc ir tg e = true → PI X tg e (tI C (callN T wf n) E ir)
/-- the block of a comprehension -/
theorem XOk.blk {sc : Scope} {E : XK} {X : Cx} (x : XOk C L T wf ad n N sc E X) (scope : Scope) (s : Shared) (H : Hp) (c : Addr) (cls : List (Str × Addr)) (fp : List Addr) : XOk C L T wf ad n N (relS scope sc) (fun _ _ _ => False) (X.blk s H scope (compEnvC scope cls c X.env) fp) where
  k := x.k
  nms := x.nms
  nd := x.nd
  scp := by rw [← x.scp]; rfl
  calm := x.calm
  room := x.room
  tk := fun u s' h => by obtain ⟨a, B, sI, pins, σ, H, cls, d, e, I, nb, up, sky, na, os, ag, w⟩ := h; exact w
  po := PassesOwn.never
  tx := x.tx
  fn := x.fn
theorem set_pure {iter : Expr} {env : Env} (h : setB iter = true) (y : Value) : foldedSetIterable iter env y = pure y := by
  cases iter <;> first | rfl | cases h
theorem true_ok {cl : Cll φ} {E : XK} {X : Cx} {cond : IE φ} (h : trueB cond = true) : PTs X [] (tT C cl E cond) := by
  refine ⟨fun pins s σ H Q I w => pts_nil.run pins s σ H Q I ?_⟩
  unfold trueB at h
  split at h
  · obtain ⟨F, ι, st, ρ, S, R, w⟩ := w
    simp only [evE] at w
    obtain ⟨b, e, q⟩ := Wpr.here (st := st) w S
    cases e
    exact q
  · cases h
theorem own_ok {own : List Nat} {t : Tg} (h : ownB N own t = true) : (ownL N own).map (·.2) = own ∧ ∀ i ∈ t.vars, i ∈ own := by
  unfold ownB at h
  simp only [Bool.and_eq_true, decide_eq_true_eq, List.all_eq_true] at h
  exact h
/-- a value that is no test of its own kind -/
theorem Ok.of {ir : IE φ} (hE : ∀ {sc : Scope} {E : XK} {X : Cx} {e : Expr}, XOk C L T wf ad n N sc E X → mE L N sc ir e = true → PE X e (tE C (callN T wf n) E ir))
    (hT : ∀ {sc : Scope} {E : XK} {X : Cx} {e : Expr}, XOk C L T wf ad n N sc E X → mE L N sc ir e = true → tstB ir = true → PT X e (tT C (callN T wf n) E ir))
    (hw : ∀ sc op vs p, mE L N sc ir (.BoolOp op vs p) = true → tstB ir = true → False) (ha : ∀ sc es, mEs L N sc ir es = true → False) (hi : ∀ sc tg e, mI L N sc ir tg e = true → False) : Ok C L T wf ad n N ir where
  e := hE
  t := hT
  w := fun x h h2 => (hw _ _ _ _ h h2).elim
  a := fun x h => (ha _ _ h).elim
  i := fun x h => (hi _ _ _ h).elim
theorem ok_var (i : Nat) : Ok C L T wf ad n N (.var i) := by
  have hE : ∀ {sc : Scope} {E : XK} {X : Cx} {e : Expr}, XOk C L T wf ad n N sc E X → mE L N sc (.var i) e = true → PE X e (tE C (callN T wf n) E (.var i)) ∧ ∀ whole, isTrue e X.env whole = (do let v ← whole; standAt e.pos; holding [v] (truthy v)) := fun x h => by
    simp only [mE] at h
    split at h
    · simp only [Bool.and_eq_true] at h
      exact ⟨p_var x h.1 h.2, fun _ => rfl⟩
    · cases h
  refine .of (fun x h => (hE x h).1) (fun x h _ => t_val (hE x h).1 (hE x h).2) (fun _ _ _ _ h => ?_) (fun _ _ h => ?_) (fun _ _ _ h => ?_)
  · simp [mE] at h
  · simp [mEs] at h
  · simp [mI] at h
theorem ok_snap (i : Nat) : Ok C L T wf ad n N (.snap i) := by
  have hE : ∀ {sc : Scope} {E : XK} {X : Cx} {e : Expr}, XOk C L T wf ad n N sc E X → mE L N sc (.snap i) e = true → PE X e (tE C (callN T wf n) E (.snap i)) ∧ ∀ whole, isTrue e X.env whole = (do let v ← whole; standAt e.pos; holding [v] (truthy v)) := fun x h => by
    simp only [mE] at h
    split at h
    · simp only [Bool.and_eq_true] at h
      exact ⟨p_snap x h.1 h.2, fun _ => rfl⟩
    · cases h
  refine .of (fun x h => (hE x h).1) (fun x h _ => t_val (hE x h).1 (hE x h).2) (fun _ _ _ _ h => ?_) (fun _ _ h => ?_) (fun _ _ _ h => ?_)
  · simp [mE] at h
  · simp [mEs] at h
  · simp [mI] at h
abbrev TV (X : Cx) (e : Expr) : Prop := ∀ whole, isTrue e X.env whole = (do let v ← whole; standAt e.pos; holding [v] (truthy v))
/-- .. shown by a value and its equation as a test -/
theorem Ok.val {ir : IE φ} (hE : ∀ {sc : Scope} {E : XK} {X : Cx} {e : Expr}, XOk C L T wf ad n N sc E X → mE L N sc ir e = true → PE X e (tE C (callN T wf n) E ir) ∧ TV X e)
    (hw : ∀ sc op vs p, mE L N sc ir (.BoolOp op vs p) = true → tstB ir = true → False) (ha : ∀ sc es, mEs L N sc ir es = true → False) (hi : ∀ sc tg e, mI L N sc ir tg e = true → False) : Ok C L T wf ad n N ir :=
  .of (fun x h => (hE x h).1) (fun x h _ => t_val (hE x h).1 (hE x h).2) hw ha hi
theorem ok_non : Ok C L T wf ad n N .non := by
  refine .val (fun x h => ?_) (fun _ _ _ _ h => ?_) (fun _ _ h => ?_) (fun _ _ _ h => ?_)
  · simp only [mE] at h
    split at h
    · exact ⟨p_con pe_non (d := .non) (fun _ _ => by simp only [evE]) (fun _ _ => .non), fun _ => rfl⟩
    · cases h
  · simp [mE] at h
  · simp [mEs] at h
  · simp [mI] at h
theorem ok_bl (b : Bool) : Ok C L T wf ad n N (.bl b) := by
  refine .val (fun x h => ?_) (fun _ _ _ _ h => ?_) (fun _ _ h => ?_) (fun _ _ _ h => ?_)
  · simp only [mE] at h
    split at h
    · cases of_decide_eq_true h
      exact ⟨p_con pe_bl (d := .bl b) (fun _ _ => by simp only [evE]) (fun _ _ => .bl b), fun _ => rfl⟩
    · cases h
  · simp [mE] at h
  · simp [mEs] at h
  · simp [mI] at h
theorem ok_int (i : Int) : Ok C L T wf ad n N (.int i) := by
  refine .val (fun x h => ?_) (fun _ _ _ _ h => ?_) (fun _ _ h => ?_) (fun _ _ _ h => ?_)
  · simp only [mE] at h
    split at h
    · cases of_decide_eq_true h
      exact ⟨p_con pe_int (d := .int i) (fun _ _ => by simp only [evE]) (fun _ _ => .int i), fun _ => rfl⟩
    · cases h
  · simp [mE] at h
  · simp [mEs] at h
  · simp [mI] at h
theorem ok_str (i : Str) : Ok C L T wf ad n N (.str i) := by
  refine .val (fun x h => ?_) (fun _ _ _ _ h => ?_) (fun _ _ h => ?_) (fun _ _ _ h => ?_)
  · simp only [mE] at h
    split at h
    · cases of_decide_eq_true h
      exact ⟨p_con pe_str (d := .str i) (fun _ _ => by simp only [evE]) (fun _ _ => .str i), fun _ => rfl⟩
    · cases h
  · simp [mE] at h
  · simp [mEs] at h
  · simp [mI] at h
theorem ok_bin {op : BOp} {a b : IE φ} (ia : Ok C L T wf ad n N a) (ib : Ok C L T wf ad n N b) : Ok C L T wf ad n N (.bin op a b) := by
  refine .val (fun x h => ?_) (fun _ _ _ _ h => ?_) (fun _ _ h => ?_) (fun _ _ _ h => ?_)
  · simp only [mE] at h
    split at h
    · simp only [Bool.and_eq_true] at h
      exact ⟨p_bin x h.1.1 (ia.e x h.1.2) (ib.e x h.2), fun _ => rfl⟩
    · cases h
  · simp [mE] at h
  · simp [mEs] at h
  · simp [mI] at h
theorem ok_neg {a : IE φ} (ia : Ok C L T wf ad n N a) : Ok C L T wf ad n N (.neg a) := by
  refine .val (fun x h => ?_) (fun _ _ _ _ h => ?_) (fun _ _ h => ?_) (fun _ _ _ h => ?_)
  · simp only [mE] at h
    split at h
    · exact ⟨p_neg (ia.e x h), fun _ => rfl⟩
    · cases h
  · simp [mE] at h
  · simp [mEs] at h
  · simp [mI] at h
theorem ok_cmp {op : COp} {a b : IE φ} (ia : Ok C L T wf ad n N a) (ib : Ok C L T wf ad n N b) : Ok C L T wf ad n N (.cmp op a b) := by
  refine .of (fun x h => ?_) (fun x h _ => ?_) (fun _ _ _ _ h => ?_) (fun _ _ h => ?_) (fun _ _ _ h => ?_)
  · simp only [mE] at h
    split at h
    · simp only [Bool.and_eq_true] at h
      exact p_cmp x h.1.1.1 h.1.1.2 (ia.e x h.1.2) (ib.e x h.2)
    · cases h
  · simp only [mE] at h
    split at h
    · simp only [Bool.and_eq_true] at h
      exact t_cmp x h.1.1.1 h.1.1.2 (ia.e x h.1.2) (ib.e x h.2)
    · cases h
  · simp [mE] at h
  · simp [mEs] at h
  · simp [mI] at h
theorem ok_chain {op op' : COp} {a b c : IE φ} (ia : Ok C L T wf ad n N a) (ib : Ok C L T wf ad n N b) (ic : Ok C L T wf ad n N c) : Ok C L T wf ad n N (.chain op op' a b c) := by
  refine .of (fun x h => ?_) (fun x h _ => ?_) (fun _ _ _ _ h => ?_) (fun _ _ h => ?_) (fun _ _ _ h => ?_)
  · simp only [mE] at h
    split at h
    · simp only [Bool.and_eq_true] at h
      obtain ⟨⟨⟨⟨⟨⟨h1, h2⟩, h3⟩, h4⟩, h5⟩, h6⟩, h7⟩ := h
      exact p_chain x h1 h2 h3 h4 (ia.e x h5) (ib.e x h6) (ic.e x h7)
    · cases h
  · simp only [mE] at h
    split at h
    · simp only [Bool.and_eq_true] at h
      obtain ⟨⟨⟨⟨⟨⟨h1, h2⟩, h3⟩, h4⟩, h5⟩, h6⟩, h7⟩ := h
      exact t_chain x h1 h2 h3 h4 (ia.e x h5) (ib.e x h6) (ic.e x h7)
    · cases h
  · simp [mE] at h
  · simp [mEs] at h
  · simp [mI] at h
theorem ok_isN {a : IE φ} (ia : Ok C L T wf ad n N a) : Ok C L T wf ad n N (.isN a) := by
  refine .of (fun x h => ?_) (fun x h _ => ?_) (fun _ _ _ _ h => ?_) (fun _ _ h => ?_) (fun _ _ _ h => ?_)
  · simp only [mE] at h
    split at h
    · exact p_isN (ia.e x h)
    · cases h
  · simp only [mE] at h
    split at h
    · exact t_isN (ia.e x h)
    · cases h
  · simp [mE] at h
  · simp [mEs] at h
  · simp [mI] at h
theorem ok_notN {a : IE φ} (ia : Ok C L T wf ad n N a) : Ok C L T wf ad n N (.notN a) := by
  refine .of (fun x h => ?_) (fun x h _ => ?_) (fun _ _ _ _ h => ?_) (fun _ _ h => ?_) (fun _ _ _ h => ?_)
  · simp only [mE] at h
    split at h
    · exact p_notN (ia.e x h)
    · cases h
  · simp only [mE] at h
    split at h
    · exact t_notN (ia.e x h)
    · cases h
  · simp [mE] at h
  · simp [mEs] at h
  · simp [mI] at h
theorem ok_isB {b : Bool} {a : IE φ} (ia : Ok C L T wf ad n N a) : Ok C L T wf ad n N (.isB b a) := by
  refine .of (fun x h => ?_) (fun x h _ => ?_) (fun _ _ _ _ h => ?_) (fun _ _ h => ?_) (fun _ _ _ h => ?_)
  · simp only [mE] at h
    split at h
    · simp only [Bool.and_eq_true, decide_eq_true_eq] at h
      obtain ⟨rfl, h⟩ := h
      exact p_isB (ia.e x h)
    · cases h
  · simp only [mE] at h
    split at h
    · simp only [Bool.and_eq_true, decide_eq_true_eq] at h
      obtain ⟨rfl, h⟩ := h
      exact t_isB (ia.e x h)
    · cases h
  · simp [mE] at h
  · simp [mEs] at h
  · simp [mI] at h
theorem ok_notB {b : Bool} {a : IE φ} (ia : Ok C L T wf ad n N a) : Ok C L T wf ad n N (.notB b a) := by
  refine .of (fun x h => ?_) (fun x h _ => ?_) (fun _ _ _ _ h => ?_) (fun _ _ h => ?_) (fun _ _ _ h => ?_)
  · simp only [mE] at h
    split at h
    · simp only [Bool.and_eq_true, decide_eq_true_eq] at h
      obtain ⟨rfl, h⟩ := h
      exact p_notB (ia.e x h)
    · cases h
  · simp only [mE] at h
    split at h
    · simp only [Bool.and_eq_true, decide_eq_true_eq] at h
      obtain ⟨rfl, h⟩ := h
      exact t_notB (ia.e x h)
    · cases h
  · simp [mE] at h
  · simp [mEs] at h
  · simp [mI] at h
theorem ok_isI {k : Kd} {a : IE φ} (ia : Ok C L T wf ad n N a) : Ok C L T wf ad n N (.isI k a) := by
  refine .val (fun x h => ?_) (fun _ _ _ _ h => ?_) (fun _ _ h => ?_) (fun _ _ _ h => ?_)
  · simp only [mE] at h
    split at h
    · rename_i f p z t pos
      simp only [Bool.and_eq_true, decide_eq_true_eq] at h
      obtain ⟨⟨⟨⟨rfl, h2⟩, h3⟩, h4⟩, h5⟩ := h
      refine ⟨?_, fun _ => rfl⟩
      split at h5
      · simp only [Bool.and_eq_true, decide_eq_true_eq] at h5
        obtain ⟨⟨⟨⟨h6, rfl⟩, rfl⟩, h7⟩, h8⟩ := h5
        split at h6
        · exact p_isSeq x h2 h7 h8 h3 (ia.e x h4)
        · cases h6
      · simp only [Bool.and_eq_true] at h5
        obtain ⟨h6, h7⟩ := h5
        split at h7
        · simp only [Bool.and_eq_true, decide_eq_true_eq] at h7
          exact p_isCls x h7.2 h7.1 h2 h6 h3 (ia.e x h4)
        · split at h7
          · rename_i T0 e
            have e2 := of_decide_eq_true h7
            subst e2
            exact p_isTy x e h2 h6 h3 (ia.e x h4)
          · cases h7
      · cases h5
    · cases h
  · simp [mE] at h
  · simp [mEs] at h
  · simp [mI] at h
theorem ok_and {a b : IE φ} (ia : Ok C L T wf ad n N a) (ib : Ok C L T wf ad n N b) : Ok C L T wf ad n N (.and a b) := by
  have hW : ∀ {sc : Scope} {E : XK} {X : Cx} {op : PySem.BoolOp} {vs : List Expr} {p : Pos}, XOk C L T wf ad n N sc E X → mE L N sc (.and a b) (.BoolOp op vs p) = true → tstB (.and a b) = true → PW X (.BoolOp op vs p) (tT C (callN T wf n) E (.and a b)) := fun x h h2 => by
    simp only [mE] at h
    simp only [tstB, Bool.and_eq_true] at h2
    split at h
    · rename_i e
      cases e
      simp only [Bool.and_eq_true] at h
      exact w_and (ia.t x h.1 h2.1) (ib.w x h.2 h2.2)
    · cases h
  refine ⟨fun x h => ?_, fun x h h2 => ?_, hW, fun x h => ?_, fun x h => ?_⟩
  · simp only [mE] at h
    split at h
    · simp only [Bool.and_eq_true] at h
      exact p_and (ia.e x h.1) (ib.e x h.2)
    · cases h
  · have h0 := h
    simp only [mE] at h
    split at h
    · exact (hW x h0 h2).pt
    · cases h
  · simp [mEs] at h
  · simp [mI] at h
theorem ok_or {a b : IE φ} (ia : Ok C L T wf ad n N a) (ib : Ok C L T wf ad n N b) : Ok C L T wf ad n N (.or a b) := by
  have hW : ∀ {sc : Scope} {E : XK} {X : Cx} {op : PySem.BoolOp} {vs : List Expr} {p : Pos}, XOk C L T wf ad n N sc E X → mE L N sc (.or a b) (.BoolOp op vs p) = true → tstB (.or a b) = true → PW X (.BoolOp op vs p) (tT C (callN T wf n) E (.or a b)) := fun x h h2 => by
    simp only [mE] at h
    simp only [tstB, Bool.and_eq_true] at h2
    split at h
    · rename_i e
      cases e
      simp only [Bool.and_eq_true] at h
      exact w_or (ia.t x h.1 h2.1) (ib.w x h.2 h2.2)
    · cases h
  refine ⟨fun x h => ?_, fun x h h2 => ?_, hW, fun x h => ?_, fun x h => ?_⟩
  · simp only [mE] at h
    split at h
    · simp only [Bool.and_eq_true] at h
      exact p_or (ia.e x h.1) (ib.e x h.2)
    · cases h
  · have h0 := h
    simp only [mE] at h
    split at h
    · exact (hW x h0 h2).pt
    · cases h
  · simp [mEs] at h
  · simp [mI] at h
theorem ok_one {a : IE φ} (ia : Ok C L T wf ad n N a) : Ok C L T wf ad n N (.one a) := by
  have hW : ∀ {sc : Scope} {E : XK} {X : Cx} {op : PySem.BoolOp} {vs : List Expr} {p : Pos}, XOk C L T wf ad n N sc E X → mE L N sc (.one a) (.BoolOp op vs p) = true → tstB (.one a) = true → PW X (.BoolOp op vs p) (tT C (callN T wf n) E (.one a)) := fun x h h2 => by
    simp only [mE] at h
    simp only [tstB] at h2
    split at h
    · rename_i e
      cases e
      exact w_one (ia.t x h h2)
    · cases h
  refine ⟨fun x h => ?_, fun x h h2 => ?_, hW, fun x h => ?_, fun x h => ?_⟩
  · simp only [mE] at h
    split at h
    · exact p_one (ia.e x h)
    · cases h
  · have h0 := h
    simp only [mE] at h
    split at h
    · exact (hW x h0 h2).pt
    · cases h
  · simp [mEs] at h
  · simp only [mI] at h
    exact i_one x (ia.e x h)
theorem ok_not {a : IE φ} (ia : Ok C L T wf ad n N a) : Ok C L T wf ad n N (.not a) := by
  refine .of (fun x h => ?_) (fun x h h2 => ?_) (fun _ _ _ _ h => ?_) (fun _ _ h => ?_) (fun _ _ _ h => ?_)
  · simp only [mE] at h
    split at h
    · exact p_not (ia.e x h)
    · cases h
  · simp only [mE] at h
    simp only [tstB] at h2
    split at h
    · exact t_not (ia.t x h h2)
    · cases h
  · simp [mE] at h
  · simp [mEs] at h
  · simp [mI] at h
theorem ok_ife {c a b : IE φ} (ic : Ok C L T wf ad n N c) (ia : Ok C L T wf ad n N a) (ib : Ok C L T wf ad n N b) : Ok C L T wf ad n N (.ife c a b) := by
  refine .of (fun x h => ?_) (fun x h h2 => ?_) (fun _ _ _ _ h => ?_) (fun _ _ h => ?_) (fun _ _ _ h => ?_)
  · simp only [mE] at h
    split at h
    · simp only [Bool.and_eq_true] at h
      exact p_ife (ic.t x h.1.1.2 h.1.1.1) (ia.e x h.1.2) (ib.e x h.2)
    · cases h
  · cases h2
  · simp [mE] at h
  · simp [mEs] at h
  · simp [mI] at h
end
end Fd

set_option Elab.async false
set_option linter.all false
set_option maxHeartbeats 1000000
namespace Fd
open PySem L2
variable {φ : Type}
section
variable {C : Gx} {L : Lk φ} {T : φ → Fn φ} {wf : Nat} {ad : φ → Addr} {n : Nat} {N : List Str}
theorem Ok.never {ir : IE φ} (he : ∀ sc e, mE L N sc ir e = true → False) (ha : ∀ sc es, mEs L N sc ir es = true → False) (hi : ∀ sc tg e, mI L N sc ir tg e = true → False) : Ok C L T wf ad n N ir where
  e := fun x h => (he _ _ h).elim
  t := fun x h _ => (he _ _ h).elim
  w := fun x h _ => (he _ _ h).elim
  a := fun x h => (ha _ _ h).elim
  i := fun x h => (hi _ _ _ h).elim
theorem ok_list {es : IE φ} (ia : Ok C L T wf ad n N es) : Ok C L T wf ad n N (.list es) := by
  refine .val (fun x h => ?_) (fun _ _ _ _ h => ?_) (fun _ _ h => ?_) (fun _ _ _ h => ?_)
  · simp only [mE] at h
    split at h
    · exact ⟨p_list (ia.a x h).1, fun _ => rfl⟩
    · cases h
  · simp [mE] at h
  · simp [mEs] at h
  · simp [mI] at h
theorem ok_tup {es : IE φ} (ia : Ok C L T wf ad n N es) : Ok C L T wf ad n N (.tup es) := by
  refine .val (fun x h => ?_) (fun _ _ _ _ h => ?_) (fun _ _ h => ?_) (fun _ _ _ h => ?_)
  · simp only [mE] at h
    split at h
    · exact ⟨p_tup (ia.a x h).1, fun _ => rfl⟩
    · cases h
  · simp [mE] at h
  · simp [mEs] at h
  · simp [mI] at h
theorem ok_mk {a : IE φ} (ia : Ok C L T wf ad n N a) : Ok C L T wf ad n N (.mk a) := by
  refine .of (fun x h => ?_) (fun x h h2 => ?_) (fun _ _ _ _ h h2 => ?_) (fun _ _ h => ?_) (fun _ _ _ h => ?_)
  · simp only [mE] at h
    exact p_mk (ia.e x h)
  · cases h2
  · cases h2
  · simp [mEs] at h
  · simp [mI] at h
theorem ok_frz {a : IE φ} (ia : Ok C L T wf ad n N a) : Ok C L T wf ad n N (.frz a) := by
  refine .of (fun x h => ?_) (fun x h h2 => ?_) (fun _ _ _ _ h h2 => ?_) (fun _ _ h => ?_) (fun _ _ _ h => ?_)
  · simp only [mE] at h
    exact p_frz (ia.e x h)
  · cases h2
  · cases h2
  · simp [mEs] at h
  · simp [mI] at h
theorem ok_idx {a i : IE φ} (ia : Ok C L T wf ad n N a) (ii : Ok C L T wf ad n N i) : Ok C L T wf ad n N (.idx a i) := by
  refine .val (fun x h => ?_) (fun _ _ _ _ h => ?_) (fun _ _ h => ?_) (fun _ _ _ h => ?_)
  · simp only [mE] at h
    split at h
    · simp only [Bool.and_eq_true] at h
      exact ⟨p_idx x h.1.1 (ia.e x h.1.2) (ii.e x h.2), fun _ => rfl⟩
    · cases h
  · simp [mE] at h
  · simp [mEs] at h
  · simp [mI] at h
theorem ok_slice {a lo hi : IE φ} (ia : Ok C L T wf ad n N a) (il : Ok C L T wf ad n N lo) (ih : Ok C L T wf ad n N hi) : Ok C L T wf ad n N (.slice a lo hi) := by
  refine .val (fun x h => ?_) (fun _ _ _ _ h => ?_) (fun _ _ h => ?_) (fun _ _ _ h => ?_)
  · simp only [mE] at h
    split at h
    · rename_i l u p q
      simp only [Bool.and_eq_true] at h
      refine ⟨p_slice x (ia.e x h.1.1) ?_ ?_, fun _ => rfl⟩
      · have := h.1.2
        cases l with
        | none => exact this
        | some e =>
          simp only [Bool.and_eq_true, Bool.not_eq_true'] at this
          exact ⟨this.1, il.e x this.2⟩
      · have := h.2
        cases u with
        | none => exact this
        | some e =>
          simp only [Bool.and_eq_true, Bool.not_eq_true'] at this
          exact ⟨this.1, ih.e x this.2⟩
    · cases h
  · simp [mE] at h
  · simp [mEs] at h
  · simp [mI] at h
theorem ok_back {a : IE φ} (ia : Ok C L T wf ad n N a) : Ok C L T wf ad n N (.back a) := by
  refine .val (fun x h => ?_) (fun _ _ _ _ h => ?_) (fun _ _ h => ?_) (fun _ _ _ h => ?_)
  · simp only [mE] at h
    split at h
    · exact ⟨p_back x (ia.e x h), fun _ => rfl⟩
    · cases h
  · simp [mE] at h
  · simp [mEs] at h
  · simp [mI] at h
theorem ok_call {f : φ} {es : IE φ} (ia : Ok C L T wf ad n N es) : Ok C L T wf ad n N (.call f es) := by
  refine .val (fun x h => ?_) (fun _ _ _ _ h => ?_) (fun _ _ h => ?_) (fun _ _ _ h => ?_)
  · simp only [mE] at h
    split at h
    · simp only [Bool.and_eq_true, decide_eq_true_eq] at h
      obtain ⟨⟨⟨h1, h2⟩, h3⟩, h4⟩ := h
      obtain ⟨q1, q2, q3, q4⟩ := ia.a x h4
      exact ⟨p_call x h1 h2 h3 q2 q3 q1, fun _ => rfl⟩
    · cases h
  · simp [mE] at h
  · simp [mEs] at h
  · simp [mI] at h
theorem ok_make {c : Nat} {f : φ} {fz : Bool} {es : IE φ} (ia : Ok C L T wf ad n N es) : Ok C L T wf ad n N (.make c f fz es) := by
  refine .val (fun x h => ?_) (fun _ _ _ _ h => ?_) (fun _ _ h => ?_) (fun _ _ _ h => ?_)
  · simp only [mE] at h
    split at h
    · simp only [Bool.and_eq_true, decide_eq_true_eq] at h
      obtain ⟨⟨⟨⟨⟨h1, h2⟩, h3⟩, h4⟩, h5⟩, h6⟩ := h
      obtain ⟨q1, q2, q3, q4⟩ := ia.a x h6
      exact ⟨p_make x h1 h2 h3 h4 h5 q2 q3 q1, fun _ => rfl⟩
    · cases h
  · simp [mE] at h
  · simp [mEs] at h
  · simp [mI] at h
theorem ok_meth {c : Nat} {f : φ} {a es : IE φ} (ib : Ok C L T wf ad n N a) (ia : Ok C L T wf ad n N es) : Ok C L T wf ad n N (.meth c f a es) := by
  refine .val (fun x h => ?_) (fun _ _ _ _ h => ?_) (fun _ _ h => ?_) (fun _ _ _ h => ?_)
  · simp only [mE] at h
    split at h
    · simp only [Bool.and_eq_true, decide_eq_true_eq] at h
      obtain ⟨⟨⟨⟨⟨⟨⟨⟨⟨h1, h2⟩, h3⟩, h4⟩, h5⟩, h6⟩, h7⟩, h8⟩, h9⟩, h10⟩ := h
      obtain ⟨q1, q2, q3, q4⟩ := ia.a x h10
      exact ⟨p_meth x h1 h2 h3 h4 h5 h6 h7 h8 q2 q3 (ib.e x h9) q1, fun _ => rfl⟩
    · cases h
  · simp [mE] at h
  · simp [mEs] at h
  · simp [mI] at h
theorem ok_isXn {m : Nat} {ts : List String} {a : IE φ} (ia : Ok C L T wf ad n N a) : Ok C L T wf ad n N (.isXn m ts a) := by
  refine .val (fun x h => ?_) (fun _ _ _ _ h => ?_) (fun _ _ h => ?_) (fun _ _ _ h => ?_)
  · simp only [mE] at h
    split at h
    · simp only [Bool.and_eq_true, decide_eq_true_eq] at h
      obtain ⟨⟨⟨⟨⟨⟨rfl, h2⟩, h3⟩, h4⟩, h5⟩, h6⟩, h7⟩ := h
      exact ⟨p_isXn x h2 h5 h6 h7 h3 (ia.e x h4), fun _ => rfl⟩
    · cases h
  · simp [mE] at h
  · simp [mEs] at h
  · simp [mI] at h
theorem ok_dpop {a k : IE φ} (ia : Ok C L T wf ad n N a) (ik : Ok C L T wf ad n N k) : Ok C L T wf ad n N (.dpop a k) := by
  refine .val (fun x h => ?_) (fun _ _ _ _ h => ?_) (fun _ _ h => ?_) (fun _ _ _ h => ?_)
  · simp only [mE] at h
    split at h
    · simp only [Bool.and_eq_true, decide_eq_true_eq] at h
      obtain ⟨⟨⟨⟨⟨rfl, h2⟩, h3⟩, h4⟩, h5⟩, h6⟩ := h
      exact ⟨p_dpop x h2 h3 h4 (ia.e x h5) (ik.e x h6), fun _ => rfl⟩
    · cases h
  · simp [mE] at h
  · simp [mEs] at h
  · simp [mI] at h
theorem ok_attr {c j : Nat} {a : IE φ} (ia : Ok C L T wf ad n N a) : Ok C L T wf ad n N (.attr c j a) := by
  refine .val (fun x h => ?_) (fun _ _ _ _ h => ?_) (fun _ _ h => ?_) (fun _ _ _ h => ?_)
  · simp only [mE] at h
    split at h
    · simp only [Bool.and_eq_true, decide_eq_true_eq] at h
      obtain ⟨⟨⟨h1, h2⟩, h3⟩, h4⟩ := h
      exact ⟨p_attr x h1 h2 h3 (ia.e x h4), fun _ => rfl⟩
    · cases h
  · simp [mE] at h
  · simp [mEs] at h
  · simp [mI] at h
theorem IE.len1 : ∀ {es : IE φ} {y : Expr} {sc : Scope}, es.len = 1 → mEs L N sc es [y] = true → ∃ a, es = .cons a .nil ∧ starB y = true ∧ mE L N sc a y = true
  | .cons a r, y, sc, h1, h2 => by
    simp only [mEs, Bool.and_eq_true] at h2
    have h3 := h2.2
    cases r <;> simp [mEs] at h3
    exact ⟨a, rfl, h2.1.1, h2.1.2⟩
theorem ok_nil : Ok C L T wf ad n N (.nil : IE φ) where
  e := fun x h => by simp [mE] at h
  t := fun x h => by simp [mE] at h
  w := fun x h => by simp [mE] at h
  a := fun x h => by
    simp only [mEs, List.isEmpty_iff] at h
    subst h
    exact ⟨a_nil, rfl, fun _ => rfl, rfl⟩
  i := fun x h => by simp [mI] at h
theorem ok_cons {a r : IE φ} (ia : Ok C L T wf ad n N a) (ir : Ok C L T wf ad n N r) : Ok C L T wf ad n N (.cons a r) where
  e := fun x h => by simp [mE] at h
  t := fun x h => by simp [mE] at h
  w := fun x h => by simp [mE] at h
  a := fun x h => by
    simp only [mEs] at h
    split at h
    · simp only [Bool.and_eq_true] at h
      obtain ⟨⟨h1, h2⟩, h3⟩ := h
      obtain ⟨q1, q2, q3, q4⟩ := ir.a x h3
      exact ⟨a_cons h1 (ia.e x h2) q1, by simp [h1, q2], fun z => (nomatch z), by simp [IE.len, q4]⟩
    · cases h
  i := fun x h => by simp [mI] at h
theorem ok_lm {m : Lm} {a es : IE φ} (ib : Ok C L T wf ad n N a) (ia : Ok C L T wf ad n N es) : Ok C L T wf ad n N (.lm m a es) := by
  refine .val (fun x h => ?_) (fun _ _ _ _ h => ?_) (fun _ _ h => ?_) (fun _ _ _ h => ?_)
  · simp only [mE] at h
    split at h
    · simp only [Bool.and_eq_true, decide_eq_true_eq] at h
      obtain ⟨⟨⟨⟨⟨h1, h2⟩, h3⟩, h4⟩, h5⟩, h6⟩ := h
      obtain ⟨q1, q2, q3, q4⟩ := ia.a x h6
      refine ⟨?_, fun _ => rfl⟩
      split at h1
      · rename_i nm id e
        have e2 := of_decide_eq_true h1
        subst e2
        exact p_lm x e h2 h3 h4 q2 q3 (ib.e x h5) q1
      · cases h1
    · cases h
  · simp [mE] at h
  · simp [mEs] at h
  · simp [mI] at h
theorem ifs_ok {cond : IE φ} {sc : Scope} {E : XK} {X : Cx} {ifs : List Expr} (ic : Ok C L T wf ad n N cond) (x : XOk C L T wf ad n N sc E X) (h : (match ifs with | [] => trueB cond | [c] => tstB cond && mE L N sc cond c | _ => false) = true) : PTs X ifs (tT C (callN T wf n) E cond) := by
  split at h
  · exact true_ok h
  · simp only [Bool.and_eq_true] at h
    exact pts_one (ic.t x h.2 h.1)
  · cases h
theorem ok_lc {own : List Nat} {t : Tg} {it cond elt : IE φ} (ii : Ok C L T wf ad n N it) (ic : Ok C L T wf ad n N cond) (ie : Ok C L T wf ad n N elt) : Ok C L T wf ad n N (.lc own t it cond elt) := by
  refine .val (fun x h => ?_) (fun _ _ _ _ h => ?_) (fun _ _ h => ?_) (fun _ _ _ h => ?_)
  · simp only [mE] at h
    split at h
    · rename_i y tg iter ifs scope pos
      simp only [Bool.and_eq_true] at h
      obtain ⟨⟨⟨⟨⟨⟨h1, h2⟩, h3⟩, h4⟩, h5⟩, h6⟩, h7⟩ := h
      obtain ⟨o1, o2⟩ := own_ok h2
      refine ⟨?_, fun _ => rfl⟩
      have := p_lc x (cl := callN T wf n) (own := ownL N own) (t := t) (it := it) (cond := cond) (elt := elt) (eelt := y) (tg := tg) (iter := iter) (ifs := ifs) (scope := scope) (pos := pos) (ii.i x h4) h1 (by rw [o1]; exact o2)
        (fun s H c cls fp => g_ok (x.blk scope s H c cls fp) h5) (fun s H c cls fp => ifs_ok ic (x.blk scope s H c cls fp) h6) (fun s H c cls fp => ie.e (x.blk scope s H c cls fp) h7) (set_pure h3)
      rw [o1] at this
      exact this
    · cases h
  · simp [mE] at h
  · simp [mEs] at h
  · simp [mI] at h
theorem ok_dc {own : List Nat} {t : Tg} {it cond ke ve : IE φ} (ii : Ok C L T wf ad n N it) (ic : Ok C L T wf ad n N cond) (ik : Ok C L T wf ad n N ke) (iv : Ok C L T wf ad n N ve) : Ok C L T wf ad n N (.dc own t it cond ke ve) := by
  refine .val (fun x h => ?_) (fun _ _ _ _ h => ?_) (fun _ _ h => ?_) (fun _ _ _ h => ?_)
  · simp only [mE] at h
    split at h
    · rename_i kx vx tg iter ifs scope pos
      simp only [Bool.and_eq_true] at h
      obtain ⟨⟨⟨⟨⟨⟨⟨h1, h2⟩, h3⟩, h4⟩, h5⟩, h6⟩, h7⟩, h8⟩ := h
      obtain ⟨o1, o2⟩ := own_ok h2
      refine ⟨?_, fun _ => rfl⟩
      have := p_dc x (cl := callN T wf n) (own := ownL N own) (t := t) (it := it) (cond := cond) (ke := ke) (ve := ve) (kx := kx) (vx := vx) (tg := tg) (iter := iter) (ifs := ifs) (scope := scope) (pos := pos) (ii.i x h4) h1 (by rw [o1]; exact o2)
        (fun s H c cls fp => g_ok (x.blk scope s H c cls fp) h5) (fun s H c cls fp => ifs_ok ic (x.blk scope s H c cls fp) h6) (fun s H c cls fp => ik.e (x.blk scope s H c cls fp) h7) (fun s H c cls fp => iv.e (x.blk scope s H c cls fp) h8) (set_pure h3)
      rw [o1] at this
      exact this
    · cases h
  · simp [mE] at h
  · simp [mEs] at h
  · simp [mI] at h
def AllOk (C : Gx) (L : Lk φ) (T : φ → Fn φ) (wf : Nat) (ad : φ → Addr) (n : Nat) (N : List Str) : IE φ → Prop
  | .cons a r => Ok C L T wf ad n N a ∧ AllOk C L T wf ad n N r
  | _ => True
theorem mEs_nil {es : IE φ} {sc : Scope} (h : mEs L N sc es [] = true) : es = .nil := by
  cases es <;> simp [mEs] at h <;> rfl
theorem mEs_cons {es : IE φ} {sc : Scope} {y : Expr} {ys : List Expr} (h : mEs L N sc es (y :: ys) = true) : ∃ a r, es = .cons a r ∧ starB y = true ∧ mE L N sc a y = true ∧ mEs L N sc r ys = true := by
  cases es <;> simp [mEs] at h
  exact ⟨_, _, rfl, h.1.1, h.1.2, h.2⟩
theorem ok_bi {b : Bi} {es : IE φ} (ia : Ok C L T wf ad n N es) (al : AllOk C L T wf ad n N es) : Ok C L T wf ad n N (.bi b es) := by
  have hV : ∀ {sc : Scope} {E : XK} {X : Cx} {e : Expr}, XOk C L T wf ad n N sc E X → mE L N sc (.bi b es) e = true → PE X e (tE C (callN T wf n) E (.bi b es)) ∧ TV X e := fun x h => by
    simp only [mE] at h
    split at h
    · refine ⟨?_, fun _ => rfl⟩
      split at h
      · rename_i ys _
        simp only [Bool.and_eq_true, decide_eq_true_eq, Bool.or_eq_true, beq_iff_eq] at h
        obtain ⟨⟨⟨⟨⟨rfl, rfl⟩, h3⟩, h4⟩, h5⟩, h6⟩ := h
        match ys, h6, h5 with
        | [a], _, h5 =>
          obtain ⟨i1, r, rfl, h7, h8, h9⟩ := mEs_cons h5
          cases mEs_nil h9
          exact p_lr1 x h3 h4 h7 (al.1.e x h8)
        | [a, c], _, h5 =>
          obtain ⟨i1, r, rfl, h7, h8, h9⟩ := mEs_cons h5
          obtain ⟨i2, r2, rfl, h10, h11, h12⟩ := mEs_cons h9
          cases mEs_nil h12
          exact p_lr2 x h3 h4 h7 h10 (al.1.e x h8) (al.2.1.e x h11)
        | [], h6, _ => simp at h6
        | _ :: _ :: _ :: _, h6, _ => simp at h6
      · rename_i ys _
        simp only [Bool.and_eq_true, decide_eq_true_eq, beq_iff_eq] at h
        obtain ⟨⟨⟨⟨⟨rfl, rfl⟩, h3⟩, h4⟩, h5⟩, h6⟩ := h
        match ys, h6, h5 with
        | [a], _, h5 =>
          obtain ⟨i1, r, rfl, h7, h8, h9⟩ := mEs_cons h5
          cases mEs_nil h9
          exact p_lrev x h3 h4 h7 (al.1.e x h8)
      · rename_i ys _
        simp only [Bool.and_eq_true, decide_eq_true_eq, beq_iff_eq] at h
        obtain ⟨⟨⟨⟨⟨rfl, rfl⟩, h3⟩, h4⟩, h5⟩, h6⟩ := h
        obtain ⟨q1, q2, q3, q4⟩ := ia.a x h5
        match ys, h6, q1, q2 with
        | [a, c], _, q1, q2 =>
          simp only [List.all_cons, Bool.and_eq_true] at q2
          exact p_lzip x h3 h4 q2.1 q2.2.1 q1
      · simp only [Bool.and_eq_true, Bool.not_eq_true'] at h
        obtain ⟨⟨⟨h1, h2⟩, h3⟩, h4⟩ := h
        obtain ⟨q1, q2, q3, q4⟩ := ia.a x h4
        split at h1
        · rename_i nm v e
          have e2 := of_decide_eq_true h1
          subst e2
          exact p_bi x e h3 q2 h2 q1
        · cases h1
    · cases h
  refine ⟨fun x h => (hV x h).1, fun x h _ => t_val (hV x h).1 (hV x h).2, fun x h => ?_, fun x h => ?_, fun x h => ?_⟩
  · simp [mE] at h
  · simp [mEs] at h
  · rename_i sc E X tg e
    simp only [mI] at h
    split at h
    · rename_i y p xs pos
      simp only [Bool.and_eq_true] at h
      obtain ⟨⟨h1, h2⟩, h3⟩ := h
      obtain ⟨q1, q2, q3, q4⟩ := ia.a x h2
      split at h3
      · simp only [Bool.and_eq_true, decide_eq_true_eq, Bool.or_eq_true, beq_iff_eq] at h3
        obtain ⟨rfl, h3⟩ := h3
        match xs, h3, q1, q2, q4 with
        | [a], _, q1, q2, q4 =>
          simp only [List.all_cons, Bool.and_eq_true] at q2
          exact i_range1 x h1 q2.1 q4 q1
        | [a, b], _, q1, q2, q4 =>
          simp only [List.all_cons, Bool.and_eq_true] at q2
          exact i_range2 x h1 q2.1 q2.2.1 q4 q1
        | [a, b, c], _, q1, q2, q4 =>
          simp only [List.all_cons, Bool.and_eq_true] at q2
          exact i_range3 x h1 q2.1 q2.2.1 q2.2.2.1 q4 q1
        | [], h3, _, _, _ => simp at h3
        | _ :: _ :: _ :: _ :: _, h3, _, _, _ => simp at h3
      · simp only [Bool.and_eq_true, decide_eq_true_eq, beq_iff_eq] at h3
        obtain ⟨⟨rfl, h3⟩, h4⟩ := h3
        match xs, h3, q1, q2, q4 with
        | [a], _, q1, q2, q4 =>
          simp only [List.all_cons, Bool.and_eq_true] at q2
          split at h4
          · exact i_enum x h1 q2.1 q4 q1
          · cases h4
      · simp only [Bool.and_eq_true, decide_eq_true_eq, beq_iff_eq] at h3
        obtain ⟨⟨rfl, h3⟩, h4⟩ := h3
        match xs, h3, q1, q2, q4 with
        | [a, b], _, q1, q2, q4 =>
          simp only [List.all_cons, Bool.and_eq_true] at q2
          split at h4
          · exact i_zip x h1 q2.1 q2.2.1 q4 q1
          · cases h4
      · simp only [Bool.and_eq_true, decide_eq_true_eq, beq_iff_eq] at h3
        obtain ⟨rfl, h3⟩ := h3
        match xs, h3, q1, q2, q4 with
        | [a], _, q1, q2, q4 =>
          simp only [List.all_cons, Bool.and_eq_true] at q2
          exact i_rev x h1 q2.1 q4 q1
      · cases h3
    · cases h
theorem pps_ok {sc : Scope} {E : XK} {X : Cx} {pos : Pos} (x : XOk C L T wf ad n N sc E X) : ∀ {keys : List (Option Expr)} {values l : List Expr} {es : IE φ}, ilv keys values = some l → mEs L N sc es l = true → AllOk C L T wf ad n N es →
    ∃ trs, PPs X pos keys values trs ∧ ∀ (σ : L2.St) (H : Hp) (R : List (V × V) → Hp → Prop), (tA C (callN T wf n) E es σ H fun vs H1 => ∀ ps, flatP ps = vs → R ps H1) → tPairs trs σ H R
  | [], [], l, es, h1, h2, h3 => by
    simp only [ilv] at h1
    cases h1
    cases mEs_nil h2
    exact ⟨[], pps_nil, fun σ H R h => tA_nil h [] rfl⟩
  | none :: _, _, _, _, h1, _, _ => by simp [ilv] at h1
  | [], _ :: _, _, _, h1, _, _ => by simp [ilv] at h1
  | some _ :: _, [], _, _, h1, _, _ => by simp [ilv] at h1
  | some k :: ks, v :: vs, l, es, h1, h2, h3 => by
    simp only [ilv, Option.map_eq_some_iff] at h1
    obtain ⟨l', h1, rfl⟩ := h1
    obtain ⟨a, r, rfl, h4, h5, h6⟩ := mEs_cons h2
    obtain ⟨b, r2, rfl, h7, h8, h9⟩ := mEs_cons h6
    obtain ⟨trs, p1, p2⟩ := pps_ok x h1 h9 h3.2.2
    refine ⟨_, pps_cons (h3.1.e x h5) (h3.2.1.e x h8) p1, fun σ H R h => ?_⟩
    refine tE_mono (tA_cons h) fun v1 H1 q1 => ?_
    refine tE_mono (tA_cons q1) fun v2 H2 q2 => ?_
    refine p2 σ H2 _ ?_
    obtain ⟨F, ι, st, ρ, S, ER, w⟩ := q2
    exact ⟨F, ι, st, ρ, S, ER, w.imp fun ds F1 ι1 st1 H1 g1 S1 q vs r ps e => q vs r ((v1, v2) :: ps) (by unfold flatP; rw [e])⟩
theorem ilv_some : ∀ {keys : List (Option Expr)} {values l : List Expr}, ilv keys values = some l → keys.all (·.isSome) = true ∧ keys.length = values.length
  | [], [], _, _ => ⟨rfl, rfl⟩
  | none :: _, _, _, h1 => by simp [ilv] at h1
  | [], _ :: _, _, h1 => by simp [ilv] at h1
  | some _ :: _, [], _, h1 => by simp [ilv] at h1
  | some k :: ks, v :: vs, l, h1 => by
    simp only [ilv, Option.map_eq_some_iff] at h1
    obtain ⟨l', h1, rfl⟩ := h1
    obtain ⟨q1, q2⟩ := ilv_some h1
    exact ⟨by simpa using q1, by simp [q2]⟩
theorem i_disp {cl : Cll φ} {E : XK} {es : IE φ} {trs : List (TE × TE)} (p2 : ∀ (σ : L2.St) (H : Hp) (R : List (V × V) → Hp → Prop), (tA C cl E es σ H fun vs H1 => ∀ ps, flatP ps = vs → R ps H1) → tPairs trs σ H R) {σ : L2.St} {H : Hp} {Q : VK} (h : tE C cl E (.dict es .nil) σ H Q) : tDisp trs σ H Q := by
  obtain ⟨F, ι, st, ρ, S, ER, w⟩ := h
  simp only [evE] at w
  intro p hp
  obtain ⟨S2, fp, np⟩ := S.more (o := .dK []) hp
  refine p2 σ _ _ ⟨F, ι, st, ρ, S2, ER, ?_⟩
  revert w
  cases evEs cl es ρ st with
  | err => exact id
  | exc x st1 => exact fun w F1 ι1 H1 c d g1 S1 => w F1 ι1 H1 c d ((Go.more hp).trans g1) S1
  | ok ds st1 =>
    intro w1 F1 ι1 H1 g1 S1 vs r ps e
    obtain ⟨h1p, f1p, n1p⟩ := g1.fr p _ upd_same fp np
    refine ⟨h1p, ?_⟩
    subst e
    simp only [Rs.bind] at w1
    split at w1
    · rename_i kds e2
      split at w1
      · rename_i hz
        obtain ⟨kvs, q1, q2, q3⟩ := pairD_rep r e2
        have lk : kvs.length = kds.length := by have := congrArg List.length q2; simpa using this
        refine ⟨kvs, q1, by omega, ?_⟩
        obtain ⟨q4, q5⟩ := mer_rep (acc := []) (vs := []) q2 q3 .nil
        have hl := (merD_len (kds := kds) (ks := []) (vs := []) rfl).1
        refine w1 F1 ι1 _ (((Go.more hp).trans g1).side hp) (S1.side f1p n1p) (.ref p) ⟨p, rfl, hp, f1p, n1p, mergeK [] kvs, upd_same, q4, ?_, q5⟩
        simp only [List.length_nil] at hl
        rw [sizeLine_eq]; omega
      · exact w1.elim
    · exact w1.elim
theorem ok_dict {ks vs : IE φ} (al : AllOk C L T wf ad n N ks) : Ok C L T wf ad n N (.dict ks vs) := by
  refine .val (fun x h => ?_) (fun _ _ _ _ h => ?_) (fun _ _ h => ?_) (fun _ _ _ h => ?_)
  · simp only [mE] at h
    split at h
    · split at h
      · rename_i keys values pos
        simp only [Bool.and_eq_true, decide_eq_true_eq] at h
        obtain ⟨h1, h2⟩ := h
        refine ⟨?_, fun _ => rfl⟩
        split at h1
        · rename_i l e
          cases keys with
          | nil =>
            cases values with
            | nil =>
              simp only [ilv] at e
              cases e
              cases mEs_nil h1
              exact p_dict0
            | cons _ _ => simp [ilv] at e
          | cons k ks =>
            obtain ⟨trs, p1, p2⟩ := pps_ok (pos := pos) x e h1 al
            obtain ⟨a1, a2⟩ := ilv_some e
            exact PE.imp (pe_disp p1 a1 a2 (fun z => nomatch z) h2) fun σ H Q q => i_disp p2 q
        · cases h1
      · cases h
    · cases h
  · simp only [mE] at h
    split at h <;> cases h
  · simp [mEs] at h
  · simp [mI] at h
theorem ok_mkq {a : IE φ} (ia : Ok C L T wf ad n N a) : Ok C L T wf ad n N (.mkq a) := by
  refine .of (fun x h => ?_) (fun x h h2 => ?_) (fun _ _ _ _ h h2 => ?_) (fun _ _ h => ?_) (fun _ _ _ h => ?_)
  · simp only [mE] at h
    exact p_mkq (ia.e x h)
  · cases h2
  · cases h2
  · simp [mEs] at h
  · simp [mI] at h
theorem ok_mkx {c : Nat} {kw : Bool} {a : IE φ} (ia : Ok C L T wf ad n N a) : Ok C L T wf ad n N (.mkx c kw a) := by
  refine .val (fun x h => ?_) (fun _ _ _ _ h => ?_) (fun _ _ h => ?_) (fun _ _ _ h => ?_)
  · simp only [mE] at h
    split at h
    · simp only [Bool.and_eq_true, decide_eq_true_eq] at h
      obtain ⟨⟨⟨h1, h2⟩, h3⟩, h4⟩ := h
      refine ⟨?_, fun _ => rfl⟩
      split at h4
      · simp only [Bool.and_eq_true, Bool.not_eq_true'] at h4
        obtain ⟨⟨rfl, h5⟩, h6⟩ := h4
        exact p_mkx x h1 h2 h3 h5 (ia.e x h6)
      · simp only [Bool.and_eq_true, decide_eq_true_eq] at h4
        obtain ⟨⟨rfl, h5⟩, h6⟩ := h4
        exact p_mkxK x h1 h2 h5 h3 (ia.e x h6)
      · cases h4
    · cases h
  · simp [mE] at h
  · simp [mEs] at h
  · simp [mI] at h
theorem ok_mkx0 {c : Nat} : Ok C L T wf ad n N (.mkx0 c : IE φ) := by
  refine .val (fun x h => ?_) (fun _ _ _ _ h => ?_) (fun _ _ h => ?_) (fun _ _ _ h => ?_)
  · simp only [mE] at h
    split at h
    · simp only [Bool.and_eq_true, decide_eq_true_eq] at h
      exact ⟨p_mkx0 x h.1.1 h.1.2 h.2, fun _ => rfl⟩
    · cases h
  · simp [mE] at h
  · simp [mEs] at h
  · simp [mI] at h
theorem ok_xattr {c j : Nat} {a : IE φ} (ia : Ok C L T wf ad n N a) : Ok C L T wf ad n N (.xattr c j a) := by
  refine .val (fun x h => ?_) (fun _ _ _ _ h => ?_) (fun _ _ h => ?_) (fun _ _ _ h => ?_)
  · simp only [mE] at h
    split at h
    · simp only [Bool.and_eq_true, decide_eq_true_eq] at h
      obtain ⟨⟨⟨h1, h2⟩, h3⟩, h4⟩ := h
      exact ⟨p_xattr x h1 h2 h3 (ia.e x h4), fun _ => rfl⟩
    · cases h
  · simp [mE] at h
  · simp [mEs] at h
  · simp [mI] at h
theorem ok_isX {m : Nat} {tbl : List Nat} {tup : Bool} {ts : List (Option Nat)} {a : IE φ} (ia : Ok C L T wf ad n N a) : Ok C L T wf ad n N (.isX m tbl tup ts a) := by
  refine .val (fun x h => ?_) (fun _ _ _ _ h => ?_) (fun _ _ h => ?_) (fun _ _ _ h => ?_)
  · simp only [mE] at h
    split at h
    · simp only [Bool.and_eq_true, decide_eq_true_eq] at h
      obtain ⟨⟨⟨⟨⟨rfl, h2⟩, h3⟩, h4⟩, h5⟩, h6⟩ := h
      refine ⟨?_, fun _ => rfl⟩
      split at h6
      · split at h6
        · exact p_isX x h2 h6 h5 h3 (ia.e x h4)
        · cases h6
      · split at h6
        · simp only [Bool.and_eq_true, decide_eq_true_eq] at h6
          exact p_isXT x h2 h6.1 h5 h6.2 h3 (ia.e x h4)
        · cases h6
    · cases h
  · simp [mE] at h
  · simp [mEs] at h
  · simp [mI] at h
theorem ok_fcall {f : φ} {es : IE φ} (ia : Ok C L T wf ad n N es) : Ok C L T wf ad n N (.fcall f es) := by
  refine .val (fun x h => ?_) (fun _ _ _ _ h => ?_) (fun _ _ h => ?_) (fun _ _ _ h => ?_)
  · simp only [mE] at h
    split at h
    · simp only [Bool.and_eq_true, decide_eq_true_eq] at h
      obtain ⟨⟨⟨h1, h2⟩, h3⟩, h4⟩ := h
      obtain ⟨q1, q2, q3, q4⟩ := ia.a x h4
      exact ⟨p_fcall x h1 h2 h3 q2 q3 q1, fun _ => rfl⟩
    · cases h
  · simp [mE] at h
  · simp [mEs] at h
  · simp [mI] at h
theorem ok_fmake {c : Nat} {f : φ} {es : IE φ} (ia : Ok C L T wf ad n N es) : Ok C L T wf ad n N (.fmake c f es) := by
  refine .val (fun x h => ?_) (fun _ _ _ _ h => ?_) (fun _ _ h => ?_) (fun _ _ _ h => ?_)
  · simp only [mE] at h
    split at h
    · simp only [Bool.and_eq_true, decide_eq_true_eq] at h
      obtain ⟨⟨⟨⟨⟨h1, h2⟩, h3⟩, h4⟩, h5⟩, h6⟩ := h
      obtain ⟨q1, q2, q3, q4⟩ := ia.a x h6
      exact ⟨p_fmake x h1 h2 h3 h4 h5 q2 q3 q1, fun _ => rfl⟩
    · cases h
  · simp [mE] at h
  · simp [mEs] at h
  · simp [mI] at h
theorem ok_fmeth {c : Nat} {f : φ} {a es : IE φ} (ib : Ok C L T wf ad n N a) (ia : Ok C L T wf ad n N es) : Ok C L T wf ad n N (.fmeth c f a es) := by
  refine .val (fun x h => ?_) (fun _ _ _ _ h => ?_) (fun _ _ h => ?_) (fun _ _ _ h => ?_)
  · simp only [mE] at h
    split at h
    · simp only [Bool.and_eq_true, decide_eq_true_eq] at h
      obtain ⟨⟨⟨⟨⟨⟨⟨⟨⟨h1, h2⟩, h3⟩, h4⟩, h5⟩, h6⟩, h7⟩, h8⟩, h9⟩, h10⟩ := h
      obtain ⟨q1, q2, q3, q4⟩ := ia.a x h10
      exact ⟨p_fmeth x h1 h2 h3 h4 h5 h6 h7 h8 q2 q3 (ib.e x h9) q1, fun _ => rfl⟩
    · cases h
  · simp [mE] at h
  · simp [mEs] at h
  · simp [mI] at h
theorem ok_lcd {own : List Nat} {t : Tg} {i : Nat} {cond elt : IE φ} (ic : Ok C L T wf ad n N cond) (ie : Ok C L T wf ad n N elt) : Ok C L T wf ad n N (.lcd own t i cond elt) := by
  refine .val (fun x h => ?_) (fun _ _ _ _ h => ?_) (fun _ _ h => ?_) (fun _ _ _ h => ?_)
  · simp only [mE] at h
    split at h
    · rename_i y tg z pz ifs scope pos
      simp only [Bool.and_eq_true] at h
      obtain ⟨⟨⟨⟨⟨⟨h1, h2⟩, h3⟩, h4⟩, h5⟩, h6⟩, h7⟩ := h
      obtain ⟨o1, o2⟩ := own_ok h4
      refine ⟨?_, fun _ => rfl⟩
      have := p_lcd x (cl := callN T wf n) (own := ownL N own) (t := t) (i := i) (cond := cond) (elt := elt) (eelt := y) (tg := tg) (ifs := ifs) (scope := scope) (pos := pos) (ip := pz) h1 h2 h3 (by rw [o1]; exact o2)
        (fun s H c cls fp => g_ok (x.blk scope s H c cls fp) h5) (fun s H c cls fp => ifs_ok ic (x.blk scope s H c cls fp) h6) (fun s H c cls fp => ie.e (x.blk scope s H c cls fp) h7)
      rw [o1] at this
      exact this
    · cases h
  · simp [mE] at h
  · simp [mEs] at h
  · simp [mI] at h
/-- every expression of the small language says what the text does -/
theorem all_ok (ir : IE φ) : Ok C L T wf ad n N ir ∧ AllOk C L T wf ad n N ir := by
  have nv : ∀ {ir : IE φ}, (∀ sc e, mE L N sc ir e = true → False) → (∀ sc es, mEs L N sc ir es = true → False) → (∀ sc tg e, mI L N sc ir tg e = true → False) → Ok C L T wf ad n N ir := fun a b c => .never a b c
  induction ir with
  | nil => exact ⟨ok_nil, trivial⟩
  | cons a r ia ir => exact ⟨ok_cons ia.1 ir.1, ia.1, ir.2⟩
  | var i => exact ⟨ok_var i, trivial⟩
  | snap i => exact ⟨ok_snap i, trivial⟩
  | non => exact ⟨ok_non, trivial⟩
  | bl b => exact ⟨ok_bl b, trivial⟩
  | int i => exact ⟨ok_int i, trivial⟩
  | str s => exact ⟨ok_str s, trivial⟩
  | bin op a b ia ib => exact ⟨ok_bin ia.1 ib.1, trivial⟩
  | neg a ia => exact ⟨ok_neg ia.1, trivial⟩
  | cmp op a b ia ib => exact ⟨ok_cmp ia.1 ib.1, trivial⟩
  | chain op op' a b c ia ib ic => exact ⟨ok_chain ia.1 ib.1 ic.1, trivial⟩
  | isN a ia => exact ⟨ok_isN ia.1, trivial⟩
  | notN a ia => exact ⟨ok_notN ia.1, trivial⟩
  | isB b a ia => exact ⟨ok_isB ia.1, trivial⟩
  | notB b a ia => exact ⟨ok_notB ia.1, trivial⟩
  | isI k a ia => exact ⟨ok_isI ia.1, trivial⟩
  | and a b ia ib => exact ⟨ok_and ia.1 ib.1, trivial⟩
  | or a b ia ib => exact ⟨ok_or ia.1 ib.1, trivial⟩
  | one a ia => exact ⟨ok_one ia.1, trivial⟩
  | not a ia => exact ⟨ok_not ia.1, trivial⟩
  | ife c a b ic ia ib => exact ⟨ok_ife ic.1 ia.1 ib.1, trivial⟩
  | list es ia => exact ⟨ok_list ia.1, trivial⟩
  | tup es ia => exact ⟨ok_tup ia.1, trivial⟩
  | dict ks vs ik _ => exact ⟨ok_dict ik.2, trivial⟩
  | mkq a ia => exact ⟨ok_mkq ia.1, trivial⟩
  | lcd own t i cond elt ic ie => exact ⟨ok_lcd ic.1 ie.1, trivial⟩
  | mkx c kw a ia => exact ⟨ok_mkx ia.1, trivial⟩
  | mkx0 c => exact ⟨ok_mkx0, trivial⟩
  | xattr c j a ia => exact ⟨ok_xattr ia.1, trivial⟩
  | isX m tbl tup ts a ia => exact ⟨ok_isX ia.1, trivial⟩
  | fcall f es ia => exact ⟨ok_fcall ia.1, trivial⟩
  | isXn m ts a ia => exact ⟨ok_isXn ia.1, trivial⟩
  | dpop a k ia ik => exact ⟨ok_dpop ia.1 ik.1, trivial⟩
  | fmeth c f a es ia ib => exact ⟨ok_fmeth ia.1 ib.1, trivial⟩
  | fmake c f es ia => exact ⟨ok_fmake ia.1, trivial⟩
  | mk a ia => exact ⟨ok_mk ia.1, trivial⟩
  | frz a ia => exact ⟨ok_frz ia.1, trivial⟩
  | idx a i ia ii => exact ⟨ok_idx ia.1 ii.1, trivial⟩
  | slice a lo hi ia il ih => exact ⟨ok_slice ia.1 il.1 ih.1, trivial⟩
  | back a ia => exact ⟨ok_back ia.1, trivial⟩
  | step2 a _ => exact ⟨nv (fun _ _ h => by simp [mE] at h) (fun _ _ h => by simp [mEs] at h) (fun _ _ _ h => by simp [mI] at h), trivial⟩
  | step2f a _ => exact ⟨nv (fun _ _ h => by simp [mE] at h) (fun _ _ h => by simp [mEs] at h) (fun _ _ _ h => by simp [mI] at h), trivial⟩
  | call f es ia => exact ⟨ok_call ia.1, trivial⟩
  | make c f fz es ia => exact ⟨ok_make ia.1, trivial⟩
  | meth c f a es ia ib => exact ⟨ok_meth ia.1 ib.1, trivial⟩
  | attr c j a ia => exact ⟨ok_attr ia.1, trivial⟩
  | bi b es ia => exact ⟨ok_bi ia.1 ia.2, trivial⟩
  | lm m a es ia ib => exact ⟨ok_lm ia.1 ib.1, trivial⟩
  | lc own t it cond elt ii ic ie => exact ⟨ok_lc ii.1 ic.1 ie.1, trivial⟩
  | dc own t it cond k v ii ic ik iv => exact ⟨ok_dc ii.1 ic.1 ik.1 iv.1, trivial⟩
  | none => exact ⟨nv (fun _ _ h => by simp [mE] at h) (fun _ _ h => by simp [mEs] at h) (fun _ _ _ h => by simp [mI] at h), trivial⟩
end
end Fd

set_option Elab.async false
set_option linter.all false
set_option maxHeartbeats 1000000
namespace Fd
open PySem L2
variable {φ : Type}
def fnK (sc : Scope) : Bool := match sc.kind with | .function => true | _ => false
def compS : Expr → Option Scope
  | .ListComp _ _ s _ => some s
  | .SetComp _ _ s _ => some s
  | .DictComp _ _ _ s _ => some s
  | _ => none
def swV (sc : Scope) (tg e : Expr) : Bool := match compS e with
  | none => false
  | some s => match tg with
    | .Name t pos => sc.names.lookup t == some .local && pos.line == e.pos.line && !(s.names.any fun (n, k) => n == t && (k == .local || k == .cell))
    | _ => false
def sw3 (sc : Scope) (ts vs : List Expr) : Option (Option (List Str)) :=
    if (!(ts.length == 2 || ts.length == 3) || vs.length != ts.length) = true then some none else
    if (vs.any fun | .Starred .. => true | _ => false) = true then some none else
    let line := (ts.head?.map (·.pos.line)).getD 0
    let names := ts.filterMap fun
      | .Name id pos => if (sc.names.lookup id == some .local && pos.line == line) = true then some id else none
      | _ => none
    if (names.length != ts.length || names.eraseDups.length != names.length) = true then some none else
    if vs.all (foldedForSure 8) = true then some none else
    if vs.all (constantsAlone 8) = true then none else some (some names)
def swSt (sc : Scope) (tg e : Expr) : Option (Option (List Str)) := match tg with
  | .Tuple ts _ _ => match e with
    | .Tuple vs _ _ => sw3 sc ts vs
    | _ => some none
  | .List .. => none
  | _ => some none
theorem sw3_ok {env : Env} {ts vs : List Expr} {a b : Nat} {p q : Pos} {r : Option (List Str)} (hb : env.blockKind = .function) (h : sw3 env.scope ts vs = some r) : swappedStores [.Tuple ts a p] (.Tuple vs b q) env = pure r := by
  unfold sw3 at h
  unfold swappedStores
  dsimp only
  rw [hb]
  split at h
  · rename_i c
    rw [if_pos (by rw [Bool.or_eq_true]; exact .inl c)]
    cases h
    rfl
  · rename_i c
    rw [if_neg (by rw [Bool.or_eq_true]; rintro (c2 | c2); exact c c2; exact absurd c2 (by decide))]
    split at h
    · rename_i c2
      refine (if_pos c2).trans ?_
      cases h
      rfl
    · rename_i c2
      refine (if_neg c2).trans ?_
      dsimp only at h
      split at h
      · rename_i c3
        refine (if_pos c3).trans ?_
        cases h
        rfl
      · rename_i c3
        refine (if_neg c3).trans ?_
        split at h
        · rename_i c4
          refine (if_pos c4).trans ?_
          cases h
          rfl
        · rename_i c4
          refine (if_neg c4).trans ?_
          split at h
          · cases h
          · rename_i c5
            refine (if_neg c5).trans ?_
            cases h
            rfl
theorem swSt_ok {env : Env} {sc : Scope} {tg e : Expr} {r : Option (List Str)} (hs : env.scope = sc) (hk : env.scope.kind = .function) (h : swSt sc tg e = some r) : swappedStores [tg] e env = pure r := by
  subst hs
  have hb : env.blockKind = .function := by unfold Env.blockKind; rw [hk]; rfl
  unfold swSt at h
  split at h
  · split at h
    · exact sw3_ok hb h
    · rename_i e1
      cases h
      cases e <;> first | rfl | exact absurd rfl (e1 _ _ _)
  · cases h
  · rename_i e1 e2
    cases h
    cases tg <;> first | rfl | exact absurd rfl (e1 _ _ _) | exact absurd rfl (e2 _ _)
theorem sw_ok {env : Env} {sc : Scope} {tg e : Expr} {l : Nat} (hs : env.scope = sc) (hk : env.scope.kind = .function) : swapsWith e (some tg) l env = pure (swV sc tg e) := by
  subst hs
  have hb : (env.blockKind == .function) = true := by unfold Env.blockKind; rw [hk]; rfl
  have k : ∀ (s : Scope) (t : Str) (p : Pos) (b : Nat), (pure (env.blockKind == .function && env.kindOf t == some .local && p.line == b && !(s.names.any fun (n, k) => n == t && (k == .local || k == .cell))) : Sem Bool) =
      pure (env.scope.names.lookup t == some .local && p.line == b && !(s.names.any fun (n, k) => n == t && (k == .local || k == .cell))) := fun s t p b => by
    rw [hb, Bool.true_and]
    rfl
  cases e with
  | ListComp x g s p =>
    cases tg with
    | Name t q => exact k s t q p.line
    | _ => rfl
  | SetComp x g s p =>
    cases tg with
    | Name t q => exact k s t q p.line
    | _ => rfl
  | DictComp x y g s p =>
    cases tg with
    | Name t q => exact k s t q p.line
    | _ => rfl
  | _ => rfl
theorem sw_none {env : Env} {e : Expr} {l : Nat} (h : compS e = none) : swapsWith e none l env = pure false := by
  cases e <;> first | rfl | cases h
end Fd

set_option Elab.async false
set_option linter.all false
set_option maxHeartbeats 1000000
namespace Fd
open PySem L2
variable {φ : Type}
section
variable (L : Lk φ) (N : List Str)
def swC (t : Tg) (a : IE φ) : Bool := match t, a with
  | .nm _, .lc .. => true
  | .nm _, .mk (.lc ..) => true
  | .nm _, .dc .. => true
  | .nm _, .mk (.dc ..) => true
  | _, _ => false
mutual
def mS (sc : Scope) : IS φ → Stmt → Bool
  | .pass, e => match e with
    | .Pass _ => true
    | _ => false
  | .expr a, e => match e with
    | .Expr v _ => (compS v).isNone && mE L N sc a v
    | _ => false
  | .asg t a, e => match e with
    | .Assign [tg] v _ => mE L N sc a v && gB N (fun _ => true) sc t tg && starB tg && (if swV sc tg v then swC t a else decide (swSt sc tg v = some none))
    | _ => false
  | .par is es, e => match e with
    | .Assign [.Tuple ts _ _] (.Tuple vs _ _) _ => mEs L N sc es vs && (match is, ts, vs with
      | [i, j], [.Name y py, .Name z pz], [_, _] => nmB N i y && nmB N j z && decide (i ≠ j) && decide (sc.names.lookup y = some .local) && decide (sc.names.lookup z = some .local) && decide (swSt sc (.Tuple ts 0 ⟨0, 0, 0, 0⟩) (.Tuple vs 0 ⟨0, 0, 0, 0⟩) = some (some [y, z]))
      | [i, j, k], [.Name y py, .Name z pz, .Name u pu], [_, _, _] => nmB N i y && nmB N j z && nmB N k u && decide (i ≠ j) && decide (i ≠ k) && decide (j ≠ k) && decide (sc.names.lookup y = some .local) && decide (sc.names.lookup z = some .local) && decide (sc.names.lookup u = some .local) && decide (swSt sc (.Tuple ts 0 ⟨0, 0, 0, 0⟩) (.Tuple vs 0 ⟨0, 0, 0, 0⟩) = some (some [y, z, u]))
      | _, _, _ => false)
    | _ => false
  | .asgSub a i v, e => match e with
    | .Assign [.Subscript ea ei _] ev _ => sliceB ei && mE L N sc a ea && mE L N sc i ei && mE L N sc v ev
    | _ => false
  | .asgSub2 a i b j v, e => match e with
    | .Assign [.Tuple [.Subscript ea ei p, .Subscript eb ej p'] k p''] ev _ => sliceB ei && sliceB ej && mE L N sc a ea && mE L N sc i ei && mE L N sc b eb && mE L N sc j ej && mE L N sc v ev && decide (swSt sc (.Tuple [.Subscript ea ei p, .Subscript eb ej p'] k p'') ev = some none)
    | _ => false
  | .asgAttr c j a v, e => match e with
    | .Assign [.Attribute o f _] ev _ => decide ((L.fl c)[j]? = some f) && mE L N sc a o && mE L N sc v ev
    | _ => false
  | .ret a, e => match e with
    | .Return (some v) _ => mE L N sc a v
    | _ => false
  | .retN, e => match e with
    | .Return none _ => true
    | _ => false
  | .ife c a b, e => match e with
    | .If t x y _ => tstB c && mE L N sc c t && mSs sc a x && mSs sc b y
    | _ => false
  | .for_ t it b, e => match e with
    | .For tg iter body [] _ => setB iter && mI L N sc it tg iter && gB N (fun _ => true) sc t tg && mSs sc b body
    | _ => false
  | .while_ c b, e => match e with
    | .While t body [] _ => tstB c && mE L N sc c t && mSs sc b body
    | _ => false
  | .tryX c k i j ks, e => match e with
    | .Try [.Raise (some (.Call (.Name y _) [.Name x0 _] [] _)) none _] [.ExceptHandler (some (.Name bn _)) (some nm) [.Assign [.Name m _] (.Call (.Name g _) [.Name nm2 _] [] _) _] _] [] [] _ =>
      L.xin c && decide (L.cnm c = y) && glB sc y && nmB N k x0 && visB sc x0 && glB sc bn && ((L.xmro c).any fun b => xcB L b && decide (L.cnm b = bn)) && nmB N i nm && decide (sc.names.lookup nm = some .local) && visB sc nm && decide (nm2 = nm) &&
        nmB N j m && decide (sc.names.lookup m = some .local) && decide (i ≠ j) && glB sc g && decide (ks.length ≤ 1000) && (match L.kin with
        | some (g', ts) => decide (g' = g) && decide (ks = idxF 0 (ts.flatten.map fun t => xmB L c (some t)))
        | none => false)
    | _ => false
  | .never, _ => true
  | .nil, _ => false
  | .cons .., _ => false
def mSs (sc : Scope) : IS φ → List Stmt → Bool
  | .nil, es => es.isEmpty
  | .cons s r, es => match es with
    | e :: es => mS sc s e && mSs sc r es
    | [] => false
  | _, _ => false
end
end
end Fd

set_option Elab.async false
set_option linter.all false
set_option maxHeartbeats 1000000
namespace Fd
open PySem L2
variable {φ : Type}
section
variable {C : Gx} {L : Lk φ} {T : φ → Fn φ} {wf : Nat} {ad : φ → Addr} {n : Nat} {N : List Str}
structure BodyOk (X : Cx) : Prop where
  fn : X.fn = fun _ => true
  st : X.stack = X.env :: X.outer
  fr : X.env.frame = some X.env.locals
structure OkS (C : Gx) (L : Lk φ) (T : φ → Fn φ) (wf : Nat) (ad : φ → Addr) (n : Nat) (N : List Str) (ir : IS φ) : Prop where
  s : ∀ {sc : Scope} {E : XK} {X : Cx} {e : Stmt}, XOk C L T wf ad n N sc E X → sc.kind = .function → BodyOk X → mS L N sc ir e = true → PS X e (tS C (callN T wf n) wf E ir)
  ss : ∀ {sc : Scope} {E : XK} {X : Cx} {es : List Stmt}, XOk C L T wf ad n N sc E X → sc.kind = .function → BodyOk X → mSs L N sc ir es = true → PSs X es (tS C (callN T wf n) wf E ir)
theorem swSt_pos {sc : Scope} {ts vs : List Expr} {a b c d : Nat} {p q r s : Pos} : swSt sc (.Tuple ts a p) (.Tuple vs b q) = swSt sc (.Tuple ts c r) (.Tuple vs d s) := rfl
theorem oks_asg {t : Tg} {a : IE φ} {sc : Scope} {E : XK} {X : Cx} {e : Stmt} (x : XOk C L T wf ad n N sc E X) (hk : sc.kind = .function) (hf : BodyOk X) (h : mS L N sc (.asg t a) e = true) : PS X e (tS C (callN T wf n) wf E (.asg t a)) := by
  have hk' : X.env.scope.kind = .function := by rw [x.scp]; exact hk
  simp only [mS] at h
  split at h
  · rename_i tg v pos
    simp only [Bool.and_eq_true] at h
    obtain ⟨⟨⟨h1, h2⟩, h3⟩, h4⟩ := h
    have sw : swapsWith v (some tg) pos.line X.env = pure (swV sc tg v) := sw_ok x.scp hk'
    split at h4
    · rename_i c
      rw [c] at sw
      have comp : ∀ {own : List Nat} {t2 : Tg} {it cond elt : IE φ} {i : Nat} {mk : Bool}, t = .nm i → mE L N sc (.lc own t2 it cond elt) v = true → PS X (.Assign [tg] v pos) (tS C (callN T wf n) wf E (.asg (.nm i) (if mk then .mk (.lc own t2 it cond elt) else .lc own t2 it cond elt))) := fun {own t2 it cond elt i mk} et h => by
        subst et
        simp only [mE] at h
        split at h
        · rename_i y tg2 iter ifs scope p2
          simp only [Bool.and_eq_true] at h
          obtain ⟨⟨⟨⟨⟨⟨k1, k2⟩, k3⟩, k4⟩, k5⟩, k6⟩, k7⟩ := h
          obtain ⟨o1, o2⟩ := own_ok k2
          simp only [gB] at h2
          split at h2
          · rename_i z pz
            simp only [Bool.and_eq_true] at h2
            have loc : sc.names.lookup z = some .local := by
              simp only [swV, compS, Bool.and_eq_true, beq_iff_eq] at c
              exact c.1.1
            cases mk with
            | false =>
              have := s_setLc x (wf := wf) (cl := callN T wf n) (own := ownL N own) (t := t2) (it := it) (cond := cond) (elt := elt) h2.1.1 loc sw ((all_ok it).1.i x k4) k1 (by rw [o1]; exact o2)
                (fun s H c cls fp => g_ok (x.blk scope s H c cls fp) k5) (fun s H c cls fp => ifs_ok (all_ok cond).1 (x.blk scope s H c cls fp) k6) (fun s H c cls fp => (all_ok elt).1.e (x.blk scope s H c cls fp) k7) (set_pure k3)
              rw [o1] at this
              exact this
            | true =>
              have := s_setLcM x (wf := wf) (cl := callN T wf n) (own := ownL N own) (t := t2) (it := it) (cond := cond) (elt := elt) h2.1.1 loc sw ((all_ok it).1.i x k4) k1 (by rw [o1]; exact o2)
                (fun s H c cls fp => g_ok (x.blk scope s H c cls fp) k5) (fun s H c cls fp => ifs_ok (all_ok cond).1 (x.blk scope s H c cls fp) k6) (fun s H c cls fp => (all_ok elt).1.e (x.blk scope s H c cls fp) k7) (set_pure k3)
              rw [o1] at this
              exact this
          · cases h2
        · cases h
      have compD : ∀ {own : List Nat} {t2 : Tg} {it cond ke ve : IE φ} {i : Nat} {mk : Bool}, t = .nm i → mE L N sc (.dc own t2 it cond ke ve) v = true → PS X (.Assign [tg] v pos) (tS C (callN T wf n) wf E (.asg (.nm i) (if mk then .mk (.dc own t2 it cond ke ve) else .dc own t2 it cond ke ve))) := fun {own t2 it cond ke ve i mk} et h => by
        subst et
        simp only [mE] at h
        split at h
        · rename_i kx vx tg2 iter ifs scope p2
          simp only [Bool.and_eq_true] at h
          obtain ⟨⟨⟨⟨⟨⟨⟨k1, k2⟩, k3⟩, k4⟩, k5⟩, k6⟩, k7⟩, k8⟩ := h
          obtain ⟨o1, o2⟩ := own_ok k2
          simp only [gB] at h2
          split at h2
          · rename_i z pz
            simp only [Bool.and_eq_true] at h2
            have loc : sc.names.lookup z = some .local := by
              simp only [swV, compS, Bool.and_eq_true, beq_iff_eq] at c
              exact c.1.1
            have := s_setDc x (wf := wf) (mk := mk) (cl := callN T wf n) (own := ownL N own) (t := t2) (it := it) (cond := cond) (ke := ke) (ve := ve) h2.1.1 loc sw ((all_ok it).1.i x k4) k1 (by rw [o1]; exact o2)
              (fun s H c cls fp => g_ok (x.blk scope s H c cls fp) k5) (fun s H c cls fp => ifs_ok (all_ok cond).1 (x.blk scope s H c cls fp) k6) (fun s H c cls fp => (all_ok ke).1.e (x.blk scope s H c cls fp) k7) (fun s H c cls fp => (all_ok ve).1.e (x.blk scope s H c cls fp) k8) (set_pure k3)
            rw [o1] at this
            exact this
          · cases h2
        · cases h
      unfold swC at h4
      split at h4
      · exact comp (mk := false) rfl h1
      · exact comp (mk := true) rfl (by simpa only [mE] using h1)
      · exact compD (mk := false) rfl h1
      · exact compD (mk := true) rfl (by simpa only [mE] using h1)
      · cases h4
    · rename_i c
      rw [Bool.not_eq_true] at c
      rw [c] at sw
      exact s_asg ((all_ok a).1.e x h1) (g_ok x (by rw [hf.fn]; exact h2)) sw (swSt_ok x.scp hk' (of_decide_eq_true h4)) h3
  · cases h
theorem oks_par {is : List Nat} {es : IE φ} {sc : Scope} {E : XK} {X : Cx} {e : Stmt} (x : XOk C L T wf ad n N sc E X) (hk : sc.kind = .function) (h : mS L N sc (.par is es) e = true) : PS X e (tS C (callN T wf n) wf E (.par is es)) := by
  have hk' : X.env.scope.kind = .function := by rw [x.scp]; exact hk
  simp only [mS] at h
  split at h
  · rename_i ts k1 p1 vs k2 p2 pos
    simp only [Bool.and_eq_true] at h
    obtain ⟨h1, h2⟩ := h
    obtain ⟨q1, q2, q3, q4⟩ := (all_ok es).1.a x h1
    split at h2
    · simp only [Bool.and_eq_true, decide_eq_true_eq] at h2
      obtain ⟨⟨⟨⟨⟨k1, k2⟩, k3⟩, k4⟩, k5⟩, k6⟩ := h2
      exact s_par2 x k1 k2 k3 q4 k4 k5 q1 (swSt_ok x.scp hk' (swSt_pos.trans k6))
    · simp only [Bool.and_eq_true, decide_eq_true_eq] at h2
      obtain ⟨⟨⟨⟨⟨⟨⟨⟨⟨k1, k2⟩, k3⟩, k4⟩, k5⟩, k6⟩, k7⟩, k8⟩, k9⟩, k10⟩ := h2
      exact s_par3 x k1 k2 k3 k4 k5 k6 q4 k7 k8 k9 q1 (swSt_ok x.scp hk' (swSt_pos.trans k10))
    · cases h2
  · cases h
end
end Fd

set_option Elab.async false
set_option linter.all false
set_option maxHeartbeats 1000000
namespace Fd
open PySem L2
variable {φ : Type}
section
variable {C : Gx} {L : Lk φ} {T : φ → Fn φ} {wf : Nat} {ad : φ → Addr} {n : Nat} {N : List Str}
theorem all_oks (ir : IS φ) : OkS C L T wf ad n N ir := by
  have one : ∀ {ir : IS φ}, (∀ {sc : Scope} {E : XK} {X : Cx} {e : Stmt}, XOk C L T wf ad n N sc E X → sc.kind = .function → BodyOk X → mS L N sc ir e = true → PS X e (tS C (callN T wf n) wf E ir)) → (∀ sc es, mSs L N sc ir es = true → False) → OkS C L T wf ad n N ir :=
    fun h1 h2 => ⟨h1, fun _ _ _ h => (h2 _ _ h).elim⟩
  induction ir with
  | nil =>
    refine ⟨fun _ _ _ h => by simp [mS] at h, fun x hk hf h => ?_⟩
    simp only [mSs, List.isEmpty_iff] at h
    subst h
    exact s_nil
  | cons s r is ir =>
    refine ⟨fun _ _ _ h => by simp [mS] at h, fun x hk hf h => ?_⟩
    simp only [mSs] at h
    split at h
    · simp only [Bool.and_eq_true] at h
      exact s_cons (is.s x hk hf h.1) (ir.ss x hk hf h.2)
    · cases h
  | pass =>
    refine one (fun x hk hf h => ?_) (fun _ _ h => by simp [mSs] at h)
    simp only [mS] at h
    split at h
    · exact s_pass
    · cases h
  | expr a =>
    refine one (fun x hk hf h => ?_) (fun _ _ h => by simp [mSs] at h)
    simp only [mS] at h
    split at h
    · simp only [Bool.and_eq_true, Option.isNone_iff_eq_none] at h
      exact s_expr ((all_ok a).1.e x h.2) (sw_none h.1)
    · cases h
  | asg t a => exact one (fun x hk hf h => oks_asg x hk hf h) (fun _ _ h => by simp [mSs] at h)
  | par is es => exact one (fun x hk hf h => oks_par x hk h) (fun _ _ h => by simp [mSs] at h)
  | asgSub a i v =>
    refine one (fun {sc E X e} x hk hf h => ?_) (fun _ _ h => by simp [mSs] at h)
    have hk' : X.env.scope.kind = .function := by rw [x.scp]; exact hk
    simp only [mS] at h
    split at h
    · rename_i ea ei p ev pos
      simp only [Bool.and_eq_true] at h
      obtain ⟨⟨⟨h1, h2⟩, h3⟩, h4⟩ := h
      have sw : swapsWith ev (some (.Subscript ea ei p)) pos.line X.env = pure false := by
        rw [sw_ok x.scp hk']
        unfold swV
        cases compS ev <;> rfl
      exact s_sub x ((all_ok a).1.e x h2) ((all_ok i).1.e x h3) ((all_ok v).1.e x h4) sw h1
    · cases h
  | asgSub2 a i b j v =>
    refine one (fun {sc E X e} x hk hf h => ?_) (fun _ _ h => by simp [mSs] at h)
    have hk' : X.env.scope.kind = .function := by rw [x.scp]; exact hk
    simp only [mS] at h
    split at h
    · rename_i ea ei p eb ej p' k p'' ev pos
      simp only [Bool.and_eq_true, decide_eq_true_eq] at h
      obtain ⟨⟨⟨⟨⟨⟨⟨h1, h2⟩, h3⟩, h4⟩, h5⟩, h6⟩, h7⟩, h8⟩ := h
      have sw : swapsWith ev (some (.Tuple [.Subscript ea ei p, .Subscript eb ej p'] k p'')) pos.line X.env = pure false := by
        rw [sw_ok x.scp hk']
        unfold swV
        cases compS ev <;> rfl
      exact s_sub2 x ((all_ok a).1.e x h3) ((all_ok i).1.e x h4) ((all_ok b).1.e x h5) ((all_ok j).1.e x h6) ((all_ok v).1.e x h7) sw (swSt_ok x.scp hk' h8) h1 h2
    · cases h
  | asgAttr c j a v =>
    refine one (fun {sc E X e} x hk hf h => ?_) (fun _ _ h => by simp [mSs] at h)
    have hk' : X.env.scope.kind = .function := by rw [x.scp]; exact hk
    simp only [mS] at h
    split at h
    · rename_i o f p ev pos
      simp only [Bool.and_eq_true, decide_eq_true_eq] at h
      obtain ⟨⟨h1, h2⟩, h3⟩ := h
      have sw : swapsWith ev (some (.Attribute o f p)) pos.line X.env = pure false := by
        rw [sw_ok x.scp hk']
        unfold swV
        cases compS ev <;> rfl
      exact s_fld x h1 ((all_ok a).1.e x h2) ((all_ok v).1.e x h3) sw
    · cases h
  | ret a =>
    refine one (fun x hk hf h => ?_) (fun _ _ h => by simp [mSs] at h)
    simp only [mS] at h
    split at h
    · exact s_ret ((all_ok a).1.e x h)
    · cases h
  | retN =>
    refine one (fun x hk hf h => ?_) (fun _ _ h => by simp [mSs] at h)
    simp only [mS] at h
    split at h
    · exact s_retN
    · cases h
  | ife c a b ia ib =>
    refine one (fun x hk hf h => ?_) (fun _ _ h => by simp [mSs] at h)
    simp only [mS] at h
    split at h
    · simp only [Bool.and_eq_true] at h
      obtain ⟨⟨⟨h1, h2⟩, h3⟩, h4⟩ := h
      exact s_if ((all_ok c).1.t x h2 h1) (ia.ss x hk hf h3) (ib.ss x hk hf h4)
    · cases h
  | for_ t it b ib =>
    refine one (fun x hk hf h => ?_) (fun _ _ h => by simp [mSs] at h)
    simp only [mS] at h
    split at h
    · simp only [Bool.and_eq_true] at h
      obtain ⟨⟨⟨h1, h2⟩, h3⟩, h4⟩ := h
      exact s_for x ((all_ok it).1.i x h2) (g_ok x (by rw [hf.fn]; exact h3)) (ib.ss x hk hf h4) (set_pure h1)
    · cases h
  | while_ c b ib =>
    refine one (fun x hk hf h => ?_) (fun _ _ h => by simp [mSs] at h)
    simp only [mS] at h
    split at h
    · simp only [Bool.and_eq_true] at h
      obtain ⟨⟨h1, h2⟩, h3⟩ := h
      exact s_while x ((all_ok c).1.t x h2 h1) (ib.ss x hk hf h3)
    · cases h
  | tryX c k i j ks =>
    refine one (fun x hk hf h => ?_) (fun _ _ h => by simp [mSs] at h)
    simp only [mS] at h
    split at h
    · simp only [Bool.and_eq_true, decide_eq_true_eq] at h
      obtain ⟨⟨⟨⟨⟨⟨⟨⟨⟨⟨⟨⟨⟨⟨⟨⟨h1, h2⟩, h3⟩, h4⟩, h5⟩, h6⟩, h7⟩, h8⟩, h9⟩, h10⟩, rfl⟩, h12⟩, h13⟩, h14⟩, h15⟩, h16⟩, h17⟩ := h
      obtain ⟨b, hb, h7⟩ := List.any_eq_true.mp h7
      simp only [Bool.and_eq_true, decide_eq_true_eq] at h7
      split at h17
      · rename_i g' ts hkin
        simp only [Bool.and_eq_true, decide_eq_true_eq] at h17
        obtain ⟨rfl, h17⟩ := h17
        exact s_tryX x hf.st hf.fr h1 h2 h3 h4 h5 h7.1 h7.2 h6 hb h8 h9 h10 h12 h13 h14 hkin h15 h17 h16
      · cases h17
    · cases h
  | never => exact one (fun x hk hf h => s_never) (fun _ _ h => by simp [mSs] at h)
end
end Fd

set_option Elab.async false
set_option linter.all false
set_option maxHeartbeats 1000000
namespace Fd
open PySem L2
variable {φ : Type}
section
variable {C : Gx} {L : Lk φ} {T : φ → Fn φ} {wf : Nat} {ad : φ → Addr} {n : Nat} {N : List Str}
/-! ### every linked def keeps its promise -/
structure FnD (C : Gx) (L : Lk φ) (T : φ → Fn φ) (f : φ) (a : Addr) (fd : FuncData) (ps : List Str) : Prop where
  ex : ∃ (name qual : Str) (params : Arguments) (body : List Stmt) (scope : Scope) (dV kV doc pm cdv ct oc : Value) (an od : Option Addr) (osl : Array (Option Value)), fd = PySem.W.fnOf name qual params body scope dV kV doc pm an cdv ct ∧
    C.K.lookup a = some ⟨oc, od, .func (PySem.W.fnOf name qual params body scope dV kV doc pm an cdv ct), osl⟩ ∧ PySem.W.codeIn C.K cdv qual = true ∧ FnScope (T f).N ps scope ∧
    Binds C.K (PySem.W.fnOf name qual params body scope dV kV doc pm an cdv ct) ps [] ∧ ps.length = (T f).np ∧ mSs L (T f).N scope (T f).body body = true
theorem start_env {F : Hp} {ι : List Addr} : ∀ {vs : List V} {ds : List D} {N : List Str}, RepL C F ι vs ds → EnvR C F ι (startR N.length ds) (start N vs) := by
  intro vs ds N r
  unfold startR L2.start
  have hl := r.length
  refine ⟨by simp [hl], fun i d e => ?_⟩
  by_cases c : i < ds.length
  · rw [List.getElem?_append_left (by rw [List.length_map]; exact c)] at e
    rw [List.getElem?_append_left (by rw [List.length_map, hl]; exact c)]
    rw [List.getElem?_map] at e
    cases e2 : ds[i]? with
    | none => rw [e2] at e; cases e
    | some d' =>
      rw [e2] at e
      cases e
      obtain ⟨v, h1, h2⟩ := r.get e2
      refine ⟨v, ?_, h2⟩
      rw [List.getElem?_map, h1]
      rfl
  · rw [List.getElem?_append_right (by simpa using c)] at e
    have := List.mem_of_getElem? e
    rw [List.mem_replicate] at this
    cases this.2
theorem fn_step {P : Program} {w : World} {mg : Str → Option Value} {base : Heap} (tx : Tx C L mg ad) {n : Nat} (ih : ∀ f, L.on f = true → FnAt C T wf P w mg base n f (ad f)) {f : φ} {a : Addr} {fd : FuncData} {ps : List Str} (F : FnD C L T f a fd ps) :
    FnOk P w C.K mg base (L2.CX P w) (2 * (n + 1) + 1) a fd ps (spN C T wf (n + 1) f) := by
  obtain ⟨name, qual, params, body, scope, dV, kV, doc, pm, cdv, ct, oc, an, od, osl, rfl, lk, hcd, S, hb, hnp, hm⟩ := F.ex
  refine fn_of (k := 2 * n + 2) lk hcd S (fun vs H Q E h => by rw [hnp]; exact h.1) fun A outer s H vs Q E hr hsp => ?_
  refine ⟨tS C (callN T wf n) wf E (T f).body, (all_oks _).ss (sc := scope) ⟨rfl, rfl, S.nd, rfl, rfl, hr, takes_of rfl rfl rfl rfl, passes_of rfl, tx, ih⟩ S.kind ⟨rfl, rfl, rfl⟩ hm, ?_⟩
  obtain ⟨hl, F, ι, st, ds, S', rl, w⟩ := hsp
  unfold callN at w
  have hd : ds.length = (T f).np := by rw [← rl.length]; exact hl
  rw [if_pos hd] at w
  refine ⟨F, ι, st, _, S', start_env rl, ?_⟩
  revert w
  cases exS (callN T wf n) wf (T f).body (startR (T f).N.length ds) st with
  | next ρ' st' => exact fun w F' ι' H' σ' g S2 ER => w F' ι' H' g S2 _ .non
  | ret w' st' => exact fun w F' ι' H' v g S2 r => w F' ι' H' g S2 v r
  | exc e ρ' st' => exact fun w => w
  | err => exact fun w => w
theorem FnD.binds {f : φ} {a : Addr} {fd : FuncData} {ps : List Str} (F : FnD C L T f a fd ps) : Binds C.K fd ps [] ∧ ps.length = (T f).np := by
  obtain ⟨name, qual, params, body, scope, dV, kV, doc, pm, cdv, ct, oc, an, od, osl, rfl, lk, hcd, S, hb, hnp, hm⟩ := F.ex
  exact ⟨hb, hnp⟩
theorem fn_all {P : Program} {w : World} {mg : Str → Option Value} {base : Heap} (tx : Tx C L mg ad) (hf : ∀ f, L.on f = true → ∃ fd ps, FnD C L T f (ad f) fd ps) : ∀ n f, L.on f = true → FnAt C T wf P w mg base n f (ad f)
  | 0, f, h => by
    obtain ⟨fd, ps, F⟩ := hf f h
    obtain ⟨hb, hnp⟩ := F.binds
    refine ⟨fd, ps, hb, fun vs H Q E h => ?_, fun A outer s H args us vs Q E hr e0 hb' r h => ?_⟩
    · rw [hnp]; exact h.1
    · obtain ⟨_, F, ι, st, ds, S, rl, w⟩ := h
      rw [callN] at w
      exact w.elim
  | n + 1, f, h => by
    obtain ⟨fd, ps, F⟩ := hf f h
    exact ⟨fd, ps, F.binds.1, fn_step tx (fn_all tx hf n) F⟩
end
end Fd

set_option Elab.async false
set_option linter.all false
set_option maxRecDepth 100000
set_option maxHeartbeats 1000000
/-! what the head is asked of exception classes -/
namespace Fd
open PySem L2 PySem.Spec PyProof.Rows
variable {φ : Type}
theorem xcChk_ok {K : PySem.W.Frag} {a : Addr} (h : xcChk K a = true) : XcOk K a := by
  unfold xcChk fnd at h
  simp only [Bool.and_eq_true, decide_eq_true_eq] at h
  obtain ⟨⟨⟨⟨⟨⟨⟨⟨⟨⟨h1, h2⟩, h3⟩, h4⟩, h5⟩, h6⟩, h7⟩, h8⟩, h9⟩, h10⟩, h11⟩ := h
  exact ⟨h1, h2, h3, h4, h5, h6, h7, h8, h9, h10, h11⟩
theorem xiChk_ok {K : PySem.W.Frag} {a : Addr} {f : Str} (T : XcOk K a) (h : xiChk K a f = true) : XiOk K a (He.ma K a "__init__") f := by
  unfold xiChk fnd at h
  simp only [Bool.and_eq_true, decide_eq_true_eq] at h
  obtain ⟨⟨⟨⟨h1, h2⟩, h3⟩, h4⟩, h5⟩ := h
  refine ⟨⟨?_, h2, T.sb, T.ty, T.kp⟩, h3, h4, h5⟩
  unfold oexB at h1
  split at h1
  · rename_i dd cd sl ho
    split at h1
    · rename_i C' bm k0 k1 k2 k3 n k5 hm hs
      simp only [Bool.and_eq_true, beq_iff_eq, Bool.not_eq_true'] at h1
      obtain ⟨⟨⟨⟨rfl, rfl⟩, hdel⟩, hhd⟩, ht⟩ := h1
      obtain ⟨nm, bs, mro, ns, qn, hd, sn, sub, ab, col, del⟩ := cd
      dsimp only at hm hdel hhd
      subst hm hdel hhd
      have hsl : sl = #[k0, k1, k2, k3, some (.builtin "ValueError.__new__"), k5] := by
        obtain ⟨l⟩ := sl
        simp only at hs
        rw [hs]
      subst hsl
      exact ⟨nm, qn, ns, bs, bm, sn, sub, ab, col, dd, k0, k1, k2, k3, k5, ho, ht⟩
    · cases h1
  · cases h1
theorem mem_refs {x : Addr} : ∀ {as : List Addr}, (as.map Value.ref ++ veB).contains (.ref x) = decide (x ∈ as)
  | [] => by
    show veB.contains (.ref x) = _
    simp [veB]
  | a :: as => by
    rw [List.map_cons, List.cons_append, List.contains_cons, mem_refs]
    by_cases h : x = a
    · subst h; simp
    · have : (Value.ref x == Value.ref a) = false := by
        rw [beq_eq_false_iff_ne]
        exact fun e => h (Value.ref.inj e)
      rw [this]
      simp [h]
theorem kit_mro {K : PySem.W.Frag} {a x : Addr} {as : List Addr} (h : mroChk K (a :: as) = true) (hx : (PySem.W.clsIn K x).isSome = true) (ht : PySem.W.typeIn K (.ref x) = some (.type "type")) : PySem.W.kitOne K (.ref a) (.ref x) = some (decide (x ∈ a :: as)) := by
  simp only [mroChk] at h
  cases e : PySem.W.clsIn K a with
  | none => rw [e] at h; cases h
  | some cd =>
    rw [e] at h
    have hm := of_decide_eq_true h
    have sub : PySem.W.mroIn K a (.ref x) = some (decide (x ∈ a :: as)) := by
      unfold PySem.W.mroIn
      rw [e, Option.bind_some, hm, mem_refs]
      rfl
    unfold PySem.W.kitOne
    split
    · rename_i hb
      have := Value.ref.inj (beq_iff_eq.mp hb)
      subst this
      simp
    · unfold PySem.W.kitCls
      dsimp only
      rw [hx, ht, if_pos (by exact beq_self_eq_true _)]
      exact sub
theorem kit_ve {K : PySem.W.Frag} {a : Addr} {as : List Addr} (h : mroChk K (a :: as) = true) : PySem.W.kitOne K (.ref a) (.type "ValueError") = some true := by
  simp only [mroChk] at h
  cases e : PySem.W.clsIn K a with
  | none => rw [e] at h; cases h
  | some cd =>
    rw [e] at h
    have hm := of_decide_eq_true h
    have sub : PySem.W.mroIn K a (.type "ValueError") = some true := by
      unfold PySem.W.mroIn
      rw [e, Option.bind_some, hm]
      have : ((a :: as).map Value.ref ++ veB).contains (.type "ValueError") = true := by
        rw [List.contains_iff_mem]
        exact List.mem_append.mpr (.inr (by simp [veB]))
      rw [this]
      rfl
    have hk : PySem.W.kitMeta "ValueError" = true := by decide +kernel
    unfold PySem.W.kitOne
    rw [if_neg (by simp), show PySem.W.kitCls K (.ref a) (.type "ValueError") = if PySem.W.kitMeta "ValueError" = true then PySem.W.subIn K (.ref a) (.type "ValueError") else none from rfl, if_pos hk]
    exact sub
theorem mro_in {K : PySem.W.Frag} {a x : Addr} {as : List Addr} (h : mroChk K (a :: as) = true) : PySem.W.mroIn K a (.ref x) = some (decide (x ∈ a :: as)) := by
  simp only [mroChk] at h
  cases e : PySem.W.clsIn K a with
  | none => rw [e] at h; cases h
  | some cd =>
    rw [e] at h
    have hm := of_decide_eq_true h
    unfold PySem.W.mroIn
    rw [e, Option.bind_some, hm, mem_refs]
    rfl
theorem kit_no {K : PySem.W.Frag} {a : Addr} {as : List Addr} (h : mroChk K (a :: as) = true) {s : String} (hs : s ∈ otherX) : PySem.W.kitOne K (.ref a) (.type s) = some false := by
  simp only [mroChk] at h
  cases e : PySem.W.clsIn K a with
  | none => rw [e] at h; cases h
  | some cd =>
    rw [e] at h
    have hm := of_decide_eq_true h
    have sub : PySem.W.mroIn K a (.type s) = some false := by
      unfold PySem.W.mroIn
      rw [e, Option.bind_some, hm]
      have : ((a :: as).map Value.ref ++ veB).contains (.type s) = false := by
        rw [← Bool.not_eq_true, List.contains_iff_mem, List.mem_append]
        rintro (h | h)
        · obtain ⟨_, _, h⟩ := List.mem_map.mp h; cases h
        · simp only [otherX, List.mem_cons, List.not_mem_nil, or_false] at hs
          rcases hs with rfl | rfl | rfl <;> revert h <;> decide
      rw [this]
      rfl
    have hk : PySem.W.kitMeta s = true := by
      simp only [otherX, List.mem_cons, List.not_mem_nil, or_false] at hs
      rcases hs with rfl | rfl | rfl <;> decide +kernel
    unfold PySem.W.kitOne
    rw [if_neg (by simp), show PySem.W.kitCls K (.ref a) (.type s) = if PySem.W.kitMeta s = true then PySem.W.subIn K (.ref a) (.type s) else none from rfl, if_pos hk]
    exact sub
/-- what is plain of the table -/
structure LkX (L : Lk φ) (xs : List Nat) : Prop where
  on : ∀ c, xcB L c = true → c ∈ xs
  mro : ∀ c ∈ xs, (∃ l, L.xmro c = c :: l) ∧ ∀ b ∈ L.xmro c, b ∈ xs
  one : ∀ c ∈ xs, L.xin c = true → ∃ f, L.fl c = [f]
  two : ∀ c, L.x0 c = true → L.fl c = [] ∧ L.xin c = false
/-- the text of __init__(self, f): self.f = f -/
def txtX (L : Lk φ) (c : Nat) (d : He.DefD) : Bool := decide (d.at_ = (L.cnm c, some ("__init__" : Str))) && d.dfl.isEmpty && (match d.params, d.body with
  | ⟨[], [a0, a1], none, [], [], none, []⟩, [.Assign [.Attribute (.Name s _) f _] (.Name p _) _] => decide (a0.arg = s) && decide (a1.arg = f) && decide (p = f) && decide (L.fl c = [f]) && (match d.scope.kind with | .function => true | _ => false) && !d.scope.isCoroutine && !d.scope.isGenerator && decide (s ≠ f) &&
    locB d.scope s && locB d.scope f && (d.scope.names.all fun y => match y.2 with | .free => false | _ => true) && !(s == ("__debug__" : Str)) && !(s == ("__classdict__" : Str)) && !(f == ("__debug__" : Str)) && !(f == ("__classdict__" : Str))
  | _, _ => false)
theorem xi_of {L : Lk φ} {K : PySem.W.Frag} {c : Nat} {d : He.DefD} (h : txtX L c d = true) (hd : ∃ fd, FunD K d.name d.qual d.params d.body d.scope (d.dvs K) (d.kws K) (He.fAd K d.at_) fd) (hx : ∀ f, L.fl c = [f] → XiOk K (He.ga K (L.cnm c)) (He.ma K (He.ga K (L.cnm c)) "__init__") f) :
    ∃ f, L.fl c = [f] ∧ XI K (He.ga K (L.cnm c)) f := by
  obtain ⟨fd, F⟩ := hd
  obtain ⟨at_, name, qual, params, body, scope, dfl, kwd⟩ := d
  unfold txtX at h
  simp only [Bool.and_eq_true, decide_eq_true_eq, List.isEmpty_iff] at h
  obtain ⟨⟨rfl, rfl⟩, h3⟩ := h
  split at h3
  · rename_i a0 a1 s p1 f p2 p p3 pos
    simp only [Bool.and_eq_true, decide_eq_true_eq, Bool.not_eq_true', List.all_eq_true] at h3
    obtain ⟨⟨⟨⟨⟨⟨⟨⟨⟨⟨⟨⟨⟨⟨k1, k2⟩, k3⟩, k4⟩, k5⟩, k6⟩, k7⟩, k8⟩, k9⟩, k10⟩, k11⟩, k12⟩, k13⟩, k14⟩, k15⟩ := h3
    subst k3
    refine ⟨p, k4, ⟨_, fd, name, qual, s, a0, a1, p1, p2, p3, pos, scope, _, hx p k4, F, ⟨?_, k6, k7, ?_, rfl, fun x hx => ?_, fun y hy => ?_⟩, k1, k2, ⟨k12, k13⟩, k14, k15⟩⟩
    · split at k5
      · assumption
      · cases k5
    · simp [k8]
    · simp at hx
      rcases hx with rfl | rfl
      · exact loc_ok k9
      · exact loc_ok k10
    · have := k11 y hy
      intro z
      rw [z] at this
      cases this
  · cases h3
end Fd

set_option Elab.async false
set_option linter.all false
set_option maxRecDepth 100000
set_option maxHeartbeats 1000000
namespace Fd
open PySem L2 PySem.Spec PyProof.Rows
variable {φ : Type}
/-- as walk_ofE, the exceptions' wish told by the world -/
theorem walk_ofW {l : PySem.W.OpenLaw} {n k : Nat} {q : Program} {loose : List Str} {XP : (Str → Option Value) → Heap → Prop} {YP : World → Heap → Prop} {d : DefRec} {CX : World → CXT} {x : Str}
    (hn : l.most = some n) (hn2 : n ≤ sizeLine) (hdf : d.params.defaults = []) (hr : Room k callerA)
    (F : ∀ (w : World) (mg : Str → Option Value) (fa : Addr) (h : Heap), YP w h → h.Ns mainGlobals mg → mg d.name = some (.ref fa) →
      ∃ (K : PySem.W.Frag) (fd : FuncData) (sp : Sp), K.In h ∧ (∀ (s : Shared) (u : Value), BindsTo s fd ⟨[u], []⟩ [(x, u)]) ∧
        (∀ (H : Hp) (a : Addr) (ns : List Int), ns.length ≤ n → Only H → SqL K H a (ns.map V.int) → sp [.ref a] H (fun v _ => v = .bl true) fun _ _ _ => False) ∧
        ∀ base : Heap, K.In base → base.Ns mainGlobals mg → FnOk l.prog w K mg base (CX w) k fa fd [x] sp)
    (hCX : ∀ (w : World) (H : Hp) (s : Shared) (e : Value) (s' : Shared), CX w [] H s (fun _ _ _ => False) e s' → False) :
    PySem.W.WalkO q loose XP YP l.row.toRowW d [] (fun f vs => PySem.call f vs) := by
  refine Att.attach_call hn hdf fun w s₀ s₁ mg mb fa o pm cd doc a vs ns G Y ho hd hcd hmg hobj hints hlen hg => ?_
  obtain ⟨K, fd, sp, KX, hb, hsp, hF⟩ := F w mg fa _ Y G.T.g hmg
  exact law_call KX G.T.g G.T.b G.T.builtins G.T.nolimit hg hobj hints (Nat.le_trans hlen hn2) hr hF hb (fun H hO hS => hsp H a ns hlen hO hS) fun H e s' => hCX w H s₁ e s'
theorem cx_false {P : Program} (w : World) (H : Hp) (s : Shared) (e : Value) (s' : Shared) (h : L2.CX P w [] H s (fun _ _ _ => False) e s') : False := by
  obtain ⟨a, B, H', cls, d, h1, h2, h3, h4, h5, h6, h7, h8⟩ := h
  exact h8
/-! ### what the head is asked -/
section
variable {chk : PySem.W.Frag → Bool} {fn : List He.DefD} {K : PySem.W.Frag}
theorem SaysL.look (c : SaysL chk fn K) : chk K = true := (He.ba (show (chk K && fn.all fun d => d.ok K) = true from congrArg (fun z : He.AlD => z.1) c)).1
theorem SaysL.def_ (c : SaysL chk fn K) {d : He.DefD} (h : d ∈ fn) : ∃ fd, FunD K d.name d.qual d.params d.body d.scope (d.dvs K) (d.kws K) (He.fAd K d.at_) fd := by
  have c2 := (He.ba (show (chk K && fn.all fun d => d.ok K) = true from congrArg (fun z : He.AlD => z.1) c)).2
  have e : fn.map (fun d => He.fnW K d.at_) = fn.map He.DefD.val := congrArg (fun z : He.AlD => z.2) c
  obtain ⟨i, hi⟩ := List.mem_iff_getElem?.mp h
  have e2 : (fn.map fun d => He.fnW K d.at_)[i]? = (fn.map He.DefD.val)[i]? := by rw [e]
  rw [List.getElem?_map, List.getElem?_map, hi] at e2
  exact He.DefD.funD (Option.some.inj e2) (List.all_eq_true.mp c2 d h)
end
def gxOf (L : Lk φ) (K : PySem.W.Frag) : Gx := ⟨K, fun c => ⟨He.ga K (L.cnm c), L.fl c⟩, L.con⟩
/-- what is plain of the table: total, no field twice -/
structure LkOk (L : Lk φ) (fs : List φ) (cs : List Nat) : Prop where
  on : ∀ f, L.on f = true → f ∈ fs
  over : ∀ c, L.con c = true → c ∈ cs ∧ (L.fl c).Nodup ∧ (L.fl c).length < 900
theorem tx_of {L : Lk φ} {fs : List φ} {cs xs : List Nat} {K : PySem.W.Frag} {h : Heap} {mg : Str → Option Value} (X : K.In h) (G : h.Ns mainGlobals mg) (o : LkOk L fs cs) (ox : LkX L xs) (c : lkChk L fs cs K = true) (cx : lkChkX L xs K = true) (hi : ∀ c ∈ xs, L.xin c = true → ∃ d, txtX L c d = true ∧ ∃ fd, FunD K d.name d.qual d.params d.body d.scope (d.dvs K) (d.kws K) (He.fAd K d.at_) fd) (hkn : ∀ g ts, L.kin = some (g, ts) → ∃ f, L.on f = true ∧ L.fnm f = (g, none) ∧ ∃ fd, KinD (gxOf L K) L (He.fAd K (L.fnm f)) fd ts) : Tx (gxOf L K) L mg (fun f => He.fAd K (L.fnm f)) := by
  unfold lkChk at c
  simp only [Bool.and_eq_true] at c
  obtain ⟨⟨c1, c2⟩, c5⟩ := c
  rw [List.all_eq_true] at c1 c2 c5
  have cl : ∀ i, L.con i = true → (He.Fa.glo (L.cnm i)).ok K = true ∧ (He.Fa.cls (L.cnm i)).ok K = true ∧ clsX K (He.ga K (L.cnm i)) = true ∧ ∀ f ∈ L.fl i, (He.Fa.noat (L.cnm i) f).ok K = true := fun i hi => by
    have := c2 i (o.over i hi).1
    simp only [Bool.and_eq_true, List.all_eq_true] at this
    exact ⟨this.1.1.1, this.1.1.2, this.1.2, this.2⟩
  have fk : ∀ f, L.on f = true → fnChk L K f = true := fun f h => c1 f (o.on f h)
  unfold lkChkX ndX xcP at cx
  simp only [Bool.and_eq_true, decide_eq_true_eq, List.all_eq_true] at cx
  obtain ⟨nd, cx⟩ := cx
  have xk : ∀ c, xcB L c = true → mg (L.cnm c) = some (.ref (He.ga K (L.cnm c))) ∧ XcOk K (He.ga K (L.cnm c)) ∧ mroChk K ((L.xmro c).map fun b => He.ga K (L.cnm b)) = true := fun c hc => by
    obtain ⟨⟨⟨x1, x2⟩, x3⟩, x4⟩ := cx c (ox.on c hc)
    exact ⟨He.glo_ok X G x1, xcChk_ok x2, x3⟩
  have inj : ∀ a ∈ xs, ∀ b ∈ xs, He.ga K (L.cnm a) = He.ga K (L.cnm b) → a = b := fun a ha b hb e => by
    obtain ⟨i, hi⟩ := List.mem_iff_getElem?.mp ha
    obtain ⟨j, hj⟩ := List.mem_iff_getElem?.mp hb
    obtain ⟨li, ei⟩ := List.getElem?_eq_some_iff.mp hi
    obtain ⟨lj, ej⟩ := List.getElem?_eq_some_iff.mp hj
    have := (List.getElem_inj (xs := xs.map fun c => He.ga K (L.cnm c)) (i := i) (j := j) (h₀ := by simpa using li) (h₁ := by simpa using lj) nd).mp (by simpa [ei, ej] using e)
    subst this
    exact ei.symm.trans ej
  refine ⟨fun _ => rfl, fun f x h e => ?_, fun f i m h hi e hm => ?_, fun f i h hi e => ?_, fun i hi => He.glo_ok X G (cl i hi).1, fun _ h => h, fun i hcon => ?_, fun x hx => He.free_ok X G (c5 x hx), fun c hc => ⟨(xk c hc).1, (xk c hc).2.1⟩, fun c hc => ?_, fun c hc => ?_, fun c t hc ht => ?_, fun c c' hc hc' => ?_, fun c s hc hs => ?_, fun g ts hg => ?_⟩
  · have := fk f h
    unfold fnChk at this
    rw [e] at this
    simp only [Bool.and_eq_true] at this
    have a : He.fAd K (L.fnm f) = He.ga K x := by rw [e]; rfl
    show mg x = some (.ref (He.fAd K (L.fnm f))) ∧ PySem.W.keepIn K (.ref (He.fAd K (L.fnm f))) = true
    rw [a]
    exact ⟨He.glo_ok X G this.1, He.keep_ok this.2⟩
  · have := fk f h
    unfold fnChk at this
    rw [e] at this
    dsimp only at this
    rw [if_neg hm] at this
    have a : He.fAd K (L.fnm f) = He.ma K (He.ga K (L.cnm i)) m := by rw [e]; rfl
    show Meth K (He.ga K (L.cnm i)) m (He.fAd K (L.fnm f))
    rw [a]
    exact He.meth_ok this
  · have := fk f h
    unfold fnChk at this
    rw [e] at this
    dsimp only at this
    rw [if_pos rfl] at this
    have a : He.fAd K (L.fnm f) = He.ma K (He.ga K (L.cnm i)) "__init__" := by rw [e]; rfl
    show Mk K (He.ga K (L.cnm i)) (He.fAd K (L.fnm f))
    rw [a]
    exact He.mkr_ok this
  · obtain ⟨h1, h2, h3, h4⟩ := cl i hcon
    unfold clsX at h3
    simp only [Bool.and_eq_true, decide_eq_true_eq, List.all_eq_true] at h3
    obtain ⟨⟨⟨⟨⟨k1, k2⟩, k3⟩, k4⟩, k5⟩, k6⟩ := h3
    exact ⟨He.cls_ok h2, (o.over i hcon).2.1, (o.over i hcon).2.2, fun f hf => He.noat_ok (h4 f hf), k1, k2, k3, k4, k5, k6⟩
  · have hx : xcB L c = true := by unfold xcB; rw [hc]; rfl
    obtain ⟨d, hd, hf⟩ := hi c (ox.on c hx) hc
    refine xi_of hd hf fun f hfl => ?_
    have := (cx c (ox.on c hx)).2
    rw [if_pos hc, hfl] at this
    exact xiChk_ok (xk c hx).2.1 this
  · have hx : xcB L c = true := by unfold xcB; rw [hc, Bool.or_true]
    obtain ⟨e1, e2⟩ := ox.two c hc
    have := (cx c (ox.on c hx)).2
    rw [e2, if_neg (by decide)] at this
    exact ⟨e1, this⟩
  · obtain ⟨m1, m2, m3⟩ := xk c hc
    obtain ⟨⟨l, el⟩, mb⟩ := ox.mro c (ox.on c hc)
    rw [el, List.map_cons] at m3
    cases t with
    | none => exact kit_ve m3
    | some c' =>
      have hc' := ht c' rfl
      have K' := (xk c' hc').2.1
      show PySem.W.kitOne K (.ref (He.ga K (L.cnm c))) (.ref (He.ga K (L.cnm c'))) = some (decide (c' ∈ L.xmro c))
      rw [kit_mro m3 K'.cl K'.ty]
      congr 1
      rw [decide_eq_decide, ← List.map_cons (f := fun b => He.ga K (L.cnm b)), ← el, List.mem_map]
      constructor
      · rintro ⟨b, hb, e⟩
        rw [← inj b (mb b hb) c' (ox.on c' hc') e]
        exact hb
      · exact fun h => ⟨c', h, rfl⟩
  · obtain ⟨m1, m2, m3⟩ := xk c hc
    obtain ⟨⟨l, el⟩, mb⟩ := ox.mro c (ox.on c hc)
    rw [el, List.map_cons] at m3
    show PySem.W.mroIn K (He.ga K (L.cnm c)) (.ref (He.ga K (L.cnm c'))) = some (decide (c' ∈ L.xmro c))
    rw [mro_in m3]
    congr 1
    rw [decide_eq_decide, ← List.map_cons (f := fun b => He.ga K (L.cnm b)), ← el, List.mem_map]
    constructor
    · rintro ⟨b, hb, e⟩
      rw [← inj b (mb b hb) c' (ox.on c' hc') e]
      exact hb
    · exact fun h => ⟨c', h, rfl⟩
  · obtain ⟨m1, m2, m3⟩ := xk c hc
    obtain ⟨⟨l, el⟩, mb⟩ := ox.mro c (ox.on c hc)
    rw [el, List.map_cons] at m3
    exact kit_no m3 hs
  · obtain ⟨f, hon, hf, fd, KD⟩ := hkn g ts hg
    have := fk f hon
    unfold fnChk at this
    rw [hf] at this KD
    simp only [Bool.and_eq_true] at this
    exact ⟨He.ga K g, fd, He.glo_ok X G this.1, He.keep_ok this.2, KD⟩
/-! ### the defs of the text -/
def plainA (a : Arguments) : Option (List Arg) := match a with
  | ⟨[], as, none, [], [], none, []⟩ => some as
  | _ => none
/-- a def of the text and its telling agree -/
def txtB (L : Lk φ) (T : φ → Fn φ) (f : φ) (d : He.DefD) : Bool := decide (d.at_ = L.fnm f) && d.dfl.isEmpty && (match plainA d.params with
    | some as => (match d.scope.kind with | .function => true | _ => false) && !d.scope.isCoroutine && !d.scope.isGenerator && decide ((T f).N.Nodup) && decide ((T f).N.take (as.map (·.arg)).length = as.map (·.arg)) &&
      (as.all fun a => match d.scope.names.lookup a.arg with | some .local => true | some .cell => true | _ => false) && (d.scope.names.all fun y => match y.2 with | .free => false | _ => true) && decide (as.length = (T f).np)
    | none => false) && mSs L (T f).N d.scope (T f).body d.body
theorem fnD_of {L : Lk φ} {T : φ → Fn φ} {K : PySem.W.Frag} {f : φ} {d : He.DefD} (h : txtB L T f d = true) (hd : ∃ fd, FunD K d.name d.qual d.params d.body d.scope (d.dvs K) (d.kws K) (He.fAd K d.at_) fd) : ∃ fd ps, FnD (gxOf L K) L T f (He.fAd K (L.fnm f)) fd ps ∧ (∀ us : List Value, us.length = ps.length → bindArgs fd ⟨us, []⟩ = pure (ps.zip us)) ∧ ∃ as, plainA d.params = some as ∧ as.map (·.arg) = ps := by
  obtain ⟨fd, F⟩ := hd
  obtain ⟨at_, name, qual, params, body, scope, dfl, kwd⟩ := d
  unfold txtB at h
  simp only [Bool.and_eq_true, decide_eq_true_eq, List.isEmpty_iff] at h
  obtain ⟨⟨⟨rfl, rfl⟩, h3⟩, h4⟩ := h
  split at h3
  · rename_i as e
    have ep : params = ⟨[], as, none, [], [], none, []⟩ := by
      unfold plainA at e
      split at e
      · cases e; rfl
      · cases e
    subst ep
    simp only [Bool.and_eq_true, decide_eq_true_eq, Bool.not_eq_true', List.all_eq_true] at h3
    obtain ⟨⟨⟨⟨⟨⟨⟨k1, k2⟩, k3⟩, k4⟩, k5⟩, k6⟩, k7⟩, k8⟩ := h3
    obtain ⟨oc, od, dV, kV, doc, pm, an, cdv, ct, osl, e1, lk, hcd, hD, hK⟩ := F.ex
    have edV : dV = .none := by
      rcases hD with ⟨_, rfl⟩ | ⟨e, _⟩
      · rfl
      · exact absurd rfl e
    subst edV e1
    have nd : (as.map (·.arg)).Nodup := by rw [← k5]; exact k4.sublist (List.take_sublist _ _)
    refine ⟨_, as.map (·.arg), ⟨name, qual, _, body, scope, .none, kV, doc, pm, cdv, ct, oc, an, od, osl, rfl, lk, hcd, ⟨?_, k2, k3, k4, k5, fun x hx => ?_, fun y hy => ?_⟩, .all fun us hl => bind_plain nd hl, by rw [List.length_map]; exact k8, h4⟩, fun us hl => bind_plain nd hl, as, e, rfl⟩
    · split at k1
      · assumption
      · cases k1
    · obtain ⟨a, ha, rfl⟩ := List.mem_map.mp hx
      have := k6 a ha
      split at this
      · rename_i e; exact .inl e
      · rename_i e; exact .inr e
      · cases this
    · have := k7 y hy
      intro z
      rw [z] at this
      cases this
  · cases h3
/-- the def of kinds: its text -/
def txtK (L : Lk φ) (N : List Str) (ts : List (List Nat)) (d : He.DefD) : Bool := d.dfl.isEmpty && (match plainA d.params with
    | some as => (match d.scope.kind with | .function => true | _ => false) && !d.scope.isCoroutine && !d.scope.isGenerator && decide (N.Nodup) && decide (N.take (as.map (·.arg)).length = as.map (·.arg)) &&
      (as.all fun a => match d.scope.names.lookup a.arg with | some .local => true | some .cell => true | _ => false) && (d.scope.names.all fun y => match y.2 with | .free => false | _ => true) && decide (as.length = 1)
    | none => false) && decide (N.length = 3) && kinB L N d.scope ts d.body
theorem kinD_of {L : Lk φ} {K : PySem.W.Frag} {N : List Str} {ts : List (List Nat)} {d : He.DefD} (h : txtK L N ts d = true) (hd : ∃ fd, FunD K d.name d.qual d.params d.body d.scope (d.dvs K) (d.kws K) (He.fAd K d.at_) fd) : ∃ fd, KinD (gxOf L K) L (He.fAd K d.at_) fd ts := by
  obtain ⟨fd, F⟩ := hd
  obtain ⟨at_, name, qual, params, body, scope, dfl, kwd⟩ := d
  unfold txtK at h
  simp only [Bool.and_eq_true, decide_eq_true_eq, List.isEmpty_iff] at h
  obtain ⟨⟨⟨rfl, h3⟩, h5⟩, h4⟩ := h
  split at h3
  · rename_i as e
    have ep : params = ⟨[], as, none, [], [], none, []⟩ := by
      unfold plainA at e
      split at e
      · cases e; rfl
      · cases e
    subst ep
    simp only [Bool.and_eq_true, decide_eq_true_eq, Bool.not_eq_true', List.all_eq_true] at h3
    obtain ⟨⟨⟨⟨⟨⟨⟨k1, k2⟩, k3⟩, k4⟩, k5⟩, k6⟩, k7⟩, k8⟩ := h3
    obtain ⟨oc, od, dV, kV, doc, pm, an, cdv, ct, osl, e1, lk, hcd, hD, hK⟩ := F.ex
    have edV : dV = .none := by
      rcases hD with ⟨_, rfl⟩ | ⟨e, _⟩
      · rfl
      · exact absurd rfl e
    subst edV e1
    have nd : (as.map (·.arg)).Nodup := by rw [← k5]; exact k4.sublist (List.take_sublist _ _)
    refine ⟨_, name, qual, _, body, scope, .none, kV, doc, pm, cdv, ct, oc, an, od, osl, N, as.map (·.arg), rfl, lk, hcd, ⟨?_, k2, k3, k4, k5, fun x hx => ?_, fun y hy => ?_⟩, .all fun us hl => bind_plain nd hl, by rw [List.length_map]; exact k8, h5, h4⟩
    · split at k1
      · assumption
      · cases k1
    · obtain ⟨a, ha, rfl⟩ := List.mem_map.mp hx
      have := k6 a ha
      split at this
      · rename_i e; exact .inl e
      · rename_i e; exact .inr e
      · cases this
    · have := k7 y hy
      intro z
      rw [z] at this
      cases this
  · cases h3
/-! ### the law -/
structure LawData (φ : Type) where
  L : Lk φ
  T : φ → Fn φ
  fs : List φ
  cs : List Nat
  d : φ → He.DefD
  xs : List Nat := []
  dx : Nat → He.DefD := fun _ => ⟨("", none), "", "", ⟨[], [], none, [], [], none, []⟩, [], ⟨.function, [], false, false, []⟩, [], []⟩
def LawData.xi (Z : LawData φ) : List Nat := Z.xs.filter Z.L.xin
def LawData.fn (Z : LawData φ) : List He.DefD := Z.fs.map Z.d ++ Z.xi.map Z.dx
def LawData.chk (Z : LawData φ) : PySem.W.Frag → Bool := chkL Z.L Z.fs Z.cs Z.xs
theorem law_end {Z : LawData φ} {l : PySem.W.OpenLaw} {m n wf : Nat} {q : Program} {loose : List Str} {XP : (Str → Option Value) → Heap → Prop} {D : DefRec} {x : Str} {f : φ}
    (hn : l.most = some m) (hm : m ≤ sizeLine) (hdf : D.params.defaults = []) (hr : Room (2 * n + 1) callerA) (o : LkOk Z.L Z.fs Z.cs) (ox : LkX Z.L Z.xs) (txtx : (Z.xi.all fun c => txtX Z.L c (Z.dx c)) = true) (txt : (Z.fs.all fun f => txtB Z.L Z.T f (Z.d f)) = true)
    (hf : Z.L.on f = true) (hD : D.name = (Z.L.fnm f).1) (h2 : (Z.L.fnm f).2 = none) (hx : ∃ as, plainA (Z.d f).params = some as ∧ as.map (·.arg) = [x])
    (txtk : ∀ g ts, Z.L.kin = some (g, ts) → ∃ f N, Z.L.on f = true ∧ Z.L.fnm f = (g, none) ∧ (Z.d f).at_ = Z.L.fnm f ∧ txtK Z.L N ts (Z.d f) = true)
    (plain : ∀ ns : List Int, ns.length ≤ m → ∃ st', callN Z.T wf n f [.scr ns] [] = .ok (.d (.bl true)) st') :
    PySem.W.WalkO q loose XP (hookL 4 Z.chk Z.fn).says l.row.toRowW D [] (fun f vs => PySem.call f vs) := by
  refine walk_ofW (l := l) (n := m) (k := 2 * n + 1) (x := x) (CX := L2.CX l.prog) hn hm hdf hr (fun w mg fa h Y G hmg => ?_) (fun w H s e s' z => cx_false w H s e s' z)
  obtain ⟨K, KX, c⟩ := Y
  obtain ⟨lk1, lk2⟩ := He.ba c.look
  have tx := tx_of KX G o ox lk1 lk2 (fun i hi hx => by
    have m : i ∈ Z.xi := List.mem_filter.mpr ⟨hi, hx⟩
    exact ⟨Z.dx i, List.all_eq_true.mp txtx i m, c.def_ (List.mem_append.mpr (.inr (List.mem_map_of_mem m)))⟩) fun g ts hg => by
    obtain ⟨f', N, hon, hfn', hat, hk⟩ := txtk g ts hg
    have kd := kinD_of hk (c.def_ (List.mem_append.mpr (.inl (List.mem_map_of_mem (o.on f' hon)))))
    rw [hat] at kd
    exact ⟨f', hon, hfn', kd⟩
  have hfd : ∀ g, Z.L.on g = true → ∃ fd ps, FnD (gxOf Z.L K) Z.L Z.T g (He.fAd K (Z.L.fnm g)) fd ps ∧ (∀ us : List Value, us.length = ps.length → bindArgs fd ⟨us, []⟩ = pure (ps.zip us)) ∧ ∃ as, plainA (Z.d g).params = some as ∧ as.map (·.arg) = ps := fun g hg =>
    fnD_of (List.all_eq_true.mp txt g (o.on g hg)) (c.def_ (List.mem_append.mpr (.inl (List.mem_map_of_mem (o.on g hg)))))
  have hfn : ∀ g, Z.L.on g = true → ∃ fd ps, FnD (gxOf Z.L K) Z.L Z.T g (He.fAd K (Z.L.fnm g)) fd ps := fun g hg => let ⟨fd, ps, F, _⟩ := hfd g hg; ⟨fd, ps, F⟩
  have efa : fa = He.fAd K (Z.L.fnm f) := by
    have e1 : Z.L.fnm f = ((Z.L.fnm f).1, none) := by rw [← h2]
    obtain ⟨m1, _⟩ := tx.gl f _ hf e1
    rw [hD, m1] at hmg
    cases hmg
    rfl
  obtain ⟨fd, ps, F, hbd, as, hp, hax⟩ := hfd f hf
  obtain ⟨as', hp', hax'⟩ := hx
  rw [hp'] at hp
  cases hp
  have eps : ps = [x] := hax.symm.trans hax'
  subst eps efa
  refine ⟨K, fd, spN (gxOf Z.L K) Z.T wf n f, KX, ?_, fun H a ns hl hO hS => ?_, fun base _ _ => ?_⟩
  · exact fun s u => .of_eq (hbd [u] rfl)
  · obtain ⟨st', e⟩ := plain ns hl
    have np : (Z.T f).np = 1 := F.binds.2.symm
    refine ⟨np.symm, H, [], [], [.scr ns], ⟨fun _ _ h => h, rfl, .nil, fun _ h => (nomatch h), fun i c a h => by simp at h, fun i c a h => by simp at h, fun a y e => by rcases hO a with h | ⟨o, vs, h⟩ <;> rw [h] at e <;> cases e⟩, .cons (.scr hS) .nil, ?_⟩
    rw [e]
    intro F' ι' H' g S v r
    exact r.is_bl
  · cases n with
    | zero => 
      obtain ⟨st', e⟩ := plain [] (Nat.zero_le _)
      rw [callN] at e
      cases e
    | succ n => exact fn_step tx (fn_all tx hfn n) F
end Fd

set_option Elab.async false
set_option linter.all false
set_option maxHeartbeats 1000000
namespace Fd
open PySem L2
variable {φ : Type}
/-! ### the drawing helpers of the laws -/
def irPick : Fn φ := ⟨2, ["state", "many", "cell", "digit", "mixed"], (.cons (.asgSub (.var 0) (.int 2) (.bin .add (.idx (.var 0) (.int 2)) (.int 1))) (.cons (.while_ (.and (.cmp .eq (.idx (.var 0) (.int 1)) (.int 0)) (.one (.cmp .ne (.idx (.var 0) (.int 0)) (.list .nil)))) (.cons (.asg (.nm 2) (.bi .abs (.cons (.lm .popAt (.idx (.var 0) (.int 0)) (.cons (.int 0) .nil)) .nil))) (.cons (.asgSub (.var 0) (.int 3) (.bin .mod (.bi .int1 (.cons (.bin .add (.bin .add (.bin .mul (.idx (.var 0) (.int 3)) (.int 6151)) (.var 2)) (.int 5)) .nil)) (.int 2147483647))) (.cons (.asgSub (.var 0) (.int 1) (.ife (.cmp .ge (.var 2) (.bin .pow (.int 10) (.int 18))) (.var 2) (.int 0))) .nil)))) (.cons (.ife (.cmp .gt (.idx (.var 0) (.int 1)) (.int 0)) (.cons (.asg (.nm 3) (.bin .mod (.bi .int1 (.cons (.idx (.var 0) (.int 1)) .nil)) (.var 1))) (.cons (.asgSub (.var 0) (.int 1) (.bin .fdiv (.idx (.var 0) (.int 1)) (.var 1))) (.cons (.ret (.var 3)) .nil))) .nil) (.cons (.asg (.nm 4) (.bin .mod (.bi .int1 (.cons (.bin .pow (.bin .add (.bin .add (.idx (.var 0) (.int 3)) (.bin .mul (.int 7907) (.idx (.var 0) (.int 2)))) (.int 104723)) (.int 5)) .nil)) (.int 2147483629))) (.cons (.ret (.bin .mod (.bin .mod (.bi .int1 (.cons (.bin .pow (.bin .add (.bin .add (.bin .mul (.var 4) (.int 48271)) (.bin .mul (.int 30011) (.idx (.var 0) (.int 2)))) (.int 31)) (.int 3)) .nil)) (.int 1000000007)) (.var 1))) .nil)))))⟩
/-- the draw's state: the numbers left at k0, the state at k1; b picks were made -/
structure Dw (st : Sto) (k0 k1 : Nat) (cs : List Int) (a b c : Int) : Prop where
  ne : k0 ≠ k1
  h0 : st[k0]? = some (.live (.lst (cs.map .int)))
  h1 : st[k1]? = some (.live (.lst [.ref k0, .int a, .int b, .int c]))
theorem Dw.set1 {st : Sto} {k0 k1 : Nat} {cs : List Int} {a b c a' b' c' : Int} (h : Dw st k0 k1 cs a b c) : Dw (st.set k1 (.live (.lst [.ref k0, .int a', .int b', .int c']))) k0 k1 cs a' b' c' :=
  ⟨h.ne, by rw [List.getElem?_set_ne (Ne.symm h.ne)]; exact h.h0, by rw [List.getElem?_set_self (List.getElem?_eq_some_iff.mp h.h1).1]⟩
theorem Dw.set0 {st : Sto} {k0 k1 : Nat} {cs ds : List Int} {a b c : Int} (h : Dw st k0 k1 cs a b c) : Dw (st.set k0 (.live (.lst (ds.map .int)))) k0 k1 ds a b c :=
  ⟨h.ne, by rw [List.getElem?_set_self (List.getElem?_eq_some_iff.mp h.h0).1], by rw [List.getElem?_set_ne h.ne]; exact h.h1⟩
section
variable {st : Sto} {k0 k1 : Nat} {cs : List Int} {a b c : Int} {cl : Cll φ} {ρ : Rho}
theorem Dw.res1 (h : Dw st k0 k1 cs a b c) : res st (.ref k1) = .ref k1 := by simp [res, h.h1]
theorem Dw.res0 (h : Dw st k0 k1 cs a b c) : res st (.ref k0) = .ref k0 := by simp [res, h.h0]
theorem Dw.at1 (h : Dw st k0 k1 cs a b c) : getAt st (.ref k1) (.int 1) = some (.int a) := by
  simp [getAt, dicOf, seqOf, lstOf, cellOf, h.h1, atI, ixN, res]
theorem Dw.at2 (h : Dw st k0 k1 cs a b c) : getAt st (.ref k1) (.int 2) = some (.int b) := by
  simp [getAt, dicOf, seqOf, lstOf, cellOf, h.h1, atI, ixN, res]
theorem Dw.at3 (h : Dw st k0 k1 cs a b c) : getAt st (.ref k1) (.int 3) = some (.int c) := by
  simp [getAt, dicOf, seqOf, lstOf, cellOf, h.h1, atI, ixN, res]
theorem Dw.at0 (h : Dw st k0 k1 cs a b c) : getAt st (.ref k1) (.int 0) = some (.ref k0) := by
  simp [getAt, dicOf, seqOf, lstOf, cellOf, h.h1, atI, ixN, h.res0]
/-- state[i] -/
theorem Dw.idx (h : Dw st k0 k1 cs a b c) (hv : ρ[0]? = some (some (.ref k1))) {i : Int} {d : D} (e : getAt st (.ref k1) (.int i) = some d) : evE cl (.idx (.var 0) (.int i)) ρ st = .ok (.d d) st := by
  simp [evE, hv, h.res1, vD, Rs.map, Rs.bind, Wv.toD, ofO, e]
theorem Dw.put1 (h : Dw st k0 k1 cs a b c) (v : Int) : setSub (.ref k1) (.int 1) (.int v) st = some (st.set k1 (.live (.lst [.ref k0, .int v, .int b, .int c]))) := by
  simp [setSub, h.h1, ixN]
theorem Dw.put2 (h : Dw st k0 k1 cs a b c) (v : Int) : setSub (.ref k1) (.int 2) (.int v) st = some (st.set k1 (.live (.lst [.ref k0, .int a, .int v, .int c]))) := by
  simp [setSub, h.h1, ixN]
theorem Dw.put3 (h : Dw st k0 k1 cs a b c) (v : Int) : setSub (.ref k1) (.int 3) (.int v) st = some (st.set k1 (.live (.lst [.ref k0, .int a, .int b, .int v]))) := by
  simp [setSub, h.h1, ixN]
/-- the same but for k0 and k1 -/
def Off (k0 k1 : Nat) (st st' : Sto) : Prop := st'.length = st.length ∧ ∀ i, i ≠ k0 → i ≠ k1 → st'[i]? = st[i]?
theorem Off.refl : Off k0 k1 st st := ⟨rfl, fun _ _ _ => rfl⟩
theorem Off.trans {st1 st2 st3 : Sto} (a : Off k0 k1 st1 st2) (b : Off k0 k1 st2 st3) : Off k0 k1 st1 st3 := ⟨b.1.trans a.1, fun i h1 h2 => (b.2 i h1 h2).trans (a.2 i h1 h2)⟩
theorem Off.s1 {v : Slot} : Off k0 k1 st (st.set k1 v) := ⟨by simp, fun i _ h => by rw [List.getElem?_set_ne (Ne.symm h)]⟩
theorem Off.s0 {v : Slot} : Off k0 k1 st (st.set k0 v) := ⟨by simp, fun i h _ => by rw [List.getElem?_set_ne (Ne.symm h)]⟩
theorem pow18 : opB .pow (.int 10) (.int 18) st = .ok (.d (.int 1000000000000000000)) st := by
  simp [opB]
theorem res_int {i : Int} : res st (.int i) = .int i := rfl
/-- one turn of the while -/
theorem pick_body {wf : Nat} {x : Int} (h : Dw st k0 k1 (x :: cs) 0 b c) (hv : ρ[0]? = some (some (.ref k1))) (hl : 2 < ρ.length) :
    let cell := if x < 0 then -x else x
    exS cl wf (.cons (.asg (.nm 2) (.bi .abs (.cons (.lm .popAt (.idx (.var 0) (.int 0)) (.cons (.int 0) .nil)) .nil))) (.cons (.asgSub (.var 0) (.int 3) (.bin .mod (.bi .int1 (.cons (.bin .add (.bin .add (.bin .mul (.idx (.var 0) (.int 3)) (.int 6151)) (.var 2)) (.int 5)) .nil)) (.int 2147483647))) (.cons (.asgSub (.var 0) (.int 1) (.ife (.cmp .ge (.var 2) (.bin .pow (.int 10) (.int 18))) (.var 2) (.int 0))) .nil))) ρ st =
      .next (ρ.set 2 (some (.int cell))) (((st.set k0 (.live (.lst (cs.map .int)))).set k1 (.live (.lst [.ref k0, .int 0, .int b, .int ((c * 6151 + cell + 5) % 2147483647)]))).set k1
        (.live (.lst [.ref k0, .int (if 1000000000000000000 ≤ cell then cell else 0), .int b, .int ((c * 6151 + cell + 5) % 2147483647)]))) := by
  intro cell
  have h' := h.set0 (ds := cs)
  have h2 := h'.set1 (a' := 0) (b' := b) (c' := (c * 6151 + cell + 5) % 2147483647)
  have hv2 : (ρ.set 2 (some (.int cell)))[0]? = some (some (.ref k1)) := by rw [List.getElem?_set_ne (by decide)]; exact hv
  have hc : (ρ.set 2 (some (.int cell)))[2]? = some (some (.int cell)) := List.getElem?_set_self hl
  have p : evE cl (.lm .popAt (.idx (.var 0) (.int 0)) (.cons (.int 0) .nil)) ρ st = .ok (.d (.int x)) (st.set k0 (.live (.lst (cs.map .int)))) := by
    simp [evE, evEs, ↓h.idx hv h.at0, vD, Rs.map, Rs.bind, Wv.toD, lstOf, cellOf, h.h0, evLm, seqIndex?, res]
  have s1 : exS cl wf (.asg (.nm 2) (.bi .abs (.cons (.lm .popAt (.idx (.var 0) (.int 0)) (.cons (.int 0) .nil)) .nil))) ρ st = .next (ρ.set 2 (some (.int cell))) (st.set k0 (.live (.lst (cs.map .int)))) := by
    simp [exS, evE, evEs, ↓p, vD, Rs.map, Rs.bind, Rs.st, Wv.toD, evBi, ofOt, asgT, cell]
  have s2 : exS cl wf (.asgSub (.var 0) (.int 3) (.bin .mod (.bi .int1 (.cons (.bin .add (.bin .add (.bin .mul (.idx (.var 0) (.int 3)) (.int 6151)) (.var 2)) (.int 5)) .nil)) (.int 2147483647))) (ρ.set 2 (some (.int cell))) (st.set k0 (.live (.lst (cs.map .int)))) =
      .next (ρ.set 2 (some (.int cell))) ((st.set k0 (.live (.lst (cs.map .int)))).set k1 (.live (.lst [.ref k0, .int 0, .int b, .int ((c * 6151 + cell + 5) % 2147483647)]))) := by
    simp [exS, evE, evEs, ↓h'.idx hv2 h'.at3, hv2, hc, vD, Rs.map, Rs.bind, Rs.st, Wv.toD, opB, evBi, h'.res1, ↓res_int, h'.put3]
  have s3 : exS cl wf (.asgSub (.var 0) (.int 1) (.ife (.cmp .ge (.var 2) (.bin .pow (.int 10) (.int 18))) (.var 2) (.int 0))) (ρ.set 2 (some (.int cell))) ((st.set k0 (.live (.lst (cs.map .int)))).set k1 (.live (.lst [.ref k0, .int 0, .int b, .int ((c * 6151 + cell + 5) % 2147483647)]))) =
      .next (ρ.set 2 (some (.int cell))) (((st.set k0 (.live (.lst (cs.map .int)))).set k1 (.live (.lst [.ref k0, .int 0, .int b, .int ((c * 6151 + cell + 5) % 2147483647)]))).set k1 (.live (.lst [.ref k0, .int (if 1000000000000000000 ≤ cell then cell else 0), .int b, .int ((c * 6151 + cell + 5) % 2147483647)]))) := by
    by_cases g : (1000000000000000000 : Int) ≤ cell
    · simp [exS, evE, hv2, hc, vD, Rs.map, Rs.bind, Rs.st, Wv.toD, ↓pow18, opC, ofB, g, h2.res1, ↓res_int, h2.put1]
    · simp [exS, evE, hv2, hc, vD, Rs.map, Rs.bind, Rs.st, Wv.toD, ↓pow18, opC, ofB, g, h2.res1, ↓res_int, h2.put1]
  rw [exS, s1]
  show exS cl wf (.cons _ _) _ _ = _
  rw [exS, s2]
  show exS cl wf (.cons _ _) _ _ = _
  rw [exS, s3]
  show exS cl wf .nil _ _ = _
  rw [exS]
theorem eq_int {x y : Int} : eqD st (.int x) (.int y) = some (x == y) := by
  simp [eqD, pyOf, D.py, SeqAt.shaped, PyData.canLay0, PyData.depth, PyData.eqv]
theorem pyInts : ∀ cs : List Int, D.pyL (cs.map .int) = some (cs.map .int)
  | [] => rfl
  | x :: cs => by simp [D.pyL, D.py, pyInts cs]
theorem layInts : ∀ cs : List Int, PyData.canLayAll0 (cs.map .int) = true
  | [] => rfl
  | x :: cs => by simp [PyData.canLayAll0, PyData.canLay0, layInts cs]
theorem depInts : ∀ cs : List Int, PyData.depthAll (cs.map .int) ≤ 1
  | [] => by simp [PyData.depthAll]
  | x :: cs => by
    have := depInts cs
    simp [PyData.depthAll, PyData.depth]
    omega
theorem ne_nil (h : Dw st k0 k1 cs a b c) : opC .ne (.ref k0) (.lst []) st = .ok (!cs.isEmpty) st := by
  have h1 : SeqAt.shaped (.list (cs.map .int)) = true := by
    have := depInts cs
    simp [SeqAt.shaped, PyData.canLay0, layInts cs, PyData.depth]
    omega
  have h2 : SeqAt.shaped (.list []) = true := by simp [SeqAt.shaped, PyData.canLay0, PyData.canLayAll0, PyData.depth, PyData.depthAll]
  have h3 : PyData.eqv (.list (cs.map .int)) (.list []) = cs.isEmpty := by cases cs <;> simp [PyData.eqv, PyData.eqvAll]
  simp [opC, eqD, pyOf, cellOf, h.h0, pyInts, D.py, D.pyL, h1, h2, h3, ofO]
/-- the test of the while -/
theorem pick_test (h : Dw st k0 k1 cs a b c) (hv : ρ[0]? = some (some (.ref k1))) :
    vD (evE cl (.and (.cmp .eq (.idx (.var 0) (.int 1)) (.int 0)) (.one (.cmp .ne (.idx (.var 0) (.int 0)) (.list .nil)))) ρ st) = .ok (.bl (a == 0 && !cs.isEmpty)) st := by
  have e1 : opC .eq (.int a) (.int 0) st = .ok (a == 0) st := by simp [opC, eq_int, ofO]
  cases g : (a == 0) with
  | true =>
    rw [g] at e1
    simp [evE, evEs, ↓h.idx hv h.at1, ↓h.idx hv h.at0, vD, Rs.map, Rs.bind, Wv.toD, Cell.toD, e1, ne_nil h, ofB]
  | false =>
    rw [g] at e1
    simp [evE, evEs, ↓h.idx hv h.at1, ↓h.idx hv h.at0, vD, Rs.map, Rs.bind, Wv.toD, Cell.toD, e1, ofB]
theorem pick_while : ∀ (cs : List Int) (wf0 wf : Nat) (ρ : Rho) (st : Sto) (a b c : Int), cs.length < wf → Dw st k0 k1 cs a b c → 0 ≤ a → (0 ≤ c ∧ c < 2147483647) → ρ[0]? = some (some (.ref k1)) → ρ.length = 5 →
    ∃ ρ' st' cs' a' c', whLoop (fun ρ st => vD (evE cl (.and (.cmp .eq (.idx (.var 0) (.int 1)) (.int 0)) (.one (.cmp .ne (.idx (.var 0) (.int 0)) (.list .nil)))) ρ st)) (fun ρ st => exS cl wf0 (.cons (.asg (.nm 2) (.bi .abs (.cons (.lm .popAt (.idx (.var 0) (.int 0)) (.cons (.int 0) .nil)) .nil))) (.cons (.asgSub (.var 0) (.int 3) (.bin .mod (.bi .int1 (.cons (.bin .add (.bin .add (.bin .mul (.idx (.var 0) (.int 3)) (.int 6151)) (.var 2)) (.int 5)) .nil)) (.int 2147483647))) (.cons (.asgSub (.var 0) (.int 1) (.ife (.cmp .ge (.var 2) (.bin .pow (.int 10) (.int 18))) (.var 2) (.int 0))) .nil))) ρ st) wf ρ st = .next ρ' st' ∧
      Dw st' k0 k1 cs' a' b c' ∧ 0 ≤ a' ∧ (0 ≤ c' ∧ c' < 2147483647) ∧ ρ'.length = 5 ∧ ρ'[0]? = some (some (.ref k1)) ∧ ρ'[1]? = ρ[1]? ∧ Off k0 k1 st st' ∧ cs'.length ≤ cs.length := by
  intro cs
  induction cs with
  | nil =>
    intro wf0 wf ρ st a b c hw h ha hc hv hl
    obtain ⟨wf, rfl⟩ : ∃ n, wf = n + 1 := ⟨wf - 1, by simp at hw; omega⟩
    refine ⟨ρ, st, [], a, c, ?_, h, ha, hc, hl, hv, rfl, .refl, Nat.le_refl _⟩
    rw [whLoop, pick_test h hv]
    simp [Rs.st]
  | cons x cs ih =>
    intro wf0 wf ρ st a b c hw h ha hc hv hl
    obtain ⟨wf, rfl⟩ : ∃ n, wf = n + 1 := ⟨wf - 1, by simp at hw; omega⟩
    by_cases g : a = 0
    · subst g
      have body := pick_body (cl := cl) (wf := wf0) h hv (by omega)
      dsimp only at body
      generalize hcell : (if x < 0 then -x else x) = cell at body
      have hcell0 : 0 ≤ cell := by rw [← hcell]; split <;> omega
      have hd := ((h.set0 (ds := cs)).set1 (a' := 0) (b' := b) (c' := (c * 6151 + cell + 5) % 2147483647)).set1 (a' := if 1000000000000000000 ≤ cell then cell else 0) (b' := b) (c' := (c * 6151 + cell + 5) % 2147483647)
      obtain ⟨ρ', st', cs', a', c', e, q1, q2, q3, q4, q5, q6, q7, q8⟩ := ih wf0 wf (ρ.set 2 (some (.int cell))) _ _ b _ (by simp at hw; omega) hd (by split <;> omega) ⟨Int.emod_nonneg _ (by decide), Int.emod_lt_of_pos _ (by decide)⟩
        (by rw [List.getElem?_set_ne (by decide)]; exact hv) (by simpa using hl)
      refine ⟨ρ', st', cs', a', c', ?_, q1, q2, q3, q4, q5, ?_, (Off.s0.trans (Off.s1.trans Off.s1)).trans q7, by simp; omega⟩
      · rw [whLoop, pick_test h hv]
        simp only [Rs.st, beq_self_eq_true, List.isEmpty_cons, Bool.not_false, Bool.and_self]
        rw [body]
        exact e
      · rw [q6, List.getElem?_set_ne (by decide)]
    · refine ⟨ρ, st, x :: cs, a, c, ?_, h, ha, hc, hl, hv, rfl, .refl, Nat.le_refl _⟩
      rw [whLoop, pick_test h hv]
      have : (a == 0) = false := by simpa using g
      simp [Rs.st, this]
theorem pow5 {x : Int} (h : x.natAbs < 18446744073709551616) : opB .pow (.int x) (.int 5) st = .ok (.d (.int (x ^ 5))) st := by simp [opB, h]
theorem pow3 {x : Int} (h : x.natAbs < 18446744073709551616) : opB .pow (.int x) (.int 3) st = .ok (.d (.int (x ^ 3))) st := by simp [opB, h]
theorem vD_ok {r : Rs Wv} {d : D} {st' : Sto} (h : r = .ok (.d d) st') : vD r = .ok d st' := by rw [h]; rfl
theorem ev_bin {op : BOp} {x y : IE φ} {dx dy : D} {st1 st2 : Sto} {r : Rs Wv} (h1 : evE cl x ρ st = .ok (.d dx) st1) (h2 : evE cl y ρ st1 = .ok (.d dy) st2) (h3 : opB op dx dy st2 = r) : evE cl (.bin op x y) ρ st = r := by
  rw [evE, vD_ok h1]
  show (vD (evE cl y ρ st1)).bind _ = _
  rw [vD_ok h2]
  exact h3
theorem ev_int {i : Int} : evE cl (.int i : IE φ) ρ st = .ok (.d (.int i)) st := by rw [evE]
theorem ev_int1 {x : IE φ} {i : Int} {st1 : Sto} (h : evE cl x ρ st = .ok (.d (.int i)) st1) : evE cl (.bi .int1 (.cons x .nil)) ρ st = .ok (.d (.int i)) st1 := by
  rw [evE, evEs, vD_ok h]
  simp [Rs.bind, evEs, evBi]
theorem ev_var {i : Nat} {d : D} (h : ρ[i]? = some (some d)) : evE cl (.var i : IE φ) ρ st = .ok (.d (Fd.res st d)) st := by
  rw [evE, h]
theorem ev_varp {i : Nat} {d : D} (h : ρ[i]? = some (some d)) (hr : Fd.res st d = d) : evE cl (.var i : IE φ) ρ st = .ok (.d d) st := by rw [ev_var h, hr]
theorem ev_vari {i : Nat} {j : Int} (h : ρ[i]? = some (some (.int j))) : evE cl (.var i : IE φ) ρ st = .ok (.d (.int j)) st := ev_var h
theorem addO {x y : Int} : opB .add (.int x) (.int y) st = .ok (.d (.int (x + y))) st := rfl
theorem mulO {x y : Int} (h : -(2 ^ 64) < x ∧ x < 2 ^ 64 ∨ -(2 ^ 64) < y ∧ y < 2 ^ 64) : opB .mul (.int x) (.int y) st = .ok (.d (.int (x * y))) st := if_pos h
theorem modO {x y : Int} (h : 0 < y) : opB .mod (.int x) (.int y) st = .ok (.d (.int (x % y))) st := if_pos h
/-- what a pick leaves -/
structure Pk (k0 k1 : Nat) (n : Nat) (b : Int) (st : Sto) : Prop where
  ex : ∃ cs a c, Dw st k0 k1 cs a b c ∧ 0 ≤ a ∧ (0 ≤ c ∧ c < 2147483647) ∧ cs.length ≤ n
theorem pick_ok {T : φ → Fn φ} {f : φ} (hT : T f = irPick) {wf n m0 : Nat} {m : Int} (hw : m0 < wf) (hm : 0 < m) (hm2 : m < 1073741824) (hb : 0 ≤ b) (hb2 : b < 1099511627776) (h : Pk k0 k1 m0 b st) :
    ∃ d st', callN T wf (n + 1) f [.ref k1, .int m] st = .ok (.d (.int d)) st' ∧ 0 ≤ d ∧ d < m ∧ Pk k0 k1 m0 (b + 1) st' ∧ Off k0 k1 st st' := by
  obtain ⟨cs, a, c, h, ha, hc, hn⟩ := h.ex
  have v0 : ([some (D.ref k1), some (D.int m), none, none, none] : Rho)[0]? = some (some (.ref k1)) := rfl
  have h2 := h.set1 (a' := a) (b' := b + 1) (c' := c)
  obtain ⟨ρ', st', cs', a', c', e, q1, q2, q3, q4, q5, q6, q7, q8⟩ := pick_while (cl := callN T wf n) cs wf wf [some (D.ref k1), some (D.int m), none, none, none] _ a (b + 1) c (by omega) h2 ha hc v0 rfl
  have vm : ρ'[1]? = some (some (.int m)) := q6
  have s1 : exS (callN T wf n) wf (.asgSub (.var 0) (.int 2) (.bin .add (.idx (.var 0) (.int 2)) (.int 1))) [some (D.ref k1), some (D.int m), none, none, none] st = .next [some (D.ref k1), some (D.int m), none, none, none] (st.set k1 (.live (.lst [.ref k0, .int a, .int (b + 1), .int c]))) := by
    simp [exS, evE, evEs, ↓h.idx v0 h.at2, vD, Rs.map, Rs.bind, Rs.st, Wv.toD, opB, ↓res_int, h.res1, h.put2]
  have e0 : callN T wf (n + 1) f [.ref k1, .int m] st = match exS (callN T wf n) wf (irPick (φ := φ)).body [some (D.ref k1), some (D.int m), none, none, none] st with
    | .next _ st1 => .ok (.d .non) st1
    | .ret w st1 => .ok w st1
    | .exc e _ st1 => .exc e st1
    | .err => .err := by
    rw [callN, hT]
    rfl
  rw [e0]
  unfold irPick
  dsimp only
  rw [exS, s1]
  simp only [Rt.bind]
  rw [exS, exS, e]
  simp only [Rt.bind]
  have off := (Off.s1 (v := .live (.lst [.ref k0, .int a, .int (b + 1), .int c])) (st := st) (k0 := k0)).trans q7
  by_cases g : 0 < a'
  · have hset : (ρ'.set 3 (some (.int (a' % m))))[0]? = some (some (.ref k1)) := by rw [List.getElem?_set_ne (by decide)]; exact q5
    have hset1 : (ρ'.set 3 (some (.int (a' % m))))[1]? = some (some (.int m)) := by rw [List.getElem?_set_ne (by decide)]; exact vm
    have hset3 : (ρ'.set 3 (some (.int (a' % m))))[3]? = some (some (.int (a' % m))) := List.getElem?_set_self (by omega)
    refine ⟨a' % m, st'.set k1 (.live (.lst [.ref k0, .int (a' / m), .int (b + 1), .int c'])), ?_, Int.emod_nonneg _ (by omega), Int.emod_lt_of_pos _ hm, ⟨cs', a' / m, c', q1.set1, Int.ediv_nonneg q2 (by omega), q3, by omega⟩, off.trans Off.s1⟩
    simp [exS, evE, evEs, ↓q1.idx q5 q1.at1, vD, Rs.map, Rs.bind, Rs.st, Rt.bind, Wv.toD, opC, ofB, g, evBi, vm, opB, hm, ↓res_int, ofOt, asgT, ↓q1.idx hset q1.at1, hset, hset1, hset3, hm2, q1.res1, q1.put1]
  · have a0 : a' = 0 := by omega
    subst a0
    have p1 : (c' + 7907 * (b + 1) + 104723).natAbs < 18446744073709551616 := by omega
    generalize hmx : (c' + 7907 * (b + 1) + 104723) ^ 5 % 2147483629 = mx
    have mx0 : 0 ≤ mx := by rw [← hmx]; exact Int.emod_nonneg _ (by decide)
    have mx1 : mx < 2147483629 := by rw [← hmx]; exact Int.emod_lt_of_pos _ (by decide)
    have p2 : (mx * 48271 + 30011 * (b + 1) + 31).natAbs < 18446744073709551616 := by omega
    have hset : (ρ'.set 4 (some (.int mx)))[0]? = some (some (.ref k1)) := by rw [List.getElem?_set_ne (by decide)]; exact q5
    have hset1 : (ρ'.set 4 (some (.int mx)))[1]? = some (some (.int m)) := by rw [List.getElem?_set_ne (by decide)]; exact vm
    have hset4 : (ρ'.set 4 (some (.int mx)))[4]? = some (some (.int mx)) := List.getElem?_set_self (by omega)
    refine ⟨(mx * 48271 + 30011 * (b + 1) + 31) ^ 3 % 1000000007 % m, st', ?_, Int.emod_nonneg _ (by omega), Int.emod_lt_of_pos _ hm, ⟨cs', 0, c', q1, q2, q3, by omega⟩, off⟩
    have t1 : evE (callN T wf n) (.bin .mod (.bi .int1 (.cons (.bin .pow (.bin .add (.bin .add (.idx (.var 0) (.int 3)) (.bin .mul (.int 7907) (.idx (.var 0) (.int 2)))) (.int 104723)) (.int 5)) .nil)) (.int 2147483629)) ρ' st' = .ok (.d (.int mx)) st' := by
      rw [← hmx]
      exact ev_bin (ev_int1 (ev_bin (ev_bin (ev_bin (q1.idx q5 q1.at3) (ev_bin ev_int (q1.idx q5 q1.at2) (mulO (.inl (by decide)))) addO) ev_int addO) ev_int (pow5 p1))) ev_int (modO (by decide))
    have t2 : evE (callN T wf n) (.bin .mod (.bin .mod (.bi .int1 (.cons (.bin .pow (.bin .add (.bin .add (.bin .mul (.var 4) (.int 48271)) (.bin .mul (.int 30011) (.idx (.var 0) (.int 2)))) (.int 31)) (.int 3)) .nil)) (.int 1000000007)) (.var 1)) (ρ'.set 4 (some (.int mx))) st' = .ok (.d (.int ((mx * 48271 + 30011 * (b + 1) + 31) ^ 3 % 1000000007 % m))) st' := by
      exact ev_bin (ev_bin (ev_int1 (ev_bin (ev_bin (ev_bin (ev_bin (ev_vari hset4) ev_int (mulO (.inr (by decide))) ) (ev_bin ev_int (q1.idx hset q1.at2) (mulO (.inl (by decide)))) addO) ev_int addO) ev_int (pow3 p2))) ev_int (modO (by decide))) (ev_vari hset1) (modO hm)
    simp [exS, ↓t1, ↓t2, evE, evEs, ↓q1.idx q5 q1.at1, vD, Rs.map, Rs.bind, Rs.st, Rt.bind, Wv.toD, opC, ofB, ofOt, asgT]
theorem Pk.res (h : Pk k0 k1 n b st) : res st (.ref k1) = .ref k1 := by obtain ⟨cs, a, c, h, _⟩ := h.ex; exact h.res1
theorem ev_call {f : φ} {es : IE φ} {ds : List D} {st1 : Sto} {r : Rs Wv} (h : evEs cl es ρ st = .ok ds st1) (h2 : cl f ds st1 = r) : evE cl (.call f es) ρ st = r := by
  rw [evE, h]
  exact h2
theorem evs_nil : evEs cl (.nil : IE φ) ρ st = .ok [] st := by rw [evEs]
theorem evs_cons {x r : IE φ} {d : D} {ds : List D} {st1 st2 : Sto} (h : evE cl x ρ st = .ok (.d d) st1) (h2 : evEs cl r ρ st1 = .ok ds st2) : evEs cl (.cons x r) ρ st = .ok (d :: ds) st2 := by
  rw [evEs, vD_ok h]
  show (evEs cl r ρ st1).bind _ = _
  rw [h2]
  rfl
theorem ev_bi {bb : Bi} {es : IE φ} {ds : List D} {st1 : Sto} {r : Rs Wv} (h : evEs cl es ρ st = .ok ds st1) (h2 : evBi bb ds st1 = r) : evE cl (.bi bb es) ρ st = r := by
  rw [evE, h]
  exact h2
/-- a def that only returns -/
theorem call_ret {T : φ → Fn φ} {f : φ} {np : Nat} {N : List Str} {e : IE φ} {wf n : Nat} {ds : List D} {w : Wv} {st' : Sto} (hT : T f = ⟨np, N, .cons (.ret e) .nil⟩) (hl : ds.length = np) (h : evE (callN T wf n) e (startR N.length ds) st = .ok w st') : callN T wf (n + 1) f ds st = .ok w st' := by
  rw [callN, hT, if_pos hl]
  simp only [exS]
  rw [h]
  rfl
def irBetween (p : φ) : Fn φ := ⟨3, ["state", "low", "high"], (.cons (.ret (.bin .add (.var 1) (.call p (.cons (.var 0) (.cons (.bin .add (.bi .max2 (.cons (.bin .sub (.var 2) (.var 1)) (.cons (.int 0) .nil))) (.int 1)) .nil))))) .nil)⟩
theorem between_ok {T : φ → Fn φ} {f p : φ} (hT : T f = irBetween p) (hp : T p = irPick) {wf n m0 : Nat} {lo hi : Int} (hw : m0 < wf) (h1 : hi - lo < 1000000000) (hb : 0 ≤ b) (hb2 : b < 1099511627776) (h : Pk k0 k1 m0 b st) :
    ∃ d st', callN T wf (n + 2) f [.ref k1, .int lo, .int hi] st = .ok (.d (.int (lo + d))) st' ∧ 0 ≤ d ∧ (d ≤ hi - lo ∨ d = 0) ∧ Pk k0 k1 m0 (b + 1) st' ∧ Off k0 k1 st st' := by
  generalize hmx : (if (0 : Int) > hi - lo then 0 else hi - lo) = mx
  have mx0 : 0 ≤ mx := by rw [← hmx]; split <;> omega
  have mx1 : mx < 1000000000 := by rw [← hmx]; split <;> omega
  obtain ⟨d, st', e, d0, d1, q1, q2⟩ := pick_ok hp (n := n) (m := mx + 1) hw (by omega) (by omega) hb hb2 h
  refine ⟨d, st', call_ret hT rfl ?_, d0, ?_, q1, q2⟩
  · refine ev_bin (st1 := st) (dx := .int lo) (dy := .int d) (ev_vari rfl) (ev_call (ds := [.ref k1, .int (mx + 1)]) (evs_cons (d := .ref k1) (ev_varp rfl h.res) (evs_cons (st1 := st) ?_ evs_nil)) e) addO
    refine ev_bin (dx := .int mx) (ev_bi (ds := [.int (hi - lo), .int 0]) (evs_cons (st1 := st) (ev_bin (st1 := st) (dx := .int hi) (dy := .int lo) (ev_vari rfl) (ev_vari rfl) rfl) (evs_cons ev_int evs_nil)) ?_) ev_int addO
    rw [← hmx]
    rfl
  · rw [← hmx] at d1
    split at d1 <;> omega
def irOne (p : φ) : Fn φ := ⟨2, ["state", "things"], (.cons (.ret (.idx (.var 1) (.call p (.cons (.var 0) (.cons (.bi .len (.cons (.var 1) .nil)) .nil))))) .nil)⟩
/-- one of a frozen list -/
theorem one_ok {T : φ → Fn φ} {f p : φ} (hT : T f = irOne p) (hp : T p = irPick) {wf n m0 : Nat} {xs : List D} (hw : m0 < wf) (h1 : 0 < xs.length) (h2 : xs.length < 1000000000) (hb : 0 ≤ b) (hb2 : b < 1099511627776) (h : Pk k0 k1 m0 b st) :
    ∃ (i : Nat) (hi : i < xs.length) (st' : Sto), callN T wf (n + 2) f [.ref k1, .lst xs] st = .ok (.d (Fd.res st' xs[i])) st' ∧ Pk k0 k1 m0 (b + 1) st' ∧ Off k0 k1 st st' := by
  obtain ⟨d, st', e, d0, d1, q1, q2⟩ := pick_ok hp (n := n) (m := xs.length) hw (by omega) (by omega) hb hb2 h
  have hi : d.toNat < xs.length := by omega
  refine ⟨d.toNat, hi, st', call_ret hT rfl ?_, q1, q2⟩
  have v1 : evE (callN T wf (n + 1)) (.var 1 : IE φ) (startR (["state", "things"] : List Str).length [.ref k1, .lst xs]) st = .ok (.d (.lst xs)) st := ev_varp rfl rfl
  have c1 : evE (callN T wf (n + 1)) (.call p (.cons (.var 0) (.cons (.bi .len (.cons (.var 1) .nil)) .nil))) (startR (["state", "things"] : List Str).length [.ref k1, .lst xs]) st = .ok (.d (.int d)) st' :=
    ev_call (ds := [.ref k1, .int xs.length]) (evs_cons (d := .ref k1) (ev_varp rfl h.res) (evs_cons (ev_bi (ds := [.lst xs]) (evs_cons v1 evs_nil) (by simp [evBi, dicOf, seqOf, lstOf])) evs_nil)) e
  rw [evE, vD_ok v1]
  show (vD (evE _ _ _ st)).bind _ = _
  rw [vD_ok c1]
  have g : getAt st' (.lst xs) (.int d) = some (Fd.res st' xs[d.toNat]) := by
    show (atI xs d).map (Fd.res st') = _
    have ed : d = (d.toNat : Int) := by omega
    have e2 : atI xs d = some xs[d.toNat] := by
      conv => lhs; rw [ed]
      exact atI_nat (List.getElem?_eq_getElem hi)
    rw [e2]
    rfl
  show (ofO (getAt st' (.lst xs) (.int d)) st').map Wv.d = _
  rw [g]
  rfl
/-! ### a list in another order -/
def irMixed (p : φ) : Fn φ := ⟨2, ["state", "things", "left", "found", "k"], (.cons (.par [2,3] (.cons (.mk (.bi .list (.cons (.var 1) .nil))) (.cons (.mk (.list .nil)) .nil))) (.cons (.for_ (.nm 4) (.bi .range (.cons (.bi .len (.cons (.var 2) .nil)) .nil)) (.cons (.expr (.lm .append (.var 3) (.cons (.lm .popAt (.var 2) (.cons (.call p (.cons (.var 0) (.cons (.bi .len (.cons (.var 2) .nil)) .nil))) .nil)) .nil))) .nil)) (.cons (.ret (.snap 3)) .nil)))⟩
/-- data that no store changes -/
def Fix (d : D) : Prop := ∀ st, Fd.res st d = d
structure Mx (k0 k1 kl kf m0 : Nat) (b : Int) (left found : List D) (st : Sto) : Prop where
  pk : Pk k0 k1 m0 b st
  l : st[kl]? = some (.live (.lst left))
  f : st[kf]? = some (.live (.lst found))
theorem Off.get {st st' : Sto} {i : Nat} {x : Slot} (o : Off k0 k1 st st') (h0 : i ≠ k0) (h1 : i ≠ k1) (h : st[i]? = some x) : st'[i]? = some x := by rw [o.2 i h0 h1]; exact h
theorem Pk.set {i : Nat} {v : Slot} (h : Pk k0 k1 n b st) (h0 : i ≠ k0) (h1 : i ≠ k1) : Pk k0 k1 n b (st.set i v) := by
  obtain ⟨cs, a, c, q, r⟩ := h.ex
  exact ⟨cs, a, c, ⟨q.ne, by rw [List.getElem?_set_ne h0]; exact q.h0, by rw [List.getElem?_set_ne h1]; exact q.h1⟩, r⟩
theorem mix_turn {T : φ → Fn φ} {p : φ} (hp : T p = irPick) {wf n m0 kl kf : Nat} {left found : List D} (hw : m0 < wf) (hl0 : 0 < left.length) (hl1 : left.length < 1000000000) (hfl : found.length < lim) (hb : 0 ≤ b) (hb2 : b < 1099511627776) (hx : ∀ d ∈ left, Fix d)
    (n1 : kl ≠ k0) (n2 : kl ≠ k1) (n3 : kf ≠ k0) (n4 : kf ≠ k1) (n5 : kl ≠ kf) (h : Mx k0 k1 kl kf m0 b left found st) (v0 : ρ[0]? = some (some (.ref k1))) (v2 : ρ[2]? = some (some (.ref kl))) (v3 : ρ[3]? = some (some (.ref kf))) :
    ∃ (j : Nat) (hj : j < left.length) (st' : Sto), exS (callN T wf (n + 1)) wf (.cons (.expr (.lm .append (.var 3) (.cons (.lm .popAt (.var 2) (.cons (.call p (.cons (.var 0) (.cons (.bi .len (.cons (.var 2) .nil)) .nil))) .nil)) .nil))) .nil) ρ st = .next ρ st' ∧ Mx k0 k1 kl kf m0 (b + 1) (left.eraseIdx j) (found ++ [left[j]]) st' ∧
      st'.length = st.length ∧ ∀ i, i ≠ k0 → i ≠ k1 → i ≠ kl → i ≠ kf → st'[i]? = st[i]? := by
  obtain ⟨d, s1, e, d0, d1, q1, q2⟩ := pick_ok hp (n := n) (m := left.length) hw (by omega) (by omega) hb hb2 h.pk
  have hj : d.toNat < left.length := by omega
  have l1 := q2.get n1 n2 h.l
  have f1 := q2.get n3 n4 h.f
  have r2 : ∀ s : Sto, s[kl]? = some (.live (.lst left)) → Fd.res s (.ref kl) = .ref kl := fun s hs => by simp [Fd.res, hs]
  have r3 : ∀ s : Sto, s[kf]? = some (.live (.lst found)) → Fd.res s (.ref kf) = .ref kf := fun s hs => by simp [Fd.res, hs]
  have c1 : evE (callN T wf (n + 1)) (.call p (.cons (.var 0) (.cons (.bi .len (.cons (.var 2) .nil)) .nil))) ρ st = .ok (.d (.int d)) s1 :=
    ev_call (ds := [.ref k1, .int left.length]) (evs_cons (ev_varp v0 h.pk.res) (evs_cons (ev_bi (ds := [.ref kl]) (evs_cons (ev_varp v2 (r2 _ h.l)) evs_nil) (by simp [evBi, dicOf, seqOf, lstOf, cellOf, h.l])) evs_nil)) e
  have fx := hx _ (List.getElem_mem hj)
  have p1 : evE (callN T wf (n + 1)) (.lm .popAt (.var 2) (.cons (.call p (.cons (.var 0) (.cons (.bi .len (.cons (.var 2) .nil)) .nil))) .nil)) ρ st = .ok (.d left[d.toNat]) (s1.set kl (.live (.lst (left.eraseIdx d.toNat)))) := by
    rw [evE, vD_ok (ev_varp v2 (r2 _ h.l))]
    simp only [Rs.bind]
    rw [show lstOf st (.ref kl) = some left by simp [lstOf, cellOf, h.l]]
    dsimp only
    rw [evs_cons c1 evs_nil]
    dsimp only
    have sx : seqIndex? d left.length = some d.toNat := by simp [seqIndex?]; omega
    simp [evLm, l1, sx, List.getElem?_eq_getElem hj, fx s1]
    omega
  have l2 : (s1.set kl (.live (.lst (left.eraseIdx d.toNat))))[kf]? = some (.live (.lst found)) := by rw [List.getElem?_set_ne n5]; exact f1
  refine ⟨d.toNat, hj, (s1.set kl (.live (.lst (left.eraseIdx d.toNat)))).set kf (.live (.lst (found ++ [left[d.toNat]]))), ?_, ⟨(q1.set n1 n2).set n3 n4, ?_, ?_⟩, ?_, fun i h0 h1 h2 h3 => ?_⟩
  · have a1 : evE (callN T wf (n + 1)) (.lm .append (.var 3) (.cons (.lm .popAt (.var 2) (.cons (.call p (.cons (.var 0) (.cons (.bi .len (.cons (.var 2) .nil)) .nil))) .nil)) .nil)) ρ st = .ok (.d .non) ((s1.set kl (.live (.lst (left.eraseIdx d.toNat)))).set kf (.live (.lst (found ++ [left[d.toNat]])))) := by
      rw [evE, vD_ok (ev_varp v3 (r3 _ h.f))]
      simp only [Rs.bind]
      rw [show lstOf st (.ref kf) = some found by simp [lstOf, cellOf, h.f]]
      dsimp only
      rw [evs_cons p1 evs_nil]
      dsimp only
      simp [evLm, l2, hfl]
    simp [exS, vD_ok a1, Rs.st, Rt.bind]
  · rw [List.getElem?_set_ne (Ne.symm n5), List.getElem?_set_self (List.getElem?_eq_some_iff.mp l1).1]
  · rw [List.getElem?_set_self (by simpa using (List.getElem?_eq_some_iff.mp f1).1)]
  · simp [q2.1]
  · rw [List.getElem?_set_ne (Ne.symm h3), List.getElem?_set_ne (Ne.symm h2)]
    exact q2.2 i h0 h1
theorem small_len {n : Nat} (h : n ≤ 1000000) : small62 (n : Int) := by
  have h1 : (2 : Int) ^ 62 = 4611686018427387904 := by decide
  unfold small62
  rw [h1]
  omega
theorem len_ref {s : Sto} {k : Nat} {xs : List D} (h : s[k]? = some (.live (.lst xs))) : evBi .len [.ref k] s = .ok (.d (.int xs.length)) s := by simp [evBi, dicOf, seqOf, lstOf, cellOf, h]
theorem live_res {s : Sto} {k : Nat} {c : Cell} (h : s[k]? = some (.live c)) : Fd.res s (.ref k) = .ref k := by simp [Fd.res, h]
theorem perm_erase {α : Type} : ∀ {l : List α} {j : Nat} (h : j < l.length), (l[j] :: l.eraseIdx j).Perm l
  | a :: l, 0, _ => .refl _
  | a :: l, j + 1, h => by
    have ih := perm_erase (l := l) (j := j) (by simpa using h)
    exact (List.Perm.swap a (l[j]'(by simpa using h)) _).trans (ih.cons a)
theorem mix_loop {T : φ → Fn φ} {p : φ} (hp : T p = irPick) {wf n m0 kl kf : Nat} (hw : m0 < wf) (n1 : kl ≠ k0) (n2 : kl ≠ k1) (n3 : kf ≠ k0) (n4 : kf ≠ k1) (n5 : kl ≠ kf) : ∀ (l : List D) (left found : List D) (ρ : Rho) (st : Sto) (b : Int), l.length = left.length → found.length + left.length ≤ 1000000 → 0 ≤ b → b + left.length < 1099511627776 →
    (∀ d ∈ left, Fix d) → Mx k0 k1 kl kf m0 b left found st → ρ[0]? = some (some (.ref k1)) → ρ[2]? = some (some (.ref kl)) → ρ[3]? = some (some (.ref kf)) →
    ∃ ρ' st' ys, forLoop (.nm 4) (fun ρ st => exS (callN T wf (n + 1)) wf (.cons (.expr (.lm .append (.var 3) (.cons (.lm .popAt (.var 2) (.cons (.call p (.cons (.var 0) (.cons (.bi .len (.cons (.var 2) .nil)) .nil))) .nil)) .nil))) .nil) ρ st) l ρ st = .next ρ' st' ∧ ρ'[3]? = some (some (.ref kf)) ∧
      Mx k0 k1 kl kf m0 (b + left.length) [] ys st' ∧ ys.Perm (found ++ left) ∧ st'.length = st.length ∧ ∀ i, i ≠ k0 → i ≠ k1 → i ≠ kl → i ≠ kf → st'[i]? = st[i]? := by
  intro l
  induction l with
  | nil =>
    intro left found ρ st b hl hs hb hb2 hx h v0 v2 v3
    obtain rfl : left = [] := List.eq_nil_of_length_eq_zero hl.symm
    exact ⟨ρ, st, found, by rw [forLoop], v3, by simpa using h, by simp, rfl, fun _ _ _ _ _ => rfl⟩
  | cons d l ih =>
    intro left found ρ st b hl hs hb hb2 hx h v0 v2 v3
    simp only [List.length_cons] at hl
    have w0 : (ρ.set 4 (some d))[0]? = some (some (.ref k1)) := by rw [List.getElem?_set_ne (by decide)]; exact v0
    have w2 : (ρ.set 4 (some d))[2]? = some (some (.ref kl)) := by rw [List.getElem?_set_ne (by decide)]; exact v2
    have w3 : (ρ.set 4 (some d))[3]? = some (some (.ref kf)) := by rw [List.getElem?_set_ne (by decide)]; exact v3
    obtain ⟨j, hj, s1, e, q1, q2, q3⟩ := mix_turn hp (n := n) hw (by omega) (by omega) (by unfold lim; omega) hb (by omega) hx n1 n2 n3 n4 n5 h w0 w2 w3
    have le : (left.eraseIdx j).length + 1 = left.length := by rw [List.length_eraseIdx_of_lt hj]; omega
    obtain ⟨ρ', st', ys, e2, r1, r2, r3, r4, r5⟩ := ih (left.eraseIdx j) (found ++ [left[j]]) (ρ.set 4 (some d)) s1 (b + 1) (by omega) (by simp; omega) (by omega) (by omega) (fun x hx' => hx x (List.mem_of_mem_eraseIdx hx')) q1 w0 w2 w3
    refine ⟨ρ', st', ys, ?_, r1, ?_, ?_, r4.trans q2, fun i h0 h1 h2 h3 => (r5 i h0 h1 h2 h3).trans (q3 i h0 h1 h2 h3)⟩
    · rw [forLoop]
      simp only [asgT]
      rw [e]
      exact e2
    · have : b + 1 + ((left.eraseIdx j).length : Int) = b + (left.length : Int) := by omega
      rw [← this]
      exact r2
    · refine r3.trans ?_
      rw [List.append_assoc]
      exact List.Perm.append_left found (perm_erase hj)
end
end Fd

set_option Elab.async false
set_option linter.all false
set_option maxHeartbeats 1000000
/-! what a run gives, by what is wanted of it -/
namespace Fd
open PySem L2
variable {φ : Type}
def wpE {α : Type} (r : Rs α) (Q : α → Sto → Prop) : Prop := match r with
  | .ok a st => Q a st
  | _ => False
def wpS (r : Rt) (N : Rho → Sto → Prop) (R : Wv → Sto → Prop) : Prop := match r with
  | .next ρ st => N ρ st
  | .ret w st => R w st
  | _ => False
section
variable {α β : Type} {Q Q' : α → Sto → Prop}
theorem wpE_ok {a : α} {st : Sto} : wpE (.ok a st) Q = Q a st := rfl
theorem wpE_bind {r : Rs β} {f : β → Sto → Rs α} : wpE (r.bind f) Q = wpE r fun b st => wpE (f b st) Q := by cases r <;> rfl
theorem wpE_map {r : Rs β} {f : β → α} : wpE (r.map f) Q = wpE r fun b st => Q (f b) st := by cases r <;> rfl
theorem wpE_vD {r : Rs Wv} {Q : D → Sto → Prop} : wpE (vD r) Q = wpE r fun w st => Q w.toD st := wpE_map
theorem wpE_ofB {r : Rs Bool} {Q : Wv → Sto → Prop} : wpE (ofB r) Q = wpE r fun b st => Q (.d (.bl b)) st := wpE_map
theorem wpE_ofO {o : Option α} {st : Sto} : wpE (ofO o st) Q = ∃ a, o = some a ∧ Q a st := by
  cases o with
  | none => simp [ofO, wpE]
  | some a => simp [ofO, wpE]
theorem wpE.imp {r : Rs α} (h : wpE r Q) (f : ∀ a st, Q a st → Q' a st) : wpE r Q' := by
  cases r with
  | ok a st => exact f a st h
  | exc e st => exact h
  | err => exact h
theorem wpE_ex {r : Rs α} (h : wpE r Q) : ∃ a st, r = .ok a st ∧ Q a st := by
  cases r with
  | ok a st => exact ⟨a, st, rfl, h⟩
  | exc e st => exact h.elim
  | err => exact h.elim
theorem wpE_of {r : Rs α} {a : α} {st : Sto} (e : r = .ok a st) (h : Q a st) : wpE r Q := by rw [e]; exact h
end
section
variable {N N' : Rho → Sto → Prop} {R R' : Wv → Sto → Prop} {r : Rt}
theorem wpS_next {ρ : Rho} {st : Sto} : wpS (.next ρ st) N R = N ρ st := rfl
theorem wpS_ret {w : Wv} {st : Sto} : wpS (.ret w st) N R = R w st := rfl
theorem wpS_bind {f : Rho → Sto → Rt} : wpS (r.bind f) N R = wpS r (fun ρ st => wpS (f ρ st) N R) R := by cases r <;> rfl
theorem wpS_st {α : Type} {r : Rs α} {ρ : Rho} {f : α → Sto → Rt} : wpS (r.st ρ f) N R = wpE r fun a st => wpS (f a st) N R := by cases r <;> rfl
theorem wpS.imp (h : wpS r N R) (f : ∀ ρ st, N ρ st → N' ρ st) (g : ∀ w st, R w st → R' w st) : wpS r N' R' := by
  cases r with
  | next ρ st => exact f ρ st h
  | ret w st => exact g w st h
  | exc e ρ st => exact h
  | err => exact h
theorem wpS_ofOt {o : Option Rho} {st : Sto} : wpS (ofOt o st) N R = ∃ ρ, o = some ρ ∧ N ρ st := by
  cases o with
  | none => simp [ofOt, wpS]
  | some a => simp [ofOt, wpS]
/-- a for, by its invariant -/
theorem wpS_for {t : Tg} {body : Rho → Sto → Rt} (I : Nat → Rho → Sto → Prop) : ∀ (xs : List D) (i : Nat) (ρ : Rho) (st : Sto), I i ρ st →
    (∀ (j : Nat) (x : D) (ρ : Rho) (st : Sto), xs[j]? = some x → I (i + j) ρ st → ∃ ρ1, asgT t x st ρ = some ρ1 ∧ wpS (body ρ1 st) (I (i + j + 1)) R) → (∀ ρ st, I (i + xs.length) ρ st → N ρ st) → wpS (forLoop t body xs ρ st) N R
  | [], i, ρ, st, h, _, q => by rw [forLoop]; exact q ρ st h
  | x :: xs, i, ρ, st, h, f, q => by
    obtain ⟨ρ1, e, w⟩ := f 0 x ρ st rfl h
    rw [forLoop, e]
    simp only [wpS_bind]
    refine w.imp (fun ρ2 st2 h2 => ?_) fun _ _ h => h
    refine wpS_for I xs (i + 1) ρ2 st2 h2 (fun j y ρ st hj hI => ?_) fun ρ st hI => q ρ st (by rw [List.length_cons, show i + (xs.length + 1) = i + 1 + xs.length by omega]; exact hI)
    have := f (j + 1) y ρ st (by simpa using hj) (by rw [show i + (j + 1) = i + 1 + j by omega]; exact hI)
    rw [show i + (j + 1) + 1 = i + 1 + j + 1 by omega] at this
    exact this
/-- a call's promise from its body's -/
theorem wpE_call {T : φ → Fn φ} {wf n : Nat} {f : φ} {ds : List D} {st : Sto} {Q : Wv → Sto → Prop} {F : Fn φ} (hT : T f = F) (hl : ds.length = F.np) (h : wpS (exS (callN T wf n) wf F.body (startR F.N.length ds) st) (fun _ st' => Q (.d .non) st') Q) : wpE (callN T wf (n + 1) f ds st) Q := by
  subst hT
  rw [callN, if_pos hl]
  revert h
  cases exS (callN T wf n) wf (T f).body (startR (T f).N.length ds) st with
  | next ρ st' => exact id
  | ret w st' => exact id
  | exc e ρ st' => exact id
  | err => exact id
/-- a comprehension whose parts are plain -/
theorem lcLoop_eq {t : Tg} {ρ : Rho} {cond elt : Rho → Sto → Rs D} {st : Sto} (p : D → Bool) (g : D → D) : ∀ (xs acc : List D), acc.length + xs.length ≤ lim →
    (∀ x ∈ xs, ∃ ρ1, asgT t x st ρ = some ρ1 ∧ cond ρ1 st = .ok (.bl (p x)) st ∧ (p x = true → elt ρ1 st = .ok (g x) st)) → lcLoop t ρ cond elt xs acc st = .ok (acc ++ (xs.filter p).map g) st
  | [], acc, _, _ => by simp [lcLoop]
  | x :: xs, acc, hl, h => by
    obtain ⟨ρ1, e1, e2, e3⟩ := h x List.mem_cons_self
    have h' : ∀ y ∈ xs, _ := fun y hy => h y (List.mem_cons_of_mem _ hy)
    rw [List.length_cons] at hl
    simp only [lcLoop, e1, e2]
    cases hp : p x with
    | false =>
      show lcLoop t ρ cond elt xs acc st = _
      rw [lcLoop_eq p g xs acc (by omega) h', List.filter_cons_of_neg (by simp [hp])]
    | true =>
      show (match elt ρ1 st with | .ok y st2 => if acc.length < lim then lcLoop t ρ cond elt xs (acc ++ [y]) st2 else .err | _ => .err) = _
      rw [e3 hp]
      dsimp only
      rw [if_pos (by omega), lcLoop_eq p g xs (acc ++ [g x]) (by simp; omega) h', List.filter_cons_of_pos hp, List.map_cons, List.append_assoc]
      rfl
theorem filter_true {α : Type} (xs : List α) : xs.filter (fun _ => true) = xs := by simp
/-- a comprehension over a changing store -/
theorem wpE_lc {t : Tg} {ρ : Rho} {cond elt : Rho → Sto → Rs D} (I : Nat → List D → Sto → Prop) {Q : List D → Sto → Prop} : ∀ (xs acc : List D) (i : Nat) (st : Sto), acc.length + xs.length ≤ lim → I i acc st →
    (∀ (j : Nat) (x : D) (acc : List D) (st : Sto), xs[j]? = some x → I (i + j) acc st → ∃ ρ1, asgT t x st ρ = some ρ1 ∧ wpE (cond ρ1 st) fun b st1 => (b = .bl true ∧ wpE (elt ρ1 st1) fun y st2 => I (i + j + 1) (acc ++ [y]) st2) ∨ (b = .bl false ∧ I (i + j + 1) acc st1)) →
    (∀ acc st, I (i + xs.length) acc st → Q acc st) → wpE (lcLoop t ρ cond elt xs acc st) Q
  | [], acc, i, st, _, h, _, q => by rw [lcLoop]; exact q acc st h
  | x :: xs, acc, i, st, hl, h, f, q => by
    obtain ⟨ρ1, e, w⟩ := f 0 x acc st rfl h
    rw [List.length_cons] at hl
    have nx : ∀ acc' st', acc'.length + xs.length ≤ lim → I (i + 0 + 1) acc' st' → wpE (lcLoop t ρ cond elt xs acc' st') Q := fun acc' st' hl' h' => by
      refine wpE_lc I xs acc' (i + 1) st' hl' h' (fun j y acc st hj hI => ?_) fun acc st hI => q acc st (by rw [List.length_cons, show i + (xs.length + 1) = i + 1 + xs.length by omega]; exact hI)
      have := f (j + 1) y acc st (by simpa using hj) (by rw [show i + (j + 1) = i + 1 + j by omega]; exact hI)
      rw [show i + (j + 1) + 1 = i + 1 + j + 1 by omega] at this
      exact this
    simp only [lcLoop, e]
    obtain ⟨b, st1, ec, hb⟩ := wpE_ex w
    rw [ec]
    rcases hb with ⟨rfl, w2⟩ | ⟨rfl, h2⟩
    · obtain ⟨y, st2, ee, h3⟩ := wpE_ex w2
      dsimp only
      rw [ee]
      dsimp only
      rw [if_pos (by omega)]
      exact nx _ _ (by simp; omega) h3
    · exact nx _ _ (by omega) h2
end
/-! ### == of plain data -/
theorem eqD_bl {st : Sto} {a b : Bool} : eqD st (.bl a) (.bl b) = some (a == b) := by
  cases a <;> cases b <;> rfl
theorem eqD_str {st : Sto} {a b : Str} (ha : PyData.strOk a = true) (hb : PyData.strOk b = true) : eqD st (.str a) (.str b) = some (a == b) := by
  simp [eqD, pyOf, D.py, SeqAt.shaped, PyData.canLay0, PyData.depth, PyData.eqv, ha, hb]
/-! ### step by step -/
def rtOut : Rt → Rs Wv
  | .next _ st => .ok (.d .non) st
  | .ret w st => .ok w st
  | .exc e _ st => .exc e st
  | .err => .err
theorem callN_eq {T : φ → Fn φ} {wf n : Nat} {f : φ} {ds : List D} {st : Sto} {F : Fn φ} (hT : T f = F) (hl : ds.length = F.np) : callN T wf (n + 1) f ds st = rtOut (exS (callN T wf n) wf F.body (startR F.N.length ds) st) := by
  subst hT
  rw [callN, if_pos hl]
  cases exS (callN T wf n) wf (T f).body (startR (T f).N.length ds) st <;> rfl
theorem callN_ret {T : φ → Fn φ} {wf n : Nat} {f : φ} {ds : List D} {st st' : Sto} {w : Wv} {F : Fn φ} (ρ0 : Rho) (hT : T f = F) (hl : ds.length = F.np) (hρ : startR F.N.length ds = ρ0) (h : exS (callN T wf n) wf F.body ρ0 st = .ret w st') : callN T wf (n + 1) f ds st = .ok w st' := by
  rw [callN_eq hT hl, hρ, h]; rfl
theorem wpE_fn {T : φ → Fn φ} {wf n : Nat} {f : φ} {ds : List D} {st : Sto} {Q : Wv → Sto → Prop} {F : Fn φ} (ρ0 : Rho) (hT : T f = F) (hl : ds.length = F.np) (hρ : startR F.N.length ds = ρ0) (h : wpS (exS (callN T wf n) wf F.body ρ0 st) (fun _ st' => Q (.d .non) st') Q) : wpE (callN T wf (n + 1) f ds st) Q := wpE_call hT hl (by rw [hρ]; exact h)
section
variable {cl : Cll φ} {wf : Nat} {s r a b : IS φ} {e c : IE φ} {ρ ρ1 : Rho} {st st1 st2 : Sto} {X : Rt} {w : Wv} {i : Nat}
theorem exS_step (h : exS cl wf s ρ st = .next ρ1 st1) (h2 : exS cl wf r ρ1 st1 = X) : exS cl wf (.cons s r) ρ st = X := by rw [exS, h]; exact h2
theorem exS_stop (h : exS cl wf s ρ st = .ret w st1) : exS cl wf (.cons s r) ρ st = .ret w st1 := by rw [exS, h]; rfl
theorem exS_ret (h : evE cl e ρ st = .ok w st1) : exS cl wf (.ret e) ρ st = .ret w st1 := by rw [exS, h]; rfl
theorem exS_asg (h : evE cl e ρ st = .ok w st1) : exS cl wf (.asg (.nm i) e) ρ st = .next (ρ.set i (some w.toD)) st1 := by rw [exS, h]; rfl
theorem exS_asgT {t : Tg} (h : evE cl e ρ st = .ok w st1) (h2 : asgT t w.toD st1 ρ = some ρ1) : exS cl wf (.asg t e) ρ st = .next ρ1 st1 := by
  rw [exS, h]
  show ofOt (asgT t w.toD st1 ρ) st1 = _
  rw [h2]; rfl
theorem exS_for {t : Tg} {it : IE φ} {s : Src} (h : evI cl it ρ st = .ok s st1) (h2 : forLoop t (fun ρ st => exS cl wf b ρ st) s.items ρ st1 = X) : exS cl wf (.for_ t it b) ρ st = X := by rw [exS, h]; exact h2
theorem exS_expr (h : evE cl e ρ st = .ok w st1) : exS cl wf (.expr e) ρ st = .next ρ st1 := by rw [exS, h]; rfl
theorem exS_if {k : Bool} (h : evE cl c ρ st = .ok (.d (.bl k)) st1) (h2 : (if k then exS cl wf a ρ st1 else exS cl wf b ρ st1) = X) : exS cl wf (.ife c a b) ρ st = X := by
  rw [exS, h]
  cases k <;> exact h2
theorem exS_nil : exS cl wf .nil ρ st = .next ρ st := by rw [exS]
theorem wpS_cons {N : Rho → Sto → Prop} {R : Wv → Sto → Prop} : wpS (exS cl wf (.cons s r) ρ st) N R = wpS (exS cl wf s ρ st) (fun ρ st => wpS (exS cl wf r ρ st) N R) R := by rw [exS, wpS_bind]
theorem wpS_nil {N : Rho → Sto → Prop} {R : Wv → Sto → Prop} : wpS (exS cl wf .nil ρ st) N R = N ρ st := by rw [exS]; rfl
theorem wpS_asg {N : Rho → Sto → Prop} {R : Wv → Sto → Prop} (h : wpE (evE cl e ρ st) fun w st1 => N (ρ.set i (some w.toD)) st1) : wpS (exS cl wf (.asg (.nm i) e) ρ st) N R := by
  rw [exS, wpS_st, wpE_vD]
  exact h.imp fun w st1 q => by rw [asgT]; exact q
theorem wpS_for_ {N : Rho → Sto → Prop} {R : Wv → Sto → Prop} {t : Tg} {it : IE φ} {s : Src} (h : evI cl it ρ st = .ok s st1) (q : wpS (forLoop t (fun ρ st => exS cl wf b ρ st) s.items ρ st1) N R) : wpS (exS cl wf (.for_ t it b) ρ st) N R := by
  rw [exS, h]
  exact q
theorem wpS_if {N : Rho → Sto → Prop} {R : Wv → Sto → Prop} (h : wpE (evE cl c ρ st) fun w st1 => ∃ k, w = .d (.bl k) ∧ wpS (if k then exS cl wf a ρ st1 else exS cl wf b ρ st1) N R) : wpS (exS cl wf (.ife c a b) ρ st) N R := by
  rw [exS, wpS_st, wpE_vD]
  refine h.imp fun w st1 ⟨k, e, q⟩ => ?_
  subst e
  cases k <;> exact q
theorem wpS_ret' {N : Rho → Sto → Prop} {R : Wv → Sto → Prop} (h : wpE (evE cl e ρ st) R) : wpS (exS cl wf (.ret e) ρ st) N R := by
  rw [exS, wpS_st]; exact h
theorem wpS_is {N : Rho → Sto → Prop} {R : Wv → Sto → Prop} (h : exS cl wf s ρ st = .next ρ1 st1) (q : N ρ1 st1) : wpS (exS cl wf s ρ st) N R := by rw [h]; exact q
end
/-! ### values, part by part -/
section
variable {cl : Cll φ} {ρ : Rho} {st st1 st2 st3 : Sto} {a b c e : IE φ} {w w1 w2 : Wv} {d d1 d2 : D} {k : Nat} {xs ys : List D}
theorem ev_str {x : Str} : evE cl (.str x : IE φ) ρ st = .ok (.d (.str x)) st := by rw [evE]
theorem ev_non : evE cl (.non : IE φ) ρ st = .ok (.d .non) st := by rw [evE]
theorem ev_bl {x : Bool} : evE cl (.bl x : IE φ) ρ st = .ok (.d (.bl x)) st := by rw [evE]
theorem ev_neg {i : Int} (h : evE cl a ρ st = .ok (.d (.int i)) st1) : evE cl (.neg a) ρ st = .ok (.d (.int (-i))) st1 := by rw [evE, h]; rfl
theorem ev_cmp {op : COp} {r : Bool} (h1 : evE cl a ρ st = .ok w1 st1) (h2 : evE cl b ρ st1 = .ok w2 st2) (h3 : opC op w1.toD w2.toD st2 = .ok r st2) : evE cl (.cmp op a b) ρ st = .ok (.d (.bl r)) st2 := by
  rw [evE, h1]
  simp only [vD, Rs.map, Rs.bind]
  rw [h2]
  simp only [h3]
  rfl
theorem ev_binW {op : BOp} {r : Rs Wv} (h1 : evE cl a ρ st = .ok w1 st1) (h2 : evE cl b ρ st1 = .ok w2 st2) (h3 : opB op w1.toD w2.toD st2 = r) : evE cl (.bin op a b) ρ st = r := by
  rw [evE, h1]
  simp only [vD, Rs.map, Rs.bind]
  rw [h2]
  exact h3
theorem ev_and1 (h : evE cl a ρ st = .ok (.d (.bl true)) st1) : evE cl (.and a b) ρ st = evE cl b ρ st1 := by rw [evE, h]; rfl
theorem ev_and0 (h : evE cl a ρ st = .ok (.d (.bl false)) st1) : evE cl (.and a b) ρ st = .ok (.d (.bl false)) st1 := by rw [evE, h]; rfl
theorem ev_or0 (h : evE cl a ρ st = .ok (.d (.bl false)) st1) : evE cl (.or a b) ρ st = evE cl b ρ st1 := by rw [evE, h]; rfl
theorem ev_or1 (h : evE cl a ρ st = .ok (.d (.bl true)) st1) : evE cl (.or a b) ρ st = .ok (.d (.bl true)) st1 := by rw [evE, h]; rfl
theorem ev_one : evE cl (.one a) ρ st = evE cl a ρ st := by rw [evE]
theorem ev_not {x : Bool} (h : evE cl a ρ st = .ok (.d (.bl x)) st1) : evE cl (.not a) ρ st = .ok (.d (.bl (!x))) st1 := by rw [evE, h]; rfl
theorem ev_ife {x : Bool} (h : evE cl c ρ st = .ok (.d (.bl x)) st1) : evE cl (.ife c a b) ρ st = if x then evE cl a ρ st1 else evE cl b ρ st1 := by
  rw [evE, h]
  cases x <;> rfl
theorem evs_consW {r : IE φ} {ds : List D} (h : evE cl a ρ st = .ok w st1) (h2 : evEs cl r ρ st1 = .ok ds st2) : evEs cl (.cons a r) ρ st = .ok (w.toD :: ds) st2 := by
  rw [evEs, h]
  simp only [vD, Rs.map, Rs.bind]
  rw [h2]
theorem ev_list {es : IE φ} (h : evEs cl es ρ st = .ok xs st1) (hl : xs.length ≤ lim) : evE cl (.list es) ρ st = .ok (.fr (.lst xs)) st1 := by
  rw [evE, h]
  exact if_pos hl
theorem ev_tup {es : IE φ} (h : evEs cl es ρ st = .ok xs st1) (hl : xs.length ≤ lim) : evE cl (.tup es) ρ st = .ok (.d (.tup xs)) st1 := by
  rw [evE, h]
  exact if_pos hl
theorem ev_mk {x : Cell} (h : evE cl a ρ st = .ok (.fr x) st1) : evE cl (.mk a) ρ st = .ok (.d (.ref st1.length)) (st1 ++ [.live x]) := by rw [evE, h]; rfl
theorem ev_mkq1 {x : Cell} (h : evE cl a ρ st = .ok (.fr x) st1) : evE cl (.mkq a) ρ st = .ok (.d (.ref st1.length)) (st1 ++ [.live x]) := by rw [evE, h]; rfl
theorem ev_mkq0 (h : evE cl a ρ st = .ok (.d d) st1) : evE cl (.mkq a) ρ st = .ok (.d d) st1 := by rw [evE, h]; rfl
theorem ev_idx (h1 : evE cl a ρ st = .ok w1 st1) (h2 : evE cl b ρ st1 = .ok w2 st2) (h3 : getAt st2 w1.toD w2.toD = some d) : evE cl (.idx a b) ρ st = .ok (.d d) st2 := by
  rw [evE, h1]
  simp only [vD, Rs.map, Rs.bind]
  rw [h2]
  simp only [h3]
  rfl
theorem ev_isI {kd : Kd} {r : Bool} (h : evE cl a ρ st = .ok w st1) (h2 : kindIs st1 kd w.toD = some r) : evE cl (.isI kd a) ρ st = .ok (.d (.bl r)) st1 := by
  rw [evE, h]
  simp only [vD, Rs.map, Rs.bind, h2]
  rfl
theorem ev_isX {n : Nat} {tbl : List Nat} {tup : Bool} {ts : List (Option Nat)} {c : Nat} {vs : List D} {r : Bool} (h : evE cl a ρ st = .ok (.d (.exc c vs)) st1) (hc : c < n) (hr : decide (c ∈ tbl) = r) : evE cl (.isX n tbl tup ts a) ρ st = .ok (.d (.bl r)) st1 := by
  rw [evE, h]
  simp only [vD, Rs.map, Rs.bind, Wv.toD, if_pos hc, hr]
theorem ev_mkx {c : Nat} {kw : Bool} (h : evE cl a ρ st = .ok w st1) : evE cl (.mkx c kw a) ρ st = .ok (.d (.exc c [w.toD])) st1 := by rw [evE, h]; rfl
theorem ev_mkx0 {c : Nat} : evE cl (.mkx0 c : IE φ) ρ st = .ok (.d (.exc c [])) st := by rw [evE]
theorem ev_xattr {c j : Nat} {vs : List D} (h : evE cl a ρ st = .ok (.d (.exc c vs)) st1) (h2 : vs[j]? = some d) : evE cl (.xattr c j a) ρ st = .ok (.d (Fd.res st1 d)) st1 := by
  rw [evE, h]
  simp only [vD, Rs.map, Rs.bind, Wv.toD, if_true, h2, Option.map_some]
  rfl
theorem live_lst (h : st[k]? = some (.live (.lst xs))) : lstOf st (.ref k) = some xs := by simp only [lstOf, Fd.cellOf, h]
theorem ev_append {i : Nat} (hv : ρ[i]? = some (some (.ref k))) (hg : st[k]? = some (.live (.lst xs))) (he : evE cl e ρ st = .ok w st1) (hg1 : st1[k]? = some (.live (.lst ys))) (hl : ys.length < lim) :
    evE cl (.lm .append (.var i) (.cons e .nil)) ρ st = .ok (.d .non) (st1.set k (.live (.lst (ys ++ [w.toD])))) := by
  rw [evE, ev_varp hv (live_res hg)]
  simp only [vD, Rs.map, Rs.bind, Wv.toD, live_lst hg]
  rw [evs_consW he evs_nil]
  simp only [evLm, hg1]
  exact if_pos hl
theorem ev_extend {i : Nat} {zs : List D} (hv : ρ[i]? = some (some (.ref k))) (hg : st[k]? = some (.live (.lst xs))) (he : evE cl e ρ st = .ok w st1) (hw : w.toD = .lst zs) (hg1 : st1[k]? = some (.live (.lst ys))) (hl : ys.length + zs.length ≤ lim) :
    evE cl (.lm .extend (.var i) (.cons e .nil)) ρ st = .ok (.d .non) (st1.set k (.live (.lst (ys ++ zs)))) := by
  rw [evE, ev_varp hv (live_res hg)]
  simp only [vD, Rs.map, Rs.bind, Wv.toD, live_lst hg]
  rw [evs_consW he evs_nil, hw]
  simp only [evLm, hg1, lstF]
  exact if_pos hl
end
theorem set_last {st : Sto} {x y : Slot} : (st ++ [x]).set st.length y = st ++ [y] := by simp
theorem get_last {st : Sto} {x : Slot} : (st ++ [x])[st.length]? = some x := by simp
/-! ### comprehensions as values -/
theorem ev_lc {cl : Cll φ} {own : List Nat} {t : Tg} {it cond elt : IE φ} {ρ : Rho} {st st1 : Sto} {s : Src} (p : D → Bool) (g : D → D) (hI : evI cl it ρ st = .ok s st1) (hl : s.items.length ≤ lim)
    (h : ∀ x ∈ s.items, ∃ ρ1, asgT t x st1 (wipeR ρ own) = some ρ1 ∧ vD (evE cl cond ρ1 st1) = .ok (.bl (p x)) st1 ∧ (p x = true → vD (evE cl elt ρ1 st1) = .ok (g x) st1)) : evE cl (.lc own t it cond elt) ρ st = .ok (.fr (.lst ((s.items.filter p).map g))) st1 := by
  rw [evE, hI]
  show (lcLoop t (wipeR ρ own) (fun ρ1 st => vD (evE cl cond ρ1 st)) (fun ρ1 st => vD (evE cl elt ρ1 st)) s.items [] st1).map _ = _
  rw [lcLoop_eq p g s.items [] (by simpa using hl) h]
  rfl
theorem ev_true {cl : Cll φ} {ρ : Rho} {st : Sto} : vD (evE cl (.bl true : IE φ) ρ st) = .ok (.bl true) st := by rw [evE]; rfl
theorem ev_lc1 {cl : Cll φ} {own : List Nat} {t : Tg} {it elt : IE φ} {ρ : Rho} {st st1 : Sto} {s : Src} (g : D → D) (hI : evI cl it ρ st = .ok s st1) (hl : s.items.length ≤ lim)
    (h : ∀ x ∈ s.items, ∃ ρ1, asgT t x st1 (wipeR ρ own) = some ρ1 ∧ vD (evE cl elt ρ1 st1) = .ok (g x) st1) : evE cl (.lc own t it (.bl true) elt) ρ st = .ok (.fr (.lst (s.items.map g))) st1 := by
  rw [ev_lc (fun _ => true) g hI hl fun x hx => ?_, filter_true]
  obtain ⟨ρ1, h1, h2⟩ := h x hx
  exact ⟨ρ1, h1, ev_true, fun _ => h2⟩
theorem ev_lcd1 {cl : Cll φ} {own : List Nat} {t : Tg} {i : Nat} {elt : IE φ} {ρ : Rho} {st : Sto} {d : D} {ks : List Key} {vs : List D} (g : D → D) (hv : ρ[i]? = some (some d)) (hd : res st d = .dK ks vs) (hl : ks.length ≤ lim)
    (h : ∀ k ∈ ks, ∃ ρ1, asgT t (dkey k) st (wipeR ρ own) = some ρ1 ∧ vD (evE cl elt ρ1 st) = .ok (g (dkey k)) st) : evE cl (.lcd own t i (.bl true) elt) ρ st = .ok (.fr (.lst ((ks.map dkey).map g))) st := by
  rw [evE, hv]
  simp only [hd]
  rw [lcLoop_eq (fun _ => true) g (ks.map dkey) [] (by simpa using hl) fun x hx => ?_, filter_true]
  · rfl
  · obtain ⟨k, hk, rfl⟩ := List.mem_map.mp hx
    obtain ⟨ρ1, h1, h2⟩ := h k hk
    exact ⟨ρ1, h1, ev_true, fun _ => h2⟩
/-! ### _law_same: a thing is the same as itself -/
def irSame (f : φ) : Fn φ := ⟨2, ["found", "due", "mine", "theirs", "key"], (.cons (.ife (.isI .seq (.var 1)) (.cons (.ife (.or (.cmp .ne (.isI .list (.var 0)) (.isI .list (.var 1))) (.one (.cmp .ne (.isI .tuple (.var 0)) (.isI .tuple (.var 1))))) (.cons (.ret (.bl false)) .nil) .nil) (.cons (.ret (.and (.cmp .eq (.bi .len (.cons (.var 0) .nil)) (.bi .len (.cons (.var 1) .nil))) (.one (.bi .all (.cons (.lc [2,3] (.tu (.cons (.nm 2) (.cons (.nm 3) .nil))) (.bi .zip (.cons (.var 0) (.cons (.var 1) .nil))) (.bl true) (.fcall f (.cons (.var 2) (.cons (.var 3) .nil)))) .nil))))) .nil)) .nil) (.cons (.ife (.isI .dict (.var 1)) (.cons (.ife (.or (.not (.isI .dict (.var 0))) (.one (.not (.fcall f (.cons (.bi .list (.cons (.var 0) .nil)) (.cons (.bi .list (.cons (.var 1) .nil)) .nil)))))) (.cons (.ret (.bl false)) .nil) .nil) (.cons (.ret (.bi .all (.cons (.lcd [4] (.nm 4) 1 (.bl true) (.fcall f (.cons (.idx (.var 0) (.var 4)) (.cons (.idx (.var 1) (.var 4)) .nil)))) .nil))) .nil)) .nil) (.cons (.ife (.isN (.var 1)) (.cons (.ret (.isN (.var 0))) .nil) .nil) (.cons (.ife (.isI .bool (.var 1)) (.cons (.ret (.and (.isI .bool (.var 0)) (.one (.cmp .eq (.var 0) (.var 1))))) .nil) .nil) (.cons (.ife (.isI .int (.var 1)) (.cons (.ret (.and (.isI .int (.var 0)) (.and (.not (.isI .bool (.var 0))) (.one (.cmp .eq (.var 0) (.var 1)))))) .nil) .nil) (.cons (.ret (.and (.isI .str (.var 0)) (.one (.cmp .eq (.var 0) (.var 1))))) .nil))))))⟩
/-- plain things, n deep -/
def plB : Nat → D → Bool
  | 0, _ => false
  | n + 1, d => match d with
    | .non => true
    | .bl _ => true
    | .int _ => true
    | .str s => PyData.strOk s
    | .lst xs => xs.all (plB n) && decide (xs.length ≤ 100000)
    | .tup xs => xs.all (plB n) && decide (xs.length ≤ 100000)
    | .dK ks vs => vs.all (plB n) && decide (ks.length = vs.length) && decide (ks.length ≤ 100000) && plB n (.lst (ks.map dkey))
    | _ => false
theorem cloL_of : ∀ {ds : List D}, (∀ d ∈ ds, d.clo = true) → D.cloL ds = true
  | [], _ => rfl
  | d :: ds, h => by
    simp only [D.cloL, Bool.and_eq_true]
    exact ⟨h d List.mem_cons_self, cloL_of fun d hd => h d (List.mem_cons_of_mem _ hd)⟩
theorem plB_clo : ∀ (n : Nat) (d : D), plB n d = true → d.clo = true
  | 0, _, h => by simp [plB] at h
  | n + 1, .non, _ => rfl
  | n + 1, .bl _, _ => rfl
  | n + 1, .int _, _ => rfl
  | n + 1, .str _, _ => rfl
  | n + 1, .lst xs, h => by
    simp only [plB, Bool.and_eq_true, List.all_eq_true] at h
    exact cloL_of fun d hd => plB_clo n d (h.1 d hd)
  | n + 1, .tup xs, h => by
    simp only [plB, Bool.and_eq_true, List.all_eq_true] at h
    exact cloL_of fun d hd => plB_clo n d (h.1 d hd)
  | n + 1, .dK ks xs, h => by
    simp only [plB, Bool.and_eq_true, List.all_eq_true] at h
    exact cloL_of fun d hd => plB_clo n d (h.1.1.1 d hd)
  | n + 1, .dT .., h => by simp [plB] at h
  | n + 1, .obj .., h => by simp [plB] at h
  | n + 1, .exc .., h => by simp [plB] at h
  | n + 1, .ref .., h => by simp [plB] at h
  | n + 1, .scr .., h => by simp [plB] at h
theorem view_clo {st : Sto} {d : D} (h : d.clo = true) : viewD st d = some d := by
  unfold viewD
  split
  · simp [D.clo] at h
  · rw [if_pos h]
theorem viewL_clo' {st : Sto} : ∀ {ds : List D}, D.cloL ds = true → viewL st ds = some ds
  | [], _ => rfl
  | d :: ds, h => by
    simp only [D.cloL, Bool.and_eq_true] at h
    simp only [viewL, view_clo h.1, viewL_clo' h.2]
theorem res_clo {st : Sto} {d : D} (h : d.clo = true) : res st d = d := by
  cases d <;> first | (simp [D.clo] at h; done) | rfl
/-- a call of plain things -/
theorem ev_fcall {cl : Cll φ} {f : φ} {es : IE φ} {ρ : Rho} {st st1 st' : Sto} {ds : List D} {w : Wv} (h : evEs cl es ρ st = .ok ds st1) (hc : D.cloL ds = true) (hr : cl f ds [] = .ok w st') {w' : Wv} (ho : outW w st' = some w') : evE cl (.fcall f es) ρ st = .ok w' st1 := by
  rw [evE, h]
  simp only [Rs.bind, viewL_clo' hc, hc, hr, outR, ho, Bool.true_or, if_true]
theorem ev_fcallR {cl : Cll φ} {f : φ} {es : IE φ} {ρ : Rho} {st st1 st' : Sto} {ds ys : List D} {b : Bool} (h : evEs cl es ρ st = .ok ds st1) (hv : viewL st1 ds = some ys) (hr : cl f ys [] = .ok (.d (.bl b)) st') : evE cl (.fcall f es) ρ st = .ok (.d (.bl b)) st1 := by
  rw [evE, h]
  simp only [Rs.bind, hv, hr, outR, outW, D.clo, if_true, Wv.toD, scal, Bool.or_true]
theorem exS_asgSub {cl : Cll φ} {wf : Nat} {a i e : IE φ} {ρ : Rho} {st st1 st2 st3 st4 : Sto} {w w2 w3 : Wv} (h1 : evE cl e ρ st = .ok w st1) (h2 : evE cl a ρ st1 = .ok w2 st2) (h3 : evE cl i ρ st2 = .ok w3 st3) (h4 : setSub w2.toD w3.toD w.toD st3 = some st4) : exS cl wf (.asgSub a i e) ρ st = .next ρ st4 := by
  rw [exS, h1]
  simp only [vD, Rs.map, Rs.st]
  rw [h2]
  simp only [Rs.st, Rs.map]
  rw [h3]
  simp only [Rs.st, Rs.map, h4]
theorem dkey_pl {n : Nat} {k : Key} (h : ∀ s, k = .inr s → PyData.strOk s = true) : plB (n + 1) (dkey k) = true := by
  cases k with
  | inl i => rfl
  | inr s => exact h s rfl
theorem lookK_in {ks : List Key} {vs : List D} {k : Key} (hl : ks.length = vs.length) (h : k ∈ ks) : ∃ v, lookK ks vs k = some v ∧ v ∈ vs := by
  induction ks generalizing vs with
  | nil => cases h
  | cons a ks ih =>
    cases vs with
    | nil => simp at hl
    | cons v vs =>
      unfold lookK
      by_cases e : a = k
      · rw [if_pos e]; exact ⟨v, rfl, List.mem_cons_self⟩
      · rw [if_neg e]
        rcases List.mem_cons.mp h with h | h
        · exact absurd h.symm e
        · obtain ⟨w, h1, h2⟩ := ih (by simpa using hl) h
          exact ⟨w, h1, List.mem_cons_of_mem _ h2⟩
theorem lim_big {n : Nat} (h : n ≤ 100000) : n ≤ lim := by unfold lim; omega
theorem zipD_self : ∀ xs : List D, zipD xs xs = xs.map fun x => .tup [x, x]
  | [] => rfl
  | x :: xs => by rw [zipD, zipD_self xs]; rfl
theorem bools_true {α : Type} : ∀ xs : List α, boolsOf (xs.map fun _ => .bl true) = some (xs.map fun _ => true)
  | [] => rfl
  | x :: xs => by simp [boolsOf, bools_true xs]
theorem all_true {α : Type} (xs : List α) {st : Sto} : evBi .all [.lst (xs.map fun _ => .bl true)] st = .ok (.d (.bl true)) st := by
  simp [evBi, lstOf, bools_true]
theorem same_ok {T : φ → Fn φ} {f : φ} (hT : T f = irSame f) {wf : Nat} : ∀ (n : Nat) (x : D), plB n x = true → callN T wf n f [x, x] [] = .ok (.d (.bl true)) []
  | 0, _, h => by simp [plB] at h
  | n + 1, x, h => by
    have hclo := plB_clo _ _ h
    have hres : res [] x = x := res_clo hclo
    have call : ∀ {e : D}, plB n e = true → ∀ {es : IE φ} {ρ : Rho}, evEs (callN T wf n) es ρ [] = .ok [e, e] [] → evE (callN T wf n) (.fcall f es) ρ [] = .ok (.d (.bl true)) [] := fun {e} he {es} {ρ} hs =>
      ev_fcall hs (cloL_of fun d hd => by simp at hd; subst hd; exact plB_clo _ _ he) (same_ok hT n e he) rfl
    have e0 : callN T wf (n + 1) f [x, x] [] = match exS (callN T wf n) wf (irSame f).body [some x, some x, none, none, none] [] with
      | .next _ st1 => .ok (.d .non) st1
      | .ret w st1 => .ok w st1
      | .exc e _ st1 => .exc e st1
      | .err => .err := by
      rw [callN, hT]
      rfl
    rw [e0]
    unfold irSame
    dsimp only
    have v0 : evE (callN T wf n) (.var 0 : IE φ) [some x, some x, none, none, none] [] = .ok (.d x) [] := by rw [evE]; simp [hres]
    have v1 : evE (callN T wf n) (.var 1 : IE φ) [some x, some x, none, none, none] [] = .ok (.d x) [] := by rw [evE]; simp [hres]
    cases x with
    | non => simp [exS, evE, evEs, vD, Rs.map, Rs.bind, Rs.st, Rt.bind, Wv.toD, kindIs, ofB, ofO, isNonB, res]
    | bl b => simp [exS, evE, evEs, vD, Rs.map, Rs.bind, Rs.st, Rt.bind, Wv.toD, kindIs, ofB, ofO, isNonB, res, opC, eqD_bl]
    | int b => simp [exS, evE, evEs, vD, Rs.map, Rs.bind, Rs.st, Rt.bind, Wv.toD, kindIs, ofB, ofO, isNonB, res, opC, eq_int]
    | str b =>
      have hs : PyData.strOk b = true := h
      simp [exS, evE, evEs, vD, Rs.map, Rs.bind, Rs.st, Rt.bind, Wv.toD, kindIs, ofB, ofO, isNonB, res, opC, eqD_str hs hs]
    | lst xs =>
      simp only [plB, Bool.and_eq_true, List.all_eq_true, decide_eq_true_eq] at h
      have lc : evE (callN T wf n) (.lc [2,3] (.tu (.cons (.nm 2) (.cons (.nm 3) .nil))) (.bi .zip (.cons (.var 0) (.cons (.var 1) .nil))) (.bl true) (.fcall f (.cons (.var 2) (.cons (.var 3) .nil)))) [some (D.lst xs), some (.lst xs), none, none, none] [] = .ok (.fr (.lst ((zipD xs xs).map fun _ => .bl true))) [] := by
        refine ev_lc1 (s := .zip xs xs) (fun _ => .bl true) (by simp [evI, evEs, ↓v0, ↓v1, vD, Rs.map, Rs.bind, Wv.toD, srcBi, lstF, ofO]) (by simp [Src.items, zipD_self]; exact lim_big h.2) fun y hy => ?_
        simp only [Src.items, zipD_self] at hy
        obtain ⟨e, he, rfl⟩ := List.mem_map.mp hy
        have hr := res_clo (st := []) (plB_clo _ _ (h.1 e he))
        refine ⟨_, by simp [asgT, asgTs, tupF, wipeR, hr]; rfl, ?_⟩
        rw [call (h.1 e he) (by simp [evEs, evE, vD, Rs.map, Rs.bind, Wv.toD, hr])]
        rfl
      simp [exS, ↓lc, evE, evEs, ↓v0, ↓v1, vD, Rs.map, Rs.bind, Rs.st, Rt.bind, Wv.toD, kindIs, ofB, ofO, opC, eqD_bl, eq_int, evBi, dicOf, seqOf, lstOf, Cell.toD, bools_true]
    | tup xs =>
      simp only [plB, Bool.and_eq_true, List.all_eq_true, decide_eq_true_eq] at h
      have lc : evE (callN T wf n) (.lc [2,3] (.tu (.cons (.nm 2) (.cons (.nm 3) .nil))) (.bi .zip (.cons (.var 0) (.cons (.var 1) .nil))) (.bl true) (.fcall f (.cons (.var 2) (.cons (.var 3) .nil)))) [some (D.tup xs), some (.tup xs), none, none, none] [] = .ok (.fr (.lst ((zipD xs xs).map fun _ => .bl true))) [] := by
        refine ev_lc1 (s := .zipT xs xs) (fun _ => .bl true) (by simp [evI, evEs, ↓v0, ↓v1, vD, Rs.map, Rs.bind, Wv.toD, srcBi, lstF, tupF, ofO]) (by simp [Src.items, zipD_self]; exact lim_big h.2) fun y hy => ?_
        simp only [Src.items, zipD_self] at hy
        obtain ⟨e, he, rfl⟩ := List.mem_map.mp hy
        have hr := res_clo (st := []) (plB_clo _ _ (h.1 e he))
        refine ⟨_, by simp [asgT, asgTs, tupF, wipeR, hr]; rfl, ?_⟩
        rw [call (h.1 e he) (by simp [evEs, evE, vD, Rs.map, Rs.bind, Wv.toD, hr])]
        rfl
      simp [exS, ↓lc, evE, evEs, ↓v0, ↓v1, vD, Rs.map, Rs.bind, Rs.st, Rt.bind, Wv.toD, kindIs, ofB, ofO, opC, eqD_bl, eq_int, evBi, dicOf, seqOf, lstOf, Cell.toD, bools_true]
    | dK ks vs =>
      simp only [plB, Bool.and_eq_true, List.all_eq_true, decide_eq_true_eq] at h
      obtain ⟨⟨⟨h1, h2⟩, h3⟩, h4⟩ := h
      have c1 : evE (callN T wf n) (.fcall f (.cons (.bi .list (.cons (.var 0) .nil)) (.cons (.bi .list (.cons (.var 1) .nil)) .nil))) [some (D.dK ks vs), some (.dK ks vs), none, none, none] [] = .ok (.d (.bl true)) [] :=
        call h4 (by simp [evEs, evE, ↓v0, ↓v1, vD, Rs.map, Rs.bind, Wv.toD, evBi, dicOf, Cell.toD])
      have lc : evE (callN T wf n) (.lcd [4] (.nm 4) 1 (.bl true) (.fcall f (.cons (.idx (.var 0) (.var 4)) (.cons (.idx (.var 1) (.var 4)) .nil)))) [some (D.dK ks vs), some (.dK ks vs), none, none, none] [] = .ok (.fr (.lst (ks.map fun _ => .bl true))) [] := by
        refine (ev_lcd1 (fun _ => .bl true) rfl rfl (lim_big h3) fun k hk => ?_).trans (by rw [List.map_map]; rfl)
        obtain ⟨v, hv, hm⟩ := lookK_in h2 hk
        have hr := res_clo (st := []) (plB_clo _ _ (h1 v hm))
        have kk : keyOf (dkey k) = some k := by cases k <;> rfl
        have kr : res [] (dkey k) = dkey k := by cases k <;> rfl
        refine ⟨_, rfl, ?_⟩
        rw [call (h1 v hm) (by cases k <;> simp [evEs, evE, vD, Rs.map, Rs.bind, Wv.toD, wipeR, dkey, keyOf, res, getAt, dicOf, hv, ofO] <;> exact hr)]
        rfl
      simp [exS, ↓lc, ↓c1, evE, evEs, ↓v0, ↓v1, vD, Rs.map, Rs.bind, Rs.st, Rt.bind, Wv.toD, kindIs, ofB, ofO, opC, eqD_bl, evBi, dicOf, seqOf, lstOf, Cell.toD, bools_true]
    | _ => simp [plB] at h
end Fd

set_option maxHeartbeats 0
namespace LW
open PySem L2 Fd
def ir_f_law_start : Fn Fid := ⟨1, ["script"], (.cons (.ret (.list (.cons (.mk (.bi .list (.cons (.var 0) .nil))) (.cons (.int 0) (.cons (.int 0) (.cons (.int 29) .nil)))))) .nil)⟩
def ir_f_law_pick : Fn Fid := ⟨2, ["state", "many", "cell", "digit", "mixed"], (.cons (.asgSub (.var 0) (.int 2) (.bin .add (.idx (.var 0) (.int 2)) (.int 1))) (.cons (.while_ (.and (.cmp .eq (.idx (.var 0) (.int 1)) (.int 0)) (.one (.cmp .ne (.idx (.var 0) (.int 0)) (.list .nil)))) (.cons (.asg (.nm 2) (.bi .abs (.cons (.lm .popAt (.idx (.var 0) (.int 0)) (.cons (.int 0) .nil)) .nil))) (.cons (.asgSub (.var 0) (.int 3) (.bin .mod (.bi .int1 (.cons (.bin .add (.bin .add (.bin .mul (.idx (.var 0) (.int 3)) (.int 6151)) (.var 2)) (.int 5)) .nil)) (.int 2147483647))) (.cons (.asgSub (.var 0) (.int 1) (.ife (.cmp .ge (.var 2) (.bin .pow (.int 10) (.int 18))) (.var 2) (.int 0))) .nil)))) (.cons (.ife (.cmp .gt (.idx (.var 0) (.int 1)) (.int 0)) (.cons (.asg (.nm 3) (.bin .mod (.bi .int1 (.cons (.idx (.var 0) (.int 1)) .nil)) (.var 1))) (.cons (.asgSub (.var 0) (.int 1) (.bin .fdiv (.idx (.var 0) (.int 1)) (.var 1))) (.cons (.ret (.var 3)) .nil))) .nil) (.cons (.asg (.nm 4) (.bin .mod (.bi .int1 (.cons (.bin .pow (.bin .add (.bin .add (.idx (.var 0) (.int 3)) (.bin .mul (.int 7907) (.idx (.var 0) (.int 2)))) (.int 104723)) (.int 5)) .nil)) (.int 2147483629))) (.cons (.ret (.bin .mod (.bin .mod (.bi .int1 (.cons (.bin .pow (.bin .add (.bin .add (.bin .mul (.var 4) (.int 48271)) (.bin .mul (.int 30011) (.idx (.var 0) (.int 2)))) (.int 31)) (.int 3)) .nil)) (.int 1000000007)) (.var 1))) .nil)))))⟩
def ir_f_law_between : Fn Fid := ⟨3, ["state", "low", "high"], (.cons (.ret (.bin .add (.var 1) (.call .f_law_pick (.cons (.var 0) (.cons (.bin .add (.bi .max2 (.cons (.bin .sub (.var 2) (.var 1)) (.cons (.int 0) .nil))) (.int 1)) .nil))))) .nil)⟩
def ir_f_law_same : Fn Fid := ⟨2, ["found", "due", "mine", "theirs", "key"], (.cons (.ife (.isI .seq (.var 1)) (.cons (.ife (.or (.cmp .ne (.isI .list (.var 0)) (.isI .list (.var 1))) (.one (.cmp .ne (.isI .tuple (.var 0)) (.isI .tuple (.var 1))))) (.cons (.ret (.bl false)) .nil) .nil) (.cons (.ret (.and (.cmp .eq (.bi .len (.cons (.var 0) .nil)) (.bi .len (.cons (.var 1) .nil))) (.one (.bi .all (.cons (.lc [2,3] (.tu (.cons (.nm 2) (.cons (.nm 3) .nil))) (.bi .zip (.cons (.var 0) (.cons (.var 1) .nil))) (.bl true) (.fcall .f_law_same (.cons (.var 2) (.cons (.var 3) .nil)))) .nil))))) .nil)) .nil) (.cons (.ife (.isI .dict (.var 1)) (.cons (.ife (.or (.not (.isI .dict (.var 0))) (.one (.not (.fcall .f_law_same (.cons (.bi .list (.cons (.var 0) .nil)) (.cons (.bi .list (.cons (.var 1) .nil)) .nil)))))) (.cons (.ret (.bl false)) .nil) .nil) (.cons (.ret (.bi .all (.cons (.lcd [4] (.nm 4) 1 (.bl true) (.fcall .f_law_same (.cons (.idx (.var 0) (.var 4)) (.cons (.idx (.var 1) (.var 4)) .nil)))) .nil))) .nil)) .nil) (.cons (.ife (.isN (.var 1)) (.cons (.ret (.isN (.var 0))) .nil) .nil) (.cons (.ife (.isI .bool (.var 1)) (.cons (.ret (.and (.isI .bool (.var 0)) (.one (.cmp .eq (.var 0) (.var 1))))) .nil) .nil) (.cons (.ife (.isI .int (.var 1)) (.cons (.ret (.and (.isI .int (.var 0)) (.and (.not (.isI .bool (.var 0))) (.one (.cmp .eq (.var 0) (.var 1)))))) .nil) .nil) (.cons (.ret (.and (.isI .str (.var 0)) (.one (.cmp .eq (.var 0) (.var 1))))) .nil))))))⟩
def ir_f_law_kinds_of : Fn Fid := ⟨1, ["e", "told", "k"], (.cons (.asg (.nm 1) (.mk (.list (.cons (.isX 67 [10] false [some 10] (.var 0)) (.cons (.isX 67 [11] false [some 11] (.var 0)) (.cons (.isX 67 [12] false [some 12] (.var 0)) (.cons (.isX 67 [13] false [some 13] (.var 0)) .nil))))))) (.cons (.expr (.lm .extend (.var 1) (.cons (.list (.cons (.isX 67 [14] false [some 14] (.var 0)) (.cons (.isX 67 [15] false [some 15] (.var 0)) (.cons (.isX 67 [16] false [some 16] (.var 0)) (.cons (.isX 67 [17] false [some 17] (.var 0)) .nil))))) .nil))) (.cons (.expr (.lm .extend (.var 1) (.cons (.list (.cons (.isX 67 [18] false [some 18] (.var 0)) (.cons (.isX 67 [19] false [some 19] (.var 0)) (.cons (.isX 67 [20] false [some 20] (.var 0)) (.cons (.isX 67 [21] false [some 21] (.var 0)) .nil))))) .nil))) (.cons (.expr (.lm .extend (.var 1) (.cons (.list (.cons (.isX 67 [22] false [some 22] (.var 0)) (.cons (.isX 67 [23] false [some 23] (.var 0)) (.cons (.isX 67 [24] false [some 24] (.var 0)) (.cons (.isX 67 [25] false [some 25] (.var 0)) .nil))))) .nil))) (.cons (.expr (.lm .extend (.var 1) (.cons (.list (.cons (.isX 67 [26] false [some 26] (.var 0)) (.cons (.isX 67 [27] false [some 27] (.var 0)) (.cons (.isX 67 [28] false [some 28] (.var 0)) (.cons (.isX 67 [29] false [some 29] (.var 0)) .nil))))) .nil))) (.cons (.expr (.lm .extend (.var 1) (.cons (.list (.cons (.isX 67 [30] false [some 30] (.var 0)) (.cons (.isX 67 [31] false [some 31] (.var 0)) (.cons (.isX 67 [32] false [some 32] (.var 0)) (.cons (.isX 67 [33] false [some 33] (.var 0)) .nil))))) .nil))) (.cons (.ret (.lc [2] (.nm 2) (.bi .range (.cons (.int 24) .nil)) (.idx (.var 1) (.var 2)) (.var 2))) .nil)))))))⟩
def ir_f_law_others : Fn Fid := ⟨1, ["x", "told"], (.cons (.asg (.nm 1) (.mk (.list (.cons (.mkx 1 false (.var 0)) (.cons (.mkx 2 false (.var 0)) (.cons (.mkx 3 false (.var 0)) (.cons (.mkx 4 false (.var 0)) (.cons (.mkx 5 false (.var 0)) (.cons (.mkx 6 false (.var 0)) (.cons (.mkx 7 false (.var 0)) (.cons (.mkx 8 false (.var 0)) .nil))))))))))) (.cons (.expr (.lm .extend (.var 1) (.cons (.list (.cons (.mkx 9 false (.var 0)) (.cons (.mkx 34 false (.var 0)) (.cons (.mkx 35 false (.var 0)) (.cons (.mkx 36 false (.var 0)) (.cons (.mkx 37 false (.var 0)) (.cons (.mkx 38 false (.var 0)) (.cons (.mkx 39 false (.var 0)) (.cons (.mkx 40 false (.var 0)) .nil))))))))) .nil))) (.cons (.expr (.lm .extend (.var 1) (.cons (.list (.cons (.mkx 41 false (.var 0)) (.cons (.mkx 42 false (.var 0)) (.cons (.mkx 43 false (.var 0)) (.cons (.mkx 44 false (.var 0)) (.cons (.mkx 45 false (.var 0)) (.cons (.mkx 46 false (.var 0)) (.cons (.mkx 47 false (.var 0)) (.cons (.mkx 48 false (.var 0)) .nil))))))))) .nil))) (.cons (.expr (.lm .extend (.var 1) (.cons (.list (.cons (.mkx 49 false (.var 0)) (.cons (.mkx 50 false (.var 0)) (.cons (.mkx 51 false (.var 0)) (.cons (.mkx 52 false (.var 0)) (.cons (.mkx 53 false (.var 0)) (.cons (.mkx 54 false (.var 0)) (.cons (.mkx 55 false (.var 0)) (.cons (.mkx 56 false (.var 0)) .nil))))))))) .nil))) (.cons (.expr (.lm .extend (.var 1) (.cons (.list (.cons (.mkx 57 false (.var 0)) (.cons (.mkx 58 false (.var 0)) (.cons (.mkx 59 false (.var 0)) (.cons (.mkx 60 false (.var 0)) (.cons (.mkx 61 false (.var 0)) (.cons (.mkx 62 false (.var 0)) (.cons (.mkx 63 false (.var 0)) (.cons (.mkx 64 false (.var 0)) .nil))))))))) .nil))) (.cons (.expr (.lm .extend (.var 1) (.cons (.list (.cons (.mkx 65 false (.var 0)) (.cons (.mkx 66 false (.var 0)) .nil))) .nil))) (.cons (.ret (.snap 1)) .nil)))))))⟩
def ir_f_law_is_other : Fn Fid := ⟨1, ["e", "told"], (.cons (.asg (.nm 1) (.mk (.list (.cons (.isX 67 [1,2,3,4,5,6,7,8,9] true [some 1, some 2, some 3, some 4, some 5, some 6, some 7, some 8, some 9] (.var 0)) .nil)))) (.cons (.expr (.lm .append (.var 1) (.cons (.isX 67 [34,35,36,37,38,39,40,41,42] true [some 34, some 35, some 36, some 37, some 38, some 39, some 40, some 41, some 42] (.var 0)) .nil))) (.cons (.expr (.lm .append (.var 1) (.cons (.isX 67 [43,44,45,46,47,48,49,50,51] true [some 43, some 44, some 45, some 46, some 47, some 48, some 49, some 50, some 51] (.var 0)) .nil))) (.cons (.expr (.lm .append (.var 1) (.cons (.isX 67 [52,53,54,55,56,57,58,59,60] true [some 52, some 53, some 54, some 55, some 56, some 57, some 58, some 59, some 60] (.var 0)) .nil))) (.cons (.expr (.lm .append (.var 1) (.cons (.isX 67 [61,62,63,64,65,66] true [some 61, some 62, some 63, some 64, some 65, some 66] (.var 0)) .nil))) (.cons (.ret (.cmp .isin (.bl true) (.var 1))) .nil))))))⟩
def ir_f_law_made_a : Fn Fid := ⟨2, ["at", "x", "made"], (.cons (.ife (.cmp .eq (.var 0) (.int 0)) (.cons (.asg (.nm 2) (.mkx 10 false (.var 1))) (.cons (.ret (.tup (.cons (.var 2) (.cons (.xattr 10 0 (.var 2)) .nil)))) .nil)) .nil) (.cons (.ife (.cmp .eq (.var 0) (.int 1)) (.cons (.asg (.nm 2) (.mkx 11 true (.var 1))) (.cons (.ret (.tup (.cons (.var 2) (.cons (.xattr 11 0 (.var 2)) .nil)))) .nil)) .nil) (.cons (.ife (.cmp .eq (.var 0) (.int 2)) (.cons (.asg (.nm 2) (.mkx 12 false (.var 1))) (.cons (.ret (.tup (.cons (.var 2) (.cons (.xattr 12 0 (.var 2)) .nil)))) .nil)) .nil) (.cons (.ife (.cmp .eq (.var 0) (.int 3)) (.cons (.asg (.nm 2) (.mkx 13 false (.var 1))) (.cons (.ret (.tup (.cons (.var 2) (.cons (.xattr 13 0 (.var 2)) .nil)))) .nil)) .nil) (.cons (.ife (.cmp .eq (.var 0) (.int 4)) (.cons (.asg (.nm 2) (.mkx 14 true (.var 1))) (.cons (.ret (.tup (.cons (.var 2) (.cons (.xattr 14 0 (.var 2)) .nil)))) .nil)) .nil) (.cons (.asg (.nm 2) (.mkx 15 false (.var 1))) (.cons (.ret (.tup (.cons (.var 2) (.cons (.xattr 15 0 (.var 2)) .nil)))) .nil)))))))⟩
def ir_f_law_made_b : Fn Fid := ⟨2, ["at", "x", "made"], (.cons (.ife (.cmp .eq (.var 0) (.int 6)) (.cons (.asg (.nm 2) (.mkx 16 false (.var 1))) (.cons (.ret (.tup (.cons (.var 2) (.cons (.xattr 16 0 (.var 2)) .nil)))) .nil)) .nil) (.cons (.ife (.cmp .eq (.var 0) (.int 7)) (.cons (.asg (.nm 2) (.mkx 17 true (.var 1))) (.cons (.ret (.tup (.cons (.var 2) (.cons (.xattr 17 0 (.var 2)) .nil)))) .nil)) .nil) (.cons (.ife (.cmp .eq (.var 0) (.int 8)) (.cons (.asg (.nm 2) (.mkx 18 false (.var 1))) (.cons (.ret (.tup (.cons (.var 2) (.cons (.xattr 18 0 (.var 2)) .nil)))) .nil)) .nil) (.cons (.ife (.cmp .eq (.var 0) (.int 9)) (.cons (.asg (.nm 2) (.mkx 19 false (.var 1))) (.cons (.ret (.tup (.cons (.var 2) (.cons (.xattr 19 0 (.var 2)) .nil)))) .nil)) .nil) (.cons (.ife (.cmp .eq (.var 0) (.int 10)) (.cons (.asg (.nm 2) (.mkx 20 true (.var 1))) (.cons (.ret (.tup (.cons (.var 2) (.cons (.xattr 20 0 (.var 2)) .nil)))) .nil)) .nil) (.cons (.asg (.nm 2) (.mkx 21 false (.var 1))) (.cons (.ret (.tup (.cons (.var 2) (.cons (.xattr 21 0 (.var 2)) .nil)))) .nil)))))))⟩
def ir_f_law_made_c : Fn Fid := ⟨2, ["at", "x", "made"], (.cons (.ife (.cmp .eq (.var 0) (.int 12)) (.cons (.asg (.nm 2) (.mkx 22 false (.var 1))) (.cons (.ret (.tup (.cons (.var 2) (.cons (.xattr 22 0 (.var 2)) .nil)))) .nil)) .nil) (.cons (.ife (.cmp .eq (.var 0) (.int 13)) (.cons (.asg (.nm 2) (.mkx 23 true (.var 1))) (.cons (.ret (.tup (.cons (.var 2) (.cons (.xattr 23 0 (.var 2)) .nil)))) .nil)) .nil) (.cons (.ife (.cmp .eq (.var 0) (.int 14)) (.cons (.asg (.nm 2) (.mkx 24 false (.var 1))) (.cons (.ret (.tup (.cons (.var 2) (.cons (.xattr 24 0 (.var 2)) .nil)))) .nil)) .nil) (.cons (.ife (.cmp .eq (.var 0) (.int 15)) (.cons (.asg (.nm 2) (.mkx 25 false (.var 1))) (.cons (.ret (.tup (.cons (.var 2) (.cons (.xattr 25 0 (.var 2)) .nil)))) .nil)) .nil) (.cons (.ife (.cmp .eq (.var 0) (.int 16)) (.cons (.asg (.nm 2) (.mkx 26 true (.var 1))) (.cons (.ret (.tup (.cons (.var 2) (.cons (.xattr 26 0 (.var 2)) .nil)))) .nil)) .nil) (.cons (.asg (.nm 2) (.mkx 27 false (.var 1))) (.cons (.ret (.tup (.cons (.var 2) (.cons (.xattr 27 0 (.var 2)) .nil)))) .nil)))))))⟩
def ir_f_law_made_d : Fn Fid := ⟨2, ["at", "x", "made"], (.cons (.ife (.cmp .eq (.var 0) (.int 18)) (.cons (.asg (.nm 2) (.mkx 28 false (.var 1))) (.cons (.ret (.tup (.cons (.var 2) (.cons (.xattr 28 0 (.var 2)) .nil)))) .nil)) .nil) (.cons (.ife (.cmp .eq (.var 0) (.int 19)) (.cons (.asg (.nm 2) (.mkx 29 true (.var 1))) (.cons (.ret (.tup (.cons (.var 2) (.cons (.xattr 29 0 (.var 2)) .nil)))) .nil)) .nil) (.cons (.ife (.cmp .eq (.var 0) (.int 20)) (.cons (.asg (.nm 2) (.mkx 30 false (.var 1))) (.cons (.ret (.tup (.cons (.var 2) (.cons (.xattr 30 0 (.var 2)) .nil)))) .nil)) .nil) (.cons (.asg (.nm 2) (.mkx 31 false (.var 1))) (.cons (.ret (.tup (.cons (.var 2) (.cons (.xattr 31 0 (.var 2)) .nil)))) .nil)))))⟩
def ir_f_law_made_at : Fn Fid := ⟨2, ["at", "x"], (.cons (.ife (.cmp .lt (.var 0) (.int 12)) (.cons (.ret (.ife (.cmp .lt (.var 0) (.int 6)) (.call .f_law_made_a (.cons (.var 0) (.cons (.var 1) .nil))) (.call .f_law_made_b (.cons (.var 0) (.cons (.var 1) .nil))))) .nil) .nil) (.cons (.ife (.cmp .lt (.var 0) (.int 22)) (.cons (.ret (.ife (.cmp .lt (.var 0) (.int 18)) (.call .f_law_made_c (.cons (.var 0) (.cons (.var 1) .nil))) (.call .f_law_made_d (.cons (.var 0) (.cons (.var 1) .nil))))) .nil) .nil) (.cons (.ret (.tup (.cons (.idx (.list (.cons (.mkx0 32) (.cons (.mkx0 33) .nil))) (.bin .sub (.var 0) (.int 22))) (.cons (.var 1) .nil)))) .nil)))⟩
def ir_f_law_object : Fn Fid := ⟨1, ["state", "way"], (.cons (.asg (.nm 1) (.call .f_law_pick (.cons (.var 0) (.cons (.int 7) .nil)))) (.cons (.ife (.cmp .lt (.var 1) (.int 2)) (.cons (.ret (.idx (.list (.cons (.call .f_law_between (.cons (.var 0) (.cons (.neg (.int 9)) (.cons (.int 9) .nil)))) (.cons (.bin .add (.str "w") (.bi .str1 (.cons (.call .f_law_pick (.cons (.var 0) (.cons (.int 99) .nil))) .nil))) .nil))) (.var 1))) .nil) .nil) (.cons (.ife (.cmp .lt (.var 1) (.int 5)) (.cons (.ret (.idx (.list (.cons .non (.cons (.cmp .eq (.call .f_law_pick (.cons (.var 0) (.cons (.int 2) .nil))) (.int 0)) (.cons (.tup (.cons (.int 1) (.cons (.call .f_law_pick (.cons (.var 0) (.cons (.int 9) .nil))) .nil))) .nil)))) (.bin .sub (.var 1) (.int 2)))) .nil) .nil) (.cons (.ret (.ife (.cmp .eq (.var 1) (.int 5)) (.list (.cons (.call .f_law_pick (.cons (.var 0) (.cons (.int 9) .nil))) (.cons (.list (.cons (.int 1) .nil)) .nil))) (.dict (.cons (.str "a") (.cons (.call .f_law_pick (.cons (.var 0) (.cons (.int 9) .nil))) .nil)) .nil))) .nil))))⟩
def ir_f_law_very : Fn Fid := ⟨2, ["found", "due", "same"], (.cons (.ife (.isI .list (.var 1)) (.cons (.expr (.lm .append (.var 1) (.cons (.str "more") .nil))) (.cons (.asg (.nm 2) (.and (.isI .list (.var 0)) (.and (.cmp .eq (.bi .len (.cons (.var 0) .nil)) (.bi .len (.cons (.var 1) .nil))) (.one (.cmp .eq (.idx (.var 0) (.neg (.int 1))) (.str "more")))))) (.cons (.expr (.lm .pop (.var 1) .nil)) (.cons (.ret (.and (.var 2) (.one (.fcall .f_law_same (.cons (.var 0) (.cons (.var 1) .nil)))))) .nil)))) .nil) (.cons (.ife (.isI .dict (.var 1)) (.cons (.asgSub (.var 1) (.str "more") (.int 1)) (.cons (.asg (.nm 2) (.and (.isI .dict (.var 0)) (.and (.cmp .isin (.str "more") (.var 0)) (.one (.cmp .eq (.bi .len (.cons (.var 0) .nil)) (.bi .len (.cons (.var 1) .nil))))))) (.cons (.expr (.dpop (.var 1) (.str "more"))) (.cons (.ret (.and (.var 2) (.one (.fcall .f_law_same (.cons (.var 0) (.cons (.var 1) .nil)))))) .nil)))) .nil) (.cons (.ret (.fcall .f_law_same (.cons (.var 0) (.cons (.var 1) .nil)))) .nil)))⟩
def ir_f_law_caught : Fn Fid := ⟨1, ["x", "told", "plain", "e"], (.cons (.tryX 13 0 3 1 [3]) (.cons (.asg (.nm 2) (.mkx0 0)) (.cons (.ret (.tup (.cons (.var 1) (.cons (.call .f_law_kinds_of (.cons (.var 2) .nil)) (.cons (.call .f_law_is_other (.cons (.var 2) .nil)) (.cons (.isX 67 [0,1,2,3,4,5,6,7,8,9,10,11,12,13,14,15,16,17,18,19,20,21,22,23,24,25,26,27,28,29,30,31,32,33,34,35,36,37,38,39,40,41,42,43,44,45,46,47,48,49,50,51,52,53,54,55,56,57,58,59,60,61,62,63,64,65,66] false [none] (.var 2)) .nil)))))) .nil)))⟩
def ir_f_law : Fn Fid := ⟨1, ["script", "state", "k", "at", "one", "two", "made", "kept", "other", "others", "e"], (.cons (.asg (.nm 1) (.mk (.call .f_law_start (.cons (.var 0) .nil)))) (.cons (.for_ (.nm 2) (.bi .range (.cons (.int 48) .nil)) (.cons (.asg (.nm 3) (.ife (.cmp .lt (.var 2) (.int 24)) (.bin .mod (.bi .int1 (.cons (.bin .add (.var 2) (.call .f_law_pick (.cons (.var 1) (.cons (.int 24) .nil)))) .nil)) (.int 24)) (.bin .sub (.var 2) (.int 24)))) (.cons (.par [4,5] (.cons (.mkq (.call .f_law_object (.cons (.var 1) .nil))) (.cons (.mkq (.call .f_law_object (.cons (.var 1) .nil))) .nil))) (.cons (.asg (.tu (.cons (.nm 6) (.cons (.nm 7) .nil))) (.call .f_law_made_at (.cons (.var 3) (.cons (.var 4) .nil)))) (.cons (.asg (.tu (.cons (.nm 8) (.cons (.nm 9) .nil))) (.call .f_law_made_at (.cons (.var 3) (.cons (.var 5) .nil)))) (.cons (.ife (.or (.not (.isX 67 [0,1,2,3,4,5,6,7,8,9,10,11,12,13,14,15,16,17,18,19,20,21,22,23,24,25,26,27,28,29,30,31,32,33,34,35,36,37,38,39,40,41,42,43,44,45,46,47,48,49,50,51,52,53,54,55,56,57,58,59,60,61,62,63,64,65,66] false [some 0] (.var 6))) (.or (.not (.isX 67 [0,1,2,3,4,5,6,7,8,9,10,11,12,13,14,15,16,17,18,19,20,21,22,23,24,25,26,27,28,29,30,31,32,33,34,35,36,37,38,39,40,41,42,43,44,45,46,47,48,49,50,51,52,53,54,55,56,57,58,59,60,61,62,63,64,65,66] false [none] (.var 6))) (.one (.cmp .ne (.call .f_law_kinds_of (.cons (.var 6) .nil)) (.list (.cons (.var 3) .nil)))))) (.cons (.ret (.bl false)) .nil) .nil) (.cons (.ife (.or (.call .f_law_is_other (.cons (.var 6) .nil)) (.or (.isXn 67 ["KeyError", "IndexError", "TypeError"] (.var 6)) (.one (.not (.isX 67 [0,1,2,3,4,5,6,7,8,9,10,11,12,13,14,15,16,17,18,19,20,21,22,23,24,25,26,27,28,29,30,31,32,33,34,35,36,37,38,39,40,41,42,43,44,45,46,47,48,49,50,51,52,53,54,55,56,57,58,59,60,61,62,63,64,65,66] false [some 0] (.var 8)))))) (.cons (.ret (.bl false)) .nil) .nil) (.cons (.ife (.or (.not (.call .f_law_very (.cons (.var 7) (.cons (.var 4) .nil)))) (.one (.not (.call .f_law_very (.cons (.var 9) (.cons (.var 5) .nil)))))) (.cons (.ret (.bl false)) .nil) .nil) .nil)))))))) (.cons (.ife (.not (.bi .all (.cons (.lc [10] (.nm 10) (.one (.fcall .f_law_others (.cons (.call .f_law_pick (.cons (.var 1) (.cons (.int 9) .nil))) .nil))) (.bl true) (.cmp .eq (.call .f_law_kinds_of (.cons (.var 10) .nil)) (.list .nil))) .nil))) (.cons (.ret (.bl false)) .nil) .nil) (.cons (.ret (.cmp .eq (.call .f_law_caught (.cons (.call .f_law_object (.cons (.var 1) .nil)) .nil)) (.tup (.cons (.list (.cons (.int 3) .nil)) (.cons (.list .nil) (.cons (.bl false) (.cons (.bl true) .nil))))))) .nil))))⟩
def T : Fid → Fn Fid
  | .f_law_start => ir_f_law_start
  | .f_law_pick => ir_f_law_pick
  | .f_law_between => ir_f_law_between
  | .f_law_same => ir_f_law_same
  | .f_law_kinds_of => ir_f_law_kinds_of
  | .f_law_others => ir_f_law_others
  | .f_law_is_other => ir_f_law_is_other
  | .f_law_made_a => ir_f_law_made_a
  | .f_law_made_b => ir_f_law_made_b
  | .f_law_made_c => ir_f_law_made_c
  | .f_law_made_d => ir_f_law_made_d
  | .f_law_made_at => ir_f_law_made_at
  | .f_law_object => ir_f_law_object
  | .f_law_very => ir_f_law_very
  | .f_law_caught => ir_f_law_caught
  | .f_law => ir_f_law
  | .z => ⟨0, [], .never⟩
def Z : LawData Fid := ⟨Lk0, T, fs, csL, dd, xsL, dx⟩
end LW
set_option Elab.async false
set_option linter.all false
set_option maxRecDepth 100000
set_option maxHeartbeats 4000000
namespace LW
open PySem L2 Fd
variable {wf n : Nat} {st : Sto}
theorem eqInts : ∀ xs ys : List Int, PyData.eqvAll (xs.map .int) (ys.map .int) = decide (xs = ys)
  | [], [] => rfl
  | [], _ :: _ => rfl
  | _ :: _, [] => rfl
  | x :: xs, y :: ys => by
    simp only [List.map_cons, PyData.eqvAll, PyData.eqv, eqInts xs ys]
    by_cases h : x = y <;> by_cases h2 : xs = ys <;> simp [h, h2]
theorem eqD_ints {xs ys : List Int} : eqD st (.lst (xs.map .int)) (.lst (ys.map .int)) = some (decide (xs = ys)) := by
  have h1 := depInts xs
  have h2 := depInts ys
  simp [eqD, pyOf, D.py, Fd.pyInts, SeqAt.shaped, PyData.canLay0, layInts, PyData.depth, PyData.eqv, eqInts]
  omega
/-! ### the kinds of an exception -/
def inB (c : Nat) (l : List Nat) : Bool := decide (c ∈ l)
def toldB (c m : Nat) : List D := (List.range m).map fun k => .bl (inB c [k + 10])
def kindsN (c : Nat) : List Nat := (List.range 24).filter fun k => inB c [k + 10]
def kindP (c : Nat) (d : D) : Bool := match d with
  | .int k => inB c [k.toNat + 10]
  | _ => false
theorem told_at {c k : Nat} (hk : k < 24) : atI (toldB c 24) (0 + (k : Int)) = some (.bl (inB c [k + 10])) := by
  rw [Int.zero_add]
  refine atI_nat ?_
  unfold toldB
  rw [List.getElem?_map, List.getElem?_range hk]
  rfl
theorem row_ok {cl : Cll Fid} {ρ : Rho} {c a b d e : Nat} {vs : List D} (hv : ρ[0]? = some (some (.exc c vs))) (hc : c < 67) : evE cl (.list (.cons (.isX 67 [a] false [some a] (.var 0)) (.cons (.isX 67 [b] false [some b] (.var 0)) (.cons (.isX 67 [d] false [some d] (.var 0)) (.cons (.isX 67 [e] false [some e] (.var 0)) .nil))))) ρ st =
    .ok (.fr (.lst [.bl (inB c [a]), .bl (inB c [b]), .bl (inB c [d]), .bl (inB c [e])])) st :=
  ev_list (xs := [.bl (inB c [a]), .bl (inB c [b]), .bl (inB c [d]), .bl (inB c [e])]) (evs_consW (ev_isX (ev_varp hv rfl) hc rfl) (evs_consW (ev_isX (ev_varp hv rfl) hc rfl) (evs_consW (ev_isX (ev_varp hv rfl) hc rfl) (evs_consW (ev_isX (ev_varp hv rfl) hc rfl) evs_nil)))) (Nat.le_of_ble_eq_true rfl)
theorem ext_step {cl : Cll Fid} {c a m : Nat} {vs : List D} (hc : c < 67) (hm : m ≤ 100) (ea : a = m + 10) : exS cl wf (.expr (.lm .extend (.var 1) (.cons (.list (.cons (.isX 67 [a] false [some a] (.var 0)) (.cons (.isX 67 [a + 1] false [some (a + 1)] (.var 0)) (.cons (.isX 67 [a + 2] false [some (a + 2)] (.var 0)) (.cons (.isX 67 [a + 3] false [some (a + 3)] (.var 0)) .nil))))) .nil))) [some (.exc c vs), some (.ref st.length), none] (st ++ [.live (.lst (toldB c m))]) =
    .next [some (.exc c vs), some (.ref st.length), none] (st ++ [.live (.lst (toldB c (m + 4)))]) := by
  subst ea
  have hl : (toldB c m).length = m := by simp [toldB]
  have := ev_extend (cl := cl) (ρ := [some (.exc c vs), some (.ref st.length), none]) (i := 1) (k := st.length) rfl (get_last (st := st) (x := .live (.lst (toldB c m)))) (row_ok (a := m + 10) (b := m + 10 + 1) (d := m + 10 + 2) (e := m + 10 + 3) (vs := vs) rfl hc) rfl (get_last (st := st) (x := .live (.lst (toldB c m)))) (by rw [hl]; simp; unfold lim; omega)
  rw [exS_expr this, set_last]
  have e : toldB c m ++ [.bl (inB c [m + 10]), .bl (inB c [m + 10 + 1]), .bl (inB c [m + 10 + 2]), .bl (inB c [m + 10 + 3])] = toldB c (m + 4) := by
    unfold toldB
    rw [List.range_succ, List.range_succ, List.range_succ, List.range_succ]
    simp only [List.map_append, List.map_cons, List.map_nil, List.append_assoc, List.cons_append, List.nil_append]
    try rw [show m + 1 + 10 = m + 10 + 1 by omega, show m + 2 + 10 = m + 10 + 2 by omega, show m + 3 + 10 = m + 10 + 3 by omega]
  try rw [e]
theorem kinds_ok {c : Nat} {vs : List D} (hc : c < 67) : callN T wf (n + 1) .f_law_kinds_of [.exc c vs] st = .ok (.fr (.lst ((kindsN c).map fun (k : Nat) => .int (0 + (k : Int))))) (st ++ [.live (.lst (toldB c 24))]) := by
  have hget : (st ++ [Slot.live (.lst (toldB c 24))])[st.length]? = some (.live (.lst (toldB c 24))) := by simp
  have lc : evE (callN T wf n) (.lc [2] (.nm 2) (.bi .range (.cons (.int 24) .nil)) (.idx (.var 1) (.var 2)) (.var 2)) [some (.exc c vs), some (.ref st.length), none] (st ++ [.live (.lst (toldB c 24))]) = .ok (.fr (.lst ((kindsN c).map fun (k : Nat) => .int (0 + (k : Int))))) (st ++ [.live (.lst (toldB c 24))]) := by
    have src : evI (callN T wf n) (.bi .range (.cons (.int 24) .nil)) [some (.exc c vs), some (.ref st.length), none] (st ++ [.live (.lst (toldB c 24))]) = .ok (.rng 0 24) (st ++ [.live (.lst (toldB c 24))]) := by
      simp [evI, evEs, evE, vD, Rs.map, Rs.bind, Wv.toD, srcBi, small62, ofO]
    rw [ev_lc (s := .rng 0 24) (kindP c) id src (by decide) fun x hx => ?_]
    · have : ((Src.rng 0 24).items.filter (kindP c)).map id = (kindsN c).map fun (k : Nat) => D.int (0 + (k : Int)) := by
        unfold kindsN
        simp only [Src.items, List.filter_map, List.map_id]
        congr 1
      rw [this]
    · simp only [Src.items, List.mem_map, List.mem_range] at hx
      obtain ⟨k, hk, rfl⟩ := hx
      have ga : getAt (st ++ [.live (.lst (toldB c 24))]) (.ref st.length) (.int (0 + (k : Int))) = some (.bl (inB c [k + 10])) := by
        simp only [getAt, dicOf, seqOf, lstOf, Fd.cellOf, hget, told_at hk, Option.map_some, Fd.res]
      have hp : kindP c (.int (0 + (k : Int))) = inB c [k + 10] := by simp [kindP]
      refine ⟨_, rfl, ?_, fun _ => ?_⟩
      · rw [hp]
        have r1 : Fd.res (st ++ [Slot.live (.lst (toldB c 24))]) (.ref st.length) = .ref st.length := by simp only [Fd.res, hget]
        have r2 : Fd.res (st ++ [Slot.live (.lst (toldB c 24))]) (.int (0 + (k : Int))) = .int (0 + (k : Int)) := rfl
        simp only [evE, vD, Rs.map, Rs.bind, Wv.toD, wipeR, List.set_cons_succ, List.set_cons_zero, List.getElem?_cons_succ, List.getElem?_cons_zero, r1, r2, ga, ofO]
      · simp [evE, vD, Rs.map, Wv.toD, wipeR, Fd.res]
  refine callN_ret (F := ir_f_law_kinds_of) [some (.exc c vs), none, none] rfl rfl rfl (exS_step (ρ1 := [some (.exc c vs), some (.ref st.length), none]) (st1 := st ++ [.live (.lst (toldB c 4))]) (exS_asg (ev_mk (row_ok rfl hc)))
    (exS_step (ext_step hc (by decide) rfl) (exS_step (ext_step hc (by decide) rfl) (exS_step (ext_step hc (by decide) rfl) (exS_step (ext_step hc (by decide) rfl) (exS_step (ext_step hc (by decide) rfl) (exS_stop (exS_ret lc))))))))
theorem kindsN_lt {c k : Nat} (h : k ∈ kindsN c) : k < 24 := by
  unfold kindsN at h
  exact List.mem_range.mp (List.mem_filter.mp h).1
/-! ### exceptions of the other files -/
def otherL : List Nat := [1, 2, 3, 4, 5, 6, 7, 8, 9] ++ (List.range 33).map (· + 34)
theorem isother_ok {c : Nat} {vs : List D} (hc : c < 67) (hn : c ∉ otherL) : callN T wf (n + 1) .f_law_is_other [.exc c vs] st = .ok (.d (.bl false)) (st ++ [.live (.lst (List.replicate 5 (.bl false)))]) := by
  have no : ∀ l : List Nat, (∀ k ∈ l, k ∈ otherL) → decide (c ∈ l) = false := fun l hl => decide_eq_false fun m => hn (hl c m)
  have n0 := no [1,2,3,4,5,6,7,8,9] (by decide)
  have n1 := no [34,35,36,37,38,39,40,41,42] (by decide)
  have n2 := no [43,44,45,46,47,48,49,50,51] (by decide)
  have n3 := no [52,53,54,55,56,57,58,59,60] (by decide)
  have n4 := no [61,62,63,64,65,66] (by decide)
  have hx : ∀ s : Sto, evE (callN T wf n) (.var 0) [some (D.exc c vs), some (.ref st.length)] s = .ok (.d (.exc c vs)) s := fun s => ev_varp rfl rfl
  have step : ∀ (m : Nat) (tbl : List Nat) (tup : Bool) (ts : List (Option Nat)), decide (c ∈ tbl) = false → m < 100 → exS (callN T wf n) wf (.expr (.lm .append (.var 1) (.cons (.isX 67 tbl tup ts (.var 0)) .nil))) [some (.exc c vs), some (.ref st.length)] (st ++ [.live (.lst (List.replicate m (.bl false)))]) =
      .next [some (.exc c vs), some (.ref st.length)] (st ++ [.live (.lst (List.replicate (m + 1) (.bl false)))]) := fun m tbl tup ts h hm => by
    have := ev_append (cl := callN T wf n) (ρ := [some (.exc c vs), some (.ref st.length)]) (i := 1) rfl (get_last (st := st) (x := .live (.lst (List.replicate m (.bl false))))) (ev_isX (n := 67) (tup := tup) (ts := ts) (hx _) hc h) get_last (by simp; unfold lim; omega)
    rw [exS_expr this, set_last, List.replicate_succ']
    rfl
  refine callN_ret (F := ir_f_law_is_other) [some (.exc c vs), none] rfl rfl rfl (exS_step (ρ1 := [some (.exc c vs), some (.ref st.length)]) (exS_asg (ev_mk (ev_list (xs := [.bl false]) (evs_consW (ev_isX (ev_varp rfl rfl) hc n0) evs_nil) (by decide))))
    (exS_step (step 1 _ _ _ n1 (by decide)) (exS_step (step 2 _ _ _ n2 (by decide)) (exS_step (step 3 _ _ _ n3 (by decide)) (exS_step (step 4 _ _ _ n4 (by decide)) (exS_stop (exS_ret (ev_cmp ev_bl (ev_varp rfl (live_res get_last)) ?_))))))))
  simp [opC, Wv.toD, seqOf, lstOf, Fd.cellOf, flats, flatOf, flatV]
  decide
end LW

set_option Elab.async false
set_option linter.all false
set_option maxRecDepth 100000
set_option maxHeartbeats 4000000
namespace LW
open PySem L2 Fd
variable {wf n : Nat} {st : Sto}
/-! ### what is made -/
theorem start_ok {ns : List Int} (hl : ns.length ≤ 63) : callN T wf (n + 1) .f_law_start [.scr ns] st = .ok (.fr (.lst [.ref st.length, .int 0, .int 0, .int 29])) (st ++ [.live (.lst (ns.map .int))]) := by
  refine callN_ret (F := ir_f_law_start) [some (.scr ns)] rfl rfl rfl (exS_stop (exS_ret (ev_list (evs_consW (ev_mk (x := .lst (ns.map .int)) (st1 := st) (ev_bi (ds := [.scr ns]) (evs_consW (ev_varp rfl rfl) evs_nil) ?_)) (evs_consW ev_int (evs_consW ev_int (evs_consW ev_int evs_nil)))) (Nat.le_of_ble_eq_true rfl))))
  simp only [evBi]
  rw [if_pos (by unfold lim; omega)]
theorem made_1 {at_ x : D} {c : Nat} {kw : Bool} (hx : Fd.res st x = x) : exS (callN T wf n) wf (.cons (.asg (.nm 2) (.mkx c kw (.var 1))) (.cons (.ret (.tup (.cons (.var 2) (.cons (.xattr c 0 (.var 2)) .nil)))) .nil)) [some at_, some x, none] st = .ret (.d (.tup [.exc c [x], x])) st := by
  refine exS_step (ρ1 := [some at_, some x, some (.exc c [x])]) (exS_asg (ev_mkx (ev_varp rfl hx))) (exS_stop (exS_ret (ev_tup (xs := [.exc c [x], x]) (evs_consW (w := .d (.exc c [x])) (ev_varp rfl rfl) (evs_consW (w := .d x) ?_ evs_nil)) (Nat.le_of_ble_eq_true rfl))))
  rw [ev_xattr (vs := [x]) (d := x) (ev_varp rfl rfl) rfl, hx]
theorem eqI {i j : Int} {cl : Cll Fid} {ρ : Rho} (h : ρ[0]? = some (some (.int i))) : evE cl (.cmp .eq (.var 0) (.int j)) ρ st = .ok (.d (.bl (i == j))) st := by
  refine ev_cmp (ev_vari h) ev_int ?_
  simp [opC, Wv.toD, eq_int, ofO]
theorem ltI {i j : Int} {cl : Cll Fid} {ρ : Rho} {k : Nat} (h : ρ[k]? = some (some (.int i))) : evE cl (.cmp .lt (.var k) (.int j)) ρ st = .ok (.d (.bl (decide (i < j)))) st := ev_cmp (ev_vari h) ev_int rfl
theorem ev_snap {cl : Cll Fid} {ρ : Rho} {i k : Nat} {c : Cell} (hv : ρ[i]? = some (some (.ref k))) (h : st[k]? = some (.live c)) : evE cl (.snap i) ρ st = .ok (.d c.toD) (st.set k (.froz c)) := by
  rw [evE, hv]
  simp only [still, h]
theorem made_a {i : Nat} (h0 : 0 ≤ i) (hi : i < 6) {x : D} (hx : Fd.res st x = x) : callN T wf (n + 1) .f_law_made_a [.int i, x] st = .ok (.d (.tup [.exc (i + 10) [x], x])) st := by
  have g := fun (c : Nat) (kw : Bool) => made_1 (wf := wf) (n := n) (st := st) (at_ := .int i) (c := c) (kw := kw) hx
  refine callN_ret (F := ir_f_law_made_a) [some (.int i), some x, none] rfl rfl rfl ?_
  have : i = 0 ∨ i = 1 ∨ i = 2 ∨ i = 3 ∨ i = 4 ∨ i = 5 := by omega
  rcases this with rfl | rfl | rfl | rfl | rfl | rfl
  · exact exS_stop (exS_if (eqI rfl) (g _ _))
  · exact exS_step (exS_if (eqI rfl) exS_nil) (exS_stop (exS_if (eqI rfl) (g _ _)))
  · exact exS_step (exS_if (eqI rfl) exS_nil) (exS_step (exS_if (eqI rfl) exS_nil) (exS_stop (exS_if (eqI rfl) (g _ _))))
  · exact exS_step (exS_if (eqI rfl) exS_nil) (exS_step (exS_if (eqI rfl) exS_nil) (exS_step (exS_if (eqI rfl) exS_nil) (exS_stop (exS_if (eqI rfl) (g _ _)))))
  · exact exS_step (exS_if (eqI rfl) exS_nil) (exS_step (exS_if (eqI rfl) exS_nil) (exS_step (exS_if (eqI rfl) exS_nil) (exS_step (exS_if (eqI rfl) exS_nil) (exS_stop (exS_if (eqI rfl) (g _ _))))))
  · exact exS_step (exS_if (eqI rfl) exS_nil) (exS_step (exS_if (eqI rfl) exS_nil) (exS_step (exS_if (eqI rfl) exS_nil) (exS_step (exS_if (eqI rfl) exS_nil) (exS_step (exS_if (eqI rfl) exS_nil) (g _ _)))))
theorem made_b {i : Nat} (h0 : 6 ≤ i) (hi : i < 12) {x : D} (hx : Fd.res st x = x) : callN T wf (n + 1) .f_law_made_b [.int i, x] st = .ok (.d (.tup [.exc (i + 10) [x], x])) st := by
  have g := fun (c : Nat) (kw : Bool) => made_1 (wf := wf) (n := n) (st := st) (at_ := .int i) (c := c) (kw := kw) hx
  refine callN_ret (F := ir_f_law_made_b) [some (.int i), some x, none] rfl rfl rfl ?_
  have : i = 6 ∨ i = 7 ∨ i = 8 ∨ i = 9 ∨ i = 10 ∨ i = 11 := by omega
  rcases this with rfl | rfl | rfl | rfl | rfl | rfl
  · exact exS_stop (exS_if (eqI rfl) (g _ _))
  · exact exS_step (exS_if (eqI rfl) exS_nil) (exS_stop (exS_if (eqI rfl) (g _ _)))
  · exact exS_step (exS_if (eqI rfl) exS_nil) (exS_step (exS_if (eqI rfl) exS_nil) (exS_stop (exS_if (eqI rfl) (g _ _))))
  · exact exS_step (exS_if (eqI rfl) exS_nil) (exS_step (exS_if (eqI rfl) exS_nil) (exS_step (exS_if (eqI rfl) exS_nil) (exS_stop (exS_if (eqI rfl) (g _ _)))))
  · exact exS_step (exS_if (eqI rfl) exS_nil) (exS_step (exS_if (eqI rfl) exS_nil) (exS_step (exS_if (eqI rfl) exS_nil) (exS_step (exS_if (eqI rfl) exS_nil) (exS_stop (exS_if (eqI rfl) (g _ _))))))
  · exact exS_step (exS_if (eqI rfl) exS_nil) (exS_step (exS_if (eqI rfl) exS_nil) (exS_step (exS_if (eqI rfl) exS_nil) (exS_step (exS_if (eqI rfl) exS_nil) (exS_step (exS_if (eqI rfl) exS_nil) (g _ _)))))
theorem made_c {i : Nat} (h0 : 12 ≤ i) (hi : i < 18) {x : D} (hx : Fd.res st x = x) : callN T wf (n + 1) .f_law_made_c [.int i, x] st = .ok (.d (.tup [.exc (i + 10) [x], x])) st := by
  have g := fun (c : Nat) (kw : Bool) => made_1 (wf := wf) (n := n) (st := st) (at_ := .int i) (c := c) (kw := kw) hx
  refine callN_ret (F := ir_f_law_made_c) [some (.int i), some x, none] rfl rfl rfl ?_
  have : i = 12 ∨ i = 13 ∨ i = 14 ∨ i = 15 ∨ i = 16 ∨ i = 17 := by omega
  rcases this with rfl | rfl | rfl | rfl | rfl | rfl
  · exact exS_stop (exS_if (eqI rfl) (g _ _))
  · exact exS_step (exS_if (eqI rfl) exS_nil) (exS_stop (exS_if (eqI rfl) (g _ _)))
  · exact exS_step (exS_if (eqI rfl) exS_nil) (exS_step (exS_if (eqI rfl) exS_nil) (exS_stop (exS_if (eqI rfl) (g _ _))))
  · exact exS_step (exS_if (eqI rfl) exS_nil) (exS_step (exS_if (eqI rfl) exS_nil) (exS_step (exS_if (eqI rfl) exS_nil) (exS_stop (exS_if (eqI rfl) (g _ _)))))
  · exact exS_step (exS_if (eqI rfl) exS_nil) (exS_step (exS_if (eqI rfl) exS_nil) (exS_step (exS_if (eqI rfl) exS_nil) (exS_step (exS_if (eqI rfl) exS_nil) (exS_stop (exS_if (eqI rfl) (g _ _))))))
  · exact exS_step (exS_if (eqI rfl) exS_nil) (exS_step (exS_if (eqI rfl) exS_nil) (exS_step (exS_if (eqI rfl) exS_nil) (exS_step (exS_if (eqI rfl) exS_nil) (exS_step (exS_if (eqI rfl) exS_nil) (g _ _)))))
theorem made_d {i : Nat} (h0 : 18 ≤ i) (hi : i < 22) {x : D} (hx : Fd.res st x = x) : callN T wf (n + 1) .f_law_made_d [.int i, x] st = .ok (.d (.tup [.exc (i + 10) [x], x])) st := by
  have g := fun (c : Nat) (kw : Bool) => made_1 (wf := wf) (n := n) (st := st) (at_ := .int i) (c := c) (kw := kw) hx
  refine callN_ret (F := ir_f_law_made_d) [some (.int i), some x, none] rfl rfl rfl ?_
  have : i = 18 ∨ i = 19 ∨ i = 20 ∨ i = 21 := by omega
  rcases this with rfl | rfl | rfl | rfl
  · exact exS_stop (exS_if (eqI rfl) (g _ _))
  · exact exS_step (exS_if (eqI rfl) exS_nil) (exS_stop (exS_if (eqI rfl) (g _ _)))
  · exact exS_step (exS_if (eqI rfl) exS_nil) (exS_step (exS_if (eqI rfl) exS_nil) (exS_stop (exS_if (eqI rfl) (g _ _))))
  · exact exS_step (exS_if (eqI rfl) exS_nil) (exS_step (exS_if (eqI rfl) exS_nil) (exS_step (exS_if (eqI rfl) exS_nil) (g _ _)))
def othersR : List (List Nat) := [[1, 2, 3, 4, 5, 6, 7, 8], [9, 34, 35, 36, 37, 38, 39, 40], [41, 42, 43, 44, 45, 46, 47, 48], [49, 50, 51, 52, 53, 54, 55, 56], [57, 58, 59, 60, 61, 62, 63, 64], [65, 66]]
def exO (d : Int) (c : Nat) : D := .exc c [.int d]
def othersL : List Nat := othersR.flatten
def upTo (d : Int) (k : Nat) : List D := ((othersR.take k).flatten).map (exO d)
theorem others_ok {d : Int} : callN T wf (n + 1) .f_law_others [.int d] [] = .ok (.d (.lst (othersL.map (exO d)))) [.froz (.lst (upTo d 6))] := by
  have hx : ∀ s : Sto, evE (callN T wf n) (.var 0) [some (D.int d), some (.ref 0)] s = .ok (.d (.int d)) s := fun s => ev_varp rfl rfl
  have e1 : exS (callN T wf n) wf (.expr (.lm .extend (.var 1) (.cons (.list (.cons (.mkx 9 false (.var 0)) (.cons (.mkx 34 false (.var 0)) (.cons (.mkx 35 false (.var 0)) (.cons (.mkx 36 false (.var 0)) (.cons (.mkx 37 false (.var 0)) (.cons (.mkx 38 false (.var 0)) (.cons (.mkx 39 false (.var 0)) (.cons (.mkx 40 false (.var 0)) .nil))))))))) .nil))) [some (D.int d), some (.ref 0)] [.live (.lst (upTo d 1))] = .next [some (D.int d), some (.ref 0)] [.live (.lst (upTo d 2))] :=
    (exS_expr (ev_extend (i := 1) (k := 0) (ys := upTo d 1) rfl rfl (ev_list (evs_consW (ev_mkx (hx _)) (evs_consW (ev_mkx (hx _)) (evs_consW (ev_mkx (hx _)) (evs_consW (ev_mkx (hx _)) (evs_consW (ev_mkx (hx _)) (evs_consW (ev_mkx (hx _)) (evs_consW (ev_mkx (hx _)) (evs_consW (ev_mkx (hx _)) evs_nil)))))))) (Nat.le_of_ble_eq_true rfl)) rfl rfl (Nat.le_of_ble_eq_true rfl))).trans rfl
  have e2 : exS (callN T wf n) wf (.expr (.lm .extend (.var 1) (.cons (.list (.cons (.mkx 41 false (.var 0)) (.cons (.mkx 42 false (.var 0)) (.cons (.mkx 43 false (.var 0)) (.cons (.mkx 44 false (.var 0)) (.cons (.mkx 45 false (.var 0)) (.cons (.mkx 46 false (.var 0)) (.cons (.mkx 47 false (.var 0)) (.cons (.mkx 48 false (.var 0)) .nil))))))))) .nil))) [some (D.int d), some (.ref 0)] [.live (.lst (upTo d 2))] = .next [some (D.int d), some (.ref 0)] [.live (.lst (upTo d 3))] :=
    (exS_expr (ev_extend (i := 1) (k := 0) (ys := upTo d 2) rfl rfl (ev_list (evs_consW (ev_mkx (hx _)) (evs_consW (ev_mkx (hx _)) (evs_consW (ev_mkx (hx _)) (evs_consW (ev_mkx (hx _)) (evs_consW (ev_mkx (hx _)) (evs_consW (ev_mkx (hx _)) (evs_consW (ev_mkx (hx _)) (evs_consW (ev_mkx (hx _)) evs_nil)))))))) (Nat.le_of_ble_eq_true rfl)) rfl rfl (Nat.le_of_ble_eq_true rfl))).trans rfl
  have e3 : exS (callN T wf n) wf (.expr (.lm .extend (.var 1) (.cons (.list (.cons (.mkx 49 false (.var 0)) (.cons (.mkx 50 false (.var 0)) (.cons (.mkx 51 false (.var 0)) (.cons (.mkx 52 false (.var 0)) (.cons (.mkx 53 false (.var 0)) (.cons (.mkx 54 false (.var 0)) (.cons (.mkx 55 false (.var 0)) (.cons (.mkx 56 false (.var 0)) .nil))))))))) .nil))) [some (D.int d), some (.ref 0)] [.live (.lst (upTo d 3))] = .next [some (D.int d), some (.ref 0)] [.live (.lst (upTo d 4))] :=
    (exS_expr (ev_extend (i := 1) (k := 0) (ys := upTo d 3) rfl rfl (ev_list (evs_consW (ev_mkx (hx _)) (evs_consW (ev_mkx (hx _)) (evs_consW (ev_mkx (hx _)) (evs_consW (ev_mkx (hx _)) (evs_consW (ev_mkx (hx _)) (evs_consW (ev_mkx (hx _)) (evs_consW (ev_mkx (hx _)) (evs_consW (ev_mkx (hx _)) evs_nil)))))))) (Nat.le_of_ble_eq_true rfl)) rfl rfl (Nat.le_of_ble_eq_true rfl))).trans rfl
  have e4 : exS (callN T wf n) wf (.expr (.lm .extend (.var 1) (.cons (.list (.cons (.mkx 57 false (.var 0)) (.cons (.mkx 58 false (.var 0)) (.cons (.mkx 59 false (.var 0)) (.cons (.mkx 60 false (.var 0)) (.cons (.mkx 61 false (.var 0)) (.cons (.mkx 62 false (.var 0)) (.cons (.mkx 63 false (.var 0)) (.cons (.mkx 64 false (.var 0)) .nil))))))))) .nil))) [some (D.int d), some (.ref 0)] [.live (.lst (upTo d 4))] = .next [some (D.int d), some (.ref 0)] [.live (.lst (upTo d 5))] :=
    (exS_expr (ev_extend (i := 1) (k := 0) (ys := upTo d 4) rfl rfl (ev_list (evs_consW (ev_mkx (hx _)) (evs_consW (ev_mkx (hx _)) (evs_consW (ev_mkx (hx _)) (evs_consW (ev_mkx (hx _)) (evs_consW (ev_mkx (hx _)) (evs_consW (ev_mkx (hx _)) (evs_consW (ev_mkx (hx _)) (evs_consW (ev_mkx (hx _)) evs_nil)))))))) (Nat.le_of_ble_eq_true rfl)) rfl rfl (Nat.le_of_ble_eq_true rfl))).trans rfl
  have e5 : exS (callN T wf n) wf (.expr (.lm .extend (.var 1) (.cons (.list (.cons (.mkx 65 false (.var 0)) (.cons (.mkx 66 false (.var 0)) .nil))) .nil))) [some (D.int d), some (.ref 0)] [.live (.lst (upTo d 5))] = .next [some (D.int d), some (.ref 0)] [.live (.lst (upTo d 6))] :=
    (exS_expr (ev_extend (i := 1) (k := 0) (ys := upTo d 5) rfl rfl (ev_list (evs_consW (ev_mkx (hx _)) (evs_consW (ev_mkx (hx _)) evs_nil)) (Nat.le_of_ble_eq_true rfl)) rfl rfl (Nat.le_of_ble_eq_true rfl))).trans rfl
  refine callN_ret (F := ir_f_law_others) [some (.int d), none] rfl rfl rfl (exS_step (ρ1 := [some (.int d), some (.ref 0)]) (st1 := [.live (.lst (upTo d 1))]) (exS_asg (ev_mk (ev_list (evs_consW (ev_mkx (ev_varp rfl rfl)) (evs_consW (ev_mkx (ev_varp rfl rfl)) (evs_consW (ev_mkx (ev_varp rfl rfl)) (evs_consW (ev_mkx (ev_varp rfl rfl)) (evs_consW (ev_mkx (ev_varp rfl rfl)) (evs_consW (ev_mkx (ev_varp rfl rfl)) (evs_consW (ev_mkx (ev_varp rfl rfl)) (evs_consW (ev_mkx (ev_varp rfl rfl)) evs_nil)))))))) (Nat.le_of_ble_eq_true rfl)))) (exS_step e1 (exS_step e2 (exS_step e3 (exS_step e4 (exS_step e5 (exS_stop (exS_ret ?_))))))))
  exact (ev_snap (cl := callN T wf n) (ρ := [some (.int d), some (.ref 0)]) (i := 1) (k := 0) (st := [.live (.lst (upTo d 6))]) (c := .lst (upTo d 6)) rfl rfl).trans rfl
def turnS : IS Fid := (.cons (.asg (.nm 3) (.ife (.cmp .lt (.var 2) (.int 24)) (.bin .mod (.bi .int1 (.cons (.bin .add (.var 2) (.call .f_law_pick (.cons (.var 1) (.cons (.int 24) .nil)))) .nil)) (.int 24)) (.bin .sub (.var 2) (.int 24)))) (.cons (.par [4,5] (.cons (.mkq (.call .f_law_object (.cons (.var 1) .nil))) (.cons (.mkq (.call .f_law_object (.cons (.var 1) .nil))) .nil))) (.cons (.asg (.tu (.cons (.nm 6) (.cons (.nm 7) .nil))) (.call .f_law_made_at (.cons (.var 3) (.cons (.var 4) .nil)))) (.cons (.asg (.tu (.cons (.nm 8) (.cons (.nm 9) .nil))) (.call .f_law_made_at (.cons (.var 3) (.cons (.var 5) .nil)))) (.cons (.ife (.or (.not (.isX 67 [0,1,2,3,4,5,6,7,8,9,10,11,12,13,14,15,16,17,18,19,20,21,22,23,24,25,26,27,28,29,30,31,32,33,34,35,36,37,38,39,40,41,42,43,44,45,46,47,48,49,50,51,52,53,54,55,56,57,58,59,60,61,62,63,64,65,66] false [some 0] (.var 6))) (.or (.not (.isX 67 [0,1,2,3,4,5,6,7,8,9,10,11,12,13,14,15,16,17,18,19,20,21,22,23,24,25,26,27,28,29,30,31,32,33,34,35,36,37,38,39,40,41,42,43,44,45,46,47,48,49,50,51,52,53,54,55,56,57,58,59,60,61,62,63,64,65,66] false [none] (.var 6))) (.one (.cmp .ne (.call .f_law_kinds_of (.cons (.var 6) .nil)) (.list (.cons (.var 3) .nil)))))) (.cons (.ret (.bl false)) .nil) .nil) (.cons (.ife (.or (.call .f_law_is_other (.cons (.var 6) .nil)) (.or (.isXn 67 ["KeyError", "IndexError", "TypeError"] (.var 6)) (.one (.not (.isX 67 [0,1,2,3,4,5,6,7,8,9,10,11,12,13,14,15,16,17,18,19,20,21,22,23,24,25,26,27,28,29,30,31,32,33,34,35,36,37,38,39,40,41,42,43,44,45,46,47,48,49,50,51,52,53,54,55,56,57,58,59,60,61,62,63,64,65,66] false [some 0] (.var 8)))))) (.cons (.ret (.bl false)) .nil) .nil) (.cons (.ife (.or (.not (.call .f_law_very (.cons (.var 7) (.cons (.var 4) .nil)))) (.one (.not (.call .f_law_very (.cons (.var 9) (.cons (.var 5) .nil)))))) (.cons (.ret (.bl false)) .nil) .nil) .nil)))))))
def finE : IE Fid := (.cmp .eq (.call .f_law_kinds_of (.cons (.var 10) .nil)) (.list .nil))
/-- the error at i -/
def exV (i : Nat) (x : D) : D := .exc (i + 10) (if i < 22 then [x] else [])
theorem made_at {i : Nat} (hi : i < 24) {x : D} (hx : Fd.res st x = x) : callN T wf (n + 2) .f_law_made_at [.int i, x] st = .ok (.d (.tup [exV i x, x])) st := by
  have es : evEs (callN T wf (n + 1)) (.cons (.var 0) (.cons (.var 1) .nil)) [some (.int i), some x] st = .ok [.int i, x] st := evs_consW (ev_varp rfl rfl) (evs_consW (ev_varp rfl hx) evs_nil)
  refine callN_ret (F := ir_f_law_made_at) [some (.int i), some x] rfl rfl rfl ?_
  by_cases h1 : i < 12
  · refine exS_stop (exS_if (k := true) ((ltI rfl).trans (by rw [decide_eq_true (by omega)])) (exS_stop (exS_ret ?_)))
    rw [ev_ife (ltI rfl)]
    have ex : exV i x = .exc (i + 10) [x] := by unfold exV; rw [if_pos (by omega)]
    rw [ex]
    by_cases h2 : i < 6
    · rw [decide_eq_true (by omega), if_pos rfl]
      exact ev_call es (made_a (Nat.zero_le _) h2 hx)
    · rw [decide_eq_false (by omega), if_neg (by decide)]
      exact ev_call es (made_b (by omega) h1 hx)
  · refine exS_step (exS_if (k := false) ((ltI rfl).trans (by rw [decide_eq_false (by omega)])) exS_nil) ?_
    by_cases h3 : i < 22
    · refine exS_stop (exS_if (k := true) ((ltI rfl).trans (by rw [decide_eq_true (by omega)])) (exS_stop (exS_ret ?_)))
      rw [ev_ife (ltI rfl)]
      have ex : exV i x = .exc (i + 10) [x] := by unfold exV; rw [if_pos h3]
      rw [ex]
      by_cases h2 : i < 18
      · rw [decide_eq_true (by omega), if_pos rfl]
        exact ev_call es (made_c (by omega) h2 hx)
      · rw [decide_eq_false (by omega), if_neg (by decide)]
        exact ev_call es (made_d (by omega) h3 hx)
    · refine exS_step (exS_if (k := false) ((ltI rfl).trans (by rw [decide_eq_false (by omega)])) exS_nil) (exS_stop (exS_ret ?_))
      refine ev_tup (xs := [exV i x, x]) (evs_consW (w := .d (exV i x)) (ev_idx (ev_list (evs_consW ev_mkx0 (evs_consW ev_mkx0 evs_nil)) (Nat.le_of_ble_eq_true rfl)) (ev_binW (ev_vari rfl) ev_int rfl) ?_) (evs_consW (ev_varp rfl hx) evs_nil)) (Nat.le_of_ble_eq_true rfl)
      have : i = 22 ∨ i = 23 := by omega
      rcases this with rfl | rfl <;> rfl
end LW

set_option Elab.async false
set_option linter.all false
set_option maxRecDepth 100000
set_option maxHeartbeats 4000000
namespace LW
open PySem L2 Fd
variable {wf n : Nat} {st : Sto}
/-! ### a thing -/
theorem _root_.Fd.Pk.same {k0 k1 m0 : Nat} {b : Int} {st st' : Sto} (h : Pk k0 k1 m0 b st) (h0 : st'[k0]? = st[k0]?) (h1 : st'[k1]? = st[k1]?) : Pk k0 k1 m0 b st' := by
  obtain ⟨cs, a, c, q, r⟩ := h.ex
  exact ⟨cs, a, c, ⟨q.ne, by rw [h0]; exact q.h0, by rw [h1]; exact q.h1⟩, r⟩
theorem wpick {k0 k1 m0 : Nat} {b m : Int} {ρ : Rho} {i : Nat} (hw : m0 < wf) (hm : 0 < m) (hm2 : m < 1073741824) (hb : 0 ≤ b) (hb2 : b < 1099511627776) (h : Pk k0 k1 m0 b st) (hv : ρ[i]? = some (some (.ref k1))) :
    ∃ d st', evE (callN T wf (n + 1)) (.call .f_law_pick (.cons (.var i) (.cons (.int m) .nil))) ρ st = .ok (.d (.int d)) st' ∧ 0 ≤ d ∧ d < m ∧ Pk k0 k1 m0 (b + 1) st' ∧ Off k0 k1 st st' := by
  obtain ⟨d, st', e, r⟩ := pick_ok (T := T) (f := .f_law_pick) (φ := Fid) rfl (n := n) hw hm hm2 hb hb2 h
  exact ⟨d, st', ev_call (evs_consW (ev_varp hv h.res) (evs_consW ev_int evs_nil)) e, r⟩
def wstr (d : Int) : Str := ("w" : Str) ++ Str.ofString (toString d)
theorem wstr_ok {d : Int} (h0 : 0 ≤ d) (h1 : d < 99) : PyData.strOk (wstr d) = true ∧ ("w" : Str).length + (Str.ofString (toString d)).length ≤ lim := by
  obtain ⟨n, rfl⟩ : ∃ n : Nat, d = n := ⟨d.toNat, by omega⟩
  have : ∀ n : Fin 99, (PyData.strOk (wstr (n.val : Int)) && Nat.ble (("w" : Str).length + (Str.ofString (toString (n.val : Int))).length) lim) = true := by decide +kernel
  have := this ⟨n, by omega⟩
  rw [Bool.and_eq_true] at this
  exact ⟨this.1, Nat.le_of_ble_eq_true this.2⟩
theorem log_ok {d : Int} (h0 : 0 ≤ d) (h1 : d < 99) : d.natAbs.log2 < 1920 := by
  by_cases h : d.natAbs = 0
  · rw [h]; decide
  · have : d.natAbs.log2 < 7 := (Nat.log2_lt h).mpr (by omega)
    omega
/-- a new thing -/
def Thing (w : Wv) : Prop := (∃ x, w = .d x ∧ plB 3 x = true ∧ ∀ st, kindIs st .list x = some false ∧ kindIs st .dict x = some false) ∨ (∃ d, w = .fr (.lst [.int d, .lst [.int 1]])) ∨ ∃ d, w = .fr (.dK [.inr "a"] [.int d])
theorem object_ok {m0 : Nat} {b : Int} (hw : m0 < wf) (hb : 0 ≤ b) (hb2 : b < 1000000) (h : Pk 0 1 m0 b st) :
    ∃ w st' b', callN T wf (n + 3) .f_law_object [.ref 1] st = .ok w st' ∧ Thing w ∧ Pk 0 1 m0 b' st' ∧ 0 ≤ b' ∧ b' ≤ b + 6 ∧ st'.length = st.length ∧ ∀ i, 2 ≤ i → st'[i]? = st[i]? := by
  obtain ⟨kd, s1, e1, p1, p2, h1, o1⟩ := wpick (n := n + 1) (ρ := [some (.ref 1), none]) (i := 0) (m := 7) hw (by decide) (by decide) hb (by omega) h rfl
  have off : ∀ {s s' : Sto}, Off 0 1 s s' → ∀ i, 2 ≤ i → s'[i]? = s[i]? := fun o i hi => o.2 i (by omega) (by omega)
  by_cases k2 : kd < 2
  · obtain ⟨d1, s2, e2, q1, q2, h2, o2⟩ := between_ok (T := T) (f := .f_law_between) (p := .f_law_pick) rfl rfl (n := n) (lo := -9) (hi := 9) hw (by decide) (by omega) (by omega) h1
    obtain ⟨d2, s3, e3, r1, r2, h3, o3⟩ := wpick (n := n + 1) (ρ := [some (.ref 1), some (.int kd)]) (i := 0) (m := 99) hw (by decide) (by decide) (by omega) (by omega) h2 rfl
    obtain ⟨ok2, ol2⟩ := wstr_ok r1 r2
    have v0 : evE (callN T wf (n + 2)) (.var 0) [some (.ref 1), some (.int kd)] s1 = .ok (.d (.ref 1)) s1 := ev_varp rfl h1.res
    have get : ∀ (x : D) (j : Nat), kd = j → [D.int (-9 + d1), .str (wstr d2)][j]? = some x → Fd.res s3 x = x → callN T wf (n + 3) .f_law_object [.ref 1] st = .ok (.d x) s3 := fun x j ej hx hr => by
      refine callN_ret (F := ir_f_law_object) [some (.ref 1), none] rfl rfl rfl (exS_step (exS_asg e1) (exS_stop (exS_if (k := true) ((ltI rfl).trans (by rw [decide_eq_true k2])) (exS_stop (exS_ret (ev_idx (ev_list (xs := [.int (-9 + d1), .str (wstr d2)]) (evs_consW (ev_call (evs_consW v0 (evs_consW (ev_neg ev_int) (evs_consW ev_int evs_nil))) e2)
        (evs_consW (ev_binW ev_str (ev_bi (evs_consW e3 evs_nil) (show evBi .str1 [.int d2] s3 = .ok (.d (.str (Str.ofString (toString d2)))) s3 from if_pos (log_ok r1 r2))) (show opB .add (.str "w") (.str (Str.ofString (toString d2))) s3 = .ok (.d (.str (wstr d2))) s3 from if_pos ol2)) evs_nil)) (Nat.le_of_ble_eq_true rfl)) (ev_vari rfl) ?_))))))
      have hj : j < 2 := by omega
      subst ej
      simp only [getAt, Wv.toD, Cell.toD, dicOf, seqOf, lstOf]
      rw [atI_nat hx, Option.map_some, hr]
    have l3 : s3.length = st.length := by rw [o3.1, o2.1, o1.1]
    have of3 : ∀ i, 2 ≤ i → s3[i]? = st[i]? := fun i hi => by rw [off o3 i hi, off o2 i hi, off o1 i hi]
    have : kd = (0 : Nat) ∨ kd = (1 : Nat) := by omega
    rcases this with e | e
    · exact ⟨_, _, _, get _ 0 e rfl rfl, .inl ⟨_, rfl, rfl, fun _ => ⟨rfl, rfl⟩⟩, h3, by omega, by omega, l3, of3⟩
    · exact ⟨_, _, _, get _ 1 e rfl rfl, .inl ⟨_, rfl, ok2, fun _ => ⟨rfl, rfl⟩⟩, h3, by omega, by omega, l3, of3⟩
  · by_cases k5 : kd < 5
    · obtain ⟨d3, s3, e3, r1, r2, h3, o3⟩ := wpick (n := n + 1) (ρ := [some (.ref 1), some (.int kd)]) (i := 0) (m := 2) hw (by decide) (by decide) (by omega) (by omega) h1 rfl
      obtain ⟨d4, s4, e4, t1, t2, h4, o4⟩ := wpick (n := n + 1) (ρ := [some (.ref 1), some (.int kd)]) (i := 0) (m := 9) hw (by decide) (by decide) (by omega) (by omega) h3 rfl
      have l4 : s4.length = st.length := by rw [o4.1, o3.1, o1.1]
      have of4 : ∀ i, 2 ≤ i → s4[i]? = st[i]? := fun i hi => by rw [off o4 i hi, off o3 i hi, off o1 i hi]
      have get : ∀ (x : D) (j : Nat), kd - 2 = j → [D.non, .bl (d3 == 0), .tup [.int 1, .int d4]][j]? = some x → Fd.res s4 x = x → callN T wf (n + 3) .f_law_object [.ref 1] st = .ok (.d x) s4 := fun x j ej hx hr => by
        refine callN_ret (F := ir_f_law_object) [some (.ref 1), none] rfl rfl rfl (exS_step (exS_asg e1) (exS_step (exS_if (k := false) ((ltI rfl).trans (by rw [decide_eq_false k2])) exS_nil) (exS_stop (exS_if (k := true) ((ltI rfl).trans (by rw [decide_eq_true k5])) (exS_stop (exS_ret (ev_idx (ev_list (xs := [.non, .bl (d3 == 0), .tup [.int 1, .int d4]]) (evs_consW ev_non
          (evs_consW (ev_cmp e3 ev_int (by simp [opC, Wv.toD, eq_int, ofO])) (evs_consW (ev_tup (evs_consW ev_int (evs_consW e4 evs_nil)) (Nat.le_of_ble_eq_true rfl)) evs_nil))) (Nat.le_of_ble_eq_true rfl)) (ev_binW (ev_vari rfl) ev_int rfl) ?_)))))))
        simp only [getAt, Wv.toD, Cell.toD, dicOf, seqOf, lstOf]
        rw [ej, atI_nat hx, Option.map_some, hr]
      have : kd - 2 = (0 : Nat) ∨ kd - 2 = (1 : Nat) ∨ kd - 2 = (2 : Nat) := by omega
      rcases this with e | e | e
      · exact ⟨_, _, _, get _ 0 e rfl rfl, .inl ⟨_, rfl, rfl, fun _ => ⟨rfl, rfl⟩⟩, h4, by omega, by omega, l4, of4⟩
      · exact ⟨_, _, _, get _ 1 e rfl rfl, .inl ⟨_, rfl, rfl, fun _ => ⟨rfl, rfl⟩⟩, h4, by omega, by omega, l4, of4⟩
      · exact ⟨_, _, _, get _ 2 e rfl rfl, .inl ⟨_, rfl, by simp [plB], fun _ => ⟨rfl, rfl⟩⟩, h4, by omega, by omega, l4, of4⟩
    · obtain ⟨d6, s6, e6, w1, w2, h6, o6⟩ := wpick (n := n + 1) (ρ := [some (.ref 1), some (.int kd)]) (i := 0) (m := 9) hw (by decide) (by decide) (by omega) (by omega) h1 rfl
      have l6 : s6.length = st.length := by rw [o6.1, o1.1]
      have of6 : ∀ i, 2 ≤ i → s6[i]? = st[i]? := fun i hi => by rw [off o6 i hi, off o1 i hi]
      have kI : ∀ {cl : Cll Fid}, evE cl (.cmp .eq (.var 1) (.int 5)) [some (.ref 1), some (.int kd)] s1 = .ok (.d (.bl (kd == 5))) s1 := fun {cl} => ev_cmp (ev_vari rfl) ev_int (by simp [opC, Wv.toD, eq_int, ofO])
      have tail : ∀ {w : Wv}, (if (kd == 5) = true then evE (callN T wf (n + 2)) (.list (.cons (.call .f_law_pick (.cons (.var 0) (.cons (.int 9) .nil))) (.cons (.list (.cons (.int 1) .nil)) .nil))) [some (.ref 1), some (.int kd)] s1 else evE (callN T wf (n + 2)) (.dict (.cons (.str "a") (.cons (.call .f_law_pick (.cons (.var 0) (.cons (.int 9) .nil))) .nil)) .nil) [some (.ref 1), some (.int kd)] s1) = .ok w s6 →
          callN T wf (n + 3) .f_law_object [.ref 1] st = .ok w s6 := fun {w} hh => by
        exact callN_ret (F := ir_f_law_object) [some (.ref 1), none] rfl rfl rfl (exS_step (exS_asg e1) (exS_step (exS_if (k := false) ((ltI rfl).trans (by rw [decide_eq_false k2])) exS_nil) (exS_step (exS_if (k := false) ((ltI rfl).trans (by rw [decide_eq_false k5])) exS_nil) (exS_stop (exS_ret ((ev_ife kI).trans hh))))))
      by_cases k6 : kd = 5
      · refine ⟨_, _, _, tail ?_, .inr (.inl ⟨d6, rfl⟩), h6, by omega, by omega, l6, of6⟩
        rw [if_pos (by simp [k6])]
        exact ev_list (evs_consW e6 (evs_consW (ev_list (evs_consW ev_int evs_nil) (Nat.le_of_ble_eq_true rfl)) evs_nil)) (Nat.le_of_ble_eq_true rfl)
      · refine ⟨_, _, _, tail ?_, .inr (.inr ⟨d6, rfl⟩), h6, by omega, by omega, l6, of6⟩
        rw [if_neg (by simp [k6]), evE]
        rw [evs_consW ev_str (evs_consW e6 evs_nil)]
        rfl
end LW

set_option Elab.async false
set_option linter.all false
set_option maxRecDepth 100000
set_option maxHeartbeats 4000000
namespace LW
open PySem L2 Fd
variable {wf n : Nat} {st : Sto}
/-! ### the very thing -/
theorem plB_succ : ∀ (n : Nat) (d : D), plB n d = true → plB (n + 1) d = true
  | 0, _, h => by simp [plB] at h
  | n + 1, .non, _ => rfl
  | n + 1, .bl _, _ => rfl
  | n + 1, .int _, _ => rfl
  | n + 1, .str _, h => h
  | n + 1, .lst xs, h => by
    simp only [plB, Bool.and_eq_true, List.all_eq_true] at h ⊢
    exact ⟨fun d hd => plB_succ n d (h.1 d hd), h.2⟩
  | n + 1, .tup xs, h => by
    simp only [plB, Bool.and_eq_true, List.all_eq_true] at h ⊢
    exact ⟨fun d hd => plB_succ n d (h.1 d hd), h.2⟩
  | n + 1, .dK ks xs, h => by
    have h4 : plB n (.lst (ks.map dkey)) = true := by
      simp only [plB, Bool.and_eq_true] at h
      exact h.2
    have := plB_succ n _ h4
    simp only [plB, Bool.and_eq_true, List.all_eq_true] at h this ⊢
    exact ⟨⟨⟨fun d hd => plB_succ n d (h.1.1.1 d hd), h.1.1.2⟩, h.1.2⟩, this⟩
  | n + 1, .dT .., h => by simp [plB] at h
  | n + 1, .obj .., h => by simp [plB] at h
  | n + 1, .exc .., h => by simp [plB] at h
  | n + 1, .ref .., h => by simp [plB] at h
  | n + 1, .scr .., h => by simp [plB] at h
theorem plB_le {m n : Nat} {d : D} (h : m ≤ n) (p : plB m d = true) : plB n d = true := by
  obtain ⟨k, rfl⟩ := Nat.exists_eq_add_of_le h
  induction k with
  | zero => exact p
  | succ k ih => exact plB_succ _ _ (ih (by omega))
theorem set_same {v : Slot} {k : Nat} (h : st[k]? = some v) : st.set k v = st := by
  obtain ⟨hk, rfl⟩ := List.getElem?_eq_some_iff.mp h
  exact List.set_getElem_self hk
def lstT (d : Int) : List D := [.int d, .lst [.int 1]]
/-- a thing as it stands -/
def Tng (st : Sto) (x : D) : Prop := (plB 3 x = true ∧ ∀ st, kindIs st .list x = some false ∧ kindIs st .dict x = some false) ∨
  (∃ k d, x = .ref k ∧ 2 ≤ k ∧ st[k]? = some (.live (.lst (lstT d)))) ∨ ∃ k d, x = .ref k ∧ 2 ≤ k ∧ st[k]? = some (.live (.dK [.inr "a"] [.int d]))
theorem Tng.res {x : D} (h : Tng st x) : Fd.res st x = x := by
  rcases h with ⟨h, _⟩ | ⟨k, d, rfl, k2, h⟩ | ⟨k, d, rfl, k2, h⟩
  · exact res_clo (plB_clo _ _ h)
  · exact live_res h
  · exact live_res h
theorem ev_pop {cl : Cll Fid} {ρ : Rho} {i k : Nat} {xs : List D} {y : D} (hv : ρ[i]? = some (some (.ref k))) (hg : st[k]? = some (.live (.lst (xs ++ [y])))) : evE cl (.lm .pop (.var i) .nil) ρ st = .ok (.d (Fd.res st y)) (st.set k (.live (.lst xs))) := by
  rw [evE, ev_varp hv (live_res hg)]
  simp only [vD, Rs.map, Rs.bind, Wv.toD, live_lst hg]
  rw [evs_nil]
  have e : (xs ++ [y])[(xs ++ [y]).length - 1]? = some y := by simp
  simp only [evLm, hg, e, List.dropLast_concat]
theorem eqS {cl : Cll Fid} {ρ : Rho} {a b : IE Fid} {z : Str} (h1 : evE cl a ρ st = .ok (.d (.str z)) st) (h2 : evE cl b ρ st = .ok (.d (.str z)) st) (hz : PyData.strOk z = true) : evE cl (.cmp .eq a b) ρ st = .ok (.d (.bl true)) st := by
  refine ev_cmp h1 h2 ?_
  have := eqD_str (st := st) hz hz
  simp only [opC, Wv.toD, this, beq_self_eq_true]
  rfl
theorem eqN {cl : Cll Fid} {ρ : Rho} {a b : IE Fid} {z : Int} (h1 : evE cl a ρ st = .ok (.d (.int z)) st) (h2 : evE cl b ρ st = .ok (.d (.int z)) st) : evE cl (.cmp .eq a b) ρ st = .ok (.d (.bl true)) st := by
  refine ev_cmp h1 h2 ?_
  simp [opC, Wv.toD, eq_int, ofO]
theorem lstT_pl {d : Int} : plB 3 (.lst (lstT d)) = true := by simp [plB, lstT]
theorem very_ok {x : D} (h : Tng st x) : callN T wf (n + 6) .f_law_very [x, x] st = .ok (.d (.bl true)) st := by
  have rx := h.res
  have v0 : ∀ s (u : Option D), Fd.res s x = x → evE (callN T wf (n + 5)) (.var 0) [some x, some x, u] s = .ok (.d x) s := fun s u r => ev_varp rfl r
  have v1 : ∀ s (u : Option D), Fd.res s x = x → evE (callN T wf (n + 5)) (.var 1) [some x, some x, u] s = .ok (.d x) s := fun s u r => ev_varp rfl r
  have vs : ∀ s (u : Option D), Fd.res s x = x → evEs (callN T wf (n + 5)) (.cons (.var 0) (.cons (.var 1) .nil)) [some x, some x, u] s = .ok [x, x] s := fun s u r => evs_consW (v0 s u r) (evs_consW (v1 s u r) evs_nil)
  rcases h with ⟨hp, hk⟩ | ⟨k, d, rfl, k2, hc⟩ | ⟨k, d, rfl, k2, hc⟩
  · have cx : x.clo = true := plB_clo _ _ hp
    refine callN_ret (F := ir_f_law_very) [some x, some x, none] rfl rfl rfl (exS_step (exS_if (k := false) (ev_isI (v1 st _ rx) (hk st).1) exS_nil) (exS_step (exS_if (k := false) (ev_isI (v1 st _ rx) (hk st).2) exS_nil) (exS_stop (exS_ret ?_))))
    exact ev_fcall (vs st _ rx) (by simp [D.cloL, cx]) (same_ok (T := T) (f := Fid.f_law_same) rfl (n + 5) x (plB_le (by omega) hp)) rfl
  · -- a list
    have lt := (List.getElem?_eq_some_iff.mp hc).1
    have hs : (st.set k (.live (.lst (lstT d ++ [.str "more"]))))[k]? = some (.live (.lst (lstT d ++ [.str "more"]))) := List.getElem?_set_self lt
    have rs := live_res hs
    have back : (st.set k (.live (.lst (lstT d ++ [.str "more"])))).set k (.live (.lst (lstT d))) = st := by rw [List.set_set]; exact set_same hc
    have ap : evE (callN T wf (n + 5)) (.lm .append (.var 1) (.cons (.str "more") .nil)) [some (.ref k), some (.ref k), none] st = .ok (.d .non) (st.set k (.live (.lst (lstT d ++ [.str "more"])))) :=
      ev_append (cl := callN T wf (n + 5)) (ρ := [some (D.ref k), some (.ref k), none]) (i := 1) rfl hc (e := .str "more") ev_str hc (by simp [lstT]; unfold lim; omega)
    have k1 : kindIs st .list (.ref k) = some true := by simp only [kindIs, Fd.cellOf, hc]
    have k3 : kindIs (st.set k (.live (.lst (lstT d ++ [.str "more"])))) .list (.ref k) = some true := by simp only [kindIs, Fd.cellOf, hs]
    have ln : ∀ (j : Nat) (u : Option D), [some (D.ref k), some (D.ref k), u][j]? = some (some (D.ref k)) → evE (callN T wf (n + 5)) (.bi .len (.cons (.var j) .nil)) [some (.ref k), some (.ref k), u] (st.set k (.live (.lst (lstT d ++ [.str "more"])))) = .ok (.d (.int (lstT d ++ [D.str "more"]).length)) (st.set k (.live (.lst (lstT d ++ [.str "more"])))) := fun j u hj => ev_bi (evs_consW (ev_varp hj rs) evs_nil) (len_ref hs)
    have sm : evE (callN T wf (n + 5)) (.and (.isI .list (.var 0)) (.and (.cmp .eq (.bi .len (.cons (.var 0) .nil)) (.bi .len (.cons (.var 1) .nil))) (.one (.cmp .eq (.idx (.var 0) (.neg (.int 1))) (.str "more"))))) [some (.ref k), some (.ref k), none] (st.set k (.live (.lst (lstT d ++ [.str "more"])))) = .ok (.d (.bl true)) (st.set k (.live (.lst (lstT d ++ [.str "more"])))) := by
      refine (ev_and1 (ev_isI (v0 _ _ rs) k3)).trans ((ev_and1 (eqN (ln 0 _ rfl) (ln 1 _ rfl))).trans (ev_one.trans (eqS (ev_idx (v0 _ _ rs) (ev_neg ev_int) ?_) ev_str (by decide +kernel))))
      simp only [getAt, Wv.toD, dicOf, seqOf, lstOf, Fd.cellOf, hs]
      rfl
    have po := ev_pop (cl := callN T wf (n + 5)) (ρ := [some (D.ref k), some (.ref k), some (.bl true)]) (i := 1) rfl hs
    rw [back] at po
    refine callN_ret (F := ir_f_law_very) [some (.ref k), some (.ref k), none] rfl rfl rfl (exS_stop (exS_if (k := true) (ev_isI (v1 st _ rx) k1) (exS_step (exS_expr ap) (exS_step (exS_asg sm) (exS_step (exS_expr po) (exS_stop (exS_ret ?_)))))))
    refine (ev_and1 (ev_varp rfl rfl)).trans (ev_one.trans ?_)
    refine ev_fcallR (vs _ _ rx) (ys := [.lst (lstT d), .lst (lstT d)]) ?_ (same_ok (T := T) (f := Fid.f_law_same) rfl (n + 5) _ (plB_le (by omega) (lstT_pl (d := d))))
    have cx := plB_clo _ _ (lstT_pl (d := d))
    have vw : viewD st (.ref k) = some (.lst (lstT d)) := by
      simp only [viewD, Fd.cellOf, hc]
      exact if_pos cx
    simp only [viewL, vw]
  · -- a dict
    have lt := (List.getElem?_eq_some_iff.mp hc).1
    have hs : (st.set k (.live (.dK [.inr "a", .inr "more"] [.int d, .int 1])))[k]? = some (.live (.dK [.inr "a", .inr "more"] [.int d, .int 1])) := List.getElem?_set_self lt
    have rs := live_res hs
    have back : (st.set k (.live (.dK [.inr "a", .inr "more"] [.int d, .int 1]))).set k (.live (.dK [.inr "a"] [.int d])) = st := by rw [List.set_set]; exact set_same hc
    have ap : exS (callN T wf (n + 5)) wf (.asgSub (.var 1) (.str "more") (.int 1)) [some (.ref k), some (.ref k), none] st = .next [some (.ref k), some (.ref k), none] (st.set k (.live (.dK [.inr "a", .inr "more"] [.int d, .int 1]))) := by
      have e : setSub (.ref k) (.str "more") (.int 1) st = some (st.set k (.live (.dK [.inr "a", .inr "more"] [.int d, .int 1]))) := by
        simp only [setSub, hc, keyOf, Option.bind_some]
        have l1 : 1 < lim := by decide
        have p1 : Fd.putK ([.inr "a"] : List Key) [D.int d] (.inr "more") (.int 1) = ([.inr "a", .inr "more"], [.int d, .int 1]) := rfl
        simp [l1, p1]
      exact exS_asgSub ev_int (v1 st _ rx) ev_str e
    have k1 : kindIs st .list (.ref k) = some false := by simp only [kindIs, Fd.cellOf, hc]
    have k2' : kindIs st .dict (.ref k) = some true := by simp only [kindIs, Fd.cellOf, hc]
    have k3 : kindIs (st.set k (.live (.dK [.inr "a", .inr "more"] [.int d, .int 1]))) .dict (.ref k) = some true := by simp only [kindIs, Fd.cellOf, hs]
    have ln : ∀ (j : Nat) (u : Option D), [some (D.ref k), some (D.ref k), u][j]? = some (some (D.ref k)) → evE (callN T wf (n + 5)) (.bi .len (.cons (.var j) .nil)) [some (.ref k), some (.ref k), u] (st.set k (.live (.dK [.inr "a", .inr "more"] [.int d, .int 1]))) = .ok (.d (.int 2)) (st.set k (.live (.dK [.inr "a", .inr "more"] [.int d, .int 1]))) := fun j u hj => by
      refine ev_bi (evs_consW (ev_varp hj rs) evs_nil) ?_
      simp only [evBi, Wv.toD, dicOf, Fd.cellOf, hs]
      rfl
    have sm : evE (callN T wf (n + 5)) (.and (.isI .dict (.var 0)) (.and (.cmp .isin (.str "more") (.var 0)) (.one (.cmp .eq (.bi .len (.cons (.var 0) .nil)) (.bi .len (.cons (.var 1) .nil)))))) [some (.ref k), some (.ref k), none] (st.set k (.live (.dK [.inr "a", .inr "more"] [.int d, .int 1]))) = .ok (.d (.bl true)) (st.set k (.live (.dK [.inr "a", .inr "more"] [.int d, .int 1]))) := by
      refine (ev_and1 (ev_isI (v0 _ _ rs) k3)).trans ((ev_and1 (ev_cmp (r := true) ev_str (v0 _ _ rs) ?_)).trans (ev_one.trans (eqN (ln 0 _ rfl) (ln 1 _ rfl))))
      simp only [opC, Wv.toD, dicOf, Fd.cellOf, hs]
      rfl
    have po : evE (callN T wf (n + 5)) (.dpop (.var 1) (.str "more")) [some (.ref k), some (.ref k), some (.bl true)] (st.set k (.live (.dK [.inr "a", .inr "more"] [.int d, .int 1]))) = .ok (.d (.int 1)) st := by
      rw [evE, v1 _ _ rs]
      simp only [vD, Rs.map, Rs.bind, Wv.toD, dicOf, Fd.cellOf, hs]
      rw [ev_str]
      simp only [evDp, keyOf, hs]
      have l1 : lookK ([.inr "a", .inr "more"] : List Key) [D.int d, .int 1] (.inr "more") = some (.int 1) := rfl
      have l2 : delK ([.inr "a", .inr "more"] : List Key) [D.int d, .int 1] (.inr "more") = ([.inr "a"], [.int d]) := rfl
      simp only [l1, l2, back]
      rfl
    refine callN_ret (F := ir_f_law_very) [some (.ref k), some (.ref k), none] rfl rfl rfl (exS_step (exS_if (k := false) (ev_isI (v1 st _ rx) k1) exS_nil) (exS_stop (exS_if (k := true) (ev_isI (v1 st _ rx) k2') (exS_step ap (exS_step (exS_asg sm) (exS_step (exS_expr po) (exS_stop (exS_ret ?_))))))))
    refine (ev_and1 (ev_varp rfl rfl)).trans (ev_one.trans ?_)
    have pl : plB 3 (.dK [.inr "a"] [.int d]) = true := by
      simp [plB, dkey]
      try decide +kernel
    refine ev_fcallR (vs _ _ rx) (ys := [.dK [.inr "a"] [.int d], .dK [.inr "a"] [.int d]]) ?_ (same_ok (T := T) (f := Fid.f_law_same) rfl (n + 5) _ (plB_le (by omega) pl))
    have cx := plB_clo _ _ pl
    have vw : viewD st (.ref k) = some (.dK [.inr "a"] [.int d]) := by
      simp only [viewD, Fd.cellOf, hc]
      exact if_pos cx
    simp only [viewL, vw]
end LW

set_option Elab.async false
set_option linter.all false
set_option maxRecDepth 100000
set_option maxHeartbeats 4000000
namespace LW
open PySem L2 Fd
variable {wf n : Nat} {st : Sto}
/-! ### the law -/
theorem mem67 {c : Nat} (h : c < 67) : decide (c ∈ [0,1,2,3,4,5,6,7,8,9,10,11,12,13,14,15,16,17,18,19,20,21,22,23,24,25,26,27,28,29,30,31,32,33,34,35,36,37,38,39,40,41,42,43,44,45,46,47,48,49,50,51,52,53,54,55,56,57,58,59,60,61,62,63,64,65,66]) = true := by
  have : ∀ k : Fin 67, decide (k.val ∈ [0,1,2,3,4,5,6,7,8,9,10,11,12,13,14,15,16,17,18,19,20,21,22,23,24,25,26,27,28,29,30,31,32,33,34,35,36,37,38,39,40,41,42,43,44,45,46,47,48,49,50,51,52,53,54,55,56,57,58,59,60,61,62,63,64,65,66]) = true := by decide +kernel
  exact this ⟨c, h⟩
theorem cid_ok {i : Nat} (h : i < 24) : i + 10 < 67 ∧ i + 10 ∉ otherL ∧ kindsN (i + 10) = [i] := by
  have : ∀ k : Fin 24, k.val + 10 < 67 ∧ k.val + 10 ∉ otherL ∧ kindsN (k.val + 10) = [k.val] := by decide +kernel
  exact this ⟨i, h⟩
theorem others_k {c : Nat} (h : c ∈ othersL) : c < 67 ∧ kindsN c = [] := by
  have : othersL.all (fun c => decide (c < 67) && (kindsN c).isEmpty) = true := by decide +kernel
  have := List.all_eq_true.mp this c h
  simpa using this
theorem _root_.Fd.Pk.app {k0 k1 m0 : Nat} {b : Int} {st ys : Sto} (h : Pk k0 k1 m0 b st) : Pk k0 k1 m0 b (st ++ ys) := by
  have h' := h
  obtain ⟨cs, a, c, q, r⟩ := h
  exact h'.same (List.getElem?_append_left (List.getElem?_eq_some_iff.mp q.h0).1) (List.getElem?_append_left (List.getElem?_eq_some_iff.mp q.h1).1)
theorem Tng.app {st ys : Sto} {x : D} (h : Tng st x) : Tng (st ++ ys) x := by
  rcases h with h | ⟨k, d, e, k2, h⟩ | ⟨k, d, e, k2, h⟩
  · exact .inl h
  · exact .inr (.inl ⟨k, d, e, k2, by rw [List.getElem?_append_left (List.getElem?_eq_some_iff.mp h).1]; exact h⟩)
  · exact .inr (.inr ⟨k, d, e, k2, by rw [List.getElem?_append_left (List.getElem?_eq_some_iff.mp h).1]; exact h⟩)
theorem Tng.off {st st' : Sto} {x : D} (h : Tng st x) (o : ∀ i, 2 ≤ i → st'[i]? = st[i]?) : Tng st' x := by
  rcases h with h | ⟨k, d, e, k2, h⟩ | ⟨k, d, e, k2, h⟩
  · exact .inl h
  · exact .inr (.inl ⟨k, d, e, k2, by rw [o k k2]; exact h⟩)
  · exact .inr (.inr ⟨k, d, e, k2, by rw [o k k2]; exact h⟩)
/-- a new thing, kept -/
theorem obj_mkq {m0 : Nat} {b : Int} {ρ : Rho} (hv : ρ[1]? = some (some (.ref 1))) (hw : m0 < wf) (hb : 0 ≤ b) (hb2 : b < 1000000) (h2 : 2 ≤ st.length) (h : Pk 0 1 m0 b st) :
    ∃ x st' b', evE (callN T wf (n + 3)) (.mkq (.call .f_law_object (.cons (.var 1) .nil))) ρ st = .ok (.d x) st' ∧ Tng st' x ∧ Pk 0 1 m0 b' st' ∧ 0 ≤ b' ∧ b' ≤ b + 6 ∧ 2 ≤ st'.length ∧ ∀ y, Tng st y → Tng st' y := by
  obtain ⟨w, s1, b', e, ht, hp, b0, b1, hl, of⟩ := object_ok (n := n) hw hb hb2 h
  have ec : evE (callN T wf (n + 3)) (.call .f_law_object (.cons (.var 1) .nil)) ρ st = .ok w s1 := ev_call (evs_consW (ev_varp hv h.res) evs_nil) e
  rcases ht with ⟨x, rfl, hx, hk⟩ | ⟨d, rfl⟩ | ⟨d, rfl⟩
  · exact ⟨x, s1, b', ev_mkq0 ec, .inl ⟨hx, hk⟩, hp, b0, b1, by omega, fun y t => t.off of⟩
  · exact ⟨_, _, b', ev_mkq1 ec, .inr (.inl ⟨_, d, rfl, by omega, get_last⟩), hp.app, b0, b1, by simp; omega, fun y t => (t.off of).app⟩
  · exact ⟨_, _, b', ev_mkq1 ec, .inr (.inr ⟨_, d, rfl, by omega, get_last⟩), hp.app, b0, b1, by simp; omega, fun y t => (t.off of).app⟩
theorem exS_par {cl : Cll Fid} {is : List Nat} {es : IE Fid} {ρ ρ1 : Rho} {st1 : Sto} {ds : List D} (h : evEs cl es ρ st = .ok ds st1) (h2 : setAll is ds ρ = some ρ1) : exS cl wf (.par is es) ρ st = .next ρ1 st1 := by
  rw [exS, h]
  simp only [Rs.st, h2, ofOt]
theorem ev_isXn {cl : Cll Fid} {a : IE Fid} {ρ : Rho} {st1 : Sto} {m c : Nat} {ts : List String} {vs : List D} (h : evE cl a ρ st = .ok (.d (.exc c vs)) st1) (hc : c < m) : evE cl (.isXn m ts a) ρ st = .ok (.d (.bl false)) st1 := by
  rw [evE, h]
  simp only [vD, Rs.map, Rs.bind, Wv.toD, if_pos hc]
abbrev R11 (x0 a2 a3 a4 a5 a6 a7 a8 a9 a10 : Option D) : Rho := [x0, some (.ref 1), a2, a3, a4, a5, a6, a7, a8, a9, a10]
/-- the place of a turn -/
def atS : IS Fid := .asg (.nm 3) (.ife (.cmp .lt (.var 2) (.int 24)) (.bin .mod (.bi .int1 (.cons (.bin .add (.var 2) (.call .f_law_pick (.cons (.var 1) (.cons (.int 24) .nil)))) .nil)) (.int 24)) (.bin .sub (.var 2) (.int 24)))
theorem at_ok {m0 k : Nat} {b : Int} {x0 a3 a4 a5 a6 a7 a8 a9 a10 : Option D} (hk : k < 48) (hw : m0 < wf) (hb : 0 ≤ b) (hb2 : b < 1000000) (h : Pk 0 1 m0 b st) :
    ∃ (i : Nat) (st' : Sto) (b' : Int), i < 24 ∧ exS (callN T wf (n + 1)) wf atS (R11 x0 (some (.int (0 + (k : Int)))) a3 a4 a5 a6 a7 a8 a9 a10) st = .next (R11 x0 (some (.int (0 + (k : Int)))) (some (.int (i : Int))) a4 a5 a6 a7 a8 a9 a10) st' ∧ Pk 0 1 m0 b' st' ∧ 0 ≤ b' ∧ b' ≤ b + 1 ∧ st'.length = st.length := by
  by_cases h24 : k < 24
  · obtain ⟨d, s1, e, d0, d1, p1, o1⟩ := wpick (n := n) (k0 := 0) (k1 := 1) (m0 := m0) (ρ := R11 x0 (some (.int (0 + (k : Int)))) a3 a4 a5 a6 a7 a8 a9 a10) (i := 1) (m := 24) hw (by decide) (by decide) hb (by omega) h rfl
    refine ⟨((0 + (k : Int) + d) % 24).toNat, s1, b + 1, by omega, ?_, p1, by omega, by omega, o1.1⟩
    have hn : (((0 + (k : Int) + d) % 24).toNat : Int) = (0 + (k : Int) + d) % 24 := by omega
    rw [hn]
    refine exS_asg (w := .d (.int ((0 + (k : Int) + d) % 24))) ((ev_ife (ltI rfl)).trans ?_)
    rw [decide_eq_true (by omega), if_pos rfl]
    exact ev_binW (ev_int1 (ev_binW (ev_vari rfl) e rfl)) ev_int (modO (by decide))
  · refine ⟨k - 24, st, b, by omega, ?_, h, hb, by omega, rfl⟩
    have hn : ((k - 24 : Nat) : Int) = 0 + (k : Int) - 24 := by omega
    rw [hn]
    refine exS_asg (w := .d (.int (0 + (k : Int) - 24))) ((ev_ife (ltI rfl)).trans ?_)
    rw [decide_eq_false (by omega), if_neg (by decide)]
    exact ev_binW (ev_vari rfl) ev_int rfl
theorem res_exV {i : Nat} {x : D} : Fd.res st (exV i x) = exV i x := rfl
/-- what is asked of the two -/
theorem ask_ok {i : Nat} (hi : i < 24) {x0 a2 a4 a5 a7 a9 a10 : Option D} {x y : D} : ∃ ys, exS (callN T wf (n + 1)) wf (.cons (.ife (.or (.not (.isX 67 [0,1,2,3,4,5,6,7,8,9,10,11,12,13,14,15,16,17,18,19,20,21,22,23,24,25,26,27,28,29,30,31,32,33,34,35,36,37,38,39,40,41,42,43,44,45,46,47,48,49,50,51,52,53,54,55,56,57,58,59,60,61,62,63,64,65,66] false [some 0] (.var 6))) (.or (.not (.isX 67 [0,1,2,3,4,5,6,7,8,9,10,11,12,13,14,15,16,17,18,19,20,21,22,23,24,25,26,27,28,29,30,31,32,33,34,35,36,37,38,39,40,41,42,43,44,45,46,47,48,49,50,51,52,53,54,55,56,57,58,59,60,61,62,63,64,65,66] false [none] (.var 6))) (.one (.cmp .ne (.call .f_law_kinds_of (.cons (.var 6) .nil)) (.list (.cons (.var 3) .nil)))))) (.cons (.ret (.bl false)) .nil) .nil) (.cons (.ife (.or (.call .f_law_is_other (.cons (.var 6) .nil)) (.or (.isXn 67 ["KeyError", "IndexError", "TypeError"] (.var 6)) (.one (.not (.isX 67 [0,1,2,3,4,5,6,7,8,9,10,11,12,13,14,15,16,17,18,19,20,21,22,23,24,25,26,27,28,29,30,31,32,33,34,35,36,37,38,39,40,41,42,43,44,45,46,47,48,49,50,51,52,53,54,55,56,57,58,59,60,61,62,63,64,65,66] false [some 0] (.var 8)))))) (.cons (.ret (.bl false)) .nil) .nil) .nil))
      (R11 x0 a2 (some (.int (i : Int))) a4 a5 (some (exV i x)) a7 (some (exV i y)) a9 a10) st = .next (R11 x0 a2 (some (.int (i : Int))) a4 a5 (some (exV i x)) a7 (some (exV i y)) a9 a10) (st ++ ys) := by
  obtain ⟨h1, h2, h3⟩ := cid_ok hi
  have v : ∀ s : Sto, evE (callN T wf (n + 1)) (.var 6) (R11 x0 a2 (some (.int (i : Int))) a4 a5 (some (exV i x)) a7 (some (exV i y)) a9 a10) s = .ok (.d (exV i x)) s := fun s => ev_varp rfl rfl
  have v8 : ∀ s : Sto, evE (callN T wf (n + 1)) (.var 8) (R11 x0 a2 (some (.int (i : Int))) a4 a5 (some (exV i x)) a7 (some (exV i y)) a9 a10) s = .ok (.d (exV i y)) s := fun s => ev_varp rfl rfl
  have es : ∀ s : Sto, evEs (callN T wf (n + 1)) (.cons (.var 6) .nil) (R11 x0 a2 (some (.int (i : Int))) a4 a5 (some (exV i x)) a7 (some (exV i y)) a9 a10) s = .ok [exV i x] s := fun s => evs_consW (v s) evs_nil
  refine ⟨[.live (.lst (toldB (i + 10) 24))] ++ [.live (.lst (List.replicate 5 (.bl false)))], ?_⟩
  rw [← List.append_assoc]
  refine exS_step (st1 := st ++ [.live (.lst (toldB (i + 10) 24))]) (exS_if (k := false) ?_ exS_nil) (exS_step (exS_if (k := false) ?_ exS_nil) exS_nil)
  · refine (ev_or0 (ev_not (x := true) (ev_isX (v _) h1 (mem67 h1)))).trans ?_
    refine (ev_or0 (ev_not (x := true) (ev_isX (v _) h1 (mem67 h1)))).trans ?_
    have kn := kinds_ok (wf := wf) (n := n) (st := st) (vs := if i < 22 then [x] else []) h1
    rw [h3] at kn
    rw [ev_one]
    refine ev_cmp (r := false) (ev_call (es _) kn) (ev_list (evs_consW (ev_vari rfl) evs_nil) (Nat.le_of_ble_eq_true rfl)) ?_
    have := eqD_ints (st := st ++ [.live (.lst (toldB (i + 10) 24))]) (xs := [0 + (i : Int)]) (ys := [(i : Int)])
    simp only [List.map_cons, List.map_nil] at this
    simp only [opC, Wv.toD, Cell.toD, List.map_cons, List.map_nil, this]
    simp [ofO]
  · refine (ev_or0 (ev_call (es _) (isother_ok (wf := wf) (n := n) h1 h2))).trans ?_
    refine (ev_or0 (ev_isXn (v _) h1)).trans ?_
    rw [ev_one]
    exact ev_not (x := true) (ev_isX (v8 _) h1 (mem67 h1))
def Lv (m0 : Nat) (B : Int) (ρ : Rho) (st : Sto) : Prop := ∃ x0 a2 a3 a4 a5 a6 a7 a8 a9 a10 b, ρ = R11 x0 a2 a3 a4 a5 a6 a7 a8 a9 a10 ∧ Pk 0 1 m0 b st ∧ 0 ≤ b ∧ b ≤ B ∧ 2 ≤ st.length
theorem turn_ok {m0 k : Nat} {B : Int} (hk : k < 48) (hw : m0 < wf) (hB : B < 100000) {x0 a3 a4 a5 a6 a7 a8 a9 a10 : Option D} {b : Int} (hp : Pk 0 1 m0 b st) (b0 : 0 ≤ b) (b1 : b ≤ B) (l2 : 2 ≤ st.length) {R : Wv → Sto → Prop} :
    wpS (exS (callN T wf (n + 8)) wf turnS (R11 x0 (some (.int (0 + (k : Int)))) a3 a4 a5 a6 a7 a8 a9 a10) st) (Lv m0 (B + 13)) R := by
  obtain ⟨i, s1, c1, hi, e1, p1, c10, c11, l1⟩ := at_ok (n := n + 7) (x0 := x0) (a3 := a3) (a4 := a4) (a5 := a5) (a6 := a6) (a7 := a7) (a8 := a8) (a9 := a9) (a10 := a10) hk hw b0 (by omega) hp
  obtain ⟨x, s2, c2, e2, t2, p2, c20, c21, l2', g2⟩ := obj_mkq (n := n + 5) (st := s1) (ρ := R11 x0 (some (.int (0 + (k : Int)))) (some (.int (i : Int))) a4 a5 a6 a7 a8 a9 a10) rfl hw c10 (by omega) (by omega) p1
  obtain ⟨y, s3, c3, e3, t3, p3, c30, c31, l3, g3⟩ := obj_mkq (n := n + 5) (st := s2) (ρ := R11 x0 (some (.int (0 + (k : Int)))) (some (.int (i : Int))) a4 a5 a6 a7 a8 a9 a10) rfl hw c20 (by omega) l2' p2
  have tx := g3 x t2
  have rx := tx.res
  have ry := t3.res
  unfold turnS
  rw [wpS_cons]
  refine wpS_is e1 ?_
  rw [wpS_cons]
  refine wpS_is (ρ1 := R11 x0 (some (.int (0 + (k : Int)))) (some (.int (i : Int))) (some x) (some y) a6 a7 a8 a9 a10) (st1 := s3) (exS_par (evs_consW e2 (evs_consW e3 evs_nil)) rfl) ?_
  have mk : ∀ (z : D), Fd.res s3 z = z → callN T wf (n + 8) .f_law_made_at [.int (i : Int), z] s3 = .ok (.d (.tup [exV i z, z])) s3 := fun z hz => made_at (wf := wf) (n := n + 6) (st := s3) hi hz
  rw [wpS_cons]
  refine wpS_is (ρ1 := R11 x0 (some (.int (0 + (k : Int)))) (some (.int (i : Int))) (some x) (some y) (some (exV i x)) (some x) a8 a9 a10) (st1 := s3) (exS_asgT (ev_call (evs_consW (ev_vari rfl) (evs_consW (ev_varp rfl rx) evs_nil)) (mk x rx)) ?_) ?_
  · simp only [Wv.toD, asgT, tupF, Option.bind_some, asgTs, List.map_cons, List.map_nil, rx, res_exV]
    rfl
  rw [wpS_cons]
  refine wpS_is (ρ1 := R11 x0 (some (.int (0 + (k : Int)))) (some (.int (i : Int))) (some x) (some y) (some (exV i x)) (some x) (some (exV i y)) (some y) a10) (st1 := s3) (exS_asgT (ev_call (evs_consW (ev_vari rfl) (evs_consW (ev_varp rfl ry) evs_nil)) (mk y ry)) ?_) ?_
  · simp only [Wv.toD, asgT, tupF, Option.bind_some, asgTs, List.map_cons, List.map_nil, ry, res_exV]
    rfl
  obtain ⟨ys, e5⟩ := ask_ok (wf := wf) (n := n + 7) (st := s3) hi (x0 := x0) (a2 := some (.int (0 + (k : Int)))) (a4 := some x) (a5 := some y) (a7 := some x) (a9 := some y) (a10 := a10) (x := x) (y := y)
  have split : ∀ (u v r : IS Fid) (ρ : Rho) (s : Sto) (N : Rho → Sto → Prop), wpS (exS (callN T wf (n + 8)) wf (.cons u (.cons v .nil)) ρ s) (fun ρ st => wpS (exS (callN T wf (n + 8)) wf r ρ st) N R) R → wpS (exS (callN T wf (n + 8)) wf (.cons u (.cons v r)) ρ s) N R := fun u v r ρ s N h => by
    rw [wpS_cons] at h ⊢
    refine h.imp (fun ρ st q => ?_) fun _ _ q => q
    rw [wpS_cons] at q ⊢
    refine q.imp (fun ρ st q => ?_) fun _ _ q => q
    rwa [wpS_nil] at q
  refine split _ _ _ _ _ _ (wpS_is e5 ?_)
  have tx' : Tng (s3 ++ ys) x := tx.app
  have ty' : Tng (s3 ++ ys) y := t3.app
  have ve : ∀ (z : D) (j j2 : Nat), Tng (s3 ++ ys) z → (R11 x0 (some (.int (0 + (k : Int)))) (some (.int (i : Int))) (some x) (some y) (some (exV i x)) (some x) (some (exV i y)) (some y) a10)[j]? = some (some z) → (R11 x0 (some (.int (0 + (k : Int)))) (some (.int (i : Int))) (some x) (some y) (some (exV i x)) (some x) (some (exV i y)) (some y) a10)[j2]? = some (some z) →
      evE (callN T wf (n + 8)) (.call .f_law_very (.cons (.var j) (.cons (.var j2) .nil))) (R11 x0 (some (.int (0 + (k : Int)))) (some (.int (i : Int))) (some x) (some y) (some (exV i x)) (some x) (some (exV i y)) (some y) a10) (s3 ++ ys) = .ok (.d (.bl true)) (s3 ++ ys) := fun z j j2 tz h1 h2 =>
    ev_call (evs_consW (ev_varp h1 tz.res) (evs_consW (ev_varp h2 tz.res) evs_nil)) (very_ok (wf := wf) (n := n + 2) tz)
  rw [wpS_cons]
  refine wpS_is (exS_if (k := false) ((ev_or0 (ev_not (x := true) (ve x 7 4 tx' rfl rfl))).trans (ev_one.trans (ev_not (x := true) (ve y 9 5 ty' rfl rfl)))) exS_nil) ?_
  rw [wpS_nil]
  exact ⟨x0, _, _, _, _, _, _, _, _, a10, c3, rfl, p3.app, c30, by omega, by simp; omega⟩
theorem caught_ok {x : D} : ∃ st', callN T wf (n + 2) .f_law_caught [x] st = .ok (.d (.tup [.lst [.int 3], .lst [], .bl false, .bl true])) st' := by
  have k0 : kindsN 0 = [] := by decide +kernel
  have kn := kinds_ok (wf := wf) (n := n) (st := st) (c := 0) (vs := []) (by decide)
  rw [k0] at kn
  have io := isother_ok (wf := wf) (n := n) (st := st ++ [.live (.lst (toldB 0 24))]) (c := 0) (vs := []) (by decide) (by decide +kernel)
  have v2 : ∀ s : Sto, evE (callN T wf (n + 1)) (.var 2) [some x, some (.lst [.int 3]), some (.exc 0 []), none] s = .ok (.d (.exc 0 [])) s := fun s => ev_varp rfl rfl
  refine ⟨_, callN_ret (F := ir_f_law_caught) [some x, none, none, none] rfl rfl rfl (exS_step (ρ1 := [some x, some (.lst [.int 3]), none, none]) (st1 := st) ?_ (exS_step (exS_asg ev_mkx0) (exS_stop (exS_ret (ev_tup (xs := [.lst [.int 3], .lst [], .bl false, .bl true]) (evs_consW (w := .d (.lst [.int 3])) (ev_varp rfl rfl) (evs_consW (w := .fr (.lst [])) (ev_call (evs_consW (v2 _) evs_nil) kn) (evs_consW (w := .d (.bl false)) (ev_call (evs_consW (v2 _) evs_nil) io) (evs_consW (ev_isX (v2 _) (by decide) (mem67 (by decide))) evs_nil)))) (Nat.le_of_ble_eq_true rfl))))))⟩
  rw [exS]
  rfl
theorem fin_ok {d : Int} {x0 a2 a3 a4 a5 a6 a7 a8 a9 a10 : Option D} {s s1 : Sto} (hs : evI (callN T wf (n + 9)) (.one (.fcall .f_law_others (.cons (.call .f_law_pick (.cons (.var 1) (.cons (.int 9) .nil))) .nil))) (R11 x0 a2 a3 a4 a5 a6 a7 a8 a9 a10) s = .ok (.lst (othersL.map (exO d))) s1) {m0 : Nat} {b : Int} (hp : Pk 0 1 m0 b s1) :
    ∃ s', evE (callN T wf (n + 9)) (.bi .all (.cons (.lc [10] (.nm 10) (.one (.fcall .f_law_others (.cons (.call .f_law_pick (.cons (.var 1) (.cons (.int 9) .nil))) .nil))) (.bl true) finE) .nil)) (R11 x0 a2 a3 a4 a5 a6 a7 a8 a9 a10) s = .ok (.d (.bl true)) s' ∧ Pk 0 1 m0 b s' := by
  have ll : (othersL.map (exO d)).length = 42 := by rw [List.length_map]; rfl
  have lc : wpE (evE (callN T wf (n + 9)) (.lc [10] (.nm 10) (.one (.fcall .f_law_others (.cons (.call .f_law_pick (.cons (.var 1) (.cons (.int 9) .nil))) .nil))) (.bl true) finE) (R11 x0 a2 a3 a4 a5 a6 a7 a8 a9 a10) s) (fun w s' => w = .fr (.lst (List.replicate 42 (.bl true))) ∧ Pk 0 1 m0 b s') := by
    rw [evE, hs]
    show wpE ((lcLoop (.nm 10) _ _ _ (othersL.map (exO d)) [] s1).map _) _
    rw [wpE_map]
    refine wpE_lc (fun i acc s => acc = List.replicate i (.bl true) ∧ Pk 0 1 m0 b s) _ [] 0 s1 (by rw [ll]; decide) ⟨rfl, hp⟩ (fun j x acc st hx hI => ?_) fun acc st h => ?_
    · have hm := List.mem_of_getElem? hx
      obtain ⟨c, hc, rfl⟩ := List.mem_map.mp hm
      obtain ⟨c1, c2⟩ := others_k hc
      refine ⟨_, rfl, ?_⟩
      rw [ev_true]
      refine .inl ⟨rfl, ?_⟩
      simp only [wipeR, List.set_cons_succ, List.set_cons_zero]
      have kn := kinds_ok (wf := wf) (n := n + 8) (st := st) (vs := [.int d]) c1
      rw [c2] at kn
      have e : evE (callN T wf (n + 9)) finE (R11 x0 a2 a3 a4 a5 a6 a7 a8 a9 (some (exO d c))) st = .ok (.d (.bl true)) (st ++ [.live (.lst (toldB c 24))]) := by
        unfold finE
        refine ev_cmp (r := true) (ev_call (evs_consW (ev_varp rfl rfl) evs_nil) kn) (ev_list evs_nil (Nat.zero_le _)) ?_
        have := eqD_ints (st := st ++ [.live (.lst (toldB c 24))]) (xs := []) (ys := [])
        simp only [List.map_nil] at this
        simp only [opC, Wv.toD, Cell.toD, List.map_nil, this]
        simp [ofO]
      rw [vD_ok e]
      show acc ++ [.bl true] = _ ∧ _
      rw [hI.1, List.replicate_succ']
      exact ⟨rfl, hI.2.app⟩
    · show Wv.fr (.lst acc) = _ ∧ _
      rw [h.1, ll]
      exact ⟨rfl, h.2⟩
  obtain ⟨w, s', e, rfl, hp'⟩ := wpE_ex lc
  exact ⟨s', ev_bi (evs_consW e evs_nil) rfl, hp'⟩
theorem law_ok {ns : List Int} (hl : ns.length ≤ 63) : ∃ st', callN T 64 16 .f_law [.scr ns] [] = .ok (.d (.bl true)) st' := by
  have main : wpE (callN T 64 16 .f_law [.scr ns] []) (fun w _ => w = .d (.bl true)) := by
    refine wpE_fn (F := ir_f_law) [some (.scr ns), none, none, none, none, none, none, none, none, none, none] rfl rfl rfl ?_
    unfold ir_f_law
    dsimp only
    have e0 := start_ok (wf := 64) (n := 14) (st := []) hl
    have e1 : evE (callN T 64 15) (.mk (.call .f_law_start (.cons (.var 0) .nil))) [some (.scr ns), none, none, none, none, none, none, none, none, none, none] [] = .ok (.d (.ref 1)) [.live (.lst (ns.map .int)), .live (.lst [.ref 0, .int 0, .int 0, .int 29])] :=
      ev_mk (ev_call (evs_consW (ev_varp rfl rfl) evs_nil) e0)
    rw [wpS_cons]
    refine wpS_is (exS_asg e1) ?_
    have pk0 : Pk 0 1 63 0 [.live (.lst (ns.map .int)), .live (.lst [.ref 0, .int 0, .int 0, .int 29])] := ⟨ns, 0, 29, ⟨by decide, rfl, rfl⟩, by decide, by decide, hl⟩
    rw [wpS_cons]
    have r48 : ∀ ρ st, evI (callN T 64 15) (.bi .range (.cons (.int 48) .nil)) ρ st = .ok (.rng 0 48) st := fun ρ st => by
      simp [evI, evEs, evE, vD, Rs.map, Rs.bind, Wv.toD, srcBi, small62, ofO]
    refine wpS_for_ (r48 _ _) (wpS_for (fun i => Lv 63 (13 * i)) _ 0 _ _ ⟨_, _, _, _, _, _, _, _, _, _, 0, rfl, pk0, by decide, by decide, Nat.le_refl 2⟩ (fun j x ρ st hx hI => ?_) fun ρ st hI => ?_)
    · -- one turn
      have hj : j < 48 ∧ x = .int (0 + (j : Int)) := by
        simp only [Src.items, List.getElem?_map] at hx
        by_cases h : j < 48
        · rw [List.getElem?_range h] at hx; simp at hx; exact ⟨h, by simpa using hx.symm⟩
        · rw [List.getElem?_eq_none (by simpa using h)] at hx; cases hx
      obtain ⟨hj, rfl⟩ := hj
      obtain ⟨x0, a2, a3, a4, a5, a6, a7, a8, a9, a10, b, rfl, hp, b0, b1, l2⟩ := hI
      refine ⟨_, rfl, ?_⟩
      simp only [List.set_cons_succ, List.set_cons_zero]
      have := turn_ok (wf := 64) (n := 7) (m0 := 63) (k := j) (B := 13 * (0 + j : Nat)) (st := st) (x0 := x0) (a3 := a3) (a4 := a4) (a5 := a5) (a6 := a6) (a7 := a7) (a8 := a8) (a9 := a9) (a10 := a10) hj (by decide) (by omega) hp b0 (by omega) l2 (R := fun w _ => w = .d (.bl true))
      refine this.imp (fun ρ2 st2 h2 => ?_) fun _ _ h => h
      obtain ⟨x0, a2, a3, a4, a5, a6, a7, a8, a9, a10, b, rfl, hp, b0, b1, l2⟩ := h2
      exact ⟨_, _, _, _, _, _, _, _, _, _, b, rfl, hp, b0, by omega, l2⟩
    · obtain ⟨x0, a2, a3, a4, a5, a6, a7, a8, a9, a10, b, rfl, hp, b0, b1, l2⟩ := hI
      simp only [Src.items, List.length_map, List.length_range] at b1
      obtain ⟨d, s1, e2, d0, d1, p1, o1⟩ := wpick (wf := 64) (n := 14) (st := st) (k0 := 0) (k1 := 1) (m0 := 63) (ρ := R11 x0 a2 a3 a4 a5 a6 a7 a8 a9 a10) (i := 1) (m := 9) (by decide) (by decide) (by decide) b0 (by omega) hp rfl
      have eo := others_ok (wf := 64) (n := 14) (d := d)
      have clo : D.cloL (othersL.map (exO d)) = true := cloL_of fun y hy => by
        obtain ⟨c, _, rfl⟩ := List.mem_map.mp hy
        rfl
      have e3 : evE (callN T 64 15) (.fcall .f_law_others (.cons (.call .f_law_pick (.cons (.var 1) (.cons (.int 9) .nil))) .nil)) (R11 x0 a2 a3 a4 a5 a6 a7 a8 a9 a10) st = .ok (.d (.lst (othersL.map (exO d)))) s1 :=
        ev_fcall (evs_consW e2 evs_nil) rfl eo (by simp only [outW, D.clo, clo, if_true])
      have e4 : evI (callN T 64 15) (.one (.fcall .f_law_others (.cons (.call .f_law_pick (.cons (.var 1) (.cons (.int 9) .nil))) .nil))) (R11 x0 a2 a3 a4 a5 a6 a7 a8 a9 a10) st = .ok (.lst (othersL.map (exO d))) s1 := by
        rw [evI, e3]
        rfl
      obtain ⟨s2, e5, p2⟩ := fin_ok (wf := 64) (n := 6) (d := d) (s := st) (s1 := s1) e4 p1
      rw [wpS_cons]
      refine wpS_is (exS_if (k := false) (ev_not (x := true) e5) exS_nil) ?_
      rw [wpS_cons]
      obtain ⟨w, s3, b3, e6, ht, p3, _, _, _, _⟩ := object_ok (wf := 64) (n := 12) (st := s2) (m0 := 63) (by decide) (b := b + 1) (by omega) (by omega) p2
      obtain ⟨s4, e7⟩ := caught_ok (wf := 64) (n := 13) (st := s3) (x := w.toD)
      refine wpS_ret' (wpE_of (ev_cmp (r := true) (ev_call (evs_consW (ev_call (evs_consW (ev_varp rfl p2.res) evs_nil) e6) evs_nil) e7) (ev_tup (xs := [.lst [.int 3], .lst [], .bl false, .bl true]) (evs_consW (ev_list (evs_consW ev_int evs_nil) (Nat.le_of_ble_eq_true rfl)) (evs_consW (ev_list evs_nil (Nat.zero_le _)) (evs_consW ev_bl (evs_consW ev_bl evs_nil)))) (Nat.le_of_ble_eq_true rfl)) ?_) rfl)
      have q : eqD s4 (.tup [.lst [.int 3], .lst [], .bl false, .bl true]) (.tup [.lst [.int 3], .lst [], .bl false, .bl true]) = some true := by rfl
      simp only [opC, Wv.toD, q]
      rfl
  obtain ⟨w, st', e, rfl⟩ := wpE_ex main
  exact ⟨st', e⟩
end LW

set_option Elab.async false
set_option linter.all false
set_option maxRecDepth 100000
set_option maxHeartbeats 4000000
namespace LW
open PySem L2 Fd
theorem lkok : LkOk Z.L Z.fs Z.cs := ⟨fun f h => by cases f <;> first | (cases h; done) | (show _ ∈ fs; decide +kernel), fun c h => by
  exfalso
  simp only [Z, Lk0, Bool.and_eq_true, decide_eq_true_eq] at h
  omega⟩
theorem below {p : Nat → Bool} {n : Nat} (h : ((List.range n).all p) = true) (c : Nat) (hc : c < n) : p c = true := List.all_eq_true.mp h c (List.mem_range.mpr hc)
theorem lkx : LkX Z.L Z.xs := by
  have lt1 : ∀ c, Z.L.xin c = true → c < 67 ∧ (Z.L.fl c).length = 1 := fun c h => by simpa [Z, Lk0] using h
  have lt0 : ∀ c, Z.L.x0 c = true → c < 67 ∧ (Z.L.fl c).length = 0 := fun c h => by simpa [Z, Lk0] using h
  refine ⟨fun c h => List.mem_range.mpr ?_, fun c h => ?_, fun c _ h => ?_, fun c h => ?_⟩
  · unfold xcB at h
    rcases Bool.or_eq_true_iff.mp h with h | h
    · exact (lt1 c h).1
    · exact (lt0 c h).1
  · have := below (p := fun c => (match Z.L.xmro c with | a :: _ => a == c | [] => false) && (Z.L.xmro c).all fun b => decide (b < 67)) (n := 67) (by decide +kernel) c (List.mem_range.mp h)
    rw [Bool.and_eq_true] at this
    refine ⟨?_, fun b hb => List.mem_range.mpr (by simpa using List.all_eq_true.mp this.2 b hb)⟩
    have h1 := this.1
    split at h1
    · rename_i a l e; rw [e]; exact ⟨l, by rw [beq_iff_eq.mp h1]⟩
    · cases h1
  · obtain ⟨_, h⟩ := lt1 c h
    exact List.length_eq_one_iff.mp h
  · obtain ⟨_, h0⟩ := lt0 c h
    refine ⟨List.eq_nil_of_length_eq_zero h0, ?_⟩
    cases e : Z.L.xin c with
    | false => rfl
    | true => have := (lt1 c e).2; omega
theorem txtx : (Z.xi.all fun c => txtX Z.L c (Z.dx c)) = true := by decide +kernel
theorem txts : (Z.fs.all fun f => txtB Z.L Z.T f (Z.d f)) = true := by decide +kernel
theorem txtk : ∀ g ts, Z.L.kin = some (g, ts) → ∃ f N, Z.L.on f = true ∧ Z.L.fnm f = (g, none) ∧ (Z.d f).at_ = Z.L.fnm f ∧ txtK Z.L N ts (Z.d f) = true := fun g ts h => by
  have e : (g, ts) = (Z.L.kin.getD ("", [])) := by rw [h]; rfl
  obtain ⟨rfl, rfl⟩ := Prod.mk.inj e
  exact ⟨.f_law_kinds_of, (T .f_law_kinds_of).N, rfl, rfl, rfl, by decide +kernel⟩
end LW

set_option maxHeartbeats 0
open PySem PySem.W PySem.Calls PyProof.Rows
theorem PySem.Challenge.cw_foldflat_k95_errors_of_what_is_asked_holds : PySem.Challenge.rw_foldflat_k95_errors_of_what_is_asked.Holds := by
  w_on; o_law
  refine HandSHeadRun.head_any (r := OpenLaw.row PySem.Challenge.rw_foldflat_k95_errors_of_what_is_asked) (q := LW.qv) (H := LW.hk) (ob := LW.ob) (M := LW.HM) (loose := LW.names) (d := HandSHeadRun.topDef (OpenLaw.row PySem.Challenge.rw_foldflat_k95_errors_of_what_is_asked).prog 86) (kwd := []) LW.ob_eq (by kernel_rfl) (fun s => by kernel_rfl) LW.run (by kernel_rfl) (by kernel_rfl) (by kernel_rfl) (by rfl) (by first | assumption | decide +kernel) (by decide +kernel) ⟨rfl, rfl, rfl, rfl, rfl, by decide +kernel⟩ ?hw ?hc
  case hw => w_witness2
  case hc => exact Fd.law_end (Z := LW.Z) (l := PySem.Challenge.rw_foldflat_k95_errors_of_what_is_asked) (m := 63) (n := 16) (wf := 64) (f := .f_law) (x := "script") rfl (by decide) (by kernel_rfl) ⟨rfl, by decide, by decide⟩ LW.lkok LW.lkx LW.txtx LW.txts rfl (by kernel_rfl) rfl ⟨_, rfl, rfl⟩ (by first | exact LW.txtk | (intro g ts h; cases h)) (fun ns h => LW.law_ok h)
