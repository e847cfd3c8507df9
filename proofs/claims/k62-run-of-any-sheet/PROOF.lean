import PyProof.Rows.All
import Wide.All
import OpenK.AllK
import Wide.FinOn
import HandS.ForMost
import HandS.Exc
import HandS.TryOnly
import HandS.ExcOwn
import HandS.WordsExc
import HandS.Wide
import HandS.ExcInit
import HandS.ExcField
import KE.KStateDown
import HandS.Ends
import HandS.More
import HandS.Head0
import HandS.Head1
import HandS.Head2
import HandS.HeadEnd
import HandS.HeadHook1
import HandS.HeadHook2
import HandS.EndBits
import HandS.Defaults
import HandS.New0
import HandS.IsInst
import HandS.Iter
import HandS.Rev
import HandS.Deep
import HandS.TupAny
import HandS.Steps
import HandS.ExcIs
import HandS.ExcValue
import KE.KExcIs
import HandS.Dict
import HandS.ForDict
import KE.GoesRaise
import HandS.RevTup
import KE.OsSortAny
import HandS.WordsDict
import HandS.FStr
import HandS.Text
import KE.SortKeyHeap
import HandS.FromBytesMap
import HandS.SortKw
import HandS.RevRange
import HandS.Conv
import HandS.DeepEq
import KE.SortData
import HandS.WideBits
import HandS.SetKeys
import HandS.DictTup
import PyProof.ReprRoads
import PyProof.Rows.NestShow
import PySem.Challenge.RW_lapwork_k62_run_of_any_sheet
set_option Elab.async false
set_option linter.all false
set_option maxRecDepth 100000
set_option maxHeartbeats 4000000
namespace Lw
open PySem PySem.Spec PyProof.Rows L2
def refsOf (g : Addr → Option Obj) (f : Obj → List Addr) (as : List Addr) : List Addr := as.flatMap fun a => match g a with
  | some o => f o
  | none => []
def dictRefs (o : Obj) : List Addr := match o.data with
  | .dict es _ => es.toList.flatMap fun e => He.refV e.val
  | _ => []
def nextRefs (o : Obj) : List Addr := match o.data with
  | .func fd => He.refV fd.code ++ He.refV fd.defaults
  | .cls cd => [cd.ns]
  | _ => []
def asL (g : Addr → Option Obj) : List Addr :=
  let a1 := refsOf g dictRefs [mainGlobals]
  let a2 := refsOf g nextRefs a1
  let a3 := refsOf g dictRefs a2
  mainGlobals :: PySem.cStatics :: PySem.sysModules :: (a1 ++ (a2 ++ (a3 ++ refsOf g nextRefs a3)))
abbrev AlL : Type := He.AlD × Bool
def obsL (fa : List He.Fa) (fn : List He.DefD) (ex : PySem.W.Frag → Bool) (K : PySem.W.Frag) : AlL := (He.obsD fa fn K, ex K)
def obsLG (fa : List He.Fa) (fn : List He.DefD) (ex : PySem.W.Frag → Bool) (g : Addr → Option Obj) : AlL := obsL fa fn ex (He.frG g (asL g))
structure SaysL (fa : List He.Fa) (fn : List He.DefD) (ex : PySem.W.Frag → Bool) (K : PySem.W.Frag) : Prop where
  d : He.SaysD fa fn K
  x : ex K = true
def hookL (fa : List He.Fa) (fn : List He.DefD) (ex : PySem.W.Frag → Bool) : PySem.W.Hook where
  α := AlL
  obs := fun s => obsLG fa fn ex s.heap.get?
  val := fun _ => (He.valD fn, true)
  says := fun _ h => ∃ K : PySem.W.Frag, K.In h ∧ SaysL fa fn ex K
  of := fun _ _ e => ⟨_, He.frG_in, congrArg (fun z : AlL => z.1) e, congrArg (fun z : AlL => z.2) e⟩
  keeps := fun _ _ _ ⟨K, hK, c⟩ k => ⟨K, PySem.W.Frag.In.keeps hK k, c⟩
theorem obsLG_eq {fa : List He.Fa} {fn : List He.DefD} {ex : PySem.W.Frag → Bool} {g : Addr → Option Obj} {s : Shared} (h : ∀ a, g a = s.heap.get? a) : obsLG fa fn ex g = (hookL fa fn ex).obs s := by
  have e : g = s.heap.get? := funext h
  rw [e] <;> rfl
def insB (K : PySem.W.Frag) (x : Str) : Bool := (He.Fa.cls x).ok K && (He.eqO (PySem.W.findIn K (.ref (He.ga K x)) "__class__") (some (some (.builtin "object.__class__"))) &&
  (He.eqO (PySem.W.specialIn K (.builtin "object.__class__") "__get__") (some (some (.builtin "getset_descriptor.__get__"))) && (decide (PySem.W.takesIn K (.builtin "object.__class__") = some true) && decide (PySem.W.mroIn K (He.ga K x) (.type "object") = some true))))
def excB (K : PySem.W.Frag) (x : Str) : Bool := He.eqO (PySem.W.findIn K (.ref (He.ga K x)) "__getattribute__") (some (some (.builtin "BaseException.__getattribute__"))) && (He.eqO (PySem.W.findIn K (.ref (He.ga K x)) "__getattr__") (some none) &&
  (decide (PySem.W.subIn K (.ref (He.ga K x)) (.type "BaseException") = some true) && (PySem.W.hasDictIn K (He.ga K x) && (He.eqO (PySem.W.findIn K (.ref (He.ga K x)) "__class__") (some (some (.builtin "object.__class__"))) &&
  (He.eqO (PySem.W.specialIn K (.builtin "object.__class__") "__get__") (some (some (.builtin "getset_descriptor.__get__"))) && (decide (PySem.W.takesIn K (.builtin "object.__class__") = some true) && decide (PySem.W.mroIn K (He.ga K x) (.type "object") = some true)))))))
def mk0B (K : PySem.W.Frag) (x : Str) : Bool := PySem.W.makesIn K (He.ga K x) && (He.eqO (PySem.W.findIn K (.ref (He.ga K x)) "__init__") (some (some (.builtin "object.__init__"))) && PySem.W.keepIn K (.ref (He.ga K x)))
inductive Ck where
  | mk0 (x : Str)
  | isI (y : Str) (T : List (Str × Bool))
  | isE (y : Str) (T : List (Str × Bool))
  | isB (y : String) (T : List (Str × Bool))
  | cat (y : Str) (T : List Str)
  | leb (x : Str)
  | oex (x : Str)
  | xfd (x f : Str)
  | sys
def lebB (K : PySem.W.Frag) (x : Str) : Bool := He.eqO (PySem.W.specialIn K (.ref (He.ga K x)) "__getattribute__") (some (some (.builtin "type.__getattribute__"))) && (PySem.W.readsIn K (He.ga K x) (.type "type") && (match PySem.W.findCls K (.ref (He.ga K x)) (.type "type") "__init__" with
  | some (.val v) => decide (v = .builtin "ValueError.__init__")
  | _ => false))
def oexB (K : PySem.W.Frag) (C : Addr) : Bool := match K.lookup C with
  | some ⟨.type "type", _, .cls cd, sl⟩ => (match cd.mro, sl.toList with
    | .ref C' :: bm, [_, _, _, _, some (.builtin n), _] => decide (C' = C) && (decide (n = "ValueError.__new__") && (cd.hasDict && (!cd.hasDel && PySem.HandSPX.refsVE bm)))
    | _, _ => false)
  | _ => false
def oexA (K : PySem.W.Frag) (x : Str) : Bool := oexB K (He.ga K x) && (He.eqO (PySem.W.findIn K (.ref (He.ga K x)) "__setattr__") (some (some (.builtin "object.__setattr__"))) && (decide (PySem.W.subIn K (.ref (He.ga K x)) (.type "BaseException") = some true) && (decide (PySem.W.typeIn K (.ref (He.ga K x)) = some (.type "type")) && PySem.W.keepIn K (.ref (He.ga K x)))))
def kitB (K : PySem.W.Frag) (u : Value) (x : Str) (b : Bool) : Bool := decide (PySem.W.kitOne K (.ref (He.ga K x)) u = some b)
def Ck.ok (K : PySem.W.Frag) : Ck → Bool
  | .mk0 x => (He.Fa.glo x).ok K && mk0B K x
  | .isI y T => (He.Fa.glo y).ok K && T.all fun t => (He.Fa.glo t.1).ok K && (insB K t.1 && kitB K (.ref (He.ga K y)) t.1 t.2)
  | .isE y T => (He.Fa.glo y).ok K && T.all fun t => (He.Fa.glo t.1).ok K && (excB K t.1 && kitB K (.ref (He.ga K y)) t.1 t.2)
  | .isB y T => T.all fun t => (He.Fa.glo t.1).ok K && (excB K t.1 && kitB K (.type y) t.1 t.2)
  | .cat y T => (He.Fa.glo y).ok K && T.all fun t => (He.Fa.glo t).ok K && decide (PySem.W.exmOne K (.ref (He.ga K t)) (.ref (He.ga K y)) = some true)
  | .leb x => (He.Fa.glo x).ok K && lebB K x
  | .oex x => oexA K x
  | .xfd x f => (He.Fa.glo x).ok K && (xfB K (He.ga K x) && (He.Fa.noat x f).ok K)
  | .sys => (K.lookup PySem.sysModules).isSome
end Lw
set_option maxHeartbeats 0
namespace Lx
open PySem PySem.Spec PyProof.Rows L2 Lw
abbrev top (i : Nat) : Stmt := PySem.Challenge.pw_lapwork_k62_run_of_any_sheet.main.body.getD i (.Pass ⟨0, 0, 0, 0⟩)
abbrev inCls (st : Stmt) (j : Nat) : Stmt := match st with
  | .ClassDef _ _ _ body _ _ _ _ _ _ _ => body.getD j (.Pass ⟨0, 0, 0, 0⟩)
  | s => s
def isE_BadArms : List (Str × Bool) := [("LapError", false), ("NoDeed", false), ("NoMeasure", false), ("BadRows", false), ("BadName", false), ("Twice", false), ("BadCount", false), ("BadNumber", false), ("NoRow", false), ("BadBack", false), ("TooEarly", false), ("BadTurns", false), ("Short", false), ("BadWidth", false), ("BadArms", true), ("NoArm", false), ("BadDelay", false), ("BadHold", false), ("BadPlan", false), ("Unfit", false), ("BadText", false)]
def isE_BadBack : List (Str × Bool) := [("LapError", false), ("NoDeed", false), ("NoMeasure", false), ("BadRows", false), ("BadName", false), ("Twice", false), ("BadCount", false), ("BadNumber", false), ("NoRow", false), ("BadBack", true), ("TooEarly", false), ("BadTurns", false), ("Short", false), ("BadWidth", false), ("BadArms", false), ("NoArm", false), ("BadDelay", false), ("BadHold", false), ("BadPlan", false), ("Unfit", false), ("BadText", false)]
def isE_BadCount : List (Str × Bool) := [("LapError", false), ("NoDeed", false), ("NoMeasure", false), ("BadRows", false), ("BadName", false), ("Twice", false), ("BadCount", true), ("BadNumber", false), ("NoRow", false), ("BadBack", false), ("TooEarly", false), ("BadTurns", false), ("Short", false), ("BadWidth", false), ("BadArms", false), ("NoArm", false), ("BadDelay", false), ("BadHold", false), ("BadPlan", false), ("Unfit", false), ("BadText", false)]
def isE_BadDelay : List (Str × Bool) := [("LapError", false), ("NoDeed", false), ("NoMeasure", false), ("BadRows", false), ("BadName", false), ("Twice", false), ("BadCount", false), ("BadNumber", false), ("NoRow", false), ("BadBack", false), ("TooEarly", false), ("BadTurns", false), ("Short", false), ("BadWidth", false), ("BadArms", false), ("NoArm", false), ("BadDelay", true), ("BadHold", false), ("BadPlan", false), ("Unfit", false), ("BadText", false)]
def isE_BadHold : List (Str × Bool) := [("LapError", false), ("NoDeed", false), ("NoMeasure", false), ("BadRows", false), ("BadName", false), ("Twice", false), ("BadCount", false), ("BadNumber", false), ("NoRow", false), ("BadBack", false), ("TooEarly", false), ("BadTurns", false), ("Short", false), ("BadWidth", false), ("BadArms", false), ("NoArm", false), ("BadDelay", false), ("BadHold", true), ("BadPlan", false), ("Unfit", false), ("BadText", false)]
def isE_BadName : List (Str × Bool) := [("LapError", false), ("NoDeed", false), ("NoMeasure", false), ("BadRows", false), ("BadName", true), ("Twice", false), ("BadCount", false), ("BadNumber", false), ("NoRow", false), ("BadBack", false), ("TooEarly", false), ("BadTurns", false), ("Short", false), ("BadWidth", false), ("BadArms", false), ("NoArm", false), ("BadDelay", false), ("BadHold", false), ("BadPlan", false), ("Unfit", false), ("BadText", false)]
def isE_BadNumber : List (Str × Bool) := [("LapError", false), ("NoDeed", false), ("NoMeasure", false), ("BadRows", false), ("BadName", false), ("Twice", false), ("BadCount", false), ("BadNumber", true), ("NoRow", false), ("BadBack", false), ("TooEarly", false), ("BadTurns", false), ("Short", false), ("BadWidth", false), ("BadArms", false), ("NoArm", false), ("BadDelay", false), ("BadHold", false), ("BadPlan", false), ("Unfit", false), ("BadText", false)]
def isE_BadPlan : List (Str × Bool) := [("LapError", false), ("NoDeed", false), ("NoMeasure", false), ("BadRows", false), ("BadName", false), ("Twice", false), ("BadCount", false), ("BadNumber", false), ("NoRow", false), ("BadBack", false), ("TooEarly", false), ("BadTurns", false), ("Short", false), ("BadWidth", false), ("BadArms", false), ("NoArm", false), ("BadDelay", false), ("BadHold", false), ("BadPlan", true), ("Unfit", false), ("BadText", false)]
def isE_BadRows : List (Str × Bool) := [("LapError", false), ("NoDeed", false), ("NoMeasure", false), ("BadRows", true), ("BadName", false), ("Twice", false), ("BadCount", false), ("BadNumber", false), ("NoRow", false), ("BadBack", false), ("TooEarly", false), ("BadTurns", false), ("Short", false), ("BadWidth", false), ("BadArms", false), ("NoArm", false), ("BadDelay", false), ("BadHold", false), ("BadPlan", false), ("Unfit", false), ("BadText", false)]
def isE_BadText : List (Str × Bool) := [("LapError", false), ("NoDeed", false), ("NoMeasure", false), ("BadRows", false), ("BadName", false), ("Twice", false), ("BadCount", false), ("BadNumber", false), ("NoRow", false), ("BadBack", false), ("TooEarly", false), ("BadTurns", false), ("Short", false), ("BadWidth", false), ("BadArms", false), ("NoArm", false), ("BadDelay", false), ("BadHold", false), ("BadPlan", false), ("Unfit", false), ("BadText", true)]
def isE_BadTurns : List (Str × Bool) := [("LapError", false), ("NoDeed", false), ("NoMeasure", false), ("BadRows", false), ("BadName", false), ("Twice", false), ("BadCount", false), ("BadNumber", false), ("NoRow", false), ("BadBack", false), ("TooEarly", false), ("BadTurns", true), ("Short", false), ("BadWidth", false), ("BadArms", false), ("NoArm", false), ("BadDelay", false), ("BadHold", false), ("BadPlan", false), ("Unfit", false), ("BadText", false)]
def isE_BadWidth : List (Str × Bool) := [("LapError", false), ("NoDeed", false), ("NoMeasure", false), ("BadRows", false), ("BadName", false), ("Twice", false), ("BadCount", false), ("BadNumber", false), ("NoRow", false), ("BadBack", false), ("TooEarly", false), ("BadTurns", false), ("Short", false), ("BadWidth", true), ("BadArms", false), ("NoArm", false), ("BadDelay", false), ("BadHold", false), ("BadPlan", false), ("Unfit", false), ("BadText", false)]
def isE_NoArm : List (Str × Bool) := [("LapError", false), ("NoDeed", false), ("NoMeasure", false), ("BadRows", false), ("BadName", false), ("Twice", false), ("BadCount", false), ("BadNumber", false), ("NoRow", false), ("BadBack", false), ("TooEarly", false), ("BadTurns", false), ("Short", false), ("BadWidth", false), ("BadArms", false), ("NoArm", true), ("BadDelay", false), ("BadHold", false), ("BadPlan", false), ("Unfit", false), ("BadText", false)]
def isE_NoDeed : List (Str × Bool) := [("LapError", false), ("NoDeed", true), ("NoMeasure", false), ("BadRows", false), ("BadName", false), ("Twice", false), ("BadCount", false), ("BadNumber", false), ("NoRow", false), ("BadBack", false), ("TooEarly", false), ("BadTurns", false), ("Short", false), ("BadWidth", false), ("BadArms", false), ("NoArm", false), ("BadDelay", false), ("BadHold", false), ("BadPlan", false), ("Unfit", false), ("BadText", false)]
def isE_NoMeasure : List (Str × Bool) := [("LapError", false), ("NoDeed", false), ("NoMeasure", true), ("BadRows", false), ("BadName", false), ("Twice", false), ("BadCount", false), ("BadNumber", false), ("NoRow", false), ("BadBack", false), ("TooEarly", false), ("BadTurns", false), ("Short", false), ("BadWidth", false), ("BadArms", false), ("NoArm", false), ("BadDelay", false), ("BadHold", false), ("BadPlan", false), ("Unfit", false), ("BadText", false)]
def isE_NoRow : List (Str × Bool) := [("LapError", false), ("NoDeed", false), ("NoMeasure", false), ("BadRows", false), ("BadName", false), ("Twice", false), ("BadCount", false), ("BadNumber", false), ("NoRow", true), ("BadBack", false), ("TooEarly", false), ("BadTurns", false), ("Short", false), ("BadWidth", false), ("BadArms", false), ("NoArm", false), ("BadDelay", false), ("BadHold", false), ("BadPlan", false), ("Unfit", false), ("BadText", false)]
def isE_Short : List (Str × Bool) := [("LapError", false), ("NoDeed", false), ("NoMeasure", false), ("BadRows", false), ("BadName", false), ("Twice", false), ("BadCount", false), ("BadNumber", false), ("NoRow", false), ("BadBack", false), ("TooEarly", false), ("BadTurns", false), ("Short", true), ("BadWidth", false), ("BadArms", false), ("NoArm", false), ("BadDelay", false), ("BadHold", false), ("BadPlan", false), ("Unfit", false), ("BadText", false)]
def isE_TooEarly : List (Str × Bool) := [("LapError", false), ("NoDeed", false), ("NoMeasure", false), ("BadRows", false), ("BadName", false), ("Twice", false), ("BadCount", false), ("BadNumber", false), ("NoRow", false), ("BadBack", false), ("TooEarly", true), ("BadTurns", false), ("Short", false), ("BadWidth", false), ("BadArms", false), ("NoArm", false), ("BadDelay", false), ("BadHold", false), ("BadPlan", false), ("Unfit", false), ("BadText", false)]
def isE_Twice : List (Str × Bool) := [("LapError", false), ("NoDeed", false), ("NoMeasure", false), ("BadRows", false), ("BadName", false), ("Twice", true), ("BadCount", false), ("BadNumber", false), ("NoRow", false), ("BadBack", false), ("TooEarly", false), ("BadTurns", false), ("Short", false), ("BadWidth", false), ("BadArms", false), ("NoArm", false), ("BadDelay", false), ("BadHold", false), ("BadPlan", false), ("Unfit", false), ("BadText", false)]
def isE_Unfit : List (Str × Bool) := [("LapError", false), ("NoDeed", false), ("NoMeasure", false), ("BadRows", false), ("BadName", false), ("Twice", false), ("BadCount", false), ("BadNumber", false), ("NoRow", false), ("BadBack", false), ("TooEarly", false), ("BadTurns", false), ("Short", false), ("BadWidth", false), ("BadArms", false), ("NoArm", false), ("BadDelay", false), ("BadHold", false), ("BadPlan", false), ("Unfit", true), ("BadText", false)]
def isB_ValueError : List (Str × Bool) := [("LapError", true), ("NoDeed", true), ("NoMeasure", true), ("BadRows", true), ("BadName", true), ("Twice", true), ("BadCount", true), ("BadNumber", true), ("NoRow", true), ("BadBack", true), ("TooEarly", true), ("BadTurns", true), ("Short", true), ("BadWidth", true), ("BadArms", true), ("NoArm", true), ("BadDelay", true), ("BadHold", true), ("BadPlan", true), ("Unfit", true), ("BadText", true)]
def isE_LapError : List (Str × Bool) := [("LapError", true), ("NoDeed", true), ("NoMeasure", true), ("BadRows", true), ("BadName", true), ("Twice", true), ("BadCount", true), ("BadNumber", true), ("NoRow", true), ("BadBack", true), ("TooEarly", true), ("BadTurns", true), ("Short", true), ("BadWidth", true), ("BadArms", true), ("NoArm", true), ("BadDelay", true), ("BadHold", true), ("BadPlan", true), ("Unfit", true), ("BadText", true)]
def cat_LapError : List Str := ["LapError", "NoDeed", "NoMeasure", "BadRows", "BadName", "Twice", "BadCount", "BadNumber", "NoRow", "BadBack", "TooEarly", "BadTurns", "Short", "BadWidth", "BadArms", "NoArm", "BadDelay", "BadHold", "BadPlan", "Unfit", "BadText"]
def fa0 : List He.Fa := [.free "ValueError",
  .free "bool",
  .free "divmod",
  .free "int",
  .free "isinstance",
  .free "len",
  .free "list",
  .free "max",
  .free "min",
  .free "range",
  .free "repr",
  .free "str",
  .free "sum",
  .free "tuple",
  .glo "_law_mix",
  .glo "_law_cell_at",
  .glo "_law_wants",
  .glo "_law_step",
  .glo "_law_part",
  .glo "_law_numbers",
  .glo "_law_landed",
  .glo "_law_makes",
  .glo "_law_begun",
  .glo "_law_done",
  .glo "_law_parts"]
def fa1 : List He.Fa := [.glo "deed_of",
  .glo "is_number",
  .glo "run",
  .glo "_law_classes",
  .glo "_law_whole",
  .glo "_law_alike",
  .glo "_law_pair_alike",
  .glo "law",
  .glo "Floor",
  .cls "Floor",
  .meth "Floor" "begin",
  .meth "Floor" "finish",
  .meth "Floor" "go",
  .meth "Floor" "land",
  .meth "Floor" "numbers",
  .glo "Least",
  .cls "Least",
  .meth "Least" "made",
  .meth "Least" "of",
  .glo "Less",
  .cls "Less",
  .meth "Less" "made",
  .meth "Less" "of",
  .glo "Most",
  .cls "Most"]
def fa2 : List He.Fa := [.meth "Most" "made",
  .meth "Most" "of",
  .glo "Pick",
  .cls "Pick",
  .meth "Pick" "made",
  .meth "Pick" "of",
  .glo "Same",
  .cls "Same",
  .meth "Same" "made",
  .meth "Same" "of",
  .glo "Sum",
  .cls "Sum",
  .meth "Sum" "made",
  .meth "Sum" "of",
  .glo "Take",
  .cls "Take",
  .meth "Take" "made",
  .meth "Take" "of",
  .glo "Tell",
  .cls "Tell",
  .meth "Tell" "made",
  .meth "Tell" "of",
  .glo "Times",
  .cls "Times",
  .meth "Times" "made"]
def fa3 : List He.Fa := [.meth "Times" "of",
  .mkr "Floor",
  .glo "Sheet",
  .mkr "Sheet",
  .noat "Floor" "boxes",
  .noat "Floor" "clock",
  .noat "Floor" "due",
  .noat "Floor" "feeds",
  .noat "Floor" "measure",
  .noat "Floor" "told",
  .cls "Sheet",
  .noat "Sheet" "ahead",
  .noat "Sheet" "held",
  .noat "Sheet" "middle",
  .noat "Sheet" "pace",
  .noat "Sheet" "shorts",
  .noat "Sheet" "stages",
  .noat "Sheet" "tails",
  .glo "BadTurns",
  .exc "BadTurns",
  .glo "NoDeed",
  .exc "NoDeed",
  .int "MOST_TURNS" 300]
def fa : List He.Fa := fa0 ++ (fa1 ++ (fa2 ++ (fa3)))
def fn0 : List He.DefD := [⟨("_law_mix", none), "_law_mix", "_law_mix", defArgs (top 46), defBody (top 46), defScope (top 46), [], []⟩,
  ⟨("_law_cell_at", none), "_law_cell_at", "_law_cell_at", defArgs (top 43), defBody (top 43), defScope (top 43), [], []⟩,
  ⟨("_law_wants", none), "_law_wants", "_law_wants", defArgs (top 47), defBody (top 47), defScope (top 47), [], []⟩,
  ⟨("_law_step", none), "_law_step", "_law_step", defArgs (top 54), defBody (top 54), defScope (top 54), [], []⟩,
  ⟨("_law_part", none), "_law_part", "_law_part", defArgs (top 55), defBody (top 55), defScope (top 55), [], []⟩,
  ⟨("_law_numbers", none), "_law_numbers", "_law_numbers", defArgs (top 56), defBody (top 56), defScope (top 56), [], []⟩,
  ⟨("_law_landed", none), "_law_landed", "_law_landed", defArgs (top 49), defBody (top 49), defScope (top 49), [], []⟩,
  ⟨("_law_makes", none), "_law_makes", "_law_makes", defArgs (top 48), defBody (top 48), defScope (top 48), [], []⟩,
  ⟨("_law_begun", none), "_law_begun", "_law_begun", defArgs (top 50), defBody (top 50), defScope (top 50), [], []⟩,
  ⟨("_law_done", none), "_law_done", "_law_done", defArgs (top 51), defBody (top 51), defScope (top 51), [], []⟩,
  ⟨("_law_parts", none), "_law_parts", "_law_parts", defArgs (top 52), defBody (top 52), defScope (top 52), [], []⟩,
  ⟨("deed_of", none), "deed_of", "deed_of", defArgs (top 33), defBody (top 33), defScope (top 33), [], []⟩,
  ⟨("is_number", none), "is_number", "is_number", defArgs (top 35), defBody (top 35), defScope (top 35), [], []⟩,
  ⟨("run", none), "run", "run", defArgs (top 41), defBody (top 41), defScope (top 41), [], []⟩,
  ⟨("_law_classes", none), "_law_classes", "_law_classes", defArgs (top 53), defBody (top 53), defScope (top 53), [], []⟩,
  ⟨("_law_whole", none), "_law_whole", "_law_whole", defArgs (top 44), defBody (top 44), defScope (top 44), [], []⟩,
  ⟨("_law_alike", none), "_law_alike", "_law_alike", defArgs (top 45), defBody (top 45), defScope (top 45), [], []⟩,
  ⟨("_law_pair_alike", none), "_law_pair_alike", "_law_pair_alike", defArgs (top 57), defBody (top 57), defScope (top 57), [], []⟩,
  ⟨("law", none), "law", "law", defArgs (top 58), defBody (top 58), defScope (top 58), [], []⟩,
  ⟨("Floor", some "begin"), "begin", "Floor.begin", defArgs (inCls (top 40) 3), defBody (inCls (top 40) 3), defScope (inCls (top 40) 3), [], []⟩,
  ⟨("Floor", some "finish"), "finish", "Floor.finish", defArgs (inCls (top 40) 5), defBody (inCls (top 40) 5), defScope (inCls (top 40) 5), [], []⟩,
  ⟨("Floor", some "go"), "go", "Floor.go", defArgs (inCls (top 40) 4), defBody (inCls (top 40) 4), defScope (inCls (top 40) 4), [], []⟩,
  ⟨("Floor", some "land"), "land", "Floor.land", defArgs (inCls (top 40) 1), defBody (inCls (top 40) 1), defScope (inCls (top 40) 1), [], []⟩,
  ⟨("Floor", some "numbers"), "numbers", "Floor.numbers", defArgs (inCls (top 40) 2), defBody (inCls (top 40) 2), defScope (inCls (top 40) 2), [], []⟩,
  ⟨("Least", some "made"), "made", "Least.made", defArgs (inCls (top 27) 0), defBody (inCls (top 27) 0), defScope (inCls (top 27) 0), [], []⟩]
def fn1 : List He.DefD := [⟨("Least", some "of"), "of", "Deed.of", defArgs (inCls (top 23) 2), defBody (inCls (top 23) 2), defScope (inCls (top 23) 2), [], []⟩,
  ⟨("Less", some "made"), "made", "Less.made", defArgs (inCls (top 25) 0), defBody (inCls (top 25) 0), defScope (inCls (top 25) 0), [], []⟩,
  ⟨("Less", some "of"), "of", "Deed.of", defArgs (inCls (top 23) 2), defBody (inCls (top 23) 2), defScope (inCls (top 23) 2), [], []⟩,
  ⟨("Most", some "made"), "made", "Most.made", defArgs (inCls (top 28) 0), defBody (inCls (top 28) 0), defScope (inCls (top 28) 0), [], []⟩,
  ⟨("Most", some "of"), "of", "Deed.of", defArgs (inCls (top 23) 2), defBody (inCls (top 23) 2), defScope (inCls (top 23) 2), [], []⟩,
  ⟨("Pick", some "made"), "made", "Pick.made", defArgs (inCls (top 29) 1), defBody (inCls (top 29) 1), defScope (inCls (top 29) 1), [], []⟩,
  ⟨("Pick", some "of"), "of", "Deed.of", defArgs (inCls (top 23) 2), defBody (inCls (top 23) 2), defScope (inCls (top 23) 2), [], []⟩,
  ⟨("Same", some "made"), "made", "Deed.made", defArgs (inCls (top 23) 1), defBody (inCls (top 23) 1), defScope (inCls (top 23) 1), [], []⟩,
  ⟨("Same", some "of"), "of", "Deed.of", defArgs (inCls (top 23) 2), defBody (inCls (top 23) 2), defScope (inCls (top 23) 2), [], []⟩,
  ⟨("Sum", some "made"), "made", "Sum.made", defArgs (inCls (top 24) 0), defBody (inCls (top 24) 0), defScope (inCls (top 24) 0), [], []⟩,
  ⟨("Sum", some "of"), "of", "Deed.of", defArgs (inCls (top 23) 2), defBody (inCls (top 23) 2), defScope (inCls (top 23) 2), [], []⟩,
  ⟨("Take", some "made"), "made", "Deed.made", defArgs (inCls (top 23) 1), defBody (inCls (top 23) 1), defScope (inCls (top 23) 1), [], []⟩,
  ⟨("Take", some "of"), "of", "Deed.of", defArgs (inCls (top 23) 2), defBody (inCls (top 23) 2), defScope (inCls (top 23) 2), [], []⟩,
  ⟨("Tell", some "made"), "made", "Deed.made", defArgs (inCls (top 23) 1), defBody (inCls (top 23) 1), defScope (inCls (top 23) 1), [], []⟩,
  ⟨("Tell", some "of"), "of", "Deed.of", defArgs (inCls (top 23) 2), defBody (inCls (top 23) 2), defScope (inCls (top 23) 2), [], []⟩,
  ⟨("Times", some "made"), "made", "Times.made", defArgs (inCls (top 26) 0), defBody (inCls (top 26) 0), defScope (inCls (top 26) 0), [], []⟩,
  ⟨("Times", some "of"), "of", "Deed.of", defArgs (inCls (top 23) 2), defBody (inCls (top 23) 2), defScope (inCls (top 23) 2), [], []⟩,
  ⟨("Floor", some "__init__"), "__init__", "Floor.__init__", defArgs (inCls (top 40) 0), defBody (inCls (top 40) 0), defScope (inCls (top 40) 0), [], []⟩,
  ⟨("Sheet", some "__init__"), "__init__", "Sheet.__init__", defArgs (inCls (top 38) 0), defBody (inCls (top 38) 0), defScope (inCls (top 38) 0), [], []⟩]
def fn : List He.DefD := fn0 ++ (fn1)
def cks0 : List Ck := [.mk0 "Least",
  .mk0 "Less",
  .mk0 "Most",
  .mk0 "Pick",
  .mk0 "Same",
  .mk0 "Sum",
  .mk0 "Take",
  .mk0 "Tell",
  .mk0 "Times",
  .isE "BadArms" isE_BadArms,
  .isE "BadBack" isE_BadBack,
  .isE "BadCount" isE_BadCount,
  .isE "BadDelay" isE_BadDelay,
  .isE "BadHold" isE_BadHold,
  .isE "BadName" isE_BadName,
  .isE "BadNumber" isE_BadNumber,
  .isE "BadPlan" isE_BadPlan,
  .isE "BadRows" isE_BadRows,
  .isE "BadText" isE_BadText,
  .isE "BadTurns" isE_BadTurns,
  .isE "BadWidth" isE_BadWidth,
  .isE "LapError" isE_LapError,
  .isE "NoArm" isE_NoArm,
  .isE "NoDeed" isE_NoDeed,
  .isE "NoMeasure" isE_NoMeasure]
def cks1 : List Ck := [.isE "NoRow" isE_NoRow,
  .isE "Short" isE_Short,
  .isE "TooEarly" isE_TooEarly,
  .isE "Twice" isE_Twice,
  .isE "Unfit" isE_Unfit,
  .isB "ValueError" isB_ValueError,
  .cat "LapError" cat_LapError,
  .sys]
def cks : List Ck := cks0 ++ (cks1)
def ex (K : PySem.W.Frag) : Bool := cks.all fun c => c.ok K
def nm0 : List Str := ["LapError", "NoDeed", "NoMeasure", "BadRows", "BadName", "Twice", "BadCount", "BadNumber", "NoRow", "BadBack", "TooEarly", "BadTurns", "Short", "BadWidth", "BadArms", "NoArm", "BadDelay", "BadHold", "BadPlan", "Unfit", "BadText", "Deed", "Sum", "Less", "Times"]
def nm1 : List Str := ["Least", "Most", "Pick", "Same", "Tell", "Take", "deed_of", "is_number", "MOST_TURNS", "Sheet", "Floor", "run", "_law_cell_at", "_law_whole", "_law_alike", "_law_mix", "_law_wants", "_law_makes", "_law_landed", "_law_begun", "_law_done", "_law_parts", "_law_classes", "_law_step", "_law_part"]
def nm2 : List Str := ["_law_numbers", "_law_pair_alike"]
def nm : List Str := nm0 ++ (nm1 ++ (nm2))
abbrev Rw : PySem.W.OpenRow := PySem.W.OpenLaw.row PySem.Challenge.rw_lapwork_k62_run_of_any_sheet
abbrev hk : PySem.W.Hook := hookL fa fn ex
def ob (s : PySem.W.SharedT) : AlL := obsLG fa fn ex (HandSHeadRun.getT s)
theorem ob_eq (s : PySem.W.SharedT) : ob s = hk.obs s.abs := obsLG_eq (HandSHeadRun.getT_eq s)
abbrev qv : Program := PySem.W.view Rw.prog [58]
noncomputable def runS (w : World) (os : OsState) := HandSHeadRun.endF (HandSHeadRun.stepQ (HandSHeadRun.denQ HandSHeadRun.tabQ) Rw.prog w) 100000 Rw.prog w os
section
open PySem.W PySem.Calls HandSHeadRun
theorem run1 (w : World) (os : OsState) : (runS w os).map (fun s => (looksF Rw.prog (boot_heap w.params) s.abs, seenQ qv nm (importedModules Rw.prog.main.body) (fun s => xlAt qv [] s && recOk Rw.toRowW.records s) s.abs)) = some (true, openGood qv nm) := by
  kernel_rfl
theorem run2 (w : World) (os : OsState) : (runS w os).map (fun s => obsLG fa [] ex (getT s)) = some ((true, []), true) := by
  kernel_rfl
theorem run3 (w : World) (os : OsState) : (runS w os).map (fun s => obsLG [] fn (fun _ => true) (getT s)) = some (He.valD fn, true) := by
  kernel_rfl
theorem run_cut {σ β : Type} {fa : List He.Fa} {fn : List He.DefD} {ex : PySem.W.Frag → Bool} {o : Option σ} {a : σ → Bool} {b : σ → β} {g : σ → Addr → Option Obj} {bv : β} (h1 : o.map (fun s => (a s, b s)) = some (true, bv)) (h2 : o.map (fun s => obsLG fa [] ex (g s)) = some ((true, []), true)) (h3 : o.map (fun s => obsLG [] fn (fun _ => true) (g s)) = some (He.valD fn, true)) : o.map (fun s => (a s, b s, obsLG fa fn ex (g s))) = some (true, bv, (He.valD fn, true)) := by
  cases o with
  | none => cases h1
  | some s =>
    have e1 := Option.some.inj h1
    have e2 := Option.some.inj h2
    have e3 := Option.some.inj h3
    have a1 : a s = true := congrArg Prod.fst e1
    have a2 : b s = bv := congrArg Prod.snd e1
    have b1 : ((fa.all fun f => f.ok (He.frG (g s) (asL (g s)))) && true) = true := congrArg (fun z : AlL => z.1.1) e2
    have b2 : ex (He.frG (g s) (asL (g s))) = true := congrArg (fun z : AlL => z.2) e2
    have c1 : (true && fn.all fun d => d.ok (He.frG (g s) (asL (g s)))) = true := congrArg (fun z : AlL => z.1.1) e3
    have c2 : (fn.map fun d => He.fnW (He.frG (g s) (asL (g s))) d.at_) = fn.map He.DefD.val := congrArg (fun z : AlL => z.1.2) e3
    rw [Bool.and_true] at b1
    rw [Bool.true_and] at c1
    show some (a s, b s, ((((fa.all fun f => f.ok (He.frG (g s) (asL (g s)))) && fn.all fun d => d.ok (He.frG (g s) (asL (g s)))), fn.map fun d => He.fnW (He.frG (g s) (asL (g s))) d.at_), ex (He.frG (g s) (asL (g s))))) = some (true, bv, ((true, fn.map He.DefD.val), true))
    rw [a1, a2, b1, b2, c1, c2]
    rfl
theorem run (w : World) : RunEq Rw qv hk ob 100000 nm w := fun os => run_cut (run1 w os) (run2 w os) (run3 w os)
end
end Lx
namespace Lw
open PySem PySem.Spec PyProof.Rows L2
inductive D where
  | non | bl (b : Bool) | int (i : Int) | str (s : Str)
  | lst (xs : List D) | scr (xs : List D) | tup (xs : List D) | dct (ks xs : List D) | dcT (ks xs : List D)
  | obj (c : Str) (ns : List Str) (xs : List D) | exc (c : Str) (ns : List Str) (xs : List D)
structure Ex where
  cls : Str
  ns : List Str
  xs : List D
inductive R (α : Type) where
  | ok (a : α) | exc (e : Ex) | bad
namespace R
def bind {α β : Type} (r : R α) (f : α → R β) : R β := match r with
  | .ok a => f a
  | .exc e => .exc e
  | .bad => .bad
@[simp] theorem bind_ok {α β : Type} (a : α) (f : α → R β) : (R.ok a).bind f = f a := Eq.trans rfl rfl
@[simp] theorem bind_exc {α β : Type} (e : Ex) (f : α → R β) : (R.exc e : R α).bind f = .exc e := Eq.trans rfl rfl
@[simp] theorem bind_bad {α β : Type} (f : α → R β) : (R.bad : R α).bind f = .bad := Eq.trans rfl rfl
theorem bind_assoc {α β γ : Type} (r : R α) (f : α → R β) (g : β → R γ) : (r.bind f).bind g = r.bind fun a => (f a).bind g := by
  cases r <;> rfl
def bin2 {α : Type} (ra rb : R D) (f : D → D → R α) : R α := ra.bind fun x => rb.bind fun y => f x y
@[simp] theorem bin2_ok {α : Type} (a b : D) (f : D → D → R α) : bin2 (.ok a) (.ok b) f = f a b := Eq.trans rfl rfl
def cons (r : R D) (rs : R (List D)) : R (List D) := r.bind fun d => rs.bind fun ds => .ok (d :: ds)
@[simp] theorem cons_ok (a : D) (as : List D) : cons (.ok a) (.ok as) = .ok (a :: as) := Eq.trans rfl rfl
theorem bind_pure {α : Type} (r : R α) : (r.bind fun a => .ok a) = r := by
  cases r <;> rfl
end R
def kD : Key → D
  | .inl i => .int i
  | .inr s => .str s
def sOk (s : Str) : Bool := PyData.strOk s && decide (s.length ≤ 16777216)
def ExK (cls : Value) (d : Option Addr) (a : Addr) : HO := .ext fun h => ∃ (oe : Obj) (vs : Array Value), h.get? a = some oe ∧ Zc cls d oe ∧ oe.data = .fields vs
mutual
def Rep (K : PySem.W.Frag) (mg : Str → Option Value) (G : Hp) : D → V → Prop
  | .non, v => v = .non
  | .bl b, v => v = .bl b
  | .int i, v => v = .int i
  | .str s, v => v = .str s ∧ sOk s = true
  | .lst ds, v => ∃ a vs, v = .ref a ∧ G a = some (.lst vs) ∧ Reps K mg G ds vs
  | .scr ds, v => ∃ a vs, v = .ref a ∧ SqL K G a vs ∧ Reps K mg G ds vs
  | .tup ds, v => ∃ a vs, v = .ref a ∧ SqT K G a vs ∧ Reps K mg G ds vs
  | .dct ks ds, v => ∃ a, v = .ref a ∧ ∃ kvs : List (Key × V), Rd G a (.dK kvs) ∧ ks = kvs.map (fun p => kD p.1) ∧ Reps K mg G ds (kvs.map (·.2))
  | .dcT ks ds, v => ∃ a, v = .ref a ∧ ∃ kvs : List (List Key × V), G a = some (.dT kvs) ∧ ks = kvs.map (fun p => .tup (p.1.map kD)) ∧ Reps K mg G ds (kvs.map (·.2))
  | .obj c ns ds, v => ∃ a C dx fs, v = .ref a ∧ G a = some (.ins C dx fs) ∧ mg c = some (.ref C) ∧ fs.map (·.1) = ns ∧ Reps K mg G ds (fs.map (·.2))
  | .exc c ns ds, v => ∃ a C xd, v = .ref a ∧ G a = some (ExK (.ref C) xd a) ∧ mg c = some (.ref C) ∧ ((ns = [] ∧ ds = [] ∧ xd = none) ∨ ∃ dx fs, ns ≠ [] ∧ xd = some dx ∧ G dx = some (.xd fs) ∧ fs.map (·.1) = ns ∧ Reps K mg G ds (fs.map (·.2)))
def Reps (K : PySem.W.Frag) (mg : Str → Option Value) (G : Hp) : List D → List V → Prop
  | [], vs => vs = []
  | d :: ds, vs => ∃ v r, vs = v :: r ∧ Rep K mg G d v ∧ Reps K mg G ds r
end
section
variable {K : PySem.W.Frag} {mg : Str → Option Value} {G G' : Hp}
theorem sqL_mono {a : Addr} {vs : List V} (s : Same G G') (h : SqL K G a vs) : SqL K G' a vs := s.seq h
theorem sqT_mono {a : Addr} {vs : List V} (s : Same G G') (h : SqT K G a vs) : SqT K G' a vs := by
  rcases h with (h | ⟨o, h⟩) | h
  · exact .inl (.inl (s _ _ h))
  · exact .inl (.inr ⟨o, s _ _ h⟩)
  · exact .inr h
theorem rd_mono {a : Addr} {o : HO} (s : Same G G') (h : Rd G a o) : Rd G' a o := h.imp (s _ _) fun ⟨z, q⟩ => ⟨z, s _ _ q⟩
mutual
theorem Rep.mono (s : Same G G') : ∀ {d : D} {v : V}, Rep K mg G d v → Rep K mg G' d v
  | .non, _, h => h
  | .bl _, _, h => h
  | .int _, _, h => h
  | .str _, _, h => h
  | .lst _, _, ⟨a, vs, e, q, r⟩ => ⟨a, vs, e, s _ _ q, Reps.mono s r⟩
  | .scr _, _, ⟨a, vs, e, q, r⟩ => ⟨a, vs, e, sqL_mono s q, Reps.mono s r⟩
  | .tup _, _, ⟨a, vs, e, q, r⟩ => ⟨a, vs, e, sqT_mono s q, Reps.mono s r⟩
  | .dct _ _, _, ⟨a, e, kvs, q, k, r⟩ => ⟨a, e, kvs, rd_mono s q, k, Reps.mono s r⟩
  | .dcT _ _, _, ⟨a, e, kvs, q, k, r⟩ => ⟨a, e, kvs, s _ _ q, k, Reps.mono s r⟩
  | .obj _ _ _, _, ⟨a, C, dx, fs, e, q, m, n, r⟩ => ⟨a, C, dx, fs, e, s _ _ q, m, n, Reps.mono s r⟩
  | .exc _ _ _, _, ⟨a, C, xd, e, q, m, r⟩ => ⟨a, C, xd, e, s _ _ q, m, r.imp (fun z => z) fun ⟨dx, fs, z0, z1, z2, z3, z4⟩ => ⟨dx, fs, z0, z1, s _ _ z2, z3, Reps.mono s z4⟩⟩
theorem Reps.mono (s : Same G G') : ∀ {ds : List D} {vs : List V}, Reps K mg G ds vs → Reps K mg G' ds vs
  | [], _, h => h
  | _ :: _, _, ⟨v, r, e, h, q⟩ => ⟨v, r, e, Rep.mono s h, Reps.mono s q⟩
end
theorem Reps.length : ∀ {ds : List D} {vs : List V}, Reps K mg G ds vs → ds.length = vs.length
  | [], _, h => by
    have e : _ = [] := h
    subst e
    rfl
  | _ :: ds, _, ⟨v, r, e, _, q⟩ => by
    subst e
    simp [Reps.length q]
theorem Reps.get : ∀ {ds : List D} {vs : List V} {i : Nat} {d : D}, Reps K mg G ds vs → ds[i]? = some d → ∃ v, vs[i]? = some v ∧ Rep K mg G d v
  | [], _, _, _, _, h => by simp at h
  | d :: ds, _, 0, d', ⟨v, r, e, h, q⟩, z => by
    have z' : d = d' := by simpa using z
    subst e z'
    exact ⟨v, rfl, h⟩
  | d :: ds, _, i + 1, d', ⟨v, r, e, h, q⟩, z => by
    subst e
    obtain ⟨u, e1, e2⟩ := Reps.get (i := i) q (by simpa using z)
    exact ⟨u, by simpa using e1, e2⟩
theorem Reps.append : ∀ {ds es : List D} {vs ws : List V}, Reps K mg G ds vs → Reps K mg G es ws → Reps K mg G (ds ++ es) (vs ++ ws)
  | [], _, _, _, h, q => by
    have e : _ = [] := h
    subst e
    exact q
  | _ :: _, _, _, _, ⟨v, r, e, h, q⟩, z => by
    subst e
    exact ⟨v, _, rfl, h, Reps.append q z⟩
theorem Reps.nil : Reps K mg G [] [] := rfl
theorem Reps.cons {d : D} {v : V} {ds : List D} {vs : List V} (h : Rep K mg G d v) (q : Reps K mg G ds vs) : Reps K mg G (d :: ds) (v :: vs) := ⟨v, vs, rfl, h, q⟩
theorem Reps.snoc {d : D} {v : V} {ds : List D} {vs : List V} (q : Reps K mg G ds vs) (h : Rep K mg G d v) : Reps K mg G (ds ++ [d]) (vs ++ [v]) := q.append (.cons h .nil)
theorem Reps.set {d : D} {v : V} : ∀ {ds : List D} {vs : List V} (i : Nat), Reps K mg G ds vs → Rep K mg G d v → Reps K mg G (ds.set i d) (vs.set i v)
  | [], _, i, h, _ => by
    have e : _ = [] := h
    subst e
    exact rfl
  | _ :: _, _, 0, ⟨v', r, e, h, q⟩, z => by
    subst e
    exact ⟨v, r, rfl, z, q⟩
  | _ :: _, _, i + 1, ⟨v', r, e, h, q⟩, z => by
    subst e
    exact ⟨v', _, rfl, h, Reps.set i q z⟩
theorem Reps.take : ∀ {ds : List D} {vs : List V} (n : Nat), Reps K mg G ds vs → Reps K mg G (ds.take n) (vs.take n)
  | _, _, 0, _ => by simp; exact .nil
  | [], _, n + 1, h => by
    have e : _ = [] := h
    subst e
    exact rfl
  | _ :: _, _, n + 1, ⟨v, r, e, h, q⟩ => by
    subst e
    exact ⟨v, _, rfl, h, Reps.take n q⟩
theorem Reps.drop : ∀ {ds : List D} {vs : List V} (n : Nat), Reps K mg G ds vs → Reps K mg G (ds.drop n) (vs.drop n)
  | _, _, 0, h => h
  | [], _, n + 1, h => by
    have e : _ = [] := h
    subst e
    exact rfl
  | _ :: _, _, n + 1, ⟨v, r, e, h, q⟩ => by
    subst e
    exact Reps.drop n q
end
end Lw
namespace Lw
open PySem PySem.Spec PyProof.Rows L2
structure Cf where
  K : PySem.W.Frag
  mg : Str → Option Value
  B : Hp
  G0 : Hp
noncomputable def frz (G H : Hp) (S : List Addr) : Hp := fun b => if b ∈ S then H b else G b
structure UK where
  R : Cf → Hp → Hp → D → V → List Addr → Prop
  own : Bool
  at_ : ∀ {c : Cf} {H H' G G' : Hp} {d : D} {v : V} {S : List Addr}, R c H G d v S → (∀ p ∈ S, ∀ o, H p = some o → H' p = some o) → Same G G' → R c H' G' d v S
  rep : ∀ {c : Cf} {H G : Hp} {d : D} {v : V} {S : List Addr}, R c H G d v S → Same c.B H → Same G H → Rep c.K c.mg H d v
  frz : ∀ {c : Cf} {H G : Hp} {d : D} {v : V} {S T : List Addr}, own = true → R c H G d v T → (∀ p ∈ T, p ∈ S) → (∀ p ∈ S, G p = none) → Rep c.K c.mg (Lw.frz G H S) d v
  cf : ∀ {K : PySem.W.Frag} {mg : Str → Option Value} {B B' G0 G0' H G : Hp} {d : D} {v : V} {S : List Addr}, R ⟨K, mg, B, G0⟩ H G d v S → R ⟨K, mg, B', G0'⟩ H G d v S
inductive Kd where
  | N | F | B | E | L (k : Kd) | I (p : Addr) | T | K | Q | M (p : Addr) | U (u : UK)
inductive RK where
  | F | B | J | P | E | O (k : Kd)
def AllR (P : D → V → List Addr → Prop) : List D → List V → List Addr → Prop
  | [], vs, S => vs = [] ∧ S = []
  | d :: ds, vs, S => ∃ v r S1 S2, vs = v :: r ∧ S = S1 ++ S2 ∧ P d v S1 ∧ AllR P ds r S2
inductive Cont (H : Hp) (p : Addr) : D → List D → List V → Prop
  | lst {ds vs} : H p = some (.lst vs) → Cont H p (.lst ds) ds vs
  | dK {ds kvs} : H p = some (.dK kvs) → Cont H p (.dct (kvs.map fun q => kD q.1) ds) ds (kvs.map (·.2))
def RepK (c : Cf) (H G : Hp) : Kd → D → V → List Addr → Prop
  | .N, _, _, _ => False
  | .F, d, v, S => Rep c.K c.mg G d v ∧ S = []
  | .B, d, v, S => Rep c.K c.mg c.B d v ∧ S = []
  | .E, d, v, S => (∃ p vs ds, v = .ref p ∧ Cont c.B p d ds vs ∧ Reps c.K c.mg G ds vs) ∧ S = []
  | .L k, d, v, S => ∃ p vs ds S', v = .ref p ∧ S = p :: S' ∧ Cont H p d ds vs ∧ AllR (RepK c H G k) ds vs S'
  | .I p, d, v, S => ∃ C dx fs cl ns ds, v = .ref p ∧ S = [p] ∧ d = .obj cl ns ds ∧ H p = some (.ins C dx fs) ∧ c.mg cl = some (.ref C) ∧ fs.map (·.1) = ns ∧ Reps c.K c.mg G ds (fs.map (·.2))
  | .T, d, v, S => ∃ p v1 q ws d1 ds, v = .ref p ∧ S = [p, q] ∧ d = .tup [d1, .lst ds] ∧ H p = some (.tup [v1, .ref q]) ∧ Rep c.K c.mg G d1 v1 ∧ H q = some (.lst ws) ∧ Reps c.K c.mg G ds ws
  | .K, d, v, S => (∃ p vs ds, v = .ref p ∧ d = .tup ds ∧ G p = some (.tup vs) ∧ Reps c.K c.mg G ds vs) ∧ S = []
  | .Q, d, v, S => ∃ p kvs ds, v = .ref p ∧ S = [p] ∧ d = .dcT (kvs.map fun q : List Key × V => .tup (q.1.map kD)) ds ∧ H p = some (.dT kvs) ∧ Reps c.K c.mg G ds (kvs.map (·.2))
  | .M p, d, v, S => ∃ vs ds, v = .ref p ∧ S = [p] ∧ Cont H p d ds vs ∧ Reps c.K c.mg G ds vs
  | .U u, d, v, S => u.R c H G d v S
def Adv (H G G' H' : Hp) : Prop := Same H H' ∧ Same G G' ∧ Same G' H' ∧ ∀ b o, G' b = some o → G b = some o ∨ H b = none
structure St (c : Cf) (κ : List Kd) (en : List D) (σ : L2.St) (H G : Hp) (Ss : Nat → List Addr) : Prop where
  ln : σ.length = κ.length ∧ en.length = κ.length
  slot : ∀ i k, κ[i]? = some k → k ≠ .N → ∃ v d, σ[i]? = some (some v) ∧ en[i]? = some d ∧ RepK c H G k d v (Ss i)
  own : ∀ i p, p ∈ Ss i → G p = none ∧ c.B p = none ∧ ∃ o, H p = some o
  nd : ∀ i, (Ss i).Nodup
  dis : ∀ i j p, i ≠ j → p ∈ Ss i → p ∈ Ss j → False
  sB : Same c.B H
  sG : Same c.G0 G
  sH : Same G H
  new : ∀ b o, G b = some o → c.G0 b = some o ∨ c.B b = none
def RV (c : Cf) (H0 H G : Hp) : RK → D → V → List Addr → Prop
  | .F, d, v, S => Rep c.K c.mg G d v ∧ S = []
  | .B, d, v, S => Rep c.K c.mg c.B d v ∧ S = []
  | .J, d, v, S => (∃ p vs ds, v = .ref p ∧ Cont c.B p d ds vs ∧ Reps c.K c.mg G ds vs) ∧ S = []
  | .P, d, v, S => Rep c.K c.mg H d v ∧ S = []
  | .E, d, v, S => (∃ p vs ds, v = .ref p ∧ Cont H p d ds vs ∧ Reps c.K c.mg G ds vs) ∧ S = []
  | .O k, d, v, S => RepK c H G k d v S ∧ S.Nodup ∧ ∀ p ∈ S, H0 p = none ∧ G p = none ∧ ∃ o, H p = some o
section
variable {c : Cf} {κ κ' : List Kd} {en en' : List D} {σ σ' : L2.St} {H H0 H' H1 H2 G G' G1 G2 : Hp} {Ss Ss' : Nat → List Addr} {k : Kd} {d : D} {v : V} {S : List Addr} {rk : RK}
theorem Adv.refl (s : Same G H) : Adv H G G H := ⟨.refl _, .refl _, s, fun _ _ h => .inl h⟩
theorem Adv.trans (a : Adv H G G1 H1) (b : Adv H1 G1 G2 H2) : Adv H G G2 H2 := ⟨a.1.trans b.1, a.2.1.trans b.2.1, b.2.2.1, fun x o h => by
  rcases b.2.2.2 x o h with q | q
  · exact a.2.2.2 x o q
  · exact .inr (a.1.free q)⟩
theorem Adv.newF {p : Addr} {o : HO} (s : Same G H) (hp : H p = none) : Adv H G (upd G p o) (upd H p o) := by
  have gp := s.free hp
  refine ⟨fun b u h => ?_, fun b u h => ?_, fun b u h => ?_, fun b u h => ?_⟩
  · rw [upd_ne (ne_of_none h hp)]; exact h
  · rw [upd_ne (ne_of_none h gp)]; exact h
  · by_cases e : b = p
    · subst e; rw [upd_same] at h ⊢; exact h
    · rw [upd_ne e] at h ⊢; exact s _ _ h
  · by_cases e : b = p
    · subst e; exact .inr hp
    · rw [upd_ne e] at h; exact .inl h
theorem Adv.newO {p : Addr} {o : HO} (s : Same G H) (hp : H p = none) : Adv H G G (upd H p o) := by
  refine ⟨fun b u h => ?_, .refl _, fun b u h => ?_, fun b u h => .inl h⟩
  · rw [upd_ne (ne_of_none h hp)]; exact h
  · rw [upd_ne (ne_of_none (s _ _ h) hp)]; exact s _ _ h
theorem AllR.imp {P Q : D → V → List Addr → Prop} : ∀ {ds : List D} {vs : List V} {S : List Addr}, AllR P ds vs S → (∀ d v T, (∀ p ∈ T, p ∈ S) → P d v T → Q d v T) → AllR Q ds vs S
  | [], _, _, h, _ => h
  | d :: ds, _, _, ⟨v, r, S1, S2, e1, e2, h, q⟩, f => by
    subst e1 e2
    exact ⟨v, r, S1, S2, rfl, rfl, f _ _ _ (fun p hp => List.mem_append_left _ hp) h, AllR.imp q fun d v T hT => f d v T fun p hp => List.mem_append_right _ (hT p hp)⟩
theorem RepK.at_ : ∀ {k : Kd} {d : D} {v : V} {S : List Addr}, RepK c H G k d v S → (∀ p ∈ S, ∀ o, H p = some o → H' p = some o) → Same G G' → RepK c H' G' k d v S
  | .N, _, _, _, h, _, _ => h
  | .F, _, _, _, ⟨h, e⟩, _, s => ⟨h.mono s, e⟩
  | .B, _, _, _, h, _, _ => h
  | .E, _, _, _, ⟨⟨p, vs, ds, e1, hc, r⟩, e2⟩, _, s => ⟨⟨p, vs, ds, e1, hc, r.mono s⟩, e2⟩
  | .L k, _, _, _, ⟨p, vs, ds, S', e1, e2, hc, ha⟩, f, s => by
    subst e1 e2
    refine ⟨p, vs, ds, S', rfl, rfl, ?_, AllR.imp ha fun d v T hT h => RepK.at_ h (fun q hq => f q (List.mem_cons_of_mem _ (hT q hq))) s⟩
    have fp := f p List.mem_cons_self
    cases hc with
    | lst h => exact .lst (fp _ h)
    | dK h => exact .dK (fp _ h)
  | .I p, _, _, _, ⟨C, dx, fs, cl, ns, ds, e1, e2, e3, h, m, n, r⟩, f, s => by
    subst e1 e2
    exact ⟨C, dx, fs, cl, ns, ds, rfl, rfl, e3, f p List.mem_cons_self _ h, m, n, r.mono s⟩
  | .T, _, _, _, ⟨p, v1, q, ws, d1, ds, e1, e2, e3, h1, r1, h2, r2⟩, f, s => by
    subst e1 e2 e3
    exact ⟨p, v1, q, ws, d1, ds, rfl, rfl, rfl, f p (by simp) _ h1, r1.mono s, f q (by simp) _ h2, r2.mono s⟩
  | .K, _, _, _, ⟨⟨p, vs, ds, e1, e2, h, r⟩, e3⟩, _, s => ⟨⟨p, vs, ds, e1, e2, s _ _ h, r.mono s⟩, e3⟩
  | .Q, _, _, _, ⟨p, kvs, ds, e1, e2, e3, h, r⟩, f, s => by
    subst e1 e2 e3
    exact ⟨p, kvs, ds, rfl, rfl, rfl, f p List.mem_cons_self _ h, r.mono s⟩
  | .M p, _, _, _, ⟨vs, ds, e1, e2, hc, r⟩, f, s => by
    subst e1 e2
    refine ⟨vs, ds, rfl, rfl, ?_, r.mono s⟩
    have fp := f p List.mem_cons_self
    cases hc with
    | lst h => exact .lst (fp _ h)
    | dK h => exact .dK (fp _ h)
  | .U u, _, _, _, h, f, s => u.at_ h f s
theorem RepK.adv (h : RepK c H G k d v S) (a : Adv H G G' H') : RepK c H' G' k d v S := h.at_ (fun p _ o q => a.1 p o q) a.2.1
theorem AllR.reps {P : D → V → List Addr → Prop} {K : PySem.W.Frag} {mg : Str → Option Value} : ∀ {ds : List D} {vs : List V} {S : List Addr}, AllR P ds vs S → (∀ d v T, P d v T → Rep K mg H d v) → Reps K mg H ds vs
  | [], _, _, h, _ => h.1
  | d :: ds, _, _, ⟨v, r, S1, S2, e1, e2, h, q⟩, f => ⟨v, r, e1, f _ _ _ h, AllR.reps q f⟩
theorem RepK.rep : ∀ {k : Kd} {d : D} {v : V} {S : List Addr}, RepK c H G k d v S → Same c.B H → Same G H → Rep c.K c.mg H d v
  | .N, _, _, _, h, _, _ => h.elim
  | .F, _, _, _, ⟨h, _⟩, _, s => h.mono s
  | .B, _, _, _, ⟨h, _⟩, s, _ => h.mono s
  | .E, _, _, _, ⟨⟨p, vs, ds, e1, hc, r⟩, _⟩, sB, sG => by
    subst e1
    cases hc with
    | lst h => exact ⟨p, vs, rfl, sB _ _ h, r.mono sG⟩
    | dK h => exact ⟨p, rfl, _, .inl (sB _ _ h), rfl, r.mono sG⟩
  | .I p, _, _, _, ⟨C, dx, fs, cl, ns, ds, e1, e2, e3, h, m, n, r⟩, _, s => by
    subst e1 e3
    exact ⟨p, C, dx, fs, rfl, h, m, n, r.mono s⟩
  | .T, _, _, _, ⟨p, v1, q, ws, d1, ds, e1, e2, e3, h1, r1, h2, r2⟩, _, s => by
    subst e1 e3
    exact ⟨p, _, rfl, SqT.of h1, v1, _, rfl, r1.mono s, .ref q, [], rfl, ⟨q, ws, rfl, h2, r2.mono s⟩, rfl⟩
  | .K, _, _, _, ⟨⟨p, vs, ds, e1, e2, h, r⟩, e3⟩, _, s => by
    subst e1 e2
    exact ⟨p, vs, rfl, SqT.of (s _ _ h), r.mono s⟩
  | .Q, _, _, _, ⟨p, kvs, ds, e1, e2, e3, h, r⟩, _, s => by
    subst e1 e3
    exact ⟨p, rfl, kvs, h, rfl, r.mono s⟩
  | .M p, _, _, _, ⟨vs, ds, e1, e2, hc, r⟩, _, sG => by
    subst e1
    cases hc with
    | lst h => exact ⟨p, vs, rfl, h, r.mono sG⟩
    | dK h => exact ⟨p, rfl, _, .inl h, rfl, r.mono sG⟩
  | .U u, _, _, _, h, sB, sG => u.rep h sB sG
  | .L k, _, _, _, ⟨p, vs, ds, S', e1, e2, hc, ha⟩, sB, sG => by
    subst e1
    have r := ha.reps (K := c.K) (mg := c.mg) fun d v T h => RepK.rep h sB sG
    cases hc with
    | lst h => exact ⟨p, vs, rfl, h, r⟩
    | dK h => exact ⟨p, rfl, _, .inl h, rfl, r⟩
theorem RV.rep (h : RV c H0 H G rk d v S) (sB : Same c.B H) (sG : Same G H) : Rep c.K c.mg H d v := by
  cases rk with
  | F => exact h.1.mono sG
  | B => exact h.1.mono sB
  | J =>
    obtain ⟨⟨p, vs, ds, e, hc, r⟩, _⟩ := h
    subst e
    cases hc with
    | lst h => exact ⟨p, vs, rfl, sB _ _ h, r.mono sG⟩
    | dK h => exact ⟨p, rfl, _, .inl (sB _ _ h), rfl, r.mono sG⟩
  | P => exact h.1
  | E =>
    obtain ⟨⟨p, vs, ds, e, hc, r⟩, _⟩ := h
    subst e
    cases hc with
    | lst h => exact ⟨p, vs, rfl, h, r.mono sG⟩
    | dK h => exact ⟨p, rfl, _, .inl h, rfl, r.mono sG⟩
  | O k => exact h.1.rep sB sG
theorem frz_in {b : Addr} (h : b ∈ S) : frz G H S b = H b := by unfold frz; rw [if_pos h]
theorem frz_out {b : Addr} (h : b ∉ S) : frz G H S b = G b := by unfold frz; rw [if_neg h]
theorem frz_same (h : ∀ p ∈ S, G p = none) : Same G (frz G H S) := fun b o q => by
  by_cases hb : b ∈ S
  · rw [h b hb] at q; cases q
  · rw [frz_out hb]; exact q
theorem frz_sub (s : Same G H) : Same (frz G H S) H := fun b o q => by
  by_cases hb : b ∈ S
  · rw [frz_in hb] at q; exact q
  · rw [frz_out hb] at q; exact s _ _ q
def Kd.own : Kd → Bool
  | .N => false
  | .F => true
  | .B => false
  | .E => false
  | .L k => k.own
  | .I _ => true
  | .T => true
  | .K => true
  | .Q => true
  | .M _ => false
  | .U u => u.own
theorem RepK.frz : ∀ {k : Kd} {d : D} {v : V} {S T : List Addr}, RepK c H G k d v T → k.own = true → (∀ p ∈ T, p ∈ S) → (∀ p ∈ S, G p = none) → Rep c.K c.mg (frz G H S) d v
  | .N, _, _, _, _, h, _, _, _ => h.elim
  | .F, _, _, _, _, ⟨h, _⟩, _, _, g => h.mono (frz_same g)
  | .B, _, _, _, _, _, h, _, _ => by cases h
  | .E, _, _, _, _, _, h, _, _ => by cases h
  | .M _, _, _, _, _, _, h, _, _ => by cases h
  | .U u, _, _, _, _, h, ho, hs, g => u.frz ho h hs g
  | .I p, _, _, _, _, ⟨C, dx, fs, cl, ns, ds, e1, e2, e3, h, m, n, r⟩, _, hs, g => by
    subst e1 e2 e3
    exact ⟨p, C, dx, fs, rfl, by rw [frz_in (hs p List.mem_cons_self)]; exact h, m, n, r.mono (frz_same g)⟩
  | .T, _, _, _, _, ⟨p, v1, q, ws, d1, ds, e1, e2, e3, h1, r1, h2, r2⟩, _, hs, g => by
    subst e1 e2 e3
    exact ⟨p, _, rfl, SqT.of (by rw [frz_in (hs p (by simp))]; exact h1), v1, _, rfl, r1.mono (frz_same g), .ref q, [], rfl, ⟨q, ws, rfl, by rw [frz_in (hs q (by simp))]; exact h2, r2.mono (frz_same g)⟩, rfl⟩
  | .K, _, _, _, _, ⟨⟨p, vs, ds, e1, e2, h, r⟩, e3⟩, _, _, g => by
    subst e1 e2
    exact ⟨p, vs, rfl, SqT.of (frz_same g _ _ h), r.mono (frz_same g)⟩
  | .Q, _, _, _, _, ⟨p, kvs, ds, e1, e2, e3, h, r⟩, _, hs, g => by
    subst e1 e2 e3
    exact ⟨p, rfl, kvs, by rw [frz_in (hs p (by simp))]; exact h, rfl, r.mono (frz_same g)⟩
  | .L k, _, _, S, _, ⟨p, vs, ds, S', e1, e2, hc, ha⟩, ho, hs, g => by
    subst e1 e2
    have r : Reps c.K c.mg (Lw.frz G H S) ds vs := (ha.imp (Q := fun d v _ => Rep c.K c.mg (Lw.frz G H S) d v) fun d v T hT h => RepK.frz h ho (fun q hq => hs q (List.mem_cons_of_mem _ (hT q hq))) g).reps fun _ _ _ h => h
    have hp := hs p List.mem_cons_self
    cases hc with
    | lst h => exact ⟨p, vs, rfl, by rw [frz_in hp]; exact h, r⟩
    | dK h => exact ⟨p, rfl, _, .inl (by rw [frz_in hp]; exact h), rfl, r⟩
theorem Adv.frz {G' : Hp} (a : Adv H G G' H') (h : ∀ p ∈ S, H p = none ∧ G' p = none) : Adv H G (Lw.frz G' H' S) H' := by
  have g : ∀ p ∈ S, G' p = none := fun p hp => (h p hp).2
  refine ⟨a.1, a.2.1.trans (frz_same g), frz_sub a.2.2.1, fun b o q => ?_⟩
  by_cases hb : b ∈ S
  · exact .inr (h b hb).1
  · rw [frz_out hb] at q; exact a.2.2.2 b o q
theorem St.adv (s : St c κ en σ H G Ss) (a : Adv H G G' H') : St c κ en σ H' G' Ss where
  ln := s.ln
  slot := fun i k hk hn => by
    obtain ⟨v, d, h1, h2, h3⟩ := s.slot i k hk hn
    exact ⟨v, d, h1, h2, h3.adv a⟩
  own := fun i p hp => by
    obtain ⟨h1, h2, o, h3⟩ := s.own i p hp
    refine ⟨?_, h2, o, a.1 _ _ h3⟩
    cases q : G' p with
    | none => rfl
    | some u =>
      rcases a.2.2.2 p u q with z | z
      · rw [h1] at z; cases z
      · rw [h3] at z; cases z
  nd := s.nd
  dis := s.dis
  sB := s.sB.trans a.1
  sG := s.sG.trans a.2.1
  sH := a.2.2.1
  new := fun b o h => by
    rcases a.2.2.2 b o h with q | q
    · exact s.new b o q
    · exact .inr (s.sB.free q)
theorem St.adv0 (s : St c κ en σ H G Ss) : Adv c.B c.G0 G H := ⟨s.sB, s.sG, s.sH, s.new⟩
def slotOf : RK → Kd
  | .F => .F
  | .B => .B
  | .J => .E
  | .P => .N
  | .E => .N
  | .O k => k
theorem RV.kd (h : RV c H0 H G rk d v S) (hp : slotOf rk ≠ .N) : RepK c H G (slotOf rk) d v S := by
  cases rk with
  | F => exact h
  | B => exact h
  | J => exact h
  | P => exact absurd rfl hp
  | E => exact absurd rfl hp
  | O k => exact h.1
theorem St.set {i : Nat} (s : St c κ en σ H0 G Ss) (a : Adv H0 G G' H) (h : RV c H0 H G' rk d v S) (hκ : i < κ.length) :
    St c (κ.set i (slotOf rk)) (en.set i d) (σ.set i (some v)) H G' (fun j => if j = i then S else Ss j) := by
  have s' := s.adv a
  have hi : i < en.length := by rw [s.ln.2]; exact hκ
  have hσ : i < σ.length := by rw [s.ln.1]; exact hκ
  have hS : ∀ p ∈ S, H0 p = none ∧ G' p = none ∧ ∃ o, H p = some o := by
    cases rk with
    | F => rw [h.2]; intro p hp; cases hp
    | B => rw [h.2]; intro p hp; cases hp
    | J => rw [h.2]; intro p hp; cases hp
    | P => rw [h.2]; intro p hp; cases hp
    | E => rw [h.2]; intro p hp; cases hp
    | O k => exact h.2.2
  have hnd : S.Nodup := by
    cases rk with
    | F => rw [h.2]; exact .nil
    | B => rw [h.2]; exact .nil
    | J => rw [h.2]; exact .nil
    | P => rw [h.2]; exact .nil
    | E => rw [h.2]; exact .nil
    | O k => exact h.2.1
  refine ⟨by simpa using s.ln, fun j k hk hn => ?_, fun j p hp => ?_, fun j => ?_, fun j l p hjl hp hq => ?_, s'.sB, s'.sG, s'.sH, s'.new⟩
  · by_cases e : j = i
    · subst e
      rw [List.getElem?_set_self hκ] at hk
      cases hk
      refine ⟨v, d, List.getElem?_set_self hσ, List.getElem?_set_self hi, ?_⟩
      rw [if_pos rfl]
      exact h.kd hn
    · rw [List.getElem?_set_ne (Ne.symm e)] at hk
      obtain ⟨v', d', h1, h2, h3⟩ := s'.slot j k hk hn
      refine ⟨v', d', ?_, ?_, ?_⟩
      · rw [List.getElem?_set_ne (Ne.symm e)]; exact h1
      · rw [List.getElem?_set_ne (Ne.symm e)]; exact h2
      · rw [if_neg e]; exact h3
  · by_cases e : j = i
    · rw [if_pos e] at hp
      obtain ⟨q1, q2, q3⟩ := hS p hp
      exact ⟨q2, s.sB.free q1, q3⟩
    · rw [if_neg e] at hp
      exact s'.own j p hp
  · by_cases e : j = i
    · rw [if_pos e]; exact hnd
    · rw [if_neg e]; exact s.nd j
  · by_cases e : j = i
    · rw [if_pos e] at hp
      have e2 : l ≠ i := fun z => hjl (e.trans z.symm)
      rw [if_neg e2] at hq
      obtain ⟨_, _, o, z⟩ := s.own l p hq
      rw [(hS p hp).1] at z; cases z
    · rw [if_neg e] at hp
      by_cases e2 : l = i
      · rw [if_pos e2] at hq
        obtain ⟨_, _, o, z⟩ := s.own j p hp
        rw [(hS p hq).1] at z; cases z
      · rw [if_neg e2] at hq
        exact s.dis j l p hjl hp hq
def Wk : List Kd → List D → List Kd → List D → Prop
  | k :: κ, d :: en, k2 :: κ2, d2 :: en2 => (k2 = .N ∨ (k2 = k ∧ d2 = d)) ∧ Wk κ en κ2 en2
  | [], [], [], [] => True
  | _, _, _, _ => False
theorem Wk.len : ∀ {κ κ2 : List Kd} {en en2 : List D}, Wk κ en κ2 en2 → κ2.length = κ.length ∧ en2.length = en.length
  | k :: κ, k2 :: κ2, d :: en, d2 :: en2, h => by
    obtain ⟨a, b⟩ := Wk.len h.2
    exact ⟨by simp [a], by simp [b]⟩
  | [], [], [], [], _ => ⟨rfl, rfl⟩
  | [], [], [], _ :: _, h => by simp [Wk] at h
  | [], [], _ :: _, _, h => by simp [Wk] at h
  | [], _ :: _, _, _, h => by simp [Wk] at h
  | _ :: _, [], _, _, h => by simp [Wk] at h
  | _ :: _, _ :: _, [], _, h => by simp [Wk] at h
  | _ :: _, _ :: _, _ :: _, [], h => by simp [Wk] at h
theorem Wk.get : ∀ {κ κ2 : List Kd} {en en2 : List D} {i : Nat} {k : Kd}, Wk κ en κ2 en2 → κ2[i]? = some k → k ≠ .N → κ[i]? = some k ∧ ∀ d, en[i]? = some d → en2[i]? = some d
  | k :: κ, k2 :: κ2, d :: en, d2 :: en2, 0, k', h, e, n => by
    have e' : k2 = k' := by simpa using e
    subst e'
    rcases h.1 with z | ⟨z1, z2⟩
    · exact absurd z n
    · subst z1 z2
      exact ⟨by simp, fun d h => by simpa using h⟩
  | k :: κ, k2 :: κ2, d :: en, d2 :: en2, i + 1, k', h, e, n => by
    obtain ⟨q1, q2⟩ := Wk.get (i := i) h.2 (by simpa using e) n
    exact ⟨by simpa using q1, fun d h => by simpa using q2 d (by simpa using h)⟩
  | [], _ :: _, _, _, _, _, h, _, _ => by simp [Wk] at h
  | _ :: _, _ :: _, [], _, _, _, h, _, _ => by simp [Wk] at h
  | _ :: _, _ :: _, _ :: _, [], _, _, h, _, _ => by simp [Wk] at h
  | _, [], _, _, _, _, _, e, _ => by simp at e
theorem St.weak {κ2 : List Kd} {en2 : List D} (s : St c κ en σ H G Ss) (w : Wk κ en κ2 en2) : St c κ2 en2 σ H G Ss :=
  ⟨by rw [w.len.1, w.len.2]; exact s.ln, fun i k hk hn => by
    obtain ⟨q1, q2⟩ := w.get hk hn
    obtain ⟨v, d, h1, h2, h3⟩ := s.slot i k q1 hn
    exact ⟨v, d, h1, q2 d h2, h3⟩, s.own, s.nd, s.dis, s.sB, s.sG, s.sH, s.new⟩
theorem St.freeze {i : Nat} (s : St c κ en σ H G Ss) (hk : κ[i]? = some k) (ho : k.own = true) : ∃ G' Ss', St c (κ.set i .F) en σ H G' Ss' ∧ Adv c.B c.G0 G' H := by
  have hn : k ≠ .N := fun z => by subst z; cases ho
  have g : ∀ p ∈ Ss i, G p = none := fun p hp => (s.own i p hp).1
  have sub : Same G (frz G H (Ss i)) := frz_same g
  have st : St c (κ.set i .F) en σ H (frz G H (Ss i)) (fun j => if j = i then [] else Ss j) := by
    refine ⟨by simpa using s.ln, fun j k' hk' hn' => ?_, fun j p hp => ?_, fun j => ?_, fun j l p hjl hp hq => ?_, s.sB, s.sG.trans sub, frz_sub s.sH, fun b o q => ?_⟩
    · by_cases e : j = i
      · subst e
        have hκ : j < κ.length := (List.getElem?_eq_some_iff.mp hk).1
        rw [List.getElem?_set_self hκ] at hk'
        cases hk'
        obtain ⟨v, d, h1, h2, h3⟩ := s.slot j k hk hn
        refine ⟨v, d, h1, h2, ?_⟩
        rw [if_pos rfl]
        exact ⟨h3.frz ho (fun _ z => z) g, rfl⟩
      · rw [List.getElem?_set_ne (Ne.symm e)] at hk'
        obtain ⟨v, d, h1, h2, h3⟩ := s.slot j k' hk' hn'
        refine ⟨v, d, h1, h2, ?_⟩
        rw [if_neg e]
        exact h3.at_ (fun _ _ _ z => z) sub
    · by_cases e : j = i
      · rw [if_pos e] at hp; cases hp
      · rw [if_neg e] at hp
        obtain ⟨q1, q2, q3⟩ := s.own j p hp
        refine ⟨?_, q2, q3⟩
        rw [frz_out fun z => s.dis j i p e hp z]
        exact q1
    · by_cases e : j = i
      · rw [if_pos e]; exact .nil
      · rw [if_neg e]; exact s.nd j
    · by_cases e : j = i
      · rw [if_pos e] at hp; cases hp
      · rw [if_neg e] at hp
        by_cases e2 : l = i
        · rw [if_pos e2] at hq; cases hq
        · rw [if_neg e2] at hq
          exact s.dis j l p hjl hp hq
    · by_cases hb : b ∈ Ss i
      · exact .inr (s.own i b hb).2.1
      · rw [frz_out hb] at q; exact s.new b o q
  exact ⟨_, _, st, st.adv0⟩
end
end Lw
namespace Lw
open PySem PySem.Spec PyProof.Rows L2
abbrev cf (X : Cx) (B G0 : Hp) : Cf := ⟨X.K, X.mg, B, G0⟩
def ExV (c : Cf) (H G : Hp) (x : Ex) (cv : Value) (xd : Option Addr) : Prop :=
  (∃ C, c.mg x.cls = some (.ref C) ∧ cv = .ref C) ∧ ((x.ns = [] ∧ x.xs = [] ∧ xd = none) ∨ ∃ a fs, x.ns ≠ [] ∧ xd = some a ∧ G a = some (.xd fs) ∧ fs.map (·.1) = x.ns ∧ Reps c.K c.mg G x.xs (fs.map (·.2)))
def mR {α : Type} (W : WX) (c : Cf) (σ : L2.St) (H G : Hp) (Y : α → Hp → Hp → Prop) : R α → Prop
  | .ok a => ∀ H' G', Adv H G G' H' → Y a H' G'
  | .exc x => ∀ cv xd H' G', Adv H G G' H' → ExV c H' G' x cv xd → W cv xd σ H'
  | .bad => False
abbrev yV (c : Cf) (H : Hp) (k : RK) (Q : VK) : D → Hp → Hp → Prop := fun d H' G' => ∀ v S, RV c H H' G' k d v S → Q v H'
abbrev yT (Q : Bool → Hp → Prop) : Bool → Hp → Hp → Prop := fun b H' _ => Q b H'
inductive PK where
  | F | B | E
def PK.isF : PK → Bool
  | .F => true
  | _ => false
def ArgP (K : PySem.W.Frag) (mg : Str → Option Value) (H G : Hp) : PK → D → V → Prop
  | .F, d, v => Rep K mg G d v
  | .B, d, v => Rep K mg H d v
  | .E, d, v => ∃ p vs ds, v = .ref p ∧ Cont H p d ds vs ∧ Reps K mg G ds vs
def ArgsR (K : PySem.W.Frag) (mg : Str → Option Value) (H G : Hp) : List PK → List D → List V → Prop
  | b :: bs, d :: ds, v :: vs => ArgP K mg H G b d v ∧ ArgsR K mg H G bs ds vs
  | [], [], [] => True
  | _, _, _ => False
abbrev yA (c : Cf) (pk : List PK) (Q : List V → Hp → Prop) : List D → Hp → Hp → Prop := fun ds H' G' => ∀ vs, ArgsR c.K c.mg H' G' pk ds vs → Q vs H'
def tEV (W : WX) (c : Cf) (κ : List Kd) (en : List D) (k : RK) (r : R D) : TE := fun σ H Q => ∃ G Ss, St c κ en σ H G Ss ∧ mR W c σ H G (yV c H k Q) r
def tET (W : WX) (c : Cf) (κ : List Kd) (en : List D) (r : R Bool) : TT := fun σ H Q => ∃ G Ss, St c κ en σ H G Ss ∧ mR W c σ H G (yT Q) r
def tEA (W : WX) (c : Cf) (κ : List Kd) (en : List D) (pk : List PK) (r : R (List D)) : TA := fun σ H Q => ∃ G Ss, St c κ en σ H G Ss ∧ mR W c σ H G (yA c pk Q) r
structure EV (X : Cx) (W : WX) (B G0 : Hp) (κ : List Kd) (en : List D) (e : Expr) (k : RK) (r : R D) : Prop where
  pe : PE X e (tEV W (cf X B G0) κ en k r)
structure ET (X : Cx) (W : WX) (B G0 : Hp) (κ : List Kd) (en : List D) (e : Expr) (r : R Bool) : Prop where
  pt : PT X e (tET W (cf X B G0) κ en r)
structure EA (X : Cx) (W : WX) (B G0 : Hp) (κ : List Kd) (en : List D) (es : List Expr) (pk : List PK) (r : R (List D)) : Prop where
  pa : PA X es (tEA W (cf X B G0) κ en pk r)
theorem PE.wk {X : Cx} {e : Expr} {t t' : TE} (h : PE X e t) (f : ∀ σ H Q, t' σ H Q → t σ H Q) : PE X e t' := ⟨fun pins s σ H Q I q => h.run pins s σ H Q I (f σ H Q q)⟩
theorem PT.wk {X : Cx} {e : Expr} {t t' : TT} (h : PT X e t) (f : ∀ σ H Q, t' σ H Q → t σ H Q) : PT X e t' := ⟨fun pins s σ H Q I q => h.run pins s σ H Q I (f σ H Q q)⟩
theorem PW.wk {X : Cx} {e : Expr} {t t' : TT} (h : PW X e t) (f : ∀ σ H Q, t' σ H Q → t σ H Q) : PW X e t' := ⟨fun wh pins s σ H Q I q => h.run wh pins s σ H Q I (f σ H Q q)⟩
theorem PA.wk {X : Cx} {es : List Expr} {t t' : TA} (h : PA X es t) (f : ∀ σ H Q, t' σ H Q → t σ H Q) : PA X es t' := ⟨fun pos pins s σ H Q I q => h.run pos pins s σ H Q I (f σ H Q q)⟩
section
variable {c : Cf} {W : WX} {κ : List Kd} {en : List D} {σ : L2.St} {H H0 H' G G' : Hp} {Ss : Nat → List Addr} {k k' : RK} {d : D} {v : V} {S : List Addr} {Q : VK}
theorem RV.back {H1 : Hp} (h : RV c H1 H' G k d v S) (s : Same H H1) : RV c H H' G k d v S := by
  cases k with
  | F => exact h
  | B => exact h
  | J => exact h
  | P => exact h
  | E => exact h
  | O k => exact ⟨h.1, h.2.1, fun p hp => ⟨s.free (h.2.2 p hp).1, (h.2.2 p hp).2⟩⟩
theorem mR.bind {α β : Type} {r : R α} {f : α → R β} {Y : β → Hp → Hp → Prop} (m : mR W c σ H G Y (r.bind f)) : mR W c σ H G (fun a H1 G1 => Adv H G G1 H1 → mR W c σ H1 G1 Y (f a)) r := by
  cases r with
  | bad => exact m
  | exc x => exact m
  | ok a =>
    intro H1 G1 a1 _
    have m' : mR W c σ H G Y (f a) := m
    cases hf : f a with
    | bad => rw [hf] at m'; exact m'
    | exc x =>
      rw [hf] at m'
      exact fun cv xd H' G' b => m' cv xd H' G' (a1.trans b)
    | ok d2 =>
      rw [hf] at m'
      exact fun H' G' b => m' H' G' (a1.trans b)
theorem mR.imp {α : Type} {r : R α} {Y Z : α → Hp → Hp → Prop} (m : mR W c σ H G Y r) (h : ∀ a H' G', r = .ok a → Adv H G G' H' → Y a H' G' → Z a H' G') : mR W c σ H G Z r := by
  cases r with
  | bad => exact m
  | exc x => exact m
  | ok a => exact fun H' G' b => h a H' G' rfl b (m H' G' b)
theorem tEV_bind {r : R D} {f : D → R D} (h : tEV W c κ en k' (r.bind f) σ H Q) (T : VK)
    (g : ∀ d v H1 G G1 S Ss, r = .ok d → Adv H G G1 H1 → St c κ en σ H1 G1 Ss → RV c H H1 G1 k d v S → mR W c σ H1 G1 (yV c H1 k' Q) (f d) → T v H1) : tEV W c κ en k r σ H T := by
  obtain ⟨G, Ss, st, m⟩ := h
  exact ⟨G, Ss, st, m.bind.imp fun d H1 G1 e a q v S rv => g d v H1 G G1 S Ss e a (st.adv a) rv ((q a).imp fun d H' G' _ b y v S z => y v S (z.back a.1))⟩
theorem tEVb {r : R D} {f : D → R D} {G : Hp} {Ss : Nat → List Addr} (st : St c κ en σ H G Ss) (m : mR W c σ H G (yV c H k' Q) (r.bind f)) (T : VK)
    (g : ∀ d v H1 G1 S, r = .ok d → Adv H G G1 H1 → St c κ en σ H1 G1 Ss → RV c H H1 G1 k d v S → mR W c σ H1 G1 (yV c H1 k' Q) (f d) → T v H1) : tEV W c κ en k r σ H T :=
  ⟨G, Ss, st, m.bind.imp fun d H1 G1 e a q v S rv => g d v H1 G1 S e a (st.adv a) rv ((q a).imp fun d H' G' _ b y v S z => y v S (z.back a.1))⟩
theorem tEXb {α : Type} {r : R D} {f : D → R α} {Y : α → Hp → Hp → Prop} {G : Hp} {Ss : Nat → List Addr} (st : St c κ en σ H G Ss) (m : mR W c σ H G Y (r.bind f)) (T : VK)
    (g : ∀ d v H1 G1 S, r = .ok d → Adv H G G1 H1 → St c κ en σ H1 G1 Ss → RV c H H1 G1 k d v S → mR W c σ H1 G1 Y (f d) → T v H1) : tEV W c κ en k r σ H T :=
  ⟨G, Ss, st, m.bind.imp fun d H1 G1 e a q v S rv => g d v H1 G1 S e a (st.adv a) rv (q a)⟩
theorem tEX_bind {α : Type} {r : R D} {f : D → R α} {Y : α → Hp → Hp → Prop} (h : ∃ G Ss, St c κ en σ H G Ss ∧ mR W c σ H G Y (r.bind f)) (T : VK)
    (g : ∀ d v H1 G G1 S Ss, r = .ok d → Adv H G G1 H1 → St c κ en σ H1 G1 Ss → RV c H H1 G1 k d v S → mR W c σ H1 G1 Y (f d) → T v H1) : tEV W c κ en k r σ H T := by
  obtain ⟨G, Ss, st, m⟩ := h
  exact ⟨G, Ss, st, m.bind.imp fun d H1 G1 e a q v S rv => g d v H1 G G1 S Ss e a (st.adv a) rv (q a)⟩
theorem tTX_bind {α : Type} {r : R Bool} {f : Bool → R α} {Y : α → Hp → Hp → Prop} (h : ∃ G Ss, St c κ en σ H G Ss ∧ mR W c σ H G Y (r.bind f)) (T : Bool → Hp → Prop)
    (g : ∀ b H1 G1 Ss, St c κ en σ H1 G1 Ss → mR W c σ H1 G1 Y (f b) → T b H1) : tET W c κ en r σ H T := by
  obtain ⟨G, Ss, st, m⟩ := h
  exact ⟨G, Ss, st, m.bind.imp fun b H1 G1 e a q => g b H1 G1 Ss (st.adv a) (q a)⟩
def D.sc : D → Bool
  | .non | .bl _ | .int _ | .str _ => true
  | _ => false
theorem Rep.sc {K : PySem.W.Frag} {mg : Str → Option Value} (h : Rep K mg G d v) (s : d.sc = true) (G' : Hp) : Rep K mg G' d v := by
  cases d <;> first | exact h | cases s
theorem tEV.ret (h : tEV W c κ en .F (.ok d) σ H Q) (r : ∀ G, Rep c.K c.mg G d v) : Q v H := by
  obtain ⟨G, Ss, st, m⟩ := h
  exact m H G (.refl st.sH) v [] ⟨r G, rfl⟩
theorem tET.ret {b : Bool} {Q : Bool → Hp → Prop} (h : tET W c κ en (.ok b) σ H Q) : Q b H := by
  obtain ⟨G, Ss, st, m⟩ := h
  exact m H G (.refl st.sH)
theorem tEV.bad (h : tEV W c κ en k .bad σ H Q) {p : Prop} : p := by
  obtain ⟨G, Ss, st, m⟩ := h
  exact m.elim
theorem tET.bad {Q : Bool → Hp → Prop} (h : tET W c κ en .bad σ H Q) {p : Prop} : p := by
  obtain ⟨G, Ss, st, m⟩ := h
  exact m.elim
theorem St.rd (st : St c κ en σ H G Ss) (rv : RV c H0 H G k d v S) : Rep c.K c.mg H d v := rv.rep st.sB st.sH
end
section
variable {X : Cx} {W : WX} {B G0 : Hp} {κ : List Kd} {en : List D} {e a b : Expr} {k ka kb : RK} {r ra rb : R D} {d : D} {pos : Pos}
theorem ev_varF {i : Nat} (p : PE X e (tVar i)) (hk : κ[i]? = some .F) (hd : en[i]? = some d) : EV X W B G0 κ en e .F (.ok d) :=
  ⟨PE.wk p fun σ H Q ⟨G, Ss, st, m⟩ => by
    obtain ⟨v, d', h1, h2, h3⟩ := st.slot i .F hk (by intro z; cases z)
    rw [hd] at h2; cases h2
    exact ⟨v, h1, m H G (.refl st.sH) v [] ⟨h3.1, rfl⟩⟩⟩
theorem ev_varB {i : Nat} (p : PE X e (tVar i)) (hk : κ[i]? = some .B) (hd : en[i]? = some d) : EV X W B G0 κ en e .B (.ok d) :=
  ⟨PE.wk p fun σ H Q ⟨G, Ss, st, m⟩ => by
    obtain ⟨v, d', h1, h2, h3⟩ := st.slot i .B hk (by intro z; cases z)
    rw [hd] at h2; cases h2
    exact ⟨v, h1, m H G (.refl st.sH) v [] ⟨h3.1, rfl⟩⟩⟩
theorem ev_varP {i : Nat} {q : Kd} (p : PE X e (tVar i)) (hk : κ[i]? = some q) (hd : en[i]? = some d) (hq : q ≠ .N := by intro z; cases z) : EV X W B G0 κ en e .P (.ok d) :=
  ⟨PE.wk p fun σ H Q ⟨G, Ss, st, m⟩ => by
    obtain ⟨v, d', h1, h2, h3⟩ := st.slot i q hk hq
    rw [hd] at h2; cases h2
    exact ⟨v, h1, m H G (.refl st.sH) v [] ⟨h3.rep st.sB st.sH, rfl⟩⟩⟩
theorem ev_varE {i : Nat} (p : PE X e (tVar i)) (hk : κ[i]? = some (.L .F)) (hd : en[i]? = some d) : EV X W B G0 κ en e .E (.ok d) :=
  ⟨PE.wk p fun σ H Q ⟨G, Ss, st, m⟩ => by
    obtain ⟨v, d', h1, h2, p, vs, ds, S', e1, e2, hc, ha⟩ := st.slot i (.L .F) hk (by intro z; cases z)
    rw [hd] at h2; cases h2
    exact ⟨v, h1, m H G (.refl st.sH) v [] ⟨⟨p, vs, ds, e1, hc, ha.reps fun _ _ _ z => z.1⟩, rfl⟩⟩⟩
theorem ev_int {i : Int} {j : Nat} : EV X W B G0 κ en (.Constant (.int i) j pos) .F (.ok (.int i)) := ⟨PE.wk pe_int fun σ H Q h => h.ret fun _ => rfl⟩
theorem ev_bl {i : Bool} {j : Nat} : EV X W B G0 κ en (.Constant (.bool i) j pos) .F (.ok (.bl i)) := ⟨PE.wk pe_bl fun σ H Q h => h.ret fun _ => rfl⟩
theorem ev_non {j : Nat} : EV X W B G0 κ en (.Constant .none j pos) .F (.ok .non) := ⟨PE.wk pe_non fun σ H Q h => h.ret fun _ => rfl⟩
theorem ev_str {x : Str} {j : Nat} (hx : sOk x = true := by rfl) : EV X W B G0 κ en (.Constant (.str x) j pos) .F (.ok (.str x)) := ⟨PE.wk pe_str fun σ H Q h => h.ret fun _ => ⟨rfl, hx⟩⟩
theorem ev_globI {x : Str} {i : Int} (hg : Gl X x) (hm : ∃ t, X.mg x = some (.int i t)) (hd : (x == ("__debug__" : Str)) = false := by decide) : EV X W B G0 κ en (.Name x pos) .F (.ok (.int i)) := by
  obtain ⟨t, ht⟩ := hm
  exact ⟨PE.wk (pe_glob (v := .int i) hg ht ⟨t, rfl⟩ hd) fun σ H Q h => h.ret fun _ => rfl⟩
theorem EV.frz {q : Kd} (h : EV X W B G0 κ en e (.O q) r) (hq : q.own = true) : EV X W B G0 κ en e .F r :=
  ⟨PE.wk h.pe fun σ H Q ⟨G, Ss, st, m⟩ => ⟨G, Ss, st, by
    cases r with
    | bad => exact m
    | exc x => exact m
    | ok d =>
      intro H' G' a v S ⟨q1, q2, q3⟩
      have g : ∀ p ∈ S, G' p = none := fun p hp => (q3 p hp).2.1
      exact m H' (Lw.frz G' H' S) (a.frz fun p hp => ⟨(q3 p hp).1, g p hp⟩) v [] ⟨q1.frz hq (fun _ z => z) g, rfl⟩⟩⟩
def scal (d : D) : R D := if d.sc then .ok d else .bad
theorem EV.sc (h : EV X W B G0 κ en e k r) : EV X W B G0 κ en e .F (r.bind scal) :=
  ⟨PE.wk h.pe fun σ H Q h => tEV_bind (k := k) h Q fun d v H1 G G1 S Ss e a st rv m => by
    have h1 : tEV W (cf X B G0) κ en .F (scal d) σ H1 Q := ⟨G1, Ss, st, m⟩
    unfold scal at h1
    cases hs : d.sc with
    | false => rw [hs] at h1; exact h1.bad
    | true =>
      rw [hs, if_pos rfl] at h1
      exact h1.ret fun G => (st.rd rv).sc hs G⟩
def OpD (K : PySem.W.Frag) (mg : Str → Option Value) (rr : R2) (k : RK) (f : D → D → R D) : Prop :=
  ∀ (W : WX) (B G0 : Hp) (κ : List Kd) (en : List D) (σ : L2.St) (H : Hp) (Q : VK) (x y : D) (v w : V), Rep K mg H x v → Rep K mg H y w → tEV W ⟨K, mg, B, G0⟩ κ en k (f x y) σ H Q → rr v w H Q
def UnD (K : PySem.W.Frag) (mg : Str → Option Value) (rr : V → Hp → VK → Prop) (k : RK) (f : D → R D) : Prop :=
  ∀ (W : WX) (B G0 : Hp) (κ : List Kd) (en : List D) (σ : L2.St) (H : Hp) (Q : VK) (x : D) (v : V), Rep K mg H x v → tEV W ⟨K, mg, B, G0⟩ κ en k (f x) σ H Q → rr v H Q
theorem tOp_ev {rr : R2} {f : D → D → R D} {σ : L2.St} {H : Hp} {Q : VK} (ho : OpD X.K X.mg rr k f) (h : tEV W (cf X B G0) κ en k (ra.bind fun x => rb.bind fun y => f x y) σ H Q) : tOp rr (tEV W (cf X B G0) κ en ka ra) (tEV W (cf X B G0) κ en kb rb) σ H Q :=
  tEV_bind h _ fun d v H1 G G1 S Ss _ a st rv h1 => tEV_bind ⟨G1, Ss, st, h1⟩ _ fun d2 v2 H2 G' G2 S2 Ss2 _ a2 st2 rv2 h2 => ho W B G0 κ en σ H2 Q d d2 v v2 ((st.rd rv).mono a2.1) (st2.rd rv2) ⟨G2, Ss2, st2, h2⟩
theorem ev_bin {op : Operator} {rr : R2} {f : D → D → R D} (ho : OpR X (binaryOp op) rr) (hf : OpD X.K X.mg rr k f) (ha : EV X W B G0 κ en a ka ra) (hb : EV X W B G0 κ en b kb rb) :
    EV X W B G0 κ en (.BinOp a op b pos) k (R.bin2 ra rb f) := ⟨PE.wk (pe_op ho ha.pe hb.pe) fun σ H Q h => tOp_ev hf h⟩
theorem ev_un {op : UnaryOp} {rr : V → Hp → VK → Prop} {f : D → R D} (ho : UnR X (unaryOp op) rr) (hf : UnD X.K X.mg rr k f) (ha : EV X W B G0 κ en a ka ra) : EV X W B G0 κ en (.UnaryOp op a pos) k (ra.bind f) :=
  ⟨PE.wk (pe_un ho ha.pe) fun σ H Q h => tEV_bind h _ fun d v H1 G G1 S Ss _ a st rv h1 => hf W B G0 κ en σ H1 Q d v (st.rd rv) ⟨G1, Ss, st, h1⟩⟩
theorem ev_cmp {op : CmpOp} {rr : R2} {f : D → D → R D} (ho : OpR X (compareOp op) rr) (hf : OpD X.K X.mg rr k f) (ha : EV X W B G0 κ en a ka ra) (hb : EV X W B G0 κ en b kb rb) (hm : behindInMarks op b = false) :
    EV X W B G0 κ en (.Compare a [op] [b] pos) k (R.bin2 ra rb f) := ⟨PE.wk (pe_cmpR ho ha.pe hb.pe hm) fun σ H Q h => tOp_ev hf h⟩
end
end Lw
namespace Lw
open PySem PySem.Spec PyProof.Rows L2
def mulOk (a b : Int) : Bool := decide (a.natAbs.log2 + b.natAbs.log2 < 134000000)
def pAdd : D → D → R D
  | .int a, .int b => .ok (.int (a + b))
  | .str a, .str b => if a.length + b.length ≤ 16777216 then .ok (.str (a ++ b)) else .bad
  | _, _ => .bad
def pSub : D → D → R D
  | .int a, .int b => .ok (.int (a - b))
  | _, _ => .bad
def strRep (s : Str) (n : Int) : Str := ⟨(List.replicate n.toNat s.cps.toList).flatten.toArray⟩
def repOk (s : Str) (n : Int) : Bool := decide (-(2 ^ 63) ≤ n ∧ n < 2 ^ 63 ∧ s.length * n.toNat ≤ 16777216)
def pMul : D → D → R D
  | .int a, .int b => if mulOk a b = true then .ok (.int (a * b)) else .bad
  | .str s, .int n => if repOk s n = true then .ok (.str (strRep s n)) else .bad
  | _, _ => .bad
def pMod : D → D → R D
  | .int a, .int b => if 0 < b then .ok (.int (a % b)) else .bad
  | _, _ => .bad
def pDiv : D → D → R D
  | .int a, .int b => if 0 < b ∧ b.natAbs.log2 < 9000 then .ok (.int (a / b)) else .bad
  | _, _ => .bad
def pPow : D → D → R D
  | .int a, .int b => if 0 ≤ b ∧ b ≤ 1000000 ∧ a.natAbs < 2 ^ 64 then .ok (.int (a ^ b.toNat)) else .bad
  | _, _ => .bad
def pNeg : D → R D
  | .int a => .ok (.int (-a))
  | _ => .bad
def pLt : D → D → R D
  | .int a, .int b => .ok (.bl (decide (a < b)))
  | _, _ => .bad
def pLe : D → D → R D
  | .int a, .int b => .ok (.bl (decide (a ≤ b)))
  | _, _ => .bad
def pGt : D → D → R D
  | .int a, .int b => .ok (.bl (decide (b < a)))
  | _, _ => .bad
def pGe : D → D → R D
  | .int a, .int b => .ok (.bl (decide (b ≤ a)))
  | _, _ => .bad
mutual
def py : D → PyData
  | .non => .none
  | .bl b => .bool b
  | .int i => .int i
  | .str s => .str s
  | .lst xs => .list (pys xs)
  | .tup xs => .tuple (pys xs)
  | .scr _ => .dict []
  | .dct _ _ => .dict []
  | .dcT _ _ => .dict []
  | .obj _ _ _ => .dict []
  | .exc _ _ _ => .dict []
def pys : List D → List PyData
  | [] => []
  | d :: ds => py d :: pys ds
end
mutual
def pl : D → Nat → Bool
  | .lst xs, n => match n with
    | 0 => false
    | m + 1 => pls xs m
  | .tup xs, n => match n with
    | 0 => false
    | m + 1 => pls xs m
  | .scr _, _ => false
  | .dct _ _, _ => false
  | .dcT _ _, _ => false
  | .obj _ _ _, _ => false
  | .exc _ _ _, _ => false
  | .non, _ => true
  | .bl _, _ => true
  | .int _, _ => true
  | .str _, _ => true
def pls : List D → Nat → Bool
  | [], _ => true
  | d :: ds, n => pl d n && pls ds n
end
mutual
def deq : D → D → Bool
  | .non, e => match e with
    | .non => true
    | _ => false
  | .bl a, e => match e with
    | .bl b => a == b
    | .int j => (if a then 1 else 0) == j
    | _ => false
  | .int i, e => match e with
    | .bl b => i == (if b then 1 else 0)
    | .int j => i == j
    | _ => false
  | .str x, e => match e with
    | .str y => x == y
    | _ => false
  | .lst xs, e => match e with
    | .lst ys => deqs xs ys
    | _ => false
  | .tup xs, e => match e with
    | .tup ys => deqs xs ys
    | _ => false
  | .scr _, _ => false
  | .dct _ _, _ => false
  | .dcT _ _, _ => false
  | .obj _ _ _, _ => false
  | .exc _ _ _, _ => false
def deqs : List D → List D → Bool
  | [], es => match es with
    | [] => true
    | _ :: _ => false
  | x :: xs, es => match es with
    | [] => false
    | y :: ys => deq x y && deqs xs ys
end
def pEq (x y : D) : R D := if pl x 20 && pl y 20 then .ok (.bl (deq x y)) else .bad
def pNe (x y : D) : R D := if pl x 20 && pl y 20 then .ok (.bl (!deq x y)) else .bad
mutual
theorem deq_py : ∀ x y : D, PyData.eqv (py x) (py y) = deq x y
  | .non, e => by cases e <;> simp [py, deq, PyData.eqv]
  | .bl a, e => by cases e <;> simp [py, deq, PyData.eqv]
  | .int i, e => by cases e <;> simp [py, deq, PyData.eqv]
  | .str x, e => by cases e <;> simp [py, deq, PyData.eqv]
  | .lst xs, e => by
    cases e with
    | lst ys => simp [py, deq, PyData.eqv, deqs_py xs ys]
    | _ => simp [py, deq, PyData.eqv]
  | .tup xs, e => by
    cases e with
    | tup ys => simp [py, deq, PyData.eqv, deqs_py xs ys]
    | _ => simp [py, deq, PyData.eqv]
  | .scr _, e => by cases e <;> simp [py, deq, PyData.eqv]
  | .dct _ _, e => by cases e <;> simp [py, deq, PyData.eqv]
  | .dcT _ _, e => by cases e <;> simp [py, deq, PyData.eqv]
  | .obj _ _ _, e => by cases e <;> simp [py, deq, PyData.eqv]
  | .exc _ _ _, e => by cases e <;> simp [py, deq, PyData.eqv]
theorem deqs_py : ∀ xs ys : List D, PyData.eqvAll (pys xs) (pys ys) = deqs xs ys
  | [], [] => by simp [pys, deqs, PyData.eqvAll]
  | [], _ :: _ => by simp [pys, deqs, PyData.eqvAll]
  | _ :: _, [] => by simp [pys, deqs, PyData.eqvAll]
  | x :: xs, y :: ys => by simp [pys, deqs, PyData.eqvAll, deq_py x y, deqs_py xs ys]
end
mutual
theorem depth_pl : ∀ (x : D) (n : Nat), pl x n = true → (py x).depth ≤ n
  | .non, n, _ => by simp [py, PyData.depth]
  | .bl a, n, _ => by simp [py, PyData.depth]
  | .int i, n, _ => by simp [py, PyData.depth]
  | .str x, n, _ => by simp [py, PyData.depth]
  | .lst xs, n, h => by
    cases n with
    | zero => simp [pl] at h
    | succ m =>
      have q := depth_pls xs m (by simpa [pl] using h)
      simp [py, PyData.depth]
      exact q
  | .tup xs, n, h => by
    cases n with
    | zero => simp [pl] at h
    | succ m =>
      have q := depth_pls xs m (by simpa [pl] using h)
      simp [py, PyData.depth]
      exact q
  | .scr _, n, h => by simp [pl] at h
  | .dct _ _, n, h => by simp [pl] at h
  | .dcT _ _, n, h => by simp [pl] at h
  | .obj _ _ _, n, h => by simp [pl] at h
  | .exc _ _ _, n, h => by simp [pl] at h
theorem depth_pls : ∀ (xs : List D) (n : Nat), pls xs n = true → PyData.depthAll (pys xs) ≤ n
  | [], n, _ => by simp [pys, PyData.depthAll]
  | x :: xs, n, h => by
    obtain ⟨h1, h2⟩ := Bool.and_eq_true_iff.mp (show (pl x n && pls xs n) = true by simpa [pls] using h)
    have a := depth_pl x n h1
    have b := depth_pls xs n h2
    simp only [pys, PyData.depthAll]
    omega
end
section
variable {K : PySem.W.Frag} {mg : Str → Option Value} {H : Hp}
mutual
theorem Rep.dp : ∀ {x : D} {v : V} {n : Nat}, Rep K mg H x v → pl x n = true → Dp K H v (py x)
  | .non, _, _, h, _ => by cases (show _ = V.non from h); exact .non
  | .bl b, _, _, h, _ => by cases (show _ = V.bl b from h); exact .bl b
  | .int i, _, _, h, _ => by cases (show _ = V.int i from h); exact .int i
  | .str s, _, _, h, _ => by
    obtain ⟨h, _⟩ := h
    cases (show _ = V.str s from h); exact .str s
  | .lst xs, _, n, ⟨a, vs, e, q, r⟩, h => by
    subst e
    cases n with
    | zero => simp [pl] at h
    | succ m => exact .lst (SqL.of q) (Reps.dp (n := m) r (by simpa [pl] using h))
  | .tup xs, _, n, ⟨a, vs, e, q, r⟩, h => by
    subst e
    cases n with
    | zero => simp [pl] at h
    | succ m => exact .tup q (Reps.dp (n := m) r (by simpa [pl] using h))
  | .scr _, _, _, _, h => by simp [pl] at h
  | .dct _ _, _, _, _, h => by simp [pl] at h
  | .dcT _ _, _, _, _, h => by simp [pl] at h
  | .obj _ _ _, _, _, _, h => by simp [pl] at h
  | .exc _ _ _, _, _, _, h => by simp [pl] at h
theorem Reps.dp : ∀ {xs : List D} {vs : List V} {n : Nat}, Reps K mg H xs vs → pls xs n = true → DpAll K H vs (pys xs)
  | [], _, _, h, _ => by
    have e : _ = [] := h
    subst e
    exact .nil
  | x :: xs, _, n, ⟨v, r, e, q, rs⟩, h => by
    subst e
    obtain ⟨h1, h2⟩ := Bool.and_eq_true_iff.mp (show (pl x n && pls xs n) = true by simpa [pls] using h)
    exact .cons (Rep.dp q h1) (Reps.dp rs h2)
end
mutual
theorem Rep.lay : ∀ {x : D} {v : V} {n : Nat}, Rep K mg H x v → pl x n = true → (py x).canLay0 = true
  | .non, _, _, h, _ => by simp [py, PyData.canLay0]
  | .bl b, _, _, h, _ => by simp [py, PyData.canLay0]
  | .int i, _, _, h, _ => by simp [py, PyData.canLay0]
  | .str s, _, _, h, _ => by
    simp only [py, PyData.canLay0]
    exact (Bool.and_eq_true_iff.mp h.2).1
  | .lst xs, _, n, ⟨a, vs, e, q, r⟩, h => by
    cases n with
    | zero => simp [pl] at h
    | succ m =>
      simp only [py, PyData.canLay0]
      exact Reps.lay (n := m) r (by simpa [pl] using h)
  | .tup xs, _, n, ⟨a, vs, e, q, r⟩, h => by
    cases n with
    | zero => simp [pl] at h
    | succ m =>
      simp only [py, PyData.canLay0]
      exact Reps.lay (n := m) r (by simpa [pl] using h)
  | .scr _, _, _, _, h => by simp [pl] at h
  | .dct _ _, _, _, _, h => by simp [pl] at h
  | .dcT _ _, _, _, _, h => by simp [pl] at h
  | .obj _ _ _, _, _, _, h => by simp [pl] at h
  | .exc _ _ _, _, _, _, h => by simp [pl] at h
theorem Reps.lay : ∀ {xs : List D} {vs : List V} {n : Nat}, Reps K mg H xs vs → pls xs n = true → PyData.canLayAll0 (pys xs) = true
  | [], _, _, h, _ => by simp [pys, PyData.canLayAll0]
  | x :: xs, _, n, ⟨v, r, e, q, rs⟩, h => by
    obtain ⟨h1, h2⟩ := Bool.and_eq_true_iff.mp (show (pl x n && pls xs n) = true by simpa [pls] using h)
    simp only [pys, PyData.canLayAll0, Rep.lay q h1, Reps.lay rs h2, Bool.and_self]
end
theorem Rep.shaped {x : D} {v : V} (r : Rep K mg H x v) (h : pl x 20 = true) : SeqAt.shaped (py x) = true := by
  unfold SeqAt.shaped
  rw [r.lay h, Bool.true_and]
  exact decide_eq_true (Nat.le_trans (depth_pl x 20 h) (by decide))
theorem sOk_len {a : Str} (h : sOk a = true) : a.length ≤ 16777216 := of_decide_eq_true (Bool.and_eq_true_iff.mp h).2
theorem sOk_cps {a : Str} (h : sOk a = true) : PyData.strOk a = true := (Bool.and_eq_true_iff.mp h).1
theorem sOk_mk {a : Str} (h : PyData.strOk a = true) (h2 : a.length ≤ 16777216) : sOk a = true := by
  unfold sOk
  rw [h, decide_eq_true h2] <;> rfl
theorem sOk_append {a b : Str} (ha : sOk a = true) (hb : sOk b = true) (h : a.length + b.length ≤ 16777216) : sOk (a ++ b) = true := by
  refine sOk_mk ?_ (by rw [Str.length_append]; exact h)
  have h1 := sOk_cps ha
  have h2 := sOk_cps hb
  unfold PyData.strOk at *
  rw [Str.cps_append, Array.all_append, h1, h2] <;> rfl
theorem tEV.int {W : WX} {B G0 : Hp} {κ : List Kd} {en : List D} {σ : L2.St} {Q : VK} {i : Int} (h : tEV W ⟨K, mg, B, G0⟩ κ en .F (.ok (.int i)) σ H Q) : Q (.int i) H := h.ret fun _ => rfl
theorem tEV.bl {W : WX} {B G0 : Hp} {κ : List Kd} {en : List D} {σ : L2.St} {Q : VK} {i : Bool} (h : tEV W ⟨K, mg, B, G0⟩ κ en .F (.ok (.bl i)) σ H Q) : Q (.bl i) H := h.ret fun _ => rfl
theorem od_int {f : D → D → R D} {C : Int → Int → Prop} {g : Int → Int → V} (hi : ∀ a b, f (.int a) (.int b) = .bad ∨ (C a b ∧ ∃ d, f (.int a) (.int b) = .ok d ∧ ∀ G, Rep K mg G d (g a b)))
    (hn : ∀ x y, (∃ a b, x = .int a ∧ y = .int b) ∨ f x y = .bad) : OpD K mg (rI C g) .F f := by
  intro W B G0 κ en σ H Q x y v w hx hy h
  rcases hn x y with ⟨a, b, e1, e2⟩ | e
  · subst e1 e2
    rcases hi a b with e | ⟨hc, d, e, r⟩
    · rw [e] at h; exact h.bad
    · rw [e] at h
      exact ⟨a, b, hx, hy, hc, h.ret r⟩
  · rw [e] at h; exact h.bad
theorem od_int0 {f : D → D → R D} {g : Int → Int → V} (hi : ∀ a b, ∃ d, f (.int a) (.int b) = .ok d ∧ ∀ G, Rep K mg G d (g a b))
    (hn : ∀ x y, (∃ a b, x = .int a ∧ y = .int b) ∨ f x y = .bad) : OpD K mg (rI0 g) .F f := by
  intro W B G0 κ en σ H Q x y v w hx hy h
  rcases hn x y with ⟨a, b, e1, e2⟩ | e
  · subst e1 e2
    obtain ⟨d, e, r⟩ := hi a b
    rw [e] at h
    exact ⟨a, b, hx, hy, h.ret r⟩
  · rw [e] at h; exact h.bad
theorem od_sub : OpD K mg (rI0 fun i j => .int (i - j)) .F pSub := od_int0 (fun a b => ⟨_, rfl, fun _ => rfl⟩) fun x y => by
  cases x <;> cases y <;> first | exact .inl ⟨_, _, rfl, rfl⟩ | exact .inr rfl
theorem od_lt : OpD K mg (rI0 fun i j => .bl (decide (i < j))) .F pLt := od_int0 (fun a b => ⟨_, rfl, fun _ => rfl⟩) fun x y => by
  cases x <;> cases y <;> first | exact .inl ⟨_, _, rfl, rfl⟩ | exact .inr rfl
theorem od_gt : OpD K mg (rI0 fun i j => .bl (decide (j < i))) .F pGt := od_int0 (fun a b => ⟨_, rfl, fun _ => rfl⟩) fun x y => by
  cases x <;> cases y <;> first | exact .inl ⟨_, _, rfl, rfl⟩ | exact .inr rfl
def CMulD (i j : Int) : Prop := mulOk i j = true
theorem CMulD.ok {i j : Int} (h : CMulD i j) : IntMulOk i j := by
  have b : ∀ x : Int, Builtin.Int.intBits x ≤ x.natAbs.log2 + 1 := fun x => by
    unfold Builtin.Int.intBits
    split <;> omega
  have b1 := b i
  have b2 := b j
  have q : i.natAbs.log2 + j.natAbs.log2 < 134000000 := of_decide_eq_true h
  have e : bitsLine = 134217728 := by decide
  intro z
  have z2 := (Bool.and_eq_true_iff.mp z).2
  unfold Builtin.Int.intTooBig at z2
  have z3 := of_decide_eq_true z2
  rw [e] at z3
  omega
theorem foldl_rep (a : Array Nat) : ∀ (n : Nat) (acc : Array Nat), (List.replicate n a).foldl (· ++ ·) acc = acc ++ (List.replicate n a.toList).flatten.toArray
  | 0, acc => by simp
  | n + 1, acc => by
    rw [List.replicate_succ, List.foldl_cons, foldl_rep a n, List.replicate_succ, List.flatten_cons]
    apply Array.toList_inj.mp
    simp
theorem strRep_eq {s : Str} {n : Int} : Txt.mul s n = strRep s n := by
  unfold Txt.mul strRep
  by_cases h : n < 1
  · rw [if_pos h, show n.toNat = 0 by omega]
    rfl
  · rw [if_neg h]
    split
    · rename_i h2
      rcases Bool.or_eq_true_iff.mp h2 with h3 | h3
      · have e : n = 1 := by simpa using h3
        subst e
        show s = ⟨(List.replicate 1 s.cps.toList).flatten.toArray⟩
        simp
      · have e : s.cps.size = 0 := by simpa [Str.length] using h3
        have e2 : s.cps = #[] := Array.size_eq_zero_iff.mp e
        have e3 : s = ⟨#[]⟩ := by
          obtain ⟨c⟩ := s
          exact congrArg Str.mk e2
        subst e3
        congr 1
        have : ∀ k : Nat, (List.replicate k ([] : List Nat)).flatten = [] := fun k => by simp
        show #[] = ((List.replicate n.toNat ([] : List Nat)).flatten).toArray
        rw [this]
    · rw [foldl_rep]
      simp
theorem strRep_len {s : Str} {n : Int} : (strRep s n).length = s.length * n.toNat := by
  unfold strRep Str.length
  simp [Nat.mul_comm]
theorem sOk_rep {s : Str} {n : Int} (h : sOk s = true) (hr : repOk s n = true) : sOk (strRep s n) = true := by
  refine sOk_mk ?_ (by rw [strRep_len]; exact (of_decide_eq_true hr).2.2)
  have h1 := sOk_cps h
  unfold PyData.strOk at *
  unfold strRep
  rw [Array.all_eq_true_iff_forall_mem] at *
  intro c hc
  have hc2 : c ∈ (List.replicate n.toNat s.cps.toList).flatten := List.mem_toArray.mp hc
  obtain ⟨l, h2, h3⟩ := List.mem_flatten.mp hc2
  rw [List.eq_of_mem_replicate h2] at h3
  exact h1 c (by simpa using h3)
theorem mulOk_rep {s : Str} {n : Int} (hr : repOk s n = true) : MulOk s n := by
  obtain ⟨h1, h2, h3⟩ := of_decide_eq_true hr
  refine ⟨?_, fun g1 g2 => ?_, fun g1 g2 => ?_⟩
  · rw [decide_eq_false (by omega), decide_eq_false (by omega)]
    rfl
  · have h4 : ((s.length * n.toNat : Nat) : Int) ≤ 16777216 := by omega
    have h5 : (s.length : Int) * n ≤ 2 ^ 63 - 1 := by
      have e : (n.toNat : Int) = n := by omega
      rw [Int.natCast_mul, e] at h4
      omega
    have h6 := Int.le_ediv_of_mul_le (show 0 < n by omega) h5
    omega
  · unfold Builtin.Str.tooLong
    exact decide_eq_false (by rw [sizeLine_eq]; omega)
abbrev rMulD : R2 := fun x y H Q => rI CMulD (fun i j => .int (i * j)) x y H Q ∨ (∃ i j, x = .str i ∧ y = .int j ∧ repOk i j = true ∧ Q (.str (strRep i j)) H)
theorem op_mul_str {X : Cx} : OpR X (binaryOp .Mult) (fun x y H Q => ∃ i j, x = .str i ∧ y = .int j ∧ repOk i j = true ∧ Q (.str (strRep i j)) H) := by
  intro pins s σ H x y v u Q I rx ry h
  obtain ⟨i, j, rfl, rfl, hz, q⟩ := h
  obtain ⟨t, rfl⟩ := rx
  obtain ⟨t', rfl⟩ := ry
  exact SB.mul (mulOk_rep hz) (fun t' tk => ⟨.str (strRep i j), H, I.tok _, ⟨_, by rw [strRep_eq]⟩, q⟩)
theorem op_mulI {X : Cx} : OpR X (binaryOp .Mult) (rI CMulD fun i j => .int (i * j)) := opI fun _ _ _ _ _ _ _ hc q => mul_int q hc.ok
theorem op_mulD {X : Cx} : OpR X (binaryOp .Mult) rMulD := op_mulI.or op_mul_str
theorem od_mul : OpD K mg rMulD .F pMul := by
  intro W B G0 κ en σ H Q x y v w hx hy h
  cases x <;> cases y <;> first
    | exact tEV.bad (k := .F) h
    | (rename_i a b
       by_cases hl : mulOk a b = true
       · have h' : tEV W ⟨K, mg, B, G0⟩ κ en .F (if mulOk a b = true then .ok (.int (a * b)) else .bad) σ H Q := h
         rw [if_pos hl] at h'
         exact .inl ⟨_, _, hx, hy, hl, h'.int⟩
       · have h' : tEV W ⟨K, mg, B, G0⟩ κ en .F (if mulOk a b = true then .ok (.int (a * b)) else .bad) σ H Q := h
         rw [if_neg hl] at h'
         exact h'.bad)
    | (rename_i a b
       by_cases hl : repOk a b = true
       · have h' : tEV W ⟨K, mg, B, G0⟩ κ en .F (if repOk a b = true then .ok (.str (strRep a b)) else .bad) σ H Q := h
         rw [if_pos hl] at h'
         exact .inr ⟨a, b, hx.1, hy, hl, h'.ret fun _ => ⟨rfl, sOk_rep hx.2 hl⟩⟩
       · have h' : tEV W ⟨K, mg, B, G0⟩ κ en .F (if repOk a b = true then .ok (.str (strRep a b)) else .bad) σ H Q := h
         rw [if_neg hl] at h'
         exact h'.bad)
theorem od_mod : OpD K mg (rI (fun _ j => 0 < j) fun i j => .int (i % j)) .F pMod := od_int (fun a b => by
  by_cases h : 0 < b
  · exact .inr ⟨h, .int (a % b), by show (if 0 < b then _ else _) = _; rw [if_pos h], fun _ => rfl⟩
  · exact .inl (by show (if 0 < b then _ else _) = _; rw [if_neg h])) fun x y => by
  cases x <;> cases y <;> first | exact .inl ⟨_, _, rfl, rfl⟩ | exact .inr rfl
theorem od_div : OpD K mg (rI CDivW fun i j => .int (i / j)) .F pDiv := od_int (fun a b => by
  by_cases h : 0 < b ∧ b.natAbs.log2 < 9000
  · exact .inr ⟨h, .int (a / b), by show (if 0 < b ∧ b.natAbs.log2 < 9000 then _ else _) = _; rw [if_pos h], fun _ => rfl⟩
  · exact .inl (by show (if 0 < b ∧ b.natAbs.log2 < 9000 then _ else _) = _; rw [if_neg h])) fun x y => by
  cases x <;> cases y <;> first | exact .inl ⟨_, _, rfl, rfl⟩ | exact .inr rfl
theorem od_pow : OpD K mg (rI CPow fun i j => .int (i ^ j.toNat)) .F pPow := od_int (fun a b => by
  by_cases h : 0 ≤ b ∧ b ≤ 1000000 ∧ a.natAbs < 2 ^ 64
  · exact .inr ⟨h, .int (a ^ b.toNat), by show (if 0 ≤ b ∧ b ≤ 1000000 ∧ a.natAbs < 2 ^ 64 then _ else _) = _; rw [if_pos h], fun _ => rfl⟩
  · exact .inl (by show (if 0 ≤ b ∧ b ≤ 1000000 ∧ a.natAbs < 2 ^ 64 then _ else _) = _; rw [if_neg h])) fun x y => by
  cases x <;> cases y <;> first | exact .inl ⟨_, _, rfl, rfl⟩ | exact .inr rfl
abbrev rAddD : R2 := fun x y H Q => rI0 (fun i j => .int (i + j)) x y H Q ∨ (∃ i j, x = .str i ∧ y = .str j ∧ i.length + j.length ≤ sizeLine ∧ Q (.str (i ++ j)) H)
theorem op_addD {X : Cx} : OpR X (binaryOp .Add) rAddD := op_add.or op_add_str
theorem od_add : OpD K mg rAddD .F pAdd := by
  intro W B G0 κ en σ H Q x y v w hx hy h
  cases x <;> cases y <;> first
    | exact .inl ⟨_, _, hx, hy, h.int⟩
    | (rename_i a b
       by_cases hl : a.length + b.length ≤ 16777216
       · have h' : tEV W ⟨K, mg, B, G0⟩ κ en .F (if a.length + b.length ≤ 16777216 then .ok (.str (a ++ b)) else .bad) σ H Q := h
         rw [if_pos hl] at h'
         exact .inr ⟨a, b, hx.1, hy.1, by rw [sizeLine_eq]; exact hl, h'.ret fun _ => ⟨rfl, sOk_append hx.2 hy.2 hl⟩⟩
       · have h' : tEV W ⟨K, mg, B, G0⟩ κ en .F (if a.length + b.length ≤ 16777216 then .ok (.str (a ++ b)) else .bad) σ H Q := h
         rw [if_neg hl] at h'
         exact h'.bad)
    | exact tEV.bad (k := .F) h
theorem ud_neg : UnD K mg (rU fun i => .int (-i)) .F pNeg := by
  intro W B G0 κ en σ H Q x v hx h
  cases x <;> first
    | exact ⟨_, hx, h.int⟩
    | exact tEV.bad (k := .F) h
theorem od_eq : OpD K mg (rEqD K) .F pEq := by
  intro W B G0 κ en σ H Q x y v w hx hy h
  unfold pEq at h
  cases e : pl x 20 && pl y 20 with
  | false => rw [e] at h; exact tEV.bad (k := .F) h
  | true =>
    obtain ⟨h1, h2⟩ := Bool.and_eq_true_iff.mp e
    rw [e, if_pos rfl] at h
    exact ⟨py x, py y, hx.dp h1, hy.dp h2, hx.shaped h1, hy.shaped h2, by rw [deq_py]; exact h.bl⟩
theorem od_ne : OpD K mg (rNeD K) .F pNe := by
  intro W B G0 κ en σ H Q x y v w hx hy h
  unfold pNe at h
  cases e : pl x 20 && pl y 20 with
  | false => rw [e] at h; exact tEV.bad (k := .F) h
  | true =>
    obtain ⟨h1, h2⟩ := Bool.and_eq_true_iff.mp e
    rw [e, if_pos rfl] at h
    exact ⟨py x, py y, hx.dp h1, hy.dp h2, hx.shaped h1, hy.shaped h2, by rw [deq_py]; exact h.bl⟩
end
end Lw
namespace Lw
open PySem PySem.Spec PyProof.Rows L2
def toB : D → R Bool
  | .bl b => .ok b
  | _ => .bad
def andT (a b : R Bool) : R Bool := a.bind fun x => if x = true then b else .ok false
def orT (a b : R Bool) : R Bool := a.bind fun x => if x = true then .ok true else b
def notT (a : R Bool) : R Bool := a.bind fun x => .ok (!x)
def andV (a b : R D) : R D := a.bind fun x => match x with
  | .bl true => b
  | .bl false => .ok (.bl false)
  | _ => .bad
def orV (a b : R D) : R D := a.bind fun x => match x with
  | .bl true => .ok (.bl true)
  | .bl false => b
  | _ => .bad
def notV : D → R D
  | .bl b => .ok (.bl !b)
  | _ => .bad
section
variable {X : Cx} {W : WX} {B G0 : Hp} {κ : List Kd} {en : List D} {e a b t : Expr} {k ka kb : RK} {r ra rb : R D} {ta tb : R Bool} {d : D} {pos : Pos} {rest : List Expr}
theorem tB_ev {σ : L2.St} {H : Hp} {Q : Bool → Hp → Prop} (h : tET W (cf X B G0) κ en (r.bind toB) σ H Q) : tEV W (cf X B G0) κ en k r σ H (fun x H1 => ∃ c, x = .bl c ∧ Q c H1) :=
  tEX_bind h _ fun d v H1 G G1 S Ss e a st rv m => by
    have rd := st.rd rv
    cases d <;> first
      | exact ⟨_, rd, m H1 G1 (.refl st.sH)⟩
      | exact m.elim
theorem et_val (h : EV X W B G0 κ en e k r) (he : ∀ whole, isTrue e X.env whole = (do let v ← whole; standAt e.pos; holding [v] (truthy v)) := by intro _; rfl) : ET X W B G0 κ en e (r.bind toB) :=
  ⟨PT.wk (pt_val h.pe he) fun σ H Q h => tB_ev h⟩
theorem et_cmp {op : CmpOp} {rr : R2} {f : D → D → R D} (ho : OpR X (compareOp op) rr) (hf : OpD X.K X.mg rr .F f) (ha : EV X W B G0 κ en a ka ra) (hb : EV X W B G0 κ en b kb rb) (hm : behindInMarks op b = false) :
    ET X W B G0 κ en (.Compare a [op] [b] pos) ((R.bin2 ra rb f).bind toB) :=
  ⟨PT.wk (pt_cmpR ho ha.pe hb.pe hm) fun σ H Q h => tOp_ev (k := .F) hf (tB_ev h)⟩
theorem ew_or1 (h : ET X W B G0 κ en a ta) : PW X (.BoolOp .Or [a] pos) (tET W (cf X B G0) κ en ta) := pw_or1 h.pt
theorem ew_or (h : ET X W B G0 κ en a ta) (h2 : PW X (.BoolOp .Or (b :: rest) pos) (tET W (cf X B G0) κ en tb)) : PW X (.BoolOp .Or (a :: b :: rest) pos) (tET W (cf X B G0) κ en (orT ta tb)) :=
  PW.wk (pw_or h.pt h2) fun σ H Q h => tTX_bind h _ fun c H1 G1 Ss st m => by
    cases c with
    | false => exact ⟨G1, Ss, st, m⟩
    | true => exact m H1 G1 (.refl st.sH)
theorem et_w (h : PW X e (tET W (cf X B G0) κ en ta)) : ET X W B G0 κ en e ta := ⟨PW.pt h⟩
theorem et_not (h : ET X W B G0 κ en a ta) : ET X W B G0 κ en (.UnaryOp .Not a pos) (notT ta) :=
  ⟨PT.wk (pt_not h.pt) fun σ H Q h => tTX_bind h _ fun c H1 G1 Ss st m => m H1 G1 (.refl st.sH)⟩
theorem ev_one {op : BoolOp} (h : EV X W B G0 κ en a k r) : EV X W B G0 κ en (.BoolOp op [a] pos) k r := ⟨pe_one h.pe⟩
theorem tEV.mk {c : Cf} {σ : L2.St} {H G : Hp} {Ss : Nat → List Addr} {Q : VK} (st : St c κ en σ H G Ss) (m : mR W c σ H G (yV c H k Q) r) : tEV W c κ en k r σ H Q := ⟨G, Ss, st, m⟩
theorem ev_and (h : EV X W B G0 κ en a ka ra) (h2 : EV X W B G0 κ en (.BoolOp .And (b :: rest) pos) .F rb) : EV X W B G0 κ en (.BoolOp .And (a :: b :: rest) pos) .F (andV ra rb) :=
  ⟨PE.wk (pe_and h.pe h2.pe) fun σ H Q h => by
    unfold andV at h
    refine tEV_bind h _ fun d v H1 G G1 S Ss e a st rv m => ?_
    have rd := st.rd rv
    cases d with
    | bl c =>
      refine ⟨c, rd, ?_⟩
      cases c with
      | true => rw [if_pos rfl]; exact ⟨G1, Ss, st, m⟩
      | false => rw [if_neg (by decide)]; exact tEV.bl (en := en) (W := W) (κ := κ) ⟨G1, Ss, st, m⟩
    | _ => exact m.elim⟩
theorem ev_not (h : EV X W B G0 κ en a ka ra) : EV X W B G0 κ en (.UnaryOp .Not a pos) .F (ra.bind notV) :=
  ⟨PE.wk (pe_not h.pe) fun σ H Q h => tEV_bind h _ fun d v H1 G G1 S Ss e a st rv m => by
    have rd := st.rd rv
    cases d with
    | bl c => exact ⟨c, rd, tEV.bl (en := en) (W := W) (κ := κ) ⟨G1, Ss, st, m⟩⟩
    | _ => exact m.elim⟩
theorem ea_nil : EA X W B G0 κ en [] [] (.ok []) := ⟨PA.wk pa_nil fun σ H Q ⟨G, Ss, st, m⟩ => m H G (.refl st.sH) [] trivial⟩
theorem ArgP.adv {K : PySem.W.Frag} {mg : Str → Option Value} {H G H' G' : Hp} (s : Same H H') (s2 : Same G G') : ∀ {b : PK} {d : D} {v : V}, ArgP K mg H G b d v → ArgP K mg H' G' b d v
  | .F, _, _, h => Rep.mono s2 h
  | .B, _, _, h => Rep.mono s h
  | .E, _, _, ⟨p, vs, ds, e, hc, r⟩ => ⟨p, vs, ds, e, by
    cases hc with
    | lst h => exact .lst (s _ _ h)
    | dK h => exact .dK (s _ _ h), r.mono s2⟩
theorem ArgsR.adv {K : PySem.W.Frag} {mg : Str → Option Value} {H G H' G' : Hp} (s : Same H H') (s2 : Same G G') : ∀ {pk : List PK} {ds : List D} {vs : List V}, ArgsR K mg H G pk ds vs → ArgsR K mg H' G' pk ds vs
  | b :: bs, d :: ds, v :: vs, h => ⟨ArgP.adv s s2 h.1, ArgsR.adv s s2 h.2⟩
  | [], [], [], h => h
  | [], [], _ :: _, h => h.elim
  | [], _ :: _, _, h => h.elim
  | _ :: _, [], _, h => h.elim
  | _ :: _, _ :: _, [], h => h.elim
theorem tEA_cons {pk : List PK} {rs : R (List D)} {q : PK} {σ : L2.St} {H : Hp} {Q : List V → Hp → Prop} (h : tEA W (cf X B G0) κ en (q :: pk) (r.bind fun d => rs.bind fun ds => .ok (d :: ds)) σ H Q)
    (hq : ∀ d v (H1 H2 G : Hp) S, RV (cf X B G0) H1 H2 G k d v S → Same B H2 → Same G H2 → ArgP X.K X.mg H2 G q d v) : tCons (tEV W (cf X B G0) κ en k r) (tEA W (cf X B G0) κ en pk rs) σ H Q :=
  tEX_bind h _ fun d v H1 G G1 S Ss e a st rv m => ⟨G1, Ss, st, m.bind.imp fun ds H2 G2 e2 a2 m2 vs args =>
    m2 a2 H2 G2 (.refl a2.2.2.1) (v :: vs) ⟨ArgP.adv a2.1 a2.2.1 (hq d v H H1 G1 S rv st.sB st.sH), args⟩⟩
theorem ea_F {es : List Expr} {pk : List PK} {rs : R (List D)} (h : EV X W B G0 κ en e .F r) (h2 : EA X W B G0 κ en es pk rs) (hs : starEach (e :: es) X.env = (false, eval e X.env) :: starEach es X.env := by rfl) :
    EA X W B G0 κ en (e :: es) (.F :: pk) (R.cons r rs) :=
  ⟨PA.wk (pa_cons h.pe h2.pa hs) fun σ H Q h => tEA_cons h fun d v H1 H2 G S rv sB sG => rv.1⟩
theorem ea_P {es : List Expr} {pk : List PK} {rs : R (List D)} (h : EV X W B G0 κ en e k r) (h2 : EA X W B G0 κ en es pk rs) (hs : starEach (e :: es) X.env = (false, eval e X.env) :: starEach es X.env := by rfl) :
    EA X W B G0 κ en (e :: es) (.B :: pk) (R.cons r rs) :=
  ⟨PA.wk (pa_cons h.pe h2.pa hs) fun σ H Q h => tEA_cons h fun d v H1 H2 G S rv sB sG => rv.rep sB sG⟩
theorem ArgsR.reps {K : PySem.W.Frag} {mg : Str → Option Value} {H G : Hp} : ∀ {pk : List PK} {ds : List D} {vs : List V}, ArgsR K mg H G pk ds vs → (∀ b ∈ pk, b.isF = true) → Reps K mg G ds vs
  | b :: bs, d :: ds, v :: vs, h, hb => .cons (by
    have z := h.1
    have y := hb b List.mem_cons_self
    cases b with
    | F => exact z
    | B => cases y
    | E => cases y) (ArgsR.reps h.2 fun c hc => hb c (List.mem_cons_of_mem _ hc))
  | [], [], [], h, _ => .nil
  | [], [], _ :: _, h, _ => h.elim
  | [], _ :: _, _, h, _ => h.elim
  | _ :: _, [], _, h, _ => h.elim
  | _ :: _, _ :: _, [], h, _ => h.elim
def mkL (ds : List D) : R D := if ds.length ≤ 16777216 then .ok (.lst ds) else .bad
def mkT (ds : List D) : R D := if ds.length ≤ 16777216 then .ok (.tup ds) else .bad
theorem mR.ok {α : Type} {c : Cf} {σ : L2.St} {H G : Hp} {Y : α → Hp → Hp → Prop} {a : α} (m : mR W c σ H G Y (.ok a)) {H' G' : Hp} (h : Adv H G G' H') : Y a H' G' := m H' G' h
theorem AllR.frozen {c : Cf} {H G : Hp} : ∀ {ds : List D} {vs : List V}, Reps c.K c.mg G ds vs → AllR (RepK c H G .F) ds vs []
  | [], _, h => ⟨h, rfl⟩
  | _ :: _, _, ⟨v, r, e, h, q⟩ => ⟨v, r, [], [], e, rfl, ⟨h, rfl⟩, AllR.frozen q⟩
theorem new_list {c : Cf} {σ : L2.St} {H G : Hp} {Q : VK} {ds : List D} {vs : List V} (m : mR W c σ H G (yV c H (.O (.L .F)) Q) (mkL ds)) (sG : Same G H) (r : Reps c.K c.mg G ds vs) : vs.length ≤ sizeLine ∧ ∀ p, H p = none → Q (.ref p) (upd H p (.lst vs)) := by
  unfold mkL at m
  by_cases hl : ds.length ≤ 16777216
  · rw [if_pos hl] at m
    refine ⟨by rw [← r.length, sizeLine_eq]; exact hl, fun p hp => ?_⟩
    refine m.ok (Adv.newO sG hp) (.ref p) [p] ⟨⟨p, vs, ds, [], rfl, rfl, .lst upd_same, ?_⟩, by simp, fun q hq => ?_⟩
    · exact AllR.frozen r
    · have e : q = p := by simpa using hq
      subst e
      exact ⟨hp, sG.free hp, _, upd_same⟩
  · rw [if_neg hl] at m; exact m.elim
theorem new_tup {c : Cf} {σ : L2.St} {H G : Hp} {Q : VK} {ds : List D} {vs : List V} (m : mR W c σ H G (yV c H .F Q) (mkT ds)) (sG : Same G H) (r : Reps c.K c.mg G ds vs) : vs.length ≤ sizeLine ∧ ∀ p, H p = none → Q (.ref p) (upd H p (.tup vs)) := by
  unfold mkT at m
  by_cases hl : ds.length ≤ 16777216
  · rw [if_pos hl] at m
    refine ⟨by rw [← r.length, sizeLine_eq]; exact hl, fun p hp => ?_⟩
    have a := Adv.newF (o := .tup vs) sG hp
    exact m.ok a (.ref p) [] ⟨⟨p, vs, rfl, SqT.of upd_same, r.mono a.2.1⟩, rfl⟩
  · rw [if_neg hl] at m; exact m.elim
theorem mR.thn {α : Type} {c : Cf} {σ : L2.St} {H G : Hp} {Y : α → Hp → Hp → Prop} {Z : List D → Hp → Hp → Prop} {rs : R (List D)} {f : List D → R α} (m : mR W c σ H G Y (rs.bind f)) (h : ∀ ds H1 G1, Adv H G G1 H1 → mR W c σ H1 G1 Y (f ds) → Z ds H1 G1) : mR W c σ H G Z rs :=
  m.bind.imp fun ds H1 G1 _ a q => h ds H1 G1 a (q a)
theorem ev_lst {es : List Expr} {pk : List PK} {rs : R (List D)} (h : EA X W B G0 κ en es pk rs) (hp : ∀ b ∈ pk, b.isF = true := by decide) : EV X W B G0 κ en (.List es pos) (.O (.L .F)) (rs.bind mkL) :=
  ⟨PE.wk (pe_lst h.pa) fun σ H Q ⟨G, Ss, st, m⟩ => ⟨G, Ss, st, m.thn fun ds H1 G1 a m vs args => new_list (W := W) (σ := σ) (m.imp fun d H' G' _ b y v S z => y v S (z.back a.1)) a.2.2.1 (args.reps hp)⟩⟩
theorem ev_tup {es : List Expr} {pk : List PK} {rs : R (List D)} {x1} (h : EA X W B G0 κ en es pk rs) (hp : ∀ b ∈ pk, b.isF = true := by decide) : EV X W B G0 κ en (.Tuple es x1 pos) .F (rs.bind mkT) :=
  ⟨PE.wk (pe_tup h.pa) fun σ H Q ⟨G, Ss, st, m⟩ => ⟨G, Ss, st, m.thn fun ds H1 G1 a m vs args => new_tup (W := W) (σ := σ) (m.imp fun d H' G' _ b y v S z => y v S (z.back a.1)) a.2.2.1 (args.reps hp)⟩⟩
def pIx : D → D → R D
  | .lst xs, .int i => match atI xs i with
    | some d => .ok d
    | none => .bad
  | .scr xs, .int i => match atI xs i with
    | some d => .ok d
    | none => .bad
  | .tup xs, .int i => match atI xs i with
    | some d => .ok d
    | none => .bad
  | .str s, .int i => match atI s.cps.toList i with
    | some c => .ok (.str ⟨#[c]⟩)
    | none => .bad
  | _, _ => .bad
def RK.el : RK → RK
  | .F => .F
  | .B => .B
  | .E => .F
  | .J => .F
  | _ => .P
theorem sOk_sign {s : Str} {i : Int} {c : Nat} (h : sOk s = true) (e : atI s.cps.toList i = some c) : sOk ⟨#[c]⟩ = true := by
  obtain ⟨j, _, h2, _⟩ := atI_get e
  have q := sOk_cps h
  have hm : c ∈ s.cps := by
    have z := List.mem_of_getElem? h2
    simpa using z
  refine sOk_mk ?_ (by show 1 ≤ 16777216; decide)
  unfold PyData.strOk at q ⊢
  have q2 := Array.all_eq_true_iff_forall_mem.mp q c hm
  simpa using q2
theorem RV.items {c : Cf} {H0 H G : Hp} {v : V} {S : List Addr} (h : RV c H0 H G k d v S) (sB : Same c.B H) (sG : Same G H) : ∀ {xs : List D}, (d = .lst xs ∨ d = .scr xs → ∃ (a : Addr) (vs : List V), v = .ref a ∧ SqL c.K H a vs ∧ xs.length = vs.length ∧ ∀ (i : Nat) (x : D), xs[i]? = some x → ∃ w, vs[i]? = some w ∧ RV c H0 H G k.el x w []) ∧
    (d = .tup xs → ∃ (a : Addr) (vs : List V), v = .ref a ∧ SqT c.K H a vs ∧ xs.length = vs.length ∧ ∀ (i : Nat) (x : D), xs[i]? = some x → ∃ w, vs[i]? = some w ∧ RV c H0 H G k.el x w []) := fun {xs} => by
  have get : ∀ {Z : Hp} {vs : List V}, Reps c.K c.mg Z xs vs → (∀ x w, Rep c.K c.mg Z x w → RV c H0 H G k.el x w []) → ∀ (i : Nat) (x : D), xs[i]? = some x → ∃ w, vs[i]? = some w ∧ RV c H0 H G k.el x w [] := fun {Z vs} r f i x e => by
    obtain ⟨w, e1, e2⟩ := r.get e
    exact ⟨w, e1, f x w e2⟩
  have rd := h.rep sB sG
  cases k with
  | F =>
    refine ⟨fun e => ?_, fun e => ?_⟩
    · rcases e with e | e <;> subst e
      · obtain ⟨a, vs, e, q, r⟩ := h.1
        exact ⟨a, vs, e, SqL.of (sG _ _ q), r.length, get r fun x w z => ⟨z, rfl⟩⟩
      · obtain ⟨a, vs, e, q, r⟩ := h.1
        exact ⟨a, vs, e, sqL_mono sG q, r.length, get r fun x w z => ⟨z, rfl⟩⟩
    · subst e
      obtain ⟨a, vs, e, q, r⟩ := h.1
      exact ⟨a, vs, e, sqT_mono sG q, r.length, get r fun x w z => ⟨z, rfl⟩⟩
  | B =>
    refine ⟨fun e => ?_, fun e => ?_⟩
    · rcases e with e | e <;> subst e
      · obtain ⟨a, vs, e, q, r⟩ := h.1
        exact ⟨a, vs, e, SqL.of (sB _ _ q), r.length, get r fun x w z => ⟨z, rfl⟩⟩
      · obtain ⟨a, vs, e, q, r⟩ := h.1
        exact ⟨a, vs, e, sqL_mono sB q, r.length, get r fun x w z => ⟨z, rfl⟩⟩
    · subst e
      obtain ⟨a, vs, e, q, r⟩ := h.1
      exact ⟨a, vs, e, sqT_mono sB q, r.length, get r fun x w z => ⟨z, rfl⟩⟩
  | E =>
    refine ⟨fun e => ?_, fun e => ?_⟩
    · rcases e with e | e <;> subst e
      · obtain ⟨⟨p, vs, ds, e, hc, r⟩, _⟩ := h
        cases hc with
        | lst hp => exact ⟨p, vs, e, SqL.of hp, r.length, get r fun x w z => ⟨z, rfl⟩⟩
      · obtain ⟨⟨p, vs, ds, e, hc, r⟩, _⟩ := h
        cases hc
    · subst e
      obtain ⟨⟨p, vs, ds, e, hc, r⟩, _⟩ := h
      cases hc
  | J =>
    refine ⟨fun e => ?_, fun e => ?_⟩
    · rcases e with e | e <;> subst e
      · obtain ⟨⟨p, vs, ds, e, hc, r⟩, _⟩ := h
        cases hc with
        | lst hp => exact ⟨p, vs, e, SqL.of (sB _ _ hp), r.length, get r fun x w z => ⟨z, rfl⟩⟩
      · obtain ⟨⟨p, vs, ds, e, hc, r⟩, _⟩ := h
        cases hc
    · subst e
      obtain ⟨⟨p, vs, ds, e, hc, r⟩, _⟩ := h
      cases hc
  | P =>
    refine ⟨fun e => ?_, fun e => ?_⟩
    · rcases e with e | e <;> subst e
      · obtain ⟨a, vs, e, q, r⟩ := rd
        exact ⟨a, vs, e, SqL.of q, r.length, get r fun x w z => ⟨z, rfl⟩⟩
      · obtain ⟨a, vs, e, q, r⟩ := rd
        exact ⟨a, vs, e, q, r.length, get r fun x w z => ⟨z, rfl⟩⟩
    · subst e
      obtain ⟨a, vs, e, q, r⟩ := rd
      exact ⟨a, vs, e, q, r.length, get r fun x w z => ⟨z, rfl⟩⟩
  | O q =>
    refine ⟨fun e => ?_, fun e => ?_⟩
    · rcases e with e | e <;> subst e
      · obtain ⟨a, vs, e, q, r⟩ := rd
        exact ⟨a, vs, e, SqL.of q, r.length, get r fun x w z => ⟨z, rfl⟩⟩
      · obtain ⟨a, vs, e, q, r⟩ := rd
        exact ⟨a, vs, e, q, r.length, get r fun x w z => ⟨z, rfl⟩⟩
    · subst e
      obtain ⟨a, vs, e, q, r⟩ := rd
      exact ⟨a, vs, e, q, r.length, get r fun x w z => ⟨z, rfl⟩⟩
theorem RV.adv {c : Cf} {H0 H G H' G' : Hp} {v : V} {S : List Addr} (h : RV c H0 H G k d v S) (a : Adv H G G' H') (hk : ∀ q, k ≠ .O q) : RV c H0 H' G' k d v S := by
  cases k with
  | F => exact ⟨h.1.mono a.2.1, h.2⟩
  | B => exact h
  | J =>
    obtain ⟨⟨p, vs, ds, e, hc, r⟩, z⟩ := h
    exact ⟨⟨p, vs, ds, e, hc, r.mono a.2.1⟩, z⟩
  | P => exact ⟨h.1.mono a.1, h.2⟩
  | E =>
    obtain ⟨⟨p, vs, ds, e, hc, r⟩, z⟩ := h
    refine ⟨⟨p, vs, ds, e, ?_, r.mono a.2.1⟩, z⟩
    cases hc with
    | lst h => exact .lst (a.1 _ _ h)
    | dK h => exact .dK (a.1 _ _ h)
  | O q => exact absurd rfl (hk q)
theorem atI_map {xs : List D} {vs : List V} {P : D → V → Prop} {i : Int} {x : D} (hl : xs.length = vs.length) (h : ∀ (i : Nat) (x : D), xs[i]? = some x → ∃ w, vs[i]? = some w ∧ P x w) (e : atI xs i = some x) : ∃ w, atI vs i = some w ∧ P x w := by
  unfold atI at *
  rw [← hl]
  cases q : ixN xs.length i with
  | none => rw [q] at e; cases e
  | some j =>
    rw [q] at e
    obtain ⟨w, e1, e2⟩ := h j x e
    exact ⟨w, e1, e2⟩
theorem ev_ix (ha : EV X W B G0 κ en a k ra) (hb : EV X W B G0 κ en b kb rb) (hk : ∀ q, k ≠ .O q := by intro _ z; cases z) (hs : PlainIx b := by exact fun _ _ => rfl) : EV X W B G0 κ en (.Subscript a b pos) k.el (R.bin2 ra rb pIx) :=
  ⟨PE.wk (pe_ix ix_seq ha.pe hb.pe hs) fun σ H Q ⟨G, Ss, st0, m0⟩ => tEVb st0 m0 _ fun d v H1 G1 S _ a1 st rv m => tEVb st m _ fun i w H2 G2 S2 _ a2 st2 rv2 m2 => by
    have hi := st2.rd rv2
    have rv' := rv.adv a2 hk
    have rd := st2.rd rv'
    obtain ⟨hl, ht⟩ : _ ∧ _ := ⟨fun xs => (rv'.items st2.sB st2.sH (xs := xs)).1, fun xs => (rv'.items st2.sB st2.sH (xs := xs)).2⟩
    cases i with
    | int j =>
      cases w with
      | int j' =>
        cases (show V.int j' = V.int j from hi)
        cases d with
        | lst xs =>
          obtain ⟨p, vs, ev, q, el, get⟩ := hl xs (.inl rfl)
          cases e : atI xs j with
          | none =>
            have m3 : mR W (cf X B G0) σ H2 G2 (yV (cf X B G0) H2 k.el Q) (match atI xs j with | some d => .ok d | none => .bad) := m2
            rw [e] at m3
            exact m3.elim
          | some x =>
            have m3 : mR W (cf X B G0) σ H2 G2 (yV (cf X B G0) H2 k.el Q) (match atI xs j with | some d => .ok d | none => .bad) := m2
            rw [e] at m3
            obtain ⟨w, ew, rw'⟩ := atI_map el get e
            exact .inl ⟨p, vs, j, w, ev, rfl, q, ew, m3 H2 G2 (.refl st2.sH) w [] (by cases k <;> first | exact rw' | exact absurd rfl (hk _))⟩
        | scr xs =>
          obtain ⟨p, vs, ev, q, el, get⟩ := hl xs (.inr rfl)
          cases e : atI xs j with
          | none =>
            have m3 : mR W (cf X B G0) σ H2 G2 (yV (cf X B G0) H2 k.el Q) (match atI xs j with | some d => .ok d | none => .bad) := m2
            rw [e] at m3
            exact m3.elim
          | some x =>
            have m3 : mR W (cf X B G0) σ H2 G2 (yV (cf X B G0) H2 k.el Q) (match atI xs j with | some d => .ok d | none => .bad) := m2
            rw [e] at m3
            obtain ⟨w, ew, rw'⟩ := atI_map el get e
            exact .inl ⟨p, vs, j, w, ev, rfl, q, ew, m3 H2 G2 (.refl st2.sH) w [] (by cases k <;> first | exact rw' | exact absurd rfl (hk _))⟩
        | tup xs =>
          obtain ⟨p, vs, ev, q, el, get⟩ := ht xs rfl
          cases e : atI xs j with
          | none =>
            have m3 : mR W (cf X B G0) σ H2 G2 (yV (cf X B G0) H2 k.el Q) (match atI xs j with | some d => .ok d | none => .bad) := m2
            rw [e] at m3
            exact m3.elim
          | some x =>
            have m3 : mR W (cf X B G0) σ H2 G2 (yV (cf X B G0) H2 k.el Q) (match atI xs j with | some d => .ok d | none => .bad) := m2
            rw [e] at m3
            obtain ⟨w, ew, rw'⟩ := atI_map el get e
            exact .inr (.inl ⟨p, vs, j, w, ev, rfl, q, ew, m3 H2 G2 (.refl st2.sH) w [] (by cases k <;> first | exact rw' | exact absurd rfl (hk _))⟩)
        | str s =>
          have m3 : mR W (cf X B G0) σ H2 G2 (yV (cf X B G0) H2 k.el Q) (match atI s.cps.toList j with | some c => .ok (.str ⟨#[c]⟩) | none => .bad) := m2
          cases e : atI s.cps.toList j with
          | none =>
            rw [e] at m3
            exact m3.elim
          | some c =>
            rw [e] at m3
            have ok := sOk_sign rd.2 e
            refine .inr (.inr ⟨s, j, c, rd.1, rfl, by rw [sizeLine_eq]; exact sOk_len rd.2, e, m3 H2 G2 (.refl st2.sH) _ [] ?_⟩)
            cases k <;> first | exact ⟨⟨rfl, ok⟩, rfl⟩ | exact absurd rfl (hk _)
        | _ => exact m2.elim
      | _ => cases hi
    | _ => cases d <;> exact m2.elim⟩
end
end Lw
namespace Lw
open PySem PySem.Spec PyProof.Rows L2
def spF (K : PySem.W.Frag) (mg : Str → Option Value) (f : List D → R D) (pk : List PK) (rk : RK) : Sp := fun vs H Q E =>
  ∃ G ds, Same G H ∧ ArgsR K mg H G pk ds vs ∧ mR (fun cv xd _ H' => E cv xd H') ⟨K, mg, H, G⟩ [] H G (yV ⟨K, mg, H, G⟩ H rk Q) (f ds)
def FD (P : Program) (w : World) (K : PySem.W.Frag) (mg : Str → Option Value) (base : Heap) (k : Nat) (x : Str) (f : List D → R D) (pk : List PK) (rk : RK) : Prop :=
  ∃ fa fd ps, mg x = some (.ref fa) ∧ PySem.W.keepIn K (.ref fa) = true ∧ Binds K fd ps [] ∧ FnOk P w K mg base (L2.CX P w) k fa fd ps (spF K mg f pk rk)
def RK.out : RK → Bool
  | .F => true
  | .P => true
  | .O k => k.own
  | _ => false
section
variable {X : Cx} {W : WX} {B G0 : Hp} {κ : List Kd} {en : List D} {e o : Expr} {es : List Expr} {rk : RK} {rs : R (List D)} {f : List D → R D} {pk : List PK} {k : Nat} {x : Str} {p pos : Pos}
theorem RepK.cf {K : PySem.W.Frag} {mg : Str → Option Value} {B B' G0' H G : Hp} : ∀ {k : Kd} {d : D} {v : V} {S : List Addr}, RepK ⟨K, mg, B, G0⟩ H G k d v S → k.own = true → RepK ⟨K, mg, B', G0'⟩ H G k d v S
  | .N, _, _, _, h, _ => h.elim
  | .F, _, _, _, h, _ => h
  | .B, _, _, _, _, h => by cases h
  | .E, _, _, _, _, h => by cases h
  | .I _, _, _, _, h, _ => h
  | .T, _, _, _, h, _ => h
  | .K, _, _, _, h, _ => h
  | .Q, _, _, _, h, _ => h
  | .M _, _, _, _, h, _ => h
  | .U u, _, _, _, h, _ => u.cf h
  | .L k, _, _, _, ⟨p, vs, ds, S', e1, e2, hc, ha⟩, ho => ⟨p, vs, ds, S', e1, e2, hc, ha.imp fun _ _ _ _ h => RepK.cf h ho⟩
theorem RV.cf {K : PySem.W.Frag} {mg : Str → Option Value} {B B' G0' H0 H G : Hp} {d : D} {v : V} {S : List Addr} (h : RV ⟨K, mg, B, G0⟩ H0 H G rk d v S) (ho : rk.out = true) : RV ⟨K, mg, B', G0'⟩ H0 H G rk d v S := by
  cases rk with
  | F => exact h
  | P => exact h
  | O k => exact ⟨h.1.cf ho, h.2⟩
  | _ => cases ho
theorem mR.toSp {σ : L2.St} {H G : Hp} {Q : VK} {r : R D} (m : mR W (cf X B G0) σ H G (yV (cf X B G0) H rk Q) r) (ho : rk.out = true) : mR (fun cv xd _ H' => WE W σ cv xd H') ⟨X.K, X.mg, H, G⟩ [] H G (yV ⟨X.K, X.mg, H, G⟩ H rk Q) r := by
  cases r with
  | bad => exact m
  | exc x => exact m
  | ok d => exact fun H' G' a v S q => m H' G' a v S (q.cf ho)
theorem ev_call (F : FD X.prog X.w X.K X.mg X.base k x f pk rk) (hr : Room k X.A) (tk : Takes X W) (ha : EA X W B G0 κ en (e :: es) pk rs) (hg : Gl X x := by rfl) (ho : rk.out = true := by rfl) (hdb : (x == ("__debug__" : Str)) = false := by decide)
    (he : starEach (e :: es) X.env = (false, eval e X.env) :: starEach es X.env := by rfl) (hpl : (backTo pos (starEach es X.env)).any (·.1) = false := by rfl) : EV X W B G0 κ en (.Call (.Name x p) (e :: es) [] pos) rk (rs.bind f) := by
  obtain ⟨fa, fd, ps, gT, kp, hb, F⟩ := F
  exact ⟨PE.wk (pe_callS F hr hg gT kp hb (fun σ => passAt tk σ) ha.pa hdb he hpl) fun σ H Q ⟨G, Ss, st, m⟩ => ⟨G, Ss, st, m.thn fun ds H1 G1 a m vs args =>
    ⟨G1, ds, a.2.2.1, args, mR.toSp (X := X) (B := B) (G0 := G0) (m.imp fun d H' G' _ b y v S z => y v S (z.back a.1)) ho⟩⟩⟩
theorem EV.cast {k : RK} {r r' : R D} (h : EV X W B G0 κ en e k r) (q : r = r') : EV X W B G0 κ en e k r' := q ▸ h
end
structure DE (α : Type) where
  nx : List Kd → List D → α → Prop
  rt : RK → D → α → Prop
  ex : List Kd → List D → Prop
  bk : List Kd → List D → α → Prop
  ct : List Kd → List D → α → Prop
def dDef (rk : RK) : DE D := ⟨fun _ _ a => a = .non ∧ rk = .F, fun k d a => k = rk ∧ d = a, fun _ _ => True, fun _ _ _ => False, fun _ _ _ => False⟩
def mS {α : Type} (W : WX) (c : Cf) (δ : DE α) (Dn : Ends) : R α → Prop
  | .ok a => (∀ κ en σ H G Ss, St c κ en σ H G Ss → δ.nx κ en a → Dn.nx σ H) ∧ (∀ k d v H G S, Adv c.B c.G0 G H → RV c c.B H G k d v S → δ.rt k d a → Dn.rt v H) ∧
      (∀ κ en σ H G Ss, St c κ en σ H G Ss → δ.bk κ en a → Dn.bk σ H) ∧ ∀ κ en σ H G Ss, St c κ en σ H G Ss → δ.ct κ en a → Dn.ct σ H
  | .exc x => ∀ cv xd κ en σ H G Ss, St c κ en σ H G Ss → δ.ex κ en → ExV c H G x cv xd → W cv xd σ H
  | .bad => False
def tSV {α : Type} (W : WX) (c : Cf) (κ : List Kd) (en : List D) (δ : DE α) (s : R α) : TS := fun Dn σ H => ∃ G Ss, St c κ en σ H G Ss ∧ mS W c δ Dn s
structure SV {α : Type} (X : Cx) (W : WX) (B G0 : Hp) (κ : List Kd) (en : List D) (sts : List Stmt) (δ : DE α) (s : R α) : Prop where
  ps : PSs X sts (tSV W (cf X B G0) κ en δ s)
theorem PSs.wk {X : Cx} {sts : List Stmt} {t t' : TS} (h : PSs X sts t) (f : ∀ D σ H, t' D σ H → t D σ H) : PSs X sts t' := ⟨fun pins s σ H D I q => h.run pins s σ H D I (f D σ H q)⟩
theorem PSs.all {X : Cx} {sts : List Stmt} {ι : Type} {t : ι → TS} (h : ∀ i, PSs X sts (t i)) : PSs X sts (fun D σ H => ∃ i, t i D σ H) := ⟨fun pins s σ H D I ⟨i, q⟩ => (h i).run pins s σ H D I q⟩
section
variable {α β τ : Type} {X : Cx} {W : WX} {B G0 : Hp} {κ : List Kd} {en : List D} {e t : Expr} {k : RK} {r : R D} {rb : R Bool} {δ : DE α} {pos : Pos} {rest body orelse : List Stmt} {s s1 s2 : R α} {f : D → R α}
theorem SV.cast {sts : List Stmt} {s s' : R α} (h : SV X W B G0 κ en sts δ s) (q : s = s') : SV X W B G0 κ en sts δ s' := q ▸ h
theorem mS.toR {c : Cf} {σ : L2.St} {H G : Hp} {Ss : Nat → List Addr} {Dn : Ends} {r : R β} {f : β → R α} {Z : β → Hp → Hp → Prop} (st : St c κ en σ H G Ss) (m : mS W c δ Dn (r.bind f)) (hx : δ.ex κ en)
    (h : ∀ a H1 G1, Adv H G G1 H1 → St c κ en σ H1 G1 Ss → mS W c δ Dn (f a) → Z a H1 G1) : mR W c σ H G Z r := by
  cases r with
  | bad => exact m
  | exc x => exact fun cv xd H' G' a z => m cv xd κ en σ H' G' Ss (st.adv a) hx z
  | ok b => exact fun H' G' a => h b H' G' a (st.adv a) m
theorem sv_nil {a : α} (h : δ.nx κ en a) : SV X W B G0 κ en [] δ (.ok a) := ⟨PSs.wk pss_nil fun Dn σ H ⟨G, Ss, st, m⟩ => m.1 _ _ _ _ _ _ st h⟩
theorem sv_freeze {i : Nat} {q : Kd} {sts : List Stmt} (hk : κ[i]? = some q) (h : SV X W B G0 (κ.set i .F) en sts δ s) (hq : q.own = true := by rfl) : SV X W B G0 κ en sts δ s :=
  ⟨PSs.wk h.ps fun Dn σ H ⟨G, Ss, st, m⟩ => by
    obtain ⟨G', Ss', st', _⟩ := st.freeze hk hq
    exact ⟨G', Ss', st', m⟩⟩
theorem sv_set {i : Nat} {x : Str} {pos' : Pos} (he : EV X W B G0 κ en e k r) (hr : ∀ d, SV X W B G0 (κ.set i (slotOf k)) (en.set i d) rest δ (f d)) (hN : X.N.Nodup) (hi : X.N[i]? = some x := by rfl) (hx : Loc X.env.scope x := by first | exact Or.inl rfl | exact Or.inr rfl)
    (hex : δ.ex κ en := by exact True.intro) (hκ : i < κ.length := by first | decide | simp) (hs : swapsWith e (some (.Name x pos')) pos.line X.env = pure false := by rfl) (hf : X.fn x = true ∨ X.env.scope.names.lookup x = some .local := by first | exact .inl rfl | exact .inr rfl | assumption) :
    SV X W B G0 κ en (.Assign [.Name x pos'] e pos :: rest) δ (r.bind f) :=
  ⟨PSs.wk (pss_cons (ps_set hN hi hx he.pe hs hf) (PSs.all fun d => (hr d).ps)) fun Dn σ H ⟨G, Ss, st, m⟩ => ⟨G, Ss, st, mS.toR st m hex fun d H1 G1 a st1 m1 v S rv => ⟨d, G1, _, st.set a rv hκ, m1⟩⟩⟩
theorem sv_ret {g : D → α} (he : EV X W B G0 κ en e k r) (hd : ∀ d, δ.rt k d (g d)) (hex : δ.ex κ en := by exact True.intro) : SV X W B G0 κ en (.Return (some e) pos :: rest) δ (r.bind fun d => .ok (g d)) :=
  ⟨PSs.wk (pss_cons (ps_ret he.pe) pss_never) fun Dn σ H ⟨G, Ss, st, m⟩ => ⟨G, Ss, st, mS.toR st m hex fun d H1 G1 a st1 m1 v S rv =>
    m1.2.1 k d v H1 G1 S st1.adv0 (by
      cases k with
      | O q => exact ⟨rv.1, rv.2.1, fun p hp => ⟨st.sB.free (rv.2.2 p hp).1, (rv.2.2 p hp).2⟩⟩
      | _ => exact rv) (hd d)⟩⟩
theorem sv_retD {r : R D} (he : EV X W B G0 κ en e k r) : SV X W B G0 κ en (.Return (some e) pos :: rest) (dDef k) r :=
  (sv_ret (g := id) (δ := dDef k) he (fun d => ⟨rfl, rfl⟩)).cast (R.bind_pure r)
def DE.stop (δ : DE α) : DE α := { δ with nx := fun _ _ _ => False }
theorem mS.stop {c : Cf} {Dn : Ends} {n : L2.St → Hp → Prop} (m : mS W c δ Dn s) : mS W c δ.stop { Dn with nx := n } s := by
  cases s with
  | bad => exact m
  | exc x => exact m
  | ok a => exact ⟨fun _ _ _ _ _ _ _ z => z.elim, m.2.1, m.2.2.1, m.2.2.2⟩
theorem mS.toT {c : Cf} {σ : L2.St} {H G : Hp} {Ss : Nat → List Addr} {Dn : Ends} {f : Bool → R α} {Z : Bool → Hp → Prop} (st : St c κ en σ H G Ss) (m : mS W c δ Dn (rb.bind f)) (hx : δ.ex κ en)
    (h : ∀ b H1 G1, St c κ en σ H1 G1 Ss → mS W c δ Dn (f b) → Z b H1) : tET W c κ en rb σ H Z := ⟨G, Ss, st, mS.toR st m hx fun b H1 G1 a st1 m1 => h b H1 G1 st1 m1⟩
theorem sv_ifS (ht : ET X W B G0 κ en t rb) (hb : SV X W B G0 κ en body δ.stop s1) (hr : SV X W B G0 κ en rest δ s2) (hex : δ.ex κ en := by exact True.intro) : SV X W B G0 κ en (.If t body [] pos :: rest) δ (rb.bind fun b => if b = true then s1 else s2) :=
  ⟨PSs.wk (pss_cons (ps_if ht.pt hb.ps pss_nil) hr.ps) fun Dn σ H ⟨G, Ss, st, m⟩ => mS.toT st m hex fun b H1 G1 st1 m1 => by
    cases b with
    | true => exact ⟨G1, Ss, st1, mS.stop m1⟩
    | false => exact ⟨G1, Ss, st1, m1⟩⟩
theorem sv_ifE (ht : ET X W B G0 κ en t rb) (hb : SV X W B G0 κ en body δ s1) (hr : SV X W B G0 κ en orelse δ s2) (hex : δ.ex κ en := by exact True.intro) : SV X W B G0 κ en [.If t body orelse pos] δ (rb.bind fun b => if b = true then s1 else s2) :=
  ⟨PSs.wk (pss_one (ps_if ht.pt hb.ps hr.ps)) fun Dn σ H ⟨G, Ss, st, m⟩ => mS.toT st m hex fun b H1 G1 st1 m1 => by
    cases b with
    | true => exact ⟨G1, Ss, st1, m1⟩
    | false => exact ⟨G1, Ss, st1, m1⟩⟩
def DE.join (δ : DE α) (κJ : List Kd) (vw : τ → List D) : DE τ := ⟨fun κ en t => Wk κ en κJ (vw t), fun _ _ _ => False, δ.ex, fun _ _ _ => False, fun _ _ _ => False⟩
theorem mS.join {c : Cf} {Dn : Ends} {κJ : List Kd} {vw : τ → List D} {s : R τ} {f : τ → R α} {u : TS} (m : mS W c δ Dn (s.bind f)) (hu : ∀ t σ H, tSV W c κJ (vw t) δ (f t) Dn σ H → u Dn σ H) : mS W c (δ.join κJ vw) { Dn with nx := u Dn } s := by
  cases s with
  | bad => exact m
  | exc x => exact m
  | ok t => exact ⟨fun κ en σ H G Ss st w => hu t σ H ⟨G, Ss, st.weak w, m⟩, fun _ _ _ _ _ _ _ _ z => z.elim, fun _ _ _ _ _ _ _ z => z.elim, fun _ _ _ _ _ _ _ z => z.elim⟩
theorem sv_ifJ {s1 s2 : R τ} {f : τ → R α} (κJ : List Kd) (vw : τ → List D) (ht : ET X W B G0 κ en t rb) (hb : SV X W B G0 κ en body (δ.join κJ vw) s1) (ho : SV X W B G0 κ en orelse (δ.join κJ vw) s2) (hr : ∀ t, SV X W B G0 κJ (vw t) rest δ (f t))
    (hex : δ.ex κ en := by exact True.intro) : SV X W B G0 κ en (.If t body orelse pos :: rest) δ ((rb.bind fun b => if b = true then s1 else s2).bind f) :=
  ⟨PSs.wk (pss_cons (ps_if ht.pt hb.ps ho.ps) (PSs.all fun t => (hr t).ps)) fun Dn σ H ⟨G, Ss, st, m⟩ => by
    rw [R.bind_assoc] at m
    refine mS.toT st m hex fun b H1 G1 st1 m1 => ?_
    cases b with
    | true => exact ⟨G1, Ss, st1, mS.join (u := fun D σ H => ∃ t, tSV W (cf X B G0) κJ (vw t) δ (f t) D σ H) m1 fun t σ H q => ⟨t, q⟩⟩
    | false => exact ⟨G1, Ss, st1, mS.join (u := fun D σ H => ∃ t, tSV W (cf X B G0) κJ (vw t) δ (f t) D σ H) m1 fun t σ H q => ⟨t, q⟩⟩⟩
inductive Go (τ α : Type) where
  | go (t : τ) | out (a : α)
def Go.thn {τ α : Type} (f : τ → R α) : Go τ α → R α
  | .go t => f t
  | .out a => .ok a
end
end Lw
namespace Lw
open PySem PySem.Spec PyProof.Rows L2
def setL {α : Type} : List α → List Nat → List α → List α
  | en, j :: js, x :: xs => setL (en.set j x) js xs
  | en, _, _ => en
def setK (κ : List Kd) (js : List Nat) (k : Kd) : List Kd := js.foldl (fun κ j => κ.set j k) κ
def Tg (X : Cx) (tg : Expr) (k : RK) (ρ : Type) (u : D → R ρ) (js : List Nat) (vs : ρ → List D) (ke : Kd) : Prop :=
  (∀ d e, u d = .exc e → False) ∧ ∃ g, PG X tg g ∧ ∀ (B G0 : Hp) (κ : List Kd) (en : List D) (σ : L2.St) (H H0 G : Hp) (Ss : Nat → List Addr) (d : D) (w : V) (p : ρ) (Q : L2.St → Hp → Prop), St (cf X B G0) κ en σ H G Ss → RV (cf X B G0) H0 H G k d w [] → u d = .ok p →
    (∀ j ∈ js, j < κ.length) → (∀ σ' Ss', (∀ zs : List Nat, (∀ j ∈ js, j ∈ zs) → wipe σ' zs = wipe σ zs) → St (cf X B G0) (setK κ js ke) (setL en js (vs p)) σ' H G Ss' → Q σ' H) → g w σ H Q
theorem wipe_get {σ : L2.St} {i : Nat} : ∀ {vs : List Nat}, i ∈ vs → i < σ.length → (wipe σ vs)[i]? = some none
  | v :: vs, h, hl => by
    unfold wipe
    by_cases e : v = i
    · subst e
      rw [List.getElem?_set_self (by rw [wipe_length]; exact hl)]
    · rw [List.getElem?_set_ne e]
      exact wipe_get ((List.mem_cons.mp h).resolve_left fun z => e z.symm) hl
  | [], h, _ => by cases h
theorem wipe_set {σ : L2.St} {j : Nat} {y : Option V} {vs : List Nat} (h : j ∈ vs) : wipe (σ.set j y) vs = wipe σ vs := by
  apply List.ext_getElem?
  intro i
  by_cases hi : i ∈ vs
  · rcases Nat.lt_or_ge i σ.length with hl | hl
    · rw [wipe_get hi hl, wipe_get hi (by simpa using hl)]
    · rw [List.getElem?_eq_none (by rw [wipe_length]; simpa using hl), List.getElem?_eq_none (by rw [wipe_length]; exact hl)]
  · rw [L2.wipe_out hi, L2.wipe_out hi, List.getElem?_set_ne (fun e => hi (by rw [e] at h; exact h))]
def rig : RK → Bool
  | .F => true
  | .B => true
  | _ => false
theorem RV.refl {c : Cf} {H0 H1 H G : Hp} {k : RK} {d : D} {v : V} (h : RV c H0 H G k d v []) (hk : rig k = true) : RV c H1 H G k d v [] := by
  cases k with
  | F => exact h
  | B => exact h
  | _ => cases hk
theorem RV.g0 {K : PySem.W.Frag} {mg : Str → Option Value} {B G0 G1 H0 H G : Hp} {k : RK} {d : D} {v : V} {S : List Addr} (h : RV ⟨K, mg, B, G0⟩ H0 H G k d v S) (hk : rig k = true) : RV ⟨K, mg, B, G1⟩ H0 H G k d v S := by
  cases k with
  | F => exact h
  | B => exact h
  | _ => cases hk
section
variable {X : Cx} {k : RK} {pos : Pos} {tg : Expr}
theorem tg_name {i : Nat} {x : Str} (hN : X.N.Nodup) (hk : rig k = true := by rfl) (hi : X.N[i]? = some x := by rfl) (hx : Loc X.env.scope x := by first | exact Or.inl rfl | exact Or.inr rfl) (hf : X.fn x = true ∨ X.env.scope.names.lookup x = some .local := by first | exact .inl rfl | exact .inr rfl | assumption) :
    Tg X (.Name x pos) k D (fun d => .ok d) [i] (fun d => [d]) (slotOf k) :=
  ⟨fun _ _ h => (nomatch h), gName i, pg_name hN hi hx hf, fun B G0 κ en σ H H0 G Ss d w p Q st rv e hj q => by
    cases e
    exact q _ _ (fun zs hz => wipe_set (hz i List.mem_cons_self)) (st.set (.refl st.sH) (rv.refl hk) (hj i List.mem_cons_self))⟩
def gNames : List Nat → TGs
  | [] => gNil
  | j :: js => gCons (gName j) (gNames js)
theorem gNames_ok {c : Cf} {H G : Hp} (hk : rig k = true) : ∀ {js : List Nat} {κ : List Kd} {en : List D} {σ : L2.St} {H0 : Hp} {Ss : Nat → List Addr} {xs : List D} {ws : List V} {Q : L2.St → Hp → Prop}, St c κ en σ H G Ss → xs.length = js.length → ws.length = js.length →
    (∀ (i : Nat) (x : D) (w : V), xs[i]? = some x → ws[i]? = some w → RV c H0 H G k x w []) → (∀ j ∈ js, j < κ.length) → (∀ σ' Ss', (∀ zs : List Nat, (∀ j ∈ js, j ∈ zs) → wipe σ' zs = wipe σ zs) → St c (setK κ js (slotOf k)) (setL en js xs) σ' H G Ss' → Q σ' H) → gNames js ws σ H Q
  | [], κ, en, σ, H0, Ss, [], [], Q, st, _, _, _, _, q => ⟨rfl, q σ Ss (fun _ _ => rfl) st⟩
  | j :: js, κ, en, σ, H0, Ss, x :: xs, w :: ws, Q, st, h1, h2, r, hj, q => by
    refine ⟨w, ws, rfl, ?_⟩
    have st' := st.set (i := j) (.refl st.sH) ((r 0 x w rfl rfl).refl (H1 := H) hk) (hj j List.mem_cons_self)
    exact gNames_ok hk (H0 := H0) st' (by simpa using h1) (by simpa using h2) (fun i x w e1 e2 => r (i + 1) x w (by simpa using e1) (by simpa using e2)) (fun j hm => by
      rw [List.length_set]; exact hj _ (List.mem_cons_of_mem _ hm)) fun σ' Ss' hw => q σ' Ss' fun zs hz => (hw zs fun j hm => hz j (List.mem_cons_of_mem _ hm)).trans (wipe_set (hz j List.mem_cons_self))
  | [], _, _, _, _, _, _ :: _, _, _, _, h, _, _, _, _ => by simp at h
  | [], _, _, _, _, _, [], _ :: _, _, _, _, h, _, _, _ => by simp at h
  | _ :: _, _, _, _, _, _, [], _, _, _, h, _, _, _, _ => by simp at h
  | _ :: _, _, _, _, _, _, _ :: _, [], _, _, _, h, _, _, _ => by simp at h
theorem rig_el {k : RK} (hk : rig k = true) : k.el = k := by cases k <;> first | rfl | cases hk
theorem tg_tup {ρ : Type} {u : D → R ρ} {js : List Nat} {vs : ρ → List D} (h : PG X tg (gTup X.K js.length (gNames js))) (hu : ∀ d p, u d = .ok p → d = .tup (vs p) ∧ (vs p).length = js.length) (hx : ∀ d e, u d = .exc e → False) (hk : rig k = true := by rfl) :
    Tg X tg k ρ u js vs (slotOf k) :=
  ⟨hx, _, h, fun B G0 κ en σ H H0 G Ss d w p Q st rv e hj q => by
    obtain ⟨rfl, hl⟩ := hu d p e
    obtain ⟨a, ws, ew, sq, el, get⟩ := (rv.items st.sB st.sH (xs := vs p)).2 rfl
    rw [rig_el hk] at get
    refine ⟨a, ws, ew, sq, by rw [← el, hl], gNames_ok (k := k) hk (H0 := H0) st hl (by rw [← el, hl]) (fun i x w e1 e2 => ?_) hj q⟩
    obtain ⟨w', e3, r⟩ := get i x e1
    rw [e2] at e3
    cases e3
    exact r⟩
end
def un2 : D → R (D × D)
  | .tup [a, b] => .ok (a, b)
  | _ => .bad
def un3 : D → R (D × D × D)
  | .tup [a, b, c] => .ok (a, b, c)
  | _ => .bad
theorem un2_nx (d : D) (e : Ex) (h : un2 d = .exc e) : False := by
  unfold un2 at h
  split at h <;> cases h
theorem un2_ok (d : D) (p : D × D) (h : un2 d = .ok p) : d = .tup [p.1, p.2] ∧ [p.1, p.2].length = 2 := by
  unfold un2 at h
  split at h
  · cases h; exact ⟨rfl, rfl⟩
  · cases h
theorem un3_nx (d : D) (e : Ex) (h : un3 d = .exc e) : False := by
  unfold un3 at h
  split at h <;> cases h
theorem un3_ok (d : D) (p : D × D × D) (h : un3 d = .ok p) : d = .tup [p.1, p.2.1, p.2.2] ∧ [p.1, p.2.1, p.2.2].length = 3 := by
  unfold un3 at h
  split at h
  · cases h; exact ⟨rfl, rfl⟩
  · cases h
def Walks (c : Cf) (k : RK) (xs : List D) (J : It) (G1 : Hp) : Prop := ∀ H G, Same G1 G → Same G H → Same c.B H → (∀ i, xs.length ≤ i → J.stop i H) ∧ ∀ i d, xs[i]? = some d → J.go i H ∧ ∀ x H', J.yld i H x H' → ∃ G', Adv H G G' H' ∧ RV c H H' G' k d x []
structure EI (X : Cx) (W : WX) (B G0 : Hp) (κ : List Kd) (en : List D) (tg iter : Expr) (k : RK) (r : R (List D)) : Prop where
  pi : PI X tg iter fun σ H Z => ∃ G Ss, St (cf X B G0) κ en σ H G Ss ∧ mR W (cf X B G0) σ H G (fun xs H' G' => ∀ J, Walks (cf X B G0) k xs J G' → Z J H') r
theorem PI.wk {X : Cx} {tg iter : Expr} {t t' : TI} (h : PI X tg iter t) (f : ∀ σ H Q, t' σ H Q → t σ H Q) : PI X tg iter t' := ⟨fun pins s σ H R I q => h.run pins s σ H R I (f σ H R q)⟩
def toSeq : D → R (List D)
  | .lst xs => .ok xs
  | .scr xs => .ok xs
  | .tup xs => .ok xs
  | _ => .bad
def rngL (lo : Int) (n : Nat) : List D := (List.range n).map fun (i : Nat) => D.int (lo + i)
def pRange1 : D → R (List D)
  | .int j => if -(2 ^ 62) ≤ j ∧ j < 2 ^ 62 then .ok (rngL 0 j.toNat) else .bad
  | _ => .bad
section
variable {X : Cx} {W : WX} {B G0 : Hp} {κ : List Kd} {en : List D} {e a b tg : Expr} {k ka kb : RK} {r ra rb : R D} {p pos : Pos}
theorem pi_seq {tl : TE} (hl : PE X e tl) : PI X tg e (fun σ H Z => tl σ H fun x H1 => ∃ a, x = .ref a ∧ (((∃ xs, SqL X.K H1 a xs) ∧ Z (Itl X.K a) H1) ∨ ((∃ xs, SqT X.K H1 a xs) ∧ Z (Itt X.K a) H1))) := by
  refine ⟨fun pins s σ H Z I h => ?_⟩
  refine thn (hl.run pins s σ H _ I h) fun v s1 ⟨x, H1, I1, r1, a, e, q⟩ => ?_
  subst e
  cases r1
  have fp : ∀ b ∈ [s1.heap.objs.size], FpOk X pins H1 b := fun b hb => by
    have e : b = s1.heap.objs.size := by simpa using hb
    subst e
    exact I1.fpOk (Nat.le_refl _) (I1.hok.fresh (Nat.le_refl _))
  rcases q with ⟨⟨xs, hq⟩, z⟩ | ⟨⟨xs, hq⟩, z⟩
  · obtain ⟨its, rv, pl, hz⟩ := I1.list hq
    exact wpAny_pyIter_list pl.isList ⟨s1.heap.objs.size, [s1.heap.objs.size], _, _, H1, rfl, I1.kept (t' := s1.toks) fun b o e => Heap.get?_push_of_some _ e, turn_list a _, ⟨_, Heap.get?_push_size _ rfl, rfl, rfl⟩, fp, z⟩
  · obtain ⟨its, rv, pl, hz⟩ := I1.tuple hq
    exact wpAny_pyIter_tuple (show s1.heap.IsTuple a its.toArray from pl) ⟨s1.heap.objs.size, [s1.heap.objs.size], _, _, H1, rfl, I1.kept (t' := s1.toks) fun b o e => Heap.get?_push_of_some _ e, turn_tuple a _, ⟨_, Heap.get?_push_size _ rfl, rfl, rfl⟩, fp, z⟩
theorem walks_list {c : Cf} {H1 G1 : Hp} {xs : List D} {v : V} {S : List Addr} (h : RV c H1 H1 G1 k (.lst xs) v S) (hk : rig k = true) : ∃ a, v = .ref a ∧ Walks c k xs (Itl c.K a) G1 := by
  obtain ⟨a, e⟩ : ∃ a, v = .ref a := by
    cases k with
    | F => obtain ⟨a, vs, e, _⟩ := h.1; exact ⟨a, e⟩
    | B => obtain ⟨a, vs, e, _⟩ := h.1; exact ⟨a, e⟩
    | _ => cases hk
  refine ⟨a, e, fun H G s1 s2 s3 => ?_⟩
  have h' : RV c H H G k (.lst xs) v S := by
    cases k with
    | F => exact ⟨h.1.mono s1, h.2⟩
    | B => exact h
    | _ => cases hk
  obtain ⟨a', ws, e', q, el, get⟩ := (h'.items s3 s2 (xs := xs)).1 (.inl rfl)
  rw [e] at e'; cases e'
  rw [rig_el hk] at get
  refine ⟨fun i hi => ⟨ws, q, by rw [← el]; exact hi⟩, fun i d hd => ?_⟩
  obtain ⟨w, ew, rw'⟩ := get i d hd
  refine ⟨⟨ws, w, q, ew⟩, fun x H' ⟨e1, hy⟩ => ?_⟩
  subst e1
  have z := hy ws q
  rw [ew] at z; cases z
  exact ⟨G, .refl s2, rw'⟩
theorem walks_scr {c : Cf} {H1 G1 : Hp} {xs : List D} {v : V} {S : List Addr} (h : RV c H1 H1 G1 k (.scr xs) v S) (hk : rig k = true) : ∃ a, v = .ref a ∧ Walks c k xs (Itl c.K a) G1 := by
  obtain ⟨a, e⟩ : ∃ a, v = .ref a := by
    cases k with
    | F => obtain ⟨a, vs, e, _⟩ := h.1; exact ⟨a, e⟩
    | B => obtain ⟨a, vs, e, _⟩ := h.1; exact ⟨a, e⟩
    | _ => cases hk
  refine ⟨a, e, fun H G s1 s2 s3 => ?_⟩
  have h' : RV c H H G k (.scr xs) v S := by
    cases k with
    | F => exact ⟨h.1.mono s1, h.2⟩
    | B => exact h
    | _ => cases hk
  obtain ⟨a', ws, e', q, el, get⟩ := (h'.items s3 s2 (xs := xs)).1 (.inr rfl)
  rw [e] at e'; cases e'
  rw [rig_el hk] at get
  refine ⟨fun i hi => ⟨ws, q, by rw [← el]; exact hi⟩, fun i d hd => ?_⟩
  obtain ⟨w, ew, rw'⟩ := get i d hd
  refine ⟨⟨ws, w, q, ew⟩, fun x H' ⟨e1, hy⟩ => ?_⟩
  subst e1
  have z := hy ws q
  rw [ew] at z; cases z
  exact ⟨G, .refl s2, rw'⟩
theorem walks_tup {c : Cf} {H1 G1 : Hp} {xs : List D} {v : V} {S : List Addr} (h : RV c H1 H1 G1 k (.tup xs) v S) (hk : rig k = true) : ∃ a, v = .ref a ∧ Walks c k xs (Itt c.K a) G1 := by
  obtain ⟨a, e⟩ : ∃ a, v = .ref a := by
    cases k with
    | F => obtain ⟨a, vs, e, _⟩ := h.1; exact ⟨a, e⟩
    | B => obtain ⟨a, vs, e, _⟩ := h.1; exact ⟨a, e⟩
    | _ => cases hk
  refine ⟨a, e, fun H G s1 s2 s3 => ?_⟩
  have h' : RV c H H G k (.tup xs) v S := by
    cases k with
    | F => exact ⟨h.1.mono s1, h.2⟩
    | B => exact h
    | _ => cases hk
  obtain ⟨a', ws, e', q, el, get⟩ := (h'.items s3 s2 (xs := xs)).2 rfl
  rw [e] at e'; cases e'
  rw [rig_el hk] at get
  refine ⟨fun i hi => ⟨ws, q, by rw [← el]; exact hi⟩, fun i d hd => ?_⟩
  obtain ⟨w, ew, rw'⟩ := get i d hd
  refine ⟨⟨ws, w, q, ew⟩, fun x H' ⟨e1, hy⟩ => ?_⟩
  subst e1
  have z := hy ws q
  rw [ew] at z; cases z
  exact ⟨G, .refl s2, rw'⟩
theorem RV.here {c : Cf} {H H1 G1 : Hp} {d : D} {v : V} {S : List Addr} (h : RV c H H1 G1 k d v S) (hk : rig k = true) : RV c H1 H1 G1 k d v S := by
  cases k with
  | F => exact h
  | B => exact h
  | _ => cases hk
theorem ei_seq (h : EV X W B G0 κ en e k r) (hk : rig k = true := by rfl) : EI X W B G0 κ en tg e k (r.bind toSeq) :=
  ⟨PI.wk (pi_seq h.pe) fun σ H Z ⟨G, Ss, st, m⟩ => tEXb st m _ fun d v H1 G1 S _ a st1 rv m1 => by
    have rv' := rv.here hk
    cases d with
    | lst xs =>
      obtain ⟨p, e, wk⟩ := walks_list rv' hk
      obtain ⟨p', ws, e', q, _⟩ := (rv'.items st1.sB st1.sH (xs := xs)).1 (.inl rfl)
      rw [e] at e'; cases e'
      exact ⟨p, e, .inl ⟨⟨ws, q⟩, m1 H1 G1 (.refl st1.sH) _ wk⟩⟩
    | scr xs =>
      obtain ⟨p, e, wk⟩ := walks_scr rv' hk
      obtain ⟨p', ws, e', q, _⟩ := (rv'.items st1.sB st1.sH (xs := xs)).1 (.inr rfl)
      rw [e] at e'; cases e'
      exact ⟨p, e, .inl ⟨⟨ws, q⟩, m1 H1 G1 (.refl st1.sH) _ wk⟩⟩
    | tup xs =>
      obtain ⟨p, e, wk⟩ := walks_tup rv' hk
      obtain ⟨p', ws, e', q, _⟩ := (rv'.items st1.sB st1.sH (xs := xs)).2 rfl
      rw [e] at e'; cases e'
      exact ⟨p, e, .inr ⟨⟨ws, q⟩, m1 H1 G1 (.refl st1.sH) _ wk⟩⟩
    | _ => exact m1.elim⟩
theorem rngL_get {lo : Int} {n i : Nat} {d : D} (h : (rngL lo n)[i]? = some d) : i < n ∧ d = .int (lo + i) := by
  unfold rngL at h
  rw [List.getElem?_map] at h
  rcases Nat.lt_or_ge i n with hi | hi
  · rw [List.getElem?_range hi] at h
    cases h
    exact ⟨hi, rfl⟩
  · rw [List.getElem?_eq_none (by simpa using hi)] at h
    cases h
theorem rngL_length {lo : Int} {n : Nat} : (rngL lo n).length = n := by simp [rngL]
theorem walks_rng {c : Cf} {G1 : Hp} {lo : Int} {n : Nat} : Walks c .F (rngL lo n) (Itr lo n) G1 := fun H G s1 s2 s3 =>
  ⟨fun i hi => by rw [rngL_length] at hi; exact hi, fun i d hd => by
    obtain ⟨hi, rfl⟩ := rngL_get hd
    exact ⟨hi, fun x H' ⟨e1, e2⟩ => by subst e1 e2; exact ⟨G, .refl s2, rfl, rfl⟩⟩⟩
theorem ei_range1 (h : EV X W B G0 κ en a k r) (hm : X.mg "range" = none) (hg : Gl X "range" := by rfl) (hs : starEach [a] X.env = [(false, eval a X.env)] := by rfl) : EI X W B G0 κ en tg (.Call (.Name "range" p) [a] [] pos) .F (r.bind pRange1) :=
  ⟨PI.wk (pi_range1 hg hm (pa_cons h.pe pa_nil (by rw [hs] <;> rfl)) hs) fun σ H Z ⟨G, Ss, st, m⟩ => tEXb st m _ fun d v H1 G1 S _ a st1 rv m1 => by
    have rd := st1.rd rv
    cases d with
    | int j =>
      have m2 : mR W (cf X B G0) σ H1 G1 (fun xs H' G' => ∀ J, Walks (cf X B G0) .F xs J G' → Z J H') (if -(2 ^ 62) ≤ j ∧ j < 2 ^ 62 then .ok (rngL 0 j.toNat) else .bad) := m1
      by_cases hj : -(2 ^ 62) ≤ j ∧ j < 2 ^ 62
      · rw [if_pos hj] at m2
        exact ⟨j, by rw [rd], hj.1, hj.2, m2 H1 G1 (.refl st1.sH) _ walks_rng⟩
      · rw [if_neg hj] at m2
        exact m2.elim
    | _ => exact m1.elim⟩
end
def rFor {τ : Type} : List D → τ → (D → τ → R τ) → R τ
  | [], t, _ => .ok t
  | x :: xs, t, f => (f x t).bind fun t => rFor xs t f
inductive Lp (τ α : Type) where
  | nx (t : τ) | bk (t : τ) | out (a : α)
def Lp.on {τ α : Type} (k : τ → R (Go τ α)) : Lp τ α → R (Go τ α)
  | .nx t => k t
  | .bk t => .ok (.go t)
  | .out a => .ok (.out a)
def rForX {τ α : Type} : List D → τ → (D → τ → R (Lp τ α)) → R (Go τ α)
  | [], t, _ => .ok (.go t)
  | x :: xs, t, f => (f x t).bind (Lp.on fun t => rForX xs t f)
section
variable {α β τ : Type} {X : Cx} {W : WX} {B G0 : Hp} {κ : List Kd} {en : List D} {δ : DE α} {pos : Pos} {rest body : List Stmt} {s : R α}
def DE.loopX (δ : DE α) (κL : List Kd) (vw : τ → List D) : DE (Lp τ α) := ⟨fun κ en g => ∃ t, g = .nx t ∧ Wk κ en κL (vw t), fun k d g => ∃ a, g = .out a ∧ δ.rt k d a, δ.ex, fun κ en g => ∃ t, g = .bk t ∧ Wk κ en κL (vw t), fun κ en g => ∃ t, g = .nx t ∧ Wk κ en κL (vw t)⟩
def DE.loop (δ : DE α) (κL : List Kd) (vw : τ → List D) : DE τ := ⟨fun κ en t => Wk κ en κL (vw t), fun _ _ _ => False, δ.ex, fun _ _ _ => False, fun κ en t => Wk κ en κL (vw t)⟩
theorem St.reG {c : Cf} {σ : L2.St} {H G G1 : Hp} {Ss : Nat → List Addr} (st : St ⟨c.K, c.mg, c.B, G1⟩ κ en σ H G Ss) (s : Same c.G0 G1) (n : ∀ b o, G1 b = some o → c.G0 b = some o ∨ c.B b = none) : St c κ en σ H G Ss :=
  ⟨st.ln, fun i k h1 h2 => by
    obtain ⟨v, d, e1, e2, r⟩ := st.slot i k h1 h2
    refine ⟨v, d, e1, e2, ?_⟩
    have aux : ∀ {k : Kd} {d : D} {v : V} {S : List Addr}, RepK ⟨c.K, c.mg, c.B, G1⟩ H G k d v S → RepK c H G k d v S := by
      intro k
      induction k with
      | N => intro _ _ _ h; exact h
      | F => intro _ _ _ h; exact h
      | B => intro _ _ _ h; exact h
      | E => intro _ _ _ h; exact h
      | I p => intro _ _ _ h; exact h
      | T => intro _ _ _ h; exact h
      | K => intro _ _ _ h; exact h
      | Q => intro _ _ _ h; exact h
      | M p => intro _ _ _ h; exact h
      | U u => intro _ _ _ h; exact u.cf h
      | L k ih =>
        intro d v S ⟨p, vs, ds, S', e1, e2, hc, ha⟩
        exact ⟨p, vs, ds, S', e1, e2, hc, ha.imp fun _ _ _ _ h => ih h⟩
    exact aux r, st.own, st.nd, st.dis, st.sB, s.trans st.sG, st.sH, fun b o h => by
    rcases st.new b o h with z | z
    · exact n b o z
    · exact .inr z⟩
theorem St.toG {c : Cf} {σ : L2.St} {H G : Hp} {Ss : Nat → List Addr} (st : St c κ en σ H G Ss) : St ⟨c.K, c.mg, c.B, G⟩ κ en σ H G Ss :=
  ⟨st.ln, fun i k h1 h2 => by
    obtain ⟨v, d, e1, e2, r⟩ := st.slot i k h1 h2
    refine ⟨v, d, e1, e2, ?_⟩
    have aux : ∀ {k : Kd} {d : D} {v : V} {S : List Addr}, RepK c H G k d v S → RepK ⟨c.K, c.mg, c.B, G⟩ H G k d v S := by
      intro k
      induction k with
      | N => intro _ _ _ h; exact h
      | F => intro _ _ _ h; exact h
      | B => intro _ _ _ h; exact h
      | E => intro _ _ _ h; exact h
      | I p => intro _ _ _ h; exact h
      | T => intro _ _ _ h; exact h
      | K => intro _ _ _ h; exact h
      | Q => intro _ _ _ h; exact h
      | M p => intro _ _ _ h; exact h
      | U u => intro _ _ _ h; exact u.cf h
      | L k ih =>
        intro d v S ⟨p, vs, ds, S', e1, e2, hc, ha⟩
        exact ⟨p, vs, ds, S', e1, e2, hc, ha.imp fun _ _ _ _ h => ih h⟩
    exact aux r, st.own, st.nd, st.dis, st.sB, .refl _, st.sH, fun b o h => .inl h⟩
theorem mS.reG {c : Cf} {G1 : Hp} {Dn : Ends} (m : mS W c δ Dn s) (q : Same c.G0 G1) (n : ∀ b o, G1 b = some o → c.G0 b = some o ∨ c.B b = none) : mS W ⟨c.K, c.mg, c.B, G1⟩ δ Dn s := by
  have rvB : ∀ {H0 H G : Hp} {k : RK} {d : D} {v : V} {S : List Addr}, RV ⟨c.K, c.mg, c.B, G1⟩ H0 H G k d v S → RV c H0 H G k d v S := by
    intro H0 H G k d v S h
    have aux : ∀ {k : Kd} {d : D} {v : V} {S : List Addr}, RepK ⟨c.K, c.mg, c.B, G1⟩ H G k d v S → RepK c H G k d v S := by
      intro k
      induction k with
      | N => intro _ _ _ h; exact h
      | F => intro _ _ _ h; exact h
      | B => intro _ _ _ h; exact h
      | E => intro _ _ _ h; exact h
      | I p => intro _ _ _ h; exact h
      | T => intro _ _ _ h; exact h
      | K => intro _ _ _ h; exact h
      | Q => intro _ _ _ h; exact h
      | M p => intro _ _ _ h; exact h
      | U u => intro _ _ _ h; exact u.cf h
      | L k ih =>
        intro d v S ⟨p, vs, ds, S', e1, e2, hc, ha⟩
        exact ⟨p, vs, ds, S', e1, e2, hc, ha.imp fun _ _ _ _ h => ih h⟩
    cases k with
    | O q => exact ⟨aux h.1, h.2⟩
    | _ => exact h
  cases s with
  | bad => exact m
  | exc x => exact fun cv xd κ en σ H G Ss st he hv => m cv xd κ en σ H G Ss (st.reG q n) he hv
  | ok a =>
    refine ⟨fun κ en σ H G Ss st z => m.1 κ en σ H G Ss (st.reG q n) z, fun k d v H G S a1 rv z => m.2.1 k d v H G S ⟨a1.1, q.trans a1.2.1, a1.2.2.1, fun b o h => ?_⟩ (rvB rv) z, fun κ en σ H G Ss st z => m.2.2.1 κ en σ H G Ss (st.reG q n) z, fun κ en σ H G Ss st z => m.2.2.2 κ en σ H G Ss (st.reG q n) z⟩
    rcases a1.2.2.2 b o h with z | z
    · exact n b o z
    · exact .inr z
theorem sv_forX {tg iter : Expr} {k : RK} {ri : R (List D)} {ρ : Type} {u : D → R ρ} {js : List Nat} {vs : ρ → List D} {ke : Kd} {f : ρ → τ → R (Lp τ α)} {g : τ → R α} (κL : List Kd) (vw : τ → List D) (t0 : τ)
    (hi : EI X W B G0 κ en tg iter k ri) (ht : Tg X tg k ρ u js vs ke) (h0 : Wk κ en κL (vw t0)) (hb : ∀ G0 p t, SV X W B G0 (setK κL js ke) (setL (vw t) js (vs p)) body (δ.loopX κL vw) (f p t)) (hr : ∀ t, SV X W B G0 κL (vw t) rest δ (g t))
    (hp : PassesOwn (model X.prog X.w) X.A X.env X.xe) (hc : X.calm = true := by rfl) (hk : rig k = true := by rfl) (hj : ∀ j ∈ js, j < κL.length := by first | decide | simp) (hex : δ.ex κ en := by exact True.intro) (hexL : ∀ t, δ.ex κL (vw t) := by exact fun _ => True.intro)
    (hs : ∀ x, foldedSetIterable iter X.env x = pure x := by intro _; rfl) :
    SV X W B G0 κ en (.For tg iter body [] pos :: rest) δ (ri.bind fun xs => (rForX xs t0 fun x t => (u x).bind fun p => f p t).bind (Go.thn g)) := by
  obtain ⟨hux, gt, pg, hgt⟩ := ht
  have hbody : PSs X body (fun Dn σ H => ∃ q : Hp × ρ × τ, tSV W ⟨X.K, X.mg, B, q.1⟩ (setK κL js ke) (setL (vw q.2.2) js (vs q.2.1)) (δ.loopX κL vw) (f q.2.1 q.2.2) Dn σ H) := PSs.all fun q => (hb q.1 q.2.1 q.2.2).ps
  have hrest : PSs X rest (fun Dn σ H => ∃ t, tSV W (cf X B G0) κL (vw t) δ (g t) Dn σ H) := PSs.all fun t => (hr t).ps
  refine ⟨PSs.wk (pss_cons (ps_for hp hc hi.pi pg hbody hs) hrest) fun Dn σ H ⟨G, Ss, st, m⟩ => ⟨G, Ss, st, mS.toR st m hex fun xs H1 G1 a st1 m1 J wk => ?_⟩⟩
  have q1 : Same (cf X B G0).G0 G1 := st1.sG
  have n1 := st1.new
  refine ⟨fun i mm σ H => i ≤ xs.length ∧ mm = xs.length - i ∧ ∃ t G Ss, St ⟨X.K, X.mg, B, G1⟩ κL (vw t) σ H G Ss ∧ mS W (cf X B G0) δ Dn ((rForX (xs.drop i) t fun x t => (u x).bind fun p => f p t).bind (Go.thn g)),
    ⟨xs.length, Nat.zero_le _, by simp, t0, G1, Ss, (st1.toG).weak h0, by simpa using m1⟩, ?_⟩
  rintro i mm σ2 H2 ⟨hi2, rfl, t, G2, Ss2, st2, m2⟩
  obtain ⟨wstop, wgo⟩ := wk H2 G2 st2.sG st2.sH st2.sB
  rcases Nat.lt_or_ge i xs.length with hlt | hge
  · have hd : xs[i]? = some xs[i] := List.getElem?_eq_getElem hlt
    obtain ⟨jgo, jy⟩ := wgo i _ hd
    refine .inr ⟨jgo, fun σ' H' => i + 1 ≤ xs.length ∧ ∃ t G Ss, St ⟨X.K, X.mg, B, G1⟩ κL (vw t) σ' H' G Ss ∧ mS W (cf X B G0) δ Dn ((rForX (xs.drop (i + 1)) t fun x t => (u x).bind fun p => f p t).bind (Go.thn g)), fun σ' H' ⟨h1, z⟩ => ⟨xs.length - (i + 1), by omega, h1, rfl, z⟩, fun x H' y => ?_⟩
    obtain ⟨G3, a3, rv3⟩ := jy x H' y
    have st3 := st2.adv a3
    rw [List.drop_eq_getElem_cons hlt] at m2
    have m3 : mS W (cf X B G0) δ Dn ((((u xs[i]).bind fun p => f p t).bind (Lp.on fun t => rForX (xs.drop (i + 1)) t fun x t => (u x).bind fun p => f p t)).bind (Go.thn g)) := m2
    cases eu : u xs[i] with
    | bad => rw [eu] at m3; exact m3.elim
    | exc x => exact (hux _ _ eu).elim
    | ok p =>
      rw [eu] at m3
      have m4 : mS W (cf X B G0) δ Dn (((f p t).bind (Lp.on fun t => rForX (xs.drop (i + 1)) t fun x t => (u x).bind fun p => f p t)).bind (Go.thn g)) := m3
      rw [R.bind_assoc] at m4
      refine hgt B G1 κL (vw t) σ2 H' H2 G3 Ss2 xs[i] x p _ st3 (rv3.g0 hk) eu hj fun σ4 Ss4 _ st4 => ?_
      refine ⟨⟨G1, p, t⟩, G3, Ss4, st4, ?_⟩
      cases ef : f p t with
      | bad => rw [ef] at m4; exact m4.elim
      | exc x =>
        rw [ef] at m4
        exact fun cv xd κ en σ H G Ss st he hv => m4 cv xd κ en σ H G Ss (st.reG q1 n1) he hv
      | ok l =>
        rw [ef] at m4
        cases l with
        | nx t' =>
          have m5 : mS W (cf X B G0) δ Dn ((rForX (xs.drop (i + 1)) t' fun x t => (u x).bind fun p => f p t).bind (Go.thn g)) := m4
          refine ⟨fun κ en σ H G Ss st ⟨t'', e, w⟩ => ?_, fun _ _ _ _ _ _ _ _ ⟨_, e, _⟩ => (nomatch e), fun _ _ _ _ _ _ _ ⟨_, e, _⟩ => (nomatch e), fun κ en σ H G Ss st ⟨t'', e, w⟩ => ?_⟩
          · cases e
            exact ⟨hlt, t', G, Ss, st.weak w, m5⟩
          · cases e
            exact ⟨hlt, t', G, Ss, st.weak w, m5⟩
        | bk t' =>
          have m5 : mS W (cf X B G0) δ Dn (g t') := m4
          refine ⟨fun _ _ _ _ _ _ _ ⟨_, e, _⟩ => (nomatch e), fun _ _ _ _ _ _ _ _ ⟨_, e, _⟩ => (nomatch e), fun κ en σ H G Ss st ⟨t'', e, w⟩ => ?_, fun _ _ _ _ _ _ _ ⟨_, e, _⟩ => (nomatch e)⟩
          cases e
          exact ⟨t', G, Ss, (st.reG q1 n1).weak w, m5⟩
        | out a' =>
          have m5 : mS W ⟨X.K, X.mg, B, G1⟩ δ Dn (.ok a') := mS.reG (c := cf X B G0) (show mS W (cf X B G0) δ Dn (.ok a') from m4) q1 n1
          refine ⟨fun _ _ _ _ _ _ _ ⟨_, e, _⟩ => (nomatch e), fun k d v H G S a1 rv ⟨a'', e, z⟩ => ?_, fun _ _ _ _ _ _ _ ⟨_, e, _⟩ => (nomatch e), fun _ _ _ _ _ _ _ ⟨_, e, _⟩ => (nomatch e)⟩
          cases e
          exact m5.2.1 k d v H G S a1 rv z
  · have e : i = xs.length := by omega
    subst e
    refine .inl ⟨wstop _ (Nat.le_refl _), t, G2, Ss2, st2.reG q1 n1, ?_⟩
    rw [List.drop_length] at m2
    exact m2
theorem SV.map {β : Type} {sts : List Stmt} {δ : DE α} {δ' : DE β} {s : R α} (h : SV X W B G0 κ en sts δ s) (f : α → β) (nx : ∀ κ en a, δ.nx κ en a → δ'.nx κ en (f a)) (rt : ∀ k d a, δ.rt k d a → δ'.rt k d (f a)) (ex : ∀ κ en, δ.ex κ en → δ'.ex κ en)
    (bk : ∀ κ en a, δ.bk κ en a → δ'.bk κ en (f a)) (ct : ∀ κ en a, δ.ct κ en a → δ'.ct κ en (f a)) : SV X W B G0 κ en sts δ' (s.bind fun a => .ok (f a)) :=
  ⟨PSs.wk h.ps fun Dn σ H ⟨G, Ss, st, m⟩ => ⟨G, Ss, st, by
    cases s with
    | bad => exact m
    | exc x => exact fun cv xd κ en σ H G Ss st he hv => m cv xd κ en σ H G Ss st (ex κ en he) hv
    | ok a =>
      have m' : mS W (cf X B G0) δ' Dn (.ok (f a)) := m
      exact ⟨fun κ en σ H G Ss st z => m'.1 κ en σ H G Ss st (nx _ _ _ z), fun k d v H G S a1 rv z => m'.2.1 k d v H G S a1 rv (rt _ _ _ z), fun κ en σ H G Ss st z => m'.2.2.1 κ en σ H G Ss st (bk _ _ _ z), fun κ en σ H G Ss st z => m'.2.2.2 κ en σ H G Ss st (ct _ _ _ z)⟩⟩⟩
theorem rForX_for {α : Type} {f : D → τ → R τ} {g : τ → R α} : ∀ {xs : List D} {t : τ}, (rForX xs t fun x t => (f x t).bind fun t => .ok (.nx t)).bind (Go.thn g) = (rFor xs t f).bind g
  | [], t => rfl
  | x :: xs, t => by
    show ((((f x t).bind fun t => .ok (.nx t)).bind (Lp.on fun t => rForX xs t fun x t => (f x t).bind fun t => .ok (.nx t))).bind (Go.thn g)) = ((f x t).bind fun t => rFor xs t f).bind g
    cases f x t with
    | bad => rfl
    | exc e => rfl
    | ok t' => exact rForX_for (xs := xs) (t := t')
theorem sv_for {tg iter : Expr} {k : RK} {ri : R (List D)} {ρ : Type} {u : D → R ρ} {js : List Nat} {vs : ρ → List D} {ke : Kd} {f : ρ → τ → R τ} {g : τ → R α} (κL : List Kd) (vw : τ → List D) (t0 : τ)
    (hi : EI X W B G0 κ en tg iter k ri) (ht : Tg X tg k ρ u js vs ke) (h0 : Wk κ en κL (vw t0)) (hb : ∀ G0 p t, SV X W B G0 (setK κL js ke) (setL (vw t) js (vs p)) body (δ.loop κL vw) (f p t)) (hr : ∀ t, SV X W B G0 κL (vw t) rest δ (g t))
    (hp : PassesOwn (model X.prog X.w) X.A X.env X.xe) (hc : X.calm = true := by rfl) (hk : rig k = true := by rfl) (hj : ∀ j ∈ js, j < κL.length := by first | decide | simp) (hex : δ.ex κ en := by exact True.intro) (hexL : ∀ t, δ.ex κL (vw t) := by exact fun _ => True.intro)
    (hs : ∀ x, foldedSetIterable iter X.env x = pure x := by intro _; rfl) :
    SV X W B G0 κ en (.For tg iter body [] pos :: rest) δ (ri.bind fun xs => (rFor xs t0 fun x t => (u x).bind fun p => f p t).bind g) := by
  have h := sv_forX (δ := δ) (pos := pos) (rest := rest) (f := fun p t => (f p t).bind fun t => .ok (.nx t)) (g := g) κL vw t0 hi ht h0 (fun G0 p t => (hb G0 p t).map Lp.nx (fun κ en a w => ⟨a, rfl, w⟩) (fun _ _ _ z => z.elim) (fun _ _ z => z) (fun _ _ _ z => z.elim) fun κ en a w => ⟨a, rfl, w⟩) hr hp hc hk hj hex hexL hs
  refine h.cast ?_
  congr 1
  funext xs
  rw [← rForX_for]
  congr 2
  funext x t
  rw [R.bind_assoc]
theorem sv_for1 {tg iter : Expr} {k : RK} {ri : R (List D)} {i : Nat} {f : D → τ → R τ} {g : τ → R α} (κL : List Kd) (vw : τ → List D) (t0 : τ)
    (hi : EI X W B G0 κ en tg iter k ri) (ht : Tg X tg k D (fun d => .ok d) [i] (fun d => [d]) (slotOf k)) (h0 : Wk κ en κL (vw t0)) (hb : ∀ G0 p t, SV X W B G0 (κL.set i (slotOf k)) ((vw t).set i p) body (δ.loop κL vw) (f p t)) (hr : ∀ t, SV X W B G0 κL (vw t) rest δ (g t))
    (hp : PassesOwn (model X.prog X.w) X.A X.env X.xe) (hc : X.calm = true := by rfl) (hk : rig k = true := by rfl) (hj : i < κL.length := by first | decide | simp) (hex : δ.ex κ en := by exact True.intro) (hexL : ∀ t, δ.ex κL (vw t) := by exact fun _ => True.intro)
    (hs : ∀ x, foldedSetIterable iter X.env x = pure x := by intro _; rfl) :
    SV X W B G0 κ en (.For tg iter body [] pos :: rest) δ (ri.bind fun xs => (rFor xs t0 f).bind g) :=
  sv_for κL vw t0 hi ht h0 hb hr hp hc hk (fun j h => by
    have e : j = i := by simpa using h
    subst e
    exact hj) hex hexL hs
theorem sv_forX1 {tg iter : Expr} {k : RK} {ri : R (List D)} {i : Nat} {f : D → τ → R (Lp τ α)} {g : τ → R α} (κL : List Kd) (vw : τ → List D) (t0 : τ)
    (hi : EI X W B G0 κ en tg iter k ri) (ht : Tg X tg k D (fun d => .ok d) [i] (fun d => [d]) (slotOf k)) (h0 : Wk κ en κL (vw t0)) (hb : ∀ G0 p t, SV X W B G0 (κL.set i (slotOf k)) ((vw t).set i p) body (δ.loopX κL vw) (f p t)) (hr : ∀ t, SV X W B G0 κL (vw t) rest δ (g t))
    (hp : PassesOwn (model X.prog X.w) X.A X.env X.xe) (hc : X.calm = true := by rfl) (hk : rig k = true := by rfl) (hj : i < κL.length := by first | decide | simp) (hex : δ.ex κ en := by exact True.intro) (hexL : ∀ t, δ.ex κL (vw t) := by exact fun _ => True.intro)
    (hs : ∀ x, foldedSetIterable iter X.env x = pure x := by intro _; rfl) :
    SV X W B G0 κ en (.For tg iter body [] pos :: rest) δ (ri.bind fun xs => (rForX xs t0 f).bind (Go.thn g)) :=
  sv_forX κL vw t0 hi ht h0 hb hr hp hc hk (fun j h => by
    have e : j = i := by simpa using h
    subst e
    exact hj) hex hexL hs
end
end Lw
namespace Lw
open PySem PySem.Spec PyProof.Rows L2
section
variable {c : Cf} {κ : List Kd} {en : List D} {σ : L2.St} {H G : Hp} {Ss : Nat → List Addr} {k : Kd} {i : Nat} {p : Addr} {o : HO} {d d' : D} {v : V}
theorem St.put (s : St c κ en σ H G Ss) (hk : κ[i]? = some k) (hn : k ≠ .N) (hp : p ∈ Ss i) (hv : σ[i]? = some (some v)) (h : RepK c (upd H p o) G k d' v (Ss i)) : St c κ (en.set i d') σ (upd H p o) G Ss := by
  obtain ⟨g0, b0, u, hu⟩ := s.own i p hp
  have hi : i < en.length := by rw [s.ln.2]; exact (List.getElem?_eq_some_iff.mp hk).1
  refine ⟨by simpa using s.ln, fun j q hj hq => ?_, fun j x hx => ?_, s.nd, s.dis, fun b w hb => ?_, s.sG, fun b w hb => ?_, s.new⟩
  · by_cases e : j = i
    · subst e
      rw [hk] at hj; cases hj
      exact ⟨v, d', hv, List.getElem?_set_self hi, h⟩
    · obtain ⟨v', e', h1, h2, h3⟩ := s.slot j q hj hq
      refine ⟨v', e', h1, by rw [List.getElem?_set_ne (Ne.symm e)]; exact h2, h3.at_ (fun x hx w hw => ?_) (.refl _)⟩
      rw [upd_ne (fun z => by rw [z] at hx; exact s.dis j i p e hx hp)]
      exact hw
  · obtain ⟨h1, h2, w, h3⟩ := s.own j x hx
    refine ⟨h1, h2, ?_⟩
    by_cases e : x = p
    · subst e; exact ⟨o, upd_same⟩
    · exact ⟨w, by rw [upd_ne e]; exact h3⟩
  · rw [upd_ne (fun z => by rw [z, b0] at hb; cases hb)]
    exact s.sB _ _ hb
  · rw [upd_ne (fun z => by rw [z, g0] at hb; cases hb)]
    exact s.sH _ _ hb
theorem St.ownL (s : St c κ en σ H G Ss) (hk : κ[i]? = some (.L .F)) (he : en[i]? = some d) : ∃ p vs ds, σ[i]? = some (some (.ref p)) ∧ Ss i = [p] ∧ Cont H p d ds vs ∧ Reps c.K c.mg G ds vs := by
  obtain ⟨v, d1, h1, h2, p, vs, ds, S', e1, e2, hc, ha⟩ := s.slot i _ hk (by intro z; cases z)
  rw [he] at h2; cases h2
  subst e1
  have e3 : S' = [] := by
    have aux : ∀ {ds : List D} {vs : List V} {S : List Addr}, AllR (RepK c H G .F) ds vs S → S = [] := by
      intro ds
      induction ds with
      | nil => intro vs S h; exact h.2
      | cons d ds ih =>
        intro vs S ⟨v, r, S1, S2, q1, q2, q3, q4⟩
        rw [q2, q3.2, ih q4] <;> rfl
    exact aux ha
  exact ⟨p, vs, ds, h1, by rw [e2, e3], hc, ha.reps fun _ _ _ z => z.1⟩
theorem RepK.ofL {vs : List V} {ds : List D} (hc : Cont H p d ds vs) (r : Reps c.K c.mg G ds vs) : RepK c H G (.L .F) d (.ref p) [p] := ⟨p, vs, ds, [], rfl, rfl, hc, AllR.frozen r⟩
end
def toL : D → R (List D)
  | .lst xs => .ok xs
  | _ => .bad
def appL (xs : List D) (d : D) : R D := if xs.length < 16777216 then .ok (.lst (xs ++ [d])) else .bad
section
variable {α τ : Type} {X : Cx} {W : WX} {B G0 : Hp} {κ : List Kd} {en : List D} {e e2 : Expr} {k k2 : RK} {r r2 : R D} {δ : DE α} {pos : Pos} {rest : List Stmt} {d0 : D}
theorem sv_app {i : Nat} {x : Str} {px ap cp : Pos} {f : D → R α} (p : PE X (.Name x px) (tVar i)) (he : EV X W B G0 κ en e .F r) (hr : ∀ d, SV X W B G0 κ (en.set i d) rest δ (f d)) (hk : κ[i]? = some (.L .F) := by rfl) (hd : en[i]? = some d0 := by rfl)
    (hex : δ.ex κ en := by exact True.intro) (hs : swapsWith (.Call (.Attribute (.Name x px) "append" ap) [e] [] cp) none pos.line X.env = pure false := by rfl)
    (hbase : attributeBase (.Name x px) "append" X.env (eval (.Name x px) X.env) = eval (.Name x px) X.env := by rfl)
    (hfew : ((backTo cp (starEach [e] X.env)).all (fun x => !x.1) && (backToKw cp (keywordEach [] X.env)).all (fun x => x.1.isSome) && decide ([e].length + ([] : List Keyword).length + (if ([] : List Keyword).isEmpty then 0 else 1) < 30)) = true := by rfl)
    (hline : (ap.endLine == cp.line) = true := by rfl) (hst : starEach [e] X.env = (false, eval e X.env) :: starEach [] X.env := by rfl) (hpl : (backTo cp (starEach [] X.env)).any (·.1) = false := by rfl) :
    SV X W B G0 κ en (.Expr (.Call (.Attribute (.Name x px) "append" ap) [e] [] cp) pos :: rest) δ ((toL d0).bind fun xs => r.bind fun d => (appL xs d).bind f) :=
  ⟨PSs.wk (pss_cons (ps_expr (pe_bm PySem.F.plainAttrs_list PySem.F.slot_list_append PySem.F.type_list_append mt_append p (pa_cons he.pe pa_nil hst) hbase hfew hline hst hpl) hs) (PSs.all fun d => (hr d).ps)) fun Dn σ H ⟨G, Ss, st, m⟩ => by
    obtain ⟨p, vs, ds, hv, hS, hc, rs⟩ := st.ownL hk hd
    cases d0 with
    | lst xs =>
      cases hc with
      | lst hp =>
        refine ⟨_, hv, .inl ⟨rfl, vs, SqL.of hp⟩, G, Ss, st, mS.toR st m hex fun d H1 G1 a st1 m1 v S rv => ?_⟩
        have hp1 := a.1 _ _ hp
        have m2 : mS W (cf X B G0) δ Dn ((if ds.length < 16777216 then .ok (.lst (ds ++ [d])) else R.bad).bind f) := m1
        by_cases hl : ds.length < 16777216
        · rw [if_pos hl] at m2
          refine ⟨p, vs, v, rfl, rfl, hp1, by rw [sizeLine_eq, ← rs.length]; exact hl, .lst (ds ++ [d]), G1, Ss, ?_, m2⟩
          exact st1.put hk (by intro z; cases z) (by rw [hS]; exact List.mem_cons_self) hv (by
            rw [hS]
            exact RepK.ofL (.lst upd_same) ((rs.mono a.2.1).snoc rv.1))
        · rw [if_neg hl] at m2
          exact m2.elim
    | _ => exact m.elim⟩
def setL1 (xs : List D) (i d : D) : R D := match i with
  | .int k => match ixN xs.length k with
    | some j => .ok (.lst (xs.set j d))
    | none => .bad
  | _ => .bad
def ExD (K : PySem.W.Frag) (mg : Str → Option Value) (x : Str) : Prop :=
  ∃ C, mg x = some (.ref C) ∧ PySem.W.excIn K C [.type "ValueError", .type "Exception", .type "BaseException", .type "object"] "ValueError.__new__" = true ∧ PySem.W.keepIn K (.ref C) = true ∧ PySem.W.subIn K (.ref C) (.type "BaseException") = some true ∧ PySem.W.typeIn K (.ref C) = some (.type "type")
theorem sv_raise {x z : Str} {j : Nat} {zp px cp : Pos} (F : ExD X.K X.mg x) (tk : Takes X W) (hc : X.calm = true := by rfl) (hex : δ.ex κ en := by exact True.intro) (hg : Gl X x := by rfl) (hdb : (x == ("__debug__" : Str)) = false := by decide) :
    SV X W B G0 κ en (.Raise (some (.Call (.Name x px) [.Constant (.str z) j zp] [] cp)) none pos :: rest) δ (.exc ⟨x, [], []⟩) := by
  obtain ⟨C, gC, xC, kC, bC, tC⟩ := F
  exact ⟨PSs.wk (pss_cons (ps_raise hc tk (pmk_own PySem.F.excBase_ValueError xC gC kC (raises_own bC tC) hg (hdb := hdb))) pss_never) fun Dn σ H ⟨G, Ss, st, m⟩ => m _ _ κ en σ H G Ss st hex ⟨⟨C, gC, rfl⟩, .inl ⟨rfl, rfl, rfl⟩⟩⟩
end
section
variable {P : Program} {w : World} {K : PySem.W.Frag} {mg : Str → Option Value} {base : Heap}
def PK.kd : PK → Kd
  | .F => .F
  | .B => .B
  | .E => .E
def pkK : List PK → List Kd := List.map PK.kd
def kStart (pk : List PK) (n : Nat) : List Kd := pkK pk ++ List.replicate (n - pk.length) .N
def dStart (ds : List D) (n : Nat) : List D := ds ++ List.replicate (n - ds.length) .non
theorem ArgsR.length {H G : Hp} : ∀ {pk : List PK} {ds : List D} {vs : List V}, ArgsR K mg H G pk ds vs → pk.length = ds.length ∧ vs.length = ds.length
  | _ :: _, _ :: _, _ :: _, h => by
    obtain ⟨a, b⟩ := ArgsR.length h.2
    exact ⟨by simp [a], by simp [b]⟩
  | [], [], [], _ => ⟨rfl, rfl⟩
  | [], [], _ :: _, h => h.elim
  | [], _ :: _, _, h => h.elim
  | _ :: _, [], _, h => h.elim
  | _ :: _, _ :: _, [], h => h.elim
theorem ArgsR.get {H G : Hp} : ∀ {pk : List PK} {ds : List D} {vs : List V} {i : Nat} {b : PK}, ArgsR K mg H G pk ds vs → pk[i]? = some b → ∃ v d, vs[i]? = some v ∧ ds[i]? = some d ∧ ArgP K mg H G b d v
  | b :: bs, d :: ds, v :: vs, 0, b', h, e => by
    have e' : b = b' := by simpa using e
    subst e'
    exact ⟨v, d, rfl, rfl, h.1⟩
  | b :: bs, d :: ds, v :: vs, i + 1, b', h, e => by
    obtain ⟨v', d', h1, h2, h3⟩ := ArgsR.get (i := i) h.2 (by simpa using e)
    exact ⟨v', d', by simpa using h1, by simpa using h2, h3⟩
  | [], _, _, _, _, _, e => by simp at e
  | _ :: _, [], _, _, _, h, _ => h.elim
  | _ :: _, _ :: _, [], _, _, h, _ => h.elim
theorem St.start {H G : Hp} {pk : List PK} {ds : List D} {vs : List V} {N : List Str} (s : Same G H) (a : ArgsR K mg H G pk ds vs) (hl : pk.length ≤ N.length) : St ⟨K, mg, H, G⟩ (kStart pk N.length) (dStart ds N.length) (L2.start N vs) H G (fun _ => []) := by
  obtain ⟨l1, l2⟩ := a.length
  refine ⟨⟨?_, ?_⟩, fun i k hk hn => ?_, fun _ _ h => (by cases h), fun _ => List.Pairwise.nil, fun _ _ _ _ h => (by cases h), .refl _, .refl _, s, fun _ _ h => .inl h⟩
  · unfold L2.start kStart pkK
    simp
    omega
  · unfold dStart kStart pkK
    simp
    omega
  · rcases Nat.lt_or_ge i pk.length with hi | hi
    · unfold kStart at hk
      rw [List.getElem?_append_left (by unfold pkK; simpa using hi)] at hk
      unfold pkK at hk
      rw [List.getElem?_map] at hk
      cases e : pk[i]? with
      | none => rw [e] at hk; cases hk
      | some b =>
        rw [e] at hk
        obtain ⟨v, d, h1, h2, h3⟩ := a.get e
        refine ⟨v, d, ?_, ?_, ?_⟩
        · unfold L2.start
          rw [List.getElem?_append_left (by simp; omega), List.getElem?_map, h1] <;> rfl
        · unfold dStart
          rw [List.getElem?_append_left (by omega), h2]
        · have e2 : b.kd = k := by simpa using hk
          subst e2
          cases b with
          | F => exact ⟨h3, rfl⟩
          | B => exact ⟨h3, rfl⟩
          | E => exact ⟨h3, rfl⟩
    · unfold kStart at hk
      rw [List.getElem?_append_right (by unfold pkK; simpa using hi)] at hk
      have e := List.eq_of_mem_replicate (List.mem_of_getElem? hk)
      exact absurd e hn
theorem fd_ok {x qual : Str} {params : Arguments} {body : List Stmt} {sc : Scope} {fa : Addr} {fd : FuncData} {N ps : List Str} {k : Nat} {f : List D → R D} {pk : List PK} {rk : RK} (F : FunD K x qual params body sc [] [] fa fd) (S : FnScope N ps sc) (hl : pk.length = ps.length) (hN : pk.length ≤ N.length)
    (hb : ∀ (cdv : Value) (A : Around) (outer : List Env) (s : Shared) (H : Hp) (E : XK) (G : Hp) (ds : List D), Room k (A.deeper (envOfC qual sc s.heap.objs.size fa cdv)) → ds.length = ps.length →
      SV (cxOf (L2.CX P w) P w K mg base N qual sc fa cdv A outer s H E) (fun cv xd _ H' => E cv xd H') H G (kStart pk N.length) (dStart ds N.length) body (dDef rk) (f ds)) :
    FnOk P w K mg base (L2.CX P w) (k + 1) fa fd ps (spF K mg f pk rk) := by
  refine F.ok S (fun vs H Q E ⟨G, ds, s, a, m⟩ => ?_) (fun cdv A outer s H vs Q E hr ⟨G, ds, sG, a, m⟩ => ?_)
  · obtain ⟨l1, l2⟩ := a.length
    omega
  · obtain ⟨l1, l2⟩ := a.length
    refine ⟨_, (hb cdv A outer s H E G ds hr (by omega)).ps, G, _, St.start sG a hN, ?_⟩
    cases hf : f ds with
    | bad => rw [hf] at m; exact m.elim
    | exc x =>
      rw [hf] at m
      exact fun cv xd κ en σ H' G' Ss st _ hv => m cv xd H' G' st.adv0 hv
    | ok d =>
      rw [hf] at m
      refine ⟨fun κ en σ H' G' Ss st ⟨e1, e2⟩ => ?_, fun k' d' v H' G' S a1 rv ⟨e1, e2⟩ => ?_, fun _ _ _ _ _ _ _ z => z.elim, fun _ _ _ _ _ _ _ z => z.elim⟩
      · subst e1 e2
        exact m H' G' st.adv0 .non [] ⟨rfl, rfl⟩
      · subst e1 e2
        exact m H' G' a1 v S rv
end
end Lw
namespace Lw
open PySem PySem.Spec PyProof.Rows L2
def FM (P : Program) (w : World) (K : PySem.W.Frag) (mg : Str → Option Value) (base : Heap) (k : Nat) (cl m : Str) (f : List D → R D) (pk : List PK) (rk : RK) : Prop :=
  ∃ C fa fd ps, mg cl = some (.ref C) ∧ Cls K C ∧ Meth K C m fa ∧ Binds K fd ps [] ∧ FnOk P w K mg base (L2.CX P w) k fa fd ps (spF K mg f pk rk)
def asObj (cl m : Str) : D → R D
  | .obj c ns xs => if c = cl ∧ ns.contains m = false then .ok (.obj c ns xs) else .bad
  | _ => .bad
theorem lookup_none {m : Str} : ∀ {fs : List (Str × V)}, (fs.map (·.1)).contains m = false → fs.lookup m = none
  | [], _ => rfl
  | (a, b) :: fs, h => by
    rw [List.map_cons, List.contains_cons] at h
    obtain ⟨h1, h2⟩ := Bool.or_eq_false_iff.mp h
    rw [List.lookup_cons, h1]
    exact lookup_none h2
section
variable {X : Cx} {W : WX} {B G0 : Hp} {κ : List Kd} {en : List D} {e o : Expr} {es : List Expr} {ko rk : RK} {ro : R D} {rs : R (List D)} {f : List D → R D} {q : PK} {pk : List PK} {k : Nat} {cl m : Str} {p pos apos : Pos}
theorem asObj_ok {H : Hp} {d d' : D} {v : V} (r : Rep X.K X.mg H d v) (h : asObj cl m d = .ok d') : d' = d ∧ ∃ a C dx fs, v = .ref a ∧ H a = some (.ins C dx fs) ∧ X.mg cl = some (.ref C) ∧ fs.lookup m = none := by
  cases d with
  | obj c ns xs =>
    have h' : (if c = cl ∧ ns.contains m = false then R.ok (D.obj c ns xs) else .bad) = .ok d' := h
    by_cases z : c = cl ∧ ns.contains m = false
    · rw [if_pos z] at h'
      cases h'
      obtain ⟨a, C, dx, fs, e1, e2, e3, e4, e5⟩ := r
      subst e4
      exact ⟨rfl, a, C, dx, fs, e1, e2, by rw [← z.1]; exact e3, lookup_none z.2⟩
    · rw [if_neg z] at h'; cases h'
  | _ => cases h
theorem ev_meth {pl : Sem Bool} (F : FM X.prog X.w X.K X.mg X.base k cl m f (q :: pk) rk) (hr : Room k X.A) (tk : Takes X W) (ho : EV X W B G0 κ en o ko ro) (ha : EA X W B G0 κ en (e :: es) pk rs) (hq : q = .B ∨ (q = .F ∧ ko = .F)) (hro : rk.out = true := by rfl) (hko : ∀ q, ko ≠ .O q := by intro _ z; cases z)
    (hst : starEach (e :: es) X.env = (false, eval e X.env) :: starEach es X.env := by rfl) (hpl : (backTo pos (starEach es X.env)).any (·.1) = false := by rfl)
    (ht : eval (.Call (.Attribute o m apos) (e :: es) [] pos) X.env = (do
      let ov ← eval o X.env
      standAt apos.atName
      let (f, first) ← holding [ov] (getMethod ov m pl)
      callWith pos f first (backTo pos (starEach (e :: es) X.env)) (backToKw pos (keywordEach [] X.env))) := by rfl) :
    EV X W B G0 κ en (.Call (.Attribute o m apos) (e :: es) [] pos) rk ((ro.bind (asObj cl m)).bind fun d => rs.bind fun ds => f (d :: ds)) := by
  obtain ⟨C, fa, fd, ps, gC, cC, hm, hb, F⟩ := F
  refine ⟨⟨fun pins s σ H Q I ⟨G, Ss, st, m0⟩ => ?_⟩⟩
  rw [R.bind_assoc] at m0
  refine PySem.W.methodCall_KW (pl := pl) (thn (ho.pe.run pins s σ H _ I (tEVb st m0 (fun x H1 => ∃ a dx fs, x = .ref a ∧ H1 a = some (.ins C dx fs) ∧ fs.lookup m = none ∧ tEA W (cf X B G0) κ en pk rs σ H1 fun vs H2 => spF X.K X.mg f (q :: pk) rk (x :: vs) H2 Q (WE W σ)) fun d v H1 G1 S _ a1 st1 rv m1 => ?_)) fun u s1 ⟨x, H1, I1, rx, a, dx, fs, ex, ea, l, z⟩ => ?_) ht
  · have rd := st1.rd rv
    cases hd : asObj cl m d with
    | bad => rw [hd] at m1; exact m1.elim
    | exc x =>
      exfalso
      cases d with
      | obj c ns xs =>
        have h' : (if c = cl ∧ ns.contains m = false then R.ok (D.obj c ns xs) else .bad) = .exc x := hd
        split at h' <;> cases h'
      | _ => cases hd
    | ok d' =>
      rw [hd] at m1
      obtain ⟨rfl, a, C', dx, fs, e1, e2, e3, e4⟩ := asObj_ok rd hd
      rw [gC] at e3; cases e3
      refine ⟨a, dx, fs, e1, e2, e4, G1, Ss, st1, ?_⟩
      have m2 : mR W (cf X B G0) σ H1 G1 (yV (cf X B G0) H1 rk Q) (rs.bind fun ds => f (d' :: ds)) := m1
      refine m2.thn fun ds H2 G2 a2 m3 vs args => ?_
      refine ⟨G2, d' :: ds, a2.2.2.1, ⟨?_, args⟩, mR.toSp (X := X) (B := B) (G0 := G0) (m3.imp fun d H' G' _ b y v S z => y v S (z.back a2.1)) hro⟩
      have rv2 := rv.adv a2 hko
      rcases hq with z | ⟨z, z2⟩
      · subst z
        exact rv2.rep (st1.sB.trans a2.1) a2.2.2.1
      · subst z z2
        exact rv2.1
  · subst ex
    obtain rfl : u = Value.ref a := rx
    refine getmeth_ok I1 ea cC hm l ?_
    refine PySem.W.callWith_K (first := [.ref a]) (h₀ := X.base) I.ok.mod.kin hm.kp (thn (ha.pa.run pos pins s1 σ H1 _ I1 z) fun us s2 ⟨vs, H2, I2, r, q2⟩ => ⟨I2.kIn, ?_⟩) hst hpl
    exact run_fnS (E := WE W) (us := .ref a :: us) (vs := .ref a :: vs) F hr hb (passAt tk σ) I2 (.cons rfl r) q2
def clsOf : D → Str
  | .obj c _ _ => c
  | _ => Str.empty
def dsp (T : List (Str × (List D → R D))) (m : Str) (d : D) : R (List D → R D) := match T.lookup (clsOf d) with
  | some f => (asObj (clsOf d) m d).bind fun _ => .ok f
  | none => .bad
theorem mem_of_lookup {α : Type} {c : Str} {f : α} : ∀ {T : List (Str × α)}, T.lookup c = some f → (c, f) ∈ T
  | [], h => by cases h
  | (a, b) :: T, h => by
    rw [List.lookup_cons] at h
    cases e : (c == a) with
    | true =>
      rw [e] at h
      have e2 : b = f := Option.some.inj h
      rw [beq_iff_eq.mp e, e2]
      exact List.mem_cons_self
    | false =>
      rw [e] at h
      exact List.mem_cons_of_mem _ (mem_of_lookup h)
theorem ev_methT {pl : Sem Bool} {T : List (Str × (List D → R D))} (F : ∀ t ∈ T, FM X.prog X.w X.K X.mg X.base k t.1 m t.2 (q :: pk) rk) (hT : T ≠ []) (hr : Room k X.A) (tk : Takes X W) (ho : EV X W B G0 κ en o ko ro) (ha : EA X W B G0 κ en (e :: es) pk rs) (hq : q = .B ∨ (q = .F ∧ ko = .F)) (hro : rk.out = true := by rfl) (hko : ∀ q, ko ≠ .O q := by intro _ z; cases z)
    (hst : starEach (e :: es) X.env = (false, eval e X.env) :: starEach es X.env := by rfl) (hpl : (backTo pos (starEach es X.env)).any (·.1) = false := by rfl)
    (ht : eval (.Call (.Attribute o m apos) (e :: es) [] pos) X.env = (do
      let ov ← eval o X.env
      standAt apos.atName
      let (f, first) ← holding [ov] (getMethod ov m pl)
      callWith pos f first (backTo pos (starEach (e :: es) X.env)) (backToKw pos (keywordEach [] X.env))) := by rfl) :
    EV X W B G0 κ en (.Call (.Attribute o m apos) (e :: es) [] pos) rk (ro.bind fun d => (dsp T m d).bind fun f => rs.bind fun ds => f (d :: ds)) := by
  have one : ∀ t ∈ T, EV X W B G0 κ en (.Call (.Attribute o m apos) (e :: es) [] pos) rk ((ro.bind (asObj t.1 m)).bind fun d => rs.bind fun ds => t.2 (d :: ds)) := fun t h => ev_meth (F t h) hr tk ho ha hq hro hko hst hpl ht
  cases ro with
  | bad =>
    obtain ⟨t, T', rfl⟩ := List.exists_cons_of_ne_nil hT
    exact one t List.mem_cons_self
  | exc x =>
    obtain ⟨t, T', rfl⟩ := List.exists_cons_of_ne_nil hT
    exact one t List.mem_cons_self
  | ok d =>
    cases hl : T.lookup (clsOf d) with
    | none =>
      obtain ⟨t, T', e⟩ := List.exists_cons_of_ne_nil hT
      have z := one t (by rw [e]; exact List.mem_cons_self)
      refine ⟨PE.wk z.pe fun σ H Q ⟨G, Ss, st, m0⟩ => ?_⟩
      have m' : mR W (cf X B G0) σ H G (yV (cf X B G0) H rk Q) ((dsp T m d).bind fun f => rs.bind fun ds => f (d :: ds)) := m0
      unfold dsp at m'
      rw [hl] at m'
      exact m'.elim
    | some f =>
      have z := one (clsOf d, f) (mem_of_lookup hl)
      refine z.cast ?_
      show ((asObj (clsOf d) m d).bind fun d => rs.bind fun ds => f (d :: ds)) = ((dsp T m d).bind fun f => rs.bind fun ds => f (d :: ds))
      unfold dsp
      rw [hl]
      show _ = (((asObj (clsOf d) m d).bind fun _ => .ok f).bind fun f => rs.bind fun ds => f (d :: ds))
      rw [R.bind_assoc]
      cases ha : asObj (clsOf d) m d with
      | bad => rfl
      | exc x => rfl
      | ok d' =>
        have e : d' = d := by
          cases d with
          | obj c ns xs =>
            have h' : (if c = c ∧ ns.contains m = false then R.ok (D.obj c ns xs) else .bad) = .ok d' := ha
            split at h'
            · cases h'; rfl
            · cases h'
          | _ => cases ha
        rw [e] <;> rfl
end
def MkD (K : PySem.W.Frag) (mg : Str → Option Value) (cl : Str) : Prop :=
  ∃ C, mg cl = some (.ref C) ∧ PySem.W.makesIn K C = true ∧ PySem.W.findIn K (.ref C) "__init__" = some (some (.builtin "object.__init__")) ∧ PySem.W.keepIn K (.ref C) = true
section
variable {X : Cx} {W : WX} {B G0 : Hp} {κ : List Kd} {en : List D} {cl : Str} {p pos : Pos}
theorem pe_mk0 {C : Addr} (gC : X.mg cl = some (.ref C)) (mk : PySem.W.makesIn X.K C = true) (hi : PySem.W.findIn X.K (.ref C) "__init__" = some (some (.builtin "object.__init__"))) (kp : PySem.W.keepIn X.K (.ref C) = true) (hg : Gl X cl) (hdb : (cl == ("__debug__" : Str)) = false := by decide) :
    PE X (.Call (.Name cl p) [] [] pos) (fun σ H Q => ∀ x dx, H x = none → H dx = none → dx ≠ x → Q (.ref x) (upd (upd H dx (.own x)) x (.ins C dx []))) := by
  refine ⟨fun pins s σ H Q I h => ?_⟩
  refine wpAny_Call_Name_kw (ld_glob I hg gC ?_ hdb)
  refine PySem.W.callWith_K0 I.kIn kp ?_
  have hq := h (s.heap.objs.size + 1) s.heap.objs.size (I.hok.fresh (Nat.le_succ _)) (I.hok.fresh (Nat.le_refl _)) (Nat.ne_of_lt (Nat.lt_succ_self _))
  have I2 := Inv.made (C := C) I
  have kp2 : ∀ b o, s.heap.get? b = some o → ((s.heap.push PySem.W.emptyDict).push (PySem.W.instObj C s.heap.objs.size)).get? b = some o := fun b o z => Heap.get?_push_of_some _ (Heap.get?_push_of_some _ z)
  have here : ((s.heap.push PySem.W.emptyDict).push (PySem.W.instObj C s.heap.objs.size)).get? (s.heap.objs.size + 1) = some (PySem.W.instObj C s.heap.objs.size) := by heap_get
  have tp : PySem.W.Looks (model X.prog X.w) ((s.heap.push PySem.W.emptyDict).push (PySem.W.instObj C s.heap.objs.size)) (typeOf (.ref (s.heap.objs.size + 1))) (.ref C) := (PySem.W.Looks.ld here).andThen .now
  have top := (PySem.W.makes_of (M := model X.prog X.w) I.kIn mk).top.keeps kp2
  refine wpAny_call (make_map0 I.kIn mk hi (fun self => PySem.W.Looks.of_pure (PySem.W.oi_bind self)) (codeAny_call_builtin PySem.W.oi_plain PySem.W.entry_oi (PySem.W.check_slot PySem.W.oi_kind PySem.W.oi_split (tp.andThen top) (PySem.W.oi_args _) ?_)))
  rw [PySem.W.oi_run]
  exact wpAny_pure ⟨rfl, ⟨.ref (s.heap.objs.size + 1), _, I2, rfl, hq⟩⟩
theorem ev_mk0 (F : MkD X.K X.mg cl) (hg : Gl X cl := by rfl) (hdb : (cl == ("__debug__" : Str)) = false := by decide) : EV X W B G0 κ en (.Call (.Name cl p) [] [] pos) .F (.ok (.obj cl [] [])) := by
  obtain ⟨C, gC, mk, hi, kp⟩ := F
  refine ⟨PE.wk (pe_mk0 gC mk hi kp hg hdb) fun σ H Q ⟨G, Ss, st, m⟩ x dx hx hdx ne => ?_⟩
  have hx1 : upd H dx (.own x) x = none := by rw [upd_ne (Ne.symm ne)]; exact hx
  have a1 : Adv H G G (upd H dx (.own x)) := Adv.newO st.sH hdx
  have a2 : Adv (upd H dx (.own x)) G (upd G x (.ins C dx [])) (upd (upd H dx (.own x)) x (.ins C dx [])) := Adv.newF a1.2.2.1 hx1
  exact m _ _ (a1.trans a2) (.ref x) [] ⟨⟨x, C, dx, [], rfl, upd_same, gC, rfl, .nil⟩, rfl⟩
end
end Lw
namespace Lw
open PySem PySem.Spec PyProof.Rows L2
def rMapF {ρ : Type} (u : D → R ρ) (t : ρ → R Bool) (f : ρ → R D) : List D → R (List D)
  | [] => .ok []
  | x :: xs => (u x).bind fun p => (t p).bind fun b => if b = true then (f p).bind fun y => (rMapF u t f xs).bind fun ys => .ok (y :: ys) else rMapF u t f xs
def wipeK (κ : List Kd) : List Nat → List Kd
  | [] => κ
  | v :: vs => (wipeK κ vs).set v .N
theorem wipeK_length (κ : List Kd) : ∀ vs : List Nat, (wipeK κ vs).length = κ.length
  | [] => rfl
  | v :: vs => by unfold wipeK; rw [List.length_set, wipeK_length κ vs]
theorem wipeK_get {κ : List Kd} {k : Kd} {i : Nat} : ∀ {vs : List Nat}, (wipeK κ vs)[i]? = some k → k ≠ .N → κ[i]? = some k ∧ i ∉ vs
  | [], h, _ => ⟨h, by simp⟩
  | v :: vs, h, n => by
    unfold wipeK at h
    by_cases hi : v = i
    · subst hi
      rcases Nat.lt_or_ge v (wipeK κ vs).length with hl | hl
      · rw [List.getElem?_set_self hl] at h; cases h; exact absurd rfl n
      · rw [List.getElem?_eq_none (by simpa using hl)] at h; cases h
    · rw [List.getElem?_set_ne hi] at h
      obtain ⟨h1, h2⟩ := wipeK_get h n
      exact ⟨h1, by simp only [List.mem_cons, not_or]; exact ⟨fun e => hi e.symm, h2⟩⟩
theorem St.wipe {c : Cf} {κ : List Kd} {en : List D} {σ : L2.St} {H G : Hp} {Ss : Nat → List Addr} (s : St c κ en σ H G Ss) (vs : List Nat) : St c (wipeK κ vs) en (L2.wipe σ vs) H G Ss :=
  ⟨by rw [wipeK_length, L2.wipe_length]; exact s.ln, fun i k hk hn => by
    obtain ⟨h1, h2⟩ := wipeK_get hk hn
    obtain ⟨v, d, q1, q2, q3⟩ := s.slot i k h1 hn
    exact ⟨v, d, by rw [L2.wipe_out h2]; exact q1, q2, q3⟩, s.own, s.nd, s.dis, s.sB, s.sG, s.sH, s.new⟩
theorem wipe_wipe (σ : L2.St) (vs : List Nat) : wipe (wipe σ vs) vs = wipe σ vs := by
  apply List.ext_getElem?
  intro i
  by_cases hi : i ∈ vs
  · rcases Nat.lt_or_ge i σ.length with hl | hl
    · rw [wipe_get hi (by rw [wipe_length]; exact hl), wipe_get hi hl]
    · rw [List.getElem?_eq_none (by rw [wipe_length, wipe_length]; exact hl), List.getElem?_eq_none (by rw [wipe_length]; exact hl)]
  · rw [L2.wipe_out hi]
abbrev W0 : WX := fun _ _ _ _ => False
structure ETs (X : Cx) (W : WX) (B G0 : Hp) (κ : List Kd) (en : List D) (ifs : List Expr) (r : R Bool) : Prop where
  pts : PTs X ifs (tET W (cf X B G0) κ en r)
section
variable {X : Cx} {W : WX} {B G0 : Hp} {κ : List Kd} {en : List D} {e : Expr} {r : R Bool}
theorem PTs.wk {X : Cx} {es : List Expr} {t t' : TT} (h : PTs X es t) (f : ∀ σ H Q, t' σ H Q → t σ H Q) : PTs X es t' := ⟨fun pins s σ H Q I q => h.run pins s σ H Q I (f σ H Q q)⟩
theorem ets_one (h : ET X W B G0 κ en e r) : ETs X W B G0 κ en [e] r := ⟨pts_one h.pt⟩
theorem ets_nil : ETs X W B G0 κ en [] (.ok true) := ⟨PTs.wk pts_nil fun σ H Q h => h.ret⟩
end
theorem Adv.gone {H G G' H' : Hp} {p : Addr} {o : HO} (a : Adv H G G' H') (hp : H p = some o) (hg : G p = none) : G' p = none := by
  cases q : G' p with
  | none => rfl
  | some u =>
    rcases a.2.2.2 p u q with z | z
    · rw [hg] at z; cases z
    · rw [hp] at z; cases z
theorem Adv.put {H G G' H' : Hp} {p : Addr} {o : HO} (a : Adv H G G' H') (hp : H p = none) (hg : G' p = none) : Adv H G G' (upd H' p o) :=
  ⟨fun b u h => by rw [upd_ne (ne_of_none h hp)]; exact a.1 _ _ h, a.2.1, fun b u h => by rw [upd_ne (ne_of_none h hg)]; exact a.2.2.1 _ _ h, a.2.2.2⟩
section
variable {X : Cx} {W : WX} {B G0 : Hp} {κ : List Kd} {en : List D} {elt tg iter : Expr} {ifs : List Expr} {scope : Scope} {pos : Pos} {own : List (Str × Nat)} {k : RK} {ri : R (List D)} {ρ : Type} {u : D → R ρ} {js : List Nat} {vs : ρ → List D} {ke : Kd} {t : ρ → R Bool} {f : ρ → R D}
def noX {α : Type} : R α → R α
  | .exc _ => .bad
  | r => r
theorem tLc_ev {wi : TI} {g : TG} {σ : L2.St} {H : Hp} {Q : VK} {tt : TT} {te : TE} {G : Hp} {Ss : Nat → List Addr} (st : St (cf X B G0) κ en σ H G Ss)
    (m : mR W (cf X B G0) σ H G (yV (cf X B G0) H (.O (.L .F)) Q) (ri.bind fun xs => (rMapF u (fun p => noX (t p)) (fun p => noX (f p)) xs).bind mkL))
    (hwi : ∀ Z : It → Hp → Prop, mR W (cf X B G0) σ H G (fun xs H' G' => ∀ J, Walks (cf X B G0) k xs J G' → Z J H') ri → wi σ H Z)
    (hux : ∀ d e, u d = .exc e → False) (hk : rig k = true)
    (hg : ∀ (B G0 : Hp) (κ : List Kd) (en : List D) (σ : L2.St) (H H0 G : Hp) (Ss : Nat → List Addr) (d : D) (w : V) (p : ρ) (Q : L2.St → Hp → Prop), St (cf X B G0) κ en σ H G Ss → RV (cf X B G0) H0 H G k d w [] → u d = .ok p →
      (∀ j ∈ js, j < κ.length) → (∀ σ' Ss', (∀ zs : List Nat, (∀ j ∈ js, j ∈ zs) → wipe σ' zs = wipe σ zs) → St (cf X B G0) (setK κ js ke) (setL en js (vs p)) σ' H G Ss' → Q σ' H) → g w σ H Q)
    (hjo : ∀ j ∈ js, j ∈ own.map (·.2)) (hj : ∀ j ∈ js, j < κ.length)
    (htt : ∀ G0 p σ H Q, tET W0 (cf X B G0) (setK (wipeK κ (own.map (·.2))) js ke) (setL en js (vs p)) (t p) σ H Q → ∀ q : ρ, q = p → tt σ H Q)
    (hte : ∀ G0 p σ H Q, tEV W0 (cf X B G0) (setK (wipeK κ (own.map (·.2))) js ke) (setL en js (vs p)) .F (f p) σ H Q → te σ H Q) : tLc wi g tt te (own.map (·.2)) σ H Q := by
  refine hwi _ (m.thn fun xs H1 G1 a m1 J wk D hD => ?_)
  have st1 := st.adv a
  have gD : G1 D = none := a.2.2.1.free hD
  refine ⟨fun i mm H2 => i ≤ xs.length ∧ mm = xs.length - i ∧ ∃ G2 acc ds, Adv H1 G1 G2 H2 ∧ G2 D = none ∧ H2 D = some (.lst acc) ∧ Reps X.K X.mg G2 ds acc ∧
      mR W (cf X B G0) σ H1 G1 (yV (cf X B G0) H (.O (.L .F)) Q) ((rMapF u (fun p => noX (t p)) (fun p => noX (f p)) (xs.drop i)).bind fun ys => mkL (ds ++ ys)),
    ⟨xs.length, Nat.zero_le _, by simp, G1, [], [], Adv.newO a.2.2.1 hD, gD, upd_same, .nil, by simpa using m1⟩, ?_⟩
  rintro i mm H2 ⟨hi, rfl, G2, acc, ds, a2, gD2, hD2, rs, m2⟩
  have st2 := st1.adv a2
  obtain ⟨wstop, wgo⟩ := wk H2 G2 a2.2.1 st2.sH st2.sB
  rcases Nat.lt_or_ge i xs.length with hlt | hge
  · have hd : xs[i]? = some xs[i] := List.getElem?_eq_getElem hlt
    obtain ⟨jgo, jy⟩ := wgo i _ hd
    refine .inr ⟨jgo, fun H3 => i + 1 ≤ xs.length ∧ ∃ G3 acc ds, Adv H1 G1 G3 H3 ∧ G3 D = none ∧ H3 D = some (.lst acc) ∧ Reps X.K X.mg G3 ds acc ∧
      mR W (cf X B G0) σ H1 G1 (yV (cf X B G0) H (.O (.L .F)) Q) ((rMapF u (fun p => noX (t p)) (fun p => noX (f p)) (xs.drop (i + 1))).bind fun ys => mkL (ds ++ ys)), fun H' ⟨h1, z⟩ => ⟨xs.length - (i + 1), by omega, h1, rfl, z⟩, fun x H3 y => ?_⟩
    obtain ⟨G3, a3, rv3⟩ := jy x H3 y
    have st3 := st2.adv a3
    rw [List.drop_eq_getElem_cons hlt] at m2
    have m3 : mR W (cf X B G0) σ H1 G1 (yV (cf X B G0) H (.O (.L .F)) Q) (((u xs[i]).bind fun p => (noX (t p)).bind fun b => if b = true then (noX (f p)).bind fun y => (rMapF u (fun p => noX (t p)) (fun p => noX (f p)) (xs.drop (i + 1))).bind fun ys => .ok (y :: ys) else rMapF u (fun p => noX (t p)) (fun p => noX (f p)) (xs.drop (i + 1))).bind fun ys => mkL (ds ++ ys)) := m2
    cases eu : u xs[i] with
    | bad => rw [eu] at m3; exact m3.elim
    | exc x => exact (hux _ _ eu).elim
    | ok p =>
      rw [eu] at m3
      have st3w := st3.wipe (own.map (·.2))
      have hD3 := a3.1 _ _ hD2
      have gD3 := a3.gone hD2 gD2
      refine hg B G0 _ en _ H3 H2 G3 Ss xs[i] x p _ st3w rv3 eu (fun j h => by rw [wipeK_length]; exact hj j h) fun σ4 Ss4 hw st4 => ⟨(hw _ hjo).trans (wipe_wipe σ _), ?_⟩
      have m4 : mR W (cf X B G0) σ H1 G1 (yV (cf X B G0) H (.O (.L .F)) Q) (((noX (t p)).bind fun b => if b = true then (noX (f p)).bind fun y => (rMapF u (fun p => noX (t p)) (fun p => noX (f p)) (xs.drop (i + 1))).bind fun ys => .ok (y :: ys) else rMapF u (fun p => noX (t p)) (fun p => noX (f p)) (xs.drop (i + 1))).bind fun ys => mkL (ds ++ ys)) := m3
      refine htt G0 p σ4 H3 _ ⟨G3, Ss4, st4, ?_⟩ p rfl
      cases et : t p with
      | bad => rw [et] at m4; exact m4.elim
      | exc x => rw [et] at m4; exact m4.elim
      | ok b =>
        rw [et] at m4
        intro H5 G5 a5
        have a15 : Adv H1 G1 G5 H5 := (a2.trans a3).trans a5
        have hD5 := a5.1 _ _ hD3
        have gD5 := a5.gone hD3 gD3
        cases b with
        | false =>
          exact ⟨hlt, G5, acc, ds, a15, gD5, hD5, rs.mono (a3.2.1.trans a5.2.1), m4⟩
        | true =>
          have m5 : mR W (cf X B G0) σ H1 G1 (yV (cf X B G0) H (.O (.L .F)) Q) (((noX (f p)).bind fun y => (rMapF u (fun p => noX (t p)) (fun p => noX (f p)) (xs.drop (i + 1))).bind fun ys => .ok (y :: ys)).bind fun ys => mkL (ds ++ ys)) := m4
          refine iteT ?_
          refine hte G0 p σ4 H5 _ ⟨G5, Ss4, st4.adv a5, ?_⟩
          cases ef : f p with
          | bad => rw [ef] at m5; exact m5.elim
          | exc x => rw [ef] at m5; exact m5.elim
          | ok yd =>
            rw [ef] at m5
            intro H6 G6 a6 yv S rv6
            have m6 : mR W (cf X B G0) σ H1 G1 (yV (cf X B G0) H (.O (.L .F)) Q) ((rMapF u (fun p => noX (t p)) (fun p => noX (f p)) (xs.drop (i + 1))).bind fun ys => mkL (ds ++ [yd] ++ ys)) := by
              have e : (((R.ok yd).bind fun y => (rMapF u (fun p => noX (t p)) (fun p => noX (f p)) (xs.drop (i + 1))).bind fun ys => .ok (y :: ys)).bind fun ys => mkL (ds ++ ys)) = ((rMapF u (fun p => noX (t p)) (fun p => noX (f p)) (xs.drop (i + 1))).bind fun ys => mkL (ds ++ [yd] ++ ys)) := by
                show ((rMapF u (fun p => noX (t p)) (fun p => noX (f p)) (xs.drop (i + 1))).bind fun ys => .ok (yd :: ys)).bind (fun ys => mkL (ds ++ ys)) = _
                rw [R.bind_assoc]
                congr 1
                funext ys
                simp
              rw [← e]
              exact m5
            have hD6 := a6.1 _ _ hD5
            have gD6 := a6.gone hD5 gD5
            have len : acc.length < sizeLine := by
              rw [← rs.length]
              cases er : rMapF u (fun p => noX (t p)) (fun p => noX (f p)) (xs.drop (i + 1)) with
              | bad => rw [er] at m6; exact m6.elim
              | exc x =>
                exfalso
                have nox : ∀ (zs : List Lw.D) (x : Ex), rMapF u (fun p => noX (t p)) (fun p => noX (f p)) zs = .exc x → False := by
                  intro zs
                  induction zs with
                  | nil => intro x h; cases h
                  | cons z zs ih =>
                    intro x h
                    unfold rMapF at h
                    cases e1 : u z with
                    | bad => rw [e1] at h; cases h
                    | exc y => exact hux _ _ e1
                    | ok p =>
                      rw [e1] at h
                      have h2 : ((noX (t p)).bind fun b => if b = true then (noX (f p)).bind fun y => (rMapF u (fun p => noX (t p)) (fun p => noX (f p)) zs).bind fun ys => .ok (y :: ys) else rMapF u (fun p => noX (t p)) (fun p => noX (f p)) zs) = .exc x := h
                      cases e2 : t p with
                      | bad => rw [e2] at h2; cases h2
                      | exc y => rw [e2] at h2; cases h2
                      | ok b =>
                        rw [e2] at h2
                        cases b with
                        | false => exact ih x h2
                        | true =>
                          have h3 : ((noX (f p)).bind fun y => (rMapF u (fun p => noX (t p)) (fun p => noX (f p)) zs).bind fun ys => .ok (y :: ys)) = .exc x := h2
                          cases e3 : f p with
                          | bad => rw [e3] at h3; cases h3
                          | exc y => rw [e3] at h3; cases h3
                          | ok y =>
                            rw [e3] at h3
                            cases e4 : rMapF u (fun p => noX (t p)) (fun p => noX (f p)) zs with
                            | bad => exact absurd h3 (by rw [show (noX (R.ok y)) = .ok y from rfl]; show ((rMapF u (fun p => noX (t p)) (fun p => noX (f p)) zs).bind fun ys => .ok (y :: ys)) = .exc x → False; rw [e4]; intro q; cases q)
                            | exc y' => exact ih y' e4
                            | ok ys => exact absurd h3 (by show ((rMapF u (fun p => noX (t p)) (fun p => noX (f p)) zs).bind fun ys => .ok (y :: ys)) = .exc x → False; rw [e4]; intro q; cases q)
                exact nox _ _ er
              | ok ys =>
                rw [er] at m6
                have m7 : mR W (cf X B G0) σ H1 G1 (yV (cf X B G0) H (.O (.L .F)) Q) (mkL (ds ++ [yd] ++ ys)) := m6
                unfold mkL at m7
                by_cases hl : (ds ++ [yd] ++ ys).length ≤ 16777216
                · rw [sizeLine_eq]
                  simp at hl
                  omega
                · rw [if_neg hl] at m7; exact m7.elim
            refine ⟨acc, hD6, len, hlt, G6, acc ++ [yv], ds ++ [yd], (a15.trans a6).put hD gD6, gD6, upd_same, ?_, m6⟩
            exact (rs.mono ((a3.2.1.trans a5.2.1).trans a6.2.1)).snoc rv6.1
  · have e : i = xs.length := by omega
    subst e
    refine .inl ⟨wstop _ (Nat.le_refl _), ?_⟩
    rw [List.drop_length] at m2
    have m3 : mR W (cf X B G0) σ H1 G1 (yV (cf X B G0) H (.O (.L .F)) Q) (mkL (ds ++ [])) := m2
    rw [List.append_nil] at m3
    unfold mkL at m3
    by_cases hl : ds.length ≤ 16777216
    · rw [if_pos hl] at m3
      refine m3 H2 G2 a2 (.ref D) [D] ⟨⟨D, acc, ds, [], rfl, rfl, .lst hD2, AllR.frozen rs⟩, by simp, fun q hq => ?_⟩
      have e : q = D := by simpa using hq
      subst e
      exact ⟨a.1.free hD, gD2, _, hD2⟩
    · rw [if_neg hl] at m3; exact m3.elim
def pComp {ρ : Type} (ri : R (List D)) (u : D → R ρ) (t : ρ → R Bool) (f : ρ → R D) : R D := ri.bind fun xs => (rMapF u (fun p => noX (t p)) (fun p => noX (f p)) xs).bind mkL
def TgB (X : Cx) (scope : Scope) (tg : Expr) (k : RK) (ρ : Type) (u : D → R ρ) (js : List Nat) (vs : ρ → List D) (ke : Kd) : Prop :=
  ∃ g, (∀ d e, u d = .exc e → False) ∧ (∀ (s : Shared) (H : Hp) (C : Addr) (cl : List (Str × Addr)) (fp : List Addr), PG (X.blk s H scope (compEnvC scope cl C X.env) fp) tg g) ∧
    ∀ (B G0 : Hp) (κ : List Kd) (en : List D) (σ : L2.St) (H H0 G : Hp) (Ss : Nat → List Addr) (d : D) (w : V) (p : ρ) (Q : L2.St → Hp → Prop), St (cf X B G0) κ en σ H G Ss → RV (cf X B G0) H0 H G k d w [] → u d = .ok p →
    (∀ j ∈ js, j < κ.length) → (∀ σ' Ss', (∀ zs : List Nat, (∀ j ∈ js, j ∈ zs) → wipe σ' zs = wipe σ zs) → St (cf X B G0) (setK κ js ke) (setL en js (vs p)) σ' H G Ss' → Q σ' H) → g w σ H Q
theorem tgb_name {i : Nat} (pg : ∀ (s : Shared) (H : Hp) (C : Addr) (cl : List (Str × Addr)) (fp : List Addr), PG (X.blk s H scope (compEnvC scope cl C X.env) fp) tg (gName i)) (hk : rig k = true := by rfl) : TgB X scope tg k D (fun d => .ok d) [i] (fun d => [d]) (slotOf k) :=
  ⟨gName i, fun _ _ h => (nomatch h), pg, fun B G0 κ en σ H H0 G Ss d w p Q st rv e hj q => by
    cases e
    exact q _ _ (fun zs hz => wipe_set (hz i List.mem_cons_self)) (st.set (.refl st.sH) (rv.refl hk) (hj i List.mem_cons_self))⟩
theorem ev_comp (hc : X.calm = true) (hN : X.N.Nodup) (hi : EI X W B G0 κ en tg iter k ri) (ok : BlkOk X.N X.env.scope scope own)
    (hg : TgB X scope tg k ρ u js vs ke)
    (ht : ∀ (s : Shared) (H : Hp) (C : Addr) (cl : List (Str × Addr)) (fp : List Addr) (G0 : Hp) (p : ρ), ETs (X.blk s H scope (compEnvC scope cl C X.env) fp) W0 B G0 (setK (wipeK κ (own.map (·.2))) js ke) (setL en js (vs p)) ifs (t p))
    (he : ∀ (s : Shared) (H : Hp) (C : Addr) (cl : List (Str × Addr)) (fp : List Addr) (G0 : Hp) (p : ρ), EV (X.blk s H scope (compEnvC scope cl C X.env) fp) W0 B G0 (setK (wipeK κ (own.map (·.2))) js ke) (setL en js (vs p)) elt .F (f p))
    (hk : rig k = true := by rfl) (hjo : ∀ j ∈ js, j ∈ own.map (·.2) := by decide) (hj : ∀ j ∈ js, j < κ.length := by first | decide | simp) (hs : ∀ x, foldedSetIterable iter X.env x = pure x := by intro _; rfl) :
    EV X W B G0 κ en (.ListComp elt [⟨tg, iter, ifs, 0⟩] scope pos) (.O (.L .F)) (pComp ri u t f) := by
  obtain ⟨g, hux, pg, hg⟩ := hg
  have pt : ∀ (s : Shared) (H : Hp) (C : Addr) (cl : List (Str × Addr)) (fp : List Addr), PTs (X.blk s H scope (compEnvC scope cl C X.env) fp) ifs (fun σ H Q => ∃ q : Hp × ρ, tET W0 (cf X B q.1) (setK (wipeK κ (own.map (·.2))) js ke) (setL en js (vs q.2)) (t q.2) σ H Q) :=
    fun s H C cl fp => ⟨fun pins s' σ H' Q I ⟨q, z⟩ => (ht s H C cl fp q.1 q.2).pts.run pins s' σ H' Q I z⟩
  have pe : ∀ (s : Shared) (H : Hp) (C : Addr) (cl : List (Str × Addr)) (fp : List Addr), PE (X.blk s H scope (compEnvC scope cl C X.env) fp) elt (fun σ H Q => ∃ q : Hp × ρ, tEV W0 (cf X B q.1) (setK (wipeK κ (own.map (·.2))) js ke) (setL en js (vs q.2)) .F (f q.2) σ H Q) :=
    fun s H C cl fp => ⟨fun pins s' σ H' Q I ⟨q, z⟩ => (he s H C cl fp q.1 q.2).pe.run pins s' σ H' Q I z⟩
  refine ⟨PE.wk (pe_lc hc hN hi.pi ok pg pt pe hs) fun σ H Q ⟨G, Ss, st, m⟩ => ?_⟩
  exact tLc_ev st m (fun Z z => ⟨G, Ss, st, z⟩) hux hk hg hjo hj (fun G0 p σ H Q z q e => ⟨⟨G0, p⟩, z⟩) fun G0 p σ H Q z => ⟨⟨G0, p⟩, z⟩
theorem sv_setC {α : Type} {δ : DE α} {rest : List Stmt} {i : Nat} {y : Str} {py spos : Pos} {fr : D → R α} (hN : X.N.Nodup) (hi : EI X W B G0 κ en tg iter k ri) (ok : BlkOk X.N X.env.scope scope own)
    (hg : TgB X scope tg k ρ u js vs ke)
    (ht : ∀ (s : Shared) (H : Hp) (C : Addr) (cl : List (Str × Addr)) (fp : List Addr) (G0 : Hp) (p : ρ), ETs (X.blk s H scope (compEnvC scope cl C X.env) fp) W0 B G0 (setK (wipeK κ (own.map (·.2))) js ke) (setL en js (vs p)) ifs (t p))
    (he : ∀ (s : Shared) (H : Hp) (C : Addr) (cl : List (Str × Addr)) (fp : List Addr) (G0 : Hp) (p : ρ), EV (X.blk s H scope (compEnvC scope cl C X.env) fp) W0 B G0 (setK (wipeK κ (own.map (·.2))) js ke) (setL en js (vs p)) elt .F (f p))
    (hr : ∀ d, SV X W B G0 (κ.set i (.L .F)) (en.set i d) rest δ (fr d))
    (hsw : swapsWith (.ListComp elt [⟨tg, iter, ifs, 0⟩] scope pos) (some (.Name y py)) spos.line X.env = pure true)
    (hc : X.calm = true := by rfl) (hy : X.N[i]? = some y := by rfl) (hyl : X.env.scope.names.lookup y = some .local := by rfl) (hκ : i < κ.length := by first | decide | simp) (hex : δ.ex κ en := by exact True.intro)
    (hk : rig k = true := by rfl) (hjo : ∀ j ∈ js, j ∈ own.map (·.2) := by decide) (hj : ∀ j ∈ js, j < κ.length := by first | decide | simp) (hs : ∀ x, foldedSetIterable iter X.env x = pure x := by intro _; rfl) :
    SV X W B G0 κ en (.Assign [.Name y py] (.ListComp elt [⟨tg, iter, ifs, 0⟩] scope pos) spos :: rest) δ ((pComp ri u t f).bind fr) := by
  obtain ⟨g, hux, pg, hg⟩ := hg
  have pt : ∀ (s : Shared) (H : Hp) (C : Addr) (cl : List (Str × Addr)) (fp : List Addr), PTs (X.blk s H scope (compEnvC scope cl C X.env) fp) ifs (fun σ H Q => ∃ q : Hp × ρ, tET W0 (cf X B q.1) (setK (wipeK κ (own.map (·.2))) js ke) (setL en js (vs q.2)) (t q.2) σ H Q) :=
    fun s H C cl fp => ⟨fun pins s' σ H' Q I ⟨q, z⟩ => (ht s H C cl fp q.1 q.2).pts.run pins s' σ H' Q I z⟩
  have pe : ∀ (s : Shared) (H : Hp) (C : Addr) (cl : List (Str × Addr)) (fp : List Addr), PE (X.blk s H scope (compEnvC scope cl C X.env) fp) elt (fun σ H Q => ∃ q : Hp × ρ, tEV W0 (cf X B q.1) (setK (wipeK κ (own.map (·.2))) js ke) (setL en js (vs q.2)) .F (f q.2) σ H Q) :=
    fun s H C cl fp => ⟨fun pins s' σ H' Q I ⟨q, z⟩ => (he s H C cl fp q.1 q.2).pe.run pins s' σ H' Q I z⟩
  refine ⟨PSs.wk (pss_cons (ps_setLc hc hN hy hyl hsw hi.pi ok pg pt pe hs) (PSs.all fun d => (hr d).ps)) fun Dn σ H ⟨G, Ss, st, m⟩ => ?_⟩
  have m' : mR W (cf X B G0) σ H G (yV (cf X B G0) H (.O (.L .F)) fun x H1 => ∃ d, tSV W (cf X B G0) (κ.set i (.L .F)) (en.set i d) δ (fr d) Dn (σ.set i (some x)) H1) (ri.bind fun xs => (rMapF u (fun p => noX (t p)) (fun p => noX (f p)) xs).bind mkL) :=
    mS.toR st m hex fun d H1 G1 a st1 m1 v S rv => ⟨d, G1, _, st.set a rv hκ, m1⟩
  unfold tSeq tAsg
  exact tLc_ev st m' (fun Z z => ⟨G, Ss, st, z⟩) hux hk hg hjo hj (fun G0 p σ H Q z q e => ⟨⟨G0, p⟩, z⟩) fun G0 p σ H Q z => ⟨⟨G0, p⟩, z⟩
end
end Lw
namespace Lw
open PySem PySem.Spec PyProof.Rows L2
def BfD (K : PySem.W.Frag) (mg : Str → Option Value) (r : List V → Hp → VK → Prop) (pk : List PK) (k : RK) (f : List D → R D) : Prop :=
  ∀ (W : WX) (B G0 : Hp) (κ : List Kd) (en : List D) (σ : L2.St) (H G : Hp) (Ss : Nat → List Addr) (Q : VK) (ds : List D) (vs : List V), St ⟨K, mg, B, G0⟩ κ en σ H G Ss → ArgsR K mg H G pk ds vs → mR W ⟨K, mg, B, G0⟩ σ H G (yV ⟨K, mg, B, G0⟩ H k Q) (f ds) → r vs H Q
section
variable {X : Cx} {W : WX} {B G0 : Hp} {κ : List Kd} {en : List D} {e : Expr} {es : List Expr} {k : RK} {rs : R (List D)} {f : List D → R D} {pk : List PK} {x : Str} {p pos : Pos} {r : List V → Hp → VK → Prop} {id T : String}
theorem tCB_ev {σ : L2.St} {H : Hp} {Q : VK} (hf : BfD X.K X.mg r pk k f) (h : tEV W (cf X B G0) κ en k (rs.bind f) σ H Q) : tCB r (tEA W (cf X B G0) κ en pk rs) σ H Q := by
  obtain ⟨G, Ss, st, m⟩ := h
  exact ⟨G, Ss, st, m.thn fun ds H1 G1 a m vs args => hf W B G0 κ en σ H1 G1 Ss Q ds vs (st.adv a) args (m.imp fun d H' G' _ b y v S z => y v S (z.back a.1))⟩
theorem ev_callB (hc : CallR X (.builtin id) r) (hf : BfD X.K X.mg r pk k f) (ha : EA X W B G0 κ en (e :: es) pk rs) (hm : X.mg x = none) (hv : bootBuiltins x = some (.builtin id)) (hg : Gl X x := by rfl) (hn : x ≠ "__name__" := by decide) (hdb : (x == ("__debug__" : Str)) = false := by decide)
    (he : starEach (e :: es) X.env = (false, eval e X.env) :: starEach es X.env := by rfl) (hpl : (backTo pos (starEach es X.env)).any (·.1) = false := by rfl) : EV X W B G0 κ en (.Call (.Name x p) (e :: es) [] pos) k (rs.bind f) :=
  ⟨PE.wk (pe_callB hc hg hm hv ha.pa hn hdb he hpl) fun σ H Q h => tCB_ev hf h⟩
theorem ev_callTy (hc : CallR X (.type T) r) (hf : BfD X.K X.mg r pk k f) (ha : EA X W B G0 κ en (e :: es) pk rs) (hm : X.mg x = none) (hv : bootBuiltins x = some (.type T)) (hg : Gl X x := by rfl) (hn : x ≠ "__name__" := by decide) (hdb : (x == ("__debug__" : Str)) = false := by decide)
    (he : starEach (e :: es) X.env = (false, eval e X.env) :: starEach es X.env := by rfl) (hpl : (backTo pos (starEach es X.env)).any (·.1) = false := by rfl) : EV X W B G0 κ en (.Call (.Name x p) (e :: es) [] pos) k (rs.bind f) :=
  ⟨PE.wk (pe_callTy hc hg hm hv ha.pa hn hdb he hpl) fun σ H Q h => tCB_ev hf h⟩
end
def pLen : List D → R D
  | [.lst xs] => .ok (.int xs.length)
  | [.scr xs] => .ok (.int xs.length)
  | [.tup xs] => .ok (.int xs.length)
  | [.str s] => .ok (.int s.length)
  | _ => .bad
def pMax2 : List D → R D
  | [.int a, .int b] => .ok (.int (if b > a then b else a))
  | _ => .bad
def pMin2 : List D → R D
  | [.int a, .int b] => .ok (.int (if b < a then b else a))
  | _ => .bad
def toInts : List D → Option (List Int)
  | [] => some []
  | .int i :: xs => (toInts xs).map (i :: ·)
  | _ => none
def maxI (a : Int) (xs : List Int) : Int := xs.foldl max a
def minI (a : Int) (xs : List Int) : Int := xs.foldl min a
def pMax1 : List D → R D
  | [.lst xs] => match toInts xs with
    | some (a :: ns) => .ok (.int (maxI a ns))
    | _ => .bad
  | _ => .bad
def pMin1 : List D → R D
  | [.lst xs] => match toInts xs with
    | some (a :: ns) => .ok (.int (minI a ns))
    | _ => .bad
  | _ => .bad
def pSum : List D → R D
  | [.lst xs] => match toInts xs with
    | some ns => .ok (.int ns.sum)
    | _ => .bad
  | _ => .bad
def pInt : List D → R D
  | [.int a] => .ok (.int a)
  | [.bl b] => .ok (.int (if b then 1 else 0))
  | _ => .bad
def pList : List D → R D
  | [.lst xs] => .ok (.lst xs)
  | [.tup xs] => .ok (.lst xs)
  | _ => .bad
def tyOf : D → Option String
  | .non => some "NoneType"
  | .bl _ => some "bool"
  | .int _ => some "int"
  | .str _ => some "str"
  | .lst _ => some "list"
  | .scr _ => some "list"
  | .tup _ => some "tuple"
  | .dct _ _ => some "dict"
  | _ => none
def pIsTy (T : String) (d : D) : R D := match tyOf d with
  | some t => .ok (.bl (t == T || (t == "bool" && T == "int")))
  | none => .bad
theorem maxI_spec : ∀ (xs : List Int) (a : Int), (maxI a xs = a ∨ maxI a xs ∈ xs) ∧ a ≤ maxI a xs ∧ ∀ y ∈ xs, y ≤ maxI a xs
  | [], a => ⟨.inl rfl, by unfold maxI; simp, by simp⟩
  | x :: xs, a => by
    obtain ⟨h1, h2, h3⟩ := maxI_spec xs (max a x)
    have e : maxI a (x :: xs) = maxI (max a x) xs := rfl
    rw [e]
    refine ⟨?_, by omega, fun y hy => ?_⟩
    · rcases h1 with h | h
      · rw [h]
        rcases Int.le_total a x with z | z
        · right; rw [Int.max_eq_right z]; exact List.mem_cons_self
        · left; exact Int.max_eq_left z
      · right; exact List.mem_cons_of_mem _ h
    · rcases List.mem_cons.mp hy with z | z
      · subst z; omega
      · exact h3 y z
theorem minI_spec : ∀ (xs : List Int) (a : Int), (minI a xs = a ∨ minI a xs ∈ xs) ∧ minI a xs ≤ a ∧ ∀ y ∈ xs, minI a xs ≤ y
  | [], a => ⟨.inl rfl, by unfold minI; simp, by simp⟩
  | x :: xs, a => by
    obtain ⟨h1, h2, h3⟩ := minI_spec xs (min a x)
    have e : minI a (x :: xs) = minI (min a x) xs := rfl
    rw [e]
    refine ⟨?_, by omega, fun y hy => ?_⟩
    · rcases h1 with h | h
      · rw [h]
        rcases Int.le_total a x with z | z
        · left; exact Int.min_eq_left z
        · right; rw [Int.min_eq_right z]; exact List.mem_cons_self
      · right; exact List.mem_cons_of_mem _ h
    · rcases List.mem_cons.mp hy with z | z
      · subst z; omega
      · exact h3 y z
section
variable {K : PySem.W.Frag} {mg : Str → Option Value} {H G : Hp} {W : WX} {B G0 : Hp} {κ : List Kd} {en : List D} {σ : L2.St} {Q : VK}
theorem toInts_reps : ∀ {xs : List D} {vs : List V} {ns : List Int}, Reps K mg H xs vs → toInts xs = some ns → vs = ns.map V.int
  | [], vs, ns, r, h => by
    have e : vs = [] := r
    cases h
    exact e
  | x :: xs, _, ns, ⟨v, vs, e, r, rs⟩, h => by
    subst e
    cases x with
    | int i =>
      have h' : (toInts xs).map (i :: ·) = some ns := h
      cases q : toInts xs with
      | none => rw [q] at h'; cases h'
      | some ms =>
        rw [q] at h'
        cases h'
        rw [toInts_reps rs q, (show v = .int i from r)] <;> rfl
    | _ => cases h
theorem mR.int {i : Int} {c : Cf} (m : mR W c σ H G (yV c H .F Q) (.ok (.int i))) (s : Same G H) : Q (.int i) H := m H G (.refl s) (.int i) [] ⟨rfl, rfl⟩
theorem mR.sc {d : D} {v : V} {c : Cf} (m : mR W c σ H G (yV c H .F Q) (.ok d)) (s : Same G H) (r : Rep c.K c.mg H d v) (hs : d.sc = true) : Q v H := m H G (.refl s) v [] ⟨r.sc hs G, rfl⟩
theorem ArgsR.one {b : PK} {ds : List D} {vs : List V} (h : ArgsR K mg H G [b] ds vs) : ∃ d v, ds = [d] ∧ vs = [v] ∧ ArgP K mg H G b d v := by
  match ds, vs, h with
  | [d], [v], h => exact ⟨d, v, rfl, rfl, h.1⟩
  | [], [], h => exact h.elim
  | [], _ :: _, h => exact h.elim
  | _ :: _, [], h => exact h.elim
  | _ :: _ :: _, [_], h => exact h.2.elim
  | [_], _ :: _ :: _, h => exact h.2.elim
  | _ :: _ :: _, _ :: _ :: _, h => exact h.2.elim
theorem ArgsR.two {b c : PK} {ds : List D} {vs : List V} (h : ArgsR K mg H G [b, c] ds vs) : ∃ d v d2 v2, ds = [d, d2] ∧ vs = [v, v2] ∧ ArgP K mg H G b d v ∧ ArgP K mg H G c d2 v2 := by
  match ds, vs, h with
  | d :: ds, v :: vs, h =>
    obtain ⟨d2, v2, rfl, rfl, r⟩ := ArgsR.one h.2
    exact ⟨d, v, d2, v2, rfl, rfl, h.1, r⟩
  | [], [], h => exact h.elim
  | [], _ :: _, h => exact h.elim
  | _ :: _, [], h => exact h.elim
theorem bf_len : BfD K mg (fun xs H Q => ∃ x n, xs = [x] ∧ LenV K x H n ∧ Q (.int n) H) [.B] .F pLen := by
  intro W B G0 κ en σ H G Ss Q ds vs st args m
  obtain ⟨d, v, rfl, rfl, r⟩ := args.one
  cases d with
  | lst xs =>
    obtain ⟨a, ws, e, q, rs⟩ := r
    subst e
    exact ⟨_, _, rfl, .inl ⟨ws, SqL.of q, rs.length⟩, mR.int m st.sH⟩
  | scr xs =>
    obtain ⟨a, ws, e, q, rs⟩ := r
    subst e
    exact ⟨_, _, rfl, .inl ⟨ws, q, rs.length⟩, mR.int m st.sH⟩
  | tup xs =>
    obtain ⟨a, ws, e, q, rs⟩ := r
    subst e
    exact ⟨_, _, rfl, .inr ⟨ws, q, rs.length⟩, mR.int m st.sH⟩
  | str s =>
    obtain ⟨e, ok⟩ := r
    subst e
    exact ⟨_, _, rfl, ⟨by rw [sizeLine_eq]; exact sOk_len ok, rfl⟩, mR.int m st.sH⟩
  | _ => exact m.elim
theorem bf_max2 : BfD K mg (fun xs H Q => ∃ i j, xs = [.int i, .int j] ∧ Q (.int (if j > i then j else i)) H) [.B, .B] .F pMax2 := by
  intro W B G0 κ en σ H G Ss Q ds vs st args m
  obtain ⟨d, v, d2, v2, rfl, rfl, r, r2⟩ := args.two
  cases d with
  | int i =>
    cases d2 with
    | int j => exact ⟨i, j, by rw [(show v = .int i from r), (show v2 = .int j from r2)], mR.int m st.sH⟩
    | _ => exact m.elim
  | _ => cases d2 <;> exact m.elim
theorem bf_min2 : BfD K mg (fun xs H Q => ∃ i j, xs = [.int i, .int j] ∧ Q (.int (if j < i then j else i)) H) [.B, .B] .F pMin2 := by
  intro W B G0 κ en σ H G Ss Q ds vs st args m
  obtain ⟨d, v, d2, v2, rfl, rfl, r, r2⟩ := args.two
  cases d with
  | int i =>
    cases d2 with
    | int j => exact ⟨i, j, by rw [(show v = .int i from r), (show v2 = .int j from r2)], mR.int m st.sH⟩
    | _ => exact m.elim
  | _ => cases d2 <;> exact m.elim
theorem bf_max1 : BfD K mg (rMax K) [.B] .F pMax1 := by
  intro W B G0 κ en σ H G Ss Q ds vs st args m
  obtain ⟨d, v, rfl, rfl, r⟩ := args.one
  cases d with
  | lst xs =>
    obtain ⟨a, ws, e, q, rs⟩ := r
    subst e
    have m2 : mR W ⟨K, mg, B, G0⟩ σ H G (yV ⟨K, mg, B, G0⟩ H .F Q) (match toInts xs with
      | some (a :: ns) => .ok (.int (maxI a ns))
      | _ => .bad) := m
    cases ei : toInts xs with
    | none => rw [ei] at m2; exact m2.elim
    | some ns =>
      rw [ei] at m2
      cases ns with
      | nil => exact m2.elim
      | cons n ns =>
        have e2 := toInts_reps rs ei
        subst e2
        obtain ⟨h1, h2, h3⟩ := maxI_spec ns n
        refine ⟨a, n :: ns, rfl, SqL.of q, Nat.succ_pos _, fun x hx hall => ?_⟩
        have e3 : x = maxI n ns := by
          have a1 : x ≤ maxI n ns := by
            rcases List.mem_cons.mp hx with z | z
            · rw [z]; exact h2
            · exact h3 x z
          have a2 : maxI n ns ≤ x := by
            rcases h1 with z | z
            · rw [z]; exact hall n List.mem_cons_self
            · exact hall _ (List.mem_cons_of_mem _ z)
          omega
        subst e3
        exact mR.int m2 st.sH
  | _ => exact m.elim
theorem bf_min1 : BfD K mg (rMin K) [.B] .F pMin1 := by
  intro W B G0 κ en σ H G Ss Q ds vs st args m
  obtain ⟨d, v, rfl, rfl, r⟩ := args.one
  cases d with
  | lst xs =>
    obtain ⟨a, ws, e, q, rs⟩ := r
    subst e
    have m2 : mR W ⟨K, mg, B, G0⟩ σ H G (yV ⟨K, mg, B, G0⟩ H .F Q) (match toInts xs with
      | some (a :: ns) => .ok (.int (minI a ns))
      | _ => .bad) := m
    cases ei : toInts xs with
    | none => rw [ei] at m2; exact m2.elim
    | some ns =>
      rw [ei] at m2
      cases ns with
      | nil => exact m2.elim
      | cons n ns =>
        have e2 := toInts_reps rs ei
        subst e2
        obtain ⟨h1, h2, h3⟩ := minI_spec ns n
        refine ⟨a, n :: ns, rfl, SqL.of q, Nat.succ_pos _, fun x hx hall => ?_⟩
        have e3 : x = minI n ns := by
          have a1 : minI n ns ≤ x := by
            rcases List.mem_cons.mp hx with z | z
            · rw [z]; exact h2
            · exact h3 x z
          have a2 : x ≤ minI n ns := by
            rcases h1 with z | z
            · rw [z]; exact hall n List.mem_cons_self
            · exact hall _ (List.mem_cons_of_mem _ z)
          omega
        subst e3
        exact mR.int m2 st.sH
  | _ => exact m.elim
theorem bf_sum : BfD K mg (rSum K) [.B] .F pSum := by
  intro W B G0 κ en σ H G Ss Q ds vs st args m
  obtain ⟨d, v, rfl, rfl, r⟩ := args.one
  cases d with
  | lst xs =>
    obtain ⟨a, ws, e, q, rs⟩ := r
    subst e
    have m2 : mR W ⟨K, mg, B, G0⟩ σ H G (yV ⟨K, mg, B, G0⟩ H .F Q) (match toInts xs with
      | some ns => .ok (.int ns.sum)
      | _ => .bad) := m
    cases ei : toInts xs with
    | none => rw [ei] at m2; exact m2.elim
    | some ns =>
      rw [ei] at m2
      have e2 := toInts_reps rs ei
      subst e2
      exact ⟨a, ns, rfl, SqL.of q, mR.int m2 st.sH⟩
  | _ => exact m.elim
theorem bf_int : BfD K mg (fun xs H Q => (∃ i, xs = [.int i] ∧ Q (.int i) H) ∨ ∃ k, xs = [.bl k] ∧ Q (.int (if k then 1 else 0)) H) [.B] .F pInt := by
  intro W B G0 κ en σ H G Ss Q ds vs st args m
  obtain ⟨d, v, rfl, rfl, r⟩ := args.one
  cases d with
  | int i => exact .inl ⟨i, by rw [(show v = .int i from r)], mR.int m st.sH⟩
  | bl b => exact .inr ⟨b, by rw [(show v = .bl b from r)], mR.int m st.sH⟩
  | _ => exact m.elim
theorem bf_list : BfD K mg (fun xs H Q => ∃ p ys, xs = [.ref p] ∧ (SqL K H p ys ∨ SqT K H p ys) ∧ ∀ l, H l = none → Q (.ref l) (upd H l (.lst ys))) [.F] (.O (.L .F)) pList := by
  intro W B G0 κ en σ H G Ss Q ds vs st args m
  obtain ⟨d, v, rfl, rfl, r⟩ := args.one
  have fin : ∀ {xs : List D} {ws : List V}, Reps K mg G xs ws → mR W ⟨K, mg, B, G0⟩ σ H G (yV ⟨K, mg, B, G0⟩ H (.O (.L .F)) Q) (.ok (.lst xs)) → ∀ l, H l = none → Q (.ref l) (upd H l (.lst ws)) := fun {xs ws} rs m l hl =>
    m _ G (Adv.newO st.sH hl) (.ref l) [l] ⟨⟨l, ws, xs, [], rfl, rfl, .lst upd_same, AllR.frozen rs⟩, by simp, fun q hq => by
      have e : q = l := by simpa using hq
      subst e
      exact ⟨hl, st.sH.free hl, _, upd_same⟩⟩
  cases d with
  | lst xs =>
    obtain ⟨a, ws, e, q, rs⟩ := r
    subst e
    exact ⟨a, ws, rfl, .inl (SqL.of (st.sH _ _ q)), fin rs m⟩
  | tup xs =>
    obtain ⟨a, ws, e, q, rs⟩ := r
    subst e
    exact ⟨a, ws, rfl, .inr (sqT_mono st.sH q), fin rs m⟩
  | _ => exact m.elim
theorem tyOf_ok {d : D} {v : V} {t : String} (r : Rep K mg H d v) (h : tyOf d = some t) : TyX K H v (.type t) := by
  cases d with
  | non => cases h; cases (show v = .non from r); exact .base .non
  | bl b => cases h; cases (show v = .bl b from r); exact .base (.bl b)
  | int i => cases h; cases (show v = .int i from r); exact .base (.int i)
  | str s => cases h; cases (show v = .str s from r.1); exact .base (.str s)
  | lst xs =>
    cases h
    obtain ⟨a, ws, e, q, rs⟩ := r
    subst e
    exact .base (.lst q)
  | scr xs =>
    cases h
    obtain ⟨a, ws, e, q, rs⟩ := r
    subst e
    rcases q with (q | ⟨o, q⟩) | ⟨o, its, n, q1, q2, _⟩
    · exact .base (.lst q)
    · exact .base (.frz q)
    · exact .kList q1 q2
  | tup xs =>
    cases h
    obtain ⟨a, ws, e, q, rs⟩ := r
    subst e
    rcases q with (q | ⟨o, q⟩) | ⟨o, its, n, q1, q2, _⟩
    · exact .base (.tup q)
    · exact .fTuple q
    · exact .kTuple q1 q2
  | dct ks xs =>
    cases h
    obtain ⟨a, e, kvs, q, _⟩ := r
    subst e
    rcases q with q | ⟨o, q⟩
    · exact .base (.dK q)
    · exact .fDict q
  | _ => cases h
end
theorem kit_types : ∀ t ∈ ["NoneType", "bool", "int", "str", "list", "tuple", "dict"], ∀ T ∈ ["bool", "int", "str", "list", "tuple", "dict"], ∀ K : PySem.W.Frag, PySem.W.kitOne K (.type t) (.type T) = some (t == T || (t == "bool" && T == "int")) := by
  intro t ht T hT K
  simp only [List.mem_cons, List.not_mem_nil, or_false] at ht hT
  rcases ht with rfl | rfl | rfl | rfl | rfl | rfl | rfl <;> rcases hT with rfl | rfl | rfl | rfl | rfl | rfl <;> kernel_rfl
theorem tyOf_mem {d : D} {t : String} (h : tyOf d = some t) : t ∈ ["NoneType", "bool", "int", "str", "list", "tuple", "dict"] := by
  cases d <;> simp [tyOf] at h <;> subst h <;> simp
section
variable {X : Cx} {W : WX} {B G0 : Hp} {κ : List Kd} {en : List D} {e : Expr} {k : RK} {r : R D} {p p2 pos : Pos} {T : String} {y : Str}
theorem ev_isTy (h : EV X W B G0 κ en e k r) (hm : X.mg "isinstance" = none) (hmT : X.mg y = none) (hv : bootBuiltins y = some (.type T)) (hT : T ∈ ["bool", "int", "str", "list", "tuple", "dict"] := by simp) (hg : Gl X "isinstance" := by rfl) (hgT : Gl X y := by rfl) (hn : y ≠ "__name__" := by decide) (hdb : (y == ("__debug__" : Str)) = false := by decide)
    (he : starEach [e, .Name y p2] X.env = (false, eval e X.env) :: starEach [.Name y p2] X.env := by rfl) (he2 : starEach [.Name y p2] X.env = (false, eval (.Name y p2) X.env) :: starEach [] X.env := by rfl) (hpl : (backTo pos (starEach [.Name y p2] X.env)).any (·.1) = false := by rfl) :
    EV X W B G0 κ en (.Call (.Name "isinstance" p) [e, .Name y p2] [] pos) .F (r.bind (pIsTy T)) :=
  ⟨PE.wk (pe_callB call_isi hg hm (by decide +kernel) (pa_cons h.pe (pa_cons (pe_bltn (v := .ty T) hgT hmT hv rfl hn hdb) pa_nil he2) he) (he := he) (hpl := hpl)) fun σ H Q ⟨G, Ss, st, m⟩ => tEVb st m _ fun d v H1 G1 S _ a st1 rv m1 => by
    have rd := st1.rd rv
    have m2 : mR W (cf X B G0) σ H1 G1 (yV (cf X B G0) H1 .F Q) (match tyOf d with
      | some t => .ok (.bl (t == T || (t == "bool" && T == "int")))
      | none => .bad) := m1
    cases et : tyOf d with
    | none => rw [et] at m2; exact m2.elim
    | some t =>
      rw [et] at m2
      exact ⟨v, .ty T, .type t, .type T, _, rfl, .ty T, tyOf_ok rd et, kit_types t (tyOf_mem et) T hT _, m2 H1 G1 (.refl st1.sH) _ [] ⟨rfl, rfl⟩⟩⟩
end
end Lw
namespace Lw
open PySem PySem.Spec PyProof.Rows L2
theorem u65 {k : Nat} {A : Around} (r : Room k A) : A.units + 65 < cLine := by have := r.un; omega
theorem FM.mono {P : Program} {w : World} {K : PySem.W.Frag} {mg : Str → Option Value} {base : Heap} {j k : Nat} {cl m : Str} {f : List D → R D} {pk : List PK} {rk : RK} (F : FM P w K mg base j cl m f pk rk) (h : j ≤ k) : FM P w K mg base k cl m f pk rk := by
  obtain ⟨C, fa, fd, ps, h1, h2, h3, h4, h5⟩ := F
  exact ⟨C, fa, fd, ps, h1, h2, h3, h4, h5.mono h⟩
theorem FD.mono {P : Program} {w : World} {K : PySem.W.Frag} {mg : Str → Option Value} {base : Heap} {j k : Nat} {x : Str} {f : List D → R D} {pk : List PK} {rk : RK} (F : FD P w K mg base j x f pk rk) (h : j ≤ k) : FD P w K mg base k x f pk rk := by
  obtain ⟨fa, fd, ps, h1, h2, h3, h4⟩ := F
  exact ⟨fa, fd, ps, h1, h2, h3, h4.mono h⟩
section
variable {α : Type} {X : Cx} {W : WX} {B G0 : Hp} {κ : List Kd} {en : List D} {δ : DE α} {pos : Pos} {rest : List Stmt} {a : α}
end
end Lw
namespace Lw
open PySem PySem.Spec PyProof.Rows L2
section
variable {X : Cx} {W : WX} {B G0 : Hp} {κ : List Kd} {en : List D} {e a b c tg : Expr} {k ka kb kc : RK} {r ra rb rc : R D} {p pos tpos : Pos} {elts : List Expr} {kk : Nat}
theorem PO.wk {X : Cx} {e : Option Expr} {t t' : TO} (h : PO X e t) (f : ∀ σ H Q, t' σ H Q → t σ H Q) : PO X e t' := ⟨fun pins s σ H Q I q => h.run pins s σ H Q I (f σ H Q q)⟩
variable {lo hi : Option Expr} {rl rh : R (Option Int)} {p2 : Pos}
end
end Lw
namespace Lw
open PySem PySem.Spec PyProof.Rows L2
def pCatL : D → D → R D
  | .lst xs, .lst ys => if xs.length + ys.length ≤ 16777216 then .ok (.lst (xs ++ ys)) else .bad
  | _, _ => .bad
section
variable {X : Cx} {W : WX} {B G0 : Hp} {κ : List Kd} {en : List D} {e a b c : Expr} {k ka kb kc : RK} {r ra rb rc : R D} {pos : Pos}
theorem mk_list {cc : Cf} {σ : L2.St} {H0 H G : Hp} {Q : VK} {ds : List D} {vs : List V} (m : mR W cc σ H G (yV cc H0 (.O (.L .F)) Q) (.ok (.lst ds))) (sG : Same G H) (s0 : Same H0 H) (r : Reps cc.K cc.mg G ds vs) : ∀ p, H p = none → Q (.ref p) (upd H p (.lst vs)) := fun p hp =>
  m _ G (Adv.newO sG hp) (.ref p) [p] ⟨⟨p, vs, ds, [], rfl, rfl, .lst upd_same, AllR.frozen r⟩, by simp, fun q hq => by
    have e : q = p := by simpa using hq
    subst e
    exact ⟨s0.free hp, sG.free hp, _, upd_same⟩⟩
theorem ev_catL (ha : EV X W B G0 κ en a .F ra) (hb : EV X W B G0 κ en b .F rb) : EV X W B G0 κ en (.BinOp a .Add b pos) (.O (.L .F)) (R.bin2 ra rb pCatL) :=
  ⟨PE.wk (pe_op op_cat ha.pe hb.pe) fun σ H Q ⟨G, Ss, st, m⟩ => tEVb st m _ fun d v H1 G1 S _ a1 st1 rv m1 => tEVb st1 m1 _ fun d2 v2 H2 G2 S2 _ a2 st2 rv2 m2 => by
    have rv' := rv.adv a2 (by intro _ z; cases z)
    cases d with
    | lst xs =>
      cases d2 with
      | lst ys =>
        obtain ⟨⟨p, vs, ev, q, rs⟩, _⟩ := rv'
        obtain ⟨⟨p2, vs2, ev2, q2, rs2⟩, _⟩ := rv2
        subst ev ev2
        have m3 : mR W (cf X B G0) σ H2 G2 (yV (cf X B G0) H2 (.O (.L .F)) Q) (if xs.length + ys.length ≤ 16777216 then .ok (.lst (xs ++ ys)) else .bad) := m2
        by_cases hl : xs.length + ys.length ≤ 16777216
        · rw [if_pos hl] at m3
          exact ⟨p, p2, vs, vs2, rfl, rfl, st2.sH _ _ q, st2.sH _ _ q2, by rw [sizeLine_eq, ← rs.length, ← rs2.length]; exact hl, mk_list m3 st2.sH (.refl _) (rs.append rs2)⟩
        · rw [if_neg hl] at m3
          exact m3.elim
      | _ => exact m2.elim
    | _ => cases d2 <;> exact m2.elim⟩
theorem Reps.rep {K : PySem.W.Frag} {mg : Str → Option Value} {G : Hp} {ds : List D} {vs : List V} (h : Reps K mg G ds vs) : ∀ n : Nat, Reps K mg G (List.replicate n ds).flatten (List.replicate n vs).flatten
  | 0 => rfl
  | n + 1 => by
    rw [List.replicate_succ, List.replicate_succ, List.flatten_cons, List.flatten_cons]
    exact h.append (Reps.rep h n)
def isNon : D → Bool
  | .non => true
  | _ => false
def pNotN : D → D → R D
  | d, .non => .ok (.bl (!isNon d))
  | _, _ => .bad
theorem isNon_ok {K : PySem.W.Frag} {mg : Str → Option Value} {H : Hp} {d : D} {v : V} (h : Rep K mg H d v) : decide (v = .non) = isNon d := by
  cases d with
  | non => cases (show v = .non from h); rfl
  | bl b => cases (show v = .bl b from h); rfl
  | int i => cases (show v = .int i from h); rfl
  | str s => cases (show v = .str s from h.1); rfl
  | lst xs => obtain ⟨a, vs, e, _⟩ := h; subst e; rfl
  | scr xs => obtain ⟨a, vs, e, _⟩ := h; subst e; rfl
  | tup xs => obtain ⟨a, vs, e, _⟩ := h; subst e; rfl
  | dct ks xs => obtain ⟨a, e, _⟩ := h; subst e; rfl
  | dcT ks xs => obtain ⟨a, e, _⟩ := h; subst e; rfl
  | obj c ns xs => obtain ⟨a, C, dx, fs, e, _⟩ := h; subst e; rfl
  | exc c ns xs => obtain ⟨a, C, xd, e, _⟩ := h; subst e; rfl
theorem od_notN {K : PySem.W.Frag} {mg : Str → Option Value} : OpD K mg rNotN .F pNotN := by
  intro W B G0 κ en σ H Q x y v w hx hy h
  cases y with
  | non =>
    have h' : tEV W ⟨K, mg, B, G0⟩ κ en .F (.ok (.bl (!isNon x))) σ H Q := by cases x <;> exact h
    exact ⟨hy, by rw [isNon_ok hx]; exact h'.bl⟩
  | _ => exact tEV.bad (k := .F) (by cases x <;> exact h)
variable {op op' : CmpOp} {rr rr' : R2} {f g : D → D → R D}
end
section
variable {α τ : Type} {X : Cx} {W : WX} {B G0 : Hp} {κ : List Kd} {en : List D} {e t tg : Expr} {k : RK} {r : R D} {rb : R Bool} {δ : DE α} {pos : Pos} {rest body : List Stmt}
theorem RV.rig0 {c : Cf} {H0 H G : Hp} {d : D} {v : V} {S : List Addr} (h : RV c H0 H G k d v S) (hk : rig k = true) : RV c H0 H G k d v [] := by
  cases k with
  | F =>
    have e := h.2
    subst e
    exact h
  | B =>
    have e := h.2
    subst e
    exact h
  | _ => cases hk
theorem sv_un {ρ : Type} {u : D → R ρ} {js : List Nat} {vs : ρ → List D} {ke : Kd} {f : ρ → R α} (he : EV X W B G0 κ en e k r) (ht : Tg X tg k ρ u js vs ke) (hr : ∀ p, SV X W B G0 (setK κ js ke) (setL en js (vs p)) rest δ (f p))
    (hex : δ.ex κ en := by exact True.intro) (hk : rig k = true := by rfl) (hj : ∀ j ∈ js, j < κ.length := by first | decide | simp) (hs : swapsWithSole [tg] e pos.line X.env = pure false := by rfl) (hw : swappedStores [tg] e X.env = pure none := by rfl)
    (h1 : (assignEach [tg] X.env).map (·.2) = [assign tg X.env] := by rfl) : SV X W B G0 κ en (.Assign [tg] e pos :: rest) δ (r.bind fun d => (u d).bind f) := by
  obtain ⟨hux, g, pg, hg⟩ := ht
  exact ⟨PSs.wk (pss_cons (ps_asg he.pe pg hs hw h1) (PSs.all fun p => (hr p).ps)) fun Dn σ H ⟨G, Ss, st, m⟩ => ⟨G, Ss, st, mS.toR st m hex fun d H1 G1 a st1 m1 v S rv => by
    cases eu : u d with
    | bad => rw [eu] at m1; exact m1.elim
    | exc x => exact (hux _ _ eu).elim
    | ok p =>
      rw [eu] at m1
      exact hg B G0 κ en σ H1 H G1 Ss d v p _ st1 (rv.rig0 hk) eu hj fun σ' Ss' _ st' => ⟨p, G1, Ss', st', m1⟩⟩⟩
theorem io_add {X : Cx} : InOp X .Add rAddD := fun pins s σ H x y u v Q I rx ry h => by
  rcases h with h | h
  · exact in_add pins s σ H x y u v Q I rx ry h
  · exact in_addS pins s σ H x y u v Q I rx ry h
def rWhX {τ α : Type} : Nat → τ → (τ → R Bool) → (τ → R (Lp τ α)) → R (Go τ α)
  | 0, _, _, _ => .bad
  | n + 1, t, c, f => (c t).bind fun b => if b = true then (f t).bind (Lp.on fun t => rWhX n t c f) else .ok (.go t)
def rWh {τ : Type} : Nat → τ → (τ → R Bool) → (τ → R τ) → R τ
  | 0, _, _, _ => .bad
  | n + 1, t, c, f => (c t).bind fun b => if b = true then (f t).bind fun t => rWh n t c f else .ok t
theorem sv_whX {c : τ → R Bool} {f : τ → R (Lp τ α)} {g : τ → R α} (n : Nat) (κL : List Kd) (vw : τ → List D) (t0 : τ) (h0 : Wk κ en κL (vw t0)) (hc : ∀ G0 t', ET X W B G0 κL (vw t') t (c t')) (hb : ∀ G0 t, SV X W B G0 κL (vw t) body (δ.loopX κL vw) (f t)) (hr : ∀ t, SV X W B G0 κL (vw t) rest δ (g t))
    (hp : PassesOwn (model X.prog X.w) X.A X.env X.xe) (hexL : ∀ t, δ.ex κL (vw t) := by exact fun _ => True.intro) :
    SV X W B G0 κ en (.While t body [] pos :: rest) δ ((rWhX n t0 c f).bind (Go.thn g)) := by
  have hbody : PSs X body (fun Dn σ H => ∃ t, tSV W (cf X B G0) κL (vw t) (δ.loopX κL vw) (f t) Dn σ H) := PSs.all fun t => (hb G0 t).ps
  have htest : PT X t (fun σ H Q => ∃ t', tET W (cf X B G0) κL (vw t') (c t') σ H Q) := ⟨fun pins s σ H Q I ⟨t', z⟩ => (hc G0 t').pt.run pins s σ H Q I z⟩
  have hrest : PSs X rest (fun Dn σ H => ∃ t, tSV W (cf X B G0) κL (vw t) δ (g t) Dn σ H) := PSs.all fun t => (hr t).ps
  refine ⟨PSs.wk (pss_cons (ps_while hp htest hbody) hrest) fun Dn σ H ⟨G, Ss, st, m⟩ => ?_⟩
  refine ⟨fun i σ H => ∃ t G Ss, St (cf X B G0) κL (vw t) σ H G Ss ∧ mS W (cf X B G0) δ Dn ((rWhX i t c f).bind (Go.thn g)), ⟨n, t0, G, Ss, st.weak h0, m⟩, ?_⟩
  rintro i σ2 H2 ⟨t, G2, Ss2, st2, m2⟩
  cases i with
  | zero => exact m2.elim
  | succ i =>
    have m3 : mS W (cf X B G0) δ Dn (((c t).bind fun b => if b = true then (f t).bind (Lp.on fun t => rWhX i t c f) else .ok (.go t)).bind (Go.thn g)) := m2
    rw [R.bind_assoc] at m3
    refine ⟨t, G2, Ss2, st2, mS.toR st2 m3 (hexL t) fun b H3 G3 a st3 m4 => ?_⟩
    cases b with
    | false => exact ⟨t, G3, Ss2, st3, m4⟩
    | true =>
      refine ⟨fun σ' H' => ∃ t G Ss, St (cf X B G0) κL (vw t) σ' H' G Ss ∧ mS W (cf X B G0) δ Dn ((rWhX i t c f).bind (Go.thn g)), fun σ' H' z => ⟨i, Nat.lt_succ_self i, z⟩, t, G3, Ss2, st3, ?_⟩
      have m5 : mS W (cf X B G0) δ Dn (((f t).bind (Lp.on fun t => rWhX i t c f)).bind (Go.thn g)) := m4
      rw [R.bind_assoc] at m5
      cases ef : f t with
      | bad => rw [ef] at m5; exact m5.elim
      | exc x =>
        rw [ef] at m5
        exact fun cv xd κ en σ H G Ss st he hv => m5 cv xd κ en σ H G Ss st he hv
      | ok l =>
        rw [ef] at m5
        cases l with
        | nx t' =>
          have m6 : mS W (cf X B G0) δ Dn ((rWhX i t' c f).bind (Go.thn g)) := m5
          refine ⟨fun κ en σ H G Ss st ⟨t'', e, w⟩ => ?_, fun _ _ _ _ _ _ _ _ ⟨_, e, _⟩ => (nomatch e), fun _ _ _ _ _ _ _ ⟨_, e, _⟩ => (nomatch e), fun κ en σ H G Ss st ⟨t'', e, w⟩ => ?_⟩
          · cases e
            exact ⟨t', G, Ss, st.weak w, m6⟩
          · cases e
            exact ⟨t', G, Ss, st.weak w, m6⟩
        | bk t' =>
          have m6 : mS W (cf X B G0) δ Dn (g t') := m5
          refine ⟨fun _ _ _ _ _ _ _ ⟨_, e, _⟩ => (nomatch e), fun _ _ _ _ _ _ _ _ ⟨_, e, _⟩ => (nomatch e), fun κ en σ H G Ss st ⟨t'', e, w⟩ => ?_, fun _ _ _ _ _ _ _ ⟨_, e, _⟩ => (nomatch e)⟩
          cases e
          exact ⟨t', G, Ss, st.weak w, m6⟩
        | out a' =>
          have m6 : mS W (cf X B G0) δ Dn (.ok a') := m5
          refine ⟨fun _ _ _ _ _ _ _ ⟨_, e, _⟩ => (nomatch e), fun k d v H G S a1 rv ⟨a'', e, z⟩ => ?_, fun _ _ _ _ _ _ _ ⟨_, e, _⟩ => (nomatch e), fun _ _ _ _ _ _ _ ⟨_, e, _⟩ => (nomatch e)⟩
          cases e
          exact m6.2.1 k d v H G S a1 rv z
theorem rWhX_wh {α : Type} {c : τ → R Bool} {f : τ → R τ} {g : τ → R α} : ∀ {n : Nat} {t : τ}, (rWhX n t c fun t => (f t).bind fun t => .ok (.nx t)).bind (Go.thn g) = (rWh n t c f).bind g
  | 0, t => rfl
  | n + 1, t => by
    show (((c t).bind fun b => if b = true then ((f t).bind fun t => .ok (.nx t)).bind (Lp.on fun t => rWhX n t c fun t => (f t).bind fun t => .ok (.nx t)) else .ok (.go t)).bind (Go.thn g)) = ((c t).bind fun b => if b = true then (f t).bind fun t => rWh n t c f else .ok t).bind g
    cases c t with
    | bad => rfl
    | exc e => rfl
    | ok b =>
      cases b with
      | false => rfl
      | true =>
        show (((f t).bind fun t => .ok (.nx t)).bind (Lp.on fun t => rWhX n t c fun t => (f t).bind fun t => .ok (.nx t))).bind (Go.thn g) = ((f t).bind fun t => rWh n t c f).bind g
        cases f t with
        | bad => rfl
        | exc e => rfl
        | ok t' => exact rWhX_wh (n := n) (t := t')
theorem sv_wh {c : τ → R Bool} {f : τ → R τ} {g : τ → R α} (n : Nat) (κL : List Kd) (vw : τ → List D) (t0 : τ) (h0 : Wk κ en κL (vw t0)) (hc : ∀ G0 t', ET X W B G0 κL (vw t') t (c t')) (hb : ∀ G0 t, SV X W B G0 κL (vw t) body (δ.loop κL vw) (f t)) (hr : ∀ t, SV X W B G0 κL (vw t) rest δ (g t))
    (hp : PassesOwn (model X.prog X.w) X.A X.env X.xe) (hexL : ∀ t, δ.ex κL (vw t) := by exact fun _ => True.intro) :
    SV X W B G0 κ en (.While t body [] pos :: rest) δ ((rWh n t0 c f).bind g) := by
  have h := sv_whX (δ := δ) (pos := pos) (rest := rest) (f := fun t => (f t).bind fun t => .ok (.nx t)) (g := g) n κL vw t0 h0 hc (fun G0 t => (hb G0 t).map Lp.nx (fun κ en a w => ⟨a, rfl, w⟩) (fun _ _ _ z => z.elim) (fun _ _ z => z) (fun _ _ _ z => z.elim) fun κ en a w => ⟨a, rfl, w⟩) hr hp hexL
  exact h.cast rWhX_wh
end
end Lw
namespace Lw
open PySem PySem.Spec PyProof.Rows L2
theorem exK_ok {P : Program} {w : World} {H : Hp} {h : Heap} {a : Addr} {cls : Value} {xd : Option Addr} {oe : Obj} {vs : Array Value} (e : h.get? a = some oe) (z : Zc cls xd oe) (d : oe.data = .fields vs) : ObjOk P w H h a (ExK cls xd a) :=
  ⟨⟨oe, vs, e, z, d⟩, ⟨oe, e⟩, fun _ _ ⟨o, v, q, r⟩ k => ⟨o, v, k o q, r⟩⟩
section
variable {X : Cx} {pins : List (Addr × Obj)} {σ : L2.St} {H : Hp} {s : Shared}
theorem Inv.track {a : Addr} {o : HO} (I : Inv X pins σ H s) (n0 : X.s_0.heap.get? a = none) (ha : H a = none) (hok : ObjOk X.prog X.w (upd H a o) s.heap a o) (nL : a ≠ X.env.locals) (nC : ∀ x c, X.env.cells.lookup x = some c → c ≠ a) (np : ∀ p ∈ X.pn ++ pins, p.1 ≠ a) :
    Inv X pins σ (upd H a o) s := by
  have ne : ∀ b u, X.s_0.heap.get? b = some u → b ≠ a := fun b u q z => by rw [z, n0] at q; cases q
  have ne1 : ∀ b u, H b = some u → b ≠ a := fun b u q z => by rw [z, ha] at q; cases q
  refine ⟨I.ok, I.os, I.bare, ⟨I.base.keep, I.base.slot, fun b u q n hx => ?_, I.base.there, fun b xs q => ?_, fun b o2 u q => ?_, fun b ps q => ?_⟩, I.loc, I.cell, ?_, fun x c q => ?_, fun p hp => ?_, I.hok.laidN (fun _ _ z => z) ha hok, I.len⟩
  · rw [upd_ne (ne b u q)]
    exact I.base.free b u q n hx
  · have z := I.base.tups b xs q
    rw [upd_ne (ne1 b _ z)]
    exact z
  · have z := I.base.frzs b o2 u q
    rw [upd_ne (ne1 b _ z)]
    exact z
  · obtain ⟨more, z⟩ := I.base.tbls b ps q
    exact ⟨more, by rw [upd_ne (ne1 b _ z)]; exact z⟩
  · rw [upd_ne (Ne.symm nL)]
    exact I.free
  · rw [upd_ne (nC x c q)]
    exact I.freeC x c q
  · obtain ⟨e, n, r⟩ := I.pin p hp
    refine ⟨e, ?_, r⟩
    rw [upd_ne (np p hp)]
    exact n
end
def wKp (K : PySem.W.Frag) (c : Value) (i j : Nat) (D : Ends) : WX := fun cls d σ H =>
  PySem.W.exmOne K cls c = some true ∧ ∀ a, H a = none → D.nx (((σ.set i (some (.ref a))).set j (some (.ref a))).set i none) (upd H a (ExK cls d a))
section
variable {X : Cx} {x n y : Str} {c : Value} {i j : Nat} {body : List Stmt} {np np2 yp ap pos pos' : Pos} {tb : WX → TS}
theorem ps_try_keep (hs : X.stack = X.env :: X.outer) (hf : X.env.frame = some X.env.locals) (hx0 : X.ex = []) (hN : X.N.Nodup) (hi : X.N[i]? = some n) (hln : X.env.kindOf n = some .local) (hj : X.N[j]? = some y) (hly : X.env.kindOf y = some .local) (hc : Names X x c)
    (hb : ∀ (W : WX) (pn : List (Addr × Obj)) (xe : Value → Shared → Prop), Takes (X.tr pn xe) W → PassesOwn (model X.prog X.w) X.A X.env xe → PSs (X.tr pn xe) body (tb W))
    (hdb : (n == ("__debug__" : Str)) = false := by decide) (hcd : (n == ("__classdict__" : Str)) = false := by decide) (hsw : ∀ Z : Cx, Z.env = X.env → swapsWith (.Name n np2) (some (.Name y yp)) ap.line Z.env = pure false := by intro _ h; rw [h]; rfl) :
    PS X (.Try body [.ExceptHandler (some (.Name x np)) (some n) [.Assign [.Name y yp] (.Name n np2) ap] pos'] [] [] pos) (fun D σ H => (i ≠ j ∧ i < σ.length) ∧ tb (wKp X.K c i j D) D σ H) := by
  have hvs : Vis X.env.scope n := .inl hln
  have hsu : ∀ (a : Addr) (q : Addr × Obj) (pn : List (Addr × Obj)), PSs (X.suite a (q :: pn)) [.Assign [.Name y yp] (.Name n np2) ap] (tAsg (tVar i) (gName j)) := fun a q pn =>
    pss_one (ps_set (X := X.suite a (q :: pn)) hN hj (.inl hly) (pe_var (X := X.suite a (q :: pn)) hi hvs hdb hcd) (hsw _ rfl) (.inr hly))
  refine ⟨fun pins s σ H D I h => ?_⟩
  obtain ⟨⟨hij, hiσ⟩, h⟩ := h
  have ok := I.ok
  have hfr : X.A.frames = some (X.env :: X.outer) := by rw [ok.frames, hs]
  have hloc : Loc X.env.scope n := .inl hln
  refine wpAny_Try_except ?_
  refine wpAny_mono ((hb (wKp X.K c i j D) (X.pn ++ pins) (fun e s₁ => wpAny (model X.prog X.w) X.A (noteFrame e X.env) (fun _ s₂ => wpAny (model X.prog X.w) X.A (setFlight e none) (fun _ s₃ =>
    wpAny (model X.prog X.w) X.A (handleBy e X.env [.ExceptHandler (some (.Name x np)) (some n) [.Assign [.Name y yp] (.Name n np2) ap] pos']) (SP X pins D) X.xe s₃) X.xe s₂) X.xe s₁) (fun u s' xx => ?_) PassesOwn.looking).run [] s σ H D (I.toTry _) h) (fun f s1 hsp => ?_) (fun e s1 he => he)
  · obtain ⟨a, B, sI, pins', σ', H', cls, d, rfl, J', nb, up, sky, na, os, ag, hb1, hyes⟩ := xx
    have J : Inv X pins σ' H' sI := J'.ofTry ok
    have sky' : Sky B (X.env :: X.outer) a (Zc cls d) X.env.locals s'.heap := by rw [← hs]; exact sky
    show wpAny (model X.prog X.w) X.A (noteFrame (.ref a) X.env) _ _ _
    refine Sky.land Zc.steady hfr hf sky' fun h3 fl3 up3 => ?_
    have J3 : Inv X pins σ' H' { s' with heap := h3 } := J.landed nb fl3.1 (up.trans up3) os ag
    obtain ⟨oe3, vs3, he3, hz3, hd3⟩ := fl3.there
    have notFr : ∀ {h : Heap} {o : Obj} {vs : Array Value}, h.FunFrames B (X.env :: X.outer) → h.get? a = some o → o.data = .fields vs → a ∉ frs (X.env :: X.outer) := fun {h o vs} ff e dd hm => by
      obtain ⟨_, o', e', hnf⟩ := ff.mem hm
      rw [e] at e'; cases e'
      exact hnf _ dd
    have nfr := notFr fl3.2.2.1 he3 hd3
    have nL : a ≠ X.env.locals := fun z => nfr (List.mem_filterMap.mpr ⟨X.env, List.mem_cons_self, by rw [hf, z]⟩)
    have nF : a ∉ X.fs := fun hm => by
      obtain ⟨e, he, q⟩ := List.mem_filterMap.mp hm
      exact nfr (List.mem_filterMap.mpr ⟨e, List.mem_cons_of_mem _ he, q⟩)
    have hI : sI.heap.get? a = none := by
      cases q : sI.heap.get? a with
      | none => rfl
      | some o =>
        have z := nb a o q (by rw [hs]; exact nfr)
        rw [fl3.2.1] at z
        cases z
    have S3 := J3.suite he3 hd3 na nL nF
    refine wpAny_handleBy_cons (codeAny_handlers_test ?_) (by intro q; cases q)
    have LT : PySem.W.Looks (model X.prog X.w) h3 (typeOf (.ref a)) cls := fun A Q E s k q => wpAny_typeOf_ref (k _ _ he3) (by rw [hz3.1]; exact q)
    have LM := PySem.W.exm_one (M := model X.prog X.w) (J3.kIn) LT hb1
    have test : ∀ {Q : Value → Shared → Prop} {E : Value → Shared → Prop}, Q c { s' with heap := h3 } → wpAny (model X.prog X.w) (X.A.mark (some (.ref a))) (eval (.Name x np) X.env) Q E { s' with heap := h3 } := fun {Q E} q => by
      obtain ⟨hg, hdbg, hm | ⟨hm, hv, hnn⟩⟩ := hc
      · exact ld_glob (X := X.suite a ((a, oe3) :: (X.pn ++ pins))) S3 hg hm q hdbg
      · exact ld_blt (X := X.suite a ((a, oe3) :: (X.pn ++ pins))) S3 hg hm hv q hnn hdbg
    refine test (LM.here ?_)
    refine codeAny_handlers_suite_as ?_
    refine HandSPX.lands_againZ fl3 fun h4 fl4 up4 => ?_
    have J4 : Inv X pins σ' H' { s' with heap := h4 } := J.landed nb fl4.1 ((up.trans up3).trans up4) os ag
    obtain ⟨oe4, vs4, he4, hz4, hd4⟩ := fl4.there
    have S4 := J4.suite he4 hd4 na nL nF
    refine store_ok (X := X.suite a ((a, oe4) :: (X.pn ++ pins))) (v := .ref a) S4 hN hi hloc rfl (fun s5 S5 => ?_) (.inr hln)
    have hiσ' : i < σ'.length := by
      rw [J.len]
      exact (List.getElem?_eq_some_iff.mp hi).1
    refine wpAny_mono ((hsu a (a, oe4) (X.pn ++ pins)).run [] s5 _ H' { nx := fun σ6 H6 => H6 = H' ∧ σ6 = (σ'.set i (some (.ref a))).set j (some (.ref a)), rt := fun _ _ => False } S5 ⟨.ref a, List.getElem?_set_self hiσ', rfl, rfl⟩) (fun f s6 hsp => ?_) (fun _ _ z => False.elim z)
    cases f with
    | next =>
      obtain ⟨σ6, H6, S6, e6, e7⟩ := hsp
      subst e6 e7
      have J6 := S6.unsuite ok
      obtain ⟨pin4, _⟩ := S6.pin (a, oe4) (List.mem_append.mpr (.inl List.mem_cons_self))
      have J7 : Inv X pins ((σ'.set i (some (.ref a))).set j (some (.ref a))) (upd H6 a (ExK cls d a)) s6 := by
        have n0 : X.s_0.heap.get? a = none := by
          cases q : X.s_0.heap.get? a with
          | none => rfl
          | some o =>
            obtain ⟨o', z⟩ := J.base.there a o q (by rw [hx0]; exact fun z => nomatch z)
            rw [hI] at z
            cases z
        refine Inv.track J6 n0 na (exK_ok pin4 hz4 hd4) nL (fun x c q z => ?_) (fun p hp z => ?_)
        · obtain ⟨v, q2⟩ := J.cell x c q
          subst z
          obtain ⟨o, q3, _⟩ := q2
          rw [hI] at q3
          cases q3
        · obtain ⟨e, _⟩ := J.pin p hp
          rw [z, hI] at e
          cases e
      exact gone_ok J7 hN hi hln fun s7 J8 => ⟨_, _, J8, hyes a na⟩
    | brk =>
      obtain ⟨σ6, H6, S6, q6⟩ := hsp
      exact q6.elim
    | cont =>
      obtain ⟨σ6, H6, S6, q6⟩ := hsp
      exact q6.elim
    | ret u =>
      obtain ⟨v6, σ6, H6, S6, r6, q6⟩ := hsp
      exact q6.elim
  · cases f with
    | next =>
      obtain ⟨σ', H', J', q⟩ := hsp
      exact wpAny_execs_nil ⟨σ', H', J'.ofTry ok, q⟩
    | brk =>
      obtain ⟨σ', H', J', q⟩ := hsp
      exact ⟨σ', H', J'.ofTry ok, q⟩
    | cont =>
      obtain ⟨σ', H', J', q⟩ := hsp
      exact ⟨σ', H', J'.ofTry ok, q⟩
    | ret u =>
      obtain ⟨v, σ', H', J', r, q⟩ := hsp
      exact ⟨v, σ', H', J'.ofTry ok, r, q⟩
end
def rTry {τ : Type} (T : List Str) (s : R τ) (h : D → τ) : R τ := match s with
  | .ok t => .ok t
  | .exc x => if T.contains x.cls = true then .ok (h (.exc x.cls x.ns x.xs)) else .bad
  | .bad => .bad
def CatD (K : PySem.W.Frag) (mg : Str → Option Value) (cB : Value) (c : Str) : Prop := ∃ C, mg c = some (.ref C) ∧ PySem.W.exmOne K (.ref C) cB = some true
theorem St.forget {c : Cf} {κ : List Kd} {en : List D} {σ : L2.St} {H G : Hp} {Ss : Nat → List Addr} (s : St c κ en σ H G Ss) (i : Nat) (z : Option V) : St c (κ.set i .N) en (σ.set i z) H G Ss :=
  ⟨by simpa using s.ln, fun j k hk hn => by
    by_cases e : j = i
    · subst e
      by_cases hl : j < κ.length
      · rw [List.getElem?_set_self hl] at hk
        cases hk
        exact absurd rfl hn
      · rw [List.getElem?_eq_none (by simpa using hl)] at hk
        cases hk
    · rw [List.getElem?_set_ne (Ne.symm e)] at hk
      obtain ⟨v, d, h1, h2, h3⟩ := s.slot j k hk hn
      exact ⟨v, d, by rw [List.getElem?_set_ne (Ne.symm e)]; exact h1, h2, h3⟩, s.own, s.nd, s.dis, s.sB, s.sG, s.sH, s.new⟩
section
variable {α τ : Type} {X : Cx} {W : WX} {B G0 : Hp} {κ : List Kd} {en : List D} {δ : DE α} {rest body : List Stmt} {x n y : Str} {i j : Nat} {np np2 yp ap pos pos' : Pos} {s : R τ} {f : τ → R α} {cB : Value}
def DE.tryJ (δ : DE α) (κJ : List Kd) (vw : τ → List D) (κE : List Kd) (enE : List D) : DE τ := ⟨fun κ en t => Wk κ en κJ (vw t), fun _ _ _ => False, fun κ en => Wk κ en κE enE, fun _ _ _ => False, fun _ _ _ => False⟩
theorem sv_try (T : List Str) (κJ : List Kd) (vw : τ → List D) (κE : List Kd) (enE : List D) (hx : D → τ) (F : ∀ c ∈ T, CatD X.K X.mg cB c) (hc : Names X x cB)
    (hb : ∀ (W : WX) (pn : List (Addr × Obj)) (xe : Value → Shared → Prop), Takes (X.tr pn xe) W → PassesOwn (model X.prog X.w) X.A X.env xe → SV (X.tr pn xe) W B G0 κ en body (δ.tryJ κJ vw κE enE) s)
    (hw : ∀ d, Wk (((κE.set i .N).set j .F).set i .N) (enE.set j d) κJ (vw (hx d))) (hr : ∀ t, SV X W B G0 κJ (vw t) rest δ (f t)) (hN : X.N.Nodup)
    (hij : i ≠ j := by decide) (hjκ : j < κE.length := by first | decide | simp) (hi : X.N[i]? = some n := by rfl) (hj : X.N[j]? = some y := by rfl) (hln : X.env.kindOf n = some .local := by rfl) (hly : X.env.kindOf y = some .local := by rfl)
    (hs : X.stack = X.env :: X.outer := by rfl) (hf : X.env.frame = some X.env.locals := by rfl) (hx0 : X.ex = [] := by rfl)
    (hdb : (n == ("__debug__" : Str)) = false := by decide) (hcd : (n == ("__classdict__" : Str)) = false := by decide) (hsw : ∀ Z : Cx, Z.env = X.env → swapsWith (.Name n np2) (some (.Name y yp)) ap.line Z.env = pure false := by intro _ h; rw [h]; rfl)
    (hiκ : i < κ.length := by first | decide | simp) :
    SV X W B G0 κ en (.Try body [.ExceptHandler (some (.Name x np)) (some n) [.Assign [.Name y yp] (.Name n np2) ap] pos'] [] [] pos :: rest) δ ((rTry T s hx).bind f) := by
  have hbody : ∀ (W : WX) (pn : List (Addr × Obj)) (xe : Value → Shared → Prop), Takes (X.tr pn xe) W → PassesOwn (model X.prog X.w) X.A X.env xe → PSs (X.tr pn xe) body (tSV W (cf X B G0) κ en (δ.tryJ κJ vw κE enE) s) := fun W pn xe t p => (hb W pn xe t p).ps
  have hrest : PSs X rest (fun Dn σ H => ∃ t, tSV W (cf X B G0) κJ (vw t) δ (f t) Dn σ H) := PSs.all fun t => (hr t).ps
  refine ⟨PSs.wk (pss_cons (ps_try_keep hs hf hx0 hN hi hln hj hly hc hbody hdb hcd hsw) hrest) fun Dn σ H ⟨G, Ss, st, m⟩ => ⟨⟨hij, by rw [st.ln.1]; exact hiκ⟩, G, Ss, st, ?_⟩⟩
  cases es : s with
  | bad => rw [es] at m; exact m.elim
  | ok t =>
    rw [es] at m
    have m' : mS W (cf X B G0) δ Dn (f t) := m
    exact ⟨fun κ en σ H G Ss st w => ⟨t, G, Ss, st.weak w, m'⟩, fun _ _ _ _ _ _ _ _ z => z.elim, fun _ _ _ _ _ _ _ z => z.elim, fun _ _ _ _ _ _ _ z => z.elim⟩
  | exc e =>
    rw [es] at m
    have m1 : mS W (cf X B G0) δ Dn ((if T.contains e.cls = true then R.ok (hx (.exc e.cls e.ns e.xs)) else R.bad).bind f) := m
    by_cases hT : T.contains e.cls = true
    · rw [if_pos hT] at m1
      have m2 : mS W (cf X B G0) δ Dn (f (hx (.exc e.cls e.ns e.xs))) := m1
      intro cv xd κ' en' σ' H' G' Ss' st' w hv
      obtain ⟨⟨C, gC, eC⟩, hd⟩ := hv
      subst eC
      obtain ⟨C2, gC2, hx2⟩ := F e.cls (by simpa using hT)
      have eC : C2 = C := by
        have z := gC2.symm.trans gC
        injection z with z
        injection z
      subst eC
      refine ⟨hx2, fun a ha => ⟨hx (.exc e.cls e.ns e.xs), ?_⟩⟩
      have st1 := st'.weak w
      have a1 : Adv H' G' (upd G' a (ExK (.ref C2) xd a)) (upd H' a (ExK (.ref C2) xd a)) := Adv.newF st1.sH ha
      have st2 := (st1.forget i (some (.ref a))).set (i := j) (rk := .F) (d := .exc e.cls e.ns e.xs) (v := .ref a) (S := []) a1 ⟨⟨a, C2, xd, rfl, upd_same, gC, by
        rcases hd with ⟨z1, z2, z3⟩ | ⟨dx, fs, z0, z1, z2, z3, z4⟩
        · exact .inl ⟨z1, z2, z3⟩
        · exact .inr ⟨dx, fs, z0, z1, a1.2.1 _ _ z2, z3, z4.mono a1.2.1⟩⟩, rfl⟩ (by simpa using hjκ)
      exact ⟨_, _, (st2.forget i none).weak (hw _), m2⟩
    · rw [if_neg hT] at m1
      exact m1.elim
end
structure InsC (K : PySem.W.Frag) (C : Addr) : Prop where
  cl : Cls K C
  ha : PySem.W.findIn K (.ref C) "__class__" = some (some (.builtin "object.__class__"))
  hn : PySem.W.specialIn K (.builtin "object.__class__") "__get__" = some (some (.builtin "getset_descriptor.__get__"))
  ht : PySem.W.takesIn K (.builtin "object.__class__") = some true
  hm : PySem.W.mroIn K C (.type "object") = some true
def IsE (K : PySem.W.Frag) (mg : Str → Option Value) (u : Value) (c : Str) (b : Bool) : Prop := ∃ C, mg c = some (.ref C) ∧ PySem.W.kitOne K (.ref C) u = some b ∧ ExcC K C
def rIsX (K : PySem.W.Frag) : List V → Hp → VK → Prop := fun xs H Q => ∃ (x c : V) (t u : Value) (b : Bool), xs = [x, c] ∧ ClsV c u ∧ (TyX K H x t ∨ ∃ a D, x = .ref a ∧ t = .ref D ∧ ExcC K D ∧ ∃ xd, H a = some (ExK (.ref D) xd a) ∧ ∀ dx, xd = some dx → ∃ fs, H dx = some (.xd fs)) ∧ PySem.W.kitOne K t u = some b ∧ Q (.bl b) H
theorem call_isX {X : Cx} : CallR X (.builtin "isinstance") (rIsX X.K) := by
  intro pins s σ H xs us Q I r h
  obtain ⟨x, c, t, u, b, rfl, k, ty | ⟨a, D, rfl, rfl, E, xd, hE, hX⟩, e, q⟩ := h
  · exact call_isi pins s σ H _ us Q I r ⟨x, c, t, u, b, rfl, k, ty, e, q⟩
  · obtain ⟨u1, u2, rfl, r1, r2⟩ := vals2 r
    have e2 := k.eq r2
    subst e2
    cases r1
    obtain ⟨⟨oe, vs, hget, hz, hd⟩, _⟩ := (show ObjOk X.prog X.w H s.heap a (ExK (.ref D) xd a) from I.hok a _ hE)
    have hcl : (PySem.W.clsIn X.K D).isSome = true := by
      obtain ⟨cd, hc, _⟩ := PySem.W.any_some E.hd
      rw [hc]
      rfl
    have hn : PySem.W.notCls oe = true := by unfold PySem.W.notCls; rw [hd] <;> rfl
    obtain ⟨od, J⟩ : ∃ od, PySem.W.InstAt s.heap a oe D od := by
      cases xd with
      | none => exact ⟨none, hget, hz.1, hn, by rw [hz.2]; trivial⟩
      | some dx =>
        obtain ⟨fs, hf⟩ := hX dx rfl
        obtain ⟨mA, hns, _⟩ := (show ObjOk X.prog X.w H s.heap dx (.xd fs) from I.hok dx _ hf)
        obtain ⟨od, ho, _⟩ := lookIn_ns hns
        exact ⟨some od, hget, hz.1, hn, by rw [hz.2]; exact ho⟩
    exact PySem.W.kia_one (PySem.W.kitx_exc hcl E.hg E.hk E.hs E.ha E.hn E.ht E.hm) I.kIn J e (fun z => nomatch z) fun tk => ⟨.bl b, H, I.kept (t' := tk) fun _ _ z => z, rfl, q⟩
def pIsE (T : List (Str × Bool)) : D → R D
  | .exc c _ _ => match T.lookup c with
    | some b => .ok (.bl b)
    | none => .bad
  | _ => .bad
section
variable {X : Cx} {W : WX} {B G0 : Hp} {κ : List Kd} {en : List D} {e ec : Expr} {k : RK} {r : R D} {p pos : Pos} {T : List (Str × Bool)} {u : Value} {c : V}
theorem ev_isE (F : ∀ t ∈ T, IsE X.K X.mg u t.1 t.2) (h : EV X W B G0 κ en e k r) (hc : PE X ec (tC c)) (hu : ClsV c u) (hm : X.mg "isinstance" = none) (hg : Gl X "isinstance" := by rfl)
    (he : starEach [e, ec] X.env = (false, eval e X.env) :: starEach [ec] X.env := by rfl) (he2 : starEach [ec] X.env = (false, eval ec X.env) :: starEach [] X.env := by rfl) (hpl : (backTo pos (starEach [ec] X.env)).any (·.1) = false := by rfl) :
    EV X W B G0 κ en (.Call (.Name "isinstance" p) [e, ec] [] pos) .F (r.bind (pIsE T)) :=
  ⟨PE.wk (pe_callB call_isX hg hm (by decide +kernel) (pa_cons h.pe (pa_cons hc pa_nil he2) he) (he := he) (hpl := hpl)) fun σ H Q ⟨G, Ss, st, m⟩ => tEVb st m _ fun d v H1 G1 S _ a st1 rv m1 => by
    have rd := st1.rd rv
    cases d with
    | exc cl ns xs =>
      have m2 : mR W (cf X B G0) σ H1 G1 (yV (cf X B G0) H1 .F Q) (match T.lookup cl with
        | some b => .ok (.bl b)
        | none => .bad) := m1
      cases ht : T.lookup cl with
      | none => rw [ht] at m2; exact m2.elim
      | some b =>
        rw [ht] at m2
        obtain ⟨C, gC, hk, hi⟩ := F (cl, b) (mem_of_lookup ht)
        obtain ⟨a, C', xd, ev, hH, gC', hd⟩ := rd
        have eC : C' = C := by
          have z := gC'.symm.trans gC
          injection z with z
          injection z
        subst eC ev
        refine ⟨.ref a, c, .ref C', u, b, rfl, hu, .inr ⟨a, C', rfl, rfl, hi, xd, hH, fun dx ex => ?_⟩, hk, m2 H1 G1 (.refl st1.sH) _ [] ⟨rfl, rfl⟩⟩
        rcases hd with ⟨_, _, z3⟩ | ⟨dy, fs, _, z1, z2, _⟩
        · rw [z3] at ex
          cases ex
        · rw [z1] at ex
          cases ex
          exact ⟨fs, z2⟩
    | _ => exact m1.elim⟩
theorem pe_clsO {x : Str} {C : Addr} (hm : X.mg x = some (.ref C)) (hg : Gl X x := by rfl) (hdb : (x == ("__debug__" : Str)) = false := by decide) : PE X (.Name x p) (tC (.ref C)) := pe_glob (v := .ref C) hg hm rfl hdb
end
end Lw
namespace Lw
open PySem PySem.Spec PyProof.Rows L2
def idxD (d : D) : List D → Option Nat
  | [] => none
  | x :: xs => if deq x d = true then some 0 else (idxD d xs).map (· + 1)
def pIndex : D → D → R D
  | .lst xs, d => if pl (.lst xs) 20 && pl d 20 then (match idxD d xs with
    | some j => .ok (.int j)
    | none => .bad) else .bad
  | _, _ => .bad
section
variable {X : Cx} {W : WX} {B G0 : Hp} {κ : List Kd} {en : List D} {o e : Expr} {k ko : RK} {r ro : R D} {apos pos : Pos}
def lsOnly : D → R D
  | .lst s => .ok (.lst s)
  | _ => .bad
theorem bin2_only {α : Type} {ro r : R D} {g : D → R D} {f : D → D → R α} : R.bin2 (R.bind ro g) r f = ro.bind fun d => (g d).bind fun x => r.bind fun y => f x y := by
  unfold R.bin2
  rw [R.bind_assoc]
theorem idxD_spec {d : D} : ∀ {xs : List D} {j : Nat}, idxD d xs = some j → (∃ z, xs[j]? = some z ∧ deq z d = true) ∧ ∀ m z, m < j → xs[m]? = some z → deq z d = false
  | [], j, h => by cases h
  | x :: xs, j, h => by
    unfold idxD at h
    by_cases e : deq x d = true
    · rw [if_pos e] at h
      cases h
      exact ⟨⟨x, rfl, e⟩, fun m z hm => absurd hm (Nat.not_lt_zero m)⟩
    · rw [if_neg e] at h
      obtain ⟨j', h1, rfl⟩ := Option.map_eq_some_iff.mp h
      obtain ⟨⟨z, z1, z2⟩, z3⟩ := idxD_spec h1
      refine ⟨⟨z, by simpa using z1, z2⟩, fun m z hm hz => ?_⟩
      cases m with
      | zero =>
        have e2 : x = z := by simpa using hz
        subst e2
        simpa using e
      | succ m => exact z3 m z (by omega) (by simpa using hz)
theorem pys_get : ∀ {xs : List D} {m : Nat} {z' : PyData}, (pys xs)[m]? = some z' → ∃ z, xs[m]? = some z ∧ z' = py z
  | [], m, z', h => by simp [pys] at h
  | x :: xs, 0, z', h => by
    have e : py x = z' := by simpa [pys] using h
    exact ⟨x, rfl, e.symm⟩
  | x :: xs, m + 1, z', h => by
    obtain ⟨z, h1, h2⟩ := pys_get (xs := xs) (m := m) (by simpa [pys] using h)
    exact ⟨z, by simpa using h1, h2⟩
theorem pys_get' : ∀ {xs : List D} {m : Nat} {z : D}, xs[m]? = some z → (pys xs)[m]? = some (py z)
  | [], m, z, h => by simp at h
  | x :: xs, 0, z, h => by
    have e : x = z := by simpa using h
    subst e
    simp [pys]
  | x :: xs, m + 1, z, h => by simpa [pys] using pys_get' (xs := xs) (m := m) (by simpa using h)
theorem ev_index (hu : X.A.units + 65 < cLine) (ho : EV X W B G0 κ en o ko ro) (h : EV X W B G0 κ en e k r) (hs : starEach [e] X.env = (false, eval e X.env) :: starEach [] X.env := by rfl) (hbase : attributeBase o "index" X.env (eval o X.env) = eval o X.env := by rfl) (hline : (apos.endLine == pos.line) = true := by rfl)
    (hfew : ((backTo pos (starEach [e] X.env)).all (fun x => !x.1) && (backToKw pos (keywordEach [] X.env)).all (fun x => x.1.isSome) && decide ([e].length + ([] : List Keyword).length + (if ([] : List Keyword).isEmpty then 0 else 1) < 30)) = true := by rfl)
    (hpl : (backTo pos (starEach [] X.env)).any (·.1) = false := by rfl) :
    EV X W B G0 κ en (.Call (.Attribute o "index" apos) [e] [] pos) .F (R.bin2 (R.bind ro lsOnly) r pIndex) :=
  ⟨PE.wk (pe_bm PySem.F.plainAttrs_list PySem.F.slot_list_index PySem.F.type_list_index (mt_indexD hu) ho.pe (pa_cons h.pe pa_nil hs) hbase hfew hline hs hpl) fun σ H Q ⟨G, Ss, st, m⟩ => tEVb st (by rw [bin2_only] at m; exact m) _ fun d v H1 G1 S _ a1 st1 rv m1 => by
    have rd := st1.rd rv
    cases d with
    | lst xs =>
      have m1' : mR W (cf X B G0) σ H1 G1 (yV (cf X B G0) H1 .F Q) (r.bind fun y => pIndex (.lst xs) y) := m1
      obtain ⟨p, vs, ev, q, rs⟩ := id rd
      subst ev
      refine ⟨.inl ⟨rfl, vs, SqL.of q⟩, tEVb st1 m1' _ fun d2 v2 H2 G2 S2 _ a2 st2 rv2 m2 => ?_⟩
      have rd1 := rd.mono a2.1
      have rd2 := st2.rd rv2
      have m3 : mR W (cf X B G0) σ H2 G2 (yV (cf X B G0) H2 .F Q) (if pl (.lst xs) 20 && pl d2 20 then (match idxD d2 xs with
        | some j => .ok (.int j)
        | none => .bad) else .bad) := m2
      cases e1 : pl (.lst xs) 20 && pl d2 20 with
      | false => rw [e1] at m3; exact m3.elim
      | true =>
        rw [e1, if_pos rfl] at m3
        obtain ⟨h1, h2⟩ := Bool.and_eq_true_iff.mp e1
        cases ei : idxD d2 xs with
        | none => rw [ei] at m3; exact m3.elim
        | some j =>
          rw [ei] at m3
          obtain ⟨⟨z, z1, z2⟩, z3⟩ := idxD_spec ei
          have e2 : py (.lst xs) = .list (pys xs) := by simp [py]
          refine ⟨p, v2, py d2, pys xs, j, py z, rfl, rfl, by rw [← e2]; exact rd1.dp h1, rd2.dp h2, by rw [← e2]; exact rd1.shaped h1, rd2.shaped h2, pys_get' z1, by rw [deq_py]; exact z2, fun m z' hm hz => ?_, m3 H2 G2 (.refl st2.sH) _ [] ⟨rfl, rfl⟩⟩
          obtain ⟨w, w1, w2⟩ := pys_get hz
          subst w2
          rw [deq_py]
          exact z3 m w hm w1
    | _ => exact m1.elim⟩
end
section
variable {X : Cx} {W : WX} {B G0 : Hp} {κ : List Kd} {en : List D} {e o : Expr} {ko rk : RK} {ro : R D} {q : PK} {k : Nat} {m : Str} {apos pos : Pos}
end
end Lw
namespace Lw
open PySem PySem.Spec PyProof.Rows L2
def IsEO (K : PySem.W.Frag) (mg : Str → Option Value) (y : Str) (T : List (Str × Bool)) : Prop := ∃ C, mg y = some (.ref C) ∧ ∀ t ∈ T, IsE K mg (.ref C) t.1 t.2
def IsEB (K : PySem.W.Frag) (mg : Str → Option Value) (y : String) (T : List (Str × Bool)) : Prop := ∀ t ∈ T, IsE K mg (.type y) t.1 t.2
def CatO (K : PySem.W.Frag) (mg : Str → Option Value) (y : Str) (T : List Str) : Prop := ∃ C, mg y = some (.ref C) ∧ ∀ c ∈ T, CatD K mg (.ref C) c
section
variable {X : Cx} {W : WX} {B G0 : Hp} {κ : List Kd} {en : List D} {e : Expr} {k : RK} {r : R D} {p p2 pos : Pos} {T : List (Str × Bool)} {y : Str} {ty : String}
theorem ev_isEO (F : IsEO X.K X.mg y T) (h : EV X W B G0 κ en e k r) (hm : X.mg "isinstance" = none) (hg : Gl X "isinstance" := by rfl) (hgy : Gl X y := by rfl) (hdb : (y == ("__debug__" : Str)) = false := by decide)
    (he : starEach [e, .Name y p2] X.env = (false, eval e X.env) :: starEach [.Name y p2] X.env := by rfl) (he2 : starEach [.Name y p2] X.env = (false, eval (.Name y p2) X.env) :: starEach [] X.env := by rfl) (hpl : (backTo pos (starEach [.Name y p2] X.env)).any (·.1) = false := by rfl) :
    EV X W B G0 κ en (.Call (.Name "isinstance" p) [e, .Name y p2] [] pos) .F (r.bind (pIsE T)) := by
  obtain ⟨C, gC, F⟩ := F
  exact ev_isE F h (pe_clsO gC hgy hdb) (.own C) hm hg he he2 hpl
theorem ev_isEB (F : IsEB X.K X.mg ty T) (h : EV X W B G0 κ en e k r) (hm : X.mg "isinstance" = none) (hmT : X.mg y = none) (hv : bootBuiltins y = some (.type ty)) (hg : Gl X "isinstance" := by rfl) (hgy : Gl X y := by rfl) (hn : y ≠ "__name__" := by decide) (hdb : (y == ("__debug__" : Str)) = false := by decide)
    (he : starEach [e, .Name y p2] X.env = (false, eval e X.env) :: starEach [.Name y p2] X.env := by rfl) (he2 : starEach [.Name y p2] X.env = (false, eval (.Name y p2) X.env) :: starEach [] X.env := by rfl) (hpl : (backTo pos (starEach [.Name y p2] X.env)).any (·.1) = false := by rfl) :
    EV X W B G0 κ en (.Call (.Name "isinstance" p) [e, .Name y p2] [] pos) .F (r.bind (pIsE T)) :=
  ev_isE F h (pe_bltn (v := .ty ty) hgy hmT hv rfl hn hdb) (.ty ty) hm hg he he2 hpl
end
section
variable {α τ : Type} {X : Cx} {W : WX} {B G0 : Hp} {κ : List Kd} {en : List D} {δ : DE α} {rest body : List Stmt} {x n y : Str} {i j : Nat} {np np2 yp ap pos pos' : Pos} {s : R τ} {f : τ → R α}
theorem sv_tryO (T : List Str) (κJ : List Kd) (vw : τ → List D) (κE : List Kd) (enE : List D) (hx : D → τ) (F : CatO X.K X.mg x T)
    (hb : ∀ (W : WX) (pn : List (Addr × Obj)) (xe : Value → Shared → Prop), Takes (X.tr pn xe) W → PassesOwn (model X.prog X.w) X.A X.env xe → SV (X.tr pn xe) W B G0 κ en body (δ.tryJ κJ vw κE enE) s)
    (hw : ∀ d, Wk (((κE.set i .N).set j .F).set i .N) (enE.set j d) κJ (vw (hx d))) (hr : ∀ t, SV X W B G0 κJ (vw t) rest δ (f t)) (hN : X.N.Nodup) (hgx : Gl X x := by rfl) (hdx : (x == ("__debug__" : Str)) = false := by decide)
    (hij : i ≠ j := by decide) (hjκ : j < κE.length := by first | decide | simp) (hi : X.N[i]? = some n := by rfl) (hj : X.N[j]? = some y := by rfl) (hln : X.env.kindOf n = some .local := by rfl) (hly : X.env.kindOf y = some .local := by rfl)
    (hs : X.stack = X.env :: X.outer := by rfl) (hf : X.env.frame = some X.env.locals := by rfl) (hx0 : X.ex = [] := by rfl)
    (hdb : (n == ("__debug__" : Str)) = false := by decide) (hcd : (n == ("__classdict__" : Str)) = false := by decide) (hsw : ∀ Z : Cx, Z.env = X.env → swapsWith (.Name n np2) (some (.Name y yp)) ap.line Z.env = pure false := by intro _ h; rw [h]; rfl)
    (hiκ : i < κ.length := by first | decide | simp) :
    SV X W B G0 κ en (.Try body [.ExceptHandler (some (.Name x np)) (some n) [.Assign [.Name y yp] (.Name n np2) ap] pos'] [] [] pos :: rest) δ ((rTry T s hx).bind f) := by
  obtain ⟨C, gC, F⟩ := F
  exact sv_try T κJ vw κE enE hx F ⟨hgx, hdx, .inl gC⟩ hb hw hr hN hij hjκ hi hj hln hly hs hf hx0 hdb hcd hsw hiκ
end
end Lw
namespace Lw
open PySem PySem.Spec PyProof.Rows L2
def FldD (K : PySem.W.Frag) (mg : Str → Option Value) (cl f : Str) : Prop := ∃ C, mg cl = some (.ref C) ∧ Cls K C ∧ NoAttr K C f
def lookF (f : Str) : List Str → List D → R D
  | n :: ns, d :: ds => if f = n then .ok d else lookF f ns ds
  | _, _ => .bad
def pFld (cl f : Str) : D → R D
  | .obj c ns xs => if c = cl then lookF f ns xs else .bad
  | _ => .bad
theorem lookF_ok {K : PySem.W.Frag} {mg : Str → Option Value} {G : Hp} {f : Str} : ∀ {fs : List (Str × V)} {ds : List D} {d : D}, lookF f (fs.map (·.1)) ds = .ok d → Reps K mg G ds (fs.map (·.2)) → ∃ v, fs.lookup f = some v ∧ Rep K mg G d v
  | [], ds, d, h, r => by cases h
  | (n, w) :: fs, [], d, h, r => by cases h
  | (n, w) :: fs, x :: ds, d, h, r => by
    obtain ⟨v, vs, e, r1, r2⟩ := r
    cases e
    have h' : (if f = n then R.ok x else lookF f (fs.map (·.1)) ds) = .ok d := h
    by_cases z : f = n
    · rw [if_pos z] at h'
      cases h'
      refine ⟨w, ?_, r1⟩
      rw [List.lookup_cons, beq_iff_eq.mpr z]
    · rw [if_neg z] at h'
      obtain ⟨v, e1, e2⟩ := lookF_ok h' r2
      refine ⟨v, ?_, e2⟩
      rw [List.lookup_cons, beq_eq_false_iff_ne.mpr z]
      exact e1
theorem lookF_nx {f : Str} : ∀ {ns : List Str} {ds : List D} {x : Ex}, lookF f ns ds = .exc x → False
  | [], ds, x, h => by cases h
  | n :: ns, [], x, h => by cases h
  | n :: ns, d :: ds, x, h => by
    have h' : (if f = n then R.ok d else lookF f ns ds) = .exc x := h
    by_cases z : f = n
    · rw [if_pos z] at h'; cases h'
    · rw [if_neg z] at h'; exact lookF_nx h'
section
variable {X : Cx} {W : WX} {B G0 : Hp} {κ : List Kd} {en : List D} {e : Expr} {k : RK} {r : R D} {pos : Pos} {cl f : Str}
theorem ev_fld (F : FldD X.K X.mg cl f) (h : EV X W B G0 κ en e .F r) (hb : attributeBase e f X.env (eval e X.env) = eval e X.env := by rfl) : EV X W B G0 κ en (.Attribute e f pos) .F (r.bind (pFld cl f)) :=
  ⟨PE.wk (pe_fld h.pe hb) fun σ H Q ⟨G, Ss, st, m⟩ => tEVb st m _ fun d v H1 G1 S _ a st1 rv m1 => by
    obtain ⟨C, gC, cC, nC⟩ := F
    cases d with
    | obj c ns xs =>
      have m2 : mR W (cf X B G0) σ H1 G1 (yV (cf X B G0) H1 .F Q) (if c = cl then lookF f ns xs else .bad) := m1
      by_cases ec : c = cl
      · rw [if_pos ec] at m2
        subst ec
        obtain ⟨⟨a, C', dx, fs, ev, hG, gC', hn, rs⟩, _⟩ := rv
        have eC : C' = C := by
          have z := gC'.symm.trans gC
          injection z with z
          injection z
        subst eC ev hn
        cases el : lookF f (fs.map (·.1)) xs with
        | bad => rw [el] at m2; exact m2.elim
        | exc x => exact (lookF_nx el).elim
        | ok d =>
          rw [el] at m2
          obtain ⟨v, e1, e2⟩ := lookF_ok el rs
          exact ⟨a, C', dx, fs, v, rfl, st1.sH _ _ hG, cC, nC, e1, m2 H1 G1 (.refl st1.sH) v [] ⟨e2, rfl⟩⟩
      · rw [if_neg ec] at m2; exact m2.elim
    | _ => exact m1.elim⟩
end
def putL (cl f : Str) (d : D) : D → R D
  | .obj c ns xs => if c = cl ∧ ns.contains f = false ∧ ns.length = xs.length ∧ ns.length < 1000 then .ok (.obj c (ns ++ [f]) (xs ++ [d])) else .bad
  | _ => .bad
theorem putF_new {f : Str} {v : V} : ∀ {fs : List (Str × V)}, (fs.map (·.1)).contains f = false → putF f v fs = fs ++ [(f, v)]
  | [], _ => rfl
  | (g, x) :: fs, h => by
    rw [List.map_cons, List.contains_cons] at h
    obtain ⟨h1, h2⟩ := Bool.or_eq_false_iff.mp h
    show (if g = f then (g, v) :: fs else (g, x) :: putF f v fs) = _
    have ne : ¬ g = f := fun e => by subst e; simp at h1
    rw [if_neg ne, putF_new h2] <;> rfl
section
variable {α : Type} {X : Cx} {W : WX} {B G0 : Hp} {κ : List Kd} {en : List D} {e o : Expr} {r : R D} {δ : DE α} {pos pos' : Pos} {rest : List Stmt} {cl f : Str} {d0 : D} {ns0 : List Str} {xs0 : List D}
theorem sv_fld {i : Nat} {q : Addr} {g : D → R α} (F : FldD X.K X.mg cl f) (p : PE X o (tVar i)) (he : EV X W B G0 κ en e .F r) (hr : ∀ d, SV X W B G0 κ (en.set i d) rest δ (g d)) (hk : κ[i]? = some (.I q) := by rfl) (hd : en[i]? = some d0 := by rfl)
    (hex : δ.ex κ en := by exact True.intro) (hs : swapsWith e (some (.Attribute o f pos')) pos.line X.env = pure false := by rfl) : SV X W B G0 κ en (.Assign [.Attribute o f pos'] e pos :: rest) δ (r.bind fun d => (putL cl f d d0).bind g) :=
  ⟨PSs.wk (pss_cons (ps_fld p he.pe hs) (PSs.all fun d => (hr d).ps)) fun Dn σ H ⟨G, Ss, st, m⟩ => ⟨G, Ss, st, mS.toR st m hex fun d H1 G1 a st1 m1 v S rv => by
    obtain ⟨C, gC, cC, nC⟩ := F
    obtain ⟨v0, d', h1, h2, C', dx, fs, cl', ns, ds, e1, e2, e3, e4, e5, e6, e7⟩ := st1.slot i (.I q) hk (by intro z; cases z)
    rw [hd] at h2
    cases h2
    subst e3 e1 e6
    have m2 : mS W (cf X B G0) δ Dn ((if cl' = cl ∧ (fs.map (·.1)).contains f = false ∧ (fs.map (·.1)).length = ds.length ∧ (fs.map (·.1)).length < 1000 then R.ok (D.obj cl' (fs.map (·.1) ++ [f]) (ds ++ [d])) else R.bad).bind g) := m1
    by_cases hc : cl' = cl ∧ (fs.map (·.1)).contains f = false ∧ (fs.map (·.1)).length = ds.length ∧ (fs.map (·.1)).length < 1000
    case neg =>
      rw [if_neg hc] at m2
      exact m2.elim
    rw [if_pos hc] at m2
    obtain ⟨ec, hc⟩ := hc
    subst ec
    have eC : C' = C := by
      have z := e5.symm.trans gC
      injection z with z
      injection z
    subst eC
    refine ⟨_, h1, q, C', dx, fs, rfl, e4, cC, nC, by simpa using hc.2.2, D.obj cl' (fs.map (·.1) ++ [f]) (ds ++ [d]), G1, Ss, ?_, m2⟩
    rw [putF_new hc.1]
    refine st1.put hk (by intro z; cases z) (by rw [e2]; exact List.mem_cons_self) h1 ?_
    rw [e2]
    exact ⟨C', dx, fs ++ [(f, v)], cl', _, _, rfl, rfl, rfl, upd_same, gC, by simp, by simpa using e7.snoc rv.1⟩⟩⟩
end
theorem delH_sub {H : Hp} {p : Addr} : Same (delH H p) H := fun b o q => by
  by_cases e : b = p
  · rw [e, delH_same] at q; cases q
  · rw [delH_ne e] at q; exact q
def spI (K : PySem.W.Frag) (mg : Str → Option Value) (cl : Str) (pk : List PK) (f : List D → R D) : Sp := fun vs H Q E =>
  ∃ G ds p C dx ws, vs = .ref p :: ws ∧ H p = some (.ins C dx []) ∧ mg cl = some (.ref C) ∧ Same G (delH H p) ∧ ArgsR K mg (delH H p) G pk ds ws ∧
    mR (fun cv xd _ H' => E cv xd H') ⟨K, mg, delH H p, G⟩ [] (delH H p) G (fun d H' G' => RepK ⟨K, mg, delH H p, G⟩ H' G' (.I p) d (.ref p) [p] → G' p = none → Q .non H') (f ds)
def dIni (p : Addr) : DE D := ⟨fun κ en a => κ[0]? = some (.I p) ∧ en[0]? = some a, fun _ _ _ => False, fun _ _ => True, fun _ _ _ => False, fun _ _ _ => False⟩
def MkI (P : Program) (w : World) (K : PySem.W.Frag) (mg : Str → Option Value) (base : Heap) (k : Nat) (cl : Str) (pk : List PK) (f : List D → R D) : Prop :=
  ∃ C fi fd ps, mg cl = some (.ref C) ∧ Mk K C fi ∧ Binds K fd ps [] ∧ FnOk P w K mg base (L2.CX P w) k fi fd ps (spI K mg cl pk f)
section
variable {P : Program} {w : World} {K : PySem.W.Frag} {mg : Str → Option Value} {base : Heap}
theorem fi_ok {x qual cl : Str} {params : Arguments} {body : List Stmt} {sc : Scope} {fa : Addr} {fd : FuncData} {N ps : List Str} {k : Nat} {pk : List PK} (m : Nat) {f : List D → R D} (F : FunD K x qual params body sc [] [] fa fd) (S : FnScope N ps sc) (hl : ps.length = pk.length + 1) (hN : N.length = pk.length + 1 + m)
    (hb : ∀ (cdv : Value) (A : Around) (outer : List Env) (s : Shared) (H B : Hp) (p : Addr) (E : XK) (G : Hp) (ds : List D), Room k (A.deeper (envOfC qual sc s.heap.objs.size fa cdv)) → ds.length = pk.length →
      SV (cxOf (L2.CX P w) P w K mg base N qual sc fa cdv A outer s H E) (fun cv xd _ H' => E cv xd H') B G (.I p :: (pkK pk ++ List.replicate m .N)) (.obj cl [] [] :: (ds ++ List.replicate m .non)) body (dIni p) (f ds)) :
    FnOk P w K mg base (L2.CX P w) (k + 1) fa fd ps (spI K mg cl pk f) := by
  refine F.ok S (fun vs H Q E ⟨G, ds, p, C, dx, ws, e, _, _, _, rs, _⟩ => ?_) (fun cdv A outer s H vs Q E hr ⟨G, ds, p, C, dx, ws, e, hp, gC, sG, rs, mm⟩ => ?_)
  · subst e
    obtain ⟨l1, l2⟩ := rs.length
    simp
    omega
  · subst e
    obtain ⟨l1, l2⟩ := rs.length
    have hn : ds.length = pk.length := l1.symm
    have sH : Same G H := sG.trans delH_sub
    have gp : G p = none := by
      cases q : G p with
      | none => rfl
      | some o =>
        have z := sG _ _ q
        rw [delH_same] at z
        cases z
    have hw : ws.length = pk.length := by omega
    have st : St ⟨K, mg, delH H p, G⟩ (.I p :: (pkK pk ++ List.replicate m .N)) (.obj cl [] [] :: (ds ++ List.replicate m .non)) (L2.start N (.ref p :: ws)) H G (fun i => if i = 0 then [p] else []) := by
      refine ⟨⟨?_, ?_⟩, fun i k hk hne => ?_, fun i q hq => ?_, fun i => ?_, fun i j q hij h1 h2 => ?_, delH_sub, .refl _, sH, fun _ _ h => .inl h⟩
      · unfold L2.start
        simp [pkK]
        omega
      · simp [hn, pkK]
      · cases i with
        | zero =>
          have e : Kd.I p = k := by simpa using hk
          subst e
          exact ⟨.ref p, _, rfl, rfl, C, dx, [], cl, [], [], rfl, rfl, rfl, hp, gC, rfl, .nil⟩
        | succ j =>
          have hk' : (pkK pk ++ List.replicate m Kd.N)[j]? = some k := by simpa using hk
          rcases Nat.lt_or_ge j pk.length with hj | hj
          · rw [List.getElem?_append_left (by simpa [pkK] using hj)] at hk'
            unfold pkK at hk'
            rw [List.getElem?_map] at hk'
            cases eb : pk[j]? with
            | none => rw [eb] at hk'; cases hk'
            | some b =>
              rw [eb] at hk'
              have e : b.kd = k := by simpa using hk'
              subst e
              obtain ⟨v, d, e1, e2, e3⟩ := rs.get eb
              refine ⟨v, d, ?_, ?_, ?_⟩
              · unfold L2.start
                rw [List.getElem?_append_left (by simp; omega)]
                simp [e1]
              · rw [List.getElem?_cons_succ, List.getElem?_append_left (by omega)]
                exact e2
              · rw [if_neg (Nat.succ_ne_zero j)]
                cases b with
                | F => exact ⟨e3, rfl⟩
                | B => exact ⟨e3, rfl⟩
                | E => exact ⟨e3, rfl⟩
          · rw [List.getElem?_append_right (by simpa [pkK] using hj)] at hk'
            have e := List.eq_of_mem_replicate (List.mem_of_getElem? hk')
            exact absurd e hne
      · by_cases e : i = 0
        · rw [if_pos e] at hq
          have e2 : q = p := by simpa using hq
          subst e2
          exact ⟨gp, delH_same, _, hp⟩
        · rw [if_neg e] at hq
          cases hq
      · by_cases e : i = 0
        · rw [if_pos e]; simp
        · rw [if_neg e]; exact List.Pairwise.nil
      · by_cases e : i = 0
        · by_cases e2 : j = 0
          · exact hij (by rw [e, e2])
          · rw [if_neg e2] at h2; cases h2
        · rw [if_neg e] at h1; cases h1
    refine ⟨_, (hb cdv A outer s H (delH H p) p E G ds hr hn).ps, G, _, st, ?_⟩
    cases hf : f ds with
    | bad => rw [hf] at mm; exact mm.elim
    | exc x =>
      rw [hf] at mm
      exact fun cv xd κ en σ H' G' Ss st _ hv => mm cv xd H' G' st.adv0 hv
    | ok d =>
      rw [hf] at mm
      refine ⟨fun κ en σ H' G' Ss st ⟨e1, e2⟩ => ?_, fun _ _ _ _ _ _ _ _ z => z.elim, fun _ _ _ _ _ _ _ z => z.elim, fun _ _ _ _ _ _ _ z => z.elim⟩
      obtain ⟨v, d', h1, h2, h3⟩ := st.slot 0 _ e1 (by intro z; cases z)
      rw [e2] at h2
      cases h2
      obtain ⟨C', dx', fs, cl', ns, xs, z1, z2, z3⟩ := id h3
      have gp' : G' p = none := by
        have z := st.own 0 p (by rw [z2]; exact List.mem_cons_self)
        exact z.1
      refine mm H' G' st.adv0 ?_ gp'
      rw [z1, z2] at h3
      exact h3
end
section
variable {X : Cx} {CX : CXT} {k : Nat} {f C : Addr} {fd : FuncData} {ps : List Str} {sp : Sp} {E : L2.St → XK} {x : Str} {p pos : Pos} {e : Expr} {es : List Expr} {t : TA}
theorem run_makeS {pins : List (Addr × Obj)} {σ : L2.St} {H : Hp} {s : Shared} {Q : VK} {us : List Value} {vs : List V} (M : Mk X.K C f) (F : FnOk X.prog X.w X.K X.mg X.base CX k f fd ps sp) (hr : Room (k + 1) X.A) (hb : Binds X.K fd ps [])
    (hx : PassesAt CX X σ (E σ)) (I : Inv X pins σ H s) (r : Vals vs us)
    (h : ∀ x dx, H x = none → H dx = none → dx ≠ x → sp (.ref x :: vs) (upd (upd H dx (.own x)) x (.ins C dx [])) (fun v H2 => v = .non ∧ Q (.ref x) H2) (E σ)) :
    wpAny (model X.prog X.w) X.A (call (.ref C) us) (EP X pins σ Q) X.xe s := by
  have hq := h (s.heap.objs.size + 1) s.heap.objs.size (I.hok.fresh (Nat.le_succ _)) (I.hok.fresh (Nat.le_refl _)) (Nat.ne_of_lt (Nat.lt_succ_self _))
  have I2 := Inv.made (C := C) I
  have r2 : Vals (V.ref (s.heap.objs.size + 1) :: vs) (Value.ref (s.heap.objs.size + 1) :: us) := .cons rfl r
  have hl : (Value.ref (s.heap.objs.size + 1) :: us).length = ps.length := by
    rw [← r2.length]
    exact F.len _ _ _ _ hq
  have b := hb _ (Value.ref (s.heap.objs.size + 1) :: us) I2.kIn (by rw [List.append_nil]; exact hl)
  rw [List.append_nil] at b
  refine wpAny_call (make_map (f := f) I.kIn M.makes M.init (beq_iff_eq.mp M.fn) (codeAny_mono (F.run _ X.stack _ _ ⟨Value.ref (s.heap.objs.size + 1) :: us, []⟩ (Value.ref (s.heap.objs.size + 1) :: us) _ _ (E σ) (hr.make C us [])
    (I2.env0.make C us []) b r2 hq) fun r s' hq' => ?_))
  cases r with
  | error e => exact hx pins _ _ e s' I2 hq'
  | ok fl =>
    cases fl with
    | ret u =>
      obtain ⟨v, H', I3, rv, ev, q3⟩ := I2.after hq'
      subst ev
      exact ⟨rv, ⟨V.ref (s.heap.objs.size + 1), H', I3, rfl, q3⟩⟩
    | next => exact False.elim hq'
    | brk => exact False.elim hq'
    | cont => exact False.elim hq'
def tMakeS (C : Addr) (sp : Sp) (E : L2.St → XK) (t : TA) : TE := fun σ H Q => t σ H fun vs H1 => ∀ x dx, H1 x = none → H1 dx = none → dx ≠ x →
  sp (.ref x :: vs) (upd (upd H1 dx (.own x)) x (.ins C dx [])) (fun v H2 => v = .non ∧ Q (.ref x) H2) (E σ)
theorem pe_makeS (M : Mk X.K C f) (F : FnOk X.prog X.w X.K X.mg X.base CX k f fd ps sp) (hr : Room (k + 1) X.A) (hg : Gl X x) (hm : X.mg x = some (.ref C)) (hb : Binds X.K fd ps []) (hx : ∀ σ, PassesAt CX X σ (E σ))
    (ha : PA X (e :: es) t) (hdb : (x == ("__debug__" : Str)) = false := by decide) (he : starEach (e :: es) X.env = (false, eval e X.env) :: starEach es X.env := by rfl) (hpl : (backTo pos (starEach es X.env)).any (·.1) = false := by rfl) :
    PE X (.Call (.Name x p) (e :: es) [] pos) (tMakeS C sp E t) := by
  refine ⟨fun pins s σ H Q I h => ?_⟩
  refine wpAny_Call_Name_kw (ld_glob I hg hm ?_ hdb)
  refine PySem.W.callWith_K (h₀ := X.base) I.ok.mod.kin M.kp (thn (ha.run pos pins s σ H _ I h) fun us s1 ⟨vs, H1, I1, r, q⟩ => ⟨I1.kIn, ?_⟩) he hpl
  exact run_makeS M F hr hb (hx σ) I1 r q
end
section
variable {X : Cx} {W : WX} {B G0 : Hp} {κ : List Kd} {en : List D} {e : Expr} {es : List Expr} {rs : R (List D)} {f : List D → R D} {pk : List PK} {k : Nat} {cl : Str} {p pos : Pos}
theorem ev_make (F : MkI X.prog X.w X.K X.mg X.base k cl pk f) (hr : Room (k + 1) X.A) (tk : Takes X W) (ha : EA X W B G0 κ en (e :: es) pk rs) (hg : Gl X cl := by rfl) (hdb : (cl == ("__debug__" : Str)) = false := by decide)
    (he : starEach (e :: es) X.env = (false, eval e X.env) :: starEach es X.env := by rfl) (hpl : (backTo pos (starEach es X.env)).any (·.1) = false := by rfl) : EV X W B G0 κ en (.Call (.Name cl p) (e :: es) [] pos) .F (rs.bind f) := by
  obtain ⟨C, fi, fd, ps, gC, M, hb, F⟩ := F
  exact ⟨PE.wk (pe_makeS M F hr hg gC hb (fun σ => passAt tk σ) ha.pa hdb he hpl) fun σ H Q ⟨G, Ss, st, m⟩ => ⟨G, Ss, st, m.thn fun ds H1 G1 a m vs args x dx hx hdx ne => by
    have sG := a.2.2.1
    have hx1 : upd H1 dx (.own x) x = none := by rw [upd_ne (Ne.symm ne)]; exact hx
    have eD : delH (upd (upd H1 dx (.own x)) x (.ins C dx [])) x = upd H1 dx (.own x) := delH_new hx1
    have a1 : Adv H1 G1 G1 (upd H1 dx (.own x)) := Adv.newO sG hdx
    refine ⟨G1, ds, x, C, dx, vs, rfl, upd_same, gC, by rw [eD]; exact a1.2.2.1, by rw [eD]; exact args.adv a1.1 (.refl _), ?_⟩
    rw [eD]
    cases hf : f ds with
    | bad => rw [hf] at m; exact m.elim
    | exc y =>
      rw [hf] at m
      exact fun cv xd H' G' b hv => m cv xd H' G' (a1.trans b) hv
    | ok d =>
      rw [hf] at m
      intro H' G' b hI gp
      refine ⟨rfl, ?_⟩
      have b1 := a1.trans b
      have fr := b1.frz (S := [x]) fun q hq => by
        have e : q = x := by simpa using hq
        subst e
        exact ⟨hx, gp⟩
      have rF : Rep X.K X.mg (Lw.frz G' H' [x]) d (.ref x) := hI.frz rfl (fun _ z => z) fun q hq => by
        have e : q = x := by simpa using hq
        subst e
        exact gp
      exact m H' _ fr (.ref x) [] ⟨rF, rfl⟩⟩⟩
end
end Lw
namespace Lw
open PySem PySem.Spec PyProof.Rows L2
section
variable {X : Cx} {W : WX} {B G0 : Hp} {κ : List Kd} {en : List D} {e a b c tg : Expr} {k ka kb kc : RK} {r ra rb rc : R D} {p pos tpos : Pos} {elts : List Expr} {kk : Nat}
end
section
variable {α : Type} {X : Cx} {W : WX} {B G0 : Hp} {κ : List Kd} {en : List D} {δ : DE α} {pos : Pos} {rest : List Stmt} {d0 : D}
end
end Lw
namespace Lw
open PySem PySem.Spec PyProof.Rows L2
section
variable {X : Cx} {k : RK} {pos : Pos} {tg : Expr}
end
end Lw
namespace Lw
open PySem PySem.Spec PyProof.Rows L2
section
variable {X : Cx} {W : WX} {B G0 : Hp} {κ : List Kd} {en : List D} {o e : Expr} {k ko : RK} {r ro : R D} {apos pos : Pos}
end
end Lw
namespace Lw
open PySem PySem.Spec PyProof.Rows L2
def keyEq : D → D → Bool
  | .int a, .int b => a == b
  | .str a, .str b => a == b
  | _, _ => false
def isKey : D → Bool
  | .int _ => true
  | .str _ => true
  | _ => false
def dIdx (ks : List D) (k : D) : Option Nat := ks.findIdx? fun z => keyEq z k
def toDct : D → R (List D × List D)
  | .dct ks xs => .ok (ks, xs)
  | _ => .bad
def pDget : D → D → R D
  | .dct ks xs, k => if isKey k then (match dIdx ks k with
    | some j => (match xs[j]? with
      | some x => .ok x
      | none => .bad)
    | none => .bad) else .bad
  | _, _ => .bad
theorem keyEq_k {a b : Key} : keyEq (kD a) (kD b) = decide (a = b) := by
  cases a <;> cases b <;> simp [keyEq, kD, Bool.beq_eq_decide_eq]
theorem key_of_D {K : PySem.W.Frag} {mg : Str → Option Value} {H : Hp} {d : D} {v : V} (h : Rep K mg H d v) (hk : isKey d = true) : ∃ k : Key, d = kD k ∧ v = kV k := by
  cases d with
  | int i => exact ⟨.inl i, rfl, h⟩
  | str s => exact ⟨.inr s, rfl, h.1⟩
  | _ => cases hk
theorem valV_dIdx (k : Key) : ∀ (kvs : List (Key × V)), (∀ j, dIdx (kvs.map fun q => kD q.1) (kD k) = some j → ∃ w, (kvs.map (·.2))[j]? = some w ∧ valV kvs k = some w) ∧ (dIdx (kvs.map fun q => kD q.1) (kD k) = none → valV kvs k = none)
  | [] => ⟨fun j h => by simp [dIdx] at h, fun _ => rfl⟩
  | p :: r => by
    obtain ⟨h1, h2⟩ := valV_dIdx k r
    by_cases e : p.1 = k
    · rw [valV_pos e]
      refine ⟨fun j h => ?_, fun h => ?_⟩
      · unfold dIdx at h
        rw [List.map_cons, List.findIdx?_cons, keyEq_k, decide_eq_true e, if_pos rfl] at h
        cases h
        exact ⟨p.2, rfl, rfl⟩
      · unfold dIdx at h
        rw [List.map_cons, List.findIdx?_cons, keyEq_k, decide_eq_true e, if_pos rfl] at h
        cases h
    · rw [valV_neg e]
      refine ⟨fun j h => ?_, fun h => ?_⟩
      · unfold dIdx at h
        rw [List.map_cons, List.findIdx?_cons, keyEq_k, decide_eq_false e, if_neg (by decide)] at h
        obtain ⟨i, hi, rfl⟩ := Option.map_eq_some_iff.mp h
        obtain ⟨w, e1, e2⟩ := h1 i hi
        exact ⟨w, by simpa using e1, e2⟩
      · unfold dIdx at h
        rw [List.map_cons, List.findIdx?_cons, keyEq_k, decide_eq_false e, if_neg (by decide)] at h
        exact h2 (Option.map_eq_none_iff.mp h)
theorem any_key (k : Key) (kvs : List (Key × V)) : (kvs.map fun q => kD q.1).any (fun z => keyEq z (kD k)) = kvs.any fun kv => decide (kv.1 = k) := by
  rw [List.any_map]
  congr 1
  funext p
  exact keyEq_k
theorem Cont.dct {p : Addr} {vs : List V} {ks xs ds : List D} {Z : Hp} (hc : Cont Z p (.dct ks xs) ds vs) : ∃ kvs : List (Key × V), Z p = some (.dK kvs) ∧ ks = (kvs.map fun q => kD q.1) ∧ ds = xs ∧ vs = kvs.map (·.2) := by
  cases hc with
  | dK hp => exact ⟨_, hp, rfl, rfl, rfl⟩
theorem RV.ditems {c : Cf} {H0 H G : Hp} {k : RK} {v : V} {S : List Addr} {ks xs : List D} (h : RV c H0 H G k (.dct ks xs) v S) (sB : Same c.B H) (sG : Same G H) : ∃ (a : Addr) (kvs : List (Key × V)), v = .ref a ∧ Rd H a (.dK kvs) ∧ ks = (kvs.map fun q => kD q.1) ∧ xs.length = kvs.length ∧ ∀ (i : Nat) (x : D), xs[i]? = some x → ∃ w, (kvs.map (·.2))[i]? = some w ∧ RV c H0 H G k.el x w [] := by
  have get : ∀ {Z : Hp} {vs : List V}, Reps c.K c.mg Z xs vs → (∀ x w, Rep c.K c.mg Z x w → RV c H0 H G k.el x w []) → ∀ (i : Nat) (x : D), xs[i]? = some x → ∃ w, vs[i]? = some w ∧ RV c H0 H G k.el x w [] := fun {Z vs} r f i x e => by
    obtain ⟨w, e1, e2⟩ := r.get e
    exact ⟨w, e1, f x w e2⟩
  have rd := h.rep sB sG
  cases k with
  | F =>
    obtain ⟨a, e, kvs, q, ek, r⟩ := h.1
    exact ⟨a, kvs, e, rd_mono sG q, ek, by rw [r.length, List.length_map], get r fun x w z => ⟨z, rfl⟩⟩
  | B =>
    obtain ⟨a, e, kvs, q, ek, r⟩ := h.1
    exact ⟨a, kvs, e, rd_mono sB q, ek, by rw [r.length, List.length_map], get r fun x w z => ⟨z, rfl⟩⟩
  | E =>
    obtain ⟨⟨p, vs, ds, e, hc, r⟩, _⟩ := h
    obtain ⟨kvs, hp, ek, rfl, rfl⟩ := hc.dct
    exact ⟨p, kvs, e, .inl hp, ek, by rw [r.length, List.length_map], get r fun x w z => ⟨z, rfl⟩⟩
  | J =>
    obtain ⟨⟨p, vs, ds, e, hc, r⟩, _⟩ := h
    obtain ⟨kvs, hp, ek, rfl, rfl⟩ := hc.dct
    exact ⟨p, kvs, e, .inl (sB _ _ hp), ek, by rw [r.length, List.length_map], get r fun x w z => ⟨z, rfl⟩⟩
  | P =>
    obtain ⟨a, e, kvs, q, ek, r⟩ := rd
    exact ⟨a, kvs, e, q, ek, by rw [r.length, List.length_map], get r fun x w z => ⟨z, rfl⟩⟩
  | O q =>
    obtain ⟨a, e, kvs, q, ek, r⟩ := rd
    exact ⟨a, kvs, e, q, ek, by rw [r.length, List.length_map], get r fun x w z => ⟨z, rfl⟩⟩
theorem DGet.kR {H : Hp} {a : Addr} {kvs : List (Key × V)} {k : Key} (e : Rd H a (.dK kvs)) : DGet H a (kV k) (valV kvs k) := .inl ⟨kvs, k, e, rfl, rfl⟩
theorem pDget_dct {ks xs : List D} {k : D} : pDget (.dct ks xs) k = if isKey k then (match dIdx ks k with
    | some j => (match xs[j]? with
      | some x => .ok x
      | none => .bad)
    | none => .bad) else .bad := rfl
section
variable {X : Cx} {W : WX} {B G0 : Hp} {κ : List Kd} {en : List D} {a b e x : Expr} {k ka kb kx : RK} {r ra rb rx : R D} {pos apos : Pos}
theorem ev_dix (hu : X.A.units + 65 < cLine) (ha : EV X W B G0 κ en a k ra) (hb : EV X W B G0 κ en b kb rb) (hk : ∀ q, k ≠ .O q := by intro _ z; cases z) (hs : NoSl b := by exact fun _ _ => rfl) : EV X W B G0 κ en (.Subscript a b pos) k.el (R.bin2 ra rb pDget) :=
  ⟨PE.wk (pe_dget (by omega) ha.pe hb.pe hs) fun σ H Q ⟨G, Ss, st0, m0⟩ => tEVb st0 m0 _ fun d v H1 G1 S _ a1 st rv m => tEVb st m _ fun i w H2 G2 S2 _ a2 st2 rv2 m2 => by
    have hi := st2.rd rv2
    have rv' := rv.adv a2 hk
    cases d with
    | dct ks xs =>
      rw [pDget_dct] at m2
      by_cases hkk : isKey i = true
      · rw [if_pos hkk] at m2
        obtain ⟨key, rfl, rfl⟩ := key_of_D hi hkk
        obtain ⟨p, kvs, ev, hp, rfl, hl, get⟩ := rv'.ditems st2.sB st2.sH
        obtain ⟨z1, z2⟩ := valV_dIdx key kvs
        cases ej : dIdx (kvs.map fun q => kD q.1) (kD key) with
        | none => rw [ej] at m2; exact m2.elim
        | some j =>
          rw [ej] at m2
          obtain ⟨w, e1, e2⟩ := z1 j ej
          cases ex : xs[j]? with
          | none => simp only [ex] at m2; exact m2.elim
          | some y =>
            simp only [ex] at m2
            obtain ⟨w', e3, rw'⟩ := get j y ex
            rw [e1] at e3
            cases e3
            exact ⟨p, w, ev, by rw [← e2]; exact DGet.kR hp, m2 H2 G2 (.refl st2.sH) w [] (by cases k <;> first | exact rw' | exact absurd rfl (hk _))⟩
      · rw [if_neg hkk] at m2
        exact m2.elim
    | _ => exact m2.elim⟩
theorem ev_dict0 {q : Kd} : EV X W B G0 κ en (.Dict [] [] pos) (.O (.L q)) (.ok (.dct [] [])) :=
  ⟨PE.wk pe_dnewK fun σ H Q ⟨G, Ss, st, m⟩ p hp => m _ _ (Adv.newO st.sH hp) _ [p] ⟨⟨p, [], [], [], rfl, rfl, .dK (kvs := []) upd_same, rfl, rfl⟩, by simp, fun y hy => by
    rw [List.mem_singleton.mp hy]
    exact ⟨hp, st.sH.free hp, _, upd_same⟩⟩⟩
end
section
variable {α : Type} {X : Cx} {W : WX} {B G0 : Hp} {κ : List Kd} {en : List D} {e e2 : Expr} {k k2 : RK} {r r2 : R D} {δ : DE α} {pos : Pos} {rest : List Stmt} {d0 : D}
end
end Lw
namespace Lw
open PySem PySem.Spec PyProof.Rows L2
section
variable {α : Type} {X : Cx} {W : WX} {B G0 : Hp} {κ : List Kd} {en : List D} {e : Expr} {k : RK} {r : R D} {δ : DE α} {pos : Pos} {rest : List Stmt} {d0 : D}
end
section
variable {K : PySem.W.Frag} {mg : Str → Option Value}
end
end Lw
namespace Lw
open PySem PySem.Spec PyProof.Rows L2
structure LbC (K : PySem.W.Frag) (mg : Str → Option Value) (x : Str) : Prop where
  ex : ∃ C, mg x = some (.ref C) ∧ PySem.W.specialIn K (.ref C) "__getattribute__" = some (some (.builtin "type.__getattribute__")) ∧ PySem.W.readsIn K C (.type "type") = true ∧ PySem.W.findCls K (.ref C) (.type "type") "__init__" = some (.val (.builtin "ValueError.__init__"))
abbrev W00 : WX := fun _ _ _ _ => False
structure SX (X : Cx) (B G0 : Hp) (κ : List Kd) (en : List D) (sts : List Stmt) (cl fld : Str) (r : R D) : Prop where
  ps : PSs X sts fun Dn σ H => ∃ p C G Ss, σ[0]? = some (some (.ref p)) ∧ H p = some (exo p C none) ∧ OexC X.K C ∧ PySem.W.findIn X.K (.ref C) fld = some none ∧ St (cf X B G0) κ en σ H G Ss ∧
    mR W00 (cf X B G0) σ H G (fun d H' G' => ∀ dx x y, H' p = some (exo p C none) → H' dx = none → dx ≠ p → d = .exc cl [fld] [x] → Rep X.K X.mg G' x y → Dn.nx σ (upd (upd H' dx (exd dx [(fld, y)])) p (exo p C (some dx)))) r
section
variable {P : Program} {w : World} {K : PySem.W.Frag} {mg : Str → Option Value} {base : Heap}
end
section
variable {α : Type} {X : Cx} {W : WX} {B G0 : Hp} {κ : List Kd} {en : List D} {δ : DE α} {pos : Pos} {rest : List Stmt} {e : Expr} {es : List Expr} {rs : R (List D)} {pk : List PK} {k : Nat} {cl fld x : Str} {f : List D → R D} {cp p : Pos} {ro : R D} {kk : RK}
end
end Lw
namespace Lw
open PySem PySem.Spec PyProof.Rows L2
def frI : RK → Bool
  | .F => true
  | .J => true
  | .E => true
  | _ => false
theorem frI_o {k : RK} (h : frI k = true) : ∀ q, k ≠ .O q := fun q z => by subst z; cases h
theorem RV.fri {c : Cf} {H0 H G : Hp} {k : RK} {v : V} {S : List Addr} {xs : List D} (h : RV c H0 H G k (.lst xs) v S) (hk : frI k = true) (sB : Same c.B H) (sG : Same G H) : ∃ p vs, v = .ref p ∧ H p = some (.lst vs) ∧ Reps c.K c.mg G xs vs := by
  cases k with
  | F =>
    obtain ⟨⟨p, vs, e, q, r⟩, _⟩ := h
    exact ⟨p, vs, e, sG _ _ q, r⟩
  | J =>
    obtain ⟨⟨p, vs, ds, e, hc, r⟩, _⟩ := h
    cases hc with
    | lst q => exact ⟨p, _, e, sB _ _ q, r⟩
  | E =>
    obtain ⟨⟨p, vs, ds, e, hc, r⟩, _⟩ := h
    cases hc with
    | lst q => exact ⟨p, _, e, q, r⟩
  | _ => cases hk
section
variable {X : Cx} {W : WX} {B G0 : Hp} {κ : List Kd} {en : List D} {a b : Expr} {ka kb k : RK} {ra rb : R D} {pos : Pos}
theorem ev_catLg (ha : EV X W B G0 κ en a ka ra) (hb : EV X W B G0 κ en b kb rb) (h1 : frI ka = true := by rfl) (h2 : frI kb = true := by rfl) : EV X W B G0 κ en (.BinOp a .Add b pos) (.O (.L .F)) (R.bin2 ra rb pCatL) :=
  ⟨PE.wk (pe_op op_cat ha.pe hb.pe) fun σ H Q ⟨G, Ss, st, m⟩ => tEVb st m _ fun d v H1 G1 S _ a1 st1 rv m1 => tEVb st1 m1 _ fun d2 v2 H2 G2 S2 _ a2 st2 rv2 m2 => by
    have rv' := rv.adv a2 (frI_o h1)
    cases d with
    | lst xs =>
      cases d2 with
      | lst ys =>
        obtain ⟨p, vs, ev, q, rs⟩ := rv'.fri h1 st2.sB st2.sH
        obtain ⟨p2, vs2, ev2, q2, rs2⟩ := rv2.fri h2 st2.sB st2.sH
        subst ev ev2
        have m3 : mR W (cf X B G0) σ H2 G2 (yV (cf X B G0) H2 (.O (.L .F)) Q) (if xs.length + ys.length ≤ 16777216 then .ok (.lst (xs ++ ys)) else .bad) := m2
        by_cases hl : xs.length + ys.length ≤ 16777216
        · rw [if_pos hl] at m3
          exact ⟨p, p2, vs, vs2, rfl, rfl, q, q2, by rw [sizeLine_eq, ← rs.length, ← rs2.length]; exact hl, mk_list m3 st2.sH (.refl _) (rs.append rs2)⟩
        · rw [if_neg hl] at m3
          exact m3.elim
      | _ => exact m2.elim
    | _ => cases d2 <;> exact m2.elim⟩
theorem sv_at {α : Type} {sts : List Stmt} {δ : DE α} {s : R α} {κ κ2 : List Kd} {en en2 : List D} (h : SV X W B G0 κ2 en2 sts δ s) (h1 : κ = κ2 := by rfl) (h2 : en = en2 := by rfl) : SV X W B G0 κ en sts δ s := by
  subst h1 h2
  exact h
end
end Lw
namespace Lw
open PySem PySem.Spec PyProof.Rows L2
section
variable {X : Cx}
end
section
variable {X : Cx} {W : WX} {B G0 : Hp} {κ : List Kd} {en : List D} {elt tg iter : Expr} {ifs : List Expr} {scope : Scope} {pos : Pos} {own : List (Str × Nat)} {k : RK} {ri : R (List D)} {ρ : Type} {u : D → R ρ} {js : List Nat} {vs : ρ → List D} {ke : Kd} {t : ρ → R Bool} {f : ρ → R D}
end
end Lw
namespace Lw
open PySem PySem.Spec PyProof.Rows L2
section
variable {prog : Program} {w : World} {A : Around} {E : Value → Shared → Prop} {s : Shared} {l : Addr} {xs : Array (Int × Tok)}
end
end Lw
namespace Lw
open PySem PySem.Spec PyProof.Rows L2
section
variable {α : Type} {X : Cx} {W : WX} {B G0 : Hp} {κ : List Kd} {en : List D} {e ex : Expr} {r : R D} {δ : DE α} {pos : Pos} {rest : List Stmt} {d0 : D}
end
end Lw
namespace Lw
open PySem PySem.Spec PyProof.Rows L2
theorem AllR.at {P : D → V → List Addr → Prop} : ∀ {ds : List D} {vs : List V} {S : List Addr} {j : Nat} {d : D}, AllR P ds vs S → ds[j]? = some d → ∃ v T A B, vs[j]? = some v ∧ S = A ++ T ++ B ∧ P d v T ∧ ∀ (P' : D → V → List Addr → Prop) (d' : D), (∀ d v T', (∀ x ∈ T', x ∈ A ∨ x ∈ B) → P d v T' → P' d v T') → P' d' v T → AllR P' (ds.set j d') vs S
  | [], _, _, _, _, _, e => by simp at e
  | d0 :: ds, _, _, 0, d, ⟨v, r, S1, S2, e1, e2, h, q⟩, e => by
    subst e1 e2
    have e : d0 = d := by simpa using e
    subst e
    exact ⟨v, S1, [], S2, rfl, rfl, h, fun P' d' f h' => ⟨v, r, S1, S2, rfl, rfl, h', AllR.imp q fun d v T' hT h => f d v T' (fun x hx => .inr (hT x hx)) h⟩⟩
  | d0 :: ds, _, _, j + 1, d, ⟨v, r, S1, S2, e1, e2, h, q⟩, e => by
    subst e1 e2
    obtain ⟨v', T, A, B, g1, g2, g3, g4⟩ := AllR.at (j := j) q (by simpa using e)
    refine ⟨v', T, S1 ++ A, B, by simpa using g1, by rw [g2]; simp, g3, fun P' d' f h' => ?_⟩
    refine ⟨v, r, S1, S2, rfl, rfl, f _ _ _ (fun x hx => .inl (List.mem_append_left _ hx)) h, g4 P' d' (fun d v T' hT h => f d v T' (fun x hx => (hT x hx).imp (fun z => List.mem_append_right _ z) id) h) h'⟩
def itemsOf : D → List D
  | .lst ds => ds
  | .dct _ ds => ds
  | _ => []
def itemL (d0 : D) (j : Nat) : R (List D) := match (itemsOf d0)[j]? with
  | some (.lst xs) => .ok xs
  | _ => .bad
def setIt (d0 : D) (j : Nat) (y : D) : D := match d0 with
  | .lst ds => .lst (ds.set j y)
  | .dct ks ds => .dct ks (ds.set j y)
  | d => d
def plDx (d0 k : D) : R Nat := match d0 with
  | .dct ks _ => if isKey k then (match dIdx ks k with
    | some j => .ok j
    | none => .bad) else .bad
  | _ => .bad
theorem Cont.items {H : Hp} {p : Addr} {d : D} {ds : List D} {vs : List V} (h : Cont H p d ds vs) : itemsOf d = ds ∧ vs.length = vs.length := by
  cases h <;> exact ⟨rfl, rfl⟩
theorem Cont.set {H H' : Hp} {p : Addr} {d y : D} {ds : List D} {vs : List V} {j : Nat} (h : Cont H p d ds vs) (e : H' p = H p) : Cont H' p (setIt d j y) (ds.set j y) vs := by
  cases h with
  | lst h => exact .lst (e.trans h)
  | dK h => exact .dK (e.trans h)
theorem Cont.mono {H H' : Hp} {p : Addr} {d : D} {ds : List D} {vs : List V} (h : Cont H p d ds vs) (s : Same H H') : Cont H' p d ds vs := by
  cases h with
  | lst h => exact .lst (s _ _ h)
  | dK h => exact .dK (s _ _ h)
def tPl (W : WX) (c : Cf) (κ : List Kd) (en : List D) (i : Nat) (d0 : D) (r : R Nat) : TE := fun σ H Q => ∃ G Ss, St c κ en σ H G Ss ∧ mR W c σ H G (fun j H' G' => ∀ p ds vs S' v, σ[i]? = some (some (.ref p)) → Ss i = p :: S' → Cont H' p d0 ds vs → AllR (RepK c H' G' (.L .F)) ds vs S' → vs[j]? = some v → Q v H') r
structure PLc (X : Cx) (W : WX) (B G0 : Hp) (κ : List Kd) (en : List D) (o : Expr) (i : Nat) (d0 : D) (r : R Nat) : Prop where
  pe : PE X o (tPl W (cf X B G0) κ en i d0 r)
section
variable {c : Cf} {κ : List Kd} {en : List D} {σ : L2.St} {H G : Hp} {Ss : Nat → List Addr} {i : Nat} {d : D}
end
section
variable {α : Type} {X : Cx} {W : WX} {B G0 : Hp} {κ : List Kd} {en : List D} {e e1 e2 o : Expr} {k : RK} {r r1 r2 : R D} {rp : R Nat} {δ : DE α} {pos : Pos} {rest : List Stmt} {d0 : D} {i : Nat}
end
end Lw
namespace Lw
open PySem PySem.Spec PyProof.Rows L2
theorem AllR.snoc {P : D → V → List Addr → Prop} {d : D} {v : V} {T : List Addr} : ∀ {ds : List D} {vs : List V} {S : List Addr}, AllR P ds vs S → P d v T → AllR P (ds ++ [d]) (vs ++ [v]) (S ++ T)
  | [], vs, S, h, hd => by
    obtain ⟨rfl, rfl⟩ := h
    exact ⟨v, [], T, [], rfl, by simp, hd, rfl, rfl⟩
  | d0 :: ds, vs, S, ⟨v0, r, S1, S2, e1, e2, h, q⟩, hd => by
    subst e1 e2
    exact ⟨v0, r ++ [v], S1, S2 ++ T, rfl, by simp, h, AllR.snoc q hd⟩
theorem AllR.len {P : D → V → List Addr → Prop} : ∀ {ds : List D} {vs : List V} {S : List Addr}, AllR P ds vs S → ds.length = vs.length
  | [], vs, S, h => by rw [h.1]; rfl
  | d :: ds, vs, S, ⟨v, r, S1, S2, e1, e2, h, q⟩ => by rw [e1, List.length_cons, List.length_cons, AllR.len q]
section
variable {α : Type} {X : Cx} {W : WX} {B G0 : Hp} {κ : List Kd} {en : List D} {e : Expr} {r : R D} {δ : DE α} {pos : Pos} {rest : List Stmt} {d0 : D}
end
end Lw
namespace Lw
open PySem PySem.Spec PyProof.Rows L2
section
variable {X : Cx} {W : WX} {B G0 : Hp} {κ : List Kd} {en : List D} {e : Expr} {k : RK} {r : R D} {p2 pos : Pos} {lo hi : Option Expr} {rl rh : R (Option Int)}
end
end Lw
namespace Lw
open PySem PySem.Spec PyProof.Rows L2 RT
section
variable {prog : Program} {w : World} {A : Around} {E : Value → Shared → Prop} {s : Shared}
end
section
variable {X : Cx} {W : WX} {B G0 : Hp} {κ : List Kd} {en : List D} {e : Expr} {k : RK} {r : R D} {p p2 pos pos2 : Pos}
end
end Lw
namespace Lw
open PySem PySem.Spec PyProof.Rows L2
section
variable {X : Cx} {W : WX} {B G0 : Hp} {κ : List Kd} {en : List D} {e x a b : Expr} {r rx : R D} {d k0 d0 : D} {i j : Nat} {pos apos : Pos}
end
section
variable {α : Type} {X : Cx} {W : WX} {B G0 : Hp} {κ : List Kd} {en : List D} {e : Expr} {r : R D} {δ : DE α} {pos : Pos} {rest : List Stmt} {d0 k0 : D}
end
end Lw
namespace Lw
open PySem PySem.Spec PyProof.Rows L2
def lk (a : Addr) (z : HO) (H : Hp) : Hp := fun b => if b = a then (H b).map (fun _ => z) else H b
def Dk (kvs : List (Key × V)) (o : HO) : Prop := o = .dK kvs ∨ ∃ od, o = .frz od (.dK kvs)
section
variable {a b : Addr} {z w o : HO} {G H H' : Hp} {kvs : List (Key × V)}
theorem lk_at (h : H a = some o) : lk a z H a = some z := by unfold lk; rw [if_pos rfl, h]; rfl
theorem lk_ne (h : b ≠ a) : lk a z H b = H b := by unfold lk; rw [if_neg h]
theorem lk_none (h : H b = none) : lk a z H b = none := by
  unfold lk
  split
  · rw [h]; rfl
  · exact h
theorem lk_same (s : Same G H) : Same (lk a z G) (lk a z H) := fun b u h => by
  by_cases e : b = a
  · subst e
    cases q : G b with
    | none => rw [lk_none q] at h; cases h
    | some v =>
      rw [lk_at q] at h
      cases h
      exact lk_at (s _ _ q)
  · rw [lk_ne e] at h ⊢
    exact s _ _ h
theorem Dk.ne {kvs : List (Key × V)} (h : ∀ o, G a = some o → Dk kvs o) (e : G b = some o) (n : ∀ k, ¬ Dk k o) : lk a z G b = some o := by
  by_cases q : b = a
  · subst q
    exact absurd (h _ e) (n _)
  · rw [lk_ne q]; exact e
theorem Dk.rd (h : Dk kvs z) (e : H a = some z) : Rd H a (.dK kvs) := by
  rcases h with h | ⟨od, h⟩
  · exact .inl (by rw [e, h])
  · exact .inr ⟨od, by rw [e, h]⟩
theorem Dk.of_rd (h : Rd H a (.dK kvs)) : ∃ w, H a = some w ∧ Dk kvs w := by
  rcases h with h | ⟨od, h⟩
  · exact ⟨_, h, .inl rfl⟩
  · exact ⟨_, h, .inr ⟨_, rfl⟩⟩
theorem Dk.uniq {k1 k2 : List (Key × V)} (h1 : Dk k1 o) (h2 : Dk k2 o) : k1 = k2 := by
  rcases h1 with h1 | ⟨_, h1⟩ <;> rcases h2 with h2 | ⟨_, h2⟩ <;> rw [h1] at h2 <;> cases h2 <;> rfl
end
theorem ndk {o : HO} {k : List (Key × V)} (h : Dk k o) : match o with | .dK _ => True | .frz _ (.dK _) => True | _ => False := by
  rcases h with h | ⟨_, h⟩ <;> subst h <;> trivial
section
variable {K : PySem.W.Frag} {mg : Str → Option Value} {a : Addr} {z : HO} {G : Hp} {kvs : List (Key × V)}
mutual
theorem Rep.lk (hz : Dk kvs z) (h : ∀ o, G a = some o → Dk kvs o) : ∀ {d : D} {v : V}, Rep K mg G d v → Rep K mg (lk a z G) d v
  | .non, _, r => r
  | .bl _, _, r => r
  | .int _, _, r => r
  | .str _, _, r => r
  | .lst _, _, ⟨b, vs, e, q, r⟩ => ⟨b, vs, e, Dk.ne h q fun k x => (ndk x), Reps.lk hz h r⟩
  | .scr _, _, ⟨b, vs, e, q, r⟩ => ⟨b, vs, e, q.imp (fun q => q.imp (fun q => Dk.ne h q fun k x => ndk x) fun ⟨o, q⟩ => ⟨o, Dk.ne h q fun k x => ndk x⟩) fun q => q, Reps.lk hz h r⟩
  | .tup _, _, ⟨b, vs, e, q, r⟩ => ⟨b, vs, e, q.imp (fun q => q.imp (fun q => Dk.ne h q fun k x => ndk x) fun ⟨o, q⟩ => ⟨o, Dk.ne h q fun k x => ndk x⟩) fun q => q, Reps.lk hz h r⟩
  | .dct _ _, _, ⟨b, e, k, q, ek, r⟩ => ⟨b, e, k, by
      obtain ⟨w, ew, dw⟩ := Dk.of_rd q
      by_cases eb : b = a
      · subst eb
        have e1 := Dk.uniq dw (h _ ew)
        subst e1
        exact hz.rd (lk_at ew)
      · exact dw.rd (by rw [lk_ne eb]; exact ew), ek, Reps.lk hz h r⟩
  | .dcT _ _, _, ⟨b, e, k, q, ek, r⟩ => ⟨b, e, k, Dk.ne h q fun k x => ndk x, ek, Reps.lk hz h r⟩
  | .obj _ _ _, _, ⟨b, C, dx, fs, e, q, m, n, r⟩ => ⟨b, C, dx, fs, e, Dk.ne h q fun k x => ndk x, m, n, Reps.lk hz h r⟩
  | .exc _ _ _, _, ⟨b, C, xd, e, q, m, r⟩ => ⟨b, C, xd, e, Dk.ne h q fun k x => ndk x, m, r.imp (fun z => z) fun ⟨dx, fs, z0, z1, z2, z3, z4⟩ => ⟨dx, fs, z0, z1, Dk.ne h z2 fun k x => ndk x, z3, Reps.lk hz h z4⟩⟩
theorem Reps.lk (hz : Dk kvs z) (h : ∀ o, G a = some o → Dk kvs o) : ∀ {ds : List D} {vs : List V}, Reps K mg G ds vs → Reps K mg (lk a z G) ds vs
  | [], _, r => r
  | _ :: _, _, ⟨v, r, e, q, t⟩ => ⟨v, r, e, Rep.lk hz h q, Reps.lk hz h t⟩
end
end
def Kd.noE : Kd → Bool
  | .E => false
  | .L k => k.noE
  | .U _ => false
  | _ => true
abbrev lkc (a : Addr) (z : HO) (c : Cf) : Cf := ⟨c.K, c.mg, lk a z c.B, lk a z c.G0⟩
section
variable {c : Cf} {a : Addr} {z : HO} {G H : Hp} {kvs : List (Key × V)} {κ : List Kd} {en : List D} {σ : L2.St} {Ss : Nat → List Addr}
theorem RepK.lk (hz : Dk kvs z) (hG : ∀ o, G a = some o → Dk kvs o) (hB : ∀ o, c.B a = some o → Dk kvs o) : ∀ {k : Kd} {d : D} {v : V} {S : List Addr}, RepK c H G k d v S → k.noE = true → (∀ p ∈ S, p ≠ a) → RepK (lkc a z c) (lk a z H) (lk a z G) k d v S
  | .N, _, _, _, h, _, _ => h
  | .F, _, _, _, ⟨h, e⟩, _, _ => ⟨h.lk hz hG, e⟩
  | .B, _, _, _, ⟨h, e⟩, _, _ => ⟨h.lk hz hB, e⟩
  | .E, _, _, _, _, n, _ => nomatch n
  | .U _, _, _, _, _, n, _ => nomatch n
  | .L k, _, _, _, ⟨p, vs, ds, S', e1, e2, hc, ha⟩, n, hS => by
    subst e1 e2
    have np := hS p List.mem_cons_self
    refine ⟨p, vs, ds, S', rfl, rfl, ?_, AllR.imp ha fun d v T hT h => RepK.lk hz hG hB h n fun q hq => hS q (List.mem_cons_of_mem _ (hT q hq))⟩
    cases hc with
    | lst h => exact .lst (by rw [lk_ne np]; exact h)
    | dK h => exact .dK (by rw [lk_ne np]; exact h)
  | .I p, _, _, _, ⟨C, dx, fs, cl, ns, ds, e1, e2, e3, h, m, n, r⟩, _, hS => by
    subst e1 e2
    exact ⟨C, dx, fs, cl, ns, ds, rfl, rfl, e3, by rw [lk_ne (hS p List.mem_cons_self)]; exact h, m, n, r.lk hz hG⟩
  | .T, _, _, _, ⟨p, v1, q, ws, d1, ds, e1, e2, e3, h1, r1, h2, r2⟩, _, hS => by
    subst e1 e2 e3
    exact ⟨p, v1, q, ws, d1, ds, rfl, rfl, rfl, by rw [lk_ne (hS p (by simp))]; exact h1, r1.lk hz hG, by rw [lk_ne (hS q (by simp))]; exact h2, r2.lk hz hG⟩
  | .K, _, _, _, ⟨⟨p, vs, ds, e1, e2, h, r⟩, e3⟩, _, _ => ⟨⟨p, vs, ds, e1, e2, Dk.ne hG h fun k x => ndk x, r.lk hz hG⟩, e3⟩
  | .Q, _, _, _, ⟨p, kv, ds, e1, e2, e3, h, r⟩, _, hS => by
    subst e1 e2 e3
    exact ⟨p, kv, ds, rfl, rfl, rfl, by rw [lk_ne (hS p List.mem_cons_self)]; exact h, r.lk hz hG⟩
  | .M p, _, _, _, ⟨vs, ds, e1, e2, hc, r⟩, _, hS => by
    subst e1 e2
    have np := hS p List.mem_cons_self
    refine ⟨vs, ds, rfl, rfl, ?_, r.lk hz hG⟩
    cases hc with
    | lst h => exact .lst (by rw [lk_ne np]; exact h)
    | dK h => exact .dK (by rw [lk_ne np]; exact h)
theorem St.lk {w : HO} (st : St c κ en σ H G Ss) (hw : G a = some w) (dw : Dk kvs w) (hz : Dk kvs z) (n : κ.all Kd.noE = true) : St (lkc a z c) κ en σ (lk a z H) (lk a z G) Ss := by
  have hG : ∀ o, G a = some o → Dk kvs o := fun o e => by rw [hw] at e; cases e; exact dw
  have hH : H a = some w := st.sH _ _ hw
  have hB : ∀ o, c.B a = some o → Dk kvs o := fun o e => by
    have q := st.sB _ _ e
    rw [hH] at q; cases q; exact dw
  refine ⟨st.ln, fun i k hk hn => ?_, fun i p hp => ?_, st.nd, st.dis, lk_same st.sB, lk_same st.sG, lk_same st.sH, fun b o h => ?_⟩
  · obtain ⟨v, d, h1, h2, h3⟩ := st.slot i k hk hn
    exact ⟨v, d, h1, h2, h3.lk hz hG hB (List.all_eq_true.mp n _ (List.mem_of_getElem? hk)) fun p hp e => by
      have q := (st.own i p hp).1
      rw [e, hw] at q; cases q⟩
  · obtain ⟨h1, h2, o, h3⟩ := st.own i p hp
    have ne : p ≠ a := fun e => by rw [e, hw] at h1; cases h1
    exact ⟨lk_none h1, lk_none h2, o, by rw [lk_ne ne]; exact h3⟩
  · by_cases e : b = a
    · subst e
      rw [lk_at hw] at h
      cases h
      rcases st.new _ _ hw with q | q
      · exact .inl (lk_at q)
      · exact .inr (lk_none q)
    · rw [lk_ne e] at h
      rcases st.new _ _ h with q | q
      · exact .inl (by show Lw.lk a z c.G0 b = _; rw [lk_ne e]; exact q)
      · exact .inr (lk_none q)
end
section
variable {α τ : Type} {X : Cx} {W : WX} {B G0 : Hp} {κ : List Kd} {en : List D} {δ : DE α} {pos : Pos} {rest body : List Stmt}
end
end Lw
namespace Lw
open PySem PySem.Spec PyProof.Rows L2
section
variable {K : PySem.W.Frag} {mg : Str → Option Value}
end
def rLenD (xs : List V) (H : Hp) (Q : VK) : Prop := ∃ (a : Addr) (kvs : List (Key × V)), xs = [V.ref a] ∧ Rd H a (.dK kvs) ∧ Q (.int kvs.length) H
theorem cr_lenD {X : Cx} : CallR X (.builtin "len") rLenD := by
  intro pins s σ H xs us Q I r h
  obtain ⟨a, kvs, rfl, ha, q⟩ := h
  obtain ⟨u, rfl, ru⟩ := vals1 r
  cases ru
  exact d_len I ha fun t s' I' => ⟨.int kvs.length, H, I', ⟨t, rfl⟩, q⟩
def pLenD : List D → R D
  | [.dct ks _] => .ok (.int ks.length)
  | _ => .bad
theorem bf_lenD {K : PySem.W.Frag} {mg : Str → Option Value} : BfD K mg rLenD [.B] .F pLenD := by
  intro W B G0 κ en σ H G Ss Q ds vs st args m
  obtain ⟨d, v, rfl, rfl, r⟩ := args.one
  cases d with
  | dct ks xs =>
    obtain ⟨a, e, kvs, q, ek, rs⟩ := r
    subst e ek
    refine ⟨a, kvs, rfl, q, ?_⟩
    have m2 : mR W ⟨K, mg, B, G0⟩ σ H G (yV ⟨K, mg, B, G0⟩ H .F Q) (.ok (.int ((kvs.map fun q => kD q.1).length : Nat))) := m
    rw [List.length_map] at m2
    exact mR.int m2 st.sH
  | _ => exact m.elim
def dDrop (ks xs : List D) (k : D) : D := .dct (((ks.zip xs).filter fun p => !keyEq p.1 k).map (·.1)) (((ks.zip xs).filter fun p => !keyEq p.1 k).map (·.2))
section
variable {α : Type} {X : Cx} {W : WX} {B G0 : Hp} {κ : List Kd} {en : List D} {δ : DE α} {pos : Pos} {rest : List Stmt} {d0 : D}
end
end Lw
namespace Lw
open PySem PySem.Spec PyProof.Rows L2
section
variable {K : PySem.W.Frag} {mg : Str → Option Value}
end
section
variable {X : Cx} {W : WX} {B G0 : Hp} {κ : List Kd} {en : List D} {e : Expr} {es : List Expr} {k : RK} {r : R D} {rs : List (R D)} {pos : Pos}
end
end Lw
namespace Lw
open PySem PySem.Spec PyProof.Rows L2 FbM
section
variable {X : Cx} {pins : List (Addr × Obj)} {σ : L2.St}
end
section
variable {X : Cx} {W : WX} {B G0 : Hp} {κ : List Kd} {en : List D} {e : Expr} {rs : R (List D)} {f : List D → R D} {k : Nat} {x y : Str} {p pos py pk : Pos}
end
end Lw
namespace Lw
open PySem PySem.Spec PyProof.Rows L2
section
variable {X : Cx} {W : WX} {B G0 : Hp} {κ : List Kd} {en : List D} {a tg : Expr} {k : RK} {r : R D} {p pos p2 pos2 : Pos}
end
end Lw
namespace Lw
open PySem PySem.Spec PyProof.Rows L2
section
variable {X : Cx} {pins : List (Addr × Obj)} {σ : L2.St} {H : Hp} {s : Shared}
end
end Lw
namespace PySem.SeqAt
open AutoSeq1 (wpAny_loadPart')
open MeetsSeq MeetsSeq2 MeetsSeq3 SeqRoads2
section
variable {prog : Program} {w : World}
end
end PySem.SeqAt
namespace Lw
open PySem PySem.Spec PyProof.Rows L2
section
variable {X : Cx}
end
end Lw
namespace Lw
open PySem PySem.Spec PyProof.Rows L2
section
variable {X : Cx} {pins : List (Addr × Obj)} {σ : L2.St}
end
section
variable {K : PySem.W.Frag} {mg : Str → Option Value}
end
section
variable {X : Cx} {tg : Expr} {i j : Nat}
end
section
variable {α : Type} {X : Cx} {W : WX} {B G0 : Hp} {κ : List Kd} {en : List D} {e tg : Expr} {r : R D} {δ : DE α} {pos : Pos} {rest : List Stmt}
end
section
variable {X : Cx} {W : WX} {B G0 : Hp} {κ : List Kd} {en : List D} {e x a b : Expr} {r ra rb rx : R D} {d k0 d0 : D} {i j : Nat} {pos apos : Pos} {ka : RK}
end
section
variable {α : Type} {X : Cx} {W : WX} {B G0 : Hp} {κ : List Kd} {en : List D} {e ke : Expr} {r rk : R D} {δ : DE α} {pos : Pos} {rest : List Stmt} {d0 : D}
end
end Lw
namespace Lw
open PySem PySem.Spec PyProof.Rows L2
def ArgsM (K : PySem.W.Frag) (mg : Str → Option Value) (H G : Hp) (p : Addr) : Nat → List D → List V → Prop
  | 0, d :: ds, v :: vs => v = .ref p ∧ (∃ ws es, Cont H p d es ws ∧ Reps K mg G es ws) ∧ Reps K mg G ds vs
  | j + 1, d :: ds, v :: vs => Rep K mg G d v ∧ ArgsM K mg H G p j ds vs
  | _, _, _ => False
theorem ArgsM.length {K : PySem.W.Frag} {mg : Str → Option Value} {H G : Hp} {p : Addr} : ∀ {j : Nat} {ds : List D} {vs : List V}, ArgsM K mg H G p j ds vs → vs.length = ds.length ∧ j < ds.length
  | 0, d :: ds, v :: vs, ⟨_, _, r⟩ => ⟨by simp [r.length], by simp⟩
  | j + 1, d :: ds, v :: vs, ⟨_, r⟩ => by
    obtain ⟨h1, h2⟩ := ArgsM.length r
    exact ⟨by simp [h1], by simp; omega⟩
theorem ArgsM.get {K : PySem.W.Frag} {mg : Str → Option Value} {H G : Hp} {p : Addr} : ∀ {j i : Nat} {ds : List D} {vs : List V}, ArgsM K mg H G p j ds vs → i < ds.length → i ≠ j → ∃ v d, vs[i]? = some v ∧ ds[i]? = some d ∧ Rep K mg G d v
  | 0, 0, _, _, _, _, h => absurd rfl h
  | 0, i + 1, d :: ds, v :: vs, ⟨_, _, r⟩, hi, _ => by
    obtain ⟨d', hd⟩ : ∃ d', ds[i]? = some d' := ⟨_, List.getElem?_eq_getElem (by simpa using hi)⟩
    obtain ⟨v', h1, h2⟩ := r.get hd
    exact ⟨v', d', by simpa using h1, by simpa using hd, h2⟩
  | j + 1, 0, d :: ds, v :: vs, ⟨r, _⟩, _, _ => ⟨v, d, rfl, rfl, r⟩
  | j + 1, i + 1, d :: ds, v :: vs, ⟨_, r⟩, hi, hn => by
    obtain ⟨v', d', h1, h2, h3⟩ := ArgsM.get (i := i) r (by simpa using hi) (by omega)
    exact ⟨v', d', by simpa using h1, by simpa using h2, h3⟩
theorem ArgsM.at_ {K : PySem.W.Frag} {mg : Str → Option Value} {H G : Hp} {p : Addr} : ∀ {j : Nat} {ds : List D} {vs : List V}, ArgsM K mg H G p j ds vs → ∃ d es ws, vs[j]? = some (.ref p) ∧ ds[j]? = some d ∧ Cont H p d es ws ∧ Reps K mg G es ws
  | 0, d :: ds, v :: vs, ⟨e, ⟨ws, es, h1, h2⟩, _⟩ => by
    subst e
    exact ⟨d, es, ws, rfl, rfl, h1, h2⟩
  | j + 1, d :: ds, v :: vs, ⟨_, r⟩ => by
    obtain ⟨d', es, ws, h1, h2, h3, h4⟩ := ArgsM.at_ r
    exact ⟨d', es, ws, by simpa using h1, by simpa using h2, h3, h4⟩
section
variable {P : Program} {w : World} {K : PySem.W.Frag} {mg : Str → Option Value} {base : Heap}
end
section
variable {c : Cf} {κ : List Kd} {en : List D} {σ : L2.St} {H G H' G' : Hp} {Ss : Nat → List Addr}
end
section
variable {X : Cx} {W : WX} {B G0 : Hp} {κ : List Kd} {en : List D} {e : Expr} {d : D} {i : Nat} {p : Addr}
end
section
variable {α : Type} {X : Cx} {W : WX} {B G0 : Hp} {κ : List Kd} {en : List D} {e : Expr} {r : R D} {δ : DE α} {pos : Pos} {rest : List Stmt} {d0 : D}
end
def ArgsJ (K : PySem.W.Frag) (mg : Str → Option Value) (G : Hp) (v0 : Option (Option V)) (d0 : D) : Nat → List D → List V → Prop
  | 0, d :: ds, v :: vs => v0 = some (some v) ∧ d = d0 ∧ Reps K mg G ds vs
  | j + 1, d :: ds, v :: vs => Rep K mg G d v ∧ ArgsJ K mg G v0 d0 j ds vs
  | _, _, _ => False
structure EM (X : Cx) (W : WX) (B G0 : Hp) (κ : List Kd) (en : List D) (i j : Nat) (d0 : D) (es : List Expr) (rs : R (List D)) : Prop where
  pa : PA X es fun σ H Q => ∃ G Ss, St (cf X B G0) κ en σ H G Ss ∧ mR W (cf X B G0) σ H G (fun ds H' G' => ∀ vs, ArgsJ X.K X.mg G' σ[i]? d0 j ds vs → Q vs H') rs
section
variable {X : Cx} {W : WX} {B G0 : Hp} {κ : List Kd} {en : List D} {e : Expr} {es : List Expr} {d0 : D} {i j : Nat} {r : R D} {rs : R (List D)} {pk : List PK}
theorem ArgsJ.mono {K : PySem.W.Frag} {mg : Str → Option Value} {G G' : Hp} (s : Same G G') {v0 : Option (Option V)} : ∀ {j : Nat} {ds : List D} {vs : List V}, ArgsJ K mg G v0 d0 j ds vs → ArgsJ K mg G' v0 d0 j ds vs
  | 0, d :: ds, v :: vs, h => ⟨h.1, h.2.1, h.2.2.mono s⟩
  | j + 1, d :: ds, v :: vs, h => ⟨h.1.mono s, ArgsJ.mono s h.2⟩
theorem em_next (h : EV X W B G0 κ en e .F r) (h2 : EM X W B G0 κ en i j d0 es rs) (hs : starEach (e :: es) X.env = (false, eval e X.env) :: starEach es X.env := by rfl) : EM X W B G0 κ en i (j + 1) d0 (e :: es) (R.cons r rs) :=
  ⟨PA.wk (pa_cons h.pe h2.pa hs) fun σ H Q ⟨G, Ss, st, m⟩ => by
    have m' : mR W (cf X B G0) σ H G (fun ds H' G' => ∀ vs, ArgsJ X.K X.mg G' σ[i]? d0 (j + 1) ds vs → Q vs H') (r.bind fun d => rs.bind fun ds => .ok (d :: ds)) := m
    exact tEXb st m' _ fun d v H1 G1 S _ a st1 rv m1 => ⟨G1, Ss, st1, m1.thn fun ds H2 G2 a2 m2 vs args => m2 H2 G2 (.refl a2.2.2.1) (v :: vs) ⟨rv.1.mono a2.2.1, args⟩⟩⟩
end
section
variable {α : Type} {X : Cx} {W : WX} {B G0 : Hp} {κ : List Kd} {en : List D} {e : Expr} {es : List Expr} {δ : DE α} {pos cp p : Pos} {rest : List Stmt} {d0 : D} {i j n k : Nat} {x : Str} {f : List D → R D} {g : D → R α} {rs : R (List D)}
def pM (n : Nat) (f : List D → R D) (ds : List D) : R D := if ds.length = n then (match f ds with
  | .ok d => .ok d
  | _ => .bad) else .bad
end
section
variable {X : Cx} {W : WX} {B G0 : Hp} {κ : List Kd} {en : List D} {a b : Expr} {ra rb : R D} {pos apos : Pos} {ka : RK}
end
end Lw
namespace Lw
open PySem PySem.Spec PyProof.Rows L2
inductive Fk where
  | F | L | LL
def RepL (c : Cf) (H G : Hp) (d : D) (v : V) (S : List Addr) : Prop := ∃ p vs ds, v = .ref p ∧ S = [p] ∧ Cont H p d ds vs ∧ Reps c.K c.mg G ds vs
def RepFk (c : Cf) (H G : Hp) : Fk → D → V → List Addr → Prop
  | .F, d, v, S => Rep c.K c.mg G d v ∧ S = []
  | .L, d, v, S => RepL c H G d v S
  | .LL, d, v, S => ∃ p vs ds S', v = .ref p ∧ S = p :: S' ∧ Cont H p d ds vs ∧ AllR (RepL c H G) ds vs S'
def AllFk (c : Cf) (H G : Hp) : List Fk → List D → List V → List Addr → Prop
  | k :: ks, d :: ds, vs, S => ∃ v r S1 S2, vs = v :: r ∧ S = S1 ++ S2 ∧ RepFk c H G k d v S1 ∧ AllFk c H G ks ds r S2
  | [], [], vs, S => vs = [] ∧ S = []
  | _, _, _, _ => False
def RepO (c : Cf) (H G : Hp) (p : Addr) (fk : List Fk) (d : D) (v : V) (S : List Addr) : Prop :=
  ∃ C dx fs cl ns ds S', v = .ref p ∧ S = p :: S' ∧ d = .obj cl ns ds ∧ H p = some (.ins C dx fs) ∧ c.mg cl = some (.ref C) ∧ fs.map (·.1) = ns ∧ AllFk c H G fk ds (fs.map (·.2)) S'
theorem Cont.at_ {H H' : Hp} {p : Addr} {d : D} {ds : List D} {vs : List V} (h : Cont H p d ds vs) (f : ∀ o, H p = some o → H' p = some o) : Cont H' p d ds vs := by
  cases h with
  | lst h => exact .lst (f _ h)
  | dK h => exact .dK (f _ h)
theorem Cont.rep {K : PySem.W.Frag} {mg : Str → Option Value} {H G : Hp} {p : Addr} {d : D} {ds : List D} {vs : List V} (h : Cont H p d ds vs) (s : ∀ o, H p = some o → G p = some o) (r : Reps K mg G ds vs) : Rep K mg G d (.ref p) := by
  cases h with
  | lst h => exact ⟨p, vs, rfl, s _ h, r⟩
  | dK h => exact ⟨p, rfl, _, .inl (s _ h), rfl, r⟩
section
variable {c : Cf} {H H' G G' : Hp} {d : D} {v : V} {S T : List Addr}
theorem RepL.at_ (h : RepL c H G d v S) (f : ∀ p ∈ S, ∀ o, H p = some o → H' p = some o) (s : Same G G') : RepL c H' G' d v S := by
  obtain ⟨p, vs, ds, e1, e2, hc, r⟩ := h
  subst e2
  exact ⟨p, vs, ds, e1, rfl, hc.at_ (f p List.mem_cons_self), r.mono s⟩
theorem RepL.rep (h : RepL c H G d v S) (s : Same G H) : Rep c.K c.mg H d v := by
  obtain ⟨p, vs, ds, e1, e2, hc, r⟩ := h
  subst e1
  exact hc.rep (fun _ z => z) (r.mono s)
theorem RepL.frz (h : RepL c H G d v T) (hs : ∀ p ∈ T, p ∈ S) (g : ∀ p ∈ S, G p = none) : Rep c.K c.mg (Lw.frz G H S) d v := by
  obtain ⟨p, vs, ds, e1, e2, hc, r⟩ := h
  subst e1 e2
  exact hc.rep (fun o z => by rw [frz_in (hs p List.mem_cons_self)]; exact z) (r.mono (frz_same g))
theorem RepFk.at_ : ∀ {k : Fk} {d : D} {v : V} {S : List Addr}, RepFk c H G k d v S → (∀ p ∈ S, ∀ o, H p = some o → H' p = some o) → Same G G' → RepFk c H' G' k d v S
  | .F, _, _, _, ⟨h, e⟩, _, s => ⟨h.mono s, e⟩
  | .L, _, _, _, h, f, s => RepL.at_ h f s
  | .LL, _, _, _, ⟨p, vs, ds, S', e1, e2, hc, ha⟩, f, s => by
    subst e2
    exact ⟨p, vs, ds, S', e1, rfl, hc.at_ (f p List.mem_cons_self), ha.imp fun d v T hT h => h.at_ (fun q hq => f q (List.mem_cons_of_mem _ (hT q hq))) s⟩
theorem RepFk.rep : ∀ {k : Fk} {d : D} {v : V} {S : List Addr}, RepFk c H G k d v S → Same G H → Rep c.K c.mg H d v
  | .F, _, _, _, ⟨h, _⟩, s => h.mono s
  | .L, _, _, _, h, s => RepL.rep h s
  | .LL, _, _, _, ⟨p, vs, ds, S', e1, e2, hc, ha⟩, s => by
    subst e1
    exact hc.rep (fun _ z => z) (ha.reps fun _ _ _ h => h.rep s)
theorem RepFk.frz : ∀ {k : Fk} {d : D} {v : V} {T S : List Addr}, RepFk c H G k d v T → (∀ p ∈ T, p ∈ S) → (∀ p ∈ S, G p = none) → Rep c.K c.mg (Lw.frz G H S) d v
  | .F, _, _, _, _, ⟨h, _⟩, _, g => h.mono (frz_same g)
  | .L, _, _, _, _, h, hs, g => RepL.frz h hs g
  | .LL, _, _, _, S, ⟨p, vs, ds, S', e1, e2, hc, ha⟩, hs, g => by
    subst e1 e2
    have r : Reps c.K c.mg (Lw.frz G H S) ds vs := (ha.imp (Q := fun d v _ => Rep c.K c.mg (Lw.frz G H S) d v) fun d v T hT h => RepL.frz h (fun q hq => hs q (List.mem_cons_of_mem _ (hT q hq))) g).reps fun _ _ _ h => h
    exact hc.rep (fun o z => by rw [frz_in (hs p List.mem_cons_self)]; exact z) r
theorem AllFk.imp {c' : Cf} : ∀ {fk : List Fk} {ds : List D} {vs : List V} {S : List Addr}, AllFk c H G fk ds vs S → (∀ k d v T, (∀ p ∈ T, p ∈ S) → RepFk c H G k d v T → RepFk c' H' G' k d v T) → AllFk c' H' G' fk ds vs S
  | k :: ks, d :: ds, _, _, ⟨v, r, S1, S2, e1, e2, h, q⟩, f => by
    subst e1 e2
    exact ⟨v, r, S1, S2, rfl, rfl, f _ _ _ _ (fun p hp => List.mem_append_left _ hp) h, AllFk.imp q fun k d v T hT => f k d v T fun p hp => List.mem_append_right _ (hT p hp)⟩
  | [], [], _, _, h, _ => h
  | [], _ :: _, _, _, h, _ => h.elim
  | _ :: _, [], _, _, h, _ => h.elim
theorem AllFk.reps {K : PySem.W.Frag} {mg : Str → Option Value} {Z : Hp} : ∀ {fk : List Fk} {ds : List D} {vs : List V} {S : List Addr}, AllFk c H G fk ds vs S → (∀ k d v T, (∀ p ∈ T, p ∈ S) → RepFk c H G k d v T → Rep K mg Z d v) → Reps K mg Z ds vs
  | k :: ks, d :: ds, _, _, ⟨v, r, S1, S2, e1, e2, h, q⟩, f => by
    subst e1 e2
    exact ⟨v, r, rfl, f _ _ _ _ (fun p hp => List.mem_append_left _ hp) h, AllFk.reps q fun k d v T hT => f k d v T fun p hp => List.mem_append_right _ (hT p hp)⟩
  | [], [], _, _, h, _ => h.1
  | [], _ :: _, _, _, h, _ => h.elim
  | _ :: _, [], _, _, h, _ => h.elim
theorem AllFk.at : ∀ {fk : List Fk} {ds : List D} {vs : List V} {S : List Addr} {j : Nat} {k : Fk} {d : D}, AllFk c H G fk ds vs S → fk[j]? = some k → ds[j]? = some d → ∃ v T A B, vs[j]? = some v ∧ S = A ++ T ++ B ∧ RepFk c H G k d v T ∧
    ∀ (c' : Cf) (H' G' : Hp) (d' : D) (v' : V) (T' : List Addr), (∀ k d v T', (∀ x ∈ T', x ∈ A ∨ x ∈ B) → RepFk c H G k d v T' → RepFk c' H' G' k d v T') → RepFk c' H' G' k d' v' T' → AllFk c' H' G' fk (ds.set j d') (vs.set j v') (A ++ T' ++ B)
  | k0 :: ks, d0 :: ds, _, _, 0, k, d, ⟨v, r, S1, S2, e1, e2, h, q⟩, ek, e => by
    subst e1 e2
    have e : d0 = d := by simpa using e
    have ek : k0 = k := by simpa using ek
    subst e ek
    exact ⟨v, S1, [], S2, rfl, rfl, h, fun c' H' G' d' v' T' f h' => ⟨v', r, T', S2, rfl, rfl, h', AllFk.imp q fun k d v T' hT h => f k d v T' (fun x hx => .inr (hT x hx)) h⟩⟩
  | k0 :: ks, d0 :: ds, _, _, j + 1, k, d, ⟨v, r, S1, S2, e1, e2, h, q⟩, ek, e => by
    subst e1 e2
    obtain ⟨v', T, A, B, g1, g2, g3, g4⟩ := AllFk.at (j := j) q (by simpa using ek) (by simpa using e)
    refine ⟨v', T, S1 ++ A, B, by simpa using g1, by rw [g2]; simp, g3, fun c' H' G' d' w' T' f h' => ?_⟩
    exact ⟨v, r.set j w', S1, A ++ T' ++ B, rfl, by simp, f _ _ _ _ (fun x hx => .inl (List.mem_append_left _ hx)) h, g4 c' H' G' d' w' T' (fun k d v T' hT h => f k d v T' (fun x hx => (hT x hx).imp (fun z => List.mem_append_right _ z) id) h) h'⟩
  | [], [], _, _, _, _, _, _, ek, _ => by simp at ek
  | [], _ :: _, _, _, _, _, _, h, _, _ => h.elim
  | _ :: _, [], _, _, _, _, _, h, _, _ => h.elim
theorem AllFk.snoc {k : Fk} : ∀ {fk : List Fk} {ds : List D} {vs : List V} {S : List Addr}, AllFk c H G fk ds vs S → RepFk c H G k d v T → AllFk c H G (fk ++ [k]) (ds ++ [d]) (vs ++ [v]) (S ++ T)
  | [], [], _, _, h, hd => by
    obtain ⟨rfl, rfl⟩ := h
    exact ⟨v, [], T, [], rfl, by simp, hd, rfl, rfl⟩
  | k0 :: ks, d0 :: ds, _, _, ⟨v0, r, S1, S2, e1, e2, h, q⟩, hd => by
    subst e1 e2
    exact ⟨v0, r ++ [v], S1, S2 ++ T, rfl, by simp, h, AllFk.snoc q hd⟩
  | [], _ :: _, _, _, h, _ => h.elim
  | _ :: _, [], _, _, h, _ => h.elim
theorem RepO.at_ {p : Addr} {fk : List Fk} (h : RepO c H G p fk d v S) (f : ∀ p ∈ S, ∀ o, H p = some o → H' p = some o) (s : Same G G') : RepO c H' G' p fk d v S := by
  obtain ⟨C, dx, fs, cl, ns, ds, S', e1, e2, e3, hp, gC, hn, ha⟩ := h
  subst e2
  exact ⟨C, dx, fs, cl, ns, ds, S', e1, rfl, e3, f p List.mem_cons_self _ hp, gC, hn, ha.imp fun k d v T hT h => h.at_ (fun q hq => f q (List.mem_cons_of_mem _ (hT q hq))) s⟩
theorem RepO.rep {p : Addr} {fk : List Fk} (h : RepO c H G p fk d v S) (s : Same G H) : Rep c.K c.mg H d v := by
  obtain ⟨C, dx, fs, cl, ns, ds, S', e1, e2, e3, hp, gC, hn, ha⟩ := h
  subst e1 e3
  exact ⟨p, C, dx, fs, rfl, hp, gC, hn, ha.reps fun _ _ _ _ _ h => h.rep s⟩
theorem RepO.frz {p : Addr} {fk : List Fk} (h : RepO c H G p fk d v T) (hs : ∀ p ∈ T, p ∈ S) (g : ∀ p ∈ S, G p = none) : Rep c.K c.mg (Lw.frz G H S) d v := by
  obtain ⟨C, dx, fs, cl, ns, ds, S', e1, e2, e3, hp, gC, hn, ha⟩ := h
  subst e1 e2 e3
  exact ⟨p, C, dx, fs, rfl, by rw [frz_in (hs p List.mem_cons_self)]; exact hp, gC, hn, ha.reps fun k d v T hT h => h.frz (fun q hq => hs q (List.mem_cons_of_mem _ (hT q hq))) g⟩
theorem RepO.cf {K : PySem.W.Frag} {mg : Str → Option Value} {B B' G0 G0' : Hp} {p : Addr} {fk : List Fk} (h : RepO ⟨K, mg, B, G0⟩ H G p fk d v S) : RepO ⟨K, mg, B', G0'⟩ H G p fk d v S := by
  obtain ⟨C, dx, fs, cl, ns, ds, S', e1, e2, e3, hp, gC, hn, ha⟩ := h
  refine ⟨C, dx, fs, cl, ns, ds, S', e1, e2, e3, hp, gC, hn, ha.imp fun k d v T _ h => ?_⟩
  cases k with
  | F => exact h
  | L => exact h
  | LL => exact h
end
def OMu (p : Addr) (fk : List Fk) : UK where
  R := fun c H G d v S => RepO c H G p fk d v S
  own := false
  at_ := fun h f s => h.at_ f s
  rep := fun h _ s => h.rep s
  frz := fun z => (nomatch z)
  cf := fun h => h.cf
def OBu (fk : List Fk) : UK where
  R := fun c H G d v S => ∃ p, RepO c H G p fk d v S
  own := true
  at_ := fun ⟨p, h⟩ f s => ⟨p, h.at_ f s⟩
  rep := fun ⟨p, h⟩ _ s => h.rep s
  frz := fun _ ⟨p, h⟩ hs g => h.frz hs g
  cf := fun ⟨p, h⟩ => ⟨p, h.cf⟩
def LMu (p : Addr) : UK where
  R := fun c H G d v S => v = .ref p ∧ RepL c H G d v S
  own := false
  at_ := fun ⟨e, h⟩ f s => ⟨e, h.at_ f s⟩
  rep := fun ⟨_, h⟩ _ s => h.rep s
  frz := fun z => (nomatch z)
  cf := fun h => h
structure Lent where
  u : Addr → UK
  ok : Kd
  root : ∀ {p : Addr} {c : Cf} {H G : Hp} {d : D} {v : V} {S : List Addr}, (u p).R c H G d v S → v = .ref p ∧ p ∈ S
  to : ∀ {p : Addr} {c : Cf} {H G : Hp} {d : D} {v : V} {S : List Addr}, (u p).R c H G d v S → RepK c H G ok d v S
  of : ∀ {c : Cf} {H G : Hp} {d : D} {v : V} {S : List Addr}, RepK c H G ok d v S → ∃ p, (u p).R c H G d v S
theorem RepL.of_own {c : Cf} {H G : Hp} {d : D} {v : V} {S : List Addr} (h : RepK c H G (.L .F) d v S) : RepL c H G d v S := by
  obtain ⟨p, vs, ds, S', e1, e2, hc, ha⟩ := h
  have e3 : S' = [] := by
    have aux : ∀ {ds : List D} {vs : List V} {S : List Addr}, AllR (RepK c H G .F) ds vs S → S = [] := by
      intro ds
      induction ds with
      | nil => intro vs S h; exact h.2
      | cons d ds ih =>
        intro vs S ⟨v, r, S1, S2, q1, q2, q3, q4⟩
        rw [q2, q3.2, ih q4] <;> rfl
    exact aux ha
  exact ⟨p, vs, ds, e1, by rw [e2, e3], hc, ha.reps fun _ _ _ z => z.1⟩
theorem RepL.own {c : Cf} {H G : Hp} {d : D} {v : V} {S : List Addr} (h : RepL c H G d v S) : RepK c H G (.L .F) d v S := by
  obtain ⟨p, vs, ds, e1, e2, hc, r⟩ := h
  subst e1 e2
  exact RepK.ofL hc r
def lentO (fk : List Fk) : Lent where
  u := fun p => OMu p fk
  ok := .U (OBu fk)
  root := fun ⟨_, _, _, _, _, _, _, e1, e2, _⟩ => ⟨e1, by rw [e2]; exact List.mem_cons_self⟩
  to := fun h => ⟨_, h⟩
  of := fun h => h
def lentL : Lent where
  u := LMu
  ok := .L .F
  root := fun ⟨e, p, _, _, e1, e2, _⟩ => ⟨e, by
    rw [e1] at e
    cases e
    rw [e2]; exact List.mem_cons_self⟩
  to := fun ⟨_, h⟩ => h.own
  of := fun h => by
    have h2 := RepL.of_own h
    obtain ⟨p, vs, ds, e1, r⟩ := h2
    exact ⟨p, e1, p, vs, ds, e1, r⟩
def retU (L : Lent) (p : Addr) (d' : D) : UK where
  R := fun c H G d v S => Rep c.K c.mg G d v ∧ (L.u p).R c H G d' (.ref p) S
  own := false
  at_ := fun ⟨h, q⟩ f s => ⟨h.mono s, (L.u p).at_ q f s⟩
  rep := fun ⟨h, _⟩ _ s => h.mono s
  frz := fun z => (nomatch z)
  cf := fun ⟨h, q⟩ => ⟨h, (L.u p).cf q⟩
noncomputable def delS (H : Hp) (S : List Addr) : Hp := fun b => if b ∈ S then none else H b
theorem delS_in {H : Hp} {S : List Addr} {b : Addr} (h : b ∈ S) : delS H S b = none := by unfold delS; rw [if_pos h]
theorem delS_out {H : Hp} {S : List Addr} {b : Addr} (h : b ∉ S) : delS H S b = H b := by unfold delS; rw [if_neg h]
theorem delS_sub {H : Hp} {S : List Addr} : Same (delS H S) H := fun b o q => by
  by_cases e : b ∈ S
  · rw [delS_in e] at q; cases q
  · rw [delS_out e] at q; exact q
theorem delS_none {H : Hp} {S : List Addr} {b : Addr} (h : delS H S b = none) : b ∈ S ∨ H b = none := by
  by_cases e : b ∈ S
  · exact .inl e
  · rw [delS_out e] at h; exact .inr h
def ArgsW (K : PySem.W.Frag) (mg : Str → Option Value) (G : Hp) (p : Addr) (d0 : D) : Nat → List D → List V → Prop
  | 0, d :: ds, v :: vs => v = .ref p ∧ d = d0 ∧ Reps K mg G ds vs
  | j + 1, d :: ds, v :: vs => Rep K mg G d v ∧ ArgsW K mg G p d0 j ds vs
  | _, _, _ => False
def spW (K : PySem.W.Frag) (mg : Str → Option Value) (L : Lent) (j n : Nat) (f : List D → R D) : Sp := fun vs H Q _ =>
  ∃ G ds p S d0 r d', ds.length = n ∧ Same G H ∧ S.Nodup ∧ (∀ q ∈ S, G q = none ∧ ∃ o, H q = some o) ∧ (L.u p).R ⟨K, mg, H, G⟩ H G d0 (.ref p) S ∧ ArgsW K mg G p d0 j ds vs ∧ f ds = .ok (.tup [r, d']) ∧
    ∀ H' G' v S', Adv (delS H S) G G' H' → (L.u p).R ⟨K, mg, H, G⟩ H' G' d' (.ref p) S' → S'.Nodup → (∀ q ∈ S', G' q = none ∧ delS H S q = none ∧ ∃ o, H' q = some o) → Rep K mg G' r v → Q v H'
def FdW (P : Program) (w : World) (K : PySem.W.Frag) (mg : Str → Option Value) (base : Heap) (L : Lent) (k : Nat) (x : Str) (f : List D → R D) (j n : Nat) : Prop :=
  ∃ fa fd ps, mg x = some (.ref fa) ∧ PySem.W.keepIn K (.ref fa) = true ∧ Binds K fd ps [] ∧ FnOk P w K mg base (L2.CX P w) k fa fd ps (spW K mg L j n f)
def FmW (P : Program) (w : World) (K : PySem.W.Frag) (mg : Str → Option Value) (base : Heap) (fk : List Fk) (k : Nat) (cl m : Str) (f : List D → R D) (n : Nat) : Prop :=
  ∃ C fa fd ps, mg cl = some (.ref C) ∧ Cls K C ∧ Meth K C m fa ∧ Binds K fd ps [] ∧ FnOk P w K mg base (L2.CX P w) k fa fd ps (spW K mg (lentO fk) 0 n f)
theorem ArgsW.length {K : PySem.W.Frag} {mg : Str → Option Value} {G : Hp} {p : Addr} {d0 : D} : ∀ {j : Nat} {ds : List D} {vs : List V}, ArgsW K mg G p d0 j ds vs → vs.length = ds.length ∧ j < ds.length
  | 0, d :: ds, v :: vs, ⟨_, _, r⟩ => ⟨by simp [r.length], by simp⟩
  | j + 1, d :: ds, v :: vs, ⟨_, r⟩ => by
    obtain ⟨h1, h2⟩ := ArgsW.length r
    exact ⟨by simp [h1], by simp; omega⟩
theorem ArgsW.get {K : PySem.W.Frag} {mg : Str → Option Value} {G : Hp} {p : Addr} {d0 : D} : ∀ {j i : Nat} {ds : List D} {vs : List V}, ArgsW K mg G p d0 j ds vs → i < ds.length → i ≠ j → ∃ v d, vs[i]? = some v ∧ ds[i]? = some d ∧ Rep K mg G d v
  | 0, 0, _, _, _, _, h => absurd rfl h
  | 0, i + 1, d :: ds, v :: vs, ⟨_, _, r⟩, hi, _ => by
    obtain ⟨d', hd⟩ : ∃ d', ds[i]? = some d' := ⟨_, List.getElem?_eq_getElem (by simpa using hi)⟩
    obtain ⟨v', h1, h2⟩ := r.get hd
    exact ⟨v', d', by simpa using h1, by simpa using hd, h2⟩
  | j + 1, 0, d :: ds, v :: vs, ⟨r, _⟩, _, _ => ⟨v, d, rfl, rfl, r⟩
  | j + 1, i + 1, d :: ds, v :: vs, ⟨_, r⟩, hi, hn => by
    obtain ⟨v', d', h1, h2, h3⟩ := ArgsW.get (i := i) r (by simpa using hi) (by omega)
    exact ⟨v', d', by simpa using h1, by simpa using h2, h3⟩
theorem ArgsW.at_ {K : PySem.W.Frag} {mg : Str → Option Value} {G : Hp} {p : Addr} {d0 : D} : ∀ {j : Nat} {ds : List D} {vs : List V}, ArgsW K mg G p d0 j ds vs → vs[j]? = some (.ref p) ∧ ds[j]? = some d0
  | 0, d :: ds, v :: vs, ⟨e, e2, _⟩ => by
    subst e e2
    exact ⟨rfl, rfl⟩
  | j + 1, d :: ds, v :: vs, ⟨_, r⟩ => by
    obtain ⟨h1, h2⟩ := ArgsW.at_ r
    exact ⟨by simpa using h1, by simpa using h2⟩
def dW (L : Lent) (j : Nat) (p : Addr) : DE D := ⟨fun κ en a => κ[j]? = some (.U (L.u p)) ∧ ∃ d', en[j]? = some d' ∧ a = .tup [.non, d'], fun rk d a => ∃ d', rk = .O (.U (retU L p d')) ∧ a = .tup [d, d'], fun _ _ => True, fun _ _ _ => False, fun _ _ _ => False⟩
def kStartW (L : Lent) (n m j : Nat) (p : Addr) : List Kd := (List.replicate n Kd.F ++ List.replicate m Kd.N).set j (.U (L.u p))
section
variable {P : Program} {w : World} {K : PySem.W.Frag} {mg : Str → Option Value} {base : Heap}
theorem fw_ok {x qual : Str} {params : Arguments} {body : List Stmt} {sc : Scope} {fa : Addr} {fd : FuncData} {N ps : List Str} {k n m j : Nat} {L : Lent} {f : List D → R D} (F : FunD K x qual params body sc [] [] fa fd) (S : FnScope N ps sc) (hl : ps.length = n) (hN : N.length = n + m)
    (hb : ∀ (cdv : Value) (A : Around) (outer : List Env) (s : Shared) (H B : Hp) (E : XK) (G : Hp) (ds : List D) (p : Addr), Room k (A.deeper (envOfC qual sc s.heap.objs.size fa cdv)) → ds.length = n →
      SV (cxOf (L2.CX P w) P w K mg base N qual sc fa cdv A outer s H E) (fun cv xd _ H' => E cv xd H') B G (kStartW L n m j p) (ds ++ List.replicate m .non) body (dW L j p) (f ds)) :
    FnOk P w K mg base (L2.CX P w) (k + 1) fa fd ps (spW K mg L j n f) := by
  refine F.ok S (fun vs H Q E ⟨G, ds, p, S, d0, r, d', hn, _, _, _, _, a, _⟩ => ?_) (fun cdv A outer s H vs Q E hr ⟨G, ds, p, S, d0, r, d', hn, sG, nd, gS, hR, a, hf, q⟩ => ?_)
  · rw [a.length.1, hn, hl]
  · obtain ⟨l1, l2⟩ := a.length
    have sM : Same G (delS H S) := fun b o h => by
      by_cases e : b ∈ S
      · rw [(gS b e).1] at h; cases h
      · rw [delS_out e]; exact sG _ _ h
    have st : St ⟨K, mg, delS H S, G⟩ (kStartW L n m j p) (ds ++ List.replicate m .non) (L2.start N vs) H G (fun i => if i = j then S else []) := by
      obtain ⟨v0, e0⟩ := a.at_
      refine ⟨⟨?_, ?_⟩, fun i k hk hne => ?_, fun i y hy => ?_, fun i => ?_, fun i i' y hii h1 h2 => ?_, delS_sub, .refl _, sG, fun _ _ h => .inl h⟩
      · unfold L2.start kStartW
        simp
        omega
      · unfold kStartW
        simp
        omega
      · by_cases e : i = j
        · subst e
          have hki : k = .U (L.u p) := by
            unfold kStartW at hk
            rw [List.getElem?_set_self (by simp; omega)] at hk
            exact (Option.some.inj hk).symm
          subst hki
          refine ⟨.ref p, d0, ?_, ?_, ?_⟩
          · unfold L2.start
            rw [List.getElem?_append_left (by simp; omega), List.getElem?_map, v0] <;> rfl
          · rw [List.getElem?_append_left (by omega)]
            exact e0
          · rw [if_pos rfl]
            exact (L.u p).cf hR
        · unfold kStartW at hk
          rw [List.getElem?_set_ne (Ne.symm e)] at hk
          rcases Nat.lt_or_ge i n with hi | hi
          · rw [List.getElem?_append_left (by simpa using hi)] at hk
            have ek := List.eq_of_mem_replicate (List.mem_of_getElem? hk)
            subst ek
            obtain ⟨v, d, h1, h2, h3⟩ := a.get (i := i) (by omega) e
            refine ⟨v, d, ?_, ?_, ?_⟩
            · unfold L2.start
              rw [List.getElem?_append_left (by simp; omega), List.getElem?_map, h1] <;> rfl
            · rw [List.getElem?_append_left (by omega)]
              exact h2
            · rw [if_neg e]
              exact ⟨h3, rfl⟩
          · rw [List.getElem?_append_right (by simpa using hi)] at hk
            exact absurd (List.eq_of_mem_replicate (List.mem_of_getElem? hk)) hne
      · by_cases e : i = j
        · rw [if_pos e] at hy
          exact ⟨(gS y hy).1, delS_in hy, (gS y hy).2⟩
        · rw [if_neg e] at hy
          cases hy
      · show (if i = j then S else []).Nodup
        split
        · exact nd
        · exact List.Pairwise.nil
      · by_cases e1 : i = j
        · by_cases e2 : i' = j
          · exact hii (e1.trans e2.symm)
          · rw [if_neg e2] at h2; cases h2
        · rw [if_neg e1] at h1; cases h1
    refine ⟨_, (hb cdv A outer s H (delS H S) E G ds p hr hn).ps, G, _, st, ?_⟩
    rw [hf]
    refine ⟨fun κ en σ H' G' Ss st' ⟨e1, d2, e2, e3⟩ => ?_, fun k' d2 v H' G' S' a1 rv ⟨d3, e1, e2⟩ => ?_, fun _ _ _ _ _ _ _ z => z.elim, fun _ _ _ _ _ _ _ z => z.elim⟩
    · cases e3
      obtain ⟨v, d, h1, h2, hR2⟩ := st'.slot j _ e1 (by intro z; cases z)
      rw [e2] at h2
      cases h2
      have hv := (L.root hR2).1
      subst hv
      exact q H' G' .non (Ss j) st'.adv0 ((L.u p).cf hR2) (st'.nd j) (fun x hx => by
        obtain ⟨z1, z2, z3⟩ := st'.own j x hx
        exact ⟨z1, z2, z3⟩) rfl
    · cases e2
      subst e1
      obtain ⟨⟨r1, r2⟩, nd2, hS2⟩ := rv
      exact q H' G' v S' a1 ((L.u p).cf r2) nd2 (fun x hx => by
        obtain ⟨z1, z2, z3⟩ := hS2 x hx
        exact ⟨z2, z1, z3⟩) r1
end
section
variable {α : Type} {X : Cx} {W : WX} {B G0 : Hp} {κ : List Kd} {en : List D} {e : Expr} {r : R D} {δ : DE α} {pos : Pos} {rest : List Stmt} {d' : D} {L : Lent} {p : Addr} {j : Nat}
end
theorem St.swapW {c : Cf} {κ : List Kd} {en : List D} {σ : L2.St} {H G H' G' : Hp} {Ss : Nat → List Addr} {i : Nat} {k : Kd} {v : V} {d' : D} {S' : List Addr} (st : St c κ en σ H G Ss) (hk : κ[i]? = some k) (hv : σ[i]? = some (some v)) (a : Adv (delS H (Ss i)) G G' H') (r : RepK c H' G' k d' v S') (nd : S'.Nodup)
    (hS : ∀ q ∈ S', G' q = none ∧ delS H (Ss i) q = none ∧ ∃ o, H' q = some o) : St c κ (en.set i d') σ H' G' (fun j => if j = i then S' else Ss j) := by
  obtain ⟨a1, a2, a3, a4⟩ := a
  have hi : i < en.length := by rw [st.ln.2]; exact (List.getElem?_eq_some_iff.mp hk).1
  have keep : ∀ {j : Nat} {x : Addr} {o : HO}, j ≠ i → x ∈ Ss j → H x = some o → delS H (Ss i) x = some o := fun {j x o} e hx ho => by
    rw [delS_out (fun z => st.dis j i x e hx z)]; exact ho
  have nB : ∀ b, delS H (Ss i) b = none → c.B b = none := fun b h => by
    rcases delS_none h with z | z
    · exact (st.own i b z).2.1
    · exact st.sB.free z
  refine ⟨by simpa using st.ln, fun j q hj hq => ?_, fun j x hx => ?_, fun j => ?_, fun j l x hjl hx hy => ?_, fun b o hb => ?_, st.sG.trans a2, a3, fun b o hb => ?_⟩
  · by_cases e : j = i
    · subst e
      rw [hk] at hj; cases hj
      exact ⟨v, d', hv, List.getElem?_set_self hi, by rw [if_pos rfl]; exact r⟩
    · obtain ⟨v', e', h1, h2, h3⟩ := st.slot j q hj hq
      refine ⟨v', e', h1, by rw [List.getElem?_set_ne (Ne.symm e)]; exact h2, ?_⟩
      rw [if_neg e]
      exact h3.at_ (fun x hx w hw => a1 _ _ (keep e hx hw)) a2
  · by_cases e : j = i
    · rw [if_pos e] at hx
      obtain ⟨z1, z2, z3⟩ := hS x hx
      exact ⟨z1, nB x z2, z3⟩
    · rw [if_neg e] at hx
      obtain ⟨h1, h2, w, h3⟩ := st.own j x hx
      have hd := keep e hx h3
      refine ⟨?_, h2, w, a1 _ _ hd⟩
      cases z : G' x with
      | none => rfl
      | some o =>
        rcases a4 x o z with y | y
        · rw [h1] at y; cases y
        · rw [hd] at y; cases y
  · by_cases e : j = i
    · rw [if_pos e]; exact nd
    · rw [if_neg e]; exact st.nd j
  · have cross : ∀ l, l ≠ i → x ∈ S' → x ∈ Ss l → False := fun l e z1 z2 => by
      obtain ⟨_, _, w, h3⟩ := st.own l x z2
      have := keep e z2 h3
      rw [(hS x z1).2.1] at this; cases this
    by_cases e : j = i
    · rw [if_pos e] at hx
      have e2 : l ≠ i := fun z => hjl (e.trans z.symm)
      rw [if_neg e2] at hy
      exact cross l e2 hx hy
    · rw [if_neg e] at hx
      by_cases e2 : l = i
      · rw [if_pos e2] at hy
        exact cross j e hy hx
      · rw [if_neg e2] at hy
        exact st.dis j l x hjl hx hy
  · have hb2 : b ∉ Ss i := fun z => by rw [(st.own i b z).2.1] at hb; cases hb
    exact a1 _ _ (by rw [delS_out hb2]; exact st.sB _ _ hb)
  · rcases a4 b o hb with y | y
    · exact st.new b o y
    · exact .inr (nB b y)
def LentAt (L : Lent) (k : Kd) : Prop := (∃ q, k = .U (L.u q)) ∨ k = L.ok
theorem LentAt.ne {L : Lent} {k : Kd} (h : LentAt L k) (hn : L.ok ≠ .N) : k ≠ .N := by
  rcases h with ⟨q, rfl⟩ | rfl
  · intro z; cases z
  · exact hn
theorem LentAt.get {L : Lent} {k : Kd} {c : Cf} {H G : Hp} {d : D} {v : V} {S : List Addr} (h : LentAt L k) (r : RepK c H G k d v S) : ∃ p, v = .ref p ∧ (L.u p).R c H G d v S ∧ ∀ (c' : Cf) (H' G' : Hp) (d' : D) (S' : List Addr), (L.u p).R c' H' G' d' v S' → RepK c' H' G' k d' v S' := by
  rcases h with ⟨q, rfl⟩ | rfl
  · exact ⟨q, (L.root r).1, r, fun _ _ _ _ _ h => h⟩
  · obtain ⟨p, hp⟩ := L.of r
    exact ⟨p, (L.root hp).1, hp, fun _ _ _ _ _ h => L.to h⟩
def pW (f : List D → R D) (n : Nat) (ds : List D) : R (D × D) := if ds.length = n then (match f ds with
  | .ok (.tup [r, d']) => .ok (r, d')
  | _ => .bad) else .bad
theorem pW_ok {f : List D → R D} {n : Nat} {ds : List D} {p : D × D} (h : pW f n ds = .ok p) : ds.length = n ∧ f ds = .ok (.tup [p.1, p.2]) := by
  unfold pW at h
  split at h
  · rename_i hl
    refine ⟨hl, ?_⟩
    split at h
    · rename_i e
      cases h
      exact e
    · cases h
  · cases h
theorem pW_nx {f : List D → R D} {n : Nat} {ds : List D} {e : Ex} (h : pW f n ds = .exc e) : False := by
  unfold pW at h
  split at h
  · split at h <;> cases h
  · cases h
theorem ArgsJ.toW {K : PySem.W.Frag} {mg : Str → Option Value} {G : Hp} {p : Addr} {d0 : D} : ∀ {j : Nat} {ds : List D} {vs : List V}, ArgsJ K mg G (some (some (.ref p))) d0 j ds vs → ArgsW K mg G p d0 j ds vs
  | 0, d :: ds, v :: vs, ⟨h1, h2, h3⟩ => by
    cases h1
    exact ⟨rfl, h2, h3⟩
  | j + 1, d :: ds, v :: vs, ⟨h1, h2⟩ => ⟨h1, ArgsJ.toW h2⟩
section
variable {X : Cx} {W : WX} {B G0 : Hp} {κ : List Kd} {en : List D} {e o : Expr} {es : List Expr} {d0 : D} {i j k n : Nat} {r : R D} {rs : R (List D)} {pk : List PK} {x : Str} {f : List D → R D} {L : Lent} {kk : Kd} {p cp apos pos : Pos}
theorem em_hereW (q : PE X e (tVar i)) (h2 : EA X W B G0 κ en es pk rs) (hk : κ[i]? = some kk) (hd : en[i]? = some d0) (hn : kk ≠ .N := by intro z; cases z) (hp : ∀ b ∈ pk, b.isF = true := by decide) (hs : starEach (e :: es) X.env = (false, eval e X.env) :: starEach es X.env := by rfl) :
    EM X W B G0 κ en i 0 d0 (e :: es) (R.cons (.ok d0) rs) :=
  ⟨PA.wk (pa_cons q h2.pa hs) fun σ H Q ⟨G, Ss, st, m⟩ => by
    obtain ⟨v, d, h1, _, _⟩ := st.slot i _ hk hn
    have m' : mR W (cf X B G0) σ H G (fun ds H' G' => ∀ vs, ArgsJ X.K X.mg G' σ[i]? d0 0 ds vs → Q vs H') (rs.bind fun ds => .ok (d0 :: ds)) := m
    exact ⟨_, h1, G, Ss, st, m'.thn fun ds H1 G1 a m1 vs args => m1 H1 G1 (.refl a.2.2.1) (v :: vs) ⟨h1, rfl, args.reps hp⟩⟩⟩
theorem St.lentRun {c : Cf} {κ : List Kd} {en : List D} {σ : L2.St} {H G : Hp} {Ss : Nat → List Addr} {ds : List D} {vs : List V} {Q : VK} {E : XK} {rv : D × D} (st : St c κ en σ H G Ss) (hL : LentAt L kk) (hn : kk ≠ .N) (hk : κ[i]? = some kk) (hd : en[i]? = some d0) (args : ArgsJ c.K c.mg G σ[i]? d0 j ds vs) (hf : pW f n ds = .ok rv)
    (q : ∀ H' G' v S', St c κ (en.set i rv.2) σ H' G' S' → Rep c.K c.mg G' rv.1 v → Adv (delS H (Ss i)) G G' H' → Q v H') : spW c.K c.mg L j n f vs H Q E := by
  obtain ⟨v, d, h1, h2, hR⟩ := st.slot i _ hk hn
  rw [hd] at h2
  cases h2
  obtain ⟨p, e1, hp, back⟩ := hL.get hR
  subst e1
  obtain ⟨hl, hf⟩ := pW_ok hf
  rw [h1] at args
  refine ⟨G, ds, p, Ss i, d0, rv.1, rv.2, hl, st.sH, st.nd i, fun b hb => ⟨(st.own i b hb).1, (st.own i b hb).2.2⟩, (L.u p).cf hp, args.toW, hf, fun H' G' v S' a r nd hS rr => ?_⟩
  exact q H' G' v _ (st.swapW hk h1 a (back _ _ _ _ _ ((L.u p).cf r)) nd hS) rr a
end
section
variable {α : Type} {X : Cx} {W : WX} {B G0 : Hp} {κ : List Kd} {en : List D} {e o : Expr} {es : List Expr} {δ : DE α} {pos cp p px apos pos' : Pos} {rest : List Stmt} {d0 : D} {i j n k : Nat} {x y cl m : Str} {f : List D → R D} {rs : R (List D)} {L : Lent} {kk : Kd} {fk : List Fk} {pk : List PK}
theorem mS.toW {c : Cf} {Dn : Ends} {f : List D → R D} {n : Nat} {ds : List D} {g : D × D → R α} (m : mS W c δ Dn ((pW f n ds).bind g)) : ∃ rv, pW f n ds = .ok rv ∧ mS W c δ Dn (g rv) := by
  cases h : pW f n ds with
  | bad => rw [h] at m; exact m.elim
  | exc x => exact (pW_nx h).elim
  | ok rv => rw [h] at m; exact ⟨rv, rfl, m⟩
theorem sv_callW {g : D × D → R α} (F : FdW X.prog X.w X.K X.mg X.base L k x f j n) (hr : Room k X.A) (tk : Takes X W) (ha : EM X W B G0 κ en i j d0 (e :: es) rs) (hn : ∀ rv, SV X W B G0 κ (en.set i rv.2) rest δ (g rv)) (hL : LentAt L kk) (hkn : kk ≠ .N := by intro z; cases z) (hk : κ[i]? = some kk := by rfl) (hd : en[i]? = some d0 := by rfl) (hg : Gl X x := by rfl)
    (hex : δ.ex κ en := by exact True.intro) (hdb : (x == ("__debug__" : Str)) = false := by decide) (he : starEach (e :: es) X.env = (false, eval e X.env) :: starEach es X.env := by rfl) (hpl : (backTo cp (starEach es X.env)).any (·.1) = false := by rfl)
    (hs : swapsWith (.Call (.Name x p) (e :: es) [] cp) none pos.line X.env = pure false := by rfl) :
    SV X W B G0 κ en (.Expr (.Call (.Name x p) (e :: es) [] cp) pos :: rest) δ (rs.bind fun ds => (pW f n ds).bind g) := by
  obtain ⟨fa, fd, ps, gT, kp, hb, F⟩ := F
  refine ⟨PSs.wk (pss_cons (ps_expr (pe_callS F hr hg gT kp hb (fun σ => passAt tk σ) ha.pa hdb he hpl) hs) (PSs.all fun rv => (hn rv).ps)) fun Dn σ H ⟨G, Ss, st, m⟩ => ⟨G, Ss, st, mS.toR st m hex fun ds H1 G1 a st1 m1 vs args => ?_⟩⟩
  obtain ⟨rv, hf, m2⟩ := mS.toW m1
  exact st1.lentRun hL hkn hk hd args hf fun H' G' v S' st2 _ _ => ⟨rv, G', S', st2, m2⟩
theorem pe_methW {C fa : Addr} {fd : FuncData} {ps : List Str} {sp : Sp} {ta : TE} {t : TA} {pl : Sem Bool} (ho : PE X o ta) (cC : Cls X.K C) (hm : Meth X.K C m fa) (F : FnOk X.prog X.w X.K X.mg X.base (L2.CX X.prog X.w) k fa fd ps sp) (hb : Binds X.K fd ps []) (hr : Room k X.A) (tk : Takes X W) (ha : PA X (e :: es) t)
    (hst : starEach (e :: es) X.env = (false, eval e X.env) :: starEach es X.env := by rfl) (hpl : (backTo pos (starEach es X.env)).any (·.1) = false := by rfl)
    (ht : eval (.Call (.Attribute o m apos) (e :: es) [] pos) X.env = (do
      let ov ← eval o X.env
      standAt apos.atName
      let (f, first) ← holding [ov] (getMethod ov m pl)
      callWith pos f first (backTo pos (starEach (e :: es) X.env)) (backToKw pos (keywordEach [] X.env))) := by rfl) :
    PE X (.Call (.Attribute o m apos) (e :: es) [] pos) (fun σ H Q => ta σ H fun x H1 => ∃ a dx fs, x = .ref a ∧ H1 a = some (.ins C dx fs) ∧ fs.lookup m = none ∧ t σ H1 fun vs H2 => sp (x :: vs) H2 Q (WE W σ)) := by
  refine ⟨fun pins s σ H Q I h => ?_⟩
  refine PySem.W.methodCall_KW (pl := pl) (thn (ho.run pins s σ H _ I h) fun u s1 ⟨x, H1, I1, rx, a, dx, fs, ex, ea, l, z⟩ => ?_) ht
  subst ex
  obtain rfl : u = Value.ref a := rx
  refine getmeth_ok I1 ea cC hm l ?_
  refine PySem.W.callWith_K (first := [.ref a]) (h₀ := X.base) I.ok.mod.kin hm.kp (thn (ha.run pos pins s1 σ H1 _ I1 z) fun us s2 ⟨vs, H2, I2, r, q2⟩ => ⟨I2.kIn, ?_⟩) hst hpl
  exact run_fnS (E := WE W) (us := .ref a :: us) (vs := .ref a :: vs) F hr hb (passAt tk σ) I2 (.cons rfl r) q2
theorem pe_methW0 {C fa : Addr} {fd : FuncData} {ps : List Str} {sp : Sp} {ta : TE} {pl : Sem Bool} (ho : PE X o ta) (cC : Cls X.K C) (hm : Meth X.K C m fa) (F : FnOk X.prog X.w X.K X.mg X.base (L2.CX X.prog X.w) k fa fd ps sp) (hb : Binds X.K fd ps []) (hr : Room k X.A) (tk : Takes X W)
    (ht : eval (.Call (.Attribute o m apos) [] [] pos) X.env = (do
      let ov ← eval o X.env
      standAt apos.atName
      let (f, first) ← holding [ov] (getMethod ov m pl)
      callWith pos f first (backTo pos (starEach [] X.env)) (backToKw pos (keywordEach [] X.env))) := by rfl) :
    PE X (.Call (.Attribute o m apos) [] [] pos) (fun σ H Q => ta σ H fun x H1 => ∃ a dx fs, x = .ref a ∧ H1 a = some (.ins C dx fs) ∧ fs.lookup m = none ∧ sp [x] H1 Q (WE W σ)) := by
  refine ⟨fun pins s σ H Q I h => ?_⟩
  refine PySem.W.methodCall_KW (pl := pl) (thn (ho.run pins s σ H _ I h) fun u s1 ⟨x, H1, I1, rx, a, dx, fs, ex, ea, l, z⟩ => ?_) ht
  subst ex
  obtain rfl : u = Value.ref a := rx
  refine getmeth_ok I1 ea cC hm l ?_
  exact PySem.W.callWith_K0 (first := [.ref a]) I1.kIn hm.kp (run_fnS (E := WE W) (us := [.ref a]) (vs := [.ref a]) F hr hb (passAt tk σ) I1 (.cons rfl .nil) z)
theorem St.objAt {c : Cf} {κ : List Kd} {en : List D} {σ : L2.St} {H G : Hp} {Ss : Nat → List Addr} {C : Addr} (st : St c κ en σ H G Ss) (hL : LentAt (lentO fk) kk) (hk : κ[i]? = some kk) (hd : en[i]? = some d0) (hkn : kk ≠ .N) (gC : c.mg cl = some (.ref C)) {d1 : D} (ho : asObj cl m d0 = .ok d1) :
    ∃ a dx fs, σ[i]? = some (some (.ref a)) ∧ H a = some (.ins C dx fs) ∧ fs.lookup m = none := by
  obtain ⟨v, d, h1, h2, hR⟩ := st.slot i _ hk hkn
  rw [hd] at h2
  cases h2
  obtain ⟨p, e1, hp, _⟩ := hL.get hR
  subst e1
  obtain ⟨C', dx, fs, cl', ns, ds, S', e1, e2, e3, hpp, gC', hn, ha⟩ := hp
  subst e3
  have ho' : (if cl' = cl ∧ ns.contains m = false then R.ok (D.obj cl' ns ds) else .bad) = .ok d1 := ho
  by_cases z : cl' = cl ∧ ns.contains m = false
  · obtain ⟨z1, z2⟩ := z
    subst z1
    rw [gC] at gC'
    cases gC'
    subst hn
    exact ⟨p, dx, fs, h1, hpp, lookup_none z2⟩
  · rw [if_neg z] at ho'
    cases ho'
theorem mS.toAs {c : Cf} {Dn : Ends} {d : D} {g : D → R α} (mm : mS W c δ Dn ((asObj cl m d).bind g)) : ∃ d1, asObj cl m d = .ok d1 ∧ mS W c δ Dn (g d1) := by
  cases h : asObj cl m d with
  | bad => rw [h] at mm; exact mm.elim
  | exc x =>
    exfalso
    cases d with
    | obj c ns xs =>
      have h' : (if c = cl ∧ ns.contains m = false then R.ok (D.obj c ns xs) else .bad) = .exc x := h
      split at h' <;> cases h'
    | _ => cases h
  | ok d1 => rw [h] at mm; exact ⟨d1, rfl, mm⟩
theorem sv_methW {g : D × D → R α} {pl : Sem Bool} (F : FmW X.prog X.w X.K X.mg X.base fk k cl m f n) (hr : Room k X.A) (tk : Takes X W) (q : PE X o (tVar i)) (ha : EA X W B G0 κ en (e :: es) pk rs) (hn : ∀ rv, SV X W B G0 κ (en.set i rv.2) rest δ (g rv)) (hL : LentAt (lentO fk) kk) (hkn : kk ≠ .N := by intro z; cases z) (hk : κ[i]? = some kk := by rfl) (hd : en[i]? = some d0 := by rfl)
    (hex : δ.ex κ en := by exact True.intro) (hp : ∀ b ∈ pk, b.isF = true := by decide) (hst : starEach (e :: es) X.env = (false, eval e X.env) :: starEach es X.env := by rfl) (hpl : (backTo cp (starEach es X.env)).any (·.1) = false := by rfl)
    (hs : swapsWith (.Call (.Attribute o m apos) (e :: es) [] cp) none pos.line X.env = pure false := by rfl)
    (ht : eval (.Call (.Attribute o m apos) (e :: es) [] cp) X.env = (do
      let ov ← eval o X.env
      standAt apos.atName
      let (f, first) ← holding [ov] (getMethod ov m pl)
      callWith cp f first (backTo cp (starEach (e :: es) X.env)) (backToKw cp (keywordEach [] X.env))) := by rfl) :
    SV X W B G0 κ en (.Expr (.Call (.Attribute o m apos) (e :: es) [] cp) pos :: rest) δ ((asObj cl m d0).bind fun _ => rs.bind fun ds => (pW f n (d0 :: ds)).bind g) := by
  obtain ⟨C, fa, fd, ps, gC, cC, hm, hb, F⟩ := F
  refine ⟨PSs.wk (pss_cons (ps_expr (pe_methW q cC hm F hb hr tk ha.pa hst hpl ht) hs) (PSs.all fun rv => (hn rv).ps)) fun Dn σ H ⟨G, Ss, st, mm⟩ => ?_⟩
  obtain ⟨d1, ho, mm⟩ := mm.toAs
  obtain ⟨a, dx, fs, hv, hp1, hl⟩ := st.objAt hL hk hd hkn gC ho
  refine ⟨_, hv, a, dx, fs, rfl, hp1, hl, G, Ss, st, mS.toR st mm hex fun ds H1 G1 a1 st1 m1 vs args => ?_⟩
  obtain ⟨rv, hf, m2⟩ := mS.toW m1
  exact st1.lentRun (j := 0) (ds := d0 :: ds) hL hkn hk hd ⟨hv, rfl, args.reps hp⟩ hf fun H' G' v S' st2 _ _ => ⟨rv, G', S', st2, m2⟩
theorem sv_methW0 {g : D × D → R α} {pl : Sem Bool} (F : FmW X.prog X.w X.K X.mg X.base fk k cl m f n) (hr : Room k X.A) (tk : Takes X W) (q : PE X o (tVar i)) (hn : ∀ rv, SV X W B G0 κ (en.set i rv.2) rest δ (g rv)) (hL : LentAt (lentO fk) kk) (hkn : kk ≠ .N := by intro z; cases z) (hk : κ[i]? = some kk := by rfl) (hd : en[i]? = some d0 := by rfl)
    (hex : δ.ex κ en := by exact True.intro) (hs : swapsWith (.Call (.Attribute o m apos) [] [] cp) none pos.line X.env = pure false := by rfl)
    (ht : eval (.Call (.Attribute o m apos) [] [] cp) X.env = (do
      let ov ← eval o X.env
      standAt apos.atName
      let (f, first) ← holding [ov] (getMethod ov m pl)
      callWith cp f first (backTo cp (starEach [] X.env)) (backToKw cp (keywordEach [] X.env))) := by rfl) :
    SV X W B G0 κ en (.Expr (.Call (.Attribute o m apos) [] [] cp) pos :: rest) δ ((asObj cl m d0).bind fun _ => (pW f n [d0]).bind g) := by
  obtain ⟨C, fa, fd, ps, gC, cC, hm, hb, F⟩ := F
  refine ⟨PSs.wk (pss_cons (ps_expr (pe_methW0 q cC hm F hb hr tk ht) hs) (PSs.all fun rv => (hn rv).ps)) fun Dn σ H ⟨G, Ss, st, mm⟩ => ?_⟩
  obtain ⟨d1, ho, mm⟩ := mm.toAs
  obtain ⟨a, dx, fs, hv, hp1, hl⟩ := st.objAt hL hk hd hkn gC ho
  obtain ⟨rv, hf, m2⟩ := mS.toW mm
  exact ⟨_, hv, a, dx, fs, rfl, hp1, hl, st.lentRun (j := 0) (ds := [d0]) hL hkn hk hd ⟨hv, rfl, rfl⟩ hf fun H' G' v S' st2 _ _ => ⟨rv, G', S', st2, m2⟩⟩
end
end Lw
namespace Lw
open PySem PySem.Spec PyProof.Rows L2
def fldJ (cl f : Str) (j : Nat) : D → R D
  | .obj c ns xs => if c = cl ∧ ns[j]? = some f ∧ (ns.take j).contains f = false ∧ ns.length < 1000 then (match xs[j]? with
    | some d => .ok d
    | none => .bad) else .bad
  | _ => .bad
def setJ (j : Nat) (y : D) : D → D
  | .obj c ns xs => .obj c ns (xs.set j y)
  | d => d
theorem fldJ_nx {cl f : Str} {j : Nat} {d : D} {x : Ex} (h : fldJ cl f j d = .exc x) : False := by
  cases d with
  | obj c ns xs =>
    have h' : (if c = cl ∧ ns[j]? = some f ∧ (ns.take j).contains f = false ∧ ns.length < 1000 then (match xs[j]? with
      | some d => R.ok d
      | none => .bad) else .bad) = .exc x := h
    split at h'
    · split at h' <;> cases h'
    · cases h'
  | _ => cases h
theorem fld_at {f : Str} : ∀ {fs : List (Str × V)} {j : Nat} {v : V}, (fs.map (·.1))[j]? = some f → ((fs.map (·.1)).take j).contains f = false → (fs.map (·.2))[j]? = some v → fs.lookup f = some v ∧ ∀ w, (putF f w fs).map (·.1) = fs.map (·.1) ∧ (putF f w fs).map (·.2) = (fs.map (·.2)).set j w
  | [], j, v, h1, h2, h3 => by simp at h1
  | (g, x) :: fs, 0, v, h1, h2, h3 => by
    have e1 : g = f := by simpa using h1
    have e2 : x = v := by simpa using h3
    subst e1 e2
    refine ⟨by rw [List.lookup_cons, beq_iff_eq.mpr rfl], fun w => ?_⟩
    have e : putF g w ((g, x) :: fs) = (g, w) :: fs := by
      show (if g = g then (g, w) :: fs else (g, x) :: putF g w fs) = _
      rw [if_pos rfl]
    rw [e]
    exact ⟨rfl, rfl⟩
  | (g, x) :: fs, j + 1, v, h1, h2, h3 => by
    rw [List.map_cons, List.take_succ_cons, List.contains_cons] at h2
    obtain ⟨n1, n2⟩ := Bool.or_eq_false_iff.mp h2
    have ne : ¬ g = f := fun e => by subst e; simp at n1
    obtain ⟨i1, i2⟩ := fld_at (fs := fs) (j := j) (v := v) (by simpa using h1) n2 (by simpa using h3)
    refine ⟨by rw [List.lookup_cons, n1]; exact i1, fun w => ?_⟩
    have e : putF f w ((g, x) :: fs) = (g, x) :: putF f w fs := by
      show (if g = f then (g, w) :: fs else (g, x) :: putF f w fs) = _
      rw [if_neg ne]
    obtain ⟨j1, j2⟩ := i2 w
    rw [e, List.map_cons, List.map_cons, List.map_cons, List.map_cons, j1, j2]
    exact ⟨rfl, rfl⟩
section
variable {c : Cf} {κ : List Kd} {en : List D} {σ : L2.St} {H G : Hp} {Ss : Nat → List Addr} {i j : Nat} {p : Addr} {fk : List Fk} {k : Fk} {d0 d : D} {cl f : Str}
theorem St.ownO (st : St c κ en σ H G Ss) (hk : κ[i]? = some (.U (OMu p fk))) (hd : en[i]? = some d0) :
    ∃ C dx fs cl ns ds S', σ[i]? = some (some (.ref p)) ∧ Ss i = p :: S' ∧ d0 = .obj cl ns ds ∧ H p = some (.ins C dx fs) ∧ c.mg cl = some (.ref C) ∧ fs.map (·.1) = ns ∧ AllFk c H G fk ds (fs.map (·.2)) S' := by
  obtain ⟨v, d, h1, h2, C, dx, fs, cl, ns, ds, S', e1, e2, e3, hp, gC, hn, ha⟩ := st.slot i _ hk (by intro z; cases z)
  rw [hd] at h2
  cases h2
  subst e1
  exact ⟨C, dx, fs, cl, ns, ds, S', h1, e2, e3, hp, gC, hn, ha⟩
theorem St.fldAt (st : St c κ en σ H G Ss) (hk : κ[i]? = some (.U (OMu p fk))) (hd : en[i]? = some d0) (hf : fldJ cl f j d0 = .ok d) (hj : fk[j]? = some k) :
    ∃ C dx fs ds v T A B, σ[i]? = some (some (.ref p)) ∧ Ss i = p :: (A ++ T ++ B) ∧ d0 = .obj cl (fs.map (·.1)) ds ∧ H p = some (.ins C dx fs) ∧ c.mg cl = some (.ref C) ∧ fs.lookup f = some v ∧ fs.length < 1000 ∧ RepFk c H G k d v T ∧
      (∀ w, (putF f w fs).map (·.1) = fs.map (·.1) ∧ (putF f w fs).map (·.2) = (fs.map (·.2)).set j w) ∧
      ∀ (c' : Cf) (H' G' : Hp) (d' : D) (v' : V) (T' : List Addr), (∀ k d v T', (∀ x ∈ T', x ∈ A ∨ x ∈ B) → RepFk c H G k d v T' → RepFk c' H' G' k d v T') → RepFk c' H' G' k d' v' T' → AllFk c' H' G' fk (ds.set j d') ((fs.map (·.2)).set j v') (A ++ T' ++ B) := by
  obtain ⟨C, dx, fs, cl', ns, ds, S', hv, hS, e3, hp, gC, hn, ha⟩ := st.ownO hk hd
  subst e3 hn
  have h' : (if cl' = cl ∧ (fs.map (·.1))[j]? = some f ∧ ((fs.map (·.1)).take j).contains f = false ∧ (fs.map (·.1)).length < 1000 then (match ds[j]? with
    | some d => R.ok d
    | none => .bad) else .bad) = .ok d := hf
  by_cases hc : cl' = cl ∧ (fs.map (·.1))[j]? = some f ∧ ((fs.map (·.1)).take j).contains f = false ∧ (fs.map (·.1)).length < 1000
  · rw [if_pos hc] at h'
    obtain ⟨e, h1, h2, h3⟩ := hc
    subst e
    cases hx : ds[j]? with
    | none => simp only [hx] at h'; cases h'
    | some x =>
      simp only [hx] at h'
      cases h'
      obtain ⟨v, T, A, B, g1, g2, g3, g4⟩ := ha.at hj hx
      obtain ⟨q1, q2⟩ := fld_at h1 h2 g1
      exact ⟨C, dx, fs, ds, v, T, A, B, hv, by rw [hS, g2], rfl, hp, gC, q1, by simpa using h3, g3, q2, g4⟩
  · rw [if_neg hc] at h'
    cases h'
theorem St.swapK {H' G' : Hp} {k' : Kd} {v : V} {d' : D} {S' : List Addr} (st : St c κ en σ H G Ss) (hi : i < κ.length) (hv : σ[i]? = some (some v)) (a : Adv (delS H (Ss i)) G G' H') (r : RepK c H' G' k' d' v S') (nd : S'.Nodup)
    (hS : ∀ q ∈ S', G' q = none ∧ delS H (Ss i) q = none ∧ ∃ o, H' q = some o) : St c (κ.set i k') (en.set i d') σ H' G' (fun j => if j = i then S' else Ss j) := by
  have hi2 : i < en.length := by rw [st.ln.2]; exact hi
  have hk : κ[i]? = some κ[i] := List.getElem?_eq_getElem hi
  obtain ⟨a1, a2, a3, a4⟩ := a
  have keep : ∀ {j : Nat} {x : Addr} {o : HO}, j ≠ i → x ∈ Ss j → H x = some o → delS H (Ss i) x = some o := fun {j x o} e hx ho => by
    rw [delS_out (fun z => st.dis j i x e hx z)]; exact ho
  have nB : ∀ b, delS H (Ss i) b = none → c.B b = none := fun b h => by
    rcases delS_none h with z | z
    · exact (st.own i b z).2.1
    · exact st.sB.free z
  refine ⟨by simpa using st.ln, fun j q hj hq => ?_, fun j x hx => ?_, fun j => ?_, fun j l x hjl hx hy => ?_, fun b o hb => ?_, st.sG.trans a2, a3, fun b o hb => ?_⟩
  · by_cases e : j = i
    · subst e
      rw [List.getElem?_set_self hi] at hj; cases hj
      exact ⟨v, d', hv, List.getElem?_set_self hi2, by rw [if_pos rfl]; exact r⟩
    · rw [List.getElem?_set_ne (Ne.symm e)] at hj
      obtain ⟨v', e', h1, h2, h3⟩ := st.slot j q hj hq
      refine ⟨v', e', h1, by rw [List.getElem?_set_ne (Ne.symm e)]; exact h2, ?_⟩
      rw [if_neg e]
      exact h3.at_ (fun x hx w hw => a1 _ _ (keep e hx hw)) a2
  · by_cases e : j = i
    · rw [if_pos e] at hx
      obtain ⟨z1, z2, z3⟩ := hS x hx
      exact ⟨z1, nB x z2, z3⟩
    · rw [if_neg e] at hx
      obtain ⟨h1, h2, w, h3⟩ := st.own j x hx
      have hd := keep e hx h3
      refine ⟨?_, h2, w, a1 _ _ hd⟩
      cases z : G' x with
      | none => rfl
      | some o =>
        rcases a4 x o z with y | y
        · rw [h1] at y; cases y
        · rw [hd] at y; cases y
  · by_cases e : j = i
    · rw [if_pos e]; exact nd
    · rw [if_neg e]; exact st.nd j
  · have cross : ∀ l, l ≠ i → x ∈ S' → x ∈ Ss l → False := fun l e z1 z2 => by
      obtain ⟨_, _, w, h3⟩ := st.own l x z2
      have := keep e z2 h3
      rw [(hS x z1).2.1] at this; cases this
    by_cases e : j = i
    · rw [if_pos e] at hx
      have e2 : l ≠ i := fun z => hjl (e.trans z.symm)
      rw [if_neg e2] at hy
      exact cross l e2 hx hy
    · rw [if_neg e] at hx
      by_cases e2 : l = i
      · rw [if_pos e2] at hy
        exact cross j e hy hx
      · rw [if_neg e2] at hy
        exact st.dis j l x hjl hx hy
  · have hb2 : b ∉ Ss i := fun z => by rw [(st.own i b z).2.1] at hb; cases hb
    exact a1 _ _ (by rw [delS_out hb2]; exact st.sB _ _ hb)
  · rcases a4 b o hb with y | y
    · exact st.new b o y
    · exact .inr (nB b y)
theorem Adv.del {G1 H1 H' : Hp} {S : List Addr} (a : Adv H G G1 H1) (h : ∀ b ∈ S, G1 b = none) (f : ∀ b, b ∉ S → ∀ o, H1 b = some o → H' b = some o) : Adv (delS H S) G G1 H' :=
  ⟨fun b o q => by
    have hb : b ∉ S := fun z => by rw [delS_in z] at q; cases q
    rw [delS_out hb] at q
    exact f b hb o (a.1 _ _ q), a.2.1, fun b o q => f b (fun z => by rw [h b z] at q; cases q) o (a.2.2.1 _ _ q), fun b o q => by
    rcases a.2.2.2 b o q with z | z
    · exact .inl z
    · by_cases hb : b ∈ S
      · exact .inr (delS_in hb)
      · exact .inr (by rw [delS_out hb]; exact z)⟩
end
inductive FkOf : RK → Fk → Prop where
  | f : FkOf .F .F
  | l : FkOf (.O (.L .F)) .L
  | ll : FkOf (.O (.L (.L .F))) .LL
theorem FkOf.get {c : Cf} {H0 H G : Hp} {rk : RK} {k : Fk} {d : D} {v : V} {S : List Addr} (h : FkOf rk k) (r : RV c H0 H G rk d v S) : RepFk c H G k d v S ∧ S.Nodup ∧ ∀ p ∈ S, H0 p = none ∧ G p = none ∧ ∃ o, H p = some o := by
  cases h with
  | f =>
    obtain ⟨r, e⟩ := r
    subst e
    exact ⟨⟨r, rfl⟩, .nil, fun p hp => (by cases hp)⟩
  | l => exact ⟨RepL.of_own r.1, r.2⟩
  | ll =>
    obtain ⟨⟨p, vs, ds, S', e1, e2, hc, ha⟩, r2⟩ := r
    exact ⟨⟨p, vs, ds, S', e1, e2, hc, ha.imp fun _ _ _ _ h => RepL.of_own h⟩, r2⟩
section
variable {X : Cx} {W : WX} {B G0 : Hp} {κ : List Kd} {en : List D} {e o : Expr} {rk : RK} {r : R D} {pos : Pos} {cl f : Str} {i j : Nat} {p : Addr} {fk : List Fk} {k : Fk} {d0 : D}
theorem pe_fldO (F : FldD X.K X.mg cl f) (q : PE X o (tVar i)) (hk : κ[i]? = some (.U (OMu p fk))) (hd : en[i]? = some d0) (hj : fk[j]? = some k) (hb : attributeBase o f X.env (eval o X.env) = eval o X.env) :
    PE X (.Attribute o f pos) (fun σ H Q => ∃ G Ss d, St (cf X B G0) κ en σ H G Ss ∧ fldJ cl f j d0 = .ok d ∧ ∀ C dx fs v T, H p = some (.ins C dx fs) → fs.lookup f = some v → RepFk (cf X B G0) H G k d v T → Q v H) :=
  ⟨PE.run <| PE.wk (pe_fld q hb) fun σ H Q ⟨G, Ss, d, st, hf, g⟩ => by
    obtain ⟨C, gC, cC, nC⟩ := F
    obtain ⟨C', dx, fs, ds, v, T, A, B', hv, hS, e0, hp, gC', hl, _, hr, _, _⟩ := st.fldAt hk hd hf hj
    have eC : C' = C := by
      have z := gC'.symm.trans gC
      injection z with z
      injection z
    subst eC
    exact ⟨_, hv, p, C', dx, fs, v, rfl, hp, cC, nC, hl, g C' dx fs v T hp hl hr⟩⟩
theorem mR.toF {c : Cf} {σ : L2.St} {H G : Hp} {α : Type} {g : D → R α} {Y : α → Hp → Hp → Prop} (m : mR W c σ H G Y ((fldJ cl f j d0).bind g)) : ∃ d, fldJ cl f j d0 = .ok d ∧ mR W c σ H G Y (g d) := by
  cases h : fldJ cl f j d0 with
  | bad => rw [h] at m; exact m.elim
  | exc x => exact (fldJ_nx h).elim
  | ok d => rw [h] at m; exact ⟨d, rfl, m⟩
theorem mR.toF0 {c : Cf} {σ : L2.St} {H G : Hp} {Y : D → Hp → Hp → Prop} (m : mR W c σ H G Y (fldJ cl f j d0)) : ∃ d, fldJ cl f j d0 = .ok d ∧ ∀ H' G', Adv H G G' H' → Y d H' G' := by
  cases h : fldJ cl f j d0 with
  | bad => rw [h] at m; exact m.elim
  | exc x => exact (fldJ_nx h).elim
  | ok d => rw [h] at m; exact ⟨d, rfl, m⟩
theorem ev_fldOF (F : FldD X.K X.mg cl f) (q : PE X e (tVar i)) (hk : κ[i]? = some (.U (OMu p fk))) (hd : en[i]? = some d0) (hj : fk[j]? = some .F) (hb : attributeBase e f X.env (eval e X.env) = eval e X.env := by rfl) : EV X W B G0 κ en (.Attribute e f pos) .F (fldJ cl f j d0) :=
  ⟨PE.wk (pe_fldO F q hk hd hj hb) fun σ H Q ⟨G, Ss, st, m⟩ => by
    obtain ⟨d, hf, m⟩ := m.toF0
    exact ⟨G, Ss, d, st, hf, fun C dx fs v T hp hl hr => m H G (.refl st.sH) v [] ⟨hr.1, rfl⟩⟩⟩
theorem ev_fldOP (F : FldD X.K X.mg cl f) (q : PE X e (tVar i)) (hk : κ[i]? = some (.U (OMu p fk))) (hd : en[i]? = some d0) (hj : fk[j]? = some k) (hb : attributeBase e f X.env (eval e X.env) = eval e X.env := by rfl) : EV X W B G0 κ en (.Attribute e f pos) .P (fldJ cl f j d0) :=
  ⟨PE.wk (pe_fldO F q hk hd hj hb) fun σ H Q ⟨G, Ss, st, m⟩ => by
    obtain ⟨d, hf, m⟩ := m.toF0
    exact ⟨G, Ss, d, st, hf, fun C dx fs v T hp hl hr => m H G (.refl st.sH) v [] ⟨hr.rep st.sH, rfl⟩⟩⟩
theorem ev_fldB (F : FldD X.K X.mg cl f) (h : EV X W B G0 κ en e .B r) (hb : attributeBase e f X.env (eval e X.env) = eval e X.env := by rfl) : EV X W B G0 κ en (.Attribute e f pos) .B (r.bind (pFld cl f)) :=
  ⟨PE.wk (pe_fld h.pe hb) fun σ H Q ⟨G, Ss, st, m⟩ => tEVb st m _ fun d v H1 G1 S _ a st1 rv m1 => by
    obtain ⟨C, gC, cC, nC⟩ := F
    cases d with
    | obj c ns xs =>
      have m2 : mR W (cf X B G0) σ H1 G1 (yV (cf X B G0) H1 .B Q) (if c = cl then lookF f ns xs else .bad) := m1
      by_cases ec : c = cl
      · rw [if_pos ec] at m2
        subst ec
        obtain ⟨⟨a, C', dx, fs, ev, hG, gC', hn, rs⟩, _⟩ := rv
        have eC : C' = C := by
          have z := gC'.symm.trans gC
          injection z with z
          injection z
        subst eC ev hn
        cases el : lookF f (fs.map (·.1)) xs with
        | bad => rw [el] at m2; exact m2.elim
        | exc x => exact (lookF_nx el).elim
        | ok d =>
          rw [el] at m2
          obtain ⟨v, e1, e2⟩ := lookF_ok el rs
          exact ⟨a, C', dx, fs, v, rfl, st1.sB _ _ hG, cC, nC, e1, m2 H1 G1 (.refl st1.sH) v [] ⟨e2, rfl⟩⟩
      · rw [if_neg ec] at m2; exact m2.elim
    | _ => exact m1.elim⟩
end
section
variable {α : Type} {X : Cx} {W : WX} {B G0 : Hp} {κ : List Kd} {en : List D} {e o ei : Expr} {rk ki : RK} {r ri : R D} {δ : DE α} {pos pos' sp : Pos} {rest : List Stmt} {cl f : Str} {d0 : D} {i j : Nat} {p : Addr} {fk : List Fk} {k : Fk}
theorem mS.toF {c : Cf} {Dn : Ends} {g : D → R α} (m : mS W c δ Dn ((fldJ cl f j d0).bind g)) : ∃ d, fldJ cl f j d0 = .ok d ∧ mS W c δ Dn (g d) := by
  cases h : fldJ cl f j d0 with
  | bad => rw [h] at m; exact m.elim
  | exc x => exact (fldJ_nx h).elim
  | ok d => rw [h] at m; exact ⟨d, rfl, m⟩
theorem sv_fldO {g : D → R α} (F : FldD X.K X.mg cl f) (q : PE X o (tVar i)) (he : EV X W B G0 κ en e rk r) (hr : ∀ d, SV X W B G0 (κ.set i (.U (OMu p (fk ++ [k])))) (en.set i d) rest δ (g d)) (hF : FkOf rk k) (hk : κ[i]? = some (.U (OMu p fk)) := by rfl) (hd : en[i]? = some d0 := by rfl)
    (hex : δ.ex κ en := by exact True.intro) (hs : swapsWith e (some (.Attribute o f pos')) pos.line X.env = pure false := by rfl) : SV X W B G0 κ en (.Assign [.Attribute o f pos'] e pos :: rest) δ (r.bind fun d => (putL cl f d d0).bind g) :=
  ⟨PSs.wk (pss_cons (ps_fld q he.pe hs) (PSs.all fun d => (hr d).ps)) fun Dn σ H ⟨G, Ss, st, m⟩ => ⟨G, Ss, st, mS.toR st m hex fun d H1 G1 a st1 m1 v S rv => by
    obtain ⟨C, gC, cC, nC⟩ := F
    obtain ⟨C', dx, fs, cl', ns, ds, S', hv, hS, e3, hp, gC', hn, ha⟩ := st1.ownO hk hd
    subst e3 hn
    have m2 : mS W (cf X B G0) δ Dn ((if cl' = cl ∧ (fs.map (·.1)).contains f = false ∧ (fs.map (·.1)).length = ds.length ∧ (fs.map (·.1)).length < 1000 then R.ok (D.obj cl' (fs.map (·.1) ++ [f]) (ds ++ [d])) else R.bad).bind g) := m1
    by_cases hc : cl' = cl ∧ (fs.map (·.1)).contains f = false ∧ (fs.map (·.1)).length = ds.length ∧ (fs.map (·.1)).length < 1000
    case neg =>
      rw [if_neg hc] at m2
      exact m2.elim
    rw [if_pos hc] at m2
    obtain ⟨ec, hc⟩ := hc
    subst ec
    have eC : C' = C := by
      have z := gC'.symm.trans gC
      injection z with z
      injection z
    subst eC
    have hi : i < κ.length := (List.getElem?_eq_some_iff.mp hk).1
    obtain ⟨rf, nd, hS1⟩ := hF.get rv
    have pm : p ∈ Ss i := by rw [hS]; exact List.mem_cons_self
    have own1 := st1.own
    have old : ∀ b ∈ Ss i, H b ≠ none := fun b hb z => by
      obtain ⟨_, _, o, ho⟩ := st.own i b hb
      rw [ho] at z; cases z
    have pS : p ∉ S := fun z => old p pm (hS1 p z).1
    have nd0 := st1.nd i
    rw [hS] at nd0
    obtain ⟨pn, nd1⟩ := List.nodup_cons.mp nd0
    refine ⟨_, hv, p, C', dx, fs, rfl, hp, cC, nC, by simpa using hc.2.2, D.obj cl' (fs.map (·.1) ++ [f]) (ds ++ [d]), G1, (fun l => if l = i then p :: (S' ++ S) else Ss l), ?_, m2⟩
    rw [putF_new hc.1]
    refine st.swapK (S' := p :: (S' ++ S)) hi hv (a.del (fun b hb => (own1 i b hb).1) fun b hb o ho => ?_) ?_ ?_ fun b hb => ?_
    · rw [upd_ne (fun z => hb (by rw [z]; exact pm))]
      exact ho
    · refine ⟨C', dx, fs ++ [(f, v)], cl', _, _, S' ++ S, rfl, rfl, rfl, upd_same, gC, by simp, ?_⟩
      rw [List.map_append]
      refine AllFk.snoc (ha.imp fun k d v T hT h => h.at_ (fun x hx o ho => ?_) (.refl _)) (rf.at_ (fun x hx o ho => ?_) (.refl _))
      · rw [upd_ne (fun z => pn (by rw [← z]; exact hT x hx))]
        exact ho
      · rw [upd_ne (fun z => pS (by rw [← z]; exact hx))]
        exact ho
    · refine List.nodup_cons.mpr ⟨fun hm => ?_, List.nodup_append.mpr ⟨nd1, nd, fun b hb b' hb' z => ?_⟩⟩
      · rcases List.mem_append.mp hm with z | z
        · exact pn z
        · exact pS z
      · subst z
        exact old b (by rw [hS]; exact List.mem_cons_of_mem _ hb) (hS1 b hb').1
    · have any : ∀ x, (∃ o, H1 x = some o) → ∃ o, (upd H1 p (.ins C' dx (fs ++ [(f, v)]))) x = some o := fun x ⟨w, hw⟩ => by
        by_cases e : x = p
        · subst e; exact ⟨_, upd_same⟩
        · exact ⟨w, by rw [upd_ne e]; exact hw⟩
      have inOld : b ∈ Ss i → G1 b = none ∧ delS H (Ss i) b = none ∧ ∃ o, (upd H1 p (.ins C' dx (fs ++ [(f, v)]))) b = some o := fun z => ⟨(own1 i b z).1, delS_in z, any b (own1 i b z).2.2⟩
      rcases List.mem_cons.mp hb with z | z
      · exact inOld (by rw [z]; exact pm)
      · rcases List.mem_append.mp z with z | z
        · exact inOld (by rw [hS]; exact List.mem_cons_of_mem _ z)
        · obtain ⟨z1, z2, z3⟩ := hS1 b z
          refine ⟨z2, ?_, any b z3⟩
          rw [delS_out (fun y => old b y z1)]
          exact z1⟩⟩
theorem sv_thawO {sts : List Stmt} {s : R α} (hk : κ[i]? = some (.I p)) (hd : en[i]? = some (.obj cl [] [])) (h : SV X W B G0 (κ.set i (.U (OMu p []))) en sts δ s) : SV X W B G0 κ en sts δ s :=
  ⟨PSs.wk h.ps fun Dn σ H ⟨G, Ss, st, m⟩ => by
    have hi : i < κ.length := (List.getElem?_eq_some_iff.mp hk).1
    refine ⟨G, Ss, ⟨by simpa using st.ln, fun l q hl hq => ?_, st.own, st.nd, st.dis, st.sB, st.sG, st.sH, st.new⟩, m⟩
    by_cases e : l = i
    · subst e
      rw [List.getElem?_set_self hi] at hl
      cases hl
      obtain ⟨v, d', h1, h2, C, dx, fs, cl', ns, ds, e1, e2, e3, hp, gC, hn, rs⟩ := st.slot l _ hk (by intro z; cases z)
      rw [hd] at h2
      cases h2
      cases e3
      have ef : fs = [] := by
        cases fs with
        | nil => rfl
        | cons x xs => simp at hn
      subst ef
      exact ⟨v, _, h1, hd, C, dx, [], cl, [], [], [], e1, e2, rfl, hp, gC, rfl, rfl, rfl⟩
    · rw [List.getElem?_set_ne (Ne.symm e)] at hl
      exact st.slot l q hl hq⟩
theorem St.putFld {c : Cf} {σ : L2.St} {H G H1 G1 H' G' : Hp} {Ss : Nat → List Addr} {v : V} {d d' : D} {T A Bs T' : List Addr} {C dx : Addr} {fs : List (Str × V)} {ds : List D} (st : St c κ en σ H G Ss) (hk : κ[i]? = some (.U (OMu p fk))) (hv : σ[i]? = some (some (.ref p))) (hS : Ss i = p :: (A ++ T ++ Bs)) (hp : H' p = some (.ins C dx fs)) (gC : c.mg cl = some (.ref C))
    (put : AllFk c H' G' fk (ds.set j d') (fs.map (·.2)) (A ++ T' ++ Bs)) (a : Adv (delS H (Ss i)) G G' H') (nd : (p :: (A ++ T' ++ Bs)).Nodup) (hN : ∀ q ∈ p :: (A ++ T' ++ Bs), G' q = none ∧ delS H (Ss i) q = none ∧ ∃ o, H' q = some o) :
    St c κ (en.set i (.obj cl (fs.map (·.1)) (ds.set j d'))) σ H' G' (fun l => if l = i then p :: (A ++ T' ++ Bs) else Ss l) :=
  st.swapW hk hv a ⟨C, dx, fs, cl, _, _, _, rfl, rfl, rfl, hp, gC, rfl, put⟩ nd hN
theorem St.putFld1 {c : Cf} {σ : L2.St} {H G : Hp} {Ss : Nat → List Addr} {v : V} {d d' : D} {a : Addr} {ho : HO} {C dx : Addr} {fs : List (Str × V)} (st : St c κ en σ H G Ss) (hk : κ[i]? = some (.U (OMu p fk))) (hd : en[i]? = some d0) (hf : fldJ cl f j d0 = .ok d) (hj : fk[j]? = some k) (hp : H p = some (.ins C dx fs)) (hl : fs.lookup f = some v)
    (ha : ∀ T, RepFk c H G k d v T → a ∈ T ∧ RepFk c (upd H a ho) G k d' v T) : St c κ (en.set i (setJ j d' d0)) σ (upd H a ho) G Ss := by
  obtain ⟨C0, dx0, fs0, ds, v0, T, A, Bs, hv, hS, e0, hp0, gC, hl0, _, hr, _, put⟩ := st.fldAt hk hd hf hj
  rw [hp] at hp0
  cases hp0
  rw [hl] at hl0
  cases hl0
  obtain ⟨am, hr2⟩ := ha T hr
  have vset : (fs.map (·.2)).set j v = fs.map (·.2) := by
    rw [e0] at hf
    have h' : (if cl = cl ∧ (fs.map (·.1))[j]? = some f ∧ ((fs.map (·.1)).take j).contains f = false ∧ (fs.map (·.1)).length < 1000 then (match ds[j]? with
      | some d => R.ok d
      | none => .bad) else .bad) = .ok d := hf
    by_cases hc : cl = cl ∧ (fs.map (·.1))[j]? = some f ∧ ((fs.map (·.1)).take j).contains f = false ∧ (fs.map (·.1)).length < 1000
    · obtain ⟨_, h1, h2, _⟩ := hc
      have hjl : j < fs.length := by
        have := (List.getElem?_eq_some_iff.mp h1).1
        simpa using this
      have hw : (fs.map (·.2))[j]? = some (fs[j].2) := by
        rw [List.getElem?_map, List.getElem?_eq_getElem hjl]
        rfl
      have z := (fld_at h1 h2 hw).1
      rw [hl] at z
      cases z
      apply List.ext_getElem?
      intro l
      by_cases e : l = j
      · subst e
        rw [List.getElem?_set_self (by simpa using hjl), hw]
      · rw [List.getElem?_set_ne (Ne.symm e)]
    · rw [if_neg hc] at h'
      cases h'
  subst e0
  have nd0 := st.nd i
  rw [hS] at nd0
  obtain ⟨pn, nd1⟩ := List.nodup_cons.mp nd0
  have ap : a ≠ p := fun z => pn (by rw [← z]; simp [am])
  have aS : a ∈ Ss i := by rw [hS]; simp [am]
  refine st.put hk (by intro z; cases z) aS hv ?_
  rw [hS]
  have nd2 := nd1
  rw [List.nodup_append, List.nodup_append] at nd2
  have z := put c (upd H a ho) G d' v T (fun k d v T' hT h => h.at_ (fun x hx o hxo => by
    have : x ≠ a := fun z => by
      subst z
      rcases hT x hx with y | y
      · exact nd2.1.2.2 x y x am rfl
      · exact nd2.2.2 x (by simp [am]) x y rfl
    rw [upd_ne this]; exact hxo) (.refl _)) hr2
  rw [vset] at z
  exact ⟨C, dx, fs, cl, _, _, _, rfl, rfl, rfl, by rw [upd_ne (Ne.symm ap)]; exact hp, gC, rfl, z⟩
end
end Lw
namespace Lw
open PySem PySem.Spec PyProof.Rows L2
def pDivmod : List D → R D
  | [.int a, .int b] => if 0 < b ∧ b.natAbs.log2 < 9000 then .ok (.tup [.int (a / b), .int (a % b)]) else .bad
  | _ => .bad
theorem bf_divmod {K : PySem.W.Frag} {mg : Str → Option Value} : BfD K mg (fun xs H Q => ∃ i j, xs = [.int i, .int j] ∧ CDivP i j ∧ ∀ p, H p = none → Q (.ref p) (upd H p (.tup [.int (i / j), .int (i % j)]))) [.B, .B] .F pDivmod := by
  intro W B G0 κ en σ H G Ss Q ds vs st args m
  obtain ⟨d, v, d2, v2, rfl, rfl, r, r2⟩ := args.two
  cases d with
  | int a =>
    cases d2 with
    | int b =>
      cases (show v = V.int a from r)
      cases (show v2 = V.int b from r2)
      have m2 : mR W ⟨K, mg, B, G0⟩ σ H G (yV ⟨K, mg, B, G0⟩ H .F Q) (if 0 < b ∧ b.natAbs.log2 < 9000 then .ok (.tup [.int (a / b), .int (a % b)]) else .bad) := m
      by_cases hc : 0 < b ∧ b.natAbs.log2 < 9000
      · rw [if_pos hc] at m2
        refine ⟨a, b, rfl, ⟨hc.1, ?_⟩, fun p hp => ?_⟩
        · exact PyProof.noPylong_of_log2 hc.2
        · have a1 := Adv.newF (o := .tup [.int (a / b), .int (a % b)]) st.sH hp
          exact m2 _ _ a1 (.ref p) [] ⟨⟨p, _, rfl, SqT.of upd_same, .cons rfl (.cons rfl .nil)⟩, rfl⟩
      · rw [if_neg hc] at m2
        exact m2.elim
    | _ => exact m.elim
  | _ => cases d2 <;> exact m.elim
end Lw
namespace Lw
open PySem PySem.Spec PyProof.Rows L2
theorem St.ownW {c : Cf} {κ : List Kd} {en : List D} {σ : L2.St} {H G : Hp} {Ss : Nat → List Addr} {i : Nat} {p : Addr} {d : D} (s : St c κ en σ H G Ss) (hk : κ[i]? = some (.U (lentL.u p))) (he : en[i]? = some d) :
    ∃ vs ds, σ[i]? = some (some (.ref p)) ∧ Ss i = [p] ∧ Cont H p d ds vs ∧ Reps c.K c.mg G ds vs := by
  obtain ⟨v, d1, h1, h2, e0, q, vs, ds, e1, e2, hc, r⟩ := s.slot i _ hk (by intro z; cases z)
  rw [he] at h2; cases h2
  subst e0
  cases e1
  exact ⟨vs, ds, h1, e2, hc, r⟩
theorem LMu.mk {c : Cf} {H G : Hp} {p : Addr} {d : D} {ds : List D} {vs : List V} (hc : Cont H p d ds vs) (r : Reps c.K c.mg G ds vs) : RepK c H G (.U (lentL.u p)) d (.ref p) [p] := ⟨rfl, p, vs, ds, rfl, rfl, hc, r⟩
section
variable {X : Cx} {W : WX} {B G0 : Hp} {κ : List Kd} {en : List D} {e : Expr} {d : D} {i : Nat} {p : Addr}
end
section
variable {α : Type} {X : Cx} {W : WX} {B G0 : Hp} {κ : List Kd} {en : List D} {e : Expr} {k ki : RK} {r ri : R D} {δ : DE α} {pos : Pos} {rest : List Stmt} {d0 : D} {pM : Addr}
theorem sv_setIW {i : Nat} {x : Str} {px sp : Pos} {ei : Expr} {f : D → R α} (p : PE X (.Name x px) (tVar i)) (he : EV X W B G0 κ en e .F r) (hi : EV X W B G0 κ en ei ki ri) (hr : ∀ d, SV X W B G0 κ (en.set i d) rest δ (f d)) (hk : κ[i]? = some (.U (lentL.u pM)) := by rfl) (hd : en[i]? = some d0 := by rfl)
    (hex : δ.ex κ en := by exact True.intro)
    (ha : ∀ v, assign (.Subscript (.Name x px) ei sp) X.env v = (do
      let ov ← holding [v] (eval (.Name x px) X.env)
      let iv ← holding [v, ov] (eval ei X.env)
      standAt sp
      holding [v, ov, iv] (setItem ov iv v)
      release [v, ov, iv] []) := by intro _; rfl)
    (hs : swapsWithSole [.Subscript (.Name x px) ei sp] e pos.line X.env = pure false := by rfl) (hw : swappedStores [.Subscript (.Name x px) ei sp] e X.env = pure none := by rfl) (h1 : (assignEach [.Subscript (.Name x px) ei sp] X.env).map (·.2) = [assign (.Subscript (.Name x px) ei sp) X.env] := by rfl) :
    SV X W B G0 κ en (.Assign [.Subscript (.Name x px) ei sp] e pos :: rest) δ (r.bind fun d => (toL d0).bind fun xs => ri.bind fun j => (setL1 xs j d).bind f) :=
  ⟨PSs.wk (pss_cons (ps_asg he.pe (pg_sub p hi.pe set_list ha) hs hw h1) (PSs.all fun d => (hr d).ps)) fun Dn σ H ⟨G, Ss, st, m⟩ => ⟨G, Ss, st, mS.toR st m hex fun d H1 G1 a st1 m1 v S rv => by
    obtain ⟨vs, ds, hv, hS, hc, rs⟩ := st1.ownW hk hd
    cases d0 with
    | lst xs =>
      cases hc with
      | lst hp =>
        refine ⟨_, hv, G1, Ss, st1, mS.toR st1 m1 hex fun j H2 G2 a2 st2 m2 w S2 rv2 => ?_⟩
        have hp2 := a2.1 _ _ hp
        have rj := st2.rd rv2
        cases j with
        | int q =>
          have m3 : mS W (cf X B G0) δ Dn ((match ixN ds.length q with
            | some j => (R.ok (.lst (ds.set j d)) : R D)
            | none => R.bad).bind f) := m2
          cases ej : ixN ds.length q with
          | none => rw [ej] at m3; exact m3.elim
          | some j =>
            rw [ej] at m3
            refine ⟨pM, vs, q, j, rfl, rj, hp2, by rw [← rs.length]; exact ej, .lst (ds.set j d), G2, Ss, ?_, m3⟩
            exact st2.put hk (by intro z; cases z) (by rw [hS]; exact List.mem_cons_self) hv (by
              rw [hS]
              exact LMu.mk (.lst upd_same) ((rs.mono a2.2.1).set j (rv.1.mono a2.2.1)))
        | _ => exact m2.elim
    | _ => exact m1.elim⟩⟩
end
end Lw
namespace Lw
open PySem PySem.Spec PyProof.Rows L2
def spO (K : PySem.W.Frag) (mg : Str → Option Value) (fk : List Fk) (cl : Str) (pk : List PK) (f : List D → R D) : Sp := fun vs H Q E =>
  ∃ G ds p C dx ws, vs = .ref p :: ws ∧ H p = some (.ins C dx []) ∧ mg cl = some (.ref C) ∧ Same G (delH H p) ∧ ArgsR K mg (delH H p) G pk ds ws ∧
    mR (fun cv xd _ H' => E cv xd H') ⟨K, mg, delH H p, G⟩ [] (delH H p) G (fun d H' G' => ∀ S', RepO ⟨K, mg, delH H p, G⟩ H' G' p fk d (.ref p) S' → S'.Nodup → (∀ q ∈ S', G' q = none ∧ delH H p q = none ∧ ∃ o, H' q = some o) → Q .non H') (f ds)
def dIniO (p : Addr) (fk : List Fk) : DE D := ⟨fun κ en a => κ[0]? = some (.U (OMu p fk)) ∧ en[0]? = some a, fun _ _ _ => False, fun _ _ => True, fun _ _ _ => False, fun _ _ _ => False⟩
def MkO (P : Program) (w : World) (K : PySem.W.Frag) (mg : Str → Option Value) (base : Heap) (k : Nat) (cl : Str) (fk : List Fk) (pk : List PK) (f : List D → R D) : Prop :=
  ∃ C fi fd ps, mg cl = some (.ref C) ∧ Mk K C fi ∧ Binds K fd ps [] ∧ FnOk P w K mg base (L2.CX P w) k fi fd ps (spO K mg fk cl pk f)
section
variable {P : Program} {w : World} {K : PySem.W.Frag} {mg : Str → Option Value} {base : Heap}
theorem fo_ok {x qual cl : Str} {params : Arguments} {body : List Stmt} {sc : Scope} {fa : Addr} {fd : FuncData} {N ps : List Str} {k : Nat} {pk : List PK} {fk : List Fk} (m : Nat) {f : List D → R D} (F : FunD K x qual params body sc [] [] fa fd) (S : FnScope N ps sc) (hl : ps.length = pk.length + 1) (hN : N.length = pk.length + 1 + m)
    (hb : ∀ (cdv : Value) (A : Around) (outer : List Env) (s : Shared) (H B : Hp) (p : Addr) (E : XK) (G : Hp) (ds : List D), Room k (A.deeper (envOfC qual sc s.heap.objs.size fa cdv)) → ds.length = pk.length →
      SV (cxOf (L2.CX P w) P w K mg base N qual sc fa cdv A outer s H E) (fun cv xd _ H' => E cv xd H') B G (.I p :: (pkK pk ++ List.replicate m .N)) (.obj cl [] [] :: (ds ++ List.replicate m .non)) body (dIniO p fk) (f ds)) :
    FnOk P w K mg base (L2.CX P w) (k + 1) fa fd ps (spO K mg fk cl pk f) := by
  refine F.ok S (fun vs H Q E ⟨G, ds, p, C, dx, ws, e, _, _, _, rs, _⟩ => ?_) (fun cdv A outer s H vs Q E hr ⟨G, ds, p, C, dx, ws, e, hp, gC, sG, rs, mm⟩ => ?_)
  · subst e
    obtain ⟨l1, l2⟩ := rs.length
    simp
    omega
  · subst e
    obtain ⟨l1, l2⟩ := rs.length
    have hn : ds.length = pk.length := l1.symm
    have sH : Same G H := sG.trans delH_sub
    have gp : G p = none := by
      cases q : G p with
      | none => rfl
      | some o =>
        have z := sG _ _ q
        rw [delH_same] at z
        cases z
    have hw : ws.length = pk.length := by omega
    have st : St ⟨K, mg, delH H p, G⟩ (.I p :: (pkK pk ++ List.replicate m .N)) (.obj cl [] [] :: (ds ++ List.replicate m .non)) (L2.start N (.ref p :: ws)) H G (fun i => if i = 0 then [p] else []) := by
      refine ⟨⟨?_, ?_⟩, fun i k hk hne => ?_, fun i q hq => ?_, fun i => ?_, fun i j q hij h1 h2 => ?_, delH_sub, .refl _, sH, fun _ _ h => .inl h⟩
      · unfold L2.start
        simp [pkK]
        omega
      · simp [hn, pkK]
      · cases i with
        | zero =>
          have e : Kd.I p = k := by simpa using hk
          subst e
          exact ⟨.ref p, _, rfl, rfl, C, dx, [], cl, [], [], rfl, rfl, rfl, hp, gC, rfl, .nil⟩
        | succ j =>
          have hk' : (pkK pk ++ List.replicate m Kd.N)[j]? = some k := by simpa using hk
          rcases Nat.lt_or_ge j pk.length with hj | hj
          · rw [List.getElem?_append_left (by simpa [pkK] using hj)] at hk'
            unfold pkK at hk'
            rw [List.getElem?_map] at hk'
            cases eb : pk[j]? with
            | none => rw [eb] at hk'; cases hk'
            | some b =>
              rw [eb] at hk'
              have e : b.kd = k := by simpa using hk'
              subst e
              obtain ⟨v, d, e1, e2, e3⟩ := rs.get eb
              refine ⟨v, d, ?_, ?_, ?_⟩
              · unfold L2.start
                rw [List.getElem?_append_left (by simp; omega)]
                simp [e1]
              · rw [List.getElem?_cons_succ, List.getElem?_append_left (by omega)]
                exact e2
              · rw [if_neg (Nat.succ_ne_zero j)]
                cases b with
                | F => exact ⟨e3, rfl⟩
                | B => exact ⟨e3, rfl⟩
                | E => exact ⟨e3, rfl⟩
          · rw [List.getElem?_append_right (by simpa [pkK] using hj)] at hk'
            have e := List.eq_of_mem_replicate (List.mem_of_getElem? hk')
            exact absurd e hne
      · by_cases e : i = 0
        · rw [if_pos e] at hq
          have e2 : q = p := by simpa using hq
          subst e2
          exact ⟨gp, delH_same, _, hp⟩
        · rw [if_neg e] at hq
          cases hq
      · by_cases e : i = 0
        · rw [if_pos e]; simp
        · rw [if_neg e]; exact List.Pairwise.nil
      · by_cases e : i = 0
        · by_cases e2 : j = 0
          · exact hij (by rw [e, e2])
          · rw [if_neg e2] at h2; cases h2
        · rw [if_neg e] at h1; cases h1
    refine ⟨_, (hb cdv A outer s H (delH H p) p E G ds hr hn).ps, G, _, st, ?_⟩
    cases hf : f ds with
    | bad => rw [hf] at mm; exact mm.elim
    | exc x =>
      rw [hf] at mm
      exact fun cv xd κ en σ H' G' Ss st _ hv => mm cv xd H' G' st.adv0 hv
    | ok d =>
      rw [hf] at mm
      refine ⟨fun κ en σ H' G' Ss st ⟨e1, e2⟩ => ?_, fun _ _ _ _ _ _ _ _ z => z.elim, fun _ _ _ _ _ _ _ z => z.elim, fun _ _ _ _ _ _ _ z => z.elim⟩
      obtain ⟨v, d', h1, h2, h3⟩ := st.slot 0 _ e1 (by intro z; cases z)
      rw [e2] at h2
      cases h2
      have ev : v = .ref p := (lentO fk).root (p := p) h3 |>.1
      subst ev
      exact mm H' G' st.adv0 (Ss 0) h3 (st.nd 0) fun q hq => st.own 0 q hq
end
section
variable {X : Cx} {W : WX} {B G0 : Hp} {κ : List Kd} {en : List D} {e : Expr} {es : List Expr} {rs : R (List D)} {f : List D → R D} {pk : List PK} {k : Nat} {cl : Str} {fk : List Fk} {p pos : Pos}
theorem ev_makeO (F : MkO X.prog X.w X.K X.mg X.base k cl fk pk f) (hr : Room (k + 1) X.A) (tk : Takes X W) (ha : EA X W B G0 κ en (e :: es) pk rs) (hg : Gl X cl := by rfl) (hdb : (cl == ("__debug__" : Str)) = false := by decide)
    (he : starEach (e :: es) X.env = (false, eval e X.env) :: starEach es X.env := by rfl) (hpl : (backTo pos (starEach es X.env)).any (·.1) = false := by rfl) : EV X W B G0 κ en (.Call (.Name cl p) (e :: es) [] pos) (.O (.U (OBu fk))) (rs.bind f) := by
  obtain ⟨C, fi, fd, ps, gC, M, hb, F⟩ := F
  exact ⟨PE.wk (pe_makeS M F hr hg gC hb (fun σ => passAt tk σ) ha.pa hdb he hpl) fun σ H Q ⟨G, Ss, st, m⟩ => ⟨G, Ss, st, m.thn fun ds H1 G1 a m vs args x dx hx hdx ne => by
    have sG := a.2.2.1
    have hx1 : upd H1 dx (.own x) x = none := by rw [upd_ne (Ne.symm ne)]; exact hx
    have eD : delH (upd (upd H1 dx (.own x)) x (.ins C dx [])) x = upd H1 dx (.own x) := delH_new hx1
    have a1 : Adv H1 G1 G1 (upd H1 dx (.own x)) := Adv.newO sG hdx
    refine ⟨G1, ds, x, C, dx, vs, rfl, upd_same, gC, by rw [eD]; exact a1.2.2.1, by rw [eD]; exact args.adv a1.1 (.refl _), ?_⟩
    rw [eD]
    cases hf : f ds with
    | bad => rw [hf] at m; exact m.elim
    | exc y =>
      rw [hf] at m
      exact fun cv xd H' G' b hv => m cv xd H' G' (a1.trans b) hv
    | ok d =>
      rw [hf] at m
      intro H' G' b S' hO nd hS
      refine ⟨rfl, m H' G' (a1.trans b) (.ref x) S' ⟨⟨x, hO.cf⟩, nd, fun q hq => ?_⟩⟩
      obtain ⟨z1, z2, z3⟩ := hS q hq
      refine ⟨?_, z1, z3⟩
      cases hq0 : H q with
      | none => rfl
      | some o =>
        have := a1.1 _ _ (a.1 _ _ hq0)
        rw [z2] at this
        cases this⟩⟩
end
section
variable {α : Type} {X : Cx} {W : WX} {B G0 : Hp} {κ : List Kd} {en : List D} {e o ei : Expr} {rk ki : RK} {r ri : R D} {δ : DE α} {pos pos' sp ap cp : Pos} {rest : List Stmt} {cl f : Str} {d0 : D} {i j : Nat} {p : Addr} {fk : List Fk} {k : Fk}
theorem sv_augO {op : Operator} {rr : R2} {fo : D → D → R D} {g : D → R α} (hop : InOp X op rr) (hf : OpD X.K X.mg rr .F fo) (F : FldD X.K X.mg cl f) (q : PE X o (tVar i)) (he : EV X W B G0 κ en e rk r) (hr : ∀ d, SV X W B G0 κ (en.set i d) rest δ (g d)) (hk : κ[i]? = some (.U (OMu p fk)) := by rfl) (hd : en[i]? = some d0 := by rfl) (hj : fk[j]? = some .F := by rfl)
    (hex : δ.ex κ en := by exact True.intro) :
    SV X W B G0 κ en (.AugAssign (.Attribute o f pos') op e pos :: rest) δ ((fldJ cl f j d0).bind fun x => r.bind fun y => (fo x y).bind fun z => (R.ok (setJ j z d0)).bind g) :=
  ⟨PSs.wk (pss_cons (ps_fldaug q he.pe hop) (PSs.all fun d => (hr d).ps)) fun Dn σ H ⟨G, Ss, st, m⟩ => by
    obtain ⟨x, hfx, m1⟩ := m.toF
    obtain ⟨C, gC, cC, nC⟩ := F
    obtain ⟨C', dx, fs, ds, v, T, A, Bs, hv, hS, e0, hp, gC', hl, hlen, hrp, _, put⟩ := st.fldAt hk hd hfx hj
    have eC : C' = C := by
      have z := gC'.symm.trans gC
      injection z with z
      injection z
    subst eC
    refine ⟨_, hv, p, C', dx, fs, v, rfl, hp, cC, nC, hl, G, Ss, st, mS.toR st m1 hex fun y H1 G1 a st1 m2 w S rv => ?_⟩
    have r0 : Rep X.K X.mg H1 x v := (hrp.rep st.sH).mono a.1
    refine hf W B G0 κ en σ H1 _ x y v w r0 (st1.rd rv) ⟨G1, Ss, st1, mS.toR st1 m2 hex fun z H2 G2 a2 st2 m3 v2 S2 rv2 => ?_⟩
    obtain ⟨C2, dx2, fs2, ds2, v3, T2, A2, B2, hv2, hS2, e02, hp2, gC2, hl2, hlen2, hrp2, pf, put2⟩ := st2.fldAt hk hd hfx hj
    have hpp : H2 p = some (.ins C' dx fs) := a2.1 _ _ (a.1 _ _ hp)
    rw [hp2] at hpp
    cases hpp
    refine ⟨dx, fs, hp2, hlen2, setJ j z d0, G2, Ss, ?_, m3⟩
    have eT : T2 = [] := hrp2.2
    subst eT
    have pm : p ∈ Ss i := by rw [hS2]; exact List.mem_cons_self
    have nd := st2.nd i
    rw [hS2] at nd
    have pn := (List.nodup_cons.mp nd).1
    obtain ⟨w1, w2⟩ := pf v2
    refine st2.put hk (by intro z; cases z) pm hv ?_
    subst e02
    refine ⟨C', dx, putF f v2 fs, cl, _, _, A2 ++ [] ++ B2, rfl, hS2, rfl, upd_same, gC', w1, ?_⟩
    rw [w2]
    exact put2 _ _ _ z v2 [] (fun k d v T' hT h => h.at_ (fun x hx o ho => by
      rw [upd_ne (fun z => pn (by
        rw [← z]
        rcases hT x hx with y | y <;> simp [y]))]
      exact ho) (.refl _)) ⟨rv2.1, rfl⟩⟩
theorem sv_setIO {g : D → R α} (F : FldD X.K X.mg cl f) (q : PE X o (tVar i)) (he : EV X W B G0 κ en e .F r) (hi : EV X W B G0 κ en ei ki ri) (hr : ∀ d, SV X W B G0 κ (en.set i d) rest δ (g d)) (hk : κ[i]? = some (.U (OMu p fk)) := by rfl) (hd : en[i]? = some d0 := by rfl) (hj : fk[j]? = some .L := by rfl)
    (hex : δ.ex κ en := by exact True.intro) (hb : attributeBase o f X.env (eval o X.env) = eval o X.env := by rfl)
    (ha : ∀ v, assign (.Subscript (.Attribute o f pos') ei sp) X.env v = (do
      let ov ← holding [v] (eval (.Attribute o f pos') X.env)
      let iv ← holding [v, ov] (eval ei X.env)
      standAt sp
      holding [v, ov, iv] (setItem ov iv v)
      release [v, ov, iv] []) := by intro _; rfl)
    (hs : swapsWithSole [.Subscript (.Attribute o f pos') ei sp] e pos.line X.env = pure false := by rfl) (hw : swappedStores [.Subscript (.Attribute o f pos') ei sp] e X.env = pure none := by rfl) (h1 : (assignEach [.Subscript (.Attribute o f pos') ei sp] X.env).map (·.2) = [assign (.Subscript (.Attribute o f pos') ei sp) X.env] := by rfl) :
    SV X W B G0 κ en (.Assign [.Subscript (.Attribute o f pos') ei sp] e pos :: rest) δ (r.bind fun d => (fldJ cl f j d0).bind fun x => (toL x).bind fun xs => ri.bind fun jj => (setL1 xs jj d).bind fun y => (R.ok (setJ j y d0)).bind g) :=
  ⟨PSs.wk (pss_cons (ps_asg he.pe (pg_sub (pe_fldO F q hk hd hj hb) hi.pe set_list ha) hs hw h1) (PSs.all fun d => (hr d).ps)) fun Dn σ H ⟨G, Ss, st, m⟩ => ⟨G, Ss, st, mS.toR st m hex fun d H1 G1 a st1 m1 v S rv => by
    obtain ⟨x, hf, m2⟩ := m1.toF
    refine ⟨G1, Ss, x, st1, hf, fun C dx fs w T hp hl hrep => ?_⟩
    obtain ⟨b, vs, es, e1, e2, hc, rs⟩ := hrep
    subst e1 e2
    cases x with
    | lst xs =>
      cases hc with
      | lst hb1 =>
        refine ⟨G1, Ss, st1, mS.toR st1 m2 hex fun jj H2 G2 a2 st2 m3 u S2 rv2 => ?_⟩
        have hb2 := a2.1 _ _ hb1
        have rj := st2.rd rv2
        cases jj with
        | int q =>
          have m4 : mS W (cf X B G0) δ Dn ((match ixN es.length q with
            | some j => (R.ok (.lst (es.set j d)) : R D)
            | none => R.bad).bind fun y => g (setJ j y d0)) := m3
          cases ej : ixN es.length q with
          | none => rw [ej] at m4; exact m4.elim
          | some n =>
            rw [ej] at m4
            refine ⟨b, vs, q, n, rfl, rj, hb2, by rw [← rs.length]; exact ej, setJ j (.lst (es.set n d)) d0, G2, Ss, ?_, m4⟩
            refine st2.putFld1 hk hd hf hj (a2.1 _ _ hp) hl fun T ⟨b', vs', es', z1, z2, z3, z4⟩ => ?_
            cases z1
            subst z2
            refine ⟨by simp, b, _, _, rfl, rfl, .lst upd_same, (rs.mono a2.2.1).set n (rv.1.mono a2.2.1)⟩
        | _ => exact m3.elim
    | _ => exact m2.elim⟩⟩
theorem sv_appO {g : D → R α} (F : FldD X.K X.mg cl f) (q : PE X o (tVar i)) (he : EV X W B G0 κ en e .F r) (hr : ∀ d, SV X W B G0 κ (en.set i d) rest δ (g d)) (hk : κ[i]? = some (.U (OMu p fk)) := by rfl) (hd : en[i]? = some d0 := by rfl) (hj : fk[j]? = some .L := by rfl)
    (hex : δ.ex κ en := by exact True.intro) (hb : attributeBase o f X.env (eval o X.env) = eval o X.env := by rfl) (hs : swapsWith (.Call (.Attribute (.Attribute o f pos') "append" ap) [e] [] cp) none pos.line X.env = pure false := by rfl)
    (hbase : attributeBase (.Attribute o f pos') "append" X.env (eval (.Attribute o f pos') X.env) = eval (.Attribute o f pos') X.env := by rfl)
    (hfew : ((backTo cp (starEach [e] X.env)).all (fun x => !x.1) && (backToKw cp (keywordEach [] X.env)).all (fun x => x.1.isSome) && decide ([e].length + ([] : List Keyword).length + (if ([] : List Keyword).isEmpty then 0 else 1) < 30)) = true := by rfl)
    (hline : (ap.endLine == cp.line) = true := by rfl) (hst : starEach [e] X.env = (false, eval e X.env) :: starEach [] X.env := by rfl) (hpl : (backTo cp (starEach [] X.env)).any (·.1) = false := by rfl) :
    SV X W B G0 κ en (.Expr (.Call (.Attribute (.Attribute o f pos') "append" ap) [e] [] cp) pos :: rest) δ ((fldJ cl f j d0).bind fun x => (toL x).bind fun xs => r.bind fun d => (appL xs d).bind fun y => (R.ok (setJ j y d0)).bind g) :=
  ⟨PSs.wk (pss_cons (ps_expr (pe_bm PySem.F.plainAttrs_list PySem.F.slot_list_append PySem.F.type_list_append mt_append (pe_fldO F q hk hd hj hb) (pa_cons he.pe pa_nil hst) hbase hfew hline hst hpl) hs) (PSs.all fun d => (hr d).ps)) fun Dn σ H ⟨G, Ss, st, m⟩ => by
    obtain ⟨x, hf, m2⟩ := m.toF
    refine ⟨G, Ss, x, st, hf, fun C dx fs w T hp hl hrep => ?_⟩
    obtain ⟨b, vs, es, e1, e2, hc, rs⟩ := hrep
    subst e1 e2
    cases x with
    | lst xs =>
      cases hc with
      | lst hb1 =>
        refine ⟨.inl ⟨rfl, vs, SqL.of hb1⟩, G, Ss, st, mS.toR st m2 hex fun d H1 G1 a st1 m3 v S rv => ?_⟩
        have hb2 := a.1 _ _ hb1
        have m4 : mS W (cf X B G0) δ Dn ((if es.length < 16777216 then .ok (.lst (es ++ [d])) else R.bad).bind fun y => g (setJ j y d0)) := m3
        by_cases hl2 : es.length < 16777216
        · rw [if_pos hl2] at m4
          refine ⟨b, vs, v, rfl, rfl, hb2, by rw [sizeLine_eq, ← rs.length]; exact hl2, setJ j (.lst (es ++ [d])) d0, G1, Ss, ?_, m4⟩
          refine st1.putFld1 hk hd hf hj (a.1 _ _ hp) hl fun T ⟨b', vs', es', z1, z2, z3, z4⟩ => ?_
          cases z1
          subst z2
          exact ⟨by simp, b, _, _, rfl, rfl, .lst upd_same, (rs.mono a.2.1).snoc rv.1⟩
        · rw [if_neg hl2] at m4
          exact m4.elim
    | _ => exact m2.elim⟩
end
end Lw
namespace Lw
open PySem PySem.Spec PyProof.Rows L2
theorem PE.allD {ι : Type} {X : Cx} {e : Expr} {t : ι → TE} (h : ∀ i, PE X e (t i)) : PE X e (fun σ H Q => ∃ i, t i σ H Q) := ⟨fun pins s σ H Q I ⟨i, q⟩ => (h i).run pins s σ H Q I q⟩
theorem setJ_same {cl f : Str} {j : Nat} {d0 x : D} (h : fldJ cl f j d0 = .ok x) : setJ j x d0 = d0 := by
  cases d0 with
  | obj c ns xs =>
    have h' : (if c = cl ∧ ns[j]? = some f ∧ (ns.take j).contains f = false ∧ ns.length < 1000 then (match xs[j]? with
      | some d => R.ok d
      | none => .bad) else .bad) = .ok x := h
    split at h'
    · cases e : xs[j]? with
      | none => rw [e] at h'; cases h'
      | some d =>
        rw [e] at h'
        have ed : d = x := by injection h'
        subst ed
        show D.obj c ns (xs.set j d) = _
        congr 1
        apply List.ext_getElem?
        intro l
        by_cases z : l = j
        · subst z
          rw [List.getElem?_set_self (List.getElem?_eq_some_iff.mp e).1, e]
        · rw [List.getElem?_set_ne (Ne.symm z)]
    · cases h'
  | _ => rfl
theorem fldJ_set {cl f : Str} {j : Nat} {d0 x y : D} (h : fldJ cl f j d0 = .ok x) : fldJ cl f j (setJ j y d0) = .ok y := by
  cases d0 with
  | obj c ns xs =>
    have h' : (if c = cl ∧ ns[j]? = some f ∧ (ns.take j).contains f = false ∧ ns.length < 1000 then (match xs[j]? with
      | some d => R.ok d
      | none => .bad) else .bad) = .ok x := h
    show (if c = cl ∧ ns[j]? = some f ∧ (ns.take j).contains f = false ∧ ns.length < 1000 then (match (xs.set j y)[j]? with
      | some d => R.ok d
      | none => .bad) else .bad) = .ok y
    split at h'
    · rename_i hc
      rw [if_pos hc]
      cases e : xs[j]? with
      | none => rw [e] at h'; cases h'
      | some d => rw [List.getElem?_set_self (List.getElem?_eq_some_iff.mp e).1]
    · cases h'
  | _ => cases h
theorem set_same {en : List D} {i : Nat} {d : D} (h : en[i]? = some d) : en.set i d = en := by
  apply List.ext_getElem?
  intro l
  by_cases z : l = i
  · subst z
    rw [List.getElem?_set_self (List.getElem?_eq_some_iff.mp h).1, h]
  · rw [List.getElem?_set_ne (Ne.symm z)]
section
variable {c : Cf} {κ : List Kd} {en : List D} {σ : L2.St} {H G : Hp} {Ss : Nat → List Addr} {i j : Nat} {p : Addr} {fk : List Fk} {k : Fk} {d0 d y : D} {cl f : Str}
theorem vset_same {cl' f' : Str} {fs : List (Str × V)} {ds : List D} {x : D} {v : V} (hf : fldJ cl f j (.obj cl' (fs.map (·.1)) ds) = .ok x) (hl : fs.lookup f = some v) : (fs.map (·.2)).set j v = fs.map (·.2) := by
  have h' : (if cl' = cl ∧ (fs.map (·.1))[j]? = some f ∧ ((fs.map (·.1)).take j).contains f = false ∧ (fs.map (·.1)).length < 1000 then (match ds[j]? with
    | some d => R.ok d
    | none => .bad) else .bad) = .ok x := hf
  by_cases hc : cl' = cl ∧ (fs.map (·.1))[j]? = some f ∧ ((fs.map (·.1)).take j).contains f = false ∧ (fs.map (·.1)).length < 1000
  · obtain ⟨_, h1, h2, _⟩ := hc
    have hjl : j < fs.length := by
      have := (List.getElem?_eq_some_iff.mp h1).1
      simpa using this
    have hw : (fs.map (·.2))[j]? = some (fs[j].2) := by
      rw [List.getElem?_map, List.getElem?_eq_getElem hjl]
      rfl
    have z := (fld_at h1 h2 hw).1
    rw [hl] at z
    cases z
    apply List.ext_getElem?
    intro l
    by_cases e : l = j
    · subst e
      rw [List.getElem?_set_self (by simpa using hjl), hw]
    · rw [List.getElem?_set_ne (Ne.symm e)]
  · rw [if_neg hc] at h'
    cases h'
theorem St.putFld2 {a : Addr} {ho : HO} {C dx : Addr} {fs : List (Str × V)} {v : V} {d' : D} (st : St c κ en σ H G Ss) (hk : κ[i]? = some (.U (OMu p fk))) (hd : en[i]? = some d0) (hf : fldJ cl f j d0 = .ok d) (hj : fk[j]? = some k) (hp : H p = some (.ins C dx fs)) (hl : fs.lookup f = some v)
    (ha : ∀ T, T.Nodup → RepFk c H G k d v T → a ∈ T ∧ RepFk c (upd H a ho) G k d' v T) : St c κ (en.set i (setJ j d' d0)) σ (upd H a ho) G Ss := by
  obtain ⟨C0, dx0, fs0, ds, v0, T, A, Bs, hv, hS, e0, hp0, gC, hl0, _, hr, _, put⟩ := st.fldAt hk hd hf hj
  rw [hp] at hp0
  cases hp0
  rw [hl] at hl0
  cases hl0
  have nd0 := st.nd i
  rw [hS] at nd0
  obtain ⟨pn, nd1⟩ := List.nodup_cons.mp nd0
  have nd2 := nd1
  rw [List.nodup_append, List.nodup_append] at nd2
  obtain ⟨am, hr2⟩ := ha T nd2.1.2.1 hr
  subst e0
  have vset := vset_same (f' := f) hf hl
  have ap : a ≠ p := fun z => pn (by rw [← z]; simp [am])
  have aS : a ∈ Ss i := by rw [hS]; simp [am]
  refine st.put hk (by intro z; cases z) aS hv ?_
  rw [hS]
  have z := put c (upd H a ho) G d' v T (fun k d v T' hT h => h.at_ (fun x hx o hxo => by
    have : x ≠ a := fun z => by
      subst z
      rcases hT x hx with y | y
      · exact nd2.1.2.2 x y x am rfl
      · exact nd2.2.2 x (by simp [am]) x y rfl
    rw [upd_ne this]; exact hxo) (.refl _)) hr2
  rw [vset] at z
  exact ⟨C, dx, fs, cl, _, _, _, rfl, rfl, rfl, by rw [upd_ne (Ne.symm ap)]; exact hp, gC, rfl, z⟩
theorem itemL_at {y : D} {n : Nat} {xs : List D} {H : Hp} {a : Addr} {es : List D} {vs : List V} (hc : Cont H a y es vs) (he : itemL y n = .ok xs) : es[n]? = some (.lst xs) := by
  unfold itemL at he
  rw [hc.items.1] at he
  split at he
  · rename_i z e
    cases he
    exact e
  · cases he
theorem St.appIt {C dx a : Addr} {fs : List (Str × V)} {kvs : List (Key × V)} {n : Nat} {w : V} {xs : List D} (st : St c κ en σ H G Ss) (hk : κ[i]? = some (.U (OMu p fk))) (hd : en[i]? = some d0) (hf : fldJ cl f j d0 = .ok y) (hj : fk[j]? = some .LL) (hp : H p = some (.ins C dx fs)) (hl : fs.lookup f = some (.ref a)) (ha : H a = some (.dK kvs)) (hn : (kvs.map (·.2))[n]? = some w) (hi : itemL y n = .ok xs) :
    ∃ q ws, w = .ref q ∧ H q = some (.lst ws) ∧ Reps c.K c.mg G xs ws ∧ ∀ v d, Rep c.K c.mg G d v → St c κ (en.set i (setJ j (setIt y n (.lst (xs ++ [d]))) d0)) σ (upd H q (.lst (ws ++ [v]))) G Ss := by
  have get : ∀ T, RepFk c H G .LL y (.ref a) T → ∃ es S', T = a :: S' ∧ Cont H a y es (kvs.map (·.2)) ∧ AllR (RepL c H G) es (kvs.map (·.2)) S' ∧ es[n]? = some (.lst xs) := by
    rintro T ⟨a', vs, es, S', e1, e2, hc, hA⟩
    cases e1
    have hit := itemL_at hc hi
    cases hc with
    | lst h => rw [ha] at h; cases h
    | @dK es kvs' h =>
      rw [ha] at h
      cases h
      exact ⟨es, S', e2, .dK ha, hA, hit⟩
  have itm : ∀ {es : List D} {S' : List Addr}, AllR (RepL c H G) es (kvs.map (·.2)) S' → es[n]? = some (.lst xs) → ∃ q ws A B, w = .ref q ∧ S' = A ++ [q] ++ B ∧ H q = some (.lst ws) ∧ Reps c.K c.mg G xs ws ∧ ∀ (P' : D → V → List Addr → Prop) (d' : D), (∀ d v T', (∀ x ∈ T', x ∈ A ∨ x ∈ B) → RepL c H G d v T' → P' d v T') → P' d' (.ref q) [q] → AllR P' (es.set n d') (kvs.map (·.2)) S' := by
    intro es S' hA hit
    obtain ⟨v, T, A, B, g1, g2, g3, g4⟩ := hA.at hit
    rw [hn] at g1
    cases g1
    obtain ⟨q, ws, ds2, e, eT, hc2, rs⟩ := g3
    subst e eT
    cases hc2 with
    | lst h => exact ⟨q, ws, A, B, rfl, g2, h, rs, g4⟩
  obtain ⟨C0, dx0, fs0, ds0, v0, T0, A0, B0, hv, hS, e0, hp0, gC, hl0, _, hr, _, _⟩ := st.fldAt hk hd hf hj
  rw [hp] at hp0
  cases hp0
  rw [hl] at hl0
  cases hl0
  obtain ⟨es, S', _, _, hA, hit⟩ := get T0 hr
  obtain ⟨q, ws, A, B, ew, eS, hq, rs, _⟩ := itm hA hit
  have qa : q ≠ a := fun z => by
    rw [z, ha] at hq
    cases hq
  refine ⟨q, ws, ew, hq, rs, fun v d hrep => ?_⟩
  refine st.putFld2 (a := q) (ho := .lst (ws ++ [v])) hk hd hf hj hp hl fun T' nd hT' => ?_
  obtain ⟨es2, S2, eT2, hc2, hA2, hit2⟩ := get T' hT'
  obtain ⟨q2, ws2, A2, B2, ew2, eS2, hq2, rs2, g4⟩ := itm hA2 hit2
  rw [ew] at ew2
  cases ew2
  rw [hq] at hq2
  cases hq2
  subst eT2
  refine ⟨by rw [eS2]; simp, a, kvs.map (·.2), es2.set n (.lst (xs ++ [d])), S2, rfl, rfl, ?_, ?_⟩
  · exact hc2.set (upd_ne (Ne.symm qa))
  · refine g4 _ _ (fun d v T'' hT h => h.at_ (fun x hx o ho => ?_) (.refl _)) ⟨q, _, _, rfl, rfl, .lst upd_same, rs.snoc hrep⟩
    have hxq : x ≠ q := fun z => by
      subst z
      have nd2 : ((A2 ++ [x]) ++ B2).Nodup := by
        rw [← eS2]
        exact (List.nodup_cons.mp nd).2
      rw [List.nodup_append, List.nodup_append] at nd2
      rcases hT x hx with z | z
      · exact nd2.1.2.2 x z x (by simp) rfl
      · exact nd2.2.2 x (by simp) x z rfl
    rw [upd_ne hxq]
    exact ho
theorem St.newIt {H1 G1 : Hp} {C dx a q : Addr} {fs : List (Str × V)} {kvs : List (Key × V)} {key : Key} {es : List D} (st : St c κ en σ H G Ss) (hk : κ[i]? = some (.U (OMu p fk))) (hd : en[i]? = some d0) (hf : fldJ cl f j d0 = .ok (.dct (kvs.map fun z => kD z.1) es)) (hj : fk[j]? = some .LL) (hp : H p = some (.ins C dx fs)) (hl : fs.lookup f = some (.ref a)) (ha : H a = some (.dK kvs))
    (a1 : Adv H G G1 H1) (q0 : H q = none) (q1 : H1 q = some (.lst [])) (gq : G1 q = none) :
    ∃ Ss', St c κ (en.set i (setJ j (.dct ((kvs.map fun z => kD z.1) ++ [kD key]) (es ++ [.lst []])) d0)) σ (upd H1 a (.dK (kvs ++ [(key, .ref q)]))) G1 Ss' := by
  obtain ⟨C0, dx0, fs0, ds0, v0, T0, A, Bs, hv, hS, e0, hp0, gC, hl0, _, hr, _, put⟩ := st.fldAt hk hd hf hj
  rw [hp] at hp0
  cases hp0
  rw [hl] at hl0
  cases hl0
  obtain ⟨a', vs, es', S', e1, e2, hc, hA⟩ := hr
  cases e1
  have st1 := st.adv a1
  have own := st.own
  have own1 := st1.own
  have mem : ∀ b ∈ Ss i, H b ≠ none := fun b hb z => by
    obtain ⟨_, _, o, ho⟩ := own i b hb
    rw [ho] at z; cases z
  have qS : q ∉ Ss i := fun z => mem q z q0
  have aS : a ∈ Ss i := by rw [hS, e2]; simp
  have qa : q ≠ a := fun z => qS (by rw [z]; exact aS)
  have nd0 := st.nd i
  rw [hS, e2] at nd0
  obtain ⟨pn, nd1⟩ := List.nodup_cons.mp nd0
  have nd2 := nd1
  rw [List.nodup_append, List.nodup_append] at nd2
  obtain ⟨an, ndS⟩ := List.nodup_cons.mp nd2.1.2.1
  have ap : a ≠ p := fun z => pn (by rw [← z]; simp)
  · obtain ⟨kvs', hb, ek, eds, evs⟩ := hc.dct
    rw [ha] at hb
    cases hb
    have eds2 := eds.symm
    subst eds2 evs
    have vset := vset_same (f' := f) (by rw [e0] at hf; exact hf) hl
    have hp1 : (upd H1 a (.dK (kvs ++ [(key, .ref q)]))) p = some (.ins C dx fs) := by
      rw [upd_ne (Ne.symm ap)]
      exact a1.1 _ _ hp
    have keep : ∀ {d : D} {v : V} {k : Fk} {T : List Addr}, (∀ x ∈ T, x ≠ a) → RepFk c H G k d v T → RepFk c (upd H1 a (.dK (kvs ++ [(key, .ref q)]))) G1 k d v T := fun hT h => h.at_ (fun x hx o ho => by
      rw [upd_ne (hT x hx)]
      exact a1.1 _ _ ho) a1.2.1
    have hAll := put c (upd H1 a (.dK (kvs ++ [(key, .ref q)]))) G1 (.dct ((kvs.map fun z => kD z.1) ++ [kD key]) (es ++ [.lst []])) (.ref a) (a :: (S' ++ [q])) (fun k d v T' hT h => keep (fun x hx z => by
        subst z
        rcases hT x hx with y | y
        · exact nd2.1.2.2 x y x (by simp) rfl
        · exact nd2.2.2 x (by simp) x y rfl) h) (by
      refine ⟨a, (kvs ++ [(key, V.ref q)]).map (·.2), es ++ [.lst []], S' ++ [q], rfl, rfl, ?_, ?_⟩
      · have := Cont.dK (ds := es ++ [.lst []]) (upd_same (H := H1) (a := a) (o := .dK (kvs ++ [(key, V.ref q)])))
        rw [List.map_append] at this
        exact this
      · rw [List.map_append]
        exact AllR.snoc (hA.imp fun d v T hT h => h.at_ (fun x hx o ho => by
          rw [upd_ne (fun z => an (by rw [← z]; exact hT x hx))]
          exact a1.1 _ _ ho) a1.2.1) ⟨q, [], [], rfl, rfl, .lst (by rw [upd_ne qa]; exact q1), .nil⟩)
    rw [vset] at hAll
    have hSS : ∀ x, x ∈ p :: (A ++ (a :: (S' ++ [q])) ++ Bs) ↔ x ∈ Ss i ∨ x = q := fun x => by
      rw [hS, e2]
      simp only [List.mem_cons, List.mem_append, List.not_mem_nil, or_false]
      constructor
      · rintro (z | (z | z | z | z) | z) <;> simp [z]
      · rintro ((z | (z | z | z) | z) | z) <;> simp [z]
    have final := st.putFld (H1 := H1) (G1 := G1) (G' := G1) (H' := upd H1 a (.dK (kvs ++ [(key, .ref q)]))) (v := .ref a) (T := T0) (A := A) (T' := a :: (S' ++ [q])) (Bs := Bs) (ds := ds0) (d := .non) (d' := .dct ((kvs.map fun z => kD z.1) ++ [kD key]) (es ++ [.lst []])) (C := C) (dx := dx) (fs := fs) (cl := cl) hk hv hS hp1 gC hAll (a1.del (fun b hb => (own1 i b hb).1) fun b hb o ho => by
        rw [upd_ne (fun z => hb (by rw [z]; exact aS))]
        exact ho) ?_ fun b hb => ?_
    · subst e0
      exact ⟨_, final⟩
    · have pq : p ≠ q := fun z => qS (by rw [← z, hS]; exact List.mem_cons_self)
      have nq : ∀ x ∈ A ++ (a :: S') ++ Bs, x ≠ q := fun x hx z => qS (by
        subst z
        rw [hS, e2]
        exact List.mem_cons_of_mem _ hx)
      have e3 : (A ++ (a :: (S' ++ [q])) ++ Bs).Perm (q :: (A ++ (a :: S') ++ Bs)) := by
        have h1 : A ++ (a :: (S' ++ [q])) ++ Bs = (A ++ (a :: S')) ++ ([q] ++ Bs) := by simp
        rw [h1]
        have h2 : q :: (A ++ (a :: S') ++ Bs) = [q] ++ ((A ++ (a :: S')) ++ Bs) := rfl
        rw [h2]
        have h3 := (List.perm_append_comm (l₁ := A ++ (a :: S')) (l₂ := [q])).append_right Bs
        simpa using h3
      have nd3 : (q :: (A ++ (a :: S') ++ Bs)).Nodup := List.nodup_cons.mpr ⟨fun hm => nq q hm rfl, nd1⟩
      refine List.nodup_cons.mpr ⟨fun hm => ?_, e3.nodup_iff.mpr nd3⟩
      rcases List.mem_cons.mp (e3.mem_iff.mp hm) with z | z
      · exact pq z
      · exact pn z
    · have any : ∀ x, (∃ o, H1 x = some o) → ∃ o, (upd H1 a (.dK (kvs ++ [(key, .ref q)]))) x = some o := fun x ⟨w, hw⟩ => by
        by_cases e : x = a
        · subst e; exact ⟨_, upd_same⟩
        · exact ⟨w, by rw [upd_ne e]; exact hw⟩
      rcases (hSS b).mp hb with z | z
      · exact ⟨(own1 i b z).1, delS_in z, any b (own1 i b z).2.2⟩
      · subst z
        exact ⟨gq, by rw [delS_out qS]; exact q0, any b ⟨_, q1⟩⟩
theorem AllR.drop {P : D → V → List Addr → Prop} {key : Key} : ∀ {kvs : List (Key × V)} {ds : List D} {S : List Addr}, AllR P ds (kvs.map (·.2)) S → ∃ S2, S2.Sublist S ∧ AllR P ((((kvs.map fun q => kD q.1).zip ds).filter fun p => !keyEq p.1 (kD key)).map (·.2)) ((dropK kvs key).map (·.2)) S2 ∧
    (((kvs.map fun q => kD q.1).zip ds).filter fun p => !keyEq p.1 (kD key)).map (·.1) = (dropK kvs key).map (fun q => kD q.1) ∧ ∀ n d v, dIdx (kvs.map fun q => kD q.1) (kD key) = some n → ds[n]? = some d → valV kvs key = some v → ∃ T, P d v T ∧ (∀ x ∈ T, x ∈ S) ∧ (S.Nodup → ∀ x ∈ T, x ∉ S2)
  | [], ds, S, h => by
    cases ds with
    | nil => exact ⟨[], List.nil_sublist _, ⟨rfl, rfl⟩, rfl, fun n d v e => by simp [dIdx] at e⟩
    | cons d ds =>
      obtain ⟨v, r, S1, S2, e, _⟩ := h
      cases e
  | p :: kvs, ds, S, h => by
    cases ds with
    | nil =>
      have := h.1
      simp at this
    | cons d ds =>
      obtain ⟨v, r, S1, S2, e1, e2, hP, hA⟩ := h
      have ev : v = p.2 ∧ r = kvs.map (·.2) := by
        rw [List.map_cons] at e1
        injection e1 with z1 z2
        exact ⟨z1.symm, z2.symm⟩
      obtain ⟨rfl, rfl⟩ := ev
      subst e2
      obtain ⟨S3, h1, h2, h3, h4⟩ := AllR.drop (key := key) hA
      by_cases e : p.1 = key
      · have k1 : keyEq (kD p.1) (kD key) = true := by rw [keyEq_k]; exact decide_eq_true e
        have z1 : ((((p :: kvs).map fun q => kD q.1).zip (d :: ds)).filter fun p => !keyEq p.1 (kD key)) = ((kvs.map fun q => kD q.1).zip ds).filter fun p => !keyEq p.1 (kD key) := by
          rw [List.map_cons, List.zip_cons_cons, List.filter_cons_of_neg (by simp [k1])]
        have z2 : dropK (p :: kvs) key = dropK kvs key := by
          unfold dropK
          rw [List.filter_cons_of_neg (by simp [e])]
        rw [z1, z2]
        refine ⟨S3, h1.trans (List.sublist_append_right _ _), h2, h3, fun n d' v en ed' hv => ?_⟩
        have n0 : n = 0 := by
          unfold dIdx at en
          rw [List.map_cons, List.findIdx?_cons, if_pos k1] at en
          injection en with en
          exact en.symm
        subst n0
        have dd : d = d' := by simpa using ed'
        subst dd
        rw [valV_pos e] at hv
        cases hv
        refine ⟨S1, hP, fun x hx => List.mem_append_left _ hx, fun nd x hx hy => ?_⟩
        exact (List.nodup_append.mp nd).2.2 x hx x (h1.subset hy) rfl
      · have k1 : keyEq (kD p.1) (kD key) = false := by rw [keyEq_k]; exact decide_eq_false e
        have z1 : ((((p :: kvs).map fun q => kD q.1).zip (d :: ds)).filter fun p => !keyEq p.1 (kD key)) = (kD p.1, d) :: ((kvs.map fun q => kD q.1).zip ds).filter fun p => !keyEq p.1 (kD key) := by
          rw [List.map_cons, List.zip_cons_cons, List.filter_cons_of_pos (by simp [k1])]
        have z2 : dropK (p :: kvs) key = p :: dropK kvs key := by
          unfold dropK
          rw [List.filter_cons_of_pos (by simp [e])]
        rw [z1, z2]
        refine ⟨S1 ++ S3, (List.Sublist.refl S1).append h1, ⟨p.2, _, S1, S3, rfl, rfl, hP, h2⟩, by rw [List.map_cons, List.map_cons, h3], fun n d' v en ed' hv => ?_⟩
        rw [valV_neg e] at hv
        unfold dIdx at en
        rw [List.map_cons, List.findIdx?_cons, if_neg (by rw [k1]; decide)] at en
        cases hx : (kvs.map fun q => kD q.1).findIdx? fun z => keyEq z (kD key) with
        | none => rw [hx] at en; cases en
        | some n' =>
          rw [hx] at en
          have en2 : n = n' + 1 := by injection en with en; exact en.symm
          subst en2
          obtain ⟨T, t1, t2, t3⟩ := h4 n' d' v hx (by simpa using ed') hv
          refine ⟨T, t1, fun x hx => List.mem_append_right _ (t2 x hx), fun nd x hx hy => ?_⟩
          have nd2 := List.nodup_append.mp nd
          rcases List.mem_append.mp hy with z | z
          · exact nd2.2.2 x z x (t2 x hx) rfl
          · exact t3 nd2.2.1 x hx z
theorem St.popIt {C dx a q : Addr} {fs : List (Str × V)} {kvs : List (Key × V)} {key : Key} {es xs : List D} {n : Nat} (st : St c κ en σ H G Ss) (hk : κ[i]? = some (.U (OMu p fk))) (hd : en[i]? = some d0) (hf : fldJ cl f j d0 = .ok (.dct (kvs.map fun z => kD z.1) es)) (hj : fk[j]? = some .LL) (hp : H p = some (.ins C dx fs)) (hl : fs.lookup f = some (.ref a)) (ha : H a = some (.dK kvs))
    (hv0 : valV kvs key = some (.ref q)) (hn : dIdx (kvs.map fun z => kD z.1) (kD key) = some n) (hx : es[n]? = some (.lst xs)) :
    ∃ Ss' ws, H q = some (.lst ws) ∧ q ≠ a ∧ Reps c.K c.mg (frz G (upd H a (.dK (dropK kvs key))) [q]) xs ws ∧ St c κ (en.set i (setJ j (dDrop (kvs.map fun z => kD z.1) es (kD key)) d0)) σ (upd H a (.dK (dropK kvs key))) (frz G (upd H a (.dK (dropK kvs key))) [q]) Ss' := by
  obtain ⟨C0, dx0, fs0, ds0, v0, T0, A, Bs, hv, hS, e0, hp0, gC, hl0, _, hr, _, put⟩ := st.fldAt hk hd hf hj
  rw [hp] at hp0
  cases hp0
  rw [hl] at hl0
  cases hl0
  obtain ⟨a', vs, es', S', e1, e2, hc, hA⟩ := hr
  cases e1
  obtain ⟨kvs', hb, ek, eds, evs⟩ := hc.dct
  rw [ha] at hb
  cases hb
  have eds2 := eds.symm
  subst eds2 evs
  have own := st.own
  obtain ⟨S2, s1, hA2, hks, get⟩ := AllR.drop (key := key) hA
  have nd0 := st.nd i
  rw [hS, e2] at nd0
  obtain ⟨pn, nd1⟩ := List.nodup_cons.mp nd0
  have nd2 := nd1
  rw [List.nodup_append, List.nodup_append] at nd2
  obtain ⟨an, ndS⟩ := List.nodup_cons.mp nd2.1.2.1
  obtain ⟨T, ⟨q', ws, ds2, eq, eT, hc2, rs⟩, tS, tN⟩ := get n _ _ hn hx hv0
  cases eq
  subst eT
  have qS' : q ∈ S' := tS q (by simp)
  have qS2 : q ∉ S2 := tN ndS q (by simp)
  have qa : q ≠ a := fun z => an (by rw [← z]; exact qS')
  have aS : a ∈ Ss i := by rw [hS, e2]; simp
  have qS : q ∈ Ss i := by rw [hS, e2]; simp [qS']
  have ap : a ≠ p := fun z => pn (by rw [← z]; simp)
  have gq : ∀ b ∈ [q], G b = none := fun b hb => by
    have e : b = q := by simpa using hb
    rw [e]
    exact (own i q qS).1
  have vset := vset_same (f' := f) (by rw [e0] at hf; exact hf) hl
  cases hc2 with
  | lst hq =>
    have hp1 : (upd H a (.dK (dropK kvs key))) p = some (.ins C dx fs) := by
      rw [upd_ne (Ne.symm ap)]
      exact hp
    have sG : Same G (frz G (upd H a (.dK (dropK kvs key))) [q]) := frz_same gq
    have keep : ∀ {d : D} {v : V} {k : Fk} {T : List Addr}, (∀ x ∈ T, x ≠ a) → RepFk c H G k d v T → RepFk c (upd H a (.dK (dropK kvs key))) (frz G (upd H a (.dK (dropK kvs key))) [q]) k d v T := fun hT h => h.at_ (fun x hx o ho => by
      rw [upd_ne (hT x hx)]
      exact ho) sG
    have hAll := put c (upd H a (.dK (dropK kvs key))) (frz G (upd H a (.dK (dropK kvs key))) [q]) (dDrop (kvs.map fun z => kD z.1) es (kD key)) (.ref a) (a :: S2) (fun k d v T' hT h => keep (fun x hx z => by
        subst z
        rcases hT x hx with y | y
        · exact nd2.1.2.2 x y x (by simp) rfl
        · exact nd2.2.2 x (by simp) x y rfl) h) (by
      refine ⟨a, (dropK kvs key).map (·.2), _, S2, rfl, rfl, ?_, hA2.imp fun d v T hT h => h.at_ (fun x hx o ho => by
          rw [upd_ne (fun z => an (by rw [← z]; exact s1.subset (hT x hx)))]
          exact ho) sG⟩
      unfold dDrop
      rw [hks]
      exact Cont.dK upd_same)
    rw [vset] at hAll
    have hsub : (A ++ (a :: S2) ++ Bs).Sublist (A ++ (a :: S') ++ Bs) := ((List.Sublist.refl A).append (s1.cons₂ a)).append (List.Sublist.refl Bs)
    have inS : ∀ b, b ∈ p :: (A ++ (a :: S2) ++ Bs) → b ∈ Ss i := fun b hb => by
      rw [hS, e2]
      rcases List.mem_cons.mp hb with z | z
      · rw [z]; exact List.mem_cons_self
      · exact List.mem_cons_of_mem _ (hsub.subset z)
    have notq : ∀ b, b ∈ p :: (A ++ (a :: S2) ++ Bs) → b ≠ q := fun b hb z => by
      subst z
      rcases List.mem_cons.mp hb with z | z
      · exact pn (by rw [← z]; simp [qS'])
      · rcases List.mem_append.mp z with z | z
        · rcases List.mem_append.mp z with z | z
          · exact nd2.1.2.2 b z b (by simp [qS']) rfl
          · rcases List.mem_cons.mp z with z | z
            · exact qa z
            · exact qS2 z
        · exact nd2.2.2 b (by simp [qS']) b z rfl
    have adv : Adv (delS H (Ss i)) G (frz G (upd H a (.dK (dropK kvs key))) [q]) (upd H a (.dK (dropK kvs key))) := ⟨fun b o h => by
        have hb : b ∉ Ss i := fun z => by rw [delS_in z] at h; cases h
        rw [delS_out hb] at h
        rw [upd_ne (fun z => hb (by rw [z]; exact aS))]
        exact h, sG, fun b o h => by
        by_cases hb : b ∈ [q]
        · rw [frz_in hb] at h; exact h
        · rw [frz_out hb] at h
          have hb2 : b ∉ Ss i := fun z => by rw [(own i b z).1] at h; cases h
          rw [upd_ne (fun z => hb2 (by rw [z]; exact aS))]
          exact st.sH _ _ h, fun b o h => by
        by_cases hb : b ∈ [q]
        · have e : b = q := by simpa using hb
          exact .inr (delS_in (by rw [e]; exact qS))
        · rw [frz_out hb] at h; exact .inl h⟩
    have final := st.putFld (H1 := H) (G1 := G) (G' := frz G (upd H a (.dK (dropK kvs key))) [q]) (H' := upd H a (.dK (dropK kvs key))) (v := .ref a) (T := T0) (A := A) (T' := a :: S2) (Bs := Bs) (ds := ds0) (d := .non) (d' := dDrop (kvs.map fun z => kD z.1) es (kD key)) (C := C) (dx := dx) (fs := fs) (cl := cl) hk hv hS hp1 gC hAll adv
      (List.nodup_cons.mpr ⟨fun hm => pn (hsub.subset hm), nd1.sublist hsub⟩) fun b hb => ?_
    · subst e0
      exact ⟨_, ws, hq, qa, rs.mono sG, final⟩
    · have hbS := inS b hb
      have hbq : b ∉ [q] := fun z => notq b hb (by simpa using z)
      refine ⟨by rw [frz_out hbq]; exact (own i b hbS).1, delS_in hbS, ?_⟩
      obtain ⟨_, _, o, ho⟩ := own i b hbS
      by_cases e : b = a
      · subst e; exact ⟨_, upd_same⟩
      · exact ⟨o, by rw [upd_ne e]; exact ho⟩
end
end Lw
namespace Lw
open PySem PySem.Spec PyProof.Rows L2
def pSetd (kx : List D × List D) (jj : D) : R D := if isKey jj && decide (kx.2.length < 16777216) then (if kx.1.any (fun z => keyEq z jj) = true then .ok (.dct kx.1 kx.2) else .ok (.dct (kx.1 ++ [jj]) (kx.2 ++ [.lst []]))) else .bad
def pPopO (kx : List D × List D) (jj : D) : R (List D × D) := if isKey jj then (match dIdx kx.1 jj with
  | some n => (match kx.2[n]? with
    | some (.lst xs) => .ok (xs, dDrop kx.1 kx.2 jj)
    | _ => .bad)
  | none => .ok ([], .dct kx.1 kx.2)) else .bad
theorem plDx_nx {d k : D} {e : Ex} (h : plDx d k = .exc e) : False := by
  cases d with
  | dct ks xs =>
    unfold plDx at h
    dsimp only at h
    split at h
    · cases e2 : dIdx ks k with
      | none => rw [e2] at h; cases h
      | some n => rw [e2] at h; cases h
    · cases h
  | _ => cases h
theorem plDx_ok {ks xs : List D} {k : D} {n : Nat} (h : plDx (.dct ks xs) k = .ok n) : dIdx ks k = some n := by
  unfold plDx at h
  dsimp only at h
  split at h
  · cases e2 : dIdx ks k with
    | none => rw [e2] at h; cases h
    | some m =>
      rw [e2] at h
      cases h
      rfl
  · cases h
theorem dIdx_any {ks : List D} {k : D} : (dIdx ks k).isSome = ks.any fun z => keyEq z k := by
  unfold dIdx
  rw [List.findIdx?_isSome]
theorem dIdx_new {kvs : List (Key × V)} {key : Key} (h : (kvs.map fun q => kD q.1).any (fun z => keyEq z (kD key)) = false) {w : V} : ∀ n, dIdx ((kvs.map fun q => kD q.1) ++ [kD key]) (kD key) = some n → ((kvs ++ [(key, w)]).map (·.2))[n]? = some w := fun n hn => by
  unfold dIdx at hn
  rw [List.findIdx?_append] at hn
  have h0 : (kvs.map fun q => kD q.1).findIdx? (fun z => keyEq z (kD key)) = none := by
    have := dIdx_any (ks := kvs.map fun q => kD q.1) (k := kD key)
    rw [h] at this
    unfold dIdx at this
    cases e : (kvs.map fun q => kD q.1).findIdx? fun z => keyEq z (kD key) with
    | none => rfl
    | some n => rw [e] at this; cases this
  rw [h0] at hn
  have e1 : ([kD key] : List D).findIdx? (fun z => keyEq z (kD key)) = some 0 := by
    rw [List.findIdx?_cons, if_pos (by rw [keyEq_k]; exact decide_eq_true rfl)]
  rw [e1] at hn
  have en : n = kvs.length := by simpa using hn.symm
  subst en
  simp
section
variable {α τ : Type} {X : Cx} {W : WX} {B G0 : Hp} {κ : List Kd} {en : List D} {e o ei tg : Expr} {rk ki : RK} {r ri : R D} {δ : DE α} {pos pos' sap scp ap cp lp : Pos} {rest body : List Stmt} {cl f : Str} {d0 : D} {i j : Nat} {p : Addr} {fk : List Fk}
theorem sv_sdO {g : D → R α} {re : D → R D} (F : FldD X.K X.mg cl f) (q : PE X o (tVar i)) (hi : EV X W B G0 κ en ei ki ri) (he : ∀ d1, EV X W B G0 κ (en.set i d1) e .F (re d1)) (hr : ∀ d, SV X W B G0 κ (en.set i d) rest δ (g d)) (hk : κ[i]? = some (.U (OMu p fk)) := by rfl) (hd : en[i]? = some d0 := by rfl) (hj : fk[j]? = some .LL := by rfl)
    (hex : δ.ex κ en := by exact True.intro) (hex2 : ∀ d, δ.ex κ (en.set i d) := by exact fun _ => True.intro) (hb : attributeBase o f X.env (eval o X.env) = eval o X.env := by rfl) (hM : M2 X (.Attribute o f pos') "setdefault" sap ei (.List [] lp) scp := by exact ⟨rfl, rfl, rfl, rfl⟩)
    (hs : swapsWith (.Call (.Attribute (.Call (.Attribute (.Attribute o f pos') "setdefault" sap) [ei, .List [] lp] [] scp) "append" ap) [e] [] cp) none pos.line X.env = pure false := by rfl)
    (hbase : attributeBase (.Call (.Attribute (.Attribute o f pos') "setdefault" sap) [ei, .List [] lp] [] scp) "append" X.env (eval (.Call (.Attribute (.Attribute o f pos') "setdefault" sap) [ei, .List [] lp] [] scp) X.env) = eval (.Call (.Attribute (.Attribute o f pos') "setdefault" sap) [ei, .List [] lp] [] scp) X.env := by rfl)
    (hfew : ((backTo cp (starEach [e] X.env)).all (fun x => !x.1) && (backToKw cp (keywordEach [] X.env)).all (fun x => x.1.isSome) && decide ([e].length + ([] : List Keyword).length + (if ([] : List Keyword).isEmpty then 0 else 1) < 30)) = true := by rfl)
    (hline : (ap.endLine == cp.line) = true := by rfl) (hst : starEach [e] X.env = (false, eval e X.env) :: starEach [] X.env := by rfl) (hpl : (backTo cp (starEach [] X.env)).any (·.1) = false := by rfl) :
    SV X W B G0 κ en (.Expr (.Call (.Attribute (.Call (.Attribute (.Attribute o f pos') "setdefault" sap) [ei, .List [] lp] [] scp) "append" ap) [e] [] cp) pos :: rest) δ
      ((fldJ cl f j d0).bind fun x => (toDct x).bind fun kx => ri.bind fun jj => (pSetd kx jj).bind fun y => (plDx y jj).bind fun n => (itemL y n).bind fun xs => (R.ok (setJ j y d0)).bind fun d1 => (re d1).bind fun d => (appL xs d).bind fun z => (R.ok (setJ j (setIt y n z) d0)).bind g) :=
  ⟨PSs.wk (pss_cons (ps_expr (pe_bm PySem.F.plainAttrs_list PySem.F.slot_list_append PySem.F.type_list_append mt_append (pe_dsetd (pe_fldO (B := B) (G0 := G0) F q hk hd hj hb) hi.pe (ev_lst (W := W) (B := B) (G0 := G0) (κ := κ) (en := en) (pos := lp) ea_nil).pe hM) (pa_cons (PE.allD fun d => (he d).pe) pa_nil hst) hbase hfew hline hst hpl) hs) (PSs.all fun d => (hr d).ps)) fun Dn σ H ⟨G, Ss, st, m⟩ => by
    obtain ⟨x, hf, m2⟩ := m.toF
    refine ⟨G, Ss, x, st, hf, fun C dx fs w T hp hl hrep => ?_⟩
    obtain ⟨a, vs, es, S', e1, e2, hc, hA⟩ := hrep
    subst e1
    cases x with
    | dct ks xs =>
      obtain ⟨kvs, hb1, rfl, rfl, rfl⟩ := hc.dct
      refine ⟨a, rfl, .inl ⟨kvs, .inl hb1⟩, G, Ss, st, mS.toR st (show mS W (cf X B G0) δ Dn (ri.bind fun jj => (pSetd (kvs.map fun q => kD q.1, es) jj).bind fun y => (plDx y jj).bind fun n => (itemL y n).bind fun xs => (R.ok (setJ j y d0)).bind fun d1 => (re d1).bind fun d => (appL xs d).bind fun z => (R.ok (setJ j (setIt y n z) d0)).bind g) from m2) hex fun jj H2 G2 a2 st2 m3 u S2 rv2 => ?_⟩
      have rj := st2.rd rv2
      have hp2 := a2.1 _ _ hp
      have hb2 := a2.1 _ _ hb1
      refine ⟨G2, Ss, st2, fun H3 G3 a3 z S3 rv3 => ?_⟩
      have st3 := st2.adv a3
      have hp3 := a3.1 _ _ hp2
      have hb3 := a3.1 _ _ hb2
      have hlen : es.length = kvs.length := by
        have := hA.len
        rwa [List.length_map] at this
      unfold pSetd at m3
      by_cases hc1 : (isKey jj && decide (es.length < 16777216)) = true
      case neg =>
        rw [if_neg hc1] at m3
        exact m3.elim
      rw [if_pos hc1] at m3
      obtain ⟨k1, k2⟩ := Bool.and_eq_true_iff.mp hc1
      obtain ⟨key, rfl, rfl⟩ := key_of_D rj k1
      have k3 := of_decide_eq_true k2
      obtain ⟨z1, z2⟩ := valV_dIdx key kvs
      refine ⟨kvs, key, hb3, rfl, by rw [sizeLine_eq]; omega, fun v hv => ?_, fun hv => ?_⟩
      · -- the key is there
        cases en1 : dIdx (kvs.map fun q => kD q.1) (kD key) with
        | none =>
          rw [z2 en1] at hv
          cases hv
        | some n =>
          obtain ⟨v', hn1, hn2⟩ := z1 n en1
          rw [hv] at hn2
          cases hn2
          have any1 : (kvs.map fun q => kD q.1).any (fun z => keyEq z (kD key)) = true := by
            rw [← dIdx_any, en1]
            rfl
          have m4 : mS W (cf X B G0) δ Dn ((plDx (.dct (kvs.map fun q => kD q.1) es) (kD key)).bind fun n => (itemL (.dct (kvs.map fun q => kD q.1) es) n).bind fun xs => (R.ok (setJ j (.dct (kvs.map fun q => kD q.1) es) d0)).bind fun d1 => (re d1).bind fun d => (appL xs d).bind fun z => (R.ok (setJ j (setIt (.dct (kvs.map fun q => kD q.1) es) n z) d0)).bind g) := by
            have m3' : mS W (cf X B G0) δ Dn ((if (kvs.map fun q => kD q.1).any (fun z => keyEq z (kD key)) = true then R.ok (D.dct (kvs.map fun q => kD q.1) es) else R.ok (D.dct ((kvs.map fun q => kD q.1) ++ [kD key]) (es ++ [.lst []]))).bind fun y => (plDx y (kD key)).bind fun n => (itemL y n).bind fun xs => (R.ok (setJ j y d0)).bind fun d1 => (re d1).bind fun d => (appL xs d).bind fun z => (R.ok (setJ j (setIt y n z) d0)).bind g) := m3
            rw [if_pos any1] at m3'
            exact m3'
          have e5 : plDx (.dct (kvs.map fun q => kD q.1) es) (kD key) = .ok n := by
            show (if isKey (kD key) then (match dIdx (kvs.map fun q => kD q.1) (kD key) with
              | some j => (R.ok j : R Nat)
              | none => .bad) else .bad) = _
            rw [k1, if_pos rfl, en1]
          rw [e5] at m4
          have m5 : mS W (cf X B G0) δ Dn ((itemL (.dct (kvs.map fun q => kD q.1) es) n).bind fun xs => (re (setJ j (.dct (kvs.map fun q => kD q.1) es) d0)).bind fun d => (appL xs d).bind fun z => (R.ok (setJ j (setIt (.dct (kvs.map fun q => kD q.1) es) n z) d0)).bind g) := m4
          cases eit : itemL (.dct (kvs.map fun q => kD q.1) es) n with
          | bad => rw [eit] at m5; exact m5.elim
          | exc y =>
            exfalso
            unfold itemL at eit
            split at eit <;> cases eit
          | ok xs =>
            rw [eit] at m5
            have same := setJ_same hf
            have m6 : mS W (cf X B G0) δ Dn ((re (setJ j (.dct (kvs.map fun q => kD q.1) es) d0)).bind fun d => (appL xs d).bind fun z => (R.ok (setJ j (setIt (.dct (kvs.map fun q => kD q.1) es) n z) d0)).bind g) := m5
            rw [same] at m6
            obtain ⟨q1, ws, ew, hq, rs, _⟩ := st3.appIt hk hd hf hj hp3 hl hb3 hn1 eit
            subst ew
            have st3' : St (cf X B G0) κ (en.set i d0) σ H3 G3 Ss := by rw [set_same hd]; exact st3
            refine ⟨.inl ⟨rfl, ws, SqL.of hq⟩, d0, G3, Ss, st3', mS.toR st3' m6 (hex2 d0) fun d H4 G4 a4 st4 m7 v4 S4 rv4 => ?_⟩
            have m8 : mS W (cf X B G0) δ Dn ((if xs.length < 16777216 then .ok (.lst (xs ++ [d])) else R.bad).bind fun z => g (setJ j (setIt (.dct (kvs.map fun q => kD q.1) es) n z) d0)) := m7
            by_cases hl2 : xs.length < 16777216
            case neg =>
              rw [if_neg hl2] at m8
              exact m8.elim
            rw [if_pos hl2] at m8
            rw [set_same hd] at st4
            obtain ⟨q2, ws2, ew2, hq2, rs2, fin⟩ := st4.appIt hk hd hf hj (a4.1 _ _ hp3) hl (a4.1 _ _ hb3) hn1 eit
            cases ew2
            have hq4 := a4.1 _ _ hq
            rw [hq2] at hq4
            cases hq4
            exact ⟨q1, ws, v4, rfl, rfl, hq2, by rw [sizeLine_eq, ← rs2.length]; exact hl2, _, G4, Ss, fin v4 d rv4.1, m8⟩
      · -- a new key
        have any0 : (kvs.map fun q => kD q.1).any (fun z => keyEq z (kD key)) = false := by
          cases en1 : dIdx (kvs.map fun q => kD q.1) (kD key) with
          | none =>
            rw [← dIdx_any, en1]
            rfl
          | some n =>
            obtain ⟨v', hn1, hn2⟩ := z1 n en1
            rw [hv] at hn2
            cases hn2
        have eput : putK kvs key z = kvs ++ [(key, z)] := by
          unfold putK
          rw [any_key] at any0
          rw [if_neg (by rw [any0]; decide)]
        rw [eput]
        obtain ⟨q1, ws1, ds1, ez, eS3, hcz, rsz⟩ := RepL.of_own rv3.1
        subst ez eS3
        have hq3 : H3 q1 = some (.lst []) := by
          cases hcz with
          | lst h =>
            have : ws1 = [] := List.length_eq_zero_iff.mp (by simpa using rsz.length.symm)
            rw [h, this]
        obtain ⟨qa, qb, _⟩ := rv3.2.2 q1 (by simp)
        obtain ⟨Ss4, st4⟩ := st2.newIt (key := key) hk hd hf hj hp2 hl hb2 a3 qa hq3 qb
        have m4 : mS W (cf X B G0) δ Dn ((plDx (.dct ((kvs.map fun q => kD q.1) ++ [kD key]) (es ++ [.lst []])) (kD key)).bind fun n => (itemL (.dct ((kvs.map fun q => kD q.1) ++ [kD key]) (es ++ [.lst []])) n).bind fun xs => (R.ok (setJ j (.dct ((kvs.map fun q => kD q.1) ++ [kD key]) (es ++ [.lst []])) d0)).bind fun d1 => (re d1).bind fun d => (appL xs d).bind fun z => (R.ok (setJ j (setIt (.dct ((kvs.map fun q => kD q.1) ++ [kD key]) (es ++ [.lst []])) n z) d0)).bind g) := by
          have m3' : mS W (cf X B G0) δ Dn ((if (kvs.map fun q => kD q.1).any (fun z => keyEq z (kD key)) = true then R.ok (D.dct (kvs.map fun q => kD q.1) es) else R.ok (D.dct ((kvs.map fun q => kD q.1) ++ [kD key]) (es ++ [.lst []]))).bind fun y => (plDx y (kD key)).bind fun n => (itemL y n).bind fun xs => (R.ok (setJ j y d0)).bind fun d1 => (re d1).bind fun d => (appL xs d).bind fun z => (R.ok (setJ j (setIt y n z) d0)).bind g) := m3
          rw [if_neg (by rw [any0]; decide)] at m3'
          exact m3'
        have y0 : ∃ y0, y0 = D.dct ((kvs.map fun q => kD q.1) ++ [kD key]) (es ++ [.lst []]) := ⟨_, rfl⟩
        obtain ⟨y0, ey0⟩ := y0
        rw [← ey0] at m4 st4
        cases en1 : plDx y0 (kD key) with
        | bad => rw [en1] at m4; exact m4.elim
        | exc y => exact (plDx_nx en1).elim
        | ok n =>
          rw [en1] at m4
          have hn1 : ((kvs ++ [(key, V.ref q1)]).map (·.2))[n]? = some (.ref q1) := by
            rw [ey0] at en1
            exact dIdx_new any0 n (plDx_ok en1)
          have m5 : mS W (cf X B G0) δ Dn ((itemL y0 n).bind fun xs => (re (setJ j y0 d0)).bind fun d => (appL xs d).bind fun z => (R.ok (setJ j (setIt y0 n z) d0)).bind g) := m4
          cases eit : itemL y0 n with
          | bad => rw [eit] at m5; exact m5.elim
          | exc y =>
            exfalso
            unfold itemL at eit
            split at eit <;> cases eit
          | ok xs =>
            rw [eit] at m5
            have m6 : mS W (cf X B G0) δ Dn ((re (setJ j y0 d0)).bind fun d => (appL xs d).bind fun z => (R.ok (setJ j (setIt y0 n z) d0)).bind g) := m5
            have hi0 : i < en.length := (List.getElem?_eq_some_iff.mp hd).1
            have hd4 : (en.set i (setJ j y0 d0))[i]? = some (setJ j y0 d0) := List.getElem?_set_self hi0
            have hf4 : fldJ cl f j (setJ j y0 d0) = .ok y0 := fldJ_set hf
            have hpa : (upd H3 a (.dK (kvs ++ [(key, V.ref q1)]))) p = some (.ins C dx fs) := by
              by_cases e : p = a
              · subst e
                rw [hp3] at hb3
                cases hb3
              · rw [upd_ne e]
                exact hp3
            obtain ⟨q2, ws, ew, hq, rs, _⟩ := st4.appIt hk hd4 hf4 hj hpa hl upd_same hn1 eit
            cases ew
            refine ⟨.inl ⟨rfl, ws, SqL.of hq⟩, setJ j y0 d0, G3, Ss4, st4, mS.toR st4 m6 (hex2 _) fun d H5 G5 a5 st5 m7 v5 S5 rv5 => ?_⟩
            have m8 : mS W (cf X B G0) δ Dn ((if xs.length < 16777216 then .ok (.lst (xs ++ [d])) else R.bad).bind fun z => g (setJ j (setIt y0 n z) d0)) := m7
            by_cases hl2 : xs.length < 16777216
            case neg =>
              rw [if_neg hl2] at m8
              exact m8.elim
            rw [if_pos hl2] at m8
            obtain ⟨q2, ws2, ew2, hq2, rs2, fin⟩ := st5.appIt hk hd4 hf4 hj (a5.1 _ _ hpa) hl (a5.1 _ _ upd_same) hn1 eit
            cases ew2
            have hq4 := a5.1 _ _ hq
            rw [hq2] at hq4
            cases hq4
            have fin2 := fin v5 d rv5.1
            rw [List.set_set] at fin2
            have ess : setJ j (setIt y0 n (.lst (xs ++ [d]))) (setJ j y0 d0) = setJ j (setIt y0 n (.lst (xs ++ [d]))) d0 := by
              cases d0 with
              | obj c ns zs =>
                show D.obj c ns ((zs.set j y0).set j _) = D.obj c ns (zs.set j _)
                rw [List.set_set]
              | _ => rfl
            rw [ess] at fin2
            exact ⟨q1, ws, v5, rfl, rfl, hq2, by rw [sizeLine_eq, ← rs2.length]; exact hl2, _, G5, Ss4, fin2, m8⟩
    | _ => exact m2.elim⟩
theorem sv_forPopX {ρ : Type} {u : D → R ρ} {js : List Nat} {vs : ρ → List D} {ke : Kd} {fb : ρ → τ → R (Lp τ α)} {g : τ → R α} (κL : List Kd) (vw : τ → List D) (t0 : D → τ) (F : FldD X.K X.mg cl f) (q : PE X o (tVar i)) (hi : EV X W B G0 κ en ei ki ri) (ht : Tg X tg .F ρ u js vs ke) (h0 : ∀ d1, Wk κ (en.set i d1) κL (vw (t0 d1)))
    (hb : ∀ G0 p t, SV X W B G0 (setK κL js ke) (setL (vw t) js (vs p)) body (δ.loopX κL vw) (fb p t)) (hr : ∀ t, SV X W B G0 κL (vw t) rest δ (g t)) (hp : PassesOwn (model X.prog X.w) X.A X.env X.xe) (hk : κ[i]? = some (.U (OMu p fk)) := by rfl) (hd : en[i]? = some d0 := by rfl) (hj : fk[j]? = some .LL := by rfl) (hc : X.calm = true := by rfl)
    (hjl : ∀ j ∈ js, j < κL.length := by first | decide | simp) (hex : δ.ex κ en := by exact True.intro) (hexL : ∀ t, δ.ex κL (vw t) := by exact fun _ => True.intro)
    (hab : attributeBase o f X.env (eval o X.env) = eval o X.env := by rfl) (hM : M2 X (.Attribute o f pos') "pop" ap ei (.List [] lp) cp := by exact ⟨rfl, rfl, rfl, rfl⟩)
    (hs : ∀ x, foldedSetIterable (.Call (.Attribute (.Attribute o f pos') "pop" ap) [ei, .List [] lp] [] cp) X.env x = pure x := by intro _; rfl) :
    SV X W B G0 κ en (.For tg (.Call (.Attribute (.Attribute o f pos') "pop" ap) [ei, .List [] lp] [] cp) body [] pos :: rest) δ
      ((fldJ cl f j d0).bind fun x => (toDct x).bind fun kx => ri.bind fun jj => (pPopO kx jj).bind fun xy => (R.ok (setJ j xy.2 d0)).bind fun d1 => (rForX xy.1 (t0 d1) fun x t => (u x).bind fun p => fb p t).bind (Go.thn g)) := by
  obtain ⟨hux, gt, pg, hgt⟩ := ht
  have hk0 := hk
  have hbody : PSs X body (fun Dn σ H => ∃ q : Hp × ρ × τ, tSV W ⟨X.K, X.mg, B, q.1⟩ (setK κL js ke) (setL (vw q.2.2) js (vs q.2.1)) (δ.loopX κL vw) (fb q.2.1 q.2.2) Dn σ H) := PSs.all fun q => (hb q.1 q.2.1 q.2.2).ps
  have hrest : PSs X rest (fun Dn σ H => ∃ t, tSV W (cf X B G0) κL (vw t) δ (g t) Dn σ H) := PSs.all fun t => (hr t).ps
  refine ⟨PSs.wk (pss_cons (ps_for hp hc (pi_seq (pe_dpop2 (pe_fldO (B := B) (G0 := G0) F q hk hd hj hab) hi.pe (ev_lst (W := W) (B := B) (G0 := G0) (κ := κ) (en := en) (pos := lp) ea_nil).pe hM)) pg hbody hs) hrest) fun Dn σ H ⟨G, Ss, st, m⟩ => ?_⟩
  obtain ⟨x, hf, m2⟩ := m.toF
  refine ⟨G, Ss, x, st, hf, fun C dx fs w T hpp hl hrep => ?_⟩
  obtain ⟨a, vs', es, S', e1, e2, hcn, hA⟩ := hrep
  subst e1
  cases x with
  | dct ks xs0 =>
    obtain ⟨kvs, hb1, rfl, rfl, rfl⟩ := hcn.dct
    refine ⟨a, rfl, .inl ⟨kvs, .inl hb1⟩, G, Ss, st, mS.toR st (show mS W (cf X B G0) δ Dn (ri.bind fun jj => (pPopO (kvs.map fun q => kD q.1, es) jj).bind fun xy => (R.ok (setJ j xy.2 d0)).bind fun d1 => (rForX xy.1 (t0 d1) fun x t => (u x).bind fun p => fb p t).bind (Go.thn g)) from m2) hex fun jj H2 G2 a2 st2 m3 u2 S2 rv2 => ?_⟩
    have rj := st2.rd rv2
    refine ⟨G2, Ss, st2, fun H3 G3 a3 z S3 rv3 => ?_⟩
    have st3 := st2.adv a3
    have hp3 := a3.1 _ _ (a2.1 _ _ hpp)
    have hb3 := a3.1 _ _ (a2.1 _ _ hb1)
    unfold pPopO at m3
    by_cases k1 : isKey jj = true
    case neg =>
      rw [if_neg k1] at m3
      exact m3.elim
    rw [if_pos k1] at m3
    obtain ⟨key, rfl, rfl⟩ := key_of_D rj k1
    obtain ⟨z1, z2⟩ := valV_dIdx key kvs
    refine ⟨kvs, key, hb3, rfl, fun v hv => ?_, fun hv => ?_⟩
    · cases en1 : dIdx (kvs.map fun q => kD q.1) (kD key) with
      | none =>
        rw [z2 en1] at hv
        cases hv
      | some n =>
        obtain ⟨v', hn1, hn2⟩ := z1 n en1
        rw [hv] at hn2
        cases hn2
        rw [en1] at m3
        have m3' : mS W (cf X B G0) δ Dn ((match es[n]? with
          | some (.lst xs) => (R.ok (xs, dDrop (kvs.map fun q : Key × V => kD q.1) es (kD key)) : R (List D × D))
          | _ => .bad).bind fun xy => (R.ok (setJ j xy.2 d0)).bind fun d1 => (rForX xy.1 (t0 d1) fun x t => (u x).bind fun p => fb p t).bind (Go.thn g)) := m3
        cases ex : es[n]? with
        | none => rw [ex] at m3'; exact m3'.elim
        | some y =>
          rw [ex] at m3'
          cases y with
          | lst xs =>
            obtain ⟨v2, T2, A2, B2, g1, g2, ⟨q2, ws2, ds2, eq2, _, _, _⟩, _⟩ := hA.at ex
            rw [hn1] at g1
            cases g1
            subst eq2
            obtain ⟨Ss', ws, hq, qa, rs, st1⟩ := st3.popIt hk hd hf hj hp3 hl hb3 hv en1 ex
            obtain ⟨d1, ed1⟩ : ∃ d1, d1 = setJ j (dDrop (kvs.map fun q => kD q.1) es (kD key)) d0 := ⟨_, rfl⟩
            rw [← ed1] at st1
            have m1 : mS W (cf X B G0) δ Dn ((rForX xs (t0 d1) fun x t => (u x).bind fun p => fb p t).bind (Go.thn g)) := by rw [ed1]; exact m3'
            have hq1 : (upd H3 a (.dK (dropK kvs key))) q2 = some (.lst ws) := by rw [upd_ne qa]; exact hq
            refine ⟨q2, rfl, .inl ⟨⟨ws, SqL.of hq1⟩, ?_⟩⟩
            have wk : Walks (cf X B G0) .F xs (Itl X.K q2) (frz G3 (upd H3 a (.dK (dropK kvs key))) [q2]) := by
              obtain ⟨a', e, wk⟩ := walks_list (c := cf X B G0) (H1 := upd H3 a (.dK (dropK kvs key))) (G1 := frz G3 (upd H3 a (.dK (dropK kvs key))) [q2]) (k := .F) (xs := xs) (v := .ref q2) (S := []) ⟨⟨q2, ws, rfl, by rw [frz_in (by simp)]; exact hq1, rs⟩, rfl⟩ rfl
              cases e
              exact wk
            generalize frz G3 (upd H3 a (.dK (dropK kvs key))) [q2] = G1 at st1 wk
            generalize upd H3 a (.dK (dropK kvs key)) = H1 at st1
            clear m m2 m3 m3' st3
            have q1 : Same (cf X B G0).G0 G1 := st1.sG
            have n1 := st1.new
            refine ⟨fun i mm σ H => i ≤ xs.length ∧ mm = xs.length - i ∧ ∃ t G Ss, St ⟨X.K, X.mg, B, G1⟩ κL (vw t) σ H G Ss ∧ mS W (cf X B G0) δ Dn ((rForX (xs.drop i) t fun x t => (u x).bind fun p => fb p t).bind (Go.thn g)),
              ⟨xs.length, Nat.zero_le _, by simp, t0 d1, G1, _, (st1.toG).weak (h0 d1), by simpa using m1⟩, ?_⟩
            rintro i mm σ2 H2 ⟨hi2, rfl, t, G2, Ss2, st2, m2⟩
            obtain ⟨wstop, wgo⟩ := wk H2 G2 st2.sG st2.sH st2.sB
            rcases Nat.lt_or_ge i xs.length with hlt | hge
            · have hd : xs[i]? = some xs[i] := List.getElem?_eq_getElem hlt
              obtain ⟨jgo, jy⟩ := wgo i _ hd
              refine .inr ⟨jgo, fun σ' H' => i + 1 ≤ xs.length ∧ ∃ t G Ss, St ⟨X.K, X.mg, B, G1⟩ κL (vw t) σ' H' G Ss ∧ mS W (cf X B G0) δ Dn ((rForX (xs.drop (i + 1)) t fun x t => (u x).bind fun p => fb p t).bind (Go.thn g)), fun σ' H' ⟨h1, z⟩ => ⟨xs.length - (i + 1), by omega, h1, rfl, z⟩, fun x H' y => ?_⟩
              obtain ⟨G3, a3, rv3⟩ := jy x H' y
              have st3 := st2.adv a3
              rw [List.drop_eq_getElem_cons hlt] at m2
              have m3 : mS W (cf X B G0) δ Dn ((((u xs[i]).bind fun p => fb p t).bind (Lp.on fun t => rForX (xs.drop (i + 1)) t fun x t => (u x).bind fun p => fb p t)).bind (Go.thn g)) := m2
              cases eu : u xs[i] with
              | bad => rw [eu] at m3; exact m3.elim
              | exc x => exact (hux _ _ eu).elim
              | ok p =>
                rw [eu] at m3
                have m4 : mS W (cf X B G0) δ Dn (((fb p t).bind (Lp.on fun t => rForX (xs.drop (i + 1)) t fun x t => (u x).bind fun p => fb p t)).bind (Go.thn g)) := m3
                rw [R.bind_assoc] at m4
                refine hgt B G1 κL (vw t) σ2 H' H2 G3 Ss2 xs[i] x p _ st3 (rv3.g0 rfl) eu hjl fun σ4 Ss4 _ st4 => ?_
                refine ⟨⟨G1, p, t⟩, G3, Ss4, st4, ?_⟩
                cases ef : fb p t with
                | bad => rw [ef] at m4; exact m4.elim
                | exc x =>
                  rw [ef] at m4
                  exact fun cv xd κ en σ H G Ss st he hv => m4 cv xd κ en σ H G Ss (st.reG q1 n1) he hv
                | ok l =>
                  rw [ef] at m4
                  cases l with
                  | nx t' =>
                    have m5 : mS W (cf X B G0) δ Dn ((rForX (xs.drop (i + 1)) t' fun x t => (u x).bind fun p => fb p t).bind (Go.thn g)) := m4
                    refine ⟨fun κ en σ H G Ss st ⟨t'', e, w⟩ => ?_, fun _ _ _ _ _ _ _ _ ⟨_, e, _⟩ => (nomatch e), fun _ _ _ _ _ _ _ ⟨_, e, _⟩ => (nomatch e), fun κ en σ H G Ss st ⟨t'', e, w⟩ => ?_⟩
                    · cases e
                      exact ⟨hlt, t', G, Ss, st.weak w, m5⟩
                    · cases e
                      exact ⟨hlt, t', G, Ss, st.weak w, m5⟩
                  | bk t' =>
                    have m5 : mS W (cf X B G0) δ Dn (g t') := m4
                    refine ⟨fun _ _ _ _ _ _ _ ⟨_, e, _⟩ => (nomatch e), fun _ _ _ _ _ _ _ _ ⟨_, e, _⟩ => (nomatch e), fun κ en σ H G Ss st ⟨t'', e, w⟩ => ?_, fun _ _ _ _ _ _ _ ⟨_, e, _⟩ => (nomatch e)⟩
                    cases e
                    exact ⟨t', G, Ss, (st.reG q1 n1).weak w, m5⟩
                  | out a' =>
                    have m5 : mS W ⟨X.K, X.mg, B, G1⟩ δ Dn (.ok a') := mS.reG (c := cf X B G0) (show mS W (cf X B G0) δ Dn (.ok a') from m4) q1 n1
                    refine ⟨fun _ _ _ _ _ _ _ ⟨_, e, _⟩ => (nomatch e), fun k d v H G S a1 rv ⟨a'', e, z⟩ => ?_, fun _ _ _ _ _ _ _ ⟨_, e, _⟩ => (nomatch e), fun _ _ _ _ _ _ _ ⟨_, e, _⟩ => (nomatch e)⟩
                    cases e
                    exact m5.2.1 k d v H G S a1 rv z
            · have e : i = xs.length := by omega
              subst e
              refine .inl ⟨wstop _ (Nat.le_refl _), t, G2, Ss2, st2.reG q1 n1, ?_⟩
              rw [List.drop_length] at m2
              exact m2
          | _ => exact m3'.elim
    · cases en1 : dIdx (kvs.map fun q => kD q.1) (kD key) with
      | some n =>
        obtain ⟨v', hn1, hn2⟩ := z1 n en1
        rw [hv] at hn2
        cases hn2
      | none =>
        rw [en1] at m3
        have same := setJ_same hf
        have m3' : mS W (cf X B G0) δ Dn ((rForX [] (t0 (setJ j (.dct (kvs.map fun q => kD q.1) es) d0)) fun x t => (u x).bind fun p => fb p t).bind (Go.thn g)) := m3
        rw [same] at m3'
        obtain ⟨q2, ws, ds1, ez, eS3, hcz, rsz⟩ := RepL.of_own rv3.1
        subst ez eS3
        have hq : H3 q2 = some (.lst ws) := by
          cases hcz with
          | lst h => exact h
        obtain ⟨qa, qb, _⟩ := rv3.2.2 q2 (by simp)
        obtain ⟨xs, exs⟩ : ∃ xs : List D, xs = [] := ⟨_, rfl⟩
        have hws : ws = [] := by
          cases hcz with
          | lst h => exact List.length_eq_zero_iff.mp (by simpa using rsz.length.symm)
        have st1' := st2.adv (a3.frz (S := [q2]) fun b hb => by
          have e : b = q2 := by simpa using hb
          subst e
          exact ⟨qa, qb⟩)
        obtain ⟨d1, ed1⟩ : ∃ d1, d1 = d0 := ⟨_, rfl⟩
        have st1 : St (cf X B G0) κ (en.set i d1) σ H3 (frz G3 H3 [q2]) Ss := by rw [ed1, set_same hd]; exact st1'
        have m1 : mS W (cf X B G0) δ Dn ((rForX xs (t0 d1) fun x t => (u x).bind fun p => fb p t).bind (Go.thn g)) := by rw [ed1, exs]; exact m3'
        refine ⟨q2, rfl, .inl ⟨⟨ws, SqL.of hq⟩, ?_⟩⟩
        have wk : Walks (cf X B G0) .F xs (Itl X.K q2) (frz G3 H3 [q2]) := by
          obtain ⟨a', e, wk⟩ := walks_list (c := cf X B G0) (H1 := H3) (G1 := frz G3 H3 [q2]) (k := .F) (xs := xs) (v := .ref q2) (S := []) ⟨⟨q2, ws, rfl, by rw [frz_in (by simp)]; exact hq, by rw [exs, hws]; exact .nil⟩, rfl⟩ rfl
          cases e
          exact wk
        generalize frz G3 H3 [q2] = G1 at st1 wk
        generalize H3 = H1 at st1
        clear m m2 m3 m3' st3
        have q1 : Same (cf X B G0).G0 G1 := st1.sG
        have n1 := st1.new
        refine ⟨fun i mm σ H => i ≤ xs.length ∧ mm = xs.length - i ∧ ∃ t G Ss, St ⟨X.K, X.mg, B, G1⟩ κL (vw t) σ H G Ss ∧ mS W (cf X B G0) δ Dn ((rForX (xs.drop i) t fun x t => (u x).bind fun p => fb p t).bind (Go.thn g)),
          ⟨xs.length, Nat.zero_le _, by simp, t0 d1, G1, _, (st1.toG).weak (h0 d1), by simpa using m1⟩, ?_⟩
        rintro i mm σ2 H2 ⟨hi2, rfl, t, G2, Ss2, st2, m2⟩
        obtain ⟨wstop, wgo⟩ := wk H2 G2 st2.sG st2.sH st2.sB
        rcases Nat.lt_or_ge i xs.length with hlt | hge
        · have hd : xs[i]? = some xs[i] := List.getElem?_eq_getElem hlt
          obtain ⟨jgo, jy⟩ := wgo i _ hd
          refine .inr ⟨jgo, fun σ' H' => i + 1 ≤ xs.length ∧ ∃ t G Ss, St ⟨X.K, X.mg, B, G1⟩ κL (vw t) σ' H' G Ss ∧ mS W (cf X B G0) δ Dn ((rForX (xs.drop (i + 1)) t fun x t => (u x).bind fun p => fb p t).bind (Go.thn g)), fun σ' H' ⟨h1, z⟩ => ⟨xs.length - (i + 1), by omega, h1, rfl, z⟩, fun x H' y => ?_⟩
          obtain ⟨G3, a3, rv3⟩ := jy x H' y
          have st3 := st2.adv a3
          rw [List.drop_eq_getElem_cons hlt] at m2
          have m3 : mS W (cf X B G0) δ Dn ((((u xs[i]).bind fun p => fb p t).bind (Lp.on fun t => rForX (xs.drop (i + 1)) t fun x t => (u x).bind fun p => fb p t)).bind (Go.thn g)) := m2
          cases eu : u xs[i] with
          | bad => rw [eu] at m3; exact m3.elim
          | exc x => exact (hux _ _ eu).elim
          | ok p =>
            rw [eu] at m3
            have m4 : mS W (cf X B G0) δ Dn (((fb p t).bind (Lp.on fun t => rForX (xs.drop (i + 1)) t fun x t => (u x).bind fun p => fb p t)).bind (Go.thn g)) := m3
            rw [R.bind_assoc] at m4
            refine hgt B G1 κL (vw t) σ2 H' H2 G3 Ss2 xs[i] x p _ st3 (rv3.g0 rfl) eu hjl fun σ4 Ss4 _ st4 => ?_
            refine ⟨⟨G1, p, t⟩, G3, Ss4, st4, ?_⟩
            cases ef : fb p t with
            | bad => rw [ef] at m4; exact m4.elim
            | exc x =>
              rw [ef] at m4
              exact fun cv xd κ en σ H G Ss st he hv => m4 cv xd κ en σ H G Ss (st.reG q1 n1) he hv
            | ok l =>
              rw [ef] at m4
              cases l with
              | nx t' =>
                have m5 : mS W (cf X B G0) δ Dn ((rForX (xs.drop (i + 1)) t' fun x t => (u x).bind fun p => fb p t).bind (Go.thn g)) := m4
                refine ⟨fun κ en σ H G Ss st ⟨t'', e, w⟩ => ?_, fun _ _ _ _ _ _ _ _ ⟨_, e, _⟩ => (nomatch e), fun _ _ _ _ _ _ _ ⟨_, e, _⟩ => (nomatch e), fun κ en σ H G Ss st ⟨t'', e, w⟩ => ?_⟩
                · cases e
                  exact ⟨hlt, t', G, Ss, st.weak w, m5⟩
                · cases e
                  exact ⟨hlt, t', G, Ss, st.weak w, m5⟩
              | bk t' =>
                have m5 : mS W (cf X B G0) δ Dn (g t') := m4
                refine ⟨fun _ _ _ _ _ _ _ ⟨_, e, _⟩ => (nomatch e), fun _ _ _ _ _ _ _ _ ⟨_, e, _⟩ => (nomatch e), fun κ en σ H G Ss st ⟨t'', e, w⟩ => ?_, fun _ _ _ _ _ _ _ ⟨_, e, _⟩ => (nomatch e)⟩
                cases e
                exact ⟨t', G, Ss, (st.reG q1 n1).weak w, m5⟩
              | out a' =>
                have m5 : mS W ⟨X.K, X.mg, B, G1⟩ δ Dn (.ok a') := mS.reG (c := cf X B G0) (show mS W (cf X B G0) δ Dn (.ok a') from m4) q1 n1
                refine ⟨fun _ _ _ _ _ _ _ ⟨_, e, _⟩ => (nomatch e), fun k d v H G S a1 rv ⟨a'', e, z⟩ => ?_, fun _ _ _ _ _ _ _ ⟨_, e, _⟩ => (nomatch e), fun _ _ _ _ _ _ _ ⟨_, e, _⟩ => (nomatch e)⟩
                cases e
                exact m5.2.1 k d v H G S a1 rv z
        · have e : i = xs.length := by omega
          subst e
          refine .inl ⟨wstop _ (Nat.le_refl _), t, G2, Ss2, st2.reG q1 n1, ?_⟩
          rw [List.drop_length] at m2
          exact m2
  | _ => exact m2.elim
theorem sv_forPop {ρ : Type} {u : D → R ρ} {js : List Nat} {vs : ρ → List D} {ke : Kd} {fb : ρ → τ → R τ} {g : τ → R α} (κL : List Kd) (vw : τ → List D) (t0 : D → τ) (F : FldD X.K X.mg cl f) (q : PE X o (tVar i)) (hi : EV X W B G0 κ en ei ki ri) (ht : Tg X tg .F ρ u js vs ke) (h0 : ∀ d1, Wk κ (en.set i d1) κL (vw (t0 d1)))
    (hb : ∀ G0 p t, SV X W B G0 (setK κL js ke) (setL (vw t) js (vs p)) body (δ.loop κL vw) (fb p t)) (hr : ∀ t, SV X W B G0 κL (vw t) rest δ (g t)) (hp : PassesOwn (model X.prog X.w) X.A X.env X.xe) (hk : κ[i]? = some (.U (OMu p fk)) := by rfl) (hd : en[i]? = some d0 := by rfl) (hj : fk[j]? = some .LL := by rfl) (hc : X.calm = true := by rfl)
    (hjl : ∀ j ∈ js, j < κL.length := by first | decide | simp) (hex : δ.ex κ en := by exact True.intro) (hexL : ∀ t, δ.ex κL (vw t) := by exact fun _ => True.intro)
    (hab : attributeBase o f X.env (eval o X.env) = eval o X.env := by rfl) (hM : M2 X (.Attribute o f pos') "pop" ap ei (.List [] lp) cp := by exact ⟨rfl, rfl, rfl, rfl⟩)
    (hs : ∀ x, foldedSetIterable (.Call (.Attribute (.Attribute o f pos') "pop" ap) [ei, .List [] lp] [] cp) X.env x = pure x := by intro _; rfl) :
    SV X W B G0 κ en (.For tg (.Call (.Attribute (.Attribute o f pos') "pop" ap) [ei, .List [] lp] [] cp) body [] pos :: rest) δ
      ((fldJ cl f j d0).bind fun x => (toDct x).bind fun kx => ri.bind fun jj => (pPopO kx jj).bind fun xy => (R.ok (setJ j xy.2 d0)).bind fun d1 => (rFor xy.1 (t0 d1) fun x t => (u x).bind fun p => fb p t).bind g) := by
  have h := sv_forPopX (δ := δ) (pos := pos) (rest := rest) (fb := fun p t => (fb p t).bind fun t => .ok (.nx t)) (g := g) κL vw t0 F q hi ht h0 (fun G0 p t => (hb G0 p t).map Lp.nx (fun κ en a w => ⟨a, rfl, w⟩) (fun _ _ _ z => z.elim) (fun _ _ z => z) (fun _ _ _ z => z.elim) fun κ en a w => ⟨a, rfl, w⟩) hr hp hk hd hj hc hjl hex hexL hab hM hs
  refine h.cast ?_
  congr 1
  funext x
  congr 1
  funext kx
  congr 1
  funext jj
  congr 1
  funext xy
  congr 1
  funext d1
  rw [← rForX_for]
  congr 2
  funext x t
  rw [R.bind_assoc]
end
end Lw
namespace Lw
open PySem PySem.Spec PyProof.Rows L2
section
variable {α : Type} {X : Cx} {W : WX} {B G0 : Hp} {κ : List Kd} {en : List D} {e : Expr} {k : RK} {r : R D} {δ : DE α} {pos : Pos} {rest : List Stmt} {d0 : D} {pM : Addr}
end
section
variable {α : Type} {X : Cx} {W : WX} {B G0 : Hp} {κ κ2 : List Kd} {en en2 : List D} {t e : Expr} {es : List Expr} {δ : DE α} {pos cp p bp up : Pos} {rest body : List Stmt} {d0 : D} {i j n k : Nat} {x : Str} {f : List D → R D} {rs : R (List D)} {L : Lent} {kk : Kd} {rb : R Bool} {s1 s2 : R α}
end
end Lw
namespace Lw
open PySem PySem.Spec PyProof.Rows PySem.Calls
section
variable {prog : Program} {w : World} {K : Type} [DecidableEq K] {knd : KeyKind prog w K} {A : Around} {s : Shared}
end
open L2
section
variable {X : Cx}
end
end Lw
namespace Lw
open PySem PySem.Spec PyProof.Rows L2
section
variable {K : PySem.W.Frag} {mg : Str → Option Value} {S : List Addr} {H G G2 : Hp} {b : Addr} {o : HO}
theorem Reps.of_get : ∀ {ds : List D} {vs : List V}, ds.length = vs.length → (∀ (k : Nat) (d : D) (v : V), ds[k]? = some d → vs[k]? = some v → Rep K mg G d v) → Reps K mg G ds vs
  | [], [], _, _ => rfl
  | d :: ds, v :: vs, h, f => ⟨v, vs, rfl, f 0 d v rfl rfl, Reps.of_get (by simpa using h) fun k d v h1 h2 => f (k + 1) d v (by simpa using h1) (by simpa using h2)⟩
  | [], _ :: _, h, _ => by simp at h
  | _ :: _, [], h, _ => by simp at h
end
def isI : D → Bool
  | .int _ => true
  | _ => false
def Its (K : PySem.W.Frag) (H G : Hp) (S : List Addr) (P : Nat → List D → List V → Prop) (ys : List D) (vs : List V) : Prop :=
  ys.length = vs.length ∧ ∀ (k : Nat) (y : D) (v : V), ys[k]? = some y → vs[k]? = some v → ∃ t s q xs ws, v = .ref t ∧ y = .tup [.str s, .lst xs] ∧ sOk s = true ∧ SqT K G t [.str s, .ref q] ∧ q ∈ S ∧ H q = some (.lst ws) ∧ P k xs ws
theorem Its.reps {K : PySem.W.Frag} {mg : Str → Option Value} {H G G2 : Hp} {S : List Addr} {ys : List D} {vs : List V} (h : Its K H G S (fun _ xs ws => Reps K mg G xs ws) ys vs) (s : Same G G2) (f : ∀ q ∈ S, ∀ o, H q = some o → G2 q = some o) : Reps K mg G2 ys vs :=
  Reps.of_get h.1 fun k y v h1 h2 => by
    obtain ⟨t, s', q, xs, ws, e1, e2, e3, e4, e5, e6, e7⟩ := h.2 k y v h1 h2
    subst e1 e2
    exact ⟨t, _, rfl, sqT_mono s e4, .str s', [.ref q], rfl, ⟨rfl, e3⟩, .ref q, [], rfl, ⟨q, ws, rfl, f q e5 _ e6, e7.mono s⟩, rfl⟩
section
variable {α : Type} {X : Cx} {W : WX} {B G0 : Hp} {κ κ' : List Kd} {en : List D} {e : Expr} {r : R D} {δ : DE α} {pos : Pos} {rest : List Stmt} {di dj d0 : D}
end
section
variable {c : Cf} {κ : List Kd} {en : List D} {σ : L2.St} {H G : Hp} {Ss : Nat → List Addr} {i j : Nat}
end
section
variable {α : Type} {X : Cx} {W : WX} {B G0 : Hp} {κ : List Kd} {en : List D} {δ : DE α} {pos : Pos} {rest : List Stmt} {d0 : D}
end
end Lw
namespace L2
open PySem PySem.Spec PyProof.Rows
section
variable {X : Cx} {pins : List (Addr × Obj)} {σ : St} {H : Hp} {s : Shared} {d : Addr} {o : Obj}
end
section
variable {P : Program} {w : World} {K : PySem.W.Frag} {tg : Expr} {d : Addr} {o : Obj} {es : Array DictEntry} {ep : Nat}
end
section
variable {X : Cx} {tg e : Expr} {td : TE} {apos cpos : Pos}
end
end L2
namespace Lw
open PySem PySem.Spec PyProof.Rows L2
section
variable {α : Type} {X : Cx} {W : WX} {B G0 : Hp} {κ κ' : List Kd} {en : List D} {e t ret tg : Expr} {r : R D} {pos ap cp p2 p3 : Pos} {rest : List Stmt} {s : R D}
end
end Lw
namespace Lw
open PySem PySem.Spec PyProof.Rows L2
section
variable {K : PySem.W.Frag} {mg : Str → Option Value} {G : Hp} {q : Addr}
def PairAt (G : Hp) (q : Addr) : Prop := ∃ v1 v2, (∀ a, v1 ≠ .ref a) ∧ (∀ a, v2 ≠ .ref a) ∧ (G q = some (.tup [v1, v2]) ∨ ∃ o, G q = some (.frz o (.tup [v1, v2])))
theorem PairAt.mono {G' : Hp} (h : PairAt G q) (e : G' q = G q) : PairAt G' q := by
  obtain ⟨v1, v2, n1, n2, h⟩ := h
  exact ⟨v1, v2, n1, n2, by rw [e]; exact h⟩
end
section
variable {X : Cx} {W : WX} {B G0 : Hp} {κ : List Kd} {en : List D} {e t ret : Expr} {r : R D} {δ : DE D} {pos p2 p3 : Pos} {rest : List Stmt} {d' : D} {p : Addr} {i j : Nat}
end
section
variable {X : Cx} {W : WX} {B G0 : Hp} {κ : List Kd} {en : List D} {e1 e2 e3 : Expr} {r1 r2 r3 : R D} {p cp : Pos} {k : Nat} {x : Str} {f : List D → R D}
end
end Lw
namespace Lw
open PySem PySem.Spec PyProof.Rows L2
section
variable {P : Program} {w : World} {K : PySem.W.Frag} {mg : Str → Option Value} {base : Heap} {k : Nat} {fa : Addr} {fd : FuncData} {ps : List Str} {pk : List PK} {rk : RK}
end
end Lw
namespace Lw
open PySem PySem.Spec PyProof.Rows L2
section
variable {X : Cx} {W : WX} {B G0 : Hp} {κ : List Kd} {en : List D} {a b : Expr} {ra rb : R D} {d0 : D} {pos : Pos} {i : Nat}
end
end Lw
namespace Lw
open PySem PySem.Spec PyProof.Rows L2
section
variable {K : PySem.W.Frag} {mg : Str → Option Value} {G : Hp} {b : Addr}
end
section
variable {X : Cx} {W : WX} {B G0 : Hp} {κ : List Kd} {en : List D} {e : Expr} {es : List Expr} {rs : R (List D)} {f : List D → R D} {pk : List PK} {k : Nat} {x : Str} {p pos : Pos}
end
section
variable {α : Type} {X : Cx} {W : WX} {B G0 : Hp} {κ : List Kd} {en : List D} {δ : DE α} {rest : List Stmt}
end
end Lw
namespace Lw
open PySem PySem.Spec PyProof.Rows L2
structure FnG (P : Program) (w : World) (K : PySem.W.Frag) (mg : Str → Option Value) (base : Heap) (k : Nat) (fa : Addr) (fd : FuncData) (ps : List Str) (sp : Sp) : Prop where
  ln : ∀ vs H Q E, sp vs H Q E → vs.length = ps.length
  go : ∀ (Z : Around) (ou : List Env) (t : Shared) (H : Hp) (ar : Args) (us : List Value) (vs : List V) (Q : VK) (E : XK), Z.guards = some [] → Room k Z → Env0 P w K mg base Z ou t H → BindsTo t fd ar (ps.zip us) → Vals vs us → sp vs H Q E →
    codeAny (model P w) Z (.call (.ref fa) ar) (CR (L2.CX P w) ou P w H t Q E) t
section
variable {P : Program} {w : World} {K : PySem.W.Frag} {mg : Str → Option Value} {base : Heap}
theorem fg_ok {x qual : Str} {params : Arguments} {body : List Stmt} {sc : Scope} {fa : Addr} {fd : FuncData} {N ps : List Str} {k : Nat} {f : List D → R D} {pk : List PK} {rk : RK} (F : FunD K x qual params body sc [] [] fa fd) (S : FnScope N ps sc) (hl : pk.length = ps.length) (hN : pk.length ≤ N.length)
    (hb : ∀ (cdv : Value) (A : Around) (outer : List Env) (s : Shared) (H : Hp) (E : XK) (G : Hp) (ds : List D), Room k (A.deeper (envOfC qual sc s.heap.objs.size fa cdv)) → (A.deeper (envOfC qual sc s.heap.objs.size fa cdv)).guards = some [] → ds.length = ps.length →
      SV (cxOf (L2.CX P w) P w K mg base N qual sc fa cdv A outer s H E) (fun cv xd _ H' => E cv xd H') H G (kStart pk N.length) (dStart ds N.length) body (dDef rk) (f ds)) :
    FnG P w K mg base (k + 1) fa fd ps (spF K mg f pk rk) := by
  obtain ⟨oc, od, dV, kV, doc, pm, an, cdv, ct, osl, e, lk, hcd, _, _⟩ := F.ex
  subst e
  have ln : ∀ vs H Q E, spF K mg f pk rk vs H Q E → vs.length = ps.length := fun vs H Q E ⟨G, ds, s, a, m⟩ => by
    obtain ⟨l1, l2⟩ := a.length
    omega
  refine ⟨ln, fun Z ou t H ar us vs Q E hg hr z bt rv hsp => ?_⟩
  have n0 := ln _ _ _ _ hsp
  have kin : K.In t.heap := e_kin z
  have nol : t.heap.NoLimit := e_nol z
  refine codeAny_call_function hr.depth (kin _ _ lk) rfl S.co S.gen rfl (PySem.W.codeRec_of kin hcd) (bt _ _ _ _ ?_)
  refine wpAny_newFunctionEnv_cells S.kind (fun y hy => ?_) fun env ee t1 y => ?_
  · rcases S.par y.1 (List.of_mem_zip hy).1 with q | q
    · exact .inl q
    · exact .inr ⟨q, PySem.W.cellsFrom_some _ _ _ (.inl q)⟩
  subst ee
  refine ⟨nol.keeps y.toInCall.keep, codeAny_func ?_⟩
  obtain ⟨G, ds, sG, a, m⟩ := hsp
  obtain ⟨l1, l2⟩ := a.length
  have J : Inv (cxOf (L2.CX P w) P w K mg base N qual sc fa cdv Z ou t H E) [] (L2.start N vs) H t1 := inv_start S hr.hd z n0 rv y
  have B := (hb cdv Z ou t H E G ds (hr.deeper _) hg (by omega)).ps
  refine wpAny_mono (B.run [] t1 (L2.start N vs) H { nx := fun _ H' => Q .non H', rt := Q } J ⟨G, _, St.start sG a hN, ?_⟩) (fun fl t2 hs => ?_) fun _ _ hs => hs
  · cases hf : f ds with
    | bad => rw [hf] at m; exact m.elim
    | exc x =>
      rw [hf] at m
      exact fun cv xd κ en σ H' G' Ss st _ hv => m cv xd H' G' st.adv0 hv
    | ok d =>
      rw [hf] at m
      refine ⟨fun κ en σ H' G' Ss st ⟨e1, e2⟩ => ?_, fun k' d' v H' G' S a1 rv ⟨e1, e2⟩ => ?_, fun _ _ _ _ _ _ _ z => z.elim, fun _ _ _ _ _ _ _ z => z.elim⟩
      · subst e1 e2
        exact m H' G' st.adv0 .non [] ⟨rfl, rfl⟩
      · subst e1 e2
        exact m H' G' a1 v S rv
  · match fl, hs with
    | .ret u, ⟨v, σ2, H2, J2, r2, q2⟩ => exact ⟨v, H2, J2.os, J2.bare, J2.base, J2.hok, r2, q2⟩
    | .next, ⟨σ2, H2, J2, q2⟩ => exact ⟨V.non, H2, J2.os, J2.bare, J2.base, J2.hok, rfl, q2⟩
    | .brk, ⟨_, _, _, q2⟩ => exact False.elim q2
    | .cont, ⟨_, _, _, q2⟩ => exact False.elim q2
where
  e_kin {P : Program} {w : World} {K : PySem.W.Frag} {mg : Str → Option Value} {base : Heap} {Z : Around} {ou : List Env} {t : Shared} {H : Hp} (z : Env0 P w K mg base Z ou t H) : K.In t.heap := z.mod.kin.keeps fun b o q => (z.bs b o q).1
  e_nol {P : Program} {w : World} {K : PySem.W.Frag} {mg : Str → Option Value} {base : Heap} {Z : Around} {ou : List Env} {t : Shared} {H : Hp} (z : Env0 P w K mg base Z ou t H) : t.heap.NoLimit := z.mod.nolimit.keeps fun b o q => (z.bs b o q).1
theorem mod_hid {mb : Str → Option Value} {h : Heap} {H : Hp} {a : Addr} {vs : List Value} (kin : K.In h) (gl : h.Ns mainGlobals mg) (bl : h.Ns builtinsNs mb) (bb : ∀ x : Str, x ≠ "__name__" → mb x = bootBuiltins x) (nl : h.NoLimit)
    (ha : h.get? a = some { cls := .type "list", data := .seq vs.toArray }) (one : ∀ b, b ≠ a → H b = none) (off : H a = none ∨ K.lookup a = none) : K.In (hidT h H) ∧ (hidT h H).Ns mainGlobals mg ∧ Mod K mg (hidT h H) := by
  have ns : ∀ {b : Addr} {m : Str → Option Value}, h.Ns b m → (hidT h H).Ns b m := by
    rintro b m ⟨o, es, ep, e, d, r⟩
    refine ⟨o, es, ep, hidT_get e (one b fun z => ?_), d, r⟩
    subst z
    rw [ha] at e
    cases e
    cases (show Data.seq vs.toArray _ = Data.dict es ep from d)
  have ki : K.In (hidT h H) := fun b o e => by
    refine hidT_get (kin b o e) ?_
    by_cases z : b = a
    · rcases off with q | q
      · rw [z]; exact q
      · rw [z, q] at e; cases e
    · exact one b z
  obtain ⟨mc, n1, n2⟩ := nl
  exact ⟨ki, ns gl, ki, ns gl, ⟨mb, ns bl, bb⟩, mc, ns n1, n2⟩
theorem law_callG {mb : Str → Option Value} {k : Nat} {fa a : Addr} {fd : FuncData} {x : Str} {sp : Sp} {t : Shared} {vs : List Value} {ns : List Int} (kin : K.In t.heap) (gl : t.heap.Ns mainGlobals mg) (bl : t.heap.Ns builtinsNs mb) (bb : ∀ x : Str, x ≠ "__name__" → mb x = bootBuiltins x) (nl : t.heap.NoLimit) (hg : t.gens = #[])
    (ha : t.heap.get? a = some { cls := .type "list", data := .seq vs.toArray }) (hi : IntsAre vs ns) (hn : ns.length ≤ sizeLine) (hr : Room k callerA) (F : ∀ base : Heap, FnG P w K mg base k fa fd [x] sp) (bt : ∀ (s : Shared) (u : Value), BindsTo s fd ⟨[u], []⟩ [(x, u)])
    (hsp : ∀ H : Hp, SqL K H a (ns.map V.int) → sp [.ref a] H (fun v _ => v = .bl true) fun _ _ _ => False) :
    codeAny (model P w) callerA (.call (.ref fa) ⟨[.ref a], []⟩) (fun r t2 => r = .ok (.ret (.bool true)) ∧ OldK t.heap t2.heap ∧ t2.os = t.os ∧ AllBare t2.gens) t := by
  have rv := vals_ints hi
  suffices main : ∀ H : Hp, Only H → SqL K H a (ns.map V.int) → HOk P w H t.heap → (∀ b, b ≠ a → H b = none) → (H a = none ∨ K.lookup a = none) →
      codeAny (model P w) callerA (.call (.ref fa) ⟨[.ref a], []⟩) (fun r t2 => r = .ok (.ret (.bool true)) ∧ OldK t.heap t2.heap ∧ t2.os = t.os ∧ AllBare t2.gens) t by
    cases hk : K.lookup a with
    | some o =>
      have e := kin a o hk
      rw [ha] at e
      cases e
      exact main (fun _ => none) (fun _ => .inl rfl) (.inr ⟨_, vs.toArray, _, hk, rfl, rfl, rfl, by rw [List.size_toArray, hi.length]; exact hn, by simpa using rv⟩) (fun b u z => by cases (show (none : Option HO) = some u from z)) (fun _ _ => rfl) (.inl rfl)
    | none =>
      let o1 : HO := .frz { cls := .type "list", data := .seq vs.toArray } (.lst (ns.map V.int))
      have in_ : (fun b : Addr => if b = a then some o1 else none) a = some o1 := if_pos rfl
      refine main (fun b => if b = a then some o1 else none) (fun b => ?_) (.inl (.inr ⟨_, in_⟩)) (fun b u z => ?_) (fun b z => if_neg z) (.inr hk)
      · by_cases q : b = a
        · exact .inr ⟨_, _, by rw [q]; exact in_⟩
        · exact .inl (if_neg q)
      · by_cases q : b = a
        · subst q
          rw [in_] at z
          cases z
          exact ⟨ha, by rw [List.length_map]; exact hn, vs, _, rv, ha⟩
        · have z2 : (if b = a then some o1 else none) = some u := z
          rw [if_neg q] at z2
          cases z2
  intro H hO hS hok one off
  obtain ⟨_, _, M⟩ := mod_hid kin gl bl bb nl ha one off
  have z0 : Env0 P w K mg (hidT t.heap H) callerA [] t H := ⟨rfl, M, fun b o e => of_hidT e, Nat.le_of_eq (hidT_size _ _), trivial, fun b hb => (by cases hb), hok, .of_eq hg⟩
  refine codeAny_mono ((F _).go callerA [] t H ⟨[.ref a], []⟩ [.ref a] [.ref a] _ _ rfl hr z0 (bt t (.ref a)) (.cons rfl .nil) (hsp H hS)) fun r t2 c => ?_
  match r, c with
  | .error e, c =>
    obtain ⟨_, _, _, _, q⟩ := c
    simp at q
  | .ok (.ret u), ⟨v, H2, os, bare, un, hok2, r2, q⟩ =>
    cases (show v = .bl true from q)
    cases (show u = Value.bool true from r2)
    refine ⟨rfl, OldK.of_keep fun b o e => ?_, os, bare⟩
    rcases hO b with q | ⟨ob, xs, q⟩
    · exact un.keep b o e q (fun q => by cases q) (by simp)
    · obtain ⟨e1, _⟩ := hok b _ q
      obtain ⟨e2, _⟩ := hok2 b _ (un.frzs b ob _ q)
      rw [e] at e1
      cases e1
      exact e2
end
mutual
def pyR : D → PyData
  | .non => .none
  | .bl b => .bool b
  | .int i => .int i
  | .str s => .str s
  | .lst xs => .list (pysR xs)
  | .tup xs => .tuple (pysR xs)
  | .dct ks xs => .dict ((pysR ks).zip (pysR xs))
  | .scr _ => .none
  | .dcT _ _ => .none
  | .obj _ _ _ => .none
  | .exc _ _ _ => .none
def pysR : List D → List PyData
  | [] => []
  | d :: ds => pyR d :: pysR ds
end
mutual
def plR : D → Nat → Bool
  | .lst xs, n => match n with
    | 0 => false
    | m + 1 => plsR xs m
  | .tup xs, n => match n with
    | 0 => false
    | m + 1 => plsR xs m
  | .dct ks xs, n => match n with
    | 0 => false
    | m + 1 => plsR ks m && plsR xs m
  | .scr _, _ => false
  | .dcT _ _, _ => false
  | .obj _ _ _, _ => false
  | .exc _ _ _, _ => false
  | .non, _ => true
  | .bl _, _ => true
  | .int _, _ => true
  | .str _, _ => true
def plsR : List D → Nat → Bool
  | [], _ => true
  | d :: ds, n => plR d n && plsR ds n
end
theorem pysR_length : ∀ xs : List D, (pysR xs).length = xs.length
  | [] => by simp [pysR]
  | x :: xs => by simp [pysR, pysR_length xs]
theorem depthKv_zip {n : Nat} : ∀ {as bs : List PyData}, PyData.depthAll as ≤ n → PyData.depthAll bs ≤ n → PyData.depthKv (as.zip bs) ≤ n
  | [], _, _, _ => by simp [PyData.depthKv]
  | _ :: _, [], _, _ => by simp [PyData.depthKv]
  | a :: as, b :: bs, ha, hb => by
    simp only [PyData.depthAll] at ha hb
    have := depthKv_zip (n := n) (as := as) (bs := bs) (by omega) (by omega)
    simp only [List.zip_cons_cons, PyData.depthKv]
    omega
mutual
theorem depth_plR : ∀ (x : D) (n : Nat), plR x n = true → (pyR x).depth ≤ n
  | .non, n, _ => by simp [pyR, PyData.depth]
  | .bl a, n, _ => by simp [pyR, PyData.depth]
  | .int i, n, _ => by simp [pyR, PyData.depth]
  | .str s, n, _ => by simp [pyR, PyData.depth]
  | .lst xs, 0, h => by simp [plR] at h
  | .lst xs, m + 1, h => by
    have := depth_plsR xs m (by simpa [plR] using h)
    simp only [pyR, PyData.depth]
    omega
  | .tup xs, 0, h => by simp [plR] at h
  | .tup xs, m + 1, h => by
    have := depth_plsR xs m (by simpa [plR] using h)
    simp only [pyR, PyData.depth]
    omega
  | .dct ks xs, 0, h => by simp [plR] at h
  | .dct ks xs, m + 1, h => by
    obtain ⟨h1, h2⟩ : plsR ks m = true ∧ plsR xs m = true := by simpa [plR] using h
    have a := depth_plsR ks m h1
    have b := depth_plsR xs m h2
    have := depthKv_zip a b
    simp only [pyR, PyData.depth]
    omega
  | .scr _, _, h => by simp [plR] at h
  | .dcT _ _, _, h => by simp [plR] at h
  | .obj _ _ _, _, h => by simp [plR] at h
  | .exc _ _ _, _, h => by simp [plR] at h
theorem depth_plsR : ∀ (xs : List D) (n : Nat), plsR xs n = true → PyData.depthAll (pysR xs) ≤ n
  | [], n, _ => by simp [pysR, PyData.depthAll]
  | x :: xs, n, h => by
    obtain ⟨h1, h2⟩ : plR x n = true ∧ plsR xs n = true := by simpa [plsR] using h
    have a := depth_plR x n h1
    have b := depth_plsR xs n h2
    simp only [pysR, PyData.depthAll]
    omega
end
theorem kv_reads {P : Program} {w : World} {h : Heap} : ∀ {kvs : List (Key × V)} {vs : List (Key × Value)} {es : List DictEntry}, KV kvs vs → Pairs (mixKind P w) es vs →
    ReadsAll h (es.map (·.key)) (pysR (kvs.map fun p => kD p.1)) [] ∧ Vals (kvs.map (·.2)) (es.map (·.val))
  | [], _, _, .nil, .nil => ⟨.nil, .nil⟩
  | (k, v) :: kvs, _, _, .cons ⟨e1, r⟩ a, .cons i e2 b => by
    obtain ⟨c1, c2⟩ := kv_reads (h := h) a b
    dsimp only at e1 r
    subst e1
    refine ⟨?_, .cons (by show RelV v (DictEntry.val _); rw [e2]; exact r) c2⟩
    rcases keyIs_shape i with ⟨j, t, e3, e4⟩ | ⟨y, t, e3, e4⟩
    · have z : ReadsAll h (Value.int j t :: _) (PyData.int j :: _) ([] ++ []) := ReadsAll.cons (.int j t) c1
      rw [List.map_cons, List.map_cons, e4]
      show ReadsAll h _ (pysR (kD _ :: _)) []
      rw [e3]
      simpa [pysR, pyR, kD] using z
    · have z : ReadsAll h (Value.str y t :: _) (PyData.str y :: _) ([] ++ []) := ReadsAll.cons (.str y t) c1
      rw [List.map_cons, List.map_cons, e4]
      show ReadsAll h _ (pysR (kD _ :: _)) []
      rw [e3]
      simpa [pysR, pyR, kD] using z
section
variable {X : Cx} {pins : List (Addr × Obj)} {σ : L2.St} {H : Hp} {s : Shared}
mutual
theorem Rep.rd (I : Inv X pins σ H s) : ∀ (x : D) (n : Nat) {v : V} {u : Value}, Rep X.K X.mg H x v → RelV v u → plR x n = true → ∃ as, Reads s.heap u (pyR x) as ∧ ∀ a ∈ as, H a ≠ none
  | .non, n, v, u, h, r, _ => by
    cases (show v = .non from h)
    cases r
    exact ⟨_, by simpa [pyR] using Reads.none, fun a ha => by cases ha⟩
  | .bl b, n, v, u, h, r, _ => by
    cases (show v = .bl b from h)
    cases r
    exact ⟨_, by simpa [pyR] using Reads.bool b, fun a ha => by cases ha⟩
  | .int i, n, v, u, h, r, _ => by
    cases (show v = .int i from h)
    obtain ⟨t, rfl⟩ := r
    exact ⟨_, by simpa [pyR] using Reads.int i t, fun a ha => by cases ha⟩
  | .str y, n, v, u, h, r, _ => by
    cases h.1
    obtain ⟨t, rfl⟩ := r
    exact ⟨_, by simpa [pyR] using Reads.str y t, fun a ha => by cases ha⟩
  | .lst xs, 0, v, u, _, _, h => by simp [plR] at h
  | .lst xs, m + 1, v, u, ⟨a, vs, e, q, rs⟩, r, h => by
    subst e
    cases r
    obtain ⟨its, rv, ⟨o, k, ho, hc, _, hd⟩, _⟩ := I.list (SqL.of q)
    obtain ⟨as, h1, h2⟩ := Reps.rd I xs m rs rv (by simpa [plR] using h)
    refine ⟨a :: as, by simpa [pyR] using Reads.list ho hc hd h1, fun b hb => ?_⟩
    rcases List.mem_cons.mp hb with z | z
    · rw [z, q]; simp
    · exact h2 b z
  | .tup xs, 0, v, u, _, _, h => by simp [plR] at h
  | .tup xs, m + 1, v, u, ⟨a, vs, e, q, rs⟩, r, h => by
    subst e
    cases r
    obtain ⟨its, rv, ⟨o, ho, hc, k, hd⟩, _⟩ := I.tuple q
    obtain ⟨as, h1, h2⟩ := Reps.rd I xs m rs rv (by simpa [plR] using h)
    exact ⟨as, by simpa [pyR] using Reads.tuple ho hc hd h1, h2⟩
  | .dct ks xs, 0, v, u, _, _, h => by simp [plR] at h
  | .dct ks xs, m + 1, v, u, ⟨a, e, kvs, q, ek, rs⟩, r, h => by
    subst e
    cases r
    obtain ⟨_, _, ws, kv, o, es, ep, ho, hx, hd, _, pr, _⟩ := dk_rd I.hok q
    obtain ⟨c1, c2⟩ := kv_reads (h := s.heap) kv pr
    obtain ⟨h0, h3⟩ : plsR ks m = true ∧ plsR xs m = true := by simpa [plR] using h
    obtain ⟨as, h1, h2⟩ := Reps.rd I xs m rs c2 h3
    have hl : (pysR ks).length = (pysR xs).length := by
      have := rs.length
      rw [pysR_length, pysR_length, ek]
      simpa using this.symm
    subst ek
    refine ⟨a :: ([] : List Addr) ++ as, ?_, fun b hb => ?_⟩
    · have := Reads.dict (kvs := (pysR (kvs.map fun p => kD p.1)).zip (pysR xs)) ho hx.1 hd (by rw [List.map_fst_zip (by omega)]; exact c1) (by rw [List.map_snd_zip (by omega)]; exact h1)
      simpa [pyR] using this
    · rcases List.mem_cons.mp (show b ∈ a :: as from hb) with z | z
      · rcases q with q | ⟨y, q⟩
        · rw [z, q]; simp
        · rw [z, q]; simp
      · exact h2 b z
  | .scr _, _, _, _, _, _, h => by simp [plR] at h
  | .dcT _ _, _, _, _, _, _, h => by simp [plR] at h
  | .obj _ _ _, _, _, _, _, _, h => by simp [plR] at h
  | .exc _ _ _, _, _, _, _, _, h => by simp [plR] at h
theorem Reps.rd (I : Inv X pins σ H s) : ∀ (xs : List D) (n : Nat) {vs : List V} {us : List Value}, Reps X.K X.mg H xs vs → Vals vs us → plsR xs n = true → ∃ as, ReadsAll s.heap us (pysR xs) as ∧ ∀ a ∈ as, H a ≠ none
  | [], n, vs, us, h, r, _ => by
    cases (show vs = [] from h)
    cases r
    exact ⟨_, by simpa [pysR] using ReadsAll.nil, fun a ha => by cases ha⟩
  | x :: xs, n, vs, us, ⟨v, ws, e, h, hs⟩, r, p => by
    subst e
    cases r with
    | cons r1 r2 =>
      obtain ⟨p1, p2⟩ : plR x n = true ∧ plsR xs n = true := by simpa [plsR] using p
      obtain ⟨as, q1, w1⟩ := Rep.rd I x n h r1 p1
      obtain ⟨bs, q2, w2⟩ := Reps.rd I xs n hs r2 p2
      refine ⟨as ++ bs, by simpa [pysR] using ReadsAll.cons q1 q2, fun a ha => ?_⟩
      rcases List.mem_append.mp ha with z | z
      · exact w1 a z
      · exact w2 a z
end
end
def rpB (d : D) : Bool := plR d 59 && ((pyR d).showable && (isDisplay (pyR d) && sOk (pyR d).shown))
def rRepr (K : PySem.W.Frag) (mg : Str → Option Value) (dc : Bool) : List V → Hp → VK → Prop := fun vs H Q => ∃ (v : V) (d : D), vs = [v] ∧ Rep K mg H d v ∧ rpB d = true ∧ (dc = true ∨ (pyR d).hasDict = false) ∧ Q (.str (pyR d).shown) H
theorem repr_at {X : Cx} {dc : Bool} (hg : X.A.guards = some []) (hu : X.A.units + 65 < cLine) (hs : dc = true → ∃ o, X.K.lookup sysModules = some o) : CallR X (.builtin "repr") (rRepr X.K X.mg dc) := by
  intro pins s σ H vs us Q I r h
  obtain ⟨v, d, rfl, hd, hb, hc, q⟩ := h
  unfold rpB at hb
  simp only [Bool.and_eq_true] at hb
  obtain ⟨h1, h2, h3, h4⟩ := hb
  cases r with
  | cons r1 r2 =>
    cases r2
    obtain ⟨as, rd, ha⟩ := Rep.rd I d 59 hd r1 h1
    obtain ⟨a, rfl⟩ := isRef_of_reads rd h3
    have dp := depth_plR d 59 h1
    refine repr_of_reads' rd h2 (fun z hm => ?_) hg (by omega) (fun _ _ e => e) (fun h' u tk hk => ⟨.str _, H, I.kept hk, ⟨_, rfl⟩, q⟩) (by rw [sizeLine_eq]; exact sOk_len h4)
    rcases hc with hc | hc
    · obtain ⟨o, ho⟩ := hs hc
      exact ha _ hm (I.bs _ _ (I.mod.kin _ _ ho)).2
    · rw [hc] at z; cases z
theorem cr_reprD {X : Cx} (hs : ∃ o, X.K.lookup sysModules = some o) (hg : X.A.guards = some []) (hu : X.A.units + 65 < cLine) : CallR X (.builtin "repr") (rRepr X.K X.mg true) := repr_at hg hu fun _ => hs
def pReprD : List D → R D
  | [d] => if rpB d = true then .ok (.str (pyR d).shown) else .bad
  | _ => .bad
theorem bf_reprD {K : PySem.W.Frag} {mg : Str → Option Value} : BfD K mg (rRepr K mg true) [.B] .F pReprD := by
  intro W B G0 κ en σ H G Ss Q ds vs st args m
  obtain ⟨d, v, rfl, rfl, r⟩ := args.one
  have m2 : mR W ⟨K, mg, B, G0⟩ σ H G (yV ⟨K, mg, B, G0⟩ H .F Q) (if rpB d = true then .ok (.str (pyR d).shown) else .bad) := m
  by_cases hc : rpB d = true
  · rw [if_pos hc] at m2
    have h5 : sOk (pyR d).shown = true := by
      have h1 := hc
      unfold rpB at h1
      simp only [Bool.and_eq_true] at h1
      exact h1.2.2.2
    exact ⟨v, d, rfl, r, hc, .inl rfl, m2 H G (.refl st.sH) (.str (pyR d).shown) [] ⟨⟨rfl, h5⟩, rfl⟩⟩
  · rw [if_neg hc] at m2
    exact m2.elim
end Lw
namespace Lw
open PySem PySem.Spec PyProof.Rows L2
section
variable {X : Cx} {W : WX} {B G0 : Hp} {κ : List Kd} {en : List D} {ke1 ke2 e1 e2 : Expr} {r1 r2 : R D} {pos : Pos}
theorem merge2 {k1 k2 : Str} (hne : (k1 == k2) = false) (v1 v2 : V) : mergeK [] [(.inr k1, v1), (.inr k2, v2)] = [((.inr k1 : Key), v1), (.inr k2, v2)] := by
  have h2 : ¬ ((.inr k1 : Key) = .inr k2) := fun z => by
    rw [Sum.inr.inj z] at hne
    simp at hne
  unfold mergeK
  rw [List.foldl_cons, List.foldl_cons, List.foldl_nil]
  unfold putK
  simp [h2]
theorem ev_disp2 (k1 k2 : Str) (hk1 : EV X W B G0 κ en ke1 .F (.ok (.str k1))) (h1 : EV X W B G0 κ en e1 .F r1) (hk2 : EV X W B G0 κ en ke2 .F (.ok (.str k2))) (h2 : EV X W B G0 κ en e2 .F r2) (hne : (k1 == k2) = false) :
    EV X W B G0 κ en (.Dict [some ke1, some ke2] [e1, e2] pos) (.O (.L .F)) (r1.bind fun d1 => r2.bind fun d2 => .ok (.dct [.str k1, .str k2] [d1, d2])) :=
  ⟨PE.wk (pe_disp (pps_cons hk1.pe h1.pe (pps_cons hk2.pe h2.pe pps_nil)) rfl rfl (fun z => by cases z) (by simp)) fun σ H Q ⟨G, Ss, st, m⟩ p hp => by
    have a0 : Adv H G G (upd H p (.dK [])) := Adv.newO st.sH hp
    refine ⟨G, Ss, st.adv a0, fun Hk Gk ak vk Sk qk => ?_⟩
    have ek : vk = .str k1 := qk.1.1
    subst ek
    refine ⟨Gk, Ss, (st.adv a0).adv ak, ?_⟩
    cases r1 with
    | bad => exact m
    | exc x => exact fun cv xd H' G' b hv => m cv xd H' G' ((a0.trans ak).trans b) hv
    | ok d1 =>
      intro H1 G1 a1 v1 S1 q1
      refine ⟨G1, Ss, ((st.adv a0).adv ak).adv a1, fun Hl Gl al vl Sl ql => ?_⟩
      have el : vl = .str k2 := ql.1.1
      subst el
      refine ⟨Gl, Ss, (((st.adv a0).adv ak).adv a1).adv al, ?_⟩
      cases r2 with
      | bad => exact m
      | exc x => exact fun cv xd H' G' b hv => m cv xd H' G' ((((a0.trans ak).trans a1).trans al).trans b) hv
      | ok d2 =>
        intro H2 G2 a2 v2 S2 q2
        have A : Adv (upd H p (.dK [])) G G2 H2 := ((ak.trans a1).trans al).trans a2
        have h2p : H2 p = some (.dK []) := A.1 _ _ upd_same
        have g0 : G p = none := st.sH.free hp
        have g2 : G2 p = none := by
          cases z : G2 p with
          | none => rfl
          | some o =>
            rcases A.2.2.2 p o z with y | y
            · rw [g0] at y; cases y
            · rw [upd_same] at y; cases y
        refine ⟨h2p, [(.inr k1, v1), (.inr k2, v2)], rfl, by simp, ?_⟩
        rw [merge2 hne]
        have hmm : Adv H G G2 (upd H2 p (.dK [(.inr k1, v1), (.inr k2, v2)])) := by
          refine ⟨fun b u h => ?_, A.2.1, fun b u h => ?_, fun b u h => ?_⟩
          · have e : b ≠ p := ne_of_none h hp
            rw [upd_ne e]
            exact A.1 _ _ (by rw [upd_ne e]; exact h)
          · have e : b ≠ p := ne_of_none h g2
            rw [upd_ne e]
            exact A.2.2.1 _ _ h
          · rcases A.2.2.2 b u h with y | y
            · exact .inl y
            · refine .inr ?_
              by_cases e : b = p
              · rw [e]; exact hp
              · rw [upd_ne e] at y; exact y
        have w1 : Rep X.K X.mg G2 d1 v1 := q1.1.mono (al.trans a2).2.1
        refine m _ G2 hmm (.ref p) [p] ⟨⟨p, [v1, v2], [d1, d2], [], rfl, rfl, .dK (kvs := [(.inr k1, v1), (.inr k2, v2)]) upd_same, v1, [v2], [], [], rfl, rfl, ⟨w1, rfl⟩, v2, [], [], [], rfl, rfl, ⟨q2.1, rfl⟩, rfl, rfl⟩, by simp, fun b hb => ?_⟩
        rw [List.mem_singleton.mp hb]
        exact ⟨hp, g2, _, upd_same⟩⟩
end
end Lw
namespace Lw
open PySem PySem.Spec PyProof.Rows L2
theorem excB_ok {K : PySem.W.Frag} {x : Str} (c : excB K x = true) : ExcC K (He.ga K x) := by
  obtain ⟨c1, c⟩ := He.ba c
  obtain ⟨c2, c⟩ := He.ba c
  obtain ⟨c3, c⟩ := He.ba c
  obtain ⟨c4, c⟩ := He.ba c
  obtain ⟨c5, c⟩ := He.ba c
  obtain ⟨c6, c⟩ := He.ba c
  obtain ⟨c7, c8⟩ := He.ba c
  exact ⟨He.eqO_ok c1, He.eqO_ok c2, of_decide_eq_true c3, c4, He.eqO_ok c5, He.eqO_ok c6, of_decide_eq_true c7, of_decide_eq_true c8⟩
theorem mk0B_ok {K : PySem.W.Frag} {h : Heap} {mg : Str → Option Value} (X : K.In h) (G : h.Ns mainGlobals mg) {x : Str} (g : (He.Fa.glo x).ok K = true) (c : mk0B K x = true) : MkD K mg x := by
  obtain ⟨c1, c⟩ := He.ba c
  obtain ⟨c2, c3⟩ := He.ba c
  exact ⟨_, He.glo_ok X G g, c1, He.eqO_ok c2, c3⟩
theorem exc_ok {K : PySem.W.Frag} {h : Heap} {mg : Str → Option Value} (X : K.In h) (G : h.Ns mainGlobals mg) {x : Str} (g : (He.Fa.glo x).ok K = true) (c : (He.Fa.exc x).ok K = true) : ExD K mg x := by
  obtain ⟨c1, c2, c3, c4⟩ := He.exc_ok c
  exact ⟨_, He.glo_ok X G g, c1, c2, c3, c4⟩
section
variable {K : PySem.W.Frag} {h : Heap} {mg : Str → Option Value} (X : K.In h) (G : h.Ns mainGlobals mg)
include X G
theorem Ck.mk0_ok {x : Str} (c : (Ck.mk0 x).ok K = true) : MkD K mg x := mk0B_ok X G (He.ba c).1 (He.ba c).2
theorem Ck.isE_ok {y : Str} {T : List (Str × Bool)} (c : (Ck.isE y T).ok K = true) : IsEO K mg y T := by
  obtain ⟨c1, c2⟩ := He.ba c
  refine ⟨_, He.glo_ok X G c1, fun t ht => ?_⟩
  obtain ⟨c3, c4⟩ := He.ba (List.all_eq_true.mp c2 t ht)
  obtain ⟨c4, c5⟩ := He.ba c4
  exact ⟨_, He.glo_ok X G c3, of_decide_eq_true c5, excB_ok c4⟩
theorem Ck.isB_ok {y : String} {T : List (Str × Bool)} (c : (Ck.isB y T).ok K = true) : IsEB K mg y T := by
  intro t ht
  obtain ⟨c3, c4⟩ := He.ba (List.all_eq_true.mp (show (T.all fun t => (He.Fa.glo t.1).ok K && (excB K t.1 && kitB K (.type y) t.1 t.2)) = true from c) t ht)
  obtain ⟨c4, c5⟩ := He.ba c4
  exact ⟨_, He.glo_ok X G c3, of_decide_eq_true c5, excB_ok c4⟩
theorem Ck.cat_ok {y : Str} {T : List Str} (c : (Ck.cat y T).ok K = true) : CatO K mg y T := by
  obtain ⟨c1, c2⟩ := He.ba c
  refine ⟨_, He.glo_ok X G c1, fun t ht => ?_⟩
  obtain ⟨c3, c4⟩ := He.ba (List.all_eq_true.mp c2 t ht)
  exact ⟨_, He.glo_ok X G c3, of_decide_eq_true c4⟩
omit X G in
theorem Ck.sys_ok (c : Ck.sys.ok K = true) : ∃ o, K.lookup sysModules = some o := Option.isSome_iff_exists.mp c
end
theorem SaysL.ck {fa : List He.Fa} {fn : List He.DefD} {cks : List Ck} {K : PySem.W.Frag} (c : SaysL fa fn (fun K => cks.all fun c => c.ok K) K) (i : Nat) {f : Ck} (h : cks[i]? = some f := by rfl) : f.ok K = true := List.all_eq_true.mp c.x f (List.mem_of_getElem? h)
theorem SaysL.fa {fa : List He.Fa} {fn : List He.DefD} {ex : PySem.W.Frag → Bool} {K : PySem.W.Frag} (c : SaysL fa fn ex K) (i : Nat) {f : He.Fa} (h : fa[i]? = some f := by rfl) : f.ok K = true := c.d.fact i h
theorem SaysL.fn {fa : List He.Fa} {fn : List He.DefD} {ex : PySem.W.Frag → Bool} {K : PySem.W.Frag} (c : SaysL fa fn ex K) (i : Nat) {d : He.DefD} (h : fn[i]? = some d := by rfl) : ∃ fd, FunD K d.name d.qual d.params d.body d.scope (d.dvs K) (d.kws K) (He.fAd K d.at_) fd := c.d.def_ i h
theorem law_sp {K : PySem.W.Frag} {mg : Str → Option Value} {f : List D → R D} {a : Addr} {ns : List Int} {H : Hp} (hS : SqL K H a (ns.map V.int)) (hf : f [.scr (ns.map D.int)] = .ok (.bl true)) : spF K mg f [.F] .F [.ref a] H (fun v _ => v = .bl true) fun _ _ _ => False := by
  have rs : ∀ l : List Int, Reps K mg H (l.map D.int) (l.map V.int) := by
    intro l
    induction l with
    | nil => exact .nil
    | cons x l ih => exact .cons (d := .int x) (v := .int x) rfl ih
  refine ⟨H, [.scr (ns.map D.int)], .refl _, ⟨⟨a, ns.map V.int, rfl, hS, rs ns⟩, trivial⟩, ?_⟩
  rw [hf]
  exact fun H' G' a v S q => q.1
theorem walk_endG {l : PySem.W.OpenLaw} {k : Nat} {q : Program} {loose : List Str} {XP : (Str → Option Value) → Heap → Prop} {YP : World → Heap → Prop} {d : DefRec} {x : Str} (hn : l.most = some 63) (hdf : d.params.defaults = []) (hr : Room k callerA)
    (F : ∀ (w : World) (mg : Str → Option Value) (fa : Addr) (h : Heap), YP w h → h.Ns mainGlobals mg → mg d.name = some (.ref fa) →
      ∃ (K : PySem.W.Frag) (f : List D → R D) (fa' : Addr) (fd : FuncData), K.In h ∧ fa' = fa ∧ (∀ (s : Shared) (u : Value), BindsTo s fd ⟨[u], []⟩ [(x, u)]) ∧ (∀ base : Heap, FnG l.prog w K mg base k fa' fd [x] (spF K mg f [.F] .F)) ∧
        ∀ ns : List Int, ns.length ≤ 63 → (∀ n ∈ ns, Builtin.Int.intBits n ≤ 1048576) → f [.scr (ns.map D.int)] = .ok (.bl true)) :
    PySem.W.WalkO q loose XP YP l.row.toRowW d [] (fun f vs => PySem.call f vs) := by
  refine Att.attach_callB hn hdf fun w s₀ s₁ mg mb fa o pm cd doc a vs ns G Y ho hd hcd hmg hobj hints hlen hbits hg => ?_
  obtain ⟨K, f, fa', fd, KX, e, hb, hF, hf⟩ := F w mg fa _ Y G.T.g hmg
  subst e
  exact law_callG KX G.T.g G.T.b G.T.builtins G.T.nolimit hg hobj hints (Nat.le_trans hlen (by decide)) hr hF hb fun H hS => law_sp hS (hf ns hlen hbits)
theorem same_fa {mg : Str → Option Value} {n m : Str} {fa fb : Addr} (hn : n = m) (hg : mg n = some (.ref fa)) (e : mg m = some (.ref fb)) : fb = fa := by
  subst hn
  rw [hg] at e
  injection e with e
  injection e with e
  exact e.symm
end Lw
namespace Lw
open PySem PySem.Spec PyProof.Rows L2
section
variable {a b : Int} {xs : List D} {d e : D} {r : R D}
@[simp] theorem pAdd_ii : pAdd (.int a) (.int b) = .ok (.int (a + b)) := Eq.trans rfl rfl
@[simp] theorem pSub_ii : pSub (.int a) (.int b) = .ok (.int (a - b)) := Eq.trans rfl rfl
@[simp] theorem pLt_ii : pLt (.int a) (.int b) = .ok (.bl (decide (a < b))) := Eq.trans rfl rfl
@[simp] theorem pLe_ii : pLe (.int a) (.int b) = .ok (.bl (decide (a ≤ b))) := Eq.trans rfl rfl
@[simp] theorem pGt_ii : pGt (.int a) (.int b) = .ok (.bl (decide (b < a))) := Eq.trans rfl rfl
@[simp] theorem pGe_ii : pGe (.int a) (.int b) = .ok (.bl (decide (b ≤ a))) := Eq.trans rfl rfl
@[simp] theorem pNeg_i : pNeg (.int a) = .ok (.int (-a)) := Eq.trans rfl rfl
@[simp] theorem pMod_ii (h : 0 < b) : pMod (.int a) (.int b) = .ok (.int (a % b)) := by
  show (if 0 < b then _ else _) = _
  rw [if_pos h]
def divOk (b : Int) : Bool := decide (0 < b ∧ b.natAbs.log2 < 9000)
theorem pDiv_ii (h : divOk b = true) : pDiv (.int a) (.int b) = .ok (.int (a / b)) := by
  show (if 0 < b ∧ b.natAbs.log2 < 9000 then _ else _) = _
  rw [if_pos (of_decide_eq_true h)]
theorem pMul_ii (h : mulOk a b = true) : pMul (.int a) (.int b) = .ok (.int (a * b)) := by
  show (if mulOk a b = true then _ else _) = _
  rw [if_pos h]
def powOk (a b : Int) : Bool := decide (0 ≤ b ∧ b ≤ 1000000 ∧ a.natAbs < 2 ^ 64)
theorem pPow_ii (h : powOk a b = true) : pPow (.int a) (.int b) = .ok (.int (a ^ b.toNat)) := by
  show (if 0 ≤ b ∧ b ≤ 1000000 ∧ a.natAbs < 2 ^ 64 then _ else _) = _
  rw [if_pos (of_decide_eq_true h)]
@[simp] theorem toB_bl {c : Bool} : toB (.bl c) = .ok c := Eq.trans rfl rfl
@[simp] theorem notV_bl {c : Bool} : notV (.bl c) = .ok (.bl !c) := Eq.trans rfl rfl
@[simp] theorem andT_t {q : R Bool} : andT (.ok true) q = q := Eq.trans rfl rfl
@[simp] theorem andT_f {q : R Bool} : andT (.ok false) q = .ok false := Eq.trans rfl rfl
@[simp] theorem orT_t {q : R Bool} : orT (.ok true) q = .ok true := Eq.trans rfl rfl
@[simp] theorem orT_f {q : R Bool} : orT (.ok false) q = q := Eq.trans rfl rfl
theorem orT_ok {c c2 : Bool} : orT (.ok c) (.ok c2) = .ok (c || c2) := by cases c <;> rfl
@[simp] theorem notT_ok {c : Bool} : notT (.ok c) = .ok (!c) := Eq.trans rfl rfl
@[simp] theorem andV_t {q : R D} : andV (.ok (.bl true)) q = q := Eq.trans rfl rfl
@[simp] theorem andV_f {q : R D} : andV (.ok (.bl false)) q = .ok (.bl false) := Eq.trans rfl rfl
@[simp] theorem orV_t {q : R D} : orV (.ok (.bl true)) q = .ok (.bl true) := Eq.trans rfl rfl
@[simp] theorem orV_f {q : R D} : orV (.ok (.bl false)) q = q := Eq.trans rfl rfl
@[simp] theorem pEq_ii : pEq (.int a) (.int b) = .ok (.bl (a == b)) := by
  show (if pl (.int a) 20 && pl (.int b) 20 then _ else _) = _
  simp [pl, deq]
@[simp] theorem pNe_ii : pNe (.int a) (.int b) = .ok (.bl (!(a == b))) := by
  show (if pl (.int a) 20 && pl (.int b) 20 then _ else _) = _
  simp [pl, deq]
@[simp] theorem pEq_ss {x y : Str} : pEq (.str x) (.str y) = .ok (.bl (x == y)) := by
  show (if pl (.str x) 20 && pl (.str y) 20 then _ else _) = _
  simp [pl, deq]
@[simp] theorem pNe_ss {x y : Str} : pNe (.str x) (.str y) = .ok (.bl (!(x == y))) := by
  show (if pl (.str x) 20 && pl (.str y) 20 then _ else _) = _
  simp [pl, deq]
mutual
theorem deq_refl : ∀ (d : D) (n : Nat), pl d n = true → deq d d = true
  | .non, _, _ => rfl
  | .bl b, _, _ => by simp [deq]
  | .int i, _, _ => by simp [deq]
  | .str s, _, _ => by simp [deq]
  | .lst xs, n, h => by
    cases n with
    | zero => simp [pl] at h
    | succ m => simp only [deq]; exact deqs_refl xs m (by simpa [pl] using h)
  | .tup xs, n, h => by
    cases n with
    | zero => simp [pl] at h
    | succ m => simp only [deq]; exact deqs_refl xs m (by simpa [pl] using h)
  | .scr _, _, h => by simp [pl] at h
  | .dct _ _, _, h => by simp [pl] at h
  | .dcT _ _, _, h => by simp [pl] at h
  | .obj _ _ _, _, h => by simp [pl] at h
  | .exc _ _ _, _, h => by simp [pl] at h
theorem deqs_refl : ∀ (xs : List D) (n : Nat), pls xs n = true → deqs xs xs = true
  | [], _, _ => rfl
  | x :: xs, n, h => by
    obtain ⟨h1, h2⟩ := Bool.and_eq_true_iff.mp (show (pl x n && pls xs n) = true by simpa [pls] using h)
    simp only [deqs, deq_refl x n h1, deqs_refl xs n h2, Bool.and_self]
end
theorem mkL_ok (h : xs.length ≤ 16777216) : mkL xs = .ok (.lst xs) := by
  unfold mkL
  rw [if_pos h]
theorem mkT_ok (h : xs.length ≤ 16777216) : mkT xs = .ok (.tup xs) := by
  unfold mkT
  rw [if_pos h]
@[simp] theorem mkL_0 : mkL [] = .ok (.lst []) := mkL_ok (by simp)
@[simp] theorem mkL_1 {a : D} : mkL [a] = .ok (.lst [a]) := mkL_ok (by simp)
@[simp] theorem mkL_2 {a b : D} : mkL [a, b] = .ok (.lst [a, b]) := mkL_ok (by simp)
@[simp] theorem mkL_3 {a b c : D} : mkL [a, b, c] = .ok (.lst [a, b, c]) := mkL_ok (by simp)
@[simp] theorem mkL_4 {a b c d : D} : mkL [a, b, c, d] = .ok (.lst [a, b, c, d]) := mkL_ok (by simp)
@[simp] theorem mkT_2 {a b : D} : mkT [a, b] = .ok (.tup [a, b]) := mkT_ok (by simp)
@[simp] theorem mkT_3 {a b c : D} : mkT [a, b, c] = .ok (.tup [a, b, c]) := mkT_ok (by simp)
@[simp] theorem mkT_4 {a b c d : D} : mkT [a, b, c, d] = .ok (.tup [a, b, c, d]) := mkT_ok (by simp)
@[simp] theorem pLen_l : pLen [.lst xs] = .ok (.int xs.length) := Eq.trans rfl rfl
@[simp] theorem pLen_c : pLen [.scr xs] = .ok (.int xs.length) := Eq.trans rfl rfl
@[simp] theorem pLen_t : pLen [.tup xs] = .ok (.int xs.length) := Eq.trans rfl rfl
@[simp] theorem pLen_s {s : Str} : pLen [.str s] = .ok (.int s.length) := Eq.trans rfl rfl
@[simp] theorem toSeq_l : toSeq (.lst xs) = .ok xs := Eq.trans rfl rfl
@[simp] theorem toSeq_c : toSeq (.scr xs) = .ok xs := Eq.trans rfl rfl
@[simp] theorem toSeq_t : toSeq (.tup xs) = .ok xs := Eq.trans rfl rfl
@[simp] theorem toL_l : toL (.lst xs) = .ok xs := Eq.trans rfl rfl
theorem pIx_l {i : Int} (h : atI xs i = some d) : pIx (.lst xs) (.int i) = .ok d := by
  show (match atI xs i with | some d => (R.ok d : R D) | none => .bad) = _
  rw [h]
theorem pIx_c {i : Int} (h : atI xs i = some d) : pIx (.scr xs) (.int i) = .ok d := by
  show (match atI xs i with | some d => (R.ok d : R D) | none => .bad) = _
  rw [h]
theorem pIx_t {i : Int} (h : atI xs i = some d) : pIx (.tup xs) (.int i) = .ok d := by
  show (match atI xs i with | some d => (R.ok d : R D) | none => .bad) = _
  rw [h]
theorem atI_nat {α : Type} {l : List α} {i : Nat} (h : i < l.length) : atI l (i : Int) = some l[i] := by
  unfold atI ixN
  have e : ¬ ((i : Int) < 0) := by omega
  simp [e, h]
@[simp] theorem pIx_0 {x : D} : pIx (.lst (x :: xs)) (.int 0) = .ok x := pIx_l (atI_nat (i := 0) (by simp))
@[simp] theorem pIx_1 {x y : D} : pIx (.lst (x :: y :: xs)) (.int 1) = .ok y := pIx_l (atI_nat (i := 1) (by simp))
@[simp] theorem pIx_2 {x y z : D} : pIx (.lst (x :: y :: z :: xs)) (.int 2) = .ok z := pIx_l (atI_nat (i := 2) (by simp))
@[simp] theorem pIx_t0 {x : D} : pIx (.tup (x :: xs)) (.int 0) = .ok x := pIx_t (atI_nat (i := 0) (by simp))
@[simp] theorem pIx_t1 {x y : D} : pIx (.tup (x :: y :: xs)) (.int 1) = .ok y := pIx_t (atI_nat (i := 1) (by simp))
@[simp] theorem pIx_t2 {x y z : D} : pIx (.tup (x :: y :: z :: xs)) (.int 2) = .ok z := pIx_t (atI_nat (i := 2) (by simp))
theorem pRange1_ok {n : Nat} (h : n < 2 ^ 62) : pRange1 (.int n) = .ok (rngL 0 n) := by
  have h2 : -(2 ^ 62) ≤ (n : Int) ∧ (n : Int) < 2 ^ 62 := by omega
  unfold pRange1
  exact (if_pos h2).trans (by rw [Int.toNat_natCast])
@[simp] theorem isTy_int {T : String} : pIsTy T (.int a) = .ok (.bl ("int" == T || ("int" == "bool" && T == "int"))) := Eq.trans rfl rfl
@[simp] theorem isTy_bl {T : String} {c : Bool} : pIsTy T (.bl c) = .ok (.bl ("bool" == T || ("bool" == "bool" && T == "int"))) := Eq.trans rfl rfl
@[simp] theorem isTy_str {T : String} {c : Str} : pIsTy T (.str c) = .ok (.bl ("str" == T || ("str" == "bool" && T == "int"))) := Eq.trans rfl rfl
@[simp] theorem isTy_lst {T : String} : pIsTy T (.lst xs) = .ok (.bl ("list" == T || ("list" == "bool" && T == "int"))) := Eq.trans rfl rfl
@[simp] theorem isTy_tup {T : String} : pIsTy T (.tup xs) = .ok (.bl ("tuple" == T || ("tuple" == "bool" && T == "int"))) := Eq.trans rfl rfl
@[simp] theorem isTy_non {T : String} : pIsTy T .non = .ok (.bl ("NoneType" == T || ("NoneType" == "bool" && T == "int"))) := Eq.trans rfl rfl
@[simp] theorem scal_int : scal (.int a) = .ok (.int a) := Eq.trans rfl rfl
@[simp] theorem scal_str {s : Str} : scal (.str s) = .ok (.str s) := Eq.trans rfl rfl
@[simp] theorem scal_bl {s : Bool} : scal (.bl s) = .ok (.bl s) := Eq.trans rfl rfl
@[simp] theorem scal_non : scal .non = .ok .non := Eq.trans rfl rfl
theorem appL_ok (h : xs.length < 16777216) : appL xs d = .ok (.lst (xs ++ [d])) := by
  unfold appL
  rw [if_pos h]
end
def bd (n : Nat) (a : Int) : Prop := a.natAbs < 2 ^ n
theorem bd.mono {m n : Nat} {a : Int} (h : bd m a) (l : m ≤ n) : bd n a := Nat.lt_of_lt_of_le h (Nat.pow_le_pow_right (by decide) l)
theorem bd.mul {m n : Nat} {a b : Int} (h : bd m a) (g : bd n b) : bd (m + n) (a * b) := by
  unfold bd at *
  rw [Int.natAbs_mul, Nat.pow_add]
  exact Nat.mul_lt_mul'' h g
theorem bd.add {n : Nat} {a b : Int} (h : bd n a) (g : bd n b) : bd (n + 1) (a + b) := by
  unfold bd at *
  have := Int.natAbs_add_le a b
  rw [Nat.pow_succ]
  omega
theorem bd.sub {n : Nat} {a b : Int} (h : bd n a) (g : bd n b) : bd (n + 1) (a - b) := by
  unfold bd at *
  have := Int.natAbs_sub_le a b
  rw [Nat.pow_succ]
  omega
theorem log2_lt {n : Nat} {a : Nat} (h : a < 2 ^ n) : a.log2 ≤ n := by
  by_cases h0 : a = 0
  · subst h0
    simp
  · exact Nat.le_of_lt ((Nat.log2_lt h0).mpr h)
theorem bd.mulOk {m n : Nat} {a b : Int} (h : bd m a) (g : bd n b) (l : m + n < 134000000) : mulOk a b = true := by
  have h1 := log2_lt h
  have h2 := log2_lt g
  exact decide_eq_true (by omega)
theorem bd_le {n : Nat} {a m : Int} (h : -m ≤ a) (h2 : a ≤ m) (h3 : m < 2 ^ n) : bd n a := by
  unfold bd
  have e : ((2 ^ n : Nat) : Int) = 2 ^ n := by norm_cast
  omega
theorem rForX_nx {τ α : Type} {f : D → τ → R (Lp τ α)} {t : τ} : ∀ {xs : List D}, (∀ x ∈ xs, f x t = .ok (.nx t)) → rForX xs t f = .ok (.go t)
  | [], _ => rfl
  | x :: xs, h => by
    unfold rForX
    rw [h x List.mem_cons_self]
    exact rForX_nx fun y hy => h y (List.mem_cons_of_mem _ hy)
@[simp] theorem thn_go {τ α : Type} {f : τ → R α} {t : τ} : Go.thn f (.go t) = f t := Eq.trans rfl rfl
@[simp] theorem thn_out {τ α : Type} {f : τ → R α} {a : α} : Go.thn f (.out a) = .ok a := Eq.trans rfl rfl
theorem mem_rngL {d : D} {lo : Int} {n : Nat} (h : d ∈ rngL lo n) : ∃ i, i < n ∧ d = .int (lo + (i : Nat)) := by
  obtain ⟨i, hi, e⟩ := List.mem_map.mp h
  exact ⟨i, List.mem_range.mp hi, e.symm⟩
end Lw
namespace Lw
open PySem PySem.Spec PyProof.Rows L2
theorem bind_eq {α β : Type} {r : R α} {a : α} {f : α → R β} (h : r = .ok a) : R.bind r f = f a := by rw [h, R.bind_ok]
theorem rFor_inv {τ : Type} {f : D → τ → R τ} : ∀ {xs : List D} {t : τ} (I : Nat → τ → Prop), (∀ k x t, xs[k]? = some x → I k t → ∃ t', f x t = .ok t' ∧ I (k + 1) t') → I 0 t → ∃ t', rFor xs t f = .ok t' ∧ I xs.length t'
  | [], t, I, _, i => ⟨t, rfl, i⟩
  | x :: xs, t, I, h, i => by
    obtain ⟨t1, e1, i1⟩ := h 0 x t rfl i
    obtain ⟨t2, e2, i2⟩ := rFor_inv (f := f) (xs := xs) (t := t1) (fun k => I (k + 1)) (fun k y t hy hi => h (k + 1) y t (by simpa using hy) hi) i1
    refine ⟨t2, ?_, i2⟩
    unfold rFor
    rw [e1]
    exact e2
theorem rngL_at {lo : Int} {n k : Nat} {x : D} (h : (rngL lo n)[k]? = some x) : k < n ∧ x = .int (lo + (k : Nat)) := rngL_get h
def mkS (l : List Nat) : Str := ⟨l.toArray⟩
theorem mkS_cps (l : List Nat) : (mkS l).cps.toList = l := by simp [mkS]
theorem mkS_len (l : List Nat) : (mkS l).length = l.length := by simp [mkS, Str.length]
theorem mkS_inj {a b : List Nat} : mkS a = mkS b ↔ a = b := ⟨fun h => by
  have := congrArg (fun s : Str => s.cps.toList) h
  simpa [mkS] using this, fun h => by rw [h]⟩
theorem pIx_ln {l : List D} {k : Nat} (h : k < l.length) : pIx (.lst l) (.int (k : Int)) = .ok l[k] := pIx_l (atI_nat h)
theorem pList_l {xs : List D} : pList [.lst xs] = .ok (.lst xs) := Eq.trans rfl rfl
theorem pMax2_i {a b : Int} : pMax2 [.int a, .int b] = .ok (.int (if b > a then b else a)) := Eq.trans rfl rfl
theorem pComp_map {σ : Type} {m g : σ → D} {f : D → R D} {xs : List σ} (h : ∀ x ∈ xs, f (m x) = .ok (g x)) (hl : xs.length ≤ 16777216) : pComp (.ok (xs.map m)) (fun d => .ok d) (fun _ => .ok true) f = .ok (.lst (xs.map g)) := by
  have aux : ∀ (xs : List σ), (∀ x ∈ xs, f (m x) = .ok (g x)) → rMapF (fun d => .ok d) (fun _ => noX (.ok true)) (fun p => noX (f p)) (xs.map m) = .ok (xs.map g) := by
    intro xs
    induction xs with
    | nil => intro _; rfl
    | cons x xs ih =>
      intro h
      rw [List.map_cons]
      unfold rMapF
      show ((noX (f (m x))).bind fun y => (rMapF (fun d => .ok d) (fun _ => noX (.ok true)) (fun p => noX (f p)) (xs.map m)).bind fun ys => .ok (y :: ys)) = _
      rw [h x List.mem_cons_self, ih fun y hy => h y (List.mem_cons_of_mem _ hy)]
      rfl
  unfold pComp
  show (rMapF (fun d => .ok d) (fun p => noX (.ok true)) (fun p => noX (f p)) (xs.map m)).bind mkL = _
  rw [aux xs h]
  exact mkL_ok (by simpa using hl)
theorem rMapF_ex {σ : Type} {m : σ → D} {f : D → R D} : ∀ {xs : List D} (P : Nat → σ → Prop), (∀ k x, xs[k]? = some x → ∃ y, f x = .ok (m y) ∧ P k y) → ∃ ys : List σ, rMapF (fun d => .ok d) (fun _ => noX (.ok true)) (fun p => noX (f p)) xs = .ok (ys.map m) ∧ ys.length = xs.length ∧ ∀ k y, ys[k]? = some y → P k y
  | [], P, _ => ⟨[], rfl, rfl, fun k y h => by simp at h⟩
  | x :: xs, P, h => by
    obtain ⟨y, e1, p1⟩ := h 0 x rfl
    obtain ⟨ys, e2, l2, p2⟩ := rMapF_ex (m := m) (f := f) (xs := xs) (fun k => P (k + 1)) fun k z hz => h (k + 1) z (by simpa using hz)
    refine ⟨y :: ys, ?_, by simp [l2], fun k z hz => ?_⟩
    · unfold rMapF
      show ((noX (f x)).bind fun y => (rMapF (fun d => .ok d) (fun _ => noX (.ok true)) (fun p => noX (f p)) xs).bind fun ys => .ok (y :: ys)) = _
      rw [e1, e2]
      rfl
    · cases k with
      | zero =>
        have e : y = z := by simpa using hz
        rw [← e]
        exact p1
      | succ k => exact p2 k z (by simpa using hz)
theorem pComp_ex {σ : Type} {m : σ → D} {f : D → R D} {xs : List D} (P : Nat → σ → Prop) (h : ∀ k x, xs[k]? = some x → ∃ y, f x = .ok (m y) ∧ P k y) (hl : xs.length ≤ 16777216) : ∃ ys : List σ, pComp (.ok xs) (fun d => .ok d) (fun _ => .ok true) f = .ok (.lst (ys.map m)) ∧ ys.length = xs.length ∧ ∀ k y, ys[k]? = some y → P k y := by
  obtain ⟨ys, e, l, p⟩ := rMapF_ex P h
  refine ⟨ys, ?_, l, p⟩
  unfold pComp
  show (rMapF (fun d => .ok d) (fun p => noX (.ok true)) (fun p => noX (f p)) xs).bind mkL = _
  rw [e]
  exact mkL_ok (by simpa [l] using hl)
theorem pCatL_ok {a b : List D} (h : a.length + b.length ≤ 16777216) : pCatL (.lst a) (.lst b) = .ok (.lst (a ++ b)) := by
  show (if a.length + b.length ≤ 16777216 then _ else _) = _
  rw [if_pos h]
theorem lit_at {ds : List D} {i : Int} (h : 0 ≤ i) (h2 : i < ds.length) : ∃ d, d ∈ ds ∧ pIx (.lst ds) (.int i) = .ok d := by
  obtain ⟨k, rfl⟩ := Int.eq_ofNat_of_zero_le h
  have hk : k < ds.length := by omega
  exact ⟨ds[k], List.getElem_mem hk, pIx_ln hk⟩
def Gv {α : Type} (r : R α) (Q : α → Prop) : Prop := ∃ a, r = .ok a ∧ Q a
theorem Gv.ok {α : Type} {a : α} {Q : α → Prop} (h : Q a) : Gv (.ok a) Q := ⟨a, rfl, h⟩
theorem Gv.eq {α : Type} {r : R α} {a : α} {Q : α → Prop} (e : r = .ok a) (h : Q a) : Gv r Q := ⟨a, e, h⟩
theorem Gv.bind {α β : Type} {r : R α} {f : α → R β} {P : α → Prop} {Q : β → Prop} (h : Gv r P) (k : ∀ a, P a → Gv (f a) Q) : Gv (R.bind r f) Q := by
  obtain ⟨a, e, p⟩ := h
  rw [e, R.bind_ok]
  exact k a p
theorem Gv.step {α β : Type} {r : R α} {a : α} {f : α → R β} {Q : β → Prop} (e : r = .ok a) (k : Gv (f a) Q) : Gv (R.bind r f) Q := by
  rw [e, R.bind_ok]
  exact k
theorem Gv.mono {α : Type} {r : R α} {P Q : α → Prop} (h : Gv r P) (k : ∀ a, P a → Q a) : Gv r Q := by
  obtain ⟨a, e, p⟩ := h
  exact ⟨a, e, k a p⟩
theorem Gv.ite {α : Type} {rc : R Bool} {c : Bool} {x y : R α} {Q : α → Prop} (e : rc = .ok c) (h1 : c = true → Gv x Q) (h2 : c = false → Gv y Q) : Gv (R.bind rc fun b => if b = true then x else y) Q := by
  rw [e, R.bind_ok]
  cases c with
  | true => exact h1 rfl
  | false => exact h2 rfl
theorem Gv.rfor {τ : Type} {f : D → τ → R τ} {xs : List D} {t : τ} {Q : τ → Prop} (I : Nat → τ → Prop) (h0 : I 0 t) (hs : ∀ k x t, xs[k]? = some x → I k t → Gv (f x t) (I (k + 1))) (hq : ∀ t, I xs.length t → Q t) : Gv (rFor xs t f) Q := by
  obtain ⟨t', e, i⟩ := rFor_inv (f := f) I (fun k x t hx hi => hs k x t hx hi) h0
  exact ⟨t', e, hq t' i⟩
theorem Gv.comp {σ : Type} {m : σ → D} {f : D → R D} {xs : List D} {Q : D → Prop} (P : Nat → σ → Prop) (h : ∀ k x, xs[k]? = some x → Gv (f x) fun d => ∃ y, d = m y ∧ P k y) (hl : xs.length ≤ 16777216) (hq : ∀ ys : List σ, ys.length = xs.length → (∀ k y, ys[k]? = some y → P k y) → Q (.lst (ys.map m))) : Gv (pComp (.ok xs) (fun d => .ok d) (fun _ => .ok true) f) Q := by
  obtain ⟨ys, e, l, p⟩ := pComp_ex (m := m) (f := f) (xs := xs) P (fun k x hx => by
    obtain ⟨d, e, y, ed, p⟩ := h k x hx
    exact ⟨y, by rw [e, ed], p⟩) hl
  exact ⟨_, e, hq ys l p⟩
theorem pMin2_i {a b : Int} : pMin2 [.int a, .int b] = .ok (.int (if b < a then b else a)) := Eq.trans rfl rfl
theorem divOk_small {b : Int} (h : 0 < b) (h2 : b < 2 ^ 62) : divOk b = true :=
  decide_eq_true ⟨h, Nat.lt_of_le_of_lt (log2_lt (n := 62) (show b.natAbs < 2 ^ 62 by omega)) (by decide)⟩
theorem emodN {a : Int} {b : Int} (h : 0 < b) : ∃ k : Nat, a % b = k ∧ (k : Int) < b := by
  obtain ⟨k, e⟩ := Int.eq_ofNat_of_zero_le (Int.emod_nonneg a (show b ≠ 0 by omega))
  exact ⟨k, e, by have := Int.emod_lt_of_pos a h; omega⟩
theorem pComp_filter {σ : Type} {m g : σ → D} {q : σ → Bool} {t : D → R Bool} {f : D → R D} {xs : List σ} (ht : ∀ x ∈ xs, t (m x) = .ok (q x)) (h : ∀ x ∈ xs, q x = true → f (m x) = .ok (g x)) (hl : xs.length ≤ 16777216) : pComp (.ok (xs.map m)) (fun d => .ok d) t f = .ok (.lst ((xs.filter q).map g)) := by
  have aux : ∀ (xs : List σ), (∀ x ∈ xs, t (m x) = .ok (q x)) → (∀ x ∈ xs, q x = true → f (m x) = .ok (g x)) → rMapF (fun d => .ok d) (fun p => noX (t p)) (fun p => noX (f p)) (xs.map m) = .ok ((xs.filter q).map g) := by
    intro xs
    induction xs with
    | nil => intro _ _; rfl
    | cons x xs ih =>
      intro ht h
      rw [List.map_cons]
      unfold rMapF
      show ((noX (t (m x))).bind fun b => if b = true then (noX (f (m x))).bind fun y => (rMapF (fun d => .ok d) (fun p => noX (t p)) (fun p => noX (f p)) (xs.map m)).bind fun ys => .ok (y :: ys) else rMapF (fun d => .ok d) (fun p => noX (t p)) (fun p => noX (f p)) (xs.map m)) = _
      rw [ht x List.mem_cons_self, ih (fun y hy => ht y (List.mem_cons_of_mem _ hy)) fun y hy => h y (List.mem_cons_of_mem _ hy)]
      cases e : q x with
      | true =>
        rw [h x List.mem_cons_self e, List.filter_cons, if_pos e]
        rfl
      | false =>
        rw [List.filter_cons, if_neg (by rw [e]; decide)]
        rfl
  unfold pComp
  show (rMapF (fun d => .ok d) (fun p => noX (t p)) (fun p => noX (f p)) (xs.map m)).bind mkL = _
  rw [aux xs ht h]
  exact mkL_ok (by rw [List.length_map]; exact Nat.le_trans (List.length_filter_le _ _) hl)
theorem rngL_map {n : Nat} : rngL 0 n = (List.range n).map fun (i : Nat) => D.int (i : Int) := by
  unfold rngL
  congr 1
  funext i
  rw [Int.zero_add]
theorem setL1_ok {xs : List D} {k : Nat} {d : D} (h : k < xs.length) : setL1 xs (.int (k : Int)) d = .ok (.lst (xs.set k d)) := by
  have e : ixN xs.length (k : Int) = some k := by
    unfold ixN
    have e1 : ¬ ((k : Int) < 0) := by omega
    simp [h]
  unfold setL1
  simp only [e]
end Lw
namespace Lw
open PySem PySem.Spec PyProof.Rows L2
theorem rFor_foldI {τ σ ρ : Type} {f : D → τ → R τ} {g : ρ → σ → ρ} {m : σ → D} {e : ρ → τ} : ∀ {xs : List σ} {t : ρ} (I : Nat → ρ → Prop), (∀ k x t, xs[k]? = some x → I k t → f (m x) (e t) = .ok (e (g t x)) ∧ I (k + 1) (g t x)) → I 0 t → rFor (xs.map m) (e t) f = .ok (e (xs.foldl g t)) ∧ I xs.length (xs.foldl g t)
  | [], _, I, _, i => ⟨rfl, i⟩
  | x :: xs, t, I, h, i => by
    obtain ⟨h1, h2⟩ := h 0 x t rfl i
    have ih := rFor_foldI (f := f) (g := g) (m := m) (e := e) (xs := xs) (t := g t x) (fun k => I (k + 1)) (fun k y t hy hi => h (k + 1) y t (by simpa using hy) hi) h2
    refine ⟨?_, ih.2⟩
    rw [List.map_cons]
    unfold rFor
    rw [h1]
    exact ih.1
end Lw
namespace Lx
open PySem PySem.Spec PyProof.Rows L2 Lw
theorem s_0 : sOk "sum" = true := by decide +kernel
theorem s_1 : sOk "less" = true := by decide +kernel
theorem s_2 : sOk "times" = true := by decide +kernel
theorem s_3 : sOk "least" = true := by decide +kernel
theorem s_4 : sOk "most" = true := by decide +kernel
theorem s_5 : sOk "pick" = true := by decide +kernel
theorem s_6 : sOk "same" = true := by decide +kernel
theorem s_7 : sOk "tell" = true := by decide +kernel
theorem s_8 : sOk "take" = true := by decide +kernel
theorem s_9 : sOk "box" = true := by decide +kernel
theorem s_10 : sOk "in" = true := by decide +kernel
theorem s_11 : sOk "on" = true := by decide +kernel
structure Ctx (K : PySem.W.Frag) (mg : Str → Option Value) : Prop where
  f_ValueError : mg "ValueError" = none
  f_bool : mg "bool" = none
  f_divmod : mg "divmod" = none
  f_int : mg "int" = none
  f_isinstance : mg "isinstance" = none
  f_len : mg "len" = none
  f_list : mg "list" = none
  f_max : mg "max" = none
  f_min : mg "min" = none
  f_range : mg "range" = none
  f_repr : mg "repr" = none
  f_str : mg "str" = none
  f_sum : mg "sum" = none
  f_tuple : mg "tuple" = none
  d_law_mix : ∃ fa fd, mg "_law_mix" = some (.ref fa) ∧ FunD K "_law_mix" "_law_mix" (defArgs (top 46)) (defBody (top 46)) (defScope (top 46)) [] [] fa fd
  d_law_cell_at : ∃ fa fd, mg "_law_cell_at" = some (.ref fa) ∧ FunD K "_law_cell_at" "_law_cell_at" (defArgs (top 43)) (defBody (top 43)) (defScope (top 43)) [] [] fa fd
  d_law_wants : ∃ fa fd, mg "_law_wants" = some (.ref fa) ∧ FunD K "_law_wants" "_law_wants" (defArgs (top 47)) (defBody (top 47)) (defScope (top 47)) [] [] fa fd
  d_law_step : ∃ fa fd, mg "_law_step" = some (.ref fa) ∧ FunD K "_law_step" "_law_step" (defArgs (top 54)) (defBody (top 54)) (defScope (top 54)) [] [] fa fd
  d_law_part : ∃ fa fd, mg "_law_part" = some (.ref fa) ∧ FunD K "_law_part" "_law_part" (defArgs (top 55)) (defBody (top 55)) (defScope (top 55)) [] [] fa fd
  d_law_numbers : ∃ fa fd, mg "_law_numbers" = some (.ref fa) ∧ FunD K "_law_numbers" "_law_numbers" (defArgs (top 56)) (defBody (top 56)) (defScope (top 56)) [] [] fa fd
  d_law_landed : ∃ fa fd, mg "_law_landed" = some (.ref fa) ∧ FunD K "_law_landed" "_law_landed" (defArgs (top 49)) (defBody (top 49)) (defScope (top 49)) [] [] fa fd
  d_law_makes : ∃ fa fd, mg "_law_makes" = some (.ref fa) ∧ FunD K "_law_makes" "_law_makes" (defArgs (top 48)) (defBody (top 48)) (defScope (top 48)) [] [] fa fd
  d_law_begun : ∃ fa fd, mg "_law_begun" = some (.ref fa) ∧ FunD K "_law_begun" "_law_begun" (defArgs (top 50)) (defBody (top 50)) (defScope (top 50)) [] [] fa fd
  d_law_done : ∃ fa fd, mg "_law_done" = some (.ref fa) ∧ FunD K "_law_done" "_law_done" (defArgs (top 51)) (defBody (top 51)) (defScope (top 51)) [] [] fa fd
  d_law_parts : ∃ fa fd, mg "_law_parts" = some (.ref fa) ∧ FunD K "_law_parts" "_law_parts" (defArgs (top 52)) (defBody (top 52)) (defScope (top 52)) [] [] fa fd
  d_deed_of : ∃ fa fd, mg "deed_of" = some (.ref fa) ∧ FunD K "deed_of" "deed_of" (defArgs (top 33)) (defBody (top 33)) (defScope (top 33)) [] [] fa fd
  d_is_number : ∃ fa fd, mg "is_number" = some (.ref fa) ∧ FunD K "is_number" "is_number" (defArgs (top 35)) (defBody (top 35)) (defScope (top 35)) [] [] fa fd
  d_run : ∃ fa fd, mg "run" = some (.ref fa) ∧ FunD K "run" "run" (defArgs (top 41)) (defBody (top 41)) (defScope (top 41)) [] [] fa fd
  d_law_classes : ∃ fa fd, mg "_law_classes" = some (.ref fa) ∧ FunD K "_law_classes" "_law_classes" (defArgs (top 53)) (defBody (top 53)) (defScope (top 53)) [] [] fa fd
  d_law_whole : ∃ fa fd, mg "_law_whole" = some (.ref fa) ∧ FunD K "_law_whole" "_law_whole" (defArgs (top 44)) (defBody (top 44)) (defScope (top 44)) [] [] fa fd
  d_law_alike : ∃ fa fd, mg "_law_alike" = some (.ref fa) ∧ FunD K "_law_alike" "_law_alike" (defArgs (top 45)) (defBody (top 45)) (defScope (top 45)) [] [] fa fd
  d_law_pair_alike : ∃ fa fd, mg "_law_pair_alike" = some (.ref fa) ∧ FunD K "_law_pair_alike" "_law_pair_alike" (defArgs (top 57)) (defBody (top 57)) (defScope (top 57)) [] [] fa fd
  d_law : ∃ fa fd, mg "law" = some (.ref fa) ∧ FunD K "law" "law" (defArgs (top 58)) (defBody (top 58)) (defScope (top 58)) [] [] fa fd
  e_Floor_begin : ∃ cl fa fd, mg "Floor" = some (.ref cl) ∧ Cls K cl ∧ Meth K cl "begin" fa ∧ FunD K "begin" "Floor.begin" (defArgs (inCls (top 40) 3)) (defBody (inCls (top 40) 3)) (defScope (inCls (top 40) 3)) [] [] fa fd
  e_Floor_finish : ∃ cl fa fd, mg "Floor" = some (.ref cl) ∧ Cls K cl ∧ Meth K cl "finish" fa ∧ FunD K "finish" "Floor.finish" (defArgs (inCls (top 40) 5)) (defBody (inCls (top 40) 5)) (defScope (inCls (top 40) 5)) [] [] fa fd
  e_Floor_go : ∃ cl fa fd, mg "Floor" = some (.ref cl) ∧ Cls K cl ∧ Meth K cl "go" fa ∧ FunD K "go" "Floor.go" (defArgs (inCls (top 40) 4)) (defBody (inCls (top 40) 4)) (defScope (inCls (top 40) 4)) [] [] fa fd
  e_Floor_land : ∃ cl fa fd, mg "Floor" = some (.ref cl) ∧ Cls K cl ∧ Meth K cl "land" fa ∧ FunD K "land" "Floor.land" (defArgs (inCls (top 40) 1)) (defBody (inCls (top 40) 1)) (defScope (inCls (top 40) 1)) [] [] fa fd
  e_Floor_numbers : ∃ cl fa fd, mg "Floor" = some (.ref cl) ∧ Cls K cl ∧ Meth K cl "numbers" fa ∧ FunD K "numbers" "Floor.numbers" (defArgs (inCls (top 40) 2)) (defBody (inCls (top 40) 2)) (defScope (inCls (top 40) 2)) [] [] fa fd
  e_Least_made : ∃ cl fa fd, mg "Least" = some (.ref cl) ∧ Cls K cl ∧ Meth K cl "made" fa ∧ FunD K "made" "Least.made" (defArgs (inCls (top 27) 0)) (defBody (inCls (top 27) 0)) (defScope (inCls (top 27) 0)) [] [] fa fd
  e_Least_of : ∃ cl fa fd, mg "Least" = some (.ref cl) ∧ Cls K cl ∧ Meth K cl "of" fa ∧ FunD K "of" "Deed.of" (defArgs (inCls (top 23) 2)) (defBody (inCls (top 23) 2)) (defScope (inCls (top 23) 2)) [] [] fa fd
  e_Less_made : ∃ cl fa fd, mg "Less" = some (.ref cl) ∧ Cls K cl ∧ Meth K cl "made" fa ∧ FunD K "made" "Less.made" (defArgs (inCls (top 25) 0)) (defBody (inCls (top 25) 0)) (defScope (inCls (top 25) 0)) [] [] fa fd
  e_Less_of : ∃ cl fa fd, mg "Less" = some (.ref cl) ∧ Cls K cl ∧ Meth K cl "of" fa ∧ FunD K "of" "Deed.of" (defArgs (inCls (top 23) 2)) (defBody (inCls (top 23) 2)) (defScope (inCls (top 23) 2)) [] [] fa fd
  e_Most_made : ∃ cl fa fd, mg "Most" = some (.ref cl) ∧ Cls K cl ∧ Meth K cl "made" fa ∧ FunD K "made" "Most.made" (defArgs (inCls (top 28) 0)) (defBody (inCls (top 28) 0)) (defScope (inCls (top 28) 0)) [] [] fa fd
  e_Most_of : ∃ cl fa fd, mg "Most" = some (.ref cl) ∧ Cls K cl ∧ Meth K cl "of" fa ∧ FunD K "of" "Deed.of" (defArgs (inCls (top 23) 2)) (defBody (inCls (top 23) 2)) (defScope (inCls (top 23) 2)) [] [] fa fd
  e_Pick_made : ∃ cl fa fd, mg "Pick" = some (.ref cl) ∧ Cls K cl ∧ Meth K cl "made" fa ∧ FunD K "made" "Pick.made" (defArgs (inCls (top 29) 1)) (defBody (inCls (top 29) 1)) (defScope (inCls (top 29) 1)) [] [] fa fd
  e_Pick_of : ∃ cl fa fd, mg "Pick" = some (.ref cl) ∧ Cls K cl ∧ Meth K cl "of" fa ∧ FunD K "of" "Deed.of" (defArgs (inCls (top 23) 2)) (defBody (inCls (top 23) 2)) (defScope (inCls (top 23) 2)) [] [] fa fd
  e_Same_made : ∃ cl fa fd, mg "Same" = some (.ref cl) ∧ Cls K cl ∧ Meth K cl "made" fa ∧ FunD K "made" "Deed.made" (defArgs (inCls (top 23) 1)) (defBody (inCls (top 23) 1)) (defScope (inCls (top 23) 1)) [] [] fa fd
  e_Same_of : ∃ cl fa fd, mg "Same" = some (.ref cl) ∧ Cls K cl ∧ Meth K cl "of" fa ∧ FunD K "of" "Deed.of" (defArgs (inCls (top 23) 2)) (defBody (inCls (top 23) 2)) (defScope (inCls (top 23) 2)) [] [] fa fd
  e_Sum_made : ∃ cl fa fd, mg "Sum" = some (.ref cl) ∧ Cls K cl ∧ Meth K cl "made" fa ∧ FunD K "made" "Sum.made" (defArgs (inCls (top 24) 0)) (defBody (inCls (top 24) 0)) (defScope (inCls (top 24) 0)) [] [] fa fd
  e_Sum_of : ∃ cl fa fd, mg "Sum" = some (.ref cl) ∧ Cls K cl ∧ Meth K cl "of" fa ∧ FunD K "of" "Deed.of" (defArgs (inCls (top 23) 2)) (defBody (inCls (top 23) 2)) (defScope (inCls (top 23) 2)) [] [] fa fd
  e_Take_made : ∃ cl fa fd, mg "Take" = some (.ref cl) ∧ Cls K cl ∧ Meth K cl "made" fa ∧ FunD K "made" "Deed.made" (defArgs (inCls (top 23) 1)) (defBody (inCls (top 23) 1)) (defScope (inCls (top 23) 1)) [] [] fa fd
  e_Take_of : ∃ cl fa fd, mg "Take" = some (.ref cl) ∧ Cls K cl ∧ Meth K cl "of" fa ∧ FunD K "of" "Deed.of" (defArgs (inCls (top 23) 2)) (defBody (inCls (top 23) 2)) (defScope (inCls (top 23) 2)) [] [] fa fd
  e_Tell_made : ∃ cl fa fd, mg "Tell" = some (.ref cl) ∧ Cls K cl ∧ Meth K cl "made" fa ∧ FunD K "made" "Deed.made" (defArgs (inCls (top 23) 1)) (defBody (inCls (top 23) 1)) (defScope (inCls (top 23) 1)) [] [] fa fd
  e_Tell_of : ∃ cl fa fd, mg "Tell" = some (.ref cl) ∧ Cls K cl ∧ Meth K cl "of" fa ∧ FunD K "of" "Deed.of" (defArgs (inCls (top 23) 2)) (defBody (inCls (top 23) 2)) (defScope (inCls (top 23) 2)) [] [] fa fd
  e_Times_made : ∃ cl fa fd, mg "Times" = some (.ref cl) ∧ Cls K cl ∧ Meth K cl "made" fa ∧ FunD K "made" "Times.made" (defArgs (inCls (top 26) 0)) (defBody (inCls (top 26) 0)) (defScope (inCls (top 26) 0)) [] [] fa fd
  e_Times_of : ∃ cl fa fd, mg "Times" = some (.ref cl) ∧ Cls K cl ∧ Meth K cl "of" fa ∧ FunD K "of" "Deed.of" (defArgs (inCls (top 23) 2)) (defBody (inCls (top 23) 2)) (defScope (inCls (top 23) 2)) [] [] fa fd
  m_Least : MkD K mg "Least"
  m_Less : MkD K mg "Less"
  m_Most : MkD K mg "Most"
  m_Pick : MkD K mg "Pick"
  m_Same : MkD K mg "Same"
  m_Sum : MkD K mg "Sum"
  m_Take : MkD K mg "Take"
  m_Tell : MkD K mg "Tell"
  m_Times : MkD K mg "Times"
  iE_BadArms : IsEO K mg "BadArms" isE_BadArms
  iE_BadBack : IsEO K mg "BadBack" isE_BadBack
  iE_BadCount : IsEO K mg "BadCount" isE_BadCount
  iE_BadDelay : IsEO K mg "BadDelay" isE_BadDelay
  iE_BadHold : IsEO K mg "BadHold" isE_BadHold
  iE_BadName : IsEO K mg "BadName" isE_BadName
  iE_BadNumber : IsEO K mg "BadNumber" isE_BadNumber
  iE_BadPlan : IsEO K mg "BadPlan" isE_BadPlan
  iE_BadRows : IsEO K mg "BadRows" isE_BadRows
  iE_BadText : IsEO K mg "BadText" isE_BadText
  iE_BadTurns : IsEO K mg "BadTurns" isE_BadTurns
  iE_BadWidth : IsEO K mg "BadWidth" isE_BadWidth
  iE_LapError : IsEO K mg "LapError" isE_LapError
  iE_NoArm : IsEO K mg "NoArm" isE_NoArm
  iE_NoDeed : IsEO K mg "NoDeed" isE_NoDeed
  iE_NoMeasure : IsEO K mg "NoMeasure" isE_NoMeasure
  iE_NoRow : IsEO K mg "NoRow" isE_NoRow
  iE_Short : IsEO K mg "Short" isE_Short
  iE_TooEarly : IsEO K mg "TooEarly" isE_TooEarly
  iE_Twice : IsEO K mg "Twice" isE_Twice
  iE_Unfit : IsEO K mg "Unfit" isE_Unfit
  iB_ValueError : IsEB K mg "ValueError" isB_ValueError
  ct_LapError : CatO K mg "LapError" cat_LapError
  mi_Floor : ∃ cl fa fd, mg "Floor" = some (.ref cl) ∧ Mk K cl fa ∧ FunD K "__init__" "Floor.__init__" (defArgs (inCls (top 40) 0)) (defBody (inCls (top 40) 0)) (defScope (inCls (top 40) 0)) [] [] fa fd
  mi_Sheet : ∃ cl fa fd, mg "Sheet" = some (.ref cl) ∧ Mk K cl fa ∧ FunD K "__init__" "Sheet.__init__" (defArgs (inCls (top 38) 0)) (defBody (inCls (top 38) 0)) (defScope (inCls (top 38) 0)) [] [] fa fd
  sysM : ∃ o, K.lookup sysModules = some o
  fl_Floor_boxes : FldD K mg "Floor" "boxes"
  fl_Floor_clock : FldD K mg "Floor" "clock"
  fl_Floor_due : FldD K mg "Floor" "due"
  fl_Floor_feeds : FldD K mg "Floor" "feeds"
  fl_Floor_measure : FldD K mg "Floor" "measure"
  fl_Floor_told : FldD K mg "Floor" "told"
  fl_Sheet_ahead : FldD K mg "Sheet" "ahead"
  fl_Sheet_held : FldD K mg "Sheet" "held"
  fl_Sheet_middle : FldD K mg "Sheet" "middle"
  fl_Sheet_pace : FldD K mg "Sheet" "pace"
  fl_Sheet_shorts : FldD K mg "Sheet" "shorts"
  fl_Sheet_stages : FldD K mg "Sheet" "stages"
  fl_Sheet_tails : FldD K mg "Sheet" "tails"
  x_BadTurns : ExD K mg "BadTurns"
  x_NoDeed : ExD K mg "NoDeed"
  g_MOST_TURNS : ∃ t, mg "MOST_TURNS" = some (.int 300 t)
section
variable {P : Program} {w : World} {K : PySem.W.Frag} {mg : Str → Option Value} {base : Heap}
def b_law_mix (a0 a1 : D) : R D := (R.bind (R.bin2 (.ok a0) (R.bin2 (.ok (.int 10)) (.ok (.int 60)) pPow) pMod) fun x1 => (R.bind (R.bin2 (R.bin2 (R.bin2 (R.bin2 (R.bin2 (.ok x1) (.ok x1) pMul) (R.bin2 (R.bin2 (.ok (.int 40503)) (.ok a1) pMul) (.ok a1) pMul) pAdd) (.ok (.int 7919)) pAdd) (.ok (.int 1812433253982451697)) pMul) (R.bin2 (R.bin2 (.ok (.int 10)) (.ok (.int 18)) pPow) (.ok (.int 9)) pAdd) pMod) fun x2 => (R.bin2 (R.bin2 (.ok x2) (.ok (.int 739108512309184756019283746561)) pMul) (R.bin2 (R.bin2 (.ok (.int 10)) (.ok (.int 40)) pPow) (.ok (.int 121)) pAdd) pMod)))
def f_law_mix : List D → R D
  | [a0, a1] => b_law_mix a0 a1
  | _ => .bad
theorem sc_law_mix : FnScope ["_law_cell", "_law_k", "_law_number"] ["_law_cell", "_law_k"] (defScope (top 46)) := ⟨rfl, rfl, rfl, by decide +kernel, rfl, by decide +kernel, by decide +kernel⟩
theorem fd_law_mix (C : Ctx K mg) : FD P w K mg base 1 "_law_mix" f_law_mix [.F, .F] .F := by
  obtain ⟨fa, fd, g, F⟩ := C.d_law_mix
  refine ⟨fa, fd, ["_law_cell", "_law_k"], g, F.kp, F.bindsN (fun _ _ _ _ _ _ us hl => match us, hl with | [_, _], _ => rfl), fd_ok F sc_law_mix rfl (by decide) fun cdv A outer s H E G ds hr hl => ?_⟩
  exact match ds, hl with
  | [a0, a1], _ =>
    show SV _ _ _ _ [.F, .F, .N] [a0, a1, .non] _ _ (b_law_mix a0 a1) from (sv_set (i := 2) (ev_bin op_mod od_mod (ev_varF (pe_var (i := 0) rfl (.inl rfl)) rfl rfl) (ev_bin op_pow od_pow ev_int ev_int)) (fun x1 => (sv_at (κ2 := [.F, .F, .F]) (en2 := [a0, a1, x1]) (sv_set (i := 2) (ev_bin op_mod od_mod (ev_bin op_mulD od_mul (ev_bin op_addD od_add (ev_bin op_addD od_add (ev_bin op_mulD od_mul (ev_varF (pe_var (i := 2) rfl (.inl rfl)) rfl rfl) (ev_varF (pe_var (i := 2) rfl (.inl rfl)) rfl rfl)) (ev_bin op_mulD od_mul (ev_bin op_mulD od_mul ev_int (ev_varF (pe_var (i := 1) rfl (.inl rfl)) rfl rfl)) (ev_varF (pe_var (i := 1) rfl (.inl rfl)) rfl rfl))) ev_int) ev_int) (ev_bin op_addD od_add (ev_bin op_pow od_pow ev_int ev_int) ev_int)) (fun x2 => (sv_at (κ2 := [.F, .F, .F]) (en2 := [a0, a1, x2]) (sv_retD (ev_bin op_mod od_mod (ev_bin op_mulD od_mul (ev_varF (pe_var (i := 2) rfl (.inl rfl)) rfl rfl) ev_int) (ev_bin op_addD od_add (ev_bin op_pow od_pow ev_int ev_int) ev_int))))) sc_law_mix.nd))) sc_law_mix.nd)
def b_law_cell_at (a0 a1 : D) : R D := (R.bind (R.bind (R.bin2 (.ok a1) (R.bind (R.cons (.ok a0) (.ok [])) pLen) pLt) toB) fun b => if b = true then (R.bind (R.bin2 (.ok a0) (.ok a1) pIx) fun d => .ok d) else (.ok (.int 0)))
def f_law_cell_at : List D → R D
  | [a0, a1] => b_law_cell_at a0 a1
  | _ => .bad
theorem sc_law_cell_at : FnScope ["_law_script", "_law_k"] ["_law_script", "_law_k"] (defScope (top 43)) := ⟨rfl, rfl, rfl, by decide +kernel, rfl, by decide +kernel, by decide +kernel⟩
theorem fd_law_cell_at (C : Ctx K mg) : FD P w K mg base 1 "_law_cell_at" f_law_cell_at [.F, .F] .F := by
  obtain ⟨fa, fd, g, F⟩ := C.d_law_cell_at
  refine ⟨fa, fd, ["_law_script", "_law_k"], g, F.kp, F.bindsN (fun _ _ _ _ _ _ us hl => match us, hl with | [_, _], _ => rfl), fd_ok F sc_law_cell_at rfl (by decide) fun cdv A outer s H E G ds hr hl => ?_⟩
  exact match ds, hl with
  | [a0, a1], _ =>
    show SV _ _ _ _ [.F, .F] [a0, a1] _ _ (b_law_cell_at a0 a1) from (sv_ifS (et_cmp op_lt od_lt (ev_varF (pe_var (i := 1) rfl (.inl rfl)) rfl rfl) (ev_callB call_len bf_len (ea_P (ev_varF (pe_var (i := 0) rfl (.inl rfl)) rfl rfl) ea_nil) C.f_len (by decide +kernel)) (nomark _)) (sv_ret (g := fun d => d) (ev_ix (ev_varF (pe_var (i := 0) rfl (.inl rfl)) rfl rfl) (ev_varF (pe_var (i := 1) rfl (.inl rfl)) rfl rfl)) (fun d => ⟨rfl, rfl⟩)) (sv_retD ev_int))
def b_law_wants (a0 : D) : R D := (R.bind (R.bind (R.bin2 (.ok a0) (.ok (.str "take")) pEq) toB) fun b => if b = true then (R.bind (.ok (.int 0)) fun d => .ok d) else (R.bind (orT (R.bind (R.bin2 (.ok a0) (.ok (.str "same")) pEq) toB) (R.bind (R.bin2 (.ok a0) (.ok (.str "tell")) pEq) toB)) fun b => if b = true then (R.bind (.ok (.int 1)) fun d => .ok d) else (R.bin2 (R.bind (R.cons (.ok (.int 2)) (R.cons (.ok (.int 3)) (.ok []))) mkL) (R.bind (R.cons (R.bin2 (.ok a0) (.ok (.str "pick")) pEq) (.ok [])) pInt) pIx)))
def f_law_wants : List D → R D
  | [a0] => b_law_wants a0
  | _ => .bad
theorem sc_law_wants : FnScope ["_law_word"] ["_law_word"] (defScope (top 47)) := ⟨rfl, rfl, rfl, by decide +kernel, rfl, by decide +kernel, by decide +kernel⟩
theorem fd_law_wants (C : Ctx K mg) : FD P w K mg base 1 "_law_wants" f_law_wants [.F] .F := by
  obtain ⟨fa, fd, g, F⟩ := C.d_law_wants
  refine ⟨fa, fd, ["_law_word"], g, F.kp, F.bindsN (fun _ _ _ _ _ _ us hl => match us, hl with | [_], _ => rfl), fd_ok F sc_law_wants rfl (by decide) fun cdv A outer s H E G ds hr hl => ?_⟩
  exact match ds, hl with
  | [a0], _ =>
    show SV _ _ _ _ [.F] [a0] _ _ (b_law_wants a0) from (sv_ifS (et_cmp (op_eqD hr.units) od_eq (ev_varF (pe_var (i := 0) rfl (.inl rfl)) rfl rfl) (ev_str s_8) (nomark _)) (sv_ret (g := fun d => d) ev_int (fun d => ⟨rfl, rfl⟩)) (sv_ifS (et_w (ew_or (et_cmp (op_eqD hr.units) od_eq (ev_varF (pe_var (i := 0) rfl (.inl rfl)) rfl rfl) (ev_str s_6) (nomark _)) (ew_or1 (et_cmp (op_eqD hr.units) od_eq (ev_varF (pe_var (i := 0) rfl (.inl rfl)) rfl rfl) (ev_str s_7) (nomark _))))) (sv_ret (g := fun d => d) ev_int (fun d => ⟨rfl, rfl⟩)) (sv_retD (ev_ix (EV.frz (ev_lst (ea_F ev_int (ea_F ev_int ea_nil))) rfl) (ev_callTy call_int1 bf_int (ea_P (ev_cmp (op_eqD hr.units) od_eq (ev_varF (pe_var (i := 0) rfl (.inl rfl)) rfl rfl) (ev_str s_5) (nomark _)) ea_nil) C.f_int (by decide +kernel))))))
def l_law_step_1 (a1 : D) (a0 : D) (a2 : D) (p4 : D) (t3 : D) : R (D) := (R.bind (R.bin2 (.ok a1) (R.bin2 (R.bind (R.cons (R.bin2 (.ok (.int 10)) (.ok (.int 4)) pPow) (R.cons (R.bin2 (.ok (.int 10)) (.ok (.int 8)) pPow) (R.cons (R.bin2 (.ok (.int 10)) (.ok (.int 12)) pPow) (.ok [])))) mkL) (.ok p4) pIx) pDiv) fun x5 => (R.bind (R.bind (R.bin2 (R.bin2 (.ok x5) (.ok (.int 4)) pMod) (.ok (.int 0)) pEq) toB) fun b => if b = true then (R.bind (toL t3) fun xs => R.bind (R.bin2 (R.bind (R.cons (.ok a0) (R.cons (R.bin2 (R.bin2 (.ok x5) (.ok (.int 4)) pDiv) (.ok (.int 63)) pMod) (.ok []))) f_law_cell_at) (R.bin2 (.ok (.int 10)) (.ok (.int 60)) pPow) pMod) fun d => R.bind (appL xs d) fun x6 => (.ok x6)) else (R.bind (toL t3) fun xs => R.bind (R.bind (R.cons (.ok (.str "box")) (R.cons (R.bin2 (R.bin2 (.ok x5) (.ok (.int 4)) pDiv) (.ok a2) pMod) (.ok []))) mkT) fun d => R.bind (appL xs d) fun x7 => (.ok x7))))
def b_law_step (a0 a1 a2 : D) : R D := (R.bind (R.bin2 (R.bind (R.cons (.ok (.str "sum")) (R.cons (.ok (.str "less")) (R.cons (.ok (.str "times")) (R.cons (.ok (.str "least")) (R.cons (.ok (.str "most")) (R.cons (.ok (.str "pick")) (R.cons (.ok (.str "same")) (R.cons (.ok (.str "tell")) (R.cons (.ok (.str "take")) (.ok [])))))))))) mkL) (R.bin2 (.ok a1) (.ok (.int 9)) pMod) pIx) fun x1 => (R.bind (R.bind (.ok []) mkL) fun x2 => (R.bind (R.bind (R.bind (R.cons (.ok x1) (.ok [])) f_law_wants) pRange1) fun xs => R.bind (rFor xs x2 ((l_law_step_1 a1 a0 a2))) fun t3 => (R.bind (R.bin2 (R.bind (R.cons (.ok (.str "in")) (R.cons (.ok (.str "on")) (.ok []))) mkL) (R.bin2 (R.bin2 (.ok a1) (.ok (.int 400)) pDiv) (.ok (.int 2)) pMod) pIx) fun x8 => (R.bind (R.cons (.ok x1) (R.cons (R.bin2 (.ok (.int 1)) (R.bin2 (R.bin2 (.ok a1) (.ok (.int 9)) pDiv) (.ok (.int 6)) pMod) pAdd) (R.cons (R.bin2 (R.bin2 (.ok a1) (.ok (.int 54)) pDiv) (.ok a2) pMod) (R.cons (.ok t3) (R.cons (.ok x8) (R.cons (R.bin2 (R.bin2 (.ok a1) (.ok (.int 800)) pDiv) (.ok (.int 5)) pMod) (.ok []))))))) mkT)))))
def f_law_step : List D → R D
  | [a0, a1, a2] => b_law_step a0 a1 a2
  | _ => .bad
theorem sc_law_step : FnScope ["_law_script", "_law_number", "_law_boxes", "_law_word", "_law_reads", "_law_k", "_law_digit", "_law_name"] ["_law_script", "_law_number", "_law_boxes"] (defScope (top 54)) := ⟨rfl, rfl, rfl, by decide +kernel, rfl, by decide +kernel, by decide +kernel⟩
theorem fd_law_step (C : Ctx K mg) : FD P w K mg base 2 "_law_step" f_law_step [.F, .F, .F] .F := by
  obtain ⟨fa, fd, g, F⟩ := C.d_law_step
  refine ⟨fa, fd, ["_law_script", "_law_number", "_law_boxes"], g, F.kp, F.bindsN (fun _ _ _ _ _ _ us hl => match us, hl with | [_, _, _], _ => rfl), fd_ok F sc_law_step rfl (by decide) fun cdv A outer s H E G ds hr hl => ?_⟩
  exact match ds, hl with
  | [a0, a1, a2], _ =>
    show SV _ _ _ _ [.F, .F, .F, .N, .N, .N, .N, .N] [a0, a1, a2, .non, .non, .non, .non, .non] _ _ (b_law_step a0 a1 a2) from (sv_set (i := 3) (ev_ix (EV.frz (ev_lst (ea_F (ev_str s_0) (ea_F (ev_str s_1) (ea_F (ev_str s_2) (ea_F (ev_str s_3) (ea_F (ev_str s_4) (ea_F (ev_str s_5) (ea_F (ev_str s_6) (ea_F (ev_str s_7) (ea_F (ev_str s_8) ea_nil)))))))))) rfl) (ev_bin op_mod od_mod (ev_varF (pe_var (i := 1) rfl (.inl rfl)) rfl rfl) ev_int)) (fun x1 => (sv_at (κ2 := [.F, .F, .F, .F, .N, .N, .N, .N]) (en2 := [a0, a1, a2, x1, .non, .non, .non, .non]) (sv_set (i := 4) (ev_lst ea_nil) (fun x2 => (sv_at (κ2 := [.F, .F, .F, .F, (.L .F), .N, .N, .N]) (en2 := [a0, a1, a2, x1, x2, .non, .non, .non]) (sv_for1 (i := 5) [.F, .F, .F, .F, (.L .F), .N, .N, .N] (fun (t3 : D) => [a0, a1, a2, x1, t3, .non, .non, .non]) x2 (ei_range1 (ev_call (fd_law_wants C) (hr.mono (by decide)) (takes_of rfl rfl rfl rfl) (ea_F (ev_varF (pe_var (i := 3) rfl (.inl rfl)) rfl rfl) ea_nil)) C.f_range) (tg_name sc_law_step.nd) ⟨.inr ⟨rfl, rfl⟩, .inr ⟨rfl, rfl⟩, .inr ⟨rfl, rfl⟩, .inr ⟨rfl, rfl⟩, .inr ⟨rfl, rfl⟩, .inl rfl, .inl rfl, .inl rfl, trivial⟩ (fun _ p4 t3 => (sv_set (i := 6) (ev_bin op_fdivW od_div (ev_varF (pe_var (i := 1) rfl (.inl rfl)) rfl rfl) (ev_ix (EV.frz (ev_lst (ea_F (ev_bin op_pow od_pow ev_int ev_int) (ea_F (ev_bin op_pow od_pow ev_int ev_int) (ea_F (ev_bin op_pow od_pow ev_int ev_int) ea_nil)))) rfl) (ev_varF (pe_var (i := 5) rfl (.inl rfl)) rfl rfl))) (fun x5 => (sv_at (κ2 := [.F, .F, .F, .F, (.L .F), .F, .F, .N]) (en2 := [a0, a1, a2, x1, t3, p4, x5, .non]) (sv_ifE (et_cmp (op_eqD hr.units) od_eq (ev_bin op_mod od_mod (ev_varF (pe_var (i := 6) rfl (.inl rfl)) rfl rfl) ev_int) ev_int (nomark _)) (sv_app (pe_var (i := 4) rfl (.inl rfl)) (ev_bin op_mod od_mod (ev_call (fd_law_cell_at C) (hr.mono (by decide)) (takes_of rfl rfl rfl rfl) (ea_F (ev_varF (pe_var (i := 0) rfl (.inl rfl)) rfl rfl) (ea_F (ev_bin op_mod od_mod (ev_bin op_fdivW od_div (ev_varF (pe_var (i := 6) rfl (.inl rfl)) rfl rfl) ev_int) ev_int) ea_nil))) (ev_bin op_pow od_pow ev_int ev_int)) (fun x6 => (sv_at (κ2 := [.F, .F, .F, .F, (.L .F), .F, .F, .N]) (en2 := [a0, a1, a2, x1, x6, p4, x5, .non]) (sv_nil ⟨.inr ⟨rfl, rfl⟩, .inr ⟨rfl, rfl⟩, .inr ⟨rfl, rfl⟩, .inr ⟨rfl, rfl⟩, .inr ⟨rfl, rfl⟩, .inl rfl, .inl rfl, .inl rfl, trivial⟩)))) (sv_app (pe_var (i := 4) rfl (.inl rfl)) (ev_tup (ea_F (ev_str s_9) (ea_F (ev_bin op_mod od_mod (ev_bin op_fdivW od_div (ev_varF (pe_var (i := 6) rfl (.inl rfl)) rfl rfl) ev_int) (ev_varF (pe_var (i := 2) rfl (.inl rfl)) rfl rfl)) ea_nil))) (fun x7 => (sv_at (κ2 := [.F, .F, .F, .F, (.L .F), .F, .F, .N]) (en2 := [a0, a1, a2, x1, x7, p4, x5, .non]) (sv_nil ⟨.inr ⟨rfl, rfl⟩, .inr ⟨rfl, rfl⟩, .inr ⟨rfl, rfl⟩, .inr ⟨rfl, rfl⟩, .inr ⟨rfl, rfl⟩, .inl rfl, .inl rfl, .inl rfl, trivial⟩))))))) sc_law_step.nd)) (fun t3 => (sv_set (i := 7) (ev_ix (EV.frz (ev_lst (ea_F (ev_str s_10) (ea_F (ev_str s_11) ea_nil))) rfl) (ev_bin op_mod od_mod (ev_bin op_fdivW od_div (ev_varF (pe_var (i := 1) rfl (.inl rfl)) rfl rfl) ev_int) ev_int)) (fun x8 => (sv_at (κ2 := [.F, .F, .F, .F, (.L .F), .N, .N, .F]) (en2 := [a0, a1, a2, x1, t3, .non, .non, x8]) (sv_freeze (i := 4) (q := (.L .F)) rfl (sv_retD (ev_tup (ea_F (ev_varF (pe_var (i := 3) rfl (.inl rfl)) rfl rfl) (ea_F (ev_bin op_addD od_add ev_int (ev_bin op_mod od_mod (ev_bin op_fdivW od_div (ev_varF (pe_var (i := 1) rfl (.inl rfl)) rfl rfl) ev_int) ev_int)) (ea_F (ev_bin op_mod od_mod (ev_bin op_fdivW od_div (ev_varF (pe_var (i := 1) rfl (.inl rfl)) rfl rfl) ev_int) (ev_varF (pe_var (i := 2) rfl (.inl rfl)) rfl rfl)) (ea_F (ev_varF (pe_var (i := 4) rfl (.inl rfl)) rfl rfl) (ea_F (ev_varF (pe_var (i := 7) rfl (.inl rfl)) rfl rfl) (ea_F (ev_bin op_mod od_mod (ev_bin op_fdivW od_div (ev_varF (pe_var (i := 1) rfl (.inl rfl)) rfl rfl) ev_int) ev_int) ea_nil))))))))))) sc_law_step.nd)) (passes_of rfl)))) sc_law_step.nd))) sc_law_step.nd)
def l_law_part_1 (a0 : D) (x4 : D) (a2 : D) (p7 : D) (t6 : D) : R (D) := (R.bind (toL t6) fun xs => R.bind (R.bind (R.cons (.ok a0) (R.cons (R.bind (R.cons (R.bin2 (R.bin2 (.ok x4) (.ok (.int 4)) pDiv) (R.bin2 (.ok (.int 10)) (.ok (.int 20)) pPow) pMod) (R.cons (.ok p7) (.ok []))) f_law_mix) (R.cons (.ok a2) (.ok [])))) f_law_step) fun d => R.bind (appL xs d) fun x8 => (.ok x8))
def l_law_part_2 (a0 : D) (a1 : D) (a2 : D) (p3 : D) (t2 : D) : R (D) := (R.bind (R.bind (R.cons (R.bind (R.cons (.ok a0) (R.cons (.ok a1) (.ok []))) f_law_cell_at) (R.cons (R.bin2 (R.bin2 (.ok (.int 80)) (R.bin2 (.ok (.int 4)) (.ok a1) pMul) pAdd) (.ok p3) pAdd) (.ok []))) f_law_mix) fun x4 => (R.bind (R.bind (.ok []) mkL) fun x5 => (R.bind (R.bind (R.bin2 (.ok x4) (.ok (.int 4)) pMod) pRange1) fun xs => R.bind (rFor xs x5 ((l_law_part_1 a0 x4 a2))) fun t6 => (R.bind (toL t2) fun xs => R.bind (.ok t6) fun d => R.bind (appL xs d) fun x9 => (.ok x9)))))
def b_law_part (a0 a1 a2 : D) : R D := (R.bind (R.bind (.ok []) mkL) fun x1 => (R.bind (R.bind (R.bin2 (R.bind (R.cons (R.bind (R.cons (.ok a0) (R.cons (.ok a1) (.ok []))) f_law_cell_at) (R.cons (R.bin2 (.ok (.int 60)) (.ok a1) pAdd) (.ok []))) f_law_mix) (.ok (.int 4)) pMod) pRange1) fun xs => R.bind (rFor xs x1 ((l_law_part_2 a0 a1 a2))) fun t2 => (.ok t2)))
def f_law_part : List D → R D
  | [a0, a1, a2] => b_law_part a0 a1 a2
  | _ => .bad
theorem sc_law_part : FnScope ["_law_script", "_law_at", "_law_boxes", "_law_ticks", "_law_k", "_law_many", "_law_steps", "_law_j"] ["_law_script", "_law_at", "_law_boxes"] (defScope (top 55)) := ⟨rfl, rfl, rfl, by decide +kernel, rfl, by decide +kernel, by decide +kernel⟩
theorem fd_law_part (C : Ctx K mg) : FD P w K mg base 3 "_law_part" f_law_part [.F, .F, .F] .F := by
  obtain ⟨fa, fd, g, F⟩ := C.d_law_part
  refine ⟨fa, fd, ["_law_script", "_law_at", "_law_boxes"], g, F.kp, F.bindsN (fun _ _ _ _ _ _ us hl => match us, hl with | [_, _, _], _ => rfl), fd_ok F sc_law_part rfl (by decide) fun cdv A outer s H E G ds hr hl => ?_⟩
  exact match ds, hl with
  | [a0, a1, a2], _ =>
    show SV _ _ _ _ [.F, .F, .F, .N, .N, .N, .N, .N] [a0, a1, a2, .non, .non, .non, .non, .non] _ _ (b_law_part a0 a1 a2) from (sv_set (i := 3) (ev_lst ea_nil) (fun x1 => (sv_at (κ2 := [.F, .F, .F, (.L .F), .N, .N, .N, .N]) (en2 := [a0, a1, a2, x1, .non, .non, .non, .non]) (sv_for1 (i := 4) [.F, .F, .F, (.L .F), .N, .N, .N, .N] (fun (t2 : D) => [a0, a1, a2, t2, .non, .non, .non, .non]) x1 (ei_range1 (ev_bin op_mod od_mod (ev_call (fd_law_mix C) (hr.mono (by decide)) (takes_of rfl rfl rfl rfl) (ea_F (ev_call (fd_law_cell_at C) (hr.mono (by decide)) (takes_of rfl rfl rfl rfl) (ea_F (ev_varF (pe_var (i := 0) rfl (.inl rfl)) rfl rfl) (ea_F (ev_varF (pe_var (i := 1) rfl (.inl rfl)) rfl rfl) ea_nil))) (ea_F (ev_bin op_addD od_add ev_int (ev_varF (pe_var (i := 1) rfl (.inl rfl)) rfl rfl)) ea_nil))) ev_int) C.f_range) (tg_name sc_law_part.nd) ⟨.inr ⟨rfl, rfl⟩, .inr ⟨rfl, rfl⟩, .inr ⟨rfl, rfl⟩, .inr ⟨rfl, rfl⟩, .inl rfl, .inl rfl, .inl rfl, .inl rfl, trivial⟩ (fun _ p3 t2 => (sv_set (i := 5) (ev_call (fd_law_mix C) (hr.mono (by decide)) (takes_of rfl rfl rfl rfl) (ea_F (ev_call (fd_law_cell_at C) (hr.mono (by decide)) (takes_of rfl rfl rfl rfl) (ea_F (ev_varF (pe_var (i := 0) rfl (.inl rfl)) rfl rfl) (ea_F (ev_varF (pe_var (i := 1) rfl (.inl rfl)) rfl rfl) ea_nil))) (ea_F (ev_bin op_addD od_add (ev_bin op_addD od_add ev_int (ev_bin op_mulD od_mul ev_int (ev_varF (pe_var (i := 1) rfl (.inl rfl)) rfl rfl))) (ev_varF (pe_var (i := 4) rfl (.inl rfl)) rfl rfl)) ea_nil))) (fun x4 => (sv_at (κ2 := [.F, .F, .F, (.L .F), .F, .F, .N, .N]) (en2 := [a0, a1, a2, t2, p3, x4, .non, .non]) (sv_set (i := 6) (ev_lst ea_nil) (fun x5 => (sv_at (κ2 := [.F, .F, .F, (.L .F), .F, .F, (.L .F), .N]) (en2 := [a0, a1, a2, t2, p3, x4, x5, .non]) (sv_for1 (i := 7) [.F, .F, .F, (.L .F), .F, .F, (.L .F), .N] (fun (t6 : D) => [a0, a1, a2, t2, p3, x4, t6, .non]) x5 (ei_range1 (ev_bin op_mod od_mod (ev_varF (pe_var (i := 5) rfl (.inl rfl)) rfl rfl) ev_int) C.f_range) (tg_name sc_law_part.nd) ⟨.inr ⟨rfl, rfl⟩, .inr ⟨rfl, rfl⟩, .inr ⟨rfl, rfl⟩, .inr ⟨rfl, rfl⟩, .inr ⟨rfl, rfl⟩, .inr ⟨rfl, rfl⟩, .inr ⟨rfl, rfl⟩, .inl rfl, trivial⟩ (fun _ p7 t6 => (sv_app (pe_var (i := 6) rfl (.inl rfl)) (ev_call (fd_law_step C) (hr.mono (by decide)) (takes_of rfl rfl rfl rfl) (ea_F (ev_varF (pe_var (i := 0) rfl (.inl rfl)) rfl rfl) (ea_F (ev_call (fd_law_mix C) (hr.mono (by decide)) (takes_of rfl rfl rfl rfl) (ea_F (ev_bin op_mod od_mod (ev_bin op_fdivW od_div (ev_varF (pe_var (i := 5) rfl (.inl rfl)) rfl rfl) ev_int) (ev_bin op_pow od_pow ev_int ev_int)) (ea_F (ev_varF (pe_var (i := 7) rfl (.inl rfl)) rfl rfl) ea_nil))) (ea_F (ev_varF (pe_var (i := 2) rfl (.inl rfl)) rfl rfl) ea_nil)))) (fun x8 => (sv_at (κ2 := [.F, .F, .F, (.L .F), .F, .F, (.L .F), .F]) (en2 := [a0, a1, a2, t2, p3, x4, x8, p7]) (sv_nil ⟨.inr ⟨rfl, rfl⟩, .inr ⟨rfl, rfl⟩, .inr ⟨rfl, rfl⟩, .inr ⟨rfl, rfl⟩, .inr ⟨rfl, rfl⟩, .inr ⟨rfl, rfl⟩, .inr ⟨rfl, rfl⟩, .inl rfl, trivial⟩))))) (fun t6 => (sv_freeze (i := 6) (q := (.L .F)) rfl (sv_app (pe_var (i := 3) rfl (.inl rfl)) (ev_varF (pe_var (i := 6) rfl (.inl rfl)) rfl rfl) (fun x9 => (sv_at (κ2 := [.F, .F, .F, (.L .F), .F, .F, .F, .N]) (en2 := [a0, a1, a2, x9, p3, x4, t6, .non]) (sv_nil ⟨.inr ⟨rfl, rfl⟩, .inr ⟨rfl, rfl⟩, .inr ⟨rfl, rfl⟩, .inr ⟨rfl, rfl⟩, .inl rfl, .inl rfl, .inl rfl, .inl rfl, trivial⟩)))))) (passes_of rfl)))) sc_law_part.nd))) sc_law_part.nd)) (fun t2 => (sv_freeze (i := 3) (q := (.L .F)) rfl (sv_retD (ev_varF (pe_var (i := 3) rfl (.inl rfl)) rfl rfl)))) (passes_of rfl)))) sc_law_part.nd)
def l_law_numbers_1 (a0 : D) (a1 : D) (p3 : D) (t2 : D) : R (D) := (R.bind (R.bin2 (R.bind (R.cons (.ok a0) (R.cons (R.bin2 (R.bin2 (.ok a1) (.ok p3) pAdd) (.ok (.int 63)) pMod) (.ok []))) f_law_cell_at) (R.bin2 (.ok (.int 10)) (.ok (.int 60)) pPow) pMod) fun x4 => (R.bind (R.bind (R.bind (R.bin2 (R.bin2 (R.bin2 (.ok x4) (.ok p3) pAdd) (.ok (.int 3)) pMod) (.ok (.int 1)) pEq) toB) fun b => if b = true then (R.bind (R.bind (.ok x4) pNeg) fun x6 => (.ok x6)) else (.ok x4)) fun t5 => (R.bind (toL t2) fun xs => R.bind (.ok t5) fun d => R.bind (appL xs d) fun x7 => (.ok x7))))
def b_law_numbers (a0 a1 a2 : D) : R D := (R.bind (R.bind (.ok []) mkL) fun x1 => (R.bind (R.bind (.ok a2) pRange1) fun xs => R.bind (rFor xs x1 ((l_law_numbers_1 a0 a1))) fun t2 => (.ok t2)))
def f_law_numbers : List D → R D
  | [a0, a1, a2] => b_law_numbers a0 a1 a2
  | _ => .bad
theorem sc_law_numbers : FnScope ["_law_script", "_law_at", "_law_many", "_law_made", "_law_k", "_law_number"] ["_law_script", "_law_at", "_law_many"] (defScope (top 56)) := ⟨rfl, rfl, rfl, by decide +kernel, rfl, by decide +kernel, by decide +kernel⟩
theorem fd_law_numbers (C : Ctx K mg) : FD P w K mg base 2 "_law_numbers" f_law_numbers [.F, .F, .F] .F := by
  obtain ⟨fa, fd, g, F⟩ := C.d_law_numbers
  refine ⟨fa, fd, ["_law_script", "_law_at", "_law_many"], g, F.kp, F.bindsN (fun _ _ _ _ _ _ us hl => match us, hl with | [_, _, _], _ => rfl), fd_ok F sc_law_numbers rfl (by decide) fun cdv A outer s H E G ds hr hl => ?_⟩
  exact match ds, hl with
  | [a0, a1, a2], _ =>
    show SV _ _ _ _ [.F, .F, .F, .N, .N, .N] [a0, a1, a2, .non, .non, .non] _ _ (b_law_numbers a0 a1 a2) from (sv_set (i := 3) (ev_lst ea_nil) (fun x1 => (sv_at (κ2 := [.F, .F, .F, (.L .F), .N, .N]) (en2 := [a0, a1, a2, x1, .non, .non]) (sv_for1 (i := 4) [.F, .F, .F, (.L .F), .N, .N] (fun (t2 : D) => [a0, a1, a2, t2, .non, .non]) x1 (ei_range1 (ev_varF (pe_var (i := 2) rfl (.inl rfl)) rfl rfl) C.f_range) (tg_name sc_law_numbers.nd) ⟨.inr ⟨rfl, rfl⟩, .inr ⟨rfl, rfl⟩, .inr ⟨rfl, rfl⟩, .inr ⟨rfl, rfl⟩, .inl rfl, .inl rfl, trivial⟩ (fun _ p3 t2 => (sv_set (i := 5) (ev_bin op_mod od_mod (ev_call (fd_law_cell_at C) (hr.mono (by decide)) (takes_of rfl rfl rfl rfl) (ea_F (ev_varF (pe_var (i := 0) rfl (.inl rfl)) rfl rfl) (ea_F (ev_bin op_mod od_mod (ev_bin op_addD od_add (ev_varF (pe_var (i := 1) rfl (.inl rfl)) rfl rfl) (ev_varF (pe_var (i := 4) rfl (.inl rfl)) rfl rfl)) ev_int) ea_nil))) (ev_bin op_pow od_pow ev_int ev_int)) (fun x4 => (sv_at (κ2 := [.F, .F, .F, (.L .F), .F, .F]) (en2 := [a0, a1, a2, t2, p3, x4]) (sv_ifJ [.F, .F, .F, (.L .F), .F, .F] (fun (t5 : D) => [a0, a1, a2, t2, p3, t5]) (et_cmp (op_eqD hr.units) od_eq (ev_bin op_mod od_mod (ev_bin op_addD od_add (ev_varF (pe_var (i := 5) rfl (.inl rfl)) rfl rfl) (ev_varF (pe_var (i := 4) rfl (.inl rfl)) rfl rfl)) ev_int) ev_int (nomark _)) (sv_set (i := 5) (ev_un un_neg ud_neg (ev_varF (pe_var (i := 5) rfl (.inl rfl)) rfl rfl)) (fun x6 => (sv_at (κ2 := [.F, .F, .F, (.L .F), .F, .F]) (en2 := [a0, a1, a2, t2, p3, x6]) (sv_nil ⟨.inr ⟨rfl, rfl⟩, .inr ⟨rfl, rfl⟩, .inr ⟨rfl, rfl⟩, .inr ⟨rfl, rfl⟩, .inr ⟨rfl, rfl⟩, .inr ⟨rfl, rfl⟩, trivial⟩))) sc_law_numbers.nd) (sv_nil ⟨.inr ⟨rfl, rfl⟩, .inr ⟨rfl, rfl⟩, .inr ⟨rfl, rfl⟩, .inr ⟨rfl, rfl⟩, .inr ⟨rfl, rfl⟩, .inr ⟨rfl, rfl⟩, trivial⟩) (fun t5 => (sv_app (pe_var (i := 3) rfl (.inl rfl)) (ev_varF (pe_var (i := 5) rfl (.inl rfl)) rfl rfl) (fun x7 => (sv_at (κ2 := [.F, .F, .F, (.L .F), .F, .F]) (en2 := [a0, a1, a2, x7, p3, t5]) (sv_nil ⟨.inr ⟨rfl, rfl⟩, .inr ⟨rfl, rfl⟩, .inr ⟨rfl, rfl⟩, .inr ⟨rfl, rfl⟩, .inl rfl, .inl rfl, trivial⟩)))))))) sc_law_numbers.nd)) (fun t2 => (sv_freeze (i := 3) (q := (.L .F)) rfl (sv_retD (ev_varF (pe_var (i := 3) rfl (.inl rfl)) rfl rfl)))) (passes_of rfl)))) sc_law_numbers.nd)
def b_Sheet___init__ (a1 a2 a3 a4 a5 a6 a7 : D) : R D := (R.bind (.ok a1) fun y2 => R.bind (putL "Sheet" "pace" y2 (.obj "Sheet" [] [])) fun x1 => (R.bind (.ok a2) fun y4 => R.bind (putL "Sheet" "held" y4 x1) fun x3 => (R.bind (.ok a3) fun y6 => R.bind (putL "Sheet" "stages" y6 x3) fun x5 => (R.bind (.ok a4) fun y8 => R.bind (putL "Sheet" "shorts" y8 x5) fun x7 => (R.bind (.ok a5) fun y10 => R.bind (putL "Sheet" "ahead" y10 x7) fun x9 => (R.bind (.ok a6) fun y12 => R.bind (putL "Sheet" "middle" y12 x9) fun x11 => (R.bind (.ok a7) fun y14 => R.bind (putL "Sheet" "tails" y14 x11) fun x13 => (.ok x13))))))))
def f_Sheet___init__ : List D → R D
  | [a1, a2, a3, a4, a5, a6, a7] => b_Sheet___init__ a1 a2 a3 a4 a5 a6 a7
  | _ => .bad
theorem sc_Sheet___init__ : FnScope ["self", "pace", "held", "stages", "shorts", "ahead", "middle", "tails"] ["self", "pace", "held", "stages", "shorts", "ahead", "middle", "tails"] (defScope (inCls (top 38) 0)) := ⟨rfl, rfl, rfl, by decide +kernel, rfl, by decide +kernel, by decide +kernel⟩
theorem mi_Sheet (C : Ctx K mg) : MkI P w K mg base 1 "Sheet" [.F, .F, .F, .F, .F, .F, .F] f_Sheet___init__ := by
  obtain ⟨cl, fa, fd, g, M, F⟩ := C.mi_Sheet
  refine ⟨cl, fa, fd, ["self", "pace", "held", "stages", "shorts", "ahead", "middle", "tails"], g, M, F.bindsN (fun _ _ _ _ _ _ us hl => match us, hl with | [_, _, _, _, _, _, _, _], _ => rfl), fi_ok 0 F sc_Sheet___init__ rfl rfl fun cdv A outer s H B sp E G ds hr hl => ?_⟩
  exact match ds, hl with
  | [a1, a2, a3, a4, a5, a6, a7], _ =>
    show SV _ _ _ _ [(.I sp), .F, .F, .F, .F, .F, .F, .F] [(.obj "Sheet" [] []), a1, a2, a3, a4, a5, a6, a7] _ _ (b_Sheet___init__ a1 a2 a3 a4 a5 a6 a7) from (sv_fld (i := 0) C.fl_Sheet_pace (pe_var (i := 0) rfl (.inl rfl)) (ev_varF (pe_var (i := 1) rfl (.inl rfl)) rfl rfl) (fun x1 => (sv_at (κ2 := [(.I sp), .F, .F, .F, .F, .F, .F, .F]) (en2 := [x1, a1, a2, a3, a4, a5, a6, a7]) (sv_fld (i := 0) C.fl_Sheet_held (pe_var (i := 0) rfl (.inl rfl)) (ev_varF (pe_var (i := 2) rfl (.inl rfl)) rfl rfl) (fun x3 => (sv_at (κ2 := [(.I sp), .F, .F, .F, .F, .F, .F, .F]) (en2 := [x3, a1, a2, a3, a4, a5, a6, a7]) (sv_fld (i := 0) C.fl_Sheet_stages (pe_var (i := 0) rfl (.inl rfl)) (ev_varF (pe_var (i := 3) rfl (.inl rfl)) rfl rfl) (fun x5 => (sv_at (κ2 := [(.I sp), .F, .F, .F, .F, .F, .F, .F]) (en2 := [x5, a1, a2, a3, a4, a5, a6, a7]) (sv_fld (i := 0) C.fl_Sheet_shorts (pe_var (i := 0) rfl (.inl rfl)) (ev_varF (pe_var (i := 4) rfl (.inl rfl)) rfl rfl) (fun x7 => (sv_at (κ2 := [(.I sp), .F, .F, .F, .F, .F, .F, .F]) (en2 := [x7, a1, a2, a3, a4, a5, a6, a7]) (sv_fld (i := 0) C.fl_Sheet_ahead (pe_var (i := 0) rfl (.inl rfl)) (ev_varF (pe_var (i := 5) rfl (.inl rfl)) rfl rfl) (fun x9 => (sv_at (κ2 := [(.I sp), .F, .F, .F, .F, .F, .F, .F]) (en2 := [x9, a1, a2, a3, a4, a5, a6, a7]) (sv_fld (i := 0) C.fl_Sheet_middle (pe_var (i := 0) rfl (.inl rfl)) (ev_varF (pe_var (i := 6) rfl (.inl rfl)) rfl rfl) (fun x11 => (sv_at (κ2 := [(.I sp), .F, .F, .F, .F, .F, .F, .F]) (en2 := [x11, a1, a2, a3, a4, a5, a6, a7]) (sv_fld (i := 0) C.fl_Sheet_tails (pe_var (i := 0) rfl (.inl rfl)) (ev_varF (pe_var (i := 7) rfl (.inl rfl)) rfl rfl) (fun x13 => (sv_at (κ2 := [(.I sp), .F, .F, .F, .F, .F, .F, .F]) (en2 := [x13, a1, a2, a3, a4, a5, a6, a7]) (sv_nil ⟨rfl, rfl⟩))))))))))))))))))))))
def l_law_landed_1 (a1 : D) (p2 : D × D × D) (t1 : D) : R (D) := (R.bind (R.bind (R.bin2 (.ok p2.1) (.ok a1) pEq) toB) fun b => if b = true then (R.bind (.ok p2.2.2) fun d => R.bind (toL t1) fun xs => R.bind (.ok p2.2.1) fun j => R.bind (setL1 xs j d) fun x3 => (.ok x3)) else (.ok t1))
def b_law_landed (a0 a1 a2 : D) : R D := (R.bind (R.bind (.ok a0) toSeq) fun xs => R.bind (rFor xs a2 (fun x t1 => R.bind (un3 x) fun p2 => (l_law_landed_1 a1) p2 t1)) fun t1 => (.ok (.tup [.non, t1])))
def f_law_landed : List D → R D
  | [a0, a1, a2] => b_law_landed a0 a1 a2
  | _ => .bad
theorem sc_law_landed : FnScope ["_law_due", "_law_clock", "_law_boxes", "_law_tick", "_law_box", "_law_number"] ["_law_due", "_law_clock", "_law_boxes"] (defScope (top 49)) := ⟨rfl, rfl, rfl, by decide +kernel, rfl, by decide +kernel, by decide +kernel⟩
theorem fd_law_landed (C : Ctx K mg) : FdW P w K mg base lentL 1 "_law_landed" f_law_landed 2 3 := by
  obtain ⟨fa, fd, g, F⟩ := C.d_law_landed
  refine ⟨fa, fd, ["_law_due", "_law_clock", "_law_boxes"], g, F.kp, F.bindsN (fun _ _ _ _ _ _ us hl => match us, hl with | [_, _, _], _ => rfl), fw_ok (m := 3) F sc_law_landed rfl rfl fun cdv A outer s H B E G ds sp hr hl => ?_⟩
  exact match ds, hl with
  | [a0, a1, a2], _ =>
    show SV _ _ _ _ [.F, .F, (.U (lentL.u sp)), .N, .N, .N] [a0, a1, a2, .non, .non, .non] _ _ (b_law_landed a0 a1 a2) from (sv_for (js := [3, 4, 5]) [.F, .F, (.U (lentL.u sp)), .N, .N, .N] (fun (t1 : D) => [a0, a1, t1, .non, .non, .non]) a2 (ei_seq (ev_varF (pe_var (i := 0) rfl (.inl rfl)) rfl rfl)) (tg_tup (js := [3, 4, 5]) (vs := fun p => [p.1, p.2.1, p.2.2]) (pg_tup rfl (pgs_cons (pg_name (i := 3) sc_law_landed.nd rfl (.inl rfl) (.inl rfl)) (pgs_cons (pg_name (i := 4) sc_law_landed.nd rfl (.inl rfl) (.inl rfl)) (pgs_cons (pg_name (i := 5) sc_law_landed.nd rfl (.inl rfl) (.inl rfl)) pgs_nil)))) un3_ok un3_nx) ⟨.inr ⟨rfl, rfl⟩, .inr ⟨rfl, rfl⟩, .inr ⟨rfl, rfl⟩, .inl rfl, .inl rfl, .inl rfl, trivial⟩ (fun _ p2 t1 => (sv_ifE (et_cmp (op_eqD hr.units) od_eq (ev_varF (pe_var (i := 3) rfl (.inl rfl)) rfl rfl) (ev_varF (pe_var (i := 1) rfl (.inl rfl)) rfl rfl) (nomark _)) (sv_setIW (pe_var (i := 2) rfl (.inl rfl)) (ev_varF (pe_var (i := 5) rfl (.inl rfl)) rfl rfl) (ev_varF (pe_var (i := 4) rfl (.inl rfl)) rfl rfl) (fun x3 => (sv_at (κ2 := [.F, .F, (.U (lentL.u sp)), .F, .F, .F]) (en2 := [a0, a1, x3, p2.1, p2.2.1, p2.2.2]) (sv_nil ⟨.inr ⟨rfl, rfl⟩, .inr ⟨rfl, rfl⟩, .inr ⟨rfl, rfl⟩, .inl rfl, .inl rfl, .inl rfl, trivial⟩)))) (sv_nil ⟨.inr ⟨rfl, rfl⟩, .inr ⟨rfl, rfl⟩, .inr ⟨rfl, rfl⟩, .inl rfl, .inl rfl, .inl rfl, trivial⟩))) (fun t1 => (sv_nil ⟨rfl, _, rfl, rfl⟩)) (passes_of rfl))
def b_law_makes (a0 a1 a2 : D) : R D := (R.bind (pComp (R.bind (.ok a1) toSeq) (fun d => .ok d) (fun p1 => (.ok true)) (fun p1 => (R.bin2 (.ok p1) (.ok a2) pMod))) fun x2 => (R.bind (R.bind (R.bin2 (.ok a0) (.ok (.str "sum")) pEq) toB) fun b => if b = true then (R.bind (R.bin2 (R.bin2 (R.bin2 (.ok x2) (.ok (.int 0)) pIx) (R.bin2 (.ok x2) (.ok (.int 1)) pIx) pAdd) (.ok a2) pMod) fun d => .ok d) else (R.bind (R.bind (R.bin2 (.ok a0) (.ok (.str "less")) pEq) toB) fun b => if b = true then (R.bind (R.bin2 (R.bin2 (R.bin2 (.ok x2) (.ok (.int 0)) pIx) (R.bin2 (.ok x2) (.ok (.int 1)) pIx) pSub) (.ok a2) pMod) fun d => .ok d) else (R.bind (R.bind (R.bin2 (.ok a0) (.ok (.str "times")) pEq) toB) fun b => if b = true then (R.bind (R.bin2 (R.bin2 (R.bin2 (.ok x2) (.ok (.int 0)) pIx) (R.bin2 (.ok x2) (.ok (.int 1)) pIx) pMul) (.ok a2) pMod) fun d => .ok d) else (R.bind (R.bind (R.bin2 (.ok a0) (.ok (.str "pick")) pEq) toB) fun b => if b = true then (R.bind (R.bin2 (.ok x2) (R.bin2 (.ok (.int 1)) (R.bind (R.cons (R.bin2 (R.bin2 (.ok x2) (.ok (.int 0)) pIx) (.ok (.int 0)) pEq) (.ok [])) pInt) pAdd) pIx) fun d => .ok d) else (R.bind (R.bind (R.bin2 (.ok a0) (.ok (.str "least")) pEq) toB) fun b => if b = true then (R.bind (R.bind (R.cons (R.bin2 (.ok x2) (.ok (.int 0)) pIx) (R.cons (R.bin2 (.ok x2) (.ok (.int 1)) pIx) (.ok []))) pMin2) fun d => .ok d) else (R.bind (R.bind (R.bin2 (.ok a0) (.ok (.str "most")) pEq) toB) fun b => if b = true then (R.bind (R.bind (R.cons (R.bin2 (.ok x2) (.ok (.int 0)) pIx) (R.cons (R.bin2 (.ok x2) (.ok (.int 1)) pIx) (.ok []))) pMax2) fun d => .ok d) else (R.bin2 (.ok x2) (.ok (.int 0)) pIx))))))))
def f_law_makes : List D → R D
  | [a0, a1, a2] => b_law_makes a0 a1 a2
  | _ => .bad
theorem sc_law_makes : FnScope ["_law_word", "_law_numbers_here", "_law_measure", "_law_rests", "_law_number"] ["_law_word", "_law_numbers_here", "_law_measure"] (defScope (top 48)) := ⟨rfl, rfl, rfl, by decide +kernel, rfl, by decide +kernel, by decide +kernel⟩
theorem fd_law_makes (C : Ctx K mg) : FD P w K mg base 1 "_law_makes" f_law_makes [.F, .F, .F] .F := by
  obtain ⟨fa, fd, g, F⟩ := C.d_law_makes
  refine ⟨fa, fd, ["_law_word", "_law_numbers_here", "_law_measure"], g, F.kp, F.bindsN (fun _ _ _ _ _ _ us hl => match us, hl with | [_, _, _], _ => rfl), fd_ok F sc_law_makes rfl (by decide) fun cdv A outer s H E G ds hr hl => ?_⟩
  exact match ds, hl with
  | [a0, a1, a2], _ =>
    show SV _ _ _ _ [.F, .F, .F, .N, .N] [a0, a1, a2, .non, .non] _ _ (b_law_makes a0 a1 a2) from (sv_setC (i := 3) sc_law_makes.nd (ei_seq (ev_varF (pe_var (i := 1) rfl (.inl rfl)) rfl rfl)) (blkOk_by (own := [("_law_number", 4)]) rfl) (tgb_name (i := 4) (fun _ _ _ _ _ => pg_name sc_law_makes.nd rfl (.inl rfl) (.inr rfl))) (fun _ _ _ _ _ _ p1 => ets_nil) (fun _ _ _ _ _ _ p1 => (ev_bin op_mod od_mod (ev_varF (pe_var (i := 4) rfl (.inl rfl)) rfl rfl) (ev_varF (pe_var (i := 2) rfl (.inr (.inl rfl))) rfl rfl))) (fun x2 => (sv_at (κ2 := [.F, .F, .F, (.L .F), .N]) (en2 := [a0, a1, a2, x2, .non]) (sv_freeze (i := 3) (q := (.L .F)) rfl (sv_ifS (et_cmp (op_eqD hr.units) od_eq (ev_varF (pe_var (i := 0) rfl (.inl rfl)) rfl rfl) (ev_str s_0) (nomark _)) (sv_ret (g := fun d => d) (ev_bin op_mod od_mod (ev_bin op_addD od_add (ev_ix (ev_varF (pe_var (i := 3) rfl (.inl rfl)) rfl rfl) ev_int) (ev_ix (ev_varF (pe_var (i := 3) rfl (.inl rfl)) rfl rfl) ev_int)) (ev_varF (pe_var (i := 2) rfl (.inr (.inl rfl))) rfl rfl)) (fun d => ⟨rfl, rfl⟩)) (sv_ifS (et_cmp (op_eqD hr.units) od_eq (ev_varF (pe_var (i := 0) rfl (.inl rfl)) rfl rfl) (ev_str s_1) (nomark _)) (sv_ret (g := fun d => d) (ev_bin op_mod od_mod (ev_bin op_sub od_sub (ev_ix (ev_varF (pe_var (i := 3) rfl (.inl rfl)) rfl rfl) ev_int) (ev_ix (ev_varF (pe_var (i := 3) rfl (.inl rfl)) rfl rfl) ev_int)) (ev_varF (pe_var (i := 2) rfl (.inr (.inl rfl))) rfl rfl)) (fun d => ⟨rfl, rfl⟩)) (sv_ifS (et_cmp (op_eqD hr.units) od_eq (ev_varF (pe_var (i := 0) rfl (.inl rfl)) rfl rfl) (ev_str s_2) (nomark _)) (sv_ret (g := fun d => d) (ev_bin op_mod od_mod (ev_bin op_mulD od_mul (ev_ix (ev_varF (pe_var (i := 3) rfl (.inl rfl)) rfl rfl) ev_int) (ev_ix (ev_varF (pe_var (i := 3) rfl (.inl rfl)) rfl rfl) ev_int)) (ev_varF (pe_var (i := 2) rfl (.inr (.inl rfl))) rfl rfl)) (fun d => ⟨rfl, rfl⟩)) (sv_ifS (et_cmp (op_eqD hr.units) od_eq (ev_varF (pe_var (i := 0) rfl (.inl rfl)) rfl rfl) (ev_str s_5) (nomark _)) (sv_ret (g := fun d => d) (ev_ix (ev_varF (pe_var (i := 3) rfl (.inl rfl)) rfl rfl) (ev_bin op_addD od_add ev_int (ev_callTy call_int1 bf_int (ea_P (ev_cmp (op_eqD hr.units) od_eq (ev_ix (ev_varF (pe_var (i := 3) rfl (.inl rfl)) rfl rfl) ev_int) ev_int (nomark _)) ea_nil) C.f_int (by decide +kernel)))) (fun d => ⟨rfl, rfl⟩)) (sv_ifS (et_cmp (op_eqD hr.units) od_eq (ev_varF (pe_var (i := 0) rfl (.inl rfl)) rfl rfl) (ev_str s_3) (nomark _)) (sv_ret (g := fun d => d) (ev_callB (call_min2 rfl) bf_min2 (ea_P (ev_ix (ev_varF (pe_var (i := 3) rfl (.inl rfl)) rfl rfl) ev_int) (ea_P (ev_ix (ev_varF (pe_var (i := 3) rfl (.inl rfl)) rfl rfl) ev_int) ea_nil)) C.f_min (by decide +kernel)) (fun d => ⟨rfl, rfl⟩)) (sv_ifS (et_cmp (op_eqD hr.units) od_eq (ev_varF (pe_var (i := 0) rfl (.inl rfl)) rfl rfl) (ev_str s_4) (nomark _)) (sv_ret (g := fun d => d) (ev_callB (call_max2 rfl) bf_max2 (ea_P (ev_ix (ev_varF (pe_var (i := 3) rfl (.inl rfl)) rfl rfl) ev_int) (ea_P (ev_ix (ev_varF (pe_var (i := 3) rfl (.inl rfl)) rfl rfl) ev_int) ea_nil)) C.f_max (by decide +kernel)) (fun d => ⟨rfl, rfl⟩)) (sv_retD (ev_ix (ev_varF (pe_var (i := 3) rfl (.inl rfl)) rfl rfl) ev_int))))))))))) (sw_true rfl rfl rfl rfl))
def l_law_begun_1 (a3 : D) (p3 : D) (t2 : D) : R (D) := (R.bind (R.bind (R.bind (.ok p3) (pIsTy "tuple")) toB) fun b => if b = true then (R.bind (toL t2) fun xs => R.bind (R.bind (R.bin2 (.ok a3) (R.bin2 (.ok p3) (.ok (.int 1)) pIx) pIx) scal) fun d => R.bind (appL xs d) fun x4 => (.ok x4)) else (R.bind (toL t2) fun xs => R.bind (.ok p3) fun d => R.bind (appL xs d) fun x5 => (.ok x5)))
def b_law_begun (a0 a1 a2 a3 a4 : D) : R D := (R.bind (R.bind (R.bin2 (R.bin2 (.ok a0) (.ok (.int 0)) pIx) (.ok (.str "take")) pEq) toB) fun b => if b = true then (R.bind (R.bind (R.cons (.ok (.str "take")) (R.cons (R.bind (R.cons (R.bin2 (R.bin2 (.ok a2) (R.bin2 (.ok a0) (.ok (.int 4)) pIx) pDget) (R.bin2 (.ok a1) (R.bin2 (.ok a0) (.ok (.int 5)) pIx) pAdd) pIx) (.ok [])) mkL) (R.cons (.ok a4) (.ok [])))) f_law_makes) fun d => .ok d) else (R.bind (R.bind (.ok []) mkL) fun x1 => (R.bind (R.bind (R.bin2 (.ok a0) (.ok (.int 3)) pIx) toSeq) fun xs => R.bind (rFor xs x1 ((l_law_begun_1 a3))) fun t2 => (R.bind (R.cons (R.bin2 (.ok a0) (.ok (.int 0)) pIx) (R.cons (.ok t2) (R.cons (.ok a4) (.ok [])))) f_law_makes))))
def f_law_begun : List D → R D
  | [a0, a1, a2, a3, a4] => b_law_begun a0 a1 a2 a3 a4
  | _ => .bad
theorem sc_law_begun : FnScope ["_law_step_here", "_law_base", "_law_feeds", "_law_boxes", "_law_measure", "_law_numbers_here", "_law_read"] ["_law_step_here", "_law_base", "_law_feeds", "_law_boxes", "_law_measure"] (defScope (top 50)) := ⟨rfl, rfl, rfl, by decide +kernel, rfl, by decide +kernel, by decide +kernel⟩
theorem fd_law_begun (C : Ctx K mg) : FD P w K mg base 2 "_law_begun" f_law_begun [.F, .F, .F, .B, .F] .F := by
  obtain ⟨fa, fd, g, F⟩ := C.d_law_begun
  refine ⟨fa, fd, ["_law_step_here", "_law_base", "_law_feeds", "_law_boxes", "_law_measure"], g, F.kp, F.bindsN (fun _ _ _ _ _ _ us hl => match us, hl with | [_, _, _, _, _], _ => rfl), fd_ok F sc_law_begun rfl (by decide) fun cdv A outer s H E G ds hr hl => ?_⟩
  exact match ds, hl with
  | [a0, a1, a2, a3, a4], _ =>
    show SV _ _ _ _ [.F, .F, .F, .B, .F, .N, .N] [a0, a1, a2, a3, a4, .non, .non] _ _ (b_law_begun a0 a1 a2 a3 a4) from (sv_ifS (et_cmp (op_eqD hr.units) od_eq (ev_ix (ev_varF (pe_var (i := 0) rfl (.inl rfl)) rfl rfl) ev_int) (ev_str s_8) (nomark _)) (sv_ret (g := fun d => d) (ev_call (fd_law_makes C) (hr.mono (by decide)) (takes_of rfl rfl rfl rfl) (ea_F (ev_str s_8) (ea_F (EV.frz (ev_lst (ea_F (ev_ix (ev_dix (u65 hr) (ev_varF (pe_var (i := 2) rfl (.inl rfl)) rfl rfl) (ev_ix (ev_varF (pe_var (i := 0) rfl (.inl rfl)) rfl rfl) ev_int)) (ev_bin op_addD od_add (ev_varF (pe_var (i := 1) rfl (.inl rfl)) rfl rfl) (ev_ix (ev_varF (pe_var (i := 0) rfl (.inl rfl)) rfl rfl) ev_int))) ea_nil)) rfl) (ea_F (ev_varF (pe_var (i := 4) rfl (.inl rfl)) rfl rfl) ea_nil)))) (fun d => ⟨rfl, rfl⟩)) (sv_set (i := 5) (ev_lst ea_nil) (fun x1 => (sv_at (κ2 := [.F, .F, .F, .B, .F, (.L .F), .N]) (en2 := [a0, a1, a2, a3, a4, x1, .non]) (sv_for1 (i := 6) [.F, .F, .F, .B, .F, (.L .F), .N] (fun (t2 : D) => [a0, a1, a2, a3, a4, t2, .non]) x1 (ei_seq (ev_ix (ev_varF (pe_var (i := 0) rfl (.inl rfl)) rfl rfl) ev_int)) (tg_name sc_law_begun.nd) ⟨.inr ⟨rfl, rfl⟩, .inr ⟨rfl, rfl⟩, .inr ⟨rfl, rfl⟩, .inr ⟨rfl, rfl⟩, .inr ⟨rfl, rfl⟩, .inr ⟨rfl, rfl⟩, .inl rfl, trivial⟩ (fun _ p3 t2 => (sv_ifE (et_val (ev_isTy (T := "tuple") (ev_varF (pe_var (i := 6) rfl (.inl rfl)) rfl rfl) C.f_isinstance C.f_tuple (by decide +kernel))) (sv_app (pe_var (i := 5) rfl (.inl rfl)) (EV.sc (ev_ix (ev_varB (pe_var (i := 3) rfl (.inl rfl)) rfl rfl) (ev_ix (ev_varF (pe_var (i := 6) rfl (.inl rfl)) rfl rfl) ev_int))) (fun x4 => (sv_at (κ2 := [.F, .F, .F, .B, .F, (.L .F), .F]) (en2 := [a0, a1, a2, a3, a4, x4, p3]) (sv_nil ⟨.inr ⟨rfl, rfl⟩, .inr ⟨rfl, rfl⟩, .inr ⟨rfl, rfl⟩, .inr ⟨rfl, rfl⟩, .inr ⟨rfl, rfl⟩, .inr ⟨rfl, rfl⟩, .inl rfl, trivial⟩)))) (sv_app (pe_var (i := 5) rfl (.inl rfl)) (ev_varF (pe_var (i := 6) rfl (.inl rfl)) rfl rfl) (fun x5 => (sv_at (κ2 := [.F, .F, .F, .B, .F, (.L .F), .F]) (en2 := [a0, a1, a2, a3, a4, x5, p3]) (sv_nil ⟨.inr ⟨rfl, rfl⟩, .inr ⟨rfl, rfl⟩, .inr ⟨rfl, rfl⟩, .inr ⟨rfl, rfl⟩, .inr ⟨rfl, rfl⟩, .inr ⟨rfl, rfl⟩, .inl rfl, trivial⟩)))))) (fun t2 => (sv_freeze (i := 5) (q := (.L .F)) rfl (sv_retD (ev_call (fd_law_makes C) (hr.mono (by decide)) (takes_of rfl rfl rfl rfl) (ea_F (ev_ix (ev_varF (pe_var (i := 0) rfl (.inl rfl)) rfl rfl) ev_int) (ea_F (ev_varF (pe_var (i := 5) rfl (.inl rfl)) rfl rfl) (ea_F (ev_varF (pe_var (i := 4) rfl (.inl rfl)) rfl rfl) ea_nil))))))) (passes_of rfl)))) sc_law_begun.nd))
def l_law_done_1 (p6 : D × D) (a2 : D) (p9 : D × D) (a0 : D) (t7 : D × D × D × D) (p13 : D) (t12 : D × D) : R (D × D) := (R.bind (R.bind (R.cons (.ok p13) (R.cons (.ok p6.2) (R.cons (.ok a2) (R.cons (.ok p9.2) (R.cons (.ok a0) (.ok [])))))) f_law_begun) fun x14 => (R.bind (toL t12.1) fun xs => R.bind (R.bind (R.cons (R.bin2 (.ok t7.2.1) (R.bin2 (.ok p13) (.ok (.int 1)) pIx) pAdd) (R.cons (R.bin2 (.ok p13) (.ok (.int 2)) pIx) (R.cons (.ok x14) (.ok [])))) mkT) fun d => R.bind (appL xs d) fun x15 => (R.bind (R.bind (R.bin2 (R.bin2 (.ok p13) (.ok (.int 0)) pIx) (.ok (.str "tell")) pEq) toB) fun b => if b = true then (R.bind (toL t12.2) fun xs => R.bind (R.bind (R.cons (R.bin2 (.ok p13) (.ok (.int 4)) pIx) (R.cons (R.bin2 (.ok p6.2) (R.bin2 (.ok p13) (.ok (.int 5)) pIx) pAdd) (R.cons (.ok x14) (.ok [])))) mkT) fun d => R.bind (appL xs d) fun x16 => (.ok (x15, x16))) else (.ok (x15, t12.2)))))
def l_law_done_2 (p6 : D × D) (a2 : D) (a0 : D) (p8 : D) (t7 : D × D × D × D) : R (D × D × D × D) := (R.bind (R.cons (.ok t7.2.2.1) (R.cons (.ok t7.2.1) (R.cons (.ok t7.1) (.ok [])))) fun ds => R.bind (pW f_law_landed 3 ds) fun p9 => (R.bind (pComp (R.bind (.ok t7.2.2.1) toSeq) (fun d => .ok d) (fun p10 => (R.bind (R.bin2 (R.bin2 (.ok p10) (.ok (.int 0)) pIx) (.ok t7.2.1) pGt) toB)) (fun p10 => (.ok p10))) fun x11 => (R.bind (R.bind (.ok p8) toSeq) fun xs => R.bind (rFor xs (x11, t7.2.2.2) ((l_law_done_1 p6 a2 p9 a0 t7))) fun t12 => (R.bind (R.bin2 (.ok t7.2.1) (.ok (.int 1)) pAdd) fun x17 => (.ok (p9.2, x17, t12.1, t12.2))))))
def l_law_done_3 (t5 : D × D × D × D) (p19 : D) (t18 : D) : R (D) := (R.bind (R.cons (.ok t5.2.2.1) (R.cons (R.bin2 (.ok t5.2.1) (.ok p19) pAdd) (R.cons (.ok t18) (.ok [])))) fun ds => R.bind (pW f_law_landed 3 ds) fun p20 => (.ok p20.2))
def l_law_done_4 (a2 : D) (a0 : D) (p6 : D × D) (t5 : D × D × D × D) : R (D × D × D × D) := (R.bind (R.bind (.ok p6.1) toSeq) fun xs => R.bind (rFor xs (t5.1, t5.2.1, t5.2.2.1, t5.2.2.2) ((l_law_done_2 p6 a2 a0))) fun t7 => (.ok (t7.1, t7.2.1, t7.2.2.1, t7.2.2.2)))
def b_law_done (a0 a1 a2 a3 : D) : R D := (R.bind (R.bind (R.cons (.ok a3) (.ok [])) pList) fun x1 => (R.bind (.ok (.int 0)) fun x2 => (R.bind (R.bind (.ok []) mkL) fun x3 => (R.bind (R.bind (.ok []) mkL) fun x4 => (R.bind (R.bind (.ok a1) toSeq) fun xs => R.bind (rFor xs (x1, x2, x3, x4) (fun x t5 => R.bind (un2 x) fun p6 => (l_law_done_4 a2 a0) p6 t5)) fun t5 => (R.bind (R.bind (.ok (.int 7)) pRange1) fun xs => R.bind (rFor xs t5.1 ((l_law_done_3 t5))) fun t18 => (R.bind (R.cons (.ok t5.2.2.2) (R.cons (.ok t18) (.ok []))) mkL)))))))
def f_law_done : List D → R D
  | [a0, a1, a2, a3] => b_law_done a0 a1 a2 a3
  | _ => .bad
theorem sc_law_done : FnScope ["_law_measure", "_law_parts_here", "_law_feeds", "_law_boxes", "_law_clock", "_law_due", "_law_told", "_law_part_here", "_law_base", "_law_steps", "_law_step_here", "_law_number", "_law_k", "_law_one"] ["_law_measure", "_law_parts_here", "_law_feeds", "_law_boxes"] (defScope (top 51)) := ⟨rfl, rfl, rfl, by decide +kernel, rfl, by decide +kernel, by decide +kernel⟩
theorem fd_law_done (C : Ctx K mg) : FD P w K mg base 3 "_law_done" f_law_done [.F, .F, .F, .F] .F := by
  obtain ⟨fa, fd, g, F⟩ := C.d_law_done
  refine ⟨fa, fd, ["_law_measure", "_law_parts_here", "_law_feeds", "_law_boxes"], g, F.kp, F.bindsN (fun _ _ _ _ _ _ us hl => match us, hl with | [_, _, _, _], _ => rfl), fd_ok F sc_law_done rfl (by decide) fun cdv A outer s H E G ds hr hl => ?_⟩
  exact match ds, hl with
  | [a0, a1, a2, a3], _ =>
    show SV _ _ _ _ [.F, .F, .F, .F, .N, .N, .N, .N, .N, .N, .N, .N, .N, .N] [a0, a1, a2, a3, .non, .non, .non, .non, .non, .non, .non, .non, .non, .non] _ _ (b_law_done a0 a1 a2 a3) from (sv_set (i := 3) (ev_callTy call_list_of bf_list (ea_F (ev_varF (pe_var (i := 3) rfl (.inl rfl)) rfl rfl) ea_nil) C.f_list (by decide +kernel)) (fun x1 => (sv_at (κ2 := [.F, .F, .F, (.L .F), .N, .N, .N, .N, .N, .N, .N, .N, .N, .N]) (en2 := [a0, a1, a2, x1, .non, .non, .non, .non, .non, .non, .non, .non, .non, .non]) (sv_set (i := 4) ev_int (fun x2 => (sv_at (κ2 := [.F, .F, .F, (.L .F), .F, .N, .N, .N, .N, .N, .N, .N, .N, .N]) (en2 := [a0, a1, a2, x1, x2, .non, .non, .non, .non, .non, .non, .non, .non, .non]) (sv_set (i := 5) (ev_lst ea_nil) (fun x3 => (sv_at (κ2 := [.F, .F, .F, (.L .F), .F, (.L .F), .N, .N, .N, .N, .N, .N, .N, .N]) (en2 := [a0, a1, a2, x1, x2, x3, .non, .non, .non, .non, .non, .non, .non, .non]) (sv_set (i := 6) (ev_lst ea_nil) (fun x4 => (sv_at (κ2 := [.F, .F, .F, (.L .F), .F, (.L .F), (.L .F), .N, .N, .N, .N, .N, .N, .N]) (en2 := [a0, a1, a2, x1, x2, x3, x4, .non, .non, .non, .non, .non, .non, .non]) (sv_for (js := [7, 8]) [.F, .F, .F, (.L .F), .F, (.L .F), (.L .F), .N, .N, .N, .N, .N, .N, .N] (fun (t5 : D × D × D × D) => [a0, a1, a2, t5.1, t5.2.1, t5.2.2.1, t5.2.2.2, .non, .non, .non, .non, .non, .non, .non]) (x1, x2, x3, x4) (ei_seq (ev_varF (pe_var (i := 1) rfl (.inl rfl)) rfl rfl)) (tg_tup (js := [7, 8]) (vs := fun p => [p.1, p.2]) (pg_tup rfl (pgs_cons (pg_name (i := 7) sc_law_done.nd rfl (.inl rfl) (.inl rfl)) (pgs_cons (pg_name (i := 8) sc_law_done.nd rfl (.inl rfl) (.inl rfl)) pgs_nil))) un2_ok un2_nx) ⟨.inr ⟨rfl, rfl⟩, .inr ⟨rfl, rfl⟩, .inr ⟨rfl, rfl⟩, .inr ⟨rfl, rfl⟩, .inr ⟨rfl, rfl⟩, .inr ⟨rfl, rfl⟩, .inr ⟨rfl, rfl⟩, .inl rfl, .inl rfl, .inl rfl, .inl rfl, .inl rfl, .inl rfl, .inl rfl, trivial⟩ (fun _ p6 t5 => (sv_for1 (i := 9) [.F, .F, .F, (.L .F), .F, (.L .F), (.L .F), .F, .F, .N, .N, .N, .N, .N] (fun (t7 : D × D × D × D) => [a0, a1, a2, t7.1, t7.2.1, t7.2.2.1, t7.2.2.2, p6.1, p6.2, .non, .non, .non, .non, .non]) (t5.1, t5.2.1, t5.2.2.1, t5.2.2.2) (ei_seq (ev_varF (pe_var (i := 7) rfl (.inl rfl)) rfl rfl)) (tg_name sc_law_done.nd) ⟨.inr ⟨rfl, rfl⟩, .inr ⟨rfl, rfl⟩, .inr ⟨rfl, rfl⟩, .inr ⟨rfl, rfl⟩, .inr ⟨rfl, rfl⟩, .inr ⟨rfl, rfl⟩, .inr ⟨rfl, rfl⟩, .inr ⟨rfl, rfl⟩, .inr ⟨rfl, rfl⟩, .inl rfl, .inl rfl, .inl rfl, .inl rfl, .inl rfl, trivial⟩ (fun _ p8 t7 => (sv_freeze (i := 5) (q := (.L .F)) rfl (sv_callW (fd_law_landed C) (hr.mono (by decide)) (takes_of rfl rfl rfl rfl) (em_next (ev_varF (pe_var (i := 5) rfl (.inl rfl)) rfl rfl) (em_next (ev_varF (pe_var (i := 4) rfl (.inr (.inl rfl))) rfl rfl) (em_hereW (i := 3) (pe_var (i := 3) rfl (.inl rfl)) ea_nil rfl rfl))) (fun p9 => (sv_at (κ2 := [.F, .F, .F, (.L .F), .F, .F, (.L .F), .F, .F, .F, .N, .N, .N, .N]) (en2 := [a0, a1, a2, p9.2, t7.2.1, t7.2.2.1, t7.2.2.2, p6.1, p6.2, p8, .non, .non, .non, .non]) (sv_setC (i := 5) sc_law_done.nd (ei_seq (ev_varF (pe_var (i := 5) rfl (.inl rfl)) rfl rfl)) (blkOk_by (own := [("_law_one", 13)]) rfl) (tgb_name (i := 13) (fun _ _ _ _ _ => pg_name sc_law_done.nd rfl (.inl rfl) (.inr rfl))) (fun _ _ _ _ _ _ p10 => (ets_one (et_cmp op_gt od_gt (ev_ix (ev_varF (pe_var (i := 13) rfl (.inl rfl)) rfl rfl) ev_int) (ev_varF (pe_var (i := 4) rfl (.inr (.inl rfl))) rfl rfl) (nomark _)))) (fun _ _ _ _ _ _ p10 => (ev_varF (pe_var (i := 13) rfl (.inl rfl)) rfl rfl)) (fun x11 => (sv_at (κ2 := [.F, .F, .F, (.L .F), .F, (.L .F), (.L .F), .F, .F, .F, .N, .N, .N, .N]) (en2 := [a0, a1, a2, p9.2, t7.2.1, x11, t7.2.2.2, p6.1, p6.2, p8, .non, .non, .non, .non]) (sv_for1 (i := 10) [.F, .F, .F, (.L .F), .F, (.L .F), (.L .F), .F, .F, .F, .N, .N, .N, .N] (fun (t12 : D × D) => [a0, a1, a2, p9.2, t7.2.1, t12.1, t12.2, p6.1, p6.2, p8, .non, .non, .non, .non]) (x11, t7.2.2.2) (ei_seq (ev_varF (pe_var (i := 9) rfl (.inl rfl)) rfl rfl)) (tg_name sc_law_done.nd) ⟨.inr ⟨rfl, rfl⟩, .inr ⟨rfl, rfl⟩, .inr ⟨rfl, rfl⟩, .inr ⟨rfl, rfl⟩, .inr ⟨rfl, rfl⟩, .inr ⟨rfl, rfl⟩, .inr ⟨rfl, rfl⟩, .inr ⟨rfl, rfl⟩, .inr ⟨rfl, rfl⟩, .inr ⟨rfl, rfl⟩, .inl rfl, .inl rfl, .inl rfl, .inl rfl, trivial⟩ (fun _ p13 t12 => (sv_set (i := 11) (ev_call (fd_law_begun C) (hr.mono (by decide)) (takes_of rfl rfl rfl rfl) (ea_F (ev_varF (pe_var (i := 10) rfl (.inl rfl)) rfl rfl) (ea_F (ev_varF (pe_var (i := 8) rfl (.inl rfl)) rfl rfl) (ea_F (ev_varF (pe_var (i := 2) rfl (.inl rfl)) rfl rfl) (ea_P (ev_varE (pe_var (i := 3) rfl (.inl rfl)) rfl rfl) (ea_F (ev_varF (pe_var (i := 0) rfl (.inl rfl)) rfl rfl) ea_nil)))))) (fun x14 => (sv_at (κ2 := [.F, .F, .F, (.L .F), .F, (.L .F), (.L .F), .F, .F, .F, .F, .F, .N, .N]) (en2 := [a0, a1, a2, p9.2, t7.2.1, t12.1, t12.2, p6.1, p6.2, p8, p13, x14, .non, .non]) (sv_app (pe_var (i := 5) rfl (.inl rfl)) (ev_tup (ea_F (ev_bin op_addD od_add (ev_varF (pe_var (i := 4) rfl (.inr (.inl rfl))) rfl rfl) (ev_ix (ev_varF (pe_var (i := 10) rfl (.inl rfl)) rfl rfl) ev_int)) (ea_F (ev_ix (ev_varF (pe_var (i := 10) rfl (.inl rfl)) rfl rfl) ev_int) (ea_F (ev_varF (pe_var (i := 11) rfl (.inl rfl)) rfl rfl) ea_nil)))) (fun x15 => (sv_at (κ2 := [.F, .F, .F, (.L .F), .F, (.L .F), (.L .F), .F, .F, .F, .F, .F, .N, .N]) (en2 := [a0, a1, a2, p9.2, t7.2.1, x15, t12.2, p6.1, p6.2, p8, p13, x14, .non, .non]) (sv_ifE (et_cmp (op_eqD hr.units) od_eq (ev_ix (ev_varF (pe_var (i := 10) rfl (.inl rfl)) rfl rfl) ev_int) (ev_str s_7) (nomark _)) (sv_app (pe_var (i := 6) rfl (.inl rfl)) (ev_tup (ea_F (ev_ix (ev_varF (pe_var (i := 10) rfl (.inl rfl)) rfl rfl) ev_int) (ea_F (ev_bin op_addD od_add (ev_varF (pe_var (i := 8) rfl (.inl rfl)) rfl rfl) (ev_ix (ev_varF (pe_var (i := 10) rfl (.inl rfl)) rfl rfl) ev_int)) (ea_F (ev_varF (pe_var (i := 11) rfl (.inl rfl)) rfl rfl) ea_nil)))) (fun x16 => (sv_at (κ2 := [.F, .F, .F, (.L .F), .F, (.L .F), (.L .F), .F, .F, .F, .F, .F, .N, .N]) (en2 := [a0, a1, a2, p9.2, t7.2.1, x15, x16, p6.1, p6.2, p8, p13, x14, .non, .non]) (sv_nil ⟨.inr ⟨rfl, rfl⟩, .inr ⟨rfl, rfl⟩, .inr ⟨rfl, rfl⟩, .inr ⟨rfl, rfl⟩, .inr ⟨rfl, rfl⟩, .inr ⟨rfl, rfl⟩, .inr ⟨rfl, rfl⟩, .inr ⟨rfl, rfl⟩, .inr ⟨rfl, rfl⟩, .inr ⟨rfl, rfl⟩, .inl rfl, .inl rfl, .inl rfl, .inl rfl, trivial⟩)))) (sv_nil ⟨.inr ⟨rfl, rfl⟩, .inr ⟨rfl, rfl⟩, .inr ⟨rfl, rfl⟩, .inr ⟨rfl, rfl⟩, .inr ⟨rfl, rfl⟩, .inr ⟨rfl, rfl⟩, .inr ⟨rfl, rfl⟩, .inr ⟨rfl, rfl⟩, .inr ⟨rfl, rfl⟩, .inr ⟨rfl, rfl⟩, .inl rfl, .inl rfl, .inl rfl, .inl rfl, trivial⟩))))))) sc_law_done.nd)) (fun t12 => (sv_set (i := 4) (ev_bin op_addD od_add (ev_varF (pe_var (i := 4) rfl (.inr (.inl rfl))) rfl rfl) ev_int) (fun x17 => (sv_at (κ2 := [.F, .F, .F, (.L .F), .F, (.L .F), (.L .F), .F, .F, .F, .N, .N, .N, .N]) (en2 := [a0, a1, a2, p9.2, x17, t12.1, t12.2, p6.1, p6.2, p8, .non, .non, .non, .non]) (sv_nil ⟨.inr ⟨rfl, rfl⟩, .inr ⟨rfl, rfl⟩, .inr ⟨rfl, rfl⟩, .inr ⟨rfl, rfl⟩, .inr ⟨rfl, rfl⟩, .inr ⟨rfl, rfl⟩, .inr ⟨rfl, rfl⟩, .inr ⟨rfl, rfl⟩, .inr ⟨rfl, rfl⟩, .inl rfl, .inl rfl, .inl rfl, .inl rfl, .inl rfl, trivial⟩))) sc_law_done.nd)) (passes_of rfl)))) (sw_true rfl rfl rfl rfl)))) (.inr rfl)))) (fun t7 => (sv_nil ⟨.inr ⟨rfl, rfl⟩, .inr ⟨rfl, rfl⟩, .inr ⟨rfl, rfl⟩, .inr ⟨rfl, rfl⟩, .inr ⟨rfl, rfl⟩, .inr ⟨rfl, rfl⟩, .inr ⟨rfl, rfl⟩, .inl rfl, .inl rfl, .inl rfl, .inl rfl, .inl rfl, .inl rfl, .inl rfl, trivial⟩)) (passes_of rfl))) (fun t5 => (sv_freeze (i := 5) (q := (.L .F)) rfl (sv_freeze (i := 6) (q := (.L .F)) rfl (sv_for1 (i := 12) [.F, .F, .F, (.L .F), .F, .F, .F, .N, .N, .N, .N, .N, .N, .N] (fun (t18 : D) => [a0, a1, a2, t18, t5.2.1, t5.2.2.1, t5.2.2.2, .non, .non, .non, .non, .non, .non, .non]) t5.1 (ei_range1 ev_int C.f_range) (tg_name sc_law_done.nd) ⟨.inr ⟨rfl, rfl⟩, .inr ⟨rfl, rfl⟩, .inr ⟨rfl, rfl⟩, .inr ⟨rfl, rfl⟩, .inr ⟨rfl, rfl⟩, .inr ⟨rfl, rfl⟩, .inr ⟨rfl, rfl⟩, .inl rfl, .inl rfl, .inl rfl, .inl rfl, .inl rfl, .inl rfl, .inl rfl, trivial⟩ (fun _ p19 t18 => (sv_callW (fd_law_landed C) (hr.mono (by decide)) (takes_of rfl rfl rfl rfl) (em_next (ev_varF (pe_var (i := 5) rfl (.inl rfl)) rfl rfl) (em_next (ev_bin op_addD od_add (ev_varF (pe_var (i := 4) rfl (.inr (.inl rfl))) rfl rfl) (ev_varF (pe_var (i := 12) rfl (.inl rfl)) rfl rfl)) (em_hereW (i := 3) (pe_var (i := 3) rfl (.inl rfl)) ea_nil rfl rfl))) (fun p20 => (sv_at (κ2 := [.F, .F, .F, (.L .F), .F, .F, .F, .N, .N, .N, .N, .N, .F, .N]) (en2 := [a0, a1, a2, p20.2, t5.2.1, t5.2.2.1, t5.2.2.2, .non, .non, .non, .non, .non, p19, .non]) (sv_nil ⟨.inr ⟨rfl, rfl⟩, .inr ⟨rfl, rfl⟩, .inr ⟨rfl, rfl⟩, .inr ⟨rfl, rfl⟩, .inr ⟨rfl, rfl⟩, .inr ⟨rfl, rfl⟩, .inr ⟨rfl, rfl⟩, .inl rfl, .inl rfl, .inl rfl, .inl rfl, .inl rfl, .inl rfl, .inl rfl, trivial⟩))) (.inr rfl))) (fun t18 => (sv_freeze (i := 3) (q := (.L .F)) rfl (sv_retD (EV.frz (ev_lst (ea_F (ev_varF (pe_var (i := 6) rfl (.inl rfl)) rfl rfl) (ea_F (ev_varF (pe_var (i := 3) rfl (.inl rfl)) rfl rfl) ea_nil))) rfl)))) (passes_of rfl))))) (passes_of rfl)))) sc_law_done.nd))) sc_law_done.nd))) sc_law_done.nd))) sc_law_done.nd)
def l_law_parts_1 (a4 : D) (a0 : D) (p4 : D) (t3 : D) : R (D) := (R.bind (toL t3) fun xs => R.bind (R.bind (R.cons (.ok a4) (R.cons (R.bin2 (.ok a0) (.ok p4) pMul) (.ok []))) mkT) fun d => R.bind (appL xs d) fun x5 => (.ok x5))
def b_law_parts (a0 a1 a2 a3 a4 a5 a6 : D) : R D := (R.bind (R.bin2 (R.bin2 (.ok a6) (.ok a1) pSub) (.ok (.int 1)) pAdd) fun x1 => (R.bind (R.bind (R.bin2 (.ok x1) (.ok (.int 0)) pLt) toB) fun b => if b = true then (R.bind (R.bind (R.cons (R.bind (R.cons (R.bin2 (.ok a2) (.ok a6) pIx) (R.cons (.ok (.int 0)) (.ok []))) mkT) (.ok [])) mkL) fun d => .ok d) else (R.bind (R.bind (R.cons (R.bind (R.cons (.ok a3) (R.cons (.ok (.int 0)) (.ok []))) mkT) (.ok [])) mkL) fun x2 => (R.bind (R.bind (R.bin2 (.ok x1) (.ok a0) pDiv) pRange1) fun xs => R.bind (rFor xs x2 ((l_law_parts_1 a4 a0))) fun t3 => (R.bin2 (.ok t3) (R.bind (R.cons (R.bind (R.cons (R.bin2 (.ok a5) (R.bin2 (.ok x1) (.ok a0) pMod) pIx) (R.cons (R.bin2 (.ok a0) (R.bin2 (.ok x1) (.ok a0) pDiv) pMul) (.ok []))) mkT) (.ok [])) mkL) pCatL)))))
def f_law_parts : List D → R D
  | [a0, a1, a2, a3, a4, a5, a6] => b_law_parts a0 a1 a2 a3 a4 a5 a6
  | _ => .bad
theorem sc_law_parts : FnScope ["_law_held", "_law_stages", "_law_shorts", "_law_ahead", "_law_middle", "_law_tails", "_law_turns", "_law_over", "_law_parts_here", "_law_x"] ["_law_held", "_law_stages", "_law_shorts", "_law_ahead", "_law_middle", "_law_tails", "_law_turns"] (defScope (top 52)) := ⟨rfl, rfl, rfl, by decide +kernel, rfl, by decide +kernel, by decide +kernel⟩
theorem fd_law_parts (C : Ctx K mg) : FD P w K mg base 1 "_law_parts" f_law_parts [.F, .F, .F, .F, .F, .F, .F] .F := by
  obtain ⟨fa, fd, g, F⟩ := C.d_law_parts
  refine ⟨fa, fd, ["_law_held", "_law_stages", "_law_shorts", "_law_ahead", "_law_middle", "_law_tails", "_law_turns"], g, F.kp, F.bindsN (fun _ _ _ _ _ _ us hl => match us, hl with | [_, _, _, _, _, _, _], _ => rfl), fd_ok F sc_law_parts rfl (by decide) fun cdv A outer s H E G ds hr hl => ?_⟩
  exact match ds, hl with
  | [a0, a1, a2, a3, a4, a5, a6], _ =>
    show SV _ _ _ _ [.F, .F, .F, .F, .F, .F, .F, .N, .N, .N] [a0, a1, a2, a3, a4, a5, a6, .non, .non, .non] _ _ (b_law_parts a0 a1 a2 a3 a4 a5 a6) from (sv_set (i := 7) (ev_bin op_addD od_add (ev_bin op_sub od_sub (ev_varF (pe_var (i := 6) rfl (.inl rfl)) rfl rfl) (ev_varF (pe_var (i := 1) rfl (.inl rfl)) rfl rfl)) ev_int) (fun x1 => (sv_at (κ2 := [.F, .F, .F, .F, .F, .F, .F, .F, .N, .N]) (en2 := [a0, a1, a2, a3, a4, a5, a6, x1, .non, .non]) (sv_ifS (et_cmp op_lt od_lt (ev_varF (pe_var (i := 7) rfl (.inl rfl)) rfl rfl) ev_int (nomark _)) (sv_ret (g := fun d => d) (EV.frz (ev_lst (ea_F (ev_tup (ea_F (ev_ix (ev_varF (pe_var (i := 2) rfl (.inl rfl)) rfl rfl) (ev_varF (pe_var (i := 6) rfl (.inl rfl)) rfl rfl)) (ea_F ev_int ea_nil))) ea_nil)) rfl) (fun d => ⟨rfl, rfl⟩)) (sv_set (i := 8) (ev_lst (ea_F (ev_tup (ea_F (ev_varF (pe_var (i := 3) rfl (.inl rfl)) rfl rfl) (ea_F ev_int ea_nil))) ea_nil)) (fun x2 => (sv_at (κ2 := [.F, .F, .F, .F, .F, .F, .F, .F, (.L .F), .N]) (en2 := [a0, a1, a2, a3, a4, a5, a6, x1, x2, .non]) (sv_for1 (i := 9) [.F, .F, .F, .F, .F, .F, .F, .F, (.L .F), .N] (fun (t3 : D) => [a0, a1, a2, a3, a4, a5, a6, x1, t3, .non]) x2 (ei_range1 (ev_bin op_fdivW od_div (ev_varF (pe_var (i := 7) rfl (.inl rfl)) rfl rfl) (ev_varF (pe_var (i := 0) rfl (.inl rfl)) rfl rfl)) C.f_range) (tg_name sc_law_parts.nd) ⟨.inr ⟨rfl, rfl⟩, .inr ⟨rfl, rfl⟩, .inr ⟨rfl, rfl⟩, .inr ⟨rfl, rfl⟩, .inr ⟨rfl, rfl⟩, .inr ⟨rfl, rfl⟩, .inr ⟨rfl, rfl⟩, .inr ⟨rfl, rfl⟩, .inr ⟨rfl, rfl⟩, .inl rfl, trivial⟩ (fun _ p4 t3 => (sv_app (pe_var (i := 8) rfl (.inl rfl)) (ev_tup (ea_F (ev_varF (pe_var (i := 4) rfl (.inl rfl)) rfl rfl) (ea_F (ev_bin op_mulD od_mul (ev_varF (pe_var (i := 0) rfl (.inl rfl)) rfl rfl) (ev_varF (pe_var (i := 9) rfl (.inl rfl)) rfl rfl)) ea_nil))) (fun x5 => (sv_at (κ2 := [.F, .F, .F, .F, .F, .F, .F, .F, (.L .F), .F]) (en2 := [a0, a1, a2, a3, a4, a5, a6, x1, x5, p4]) (sv_nil ⟨.inr ⟨rfl, rfl⟩, .inr ⟨rfl, rfl⟩, .inr ⟨rfl, rfl⟩, .inr ⟨rfl, rfl⟩, .inr ⟨rfl, rfl⟩, .inr ⟨rfl, rfl⟩, .inr ⟨rfl, rfl⟩, .inr ⟨rfl, rfl⟩, .inr ⟨rfl, rfl⟩, .inl rfl, trivial⟩))))) (fun t3 => (sv_retD (EV.frz (ev_catLg (ev_varE (pe_var (i := 8) rfl (.inl rfl)) rfl rfl) (EV.frz (ev_lst (ea_F (ev_tup (ea_F (ev_ix (ev_varF (pe_var (i := 5) rfl (.inl rfl)) rfl rfl) (ev_bin op_mod od_mod (ev_varF (pe_var (i := 7) rfl (.inl rfl)) rfl rfl) (ev_varF (pe_var (i := 0) rfl (.inl rfl)) rfl rfl))) (ea_F (ev_bin op_mulD od_mul (ev_varF (pe_var (i := 0) rfl (.inl rfl)) rfl rfl) (ev_bin op_fdivW od_div (ev_varF (pe_var (i := 7) rfl (.inl rfl)) rfl rfl) (ev_varF (pe_var (i := 0) rfl (.inl rfl)) rfl rfl))) ea_nil))) ea_nil)) rfl)) rfl))) (passes_of rfl)))) sc_law_parts.nd)))) sc_law_parts.nd)
def b_Floor___init__ (a1 a2 a3 : D) : R D := (R.bind (.ok a1) fun y2 => R.bind (putL "Floor" "measure" y2 (.obj "Floor" [] [])) fun x1 => (R.bind (.ok a2) fun y4 => R.bind (putL "Floor" "feeds" y4 x1) fun x3 => (R.bind (R.bind (R.cons (.ok a3) (.ok [])) pList) fun y6 => R.bind (putL "Floor" "boxes" y6 x3) fun x5 => (R.bind (.ok (.dct [] [])) fun y8 => R.bind (putL "Floor" "due" y8 x5) fun x7 => (R.bind (.ok (.int 0)) fun y10 => R.bind (putL "Floor" "clock" y10 x7) fun x9 => (R.bind (R.bind (.ok []) mkL) fun y12 => R.bind (putL "Floor" "told" y12 x9) fun x11 => (.ok x11)))))))
def f_Floor___init__ : List D → R D
  | [a1, a2, a3] => b_Floor___init__ a1 a2 a3
  | _ => .bad
theorem sc_Floor___init__ : FnScope ["self", "measure", "feeds", "boxes"] ["self", "measure", "feeds", "boxes"] (defScope (inCls (top 40) 0)) := ⟨rfl, rfl, rfl, by decide +kernel, rfl, by decide +kernel, by decide +kernel⟩
theorem mi_Floor (C : Ctx K mg) : MkO P w K mg base 1 "Floor" [.F, .F, .L, .LL, .F, .L] [.F, .F, .F] f_Floor___init__ := by
  obtain ⟨cl, fa, fd, g, M, F⟩ := C.mi_Floor
  refine ⟨cl, fa, fd, ["self", "measure", "feeds", "boxes"], g, M, F.bindsN (fun _ _ _ _ _ _ us hl => match us, hl with | [_, _, _, _], _ => rfl), fo_ok 0 F sc_Floor___init__ rfl rfl fun cdv A outer s H B sp E G ds hr hl => ?_⟩
  exact match ds, hl with
  | [a1, a2, a3], _ =>
    show SV _ _ _ _ [(.I sp), .F, .F, .F] [(.obj "Floor" [] []), a1, a2, a3] _ _ (b_Floor___init__ a1 a2 a3) from (sv_thawO (i := 0) (p := sp) (cl := "Floor") rfl rfl (sv_fldO (i := 0) (p := sp) (fk := []) C.fl_Floor_measure (pe_var (i := 0) rfl (.inl rfl)) (ev_varF (pe_var (i := 1) rfl (.inl rfl)) rfl rfl) (fun x1 => (sv_at (κ2 := [(.U (OMu sp [.F])), .F, .F, .F]) (en2 := [x1, a1, a2, a3]) (sv_fldO (i := 0) (p := sp) (fk := [.F]) C.fl_Floor_feeds (pe_var (i := 0) rfl (.inl rfl)) (ev_varF (pe_var (i := 2) rfl (.inl rfl)) rfl rfl) (fun x3 => (sv_at (κ2 := [(.U (OMu sp [.F, .F])), .F, .F, .F]) (en2 := [x3, a1, a2, a3]) (sv_fldO (i := 0) (p := sp) (fk := [.F, .F]) C.fl_Floor_boxes (pe_var (i := 0) rfl (.inl rfl)) (ev_callTy call_list_of bf_list (ea_F (ev_varF (pe_var (i := 3) rfl (.inl rfl)) rfl rfl) ea_nil) C.f_list (by decide +kernel)) (fun x5 => (sv_at (κ2 := [(.U (OMu sp [.F, .F, .L])), .F, .F, .F]) (en2 := [x5, a1, a2, a3]) (sv_fldO (i := 0) (p := sp) (fk := [.F, .F, .L]) C.fl_Floor_due (pe_var (i := 0) rfl (.inl rfl)) (ev_dict0 (q := .L .F)) (fun x7 => (sv_at (κ2 := [(.U (OMu sp [.F, .F, .L, .LL])), .F, .F, .F]) (en2 := [x7, a1, a2, a3]) (sv_fldO (i := 0) (p := sp) (fk := [.F, .F, .L, .LL]) C.fl_Floor_clock (pe_var (i := 0) rfl (.inl rfl)) ev_int (fun x9 => (sv_at (κ2 := [(.U (OMu sp [.F, .F, .L, .LL, .F])), .F, .F, .F]) (en2 := [x9, a1, a2, a3]) (sv_fldO (i := 0) (p := sp) (fk := [.F, .F, .L, .LL, .F]) C.fl_Floor_told (pe_var (i := 0) rfl (.inl rfl)) (ev_lst ea_nil) (fun x11 => (sv_at (κ2 := [(.U (OMu sp [.F, .F, .L, .LL, .F, .L])), .F, .F, .F]) (en2 := [x11, a1, a2, a3]) (sv_nil ⟨rfl, rfl⟩))) .l))) .f))) .ll))) .l))) .f))) .f))
def l_Floor_land_1 (p2 : D × D) (t1 : D) : R (D) := (R.bind (.ok p2.2) fun d => R.bind (fldJ "Floor" "boxes" 2 t1) fun x => R.bind (toL x) fun xs => R.bind (.ok p2.1) fun jj => R.bind (setL1 xs jj d) fun y => R.bind (.ok (setJ 2 y t1)) fun x3 => (.ok x3))
def b_Floor_land (a0 : D) : R D := (R.bind (fldJ "Floor" "due" 3 a0) fun x => R.bind (toDct x) fun kx => R.bind (fldJ "Floor" "clock" 4 a0) fun jj => R.bind (pPopO kx jj) fun xy => R.bind (.ok (setJ 3 xy.2 a0)) fun x4 => R.bind (rFor xy.1 x4 (fun x t1 => R.bind (un2 x) fun p2 => l_Floor_land_1 p2 t1)) fun t1 => (.ok (.tup [.non, t1])))
def f_Floor_land : List D → R D
  | [a0] => b_Floor_land a0
  | _ => .bad
theorem sc_Floor_land : FnScope ["self", "box", "number"] ["self"] (defScope (inCls (top 40) 1)) := ⟨rfl, rfl, rfl, by decide +kernel, rfl, by decide +kernel, by decide +kernel⟩
theorem fmw_Floor_land (C : Ctx K mg) : FmW P w K mg base [.F, .F, .L, .LL, .F, .L] 1 "Floor" "land" f_Floor_land 1 := by
  obtain ⟨cl, fa, fd, g, hc, hm, F⟩ := C.e_Floor_land
  refine ⟨cl, fa, fd, ["self"], g, hc, hm, F.bindsN (fun _ _ _ _ _ _ us hl => match us, hl with | [_], _ => rfl), fw_ok (m := 2) F sc_Floor_land rfl rfl fun cdv A outer s H B E G ds sp hr hl => ?_⟩
  exact match ds, hl with
  | [a0], _ =>
    show SV _ _ _ _ [(.U (OMu sp [.F, .F, .L, .LL, .F, .L])), .N, .N] [a0, .non, .non] _ _ (b_Floor_land a0) from (sv_forPop (i := 0) (j := 3) (p := sp) (fk := [.F, .F, .L, .LL, .F, .L]) (js := [1, 2]) [(.U (OMu sp [.F, .F, .L, .LL, .F, .L])), .N, .N] (fun (t1 : D) => [t1, .non, .non]) (fun x4 => x4) C.fl_Floor_due (pe_var (i := 0) rfl (.inl rfl)) (ev_fldOF (i := 0) (j := 4) (p := sp) (fk := [.F, .F, .L, .LL, .F, .L]) C.fl_Floor_clock (pe_var (i := 0) rfl (.inl rfl)) rfl rfl rfl) (tg_tup (js := [1, 2]) (vs := fun p => [p.1, p.2]) (pg_tup rfl (pgs_cons (pg_name (i := 1) sc_Floor_land.nd rfl (.inl rfl) (.inl rfl)) (pgs_cons (pg_name (i := 2) sc_Floor_land.nd rfl (.inl rfl) (.inl rfl)) pgs_nil))) un2_ok un2_nx) (fun x4 => ⟨.inr ⟨rfl, rfl⟩, .inl rfl, .inl rfl, trivial⟩) (fun _ p2 t1 => (sv_setIO (i := 0) (j := 2) (p := sp) (fk := [.F, .F, .L, .LL, .F, .L]) C.fl_Floor_boxes (pe_var (i := 0) rfl (.inl rfl)) (ev_varF (pe_var (i := 2) rfl (.inl rfl)) rfl rfl) (ev_varF (pe_var (i := 1) rfl (.inl rfl)) rfl rfl) (fun x3 => (sv_at (κ2 := [(.U (OMu sp [.F, .F, .L, .LL, .F, .L])), .F, .F]) (en2 := [x3, p2.1, p2.2]) (sv_nil ⟨.inr ⟨rfl, rfl⟩, .inl rfl, .inl rfl, trivial⟩))))) (fun t1 => (sv_nil ⟨rfl, _, rfl, rfl⟩)) (passes_of rfl))
def b_Sum_made (a0 a1 : D) : R D := (R.bin2 (R.bin2 (.ok a1) (.ok (.int 0)) pIx) (R.bin2 (.ok a1) (.ok (.int 1)) pIx) pAdd)
def f_Sum_made : List D → R D
  | [a0, a1] => b_Sum_made a0 a1
  | _ => .bad
theorem sc_Sum_made : FnScope ["self", "rests"] ["self", "rests"] (defScope (inCls (top 24) 0)) := ⟨rfl, rfl, rfl, by decide +kernel, rfl, by decide +kernel, by decide +kernel⟩
theorem fn_Sum_made {fa : Addr} {fd : FuncData} (C : Ctx K mg) (F : FunD K "made" "Sum.made" (defArgs (inCls (top 24) 0)) (defBody (inCls (top 24) 0)) (defScope (inCls (top 24) 0)) [] [] fa fd) : Binds K fd ["self", "rests"] [] ∧ FnOk P w K mg base (L2.CX P w) 1 fa fd ["self", "rests"] (spF K mg f_Sum_made [.F, .F] .F) := by
  refine ⟨F.bindsN (fun _ _ _ _ _ _ us hl => match us, hl with | [_, _], _ => rfl), fd_ok F sc_Sum_made rfl (by decide) fun cdv A outer s H E G ds hr hl => ?_⟩
  exact match ds, hl with
  | [a0, a1], _ =>
    show SV _ _ _ _ [.F, .F] [a0, a1] _ _ (b_Sum_made a0 a1) from (sv_retD (ev_bin op_addD od_add (ev_ix (ev_varF (pe_var (i := 1) rfl (.inl rfl)) rfl rfl) ev_int) (ev_ix (ev_varF (pe_var (i := 1) rfl (.inl rfl)) rfl rfl) ev_int)))
def b_Less_made (a0 a1 : D) : R D := (R.bin2 (R.bin2 (.ok a1) (.ok (.int 0)) pIx) (R.bin2 (.ok a1) (.ok (.int 1)) pIx) pSub)
def f_Less_made : List D → R D
  | [a0, a1] => b_Less_made a0 a1
  | _ => .bad
theorem sc_Less_made : FnScope ["self", "rests"] ["self", "rests"] (defScope (inCls (top 25) 0)) := ⟨rfl, rfl, rfl, by decide +kernel, rfl, by decide +kernel, by decide +kernel⟩
theorem fn_Less_made {fa : Addr} {fd : FuncData} (C : Ctx K mg) (F : FunD K "made" "Less.made" (defArgs (inCls (top 25) 0)) (defBody (inCls (top 25) 0)) (defScope (inCls (top 25) 0)) [] [] fa fd) : Binds K fd ["self", "rests"] [] ∧ FnOk P w K mg base (L2.CX P w) 1 fa fd ["self", "rests"] (spF K mg f_Less_made [.F, .F] .F) := by
  refine ⟨F.bindsN (fun _ _ _ _ _ _ us hl => match us, hl with | [_, _], _ => rfl), fd_ok F sc_Less_made rfl (by decide) fun cdv A outer s H E G ds hr hl => ?_⟩
  exact match ds, hl with
  | [a0, a1], _ =>
    show SV _ _ _ _ [.F, .F] [a0, a1] _ _ (b_Less_made a0 a1) from (sv_retD (ev_bin op_sub od_sub (ev_ix (ev_varF (pe_var (i := 1) rfl (.inl rfl)) rfl rfl) ev_int) (ev_ix (ev_varF (pe_var (i := 1) rfl (.inl rfl)) rfl rfl) ev_int)))
def b_Times_made (a0 a1 : D) : R D := (R.bin2 (R.bin2 (.ok a1) (.ok (.int 0)) pIx) (R.bin2 (.ok a1) (.ok (.int 1)) pIx) pMul)
def f_Times_made : List D → R D
  | [a0, a1] => b_Times_made a0 a1
  | _ => .bad
theorem sc_Times_made : FnScope ["self", "rests"] ["self", "rests"] (defScope (inCls (top 26) 0)) := ⟨rfl, rfl, rfl, by decide +kernel, rfl, by decide +kernel, by decide +kernel⟩
theorem fn_Times_made {fa : Addr} {fd : FuncData} (C : Ctx K mg) (F : FunD K "made" "Times.made" (defArgs (inCls (top 26) 0)) (defBody (inCls (top 26) 0)) (defScope (inCls (top 26) 0)) [] [] fa fd) : Binds K fd ["self", "rests"] [] ∧ FnOk P w K mg base (L2.CX P w) 1 fa fd ["self", "rests"] (spF K mg f_Times_made [.F, .F] .F) := by
  refine ⟨F.bindsN (fun _ _ _ _ _ _ us hl => match us, hl with | [_, _], _ => rfl), fd_ok F sc_Times_made rfl (by decide) fun cdv A outer s H E G ds hr hl => ?_⟩
  exact match ds, hl with
  | [a0, a1], _ =>
    show SV _ _ _ _ [.F, .F] [a0, a1] _ _ (b_Times_made a0 a1) from (sv_retD (ev_bin op_mulD od_mul (ev_ix (ev_varF (pe_var (i := 1) rfl (.inl rfl)) rfl rfl) ev_int) (ev_ix (ev_varF (pe_var (i := 1) rfl (.inl rfl)) rfl rfl) ev_int)))
def b_Least_made (a0 a1 : D) : R D := (R.bind (R.cons (.ok a1) (.ok [])) pMin1)
def f_Least_made : List D → R D
  | [a0, a1] => b_Least_made a0 a1
  | _ => .bad
theorem sc_Least_made : FnScope ["self", "rests"] ["self", "rests"] (defScope (inCls (top 27) 0)) := ⟨rfl, rfl, rfl, by decide +kernel, rfl, by decide +kernel, by decide +kernel⟩
theorem fn_Least_made {fa : Addr} {fd : FuncData} (C : Ctx K mg) (F : FunD K "made" "Least.made" (defArgs (inCls (top 27) 0)) (defBody (inCls (top 27) 0)) (defScope (inCls (top 27) 0)) [] [] fa fd) : Binds K fd ["self", "rests"] [] ∧ FnOk P w K mg base (L2.CX P w) 1 fa fd ["self", "rests"] (spF K mg f_Least_made [.F, .F] .F) := by
  refine ⟨F.bindsN (fun _ _ _ _ _ _ us hl => match us, hl with | [_, _], _ => rfl), fd_ok F sc_Least_made rfl (by decide) fun cdv A outer s H E G ds hr hl => ?_⟩
  exact match ds, hl with
  | [a0, a1], _ =>
    show SV _ _ _ _ [.F, .F] [a0, a1] _ _ (b_Least_made a0 a1) from (sv_retD (ev_callB (cr_min rfl) bf_min1 (ea_P (ev_varF (pe_var (i := 1) rfl (.inl rfl)) rfl rfl) ea_nil) C.f_min (by decide +kernel)))
def b_Most_made (a0 a1 : D) : R D := (R.bind (R.cons (.ok a1) (.ok [])) pMax1)
def f_Most_made : List D → R D
  | [a0, a1] => b_Most_made a0 a1
  | _ => .bad
theorem sc_Most_made : FnScope ["self", "rests"] ["self", "rests"] (defScope (inCls (top 28) 0)) := ⟨rfl, rfl, rfl, by decide +kernel, rfl, by decide +kernel, by decide +kernel⟩
theorem fn_Most_made {fa : Addr} {fd : FuncData} (C : Ctx K mg) (F : FunD K "made" "Most.made" (defArgs (inCls (top 28) 0)) (defBody (inCls (top 28) 0)) (defScope (inCls (top 28) 0)) [] [] fa fd) : Binds K fd ["self", "rests"] [] ∧ FnOk P w K mg base (L2.CX P w) 1 fa fd ["self", "rests"] (spF K mg f_Most_made [.F, .F] .F) := by
  refine ⟨F.bindsN (fun _ _ _ _ _ _ us hl => match us, hl with | [_, _], _ => rfl), fd_ok F sc_Most_made rfl (by decide) fun cdv A outer s H E G ds hr hl => ?_⟩
  exact match ds, hl with
  | [a0, a1], _ =>
    show SV _ _ _ _ [.F, .F] [a0, a1] _ _ (b_Most_made a0 a1) from (sv_retD (ev_callB (cr_max rfl) bf_max1 (ea_P (ev_varF (pe_var (i := 1) rfl (.inl rfl)) rfl rfl) ea_nil) C.f_max (by decide +kernel)))
def b_Pick_made (a0 a1 : D) : R D := (R.bind (R.bind (R.bin2 (R.bin2 (.ok a1) (.ok (.int 0)) pIx) (.ok (.int 0)) pEq) toB) fun b => if b = true then (R.bind (R.bin2 (.ok a1) (.ok (.int 2)) pIx) fun d => .ok d) else (R.bin2 (.ok a1) (.ok (.int 1)) pIx))
def f_Pick_made : List D → R D
  | [a0, a1] => b_Pick_made a0 a1
  | _ => .bad
theorem sc_Pick_made : FnScope ["self", "rests"] ["self", "rests"] (defScope (inCls (top 29) 1)) := ⟨rfl, rfl, rfl, by decide +kernel, rfl, by decide +kernel, by decide +kernel⟩
theorem fn_Pick_made {fa : Addr} {fd : FuncData} (C : Ctx K mg) (F : FunD K "made" "Pick.made" (defArgs (inCls (top 29) 1)) (defBody (inCls (top 29) 1)) (defScope (inCls (top 29) 1)) [] [] fa fd) : Binds K fd ["self", "rests"] [] ∧ FnOk P w K mg base (L2.CX P w) 1 fa fd ["self", "rests"] (spF K mg f_Pick_made [.F, .F] .F) := by
  refine ⟨F.bindsN (fun _ _ _ _ _ _ us hl => match us, hl with | [_, _], _ => rfl), fd_ok F sc_Pick_made rfl (by decide) fun cdv A outer s H E G ds hr hl => ?_⟩
  exact match ds, hl with
  | [a0, a1], _ =>
    show SV _ _ _ _ [.F, .F] [a0, a1] _ _ (b_Pick_made a0 a1) from (sv_ifS (et_cmp (op_eqD hr.units) od_eq (ev_ix (ev_varF (pe_var (i := 1) rfl (.inl rfl)) rfl rfl) ev_int) ev_int (nomark _)) (sv_ret (g := fun d => d) (ev_ix (ev_varF (pe_var (i := 1) rfl (.inl rfl)) rfl rfl) ev_int) (fun d => ⟨rfl, rfl⟩)) (sv_retD (ev_ix (ev_varF (pe_var (i := 1) rfl (.inl rfl)) rfl rfl) ev_int)))
def b_Deed_made (a0 a1 : D) : R D := (R.bin2 (.ok a1) (.ok (.int 0)) pIx)
def f_Deed_made : List D → R D
  | [a0, a1] => b_Deed_made a0 a1
  | _ => .bad
theorem sc_Deed_made : FnScope ["self", "rests"] ["self", "rests"] (defScope (inCls (top 23) 1)) := ⟨rfl, rfl, rfl, by decide +kernel, rfl, by decide +kernel, by decide +kernel⟩
theorem fn_Deed_made {fa : Addr} {fd : FuncData} (C : Ctx K mg) (F : FunD K "made" "Deed.made" (defArgs (inCls (top 23) 1)) (defBody (inCls (top 23) 1)) (defScope (inCls (top 23) 1)) [] [] fa fd) : Binds K fd ["self", "rests"] [] ∧ FnOk P w K mg base (L2.CX P w) 1 fa fd ["self", "rests"] (spF K mg f_Deed_made [.F, .F] .F) := by
  refine ⟨F.bindsN (fun _ _ _ _ _ _ us hl => match us, hl with | [_, _], _ => rfl), fd_ok F sc_Deed_made rfl (by decide) fun cdv A outer s H E G ds hr hl => ?_⟩
  exact match ds, hl with
  | [a0, a1], _ =>
    show SV _ _ _ _ [.F, .F] [a0, a1] _ _ (b_Deed_made a0 a1) from (sv_retD (ev_ix (ev_varF (pe_var (i := 1) rfl (.inl rfl)) rfl rfl) ev_int))
theorem fm_Sum_made (C : Ctx K mg) : FM P w K mg base 1 "Sum" "made" f_Sum_made [.F, .F] .F := by
  obtain ⟨cl, fa, fd, g, hc, hm, F⟩ := C.e_Sum_made
  have z := fn_Sum_made (P := P) (w := w) (base := base) C F
  exact ⟨cl, fa, fd, _, g, hc, hm, z.1, z.2⟩
theorem fm_Less_made (C : Ctx K mg) : FM P w K mg base 1 "Less" "made" f_Less_made [.F, .F] .F := by
  obtain ⟨cl, fa, fd, g, hc, hm, F⟩ := C.e_Less_made
  have z := fn_Less_made (P := P) (w := w) (base := base) C F
  exact ⟨cl, fa, fd, _, g, hc, hm, z.1, z.2⟩
theorem fm_Times_made (C : Ctx K mg) : FM P w K mg base 1 "Times" "made" f_Times_made [.F, .F] .F := by
  obtain ⟨cl, fa, fd, g, hc, hm, F⟩ := C.e_Times_made
  have z := fn_Times_made (P := P) (w := w) (base := base) C F
  exact ⟨cl, fa, fd, _, g, hc, hm, z.1, z.2⟩
theorem fm_Least_made (C : Ctx K mg) : FM P w K mg base 1 "Least" "made" f_Least_made [.F, .F] .F := by
  obtain ⟨cl, fa, fd, g, hc, hm, F⟩ := C.e_Least_made
  have z := fn_Least_made (P := P) (w := w) (base := base) C F
  exact ⟨cl, fa, fd, _, g, hc, hm, z.1, z.2⟩
theorem fm_Most_made (C : Ctx K mg) : FM P w K mg base 1 "Most" "made" f_Most_made [.F, .F] .F := by
  obtain ⟨cl, fa, fd, g, hc, hm, F⟩ := C.e_Most_made
  have z := fn_Most_made (P := P) (w := w) (base := base) C F
  exact ⟨cl, fa, fd, _, g, hc, hm, z.1, z.2⟩
theorem fm_Pick_made (C : Ctx K mg) : FM P w K mg base 1 "Pick" "made" f_Pick_made [.F, .F] .F := by
  obtain ⟨cl, fa, fd, g, hc, hm, F⟩ := C.e_Pick_made
  have z := fn_Pick_made (P := P) (w := w) (base := base) C F
  exact ⟨cl, fa, fd, _, g, hc, hm, z.1, z.2⟩
theorem fm_Same_made (C : Ctx K mg) : FM P w K mg base 1 "Same" "made" f_Deed_made [.F, .F] .F := by
  obtain ⟨cl, fa, fd, g, hc, hm, F⟩ := C.e_Same_made
  have z := fn_Deed_made (P := P) (w := w) (base := base) C F
  exact ⟨cl, fa, fd, _, g, hc, hm, z.1, z.2⟩
theorem fm_Tell_made (C : Ctx K mg) : FM P w K mg base 1 "Tell" "made" f_Deed_made [.F, .F] .F := by
  obtain ⟨cl, fa, fd, g, hc, hm, F⟩ := C.e_Tell_made
  have z := fn_Deed_made (P := P) (w := w) (base := base) C F
  exact ⟨cl, fa, fd, _, g, hc, hm, z.1, z.2⟩
theorem fm_Take_made (C : Ctx K mg) : FM P w K mg base 1 "Take" "made" f_Deed_made [.F, .F] .F := by
  obtain ⟨cl, fa, fd, g, hc, hm, F⟩ := C.e_Take_made
  have z := fn_Deed_made (P := P) (w := w) (base := base) C F
  exact ⟨cl, fa, fd, _, g, hc, hm, z.1, z.2⟩
def tab_made : List (Str × (List D → R D)) := [("Sum", f_Sum_made), ("Less", f_Less_made), ("Times", f_Times_made), ("Least", f_Least_made), ("Most", f_Most_made), ("Pick", f_Pick_made), ("Same", f_Deed_made), ("Tell", f_Deed_made), ("Take", f_Deed_made)]
theorem tab_made_ok (C : Ctx K mg) : ∀ t ∈ tab_made, FM P w K mg base 1 t.1 "made" t.2 [.F, .F] .F := by
  intro t h
  unfold tab_made at h
  rcases List.mem_cons.mp h with e | h
  · subst e; exact (fm_Sum_made C).mono (by decide)
  rcases List.mem_cons.mp h with e | h
  · subst e; exact (fm_Less_made C).mono (by decide)
  rcases List.mem_cons.mp h with e | h
  · subst e; exact (fm_Times_made C).mono (by decide)
  rcases List.mem_cons.mp h with e | h
  · subst e; exact (fm_Least_made C).mono (by decide)
  rcases List.mem_cons.mp h with e | h
  · subst e; exact (fm_Most_made C).mono (by decide)
  rcases List.mem_cons.mp h with e | h
  · subst e; exact (fm_Pick_made C).mono (by decide)
  rcases List.mem_cons.mp h with e | h
  · subst e; exact (fm_Same_made C).mono (by decide)
  rcases List.mem_cons.mp h with e | h
  · subst e; exact (fm_Tell_made C).mono (by decide)
  rcases List.mem_cons.mp h with e | h
  · subst e; exact (fm_Take_made C).mono (by decide)
  cases h
def b_Deed_of (a0 a1 a2 : D) : R D := (R.bin2 (R.bind (.ok a0) fun d => R.bind (dsp tab_made "made" d) fun f => R.bind (R.cons (pComp (R.bind (.ok a1) toSeq) (fun d => .ok d) (fun p1 => (.ok true)) (fun p1 => (R.bin2 (.ok p1) (.ok a2) pMod))) (.ok [])) fun ds => f (d :: ds)) (.ok a2) pMod)
def f_Deed_of : List D → R D
  | [a0, a1, a2] => b_Deed_of a0 a1 a2
  | _ => .bad
theorem sc_Deed_of : FnScope ["self", "numbers", "measure", "number"] ["self", "numbers", "measure"] (defScope (inCls (top 23) 2)) := ⟨rfl, rfl, rfl, by decide +kernel, rfl, by decide +kernel, by decide +kernel⟩
theorem fn_Deed_of {fa : Addr} {fd : FuncData} (C : Ctx K mg) (F : FunD K "of" "Deed.of" (defArgs (inCls (top 23) 2)) (defBody (inCls (top 23) 2)) (defScope (inCls (top 23) 2)) [] [] fa fd) : Binds K fd ["self", "numbers", "measure"] [] ∧ FnOk P w K mg base (L2.CX P w) 2 fa fd ["self", "numbers", "measure"] (spF K mg f_Deed_of [.F, .F, .F] .F) := by
  refine ⟨F.bindsN (fun _ _ _ _ _ _ us hl => match us, hl with | [_, _, _], _ => rfl), fd_ok F sc_Deed_of rfl (by decide) fun cdv A outer s H E G ds hr hl => ?_⟩
  exact match ds, hl with
  | [a0, a1, a2], _ =>
    show SV _ _ _ _ [.F, .F, .F, .N] [a0, a1, a2, .non] _ _ (b_Deed_of a0 a1 a2) from (sv_retD (ev_bin op_mod od_mod (ev_methT (T := tab_made) (tab_made_ok C) (by unfold tab_made; intro z; cases z) (hr.mono (by decide)) (takes_of rfl rfl rfl rfl) (ev_varF (pe_var (i := 0) rfl (.inl rfl)) rfl rfl) (ea_F (EV.frz (ev_comp rfl sc_Deed_of.nd (ei_seq (ev_varF (pe_var (i := 1) rfl (.inl rfl)) rfl rfl)) (blkOk_by (own := [("number", 3)]) rfl) (tgb_name (i := 3) (fun _ _ _ _ _ => pg_name sc_Deed_of.nd rfl (.inl rfl) (.inr rfl))) (fun _ _ _ _ _ _ p1 => ets_nil) (fun _ _ _ _ _ _ p1 => (ev_bin op_mod od_mod (ev_varF (pe_var (i := 3) rfl (.inl rfl)) rfl rfl) (ev_varF (pe_var (i := 2) rfl (.inr (.inl rfl))) rfl rfl)))) rfl) ea_nil) (.inr ⟨rfl, rfl⟩)) (ev_varF (pe_var (i := 2) rfl (.inr (.inl rfl))) rfl rfl)))
theorem fm_Least_of (C : Ctx K mg) : FM P w K mg base 2 "Least" "of" f_Deed_of [.F, .F, .F] .F := by
  obtain ⟨cl, fa, fd, g, hc, hm, F⟩ := C.e_Least_of
  have z := fn_Deed_of (P := P) (w := w) (base := base) C F
  exact ⟨cl, fa, fd, _, g, hc, hm, z.1, z.2⟩
theorem fm_Less_of (C : Ctx K mg) : FM P w K mg base 2 "Less" "of" f_Deed_of [.F, .F, .F] .F := by
  obtain ⟨cl, fa, fd, g, hc, hm, F⟩ := C.e_Less_of
  have z := fn_Deed_of (P := P) (w := w) (base := base) C F
  exact ⟨cl, fa, fd, _, g, hc, hm, z.1, z.2⟩
theorem fm_Most_of (C : Ctx K mg) : FM P w K mg base 2 "Most" "of" f_Deed_of [.F, .F, .F] .F := by
  obtain ⟨cl, fa, fd, g, hc, hm, F⟩ := C.e_Most_of
  have z := fn_Deed_of (P := P) (w := w) (base := base) C F
  exact ⟨cl, fa, fd, _, g, hc, hm, z.1, z.2⟩
theorem fm_Pick_of (C : Ctx K mg) : FM P w K mg base 2 "Pick" "of" f_Deed_of [.F, .F, .F] .F := by
  obtain ⟨cl, fa, fd, g, hc, hm, F⟩ := C.e_Pick_of
  have z := fn_Deed_of (P := P) (w := w) (base := base) C F
  exact ⟨cl, fa, fd, _, g, hc, hm, z.1, z.2⟩
theorem fm_Same_of (C : Ctx K mg) : FM P w K mg base 2 "Same" "of" f_Deed_of [.F, .F, .F] .F := by
  obtain ⟨cl, fa, fd, g, hc, hm, F⟩ := C.e_Same_of
  have z := fn_Deed_of (P := P) (w := w) (base := base) C F
  exact ⟨cl, fa, fd, _, g, hc, hm, z.1, z.2⟩
theorem fm_Sum_of (C : Ctx K mg) : FM P w K mg base 2 "Sum" "of" f_Deed_of [.F, .F, .F] .F := by
  obtain ⟨cl, fa, fd, g, hc, hm, F⟩ := C.e_Sum_of
  have z := fn_Deed_of (P := P) (w := w) (base := base) C F
  exact ⟨cl, fa, fd, _, g, hc, hm, z.1, z.2⟩
theorem fm_Take_of (C : Ctx K mg) : FM P w K mg base 2 "Take" "of" f_Deed_of [.F, .F, .F] .F := by
  obtain ⟨cl, fa, fd, g, hc, hm, F⟩ := C.e_Take_of
  have z := fn_Deed_of (P := P) (w := w) (base := base) C F
  exact ⟨cl, fa, fd, _, g, hc, hm, z.1, z.2⟩
theorem fm_Tell_of (C : Ctx K mg) : FM P w K mg base 2 "Tell" "of" f_Deed_of [.F, .F, .F] .F := by
  obtain ⟨cl, fa, fd, g, hc, hm, F⟩ := C.e_Tell_of
  have z := fn_Deed_of (P := P) (w := w) (base := base) C F
  exact ⟨cl, fa, fd, _, g, hc, hm, z.1, z.2⟩
theorem fm_Times_of (C : Ctx K mg) : FM P w K mg base 2 "Times" "of" f_Deed_of [.F, .F, .F] .F := by
  obtain ⟨cl, fa, fd, g, hc, hm, F⟩ := C.e_Times_of
  have z := fn_Deed_of (P := P) (w := w) (base := base) C F
  exact ⟨cl, fa, fd, _, g, hc, hm, z.1, z.2⟩
def b_deed_of (a0 : D) : R D := (R.bind (R.bind (R.bin2 (.ok a0) (.ok (.str "sum")) pEq) toB) fun b => if b = true then (R.bind (.ok (.obj "Sum" [] [])) fun d => .ok d) else (R.bind (R.bind (R.bin2 (.ok a0) (.ok (.str "less")) pEq) toB) fun b => if b = true then (R.bind (.ok (.obj "Less" [] [])) fun d => .ok d) else (R.bind (R.bind (R.bin2 (.ok a0) (.ok (.str "times")) pEq) toB) fun b => if b = true then (R.bind (.ok (.obj "Times" [] [])) fun d => .ok d) else (R.bind (R.bind (R.bin2 (.ok a0) (.ok (.str "least")) pEq) toB) fun b => if b = true then (R.bind (.ok (.obj "Least" [] [])) fun d => .ok d) else (R.bind (R.bind (R.bin2 (.ok a0) (.ok (.str "most")) pEq) toB) fun b => if b = true then (R.bind (.ok (.obj "Most" [] [])) fun d => .ok d) else (R.bind (R.bind (R.bin2 (.ok a0) (.ok (.str "pick")) pEq) toB) fun b => if b = true then (R.bind (.ok (.obj "Pick" [] [])) fun d => .ok d) else (R.bind (R.bind (R.bin2 (.ok a0) (.ok (.str "same")) pEq) toB) fun b => if b = true then (R.bind (.ok (.obj "Same" [] [])) fun d => .ok d) else (R.bind (R.bind (R.bin2 (.ok a0) (.ok (.str "tell")) pEq) toB) fun b => if b = true then (R.bind (.ok (.obj "Tell" [] [])) fun d => .ok d) else (R.bind (R.bind (R.bin2 (.ok a0) (.ok (.str "take")) pEq) toB) fun b => if b = true then (R.bind (.ok (.obj "Take" [] [])) fun d => .ok d) else (.exc ⟨"NoDeed", [], []⟩))))))))))
def f_deed_of : List D → R D
  | [a0] => b_deed_of a0
  | _ => .bad
theorem sc_deed_of : FnScope ["word"] ["word"] (defScope (top 33)) := ⟨rfl, rfl, rfl, by decide +kernel, rfl, by decide +kernel, by decide +kernel⟩
theorem fd_deed_of (C : Ctx K mg) : FD P w K mg base 1 "deed_of" f_deed_of [.F] .F := by
  obtain ⟨fa, fd, g, F⟩ := C.d_deed_of
  refine ⟨fa, fd, ["word"], g, F.kp, F.bindsN (fun _ _ _ _ _ _ us hl => match us, hl with | [_], _ => rfl), fd_ok F sc_deed_of rfl (by decide) fun cdv A outer s H E G ds hr hl => ?_⟩
  exact match ds, hl with
  | [a0], _ =>
    show SV _ _ _ _ [.F] [a0] _ _ (b_deed_of a0) from (sv_ifS (et_cmp (op_eqD hr.units) od_eq (ev_varF (pe_var (i := 0) rfl (.inl rfl)) rfl rfl) (ev_str s_0) (nomark _)) (sv_ret (g := fun d => d) (ev_mk0 C.m_Sum) (fun d => ⟨rfl, rfl⟩)) (sv_ifS (et_cmp (op_eqD hr.units) od_eq (ev_varF (pe_var (i := 0) rfl (.inl rfl)) rfl rfl) (ev_str s_1) (nomark _)) (sv_ret (g := fun d => d) (ev_mk0 C.m_Less) (fun d => ⟨rfl, rfl⟩)) (sv_ifS (et_cmp (op_eqD hr.units) od_eq (ev_varF (pe_var (i := 0) rfl (.inl rfl)) rfl rfl) (ev_str s_2) (nomark _)) (sv_ret (g := fun d => d) (ev_mk0 C.m_Times) (fun d => ⟨rfl, rfl⟩)) (sv_ifS (et_cmp (op_eqD hr.units) od_eq (ev_varF (pe_var (i := 0) rfl (.inl rfl)) rfl rfl) (ev_str s_3) (nomark _)) (sv_ret (g := fun d => d) (ev_mk0 C.m_Least) (fun d => ⟨rfl, rfl⟩)) (sv_ifS (et_cmp (op_eqD hr.units) od_eq (ev_varF (pe_var (i := 0) rfl (.inl rfl)) rfl rfl) (ev_str s_4) (nomark _)) (sv_ret (g := fun d => d) (ev_mk0 C.m_Most) (fun d => ⟨rfl, rfl⟩)) (sv_ifS (et_cmp (op_eqD hr.units) od_eq (ev_varF (pe_var (i := 0) rfl (.inl rfl)) rfl rfl) (ev_str s_5) (nomark _)) (sv_ret (g := fun d => d) (ev_mk0 C.m_Pick) (fun d => ⟨rfl, rfl⟩)) (sv_ifS (et_cmp (op_eqD hr.units) od_eq (ev_varF (pe_var (i := 0) rfl (.inl rfl)) rfl rfl) (ev_str s_6) (nomark _)) (sv_ret (g := fun d => d) (ev_mk0 C.m_Same) (fun d => ⟨rfl, rfl⟩)) (sv_ifS (et_cmp (op_eqD hr.units) od_eq (ev_varF (pe_var (i := 0) rfl (.inl rfl)) rfl rfl) (ev_str s_7) (nomark _)) (sv_ret (g := fun d => d) (ev_mk0 C.m_Tell) (fun d => ⟨rfl, rfl⟩)) (sv_ifS (et_cmp (op_eqD hr.units) od_eq (ev_varF (pe_var (i := 0) rfl (.inl rfl)) rfl rfl) (ev_str s_8) (nomark _)) (sv_ret (g := fun d => d) (ev_mk0 C.m_Take) (fun d => ⟨rfl, rfl⟩)) (sv_raise C.x_NoDeed (takes_of rfl rfl rfl rfl)))))))))))
def tab_of : List (Str × (List D → R D)) := [("Sum", f_Deed_of), ("Less", f_Deed_of), ("Times", f_Deed_of), ("Least", f_Deed_of), ("Most", f_Deed_of), ("Pick", f_Deed_of), ("Same", f_Deed_of), ("Tell", f_Deed_of), ("Take", f_Deed_of)]
theorem tab_of_ok (C : Ctx K mg) : ∀ t ∈ tab_of, FM P w K mg base 2 t.1 "of" t.2 [.F, .F, .F] .F := by
  intro t h
  unfold tab_of at h
  rcases List.mem_cons.mp h with e | h
  · subst e; exact (fm_Sum_of C).mono (by decide)
  rcases List.mem_cons.mp h with e | h
  · subst e; exact (fm_Less_of C).mono (by decide)
  rcases List.mem_cons.mp h with e | h
  · subst e; exact (fm_Times_of C).mono (by decide)
  rcases List.mem_cons.mp h with e | h
  · subst e; exact (fm_Least_of C).mono (by decide)
  rcases List.mem_cons.mp h with e | h
  · subst e; exact (fm_Most_of C).mono (by decide)
  rcases List.mem_cons.mp h with e | h
  · subst e; exact (fm_Pick_of C).mono (by decide)
  rcases List.mem_cons.mp h with e | h
  · subst e; exact (fm_Same_of C).mono (by decide)
  rcases List.mem_cons.mp h with e | h
  · subst e; exact (fm_Tell_of C).mono (by decide)
  rcases List.mem_cons.mp h with e | h
  · subst e; exact (fm_Take_of C).mono (by decide)
  cases h
def b_is_number (a0 : D) : R D := (R.bind (.ok a0) (pIsTy "int"))
def f_is_number : List D → R D
  | [a0] => b_is_number a0
  | _ => .bad
theorem sc_is_number : FnScope ["read"] ["read"] (defScope (top 35)) := ⟨rfl, rfl, rfl, by decide +kernel, rfl, by decide +kernel, by decide +kernel⟩
theorem fd_is_number (C : Ctx K mg) : FD P w K mg base 1 "is_number" f_is_number [.F] .F := by
  obtain ⟨fa, fd, g, F⟩ := C.d_is_number
  refine ⟨fa, fd, ["read"], g, F.kp, F.bindsN (fun _ _ _ _ _ _ us hl => match us, hl with | [_], _ => rfl), fd_ok F sc_is_number rfl (by decide) fun cdv A outer s H E G ds hr hl => ?_⟩
  exact match ds, hl with
  | [a0], _ =>
    show SV _ _ _ _ [.F] [a0] _ _ (b_is_number a0) from (sv_retD (ev_isTy (T := "int") (ev_varF (pe_var (i := 0) rfl (.inl rfl)) rfl rfl) C.f_isinstance C.f_int (by decide +kernel)))
def l_Floor_numbers_1 (a0 : D) (p3 : D) (t2 : D) : R (D) := (R.bind (R.bind (R.bind (R.cons (.ok p3) (.ok [])) f_is_number) toB) fun b => if b = true then (R.bind (toL t2) fun xs => R.bind (.ok p3) fun d => R.bind (appL xs d) fun x4 => (.ok x4)) else (R.bind (toL t2) fun xs => R.bind (R.bind (R.bin2 (R.bind (.ok a0) (pFld "Floor" "boxes")) (R.bin2 (.ok p3) (.ok (.int 1)) pIx) pIx) scal) fun d => R.bind (appL xs d) fun x5 => (.ok x5)))
def b_Floor_numbers (a0 a1 a2 : D) : R D := (R.bind (R.bind (R.bin2 (R.bin2 (.ok a1) (.ok (.int 0)) pIx) (.ok (.str "take")) pEq) toB) fun b => if b = true then (R.bind (R.bind (R.cons (R.bind (R.bin2 (R.bin2 (R.bind (.ok a0) (pFld "Floor" "feeds")) (R.bin2 (.ok a1) (.ok (.int 4)) pIx) pDget) (.ok a2) pIx) scal) (.ok [])) mkL) fun d => .ok d) else (R.bind (R.bind (.ok []) mkL) fun x1 => (R.bind (R.bind (R.bin2 (.ok a1) (.ok (.int 3)) pIx) toSeq) fun xs => R.bind (rFor xs x1 ((l_Floor_numbers_1 a0))) fun t2 => (.ok t2))))
def f_Floor_numbers : List D → R D
  | [a0, a1, a2] => b_Floor_numbers a0 a1 a2
  | _ => .bad
theorem sc_Floor_numbers : FnScope ["self", "step", "turn", "found", "read"] ["self", "step", "turn"] (defScope (inCls (top 40) 2)) := ⟨rfl, rfl, rfl, by decide +kernel, rfl, by decide +kernel, by decide +kernel⟩
theorem fn_Floor_numbers {fa : Addr} {fd : FuncData} (C : Ctx K mg) (F : FunD K "numbers" "Floor.numbers" (defArgs (inCls (top 40) 2)) (defBody (inCls (top 40) 2)) (defScope (inCls (top 40) 2)) [] [] fa fd) : Binds K fd ["self", "step", "turn"] [] ∧ FnOk P w K mg base (L2.CX P w) 2 fa fd ["self", "step", "turn"] (spF K mg f_Floor_numbers [.B, .F, .F] .F) := by
  refine ⟨F.bindsN (fun _ _ _ _ _ _ us hl => match us, hl with | [_, _, _], _ => rfl), fd_ok F sc_Floor_numbers rfl (by decide) fun cdv A outer s H E G ds hr hl => ?_⟩
  exact match ds, hl with
  | [a0, a1, a2], _ =>
    show SV _ _ _ _ [.B, .F, .F, .N, .N] [a0, a1, a2, .non, .non] _ _ (b_Floor_numbers a0 a1 a2) from (sv_ifS (et_cmp (op_eqD hr.units) od_eq (ev_ix (ev_varF (pe_var (i := 1) rfl (.inl rfl)) rfl rfl) ev_int) (ev_str s_8) (nomark _)) (sv_ret (g := fun d => d) (EV.frz (ev_lst (ea_F (EV.sc (ev_ix (ev_dix (u65 hr) (ev_fldB C.fl_Floor_feeds (ev_varB (pe_var (i := 0) rfl (.inl rfl)) rfl rfl)) (ev_ix (ev_varF (pe_var (i := 1) rfl (.inl rfl)) rfl rfl) ev_int)) (ev_varF (pe_var (i := 2) rfl (.inl rfl)) rfl rfl))) ea_nil)) rfl) (fun d => ⟨rfl, rfl⟩)) (sv_set (i := 3) (ev_lst ea_nil) (fun x1 => (sv_at (κ2 := [.B, .F, .F, (.L .F), .N]) (en2 := [a0, a1, a2, x1, .non]) (sv_for1 (i := 4) [.B, .F, .F, (.L .F), .N] (fun (t2 : D) => [a0, a1, a2, t2, .non]) x1 (ei_seq (ev_ix (ev_varF (pe_var (i := 1) rfl (.inl rfl)) rfl rfl) ev_int)) (tg_name sc_Floor_numbers.nd) ⟨.inr ⟨rfl, rfl⟩, .inr ⟨rfl, rfl⟩, .inr ⟨rfl, rfl⟩, .inr ⟨rfl, rfl⟩, .inl rfl, trivial⟩ (fun _ p3 t2 => (sv_ifE (et_val (ev_call (fd_is_number C) (hr.mono (by decide)) (takes_of rfl rfl rfl rfl) (ea_F (ev_varF (pe_var (i := 4) rfl (.inl rfl)) rfl rfl) ea_nil))) (sv_app (pe_var (i := 3) rfl (.inl rfl)) (ev_varF (pe_var (i := 4) rfl (.inl rfl)) rfl rfl) (fun x4 => (sv_at (κ2 := [.B, .F, .F, (.L .F), .F]) (en2 := [a0, a1, a2, x4, p3]) (sv_nil ⟨.inr ⟨rfl, rfl⟩, .inr ⟨rfl, rfl⟩, .inr ⟨rfl, rfl⟩, .inr ⟨rfl, rfl⟩, .inl rfl, trivial⟩)))) (sv_app (pe_var (i := 3) rfl (.inl rfl)) (EV.sc (ev_ix (ev_fldB C.fl_Floor_boxes (ev_varB (pe_var (i := 0) rfl (.inl rfl)) rfl rfl)) (ev_ix (ev_varF (pe_var (i := 4) rfl (.inl rfl)) rfl rfl) ev_int))) (fun x5 => (sv_at (κ2 := [.B, .F, .F, (.L .F), .F]) (en2 := [a0, a1, a2, x5, p3]) (sv_nil ⟨.inr ⟨rfl, rfl⟩, .inr ⟨rfl, rfl⟩, .inr ⟨rfl, rfl⟩, .inr ⟨rfl, rfl⟩, .inl rfl, trivial⟩)))))) (fun t2 => (sv_freeze (i := 3) (q := (.L .F)) rfl (sv_retD (ev_varF (pe_var (i := 3) rfl (.inl rfl)) rfl rfl)))) (passes_of rfl)))) sc_Floor_numbers.nd))
theorem fm_Floor_numbers (C : Ctx K mg) : FM P w K mg base 2 "Floor" "numbers" f_Floor_numbers [.B, .F, .F] .F := by
  obtain ⟨cl, fa, fd, g, hc, hm, F⟩ := C.e_Floor_numbers
  have z := fn_Floor_numbers (P := P) (w := w) (base := base) C F
  exact ⟨cl, fa, fd, _, g, hc, hm, z.1, z.2⟩
def b_Floor_begin (a0 a1 a2 : D) : R D := (R.bind (R.bind (R.bind (R.cons (R.bin2 (.ok a1) (.ok (.int 0)) pIx) (.ok [])) f_deed_of) fun d => R.bind (dsp tab_of "of" d) fun f => R.bind (R.cons (R.bind (R.bind (.ok a0) (asObj "Floor" "numbers")) fun d => R.bind (R.cons (.ok a1) (R.cons (.ok a2) (.ok []))) fun ds => f_Floor_numbers (d :: ds)) (R.cons (fldJ "Floor" "measure" 0 a0) (.ok []))) fun ds => f (d :: ds)) fun x1 => (R.bind (fldJ "Floor" "due" 3 a0) fun x => R.bind (toDct x) fun kx => R.bind (R.bin2 (fldJ "Floor" "clock" 4 a0) (R.bin2 (.ok a1) (.ok (.int 1)) pIx) pAdd) fun jj => R.bind (pSetd kx jj) fun y => R.bind (plDx y jj) fun n => R.bind (itemL y n) fun xs => R.bind (.ok (setJ 3 y a0)) fun x2 => R.bind (R.bind (R.cons (R.bin2 (.ok a1) (.ok (.int 2)) pIx) (R.cons (.ok x1) (.ok []))) mkT) fun d => R.bind (appL xs d) fun z => R.bind (.ok (setJ 3 (setIt y n z) a0)) fun x3 => (R.bind (R.bind (R.bin2 (R.bin2 (.ok a1) (.ok (.int 0)) pIx) (.ok (.str "tell")) pEq) toB) fun b => if b = true then (R.bind (fldJ "Floor" "told" 5 x3) fun x => R.bind (toL x) fun xs => R.bind (R.bind (R.cons (R.bin2 (.ok a1) (.ok (.int 4)) pIx) (R.cons (.ok a2) (R.cons (.ok x1) (.ok [])))) mkT) fun d => R.bind (appL xs d) fun y => R.bind (.ok (setJ 5 y x3)) fun x4 => (.ok (.tup [.non, x4]))) else (.ok (.tup [.non, x3])))))
def f_Floor_begin : List D → R D
  | [a0, a1, a2] => b_Floor_begin a0 a1 a2
  | _ => .bad
theorem sc_Floor_begin : FnScope ["self", "step", "turn", "number"] ["self", "step", "turn"] (defScope (inCls (top 40) 3)) := ⟨rfl, rfl, rfl, by decide +kernel, rfl, by decide +kernel, by decide +kernel⟩
theorem fmw_Floor_begin (C : Ctx K mg) : FmW P w K mg base [.F, .F, .L, .LL, .F, .L] 3 "Floor" "begin" f_Floor_begin 3 := by
  obtain ⟨cl, fa, fd, g, hc, hm, F⟩ := C.e_Floor_begin
  refine ⟨cl, fa, fd, ["self", "step", "turn"], g, hc, hm, F.bindsN (fun _ _ _ _ _ _ us hl => match us, hl with | [_, _, _], _ => rfl), fw_ok (m := 1) F sc_Floor_begin rfl rfl fun cdv A outer s H B E G ds sp hr hl => ?_⟩
  exact match ds, hl with
  | [a0, a1, a2], _ =>
    show SV _ _ _ _ [(.U (OMu sp [.F, .F, .L, .LL, .F, .L])), .F, .F, .N] [a0, a1, a2, .non] _ _ (b_Floor_begin a0 a1 a2) from (sv_set (i := 3) (ev_methT (T := tab_of) (tab_of_ok C) (by unfold tab_of; intro z; cases z) (hr.mono (by decide)) (takes_of rfl rfl rfl rfl) (ev_call (fd_deed_of C) (hr.mono (by decide)) (takes_of rfl rfl rfl rfl) (ea_F (ev_ix (ev_varF (pe_var (i := 1) rfl (.inl rfl)) rfl rfl) ev_int) ea_nil)) (ea_F (ev_meth (fm_Floor_numbers C) (hr.mono (by decide)) (takes_of rfl rfl rfl rfl) (ev_varP (pe_var (i := 0) rfl (.inl rfl)) rfl rfl) (ea_F (ev_varF (pe_var (i := 1) rfl (.inl rfl)) rfl rfl) (ea_F (ev_varF (pe_var (i := 2) rfl (.inl rfl)) rfl rfl) ea_nil)) (.inl rfl)) (ea_F (ev_fldOF (i := 0) (j := 0) (p := sp) (fk := [.F, .F, .L, .LL, .F, .L]) C.fl_Floor_measure (pe_var (i := 0) rfl (.inl rfl)) rfl rfl rfl) ea_nil)) (.inr ⟨rfl, rfl⟩)) (fun x1 => (sv_at (κ2 := [(.U (OMu sp [.F, .F, .L, .LL, .F, .L])), .F, .F, .F]) (en2 := [a0, a1, a2, x1]) (sv_sdO (i := 0) (j := 3) (p := sp) (fk := [.F, .F, .L, .LL, .F, .L]) C.fl_Floor_due (pe_var (i := 0) rfl (.inl rfl)) (ev_bin op_addD od_add (ev_fldOF (i := 0) (j := 4) (p := sp) (fk := [.F, .F, .L, .LL, .F, .L]) C.fl_Floor_clock (pe_var (i := 0) rfl (.inl rfl)) rfl rfl rfl) (ev_ix (ev_varF (pe_var (i := 1) rfl (.inl rfl)) rfl rfl) ev_int)) (fun x2 => (ev_tup (ea_F (ev_ix (ev_varF (pe_var (i := 1) rfl (.inl rfl)) rfl rfl) ev_int) (ea_F (ev_varF (pe_var (i := 3) rfl (.inl rfl)) rfl rfl) ea_nil)))) (fun x3 => (sv_at (κ2 := [(.U (OMu sp [.F, .F, .L, .LL, .F, .L])), .F, .F, .F]) (en2 := [x3, a1, a2, x1]) (sv_ifE (et_cmp (op_eqD hr.units) od_eq (ev_ix (ev_varF (pe_var (i := 1) rfl (.inl rfl)) rfl rfl) ev_int) (ev_str s_7) (nomark _)) (sv_appO (i := 0) (j := 5) (p := sp) (fk := [.F, .F, .L, .LL, .F, .L]) C.fl_Floor_told (pe_var (i := 0) rfl (.inl rfl)) (ev_tup (ea_F (ev_ix (ev_varF (pe_var (i := 1) rfl (.inl rfl)) rfl rfl) ev_int) (ea_F (ev_varF (pe_var (i := 2) rfl (.inl rfl)) rfl rfl) (ea_F (ev_varF (pe_var (i := 3) rfl (.inl rfl)) rfl rfl) ea_nil)))) (fun x4 => (sv_at (κ2 := [(.U (OMu sp [.F, .F, .L, .LL, .F, .L])), .F, .F, .F]) (en2 := [x4, a1, a2, x1]) (sv_nil ⟨rfl, _, rfl, rfl⟩)))) (sv_nil ⟨rfl, _, rfl, rfl⟩))))))) sc_Floor_begin.nd)
def l_Floor_go_1 (a2 : D) (p5 : D) (t4 : D) : R (D) := (R.bind (asObj "Floor" "begin" t4) fun _ => R.bind (R.cons (.ok p5) (R.cons (R.bin2 (.ok a2) (R.bin2 (.ok p5) (.ok (.int 5)) pIx) pAdd) (.ok []))) fun ds => R.bind (pW f_Floor_begin 3 (t4 :: ds)) fun p6 => (.ok p6.2))
def l_Floor_go_2 (a2 : D) (p2 : D) (t1 : D) : R (D) := (R.bind (asObj "Floor" "land" t1) fun _ => R.bind (pW f_Floor_land 1 [t1]) fun p3 => (R.bind (R.bind (.ok p2) toSeq) fun xs => R.bind (rFor xs p3.2 ((l_Floor_go_1 a2))) fun t4 => (R.bind (fldJ "Floor" "clock" 4 t4) fun x => R.bind (.ok (.int 1)) fun y => R.bind (pAdd x y) fun z => R.bind (.ok (setJ 4 z t4)) fun x7 => (.ok x7))))
def b_Floor_go (a0 a1 a2 : D) : R D := (R.bind (R.bind (.ok a1) toSeq) fun xs => R.bind (rFor xs a0 ((l_Floor_go_2 a2))) fun t1 => (.ok (.tup [.non, t1])))
def f_Floor_go : List D → R D
  | [a0, a1, a2] => b_Floor_go a0 a1 a2
  | _ => .bad
theorem sc_Floor_go : FnScope ["self", "part", "base", "steps", "step"] ["self", "part", "base"] (defScope (inCls (top 40) 4)) := ⟨rfl, rfl, rfl, by decide +kernel, rfl, by decide +kernel, by decide +kernel⟩
theorem fmw_Floor_go (C : Ctx K mg) : FmW P w K mg base [.F, .F, .L, .LL, .F, .L] 4 "Floor" "go" f_Floor_go 3 := by
  obtain ⟨cl, fa, fd, g, hc, hm, F⟩ := C.e_Floor_go
  refine ⟨cl, fa, fd, ["self", "part", "base"], g, hc, hm, F.bindsN (fun _ _ _ _ _ _ us hl => match us, hl with | [_, _, _], _ => rfl), fw_ok (m := 2) F sc_Floor_go rfl rfl fun cdv A outer s H B E G ds sp hr hl => ?_⟩
  exact match ds, hl with
  | [a0, a1, a2], _ =>
    show SV _ _ _ _ [(.U (OMu sp [.F, .F, .L, .LL, .F, .L])), .F, .F, .N, .N] [a0, a1, a2, .non, .non] _ _ (b_Floor_go a0 a1 a2) from (sv_for1 (i := 3) [(.U (OMu sp [.F, .F, .L, .LL, .F, .L])), .F, .F, .N, .N] (fun (t1 : D) => [t1, a1, a2, .non, .non]) a0 (ei_seq (ev_varF (pe_var (i := 1) rfl (.inl rfl)) rfl rfl)) (tg_name sc_Floor_go.nd) ⟨.inr ⟨rfl, rfl⟩, .inr ⟨rfl, rfl⟩, .inr ⟨rfl, rfl⟩, .inl rfl, .inl rfl, trivial⟩ (fun _ p2 t1 => (sv_methW0 (fmw_Floor_land C) (hr.mono (by decide)) (takes_of rfl rfl rfl rfl) (pe_var (i := 0) rfl (.inl rfl)) (fun p3 => (sv_at (κ2 := [(.U (OMu sp [.F, .F, .L, .LL, .F, .L])), .F, .F, .F, .N]) (en2 := [p3.2, a1, a2, p2, .non]) (sv_for1 (i := 4) [(.U (OMu sp [.F, .F, .L, .LL, .F, .L])), .F, .F, .F, .N] (fun (t4 : D) => [t4, a1, a2, p2, .non]) p3.2 (ei_seq (ev_varF (pe_var (i := 3) rfl (.inl rfl)) rfl rfl)) (tg_name sc_Floor_go.nd) ⟨.inr ⟨rfl, rfl⟩, .inr ⟨rfl, rfl⟩, .inr ⟨rfl, rfl⟩, .inr ⟨rfl, rfl⟩, .inl rfl, trivial⟩ (fun _ p5 t4 => (sv_methW (fmw_Floor_begin C) (hr.mono (by decide)) (takes_of rfl rfl rfl rfl) (pe_var (i := 0) rfl (.inl rfl)) (ea_F (ev_varF (pe_var (i := 4) rfl (.inl rfl)) rfl rfl) (ea_F (ev_bin op_addD od_add (ev_varF (pe_var (i := 2) rfl (.inl rfl)) rfl rfl) (ev_ix (ev_varF (pe_var (i := 4) rfl (.inl rfl)) rfl rfl) ev_int)) ea_nil)) (fun p6 => (sv_at (κ2 := [(.U (OMu sp [.F, .F, .L, .LL, .F, .L])), .F, .F, .F, .F]) (en2 := [p6.2, a1, a2, p2, p5]) (sv_nil ⟨.inr ⟨rfl, rfl⟩, .inr ⟨rfl, rfl⟩, .inr ⟨rfl, rfl⟩, .inr ⟨rfl, rfl⟩, .inl rfl, trivial⟩))) (.inl ⟨sp, rfl⟩))) (fun t4 => (sv_augO (i := 0) (j := 4) (p := sp) (fk := [.F, .F, .L, .LL, .F, .L]) io_add od_add C.fl_Floor_clock (pe_var (i := 0) rfl (.inl rfl)) ev_int (fun x7 => (sv_at (κ2 := [(.U (OMu sp [.F, .F, .L, .LL, .F, .L])), .F, .F, .F, .N]) (en2 := [x7, a1, a2, p2, .non]) (sv_nil ⟨.inr ⟨rfl, rfl⟩, .inr ⟨rfl, rfl⟩, .inr ⟨rfl, rfl⟩, .inl rfl, .inl rfl, trivial⟩))))) (passes_of rfl)))) (.inl ⟨sp, rfl⟩))) (fun t1 => (sv_nil ⟨rfl, _, rfl, rfl⟩)) (passes_of rfl))
def l_Floor_finish_1 (t1 : D) : R (D) := (R.bind (asObj "Floor" "land" t1) fun _ => R.bind (pW f_Floor_land 1 [t1]) fun p2 => (R.bind (fldJ "Floor" "clock" 4 p2.2) fun x => R.bind (.ok (.int 1)) fun y => R.bind (pAdd x y) fun z => R.bind (.ok (setJ 4 z p2.2)) fun x3 => (.ok x3)))
def b_Floor_finish (a0 : D) : R D := (R.bind (rWh 100000 a0 (fun t1 => (R.bind (R.bin2 (R.bind (R.cons (fldJ "Floor" "due" 3 t1) (.ok [])) pLenD) (.ok (.int 0)) pGt) toB)) l_Floor_finish_1) fun t1 => (.ok (.tup [.non, t1])))
def f_Floor_finish : List D → R D
  | [a0] => b_Floor_finish a0
  | _ => .bad
theorem sc_Floor_finish : FnScope ["self"] ["self"] (defScope (inCls (top 40) 5)) := ⟨rfl, rfl, rfl, by decide +kernel, rfl, by decide +kernel, by decide +kernel⟩
theorem fmw_Floor_finish (C : Ctx K mg) : FmW P w K mg base [.F, .F, .L, .LL, .F, .L] 2 "Floor" "finish" f_Floor_finish 1 := by
  obtain ⟨cl, fa, fd, g, hc, hm, F⟩ := C.e_Floor_finish
  refine ⟨cl, fa, fd, ["self"], g, hc, hm, F.bindsN (fun _ _ _ _ _ _ us hl => match us, hl with | [_], _ => rfl), fw_ok (m := 0) F sc_Floor_finish rfl rfl fun cdv A outer s H B E G ds sp hr hl => ?_⟩
  exact match ds, hl with
  | [a0], _ =>
    show SV _ _ _ _ [(.U (OMu sp [.F, .F, .L, .LL, .F, .L]))] [a0] _ _ (b_Floor_finish a0) from (sv_wh 100000 [(.U (OMu sp [.F, .F, .L, .LL, .F, .L]))] (fun (t1 : D) => [t1]) a0 ⟨.inr ⟨rfl, rfl⟩, trivial⟩ (fun _ t1 => (et_cmp op_gt od_gt (ev_callB cr_lenD bf_lenD (ea_P (ev_fldOP (i := 0) (j := 3) (p := sp) (fk := [.F, .F, .L, .LL, .F, .L]) C.fl_Floor_due (pe_var (i := 0) rfl (.inl rfl)) rfl rfl rfl) ea_nil) C.f_len (by decide +kernel)) ev_int (nomark _))) (fun _ t1 => (sv_methW0 (fmw_Floor_land C) (hr.mono (by decide)) (takes_of rfl rfl rfl rfl) (pe_var (i := 0) rfl (.inl rfl)) (fun p2 => (sv_at (κ2 := [(.U (OMu sp [.F, .F, .L, .LL, .F, .L]))]) (en2 := [p2.2]) (sv_augO (i := 0) (j := 4) (p := sp) (fk := [.F, .F, .L, .LL, .F, .L]) io_add od_add C.fl_Floor_clock (pe_var (i := 0) rfl (.inl rfl)) ev_int (fun x3 => (sv_at (κ2 := [(.U (OMu sp [.F, .F, .L, .LL, .F, .L]))]) (en2 := [x3]) (sv_nil ⟨.inr ⟨rfl, rfl⟩, trivial⟩)))))) (.inl ⟨sp, rfl⟩))) (fun t1 => (sv_nil ⟨rfl, _, rfl, rfl⟩)) (passes_of rfl))
def l_run_1 (a1 : D) (p8 : D) (t7 : D) : R (D) := (R.bind (asObj "Floor" "go" t7) fun _ => R.bind (R.cons (R.bind (.ok a1) (pFld "Sheet" "middle")) (R.cons (R.bin2 (R.bind (.ok a1) (pFld "Sheet" "held")) (.ok p8) pMul) (.ok []))) fun ds => R.bind (pW f_Floor_go 3 (t7 :: ds)) fun p9 => (.ok p9.2))
def b_run (a0 a1 a2 a3 a4 : D) : R D := (R.bind (orT (R.bind (R.bin2 (.ok a2) (.ok (.int 0)) pLt) toB) (R.bind (R.bin2 (.ok a2) (.ok (.int 300)) pGt) toB)) fun b => if b = true then (.exc ⟨"BadTurns", [], []⟩) else (R.bind (R.bind (R.cons (.ok a0) (R.cons (.ok a3) (R.cons (.ok a4) (.ok [])))) f_Floor___init__) fun x1 => (R.bind (R.bin2 (R.bin2 (.ok a2) (R.bind (.ok a1) (pFld "Sheet" "stages")) pSub) (.ok (.int 1)) pAdd) fun x2 => (R.bind (R.bind (R.bind (R.bin2 (.ok x2) (.ok (.int 0)) pLt) toB) fun b => if b = true then (R.bind (asObj "Floor" "go" x1) fun _ => R.bind (R.cons (R.bin2 (R.bind (.ok a1) (pFld "Sheet" "shorts")) (.ok a2) pIx) (R.cons (.ok (.int 0)) (.ok []))) fun ds => R.bind (pW f_Floor_go 3 (x1 :: ds)) fun p4 => (.ok p4.2)) else (R.bind (asObj "Floor" "go" x1) fun _ => R.bind (R.cons (R.bind (.ok a1) (pFld "Sheet" "ahead")) (R.cons (.ok (.int 0)) (.ok []))) fun ds => R.bind (pW f_Floor_go 3 (x1 :: ds)) fun p5 => (R.bind (R.bind (R.cons (.ok x2) (R.cons (R.bind (.ok a1) (pFld "Sheet" "held")) (.ok []))) pDivmod) fun d => R.bind (un2 d) fun p6 => (R.bind (R.bind (.ok p6.1) pRange1) fun xs => R.bind (rFor xs p5.2 ((l_run_1 a1))) fun t7 => (R.bind (asObj "Floor" "go" t7) fun _ => R.bind (R.cons (R.bin2 (R.bind (.ok a1) (pFld "Sheet" "tails")) (.ok p6.2) pIx) (R.cons (R.bin2 (R.bind (.ok a1) (pFld "Sheet" "held")) (.ok p6.1) pMul) (.ok []))) fun ds => R.bind (pW f_Floor_go 3 (t7 :: ds)) fun p10 => (.ok p10.2)))))) fun t3 => (R.bind (asObj "Floor" "finish" t3) fun _ => R.bind (pW f_Floor_finish 1 [t3]) fun p11 => (R.bind (R.cons (R.bind (.ok p11.2) (pFld "Floor" "told")) (R.cons (R.bind (.ok p11.2) (pFld "Floor" "boxes")) (.ok []))) mkT))))))
def f_run : List D → R D
  | [a0, a1, a2, a3, a4] => b_run a0 a1 a2 a3 a4
  | _ => .bad
theorem sc_run : FnScope ["measure", "sheet", "turns", "feeds", "boxes", "floor", "over", "often", "rest", "x"] ["measure", "sheet", "turns", "feeds", "boxes"] (defScope (top 41)) := ⟨rfl, rfl, rfl, by decide +kernel, rfl, by decide +kernel, by decide +kernel⟩
theorem fd_run (C : Ctx K mg) : FD P w K mg base 5 "run" f_run [.F, .F, .F, .F, .F] .F := by
  obtain ⟨fa, fd, g, F⟩ := C.d_run
  refine ⟨fa, fd, ["measure", "sheet", "turns", "feeds", "boxes"], g, F.kp, F.bindsN (fun _ _ _ _ _ _ us hl => match us, hl with | [_, _, _, _, _], _ => rfl), fd_ok F sc_run rfl (by decide) fun cdv A outer s H E G ds hr hl => ?_⟩
  exact match ds, hl with
  | [a0, a1, a2, a3, a4], _ =>
    show SV _ _ _ _ [.F, .F, .F, .F, .F, .N, .N, .N, .N, .N] [a0, a1, a2, a3, a4, .non, .non, .non, .non, .non] _ _ (b_run a0 a1 a2 a3 a4) from (sv_ifS (et_w (ew_or (et_cmp op_lt od_lt (ev_varF (pe_var (i := 2) rfl (.inl rfl)) rfl rfl) ev_int (nomark _)) (ew_or1 (et_cmp op_gt od_gt (ev_varF (pe_var (i := 2) rfl (.inl rfl)) rfl rfl) (ev_globI rfl C.g_MOST_TURNS) (nomark _))))) (sv_raise C.x_BadTurns (takes_of rfl rfl rfl rfl)) (sv_set (i := 5) (ev_makeO (mi_Floor C) (hr.mono (by decide)) (takes_of rfl rfl rfl rfl) (ea_F (ev_varF (pe_var (i := 0) rfl (.inl rfl)) rfl rfl) (ea_F (ev_varF (pe_var (i := 3) rfl (.inl rfl)) rfl rfl) (ea_F (ev_varF (pe_var (i := 4) rfl (.inl rfl)) rfl rfl) ea_nil)))) (fun x1 => (sv_at (κ2 := [.F, .F, .F, .F, .F, (.U (OBu [.F, .F, .L, .LL, .F, .L])), .N, .N, .N, .N]) (en2 := [a0, a1, a2, a3, a4, x1, .non, .non, .non, .non]) (sv_set (i := 6) (ev_bin op_addD od_add (ev_bin op_sub od_sub (ev_varF (pe_var (i := 2) rfl (.inl rfl)) rfl rfl) (ev_fld C.fl_Sheet_stages (ev_varF (pe_var (i := 1) rfl (.inl rfl)) rfl rfl))) ev_int) (fun x2 => (sv_at (κ2 := [.F, .F, .F, .F, .F, (.U (OBu [.F, .F, .L, .LL, .F, .L])), .F, .N, .N, .N]) (en2 := [a0, a1, a2, a3, a4, x1, x2, .non, .non, .non]) (sv_ifJ [.F, .F, .F, .F, .F, (.U (OBu [.F, .F, .L, .LL, .F, .L])), .F, .N, .N, .N] (fun (t3 : D) => [a0, a1, a2, a3, a4, t3, x2, .non, .non, .non]) (et_cmp op_lt od_lt (ev_varF (pe_var (i := 6) rfl (.inl rfl)) rfl rfl) ev_int (nomark _)) (sv_methW (fmw_Floor_go C) (hr.mono (by decide)) (takes_of rfl rfl rfl rfl) (pe_var (i := 5) rfl (.inl rfl)) (ea_F (ev_ix (ev_fld C.fl_Sheet_shorts (ev_varF (pe_var (i := 1) rfl (.inl rfl)) rfl rfl)) (ev_varF (pe_var (i := 2) rfl (.inl rfl)) rfl rfl)) (ea_F ev_int ea_nil)) (fun p4 => (sv_at (κ2 := [.F, .F, .F, .F, .F, (.U (OBu [.F, .F, .L, .LL, .F, .L])), .F, .N, .N, .N]) (en2 := [a0, a1, a2, a3, a4, p4.2, x2, .non, .non, .non]) (sv_nil ⟨.inr ⟨rfl, rfl⟩, .inr ⟨rfl, rfl⟩, .inr ⟨rfl, rfl⟩, .inr ⟨rfl, rfl⟩, .inr ⟨rfl, rfl⟩, .inr ⟨rfl, rfl⟩, .inr ⟨rfl, rfl⟩, .inl rfl, .inl rfl, .inl rfl, trivial⟩))) (.inr rfl)) (sv_methW (fmw_Floor_go C) (hr.mono (by decide)) (takes_of rfl rfl rfl rfl) (pe_var (i := 5) rfl (.inl rfl)) (ea_F (ev_fld C.fl_Sheet_ahead (ev_varF (pe_var (i := 1) rfl (.inl rfl)) rfl rfl)) (ea_F ev_int ea_nil)) (fun p5 => (sv_at (κ2 := [.F, .F, .F, .F, .F, (.U (OBu [.F, .F, .L, .LL, .F, .L])), .F, .N, .N, .N]) (en2 := [a0, a1, a2, a3, a4, p5.2, x2, .non, .non, .non]) (sv_un (ev_callB call_divmodW bf_divmod (ea_P (ev_varF (pe_var (i := 6) rfl (.inl rfl)) rfl rfl) (ea_P (ev_fld C.fl_Sheet_held (ev_varF (pe_var (i := 1) rfl (.inl rfl)) rfl rfl)) ea_nil)) C.f_divmod (by decide +kernel)) (tg_tup (js := [7, 8]) (vs := fun p => [p.1, p.2]) (pg_tup rfl (pgs_cons (pg_name (i := 7) sc_run.nd rfl (.inl rfl) (.inl rfl)) (pgs_cons (pg_name (i := 8) sc_run.nd rfl (.inl rfl) (.inl rfl)) pgs_nil))) un2_ok un2_nx) (fun p6 => (sv_for1 (i := 9) [.F, .F, .F, .F, .F, (.U (OBu [.F, .F, .L, .LL, .F, .L])), .F, .F, .F, .N] (fun (t7 : D) => [a0, a1, a2, a3, a4, t7, x2, p6.1, p6.2, .non]) p5.2 (ei_range1 (ev_varF (pe_var (i := 7) rfl (.inl rfl)) rfl rfl) C.f_range) (tg_name sc_run.nd) ⟨.inr ⟨rfl, rfl⟩, .inr ⟨rfl, rfl⟩, .inr ⟨rfl, rfl⟩, .inr ⟨rfl, rfl⟩, .inr ⟨rfl, rfl⟩, .inr ⟨rfl, rfl⟩, .inr ⟨rfl, rfl⟩, .inr ⟨rfl, rfl⟩, .inr ⟨rfl, rfl⟩, .inl rfl, trivial⟩ (fun _ p8 t7 => (sv_methW (fmw_Floor_go C) (hr.mono (by decide)) (takes_of rfl rfl rfl rfl) (pe_var (i := 5) rfl (.inl rfl)) (ea_F (ev_fld C.fl_Sheet_middle (ev_varF (pe_var (i := 1) rfl (.inl rfl)) rfl rfl)) (ea_F (ev_bin op_mulD od_mul (ev_fld C.fl_Sheet_held (ev_varF (pe_var (i := 1) rfl (.inl rfl)) rfl rfl)) (ev_varF (pe_var (i := 9) rfl (.inl rfl)) rfl rfl)) ea_nil)) (fun p9 => (sv_at (κ2 := [.F, .F, .F, .F, .F, (.U (OBu [.F, .F, .L, .LL, .F, .L])), .F, .F, .F, .F]) (en2 := [a0, a1, a2, a3, a4, p9.2, x2, p6.1, p6.2, p8]) (sv_nil ⟨.inr ⟨rfl, rfl⟩, .inr ⟨rfl, rfl⟩, .inr ⟨rfl, rfl⟩, .inr ⟨rfl, rfl⟩, .inr ⟨rfl, rfl⟩, .inr ⟨rfl, rfl⟩, .inr ⟨rfl, rfl⟩, .inr ⟨rfl, rfl⟩, .inr ⟨rfl, rfl⟩, .inl rfl, trivial⟩))) (.inr rfl))) (fun t7 => (sv_methW (fmw_Floor_go C) (hr.mono (by decide)) (takes_of rfl rfl rfl rfl) (pe_var (i := 5) rfl (.inl rfl)) (ea_F (ev_ix (ev_fld C.fl_Sheet_tails (ev_varF (pe_var (i := 1) rfl (.inl rfl)) rfl rfl)) (ev_varF (pe_var (i := 8) rfl (.inl rfl)) rfl rfl)) (ea_F (ev_bin op_mulD od_mul (ev_fld C.fl_Sheet_held (ev_varF (pe_var (i := 1) rfl (.inl rfl)) rfl rfl)) (ev_varF (pe_var (i := 7) rfl (.inl rfl)) rfl rfl)) ea_nil)) (fun p10 => (sv_at (κ2 := [.F, .F, .F, .F, .F, (.U (OBu [.F, .F, .L, .LL, .F, .L])), .F, .F, .F, .N]) (en2 := [a0, a1, a2, a3, a4, p10.2, x2, p6.1, p6.2, .non]) (sv_nil ⟨.inr ⟨rfl, rfl⟩, .inr ⟨rfl, rfl⟩, .inr ⟨rfl, rfl⟩, .inr ⟨rfl, rfl⟩, .inr ⟨rfl, rfl⟩, .inr ⟨rfl, rfl⟩, .inr ⟨rfl, rfl⟩, .inl rfl, .inl rfl, .inl rfl, trivial⟩))) (.inr rfl))) (passes_of rfl)))))) (.inr rfl)) (fun t3 => (sv_methW0 (fmw_Floor_finish C) (hr.mono (by decide)) (takes_of rfl rfl rfl rfl) (pe_var (i := 5) rfl (.inl rfl)) (fun p11 => (sv_at (κ2 := [.F, .F, .F, .F, .F, (.U (OBu [.F, .F, .L, .LL, .F, .L])), .F, .N, .N, .N]) (en2 := [a0, a1, a2, a3, a4, p11.2, x2, .non, .non, .non]) (sv_freeze (i := 5) (q := (.U (OBu [.F, .F, .L, .LL, .F, .L]))) rfl (sv_retD (ev_tup (ea_F (ev_fld C.fl_Floor_told (ev_varF (pe_var (i := 5) rfl (.inl rfl)) rfl rfl)) (ea_F (ev_fld C.fl_Floor_boxes (ev_varF (pe_var (i := 5) rfl (.inl rfl)) rfl rfl)) ea_nil))))))) (.inr rfl)))))) sc_run.nd))) sc_run.nd))
def b_law_classes (a0 : D) : R D := (R.bind (R.bind (R.cons (R.bind (.ok a0) (pIsE isE_BadArms)) (R.cons (R.bind (.ok a0) (pIsE isE_BadBack)) (R.cons (R.bind (.ok a0) (pIsE isE_BadCount)) (.ok [])))) mkL) fun x1 => (R.bind (R.bin2 (.ok x1) (R.bind (R.cons (R.bind (.ok a0) (pIsE isE_BadDelay)) (R.cons (R.bind (.ok a0) (pIsE isE_BadHold)) (.ok []))) mkL) pCatL) fun x2 => (R.bind (R.bin2 (.ok x2) (R.bind (R.cons (R.bind (.ok a0) (pIsE isE_BadName)) (R.cons (R.bind (.ok a0) (pIsE isE_BadNumber)) (.ok []))) mkL) pCatL) fun x3 => (R.bind (R.bin2 (.ok x3) (R.bind (R.cons (R.bind (.ok a0) (pIsE isE_BadPlan)) (R.cons (R.bind (.ok a0) (pIsE isE_BadRows)) (R.cons (R.bind (.ok a0) (pIsE isE_BadText)) (.ok [])))) mkL) pCatL) fun x4 => (R.bind (R.bin2 (.ok x4) (R.bind (R.cons (R.bind (.ok a0) (pIsE isE_BadTurns)) (R.cons (R.bind (.ok a0) (pIsE isE_BadWidth)) (R.cons (R.bind (.ok a0) (pIsE isE_NoArm)) (.ok [])))) mkL) pCatL) fun x5 => (R.bind (R.bin2 (.ok x5) (R.bind (R.cons (R.bind (.ok a0) (pIsE isE_NoDeed)) (R.cons (R.bind (.ok a0) (pIsE isE_NoMeasure)) (R.cons (R.bind (.ok a0) (pIsE isE_NoRow)) (.ok [])))) mkL) pCatL) fun x6 => (R.bind (R.bin2 (.ok x6) (R.bind (R.cons (R.bind (.ok a0) (pIsE isE_Short)) (R.cons (R.bind (.ok a0) (pIsE isE_TooEarly)) (R.cons (R.bind (.ok a0) (pIsE isE_Twice)) (.ok [])))) mkL) pCatL) fun x7 => (R.bind (R.bin2 (.ok x7) (R.bind (R.cons (R.bind (.ok a0) (pIsE isE_Unfit)) (.ok [])) mkL) pCatL) fun x8 => (R.bind (orT (notT (R.bind (R.bind (.ok a0) (pIsE isE_LapError)) toB)) (notT (R.bind (R.bind (.ok a0) (pIsE isB_ValueError)) toB))) fun b => if b = true then (R.bind (R.bind (.ok (.int 1)) pNeg) fun d => .ok d) else (R.bind (R.bind (R.bin2 (R.bind (R.cons (pComp (R.bind (.ok x8) toSeq) (fun d => .ok d) (fun p9 => (.ok true)) (fun p9 => (R.bind (R.cons (.ok p9) (.ok [])) pInt))) (.ok [])) pSum) (.ok (.int 1)) pNe) toB) fun b => if b = true then (R.bind (R.bind (.ok (.int 1)) pNeg) fun d => .ok d) else (R.bin2 (R.bind (.ok x8) lsOnly) (.ok (.bl true)) pIndex)))))))))))
def f_law_classes : List D → R D
  | [a0] => b_law_classes a0
  | _ => .bad
theorem sc_law_classes : FnScope ["_law_kept", "_law_found", "_law_one"] ["_law_kept"] (defScope (top 53)) := ⟨rfl, rfl, rfl, by decide +kernel, rfl, by decide +kernel, by decide +kernel⟩
theorem fd_law_classes (C : Ctx K mg) : FD P w K mg base 1 "_law_classes" f_law_classes [.F] .F := by
  obtain ⟨fa, fd, g, F⟩ := C.d_law_classes
  refine ⟨fa, fd, ["_law_kept"], g, F.kp, F.bindsN (fun _ _ _ _ _ _ us hl => match us, hl with | [_], _ => rfl), fd_ok F sc_law_classes rfl (by decide) fun cdv A outer s H E G ds hr hl => ?_⟩
  exact match ds, hl with
  | [a0], _ =>
    show SV _ _ _ _ [.F, .N, .N] [a0, .non, .non] _ _ (b_law_classes a0) from (sv_set (i := 1) (EV.frz (ev_lst (ea_F (ev_isEO C.iE_BadArms (ev_varF (pe_var (i := 0) rfl (.inl rfl)) rfl rfl) C.f_isinstance) (ea_F (ev_isEO C.iE_BadBack (ev_varF (pe_var (i := 0) rfl (.inl rfl)) rfl rfl) C.f_isinstance) (ea_F (ev_isEO C.iE_BadCount (ev_varF (pe_var (i := 0) rfl (.inl rfl)) rfl rfl) C.f_isinstance) ea_nil)))) rfl) (fun x1 => (sv_at (κ2 := [.F, .F, .N]) (en2 := [a0, x1, .non]) (sv_set (i := 1) (EV.frz (ev_catL (ev_varF (pe_var (i := 1) rfl (.inl rfl)) rfl rfl) (EV.frz (ev_lst (ea_F (ev_isEO C.iE_BadDelay (ev_varF (pe_var (i := 0) rfl (.inl rfl)) rfl rfl) C.f_isinstance) (ea_F (ev_isEO C.iE_BadHold (ev_varF (pe_var (i := 0) rfl (.inl rfl)) rfl rfl) C.f_isinstance) ea_nil))) rfl)) rfl) (fun x2 => (sv_at (κ2 := [.F, .F, .N]) (en2 := [a0, x2, .non]) (sv_set (i := 1) (EV.frz (ev_catL (ev_varF (pe_var (i := 1) rfl (.inl rfl)) rfl rfl) (EV.frz (ev_lst (ea_F (ev_isEO C.iE_BadName (ev_varF (pe_var (i := 0) rfl (.inl rfl)) rfl rfl) C.f_isinstance) (ea_F (ev_isEO C.iE_BadNumber (ev_varF (pe_var (i := 0) rfl (.inl rfl)) rfl rfl) C.f_isinstance) ea_nil))) rfl)) rfl) (fun x3 => (sv_at (κ2 := [.F, .F, .N]) (en2 := [a0, x3, .non]) (sv_set (i := 1) (EV.frz (ev_catL (ev_varF (pe_var (i := 1) rfl (.inl rfl)) rfl rfl) (EV.frz (ev_lst (ea_F (ev_isEO C.iE_BadPlan (ev_varF (pe_var (i := 0) rfl (.inl rfl)) rfl rfl) C.f_isinstance) (ea_F (ev_isEO C.iE_BadRows (ev_varF (pe_var (i := 0) rfl (.inl rfl)) rfl rfl) C.f_isinstance) (ea_F (ev_isEO C.iE_BadText (ev_varF (pe_var (i := 0) rfl (.inl rfl)) rfl rfl) C.f_isinstance) ea_nil)))) rfl)) rfl) (fun x4 => (sv_at (κ2 := [.F, .F, .N]) (en2 := [a0, x4, .non]) (sv_set (i := 1) (EV.frz (ev_catL (ev_varF (pe_var (i := 1) rfl (.inl rfl)) rfl rfl) (EV.frz (ev_lst (ea_F (ev_isEO C.iE_BadTurns (ev_varF (pe_var (i := 0) rfl (.inl rfl)) rfl rfl) C.f_isinstance) (ea_F (ev_isEO C.iE_BadWidth (ev_varF (pe_var (i := 0) rfl (.inl rfl)) rfl rfl) C.f_isinstance) (ea_F (ev_isEO C.iE_NoArm (ev_varF (pe_var (i := 0) rfl (.inl rfl)) rfl rfl) C.f_isinstance) ea_nil)))) rfl)) rfl) (fun x5 => (sv_at (κ2 := [.F, .F, .N]) (en2 := [a0, x5, .non]) (sv_set (i := 1) (EV.frz (ev_catL (ev_varF (pe_var (i := 1) rfl (.inl rfl)) rfl rfl) (EV.frz (ev_lst (ea_F (ev_isEO C.iE_NoDeed (ev_varF (pe_var (i := 0) rfl (.inl rfl)) rfl rfl) C.f_isinstance) (ea_F (ev_isEO C.iE_NoMeasure (ev_varF (pe_var (i := 0) rfl (.inl rfl)) rfl rfl) C.f_isinstance) (ea_F (ev_isEO C.iE_NoRow (ev_varF (pe_var (i := 0) rfl (.inl rfl)) rfl rfl) C.f_isinstance) ea_nil)))) rfl)) rfl) (fun x6 => (sv_at (κ2 := [.F, .F, .N]) (en2 := [a0, x6, .non]) (sv_set (i := 1) (EV.frz (ev_catL (ev_varF (pe_var (i := 1) rfl (.inl rfl)) rfl rfl) (EV.frz (ev_lst (ea_F (ev_isEO C.iE_Short (ev_varF (pe_var (i := 0) rfl (.inl rfl)) rfl rfl) C.f_isinstance) (ea_F (ev_isEO C.iE_TooEarly (ev_varF (pe_var (i := 0) rfl (.inl rfl)) rfl rfl) C.f_isinstance) (ea_F (ev_isEO C.iE_Twice (ev_varF (pe_var (i := 0) rfl (.inl rfl)) rfl rfl) C.f_isinstance) ea_nil)))) rfl)) rfl) (fun x7 => (sv_at (κ2 := [.F, .F, .N]) (en2 := [a0, x7, .non]) (sv_set (i := 1) (EV.frz (ev_catL (ev_varF (pe_var (i := 1) rfl (.inl rfl)) rfl rfl) (EV.frz (ev_lst (ea_F (ev_isEO C.iE_Unfit (ev_varF (pe_var (i := 0) rfl (.inl rfl)) rfl rfl) C.f_isinstance) ea_nil)) rfl)) rfl) (fun x8 => (sv_at (κ2 := [.F, .F, .N]) (en2 := [a0, x8, .non]) (sv_ifS (et_w (ew_or (et_not (et_val (ev_isEO C.iE_LapError (ev_varF (pe_var (i := 0) rfl (.inl rfl)) rfl rfl) C.f_isinstance))) (ew_or1 (et_not (et_val (ev_isEB (ty := "ValueError") C.iB_ValueError (ev_varF (pe_var (i := 0) rfl (.inl rfl)) rfl rfl) C.f_isinstance C.f_ValueError (by decide +kernel))))))) (sv_ret (g := fun d => d) (ev_un un_neg ud_neg ev_int) (fun d => ⟨rfl, rfl⟩)) (sv_ifS (et_cmp (op_neD hr.units) od_ne (ev_callB (cr_sum rfl) bf_sum (ea_P (EV.frz (ev_comp rfl sc_law_classes.nd (ei_seq (ev_varF (pe_var (i := 1) rfl (.inl rfl)) rfl rfl)) (blkOk_by (own := [("_law_one", 2)]) rfl) (tgb_name (i := 2) (fun _ _ _ _ _ => pg_name sc_law_classes.nd rfl (.inl rfl) (.inr rfl))) (fun _ _ _ _ _ _ p9 => ets_nil) (fun _ _ _ _ _ _ p9 => (ev_callTy call_int1 bf_int (ea_P (ev_varF (pe_var (i := 2) rfl (.inl rfl)) rfl rfl) ea_nil) C.f_int (by decide +kernel)))) rfl) ea_nil) C.f_sum (by decide +kernel)) ev_int (nomark _)) (sv_ret (g := fun d => d) (ev_un un_neg ud_neg ev_int) (fun d => ⟨rfl, rfl⟩)) (sv_retD (ev_index (u65 hr) (ev_varF (pe_var (i := 1) rfl (.inl rfl)) rfl rfl) ev_bl)))))) sc_law_classes.nd))) sc_law_classes.nd))) sc_law_classes.nd))) sc_law_classes.nd))) sc_law_classes.nd))) sc_law_classes.nd))) sc_law_classes.nd))) sc_law_classes.nd)
def b_law_whole (a0 : D) : R D := (andV (R.bind (.ok a0) (pIsTy "int")) (R.bind (R.bind (.ok a0) (pIsTy "bool")) notV))
def f_law_whole : List D → R D
  | [a0] => b_law_whole a0
  | _ => .bad
theorem sc_law_whole : FnScope ["_law_found"] ["_law_found"] (defScope (top 44)) := ⟨rfl, rfl, rfl, by decide +kernel, rfl, by decide +kernel, by decide +kernel⟩
theorem fd_law_whole (C : Ctx K mg) : FD P w K mg base 1 "_law_whole" f_law_whole [.F] .F := by
  obtain ⟨fa, fd, g, F⟩ := C.d_law_whole
  refine ⟨fa, fd, ["_law_found"], g, F.kp, F.bindsN (fun _ _ _ _ _ _ us hl => match us, hl with | [_], _ => rfl), fd_ok F sc_law_whole rfl (by decide) fun cdv A outer s H E G ds hr hl => ?_⟩
  exact match ds, hl with
  | [a0], _ =>
    show SV _ _ _ _ [.F] [a0] _ _ (b_law_whole a0) from (sv_retD (ev_and (ev_isTy (T := "int") (ev_varF (pe_var (i := 0) rfl (.inl rfl)) rfl rfl) C.f_isinstance C.f_int (by decide +kernel)) (ev_one (ev_not (ev_isTy (T := "bool") (ev_varF (pe_var (i := 0) rfl (.inl rfl)) rfl rfl) C.f_isinstance C.f_bool (by decide +kernel))))))
def l_law_alike_1 (a0 : D) (a1 : D) (p2 : D) (t1 : Unit) : R (Lp (Unit) D) := (R.bind (orT (notT (R.bind (R.bind (R.cons (R.bin2 (.ok a0) (.ok p2) pIx) (.ok [])) f_law_whole) toB)) (R.bind (R.bin2 (R.bin2 (.ok a0) (.ok p2) pIx) (R.bin2 (.ok a1) (.ok p2) pIx) pNe) toB)) fun b => if b = true then (R.bind (.ok (.bl false)) fun d => .ok (Lp.out d)) else (.ok (.nx ())))
def b_law_alike (a0 a1 : D) : R D := (R.bind (orT (notT (R.bind (R.bind (.ok a0) (pIsTy "list")) toB)) (R.bind (R.bin2 (R.bind (R.cons (.ok a0) (.ok [])) pLen) (R.bind (R.cons (.ok a1) (.ok [])) pLen) pNe) toB)) fun b => if b = true then (R.bind (.ok (.bl false)) fun d => .ok d) else (R.bind (R.bind (R.bind (R.cons (.ok a1) (.ok [])) pLen) pRange1) fun xs => R.bind (rForX xs () ((l_law_alike_1 a0 a1))) (Go.thn fun t1 => (.ok (.bl true)))))
def f_law_alike : List D → R D
  | [a0, a1] => b_law_alike a0 a1
  | _ => .bad
theorem sc_law_alike : FnScope ["_law_found", "_law_due", "_law_k"] ["_law_found", "_law_due"] (defScope (top 45)) := ⟨rfl, rfl, rfl, by decide +kernel, rfl, by decide +kernel, by decide +kernel⟩
theorem fd_law_alike (C : Ctx K mg) : FD P w K mg base 2 "_law_alike" f_law_alike [.F, .F] .F := by
  obtain ⟨fa, fd, g, F⟩ := C.d_law_alike
  refine ⟨fa, fd, ["_law_found", "_law_due"], g, F.kp, F.bindsN (fun _ _ _ _ _ _ us hl => match us, hl with | [_, _], _ => rfl), fd_ok F sc_law_alike rfl (by decide) fun cdv A outer s H E G ds hr hl => ?_⟩
  exact match ds, hl with
  | [a0, a1], _ =>
    show SV _ _ _ _ [.F, .F, .N] [a0, a1, .non] _ _ (b_law_alike a0 a1) from (sv_ifS (et_w (ew_or (et_not (et_val (ev_isTy (T := "list") (ev_varF (pe_var (i := 0) rfl (.inl rfl)) rfl rfl) C.f_isinstance C.f_list (by decide +kernel)))) (ew_or1 (et_cmp (op_neD hr.units) od_ne (ev_callB call_len bf_len (ea_P (ev_varF (pe_var (i := 0) rfl (.inl rfl)) rfl rfl) ea_nil) C.f_len (by decide +kernel)) (ev_callB call_len bf_len (ea_P (ev_varF (pe_var (i := 1) rfl (.inl rfl)) rfl rfl) ea_nil) C.f_len (by decide +kernel)) (nomark _))))) (sv_ret (g := fun d => d) ev_bl (fun d => ⟨rfl, rfl⟩)) (sv_forX1 (i := 2) [.F, .F, .N] (fun (t1 : Unit) => [a0, a1, .non]) () (ei_range1 (ev_callB call_len bf_len (ea_P (ev_varF (pe_var (i := 1) rfl (.inl rfl)) rfl rfl) ea_nil) C.f_len (by decide +kernel)) C.f_range) (tg_name sc_law_alike.nd) ⟨.inr ⟨rfl, rfl⟩, .inr ⟨rfl, rfl⟩, .inl rfl, trivial⟩ (fun _ p2 t1 => (sv_ifE (et_w (ew_or (et_not (et_val (ev_call (fd_law_whole C) (hr.mono (by decide)) (takes_of rfl rfl rfl rfl) (ea_F (ev_ix (ev_varF (pe_var (i := 0) rfl (.inl rfl)) rfl rfl) (ev_varF (pe_var (i := 2) rfl (.inl rfl)) rfl rfl)) ea_nil)))) (ew_or1 (et_cmp (op_neD hr.units) od_ne (ev_ix (ev_varF (pe_var (i := 0) rfl (.inl rfl)) rfl rfl) (ev_varF (pe_var (i := 2) rfl (.inl rfl)) rfl rfl)) (ev_ix (ev_varF (pe_var (i := 1) rfl (.inl rfl)) rfl rfl) (ev_varF (pe_var (i := 2) rfl (.inl rfl)) rfl rfl)) (nomark _))))) (sv_ret (g := fun d => (Lp.out d)) ev_bl (fun d => ⟨_, rfl, ⟨rfl, rfl⟩⟩)) (sv_nil ⟨_, rfl, ⟨.inr ⟨rfl, rfl⟩, .inr ⟨rfl, rfl⟩, .inl rfl, trivial⟩⟩))) (fun t1 => (sv_retD ev_bl)) (passes_of rfl)))
def l_law_pair_alike_1 (p2 : D) (t1 : Unit) : R (Lp (Unit) D) := (R.bind (orT (notT (R.bind (R.bind (.ok p2) (pIsTy "tuple")) toB)) (orT (R.bind (R.bin2 (R.bind (R.cons (.ok p2) (.ok [])) pLen) (.ok (.int 3)) pNe) toB) (notT (R.bind (R.bind (R.bin2 (.ok p2) (.ok (.int 0)) pIx) (pIsTy "str")) toB)))) fun b => if b = true then (R.bind (.ok (.bl false)) fun d => .ok (Lp.out d)) else (R.bind (orT (notT (R.bind (R.bind (R.cons (R.bin2 (.ok p2) (.ok (.int 1)) pIx) (.ok [])) f_law_whole) toB)) (notT (R.bind (R.bind (R.cons (R.bin2 (.ok p2) (.ok (.int 2)) pIx) (.ok [])) f_law_whole) toB))) fun b => if b = true then (R.bind (.ok (.bl false)) fun d => .ok (Lp.out d)) else (.ok (.nx ()))))
def b_law_pair_alike (a0 a1 : D) : R D := (R.bind (orT (notT (R.bind (R.bind (.ok a0) (pIsTy "tuple")) toB)) (orT (R.bind (R.bin2 (R.bind (R.cons (.ok a0) (.ok [])) pLen) (.ok (.int 2)) pNe) toB) (notT (R.bind (R.bind (R.bin2 (.ok a0) (.ok (.int 0)) pIx) (pIsTy "list")) toB)))) fun b => if b = true then (R.bind (.ok (.bl false)) fun d => .ok d) else (R.bind (R.bind (R.bin2 (.ok a0) (.ok (.int 0)) pIx) toSeq) fun xs => R.bind (rForX xs () (l_law_pair_alike_1)) (Go.thn fun t1 => (andV (R.bin2 (R.bin2 (.ok a0) (.ok (.int 0)) pIx) (R.bin2 (.ok a1) (.ok (.int 0)) pIx) pEq) (R.bind (R.cons (R.bin2 (.ok a0) (.ok (.int 1)) pIx) (R.cons (R.bin2 (.ok a1) (.ok (.int 1)) pIx) (.ok []))) f_law_alike)))))
def f_law_pair_alike : List D → R D
  | [a0, a1] => b_law_pair_alike a0 a1
  | _ => .bad
theorem sc_law_pair_alike : FnScope ["_law_found", "_law_due", "_law_one"] ["_law_found", "_law_due"] (defScope (top 57)) := ⟨rfl, rfl, rfl, by decide +kernel, rfl, by decide +kernel, by decide +kernel⟩
theorem fd_law_pair_alike (C : Ctx K mg) : FD P w K mg base 3 "_law_pair_alike" f_law_pair_alike [.F, .F] .F := by
  obtain ⟨fa, fd, g, F⟩ := C.d_law_pair_alike
  refine ⟨fa, fd, ["_law_found", "_law_due"], g, F.kp, F.bindsN (fun _ _ _ _ _ _ us hl => match us, hl with | [_, _], _ => rfl), fd_ok F sc_law_pair_alike rfl (by decide) fun cdv A outer s H E G ds hr hl => ?_⟩
  exact match ds, hl with
  | [a0, a1], _ =>
    show SV _ _ _ _ [.F, .F, .N] [a0, a1, .non] _ _ (b_law_pair_alike a0 a1) from (sv_ifS (et_w (ew_or (et_not (et_val (ev_isTy (T := "tuple") (ev_varF (pe_var (i := 0) rfl (.inl rfl)) rfl rfl) C.f_isinstance C.f_tuple (by decide +kernel)))) (ew_or (et_cmp (op_neD hr.units) od_ne (ev_callB call_len bf_len (ea_P (ev_varF (pe_var (i := 0) rfl (.inl rfl)) rfl rfl) ea_nil) C.f_len (by decide +kernel)) ev_int (nomark _)) (ew_or1 (et_not (et_val (ev_isTy (T := "list") (ev_ix (ev_varF (pe_var (i := 0) rfl (.inl rfl)) rfl rfl) ev_int) C.f_isinstance C.f_list (by decide +kernel)))))))) (sv_ret (g := fun d => d) ev_bl (fun d => ⟨rfl, rfl⟩)) (sv_forX1 (i := 2) [.F, .F, .N] (fun (t1 : Unit) => [a0, a1, .non]) () (ei_seq (ev_ix (ev_varF (pe_var (i := 0) rfl (.inl rfl)) rfl rfl) ev_int)) (tg_name sc_law_pair_alike.nd) ⟨.inr ⟨rfl, rfl⟩, .inr ⟨rfl, rfl⟩, .inl rfl, trivial⟩ (fun _ p2 t1 => (sv_ifS (et_w (ew_or (et_not (et_val (ev_isTy (T := "tuple") (ev_varF (pe_var (i := 2) rfl (.inl rfl)) rfl rfl) C.f_isinstance C.f_tuple (by decide +kernel)))) (ew_or (et_cmp (op_neD hr.units) od_ne (ev_callB call_len bf_len (ea_P (ev_varF (pe_var (i := 2) rfl (.inl rfl)) rfl rfl) ea_nil) C.f_len (by decide +kernel)) ev_int (nomark _)) (ew_or1 (et_not (et_val (ev_isTy (T := "str") (ev_ix (ev_varF (pe_var (i := 2) rfl (.inl rfl)) rfl rfl) ev_int) C.f_isinstance C.f_str (by decide +kernel)))))))) (sv_ret (g := fun d => (Lp.out d)) ev_bl (fun d => ⟨_, rfl, ⟨rfl, rfl⟩⟩)) (sv_ifE (et_w (ew_or (et_not (et_val (ev_call (fd_law_whole C) (hr.mono (by decide)) (takes_of rfl rfl rfl rfl) (ea_F (ev_ix (ev_varF (pe_var (i := 2) rfl (.inl rfl)) rfl rfl) ev_int) ea_nil)))) (ew_or1 (et_not (et_val (ev_call (fd_law_whole C) (hr.mono (by decide)) (takes_of rfl rfl rfl rfl) (ea_F (ev_ix (ev_varF (pe_var (i := 2) rfl (.inl rfl)) rfl rfl) ev_int) ea_nil))))))) (sv_ret (g := fun d => (Lp.out d)) ev_bl (fun d => ⟨_, rfl, ⟨rfl, rfl⟩⟩)) (sv_nil ⟨_, rfl, ⟨.inr ⟨rfl, rfl⟩, .inr ⟨rfl, rfl⟩, .inl rfl, trivial⟩⟩)))) (fun t1 => (sv_retD (ev_and (ev_cmp (op_eqD hr.units) od_eq (ev_ix (ev_varF (pe_var (i := 0) rfl (.inl rfl)) rfl rfl) ev_int) (ev_ix (ev_varF (pe_var (i := 1) rfl (.inl rfl)) rfl rfl) ev_int) (nomark _)) (ev_one (ev_call (fd_law_alike C) (hr.mono (by decide)) (takes_of rfl rfl rfl rfl) (ea_F (ev_ix (ev_varF (pe_var (i := 0) rfl (.inl rfl)) rfl rfl) ev_int) (ea_F (ev_ix (ev_varF (pe_var (i := 1) rfl (.inl rfl)) rfl rfl) ev_int) ea_nil))))))) (passes_of rfl)))
def b_law (a0 : D) : R D := (R.bind (R.bind (R.cons (R.bind (R.cons (.ok a0) (R.cons (.ok (.int 0)) (.ok []))) f_law_cell_at) (R.cons (.ok (.int 0)) (.ok []))) f_law_mix) fun x1 => (R.bind (R.bin2 (.ok (.int 1)) (R.bin2 (.ok x1) (.ok (.int 6)) pMod) pAdd) fun x2 => (R.bind (R.bin2 (.ok (.int 1)) (R.bin2 (R.bin2 (.ok x1) (.ok (.int 6)) pDiv) (.ok (.int 3)) pMod) pAdd) fun x3 => (R.bind (R.bin2 (.ok (.int 1)) (R.bin2 (R.bin2 (.ok x1) (.ok (.int 18)) pDiv) (.ok (.int 3)) pMod) pAdd) fun x4 => (R.bind (R.bin2 (R.bin2 (.ok x1) (.ok (.int 54)) pDiv) (.ok (.int 15)) pMod) fun x5 => (R.bind (R.bind (R.bind (R.bin2 (R.bin2 (R.bin2 (.ok x1) (R.bin2 (.ok (.int 10)) (.ok (.int 12)) pPow) pDiv) (.ok (.int 12)) pMod) (.ok (.int 5)) pEq) toB) fun b => if b = true then (R.bind (.ok (.int 300)) fun x7 => (.ok x7)) else (.ok x5)) fun t6 => (R.bind (R.bin2 (.ok (.int 2)) (R.bin2 (R.bind (R.cons (.ok a0) (R.cons (.ok (.int 1)) (.ok []))) f_law_cell_at) (R.bin2 (R.bin2 (.ok (.int 10)) (.ok (.int 60)) pPow) (.ok (.int 1)) pSub) pMod) pAdd) fun x8 => (R.bind (R.bind (R.bind (R.bin2 (R.bin2 (R.bin2 (.ok x1) (.ok (.int 810)) pDiv) (.ok (.int 3)) pMod) (.ok (.int 1)) pEq) toB) fun b => if b = true then (R.bind (R.bin2 (.ok (.int 2)) (R.bin2 (R.bin2 (.ok x1) (.ok (.int 2430)) pDiv) (.ok (.int 30)) pMod) pAdd) fun x10 => (.ok x10)) else (.ok x8)) fun t9 => (R.bind (pComp (R.bind (R.bin2 (.ok x4) (.ok (.int 1)) pSub) pRange1) (fun d => .ok d) (fun p11 => (.ok true)) (fun p11 => (R.bind (R.cons (.ok a0) (R.cons (R.bin2 (.ok (.int 2)) (.ok p11) pAdd) (R.cons (.ok x2) (.ok [])))) f_law_part))) fun x12 => (R.bind (R.bind (R.cons (.ok a0) (R.cons (.ok (.int 5)) (R.cons (.ok x2) (.ok [])))) f_law_part) fun x13 => (R.bind (R.bind (R.cons (.ok a0) (R.cons (.ok (.int 6)) (R.cons (.ok x2) (.ok [])))) f_law_part) fun x14 => (R.bind (pComp (R.bind (.ok x3) pRange1) (fun d => .ok d) (fun p15 => (.ok true)) (fun p15 => (R.bind (R.cons (.ok a0) (R.cons (R.bin2 (.ok (.int 7)) (.ok p15) pAdd) (R.cons (.ok x2) (.ok [])))) f_law_part))) fun x16 => (R.bind (R.bind (R.bind (R.cons (.ok a0) (R.cons (.ok (.int 10)) (R.cons (R.bin2 (.ok (.int 26)) (.ok t6) pAdd) (.ok [])))) f_law_numbers) fun d1 => R.bind (R.bind (R.cons (.ok a0) (R.cons (.ok (.int 30)) (R.cons (R.bin2 (.ok (.int 31)) (.ok t6) pAdd) (.ok [])))) f_law_numbers) fun d2 => .ok (.dct [.str "in", .str "on"] [d1, d2])) fun x17 => (R.bind (R.bind (R.cons (.ok a0) (R.cons (.ok (.int 20)) (R.cons (.ok x2) (.ok [])))) f_law_numbers) fun x18 => (R.bind (R.bind (R.cons (R.bin2 (.ok (.int 1)) (R.bin2 (R.bin2 (.ok x1) (R.bin2 (.ok (.int 10)) (.ok (.int 5)) pPow) pDiv) (.ok (.int 5)) pMod) pAdd) (R.cons (.ok x3) (R.cons (.ok x4) (R.cons (.ok x12) (R.cons (.ok x13) (R.cons (.ok x14) (R.cons (.ok x16) (.ok [])))))))) f_Sheet___init__) fun x19 => (R.bind (R.bind (R.cons (R.bind (R.cons (.ok x12) (R.cons (.ok x13) (R.cons (.ok x14) (R.cons (.ok x16) (R.cons (.ok x17) (R.cons (.ok x18) (.ok []))))))) mkL) (.ok [])) pReprD) fun x20 => (R.bind (R.bind (R.cons (.ok t9) (R.cons (R.bind (R.cons (.ok x3) (R.cons (.ok x4) (R.cons (.ok x12) (R.cons (.ok x13) (R.cons (.ok x14) (R.cons (.ok x16) (R.cons (.ok t6) (.ok [])))))))) f_law_parts) (R.cons (.ok x17) (R.cons (.ok x18) (.ok []))))) f_law_done) fun x21 => (R.bind (R.bind (R.bind (R.bin2 (R.bin2 (R.bin2 (.ok x1) (R.bin2 (.ok (.int 10)) (.ok (.int 7)) pPow) pDiv) (.ok (.int 9)) pMod) (.ok (.int 4)) pEq) toB) fun b => if b = true then (R.bind (R.bin2 (R.bind (R.cons (R.bind (.ok (.int 1)) pNeg) (R.cons (.ok (.int 301)) (R.cons (R.bin2 (R.bind (.ok t6) pNeg) (.ok (.int 1)) pSub) (R.cons (R.bin2 (.ok (.int 301)) (R.bin2 (.ok x1) (R.bin2 (.ok (.int 10)) (.ok (.int 8)) pPow) pDiv) pAdd) (.ok []))))) mkL) (R.bin2 (R.bin2 (.ok x1) (.ok (.int 90)) pDiv) (.ok (.int 4)) pMod) pIx) fun x23 => (.ok x23)) else (.ok t6)) fun t22 => (R.bind (.ok .non) fun x24 => (R.bind (.ok .non) fun x25 => (R.bind (rTry cat_LapError (R.bind (R.bind (R.cons (.ok t9) (R.cons (.ok x19) (R.cons (.ok t22) (R.cons (.ok x17) (R.cons (.ok x18) (.ok [])))))) f_run) fun x27 => (.ok (x24, x27))) fun d => (d, x25)) fun t26 => (R.bind (orT (R.bind (R.bin2 (.ok t22) (.ok (.int 0)) pLt) toB) (R.bind (R.bin2 (.ok t22) (.ok (.int 300)) pGt) toB)) fun b => if b = true then (R.bind (R.bin2 (R.bind (R.cons (.ok t26.1) (.ok [])) f_law_classes) (.ok (.int 10)) pEq) fun d => .ok d) else (R.bind (orT (R.bind (R.bin2 (.ok t26.1) (.ok .non) pNotN) toB) (R.bind (R.bin2 (R.bind (R.cons (R.bind (R.cons (.ok x12) (R.cons (.ok x13) (R.cons (.ok x14) (R.cons (.ok x16) (R.cons (.ok x17) (R.cons (.ok x18) (.ok []))))))) mkL) (.ok [])) pReprD) (.ok x20) pNe) toB)) fun b => if b = true then (R.bind (.ok (.bl false)) fun d => .ok d) else (R.bind (R.cons (.ok t26.2) (R.cons (.ok x21) (.ok []))) f_law_pair_alike))))))))))))))))))))))))
def f_law : List D → R D
  | [a0] => b_law a0
  | _ => .bad
theorem sc_law : FnScope ["_law_script", "_law_head", "_law_boxes", "_law_held", "_law_stages", "_law_turns", "_law_measure", "_law_shorts", "_law_ahead", "_law_middle", "_law_tails", "_law_feeds", "_law_first", "_law_sheet", "_law_kept", "_law_due", "_law_caught", "_law_found", "e", "_law_k"] ["_law_script"] (defScope (top 58)) := ⟨rfl, rfl, rfl, by decide +kernel, rfl, by decide +kernel, by decide +kernel⟩
theorem fd_law (C : Ctx K mg) : ∃ fa fd, mg "law" = some (.ref fa) ∧ (∀ (s : Shared) (u : Value), BindsTo s fd ⟨[u], []⟩ [("_law_script", u)]) ∧ ∀ (P : Program) (w : World) (base : Heap), FnG P w K mg base 6 fa fd ["_law_script"] (spF K mg f_law [.F] .F) := by
  obtain ⟨fa, fd, g, F⟩ := C.d_law
  refine ⟨fa, fd, g, fun s u => (FunD.bindsA (ps := ["_law_script"]) F (fun _ _ _ _ _ _ us hl => match us, hl with | [_], _ => rfl)) s [u] rfl, fun P w base => fg_ok F sc_law rfl (by decide) fun cdv A outer s H E G ds hr hgd hl => ?_⟩
  exact match ds, hl with
  | [a0], _ =>
    show SV _ _ _ _ [.F, .N, .N, .N, .N, .N, .N, .N, .N, .N, .N, .N, .N, .N, .N, .N, .N, .N, .N, .N] [a0, .non, .non, .non, .non, .non, .non, .non, .non, .non, .non, .non, .non, .non, .non, .non, .non, .non, .non, .non] _ _ (b_law a0) from (sv_set (i := 1) (ev_call (fd_law_mix C) (hr.mono (by decide)) (takes_of rfl rfl rfl rfl) (ea_F (ev_call (fd_law_cell_at C) (hr.mono (by decide)) (takes_of rfl rfl rfl rfl) (ea_F (ev_varF (pe_var (i := 0) rfl (.inr (.inl rfl))) rfl rfl) (ea_F ev_int ea_nil))) (ea_F ev_int ea_nil))) (fun x1 => (sv_at (κ2 := [.F, .F, .N, .N, .N, .N, .N, .N, .N, .N, .N, .N, .N, .N, .N, .N, .N, .N, .N, .N]) (en2 := [a0, x1, .non, .non, .non, .non, .non, .non, .non, .non, .non, .non, .non, .non, .non, .non, .non, .non, .non, .non]) (sv_set (i := 2) (ev_bin op_addD od_add ev_int (ev_bin op_mod od_mod (ev_varF (pe_var (i := 1) rfl (.inl rfl)) rfl rfl) ev_int)) (fun x2 => (sv_at (κ2 := [.F, .F, .F, .N, .N, .N, .N, .N, .N, .N, .N, .N, .N, .N, .N, .N, .N, .N, .N, .N]) (en2 := [a0, x1, x2, .non, .non, .non, .non, .non, .non, .non, .non, .non, .non, .non, .non, .non, .non, .non, .non, .non]) (sv_set (i := 3) (ev_bin op_addD od_add ev_int (ev_bin op_mod od_mod (ev_bin op_fdivW od_div (ev_varF (pe_var (i := 1) rfl (.inl rfl)) rfl rfl) ev_int) ev_int)) (fun x3 => (sv_at (κ2 := [.F, .F, .F, .F, .N, .N, .N, .N, .N, .N, .N, .N, .N, .N, .N, .N, .N, .N, .N, .N]) (en2 := [a0, x1, x2, x3, .non, .non, .non, .non, .non, .non, .non, .non, .non, .non, .non, .non, .non, .non, .non, .non]) (sv_set (i := 4) (ev_bin op_addD od_add ev_int (ev_bin op_mod od_mod (ev_bin op_fdivW od_div (ev_varF (pe_var (i := 1) rfl (.inl rfl)) rfl rfl) ev_int) ev_int)) (fun x4 => (sv_at (κ2 := [.F, .F, .F, .F, .F, .N, .N, .N, .N, .N, .N, .N, .N, .N, .N, .N, .N, .N, .N, .N]) (en2 := [a0, x1, x2, x3, x4, .non, .non, .non, .non, .non, .non, .non, .non, .non, .non, .non, .non, .non, .non, .non]) (sv_set (i := 5) (ev_bin op_mod od_mod (ev_bin op_fdivW od_div (ev_varF (pe_var (i := 1) rfl (.inl rfl)) rfl rfl) ev_int) ev_int) (fun x5 => (sv_at (κ2 := [.F, .F, .F, .F, .F, .F, .N, .N, .N, .N, .N, .N, .N, .N, .N, .N, .N, .N, .N, .N]) (en2 := [a0, x1, x2, x3, x4, x5, .non, .non, .non, .non, .non, .non, .non, .non, .non, .non, .non, .non, .non, .non]) (sv_ifJ [.F, .F, .F, .F, .F, .F, .N, .N, .N, .N, .N, .N, .N, .N, .N, .N, .N, .N, .N, .N] (fun (t6 : D) => [a0, x1, x2, x3, x4, t6, .non, .non, .non, .non, .non, .non, .non, .non, .non, .non, .non, .non, .non, .non]) (et_cmp (op_eqD hr.units) od_eq (ev_bin op_mod od_mod (ev_bin op_fdivW od_div (ev_varF (pe_var (i := 1) rfl (.inl rfl)) rfl rfl) (ev_bin op_pow od_pow ev_int ev_int)) ev_int) ev_int (nomark _)) (sv_set (i := 5) ev_int (fun x7 => (sv_at (κ2 := [.F, .F, .F, .F, .F, .F, .N, .N, .N, .N, .N, .N, .N, .N, .N, .N, .N, .N, .N, .N]) (en2 := [a0, x1, x2, x3, x4, x7, .non, .non, .non, .non, .non, .non, .non, .non, .non, .non, .non, .non, .non, .non]) (sv_nil ⟨.inr ⟨rfl, rfl⟩, .inr ⟨rfl, rfl⟩, .inr ⟨rfl, rfl⟩, .inr ⟨rfl, rfl⟩, .inr ⟨rfl, rfl⟩, .inr ⟨rfl, rfl⟩, .inl rfl, .inl rfl, .inl rfl, .inl rfl, .inl rfl, .inl rfl, .inl rfl, .inl rfl, .inl rfl, .inl rfl, .inl rfl, .inl rfl, .inl rfl, .inl rfl, trivial⟩))) sc_law.nd) (sv_nil ⟨.inr ⟨rfl, rfl⟩, .inr ⟨rfl, rfl⟩, .inr ⟨rfl, rfl⟩, .inr ⟨rfl, rfl⟩, .inr ⟨rfl, rfl⟩, .inr ⟨rfl, rfl⟩, .inl rfl, .inl rfl, .inl rfl, .inl rfl, .inl rfl, .inl rfl, .inl rfl, .inl rfl, .inl rfl, .inl rfl, .inl rfl, .inl rfl, .inl rfl, .inl rfl, trivial⟩) (fun t6 => (sv_set (i := 6) (ev_bin op_addD od_add ev_int (ev_bin op_mod od_mod (ev_call (fd_law_cell_at C) (hr.mono (by decide)) (takes_of rfl rfl rfl rfl) (ea_F (ev_varF (pe_var (i := 0) rfl (.inr (.inl rfl))) rfl rfl) (ea_F ev_int ea_nil))) (ev_bin op_sub od_sub (ev_bin op_pow od_pow ev_int ev_int) ev_int))) (fun x8 => (sv_at (κ2 := [.F, .F, .F, .F, .F, .F, .F, .N, .N, .N, .N, .N, .N, .N, .N, .N, .N, .N, .N, .N]) (en2 := [a0, x1, x2, x3, x4, t6, x8, .non, .non, .non, .non, .non, .non, .non, .non, .non, .non, .non, .non, .non]) (sv_ifJ [.F, .F, .F, .F, .F, .F, .F, .N, .N, .N, .N, .N, .N, .N, .N, .N, .N, .N, .N, .N] (fun (t9 : D) => [a0, x1, x2, x3, x4, t6, t9, .non, .non, .non, .non, .non, .non, .non, .non, .non, .non, .non, .non, .non]) (et_cmp (op_eqD hr.units) od_eq (ev_bin op_mod od_mod (ev_bin op_fdivW od_div (ev_varF (pe_var (i := 1) rfl (.inl rfl)) rfl rfl) ev_int) ev_int) ev_int (nomark _)) (sv_set (i := 6) (ev_bin op_addD od_add ev_int (ev_bin op_mod od_mod (ev_bin op_fdivW od_div (ev_varF (pe_var (i := 1) rfl (.inl rfl)) rfl rfl) ev_int) ev_int)) (fun x10 => (sv_at (κ2 := [.F, .F, .F, .F, .F, .F, .F, .N, .N, .N, .N, .N, .N, .N, .N, .N, .N, .N, .N, .N]) (en2 := [a0, x1, x2, x3, x4, t6, x10, .non, .non, .non, .non, .non, .non, .non, .non, .non, .non, .non, .non, .non]) (sv_nil ⟨.inr ⟨rfl, rfl⟩, .inr ⟨rfl, rfl⟩, .inr ⟨rfl, rfl⟩, .inr ⟨rfl, rfl⟩, .inr ⟨rfl, rfl⟩, .inr ⟨rfl, rfl⟩, .inr ⟨rfl, rfl⟩, .inl rfl, .inl rfl, .inl rfl, .inl rfl, .inl rfl, .inl rfl, .inl rfl, .inl rfl, .inl rfl, .inl rfl, .inl rfl, .inl rfl, .inl rfl, trivial⟩))) sc_law.nd) (sv_nil ⟨.inr ⟨rfl, rfl⟩, .inr ⟨rfl, rfl⟩, .inr ⟨rfl, rfl⟩, .inr ⟨rfl, rfl⟩, .inr ⟨rfl, rfl⟩, .inr ⟨rfl, rfl⟩, .inr ⟨rfl, rfl⟩, .inl rfl, .inl rfl, .inl rfl, .inl rfl, .inl rfl, .inl rfl, .inl rfl, .inl rfl, .inl rfl, .inl rfl, .inl rfl, .inl rfl, .inl rfl, trivial⟩) (fun t9 => (sv_setC (i := 7) sc_law.nd (ei_range1 (ev_bin op_sub od_sub (ev_varF (pe_var (i := 4) rfl (.inl rfl)) rfl rfl) ev_int) C.f_range) (blkOk_by (own := [("_law_k", 19)]) rfl) (tgb_name (i := 19) (fun _ _ _ _ _ => pg_name sc_law.nd rfl (.inl rfl) (.inr rfl))) (fun _ _ _ _ _ _ p11 => ets_nil) (fun _ _ _ _ _ _ p11 => (ev_call (fd_law_part C) (hr.mono (by decide)) takes0 (ea_F (ev_varF (pe_var (i := 0) rfl (.inr (.inl rfl))) rfl rfl) (ea_F (ev_bin op_addD od_add ev_int (ev_varF (pe_var (i := 19) rfl (.inl rfl)) rfl rfl)) (ea_F (ev_varF (pe_var (i := 2) rfl (.inr (.inl rfl))) rfl rfl) ea_nil))))) (fun x12 => (sv_at (κ2 := [.F, .F, .F, .F, .F, .F, .F, (.L .F), .N, .N, .N, .N, .N, .N, .N, .N, .N, .N, .N, .N]) (en2 := [a0, x1, x2, x3, x4, t6, t9, x12, .non, .non, .non, .non, .non, .non, .non, .non, .non, .non, .non, .non]) (sv_set (i := 8) (ev_call (fd_law_part C) (hr.mono (by decide)) (takes_of rfl rfl rfl rfl) (ea_F (ev_varF (pe_var (i := 0) rfl (.inr (.inl rfl))) rfl rfl) (ea_F ev_int (ea_F (ev_varF (pe_var (i := 2) rfl (.inr (.inl rfl))) rfl rfl) ea_nil)))) (fun x13 => (sv_at (κ2 := [.F, .F, .F, .F, .F, .F, .F, (.L .F), .F, .N, .N, .N, .N, .N, .N, .N, .N, .N, .N, .N]) (en2 := [a0, x1, x2, x3, x4, t6, t9, x12, x13, .non, .non, .non, .non, .non, .non, .non, .non, .non, .non, .non]) (sv_set (i := 9) (ev_call (fd_law_part C) (hr.mono (by decide)) (takes_of rfl rfl rfl rfl) (ea_F (ev_varF (pe_var (i := 0) rfl (.inr (.inl rfl))) rfl rfl) (ea_F ev_int (ea_F (ev_varF (pe_var (i := 2) rfl (.inr (.inl rfl))) rfl rfl) ea_nil)))) (fun x14 => (sv_at (κ2 := [.F, .F, .F, .F, .F, .F, .F, (.L .F), .F, .F, .N, .N, .N, .N, .N, .N, .N, .N, .N, .N]) (en2 := [a0, x1, x2, x3, x4, t6, t9, x12, x13, x14, .non, .non, .non, .non, .non, .non, .non, .non, .non, .non]) (sv_setC (i := 10) sc_law.nd (ei_range1 (ev_varF (pe_var (i := 3) rfl (.inl rfl)) rfl rfl) C.f_range) (blkOk_by (own := [("_law_k", 19)]) rfl) (tgb_name (i := 19) (fun _ _ _ _ _ => pg_name sc_law.nd rfl (.inl rfl) (.inr rfl))) (fun _ _ _ _ _ _ p15 => ets_nil) (fun _ _ _ _ _ _ p15 => (ev_call (fd_law_part C) (hr.mono (by decide)) takes0 (ea_F (ev_varF (pe_var (i := 0) rfl (.inr (.inl rfl))) rfl rfl) (ea_F (ev_bin op_addD od_add ev_int (ev_varF (pe_var (i := 19) rfl (.inl rfl)) rfl rfl)) (ea_F (ev_varF (pe_var (i := 2) rfl (.inr (.inl rfl))) rfl rfl) ea_nil))))) (fun x16 => (sv_at (κ2 := [.F, .F, .F, .F, .F, .F, .F, (.L .F), .F, .F, (.L .F), .N, .N, .N, .N, .N, .N, .N, .N, .N]) (en2 := [a0, x1, x2, x3, x4, t6, t9, x12, x13, x14, x16, .non, .non, .non, .non, .non, .non, .non, .non, .non]) (sv_set (i := 11) (EV.frz (ev_disp2 "in" "on" (ev_str s_10) (ev_call (fd_law_numbers C) (hr.mono (by decide)) (takes_of rfl rfl rfl rfl) (ea_F (ev_varF (pe_var (i := 0) rfl (.inr (.inl rfl))) rfl rfl) (ea_F ev_int (ea_F (ev_bin op_addD od_add ev_int (ev_varF (pe_var (i := 5) rfl (.inl rfl)) rfl rfl)) ea_nil)))) (ev_str s_11) (ev_call (fd_law_numbers C) (hr.mono (by decide)) (takes_of rfl rfl rfl rfl) (ea_F (ev_varF (pe_var (i := 0) rfl (.inr (.inl rfl))) rfl rfl) (ea_F ev_int (ea_F (ev_bin op_addD od_add ev_int (ev_varF (pe_var (i := 5) rfl (.inl rfl)) rfl rfl)) ea_nil)))) (by decide)) rfl) (fun x17 => (sv_at (κ2 := [.F, .F, .F, .F, .F, .F, .F, (.L .F), .F, .F, (.L .F), .F, .N, .N, .N, .N, .N, .N, .N, .N]) (en2 := [a0, x1, x2, x3, x4, t6, t9, x12, x13, x14, x16, x17, .non, .non, .non, .non, .non, .non, .non, .non]) (sv_set (i := 12) (ev_call (fd_law_numbers C) (hr.mono (by decide)) (takes_of rfl rfl rfl rfl) (ea_F (ev_varF (pe_var (i := 0) rfl (.inr (.inl rfl))) rfl rfl) (ea_F ev_int (ea_F (ev_varF (pe_var (i := 2) rfl (.inr (.inl rfl))) rfl rfl) ea_nil)))) (fun x18 => (sv_at (κ2 := [.F, .F, .F, .F, .F, .F, .F, (.L .F), .F, .F, (.L .F), .F, .F, .N, .N, .N, .N, .N, .N, .N]) (en2 := [a0, x1, x2, x3, x4, t6, t9, x12, x13, x14, x16, x17, x18, .non, .non, .non, .non, .non, .non, .non]) (sv_freeze (i := 7) (q := (.L .F)) rfl (sv_freeze (i := 10) (q := (.L .F)) rfl (sv_set (i := 13) (ev_make (mi_Sheet C) (hr.mono (by decide)) (takes_of rfl rfl rfl rfl) (ea_F (ev_bin op_addD od_add ev_int (ev_bin op_mod od_mod (ev_bin op_fdivW od_div (ev_varF (pe_var (i := 1) rfl (.inl rfl)) rfl rfl) (ev_bin op_pow od_pow ev_int ev_int)) ev_int)) (ea_F (ev_varF (pe_var (i := 3) rfl (.inl rfl)) rfl rfl) (ea_F (ev_varF (pe_var (i := 4) rfl (.inl rfl)) rfl rfl) (ea_F (ev_varF (pe_var (i := 7) rfl (.inl rfl)) rfl rfl) (ea_F (ev_varF (pe_var (i := 8) rfl (.inl rfl)) rfl rfl) (ea_F (ev_varF (pe_var (i := 9) rfl (.inl rfl)) rfl rfl) (ea_F (ev_varF (pe_var (i := 10) rfl (.inl rfl)) rfl rfl) ea_nil)))))))) (fun x19 => (sv_at (κ2 := [.F, .F, .F, .F, .F, .F, .F, .F, .F, .F, .F, .F, .F, .F, .N, .N, .N, .N, .N, .N]) (en2 := [a0, x1, x2, x3, x4, t6, t9, x12, x13, x14, x16, x17, x18, x19, .non, .non, .non, .non, .non, .non]) (sv_set (i := 14) (ev_callB (cr_reprD C.sysM hgd (u65 hr)) bf_reprD (ea_P (EV.frz (ev_lst (ea_F (ev_varF (pe_var (i := 7) rfl (.inl rfl)) rfl rfl) (ea_F (ev_varF (pe_var (i := 8) rfl (.inl rfl)) rfl rfl) (ea_F (ev_varF (pe_var (i := 9) rfl (.inl rfl)) rfl rfl) (ea_F (ev_varF (pe_var (i := 10) rfl (.inl rfl)) rfl rfl) (ea_F (ev_varF (pe_var (i := 11) rfl (.inl rfl)) rfl rfl) (ea_F (ev_varF (pe_var (i := 12) rfl (.inl rfl)) rfl rfl) ea_nil))))))) rfl) ea_nil) C.f_repr (by decide +kernel)) (fun x20 => (sv_at (κ2 := [.F, .F, .F, .F, .F, .F, .F, .F, .F, .F, .F, .F, .F, .F, .F, .N, .N, .N, .N, .N]) (en2 := [a0, x1, x2, x3, x4, t6, t9, x12, x13, x14, x16, x17, x18, x19, x20, .non, .non, .non, .non, .non]) (sv_set (i := 15) (ev_call (fd_law_done C) (hr.mono (by decide)) (takes_of rfl rfl rfl rfl) (ea_F (ev_varF (pe_var (i := 6) rfl (.inl rfl)) rfl rfl) (ea_F (ev_call (fd_law_parts C) (hr.mono (by decide)) (takes_of rfl rfl rfl rfl) (ea_F (ev_varF (pe_var (i := 3) rfl (.inl rfl)) rfl rfl) (ea_F (ev_varF (pe_var (i := 4) rfl (.inl rfl)) rfl rfl) (ea_F (ev_varF (pe_var (i := 7) rfl (.inl rfl)) rfl rfl) (ea_F (ev_varF (pe_var (i := 8) rfl (.inl rfl)) rfl rfl) (ea_F (ev_varF (pe_var (i := 9) rfl (.inl rfl)) rfl rfl) (ea_F (ev_varF (pe_var (i := 10) rfl (.inl rfl)) rfl rfl) (ea_F (ev_varF (pe_var (i := 5) rfl (.inl rfl)) rfl rfl) ea_nil)))))))) (ea_F (ev_varF (pe_var (i := 11) rfl (.inl rfl)) rfl rfl) (ea_F (ev_varF (pe_var (i := 12) rfl (.inl rfl)) rfl rfl) ea_nil))))) (fun x21 => (sv_at (κ2 := [.F, .F, .F, .F, .F, .F, .F, .F, .F, .F, .F, .F, .F, .F, .F, .F, .N, .N, .N, .N]) (en2 := [a0, x1, x2, x3, x4, t6, t9, x12, x13, x14, x16, x17, x18, x19, x20, x21, .non, .non, .non, .non]) (sv_ifJ [.F, .F, .F, .F, .F, .F, .F, .F, .F, .F, .F, .F, .F, .F, .F, .F, .N, .N, .N, .N] (fun (t22 : D) => [a0, x1, x2, x3, x4, t22, t9, x12, x13, x14, x16, x17, x18, x19, x20, x21, .non, .non, .non, .non]) (et_cmp (op_eqD hr.units) od_eq (ev_bin op_mod od_mod (ev_bin op_fdivW od_div (ev_varF (pe_var (i := 1) rfl (.inl rfl)) rfl rfl) (ev_bin op_pow od_pow ev_int ev_int)) ev_int) ev_int (nomark _)) (sv_set (i := 5) (ev_ix (EV.frz (ev_lst (ea_F (ev_un un_neg ud_neg ev_int) (ea_F ev_int (ea_F (ev_bin op_sub od_sub (ev_un un_neg ud_neg (ev_varF (pe_var (i := 5) rfl (.inl rfl)) rfl rfl)) ev_int) (ea_F (ev_bin op_addD od_add ev_int (ev_bin op_fdivW od_div (ev_varF (pe_var (i := 1) rfl (.inl rfl)) rfl rfl) (ev_bin op_pow od_pow ev_int ev_int))) ea_nil))))) rfl) (ev_bin op_mod od_mod (ev_bin op_fdivW od_div (ev_varF (pe_var (i := 1) rfl (.inl rfl)) rfl rfl) ev_int) ev_int)) (fun x23 => (sv_at (κ2 := [.F, .F, .F, .F, .F, .F, .F, .F, .F, .F, .F, .F, .F, .F, .F, .F, .N, .N, .N, .N]) (en2 := [a0, x1, x2, x3, x4, x23, t9, x12, x13, x14, x16, x17, x18, x19, x20, x21, .non, .non, .non, .non]) (sv_nil ⟨.inr ⟨rfl, rfl⟩, .inr ⟨rfl, rfl⟩, .inr ⟨rfl, rfl⟩, .inr ⟨rfl, rfl⟩, .inr ⟨rfl, rfl⟩, .inr ⟨rfl, rfl⟩, .inr ⟨rfl, rfl⟩, .inr ⟨rfl, rfl⟩, .inr ⟨rfl, rfl⟩, .inr ⟨rfl, rfl⟩, .inr ⟨rfl, rfl⟩, .inr ⟨rfl, rfl⟩, .inr ⟨rfl, rfl⟩, .inr ⟨rfl, rfl⟩, .inr ⟨rfl, rfl⟩, .inr ⟨rfl, rfl⟩, .inl rfl, .inl rfl, .inl rfl, .inl rfl, trivial⟩))) sc_law.nd) (sv_nil ⟨.inr ⟨rfl, rfl⟩, .inr ⟨rfl, rfl⟩, .inr ⟨rfl, rfl⟩, .inr ⟨rfl, rfl⟩, .inr ⟨rfl, rfl⟩, .inr ⟨rfl, rfl⟩, .inr ⟨rfl, rfl⟩, .inr ⟨rfl, rfl⟩, .inr ⟨rfl, rfl⟩, .inr ⟨rfl, rfl⟩, .inr ⟨rfl, rfl⟩, .inr ⟨rfl, rfl⟩, .inr ⟨rfl, rfl⟩, .inr ⟨rfl, rfl⟩, .inr ⟨rfl, rfl⟩, .inr ⟨rfl, rfl⟩, .inl rfl, .inl rfl, .inl rfl, .inl rfl, trivial⟩) (fun t22 => (sv_set (i := 16) ev_non (fun x24 => (sv_at (κ2 := [.F, .F, .F, .F, .F, .F, .F, .F, .F, .F, .F, .F, .F, .F, .F, .F, .F, .N, .N, .N]) (en2 := [a0, x1, x2, x3, x4, t22, t9, x12, x13, x14, x16, x17, x18, x19, x20, x21, x24, .non, .non, .non]) (sv_set (i := 17) ev_non (fun x25 => (sv_at (κ2 := [.F, .F, .F, .F, .F, .F, .F, .F, .F, .F, .F, .F, .F, .F, .F, .F, .F, .F, .N, .N]) (en2 := [a0, x1, x2, x3, x4, t22, t9, x12, x13, x14, x16, x17, x18, x19, x20, x21, x24, x25, .non, .non]) (sv_tryO (i := 18) (j := 16) cat_LapError [.F, .F, .F, .F, .F, .F, .F, .F, .F, .F, .F, .F, .F, .F, .F, .F, .F, .F, .N, .N] (fun (t26 : D × D) => [a0, x1, x2, x3, x4, t22, t9, x12, x13, x14, x16, x17, x18, x19, x20, x21, t26.1, t26.2, .non, .non]) [.F, .F, .F, .F, .F, .F, .F, .F, .F, .F, .F, .F, .F, .F, .F, .F, .F, .F, .N, .N] [a0, x1, x2, x3, x4, t22, t9, x12, x13, x14, x16, x17, x18, x19, x20, x21, x24, x25, .non, .non] (fun d => (d, x25)) C.ct_LapError (fun _ _ _ tk ps => (sv_set (i := 17) (ev_call (fd_run C) (hr.mono (by decide)) tk (ea_F (ev_varF (pe_var (i := 6) rfl (.inl rfl)) rfl rfl) (ea_F (ev_varF (pe_var (i := 13) rfl (.inl rfl)) rfl rfl) (ea_F (ev_varF (pe_var (i := 5) rfl (.inl rfl)) rfl rfl) (ea_F (ev_varF (pe_var (i := 11) rfl (.inl rfl)) rfl rfl) (ea_F (ev_varF (pe_var (i := 12) rfl (.inl rfl)) rfl rfl) ea_nil)))))) (fun x27 => (sv_at (κ2 := [.F, .F, .F, .F, .F, .F, .F, .F, .F, .F, .F, .F, .F, .F, .F, .F, .F, .F, .N, .N]) (en2 := [a0, x1, x2, x3, x4, t22, t9, x12, x13, x14, x16, x17, x18, x19, x20, x21, x24, x27, .non, .non]) (sv_nil ⟨.inr ⟨rfl, rfl⟩, .inr ⟨rfl, rfl⟩, .inr ⟨rfl, rfl⟩, .inr ⟨rfl, rfl⟩, .inr ⟨rfl, rfl⟩, .inr ⟨rfl, rfl⟩, .inr ⟨rfl, rfl⟩, .inr ⟨rfl, rfl⟩, .inr ⟨rfl, rfl⟩, .inr ⟨rfl, rfl⟩, .inr ⟨rfl, rfl⟩, .inr ⟨rfl, rfl⟩, .inr ⟨rfl, rfl⟩, .inr ⟨rfl, rfl⟩, .inr ⟨rfl, rfl⟩, .inr ⟨rfl, rfl⟩, .inr ⟨rfl, rfl⟩, .inr ⟨rfl, rfl⟩, .inl rfl, .inl rfl, trivial⟩))) sc_law.nd (hex := ⟨.inr ⟨rfl, rfl⟩, .inr ⟨rfl, rfl⟩, .inr ⟨rfl, rfl⟩, .inr ⟨rfl, rfl⟩, .inr ⟨rfl, rfl⟩, .inr ⟨rfl, rfl⟩, .inr ⟨rfl, rfl⟩, .inr ⟨rfl, rfl⟩, .inr ⟨rfl, rfl⟩, .inr ⟨rfl, rfl⟩, .inr ⟨rfl, rfl⟩, .inr ⟨rfl, rfl⟩, .inr ⟨rfl, rfl⟩, .inr ⟨rfl, rfl⟩, .inr ⟨rfl, rfl⟩, .inr ⟨rfl, rfl⟩, .inr ⟨rfl, rfl⟩, .inr ⟨rfl, rfl⟩, .inl rfl, .inl rfl, trivial⟩))) (fun d => ⟨.inr ⟨rfl, rfl⟩, .inr ⟨rfl, rfl⟩, .inr ⟨rfl, rfl⟩, .inr ⟨rfl, rfl⟩, .inr ⟨rfl, rfl⟩, .inr ⟨rfl, rfl⟩, .inr ⟨rfl, rfl⟩, .inr ⟨rfl, rfl⟩, .inr ⟨rfl, rfl⟩, .inr ⟨rfl, rfl⟩, .inr ⟨rfl, rfl⟩, .inr ⟨rfl, rfl⟩, .inr ⟨rfl, rfl⟩, .inr ⟨rfl, rfl⟩, .inr ⟨rfl, rfl⟩, .inr ⟨rfl, rfl⟩, .inr ⟨rfl, rfl⟩, .inr ⟨rfl, rfl⟩, .inl rfl, .inl rfl, trivial⟩) (fun t26 => (sv_ifS (et_w (ew_or (et_cmp op_lt od_lt (ev_varF (pe_var (i := 5) rfl (.inl rfl)) rfl rfl) ev_int (nomark _)) (ew_or1 (et_cmp op_gt od_gt (ev_varF (pe_var (i := 5) rfl (.inl rfl)) rfl rfl) ev_int (nomark _))))) (sv_ret (g := fun d => d) (ev_cmp (op_eqD hr.units) od_eq (ev_call (fd_law_classes C) (hr.mono (by decide)) (takes_of rfl rfl rfl rfl) (ea_F (ev_varF (pe_var (i := 16) rfl (.inl rfl)) rfl rfl) ea_nil)) ev_int (nomark _)) (fun d => ⟨rfl, rfl⟩)) (sv_ifS (et_w (ew_or (et_cmp op_notN1 od_notN (ev_varF (pe_var (i := 16) rfl (.inl rfl)) rfl rfl) ev_non (nomark _)) (ew_or1 (et_cmp (op_neD hr.units) od_ne (ev_callB (cr_reprD C.sysM hgd (u65 hr)) bf_reprD (ea_P (EV.frz (ev_lst (ea_F (ev_varF (pe_var (i := 7) rfl (.inl rfl)) rfl rfl) (ea_F (ev_varF (pe_var (i := 8) rfl (.inl rfl)) rfl rfl) (ea_F (ev_varF (pe_var (i := 9) rfl (.inl rfl)) rfl rfl) (ea_F (ev_varF (pe_var (i := 10) rfl (.inl rfl)) rfl rfl) (ea_F (ev_varF (pe_var (i := 11) rfl (.inl rfl)) rfl rfl) (ea_F (ev_varF (pe_var (i := 12) rfl (.inl rfl)) rfl rfl) ea_nil))))))) rfl) ea_nil) C.f_repr (by decide +kernel)) (ev_varF (pe_var (i := 14) rfl (.inl rfl)) rfl rfl) (nomark _))))) (sv_ret (g := fun d => d) ev_bl (fun d => ⟨rfl, rfl⟩)) (sv_retD (ev_call (fd_law_pair_alike C) (hr.mono (by decide)) (takes_of rfl rfl rfl rfl) (ea_F (ev_varF (pe_var (i := 17) rfl (.inl rfl)) rfl rfl) (ea_F (ev_varF (pe_var (i := 15) rfl (.inl rfl)) rfl rfl) ea_nil))))))) sc_law.nd))) sc_law.nd))) sc_law.nd))))) sc_law.nd))) sc_law.nd))) sc_law.nd))))) sc_law.nd))) sc_law.nd))) (sw_true rfl rfl rfl rfl)))) sc_law.nd))) sc_law.nd))) (sw_true rfl rfl rfl rfl)))))) sc_law.nd))))) sc_law.nd))) sc_law.nd))) sc_law.nd))) sc_law.nd))) sc_law.nd)
end
end Lx
namespace Lx
open PySem PySem.Spec PyProof.Rows L2 Lw
theorem cell_at (ns : List Int) (k : Nat) : f_law_cell_at [.scr (ns.map D.int), .int k] = .ok (.int (ns.getD k 0)) := by
  show b_law_cell_at _ _ = _
  unfold b_law_cell_at
  by_cases h : k < ns.length
  · have e : atI (ns.map D.int) (k : Int) = some (.int (ns.getD k 0)) := by
      rw [atI_nat (by simpa using h)]
      simp [List.getD, h]
    simp [h, pIx_c e]
  · simp [h, List.getD, List.getElem?_eq_none (Nat.le_of_not_lt h)]
end Lx
namespace Lx
open PySem PySem.Spec PyProof.Rows L2 Lw
theorem Gv.wh {τ : Type} {c : τ → R Bool} {f : τ → R τ} {Q : τ → Prop} (I : τ → Prop) (μ : τ → Nat) (hs : ∀ t, I t → (c t = .ok false ∧ Q t) ∨ (c t = .ok true ∧ Gv (f t) fun t' => I t' ∧ μ t' < μ t)) : ∀ (n : Nat) (t : τ), I t → μ t < n → Gv (rWh n t c f) Q
  | 0, t, _, h => absurd h (by omega)
  | n + 1, t, hi, h => by
    unfold rWh
    rcases hs t hi with ⟨e, q⟩ | ⟨e, t', et, hi', hm⟩
    · rw [e, R.bind_ok, if_neg (by decide)]
      exact Gv.ok q
    · rw [e, R.bind_ok, if_pos rfl, et, R.bind_ok]
      exact Gv.wh I μ hs n t' hi' (by omega)
end Lx
namespace Lx
open PySem PySem.Spec PyProof.Rows L2 Lw
open TL
def Ac (s : Str) : Prop := ∀ c ∈ s.cps.toList, c < 128
theorem Ac.app {a b : Str} (ha : Ac a) (hb : Ac b) : Ac (a ++ b) := fun c hc => (mem_cps_append.mp hc).elim (ha c) (hb c)
theorem Ac.sOk {s : Str} (h : Ac s) (hl : s.length ≤ 16777216) : sOk s = true := by
  refine sOk_mk ?_ hl
  unfold PyData.strOk
  rw [Array.all_eq_true_iff_forall_mem]
  intro c hc
  have := h c (by simpa using hc)
  exact decide_eq_true (by omega)
theorem ac_mk {l : List Nat} (h : ∀ c ∈ l, c < 128) : Ac (mkS l) := fun c hc => h c (by rwa [mkS_cps] at hc)
theorem ac_int (i : Int) : Ac (PyData.int i).shown := fun c hc => by
  by_cases h : c < 128
  · exact h
  · exact absurd hc (shown_int_free' ⟨by omega, .inr (by omega)⟩ i)
theorem rc_all : ∀ d, d < 128 → ((Builtin.Str.reprChar 39 d).all fun c => decide (c < 128)) = true ∧ ((Builtin.Str.reprChar 34 d).all fun c => decide (c < 128)) = true := by decide +kernel
theorem rfold_mem (q : Nat) : ∀ (l : List Nat) (acc : Array Nat) (c : Nat), c ∈ (l.foldl (fun out d => out ++ (Builtin.Str.reprChar q d).toArray) acc).toList → c ∈ acc.toList ∨ ∃ d ∈ l, c ∈ Builtin.Str.reprChar q d
  | [], acc, c, h => .inl h
  | d :: l, acc, c, h => by
    rw [List.foldl_cons] at h
    rcases rfold_mem q l _ c h with z | ⟨e, he, z⟩
    · rw [Array.toList_append] at z
      rcases List.mem_append.mp z with z | z
      · exact .inl z
      · exact .inr ⟨d, List.mem_cons_self, by simpa using z⟩
    · exact .inr ⟨e, List.mem_cons_of_mem _ he, z⟩
theorem ac_repr {s : Str} (h : Ac s) : Ac (reprText s) := fun c hc => by
  have hq : reprQuote s = 39 ∨ reprQuote s = 34 := by
    unfold reprQuote
    split
    · exact .inr rfl
    · exact .inl rfl
  have q1 : reprQuote s < 128 := by rcases hq with e | e <;> rw [e] <;> decide
  have hc2 : c ∈ ((s.cps.foldl (fun out d => out ++ (Builtin.Str.reprChar (reprQuote s) d).toArray) #[reprQuote s]).push (reprQuote s)).toList := hc
  rw [Array.toList_push, ← Array.foldl_toList] at hc2
  rcases List.mem_append.mp hc2 with z | z
  · rcases rfold_mem _ _ _ _ z with y | ⟨d, hd, y⟩
    · have : c = reprQuote s := by simpa using y
      omega
    · obtain ⟨r1, r2⟩ := rc_all d (h d hd)
      rcases hq with e | e
      · rw [e] at y
        exact of_decide_eq_true (List.all_eq_true.mp r1 c y)
      · rw [e] at y
        exact of_decide_eq_true (List.all_eq_true.mp r2 c y)
  · have : c = reprQuote s := by simpa using z
    omega
theorem ac_join {sep : Str} (hs : Ac sep) {ts : List Str} (h : ∀ t ∈ ts, Ac t) : Ac (Str.join sep ts) := fun c hc => by
  rcases (mem_join sep c ts).mp hc with ⟨t, ht, z⟩ | ⟨_, z⟩
  · exact h t ht c z
  · exact hs c z
theorem ac_lit {s : Str} (h : (s.cps.toList.all fun c => decide (c < 128)) = true) : Ac s := fun c hc => of_decide_eq_true (List.all_eq_true.mp h c hc)
theorem ac_list {ts : List Str} (h : ∀ t ∈ ts, Ac t) : Ac (listText ts) := by
  rw [listText_eq_join]
  exact ((ac_lit (by decide)).app (ac_join (ac_lit (by decide)) h)).app (ac_lit (by decide))
theorem ac_tuple {ts : List Str} (h : ∀ t ∈ ts, Ac t) : Ac (tupleText ts) := by
  unfold tupleText
  refine ((ac_lit (by decide)).app (ac_join (ac_lit (by decide)) h)).app ?_
  split <;> exact ac_lit (by decide)
theorem ac_dict {ts : List Str} (h : ∀ t ∈ ts, Ac t) : Ac (dictText ts) := by
  unfold dictText
  exact ((ac_lit (by decide)).app (ac_join (ac_lit (by decide)) h)).app (ac_lit (by decide))
structure Rp (z : Nat) (d : D) : Prop where
  sh : (pyR d).showable = true
  ac : Ac (pyR d).shown
  le : (pyR d).shown.length ≤ z
structure Rps (z : Nat) (ds : List D) : Prop where
  sh : PyData.showableAll (pysR ds) = true
  ac : ∀ t ∈ PyData.shownAll (pysR ds), Ac t
  le : ((PyData.shownAll (pysR ds)).map (·.length)).sum + 2 * ds.length ≤ z
theorem Rp.mono {z y : Nat} {d : D} (h : Rp z d) (hz : z ≤ y) : Rp y d := ⟨h.sh, h.ac, Nat.le_trans h.le hz⟩
theorem Rps.mono {z y : Nat} {ds : List D} (h : Rps z ds) (hz : z ≤ y) : Rps y ds := ⟨h.sh, h.ac, Nat.le_trans h.le hz⟩
theorem shown_len_all : ∀ xs : List PyData, (PyData.shownAll xs).length = xs.length
  | [] => by simp [PyData.shownAll]
  | x :: xs => by simp [PyData.shownAll, shown_len_all xs]
theorem Rp.int {i : Int} {k : Nat} (hk : 0 < k) (hk2 : k ≤ 100) (h : i.natAbs < 10 ^ k) : Rp (k + 1) (.int i) := by
  refine ⟨?_, ?_, ?_⟩
  · show PyData.showable (.int i) = true
    simp only [PyData.showable]
    refine decide_eq_true ?_
    by_cases h0 : i.natAbs = 0
    · rw [h0]; decide
    · exact (Nat.log2_lt h0).mpr (Nat.lt_of_lt_of_le h (Nat.le_trans (Nat.pow_le_pow_right (by decide) hk2) (by decide +kernel)))
  · exact ac_int i
  · show (PyData.int i).shown.length ≤ k + 1
    simp only [PyData.shown]
    rw [PySem.ofString_length]
    exact int_text_length_le10 hk h
theorem Rp.str {s : Str} (h : Ac s) : Rp (10 * s.length + 2) (.str s) := by
  refine ⟨by simp [pyR, PyData.showable], ?_, ?_⟩
  · show Ac (PyData.str s).shown
    simp only [PyData.shown]
    exact ac_repr h
  · show (PyData.str s).shown.length ≤ _
    simp only [PyData.shown]
    exact StrLaws.reprText_len s fun c hc => Nat.lt_trans (h c hc) (by decide)
theorem Rps.nil : Rps 0 [] := ⟨by simp [pysR, PyData.showableAll], fun t ht => by simp [pysR, PyData.shownAll] at ht, by simp [pysR, PyData.shownAll]⟩
theorem Rps.cons {z y : Nat} {d : D} {ds : List D} (h : Rp z d) (q : Rps y ds) : Rps (z + 2 + y) (d :: ds) := by
  refine ⟨?_, fun t ht => ?_, ?_⟩
  · simp only [pysR, PyData.showableAll, h.sh, q.sh, Bool.and_self]
  · simp only [pysR, PyData.shownAll] at ht
    rcases List.mem_cons.mp ht with e | ht
    · rw [e]; exact h.ac
    · exact q.ac t ht
  · have h1 := h.le
    have h2 := q.le
    simp only [pysR, PyData.shownAll, List.map_cons, List.sum_cons, List.length_cons]
    omega
theorem Rps.all {z : Nat} : ∀ {ds : List D}, (∀ d ∈ ds, Rp z d) → Rps (ds.length * (z + 2)) ds
  | [], _ => by simpa using Rps.nil
  | d :: ds, h => (Rps.cons (h d List.mem_cons_self) (Rps.all fun e he => h e (List.mem_cons_of_mem _ he))).mono (by rw [List.length_cons, Nat.add_mul]; omega)
theorem Rps.lst {z : Nat} {ds : List D} (h : Rps z ds) : Rp (z + 3) (.lst ds) := by
  have e : pyR (.lst ds) = .list (pysR ds) := by simp [pyR]
  refine ⟨?_, ?_, ?_⟩ <;> rw [e]
  · simpa [PyData.showable] using h.sh
  · simp only [PyData.shown]
    exact ac_list h.ac
  · simp only [PyData.shown]
    have := listText_len_le (PyData.shownAll (pysR ds))
    have := h.le
    rw [shown_len_all, pysR_length] at *
    omega
theorem Rps.tup {z : Nat} {ds : List D} (h : Rps z ds) : Rp (z + 3) (.tup ds) := by
  have e : pyR (.tup ds) = .tuple (pysR ds) := by simp [pyR]
  refine ⟨?_, ?_, ?_⟩ <;> rw [e]
  · simpa [PyData.showable] using h.sh
  · simp only [PyData.shown]
    exact ac_tuple h.ac
  · simp only [PyData.shown]
    have := tupleText_len_le (PyData.shownAll (pysR ds))
    have := h.le
    rw [shown_len_all, pysR_length] at *
    omega
theorem pReprD_ok {z : Nat} {d : D} (h : Rp z d) (hz : z ≤ 16777216) (hp : plR d 59 = true) (hd : isDisplay (pyR d) = true) : pReprD [d] = .ok (.str (pyR d).shown) := by
  have e : rpB d = true := by
    unfold rpB
    rw [hp, h.sh, hd, h.ac.sOk (Nat.le_trans h.le hz)]
    rfl
  show (if rpB d = true then (R.ok (.str (pyR d).shown) : R D) else .bad) = _
  rw [if_pos e]
end Lx
namespace Lx
open PySem PySem.Spec PyProof.Rows L2 Lw
def nmD (n : List Nat) : D := .str (mkS n)
def W9 : List Str := ["sum", "less", "times", "least", "most", "pick", "same", "tell", "take"]
theorem p60 : pPow (.int 10) (.int 60) = .ok (.int (10 ^ 60)) := pPow_ii (by decide)
theorem W9_ix {i : Int} (h : 0 ≤ i ∧ i < 9) : ∃ w, w ∈ W9 ∧ W9[i.toNat]? = some w ∧ pIx (.lst (W9.map D.str)) (.int i) = .ok (.str w) := by
  obtain rfl | rfl | rfl | rfl | rfl | rfl | rfl | rfl | rfl : i = 0 ∨ i = 1 ∨ i = 2 ∨ i = 3 ∨ i = 4 ∨ i = 5 ∨ i = 6 ∨ i = 7 ∨ i = 8 := by omega
  all_goals exact ⟨_, by simp [W9], rfl, rfl⟩
theorem mix_ok {c k : Int} (hk : bd 20 k) : ∃ x : Int, f_law_mix [.int c, .int k] = .ok (.int x) ∧ 0 ≤ x ∧ x < 10 ^ 41 := by
  show ∃ x : Int, b_law_mix _ _ = _ ∧ _
  unfold b_law_mix
  have p18 : pPow (.int 10) (.int 18) = .ok (.int (10 ^ 18)) := pPow_ii (by decide)
  have p40 : pPow (.int 10) (.int 40) = .ok (.int (10 ^ 40)) := pPow_ii (by decide)
  obtain ⟨n, en⟩ : ∃ n : Int, n = c % 10 ^ 60 := ⟨_, rfl⟩
  have hn : bd 200 n := bd_le (m := 10 ^ 60) (by omega) (by omega) (by decide)
  have b1 : bd 16 40503 := by unfold bd; decide
  have m1 : pMul (.int n) (.int n) = .ok (.int (n * n)) := pMul_ii (hn.mulOk hn (by decide))
  have m2 : pMul (.int 40503) (.int k) = .ok (.int (40503 * k)) := pMul_ii (b1.mulOk hk (by decide))
  have m3 : pMul (.int (40503 * k)) (.int k) = .ok (.int (40503 * k * k)) := pMul_ii ((b1.mul hk).mulOk hk (by decide))
  have b2 : bd 402 (n * n + 40503 * k * k + 7919) := (((hn.mul hn).add (((b1.mul hk).mul hk).mono (by decide))).mono (by decide : 401 ≤ 401)).add ((bd_le (m := 7919) (by decide) (by decide) (by decide) : bd 16 7919).mono (by decide))
  have m4 : pMul (.int (n * n + 40503 * k * k + 7919)) (.int 1812433253982451697) = .ok (.int ((n * n + 40503 * k * k + 7919) * 1812433253982451697)) := pMul_ii (b2.mulOk (n := 64) (by unfold bd; decide) (by decide))
  obtain ⟨r, er⟩ : ∃ r : Int, r = (n * n + 40503 * k * k + 7919) * 1812433253982451697 % (10 ^ 18 + 9) := ⟨_, rfl⟩
  have r1 : 0 ≤ r ∧ r < 10 ^ 18 + 9 := by rw [er]; exact ⟨Int.emod_nonneg _ (by decide), Int.emod_lt_of_pos _ (by decide)⟩
  have m5 : pMul (.int r) (.int 739108512309184756019283746561) = .ok (.int (r * 739108512309184756019283746561)) := pMul_ii ((bd_le (m := 10 ^ 18 + 9) (by omega) (by omega) (by decide) : bd 64 r).mulOk (n := 110) (by unfold bd; decide) (by decide))
  refine ⟨r * 739108512309184756019283746561 % (10 ^ 40 + 121), ?_, Int.emod_nonneg _ (by decide), by have := Int.emod_lt_of_pos (r * 739108512309184756019283746561) (show (0 : Int) < 10 ^ 40 + 121 by decide); omega⟩
  refine (bind_eq (a := .int n) ?_).trans ?_
  · rw [R.bin2_ok, p60, R.bin2_ok, pMod_ii (by decide), en]
  refine (bind_eq (a := .int r) ?_).trans ?_
  · simp only [R.bin2_ok, m1, m2, m3, pAdd_ii, m4, p18, pMod_ii (show (0 : Int) < 10 ^ 18 + 9 by decide), er]
  simp only [R.bin2_ok, m5, p40, pAdd_ii, pMod_ii (show (0 : Int) < 10 ^ 40 + 121 by decide)]
def wantsN (w : Str) : Nat := if w = "take" then 0 else if w = "same" ∨ w = "tell" then 1 else if w = "pick" then 3 else 2
theorem wants3 {w : Str} (h : w ∈ W9) : wantsN w ≤ 3 := by
  simp only [W9, List.mem_cons, List.not_mem_nil, or_false] at h
  rcases h with rfl | rfl | rfl | rfl | rfl | rfl | rfl | rfl | rfl
  all_goals decide
theorem rFor_app {σ : Type} {m h : σ → D} {f : D → D → R D} : ∀ {xs : List σ} {acc : List D}, (∀ x ∈ xs, ∀ t : List D, t.length ≤ 1000 → f (m x) (.lst t) = .ok (.lst (t ++ [h x]))) → acc.length + xs.length ≤ 1000 → rFor (xs.map m) (.lst acc) f = .ok (.lst (acc ++ xs.map h))
  | [], acc, _, _ => by
    show R.ok _ = R.ok _
    simp
  | x :: xs, acc, hf, hl => by
    rw [List.length_cons] at hl
    rw [List.map_cons]
    unfold rFor
    rw [hf x List.mem_cons_self acc (by omega)]
    show rFor (xs.map m) (.lst (acc ++ [h x])) f = _
    rw [rFor_app (fun y hy => hf y (List.mem_cons_of_mem _ hy)) (by simp; omega)]
    simp
abbrev KL := List (List Nat × List Int)
def lsD (l : List Int) : D := .lst (l.map D.int)
def dcD (kv : KL) : D := .dct (kv.map fun p => nmD p.1) (kv.map fun p => lsD p.2)
def look : KL → List Nat → Option (List Int)
  | [], _ => none
  | p :: kv, n => if p.1 = n then some p.2 else look kv n
def lk0 (kv : KL) (n : List Nat) : List Int := (look kv n).getD []
def lat (kv : KL) (n : List Nat) (k : Nat) : Int := (lk0 kv n).getD k 0
theorem mkS_beq (a b : List Nat) : (mkS a == mkS b) = decide (a = b) := by
  by_cases h : a = b
  · subst h; simp
  · simp [h, mkS_inj]
theorem keyEq_nm (a b : List Nat) : keyEq (nmD a) (nmD b) = decide (a = b) := mkS_beq a b
theorem dIdx_cons {k x : D} {ks : List D} : dIdx (k :: ks) x = if keyEq k x = true then some 0 else (dIdx ks x).map (· + 1) := by
  unfold dIdx
  rw [List.findIdx?_cons]
theorem dIdx_nm (n : List Nat) : ∀ kv : KL, (look kv n = none ∧ dIdx (kv.map fun p => nmD p.1) (nmD n) = none ∧ n ∉ kv.map (·.1)) ∨ ∃ j l, look kv n = some l ∧ dIdx (kv.map fun p => nmD p.1) (nmD n) = some j ∧ kv[j]? = some (n, l)
  | [] => .inl ⟨rfl, rfl, by simp⟩
  | p :: kv => by
    rw [List.map_cons, dIdx_cons, keyEq_nm]
    by_cases h : p.1 = n
    · refine .inr ⟨0, p.2, by simp [look, h], by simp [h], ?_⟩
      subst h
      rfl
    · rcases dIdx_nm n kv with ⟨h1, h2, h3⟩ | ⟨j, l, h1, h2, h3⟩
      · refine .inl ⟨by simp [look, h, h1], by simp [h, h2], ?_⟩
        simp only [List.map_cons, List.mem_cons, not_or]
        exact ⟨fun e => h e.symm, h3⟩
      · exact .inr ⟨j + 1, l, by simp [look, h, h1], by simp [h, h2], by simpa using h3⟩
theorem isKey_nm (n : List Nat) : isKey (nmD n) = true := rfl
theorem dget_ok {kv : KL} {n : List Nat} {l : List Int} (h : look kv n = some l) : pDget (dcD kv) (nmD n) = .ok (lsD l) := by
  rcases dIdx_nm n kv with ⟨h1, _, _⟩ | ⟨j, l', h1, h2, h3⟩
  · rw [h] at h1; cases h1
  rw [h] at h1
  cases h1
  unfold dcD
  rw [pDget_dct, isKey_nm, if_pos rfl, h2]
  simp [h3]
theorem lsD_at {l : List Int} {k : Nat} (h : k < l.length) : pIx (lsD l) (.int (k : Int)) = .ok (.int (l.getD k 0)) := by
  show pIx (.lst (l.map D.int)) _ = _
  rw [pIx_ln (by simpa using h), List.getElem_map]
  simp [List.getD, h]
def dv (w : Str) (m : Int) (ns : List Int) : Int :=
  (if w = "sum" then ns.getD 0 0 % m + ns.getD 1 0 % m else if w = "less" then ns.getD 0 0 % m - ns.getD 1 0 % m else if w = "times" then (ns.getD 0 0 % m) * (ns.getD 1 0 % m)
   else if w = "least" then min (ns.getD 0 0 % m) (ns.getD 1 0 % m) else if w = "most" then max (ns.getD 0 0 % m) (ns.getD 1 0 % m)
   else if w = "pick" then (if ns.getD 0 0 % m = 0 then ns.getD 2 0 % m else ns.getD 1 0 % m) else ns.getD 0 0 % m) % m
def manyN (w : Str) : Nat := if w = "take" then 1 else wantsN w
theorem lat_at {kv : KL} {n : List Nat} {k : Nat} (h : k < (lk0 kv n).length) : R.bin2 (R.bin2 (.ok (dcD kv)) (.ok (nmD n)) pDget) (.ok (.int (k : Int))) pIx = .ok (.int (lat kv n k)) := by
  cases e : look kv n with
  | none =>
    unfold lk0 at h
    rw [e] at h
    simp at h
  | some l =>
    unfold lk0 at h
    rw [e] at h
    have h' : k < l.length := h
    rw [R.bin2_ok, dget_ok e, R.bin2_ok, lsD_at h']
    simp [lat, lk0, e]
theorem len1 {α : Type} {l : List α} (h : l.length = 1) : ∃ a, l = [a] := by
  match l, h with
  | [a], _ => exact ⟨a, rfl⟩
theorem len2 {α : Type} {l : List α} (h : l.length = 2) : ∃ a b, l = [a, b] := by
  match l, h with
  | [a, b], _ => exact ⟨a, b, rfl⟩
theorem len3 {α : Type} {l : List α} (h : l.length = 3) : ∃ a b c, l = [a, b, c] := by
  match l, h with
  | [a, b, c], _ => exact ⟨a, b, c, rfl⟩
theorem rests_l {ns : List Int} {m : Int} (hm : 0 < m) (hl : ns.length ≤ 16777216) : pComp (R.bind (.ok (lsD ns)) toSeq) (fun d => .ok d) (fun _ => (.ok true)) (fun p1 => (R.bin2 (.ok p1) (.ok (.int m)) pMod)) = .ok (lsD (ns.map (· % m))) := by
  show pComp (R.bind (.ok (.lst (ns.map D.int))) toSeq) _ _ _ = _
  rw [R.bind_ok, toSeq_l, pComp_map (g := fun n : Int => D.int (n % m)) (fun x hx => pMod_ii hm) hl]
  simp [lsD, List.map_map, Function.comp_def]
theorem rest_bd {a m : Int} (hm : 0 < m) (h2 : m ≤ 10 ^ 60) : bd 200 (a % m) := by
  have h1 := Int.emod_nonneg a (show m ≠ 0 by omega)
  have h3 := Int.emod_lt_of_pos a hm
  exact bd_le (m := 10 ^ 60) (by omega) (by omega) (by decide)
theorem of_by {o : D} {ns : List Int} {m x : Int} (hm : 0 < m) (hl : ns.length ≤ 3) (e : ((dsp tab_made "made" o).bind fun f => f [o, lsD (ns.map (· % m))]) = .ok (.int x)) : f_Deed_of [o, lsD ns, .int m] = .ok (.int (x % m)) := by
  show b_Deed_of _ _ _ = _
  unfold b_Deed_of
  rw [rests_l hm (by omega)]
  unfold R.bin2
  have e2 : (R.bind (.ok o) fun d => R.bind (dsp tab_made "made" d) fun f => R.bind (R.cons (.ok (lsD (ns.map (· % m)))) (.ok [])) fun ds => f (d :: ds)) = .ok (.int x) := by
    rw [R.bind_ok, R.cons_ok]
    simp only [R.bind_ok]
    exact e
  rw [e2, R.bind_ok, R.bind_ok, pMod_ii hm]
theorem deed_ok {w : Str} (hw : w ∈ W9) {m : Int} (hm : 0 < m) (h2 : m ≤ 10 ^ 60) {ns : List Int} (hl : ns.length = manyN w) {e : R D} (he : e = .ok (.str w)) : (R.bind (R.bind (R.cons e (.ok [])) f_deed_of) fun d => R.bind (dsp tab_of "of" d) fun f => R.bind (R.cons (.ok (lsD ns)) (R.cons (R.bind (.ok (.int m)) fun d => .ok d) (.ok []))) fun ds => f (d :: ds)) = .ok (.int (dv w m ns)) := by
  subst he
  simp only [W9, List.mem_cons, List.not_mem_nil, or_false] at hw
  rw [R.cons_ok, R.bind_ok]
  have step : ∀ (c : Str) (x : Int), f_deed_of [.str w] = .ok (.obj c [] []) → dsp tab_of "of" (.obj c [] []) = .ok f_Deed_of → ns.length ≤ 3 → x % m = dv w m ns → ((dsp tab_made "made" (.obj c [] [])).bind fun f => f [.obj c [] [], lsD (ns.map (· % m))]) = .ok (.int x) → (R.bind (f_deed_of [.str w]) fun d => R.bind (dsp tab_of "of" d) fun f => R.bind (R.cons (.ok (lsD ns)) (R.cons (R.bind (.ok (.int m)) fun d => .ok d) (.ok []))) fun ds => f (d :: ds)) = .ok (.int (dv w m ns)) := by
    intro c x e1 e2 l3 ex e3
    rw [e1, R.bind_ok, e2, R.bind_ok, R.bind_ok, R.cons_ok, R.cons_ok, R.bind_ok, of_by hm l3 e3, ex]
  rcases hw with rfl | rfl | rfl | rfl | rfl | rfl | rfl | rfl | rfl
  · obtain ⟨a, b, rfl⟩ := len2 hl
    exact step "Sum" (a % m + b % m) rfl rfl (by simp) rfl rfl
  · obtain ⟨a, b, rfl⟩ := len2 hl
    exact step "Less" (a % m - b % m) rfl rfl (by simp) rfl rfl
  · obtain ⟨a, b, rfl⟩ := len2 hl
    refine step "Times" (a % m * (b % m)) rfl rfl (by simp) rfl ?_
    have ok : pMul (.int (a % m)) (.int (b % m)) = .ok (.int (a % m * (b % m))) := pMul_ii ((rest_bd hm h2).mulOk (rest_bd hm h2) (by decide))
    rw [show dsp tab_made "made" (.obj "Times" [] []) = .ok f_Times_made from rfl, R.bind_ok]
    show b_Times_made (.obj "Times" [] []) (.lst [.int (a % m), .int (b % m)]) = _
    unfold b_Times_made
    simp only [R.bin2_ok, pIx_0, pIx_1, ok]
  · obtain ⟨a, b, rfl⟩ := len2 hl
    exact step "Least" (min (a % m) (b % m)) rfl rfl (by simp) rfl rfl
  · obtain ⟨a, b, rfl⟩ := len2 hl
    exact step "Most" (max (a % m) (b % m)) rfl rfl (by simp) rfl rfl
  · obtain ⟨a, b, c, rfl⟩ := len3 hl
    refine step "Pick" (if a % m = 0 then c % m else b % m) rfl rfl (by simp) rfl ?_
    rw [show dsp tab_made "made" (.obj "Pick" [] []) = .ok f_Pick_made from rfl, R.bind_ok]
    show b_Pick_made (.obj "Pick" [] []) (.lst [.int (a % m), .int (b % m), .int (c % m)]) = _
    unfold b_Pick_made
    simp only [R.bin2_ok, pIx_0, pIx_1, pIx_2, pEq_ii, R.bind_ok, toB_bl, beq_iff_eq]
    split <;> rfl
  · obtain ⟨a, rfl⟩ := len1 hl
    exact step "Same" (a % m) rfl rfl (by simp) rfl rfl
  · obtain ⟨a, rfl⟩ := len1 hl
    exact step "Tell" (a % m) rfl rfl (by simp) rfl rfl
  · obtain ⟨a, rfl⟩ := len1 hl
    exact step "Take" (a % m) rfl rfl (by simp) rfl rfl
inductive Sr where
  | num (i : Int) | box (k : Int)
structure Stp where
  w : Str
  dl : Int
  bx : Int
  rs : List Sr
  n : List Nat
  t : Int
def srD : Sr → D
  | .num i => .int i
  | .box k => .tup [.str "box", .int k]
def stpD (s : Stp) : D := .tup [.str s.w, .int s.dl, .int s.bx, .lst (s.rs.map srD), nmD s.n, .int s.t]
abbrev Part := List (List Stp)
def tkD (l : List Stp) : D := .lst (l.map stpD)
def partD (l : Part) : D := .lst (l.map tkD)
theorem fldJ_at {cl f : Str} {j : Nat} {ns : List Str} {xs : List D} {d : D} (h1 : ns[j]? = some f) (h2 : (ns.take j).contains f = false) (h3 : ns.length < 1000) (h4 : xs[j]? = some d) : fldJ cl f j (.obj cl ns xs) = .ok d := by
  show (if cl = cl ∧ ns[j]? = some f ∧ (ns.take j).contains f = false ∧ ns.length < 1000 then (match xs[j]? with
    | some d => R.ok d
    | none => .bad) else .bad) = _
  rw [if_pos ⟨rfl, h1, h2, h3⟩, h4]
abbrev Due := List (Int × Nat × Int)
def landB (x : Int) (B : List Int) (l : Due) : List Int := l.foldl (fun B q => if q.1 = x then B.set q.2.1 q.2.2 else B) B
theorem landB_len {x : Int} : ∀ {l : Due} {B : List Int}, (landB x B l).length = B.length
  | [], _ => rfl
  | q :: l, B => by
    show (landB x (if q.1 = x then B.set q.2.1 q.2.2 else B) l).length = _
    rw [landB_len]
    split <;> simp
abbrev Told := List (List Nat × Int × Int)
def tellD (l : Told) : D := .lst (l.map fun q => .tup [nmD q.1, .int q.2.1, .int q.2.2])
theorem pW_is {f : List D → R D} {n : Nat} {ds : List D} {x y : D} (h : f ds = .ok (.tup [x, y])) (hl : ds.length = n) : pW f n ds = .ok (x, y) := by
  unfold pW
  rw [if_pos hl, h]
def dueD (l : Due) : D := .lst (l.map fun q => .tup [.int q.1, .int (q.2.1 : Nat), .int q.2.2])
theorem law_landed_ok {B : List Int} {l : Due} {x : Int} (hb : ∀ q ∈ l, q.2.1 < B.length) : f_law_landed [dueD l, .int x, lsD B] = .ok (.tup [.non, lsD (landB x B l)]) := by
  show b_law_landed _ _ _ = _
  unfold b_law_landed dueD
  rw [R.bind_ok, toSeq_l, R.bind_ok]
  have z := rFor_foldI (ρ := List Int) (f := fun y t1 => R.bind (un3 y) fun p2 => (l_law_landed_1 (.int x)) p2 t1) (g := fun (B : List Int) (q : Int × Nat × Int) => if q.1 = x then B.set q.2.1 q.2.2 else B) (m := fun q : Int × Nat × Int => D.tup [.int q.1, .int (q.2.1 : Nat), .int q.2.2]) (e := lsD) (xs := l) (t := B) (fun _ t => t.length = B.length) (fun j q t hq ht => by
    refine ⟨?_, by split <;> simp [ht]⟩
    refine (bind_eq (a := (D.int q.1, D.int (q.2.1 : Nat), D.int q.2.2)) rfl).trans ?_
    unfold l_law_landed_1
    dsimp only
    rw [R.bin2_ok, pEq_ii, R.bind_ok, toB_bl, R.bind_ok]
    by_cases e : q.1 = x
    · rw [if_pos (by simpa using e), if_pos e, R.bind_ok]
      show R.bind (toL (.lst (t.map D.int))) _ = _
      rw [toL_l, R.bind_ok, R.bind_ok, setL1_ok (by rw [List.length_map, ht]; exact hb q (List.mem_of_getElem? hq)), R.bind_ok]
      unfold lsD
      rw [List.map_set]
    · rw [if_neg (by simpa using e), if_neg e]) rfl
  rw [z.1, R.bind_ok]
  rfl
abbrev DueA := List (Int × List (Nat × Int))
def entD (z : Nat × Int) : D := .tup [.int (z.1 : Nat), .int z.2]
def duaD (A : DueA) : D := .dct (A.map fun q => D.int q.1) (A.map fun q => .lst (q.2.map entD))
def flrD (m : Int) (fd : D) (B : List Int) (A : DueA) (x : Int) (tl : Told) : D := .obj "Floor" ["measure", "feeds", "boxes", "due", "clock", "told"] [.int m, fd, lsD B, duaD A, .int x, tellD tl]
section
variable {m x : Int} {fd : D} {B : List Int} {A : DueA} {tl : Told}
theorem fl_measure : fldJ "Floor" "measure" 0 (flrD m fd B A x tl) = .ok (.int m) := fldJ_at rfl (by decide) (by decide) rfl
theorem fl_boxes : fldJ "Floor" "boxes" 2 (flrD m fd B A x tl) = .ok (lsD B) := fldJ_at rfl (by decide) (by decide) rfl
theorem fl_due : fldJ "Floor" "due" 3 (flrD m fd B A x tl) = .ok (duaD A) := fldJ_at rfl (by decide) (by decide) rfl
theorem fl_clock : fldJ "Floor" "clock" 4 (flrD m fd B A x tl) = .ok (.int x) := fldJ_at rfl (by decide) (by decide) rfl
theorem fl_told : fldJ "Floor" "told" 5 (flrD m fd B A x tl) = .ok (tellD tl) := fldJ_at rfl (by decide) (by decide) rfl
theorem as_flr {f : Str} (h : (["measure", "feeds", "boxes", "due", "clock", "told"] : List Str).contains f = false) : asObj "Floor" f (flrD m fd B A x tl) = .ok (flrD m fd B A x tl) := by
  show (if ("Floor" : Str) = "Floor" ∧ (["measure", "feeds", "boxes", "due", "clock", "told"] : List Str).contains f = false then R.ok (flrD m fd B A x tl) else .bad) = _
  rw [if_pos ⟨rfl, h⟩]
end
structure DuaOk (A : DueA) : Prop where
  nd : (A.map (·.1)).Nodup
  ne : ∀ e ∈ A, e.2 ≠ []
theorem dIdx_ints {x : Int} : ∀ {A : DueA} {n : Nat}, (A.map (·.1)).Nodup → (A.map (·.1)).getD n 0 = x → n < A.length → dIdx (A.map fun q => D.int q.1) (.int x) = some n
  | e :: A, 0, nd, h, _ => by
    have h : e.1 = x := by simpa using h
    unfold dIdx
    rw [List.map_cons, List.findIdx?_cons, if_pos (by rw [h]; simp [keyEq])]
  | e :: A, n + 1, nd, h, hl => by
    rw [List.map_cons, List.nodup_cons] at nd
    have hA : (A.map (·.1)).getD n 0 = x := by simpa using h
    have hl2 : n < A.length := by simpa using hl
    have ne : e.1 ≠ x := fun z => nd.1 (by
      rw [z, ← hA]
      have hl3 : n < (A.map (·.1)).length := by simpa using hl2
      rw [show (A.map (·.1)).getD n 0 = (A.map (·.1))[n] by simp [List.getD, hl2]]
      exact List.getElem_mem hl3)
    have ih := dIdx_ints nd.2 hA hl2
    unfold dIdx at ih ⊢
    rw [List.map_cons, List.findIdx?_cons, if_neg (by simpa [keyEq] using ne), ih]
    rfl
theorem dIdx_intn {x : Int} : ∀ {A : DueA}, x ∉ A.map (·.1) → dIdx (A.map fun q => D.int q.1) (.int x) = none
  | [], _ => rfl
  | e :: A, h => by
    rw [List.map_cons, List.mem_cons, not_or] at h
    have ih := dIdx_intn h.2
    unfold dIdx at ih ⊢
    rw [List.map_cons, List.findIdx?_cons, if_neg (by simpa [keyEq] using fun z : e.1 = x => h.1 z.symm), ih]
    rfl
theorem key_at {x : Int} {A : DueA} (h : x ∈ A.map (·.1)) : ∃ (n : Nat) (L : List (Nat × Int)), A[n]? = some (x, L) := by
  obtain ⟨e, he, rfl⟩ := List.mem_map.mp h
  obtain ⟨n, hn⟩ := List.mem_iff_getElem?.mp he
  exact ⟨n, e.2, hn⟩
theorem dIdx_at {x : Int} {A : DueA} {n : Nat} {L : List (Nat × Int)} (nd : (A.map (·.1)).Nodup) (h : A[n]? = some (x, L)) : dIdx (A.map fun q => D.int q.1) (.int x) = some n := by
  refine dIdx_ints nd ?_ (List.getElem?_eq_some_iff.mp h).1
  simp [List.getD, h]
theorem only_at {x : Int} {A : DueA} {n : Nat} {L : List (Nat × Int)} (nd : (A.map (·.1)).Nodup) (h : A[n]? = some (x, L)) {e : Int × List (Nat × Int)} (he : e ∈ A) (hx : e.1 = x) : e = (x, L) := by
  obtain ⟨j, hj⟩ := List.mem_iff_getElem?.mp he
  obtain ⟨h1, h2⟩ := List.getElem?_eq_some_iff.mp h
  obtain ⟨h3, h4⟩ := List.getElem?_eq_some_iff.mp hj
  have : n = j := (List.getElem_inj nd (h₀ := by simpa using h1) (h₁ := by simpa using h3)).mp (by
    rw [List.getElem_map, List.getElem_map, h2, h4]
    exact hx.symm)
  subst this
  rw [h] at hj
  exact (Option.some.inj hj).symm
def addA (A : DueA) (x : Int) (z : Nat × Int) : DueA := if x ∈ A.map (·.1) then A.map (fun e => if e.1 = x then (e.1, e.2 ++ [z]) else e) else A ++ [(x, [z])]
theorem addA_keys {A : DueA} {x : Int} {z : Nat × Int} : (addA A x z).map (·.1) = if x ∈ A.map (·.1) then A.map (·.1) else A.map (·.1) ++ [x] := by
  unfold addA
  split
  · rw [List.map_map]
    refine List.map_congr_left fun e _ => ?_
    show (if e.1 = x then (e.1, e.2 ++ [z]) else e).1 = e.1
    split <;> rfl
  · simp
theorem addA_ok {A : DueA} {x : Int} {z : Nat × Int} (h : DuaOk A) : DuaOk (addA A x z) := by
  refine ⟨?_, fun e he => ?_⟩
  · rw [addA_keys]
    split
    · exact h.nd
    · rename_i hx
      rw [List.nodup_append]
      refine ⟨h.nd, by simp, fun a ha b hb => ?_⟩
      have hb : b = x := by simpa using hb
      subst hb
      exact fun e => hx (e ▸ ha)
  · unfold addA at he
    split at he
    · obtain ⟨e0, h0, rfl⟩ := List.mem_map.mp he
      split
      · simp
      · exact h.ne e0 h0
    · rcases List.mem_append.mp he with h0 | h0
      · exact h.ne e h0
      · have : e = (x, [z]) := by simpa using h0
        rw [this]
        simp
theorem set_map {A : DueA} {n : Nat} {x : Int} {L : List (Nat × Int)} {z : Nat × Int} (nd : (A.map (·.1)).Nodup) (h : A[n]? = some (x, L)) : A.set n (x, L ++ [z]) = A.map fun e => if e.1 = x then (e.1, e.2 ++ [z]) else e := by
  apply List.ext_getElem?
  intro i
  rw [List.getElem?_map]
  by_cases e : i = n
  · subst e
    rw [List.getElem?_set_self (List.getElem?_eq_some_iff.mp h).1, h]
    simp
  · rw [List.getElem?_set_ne (Ne.symm e)]
    cases hi : A[i]? with
    | none => rfl
    | some y =>
      rw [Option.map_some]
      congr 1
      have : y.1 ≠ x := fun z => e (by
        have := only_at nd h (List.mem_of_getElem? hi) z
        subst this
        obtain ⟨h1, h2⟩ := List.getElem?_eq_some_iff.mp h
        obtain ⟨h3, h4⟩ := List.getElem?_eq_some_iff.mp hi
        exact (List.getElem_inj nd (h₀ := by simpa using h3) (h₁ := by simpa using h1)).mp (by rw [List.getElem_map, List.getElem_map, h2, h4]))
      rw [if_neg this]
theorem setd_ok {A : DueA} (h : DuaOk A) (hl : A.length < 16777216) {x : Int} {z : Nat × Int} (hz : ∀ e ∈ A, e.2.length < 16777216) {S : D → Nat → List D → R D} {Q : R D}
    (hS : ∀ y n xs, (appL xs (entD z)) = .ok (.lst (xs ++ [entD z])) → setIt y n (.lst (xs ++ [entD z])) = duaD (addA A x z) → S y n xs = Q) :
    ((pSetd (A.map fun q => D.int q.1, A.map fun q => .lst (q.2.map entD)) (.int x)).bind fun y => (plDx y (.int x)).bind fun n => (itemL y n).bind fun xs => S y n xs) = Q := by
  have fin : ∀ (A1 : DueA) (n : Nat) (L : List (Nat × Int)), (A1.map (·.1)).Nodup → A1[n]? = some (x, L) → L.length < 16777216 → A1.set n (x, L ++ [z]) = addA A x z → ((R.ok (duaD A1)).bind fun y => (plDx y (.int x)).bind fun n => (itemL y n).bind fun xs => S y n xs) = Q := by
    intro A1 n L nd hn hL hA
    have e1 : plDx (duaD A1) (.int x) = .ok n := by
      show (if isKey (.int x) then (match dIdx (A1.map fun q => D.int q.1) (.int x) with
        | some j => (R.ok j : R Nat)
        | none => .bad) else .bad) = _
      rw [dIdx_at nd hn]
      rfl
    have e2 : itemL (duaD A1) n = .ok (L.map entD) := by
      unfold itemL
      show (match (A1.map fun q => D.lst (q.2.map entD))[n]? with
        | some (.lst xs) => R.ok xs
        | _ => .bad) = _
      rw [List.getElem?_map, hn]
      rfl
    rw [R.bind_ok, e1, R.bind_ok, e2, R.bind_ok]
    refine hS _ _ _ (appL_ok (by simpa using hL)) ?_
    show D.dct (A1.map fun q => D.int q.1) ((A1.map fun q => D.lst (q.2.map entD)).set n (.lst (L.map entD ++ [entD z]))) = _
    rw [← hA]
    unfold duaD
    congr 1
    · apply List.ext_getElem?
      intro i
      rw [List.getElem?_map, List.getElem?_map]
      by_cases e : i = n
      · subst e
        rw [List.getElem?_set_self (List.getElem?_eq_some_iff.mp hn).1, hn]
        rfl
      · rw [List.getElem?_set_ne (Ne.symm e)]
    · rw [List.map_set]
      simp
  unfold pSetd
  rw [if_pos (by rw [Bool.and_eq_true_iff]; exact ⟨rfl, decide_eq_true (by simpa using hl)⟩)]
  have hany : (A.map fun q => D.int q.1).any (fun w => keyEq w (.int x)) = decide (x ∈ A.map (·.1)) := by
    rw [List.any_map]
    rcases Decidable.em (x ∈ A.map (·.1)) with hx | hx
    · rw [decide_eq_true hx, List.any_eq_true]
      obtain ⟨e, he, ex⟩ := List.mem_map.mp hx
      exact ⟨e, he, by simpa [keyEq] using ex⟩
    · rw [decide_eq_false hx, List.any_eq_false]
      intro e he
      have : e.1 ≠ x := fun z => hx (List.mem_map.mpr ⟨e, he, z⟩)
      simpa [keyEq] using this
  dsimp only
  rw [hany]
  by_cases hx : x ∈ A.map (·.1)
  · rw [decide_eq_true hx, if_pos rfl]
    obtain ⟨n, L, hn⟩ := key_at hx
    refine fin A n L h.nd hn (hz _ (List.mem_of_getElem? hn)) ?_
    rw [set_map h.nd hn]
    unfold addA
    rw [if_pos hx]
  · rw [decide_eq_false hx, if_neg (by decide)]
    have e0 : D.dct ((A.map fun q => D.int q.1) ++ [.int x]) ((A.map fun q => D.lst (q.2.map entD)) ++ [.lst []]) = duaD (A ++ [(x, [])]) := by
      unfold duaD
      simp
    rw [e0]
    refine fin (A ++ [(x, [])]) A.length [] ?_ (by simp) (by simp) ?_
    · rw [List.map_append, List.nodup_append]
      refine ⟨h.nd, by simp, fun a ha b hb => ?_⟩
      have hb : b = x := by simpa using hb
      subst hb
      exact fun e => hx (e ▸ ha)
    · unfold addA
      rw [if_neg hx]
      simp
def popA (A : DueA) (x : Int) : DueA := A.filter fun e => decide (e.1 ≠ x)
def lookA (A : DueA) (x : Int) : List (Nat × Int) := ((A.find? fun e => decide (e.1 = x)).map (·.2)).getD []
theorem zip_filter {x : Int} : ∀ A : DueA, ((A.map fun q => D.int q.1).zip (A.map fun q => D.lst (q.2.map entD))).filter (fun p => !keyEq p.1 (.int x)) = (popA A x).map fun q => (D.int q.1, D.lst (q.2.map entD))
  | [] => rfl
  | e :: A => by
    have ih := zip_filter (x := x) A
    unfold popA at ih ⊢
    rw [List.map_cons, List.map_cons, List.zip_cons_cons]
    by_cases h : e.1 = x
    · rw [List.filter_cons_of_neg (by simp [keyEq, h]), List.filter_cons_of_neg (by simp [h]), ih]
    · rw [List.filter_cons_of_pos (by simp [keyEq, h]), List.filter_cons_of_pos (by simp [h]), ih]
      rfl
theorem pop_ok {A : DueA} {x : Int} (h : DuaOk A) : pPopO (A.map fun q => D.int q.1, A.map fun q => .lst (q.2.map entD)) (.int x) = .ok ((lookA A x).map entD, duaD (popA A x)) := by
  have e1 : dDrop (A.map fun q => D.int q.1) (A.map fun q => D.lst (q.2.map entD)) (.int x) = duaD (popA A x) := by
    unfold dDrop duaD
    rw [zip_filter]
    simp [List.map_map, Function.comp_def]
  unfold pPopO
  rw [if_pos (show isKey (.int x) = true from rfl)]
  by_cases hx : x ∈ A.map (·.1)
  · obtain ⟨n, L, hn⟩ := key_at hx
    dsimp only
    rw [dIdx_at h.nd hn]
    have e2 : (A.map fun q => D.lst (q.2.map entD))[n]? = some (.lst (L.map entD)) := by rw [List.getElem?_map, hn]; rfl
    have e3 : lookA A x = L := by
      unfold lookA
      obtain ⟨e, he⟩ : ∃ e, A.find? (fun e => decide (e.1 = x)) = some e := by
        cases hf : A.find? fun e => decide (e.1 = x) with
        | some e => exact ⟨e, rfl⟩
        | none =>
          have := List.find?_eq_none.mp hf _ (List.mem_of_getElem? hn)
          simp at this
      rw [he]
      have := only_at h.nd hn (List.mem_of_find?_eq_some he) (by simpa using List.find?_some he)
      rw [this]
      rfl
    dsimp only
    rw [e2]
    dsimp only
    rw [e1, e3]
  · dsimp only
    rw [dIdx_intn hx]
    have e3 : lookA A x = [] := by
      unfold lookA
      have : A.find? (fun e => decide (e.1 = x)) = none := List.find?_eq_none.mpr fun e he => by
        have : e.1 ≠ x := fun z => hx (List.mem_map.mpr ⟨e, he, z⟩)
        simpa using this
      rw [this]
      rfl
    have e4 : popA A x = A := List.filter_eq_self.mpr fun e he => by
      have : e.1 ≠ x := fun z => hx (List.mem_map.mpr ⟨e, he, z⟩)
      simpa using this
    dsimp only
    rw [e3, e4]
    rfl
theorem popA_ok {A : DueA} {x : Int} (h : DuaOk A) : DuaOk (popA A x) := ⟨h.nd.sublist (List.Sublist.map _ List.filter_sublist), fun e he => h.ne e (List.mem_filter.mp he).1⟩
def putB (B : List Int) (l : List (Nat × Int)) : List Int := l.foldl (fun B z => B.set z.1 z.2) B
theorem flr_land {m x : Int} {fd : D} {B : List Int} {A : DueA} {tl : Told} (hA : DuaOk A) (hb : ∀ z ∈ lookA A x, z.1 < B.length) : f_Floor_land [flrD m fd B A x tl] = .ok (.tup [.non, flrD m fd (putB B (lookA A x)) (popA A x) x tl]) := by
  show b_Floor_land _ = _
  unfold b_Floor_land
  rw [fl_due, R.bind_ok]
  refine (bind_eq (a := (A.map fun q => D.int q.1, A.map fun q => D.lst (q.2.map entD))) rfl).trans ?_
  rw [fl_clock, R.bind_ok, pop_ok hA, R.bind_ok, R.bind_ok]
  have e0 : setJ 3 (duaD (popA A x)) (flrD m fd B A x tl) = flrD m fd B (popA A x) x tl := rfl
  dsimp only
  rw [e0]
  have z := rFor_foldI (ρ := List Int) (f := fun y t1 => R.bind (un2 y) fun p2 => l_Floor_land_1 p2 t1) (g := fun (B : List Int) (z : Nat × Int) => B.set z.1 z.2) (m := entD) (e := fun B => flrD m fd B (popA A x) x tl) (xs := lookA A x) (t := B) (fun _ t => t.length = B.length) (fun j q t hq ht => by
    refine ⟨?_, by simpa using ht⟩
    refine (bind_eq (a := (D.int (q.1 : Nat), D.int q.2)) rfl).trans ?_
    unfold l_Floor_land_1
    dsimp only
    rw [R.bind_ok, fl_boxes, R.bind_ok]
    show R.bind (toL (.lst (t.map D.int))) _ = _
    rw [toL_l, R.bind_ok, R.bind_ok, setL1_ok (by rw [List.length_map, ht]; exact hb q (List.mem_of_getElem? hq)), R.bind_ok, R.bind_ok]
    have e1 : setJ 2 (.lst ((t.map D.int).set q.1 (.int q.2))) (flrD m fd t (popA A x) x tl) = flrD m fd (t.set q.1 q.2) (popA A x) x tl := by
      unfold flrD
      show D.obj _ _ [_, _, _, _, _, _] = D.obj _ _ [_, _, _, _, _, _]
      congr 4
      unfold lsD
      rw [List.map_set]
    rw [e1]) rfl
  rw [z.1, R.bind_ok]
  rfl
theorem addA_len {A : DueA} {x : Int} {z : Nat × Int} : (addA A x z).length ≤ A.length + 1 := by
  unfold addA
  split <;> simp
theorem addA_ent {A : DueA} {x : Int} {z : Nat × Int} {c : Nat} (h : ∀ e ∈ A, e.2.length ≤ c) : ∀ e ∈ addA A x z, e.2.length ≤ c + 1 := fun e he => by
  unfold addA at he
  split at he
  · obtain ⟨e0, h0, rfl⟩ := List.mem_map.mp he
    have := h e0 h0
    split
    · simp; omega
    · omega
  · rcases List.mem_append.mp he with h0 | h0
    · have := h e h0
      omega
    · have : e = (x, [z]) := by simpa using h0
      rw [this]
      simp
theorem popA_len {A : DueA} {x : Int} : (popA A x).length ≤ A.length := List.length_filter_le _ _
theorem flr_clock {m x : Int} {fd : D} {B : List Int} {A : DueA} {tl : Told} : setJ 4 (.int (x + 1)) (flrD m fd B A x tl) = flrD m fd B A (x + 1) tl := rfl
theorem whole_int (i : Int) : f_law_whole [.int i] = .ok (.bl true) := rfl
theorem alike_self {l : List Int} (hl : l.length ≤ 1000) : f_law_alike [lsD l, lsD l] = .ok (.bl true) := by
  show b_law_alike (.lst (l.map D.int)) (.lst (l.map D.int)) = _
  unfold b_law_alike
  refine (bind_eq (a := false) ?_).trans ?_
  · simp only [R.bind_ok, isTy_lst, toB_bl, notT_ok, R.cons_ok, pLen_l, R.bin2_ok, pNe_ii]
    simp
  rw [if_neg (by decide), R.cons_ok, R.bind_ok (f := pLen), pLen_l, R.bind_ok, List.length_map, pRange1_ok (by omega), R.bind_ok]
  refine (bind_eq (rForX_nx fun x hx => ?_)).trans rfl
  obtain ⟨k, hk, rfl⟩ := mem_rngL hx
  rw [Int.zero_add]
  unfold l_law_alike_1
  have e : pIx (.lst (l.map D.int)) (.int (k : Int)) = .ok (.int (l.getD k 0)) := lsD_at hk
  refine (bind_eq (a := false) ?_).trans rfl
  simp only [R.bin2_ok, e, R.cons_ok, R.bind_ok, whole_int, toB_bl, notT_ok, pNe_ii]
  simp
end Lx
namespace Lx
open PySem PySem.Spec PyProof.Rows L2 Lw
theorem law_makes_ok {w : Str} (hw : w ∈ W9) {m : Int} (hm : 0 < m) (h2 : m ≤ 10 ^ 60) {ns : List Int} (hl : ns.length = manyN w) : f_law_makes [.str w, lsD ns, .int m] = .ok (.int (dv w m ns)) := by
  simp only [W9, List.mem_cons, List.not_mem_nil, or_false] at hw
  show b_law_makes _ _ _ = _
  unfold b_law_makes
  rw [rests_l hm (by rcases hw with rfl | rfl | rfl | rfl | rfl | rfl | rfl | rfl | rfl <;> (rw [hl]; decide)), R.bind_ok]
  have rest : ∀ a : Int, a % m % m = a % m := fun a => Int.emod_emod_of_dvd a (Int.dvd_refl m)
  have rmin : ∀ a b : Int, min (a % m) (b % m) % m = min (a % m) (b % m) := fun a b => by
    rcases Int.le_total (a % m) (b % m) with h | h
    · rw [Int.min_eq_left h, rest]
    · rw [Int.min_eq_right h, rest]
  have rmax : ∀ a b : Int, max (a % m) (b % m) % m = max (a % m) (b % m) := fun a b => by
    rcases Int.le_total (a % m) (b % m) with h | h
    · rw [Int.max_eq_right h, rest]
    · rw [Int.max_eq_left h, rest]
  rcases hw with rfl | rfl | rfl | rfl | rfl | rfl | rfl | rfl | rfl
  · obtain ⟨a, b, rfl⟩ := len2 hl
    refine (bind_eq (a := true) rfl).trans ?_
    rw [if_pos rfl]
    show R.bind (R.bin2 (R.ok (D.int (a % m + b % m))) (.ok (.int m)) pMod) _ = _
    rw [R.bin2_ok, pMod_ii hm]
    rfl
  · obtain ⟨a, b, rfl⟩ := len2 hl
    show R.bind (R.bin2 (R.ok (D.int (a % m - b % m))) (.ok (.int m)) pMod) _ = _
    rw [R.bin2_ok, pMod_ii hm]
    rfl
  · obtain ⟨a, b, rfl⟩ := len2 hl
    have ok : pMul (.int (a % m)) (.int (b % m)) = .ok (.int (a % m * (b % m))) := pMul_ii ((rest_bd hm h2).mulOk (rest_bd hm h2) (by decide))
    show R.bind (R.bin2 (pMul (.int (a % m)) (.int (b % m))) (.ok (.int m)) pMod) _ = _
    rw [ok, R.bin2_ok, pMod_ii hm]
    rfl
  · obtain ⟨a, b, rfl⟩ := len2 hl
    show R.bind (pMin2 [.int (a % m), .int (b % m)]) _ = R.ok (D.int (min (a % m) (b % m) % m))
    rw [rmin, pMin2_i]
    show R.ok (D.int _) = R.ok (D.int _)
    congr 2
    rcases Int.le_total (a % m) (b % m) with h | h
    · rw [Int.min_eq_left h]
      split <;> omega
    · rw [Int.min_eq_right h]
      split <;> omega
  · obtain ⟨a, b, rfl⟩ := len2 hl
    show R.bind (pMax2 [.int (a % m), .int (b % m)]) _ = R.ok (D.int (max (a % m) (b % m) % m))
    rw [rmax, pMax2_i]
    show R.ok (D.int _) = R.ok (D.int _)
    congr 2
    rcases Int.le_total (a % m) (b % m) with h | h
    · rw [Int.max_eq_right h]
      split <;> omega
    · rw [Int.max_eq_left h]
      split <;> omega
  · obtain ⟨a, b, c, rfl⟩ := len3 hl
    by_cases h : a % m = 0
    · have e : dv "pick" m [a, b, c] = c % m := by
        show (if a % m = 0 then c % m else b % m) % m = _
        rw [if_pos h, rest]
      rw [e]
      show R.bind (R.bin2 (R.ok (D.lst [.int (a % m), .int (b % m), .int (c % m)])) (R.bin2 (.ok (.int 1)) (R.bind (R.cons (pEq (.int (a % m)) (.int 0)) (.ok [])) pInt) pAdd) pIx) _ = _
      rw [h]
      rfl
    · have e : dv "pick" m [a, b, c] = b % m := by
        show (if a % m = 0 then c % m else b % m) % m = _
        rw [if_neg h, rest]
      rw [e]
      show R.bind (R.bin2 (R.ok (D.lst [.int (a % m), .int (b % m), .int (c % m)])) (R.bin2 (.ok (.int 1)) (R.bind (R.cons (pEq (.int (a % m)) (.int 0)) (.ok [])) pInt) pAdd) pIx) _ = _
      rw [pEq_ii, show (a % m == 0) = false by simpa using h]
      rfl
  · obtain ⟨a, rfl⟩ := len1 hl
    show R.ok (D.int (a % m)) = R.ok (D.int (a % m % m))
    rw [rest]
  · obtain ⟨a, rfl⟩ := len1 hl
    show R.ok (D.int (a % m)) = R.ok (D.int (a % m % m))
    rw [rest]
  · obtain ⟨a, rfl⟩ := len1 hl
    show R.ok (D.int (a % m)) = R.ok (D.int (a % m % m))
    rw [rest]
end Lx
namespace Lx
open PySem PySem.Spec PyProof.Rows L2 Lw
def nIn : List Nat := [105, 110]
def nOn : List Nat := [111, 110]
def rdB (B : List Int) : Sr → Int
  | .num i => i
  | .box k => B.getD k.toNat 0
def numS (fd : KL) (B : List Int) (b : Int) (s : Stp) : List Int := if s.w = "take" then [lat fd s.n (b + s.t).toNat] else s.rs.map (rdB B)
def valS (m : Int) (fd : KL) (B : List Int) (b : Int) (s : Stp) : Int := dv s.w m (numS fd B b s)
structure StpOk (nb : Nat) (s : Stp) : Prop where
  w : s.w ∈ W9
  l : s.rs.length = wantsN s.w
  d : 1 ≤ s.dl ∧ s.dl ≤ 6
  b : 0 ≤ s.bx ∧ s.bx < nb
  r : ∀ k, Sr.box k ∈ s.rs → 0 ≤ k ∧ k < nb
  n : s.n = nIn ∨ s.n = nOn
  t : 0 ≤ s.t ∧ s.t ≤ 4
structure RunS (m : Int) (fd : KL) (T : Int) : Prop where
  m1 : 0 < m
  m2 : m ≤ 10 ^ 60
  fd : ∀ n, n = nIn ∨ n = nOn → T + 5 ≤ (lk0 fd n).length
section
variable {m T x b : Int} {fd : KL} {nb : Nat} {s : Stp} {B : List Int} {A : DueA} {tl : Told}
theorem numS_len (hs : StpOk nb s) : (numS fd B b s).length = manyN s.w := by
  unfold numS manyN
  split
  · rfl
  · rw [List.length_map, hs.l]
theorem sx_0 : pIx (stpD s) (.int 0) = .ok (.str s.w) := pIx_t0
theorem sx_1 : pIx (stpD s) (.int 1) = .ok (.int s.dl) := pIx_t1
theorem sx_2 : pIx (stpD s) (.int 2) = .ok (.int s.bx) := pIx_t2
theorem sx_3 : pIx (stpD s) (.int 3) = .ok (.lst (s.rs.map srD)) := pIx_t (atI_nat (i := 3) (by simp))
theorem sx_4 : pIx (stpD s) (.int 4) = .ok (nmD s.n) := pIx_t (atI_nat (i := 4) (by simp))
theorem sx_5 : pIx (stpD s) (.int 5) = .ok (.int s.t) := pIx_t (atI_nat (i := 5) (by simp))
theorem feed_at (h : RunS m fd T) (hs : StpOk nb s) (hb : 0 ≤ b ∧ b ≤ T) : R.bin2 (R.bin2 (.ok (dcD fd)) (.ok (nmD s.n)) pDget) (.ok (.int (b + s.t))) pIx = .ok (.int (lat fd s.n (b + s.t).toNat)) := by
  have h1 := hs.t
  have h2 := h.fd s.n hs.n
  obtain ⟨k, ek⟩ := Int.eq_ofNat_of_zero_le (show 0 ≤ b + s.t by omega)
  rw [ek, lat_at (by omega)]
  rfl
theorem box_at {k : Int} (hk : 0 ≤ k ∧ k < nb) (hB : B.length = nb) : pIx (lsD B) (.int k) = .ok (.int (B.getD k.toNat 0)) := by
  obtain ⟨j, ej⟩ := Int.eq_ofNat_of_zero_le hk.1
  rw [ej, lsD_at (by omega)]
  simp
theorem law_begun62 (h : RunS m fd T) (hs : StpOk nb s) (hb : 0 ≤ b ∧ b ≤ T) (hB : B.length = nb) : f_law_begun [stpD s, .int b, dcD fd, lsD B, .int m] = .ok (.int (valS m fd B b s)) := by
  have h3 := wants3 hs.w
  have mk := law_makes_ok hs.w h.m1 h.m2 (numS_len hs (fd := fd) (B := B) (b := b))
  show b_law_begun _ _ _ _ _ = _
  unfold b_law_begun valS
  rw [R.bin2_ok (f := pIx), sx_0, R.bin2_ok (f := pEq), pEq_ss, R.bind_ok (f := toB), toB_bl, R.bind_ok]
  unfold numS at mk ⊢
  by_cases ht : s.w = "take"
  · rw [if_pos ht] at mk ⊢
    rw [if_pos (by simpa using ht), R.bin2_ok (f := pIx) (b := .int 4), sx_4, R.bin2_ok (f := pIx) (b := .int 5), sx_5, R.bin2_ok (f := pAdd), pAdd_ii, feed_at h hs hb, R.cons_ok, R.bind_ok (f := mkL), mkL_1, R.cons_ok, R.cons_ok, R.cons_ok, R.bind_ok (f := f_law_makes)]
    rw [ht] at mk ⊢
    show R.bind (f_law_makes [.str "take", lsD [lat fd s.n (b + s.t).toNat], .int m]) _ = _
    rw [mk, R.bind_ok]
  rw [if_neg ht] at mk ⊢
  rw [if_neg (by simpa using ht), R.bind_ok (f := mkL), mkL_0, R.bind_ok, R.bin2_ok, sx_3, R.bind_ok (f := toSeq), toSeq_l, R.bind_ok]
  have z := rFor_app (m := srD) (h := fun q => D.int (rdB B q)) (f := l_law_begun_1 (lsD B)) (xs := s.rs) (acc := []) (fun q hq acc hl => ?_) (by simp; have := hs.l; omega)
  · refine (bind_eq z).trans ?_
    rw [List.nil_append, R.cons_ok, R.cons_ok, R.cons_ok, R.bind_ok (f := f_law_makes)]
    have e2 : D.lst (s.rs.map fun q => D.int (rdB B q)) = lsD (s.rs.map (rdB B)) := by
      unfold lsD
      rw [List.map_map]
      rfl
    rw [e2, mk]
  unfold l_law_begun_1
  cases q with
  | num i =>
    refine (bind_eq (a := false) rfl).trans ?_
    rw [if_neg (by decide), toL_l, R.bind_ok, R.bind_ok, appL_ok (by omega), R.bind_ok]
    rfl
  | box k =>
    have p1 : pIx (srD (.box k)) (.int 1) = .ok (.int k) := pIx_t1
    refine (bind_eq (a := true) rfl).trans ?_
    rw [if_pos rfl, toL_l, R.bind_ok, R.bin2_ok (f := pIx) (b := .int 1), p1, R.bin2_ok (f := pIx), box_at (hs.r k hq) hB]
    refine (bind_eq (a := D.int (B.getD k.toNat 0)) rfl).trans ?_
    rw [appL_ok (by omega), R.bind_ok]
    rfl
theorem flr_numbers62 (h : RunS m fd T) (hs : StpOk nb s) (hb : 0 ≤ b ∧ b ≤ T) (hB : B.length = nb) : f_Floor_numbers [flrD m (dcD fd) B A x tl, stpD s, .int (b + s.t)] = .ok (lsD (numS fd B b s)) := by
  have h3 := wants3 hs.w
  have f1 : (R.bind (.ok (flrD m (dcD fd) B A x tl)) (pFld "Floor" "feeds") : R D) = .ok (dcD fd) := rfl
  have f2 : (R.bind (.ok (flrD m (dcD fd) B A x tl)) (pFld "Floor" "boxes") : R D) = .ok (lsD B) := rfl
  show b_Floor_numbers _ _ _ = _
  unfold b_Floor_numbers
  rw [R.bin2_ok (f := pIx), sx_0, R.bin2_ok (f := pEq), pEq_ss, R.bind_ok (f := toB), toB_bl, R.bind_ok]
  unfold numS
  by_cases ht : s.w = "take"
  · rw [if_pos (by simpa using ht), if_pos ht, f1, R.bin2_ok (f := pIx) (b := .int 4), sx_4, feed_at h hs hb]
    refine (bind_eq (a := D.lst [.int (lat fd s.n (b + s.t).toNat)]) ?_).trans rfl
    have : (R.bind (.ok (D.int (lat fd s.n (b + s.t).toNat))) scal : R D) = .ok (.int (lat fd s.n (b + s.t).toNat)) := rfl
    rw [this, R.cons_ok, R.bind_ok, mkL_1]
  rw [if_neg (by simpa using ht), if_neg ht, R.bind_ok (f := mkL), mkL_0, R.bind_ok, R.bin2_ok, sx_3, R.bind_ok (f := toSeq), toSeq_l, R.bind_ok]
  have z := rFor_app (m := srD) (h := fun q => D.int (rdB B q)) (f := l_Floor_numbers_1 (flrD m (dcD fd) B A x tl)) (xs := s.rs) (acc := []) (fun q hq acc hl => ?_) (by simp; have := hs.l; omega)
  · refine (bind_eq z).trans ?_
    rw [List.nil_append]
    unfold lsD
    rw [List.map_map]
    rfl
  unfold l_Floor_numbers_1
  cases q with
  | num i =>
    refine (bind_eq (a := true) (by rw [R.cons_ok, R.bind_ok]; rfl)).trans ?_
    rw [if_pos rfl, toL_l, R.bind_ok, R.bind_ok, appL_ok (by omega), R.bind_ok]
    rfl
  | box k =>
    have p1 : pIx (srD (.box k)) (.int 1) = .ok (.int k) := pIx_t1
    refine (bind_eq (a := false) (by rw [R.cons_ok, R.bind_ok]; rfl)).trans ?_
    rw [if_neg (by decide), toL_l, R.bind_ok, f2, R.bin2_ok (f := pIx) (b := .int 1), p1, R.bin2_ok (f := pIx), box_at (hs.r k hq) hB]
    refine (bind_eq (a := D.int (B.getD k.toNat 0)) rfl).trans ?_
    rw [appL_ok (by omega), R.bind_ok]
    rfl
def tellS (m : Int) (fd : KL) (B : List Int) (b : Int) (s : Stp) : Told := if s.w = "tell" then [(s.n, b + s.t, valS m fd B b s)] else []
theorem flr_begin62 (h : RunS m fd T) (hs : StpOk nb s) (hb : 0 ≤ b ∧ b ≤ T) (hB : B.length = nb) (hA : DuaOk A) (hl : A.length ≤ 16000000) (hl2 : ∀ e ∈ A, e.2.length ≤ 16000000) (hl3 : tl.length ≤ 16000000) :
    f_Floor_begin [flrD m (dcD fd) B A x tl, stpD s, .int (b + s.t)] = .ok (.tup [.non, flrD m (dcD fd) B (addA A (x + s.dl) (s.bx.toNat, valS m fd B b s)) x (tl ++ tellS m fd B b s)]) := by
  have hnum := flr_numbers62 h hs hb hB (x := x) (A := A) (tl := tl)
  have hd := deed_ok hs.w h.m1 h.m2 (numS_len hs (fd := fd) (B := B) (b := b)) (e := R.bin2 (.ok (stpD s)) (.ok (.int 0)) pIx) (by rw [R.bin2_ok, sx_0])
  have ebx : s.bx = ((s.bx.toNat : Nat) : Int) := by have := hs.b; omega
  show b_Floor_begin _ _ _ = _
  unfold b_Floor_begin
  refine (bind_eq (a := D.int (valS m fd B b s)) ?_).trans ?_
  · have e1 : (R.bind (R.bind (.ok (flrD m (dcD fd) B A x tl)) (asObj "Floor" "numbers")) fun d => R.bind (R.cons (.ok (stpD s)) (R.cons (.ok (D.int (b + s.t))) (.ok []))) fun ds => f_Floor_numbers (d :: ds)) = .ok (lsD (numS fd B b s)) := by
      rw [R.bind_ok, as_flr (by decide), R.bind_ok, R.cons_ok, R.cons_ok, R.bind_ok, hnum]
    rw [e1, fl_measure]
    exact hd
  rw [fl_due, R.bind_ok]
  refine (bind_eq (a := (A.map fun q => D.int q.1, A.map fun q => D.lst (q.2.map entD))) rfl).trans ?_
  rw [fl_clock, R.bin2_ok (f := pIx) (b := .int 1), sx_1, R.bin2_ok (f := pAdd), pAdd_ii, R.bind_ok]
  refine setd_ok (z := (s.bx.toNat, valS m fd B b s)) hA (by omega) (fun e he => by have := hl2 e he; omega) fun y n xs hap hset => ?_
  rw [R.bind_ok, R.bin2_ok (f := pIx) (b := .int 2), sx_2, R.cons_ok, R.cons_ok, R.bind_ok (f := mkT), mkT_2, R.bind_ok]
  have eent : D.tup [.int s.bx, .int (valS m fd B b s)] = entD (s.bx.toNat, valS m fd B b s) := by
    unfold entD
    rw [← ebx]
  rw [eent, hap, R.bind_ok, hset, R.bind_ok]
  have e2 : setJ 3 (duaD (addA A (x + s.dl) (s.bx.toNat, valS m fd B b s))) (flrD m (dcD fd) B A x tl) = flrD m (dcD fd) B (addA A (x + s.dl) (s.bx.toNat, valS m fd B b s)) x tl := rfl
  rw [e2, R.bin2_ok (f := pIx) (b := .int 0), sx_0, R.bin2_ok (f := pEq), pEq_ss, R.bind_ok (f := toB), toB_bl, R.bind_ok]
  unfold tellS
  by_cases ht : s.w = "tell"
  · rw [if_pos (by simpa using ht), if_pos ht, fl_told, R.bind_ok]
    show R.bind (toL (.lst _)) _ = _
    rw [toL_l, R.bind_ok, R.bin2_ok (f := pIx) (b := .int 4), sx_4, R.cons_ok, R.cons_ok, R.bind_ok (f := mkT), mkT_ok (by simp), R.bind_ok, appL_ok (by simp; omega), R.bind_ok, R.bind_ok]
    unfold flrD tellD
    simp [setJ]
  · rw [if_neg (by simpa using ht), if_neg ht, List.append_nil]
end
end Lx
namespace Lx
open PySem PySem.Spec PyProof.Rows L2 Lw
theorem look_addA {A : DueA} {y w : Int} {z : Nat × Int} (h : DuaOk A) : lookA (addA A y z) w = lookA A w ++ (if w = y then [z] else []) := by
  have find_app : ∀ (l : DueA) (e : Int × List (Nat × Int)), (l ++ [e]).find? (fun e => decide (e.1 = w)) = (l.find? fun e => decide (e.1 = w)).or (if e.1 = w then some e else none) := fun l e => by
    rw [List.find?_append]
    congr 1
    by_cases z : e.1 = w <;> simp [z]
  by_cases hy : y ∈ A.map (·.1)
  · have ea : addA A y z = A.map fun e => if e.1 = y then (e.1, e.2 ++ [z]) else e := by unfold addA; rw [if_pos hy]
    rw [ea]
    have fm : ∀ l : DueA, (l.map fun e => if e.1 = y then (e.1, e.2 ++ [z]) else e).find? (fun e => decide (e.1 = w)) = (l.find? fun e => decide (e.1 = w)).map fun e => if e.1 = y then (e.1, e.2 ++ [z]) else e := fun l => by
      induction l with
      | nil => rfl
      | cons e l ih =>
        have k1 : (if e.1 = y then (e.1, e.2 ++ [z]) else e).1 = e.1 := by split <;> rfl
        rw [List.map_cons, List.find?_cons, List.find?_cons, k1]
        by_cases c : e.1 = w
        · rw [decide_eq_true c]; rfl
        · rw [decide_eq_false c, ih]
    unfold lookA
    rw [fm]
    cases hf : A.find? fun e => decide (e.1 = w) with
    | none =>
      have : w ≠ y := fun c => by
        obtain ⟨e, he, ee⟩ := List.mem_map.mp hy
        have := List.find?_eq_none.mp hf e he
        rw [ee, c] at this
        simp at this
      rw [if_neg this]
      rfl
    | some e =>
      have ew : e.1 = w := by simpa using List.find?_some hf
      rw [Option.map_some, Option.map_some, Option.map_some, Option.getD_some, Option.getD_some, ew]
      by_cases c : w = y
      · rw [if_pos c, if_pos c]
      · rw [if_neg c, if_neg c, List.append_nil]
  · have ea : addA A y z = A ++ [(y, [z])] := by unfold addA; rw [if_neg hy]
    rw [ea]
    unfold lookA
    rw [find_app]
    cases hf : A.find? fun e => decide (e.1 = w) with
    | none =>
      by_cases c : w = y
      · rw [if_pos c, if_pos c.symm]
        rfl
      · rw [if_neg c, if_neg (fun z => c z.symm)]
        rfl
    | some e =>
      have he := List.mem_of_find?_eq_some hf
      have ew : e.1 = w := by simpa using List.find?_some hf
      have : w ≠ y := fun c => hy (List.mem_map.mpr ⟨e, he, ew.trans c⟩)
      rw [if_neg this, List.append_nil]
      rfl
theorem look_popA {A : DueA} {x w : Int} : lookA (popA A x) w = if w = x then [] else lookA A w := by
  unfold lookA popA
  rw [List.find?_filter]
  by_cases c : w = x
  · rw [if_pos c]
    have : A.find? (fun e => decide (decide (e.1 ≠ x) = true ∧ decide (e.1 = w) = true)) = none := List.find?_eq_none.mpr fun e _ => by
      rw [c]
      by_cases z : e.1 = x <;> simp [z]
    rw [this]
    rfl
  · rw [if_neg c]
    congr 2
    congr 1
    funext e
    by_cases z : e.1 = w
    · rw [z]; simp [c]
    · simp [z]
structure Sim (A : DueA) (l : Due) : Prop where
  ok : DuaOk A
  lk : ∀ y, lookA A y = (l.filter fun q => decide (q.1 = y)).map (·.2)
theorem Sim.add {A : DueA} {l : Due} (h : Sim A l) (y : Int) (z : Nat × Int) : Sim (addA A y z) (l ++ [(y, z)]) := by
  refine ⟨addA_ok h.ok, fun w => ?_⟩
  rw [look_addA h.ok, h.lk, List.filter_append, List.map_append]
  congr 1
  by_cases c : w = y
  · rw [if_pos c, List.filter_cons_of_pos (by simp [c])]
    rfl
  · rw [if_neg c, List.filter_cons_of_neg (by simpa using fun z => c z.symm)]
    rfl
theorem Sim.pop {A : DueA} {l : Due} (h : Sim A l) {x : Int} (hx : ∀ q ∈ l, x ≤ q.1) : Sim (popA A x) (l.filter fun q => decide (x < q.1)) := by
  refine ⟨popA_ok h.ok, fun w => ?_⟩
  rw [look_popA, h.lk, List.filter_filter]
  by_cases c : w = x
  · rw [if_pos c]
    have : l.filter (fun q => decide (q.1 = w) && decide (x < q.1)) = [] := List.filter_eq_nil_iff.mpr fun q _ => by
      simp only [Bool.and_eq_true, decide_eq_true_eq]
      omega
    rw [this]
    rfl
  · rw [if_neg c]
    congr 1
    refine List.filter_congr fun q hq => ?_
    have := hx q hq
    by_cases e : q.1 = w
    · rw [decide_eq_true e, decide_eq_true (show x < q.1 by omega)]
      rfl
    · rw [decide_eq_false e]
      rfl
theorem landB_put {x : Int} : ∀ (l : Due) (B : List Int), landB x B l = putB B ((l.filter fun q => decide (q.1 = x)).map (·.2))
  | [], _ => rfl
  | q :: l, B => by
    show landB x (if q.1 = x then B.set q.2.1 q.2.2 else B) l = _
    rw [landB_put l]
    by_cases e : q.1 = x
    · rw [if_pos e, List.filter_cons_of_pos (by simpa using e)]
      rfl
    · rw [if_neg e, List.filter_cons_of_neg (by simpa using e)]
theorem Sim.land {A : DueA} {l : Due} (h : Sim A l) (x : Int) (B : List Int) : putB B (lookA A x) = landB x B l := by rw [landB_put, h.lk]
theorem look_in {A : DueA} {l : Due} (h : Sim A l) {x : Int} {nb : Nat} (hl : ∀ q ∈ l, q.2.1 < nb) : ∀ z ∈ lookA A x, z.1 < nb := fun z hz => by
  rw [h.lk] at hz
  obtain ⟨q, hq, rfl⟩ := List.mem_map.mp hz
  exact hl q (List.mem_filter.mp hq).1
structure At (m : Int) (fd : KL) (nb : Nat) (x : Int) (s : D) (t : D × D × D × D) : Prop where
  ex : ∃ (B : List Int) (A : DueA) (l : Due) (tl : Told), s = flrD m (dcD fd) B A x tl ∧ t = (lsD B, .int x, dueD l, tellD tl) ∧ B.length = nb ∧ Sim A l ∧ (∀ q ∈ l, x ≤ q.1 ∧ q.1 ≤ x + 5 ∧ q.2.1 < nb) ∧ 0 ≤ x ∧
    (A.length : Int) ≤ 3 * x ∧ (∀ e ∈ A, (e.2.length : Int) ≤ 3 * x) ∧ (l.length : Int) ≤ 3 * x ∧ (tl.length : Int) ≤ 3 * x ∧ ∀ q ∈ tl, q.1 = nIn ∨ q.1 = nOn
section
variable {m T b : Int} {fd : KL} {nb : Nat}
theorem steps62 (h : RunS m fd T) (hb : 0 ≤ b ∧ b ≤ T) {x : Int} {B : List Int} (hB : B.length = nb) (pd p9 t1 t3 t4 : D) : ∀ (tk : List Stp) (A : DueA) (l : Due) (tl : Told) (c : Nat), (∀ s ∈ tk, StpOk nb s) → Sim A l → (∀ q ∈ l, x + 1 ≤ q.1 ∧ q.1 ≤ x + 6 ∧ q.2.1 < nb) → A.length ≤ c → (∀ e ∈ A, e.2.length ≤ c) → l.length ≤ c → tl.length ≤ c → (∀ q ∈ tl, q.1 = nIn ∨ q.1 = nOn) → c + tk.length ≤ 16000000 →
    ∃ (A' : DueA) (l' : Due) (tl' : Told), rFor (tk.map stpD) (flrD m (dcD fd) B A x tl) (l_Floor_go_1 (.int b)) = .ok (flrD m (dcD fd) B A' x tl') ∧ rFor (tk.map stpD) (dueD l, tellD tl) (l_law_done_1 (pd, .int b) (dcD fd) (p9, lsD B) (.int m) (t1, .int x, t3, t4)) = .ok (dueD l', tellD tl') ∧
      Sim A' l' ∧ (∀ q ∈ l', x + 1 ≤ q.1 ∧ q.1 ≤ x + 6 ∧ q.2.1 < nb) ∧ A'.length ≤ c + tk.length ∧ (∀ e ∈ A', e.2.length ≤ c + tk.length) ∧ l'.length ≤ c + tk.length ∧ tl'.length ≤ c + tk.length ∧ ∀ q ∈ tl', q.1 = nIn ∨ q.1 = nOn
  | [], A, l, tl, c, _, hS, hl, l1, l2, l3, l4, hn, _ => ⟨A, l, tl, rfl, rfl, hS, hl, by simpa using l1, by simpa using l2, by simpa using l3, by simpa using l4, hn⟩
  | s :: tk, A, l, tl, c, hs, hS, hl, l1, l2, l3, l4, hn, hc => by
    rw [List.length_cons] at hc
    have h0 := hs s List.mem_cons_self
    have hd := h0.d
    have hbx := h0.b
    have hbeg := flr_begin62 h h0 hb hB hS.ok (x := x) (tl := tl) (by omega) (fun e he => by have := l2 e he; omega) (by omega)
    have hlaw := law_begun62 h h0 hb hB
    obtain ⟨v, ev⟩ : ∃ v, v = valS m fd B b s := ⟨_, rfl⟩
    rw [← ev] at hbeg hlaw
    have htl : (tellS m fd B b s).length ≤ 1 := by unfold tellS; split <;> simp
    have htn : ∀ q ∈ tl ++ tellS m fd B b s, q.1 = nIn ∨ q.1 = nOn := fun q hq => by
      rcases List.mem_append.mp hq with z | z
      · exact hn q z
      · unfold tellS at z
        split at z
        · rw [List.mem_singleton.mp z]; exact h0.n
        · cases z
    obtain ⟨A', l', tl', e1, e2, hS', hl', k1, k2, k3, k4, k5⟩ := steps62 h hb hB pd p9 t1 t3 t4 tk (addA A (x + s.dl) (s.bx.toNat, v)) (l ++ [(x + s.dl, s.bx.toNat, v)]) (tl ++ tellS m fd B b s) (c + 1) (fun y hy => hs y (List.mem_cons_of_mem _ hy)) (hS.add _ _) (fun q hq => by
      rcases List.mem_append.mp hq with z | z
      · exact hl q z
      · rw [List.mem_singleton.mp z]
        dsimp only
        omega) (by have := addA_len (A := A) (x := x + s.dl) (z := (s.bx.toNat, v)); omega) (addA_ent l2) (by simp; omega) (by rw [List.length_append]; omega) htn (by omega)
    refine ⟨A', l', tl', ?_, ?_, hS', hl', by rw [List.length_cons]; omega, fun e he => by have := k2 e he; rw [List.length_cons]; omega, by rw [List.length_cons]; omega, by rw [List.length_cons]; omega, k5⟩
    · rw [List.map_cons]
      unfold rFor
      refine (bind_eq (a := flrD m (dcD fd) B (addA A (x + s.dl) (s.bx.toNat, v)) x (tl ++ tellS m fd B b s)) ?_).trans e1
      unfold l_Floor_go_1
      rw [as_flr (by decide), R.bind_ok, R.bin2_ok (f := pIx), sx_5, R.bin2_ok (f := pAdd), pAdd_ii, R.cons_ok, R.cons_ok, R.bind_ok, pW_is (n := 3) hbeg rfl, R.bind_ok]
    · rw [List.map_cons]
      unfold rFor
      refine (bind_eq (a := (dueD (l ++ [(x + s.dl, s.bx.toNat, v)]), tellD (tl ++ tellS m fd B b s))) ?_).trans e2
      unfold l_law_done_1
      dsimp only
      rw [R.cons_ok, R.cons_ok, R.cons_ok, R.cons_ok, R.cons_ok, R.bind_ok (f := f_law_begun), hlaw, R.bind_ok]
      show R.bind (toL (.lst _)) _ = _
      rw [toL_l, R.bind_ok, R.bin2_ok (f := pIx), sx_1, R.bin2_ok (f := pAdd), pAdd_ii, R.bin2_ok (f := pIx), sx_2, R.cons_ok, R.cons_ok, R.cons_ok, R.bind_ok (f := mkT), mkT_ok (by simp), R.bind_ok, appL_ok (by simp; omega), R.bind_ok, R.bin2_ok (f := pIx), sx_0, R.bin2_ok (f := pEq), pEq_ss, R.bind_ok (f := toB), toB_bl, R.bind_ok]
      have ebx : s.bx = ((s.bx.toNat : Nat) : Int) := by omega
      have ed : D.lst ((l.map fun q => D.tup [.int q.1, .int (q.2.1 : Nat), .int q.2.2]) ++ [.tup [.int (x + s.dl), .int s.bx, .int v]]) = dueD (l ++ [(x + s.dl, s.bx.toNat, v)]) := by
        unfold dueD
        rw [List.map_append, List.map_cons, List.map_nil, ← ebx]
      rw [ed]
      unfold tellS
      by_cases ht : s.w = "tell"
      · rw [if_pos (by simpa using ht), if_pos ht]
        show R.bind (toL (.lst _)) _ = _
        rw [toL_l, R.bind_ok, R.bin2_ok (f := pIx), sx_4, R.bin2_ok (f := pIx), sx_5, R.bin2_ok (f := pAdd), pAdd_ii, R.cons_ok, R.cons_ok, R.bind_ok (f := mkT), mkT_ok (by simp), R.bind_ok, appL_ok (by simp; omega), R.bind_ok, ev]
        unfold tellD
        simp
      · rw [if_neg (by simpa using ht), if_neg ht, List.append_nil]
theorem tick62 (h : RunS m fd T) (hb : 0 ≤ b ∧ b ≤ T) {x : Int} {s : D} {t : D × D × D × D} (hx : x ≤ 100000) (ha : At m fd nb x s t) {tk : List Stp} (hk : tk.length ≤ 3) (hs : ∀ s ∈ tk, StpOk nb s) (pd : D) : ∃ s' t', l_Floor_go_2 (.int b) (tkD tk) s = .ok s' ∧ l_law_done_2 (pd, .int b) (dcD fd) (.int m) (tkD tk) t = .ok t' ∧ At m fd nb (x + 1) s' t' := by
  obtain ⟨B, A, l, tl, rfl, rfl, hB, hS, hl, x0, l1, l2, l3, l4, hn⟩ := ha.ex
  have hin := look_in hS (x := x) (nb := B.length) fun q hq => by rw [hB]; exact (hl q hq).2.2
  have hB2 : (landB x B l).length = nb := by rw [landB_len, hB]
  have hfl : (l.filter fun q => decide (x < q.1)).length ≤ l.length := List.length_filter_le _ _
  have c0 : (3 * x).toNat = 3 * x := by omega
  obtain ⟨A', l', tl', e1, e2, hS', hl', k1, k2, k3, k4, k5⟩ := steps62 h hb (x := x) hB2 pd .non (lsD B) (dueD l) (tellD tl) tk (popA A x) (l.filter fun q => decide (x < q.1)) tl (3 * x).toNat hs (hS.pop fun q hq => (hl q hq).1) (fun q hq => by
    obtain ⟨z1, z2⟩ := List.mem_filter.mp hq
    have := hl q z1
    have : x < q.1 := of_decide_eq_true z2
    omega) (by have := popA_len (A := A) (x := x); omega) (fun e he => by have := l2 e ((List.mem_filter.mp he).1); omega) (by omega) (by omega) hn (by omega)
  refine ⟨flrD m (dcD fd) (landB x B l) A' (x + 1) tl', (lsD (landB x B l), .int (x + 1), dueD l', tellD tl'), ?_, ?_, ⟨_, _, _, _, rfl, rfl, hB2, hS', fun q hq => by have := hl' q hq; omega, by omega, by omega, fun e he => by have := k2 e he; omega, by omega, by omega, k5⟩⟩
  · unfold l_Floor_go_2
    rw [as_flr (by decide), R.bind_ok, pW_is (n := 1) (flr_land hS.ok hin) rfl, R.bind_ok]
    refine (bind_eq (a := tk.map stpD) (by unfold tkD; rw [R.bind_ok, toSeq_l])).trans ?_
    dsimp only
    rw [hS.land x B]
    refine (bind_eq e1).trans ?_
    rw [fl_clock, R.bind_ok, R.bind_ok, pAdd_ii, R.bind_ok, R.bind_ok, flr_clock]
  · have e3 := law_landed_ok (x := x) (l := l) (B := B) fun q hq => by rw [hB]; exact (hl q hq).2.2
    unfold l_law_done_2
    dsimp only
    rw [R.cons_ok, R.cons_ok, R.cons_ok, R.bind_ok]
    refine (bind_eq (pW_is e3 rfl)).trans ?_
    refine (bind_eq (a := dueD (l.filter fun q => decide (x < q.1))) ?_).trans ?_
    · unfold dueD
      rw [R.bind_ok, toSeq_l]
      refine pComp_filter (q := fun q : Int × Nat × Int => decide (x < q.1)) (fun q hq => ?_) (fun q hq _ => rfl) (by omega)
      have i0 : pIx (.tup [.int q.1, .int (q.2.1 : Nat), .int q.2.2]) (.int 0) = .ok (.int q.1) := pIx_t0
      rw [R.bin2_ok (f := pIx), i0, R.bin2_ok, pGt_ii, R.bind_ok, toB_bl]
    refine (bind_eq (a := tk.map stpD) (by unfold tkD; rw [R.bind_ok, toSeq_l])).trans ?_
    rw [e2, R.bind_ok, R.bin2_ok, pAdd_ii, R.bind_ok]
theorem ticks62 (h : RunS m fd T) (hb : 0 ≤ b ∧ b ≤ T) (pd : D) : ∀ (p : Part) {x : Int} {s : D} {t : D × D × D × D}, x + p.length ≤ 100000 → At m fd nb x s t → (∀ tk ∈ p, tk.length ≤ 3 ∧ ∀ s ∈ tk, StpOk nb s) →
    ∃ s' t', rFor (p.map tkD) s (l_Floor_go_2 (.int b)) = .ok s' ∧ rFor (p.map tkD) t (l_law_done_2 (pd, .int b) (dcD fd) (.int m)) = .ok t' ∧ At m fd nb (x + p.length) s' t'
  | [], x, s, t, _, ha, _ => ⟨s, t, rfl, rfl, by simpa using ha⟩
  | tk :: p, x, s, t, hx, ha, hp => by
    rw [List.length_cons] at hx
    obtain ⟨g1, g2⟩ := hp tk List.mem_cons_self
    obtain ⟨s1, t1, e1, e2, h1⟩ := tick62 h hb (by omega) ha g1 g2 pd
    obtain ⟨s2, t2, e3, e4, h2⟩ := ticks62 h hb pd p (by omega) h1 fun y hy => hp y (List.mem_cons_of_mem _ hy)
    refine ⟨s2, t2, ?_, ?_, ?_⟩
    · rw [List.map_cons]
      unfold rFor
      rw [e1, R.bind_ok, e3]
    · rw [List.map_cons]
      unfold rFor
      rw [e2, R.bind_ok, e4]
    · rw [List.length_cons, show x + ((p.length + 1 : Nat) : Int) = x + 1 + p.length by push_cast; omega]
      exact h2
def PartOk (nb : Nat) (p : Part) : Prop := p.length ≤ 3 ∧ ∀ tk ∈ p, tk.length ≤ 3 ∧ ∀ s ∈ tk, StpOk nb s
theorem At.obj {x : Int} {s : D} {t : D × D × D × D} (ha : At m fd nb x s t) {f : Str} (h : (["measure", "feeds", "boxes", "due", "clock", "told"] : List Str).contains f = false) : asObj "Floor" f s = .ok s := by
  obtain ⟨B, A, l, tl, rfl, _⟩ := ha.ex
  exact as_flr h
theorem part62 (h : RunS m fd T) (hb : 0 ≤ b ∧ b ≤ T) {p : Part} (hp : PartOk nb p) {x : Int} {s : D} {t : D × D × D × D} (hx : x ≤ 99000) (ha : At m fd nb x s t) :
    ∃ s' t' x', pW f_Floor_go 3 [s, partD p, .int b] = .ok (.non, s') ∧ (R.bind (un2 (D.tup [partD p, .int b])) fun p6 => (l_law_done_4 (dcD fd) (.int m)) p6 t) = .ok t' ∧ x ≤ x' ∧ x' ≤ x + 3 ∧ At m fd nb x' s' t' := by
  have hl := hp.1
  obtain ⟨s', t', e1, e2, h'⟩ := ticks62 h hb (partD p) p (by omega) ha hp.2
  refine ⟨s', t', _, pW_is (n := 3) ?_ rfl, ?_, by omega, by omega, h'⟩
  · show b_Floor_go _ _ _ = _
    unfold b_Floor_go
    refine (bind_eq (a := p.map tkD) (by unfold partD; rw [R.bind_ok, toSeq_l])).trans ?_
    rw [e1, R.bind_ok]
  · refine (bind_eq (a := (partD p, D.int b)) rfl).trans ?_
    unfold l_law_done_4
    refine (bind_eq (a := p.map tkD) rfl).trans ?_
    exact (bind_eq e2).trans rfl
end
end Lx
namespace Lx
open PySem PySem.Spec PyProof.Rows L2 Lw
theorem flr_init {m : Int} {fd : D} {B : List Int} : f_Floor___init__ [.int m, fd, lsD B] = .ok (flrD m fd B [] 0 []) := by
  show b_Floor___init__ _ _ _ = _
  unfold b_Floor___init__
  refine (bind_eq (a := D.int m) rfl).trans ?_
  refine (bind_eq (a := D.obj "Floor" ["measure"] [.int m]) rfl).trans ?_
  refine (bind_eq (a := fd) rfl).trans ?_
  refine (bind_eq (a := D.obj "Floor" ["measure", "feeds"] [.int m, fd]) rfl).trans ?_
  refine (bind_eq (a := lsD B) (by rw [R.cons_ok, R.bind_ok]; exact pList_l)).trans ?_
  refine (bind_eq (a := D.obj "Floor" ["measure", "feeds", "boxes"] [.int m, fd, lsD B]) rfl).trans ?_
  refine (bind_eq rfl).trans ?_
  refine (bind_eq (a := D.obj "Floor" ["measure", "feeds", "boxes", "due"] [.int m, fd, lsD B, .dct [] []]) rfl).trans ?_
  refine (bind_eq rfl).trans ?_
  refine (bind_eq (a := D.obj "Floor" ["measure", "feeds", "boxes", "due", "clock"] [.int m, fd, lsD B, .dct [] [], .int 0]) rfl).trans ?_
  refine (bind_eq (a := D.lst []) (by rw [R.bind_ok, mkL_0])).trans ?_
  exact (bind_eq (a := flrD m fd B [] 0 []) rfl).trans rfl
structure Sht where
  p : Int
  h : Int
  s : Int
  sh : List Part
  ah : Part
  md : Part
  tl : List Part
def sheetD (s : Sht) : D := .obj "Sheet" ["pace", "held", "stages", "shorts", "ahead", "middle", "tails"] [.int s.p, .int s.h, .int s.s, .lst (s.sh.map partD), partD s.ah, partD s.md, .lst (s.tl.map partD)]
theorem look_mem62 {A : DueA} (h : DuaOk A) {e : Int × List (Nat × Int)} (he : e ∈ A) : lookA A e.1 = e.2 := by
  obtain ⟨n, hn⟩ := List.mem_iff_getElem?.mp he
  unfold lookA
  cases hf : A.find? fun z => decide (z.1 = e.1) with
  | none =>
    have := List.find?_eq_none.mp hf e he
    simp at this
  | some z =>
    have hz : z.1 = e.1 := by simpa using List.find?_some hf
    have := only_at h.nd (show A[n]? = some (e.1, e.2) from hn) (List.mem_of_find?_eq_some hf) hz
    rw [this]
    rfl
def lndK (x : Int) (l : Due) (B : List Int) : Nat → List Int
  | 0 => B
  | k + 1 => landB (x + k) (lndK x l B k) l
theorem lndK_len {x : Int} {l : Due} {B : List Int} : ∀ k, (lndK x l B k).length = B.length
  | 0 => rfl
  | k + 1 => by
    show (landB (x + k) (lndK x l B k) l).length = _
    rw [landB_len, lndK_len k]
section
variable {m T b : Int} {fd : KL} {nb : Nat}
theorem end62 {x : Int} {s : D} {t : D × D × D × D} (ha : At m fd nb x s t) (hx : x ≤ 99000) : ∃ (B : List Int) (tl : Told), (∃ (y : Int), pW f_Floor_finish 1 [s] = .ok (.non, flrD m (dcD fd) B [] y tl)) ∧ t.2.2.2 = tellD tl ∧ rFor (rngL 0 7) t.1 (l_law_done_3 t) = .ok (lsD B) ∧ B.length = nb ∧ (tl.length : Int) ≤ 3 * x ∧ ∀ q ∈ tl, q.1 = nIn ∨ q.1 = nOn := by
  obtain ⟨B, A, l, tl, rfl, rfl, hB, hS, hl, x0, l1, l2, l3, l4, hn⟩ := ha.ex
  -- the law's seven ticks
  obtain ⟨t', e7, hB7⟩ := rFor_inv (f := l_law_done_3 (lsD B, .int x, dueD l, tellD tl)) (xs := rngL 0 7) (t := lsD B) (fun j t => t = lsD (lndK x l B j)) (fun j z t hz e1 => by
    obtain ⟨hj, rfl⟩ := rngL_at hz
    subst e1
    have e2 := law_landed_ok (x := x + (j : Nat)) (l := l) (B := lndK x l B j) fun q hq => by rw [lndK_len, hB]; exact (hl q hq).2.2
    refine ⟨_, ?_, rfl⟩
    unfold l_law_done_3
    dsimp only
    rw [R.bin2_ok, pAdd_ii, Int.zero_add, R.cons_ok, R.cons_ok, R.cons_ok, R.bind_ok, pW_is (n := 3) e2 rfl, R.bind_ok]
    rfl) rfl
  rw [rngL_length] at hB7
  subst hB7
  -- the machine's end
  have z : Gv (rWh 100000 (flrD m (dcD fd) B A x tl) (fun t1 => (R.bind (R.bin2 (R.bind (R.cons (fldJ "Floor" "due" 3 t1) (.ok [])) pLenD) (.ok (.int 0)) pGt) toB)) l_Floor_finish_1) fun t => ∃ y, t = flrD m (dcD fd) (lndK x l B 7) [] y tl := by
    refine Gv.wh (fun t => ∃ (k : Nat) (A' : DueA), t = flrD m (dcD fd) (lndK x l B k) A' (x + k) tl ∧ k ≤ 7 ∧ DuaOk A' ∧ A'.length ≤ A.length ∧ ∀ y, lookA A' y = if y < x + k then [] else lookA A y) (fun t => match t with | .obj _ _ [_, _, _, _, .int y, _] => (x + 8 - y).toNat | _ => 0) ?_ 100000 _ ⟨0, A, by rw [show x + ((0 : Nat) : Int) = x by omega]; rfl, by omega, hS.ok, Nat.le_refl _, fun y => ?_⟩ (by show (x + 8 - x).toNat < 100000; omega)
    case refine_2 =>
      split
      · rename_i hy
        rw [hS.lk]
        have : l.filter (fun q => decide (q.1 = y)) = [] := List.filter_eq_nil_iff.mpr fun q hq => by
          have := hl q hq
          simp only [decide_eq_true_eq]
          omega
        rw [this]
        rfl
      · rfl
    rintro _ ⟨k, A', rfl, hk, hA, hal, hlk⟩
    have ec : (R.bind (R.bin2 (R.bind (R.cons (fldJ "Floor" "due" 3 (flrD m (dcD fd) (lndK x l B k) A' (x + k) tl)) (.ok [])) pLenD) (.ok (.int 0)) pGt) toB) = .ok (decide (0 < (A'.length : Int))) := by
      rw [fl_due, R.cons_ok, R.bind_ok (f := pLenD)]
      have : pLenD [duaD A'] = .ok (.int A'.length) := by
        show (R.ok (D.int ((A'.map fun q => D.int q.1).length : Nat)) : R D) = _
        rw [List.length_map]
      rw [this, R.bin2_ok, pGt_ii, R.bind_ok, toB_bl]
    rw [ec]
    by_cases h0 : 0 < (A'.length : Int)
    · rw [decide_eq_true h0]
      refine .inr ⟨rfl, ?_⟩
      have hk6 : k < 7 := by
        obtain ⟨e, he⟩ : ∃ e, e ∈ A' := ⟨_, List.getElem_mem (show 0 < A'.length by omega)⟩
        have h1 := look_mem62 hA he
        have h2 := hA.ne e he
        rw [hlk] at h1
        split at h1
        · exact absurd h1.symm h2
        · rename_i hge
          rw [hS.lk] at h1
          obtain ⟨q, hq⟩ : ∃ q, q ∈ l.filter fun q => decide (q.1 = e.1) := by
            cases ef : l.filter fun q => decide (q.1 = e.1) with
            | nil => rw [ef] at h1; exact absurd h1.symm h2
            | cons q _ => exact ⟨q, by simp⟩
          obtain ⟨q1, q2⟩ := List.mem_filter.mp hq
          have q2 : q.1 = e.1 := of_decide_eq_true q2
          have := hl q q1
          omega
      have lx : lookA A' (x + k) = lookA A (x + k) := by rw [hlk, if_neg (by omega)]
      have hin : ∀ z ∈ lookA A' (x + k), z.1 < (lndK x l B k).length := fun z hz => by
        rw [lx] at hz
        rw [lndK_len, hB]
        exact look_in hS (fun q hq => (hl q hq).2.2) z hz
      have eB : putB (lndK x l B k) (lookA A' (x + k)) = lndK x l B (k + 1) := by rw [lx, hS.land]; rfl
      unfold l_Floor_finish_1
      refine Gv.eq (a := flrD m (dcD fd) (lndK x l B (k + 1)) (popA A' (x + k)) (x + k + 1) tl) ?_ ⟨⟨k + 1, _, by rw [show x + ((k + 1 : Nat) : Int) = x + k + 1 by push_cast; omega], by omega, popA_ok hA, Nat.le_trans popA_len hal, fun y => ?_⟩, ?_⟩
      · rw [as_flr (by decide), R.bind_ok, pW_is (n := 1) (flr_land hA hin) rfl, R.bind_ok, eB]
        dsimp only
        rw [fl_clock, R.bind_ok, R.bind_ok, pAdd_ii, R.bind_ok, R.bind_ok, flr_clock]
      · rw [look_popA, hlk]
        push_cast
        by_cases c : y = x + k
        · rw [if_pos c, if_pos (by omega)]
        · rw [if_neg c]
          by_cases c2 : y < x + k
          · rw [if_pos c2, if_pos (by omega)]
          · rw [if_neg c2, if_neg (by omega)]
      · show (x + 8 - (x + k + 1)).toNat < (x + 8 - (x + k)).toNat
        omega
    · rw [decide_eq_false h0]
      have e0 : A' = [] := List.length_eq_zero_iff.mp (by omega)
      subst e0
      refine .inl ⟨rfl, x + k, ?_⟩
      have same : ∀ j, k ≤ j → lndK x l B j = lndK x l B k := fun j hj => by
        induction j with
        | zero => rw [show k = 0 by omega]
        | succ j ih =>
          by_cases c : k = j + 1
          · rw [c]
          · show landB (x + j) (lndK x l B j) l = _
            rw [← hS.land]
            have e1 : lookA A (x + j) = [] := by
              have := hlk (x + j)
              rw [if_neg (by omega)] at this
              exact this.symm
            rw [e1]
            exact ih (by omega)
      rw [same 7 hk]
  obtain ⟨t', et, y, rfl⟩ := z
  refine ⟨lndK x l B 7, tl, ⟨y, pW_is (n := 1) ?_ rfl⟩, rfl, e7, by rw [lndK_len, hB], l4, hn⟩
  show b_Floor_finish _ = _
  unfold b_Floor_finish
  rw [et, R.bind_ok]
structure ShtOk (nb : Nat) (s : Sht) : Prop where
  hk : 1 ≤ s.h ∧ s.h ≤ 3
  sk : 1 ≤ s.s ∧ s.s ≤ 3
  sh : (s.sh.length : Int) = s.s - 1 ∧ ∀ p ∈ s.sh, PartOk nb p
  ah : PartOk nb s.ah
  md : PartOk nb s.md
  tl : (s.tl.length : Int) = s.h ∧ ∀ p ∈ s.tl, PartOk nb p
def prD (q : Part × Int) : D := .tup [partD q.1, .int q.2]
def partsS (s : Sht) (T : Nat) : List (Part × Int) :=
  if (T : Int) - s.s + 1 < 0 then [(s.sh.getD T [], 0)]
  else ((s.ah, 0) :: (List.range (((T : Int) - s.s + 1) / s.h).toNat).map fun (x : Nat) => (s.md, s.h * (x : Int))) ++ [(s.tl.getD (((T : Int) - s.s + 1) % s.h).toNat [], s.h * (((T : Int) - s.s + 1) / s.h))]
theorem part_get {ps : List Part} {k : Nat} (h : k < ps.length) : R.bin2 (.ok (.lst (ps.map partD))) (.ok (.int (k : Int))) pIx = .ok (partD (ps.getD k [])) := by
  rw [R.bin2_ok, pIx_ln (by simpa using h), List.getElem_map]
  simp [List.getD, h]
theorem law_parts_ok {s : Sht} (hs : ShtOk nb s) {T : Nat} (hT : T ≤ 300) : f_law_parts [.int s.h, .int s.s, .lst (s.sh.map partD), partD s.ah, partD s.md, .lst (s.tl.map partD), .int (T : Int)] = .ok (.lst ((partsS s T).map prD)) := by
  have hh := hs.hk
  have h2 := hs.sk
  have hsh := hs.sh.1
  have htl := hs.tl.1
  show b_law_parts _ _ _ _ _ _ _ = _
  unfold b_law_parts partsS
  refine (bind_eq (a := D.int ((T : Int) - s.s + 1)) (by rw [R.bin2_ok (f := pSub), pSub_ii, R.bin2_ok, pAdd_ii])).trans ?_
  refine (bind_eq (a := decide ((T : Int) - s.s + 1 < 0)) (by rw [R.bin2_ok, pLt_ii, R.bind_ok, toB_bl])).trans ?_
  by_cases ho : (T : Int) - s.s + 1 < 0
  · rw [decide_eq_true ho, if_pos rfl, if_pos ho, part_get (by omega)]
    rfl
  rw [decide_eq_false ho, if_neg (by decide), if_neg ho]
  have d2 := Int.emod_nonneg ((T : Int) - s.s + 1) (show s.h ≠ 0 by omega)
  have d3 := Int.emod_lt_of_pos ((T : Int) - s.s + 1) (show 0 < s.h by omega)
  have d4 : 0 ≤ ((T : Int) - s.s + 1) / s.h := Int.ediv_nonneg (by omega) (by omega)
  have d5 : ((T : Int) - s.s + 1) / s.h ≤ (T : Int) - s.s + 1 := Int.ediv_le_self s.h (by omega)
  have dv : pDiv (.int ((T : Int) - s.s + 1)) (.int s.h) = .ok (.int (((T : Int) - s.s + 1) / s.h)) := pDiv_ii (divOk_small (by omega) (by omega))
  have dm : pMod (.int ((T : Int) - s.s + 1)) (.int s.h) = .ok (.int (((T : Int) - s.s + 1) % s.h)) := pMod_ii (by omega)
  rw [R.bin2_ok (f := pDiv), dv, R.bin2_ok (f := pMod), dm]
  generalize ((T : Int) - s.s + 1) % s.h = r at *
  generalize ((T : Int) - s.s + 1) / s.h = q at *
  obtain ⟨qn, rfl⟩ := Int.eq_ofNat_of_zero_le d4
  obtain ⟨rn, rfl⟩ := Int.eq_ofNat_of_zero_le d2
  rw [Int.toNat_natCast, Int.toNat_natCast]
  have mul : ∀ z : Nat, z ≤ 1000 → pMul (.int s.h) (.int (z : Int)) = .ok (.int (s.h * (z : Int))) := fun z hz => pMul_ii ((bd_le (m := 4000) (by omega) (by omega) (by decide) : bd 20 s.h).mulOk (bd_le (m := 1000) (by omega) (by omega) (by decide) : bd 20 (z : Int)) (by decide))
  refine (bind_eq (a := D.lst [prD (s.ah, 0)]) rfl).trans ?_
  refine (bind_eq (a := (List.range qn).map fun (y : Nat) => D.int (y : Int)) (by rw [R.bind_ok, pRange1_ok (by omega), rngL_map])).trans ?_
  have z := rFor_app (m := fun (y : Nat) => D.int (y : Int)) (h := fun (y : Nat) => prD (s.md, s.h * (y : Int))) (f := l_law_parts_1 (partD s.md) (.int s.h)) (xs := List.range qn) (acc := [prD (s.ah, 0)]) (fun y hy acc hl => by
    have := List.mem_range.mp hy
    unfold l_law_parts_1
    rw [toL_l, R.bind_ok, R.bin2_ok (f := pMul), mul y (by omega), R.cons_ok, R.cons_ok, R.bind_ok (f := mkT), mkT_2, R.bind_ok, appL_ok (by omega), R.bind_ok]
    rfl) (by simp; omega)
  refine (bind_eq z).trans ?_
  rw [part_get (by omega), R.bin2_ok (f := pMul), mul qn (by omega), R.cons_ok, R.cons_ok, R.bind_ok (f := mkT), mkT_2, R.cons_ok, R.bind_ok (f := mkL), mkL_1, R.bin2_ok, pCatL_ok (by simp; omega)]
  congr 2
  rw [List.map_append, List.map_cons, List.map_map]
  rfl
abbrev lawF (m : Int) (fd : KL) : D → D × D × D × D → R (D × D × D × D) := fun z t5 => R.bind (un2 z) fun p6 => (l_law_done_4 (dcD fd) (.int m)) p6 t5
theorem rFor_append {τ : Type} {f : D → τ → R τ} : ∀ {xs ys : List D} {t t1 t2 : τ}, rFor xs t f = .ok t1 → rFor ys t1 f = .ok t2 → rFor (xs ++ ys) t f = .ok t2
  | [], ys, t, t1, t2, h, h2 => by
    cases (show R.ok t = R.ok t1 from h)
    exact h2
  | x :: xs, ys, t, t1, t2, h, h2 => by
    unfold rFor at h
    rw [List.cons_append]
    unfold rFor
    cases e : f x t with
    | bad => rw [e] at h; cases h
    | exc z => rw [e] at h; cases h
    | ok u =>
      rw [e, R.bind_ok] at h
      rw [R.bind_ok]
      exact rFor_append h h2
theorem mids62 (h : RunS m fd T) {s : Sht} (hs : ShtOk nb s) : ∀ (ys : List Nat) {x : Int} {f : D} {t : D × D × D × D}, (∀ z ∈ ys, z ≤ 1000 ∧ s.h * (z : Int) ≤ T) → x + 3 * ys.length ≤ 90000 → At m fd nb x f t →
    ∃ f' t' x', rFor (ys.map fun (z : Nat) => D.int (z : Int)) f (l_run_1 (sheetD s)) = .ok f' ∧ rFor (ys.map fun (z : Nat) => prD (s.md, s.h * (z : Int))) t (lawF m fd) = .ok t' ∧ x ≤ x' ∧ x' ≤ x + 3 * ys.length ∧ At m fd nb x' f' t'
  | [], x, f, t, _, _, ha => ⟨f, t, x, rfl, rfl, Int.le_refl _, by simp, ha⟩
  | z :: ys, x, f, t, hz, hx, ha => by
    rw [List.length_cons] at hx
    have hh := hs.hk
    obtain ⟨z1, z2⟩ := hz z List.mem_cons_self
    have z3 : 0 ≤ s.h * (z : Int) := Int.mul_nonneg (by omega) (by omega)
    obtain ⟨f1, t1, x1, e1, e2, k1, k2, h1⟩ := part62 h ⟨z3, z2⟩ hs.md (by omega) ha
    obtain ⟨f2, t2, x2, e3, e4, k3, k4, h2⟩ := mids62 h hs ys (fun q hq => hz q (List.mem_cons_of_mem _ hq)) (by omega) h1
    refine ⟨f2, t2, x2, ?_, ?_, by omega, by rw [List.length_cons]; push_cast; omega, h2⟩
    · rw [List.map_cons]
      unfold rFor
      have g1 : (R.bind (.ok (sheetD s)) (pFld "Sheet" "middle") : R D) = .ok (partD s.md) := rfl
      have g2 : (R.bind (.ok (sheetD s)) (pFld "Sheet" "held") : R D) = .ok (.int s.h) := rfl
      have one : l_run_1 (sheetD s) (.int (z : Int)) f = .ok f1 := by
        unfold l_run_1
        rw [ha.obj (by decide), R.bind_ok, g1, g2, R.bin2_ok, pMul_ii ((bd_le (m := 4000) (by omega) (by omega) (by decide) : bd 20 s.h).mulOk (bd_le (m := 1000) (by omega) (by omega) (by decide) : bd 20 (z : Int)) (by decide)), R.cons_ok, R.cons_ok, R.bind_ok, e1, R.bind_ok]
      exact (bind_eq one).trans e3
    · rw [List.map_cons]
      unfold rFor
      exact (bind_eq e2).trans e4
theorem run62 {T : Nat} (h : RunS m fd (T : Int)) (hT : T ≤ 300) {s : Sht} (hs : ShtOk nb s) {B0 : List Int} (hB : B0.length = nb) :
    ∃ (tl : Told) (B : List Int), f_run [.int m, sheetD s, .int (T : Int), dcD fd, lsD B0] = .ok (.tup [tellD tl, lsD B]) ∧ f_law_done [.int m, .lst ((partsS s T).map prD), dcD fd, lsD B0] = .ok (.lst [tellD tl, lsD B]) ∧ B.length = nb ∧ tl.length ≤ 10000 ∧ ∀ q ∈ tl, q.1 = nIn ∨ q.1 = nOn := by
  have hh := hs.hk
  have h2 := hs.sk
  have hsh := hs.sh.1
  have htl := hs.tl.1
  have i0 : At m fd nb 0 (flrD m (dcD fd) B0 [] 0 []) (lsD B0, .int 0, .lst [], .lst []) := ⟨B0, [], [], [], rfl, rfl, hB, ⟨⟨List.nodup_nil, fun e he => (by cases he)⟩, fun y => rfl⟩, fun q hq => (by cases hq), by omega, by simp, fun e he => (by cases he), by simp, by simp, fun q hq => (by cases hq)⟩
  have g1 : (R.bind (.ok (sheetD s)) (pFld "Sheet" "stages") : R D) = .ok (.int s.s) := rfl
  have g2 : (R.bind (.ok (sheetD s)) (pFld "Sheet" "held") : R D) = .ok (.int s.h) := rfl
  have g3 : (R.bind (.ok (sheetD s)) (pFld "Sheet" "shorts") : R D) = .ok (.lst (s.sh.map partD)) := rfl
  have g4 : (R.bind (.ok (sheetD s)) (pFld "Sheet" "ahead") : R D) = .ok (partD s.ah) := rfl
  have g5 : (R.bind (.ok (sheetD s)) (pFld "Sheet" "tails") : R D) = .ok (.lst (s.tl.map partD)) := rfl
  obtain ⟨f1, t1, x1, ef1, et1, k1, hf1⟩ : ∃ f1 t1 x1, (R.bind (R.bind (R.bin2 (.ok (D.int ((T : Int) - s.s + 1))) (.ok (.int 0)) pLt) toB) fun b => if b = true then (R.bind (asObj "Floor" "go" (flrD m (dcD fd) B0 [] 0 [])) fun _ => R.bind (R.cons (R.bin2 (R.bind (.ok (sheetD s)) (pFld "Sheet" "shorts")) (.ok (D.int (T : Int))) pIx) (R.cons (.ok (.int 0)) (.ok []))) fun ds => R.bind (pW f_Floor_go 3 (flrD m (dcD fd) B0 [] 0 [] :: ds)) fun p4 => (.ok p4.2)) else (R.bind (asObj "Floor" "go" (flrD m (dcD fd) B0 [] 0 [])) fun _ => R.bind (R.cons (R.bind (.ok (sheetD s)) (pFld "Sheet" "ahead")) (R.cons (.ok (.int 0)) (.ok []))) fun ds => R.bind (pW f_Floor_go 3 (flrD m (dcD fd) B0 [] 0 [] :: ds)) fun p5 => (R.bind (R.bind (R.cons (.ok (D.int ((T : Int) - s.s + 1))) (R.cons (R.bind (.ok (sheetD s)) (pFld "Sheet" "held")) (.ok []))) pDivmod) fun d => R.bind (un2 d) fun p6 => (R.bind (R.bind (.ok p6.1) pRange1) fun xs => R.bind (rFor xs p5.2 ((l_run_1 (sheetD s)))) fun t7 => (R.bind (asObj "Floor" "go" t7) fun _ => R.bind (R.cons (R.bin2 (R.bind (.ok (sheetD s)) (pFld "Sheet" "tails")) (.ok p6.2) pIx) (R.cons (R.bin2 (R.bind (.ok (sheetD s)) (pFld "Sheet" "held")) (.ok p6.1) pMul) (.ok []))) fun ds => R.bind (pW f_Floor_go 3 (t7 :: ds)) fun p10 => (.ok p10.2)))))) = .ok f1 ∧
      rFor ((partsS s T).map prD) (lsD B0, .int 0, .lst [], .lst []) (lawF m fd) = .ok t1 ∧ x1 ≤ 2000 ∧ At m fd nb x1 f1 t1 := by
    rw [R.bin2_ok (f := pLt), pLt_ii, R.bind_ok (f := toB), toB_bl, R.bind_ok]
    unfold partsS
    by_cases ho : (T : Int) - s.s + 1 < 0
    · rw [if_pos ho, decide_eq_true ho, if_pos rfl]
      have hix : T < s.sh.length := by omega
      have hp : PartOk nb (s.sh.getD T []) := by
        rw [show s.sh.getD T [] = s.sh[T] by simp [List.getD, hix]]
        exact hs.sh.2 _ (List.getElem_mem hix)
      obtain ⟨f1, t1, x1, e1, e2, k1, k2, h1⟩ := part62 h (b := 0) ⟨Int.le_refl 0, by omega⟩ hp (by omega) i0
      refine ⟨f1, t1, x1, ?_, ?_, by omega, h1⟩
      · rw [as_flr (by decide), R.bind_ok, g3, part_get hix, R.cons_ok, R.cons_ok, R.bind_ok, e1, R.bind_ok]
      · rw [List.map_cons, List.map_nil]
        unfold rFor
        exact (bind_eq e2).trans rfl
    · rw [if_neg ho, decide_eq_false ho, if_neg (by decide)]
      have d2 := Int.emod_nonneg ((T : Int) - s.s + 1) (show s.h ≠ 0 by omega)
      have d3 := Int.emod_lt_of_pos ((T : Int) - s.s + 1) (show 0 < s.h by omega)
      have d4 : 0 ≤ ((T : Int) - s.s + 1) / s.h := Int.ediv_nonneg (by omega) (by omega)
      have d5 : ((T : Int) - s.s + 1) / s.h ≤ (T : Int) - s.s + 1 := Int.ediv_le_self s.h (by omega)
      have d6 := Int.emod_add_mul_ediv ((T : Int) - s.s + 1) s.h
      have dvm : pDivmod [.int ((T : Int) - s.s + 1), .int s.h] = .ok (.tup [.int (((T : Int) - s.s + 1) / s.h), .int (((T : Int) - s.s + 1) % s.h)]) := by
        have := of_decide_eq_true (divOk_small (b := s.h) (by omega) (by omega))
        show (if 0 < s.h ∧ s.h.natAbs.log2 < 9000 then _ else _) = _
        rw [if_pos this]
      generalize ((T : Int) - s.s + 1) % s.h = r at *
      generalize ((T : Int) - s.s + 1) / s.h = q at *
      obtain ⟨qn, rfl⟩ := Int.eq_ofNat_of_zero_le d4
      obtain ⟨rn, rfl⟩ := Int.eq_ofNat_of_zero_le d2
      rw [Int.toNat_natCast, Int.toNat_natCast]
      have hix : rn < s.tl.length := by omega
      have hp : PartOk nb (s.tl.getD rn []) := by
        rw [show s.tl.getD rn [] = s.tl[rn] by simp [List.getD, hix]]
        exact hs.tl.2 _ (List.getElem_mem hix)
      have mono : ∀ z : Nat, z ≤ qn → s.h * (z : Int) ≤ s.h * (qn : Int) := fun z hz => Int.mul_le_mul_of_nonneg_left (by omega) (by omega)
      obtain ⟨f1, t1, x1, e1, a1, k1, k2, h1⟩ := part62 h (b := 0) ⟨Int.le_refl 0, by omega⟩ hs.ah (by omega) i0
      obtain ⟨f2, t2, x2, e2, a2, k3, k4, h2'⟩ := mids62 h hs (List.range qn) (fun z hz => by
        have := List.mem_range.mp hz
        have := mono z (by omega)
        omega) (by rw [List.length_range]; omega) h1
      rw [List.length_range] at k4
      have q0 : 0 ≤ s.h * (qn : Int) := Int.mul_nonneg (by omega) (by omega)
      obtain ⟨f3, t3, x3, e3, a3, k5, k6, h3⟩ := part62 h (b := s.h * (qn : Int)) ⟨q0, by omega⟩ hp (by omega) h2'
      refine ⟨f3, t3, x3, ?_, ?_, by omega, h3⟩
      · rw [as_flr (by decide), R.bind_ok, g4, R.cons_ok, R.cons_ok, R.bind_ok, e1, R.bind_ok]
        refine (bind_eq (a := D.tup [.int (qn : Nat), .int (rn : Nat)]) (by rw [g2, R.cons_ok, R.cons_ok, R.bind_ok, dvm])).trans ?_
        refine (bind_eq (a := (D.int (qn : Nat), D.int (rn : Nat))) rfl).trans ?_
        dsimp only
        refine (bind_eq (a := (List.range qn).map fun (y : Nat) => D.int (y : Int)) (by rw [R.bind_ok, pRange1_ok (by omega), rngL_map])).trans ?_
        refine (bind_eq e2).trans ?_
        rw [h2'.obj (by decide), R.bind_ok, g5, part_get hix, g2, R.bin2_ok, pMul_ii ((bd_le (m := 4000) (by omega) (by omega) (by decide) : bd 20 s.h).mulOk (bd_le (m := 1000) (by omega) (by omega) (by decide) : bd 20 (qn : Int)) (by decide)), R.cons_ok, R.cons_ok, R.bind_ok, e3, R.bind_ok]
      · rw [List.map_append, List.map_cons, List.map_map]
        refine rFor_append (t1 := t2) ?_ ?_
        · unfold rFor
          exact (bind_eq a1).trans a2
        · rw [List.map_cons, List.map_nil]
          unfold rFor
          exact (bind_eq a3).trans rfl
  obtain ⟨B, tl, ⟨y, ef⟩, el, e7, hBl, ltl, hn⟩ := end62 hf1 (by omega)
  have hx0 : 0 ≤ x1 := by
    obtain ⟨_, _, _, _, _, _, _, _, _, x0, _⟩ := hf1.ex
    exact x0
  refine ⟨tl, B, ?_, ?_, hBl, by omega, hn⟩
  · show b_run _ _ _ _ _ = _
    unfold b_run
    refine (bind_eq (a := false) (by rw [R.bin2_ok, pLt_ii, R.bind_ok, toB_bl, R.bin2_ok, pGt_ii, R.bind_ok, toB_bl, decide_eq_false (by omega), decide_eq_false (by omega)]; rfl)).trans ?_
    rw [if_neg (by decide)]
    refine (bind_eq (a := flrD m (dcD fd) B0 [] 0 []) (by rw [R.cons_ok, R.cons_ok, R.cons_ok, R.bind_ok, flr_init])).trans ?_
    refine (bind_eq (a := D.int ((T : Int) - s.s + 1)) (by rw [g1, R.bin2_ok (f := pSub), pSub_ii, R.bin2_ok, pAdd_ii])).trans ?_
    refine (bind_eq ef1).trans ?_
    rw [hf1.obj (by decide), R.bind_ok, ef, R.bind_ok]
    have k1 : (R.bind (.ok (flrD m (dcD fd) B [] y tl)) (pFld "Floor" "told") : R D) = .ok (tellD tl) := rfl
    have k2 : (R.bind (.ok (flrD m (dcD fd) B [] y tl)) (pFld "Floor" "boxes") : R D) = .ok (lsD B) := rfl
    dsimp only
    rw [k1, k2, R.cons_ok, R.cons_ok, R.bind_ok, mkT_2]
  · show b_law_done _ _ _ _ = _
    unfold b_law_done
    refine (bind_eq (a := lsD B0) (by rw [R.cons_ok, R.bind_ok]; exact pList_l)).trans ?_
    rw [R.bind_ok, R.bind_ok (f := mkL), mkL_0, R.bind_ok, R.bind_ok, R.bind_ok (f := toSeq), toSeq_l, R.bind_ok]
    refine (bind_eq et1).trans ?_
    refine (bind_eq (a := rngL 0 7) (by rw [R.bind_ok]; exact pRange1_ok (n := 7) (by omega))).trans ?_
    refine (bind_eq e7).trans ?_
    rw [el, R.cons_ok, R.cons_ok, R.bind_ok, mkL_2]
end
end Lx
namespace Lx
open PySem PySem.Spec PyProof.Rows L2 Lw
theorem law_wants_ok {w : Str} (h : w ∈ W9) : f_law_wants [.str w] = .ok (.int (wantsN w)) := by
  simp only [W9, List.mem_cons, List.not_mem_nil, or_false] at h
  rcases h with rfl | rfl | rfl | rfl | rfl | rfl | rfl | rfl | rfl
  all_goals rfl
theorem pick_lit {α : Type} {r : R D} {ds : List D} {i : Int} {m : α → D} {P : α → Prop} (e : r = .ok (.lst ds)) (h1 : 0 ≤ i) (h2 : i < ds.length) (hd : ∀ d ∈ ds, ∃ a, d = m a ∧ P a) : ∃ a, R.bin2 r (.ok (.int i)) pIx = .ok (m a) ∧ P a := by
  obtain ⟨d, hm, ed⟩ := lit_at (ds := ds) h1 h2
  obtain ⟨a, rfl, ha⟩ := hd d hm
  exact ⟨a, by rw [e, R.bin2_ok, ed], ha⟩
structure StpSm (s : Stp) : Prop where
  num : ∀ i, Sr.num i ∈ s.rs → i.natAbs < 10 ^ 60
def PartSm (p : Part) : Prop := ∀ tk ∈ p, ∀ s ∈ tk, StpSm s
theorem pw (n : Nat) (h : powOk 10 n = true) : (R.bin2 (.ok (.int 10)) (.ok (.int (n : Int))) pPow : R D) = .ok (.int (10 ^ n)) := by
  rw [R.bin2_ok]
  exact pPow_ii h
theorem cell60 {ns : List Int} {x : Int} : ∃ i : Int, R.bin2 (R.bind (R.cons (.ok (.scr (ns.map D.int))) (R.cons (R.bin2 (.ok (.int x)) (.ok (.int 63)) pMod) (.ok []))) f_law_cell_at) (R.bin2 (.ok (.int 10)) (.ok (.int 60)) pPow) pMod = .ok (.int i) ∧ 0 ≤ i ∧ i < 10 ^ 60 := by
  obtain ⟨k, ek, _⟩ := emodN (a := x) (b := 63) (by decide)
  refine ⟨ns.getD k 0 % 10 ^ 60, ?_, Int.emod_nonneg _ (by decide), Int.emod_lt_of_pos _ (by decide)⟩
  rw [R.bin2_ok (f := pMod), pMod_ii (by decide), ek, R.bin2_ok (f := pPow), p60, R.cons_ok, R.cons_ok, R.bind_ok, cell_at, R.bin2_ok, pMod_ii (by decide)]
theorem law_step_ok {ns : List Int} {x : Int} (x0 : 0 ≤ x) {nb : Nat} (hb : 1 ≤ nb ∧ nb ≤ 100) : ∃ s : Stp, f_law_step [.scr (ns.map D.int), .int x, .int (nb : Int)] = .ok (stpD s) ∧ StpOk nb s ∧ StpSm s := by
  suffices z : Gv (f_law_step [.scr (ns.map D.int), .int x, .int (nb : Int)]) fun d => ∃ s : Stp, d = stpD s ∧ StpOk nb s ∧ StpSm s by
    obtain ⟨d, e, s, rfl, h⟩ := z
    exact ⟨s, e, h⟩
  have m0 := Int.emod_nonneg x (show (9 : Int) ≠ 0 by decide)
  have m1 := Int.emod_lt_of_pos x (show (0 : Int) < 9 by decide)
  obtain ⟨w, hw, _, ew⟩ := W9_ix (i := x % 9) ⟨m0, m1⟩
  have h3 := wants3 hw
  show Gv (b_law_step _ _ _) _
  unfold b_law_step
  refine Gv.step (a := D.str w) ?_ ?_
  · have e1 : (R.bind (R.cons (.ok (.str "sum")) (R.cons (.ok (.str "less")) (R.cons (.ok (.str "times")) (R.cons (.ok (.str "least")) (R.cons (.ok (.str "most")) (R.cons (.ok (.str "pick")) (R.cons (.ok (.str "same")) (R.cons (.ok (.str "tell")) (R.cons (.ok (.str "take")) (.ok [])))))))))) mkL : R D) = .ok (.lst (W9.map D.str)) := rfl
    rw [e1, R.bin2_ok (f := pMod), pMod_ii (by decide), R.bin2_ok, ew]
  refine Gv.step (a := D.lst []) (by rw [R.bind_ok, mkL_0]) ?_
  refine Gv.step (a := rngL 0 (wantsN w)) (by rw [R.cons_ok, R.bind_ok (f := f_law_wants), law_wants_ok hw, R.bind_ok, pRange1_ok (by omega)]) ?_
  refine Gv.bind (P := fun d => ∃ rs : List Sr, d = .lst (rs.map srD) ∧ rs.length = wantsN w ∧ (∀ k, Sr.box k ∈ rs → 0 ≤ k ∧ k < nb) ∧ ∀ i, Sr.num i ∈ rs → i.natAbs < 10 ^ 60) (Gv.rfor (fun j d => ∃ rs : List Sr, d = .lst (rs.map srD) ∧ rs.length = j ∧ (∀ k, Sr.box k ∈ rs → 0 ≤ k ∧ k < nb) ∧ ∀ i, Sr.num i ∈ rs → i.natAbs < 10 ^ 60) ⟨[], rfl, rfl, fun k hk => (by cases hk), fun k hk => (by cases hk)⟩ (fun j y t hy ht => ?_) fun t ht => by rw [rngL_length] at ht; exact ht) fun d hd => ?_
  · obtain ⟨hj, rfl⟩ := rngL_at hy
    rw [Int.zero_add]
    obtain ⟨rs, rfl, hl, h1, h2⟩ := ht
    unfold l_law_step_1
    obtain ⟨v, ev⟩ : ∃ v : Int, R.bin2 (.ok (.int x)) (R.bin2 (R.bind (R.cons (R.bin2 (.ok (.int 10)) (.ok (.int 4)) pPow) (R.cons (R.bin2 (.ok (.int 10)) (.ok (.int 8)) pPow) (R.cons (R.bin2 (.ok (.int 10)) (.ok (.int 12)) pPow) (.ok [])))) mkL) (.ok (D.int (j : Int))) pIx) pDiv = .ok (.int v) := by
      have e1 : (R.bind (R.cons (R.bin2 (.ok (.int 10)) (.ok (.int 4)) pPow) (R.cons (R.bin2 (.ok (.int 10)) (.ok (.int 8)) pPow) (R.cons (R.bin2 (.ok (.int 10)) (.ok (.int 12)) pPow) (.ok [])))) mkL : R D) = .ok (.lst [.int (10 ^ 4), .int (10 ^ 8), .int (10 ^ 12)]) := by
        rw [show (R.bin2 (.ok (.int 10)) (.ok (.int 4)) pPow : R D) = .ok (.int (10 ^ 4)) from pw 4 (by decide), show (R.bin2 (.ok (.int 10)) (.ok (.int 8)) pPow : R D) = .ok (.int (10 ^ 8)) from pw 8 (by decide), show (R.bin2 (.ok (.int 10)) (.ok (.int 12)) pPow : R D) = .ok (.int (10 ^ 12)) from pw 12 (by decide), R.cons_ok, R.cons_ok, R.cons_ok, R.bind_ok, mkL_3]
      rw [e1]
      obtain rfl | rfl | rfl : j = 0 ∨ j = 1 ∨ j = 2 := by omega
      · exact ⟨x / 10 ^ 4, by
          have e2 : (R.bin2 (.ok (.lst [.int (10 ^ 4), .int (10 ^ 8), .int (10 ^ 12)])) (.ok (D.int ((0 : Nat) : Int))) pIx : R D) = .ok (.int (10 ^ 4)) := by rw [R.bin2_ok]; exact pIx_0
          rw [e2, R.bin2_ok, pDiv_ii (by decide)]⟩
      · exact ⟨x / 10 ^ 8, by
          have e2 : (R.bin2 (.ok (.lst [.int (10 ^ 4), .int (10 ^ 8), .int (10 ^ 12)])) (.ok (D.int ((1 : Nat) : Int))) pIx : R D) = .ok (.int (10 ^ 8)) := by rw [R.bin2_ok]; exact pIx_1
          rw [e2, R.bin2_ok, pDiv_ii (by decide)]⟩
      · exact ⟨x / 10 ^ 12, by
          have e2 : (R.bin2 (.ok (.lst [.int (10 ^ 4), .int (10 ^ 8), .int (10 ^ 12)])) (.ok (D.int ((2 : Nat) : Int))) pIx : R D) = .ok (.int (10 ^ 12)) := by rw [R.bin2_ok]; exact pIx_2
          rw [e2, R.bin2_ok, pDiv_ii (by decide)]⟩
    refine Gv.step ev ?_
    refine Gv.ite (c := v % 4 == 0) (by rw [R.bin2_ok (f := pMod), pMod_ii (by decide), R.bin2_ok, pEq_ii, R.bind_ok, toB_bl]) (fun _ => ?_) fun _ => ?_
    · obtain ⟨i, ei, i0, i1⟩ := cell60 (ns := ns) (x := v / 4)
      refine Gv.step toL_l (Gv.step (a := D.int i) ?_ (Gv.step (appL_ok (by simp; omega)) (Gv.ok ⟨rs ++ [.num i], by simp [srD], by simp; omega, fun k hk => ?_, fun k hk => ?_⟩)))
      · rw [R.bin2_ok (f := pDiv), pDiv_ii (by decide)]
        exact ei
      · rcases List.mem_append.mp hk with z | z
        · exact h1 k z
        · cases List.mem_singleton.mp z
      · rcases List.mem_append.mp hk with z | z
        · exact h2 k z
        · cases List.mem_singleton.mp z
          omega
    · have b0 := Int.emod_nonneg (v / 4) (show (nb : Int) ≠ 0 by omega)
      have b1 := Int.emod_lt_of_pos (v / 4) (show (0 : Int) < (nb : Int) by omega)
      refine Gv.step toL_l (Gv.step (a := srD (.box (v / 4 % nb))) ?_ (Gv.step (appL_ok (by simp; omega)) (Gv.ok ⟨rs ++ [.box (v / 4 % nb)], by simp, by simp; omega, fun k hk => ?_, fun k hk => ?_⟩)))
      · rw [R.bin2_ok (f := pDiv), pDiv_ii (by decide), R.bin2_ok, pMod_ii (by omega), R.cons_ok, R.cons_ok, R.bind_ok, mkT_2]
        rfl
      · rcases List.mem_append.mp hk with z | z
        · exact h1 k z
        · cases List.mem_singleton.mp z
          exact ⟨b0, b1⟩
      · rcases List.mem_append.mp hk with z | z
        · exact h2 k z
        · cases List.mem_singleton.mp z
  · obtain ⟨rs, rfl, hl, h1, h2⟩ := hd
    have e3 : (R.bind (R.cons (.ok (.str "in")) (R.cons (.ok (.str "on")) (.ok []))) mkL : R D) = .ok (.lst [nmD nIn, nmD nOn]) := by
      have e4 : (.str "in" : D) = nmD nIn := congrArg D.str (by decide +kernel)
      have e5 : (.str "on" : D) = nmD nOn := congrArg D.str (by decide +kernel)
      rw [← e4, ← e5]
      rfl
    have q0 := Int.emod_nonneg (x / 400) (show (2 : Int) ≠ 0 by decide)
    have q1 := Int.emod_lt_of_pos (x / 400) (show (0 : Int) < 2 by decide)
    obtain ⟨n, en, hn⟩ := pick_lit (m := nmD) (P := fun l => l = nIn ∨ l = nOn) e3 q0 (by simpa using q1) fun d hd => by
      simp only [List.mem_cons, List.not_mem_nil, or_false] at hd
      rcases hd with rfl | rfl
      · exact ⟨_, rfl, .inl rfl⟩
      · exact ⟨_, rfl, .inr rfl⟩
    have d0 := Int.emod_nonneg (x / 9) (show (6 : Int) ≠ 0 by decide)
    have d1 := Int.emod_lt_of_pos (x / 9) (show (0 : Int) < 6 by decide)
    have b0 := Int.emod_nonneg (x / 54) (show (nb : Int) ≠ 0 by omega)
    have b1 := Int.emod_lt_of_pos (x / 54) (show (0 : Int) < (nb : Int) by omega)
    have t0 := Int.emod_nonneg (x / 800) (show (5 : Int) ≠ 0 by decide)
    have t1 := Int.emod_lt_of_pos (x / 800) (show (0 : Int) < 5 by decide)
    refine Gv.step (a := nmD n) ?_ ?_
    · rw [R.bin2_ok (f := pDiv), pDiv_ii (by decide), R.bin2_ok (f := pMod), pMod_ii (by decide)]
      exact en
    refine Gv.eq (a := stpD ⟨w, 1 + x / 9 % 6, x / 54 % nb, rs, n, x / 800 % 5⟩) ?_ ⟨_, rfl, ⟨hw, hl, by dsimp only; omega, ⟨b0, b1⟩, h1, hn, by dsimp only; omega⟩, ⟨h2⟩⟩
    rw [R.bin2_ok (f := pDiv), pDiv_ii (by decide), R.bin2_ok (f := pMod), pMod_ii (by decide), R.bin2_ok (f := pAdd), pAdd_ii, R.bin2_ok (f := pDiv), pDiv_ii (by decide), R.bin2_ok (f := pMod), pMod_ii (by omega), R.bin2_ok (f := pDiv), pDiv_ii (by decide), R.bin2_ok (f := pMod), pMod_ii (by decide)]
    simp only [R.cons_ok]
    rw [R.bind_ok, mkT_ok (by simp)]
    rfl
theorem law_part_ok {ns : List Int} {a : Nat} (ha : a ≤ 20) {nb : Nat} (hb : 1 ≤ nb ∧ nb ≤ 100) : ∃ p : Part, f_law_part [.scr (ns.map D.int), .int (a : Int), .int (nb : Int)] = .ok (partD p) ∧ PartOk nb p ∧ PartSm p := by
  suffices z : Gv (f_law_part [.scr (ns.map D.int), .int (a : Int), .int (nb : Int)]) fun d => ∃ p : Part, d = partD p ∧ PartOk nb p ∧ PartSm p by
    obtain ⟨d, e, s, rfl, h⟩ := z
    exact ⟨s, e, h⟩
  show Gv (b_law_part _ _ _) _
  unfold b_law_part
  obtain ⟨x, ex, x0, _⟩ := mix_ok (c := ns.getD a 0) (k := 60 + (a : Int)) (bd_le (m := 1000) (by omega) (by omega) (by decide))
  obtain ⟨q, eq, hq⟩ := emodN (a := x) (b := 4) (by decide)
  refine Gv.step (a := D.lst []) (by rw [R.bind_ok, mkL_0]) ?_
  refine Gv.step (a := rngL 0 q) ?_ ?_
  · rw [R.bin2_ok (f := pAdd), pAdd_ii, R.cons_ok, R.cons_ok, R.bind_ok (f := f_law_cell_at), cell_at, R.cons_ok, R.cons_ok, R.bind_ok (f := f_law_mix), ex, R.bin2_ok, pMod_ii (by decide), eq, R.bind_ok, pRange1_ok (by omega)]
  refine Gv.bind (P := fun d => ∃ p : Part, d = partD p ∧ PartOk nb p ∧ PartSm p) (Gv.rfor (fun j d => ∃ p : Part, d = partD p ∧ p.length = j ∧ (∀ tk ∈ p, tk.length ≤ 3 ∧ ∀ s ∈ tk, StpOk nb s) ∧ PartSm p) ⟨[], rfl, rfl, fun k hk => (by cases hk), fun k hk => (by cases hk)⟩ (fun j y t hy ht => ?_) fun t ht => ?_) fun d hd => Gv.ok hd
  · obtain ⟨hj, rfl⟩ := rngL_at hy
    rw [Int.zero_add]
    obtain ⟨p, rfl, hl, h1, h2⟩ := ht
    unfold l_law_part_2
    have mul4 : pMul (.int 4) (.int (a : Int)) = .ok (.int (4 * (a : Int))) := pMul_ii ((bd_le (m := 4) (by decide) (by decide) (by decide) : bd 20 (4 : Int)).mulOk (bd_le (m := 1000) (by omega) (by omega) (by decide) : bd 20 (a : Int)) (by decide))
    obtain ⟨w, ew, w0, _⟩ := mix_ok (c := ns.getD a 0) (k := 80 + 4 * (a : Int) + (j : Int)) (bd_le (m := 1000) (by omega) (by omega) (by decide))
    obtain ⟨r, er, hr⟩ := emodN (a := w) (b := 4) (by decide)
    refine Gv.step (a := D.int w) ?_ ?_
    · rw [R.bin2_ok (f := pMul), mul4, R.bin2_ok (f := pAdd), pAdd_ii, R.bin2_ok (f := pAdd), pAdd_ii, R.cons_ok, R.cons_ok, R.bind_ok (f := f_law_cell_at), cell_at, R.cons_ok, R.cons_ok, R.bind_ok, ew]
    refine Gv.step (a := D.lst []) (by rw [R.bind_ok, mkL_0]) ?_
    refine Gv.step (a := rngL 0 r) (by rw [R.bin2_ok, pMod_ii (by decide), er, R.bind_ok, pRange1_ok (by omega)]) ?_
    refine Gv.bind (P := fun d => ∃ tk : List Stp, d = tkD tk ∧ tk.length = r ∧ (∀ s ∈ tk, StpOk nb s) ∧ ∀ s ∈ tk, StpSm s) (Gv.rfor (fun i d => ∃ tk : List Stp, d = tkD tk ∧ tk.length = i ∧ (∀ s ∈ tk, StpOk nb s) ∧ ∀ s ∈ tk, StpSm s) ⟨[], rfl, rfl, fun k hk => (by cases hk), fun k hk => (by cases hk)⟩ (fun i y t hy ht => ?_) fun t ht => by rw [rngL_length] at ht; exact ht) fun d hd => ?_
    · obtain ⟨hi, rfl⟩ := rngL_at hy
      rw [Int.zero_add]
      obtain ⟨tk, rfl, hlt, g1, g2⟩ := ht
      unfold l_law_part_1
      obtain ⟨v, ev, v0, _⟩ := mix_ok (c := w / 4 % 10 ^ 20) (k := (i : Int)) (bd_le (m := 1000) (by omega) (by omega) (by decide))
      obtain ⟨s, es, s1, s2⟩ := law_step_ok (ns := ns) v0 hb
      refine Gv.step (a := tk.map stpD) toL_l (Gv.step (a := stpD s) ?_ (Gv.step (appL_ok (by simp; omega)) (Gv.ok ⟨tk ++ [s], by simp [tkD], by simp; omega, fun k hk => ?_, fun k hk => ?_⟩)))
      · rw [show (R.bin2 (.ok (.int 10)) (.ok (.int 20)) pPow : R D) = .ok (.int (10 ^ 20)) from pw 20 (by decide), R.bin2_ok (f := pDiv), pDiv_ii (by decide), R.bin2_ok (f := pMod), pMod_ii (by decide), R.cons_ok, R.cons_ok, R.bind_ok (f := f_law_mix), ev, R.cons_ok, R.cons_ok, R.cons_ok, R.bind_ok, es]
      · rcases List.mem_append.mp hk with z | z
        · exact g1 k z
        · rw [List.mem_singleton.mp z]; exact s1
      · rcases List.mem_append.mp hk with z | z
        · exact g2 k z
        · rw [List.mem_singleton.mp z]; exact s2
    · obtain ⟨tk, rfl, hlt, g1, g2⟩ := hd
      refine Gv.step (a := p.map tkD) toL_l (Gv.step (a := tkD tk) rfl (Gv.step (appL_ok (by simp; omega)) (Gv.ok ⟨p ++ [tk], by simp [partD], by simp; omega, fun k hk => ?_, fun k hk => ?_⟩)))
      · rcases List.mem_append.mp hk with z | z
        · exact h1 k z
        · rw [List.mem_singleton.mp z]; exact ⟨by omega, g1⟩
      · rcases List.mem_append.mp hk with z | z
        · exact h2 k z
        · rw [List.mem_singleton.mp z]; exact g2
  · rw [rngL_length] at ht
    obtain ⟨p, rfl, hl, h1, h2⟩ := ht
    exact ⟨p, rfl, ⟨by omega, h1⟩, h2⟩
theorem law_numbers_ok {ns : List Int} {a n : Nat} (hn : n ≤ 1000) : ∃ l : List Int, f_law_numbers [.scr (ns.map D.int), .int (a : Int), .int (n : Int)] = .ok (lsD l) ∧ l.length = n ∧ ∀ i ∈ l, i.natAbs < 10 ^ 60 := by
  suffices z : Gv (f_law_numbers [.scr (ns.map D.int), .int (a : Int), .int (n : Int)]) fun d => ∃ l : List Int, d = lsD l ∧ l.length = n ∧ ∀ i ∈ l, i.natAbs < 10 ^ 60 by
    obtain ⟨d, e, s, rfl, h⟩ := z
    exact ⟨s, e, h⟩
  show Gv (b_law_numbers _ _ _) _
  unfold b_law_numbers
  refine Gv.step (a := D.lst []) (by rw [R.bind_ok, mkL_0]) ?_
  refine Gv.step (a := rngL 0 n) (by rw [R.bind_ok, pRange1_ok (by omega)]) ?_
  refine Gv.bind (P := fun d => ∃ l : List Int, d = lsD l ∧ l.length = n ∧ ∀ i ∈ l, i.natAbs < 10 ^ 60) (Gv.rfor (fun j d => ∃ l : List Int, d = lsD l ∧ l.length = j ∧ ∀ i ∈ l, i.natAbs < 10 ^ 60) ⟨[], rfl, rfl, fun k hk => (by cases hk)⟩ (fun j y t hy ht => ?_) fun t ht => by rw [rngL_length] at ht; exact ht) fun d hd => Gv.ok hd
  obtain ⟨hj, rfl⟩ := rngL_at hy
  rw [Int.zero_add]
  obtain ⟨l, rfl, hl, h1⟩ := ht
  unfold l_law_numbers_1
  obtain ⟨i, ei, i0, i1⟩ := cell60 (ns := ns) (x := (a : Int) + (j : Int))
  refine Gv.step (a := D.int i) ?_ ?_
  · rw [R.bin2_ok (f := pAdd), pAdd_ii]
    exact ei
  refine Gv.bind (P := fun d => ∃ v : Int, d = .int v ∧ v.natAbs < 10 ^ 60) ?_ fun d hd => ?_
  · refine Gv.ite (c := (i + (j : Int)) % 3 == 1) (by rw [R.bin2_ok (f := pAdd), pAdd_ii, R.bin2_ok (f := pMod), pMod_ii (by decide), R.bin2_ok, pEq_ii, R.bind_ok, toB_bl]) (fun _ => ?_) fun _ => ?_
    · exact Gv.step (a := D.int (-i)) (by rw [R.bind_ok, pNeg_i]) (Gv.ok ⟨_, rfl, by omega⟩)
    · exact Gv.ok ⟨i, rfl, by omega⟩
  · obtain ⟨v, rfl, hv⟩ := hd
    refine Gv.step (a := l.map D.int) toL_l (Gv.step (a := D.int v) rfl (Gv.step (appL_ok (by simp; omega)) (Gv.ok ⟨l ++ [v], by simp [lsD], by simp; omega, fun k hk => ?_⟩)))
    rcases List.mem_append.mp hk with z | z
    · exact h1 k z
    · rw [List.mem_singleton.mp z]; exact hv
end Lx
namespace Lx
open PySem PySem.Spec PyProof.Rows L2 Lw
theorem w9_ac {w : Str} (h : w ∈ W9) : Rp 52 (.str w) := by
  simp only [W9, List.mem_cons, List.not_mem_nil, or_false] at h
  rcases h with rfl | rfl | rfl | rfl | rfl | rfl | rfl | rfl | rfl <;> exact (Rp.str (ac_lit (by decide))).mono (by decide)
theorem nm_62 {n : List Nat} (h : n = nIn ∨ n = nOn) : Rp 22 (nmD n) := by
  rcases h with rfl | rfl <;> exact (Rp.str (ac_mk (by decide))).mono (by rw [mkS_len]; decide)
theorem small_rp {i : Int} (h1 : -1000 < i) (h2 : i < 1000) : Rp 4 (.int i) := by
  refine Rp.int (k := 3) (by decide) (by decide) ?_
  have : (10 : Nat) ^ 3 = 1000 := by decide
  omega
theorem big_rp {i : Int} (h : i.natAbs < 10 ^ 60) : Rp 61 (.int i) := Rp.int (k := 60) (by decide) (by decide) h
theorem stp_rp {nb : Nat} (hb : nb ≤ 100) {s : Stp} (h : StpOk nb s) (g : StpSm s) : Rp 400 (stpD s) := by
  have h3 := wants3 h.w
  have hl := h.l
  have hd := h.d
  have hx := h.b
  have ht := h.t
  have hr : Rp 192 (.lst (s.rs.map srD)) := (Rps.all (z := 61) fun d hd => by
    obtain ⟨q, hq, rfl⟩ := List.mem_map.mp hd
    cases q with
    | num i => exact big_rp (g.num i hq)
    | box k =>
      have := h.r k hq
      exact (Rps.cons ((Rp.str (ac_lit (by decide))).mono (y := 32) (by decide)) (.cons (small_rp (by omega) (by omega)) .nil)).tup.mono (by decide)).lst.mono (by rw [List.length_map]; omega)
  exact (Rps.cons (w9_ac h.w) (.cons (small_rp (by omega) (by omega)) (.cons (small_rp (by omega) (by omega)) (.cons hr (.cons (nm_62 h.n) (.cons (small_rp (by omega) (by omega)) .nil)))))).tup.mono (by decide)
theorem part_rp {nb : Nat} (hb : nb ≤ 100) {p : Part} (h : PartOk nb p) (g : PartSm p) : Rp 4000 (partD p) := by
  have hl := h.1
  exact (Rps.all (z := 1300) fun d hd => by
    obtain ⟨tk, hk, rfl⟩ := List.mem_map.mp hd
    obtain ⟨k1, k2⟩ := h.2 tk hk
    exact (Rps.all (z := 400) fun e he => by
      obtain ⟨s, hs, rfl⟩ := List.mem_map.mp he
      exact stp_rp hb (k2 s hs) (g tk hk s hs)).lst.mono (by rw [List.length_map]; omega)).lst.mono (by rw [List.length_map]; omega)
theorem parts_rp {nb : Nat} (hb : nb ≤ 100) {ps : List Part} (hl : ps.length ≤ 3) (h : ∀ p ∈ ps, PartOk nb p ∧ PartSm p) : Rp 13000 (.lst (ps.map partD)) :=
  (Rps.all (z := 4000) fun d hd => by
    obtain ⟨p, hp, rfl⟩ := List.mem_map.mp hd
    exact part_rp hb (h p hp).1 (h p hp).2).lst.mono (by rw [List.length_map]; omega)
theorem ints_rp {l : List Int} {n : Nat} (hl : l.length ≤ n) (h : ∀ i ∈ l, i.natAbs < 10 ^ 60) : Rp (63 * n + 3) (lsD l) :=
  (Rps.all (z := 61) fun d hd => by
    obtain ⟨i, hi, rfl⟩ := List.mem_map.mp hd
    exact big_rp (h i hi)).lst.mono (by rw [List.length_map]; omega)
theorem dct2_rp {z1 z2 : Nat} {n1 n2 : List Nat} {d1 d2 : D} (h1 : n1 = nIn ∨ n1 = nOn) (h2 : n2 = nIn ∨ n2 = nOn) (g1 : Rp z1 d1) (g2 : Rp z2 d2) : Rp (z1 + z2 + 60) (.dct [nmD n1, nmD n2] [d1, d2]) := by
  have k1 := nm_62 h1
  have k2 := nm_62 h2
  have e : pyR (.dct [nmD n1, nmD n2] [d1, d2]) = .dict [(pyR (nmD n1), pyR d1), (pyR (nmD n2), pyR d2)] := by simp [pyR, pysR]
  have colon : Ac (": " : Str) := ac_lit (by decide)
  have lc : (": " : Str).length = 2 := by decide
  refine ⟨?_, ?_, ?_⟩ <;> rw [e]
  · simp only [PyData.showable, PyData.showableKv, k1.sh, k2.sh, g1.sh, g2.sh, Bool.and_self]
  · simp only [PyData.shown, PyData.shownKv]
    refine ac_dict fun t ht => ?_
    simp only [List.mem_cons, List.not_mem_nil, or_false] at ht
    rcases ht with rfl | rfl
    · exact (k1.ac.app colon).app g1.ac
    · exact (k2.ac.app colon).app g2.ac
  · simp only [PyData.shown, PyData.shownKv]
    have l1 := k1.le
    have l2 := k2.le
    have l3 := g1.le
    have l4 := g2.le
    have := dictText_len_le [(pyR (nmD n1)).shown ++ ": " ++ (pyR d1).shown, (pyR (nmD n2)).shown ++ ": " ++ (pyR d2).shown]
    simp only [List.map_cons, List.map_nil, List.sum_cons, List.sum_nil, List.length_cons, List.length_nil] at this
    rw [strLen_append, strLen_append, strLen_append, strLen_append, lc] at this
    omega
theorem ints_plsR62 : ∀ (ks : List Int) (m : Nat), plsR (ks.map D.int) m = true
  | [], m => by simp [plsR]
  | k :: ks, m => by simp [plsR, plR, ints_plsR62 ks m]
theorem all_plsR62 {m : Nat} : ∀ {ds : List D}, (∀ d ∈ ds, plR d m = true) → plsR ds m = true
  | [], _ => by simp [plsR]
  | d :: ds, h => by simp [plsR, h d List.mem_cons_self, all_plsR62 fun e he => h e (List.mem_cons_of_mem _ he)]
theorem sr_pl (m : Nat) (q : Sr) : plR (srD q) (m + 1) = true := by
  cases q <;> simp [srD, plR, plsR]
theorem stp_pl (m : Nat) (s : Stp) : plR (stpD s) (m + 3) = true := by
  have : plsR (s.rs.map srD) (m + 1) = true := all_plsR62 fun d hd => by
    obtain ⟨q, _, rfl⟩ := List.mem_map.mp hd
    exact sr_pl m q
  simp [stpD, plR, plsR, nmD, this]
theorem part_pl (m : Nat) (p : Part) : plR (partD p) (m + 5) = true := by
  have : plsR (p.map tkD) (m + 4) = true := all_plsR62 fun d hd => by
    obtain ⟨tk, _, rfl⟩ := List.mem_map.mp hd
    have : plsR (tk.map stpD) (m + 3) = true := all_plsR62 fun d hd => by
      obtain ⟨s, _, rfl⟩ := List.mem_map.mp hd
      exact stp_pl m s
    simp [tkD, plR, this]
  simp [partD, plR, this]
theorem parts_pl (m : Nat) (ps : List Part) : plR (.lst (ps.map partD)) (m + 6) = true := by
  have : plsR (ps.map partD) (m + 5) = true := all_plsR62 fun d hd => by
    obtain ⟨p, _, rfl⟩ := List.mem_map.mp hd
    exact part_pl m p
  simp [plR, this]
theorem ls_pl (m : Nat) (l : List Int) : plR (lsD l) (m + 1) = true := by simp [lsD, plR, ints_plsR62]
theorem repr62 {nb : Nat} (hb : nb ≤ 100) {s : Sht} (hs : ShtOk nb s) (g : (∀ p ∈ s.sh, PartSm p) ∧ PartSm s.ah ∧ PartSm s.md ∧ ∀ p ∈ s.tl, PartSm p) {l1 l2 l3 : List Int} (h1 : l1.length ≤ 1000 ∧ ∀ i ∈ l1, i.natAbs < 10 ^ 60) (h2 : l2.length ≤ 1000 ∧ ∀ i ∈ l2, i.natAbs < 10 ^ 60) (h3 : l3.length ≤ 1000 ∧ ∀ i ∈ l3, i.natAbs < 10 ^ 60) :
    ∃ t : Str, pReprD [.lst [.lst (s.sh.map partD), partD s.ah, partD s.md, .lst (s.tl.map partD), .dct [nmD nIn, nmD nOn] [lsD l1, lsD l2], lsD l3]] = .ok (.str t) := by
  have hh := hs.hk
  have hk := hs.sk
  have hsh := hs.sh.1
  have htl := hs.tl.1
  have r1 := parts_rp hb (ps := s.sh) (by omega) fun p hp => ⟨hs.sh.2 p hp, g.1 p hp⟩
  have r4 := parts_rp hb (ps := s.tl) (by omega) fun p hp => ⟨hs.tl.2 p hp, g.2.2.2 p hp⟩
  have r2 := part_rp hb hs.ah g.2.1
  have r3 := part_rp hb hs.md g.2.2.1
  have r5 := dct2_rp (n1 := nIn) (n2 := nOn) (.inl rfl) (.inr rfl) (ints_rp h1.1 h1.2) (ints_rp h2.1 h2.2)
  have r6 := ints_rp h3.1 h3.2
  have r := (Rps.cons r1 (.cons r2 (.cons r3 (.cons r4 (.cons r5 (.cons r6 .nil)))))).lst
  refine ⟨_, pReprD_ok r (by decide) ?_ (by simp [pyR, isDisplay])⟩
  have p1 : plR (.lst (s.sh.map partD)) 58 = true := parts_pl 52 s.sh
  have p2 : plR (partD s.ah) 58 = true := part_pl 53 s.ah
  have p3 : plR (partD s.md) 58 = true := part_pl 53 s.md
  have p4 : plR (.lst (s.tl.map partD)) 58 = true := parts_pl 52 s.tl
  have p5 : plR (.dct [nmD nIn, nmD nOn] [lsD l1, lsD l2]) 58 = true := by
    have a1 := ls_pl 56 l1
    have a2 := ls_pl 56 l2
    simp [plR, plsR, nmD, a1, a2]
  have p6 : plR (lsD l3) 58 = true := ls_pl 57 l3
  show plR _ (58 + 1) = true
  simp only [plR, plsR, p2, p3, p6, Bool.and_self, Bool.and_true]
  have p1' : plsR (s.sh.map partD) 57 = true := by simpa [plR] using p1
  have p4' : plsR (s.tl.map partD) 57 = true := by simpa [plR] using p4
  simp [plsR, nmD, plR, p1', p4', ls_pl 56 l1, ls_pl 56 l2]
end Lx
namespace Lx
open PySem PySem.Spec PyProof.Rows L2 Lw
theorem told_pl (tl : Told) : pl (tellD tl) 20 = true := by
  have : ∀ l : Told, pls (l.map fun q => D.tup [nmD q.1, .int q.2.1, .int q.2.2]) 19 = true := fun l => by
    induction l with
    | nil => rfl
    | cons q l ih =>
      rw [List.map_cons]
      show (pl (D.tup [nmD q.1, .int q.2.1, .int q.2.2]) 19 && pls (l.map fun q => D.tup [nmD q.1, .int q.2.1, .int q.2.2]) 19) = true
      rw [ih]
      rfl
  exact this tl
theorem pair_alike_ok {tl : Told} {B : List Int} (hB : B.length ≤ 1000) : f_law_pair_alike [.tup [tellD tl, lsD B], .lst [tellD tl, lsD B]] = .ok (.bl true) := by
  have a0 : (R.bin2 (.ok (D.tup [tellD tl, lsD B])) (.ok (.int 0)) pIx : R D) = .ok (tellD tl) := by rw [R.bin2_ok]; exact pIx_t0
  have a1 : (R.bin2 (.ok (D.tup [tellD tl, lsD B])) (.ok (.int 1)) pIx : R D) = .ok (lsD B) := by rw [R.bin2_ok]; exact pIx_t1
  have b0 : (R.bin2 (.ok (D.lst [tellD tl, lsD B])) (.ok (.int 0)) pIx : R D) = .ok (tellD tl) := by rw [R.bin2_ok]; exact pIx_0
  have b1 : (R.bin2 (.ok (D.lst [tellD tl, lsD B])) (.ok (.int 1)) pIx : R D) = .ok (lsD B) := by rw [R.bin2_ok]; exact pIx_1
  show b_law_pair_alike _ _ = _
  unfold b_law_pair_alike
  rw [a0, a1, b0, b1]
  refine (bind_eq (a := false) rfl).trans ?_
  rw [if_neg (by decide)]
  refine (bind_eq (a := tl.map fun q => D.tup [nmD q.1, .int q.2.1, .int q.2.2]) rfl).trans ?_
  rw [rForX_nx fun y hy => ?_, R.bind_ok, thn_go]
  · have e1 : (R.bin2 (.ok (tellD tl)) (.ok (tellD tl)) pEq : R D) = .ok (.bl true) := by
      rw [R.bin2_ok]
      show (if pl (tellD tl) 20 && pl (tellD tl) 20 then (R.ok (D.bl (deq (tellD tl) (tellD tl))) : R D) else .bad) = _
      rw [told_pl, deq_refl (tellD tl) 20 (told_pl tl)]
      rfl
    rw [e1, R.cons_ok, R.cons_ok, R.bind_ok, alike_self hB]
    rfl
  · obtain ⟨q, _, rfl⟩ := List.mem_map.mp hy
    rfl
theorem classes_turns : f_law_classes [.exc "BadTurns" [] []] = .ok (.int 10) := rfl
theorem sheet_init {s : Sht} : f_Sheet___init__ [.int s.p, .int s.h, .int s.s, .lst (s.sh.map partD), partD s.ah, partD s.md, .lst (s.tl.map partD)] = .ok (sheetD s) := rfl
theorem run_refused {m : Int} {s fd bx : D} {T : Int} (h : T < 0 ∨ 300 < T) : f_run [.int m, s, .int T, fd, bx] = .exc ⟨"BadTurns", [], []⟩ := by
  show b_run _ _ _ _ _ = _
  unfold b_run
  refine (bind_eq (a := true) ?_).trans ?_
  · rw [R.bin2_ok, pLt_ii, R.bind_ok, toB_bl, R.bin2_ok, pGt_ii, R.bind_ok, toB_bl, orT_ok]
    congr 1
    rw [Bool.or_eq_true, decide_eq_true_eq, decide_eq_true_eq]
    exact h
  rw [if_pos rfl]
theorem law_true (ns : List Int) (hl : ns.length ≤ 63) (hb : ∀ n ∈ ns, Builtin.Int.intBits n ≤ 1048576) : f_law [.scr (ns.map D.int)] = .ok (.bl true) := by
  suffices h : Gv (f_law [.scr (ns.map D.int)]) fun d => d = .bl true by
    obtain ⟨d, e, rfl⟩ := h
    exact e
  show Gv (b_law _) _
  unfold b_law
  have ec := cell_at ns 0
  rw [show ((0 : Nat) : Int) = 0 from rfl] at ec
  have ec1 := cell_at ns 1
  rw [show ((1 : Nat) : Int) = 1 from rfl] at ec1
  obtain ⟨x, ex, x0, _⟩ := mix_ok (c := ns.getD 0 0) (k := 0) (by unfold bd; decide)
  refine Gv.step (a := D.int x) (by simp only [R.cons_ok, R.bind_ok, ec, ex]) ?_
  have md : ∀ (a b : Int), 0 < b → (R.bin2 (.ok (.int a)) (.ok (.int b)) pMod : R D) = .ok (.int (a % b)) := fun a b h => by rw [R.bin2_ok, pMod_ii h]
  have dv_ : ∀ (b : Int), divOk b = true → ∀ a : Int, (R.bin2 (.ok (.int a)) (.ok (.int b)) pDiv : R D) = .ok (.int (a / b)) := fun b h a => by rw [R.bin2_ok, pDiv_ii h]
  have p5 : (R.bin2 (.ok (.int 10)) (.ok (.int 5)) pPow : R D) = .ok (.int (10 ^ 5)) := pw 5 (by decide)
  have p7 : (R.bin2 (.ok (.int 10)) (.ok (.int 7)) pPow : R D) = .ok (.int (10 ^ 7)) := pw 7 (by decide)
  have p8 : (R.bin2 (.ok (.int 10)) (.ok (.int 8)) pPow : R D) = .ok (.int (10 ^ 8)) := pw 8 (by decide)
  have p12 : (R.bin2 (.ok (.int 10)) (.ok (.int 12)) pPow : R D) = .ok (.int (10 ^ 12)) := pw 12 (by decide)
  have p60' : (R.bin2 (.ok (.int 10)) (.ok (.int 60)) pPow : R D) = .ok (.int (10 ^ 60)) := pw 60 (by decide)
  obtain ⟨b0, eb, hb0⟩ := emodN (a := x) (b := 6) (by decide)
  obtain ⟨h0, eh, hh0⟩ := emodN (a := x / 6) (b := 3) (by decide)
  obtain ⟨s0, es, hs0⟩ := emodN (a := x / 18) (b := 3) (by decide)
  obtain ⟨t0, et, ht0⟩ := emodN (a := x / 54) (b := 15) (by decide)
  obtain ⟨nb, enb, hnb⟩ : ∃ nb : Nat, (1 : Int) + (b0 : Int) = nb ∧ 1 ≤ nb ∧ nb ≤ 6 := ⟨1 + b0, by push_cast; rfl, by omega, by omega⟩
  obtain ⟨hd, ehd, hhd⟩ : ∃ hd : Nat, (1 : Int) + (h0 : Int) = hd ∧ 1 ≤ hd ∧ hd ≤ 3 := ⟨1 + h0, by push_cast; rfl, by omega, by omega⟩
  obtain ⟨sg, esg, hsg⟩ : ∃ sg : Nat, (1 : Int) + (s0 : Int) = sg ∧ 1 ≤ sg ∧ sg ≤ 3 := ⟨1 + s0, by push_cast; rfl, by omega, by omega⟩
  refine Gv.step (a := D.int (nb : Int)) (by rw [md _ _ (by decide), eb, R.bin2_ok, pAdd_ii, enb]) ?_
  refine Gv.step (a := D.int (hd : Int)) (by rw [dv_ 6 (by decide), md _ _ (by decide), eh, R.bin2_ok, pAdd_ii, ehd]) ?_
  refine Gv.step (a := D.int (sg : Int)) (by rw [dv_ 18 (by decide), md _ _ (by decide), es, R.bin2_ok, pAdd_ii, esg]) ?_
  refine Gv.step (a := D.int (t0 : Int)) (by rw [dv_ 54 (by decide), md _ _ (by decide), et]) ?_
  refine Gv.bind (P := fun d => ∃ T : Nat, d = .int (T : Int) ∧ T ≤ 300) ?_ fun d hT => ?_
  · refine Gv.ite (c := x / 10 ^ 12 % 12 == 5) (by rw [p12, dv_ (10 ^ 12) (by decide), md _ _ (by decide), R.bin2_ok, pEq_ii, R.bind_ok, toB_bl]) (fun _ => ?_) fun _ => ?_
    · exact Gv.step (a := D.int 300) rfl (Gv.ok ⟨300, rfl, Nat.le_refl _⟩)
    · exact Gv.ok ⟨t0, rfl, by omega⟩
  obtain ⟨T, rfl, hT⟩ := hT
  obtain ⟨m1, em1, hm1⟩ : ∃ m : Int, (R.bin2 (.ok (D.int 2)) (R.bin2 (R.bind (R.cons (.ok (.scr (ns.map D.int))) (R.cons (.ok (.int 1)) (.ok []))) f_law_cell_at) (R.bin2 (R.bin2 (.ok (.int 10)) (.ok (.int 60)) pPow) (.ok (.int 1)) pSub) pMod) pAdd : R D) = .ok (.int m) ∧ 0 < m ∧ m ≤ 10 ^ 60 := by
    have e1 := Int.emod_nonneg (ns.getD 1 0) (show (10 : Int) ^ 60 - 1 ≠ 0 by decide)
    have e2 := Int.emod_lt_of_pos (ns.getD 1 0) (show (0 : Int) < 10 ^ 60 - 1 by decide)
    refine ⟨2 + ns.getD 1 0 % (10 ^ 60 - 1), ?_, by omega, by omega⟩
    rw [R.cons_ok, R.cons_ok, R.bind_ok (f := f_law_cell_at), ec1, p60', R.bin2_ok (f := pSub), pSub_ii, md _ _ (by decide), R.bin2_ok, pAdd_ii]
  refine Gv.step em1 ?_
  refine Gv.bind (P := fun d => ∃ m : Int, d = .int m ∧ 0 < m ∧ m ≤ 10 ^ 60) ?_ fun d hm => ?_
  · refine Gv.ite (c := x / 810 % 3 == 1) (by rw [dv_ 810 (by decide), md _ _ (by decide), R.bin2_ok, pEq_ii, R.bind_ok, toB_bl]) (fun _ => ?_) fun _ => Gv.ok ⟨m1, rfl, hm1⟩
    have e1 := Int.emod_nonneg (x / 2430) (show (30 : Int) ≠ 0 by decide)
    have e2 := Int.emod_lt_of_pos (x / 2430) (show (0 : Int) < 30 by decide)
    exact Gv.step (a := D.int (2 + x / 2430 % 30)) (by rw [dv_ 2430 (by decide), md _ _ (by decide), R.bin2_ok, pAdd_ii]) (Gv.ok ⟨_, rfl, by omega, by omega⟩)
  obtain ⟨m, rfl, hm, hm2⟩ := hm
  obtain ⟨P, hP⟩ : ∃ P : Nat → Part, ∀ a : Nat, a ≤ 20 → f_law_part [.scr (ns.map D.int), .int (a : Int), .int (nb : Int)] = .ok (partD (P a)) ∧ PartOk nb (P a) ∧ PartSm (P a) := by
    have key : ∀ a : Nat, ∃ p : Part, a ≤ 20 → f_law_part [.scr (ns.map D.int), .int (a : Int), .int (nb : Int)] = .ok (partD p) ∧ PartOk nb p ∧ PartSm p := fun a => by
      by_cases h : a ≤ 20
      · obtain ⟨p, hp⟩ := law_part_ok (ns := ns) h (nb := nb) ⟨by omega, by omega⟩
        exact ⟨p, fun _ => hp⟩
      · exact ⟨[], fun z => absurd z h⟩
    exact ⟨fun a => Classical.choose (key a), fun a => Classical.choose_spec (key a)⟩
  have call : ∀ a : Nat, a ≤ 20 → R.bind (R.cons (.ok (.scr (ns.map D.int))) (R.cons (.ok (.int (a : Int))) (R.cons (.ok (.int (nb : Int))) (.ok [])))) f_law_part = .ok (partD (P a)) := fun a ha => by
    rw [R.cons_ok, R.cons_ok, R.cons_ok, R.bind_ok, (hP a ha).1]
  have comp : ∀ (k c : Nat), k ≤ 5 → c ≤ 10 → ∀ r : R (List D), r = .ok (rngL 0 k) → pComp r (fun d => .ok d) (fun _ => (.ok true)) (fun p11 => (R.bind (R.cons (.ok (.scr (ns.map D.int))) (R.cons (R.bin2 (.ok (.int (c : Int))) (.ok p11) pAdd) (R.cons (.ok (.int (nb : Int))) (.ok [])))) f_law_part)) = .ok (.lst (((List.range k).map fun i => P (c + i)).map partD)) := fun k c hk hc r er => by
    rw [er, rngL_map, List.map_map]
    refine pComp_map (g := fun i : Nat => partD (P (c + i))) (fun i hi => ?_) (by simp; omega)
    have := List.mem_range.mp hi
    rw [R.bin2_ok, pAdd_ii, show (c : Int) + (i : Int) = ((c + i : Nat) : Int) by push_cast; rfl]
    exact call (c + i) (by omega)
  obtain ⟨s, hs⟩ : ∃ s : Sht, s = ⟨1 + x / 10 ^ 5 % 5, hd, sg, (List.range (sg - 1)).map fun i => P (2 + i), P 5, P 6, (List.range hd).map fun i => P (7 + i)⟩ := ⟨_, rfl⟩
  have sp : s.p = 1 + x / 10 ^ 5 % 5 := by rw [hs]
  have sh_ : s.h = hd := by rw [hs]
  have ss_ : s.s = sg := by rw [hs]
  have ssh : s.sh = (List.range (sg - 1)).map fun i => P (2 + i) := by rw [hs]
  have sah : s.ah = P 5 := by rw [hs]
  have smd : s.md = P 6 := by rw [hs]
  have stl : s.tl = (List.range hd).map fun i => P (7 + i) := by rw [hs]
  have all : ∀ (k c : Nat), k ≤ 5 → c ≤ 10 → ∀ p ∈ (List.range k).map fun i => P (c + i), PartOk nb p ∧ PartSm p := fun k c hk hc p hp => by
    obtain ⟨i, hi, rfl⟩ := List.mem_map.mp hp
    have := List.mem_range.mp hi
    exact (hP (c + i) (by omega)).2
  have hS : ShtOk nb s := by
    refine ⟨by rw [sh_]; omega, by rw [ss_]; omega, ⟨by rw [ssh, ss_]; simp; omega, fun p hp => ?_⟩, by rw [sah]; exact (hP 5 (by decide)).2.1, by rw [smd]; exact (hP 6 (by decide)).2.1, ⟨by rw [stl, sh_]; simp, fun p hp => ?_⟩⟩
    · rw [ssh] at hp
      exact (all _ _ (by omega) (by omega) p hp).1
    · rw [stl] at hp
      exact (all _ _ (by omega) (by omega) p hp).1
  have hG : (∀ p ∈ s.sh, PartSm p) ∧ PartSm s.ah ∧ PartSm s.md ∧ ∀ p ∈ s.tl, PartSm p := by
    refine ⟨fun p hp => ?_, by rw [sah]; exact (hP 5 (by decide)).2.2, by rw [smd]; exact (hP 6 (by decide)).2.2, fun p hp => ?_⟩
    · rw [ssh] at hp
      exact (all _ _ (by omega) (by omega) p hp).2
    · rw [stl] at hp
      exact (all _ _ (by omega) (by omega) p hp).2
  refine Gv.step (a := D.lst (s.sh.map partD)) ?_ ?_
  · rw [ssh]
    exact comp (sg - 1) 2 (by omega) (by omega) _ (by rw [R.bin2_ok, pSub_ii, R.bind_ok, show (sg : Int) - 1 = ((sg - 1 : Nat) : Int) by omega, pRange1_ok (by omega)])
  refine Gv.step (a := partD s.ah) (by rw [sah]; exact call 5 (by decide)) ?_
  refine Gv.step (a := partD s.md) (by rw [smd]; exact call 6 (by decide)) ?_
  refine Gv.step (a := D.lst (s.tl.map partD)) ?_ ?_
  · rw [stl]
    exact comp hd 7 (by omega) (by omega) _ (by rw [R.bind_ok, pRange1_ok (by omega)])
  obtain ⟨l1, e1, k1, g1⟩ := law_numbers_ok (ns := ns) (a := 10) (n := 26 + T) (by omega)
  obtain ⟨l2, e2, k2, g2⟩ := law_numbers_ok (ns := ns) (a := 30) (n := 31 + T) (by omega)
  obtain ⟨l3, e3, k3, g3⟩ := law_numbers_ok (ns := ns) (a := 20) (n := nb) (by omega)
  obtain ⟨fd, hfd⟩ : ∃ fd : KL, fd = [(nIn, l1), (nOn, l2)] := ⟨_, rfl⟩
  have efd : D.dct [.str "in", .str "on"] [lsD l1, lsD l2] = dcD fd := by
    have e4 : (.str "in" : D) = nmD nIn := congrArg D.str (by decide +kernel)
    have e5 : (.str "on" : D) = nmD nOn := congrArg D.str (by decide +kernel)
    rw [e4, e5, hfd]
    rfl
  refine Gv.step (a := dcD fd) ?_ ?_
  · rw [R.bin2_ok, pAdd_ii, show (26 : Int) + (T : Int) = ((26 + T : Nat) : Int) by push_cast; rfl, R.cons_ok, R.cons_ok, R.cons_ok, R.bind_ok (f := f_law_numbers)]
    refine (bind_eq (a := lsD l1) e1).trans ?_
    rw [R.bin2_ok, pAdd_ii, show (31 : Int) + (T : Int) = ((31 + T : Nat) : Int) by push_cast; rfl, R.cons_ok, R.cons_ok, R.cons_ok, R.bind_ok (f := f_law_numbers)]
    refine (bind_eq (a := lsD l2) e2).trans ?_
    rw [efd]
  refine Gv.step (a := lsD l3) (by rw [R.cons_ok, R.cons_ok, R.cons_ok, R.bind_ok]; exact e3) ?_
  have hRun : ∀ t : Nat, t ≤ T → RunS m fd (t : Int) := fun t ht => by
    refine ⟨hm, hm2, fun n hn => ?_⟩
    have r1 : (lk0 fd nIn).length = 26 + T := by rw [hfd, ← k1]; rfl
    have r2 : (lk0 fd nOn).length = 31 + T := by rw [hfd, ← k2]; rfl
    rcases hn with rfl | rfl
    · rw [r1]; push_cast; omega
    · rw [r2]; push_cast; omega
  refine Gv.step (a := sheetD s) ?_ ?_
  · rw [p5, dv_ (10 ^ 5) (by decide), md _ _ (by decide), R.bin2_ok, pAdd_ii, ← sp, ← sh_, ← ss_]
    simp only [R.cons_ok]
    rw [R.bind_ok]
    exact sheet_init
  obtain ⟨kt, ekt⟩ := repr62 (by omega) hS hG (l1 := l1) (l2 := l2) (l3 := l3) ⟨by omega, g1⟩ ⟨by omega, g2⟩ ⟨by omega, g3⟩
  have eK : (R.bind (R.cons (R.bind (R.cons (.ok (D.lst (s.sh.map partD))) (R.cons (.ok (partD s.ah)) (R.cons (.ok (partD s.md)) (R.cons (.ok (D.lst (s.tl.map partD))) (R.cons (.ok (dcD fd)) (R.cons (.ok (lsD l3)) (.ok []))))))) mkL) (.ok [])) pReprD : R D) = .ok (.str kt) := by
    have e4 : dcD fd = .dct [nmD nIn, nmD nOn] [lsD l1, lsD l2] := by rw [hfd]; rfl
    rw [e4]
    simp only [R.cons_ok]
    rw [R.bind_ok (f := mkL)]
    refine (bind_eq (a := [D.lst [D.lst (s.sh.map partD), partD s.ah, partD s.md, .lst (s.tl.map partD), .dct [nmD nIn, nmD nOn] [lsD l1, lsD l2], lsD l3]]) rfl).trans ekt
  refine Gv.step eK ?_
  obtain ⟨tl, B, er, ed, hBl, htl, _⟩ := run62 (hRun T (Nat.le_refl T)) hT hS (B0 := l3) k3
  refine Gv.step (a := D.lst [tellD tl, lsD B]) ?_ ?_
  · have e4 := law_parts_ok hS hT
    rw [sh_, ss_] at e4
    simp only [R.cons_ok]
    rw [R.bind_ok (f := f_law_parts), e4]
    simp only [R.cons_ok]
    rw [R.bind_ok]
    exact ed
  refine Gv.bind (P := fun d => d = .int (T : Int) ∨ ∃ z : Int, d = .int z ∧ (z < 0 ∨ 300 < z)) ?_ fun d hd2 => ?_
  · refine Gv.ite (c := x / 10 ^ 7 % 9 == 4) (by rw [p7, dv_ (10 ^ 7) (by decide), md _ _ (by decide), R.bin2_ok, pEq_ii, R.bind_ok, toB_bl]) (fun _ => ?_) fun _ => Gv.ok (.inl rfl)
    have xd : 0 ≤ x / 10 ^ 8 := Int.ediv_nonneg x0 (by decide)
    have e4 : (R.bind (R.cons (R.bind (.ok (.int 1)) pNeg) (R.cons (.ok (.int 301)) (R.cons (R.bin2 (R.bind (.ok (D.int (T : Int))) pNeg) (.ok (.int 1)) pSub) (R.cons (R.bin2 (.ok (.int 301)) (R.bin2 (.ok (D.int x)) (R.bin2 (.ok (.int 10)) (.ok (.int 8)) pPow) pDiv) pAdd) (.ok []))))) mkL : R D) = .ok (.lst [.int (-1), .int 301, .int (-(T : Int) - 1), .int (301 + x / 10 ^ 8)]) := by
      rw [p8, dv_ (10 ^ 8) (by decide), R.bind_ok (f := pNeg), pNeg_i, R.bind_ok (f := pNeg), pNeg_i, R.bin2_ok (f := pSub), pSub_ii, R.bin2_ok (f := pAdd), pAdd_ii]
      rfl
    have q0 := Int.emod_nonneg (x / 90) (show (4 : Int) ≠ 0 by decide)
    have q1 := Int.emod_lt_of_pos (x / 90) (show (0 : Int) < 4 by decide)
    obtain ⟨z, ez, hz⟩ := pick_lit (m := D.int) (P := fun z => z < 0 ∨ 300 < z) e4 q0 (by simpa using q1) fun d hd => by
      simp only [List.mem_cons, List.not_mem_nil, or_false] at hd
      rcases hd with rfl | rfl | rfl | rfl
      · exact ⟨_, rfl, .inl (by decide)⟩
      · exact ⟨_, rfl, .inr (by decide)⟩
      · exact ⟨_, rfl, .inl (by omega)⟩
      · exact ⟨_, rfl, .inr (by omega)⟩
    refine Gv.step (a := D.int z) ?_ (Gv.ok (.inr ⟨z, rfl, hz⟩))
    rw [dv_ 90 (by decide), md _ _ (by decide)]
    exact ez
  refine Gv.step rfl ?_
  refine Gv.step rfl ?_
  rcases hd2 with rfl | ⟨z, rfl, hz⟩
  · refine Gv.step (a := (D.non, D.tup [tellD tl, lsD B])) ?_ ?_
    · simp only [R.cons_ok]
      rw [R.bind_ok (f := f_run), er, R.bind_ok]
      rfl
    dsimp only
    refine Gv.ite (c := false) ?_ (fun z => by cases z) fun _ => ?_
    · rw [R.bin2_ok, pLt_ii, R.bind_ok, toB_bl, R.bin2_ok, pGt_ii, R.bind_ok, toB_bl, orT_ok, decide_eq_false (by omega), decide_eq_false (by omega)]
      rfl
    rw [eK]
    refine Gv.ite (c := false) ?_ (fun z => by cases z) fun _ => ?_
    · have e4 : (R.bind (R.bin2 (.ok D.non) (.ok .non) pNotN) toB : R Bool) = .ok false := rfl
      rw [e4, R.bin2_ok, pNe_ss, R.bind_ok, toB_bl]
      simp [orT]
    refine Gv.eq (a := D.bl true) ?_ rfl
    simp only [R.cons_ok]
    rw [R.bind_ok]
    exact pair_alike_ok (by omega)
  · refine Gv.step (a := (D.exc "BadTurns" [] [], D.non)) ?_ ?_
    · simp only [R.cons_ok]
      rw [R.bind_ok (f := f_run), run_refused hz, R.bind_exc]
      rfl
    dsimp only
    have hc : (decide (z < 0) || decide ((300 : Int) < z)) = true := by
      rw [Bool.or_eq_true, decide_eq_true_eq, decide_eq_true_eq]
      exact hz
    refine Gv.ite (c := true) ?_ (fun _ => ?_) fun z => by cases z
    · rw [R.bin2_ok, pLt_ii, R.bind_ok, toB_bl, R.bin2_ok, pGt_ii, R.bind_ok, toB_bl, orT_ok, hc]
    refine Gv.eq (a := D.bl true) ?_ rfl
    rw [R.cons_ok, R.bind_ok (f := f_law_classes), classes_turns]
    rfl
end Lx
namespace Lx
open PySem PySem.Spec PyProof.Rows L2 Lw
theorem ctx {K : PySem.W.Frag} {h : Heap} {mg : Str → Option Value} (X : K.In h) (G : h.Ns mainGlobals mg) (c : SaysL fa fn ex K) : Ctx K mg where
  f_ValueError := He.free_ok X G (c.fa 0)
  f_bool := He.free_ok X G (c.fa 1)
  f_divmod := He.free_ok X G (c.fa 2)
  f_int := He.free_ok X G (c.fa 3)
  f_isinstance := He.free_ok X G (c.fa 4)
  f_len := He.free_ok X G (c.fa 5)
  f_list := He.free_ok X G (c.fa 6)
  f_max := He.free_ok X G (c.fa 7)
  f_min := He.free_ok X G (c.fa 8)
  f_range := He.free_ok X G (c.fa 9)
  f_repr := He.free_ok X G (c.fa 10)
  f_str := He.free_ok X G (c.fa 11)
  f_sum := He.free_ok X G (c.fa 12)
  f_tuple := He.free_ok X G (c.fa 13)
  d_law_mix := by
    obtain ⟨fd, F⟩ := c.fn 0
    exact ⟨_, fd, He.glo_ok X G (c.fa 14), F⟩
  d_law_cell_at := by
    obtain ⟨fd, F⟩ := c.fn 1
    exact ⟨_, fd, He.glo_ok X G (c.fa 15), F⟩
  d_law_wants := by
    obtain ⟨fd, F⟩ := c.fn 2
    exact ⟨_, fd, He.glo_ok X G (c.fa 16), F⟩
  d_law_step := by
    obtain ⟨fd, F⟩ := c.fn 3
    exact ⟨_, fd, He.glo_ok X G (c.fa 17), F⟩
  d_law_part := by
    obtain ⟨fd, F⟩ := c.fn 4
    exact ⟨_, fd, He.glo_ok X G (c.fa 18), F⟩
  d_law_numbers := by
    obtain ⟨fd, F⟩ := c.fn 5
    exact ⟨_, fd, He.glo_ok X G (c.fa 19), F⟩
  d_law_landed := by
    obtain ⟨fd, F⟩ := c.fn 6
    exact ⟨_, fd, He.glo_ok X G (c.fa 20), F⟩
  d_law_makes := by
    obtain ⟨fd, F⟩ := c.fn 7
    exact ⟨_, fd, He.glo_ok X G (c.fa 21), F⟩
  d_law_begun := by
    obtain ⟨fd, F⟩ := c.fn 8
    exact ⟨_, fd, He.glo_ok X G (c.fa 22), F⟩
  d_law_done := by
    obtain ⟨fd, F⟩ := c.fn 9
    exact ⟨_, fd, He.glo_ok X G (c.fa 23), F⟩
  d_law_parts := by
    obtain ⟨fd, F⟩ := c.fn 10
    exact ⟨_, fd, He.glo_ok X G (c.fa 24), F⟩
  d_deed_of := by
    obtain ⟨fd, F⟩ := c.fn 11
    exact ⟨_, fd, He.glo_ok X G (c.fa 25), F⟩
  d_is_number := by
    obtain ⟨fd, F⟩ := c.fn 12
    exact ⟨_, fd, He.glo_ok X G (c.fa 26), F⟩
  d_run := by
    obtain ⟨fd, F⟩ := c.fn 13
    exact ⟨_, fd, He.glo_ok X G (c.fa 27), F⟩
  d_law_classes := by
    obtain ⟨fd, F⟩ := c.fn 14
    exact ⟨_, fd, He.glo_ok X G (c.fa 28), F⟩
  d_law_whole := by
    obtain ⟨fd, F⟩ := c.fn 15
    exact ⟨_, fd, He.glo_ok X G (c.fa 29), F⟩
  d_law_alike := by
    obtain ⟨fd, F⟩ := c.fn 16
    exact ⟨_, fd, He.glo_ok X G (c.fa 30), F⟩
  d_law_pair_alike := by
    obtain ⟨fd, F⟩ := c.fn 17
    exact ⟨_, fd, He.glo_ok X G (c.fa 31), F⟩
  d_law := by
    obtain ⟨fd, F⟩ := c.fn 18
    exact ⟨_, fd, He.glo_ok X G (c.fa 32), F⟩
  e_Floor_begin := by
    obtain ⟨fd, F⟩ := c.fn 19
    exact ⟨_, _, fd, He.glo_ok X G (c.fa 33), He.cls_ok (c.fa 34), He.meth_ok (c.fa 35), F⟩
  e_Floor_finish := by
    obtain ⟨fd, F⟩ := c.fn 20
    exact ⟨_, _, fd, He.glo_ok X G (c.fa 33), He.cls_ok (c.fa 34), He.meth_ok (c.fa 36), F⟩
  e_Floor_go := by
    obtain ⟨fd, F⟩ := c.fn 21
    exact ⟨_, _, fd, He.glo_ok X G (c.fa 33), He.cls_ok (c.fa 34), He.meth_ok (c.fa 37), F⟩
  e_Floor_land := by
    obtain ⟨fd, F⟩ := c.fn 22
    exact ⟨_, _, fd, He.glo_ok X G (c.fa 33), He.cls_ok (c.fa 34), He.meth_ok (c.fa 38), F⟩
  e_Floor_numbers := by
    obtain ⟨fd, F⟩ := c.fn 23
    exact ⟨_, _, fd, He.glo_ok X G (c.fa 33), He.cls_ok (c.fa 34), He.meth_ok (c.fa 39), F⟩
  e_Least_made := by
    obtain ⟨fd, F⟩ := c.fn 24
    exact ⟨_, _, fd, He.glo_ok X G (c.fa 40), He.cls_ok (c.fa 41), He.meth_ok (c.fa 42), F⟩
  e_Least_of := by
    obtain ⟨fd, F⟩ := c.fn 25
    exact ⟨_, _, fd, He.glo_ok X G (c.fa 40), He.cls_ok (c.fa 41), He.meth_ok (c.fa 43), F⟩
  e_Less_made := by
    obtain ⟨fd, F⟩ := c.fn 26
    exact ⟨_, _, fd, He.glo_ok X G (c.fa 44), He.cls_ok (c.fa 45), He.meth_ok (c.fa 46), F⟩
  e_Less_of := by
    obtain ⟨fd, F⟩ := c.fn 27
    exact ⟨_, _, fd, He.glo_ok X G (c.fa 44), He.cls_ok (c.fa 45), He.meth_ok (c.fa 47), F⟩
  e_Most_made := by
    obtain ⟨fd, F⟩ := c.fn 28
    exact ⟨_, _, fd, He.glo_ok X G (c.fa 48), He.cls_ok (c.fa 49), He.meth_ok (c.fa 50), F⟩
  e_Most_of := by
    obtain ⟨fd, F⟩ := c.fn 29
    exact ⟨_, _, fd, He.glo_ok X G (c.fa 48), He.cls_ok (c.fa 49), He.meth_ok (c.fa 51), F⟩
  e_Pick_made := by
    obtain ⟨fd, F⟩ := c.fn 30
    exact ⟨_, _, fd, He.glo_ok X G (c.fa 52), He.cls_ok (c.fa 53), He.meth_ok (c.fa 54), F⟩
  e_Pick_of := by
    obtain ⟨fd, F⟩ := c.fn 31
    exact ⟨_, _, fd, He.glo_ok X G (c.fa 52), He.cls_ok (c.fa 53), He.meth_ok (c.fa 55), F⟩
  e_Same_made := by
    obtain ⟨fd, F⟩ := c.fn 32
    exact ⟨_, _, fd, He.glo_ok X G (c.fa 56), He.cls_ok (c.fa 57), He.meth_ok (c.fa 58), F⟩
  e_Same_of := by
    obtain ⟨fd, F⟩ := c.fn 33
    exact ⟨_, _, fd, He.glo_ok X G (c.fa 56), He.cls_ok (c.fa 57), He.meth_ok (c.fa 59), F⟩
  e_Sum_made := by
    obtain ⟨fd, F⟩ := c.fn 34
    exact ⟨_, _, fd, He.glo_ok X G (c.fa 60), He.cls_ok (c.fa 61), He.meth_ok (c.fa 62), F⟩
  e_Sum_of := by
    obtain ⟨fd, F⟩ := c.fn 35
    exact ⟨_, _, fd, He.glo_ok X G (c.fa 60), He.cls_ok (c.fa 61), He.meth_ok (c.fa 63), F⟩
  e_Take_made := by
    obtain ⟨fd, F⟩ := c.fn 36
    exact ⟨_, _, fd, He.glo_ok X G (c.fa 64), He.cls_ok (c.fa 65), He.meth_ok (c.fa 66), F⟩
  e_Take_of := by
    obtain ⟨fd, F⟩ := c.fn 37
    exact ⟨_, _, fd, He.glo_ok X G (c.fa 64), He.cls_ok (c.fa 65), He.meth_ok (c.fa 67), F⟩
  e_Tell_made := by
    obtain ⟨fd, F⟩ := c.fn 38
    exact ⟨_, _, fd, He.glo_ok X G (c.fa 68), He.cls_ok (c.fa 69), He.meth_ok (c.fa 70), F⟩
  e_Tell_of := by
    obtain ⟨fd, F⟩ := c.fn 39
    exact ⟨_, _, fd, He.glo_ok X G (c.fa 68), He.cls_ok (c.fa 69), He.meth_ok (c.fa 71), F⟩
  e_Times_made := by
    obtain ⟨fd, F⟩ := c.fn 40
    exact ⟨_, _, fd, He.glo_ok X G (c.fa 72), He.cls_ok (c.fa 73), He.meth_ok (c.fa 74), F⟩
  e_Times_of := by
    obtain ⟨fd, F⟩ := c.fn 41
    exact ⟨_, _, fd, He.glo_ok X G (c.fa 72), He.cls_ok (c.fa 73), He.meth_ok (c.fa 75), F⟩
  m_Least := Ck.mk0_ok X G (c.ck 0)
  m_Less := Ck.mk0_ok X G (c.ck 1)
  m_Most := Ck.mk0_ok X G (c.ck 2)
  m_Pick := Ck.mk0_ok X G (c.ck 3)
  m_Same := Ck.mk0_ok X G (c.ck 4)
  m_Sum := Ck.mk0_ok X G (c.ck 5)
  m_Take := Ck.mk0_ok X G (c.ck 6)
  m_Tell := Ck.mk0_ok X G (c.ck 7)
  m_Times := Ck.mk0_ok X G (c.ck 8)
  iE_BadArms := Ck.isE_ok X G (c.ck 9)
  iE_BadBack := Ck.isE_ok X G (c.ck 10)
  iE_BadCount := Ck.isE_ok X G (c.ck 11)
  iE_BadDelay := Ck.isE_ok X G (c.ck 12)
  iE_BadHold := Ck.isE_ok X G (c.ck 13)
  iE_BadName := Ck.isE_ok X G (c.ck 14)
  iE_BadNumber := Ck.isE_ok X G (c.ck 15)
  iE_BadPlan := Ck.isE_ok X G (c.ck 16)
  iE_BadRows := Ck.isE_ok X G (c.ck 17)
  iE_BadText := Ck.isE_ok X G (c.ck 18)
  iE_BadTurns := Ck.isE_ok X G (c.ck 19)
  iE_BadWidth := Ck.isE_ok X G (c.ck 20)
  iE_LapError := Ck.isE_ok X G (c.ck 21)
  iE_NoArm := Ck.isE_ok X G (c.ck 22)
  iE_NoDeed := Ck.isE_ok X G (c.ck 23)
  iE_NoMeasure := Ck.isE_ok X G (c.ck 24)
  iE_NoRow := Ck.isE_ok X G (c.ck 25)
  iE_Short := Ck.isE_ok X G (c.ck 26)
  iE_TooEarly := Ck.isE_ok X G (c.ck 27)
  iE_Twice := Ck.isE_ok X G (c.ck 28)
  iE_Unfit := Ck.isE_ok X G (c.ck 29)
  iB_ValueError := Ck.isB_ok X G (c.ck 30)
  ct_LapError := Ck.cat_ok X G (c.ck 31)
  mi_Floor := by
    obtain ⟨fd, F⟩ := c.fn 42
    exact ⟨_, _, fd, He.glo_ok X G (c.fa 33), He.mkr_ok (c.fa 76), F⟩
  mi_Sheet := by
    obtain ⟨fd, F⟩ := c.fn 43
    exact ⟨_, _, fd, He.glo_ok X G (c.fa 77), He.mkr_ok (c.fa 78), F⟩
  sysM := Ck.sys_ok (c.ck 32)
  fl_Floor_boxes := ⟨_, He.glo_ok X G (c.fa 33), He.cls_ok (c.fa 34), He.noat_ok (c.fa 79)⟩
  fl_Floor_clock := ⟨_, He.glo_ok X G (c.fa 33), He.cls_ok (c.fa 34), He.noat_ok (c.fa 80)⟩
  fl_Floor_due := ⟨_, He.glo_ok X G (c.fa 33), He.cls_ok (c.fa 34), He.noat_ok (c.fa 81)⟩
  fl_Floor_feeds := ⟨_, He.glo_ok X G (c.fa 33), He.cls_ok (c.fa 34), He.noat_ok (c.fa 82)⟩
  fl_Floor_measure := ⟨_, He.glo_ok X G (c.fa 33), He.cls_ok (c.fa 34), He.noat_ok (c.fa 83)⟩
  fl_Floor_told := ⟨_, He.glo_ok X G (c.fa 33), He.cls_ok (c.fa 34), He.noat_ok (c.fa 84)⟩
  fl_Sheet_ahead := ⟨_, He.glo_ok X G (c.fa 77), He.cls_ok (c.fa 85), He.noat_ok (c.fa 86)⟩
  fl_Sheet_held := ⟨_, He.glo_ok X G (c.fa 77), He.cls_ok (c.fa 85), He.noat_ok (c.fa 87)⟩
  fl_Sheet_middle := ⟨_, He.glo_ok X G (c.fa 77), He.cls_ok (c.fa 85), He.noat_ok (c.fa 88)⟩
  fl_Sheet_pace := ⟨_, He.glo_ok X G (c.fa 77), He.cls_ok (c.fa 85), He.noat_ok (c.fa 89)⟩
  fl_Sheet_shorts := ⟨_, He.glo_ok X G (c.fa 77), He.cls_ok (c.fa 85), He.noat_ok (c.fa 90)⟩
  fl_Sheet_stages := ⟨_, He.glo_ok X G (c.fa 77), He.cls_ok (c.fa 85), He.noat_ok (c.fa 91)⟩
  fl_Sheet_tails := ⟨_, He.glo_ok X G (c.fa 77), He.cls_ok (c.fa 85), He.noat_ok (c.fa 92)⟩
  x_BadTurns := exc_ok X G (c.fa 93) (c.fa 94)
  x_NoDeed := exc_ok X G (c.fa 95) (c.fa 96)
  g_MOST_TURNS := He.int_ok X G (c.fa 97)
end Lx
open PySem PySem.W PySem.Calls PyProof.Rows
theorem PySem.Challenge.cw_lapwork_k62_run_of_any_sheet_holds : PySem.Challenge.rw_lapwork_k62_run_of_any_sheet.Holds := by
  w_on; o_law
  refine HandSHeadRun.head_any (r := OpenLaw.row PySem.Challenge.rw_lapwork_k62_run_of_any_sheet) (q := view (OpenLaw.row PySem.Challenge.rw_lapwork_k62_run_of_any_sheet).prog [58]) (H := Lx.hk) (ob := Lx.ob) (M := 100000) (loose := Lx.nm) (d := HandSHeadRun.topDef (OpenLaw.row PySem.Challenge.rw_lapwork_k62_run_of_any_sheet).prog 58) (kwd := []) Lx.ob_eq
    (by kernel_rfl) (fun s => by kernel_rfl) Lx.run (by kernel_rfl) (by kernel_rfl) (by kernel_rfl) (by rfl) (by first | assumption | decide +kernel) (by decide +kernel) ⟨rfl, rfl, rfl, rfl, rfl, by decide +kernel⟩ ?hw ?hc
  case hw => w_witness2
  case hc =>
    refine Lw.walk_endG (l := PySem.Challenge.rw_lapwork_k62_run_of_any_sheet) (k := 6) (x := "_law_script") rfl (by kernel_rfl) ⟨rfl, by decide, by decide⟩ (fun w mg fa h c G hg => ?_)
    obtain ⟨K, KX, c⟩ := c
    obtain ⟨fa2, fd, e, hb, hF⟩ := Lx.fd_law (Lx.ctx KX G c)
    exact ⟨K, Lx.f_law, fa2, fd, KX, Lw.same_fa (by kernel_rfl) hg e, hb, fun base => hF _ w base, Lx.law_true⟩
