import PyProof.Rows.All
import Wide.All
import OpenK.AllK
import Wide.FinOn
import HandS.ForMost
import HandS.Exc
import HandS.HeadEnd
import HandS.Head0
import HandS.Head1
import HandS.Head2
import HandS.HeadHook1
import HandS.HeadHook2
import PySem.Challenge.RW_comestoend_k01_errors_made
import HandS.Defaults
import HandS.CallLocal
import HandS.Zip
import HandS.Style
import HandS.ExcValue
import HandS.ExcInit
import HandS.Words
import HandS.Text
import HandS.TupAny
import HandS.Wide
import HandS.Deep
import HandS.AnyAll
import HandS.More
import HandS.IsInst
import HandS.ExcIs
import HandS.ExcField
import KE.KDictPairs
import PyProof.ReprRoads
import KE.SortData
import HandS.WordsDict
import HandS.DictTup
import KE.KExcMake
import HandS.MakeKw
import HandS.WideBits
import HandS.Ends
import HandS.EndBits
import PyProof.StrLawsRepr
import PyProof.Rows.RegStrFacts
section
set_option Elab.async false
set_option linter.all false
set_option maxRecDepth 100000
set_option autoImplicit false
/-! ### the head's looks: what is looked at, in pieces -/
namespace HC
open PySem PySem.Spec L2 PyProof.Rows
/-- a class over ValueError -/
def oexB (K : PySem.W.Frag) (C : Addr) : Bool := match K.lookup C with
  | some ⟨.type "type", _, .cls cd, sl⟩ => (match cd.mro, sl.toList with
    | .ref D :: bm, [_, _, _, _, some (.builtin n), _] => D == C && (n == "ValueError.__new__" && (!cd.hasDel && (cd.hasDict && PySem.HandSPX.refsVE bm)))
    | _, _ => false)
  | _ => false
def fiB (K : PySem.W.Frag) (C : Addr) (f : Str) (o : Option Value) : Bool := decide (PySem.W.findIn K (.ref C) f = some o)
/-- all that is asked of such a class; own: its __init__ is its own -/
def excB (K : PySem.W.Frag) (x : Str) (own : Bool) (es : List Str) : Bool :=
  He.eqO (PySem.W.nsIn K mainGlobals x) (some (some (.ref (He.ga K x)))) && (oexB K (He.ga K x) && (fiB K (He.ga K x) "__setattr__" (some (.builtin "object.__setattr__")) && (fiB K (He.ga K x) "__getattribute__" (some (.builtin "BaseException.__getattribute__")) &&
  (fiB K (He.ga K x) "__getattr__" none && (fiB K (He.ga K x) "__class__" (some (.builtin "object.__class__")) && (PySem.W.keepIn K (.ref (He.ga K x)) &&
  ((if own = true then fiB K (He.ga K x) "__init__" (some (.ref (He.ma K (He.ga K x) "__init__"))) && (fiB K (He.ga K x) "value" none && decide (PySem.W.typeIn K (.ref (He.ma K (He.ga K x) "__init__")) = some (.type "function")))
    else fiB K (He.ga K x) "__init__" (some (.builtin "ValueError.__init__"))) &&
  decide ((PySem.W.clsIn K (He.ga K x)).map (·.mro) = some (.ref (He.ga K x) :: (es.map fun e => .ref (He.ga K e)) ++ PySem.HandSPX.veTail)))))))))
/-- of objects at large -/
def objB (K : PySem.W.Frag) : Bool := decide (PySem.W.specialIn K (.builtin "object.__class__") "__get__" = some (some (.builtin "getset_descriptor.__get__"))) && decide (PySem.W.takesIn K (.builtin "object.__class__") = some true)
def sysB (K : PySem.W.Frag) : Bool := match K.lookup sysModules with
  | some o => decide (o.cls = .type "dict")
  | none => false
/-! the table of kinds: a class, whether its __init__ is its own, its bases of our own -/
abbrev Kd := Str × Bool × List Str
/-- some classes; the table as a whole -/
def kdE (kd : List Kd) (K : PySem.W.Frag) : Bool := kd.all fun p => excB K p.1 p.2.1 p.2.2
def kdT (kd : List Kd) (K : PySem.W.Frag) : Bool := objB K && (sysB K && ((kd.all fun p => p.2.2.all fun y => kd.any fun q => decide (q.1 = y)) && decide ((kd.map fun p => He.ga K p.1).Nodup)))
abbrev Pcs := List (List He.Fa × List He.DefD)
abbrev Cks := List (PySem.W.Frag → Bool)
def obsL (as : List Addr) (p : Pcs) (cks : Cks) (g : Addr → Option Obj) : List He.AlD × List Bool :=
  let K := He.frG g as
  (p.map fun q => He.obsD q.1 q.2 K, cks.map fun c => c K)
def valL (p : Pcs) (cks : Cks) : List He.AlD × List Bool := (p.map fun q => He.valD q.2, cks.map fun _ => true)
structure SaysL (p : Pcs) (cks : Cks) (K : PySem.W.Frag) : Prop where
  d : p.map (fun q => He.obsD q.1 q.2 K) = p.map fun q => He.valD q.2
  c : cks.map (fun c => c K) = cks.map fun _ => true
theorem SaysL.at {p : Pcs} {cks : Cks} {K : PySem.W.Frag} (h : SaysL p cks K) (i : Nat) {fa : List He.Fa} {fn : List He.DefD} (e : p[i]? = some (fa, fn) := by rfl) : He.SaysD fa fn K := by
  have q : (p.map fun q => He.obsD q.1 q.2 K)[i]? = (p.map fun q => He.valD q.2)[i]? := by rw [h.d]
  rw [List.getElem?_map, List.getElem?_map, e] at q
  exact Option.some.inj q
theorem SaysL.ck {p : Pcs} {cks : Cks} {K : PySem.W.Frag} (h : SaysL p cks K) (i : Nat) {c : PySem.W.Frag → Bool} (e : cks[i]? = some c := by rfl) : c K = true := by
  have q : (cks.map fun c => c K)[i]? = (cks.map fun _ => true)[i]? := by rw [h.c]
  rw [List.getElem?_map, List.getElem?_map, e] at q
  exact Option.some.inj q
def hookL (as : List Addr) (p : Pcs) (cks : Cks) : PySem.W.Hook where
  α := List He.AlD × List Bool
  obs := fun s => obsL as p cks s.heap.get?
  val := fun _ => valL p cks
  says := fun _ h => ∃ K : PySem.W.Frag, K.In h ∧ SaysL p cks K
  of := fun _ _ e => ⟨_, He.frG_in, (Prod.mk.inj e).1, (Prod.mk.inj e).2⟩
  keeps := fun _ _ _ ⟨K, hK, c⟩ k => ⟨K, PySem.W.Frag.In.keeps hK k, c⟩
theorem obsL_eq {as : List Addr} {p : Pcs} {cks : Cks} {g : Addr → Option Obj} {s : Shared} (h : ∀ a, g a = s.heap.get? a) : obsL as p cks g = (hookL as p cks).obs s := by
  have e : g = s.heap.get? := funext h
  rw [e] <;> rfl
/-- the pieces together -/
theorem join_run {S A B : Type} {x : Option S} {f : S → A} {g : S → B} {a : A} {b : B} {as : List Addr} {p : Pcs} {cks : Cks} {ga : S → Addr → Option Obj} (h1 : x.map (fun s => (f s, g s)) = some (a, b))
    (h2 : ∀ q ∈ p, x.map (fun s => He.obsD q.1 q.2 (He.frG (ga s) as)) = some (He.valD q.2)) (h3 : ∀ c ∈ cks, x.map (fun s => c (He.frG (ga s) as)) = some true) : x.map (fun s => (f s, g s, obsL as p cks (ga s))) = some (a, b, valL p cks) := by
  cases x with
  | none => cases h1
  | some s =>
    have e1 : f s = a ∧ g s = b := by
      have := Option.some.inj h1
      exact ⟨(Prod.mk.inj this).1, (Prod.mk.inj this).2⟩
    have e2 : obsL as p cks (ga s) = valL p cks := by
      unfold obsL valL
      dsimp only
      congr 1
      · exact List.map_congr_left fun q hq => Option.some.inj (h2 q hq)
      · exact List.map_congr_left fun c hc => Option.some.inj (h3 c hc)
    show some (f s, g s, obsL as p cks (ga s)) = _
    rw [e1.1, e1.2, e2]
/-- the i-th statement of a class -/
def clsDef (s : Stmt) (i : Nat) : Stmt := match s with
  | .ClassDef _ _ _ body .. => body.getD i (.Pass ⟨0, 0, 0, 0⟩)
  | _ => .Pass ⟨0, 0, 0, 0⟩
end HC
end
section
set_option Elab.async false
set_option linter.all false
set_option maxRecDepth 100000
set_option maxHeartbeats 0
/-! what the head looks at (printed by genh.py) -/
namespace K01
open PySem PySem.Spec PyProof.Rows L2 HC
def top (i : Nat) : Stmt := PySem.Challenge.pw_comestoend_k01_errors_made.main.body.getD i (.Pass ⟨0, 0, 0, 0⟩)
abbrev KD : List Kd := [(("EndError" : Str), false, []), (("InvalidGraph" : Str), true, [("EndError" : Str)]), (("InvalidOtherGraph" : Str), true, [("EndError" : Str)]), (("InvalidGraphSteps" : Str), true, [("EndError" : Str)]), (("InvalidKind" : Str), true, [("EndError" : Str)]), (("InvalidForm" : Str), true, [("EndError" : Str)]), (("InvalidOtherForm" : Str), true, [("EndError" : Str)]), (("InvalidMultipliers" : Str), true, [("EndError" : Str)]), (("InvalidNames" : Str), true, [("EndError" : Str)]), (("InvalidMost" : Str), true, [("EndError" : Str)]), (("InvalidCount" : Str), true, [("EndError" : Str)]), (("InvalidLots" : Str), true, [("EndError" : Str)]), (("InvalidAdders" : Str), true, [("EndError" : Str)]), (("InvalidForms" : Str), true, [("EndError" : Str)]), (("InvalidBy" : Str), true, [("EndError" : Str)]), (("InvalidMany" : Str), true, [("EndError" : Str)]), (("InvalidMeasure" : Str), true, [("EndError" : Str)]), (("InvalidBound" : Str), true, [("EndError" : Str)]), (("InvalidLow" : Str), true, [("EndError" : Str)]), (("InvalidHigh" : Str), true, [("EndError" : Str)]), (("InvalidAt" : Str), true, [("EndError" : Str)]), (("InvalidLot" : Str), true, [("EndError" : Str)]), (("InvalidOtherLot" : Str), true, [("EndError" : Str)]), (("InvalidKept" : Str), true, [("EndError" : Str)]), (("InvalidProgram" : Str), true, [("EndError" : Str)]), (("Unread" : Str), true, [("EndError" : Str)]), (("InvalidAnswer" : Str), true, [("EndError" : Str)]), (("InvalidInputs" : Str), true, [("EndError" : Str)]), (("InvalidMove" : Str), true, [("EndError" : Str)]), (("InvalidMoves" : Str), true, [("EndError" : Str)]), (("InvalidRoad" : Str), true, [("EndError" : Str)]), (("InvalidOptions" : Str), true, [("EndError" : Str)]), (("InvalidAct" : Str), true, [("EndError" : Str)]), (("InvalidActs" : Str), true, [("EndError" : Str)]), (("InvalidHouse" : Str), true, [("EndError" : Str)]), (("InvalidOtherProgram" : Str), true, [("EndError" : Str)]), (("InvalidWord" : Str), true, [("EndError" : Str)]), (("TooMany" : Str), true, [("EndError" : Str)]), (("NothingToUndo" : Str), false, [("EndError" : Str)]), (("NothingToRedo" : Str), false, [("EndError" : Str)]), (("InvalidPoint" : Str), true, [("EndError" : Str)]), (("InvalidNumber" : Str), true, [("EndError" : Str)]), (("InvalidPairs" : Str), true, [("EndError" : Str)]), (("InvalidNumbers" : Str), true, [("EndError" : Str)]), (("InvalidSets" : Str), true, [("EndError" : Str)]), (("InvalidRow" : Str), true, [("EndError" : Str)]), (("InvalidRows" : Str), true, [("EndError" : Str)]), (("InvalidTurn" : Str), true, [("EndError" : Str)]), (("InvalidRound" : Str), true, [("EndError" : Str)]), (("InvalidPaper" : Str), true, [("EndError" : Str)]), (("InvalidStanding" : Str), true, [("EndError" : Str)]), (("InvalidOption" : Str), true, [("EndError" : Str)]), (("InvalidSteps" : Str), true, [("EndError" : Str)]), (("InvalidWidth" : Str), true, [("EndError" : Str)]), (("InvalidPlace" : Str), true, [("EndError" : Str)]), (("InvalidTest" : Str), true, [("EndError" : Str)]), (("InvalidTree" : Str), true, [("EndError" : Str)]), (("InvalidText" : Str), true, [("EndError" : Str)]), (("NotBound" : Str), true, [("EndError" : Str)]), (("InvalidOtherText" : Str), true, [("EndError" : Str)]), (("InvalidThing" : Str), true, [("EndError" : Str)]), (("NotTaken" : Str), true, [("EndError" : Str)])]
abbrev s_law_mixed : Stmt := top 66
abbrev s_law_draw : Stmt := top 67
abbrev s_law_one_of : Stmt := top 68
abbrev s_law_purse : Stmt := top 65
abbrev s_law_purses : Stmt := top 69
abbrev s_law_first : Stmt := top 70
abbrev s_law_called : Stmt := top 71
abbrev s_law_bare : Stmt := top 72
abbrev s_law_code : Stmt := top 73
abbrev s_law_is_error : Stmt := top 74
abbrev s_law_right : Stmt := top 75
abbrev s_law : Stmt := top 76
def d_law_mixed : He.DefD := ⟨("_law_mixed", none), "_law_mixed", "_law_mixed", defArgs s_law_mixed, defBody s_law_mixed, defScope s_law_mixed, [], []⟩
def d_law_draw : He.DefD := ⟨("_law_draw", none), "_law_draw", "_law_draw", defArgs s_law_draw, defBody s_law_draw, defScope s_law_draw, [], []⟩
def d_law_one_of : He.DefD := ⟨("_law_one_of", none), "_law_one_of", "_law_one_of", defArgs s_law_one_of, defBody s_law_one_of, defScope s_law_one_of, [], []⟩
def d_law_purse : He.DefD := ⟨("_law_purse", none), "_law_purse", "_law_purse", defArgs s_law_purse, defBody s_law_purse, defScope s_law_purse, [], []⟩
def d_law_purses : He.DefD := ⟨("_law_purses", none), "_law_purses", "_law_purses", defArgs s_law_purses, defBody s_law_purses, defScope s_law_purses, [], []⟩
def d_law_first : He.DefD := ⟨("_law_first", none), "_law_first", "_law_first", defArgs s_law_first, defBody s_law_first, defScope s_law_first, [], []⟩
def d_law_called : He.DefD := ⟨("_law_called", none), "_law_called", "_law_called", defArgs s_law_called, defBody s_law_called, defScope s_law_called, [], []⟩
def d_law_bare : He.DefD := ⟨("_law_bare", none), "_law_bare", "_law_bare", defArgs s_law_bare, defBody s_law_bare, defScope s_law_bare, [], []⟩
def d_law_code : He.DefD := ⟨("_law_code", none), "_law_code", "_law_code", defArgs s_law_code, defBody s_law_code, defScope s_law_code, [], []⟩
def d_law_is_error : He.DefD := ⟨("_law_is_error", none), "_law_is_error", "_law_is_error", defArgs s_law_is_error, defBody s_law_is_error, defScope s_law_is_error, [], []⟩
def d_law_right : He.DefD := ⟨("_law_right", none), "_law_right", "_law_right", defArgs s_law_right, defBody s_law_right, defScope s_law_right, [], []⟩
def d_law : He.DefD := ⟨("law", none), "law", "law", defArgs s_law, defBody s_law, defScope s_law, [], []⟩
abbrev kc_InvalidGraph : Stmt := clsDef (top 2) 0
def dx_InvalidGraph : He.DefD := ⟨("InvalidGraph", some "__init__"), "__init__", "InvalidGraph.__init__", defArgs kc_InvalidGraph, defBody kc_InvalidGraph, defScope kc_InvalidGraph, [.non], []⟩
abbrev kc_InvalidOtherGraph : Stmt := clsDef (top 3) 0
def dx_InvalidOtherGraph : He.DefD := ⟨("InvalidOtherGraph", some "__init__"), "__init__", "InvalidOtherGraph.__init__", defArgs kc_InvalidOtherGraph, defBody kc_InvalidOtherGraph, defScope kc_InvalidOtherGraph, [.non], []⟩
abbrev kc_InvalidGraphSteps : Stmt := clsDef (top 4) 0
def dx_InvalidGraphSteps : He.DefD := ⟨("InvalidGraphSteps", some "__init__"), "__init__", "InvalidGraphSteps.__init__", defArgs kc_InvalidGraphSteps, defBody kc_InvalidGraphSteps, defScope kc_InvalidGraphSteps, [.non], []⟩
abbrev kc_InvalidKind : Stmt := clsDef (top 5) 0
def dx_InvalidKind : He.DefD := ⟨("InvalidKind", some "__init__"), "__init__", "InvalidKind.__init__", defArgs kc_InvalidKind, defBody kc_InvalidKind, defScope kc_InvalidKind, [.non], []⟩
abbrev kc_InvalidForm : Stmt := clsDef (top 6) 0
def dx_InvalidForm : He.DefD := ⟨("InvalidForm", some "__init__"), "__init__", "InvalidForm.__init__", defArgs kc_InvalidForm, defBody kc_InvalidForm, defScope kc_InvalidForm, [.non], []⟩
abbrev kc_InvalidOtherForm : Stmt := clsDef (top 7) 0
def dx_InvalidOtherForm : He.DefD := ⟨("InvalidOtherForm", some "__init__"), "__init__", "InvalidOtherForm.__init__", defArgs kc_InvalidOtherForm, defBody kc_InvalidOtherForm, defScope kc_InvalidOtherForm, [.non], []⟩
abbrev kc_InvalidMultipliers : Stmt := clsDef (top 8) 0
def dx_InvalidMultipliers : He.DefD := ⟨("InvalidMultipliers", some "__init__"), "__init__", "InvalidMultipliers.__init__", defArgs kc_InvalidMultipliers, defBody kc_InvalidMultipliers, defScope kc_InvalidMultipliers, [.non], []⟩
abbrev kc_InvalidNames : Stmt := clsDef (top 9) 0
def dx_InvalidNames : He.DefD := ⟨("InvalidNames", some "__init__"), "__init__", "InvalidNames.__init__", defArgs kc_InvalidNames, defBody kc_InvalidNames, defScope kc_InvalidNames, [.non], []⟩
abbrev kc_InvalidMost : Stmt := clsDef (top 10) 0
def dx_InvalidMost : He.DefD := ⟨("InvalidMost", some "__init__"), "__init__", "InvalidMost.__init__", defArgs kc_InvalidMost, defBody kc_InvalidMost, defScope kc_InvalidMost, [.non], []⟩
abbrev kc_InvalidCount : Stmt := clsDef (top 11) 0
def dx_InvalidCount : He.DefD := ⟨("InvalidCount", some "__init__"), "__init__", "InvalidCount.__init__", defArgs kc_InvalidCount, defBody kc_InvalidCount, defScope kc_InvalidCount, [.non], []⟩
abbrev kc_InvalidLots : Stmt := clsDef (top 12) 0
def dx_InvalidLots : He.DefD := ⟨("InvalidLots", some "__init__"), "__init__", "InvalidLots.__init__", defArgs kc_InvalidLots, defBody kc_InvalidLots, defScope kc_InvalidLots, [.non], []⟩
abbrev kc_InvalidAdders : Stmt := clsDef (top 13) 0
def dx_InvalidAdders : He.DefD := ⟨("InvalidAdders", some "__init__"), "__init__", "InvalidAdders.__init__", defArgs kc_InvalidAdders, defBody kc_InvalidAdders, defScope kc_InvalidAdders, [.non], []⟩
abbrev kc_InvalidForms : Stmt := clsDef (top 14) 0
def dx_InvalidForms : He.DefD := ⟨("InvalidForms", some "__init__"), "__init__", "InvalidForms.__init__", defArgs kc_InvalidForms, defBody kc_InvalidForms, defScope kc_InvalidForms, [.non], []⟩
abbrev kc_InvalidBy : Stmt := clsDef (top 15) 0
def dx_InvalidBy : He.DefD := ⟨("InvalidBy", some "__init__"), "__init__", "InvalidBy.__init__", defArgs kc_InvalidBy, defBody kc_InvalidBy, defScope kc_InvalidBy, [.non], []⟩
abbrev kc_InvalidMany : Stmt := clsDef (top 16) 0
def dx_InvalidMany : He.DefD := ⟨("InvalidMany", some "__init__"), "__init__", "InvalidMany.__init__", defArgs kc_InvalidMany, defBody kc_InvalidMany, defScope kc_InvalidMany, [.non], []⟩
abbrev kc_InvalidMeasure : Stmt := clsDef (top 17) 0
def dx_InvalidMeasure : He.DefD := ⟨("InvalidMeasure", some "__init__"), "__init__", "InvalidMeasure.__init__", defArgs kc_InvalidMeasure, defBody kc_InvalidMeasure, defScope kc_InvalidMeasure, [.non], []⟩
abbrev kc_InvalidBound : Stmt := clsDef (top 18) 0
def dx_InvalidBound : He.DefD := ⟨("InvalidBound", some "__init__"), "__init__", "InvalidBound.__init__", defArgs kc_InvalidBound, defBody kc_InvalidBound, defScope kc_InvalidBound, [.non], []⟩
abbrev kc_InvalidLow : Stmt := clsDef (top 19) 0
def dx_InvalidLow : He.DefD := ⟨("InvalidLow", some "__init__"), "__init__", "InvalidLow.__init__", defArgs kc_InvalidLow, defBody kc_InvalidLow, defScope kc_InvalidLow, [.non], []⟩
abbrev kc_InvalidHigh : Stmt := clsDef (top 20) 0
def dx_InvalidHigh : He.DefD := ⟨("InvalidHigh", some "__init__"), "__init__", "InvalidHigh.__init__", defArgs kc_InvalidHigh, defBody kc_InvalidHigh, defScope kc_InvalidHigh, [.non], []⟩
abbrev kc_InvalidAt : Stmt := clsDef (top 21) 0
def dx_InvalidAt : He.DefD := ⟨("InvalidAt", some "__init__"), "__init__", "InvalidAt.__init__", defArgs kc_InvalidAt, defBody kc_InvalidAt, defScope kc_InvalidAt, [.non], []⟩
abbrev kc_InvalidLot : Stmt := clsDef (top 22) 0
def dx_InvalidLot : He.DefD := ⟨("InvalidLot", some "__init__"), "__init__", "InvalidLot.__init__", defArgs kc_InvalidLot, defBody kc_InvalidLot, defScope kc_InvalidLot, [.non], []⟩
abbrev kc_InvalidOtherLot : Stmt := clsDef (top 23) 0
def dx_InvalidOtherLot : He.DefD := ⟨("InvalidOtherLot", some "__init__"), "__init__", "InvalidOtherLot.__init__", defArgs kc_InvalidOtherLot, defBody kc_InvalidOtherLot, defScope kc_InvalidOtherLot, [.non], []⟩
abbrev kc_InvalidKept : Stmt := clsDef (top 24) 0
def dx_InvalidKept : He.DefD := ⟨("InvalidKept", some "__init__"), "__init__", "InvalidKept.__init__", defArgs kc_InvalidKept, defBody kc_InvalidKept, defScope kc_InvalidKept, [.non], []⟩
abbrev kc_InvalidProgram : Stmt := clsDef (top 25) 0
def dx_InvalidProgram : He.DefD := ⟨("InvalidProgram", some "__init__"), "__init__", "InvalidProgram.__init__", defArgs kc_InvalidProgram, defBody kc_InvalidProgram, defScope kc_InvalidProgram, [.non], []⟩
abbrev kc_Unread : Stmt := clsDef (top 26) 0
def dx_Unread : He.DefD := ⟨("Unread", some "__init__"), "__init__", "Unread.__init__", defArgs kc_Unread, defBody kc_Unread, defScope kc_Unread, [.non], []⟩
abbrev kc_InvalidAnswer : Stmt := clsDef (top 27) 0
def dx_InvalidAnswer : He.DefD := ⟨("InvalidAnswer", some "__init__"), "__init__", "InvalidAnswer.__init__", defArgs kc_InvalidAnswer, defBody kc_InvalidAnswer, defScope kc_InvalidAnswer, [.non], []⟩
abbrev kc_InvalidInputs : Stmt := clsDef (top 28) 0
def dx_InvalidInputs : He.DefD := ⟨("InvalidInputs", some "__init__"), "__init__", "InvalidInputs.__init__", defArgs kc_InvalidInputs, defBody kc_InvalidInputs, defScope kc_InvalidInputs, [.non], []⟩
abbrev kc_InvalidMove : Stmt := clsDef (top 29) 0
def dx_InvalidMove : He.DefD := ⟨("InvalidMove", some "__init__"), "__init__", "InvalidMove.__init__", defArgs kc_InvalidMove, defBody kc_InvalidMove, defScope kc_InvalidMove, [.non], []⟩
abbrev kc_InvalidMoves : Stmt := clsDef (top 30) 0
def dx_InvalidMoves : He.DefD := ⟨("InvalidMoves", some "__init__"), "__init__", "InvalidMoves.__init__", defArgs kc_InvalidMoves, defBody kc_InvalidMoves, defScope kc_InvalidMoves, [.non], []⟩
abbrev kc_InvalidRoad : Stmt := clsDef (top 31) 0
def dx_InvalidRoad : He.DefD := ⟨("InvalidRoad", some "__init__"), "__init__", "InvalidRoad.__init__", defArgs kc_InvalidRoad, defBody kc_InvalidRoad, defScope kc_InvalidRoad, [.non], []⟩
abbrev kc_InvalidOptions : Stmt := clsDef (top 32) 0
def dx_InvalidOptions : He.DefD := ⟨("InvalidOptions", some "__init__"), "__init__", "InvalidOptions.__init__", defArgs kc_InvalidOptions, defBody kc_InvalidOptions, defScope kc_InvalidOptions, [.non], []⟩
abbrev kc_InvalidAct : Stmt := clsDef (top 33) 0
def dx_InvalidAct : He.DefD := ⟨("InvalidAct", some "__init__"), "__init__", "InvalidAct.__init__", defArgs kc_InvalidAct, defBody kc_InvalidAct, defScope kc_InvalidAct, [.non], []⟩
abbrev kc_InvalidActs : Stmt := clsDef (top 34) 0
def dx_InvalidActs : He.DefD := ⟨("InvalidActs", some "__init__"), "__init__", "InvalidActs.__init__", defArgs kc_InvalidActs, defBody kc_InvalidActs, defScope kc_InvalidActs, [.non], []⟩
abbrev kc_InvalidHouse : Stmt := clsDef (top 35) 0
def dx_InvalidHouse : He.DefD := ⟨("InvalidHouse", some "__init__"), "__init__", "InvalidHouse.__init__", defArgs kc_InvalidHouse, defBody kc_InvalidHouse, defScope kc_InvalidHouse, [.non], []⟩
abbrev kc_InvalidOtherProgram : Stmt := clsDef (top 36) 0
def dx_InvalidOtherProgram : He.DefD := ⟨("InvalidOtherProgram", some "__init__"), "__init__", "InvalidOtherProgram.__init__", defArgs kc_InvalidOtherProgram, defBody kc_InvalidOtherProgram, defScope kc_InvalidOtherProgram, [.non], []⟩
abbrev kc_InvalidWord : Stmt := clsDef (top 37) 0
def dx_InvalidWord : He.DefD := ⟨("InvalidWord", some "__init__"), "__init__", "InvalidWord.__init__", defArgs kc_InvalidWord, defBody kc_InvalidWord, defScope kc_InvalidWord, [.non], []⟩
abbrev kc_TooMany : Stmt := clsDef (top 38) 0
def dx_TooMany : He.DefD := ⟨("TooMany", some "__init__"), "__init__", "TooMany.__init__", defArgs kc_TooMany, defBody kc_TooMany, defScope kc_TooMany, [.non], []⟩
abbrev kc_InvalidPoint : Stmt := clsDef (top 42) 0
def dx_InvalidPoint : He.DefD := ⟨("InvalidPoint", some "__init__"), "__init__", "InvalidPoint.__init__", defArgs kc_InvalidPoint, defBody kc_InvalidPoint, defScope kc_InvalidPoint, [.non], []⟩
abbrev kc_InvalidNumber : Stmt := clsDef (top 43) 0
def dx_InvalidNumber : He.DefD := ⟨("InvalidNumber", some "__init__"), "__init__", "InvalidNumber.__init__", defArgs kc_InvalidNumber, defBody kc_InvalidNumber, defScope kc_InvalidNumber, [.non], []⟩
abbrev kc_InvalidPairs : Stmt := clsDef (top 44) 0
def dx_InvalidPairs : He.DefD := ⟨("InvalidPairs", some "__init__"), "__init__", "InvalidPairs.__init__", defArgs kc_InvalidPairs, defBody kc_InvalidPairs, defScope kc_InvalidPairs, [.non], []⟩
abbrev kc_InvalidNumbers : Stmt := clsDef (top 45) 0
def dx_InvalidNumbers : He.DefD := ⟨("InvalidNumbers", some "__init__"), "__init__", "InvalidNumbers.__init__", defArgs kc_InvalidNumbers, defBody kc_InvalidNumbers, defScope kc_InvalidNumbers, [.non], []⟩
abbrev kc_InvalidSets : Stmt := clsDef (top 46) 0
def dx_InvalidSets : He.DefD := ⟨("InvalidSets", some "__init__"), "__init__", "InvalidSets.__init__", defArgs kc_InvalidSets, defBody kc_InvalidSets, defScope kc_InvalidSets, [.non], []⟩
abbrev kc_InvalidRow : Stmt := clsDef (top 47) 0
def dx_InvalidRow : He.DefD := ⟨("InvalidRow", some "__init__"), "__init__", "InvalidRow.__init__", defArgs kc_InvalidRow, defBody kc_InvalidRow, defScope kc_InvalidRow, [.non], []⟩
abbrev kc_InvalidRows : Stmt := clsDef (top 48) 0
def dx_InvalidRows : He.DefD := ⟨("InvalidRows", some "__init__"), "__init__", "InvalidRows.__init__", defArgs kc_InvalidRows, defBody kc_InvalidRows, defScope kc_InvalidRows, [.non], []⟩
abbrev kc_InvalidTurn : Stmt := clsDef (top 49) 0
def dx_InvalidTurn : He.DefD := ⟨("InvalidTurn", some "__init__"), "__init__", "InvalidTurn.__init__", defArgs kc_InvalidTurn, defBody kc_InvalidTurn, defScope kc_InvalidTurn, [.non], []⟩
abbrev kc_InvalidRound : Stmt := clsDef (top 50) 0
def dx_InvalidRound : He.DefD := ⟨("InvalidRound", some "__init__"), "__init__", "InvalidRound.__init__", defArgs kc_InvalidRound, defBody kc_InvalidRound, defScope kc_InvalidRound, [.non], []⟩
abbrev kc_InvalidPaper : Stmt := clsDef (top 51) 0
def dx_InvalidPaper : He.DefD := ⟨("InvalidPaper", some "__init__"), "__init__", "InvalidPaper.__init__", defArgs kc_InvalidPaper, defBody kc_InvalidPaper, defScope kc_InvalidPaper, [.non], []⟩
abbrev kc_InvalidStanding : Stmt := clsDef (top 52) 0
def dx_InvalidStanding : He.DefD := ⟨("InvalidStanding", some "__init__"), "__init__", "InvalidStanding.__init__", defArgs kc_InvalidStanding, defBody kc_InvalidStanding, defScope kc_InvalidStanding, [.non], []⟩
abbrev kc_InvalidOption : Stmt := clsDef (top 53) 0
def dx_InvalidOption : He.DefD := ⟨("InvalidOption", some "__init__"), "__init__", "InvalidOption.__init__", defArgs kc_InvalidOption, defBody kc_InvalidOption, defScope kc_InvalidOption, [.non], []⟩
abbrev kc_InvalidSteps : Stmt := clsDef (top 54) 0
def dx_InvalidSteps : He.DefD := ⟨("InvalidSteps", some "__init__"), "__init__", "InvalidSteps.__init__", defArgs kc_InvalidSteps, defBody kc_InvalidSteps, defScope kc_InvalidSteps, [.non], []⟩
abbrev kc_InvalidWidth : Stmt := clsDef (top 55) 0
def dx_InvalidWidth : He.DefD := ⟨("InvalidWidth", some "__init__"), "__init__", "InvalidWidth.__init__", defArgs kc_InvalidWidth, defBody kc_InvalidWidth, defScope kc_InvalidWidth, [.non], []⟩
abbrev kc_InvalidPlace : Stmt := clsDef (top 56) 0
def dx_InvalidPlace : He.DefD := ⟨("InvalidPlace", some "__init__"), "__init__", "InvalidPlace.__init__", defArgs kc_InvalidPlace, defBody kc_InvalidPlace, defScope kc_InvalidPlace, [.non], []⟩
abbrev kc_InvalidTest : Stmt := clsDef (top 57) 0
def dx_InvalidTest : He.DefD := ⟨("InvalidTest", some "__init__"), "__init__", "InvalidTest.__init__", defArgs kc_InvalidTest, defBody kc_InvalidTest, defScope kc_InvalidTest, [.non], []⟩
abbrev kc_InvalidTree : Stmt := clsDef (top 58) 0
def dx_InvalidTree : He.DefD := ⟨("InvalidTree", some "__init__"), "__init__", "InvalidTree.__init__", defArgs kc_InvalidTree, defBody kc_InvalidTree, defScope kc_InvalidTree, [.non], []⟩
abbrev kc_InvalidText : Stmt := clsDef (top 59) 0
def dx_InvalidText : He.DefD := ⟨("InvalidText", some "__init__"), "__init__", "InvalidText.__init__", defArgs kc_InvalidText, defBody kc_InvalidText, defScope kc_InvalidText, [.non], []⟩
abbrev kc_NotBound : Stmt := clsDef (top 60) 0
def dx_NotBound : He.DefD := ⟨("NotBound", some "__init__"), "__init__", "NotBound.__init__", defArgs kc_NotBound, defBody kc_NotBound, defScope kc_NotBound, [.non], []⟩
abbrev kc_InvalidOtherText : Stmt := clsDef (top 61) 0
def dx_InvalidOtherText : He.DefD := ⟨("InvalidOtherText", some "__init__"), "__init__", "InvalidOtherText.__init__", defArgs kc_InvalidOtherText, defBody kc_InvalidOtherText, defScope kc_InvalidOtherText, [.non], []⟩
abbrev kc_InvalidThing : Stmt := clsDef (top 62) 0
def dx_InvalidThing : He.DefD := ⟨("InvalidThing", some "__init__"), "__init__", "InvalidThing.__init__", defArgs kc_InvalidThing, defBody kc_InvalidThing, defScope kc_InvalidThing, [.non], []⟩
abbrev kc_NotTaken : Stmt := clsDef (top 63) 0
def dx_NotTaken : He.DefD := ⟨("NotTaken", some "__init__"), "__init__", "NotTaken.__init__", defArgs kc_NotTaken, defBody kc_NotTaken, defScope kc_NotTaken, [.non], []⟩
def fa : List He.Fa := [.glo "_law_mixed", .glo "_law_draw", .glo "_law_one_of", .glo "_law_purse", .glo "_law_purses", .glo "_law_first", .glo "_law_called", .glo "_law_bare", .glo "_law_code", .glo "_law_is_error", .glo "_law_right", .glo "law", .free "ValueError", .free "all", .free "dict", .free "int", .free "isinstance", .free "len", .free "list", .free "max", .free "min", .free "range", .free "repr", .free "sum", .free "tuple"]
def fn0 : List He.DefD := [d_law_mixed, d_law_draw, d_law_one_of, d_law_purse, d_law_purses, d_law_first, d_law_called, d_law_bare, d_law_code, d_law_is_error, d_law_right, d_law]
def fn1 : List He.DefD := [dx_InvalidGraph, dx_InvalidOtherGraph, dx_InvalidGraphSteps, dx_InvalidKind, dx_InvalidForm, dx_InvalidOtherForm, dx_InvalidMultipliers, dx_InvalidNames, dx_InvalidMost, dx_InvalidCount, dx_InvalidLots, dx_InvalidAdders, dx_InvalidForms, dx_InvalidBy, dx_InvalidMany, dx_InvalidMeasure, dx_InvalidBound, dx_InvalidLow, dx_InvalidHigh, dx_InvalidAt, dx_InvalidLot, dx_InvalidOtherLot, dx_InvalidKept, dx_InvalidProgram, dx_Unread, dx_InvalidAnswer, dx_InvalidInputs, dx_InvalidMove, dx_InvalidMoves, dx_InvalidRoad, dx_InvalidOptions, dx_InvalidAct]
def fn2 : List He.DefD := [dx_InvalidActs, dx_InvalidHouse, dx_InvalidOtherProgram, dx_InvalidWord, dx_TooMany, dx_InvalidPoint, dx_InvalidNumber, dx_InvalidPairs, dx_InvalidNumbers, dx_InvalidSets, dx_InvalidRow, dx_InvalidRows, dx_InvalidTurn, dx_InvalidRound, dx_InvalidPaper, dx_InvalidStanding, dx_InvalidOption, dx_InvalidSteps, dx_InvalidWidth, dx_InvalidPlace, dx_InvalidTest, dx_InvalidTree, dx_InvalidText, dx_NotBound, dx_InvalidOtherText, dx_InvalidThing, dx_NotTaken]
def kd0 : List Kd := (KD.drop 0).take 32
def kd1 : List Kd := (KD.drop 32).take 30
def pcs : Pcs := [(fa, fn0), ([], fn1), ([], fn2)]
def cks : Cks := [kdT KD, kdE kd0, kdE kd1]
def AS : List Addr := [0, 1, 3, 4, 6, 22, 23, 24, 25, 35, 41, 42, 43, 44, 45, 55, 61, 62, 63, 64, 65, 75, 81, 82, 83, 84, 85, 95, 101, 102, 103, 104, 105, 115, 121, 122, 123, 124, 125, 135, 141, 142, 143, 144, 145, 155, 161, 162, 163, 164, 165, 175, 181, 182, 183, 184, 185, 195, 201, 202, 203, 204, 205, 215, 221, 222, 223, 224, 225, 235, 241, 242, 243, 244, 245, 255, 261, 262, 263, 264, 265, 275, 281, 282, 283, 284, 285, 295, 301, 302, 303, 304, 305, 315, 321, 322, 323, 324, 325, 335, 341, 342, 343, 344, 345, 355, 361, 362, 363, 364, 365, 375, 381, 382, 383, 384, 385, 395, 401, 402, 403, 404, 405, 415, 421, 422, 423, 424, 425, 435, 441, 442, 443, 444, 445, 455, 461, 462, 463, 464, 465, 475, 481, 482, 483, 484, 485, 495, 501, 502, 503, 504, 505, 515, 521, 522, 523, 524, 525, 535, 541, 542, 543, 544, 545, 555, 561, 562, 563, 564, 565, 575, 581, 582, 583, 584, 585, 595, 601, 602, 603, 604, 605, 615, 621, 622, 623, 624, 625, 635, 641, 642, 643, 644, 645, 655, 661, 662, 663, 664, 665, 675, 681, 682, 683, 684, 685, 695, 701, 702, 703, 704, 705, 715, 721, 722, 723, 724, 725, 735, 741, 742, 743, 744, 745, 755, 761, 762, 763, 764, 765, 775, 776, 777, 787, 788, 789, 799, 805, 806, 807, 808, 809, 819, 825, 826, 827, 828, 829, 839, 845, 846, 847, 848, 849, 859, 865, 866, 867, 868, 869, 879, 885, 886, 887, 888, 889, 899, 905, 906, 907, 908, 909, 919, 925, 926, 927, 928, 929, 939, 945, 946, 947, 948, 949, 959, 965, 966, 967, 968, 969, 979, 985, 986, 987, 988, 989, 999, 1005, 1006, 1007, 1008, 1009, 1019, 1025, 1026, 1027, 1028, 1029, 1039, 1045, 1046, 1047, 1048, 1049, 1059, 1065, 1066, 1067, 1068, 1069, 1079, 1085, 1086, 1087, 1088, 1089, 1099, 1105, 1106, 1107, 1108, 1109, 1119, 1125, 1126, 1127, 1128, 1129, 1139, 1145, 1146, 1147, 1148, 1149, 1159, 1165, 1166, 1167, 1168, 1169, 1179, 1185, 1186, 1187, 1188, 1189, 1199, 1205, 1206, 1207, 1208, 1209, 1219, 1225, 1226, 1227, 1228, 1229, 1232, 1233, 1234, 1235, 1236, 1237, 1238, 1239, 1240, 1241, 1242, 1243, 1244, 1245, 1246, 1247, 1248, 1249, 1250, 1251, 1252, 1253, 1254, 1255, 1256, 1257, 1258, 1259, 1260, 1261, 1262, 1263, 1264, 1265, 1266, 1267, 1268, 1269, 1270, 1271, 1272, 1273, 1274, 1275, 1276, 1277, 1278, 1279, 1280, 1281, 1282, 1283, 1284, 1285, 1286, 1287, 1288, 1289, 1290, 1291, 1292, 1293, 1294, 1295, 1296, 1297, 1298, 1299, 1300, 1301, 1302, 1303, 1304, 1305, 1306, 1307]
abbrev R : PySem.W.OpenRow := PySem.W.OpenLaw.row PySem.Challenge.rw_comestoend_k01_errors_made
abbrev LAWAT : Nat := 76
abbrev hk : PySem.W.Hook := hookL AS pcs cks
def ob (s : PySem.W.SharedT) : List He.AlD × List Bool := obsL AS pcs cks (HandSHeadRun.getT s)
theorem ob_eq (s : PySem.W.SharedT) : ob s = hk.obs s.abs := obsL_eq (HandSHeadRun.getT_eq s)
abbrev LOOSE : List Str := [("EndError" : Str), ("InvalidGraph" : Str), ("InvalidOtherGraph" : Str), ("InvalidGraphSteps" : Str), ("InvalidKind" : Str), ("InvalidForm" : Str), ("InvalidOtherForm" : Str), ("InvalidMultipliers" : Str), ("InvalidNames" : Str), ("InvalidMost" : Str), ("InvalidCount" : Str), ("InvalidLots" : Str), ("InvalidAdders" : Str), ("InvalidForms" : Str), ("InvalidBy" : Str), ("InvalidMany" : Str), ("InvalidMeasure" : Str), ("InvalidBound" : Str), ("InvalidLow" : Str), ("InvalidHigh" : Str), ("InvalidAt" : Str), ("InvalidLot" : Str), ("InvalidOtherLot" : Str), ("InvalidKept" : Str), ("InvalidProgram" : Str), ("Unread" : Str), ("InvalidAnswer" : Str), ("InvalidInputs" : Str), ("InvalidMove" : Str), ("InvalidMoves" : Str), ("InvalidRoad" : Str), ("InvalidOptions" : Str), ("InvalidAct" : Str), ("InvalidActs" : Str), ("InvalidHouse" : Str), ("InvalidOtherProgram" : Str), ("InvalidWord" : Str), ("TooMany" : Str), ("NothingToUndo" : Str), ("NothingToRedo" : Str), ("InvalidPoint" : Str), ("InvalidNumber" : Str), ("InvalidPairs" : Str), ("InvalidNumbers" : Str), ("InvalidSets" : Str), ("InvalidRow" : Str), ("InvalidRows" : Str), ("InvalidTurn" : Str), ("InvalidRound" : Str), ("InvalidPaper" : Str), ("InvalidStanding" : Str), ("InvalidOption" : Str), ("InvalidSteps" : Str), ("InvalidWidth" : Str), ("InvalidPlace" : Str), ("InvalidTest" : Str), ("InvalidTree" : Str), ("InvalidText" : Str), ("NotBound" : Str), ("InvalidOtherText" : Str), ("InvalidThing" : Str), ("NotTaken" : Str), ("_law_purse" : Str), ("_law_mixed" : Str), ("_law_draw" : Str), ("_law_one_of" : Str), ("_law_purses" : Str), ("_law_first" : Str), ("_law_called" : Str), ("_law_bare" : Str), ("_law_code" : Str), ("_law_is_error" : Str), ("_law_right" : Str)]
end K01
end
section
set_option Elab.async false
set_option linter.all false
set_option maxRecDepth 100000
set_option maxHeartbeats 0
/-! the head's run (printed by genh.py) -/
namespace K01
open PySem PySem.W PySem.Spec PySem.Calls PyProof.Rows L2 HC
theorem run_look (w : World) (os : OsState) : (HandSHeadRun.endF (HandSHeadRun.stepQ (HandSHeadRun.denQ HandSHeadRun.tabQ) R.prog w) 100000 R.prog w os).map (fun s => (HandSHeadRun.looksF R.prog (boot_heap w.params) s.abs, HandSHeadRun.seenQ (PySem.W.view R.prog [LAWAT]) LOOSE (importedModules R.prog.main.body) (fun s => xlAt (PySem.W.view R.prog [LAWAT]) [] s && recOk R.toRowW.records s) s.abs)) = some (true, openGood (PySem.W.view R.prog [LAWAT]) LOOSE) := by
  kernel_rfl
theorem run_p0 (w : World) (os : OsState) : (HandSHeadRun.endF (HandSHeadRun.stepQ (HandSHeadRun.denQ HandSHeadRun.tabQ) R.prog w) 100000 R.prog w os).map (fun s => He.obsD fa fn0 (He.frG (HandSHeadRun.getT s) AS)) = some (He.valD fn0) := by
  kernel_rfl
theorem run_p1 (w : World) (os : OsState) : (HandSHeadRun.endF (HandSHeadRun.stepQ (HandSHeadRun.denQ HandSHeadRun.tabQ) R.prog w) 100000 R.prog w os).map (fun s => He.obsD [] fn1 (He.frG (HandSHeadRun.getT s) AS)) = some (He.valD fn1) := by
  kernel_rfl
theorem run_p2 (w : World) (os : OsState) : (HandSHeadRun.endF (HandSHeadRun.stepQ (HandSHeadRun.denQ HandSHeadRun.tabQ) R.prog w) 100000 R.prog w os).map (fun s => He.obsD [] fn2 (He.frG (HandSHeadRun.getT s) AS)) = some (He.valD fn2) := by
  kernel_rfl
theorem run_c0 (w : World) (os : OsState) : (HandSHeadRun.endF (HandSHeadRun.stepQ (HandSHeadRun.denQ HandSHeadRun.tabQ) R.prog w) 100000 R.prog w os).map (fun s => kdT KD (He.frG (HandSHeadRun.getT s) AS)) = some true := by
  kernel_rfl
theorem run_c1 (w : World) (os : OsState) : (HandSHeadRun.endF (HandSHeadRun.stepQ (HandSHeadRun.denQ HandSHeadRun.tabQ) R.prog w) 100000 R.prog w os).map (fun s => kdE kd0 (He.frG (HandSHeadRun.getT s) AS)) = some true := by
  kernel_rfl
theorem run_c2 (w : World) (os : OsState) : (HandSHeadRun.endF (HandSHeadRun.stepQ (HandSHeadRun.denQ HandSHeadRun.tabQ) R.prog w) 100000 R.prog w os).map (fun s => kdE kd1 (He.frG (HandSHeadRun.getT s) AS)) = some true := by
  kernel_rfl
theorem run (w : World) : HandSHeadRun.RunEq R (PySem.W.view R.prog [LAWAT]) hk ob 100000 LOOSE w := by
  intro os
  refine join_run (ga := HandSHeadRun.getT) (run_look w os) ?_ ?_
  · intro q h
    unfold pcs at h
    rcases List.mem_cons.mp h with rfl | h
    · exact run_p0 w os
    rcases List.mem_cons.mp h with rfl | h
    · exact run_p1 w os
    rcases List.mem_cons.mp h with rfl | h
    · exact run_p2 w os
    cases h
  · intro c h
    unfold cks at h
    rcases List.mem_cons.mp h with rfl | h
    · exact run_c0 w os
    rcases List.mem_cons.mp h with rfl | h
    · exact run_c1 w os
    rcases List.mem_cons.mp h with rfl | h
    · exact run_c2 w os
    cases h
end K01
end
section
set_option Elab.async false
set_option linter.all false
set_option maxRecDepth 100000
set_option autoImplicit false
/-! HC: values as plain data, lists and dicts as cells of a heap. -/
namespace HC
open PySem L2 PyProof.Rows

inductive TK where | any | pl | ex
  deriving DecidableEq
def TupAt (K : PySem.W.Frag) (F : Hp) : TK → Addr → List V → Prop
  | .any, a, vs => SqT K F a vs
  | .pl, a, vs => ∃ o, F a = some (.frz o (.tup vs)) ∧ o.dict = none
  | .ex, a, vs => F a = some (.tup vs)
theorem TupAt.sq {K : PySem.W.Frag} {F : Hp} {k : TK} {a : Addr} {vs : List V} (h : TupAt K F k a vs) : SqT K F a vs := by
  cases k with
  | any => exact h
  | pl => obtain ⟨o, e, _⟩ := h; exact .inl (.inr ⟨o, e⟩)
  | ex => exact .inl (.inl h)
/-- what a value is -/
inductive D where
  | non | bl (b : Bool) | int (i : Int) | str (x : Str)
  | tup (t : TK) (xs : List D) | rl (xs : List D)
  | ref (i : Nat) | fn (x : Str) | ty (n : String) | cls (x : Str)
  | rep (p : PyData)
/-- what stands in a cell -/
inductive O where
  | lst (xs : List D) | dK (kvs : List (Key × D)) | dT (kvs : List (List Key × D))
  | ins (c : Str) (fs : List (Str × D))
  /-- an exception that was caught, with its value -/
  | exc (c : Str) (v : D)
  /-- an exception without a field -/
  | exb (c : Str)

mutual
/-- it tells of no cell from n on -/
def D.clo (n : Nat) : D → Bool
  | .tup _ xs => D.clos n xs
  | .rl xs => D.clos n xs
  | .ref i => decide (i < n)
  | _ => true
def D.clos (n : Nat) : List D → Bool
  | [] => true
  | x :: xs => D.clo n x && D.clos n xs
end
def cloK {α : Type} (n : Nat) : List (α × D) → Bool
  | [] => true
  | x :: xs => x.2.clo n && cloK n xs
def O.clo (n : Nat) : O → Bool
  | .lst xs => D.clos n xs
  | .dK xs => cloK n xs
  | .dT xs => cloK n xs
  | .ins _ xs => cloK n xs
  | .exc _ v => v.clo n
  | .exb _ => true
/-! ### the heap: a tree by the bits of the place -/
inductive Tr where
  | lf | ob (o : O) | nd (l r : Tr)
def Tr.get : Nat → Tr → Nat → Option O
  | 0, .ob o, _ => some o
  | k + 1, .nd l r, i => if i.testBit k = true then Tr.get k r i else Tr.get k l i
  | _, _, _ => none
def Tr.set : Nat → Tr → Nat → O → Tr
  | 0, _, _, o => .ob o
  | k + 1, .nd l r, i, o => if i.testBit k = true then .nd l (Tr.set k r i o) else .nd (Tr.set k l i o) r
  | k + 1, _, i, o => if i.testBit k = true then .nd .lf (Tr.set k .lf i o) else .nd (Tr.set k .lf i o) .lf
theorem Tr.get_set_self : ∀ (k : Nat) (t : Tr) (i : Nat) (o : O), Tr.get k (Tr.set k t i o) i = some o
  | 0, t, i, o => by cases t <;> rfl
  | k + 1, .nd l r, i, o => by
    unfold Tr.set
    by_cases hb : i.testBit k = true
    · rw [if_pos hb]; unfold Tr.get; rw [if_pos hb]; exact Tr.get_set_self k r i o
    · rw [if_neg hb]; unfold Tr.get; rw [if_neg hb]; exact Tr.get_set_self k l i o
  | k + 1, .lf, i, o => by
    unfold Tr.set
    by_cases hb : i.testBit k = true
    · rw [if_pos hb]; unfold Tr.get; rw [if_pos hb]; exact Tr.get_set_self k .lf i o
    · rw [if_neg hb]; unfold Tr.get; rw [if_neg hb]; exact Tr.get_set_self k .lf i o
  | k + 1, .ob _, i, o => by
    unfold Tr.set
    by_cases hb : i.testBit k = true
    · rw [if_pos hb]; unfold Tr.get; rw [if_pos hb]; exact Tr.get_set_self k .lf i o
    · rw [if_neg hb]; unfold Tr.get; rw [if_neg hb]; exact Tr.get_set_self k .lf i o
theorem Tr.get_lf : ∀ (k i : Nat), Tr.get k .lf i = none
  | 0, _ => rfl
  | _ + 1, _ => rfl
theorem Tr.get_set_ne : ∀ (k : Nat) (t : Tr) (i j : Nat) (o : O), (∃ b, b < k ∧ i.testBit b ≠ j.testBit b) → Tr.get k (Tr.set k t i o) j = Tr.get k t j
  | 0, t, i, j, o, h => by obtain ⟨b, hb, _⟩ := h; omega
  | k + 1, .nd l r, i, j, o, h => by
    obtain ⟨b, hb, hne⟩ := h
    unfold Tr.set
    by_cases hi : i.testBit k = true
    · rw [if_pos hi]
      unfold Tr.get
      by_cases hj : j.testBit k = true
      · rw [if_pos hj, if_pos hj]
        refine Tr.get_set_ne k r i j o ⟨b, ?_, hne⟩
        rcases Nat.lt_succ_iff_lt_or_eq.mp hb with z | z
        · exact z
        · subst z; exact absurd (hi.trans hj.symm) hne
      · rw [if_neg hj, if_neg hj]
    · rw [if_neg hi]
      unfold Tr.get
      by_cases hj : j.testBit k = true
      · rw [if_pos hj, if_pos hj]
      · rw [if_neg hj, if_neg hj]
        refine Tr.get_set_ne k l i j o ⟨b, ?_, hne⟩
        rcases Nat.lt_succ_iff_lt_or_eq.mp hb with z | z
        · exact z
        · subst z; exact absurd ((Bool.eq_false_iff.mpr hi).trans (Bool.eq_false_iff.mpr hj).symm) hne
  | k + 1, .lf, i, j, o, h => by
    obtain ⟨b, hb, hne⟩ := h
    unfold Tr.set
    by_cases hi : i.testBit k = true
    · rw [if_pos hi]
      unfold Tr.get
      by_cases hj : j.testBit k = true
      · rw [if_pos hj]
        rw [Tr.get_set_ne k .lf i j o ⟨b, ?_, hne⟩, Tr.get_lf]
        rcases Nat.lt_succ_iff_lt_or_eq.mp hb with z | z
        · exact z
        · subst z; exact absurd (hi.trans hj.symm) hne
      · rw [if_neg hj, Tr.get_lf]
    · rw [if_neg hi]
      unfold Tr.get
      by_cases hj : j.testBit k = true
      · rw [if_pos hj, Tr.get_lf]
      · rw [if_neg hj]
        rw [Tr.get_set_ne k .lf i j o ⟨b, ?_, hne⟩, Tr.get_lf]
        rcases Nat.lt_succ_iff_lt_or_eq.mp hb with z | z
        · exact z
        · subst z; exact absurd ((Bool.eq_false_iff.mpr hi).trans (Bool.eq_false_iff.mpr hj).symm) hne
  | k + 1, .ob _, i, j, o, h => by
    obtain ⟨b, hb, hne⟩ := h
    unfold Tr.set
    by_cases hi : i.testBit k = true
    · rw [if_pos hi]
      unfold Tr.get
      by_cases hj : j.testBit k = true
      · rw [if_pos hj]
        rw [Tr.get_set_ne k .lf i j o ⟨b, ?_, hne⟩, Tr.get_lf]
        rcases Nat.lt_succ_iff_lt_or_eq.mp hb with z | z
        · exact z
        · subst z; exact absurd (hi.trans hj.symm) hne
      · rw [if_neg hj, Tr.get_lf]
    · rw [if_neg hi]
      unfold Tr.get
      by_cases hj : j.testBit k = true
      · rw [if_pos hj, Tr.get_lf]
      · rw [if_neg hj]
        rw [Tr.get_set_ne k .lf i j o ⟨b, ?_, hne⟩, Tr.get_lf]
        rcases Nat.lt_succ_iff_lt_or_eq.mp hb with z | z
        · exact z
        · subst z; exact absurd ((Bool.eq_false_iff.mpr hi).trans (Bool.eq_false_iff.mpr hj).symm) hne
/-- so many places at most -/
def bits : Nat := 16
def room : Nat := 65536
theorem bit_ne {i j : Nat} (hi : i < room) (hj : j < room) (h : i ≠ j) : ∃ b, b < bits ∧ i.testBit b ≠ j.testBit b := by
  refine Classical.byContradiction fun hn => h (Nat.eq_of_testBit_eq fun b => ?_)
  by_cases hb : b < bits
  · exact Classical.byContradiction fun z => hn ⟨b, hb, z⟩
  · have e : (2 : Nat) ^ bits ≤ 2 ^ b := Nat.pow_le_pow_right (by decide) (by omega)
    have r : room = 2 ^ bits := rfl
    rw [Nat.testBit_lt_two_pow (Nat.lt_of_lt_of_le (r ▸ hi) e), Nat.testBit_lt_two_pow (Nat.lt_of_lt_of_le (r ▸ hj) e)]
structure Hs where
  sz : Nat
  t : Tr
  /-- below each mark no cell tells of one above it -/
  mks : List Nat
def Hs.get (h : Hs) (i : Nat) : Option O := if i < h.sz then (if i < room then Tr.get bits h.t i else none) else none
def Hs.set (h : Hs) (i : Nat) (o : O) : Hs := ⟨h.sz, Tr.set bits h.t i o, h.mks⟩
def Hs.push (h : Hs) (o : O) : Hs := ⟨h.sz + 1, Tr.set bits h.t h.sz o, h.mks⟩
def Hs.new : Hs := ⟨0, .lf, []⟩
theorem Hs.get_lt {h : Hs} {i : Nat} {o : O} (e : h.get i = some o) : i < h.sz ∧ i < room := by
  unfold Hs.get at e
  split at e
  · split at e
    · exact ⟨by assumption, by assumption⟩
    · cases e
  · cases e
theorem Hs.get_push_self {h : Hs} (o : O) (hr : h.sz < room) : (h.push o).get h.sz = some o := by
  unfold Hs.get Hs.push
  rw [if_pos (Nat.lt_succ_self _), if_pos hr]
  exact Tr.get_set_self ..
theorem Hs.get_push_ne {h : Hs} {o : O} {i : Nat} (hr : h.sz < room) (hi : i ≠ h.sz) : (h.push o).get i = h.get i := by
  unfold Hs.get Hs.push
  by_cases h1 : i < h.sz
  · rw [if_pos (Nat.lt_succ_of_lt h1), if_pos h1]
    by_cases h2 : i < room
    · rw [if_pos h2, if_pos h2]
      exact Tr.get_set_ne _ _ _ _ _ (bit_ne hr h2 (Ne.symm hi))
    · rw [if_neg h2, if_neg h2]
  · rw [if_neg (by show ¬ i < h.sz + 1; omega), if_neg h1]
theorem Hs.get_set_self {h : Hs} {i : Nat} (o : O) (h1 : i < h.sz) (h2 : i < room) : (h.set i o).get i = some o := by
  unfold Hs.get Hs.set
  rw [if_pos h1, if_pos h2]
  exact Tr.get_set_self ..
theorem Hs.get_set_ne {h : Hs} {o : O} {i j : Nat} (hi : i < room) (hj : j ≠ i) : (h.set i o).get j = h.get j := by
  unfold Hs.get Hs.set
  by_cases h1 : j < h.sz
  · rw [if_pos h1, if_pos h1]
    by_cases h2 : j < room
    · rw [if_pos h2, if_pos h2]
      exact Tr.get_set_ne _ _ _ _ _ (bit_ne hi h2 (Ne.symm hj))
    · rw [if_neg h2, if_neg h2]
  · rw [if_neg h1, if_neg h1]

def Sub (F F' : Hp) : Prop := ∀ a o, F a = some o → F' a = some o
theorem Sub.refl {F : Hp} : Sub F F := fun _ _ h => h
theorem Sub.trans {F G I : Hp} (h : Sub F G) (h' : Sub G I) : Sub F I := fun a o e => h' a o (h a o e)
theorem Sub.none {F F' : Hp} (h : Sub F F') {a : Addr} (e : F' a = none) : F a = none := by
  cases q : F a with
  | none => rfl
  | some o => rw [h a o q] at e; cases e
def Pre (ca ca' : List Addr) : Prop := ∃ more, ca' = ca ++ more
theorem Pre.refl {ca : List Addr} : Pre ca ca := ⟨[], by simp⟩
theorem Pre.trans {a b c : List Addr} (h : Pre a b) (h' : Pre b c) : Pre a c := by
  obtain ⟨m, rfl⟩ := h
  obtain ⟨n, rfl⟩ := h'
  exact ⟨m ++ n, by simp⟩
theorem Pre.get {ca ca' : List Addr} (h : Pre ca ca') {i : Nat} {a : Addr} (e : ca[i]? = some a) : ca'[i]? = some a := by
  obtain ⟨m, rfl⟩ := h
  obtain ⟨hi, _⟩ := List.getElem?_eq_some_iff.mp e
  rw [List.getElem?_append_left hi]
  exact e
theorem Pre.snoc (ca : List Addr) (p : Addr) : Pre ca (ca ++ [p]) := ⟨[p], rfl⟩
theorem Rd.mono {F F' : Hp} (h : Sub F F') {a : Addr} {u : HO} (r : Rd F a u) : Rd F' a u := by
  rcases r with r | ⟨o, r⟩
  · exact .inl (h _ _ r)
  · exact .inr ⟨o, h _ _ r⟩
theorem SqL.mono {K : PySem.W.Frag} {F F' : Hp} (h : Sub F F') {a : Addr} {xs : List V} (r : SqL K F a xs) : SqL K F' a xs := by
  rcases r with r | r
  · exact .inl (Rd.mono h r)
  · exact .inr r
theorem SqT.mono {K : PySem.W.Frag} {F F' : Hp} (h : Sub F F') {a : Addr} {xs : List V} (r : SqT K F a xs) : SqT K F' a xs := by
  rcases r with r | r
  · exact .inl (Rd.mono h r)
  · exact .inr r
theorem TupAt.mono {K : PySem.W.Frag} {F F' : Hp} (h : Sub F F') {t : TK} {a : Addr} {xs : List V} (r : TupAt K F t a xs) : TupAt K F' t a xs := by
  cases t with
  | any => exact SqT.mono h r
  | pl => obtain ⟨o, e, q⟩ := r; exact ⟨o, h _ _ e, q⟩
  | ex => exact h _ _ r
section
variable (K : PySem.W.Frag) (mg : Str → Option Value) (ca : List Addr) (F : Hp)
mutual
inductive RepD : V → D → Prop
  | non : RepD .non .non
  | bl (b : Bool) : RepD (.bl b) (.bl b)
  | int (i : Int) : RepD (.int i) (.int i)
  | str (x : Str) : x.length ≤ sizeLine → PyData.strOk x = true → RepD (.str x) (.str x)
  | rep (p : PyData) : RepD (.str p.shown) (.rep p)
  | tup {t : TK} {a : Addr} {vs : List V} {ds : List D} : TupAt K F t a vs → vs.length ≤ sizeLine → RepDs vs ds → RepD (.ref a) (.tup t ds)
  | rl {a : Addr} {vs : List V} {ds : List D} : SqL K F a vs → vs.length ≤ sizeLine → RepDs vs ds → RepD (.ref a) (.rl ds)
  | fn {x : Str} {a : Addr} : mg x = some (.ref a) → RepD (.ref a) (.fn x)
  | cls {x : Str} {a : Addr} : mg x = some (.ref a) → RepD (.ref a) (.cls x)
  | ty (n : String) : RepD (.ty n) (.ty n)
  | ref {i : Nat} {a : Addr} : ca[i]? = some a → RepD (.ref a) (.ref i)
inductive RepDs : List V → List D → Prop
  | nil : RepDs [] []
  | cons {v : V} {vs : List V} {d : D} {ds : List D} : RepD v d → RepDs vs ds → RepDs (v :: vs) (d :: ds)
end
inductive RepKs {α : Type} : List (α × V) → List (α × D) → Prop
  | nil : RepKs [] []
  | cons {k : α} {v : V} {vs : List (α × V)} {d : D} {ds : List (α × D)} : RepD K mg ca F v d → RepKs vs ds → RepKs ((k, v) :: vs) ((k, d) :: ds)
/-- a caught exception at rest: its class, its dict -/
def exr (a : Addr) (cls : Value) (d : Option Addr) : HO := .ext fun h => ∃ (oe : Obj) (vs : Array Value), h.get? a = some oe ∧ Zc cls d oe ∧ oe.data = .fields vs
def RepO (H : Hp) (a : Addr) : O → Prop
  | .lst xs => ∃ vs, H a = some (.lst vs) ∧ vs.length ≤ sizeLine ∧ RepDs K mg ca F vs xs
  | .dK kvs => ∃ vs, H a = some (.dK vs) ∧ vs.length ≤ sizeLine ∧ RepKs K mg ca F vs kvs
  | .dT kvs => ∃ vs, H a = some (.dT vs) ∧ vs.length ≤ sizeLine ∧ RepKs K mg ca F vs kvs
  | .ins c fs => ∃ C dx vs, mg c = some (.ref C) ∧ H a = some (.ins C dx vs) ∧ RepKs K mg ca F vs fs
  | .exc c v => ∃ C dd fs u, mg c = some (.ref C) ∧ H a = some (exr a (.ref C) (some dd)) ∧ F dd = some (.xd fs) ∧ fs.lookup ("value" : Str) = some u ∧ RepD K mg ca F u v
  | .exb c => ∃ C, mg c = some (.ref C) ∧ H a = some (exr a (.ref C) none)
end
section
variable {K : PySem.W.Frag} {mg : Str → Option Value} {ca ca' : List Addr} {F F' H H' : Hp}
mutual
theorem RepD.mono (hs : Sub F F') (hc : Pre ca ca') : ∀ (d : D) (v : V), RepD K mg ca F v d → RepD K mg ca' F' v d
  | .non, _, h => by cases h; exact .non
  | .bl b, _, h => by cases h; exact .bl b
  | .int b, _, h => by cases h; exact .int b
  | .str b, _, h => by cases h with | str _ l o => exact .str b l o
  | .tup _ xs, _, h => by cases h with | tup a l r => exact .tup (TupAt.mono hs a) l (RepDs.mono hs hc xs _ r)
  | .rl xs, _, h => by cases h with | rl a l r => exact .rl (SqL.mono hs a) l (RepDs.mono hs hc xs _ r)
  | .fn x, _, h => by cases h with | fn e => exact .fn e
  | .cls x, _, h => by cases h with | cls e => exact .cls e
  | .ty n, _, h => by cases h; exact .ty n
  | .ref i, _, h => by cases h with | ref e => exact .ref (hc.get e)
  | .rep p, _, h => by cases h; exact .rep p
theorem RepDs.mono (hs : Sub F F') (hc : Pre ca ca') : ∀ (ds : List D) (vs : List V), RepDs K mg ca F vs ds → RepDs K mg ca' F' vs ds
  | [], _, h => by cases h; exact .nil
  | d :: ds, _, h => by cases h with | cons h1 h2 => exact .cons (RepD.mono hs hc d _ h1) (RepDs.mono hs hc ds _ h2)
end
theorem RepKs.mono {α : Type} (hs : Sub F F') (hc : Pre ca ca') : ∀ {ds : List (α × D)} {vs : List (α × V)}, RepKs K mg ca F vs ds → RepKs K mg ca' F' vs ds
  | [], _, h => by cases h; exact .nil
  | _ :: _, _, h => by cases h with | cons h1 h2 => exact .cons (RepD.mono hs hc _ _ h1) (RepKs.mono hs hc h2)
/-- a cell's object is told by what stands at its address -/
theorem RepO.keep {a : Addr} {o : O} (h : RepO K mg ca F H a o) (hs : Sub F F') (hc : Pre ca ca') (e : H' a = H a) : RepO K mg ca' F' H' a o := by
  cases o with
  | lst xs => obtain ⟨vs, q, l, r⟩ := h; exact ⟨vs, e.trans q, l, RepDs.mono hs hc _ _ r⟩
  | dK xs => obtain ⟨vs, q, l, r⟩ := h; exact ⟨vs, e.trans q, l, RepKs.mono hs hc r⟩
  | dT xs => obtain ⟨vs, q, l, r⟩ := h; exact ⟨vs, e.trans q, l, RepKs.mono hs hc r⟩
  | ins c fs => obtain ⟨C, dx, vs, m, q, r⟩ := h; exact ⟨C, dx, vs, m, e.trans q, RepKs.mono hs hc r⟩
  | exc c v => obtain ⟨C, dd, fs, u, m, q, g, l, r⟩ := h; exact ⟨C, dd, fs, u, m, e.trans q, hs _ _ g, l, RepD.mono hs hc _ _ r⟩
  | exb c => obtain ⟨C, m, q⟩ := h; exact ⟨C, m, e.trans q⟩
theorem RepO.some {a : Addr} {o : O} (h : RepO K mg ca F H a o) : ∃ u, H a = some u := by
  cases o with
  | lst xs => obtain ⟨vs, q, _⟩ := h; exact ⟨_, q⟩
  | dK xs => obtain ⟨vs, q, _⟩ := h; exact ⟨_, q⟩
  | dT xs => obtain ⟨vs, q, _⟩ := h; exact ⟨_, q⟩
  | ins c fs => obtain ⟨C, dx, vs, m, q, r⟩ := h; exact ⟨_, q⟩
  | exc c v => obtain ⟨C, dd, fs, u, m, q, g, l, r⟩ := h; exact ⟨_, q⟩
  | exb c => obtain ⟨C, m, q⟩ := h; exact ⟨_, q⟩
theorem RepDs.length : ∀ {ds : List D} {vs : List V}, RepDs K mg ca F vs ds → vs.length = ds.length
  | [], _, h => by cases h; rfl
  | d :: ds, _, h => by cases h with | cons h1 h2 => simp [RepDs.length h2]
theorem RepDs.get : ∀ {ds : List D} {vs : List V} {i : Nat} {d : D}, RepDs K mg ca F vs ds → ds[i]? = some d → ∃ v, vs[i]? = some v ∧ RepD K mg ca F v d
  | [], _, _, _, h, e => by simp at e
  | d :: ds, _, 0, _, h, e => by
    cases h with
    | cons h1 h2 => simp at e; subst e; exact ⟨_, rfl, h1⟩
  | d :: ds, _, i + 1, _, h, e => by
    cases h with
    | cons h1 h2 =>
      obtain ⟨v, e1, r⟩ := RepDs.get (i := i) h2 (by simpa using e)
      exact ⟨v, by simpa using e1, r⟩
theorem RepDs.append : ∀ {ds es : List D} {vs us : List V}, RepDs K mg ca F vs ds → RepDs K mg ca F us es → RepDs K mg ca F (vs ++ us) (ds ++ es)
  | [], _, _, _, h, h' => by cases h; exact h'
  | d :: ds, _, _, _, h, h' => by cases h with | cons h1 h2 => exact .cons h1 (RepDs.append h2 h')
theorem RepDs.take : ∀ {ds : List D} {vs : List V} (n : Nat), RepDs K mg ca F vs ds → RepDs K mg ca F (vs.take n) (ds.take n)
  | _, _, 0, h => by simp; exact .nil
  | [], _, n + 1, h => by cases h; exact .nil
  | d :: ds, _, n + 1, h => by cases h with | cons h1 h2 => exact .cons h1 (RepDs.take n h2)
theorem RepDs.drop : ∀ {ds : List D} {vs : List V} (n : Nat), RepDs K mg ca F vs ds → RepDs K mg ca F (vs.drop n) (ds.drop n)
  | _, _, 0, h => h
  | [], _, n + 1, h => by cases h; exact .nil
  | d :: ds, _, n + 1, h => by cases h with | cons h1 h2 => exact RepDs.drop n h2
theorem RepDs.set : ∀ {ds : List D} {vs : List V} (n : Nat) {v : V} {d : D}, RepDs K mg ca F vs ds → RepD K mg ca F v d → RepDs K mg ca F (vs.set n v) (ds.set n d)
  | [], _, _, _, _, h, _ => by cases h; exact .nil
  | d :: ds, _, 0, _, _, h, r => by cases h with | cons h1 h2 => exact .cons r h2
  | d :: ds, _, n + 1, _, _, h, r => by cases h with | cons h1 h2 => exact .cons h1 (RepDs.set n h2 r)
end
end HC
end
section
set_option Elab.async false
set_option linter.all false
set_option maxRecDepth 100000
set_option autoImplicit false
namespace HC
open PySem L2 PyProof.Rows
abbrev St := L2.St
abbrev Env := List (Option D)
/-- an exception of an own class, with its value -/
structure Xc where
  c : Str
  v : D
inductive Rs (α : Type) where
  | ok (a : α) (h : Hs) | ex (x : Xc) (h : Hs) | no
def Rs.bind {α β : Type} : Rs α → (α → Hs → Rs β) → Rs β
  | .ok a h, f => f a h
  | .ex x h, _ => .ex x h
  | .no, _ => .no
/-- the evaluator's state stands for the real one -/
structure Sim (K : PySem.W.Frag) (mg : Str → Option Value) (ca : List Addr) (F H : Hp) (σ : St) (env : Env) (h : Hs) : Prop where
  sub : Sub F H
  le : env.length ≤ σ.length
  slot : ∀ (i : Nat) (d : D), env[i]? = some (some d) → ∃ v, σ[i]? = some (some v) ∧ RepD K mg ca F v d
  len : ca.length = h.sz
  inj : ca.Nodup
  full : ∀ i : Nat, i < h.sz → ∃ o : O, h.get i = some o
  obj : ∀ (i : Nat) (o : O), h.get i = some o → ∃ a, ca[i]? = some a ∧ F a = none ∧ RepO K mg ca F H a o
  mkle : ∀ m ∈ h.mks, m ≤ h.sz
  old : ∀ m ∈ h.mks, ∀ (i : Nat) (o : O), i < m → h.get i = some o → o.clo m = true
/-- a later state: what is told of nowhere stays -/
structure Later (ca : List Addr) (F H : Hp) (ca' : List Addr) (F' H' : Hp) : Prop where
  pre : Pre ca ca'
  ff : Sub F F'
  ext : ∀ a o, H a = some o → a ∉ ca → F a = none → (∀ fs, o ≠ .xd fs) → H' a = some o ∧ a ∉ ca' ∧ F' a = none
  alive : ∀ a o, H a = some o → ∃ o', H' a = some o'
section
variable {K : PySem.W.Frag} {mg : Str → Option Value} {ca ca' ca'' : List Addr} {F F' F'' H H' H'' : Hp} {σ σ' : St} {env env' : Env} {h h' : Hs}
theorem Later.refl : Later ca F H ca F H := ⟨.refl, .refl, fun a o e n f _ => ⟨e, n, f⟩, fun _ o e => ⟨o, e⟩⟩
theorem Later.trans (s : Later ca F H ca' F' H') (t : Later ca' F' H' ca'' F'' H'') : Later ca F H ca'' F'' H'' where
  pre := s.pre.trans t.pre
  ff := s.ff.trans t.ff
  ext := fun a o e n f x => by
    obtain ⟨e1, n1, f1⟩ := s.ext a o e n f x
    exact t.ext a o e1 n1 f1 x
  alive := fun a o e => by
    obtain ⟨o', e'⟩ := s.alive a o e
    exact t.alive a o' e'
theorem Later.noneOf (s : Later ca F H ca' F' H') {a : Addr} (e : H' a = none) : H a = none := by
  cases q : H a with
  | none => rfl
  | some o => obtain ⟨o', e'⟩ := s.alive a o q; rw [e] at e'; cases e'
theorem Sim.mem (S : Sim K mg ca F H σ env h) {a : Addr} (ha : a ∈ ca) : ∃ i o, ca[i]? = some a ∧ h.get i = some o ∧ F a = none ∧ RepO K mg ca F H a o := by
  obtain ⟨i, hi⟩ := List.mem_iff_getElem?.mp ha
  have hl : i < h.sz := by rw [← S.len]; exact (List.getElem?_eq_some_iff.mp hi).1
  obtain ⟨o, ho⟩ := S.full i hl
  obtain ⟨b, e, f, r⟩ := S.obj i o ho
  rw [hi] at e
  cases e
  exact ⟨i, o, hi, ho, f, r⟩
theorem Sim.fresh (S : Sim K mg ca F H σ env h) {p : Addr} (hp : H p = none) : p ∉ ca := fun z => by
  obtain ⟨_, _, _, _, _, r⟩ := S.mem z
  obtain ⟨u, e⟩ := r.some
  rw [hp] at e; cases e
/-- the abstract heap changes away from what is told -/
theorem Sim.away (S : Sim K mg ca F H σ env h) (hs : Sub F H') (hh : ∀ a ∈ ca, H' a = H a) : Sim K mg ca F H' σ env h where
  sub := hs
  le := S.le
  slot := S.slot
  len := S.len
  inj := S.inj
  full := S.full
  obj := fun i o e => by
    obtain ⟨a, e1, f, r⟩ := S.obj i o e
    exact ⟨a, e1, f, r.keep .refl .refl (hh a (List.mem_of_getElem? e1))⟩
  mkle := S.mkle
  old := S.old
theorem upd_sub {G : Hp} {p : Addr} {o : HO} (hp : G p = none) (hs : Sub F G) : Sub F (upd G p o) := fun a u e => by
  rw [upd_ne (ne_of_none (hs a u e) hp)]
  exact hs a u e
/-- a thing is laid that nothing tells of -/
theorem Sim.laid (S : Sim K mg ca F H σ env h) {p : Addr} {o : HO} (hp : H p = none) : Sim K mg ca F (upd H p o) σ env h ∧ Later ca F H ca F (upd H p o) := by
  refine ⟨S.away (upd_sub hp S.sub) fun a ha => upd_ne fun z => S.fresh hp (z ▸ ha), .refl, .refl, fun a u e n f _ => ⟨by rw [upd_ne (ne_of_none e hp)]; exact e, n, f⟩, fun a u e => ⟨u, by rw [upd_ne (ne_of_none e hp)]; exact e⟩⟩
/-- a tuple is laid -/
theorem Sim.tup (S : Sim K mg ca F H σ env h) {p : Addr} {o : HO} (hp : H p = none) : Sim K mg ca (upd F p o) (upd H p o) σ env h ∧ Later ca F H ca (upd F p o) (upd H p o) := by
  have fp : F p = none := S.sub.none hp
  have ff : Sub F (upd F p o) := fun a u e => by rw [upd_ne (ne_of_none e fp)]; exact e
  refine ⟨⟨fun a u e => ?_, S.le, fun i d e => ?_, S.len, S.inj, S.full, fun i u e => ?_, S.mkle, S.old⟩, .refl, ff, fun a u e n f _ => ⟨by rw [upd_ne (ne_of_none e hp)]; exact e, n, by rw [upd_ne (ne_of_none e hp)]; exact f⟩, fun a u e => ⟨u, by rw [upd_ne (ne_of_none e hp)]; exact e⟩⟩
  · by_cases ha : a = p
    · subst ha; rw [upd_same] at e ⊢; exact e
    · rw [upd_ne ha] at e ⊢; exact S.sub a u e
  · obtain ⟨v, e1, r⟩ := S.slot i d e
    exact ⟨v, e1, RepD.mono ff .refl _ _ r⟩
  · obtain ⟨a, e1, f, r⟩ := S.obj i u e
    have ha : a ≠ p := fun z => S.fresh hp (z ▸ List.mem_of_getElem? e1)
    exact ⟨a, e1, by rw [upd_ne ha]; exact f, r.keep ff .refl (upd_ne ha)⟩
/-- a cell is made of what was laid -/
theorem Sim.cell (S : Sim K mg ca F H σ env h) {p : Addr} {o : O} (hc : p ∉ ca) (hF : F p = none) (hr : h.sz < room) (r : RepO K mg ca F H p o) : Sim K mg (ca ++ [p]) F H σ env (h.push o) where
  sub := S.sub
  le := S.le
  slot := fun i d e => by
    obtain ⟨v, e1, r⟩ := S.slot i d e
    exact ⟨v, e1, RepD.mono .refl (.snoc ca p) _ _ r⟩
  len := by rw [List.length_append, S.len]; rfl
  inj := by
    rw [List.nodup_append]
    exact ⟨S.inj, by simp, fun a ha b hb z => hc (by rw [List.mem_singleton.mp hb] at z; exact z ▸ ha)⟩
  full := fun i hi => by
    by_cases he : i = h.sz
    · subst he; exact ⟨o, Hs.get_push_self o hr⟩
    · have hi' : i < h.sz + 1 := hi
      rw [Hs.get_push_ne hr he]
      exact S.full i (by omega)
  obj := fun i u e => by
    by_cases he : i = h.sz
    · subst he
      rw [Hs.get_push_self o hr] at e
      cases e
      refine ⟨p, ?_, hF, r.keep .refl (.snoc ca p) rfl⟩
      rw [← S.len]
      simp
    · rw [Hs.get_push_ne hr he] at e
      obtain ⟨a, e1, f, q⟩ := S.obj i u e
      exact ⟨a, (Pre.snoc ca p).get e1, f, q.keep .refl (.snoc ca p) rfl⟩
  mkle := fun m hm => Nat.le_succ_of_le (S.mkle m hm)
  old := fun m hm i u hi e => by
    have hm' := S.mkle m hm
    rw [Hs.get_push_ne hr (by omega)] at e
    exact S.old m hm i u hi e
/-- a new object, laid as a cell -/
theorem Sim.alloc (S : Sim K mg ca F H σ env h) {p : Addr} {u : HO} {o : O} (hp : H p = none) (hr : h.sz < room) (r : RepO K mg ca F (upd H p u) p o) : Sim K mg (ca ++ [p]) F (upd H p u) σ env (h.push o) ∧ Later ca F H (ca ++ [p]) F (upd H p u) ∧ (ca ++ [p])[h.sz]? = some p := by
  obtain ⟨S1, L1⟩ := S.laid (o := u) hp
  refine ⟨S1.cell (S.fresh hp) (S.sub.none hp) hr r, ⟨.snoc ca p, .refl, fun a v e n f x => ?_, L1.alive⟩, by rw [← S.len]; simp⟩
  obtain ⟨e1, n1, f1⟩ := L1.ext a v e n f x
  refine ⟨e1, fun z => ?_, f1⟩
  rcases List.mem_append.mp z with z | z
  · exact n z
  · rw [List.mem_singleton.mp z] at e; rw [hp] at e; cases e
/-- what is written keeps the marks -/
def Hs.bar (h : Hs) (i : Nat) (o : O) : Bool := h.mks.all fun m => !(decide (i < m)) || o.clo m
theorem Hs.bar_of {h : Hs} {i m : Nat} {o : O} (hb : h.bar i o = true) (hm : m ∈ h.mks) (hi : i < m) : o.clo m = true := by
  have q := List.all_eq_true.mp hb m hm
  rw [decide_eq_true hi] at q
  simpa using q
/-- a cell is written -/
theorem Sim.write (S : Sim K mg ca F H σ env h) {i : Nat} {a : Addr} {u : HO} {o : O} (hb : h.bar i o = true) (ha : ca[i]? = some a) (r : RepO K mg ca F (upd H a u) a o) : Sim K mg ca F (upd H a u) σ env (h.set i o) ∧ Later ca F H ca F (upd H a u) := by
  obtain ⟨j, o0, e0, g0, fa, r0⟩ := S.mem (List.mem_of_getElem? ha)
  have hi : i < h.sz := by rw [← S.len]; exact (List.getElem?_eq_some_iff.mp ha).1
  obtain ⟨oi, gi⟩ := S.full i hi
  have hr := (Hs.get_lt gi).2
  have hF : ∀ b x, F b = some x → b ≠ a := fun b x e z => by rw [z, fa] at e; cases e
  refine ⟨⟨fun b x e => by rw [upd_ne (hF b x e)]; exact S.sub b x e, S.le, S.slot, S.len, S.inj, fun k hk => ?_, fun k x e => ?_, S.mkle, fun m hm k x hk e => ?_⟩, .refl, .refl, fun b x e n f _ => ⟨by rw [upd_ne (show b ≠ a from fun z => n (by rw [z]; exact List.mem_of_getElem? ha))]; exact e, n, f⟩, fun b x e => ?_⟩
  · by_cases hk' : k = i
    · subst hk'; exact ⟨o, Hs.get_set_self o hi hr⟩
    · rw [Hs.get_set_ne hr hk']; exact S.full k hk
  · by_cases hk' : k = i
    · subst hk'
      rw [Hs.get_set_self o hi hr] at e
      cases e
      exact ⟨a, ha, fa, r⟩
    · rw [Hs.get_set_ne hr hk'] at e
      obtain ⟨b, e1, f, q⟩ := S.obj k x e
      refine ⟨b, e1, f, q.keep .refl .refl (upd_ne fun z => hk' ?_)⟩
      subst z
      have lk := (List.getElem?_eq_some_iff.mp e1).1
      exact (List.getElem?_inj lk S.inj).mp (e1.trans ha.symm)
  · by_cases hk' : k = i
    · subst hk'
      rw [Hs.get_set_self o hi hr] at e
      cases e
      exact Hs.bar_of hb hm hk
    · rw [Hs.get_set_ne hr hk'] at e
      exact S.old m hm k x hk e
  · by_cases hb : b = a
    · subst hb; exact ⟨u, upd_same⟩
    · exact ⟨x, by rw [upd_ne hb]; exact e⟩
/-- a slot is stored -/
theorem Sim.store (S : Sim K mg ca F H σ env h) {i : Nat} {v : V} {d : D} (r : RepD K mg ca F v d) : Sim K mg ca F H (σ.set i (some v)) (env.set i (some d)) h where
  sub := S.sub
  le := by rw [List.length_set, List.length_set]; exact S.le
  slot := fun j e he => by
    by_cases hj : j = i
    · subst hj
      have hi : j < env.length := by simpa using (List.getElem?_eq_some_iff.mp he).1
      rw [List.getElem?_set_self hi] at he
      cases he
      exact ⟨v, List.getElem?_set_self (Nat.lt_of_lt_of_le hi S.le), r⟩
    · rw [List.getElem?_set_ne (Ne.symm hj)] at he
      obtain ⟨u, e1, q⟩ := S.slot j e he
      exact ⟨u, by rw [List.getElem?_set_ne (Ne.symm hj)]; exact e1, q⟩
  len := S.len
  inj := S.inj
  full := S.full
  obj := S.obj
  mkle := S.mkle
  old := S.old
/-- other slots -/
theorem Sim.slots (S : Sim K mg ca F H σ env h) (le : env'.length ≤ σ'.length) (hs : ∀ (i : Nat) (d : D), env'[i]? = some (some d) → ∃ v, σ'[i]? = some (some v) ∧ RepD K mg ca F v d) : Sim K mg ca F H σ' env' h := ⟨S.sub, le, hs, S.len, S.inj, S.full, S.obj, S.mkle, S.old⟩
end

/-! ### judgements -/
abbrev Ev := Env → Hs → Rs D
abbrev Tv := Env → Hs → Rs Bool
abbrev Av := Env → Hs → Rs (List D)
/-- how a statement ends; an exception is an end, too -/
inductive Out where | nx | rt (d : D) | bk | ct | xc (x : Xc)
abbrev Sv := Env → Hs → Option (Out × Env × Hs)
abbrev Fn := List D → Hs → Rs D
section
variable (K : PySem.W.Frag) (mg : Str → Option Value) (W : WX)
/-- an exception in the air: its class, its dict with the value -/
def RepX (ca : List Addr) (F H : Hp) (x : Xc) (cls : Value) (dd : Option Addr) : Prop :=
  ∃ (C d : Addr) (fs : List (Str × V)) (v : V), mg x.c = some (.ref C) ∧ cls = .ref C ∧ dd = some d ∧ H d = some (.xd fs) ∧ fs.lookup ("value" : Str) = some v ∧ RepD K mg ca F v x.v
def Aft {α : Type} (ca : List Addr) (F H : Hp) (σ : St) (env : Env) (r : Rs α) (P : α → List Addr → Hp → Hp → Hs → Prop) : Prop := match r with
  | .ok a h' => ∀ ca' F' H', Later ca F H ca' F' H' → Sim K mg ca' F' H' σ env h' → P a ca' F' H' h'
  | .ex x h' => ∀ cls dd ca' F' H', Later ca F H ca' F' H' → Sim K mg ca' F' H' σ env h' → RepX K mg ca' F' H' x cls dd → W cls dd σ H'
  | .no => False
def SndE (te : TE) (ev : Ev) : Prop := ∀ ca F H σ env h Q, Sim K mg ca F H σ env h → Aft K mg W ca F H σ env (ev env h) (fun d ca' F' H' _ => ∀ v, RepD K mg ca' F' v d → Q v H') → te σ H Q
def SndT (tt : TT) (tv : Tv) : Prop := ∀ ca F H σ env h Q, Sim K mg ca F H σ env h → Aft K mg W ca F H σ env (tv env h) (fun b _ _ H' _ => Q b H') → tt σ H Q
def SndA (ta : TA) (av : Av) : Prop := ∀ ca F H σ env h Q, Sim K mg ca F H σ env h → Aft K mg W ca F H σ env (av env h) (fun ds ca' F' H' _ => ∀ vs, RepDs K mg ca' F' vs ds → Q vs H') → ta σ H Q
end
section
variable {K : PySem.W.Frag} {mg : Str → Option Value} {W : WX} {ca ca' : List Addr} {F F' H H' : Hp} {σ : St} {env : Env} {h : Hs} {α β : Type}
theorem Aft.mono {r : Rs α} {P P' : α → List Addr → Hp → Hp → Hs → Prop} (x : Aft K mg W ca F H σ env r P) (k : ∀ a ca' F' H' h', r = .ok a h' → Later ca F H ca' F' H' → Sim K mg ca' F' H' σ env h' → P a ca' F' H' h' → P' a ca' F' H' h') : Aft K mg W ca F H σ env r P' := by
  cases r with
  | ok a h' => exact fun ca' F' H' L S => k a ca' F' H' h' rfl L S (x ca' F' H' L S)
  | ex e h' => exact x
  | no => exact x
theorem Aft.later {r : Rs α} {P : α → List Addr → Hp → Hp → Hs → Prop} (L : Later ca F H ca' F' H') (x : Aft K mg W ca F H σ env r P) : Aft K mg W ca' F' H' σ env r P := by
  cases r with
  | ok a h' => exact fun ca2 F2 H2 L2 S => x ca2 F2 H2 (L.trans L2) S
  | ex e h' => exact fun cls dd ca2 F2 H2 L2 S => x cls dd ca2 F2 H2 (L.trans L2) S
  | no => exact x
theorem Aft.bind {r : Rs α} {f : α → Hs → Rs β} {P : β → List Addr → Hp → Hp → Hs → Prop} (x : Aft K mg W ca F H σ env (r.bind f) P) : Aft K mg W ca F H σ env r (fun a ca1 F1 H1 h1 => Aft K mg W ca1 F1 H1 σ env (f a h1) P) := by
  cases r with
  | ok a h' => exact fun ca1 F1 H1 L S => Aft.later L x
  | ex e h' => exact x
  | no => exact x
theorem Aft.ok {a : α} {P : α → List Addr → Hp → Hp → Hs → Prop} (x : Aft K mg W ca F H σ env (.ok a h) P) (S : Sim K mg ca F H σ env h) : P a ca F H h := x ca F H .refl S
end
end HC
end
section
set_option Elab.async false
set_option linter.all false
set_option maxRecDepth 100000
set_option autoImplicit false
namespace HC
open PySem L2 PyProof.Rows
/-! ### the evaluator's expressions -/
def eVar (i : Nat) : Ev := fun env h => match env[i]? with
  | some (some d) => .ok d h
  | _ => .no
def eC (d : D) : Ev := fun _ h => .ok d h
def e1 (f : Hs → D → Rs D) (a : Ev) : Ev := fun env h => (a env h).bind fun d h1 => f h1 d
def e2 (f : Hs → D → D → Rs D) (a b : Ev) : Ev := fun env h => (a env h).bind fun d h1 => (b env h1).bind fun e h2 => f h2 d e
def asB : D → Hs → Rs Bool := fun d h => match d with
  | .bl c => .ok c h
  | _ => .no
def tV (a : Ev) : Tv := fun env h => (a env h).bind asB
def tNt (a : Tv) : Tv := fun env h => (a env h).bind fun c h1 => .ok (!c) h1
def tAn (a b : Tv) : Tv := fun env h => (a env h).bind fun c h1 => if c = true then b env h1 else .ok false h1
def tOo (a b : Tv) : Tv := fun env h => (a env h).bind fun c h1 => if c = true then .ok true h1 else b env h1
def eAn (a b : Ev) : Ev := fun env h => (tV a env h).bind fun c h1 => if c = true then b env h1 else .ok (.bl false) h1
def eOo (a b : Ev) : Ev := fun env h => (tV a env h).bind fun c h1 => if c = true then .ok (.bl true) h1 else b env h1
def eNt (a : Ev) : Ev := fun env h => (tV a env h).bind fun c h1 => .ok (.bl (!c)) h1
def eIf (c : Tv) (a b : Ev) : Ev := fun env h => (c env h).bind fun k h1 => if k = true then a env h1 else b env h1
def aNil : Av := fun _ h => .ok [] h
def aCons (a : Ev) (r : Av) : Av := fun env h => (a env h).bind fun d h1 => (r env h1).bind fun ds h2 => .ok (d :: ds) h2
def eTup (a : Av) : Ev := fun env h => (a env h).bind fun ds h1 => .ok (.tup .ex ds) h1
def mk (o : O) (h : Hs) : Rs D := if h.sz < room then .ok (.ref h.sz) (h.push o) else .no
def eLst (a : Av) : Ev := fun env h => (a env h).bind fun ds h1 => mk (.lst ds) h1
def eN (f : Hs → List D → Rs D) (a : Av) : Ev := fun env h => (a env h).bind fun ds h1 => f h1 ds
def eNever : Ev := fun _ _ => .no
def eCh (f g : Hs → D → D → Rs D) (a b c : Ev) : Ev := fun env h => (a env h).bind fun d h1 => (b env h1).bind fun e h2 => (f h2 d e).bind fun t h3 => match t with
  | .bl false => .ok (.bl false) h3
  | .bl true => (c env h3).bind fun x h4 => g h4 e x
  | _ => .no

structure EE (X : Cx) (W : WX) (e : Expr) (te : TE) (ev : Ev) : Prop where
  pe : PE X e te
  snd : SndE X.K X.mg W te ev
structure ET (X : Cx) (W : WX) (e : Expr) (tt : TT) (tv : Tv) : Prop where
  pt : PT X e tt
  snd : SndT X.K X.mg W tt tv
structure EW (X : Cx) (W : WX) (e : Expr) (tt : TT) (tv : Tv) : Prop where
  pw : PW X e tt
  snd : SndT X.K X.mg W tt tv
structure EA (X : Cx) (W : WX) (es : List Expr) (ta : TA) (av : Av) : Prop where
  pa : PA X es ta
  snd : SndA X.K X.mg W ta av
  len : ∀ env h ds h', av env h = .ok ds h' → ds.length = es.length
section
variable {X : Cx} {K : PySem.W.Frag} {mg : Str → Option Value} {W : WX}
variable {a b c e : Expr} {es rest : List Expr} {pos : Pos} {ta tb tc te : TE} {tas : TA} {uA uB : TT} {ea eb ec ev : Ev} {av : Av} {va vb : Tv}
theorem snd_var (i : Nat) : SndE K mg W (tVar i) (eVar i) := by
  intro ca F H σ env h Q S x
  unfold eVar at x
  split at x
  · rename_i d e
    obtain ⟨v, e1, r⟩ := S.slot i d e
    exact ⟨v, e1, x.ok S v r⟩
  · exact x.elim
theorem ee_var {i : Nat} {x : Str} (hN : X.N[i]? = some x := by rfl) (hv : Vis X.env.scope x := by first | exact .inl rfl | exact .inr (.inl rfl) | exact .inr (.inr rfl)) (hd : (x == ("__debug__" : Str)) = false := by decide) (hcd : (x == ("__classdict__" : Str)) = false := by decide) : EE X W (.Name x pos) (tVar i) (eVar i) :=
  ⟨pe_var hN hv hd hcd, snd_var i⟩
theorem snd_C {v : V} {d : D} (h : ∀ ca F, RepD K mg ca F v d) : SndE K mg W (tC v) (eC d) := by
  intro ca F H σ env hs Q S x
  exact Aft.ok (h := hs) x S v (h ca F)
theorem ee_int {i j} : EE X W (.Constant (.int i) j pos) (tC (.int i)) (eC (.int i)) := ⟨pe_int, snd_C fun _ _ => .int i⟩
theorem ee_bl {i j} : EE X W (.Constant (.bool i) j pos) (tC (.bl i)) (eC (.bl i)) := ⟨pe_bl, snd_C fun _ _ => .bl i⟩
theorem ee_non {j} : EE X W (.Constant .none j pos) (tC .non) (eC .non) := ⟨pe_non, snd_C fun _ _ => .non⟩
theorem ee_str {i j} (h : i.length ≤ sizeLine := by decide +kernel) (ho : PyData.strOk i = true := by decide +kernel) : EE X W (.Constant (.str i) j pos) (tC (.str i)) (eC (.str i)) := ⟨pe_str, snd_C fun _ _ => .str i h ho⟩
theorem ee_fn {x : Str} {f : Addr} (hm : X.mg x = some (.ref f)) (hg : Gl X x := by rfl) (hd : (x == ("__debug__" : Str)) = false := by decide) : EE X W (.Name x pos) (tC (.ref f)) (eC (.fn x)) :=
  ⟨pe_glob hg hm rfl hd, snd_C fun _ _ => .fn hm⟩
theorem ee_cls {x : Str} {f : Addr} (hm : X.mg x = some (.ref f)) (hg : Gl X x := by rfl) (hd : (x == ("__debug__" : Str)) = false := by decide) : EE X W (.Name x pos) (tC (.ref f)) (eC (.cls x)) :=
  ⟨pe_glob hg hm rfl hd, snd_C fun _ _ => .cls hm⟩
theorem ee_ty {x : Str} {n : String} (hm : X.mg x = none) (hv : bootBuiltins x = some (.type n) := by decide +kernel) (hg : Gl X x := by rfl) (hn : x ≠ "__name__" := by decide) (hd : (x == ("__debug__" : Str)) = false := by decide) : EE X W (.Name x pos) (tC (.ty n)) (eC (.ty n)) :=
  ⟨pe_bltn hg hm hv rfl hn hd, snd_C fun _ _ => .ty n⟩

/-! operations by values -/
def Op1S (K : PySem.W.Frag) (mg : Str → Option Value) (W : WX) (r : V → Hp → VK → Prop) (f : Hs → D → Rs D) : Prop := ∀ ca F H σ env h x d Q, Sim K mg ca F H σ env h → RepD K mg ca F x d → Aft K mg W ca F H σ env (f h d) (fun t ca' F' H' _ => ∀ v, RepD K mg ca' F' v t → Q v H') → r x H Q
def Op2S (K : PySem.W.Frag) (mg : Str → Option Value) (W : WX) (r : R2) (f : Hs → D → D → Rs D) : Prop := ∀ ca F H σ env h x y d e Q, Sim K mg ca F H σ env h → RepD K mg ca F x d → RepD K mg ca F y e → Aft K mg W ca F H σ env (f h d e) (fun t ca' F' H' _ => ∀ v, RepD K mg ca' F' v t → Q v H') → r x y H Q
def OpNS (K : PySem.W.Frag) (mg : Str → Option Value) (W : WX) (r : List V → Hp → VK → Prop) (f : Hs → List D → Rs D) : Prop := ∀ ca F H σ env h xs ds Q, Sim K mg ca F H σ env h → RepDs K mg ca F xs ds → Aft K mg W ca F H σ env (f h ds) (fun t ca' F' H' _ => ∀ v, RepD K mg ca' F' v t → Q v H') → r xs H Q
theorem snd_e1 {r : V → Hp → VK → Prop} {f : Hs → D → Rs D} (ho : Op1S K mg W r f) (ha : SndE K mg W ta ea) : SndE K mg W (tUn r ta) (e1 f ea) := by
  intro ca F H σ env h Q S x
  exact ha ca F H σ env h _ S ((Aft.bind x).mono fun d ca1 F1 H1 h1 _ L1 S1 y v rv => ho ca1 F1 H1 σ env h1 v d Q S1 rv y)
theorem snd_e2 {r : R2} {f : Hs → D → D → Rs D} (ho : Op2S K mg W r f) (ha : SndE K mg W ta ea) (hb : SndE K mg W tb eb) : SndE K mg W (tOp r ta tb) (e2 f ea eb) := by
  intro ca F H σ env h Q S x
  exact ha ca F H σ env h _ S ((Aft.bind x).mono fun d ca1 F1 H1 h1 _ L1 S1 y v rv =>
    hb ca1 F1 H1 σ env h1 _ S1 ((Aft.bind y).mono fun e ca2 F2 H2 h2 _ L2 S2 z u ru => ho ca2 F2 H2 σ env h2 v u d e Q S2 (RepD.mono L2.ff L2.pre _ _ rv) ru z))
theorem ee_un {op : UnaryOp} {r : V → Hp → VK → Prop} {f : Hs → D → Rs D} (ho : UnR X (unaryOp op) r) (hs : Op1S X.K X.mg W r f) (ha : EE X W a ta ea) : EE X W (.UnaryOp op a pos) (tUn r ta) (e1 f ea) := ⟨pe_un ho ha.pe, snd_e1 hs ha.snd⟩
theorem ee_op {op : Operator} {r : R2} {f : Hs → D → D → Rs D} (ho : OpR X (binaryOp op) r) (hs : Op2S X.K X.mg W r f) (ha : EE X W a ta ea) (hb : EE X W b tb eb) : EE X W (.BinOp a op b pos) (tOp r ta tb) (e2 f ea eb) := ⟨pe_op ho ha.pe hb.pe, snd_e2 hs ha.snd hb.snd⟩
theorem ee_cmp {op : CmpOp} {r : R2} {f : Hs → D → D → Rs D} (ho : OpR X (compareOp op) r) (hs : Op2S X.K X.mg W r f) (ha : EE X W a ta ea) (hb : EE X W b tb eb) (hm : behindInMarks op b = false := by first | exact nomark _ | rfl) : EE X W (.Compare a [op] [b] pos) (tOp r ta tb) (e2 f ea eb) :=
  ⟨pe_cmpR ho ha.pe hb.pe hm, snd_e2 hs ha.snd hb.snd⟩
theorem bl_of {F : Hp} {ca : List Addr} {v : V} {c : Bool} (h : RepD K mg ca F v (.bl c)) : v = .bl c := by cases h; rfl
theorem SndE.test (ha : SndE K mg W ta ea) : SndT K mg W (tTest ta) (tV ea) := by
  intro ca F H σ env h Q S x
  refine ha ca F H σ env h _ S ((Aft.bind x).mono fun d ca1 F1 H1 h1 _ L1 S1 y v rv => ?_)
  unfold asB at y
  cases d with
  | bl c => exact ⟨c, bl_of rv, Aft.ok (h := h1) y S1⟩
  | _ => exact False.elim y
theorem et_cmp {op : CmpOp} {r : R2} {f : Hs → D → D → Rs D} (ho : OpR X (compareOp op) r) (hs : Op2S X.K X.mg W r f) (ha : EE X W a ta ea) (hb : EE X W b tb eb) (hm : behindInMarks op b = false := by first | exact nomark _ | rfl) : ET X W (.Compare a [op] [b] pos) (tTest (tOp r ta tb)) (tV (e2 f ea eb)) :=
  ⟨pt_cmpR ho ha.pe hb.pe hm, SndE.test (snd_e2 hs ha.snd hb.snd)⟩
theorem et_val (ha : EE X W a ta ea) (he : ∀ whole, isTrue a X.env whole = (do let v ← whole; standAt a.pos; holding [v] (truthy v)) := by intro _; rfl) : ET X W a (tB ta) (tV ea) := ⟨pt_val ha.pe he, SndE.test ha.snd⟩
theorem et_not (ha : ET X W a uA va) : ET X W (.UnaryOp .Not a pos) (tNot uA) (tNt va) := by
  refine ⟨pt_not ha.pt, ?_⟩
  intro ca F H σ env h Q S x
  exact ha.snd ca F H σ env h _ S ((Aft.bind x).mono fun c ca1 F1 H1 h1 _ L1 S1 y => Aft.ok (h := h1) y S1)
theorem EW.et {e : Expr} {tt : TT} {tv : Tv} (h : EW X W e tt tv) : ET X W e tt tv := ⟨h.pw.pt, h.snd⟩
theorem ew_and1 (ha : ET X W a uA va) : EW X W (.BoolOp .And [a] pos) uA va := ⟨pw_and1 ha.pt, ha.snd⟩
theorem ew_or1 (ha : ET X W a uA va) : EW X W (.BoolOp .Or [a] pos) uA va := ⟨pw_or1 ha.pt, ha.snd⟩
theorem ew_and (ha : ET X W a uA va) (hb : EW X W (.BoolOp .And (b :: rest) pos) uB vb) : EW X W (.BoolOp .And (a :: b :: rest) pos) (tAnd uA uB) (tAn va vb) := by
  refine ⟨pw_and ha.pt hb.pw, ?_⟩
  intro ca F H σ env h Q S x
  refine ha.snd ca F H σ env h _ S ((Aft.bind x).mono fun c ca1 F1 H1 h1 _ L1 S1 y => ?_)
  cases c with
  | true => exact hb.snd ca1 F1 H1 σ env h1 Q S1 y
  | false => exact Aft.ok (h := h1) y S1
theorem ew_or (ha : ET X W a uA va) (hb : EW X W (.BoolOp .Or (b :: rest) pos) uB vb) : EW X W (.BoolOp .Or (a :: b :: rest) pos) (tOr uA uB) (tOo va vb) := by
  refine ⟨pw_or ha.pt hb.pw, ?_⟩
  intro ca F H σ env h Q S x
  refine ha.snd ca F H σ env h _ S ((Aft.bind x).mono fun c ca1 F1 H1 h1 _ L1 S1 y => ?_)
  cases c with
  | false => exact hb.snd ca1 F1 H1 σ env h1 Q S1 y
  | true => exact Aft.ok (h := h1) y S1
theorem ee_one {op} (ha : EE X W a ta ea) : EE X W (.BoolOp op [a] pos) ta ea := ⟨pe_one ha.pe, ha.snd⟩
theorem ee_and (ha : EE X W a ta ea) (hb : EE X W (.BoolOp .And (b :: rest) pos) tb eb) : EE X W (.BoolOp .And (a :: b :: rest) pos) (tAndV ta tb) (eAn ea eb) := by
  refine ⟨pe_and ha.pe hb.pe, ?_⟩
  intro ca F H σ env h Q S x
  refine (SndE.test ha.snd) ca F H σ env h (fun c H1 => if c = true then tb σ H1 Q else Q (.bl false) H1) S ((Aft.bind x).mono fun c ca1 F1 H1 h1 _ L1 S1 y => ?_)
  cases c with
  | true => exact hb.snd ca1 F1 H1 σ env h1 Q S1 y
  | false => exact Aft.ok (h := h1) y S1 _ (.bl false)
theorem ee_or (ha : EE X W a ta ea) (hb : EE X W (.BoolOp .Or (b :: rest) pos) tb eb) : EE X W (.BoolOp .Or (a :: b :: rest) pos) (tOrV ta tb) (eOo ea eb) := by
  refine ⟨pe_or ha.pe hb.pe, ?_⟩
  intro ca F H σ env h Q S x
  refine (SndE.test ha.snd) ca F H σ env h (fun c H1 => if c = true then Q (.bl true) H1 else tb σ H1 Q) S ((Aft.bind x).mono fun c ca1 F1 H1 h1 _ L1 S1 y => ?_)
  cases c with
  | false => exact hb.snd ca1 F1 H1 σ env h1 Q S1 y
  | true => exact Aft.ok (h := h1) y S1 _ (.bl true)
theorem ee_not (ha : EE X W a ta ea) : EE X W (.UnaryOp .Not a pos) (tNotV ta) (eNt ea) := by
  refine ⟨pe_not ha.pe, ?_⟩
  intro ca F H σ env h Q S x
  exact (SndE.test ha.snd) ca F H σ env h (fun c H1 => Q (.bl (!c)) H1) S ((Aft.bind x).mono fun c ca1 F1 H1 h1 _ L1 S1 y => Aft.ok (h := h1) y S1 _ (.bl _))
theorem ee_ife (hc : ET X W c uA va) (ha : EE X W a ta ea) (hb : EE X W b tb eb) : EE X W (.IfExp c a b pos) (tIf uA ta tb) (eIf va ea eb) := by
  refine ⟨pe_ifExp hc.pt ha.pe hb.pe, ?_⟩
  intro ca F H σ env h Q S x
  refine hc.snd ca F H σ env h _ S ((Aft.bind x).mono fun c ca1 F1 H1 h1 _ L1 S1 y => ?_)
  cases c with
  | true => exact ha.snd ca1 F1 H1 σ env h1 Q S1 y
  | false => exact hb.snd ca1 F1 H1 σ env h1 Q S1 y
theorem snd_ch {r r' : R2} {f g : Hs → D → D → Rs D} (hf : Op2S K mg W r f) (hg : Op2S K mg W r' g) (ha : SndE K mg W ta ea) (hb : SndE K mg W tb eb) (hc : SndE K mg W tc ec) : SndE K mg W (tChain r r' ta tb tc) (eCh f g ea eb ec) := by
  intro ca F H σ env h Q S x
  refine ha ca F H σ env h _ S ((Aft.bind x).mono fun d ca1 F1 H1 h1 _ L1 S1 y v rv => ?_)
  refine hb ca1 F1 H1 σ env h1 _ S1 ((Aft.bind y).mono fun e ca2 F2 H2 h2 _ L2 S2 z u ru => ?_)
  refine hf ca2 F2 H2 σ env h2 v u d e _ S2 (RepD.mono L2.ff L2.pre _ _ rv) ru ((Aft.bind z).mono fun t ca3 F3 H3 h3 _ L3 S3 w q rq => ?_)
  cases t with
  | bl k =>
    refine ⟨k, bl_of rq, ?_⟩
    cases k with
    | false => exact Aft.ok (h := h3) w S3 _ (.bl false)
    | true => exact hc ca3 F3 H3 σ env h3 _ S3 ((Aft.bind w).mono fun x4 ca4 F4 H4 h4 _ L4 S4 y4 v4 r4 => hg ca4 F4 H4 σ env h4 u v4 e x4 Q S4 (RepD.mono (L3.ff.trans L4.ff) (L3.pre.trans L4.pre) _ _ ru) r4 y4)
  | _ => exact False.elim w
theorem ee_ch {op op' : CmpOp} {r r' : R2} {f g : Hs → D → D → Rs D} (ho : OpR X (compareOp op) r) (ho' : OpR X (compareOp op') r') (hf : Op2S X.K X.mg W r f) (hg : Op2S X.K X.mg W r' g) (ha : EE X W a ta ea) (hb : EE X W b tb eb) (hc : EE X W c tc ec)
    (hm : lastMarks [op, op'] [b, c] = false := by with_unfolding_all rfl) : EE X W (.Compare a [op, op'] [b, c] pos) (tChain r r' ta tb tc) (eCh f g ea eb ec) := ⟨pe_chain ho ho' ha.pe hb.pe hc.pe hm, snd_ch hf hg ha.snd hb.snd hc.snd⟩
theorem et_ch {op op' : CmpOp} {r r' : R2} {f g : Hs → D → D → Rs D} (ho : OpR X (compareOp op) r) (ho' : OpR X (compareOp op') r') (hf : Op2S X.K X.mg W r f) (hg : Op2S X.K X.mg W r' g) (ha : EE X W a ta ea) (hb : EE X W b tb eb) (hc : EE X W c tc ec)
    (hm : lastMarks [op, op'] [b, c] = false := by with_unfolding_all rfl) : ET X W (.Compare a [op, op'] [b, c] pos) (tTest (tChain r r' ta tb tc)) (tV (eCh f g ea eb ec)) := ⟨pt_chain ho ho' ha.pe hb.pe hc.pe hm, SndE.test (snd_ch hf hg ha.snd hb.snd hc.snd)⟩

/-! argument lists, displays -/
theorem snd_nil : SndA K mg W tNil aNil := fun ca F H σ env h Q S x => Aft.ok (h := h) x S [] .nil
theorem ea_nil : EA X W [] tNil aNil := ⟨pa_nil, snd_nil, fun _ _ _ _ h => by cases h; rfl⟩
theorem snd_cons (ha : SndE K mg W te ev) (hr : SndA K mg W tas av) : SndA K mg W (tCons te tas) (aCons ev av) := by
  intro ca F H σ env h Q S x
  exact ha ca F H σ env h _ S ((Aft.bind x).mono fun d ca1 F1 H1 h1 _ L1 S1 y v rv =>
    hr ca1 F1 H1 σ env h1 _ S1 ((Aft.bind y).mono fun ds ca2 F2 H2 h2 _ L2 S2 z vs rs => Aft.ok (h := h2) z S2 _ (.cons (RepD.mono L2.ff L2.pre _ _ rv) rs)))
theorem ea_cons (ha : EE X W e te ev) (hr : EA X W es tas av) (hs : starEach (e :: es) X.env = (false, eval e X.env) :: starEach es X.env := by rfl) : EA X W (e :: es) (tCons te tas) (aCons ev av) := ⟨pa_cons ha.pe hr.pa hs, snd_cons ha.snd hr.snd, fun env h ds h' q => by
  unfold aCons at q
  cases h1 : ev env h with
  | no => rw [h1] at q; cases q
  | ex x h2 => rw [h1] at q; cases q
  | ok d h2 =>
    rw [h1] at q
    cases h3 : av env h2 with
    | no => simp only [Rs.bind, h3] at q; cases q
    | ex x h4 => simp only [Rs.bind, h3] at q; cases q
    | ok ds2 h4 =>
      simp only [Rs.bind, h3] at q
      cases q
      simp [hr.len _ _ _ _ h3]⟩
theorem ee_tup {x1} (h : EA X W es tas av) (hl : es.length ≤ sizeLine := by decide) : EE X W (.Tuple es x1 pos) (tTup tas) (eTup av) := by
  refine ⟨pe_tup h.pa, ?_⟩
  intro ca F H σ env hs Q S x
  refine h.snd ca F H σ env hs _ S ((Aft.bind x).mono fun ds ca1 F1 H1 h1 e1 L1 S1 y vs rs => ?_)
  have hz : vs.length ≤ sizeLine := by rw [RepDs.length rs, h.len _ _ _ _ e1]; exact hl
  refine ⟨hz, fun p hp => ?_⟩
  obtain ⟨S2, L2⟩ := S1.tup (o := .tup vs) hp
  exact y _ _ _ L2 S2 _ (.tup (t := .ex) (show TupAt _ _ .ex _ _ from upd_same) hz (RepDs.mono L2.ff .refl _ _ rs))
/-- a new list -/
theorem mk_lst {ca : List Addr} {F H : Hp} {σ : St} {env : Env} {h : Hs} {ds : List D} {vs : List V} {Q : VK} (S : Sim K mg ca F H σ env h) (x : Aft K mg W ca F H σ env (mk (.lst ds) h) (fun t ca' F' H' _ => ∀ v, RepD K mg ca' F' v t → Q v H')) (rs : RepDs K mg ca F vs ds) (hz : vs.length ≤ sizeLine) {p : Addr} (hp : H p = none) : Q (.ref p) (upd H p (.lst vs)) := by
  unfold mk at x
  split at x
  · rename_i hr
    obtain ⟨S2, L2, e2⟩ := S.alloc (u := .lst vs) (o := .lst ds) hp hr ⟨vs, upd_same, hz, rs⟩
    exact x _ _ _ L2 S2 _ (.ref e2)
  · exact x.elim
theorem ee_lst (h : EA X W es tas av) (hl : es.length ≤ sizeLine := by decide) : EE X W (.List es pos) (tLst tas) (eLst av) := by
  refine ⟨pe_lst h.pa, ?_⟩
  intro ca F H σ env hs Q S x
  refine h.snd ca F H σ env hs _ S ((Aft.bind x).mono fun ds ca1 F1 H1 h1 e1 L1 S1 y vs rs => ?_)
  have hz : vs.length ≤ sizeLine := by rw [RepDs.length rs, h.len _ _ _ _ e1]; exact hl
  exact ⟨hz, fun p hp => mk_lst S1 y rs hz hp⟩
end
end HC
end
section
set_option Elab.async false
set_option linter.all false
set_option maxRecDepth 100000
set_option maxHeartbeats 2000000
set_option autoImplicit false
namespace HC
open PySem PySem.Spec PyProof.Rows L2
/-! ### defs entered where no repr is under way; exceptions leave them -/
structure RoomG (k : Nat) (A : Around) : Prop where
  rm : Room k A
  gd : A.guards = some []
theorem RoomG.mono {j k : Nat} {A : Around} (r : RoomG k A) (h : j ≤ k) : RoomG j A := ⟨r.rm.mono h, r.gd⟩
theorem RoomG.deeper {k : Nat} {A : Around} (r : RoomG (k + 1) A) (env : PySem.Env) : RoomG k (A.deeper env) := ⟨r.rm.deeper env, r.gd⟩
theorem RoomG.units65 {k : Nat} {A : Around} (r : RoomG k A) : A.units + 65 < cLine := by have := r.rm.un; omega
structure FnG (P : Program) (w : World) (K : PySem.W.Frag) (mg : Str → Option Value) (base : Heap) (k : Nat) (f : Addr) (fd : FuncData) (ps : List Str) (sp : Sp) : Prop where
  len : ∀ vs H Q E, sp vs H Q E → vs.length = ps.length
  run : ∀ (A : Around) (outer : List PySem.Env) (s : Shared) (H : Hp) (args : Args) (us : List Value) (vs : List V) (Q : VK) (E : XK), RoomG k A → Env0 P w K mg base A outer s H → BindsTo s fd args (ps.zip us) → Vals vs us → sp vs H Q E →
    codeAny (model P w) A (.call (.ref f) args) (CR (CX P w) outer P w H s Q E) s
section
variable {P : Program} {w : World} {K : PySem.W.Frag} {mg : Str → Option Value} {base : Heap} {f : Addr} {fd : FuncData} {ps : List Str} {sp : Sp}
theorem FnG.mono {j k : Nat} (F : FnG P w K mg base j f fd ps sp) (h : j ≤ k) : FnG P w K mg base k f fd ps sp :=
  ⟨F.len, fun A outer s H args us vs Q E hr => F.run A outer s H args us vs Q E (hr.mono h)⟩
/-- by its body -/
theorem fnG_of {k : Nat} {name qual : Str} {params : Arguments} {body : List Stmt} {scope : Scope} {dV kV doc pm cdv ct oc : Value} {an od : Option Addr} {osl : Array (Option Value)} {N : List Str}
    (lk : K.lookup f = some ⟨oc, od, .func (PySem.W.fnOf name qual params body scope dV kV doc pm an cdv ct), osl⟩) (hcd : PySem.W.codeIn K cdv qual = true) (S : FnScope N ps scope) (len : ∀ vs H Q E, sp vs H Q E → vs.length = ps.length)
    (hbody : ∀ (A : Around) (outer : List PySem.Env) (s : Shared) (H : Hp) (vs : List V) (Q : VK) (E : XK), RoomG k (A.deeper (envOfC qual scope s.heap.objs.size f cdv)) → sp vs H Q E →
      ∃ t, PSs (cxOf (CX P w) P w K mg base N qual scope f cdv A outer s H E) body t ∧ t { nx := fun _ H' => Q .non H', rt := Q } (start N vs) H) :
    FnG P w K mg base (k + 1) f (PySem.W.fnOf name qual params body scope dV kV doc pm an cdv ct) ps sp := by
  refine ⟨len, fun A outer s H args us vs Q E hr e0 hb r hsp => ?_⟩
  have inside : K.In s.heap := e0.mod.kin.keeps fun b o e => (e0.bs b o e).1
  have kinds : ∀ y ∈ ps.zip us, scope.names.lookup y.1 = some .local ∨ (scope.names.lookup y.1 = some .cell ∧ ((cellsFrom (s.heap.objs.size + 1) scope.names []).lookup y.1).isSome = true) := fun y hy =>
    (S.par y.1 (List.of_mem_zip hy).1).imp id fun q => ⟨q, PySem.W.cellsFrom_some _ _ _ (.inl q)⟩
  refine codeAny_call_function hr.rm.depth (inside _ _ lk) rfl S.co S.gen rfl (PySem.W.codeRec_of inside hcd) (hb _ _ _ _ (wpAny_newFunctionEnv_cells S.kind kinds fun env he s1 x => ?_))
  subst he
  obtain ⟨t, ht, hq⟩ := hbody A outer s H vs Q E (hr.deeper _) hsp
  refine ⟨(e0.mod.nolimit.keeps fun b o e => (e0.bs b o e).1).keeps x.toInCall.keep, codeAny_func ?_⟩
  refine wpAny_mono (ht.run [] s1 (start N vs) H _ (inv_start S hr.rm.hd e0 (len _ _ _ _ hsp) r x) hq) (fun fl s' hs => ?_) fun e s' hs => hs
  cases fl with
  | ret u => obtain ⟨v, σ', H', J, rv, q⟩ := hs; exact ⟨v, H', J.os, J.bare, J.base, J.hok, rv, q⟩
  | next => obtain ⟨σ', H', J, q⟩ := hs; exact ⟨.non, H', J.os, J.bare, J.base, J.hok, rfl, q⟩
  | brk => obtain ⟨σ', H', J, q⟩ := hs; exact absurd q id
  | cont => obtain ⟨σ', H', J, q⟩ := hs; exact absurd q id
/-- what a def's body lets out -/
theorem takes_cx {qual : Str} {scope : Scope} {cdv : Value} {A : Around} {outer : List PySem.Env} {s : Shared} {H : Hp} {E : XK} {N : List Str} : Takes (cxOf (CX P w) P w K mg base N qual scope f cdv A outer s H E) (fun c d _ H' => E c d H') :=
  takes_of rfl rfl rfl (E₁ := fun e' s'' => CX P w outer H s E e' s'') rfl
end
/-- f(..): exceptions are wished with the slots of the caller -/
def tCallW (sp : Sp) (dvs : List V) (W : WX) (t : TA) : TE := fun σ H Q => t σ H fun vs H1 => sp (vs ++ dvs) H1 Q fun c d H' => W c d σ H'
/-- the callee is a value -/
def tCallV (f : Addr) (sp : Sp) (dvs : List V) (W : WX) (te : TE) (t : TA) : TE := fun σ H Q => te σ H fun v H0 => v = .ref f ∧ t σ H0 fun vs H1 => sp (vs ++ dvs) H1 Q fun c d H' => W c d σ H'
def tCallNW (n m : Nat) (sp : Sp) (gV : List V → List V → List V) (W : WX) (t tk : TA) : TE := fun σ H Q => t σ H fun vs H1 => vs.length = n ∧ tk σ H1 fun zs H2 => zs.length = m ∧ sp (gV vs zs) H2 Q fun c d H' => W c d σ H'
section
variable {X : Cx} {W : WX} {k : Nat} {f : Addr} {fd : FuncData} {ps : List Str} {sp : Sp} {dvs : List V} {ds : List Value} {x : Str} {p pos : Pos} {e : Expr} {es : List Expr} {t tk : TA}
theorem runW {pins : List (Addr × Obj)} {σ : St} {H : Hp} {s : Shared} {Q : VK} {us : List Value} {vs : List V} (F : FnG X.prog X.w X.K X.mg X.base k f fd ps sp) (hr : RoomG k X.A) (hb : Binds X.K fd ps ds) (hd : Vals dvs ds) (hx : Takes X W)
    (I : Inv X pins σ H s) (r : Vals vs us) (h : sp (vs ++ dvs) H Q fun c d H' => W c d σ H') : wpAny (model X.prog X.w) X.A (call (.ref f) us) (EP X pins σ Q) X.xe s := by
  have r2 := r.append hd
  refine wpAny_call (codeAny_mono (F.run X.A X.stack s H ⟨us, []⟩ (us ++ ds) (vs ++ dvs) Q _ hr I.env0 (hb s us I.kIn (by rw [← r2.length]; exact F.len _ _ _ _ h)) r2 h) fun r s' hq => ?_)
  cases r with
  | error e => exact hx e s' (XE.of_call I (fun _ _ _ h => h) hq)
  | ok fl =>
    cases fl with
    | ret u => exact I.after hq
    | next => exact False.elim hq
    | brk => exact False.elim hq
    | cont => exact False.elim hq
theorem runWN {pins : List (Addr × Obj)} {σ : St} {H : Hp} {s : Shared} {Q : VK} {us ws : List Value} {vs zs : List V} {n : Nat} {ks : List Str} {g : List Value → List Value → List Value} {gV : List V → List V → List V} (F : FnG X.prog X.w X.K X.mg X.base k f fd ps sp) (hr : RoomG k X.A) (hb : KBn X.K fd ps n ks g gV) (hx : Takes X W)
    (I : Inv X pins σ H s) (r : Vals vs us) (rz : Vals zs ws) (l1 : vs.length = n) (l2 : zs.length = ks.length) (h : sp (gV vs zs) H Q fun c d H' => W c d σ H') : wpAny (model X.prog X.w) X.A (call (.ref f) us (ks.zip ws)) (EP X pins σ Q) X.xe s := by
  refine wpAny_call (codeAny_mono (F.run X.A X.stack s H ⟨us, ks.zip ws⟩ (g us ws) (gV vs zs) Q _ hr I.env0 (hb.to s us ws I.kIn (r.length.symm.trans l1) (rz.length.symm.trans l2)) (hb.rel r rz) h) fun r s' hq => ?_)
  cases r with
  | error e => exact hx e s' (XE.of_call I (fun _ _ _ h => h) hq)
  | ok fl =>
    cases fl with
    | ret u => exact I.after hq
    | next => exact False.elim hq
    | brk => exact False.elim hq
    | cont => exact False.elim hq
theorem peW (F : FnG X.prog X.w X.K X.mg X.base k f fd ps sp) (hr : RoomG k X.A) (hg : Gl X x) (hm : X.mg x = some (.ref f)) (hk : PySem.W.keepIn X.K (.ref f) = true) (hb : Binds X.K fd ps ds) (hd : Vals dvs ds) (hx : Takes X W)
    (ha : PA X (e :: es) t) (hdb : (x == ("__debug__" : Str)) = false := by decide) (he : starEach (e :: es) X.env = (false, eval e X.env) :: starEach es X.env := by rfl) (hpl : (backTo pos (starEach es X.env)).any (·.1) = false := by rfl) :
    PE X (.Call (.Name x p) (e :: es) [] pos) (tCallW sp dvs W t) :=
  ⟨fun pins s σ H Q I h => wpAny_Call_Name_kw (ld_glob I hg hm (PySem.W.callWith_K (h₀ := X.base) I.ok.mod.kin hk (thn (ha.run pos pins s σ H _ I h) fun us s1 ⟨vs, H1, I1, r, q⟩ => ⟨I1.kIn, runW F hr hb hd hx I1 r q⟩) he hpl) hdb)⟩
theorem peW0 (F : FnG X.prog X.w X.K X.mg X.base k f fd ps sp) (hr : RoomG k X.A) (hg : Gl X x) (hm : X.mg x = some (.ref f)) (hk : PySem.W.keepIn X.K (.ref f) = true) (hb : Binds X.K fd ps ds) (hd : Vals dvs ds) (hx : Takes X W)
    (hdb : (x == ("__debug__" : Str)) = false := by decide) : PE X (.Call (.Name x p) [] [] pos) (tCallW sp dvs W tNil) :=
  ⟨fun pins s σ H Q I h => wpAny_Call_Name_kw (ld_glob I hg hm (PySem.W.callWith_K0 I.kIn hk (runW (us := []) F hr hb hd hx I .nil h)) hdb)⟩
theorem peWN {n : Nat} {ks : List Str} {kws : List Keyword} {g : List Value → List Value → List Value} {gV : List V → List V → List V} (F : FnG X.prog X.w X.K X.mg X.base k f fd ps sp) (hr : RoomG k X.A) (hg : Gl X x) (hm : X.mg x = some (.ref f)) (hk : PySem.W.keepIn X.K (.ref f) = true) (hb : KBn X.K fd ps n ks g gV) (hx : Takes X W)
    (ha : PA X (e :: es) t) (hkw : PK X kws tk) (hall : (backToKw pos (keywordEach kws X.env)).all (·.1.isSome) = true := by rfl) (hks : (backToKw pos (keywordEach kws X.env)).filterMap (·.1) = ks := by rfl)
    (hdb : (x == ("__debug__" : Str)) = false := by decide) (he : starEach (e :: es) X.env = (false, eval e X.env) :: starEach es X.env := by rfl)
    (hpl : ((backTo pos (starEach (e :: es) X.env)).any (·.1) || (backToKw pos (keywordEach kws X.env)).any (·.1.isNone)) = false := by rfl) :
    PE X (.Call (.Name x p) (e :: es) kws pos) (tCallNW n ks.length sp gV W t tk) := by
  refine ⟨fun pins s σ H Q I h => wpAny_Call_Name_kw (ld_glob I hg hm ?_ hdb)⟩
  refine PySem.W.callWith_KW (h₀ := X.base) I.ok.mod.kin hk hall (thn (ha.run pos pins s σ H _ I h) fun us s1 ⟨vs, H1, I1, r, q⟩ => ?_) hpl he
  refine thn (hkw.run pos pins s1 σ H1 _ I1 q.2) fun ws s2 ⟨zs, H2, I2, rz, q2⟩ => ⟨I2.kIn, ?_⟩
  rw [hks]
  exact runWN F hr hb hx I2 r rz q.1 q2.1 q2.2
end
section
variable {K : PySem.W.Frag} {mg : Str → Option Value} {W : WX} {ca ca' : List Addr} {F F' H H' : Hp} {σ : St} {env : Env} {h h' : Hs} {α : Type}
theorem Sim.bare (S : Sim K mg ca F H σ env h) : Sim K mg ca F H [] [] h := S.slots (Nat.le_refl _) fun i d e => by simp at e
theorem Sim.back (S : Sim K mg ca F H σ env h) (L : Later ca F H ca' F' H') (S' : Sim K mg ca' F' H' [] [] h') : Sim K mg ca' F' H' σ env h' := S'.slots S.le fun i d e => by
  obtain ⟨v, e1, r⟩ := S.slot i d e
  exact ⟨v, e1, RepD.mono L.ff L.pre _ _ r⟩
theorem Aft.inner {r : Rs α} {P : α → List Addr → Hp → Hp → Hs → Prop} (S : Sim K mg ca F H σ env h) (x : Aft K mg W ca F H σ env r P) : Aft K mg (fun c d _ H' => W c d σ H') ca F H [] [] r P := by
  cases r with
  | ok a h' => exact fun ca' F' H' L S' => x ca' F' H' L (S.back L S')
  | ex e h' => exact fun cls dd ca' F' H' L S' => x cls dd ca' F' H' L (S.back L S')
  | no => exact x
end
/-- what a def promises: it does what m tells -/
def spM (K : PySem.W.Frag) (mg : Str → Option Value) (n : Nat) (m : Fn) : Sp := fun vs H Q E => vs.length = n ∧ ∃ ca F h ds, Sim K mg ca F H [] [] h ∧ RepDs K mg ca F vs ds ∧
  Aft K mg (fun c d _ H' => E c d H') ca F H [] [] (m ds h) (fun t ca' F' H' _ => ∀ v, RepD K mg ca' F' v t → Q v H')
def eCall (m : Fn) (dds : List D) (a : Av) : Ev := fun env h => (a env h).bind fun ds h1 => m (ds ++ dds) h1
/-- the callee is a value: one of some -/
def eCallV (m : Str → Option Fn) (c : Ev) (a : Av) : Ev := fun env h => (c env h).bind fun d h0 => match d with
  | .fn x => (match m x with
    | some g => (a env h0).bind fun ds h1 => g ds h1
    | none => .no)
  | _ => .no
section
variable {X : Cx} {K : PySem.W.Frag} {mg : Str → Option Value} {W : WX}
theorem snd_call {ta : TA} {av : Av} {m : Fn} {n : Nat} {dvs : List V} {dds : List D} (ha : SndA K mg W ta av) (hn : ∀ env h ts h', av env h = .ok ts h' → ts.length + dvs.length = n) (hd : ∀ ca F, RepDs K mg ca F dvs dds) :
    SndE K mg W (tCallW (spM K mg n m) dvs W ta) (eCall m dds av) := by
  intro ca F H σ env h Q S x
  refine ha ca F H σ env h _ S ((Aft.bind x).mono fun ds ca1 F1 H1 h1 e1 L1 S1 y vs rs => ?_)
  refine ⟨?_, ca1, F1, h1, _, S1.bare, RepDs.append rs (hd ca1 F1), Aft.inner S1 y⟩
  rw [List.length_append, RepDs.length rs]; exact hn _ _ _ _ e1
theorem ee_call {k : Nat} {f : Addr} {fd : FuncData} {ps : List Str} {x : Str} {p pos : Pos} {e : Expr} {es : List Expr} {ta : TA} {av : Av} {m : Fn} {dvs : List V} {ds : List Value} {dds : List D}
    (G : FnG X.prog X.w X.K X.mg X.base k f fd ps (spM X.K X.mg ps.length m)) (hr : RoomG k X.A) (hm : X.mg x = some (.ref f)) (hk : PySem.W.keepIn X.K (.ref f) = true) (hb : Binds X.K fd ps ds) (hd : Vals dvs ds) (hdd : ∀ ca F, RepDs X.K X.mg ca F dvs dds) (hx : Takes X W)
    (ha : EA X W (e :: es) ta av) (hn : (e :: es).length + dvs.length = ps.length := by rfl) (hg : Gl X x := by rfl) (hdb : (x == ("__debug__" : Str)) = false := by decide) (he : starEach (e :: es) X.env = (false, eval e X.env) :: starEach es X.env := by rfl)
    (hpl : (backTo pos (starEach es X.env)).any (·.1) = false := by rfl) : EE X W (.Call (.Name x p) (e :: es) [] pos) (tCallW (spM X.K X.mg ps.length m) dvs W ta) (eCall m dds av) :=
  ⟨peW G hr hg hm hk hb hd hx ha.pa hdb he hpl, snd_call ha.snd (fun env h ts h' q => by rw [ha.len _ _ _ _ q]; exact hn) hdd⟩
theorem ee_call0 {k : Nat} {f : Addr} {fd : FuncData} {ps : List Str} {x : Str} {p pos : Pos} {m : Fn} {dvs : List V} {ds : List Value} {dds : List D}
    (G : FnG X.prog X.w X.K X.mg X.base k f fd ps (spM X.K X.mg ps.length m)) (hr : RoomG k X.A) (hm : X.mg x = some (.ref f)) (hk : PySem.W.keepIn X.K (.ref f) = true) (hb : Binds X.K fd ps ds) (hd : Vals dvs ds) (hdd : ∀ ca F, RepDs X.K X.mg ca F dvs dds) (hx : Takes X W)
    (hn : dvs.length = ps.length := by rfl) (hg : Gl X x := by rfl) (hdb : (x == ("__debug__" : Str)) = false := by decide) : EE X W (.Call (.Name x p) [] [] pos) (tCallW (spM X.K X.mg ps.length m) dvs W tNil) (eCall m dds aNil) :=
  ⟨peW0 G hr hg hm hk hb hd hx hdb, snd_call ea_nil.snd (fun env h ts h' q => by cases q; simpa using hn) hdd⟩
end
end HC
end
section
set_option Elab.async false
set_option linter.all false
set_option maxRecDepth 100000
set_option autoImplicit false
namespace HC
open PySem L2 PyProof.Rows
/-! ### iterators: what comes at a turn, by the heap as it stands -/
inductive Tn where
  | it (d : D) | st | no
abbrev Wk := Hs → Nat → Tn
abbrev Iv := Env → Hs → Rs Wk
abbrev Tg := D → Env → Option Env
/-- so many turns at most -/
def turns : Nat := 65536
def wNone : WX := fun _ _ _ _ => False
section
variable (K : PySem.W.Frag) (mg : Str → Option Value) (W : WX)
def ItY (ca : List Addr) (F G : Hp) (d : D) (x : V) (G' : Hp) : Prop :=
  (G' = G ∧ RepD K mg ca F x d) ∨ ∃ p vs, G p = none ∧ G' = upd G p (.tup vs) ∧ RepD K mg ca (upd F p (.tup vs)) x d
def ItOk (ca : List Addr) (F : Hp) (J : It) (wk : Wk) : Prop := ∀ ca' F' G σ env h i, Pre ca ca' → Sub F F' → Sim K mg ca' F' G σ env h →
  (∀ d, wk h i = .it d → J.go i G ∧ ∀ x G', J.yld i G x G' → ItY K mg ca' F' G d x G') ∧ (wk h i = .st → J.stop i G)
def SndI (wi : TI) (iv : Iv) : Prop := ∀ ca F H σ env h R, Sim K mg ca F H σ env h → Aft K mg W ca F H σ env (iv env h) (fun wk ca' F' H' _ => ∀ J, ItOk K mg ca' F' J wk → R J H') → wi σ H R
def SndG (g : TG) (vs : List Nat) (tg : Tg) : Prop := ∀ ca F H σ env h v d env' Q, Sim K mg ca F H σ env h → RepD K mg ca F v d → tg d env = some env' →
  (∀ σ' : St, Sim K mg ca F H σ' env' h → σ'.length = σ.length → (∀ i, i ∉ vs → σ'[i]? = σ[i]?) → Q σ' H) → g v σ H Q
def SndGs (g : TGs) (vs : List Nat) (tg : List D → Env → Option Env) : Prop := ∀ ca F H σ env h us ds env' Q, Sim K mg ca F H σ env h → RepDs K mg ca F us ds → tg ds env = some env' →
  (∀ σ' : St, Sim K mg ca F H σ' env' h → σ'.length = σ.length → (∀ i, i ∉ vs → σ'[i]? = σ[i]?) → Q σ' H) → g us σ H Q
end
structure EI (X : Cx) (W : WX) (tg iter : Expr) (wi : TI) (iv : Iv) : Prop where
  pi : PI X tg iter wi
  snd : SndI X.K X.mg W wi iv
structure EG (X : Cx) (target : Expr) (g : TG) (vs : List Nat) (tg : Tg) : Prop where
  pg : PG X target g
  snd : SndG X.K X.mg g vs tg
structure EGs (X : Cx) (ts : List Expr) (g : TGs) (vs : List Nat) (tg : List D → Env → Option Env) : Prop where
  pg : PGs X ts g
  snd : SndGs X.K X.mg g vs tg
section
variable {X : Cx} {K : PySem.W.Frag} {mg : Str → Option Value} {W : WX} {ca ca' : List Addr} {F F' H H' : Hp} {σ σ' : St} {env env' : Env} {h h' : Hs}
/-! targets -/
def gN (i : Nat) : Tg := fun d env => some (env.set i (some d))
theorem snd_gN (i : Nat) : SndG K mg (gName i) [i] (gN i) := by
  intro ca F H σ env h v d env' Q S r e k
  cases e
  exact k _ (S.store r) (by simp) fun j hj => List.getElem?_set_ne (by intro z; apply hj; simp [z])
theorem eg_name {i : Nat} {x : Str} {pos : Pos} (hN : X.N.Nodup) (hi : X.N[i]? = some x := by rfl) (hx : Loc X.env.scope x := by first | exact .inl rfl | exact .inr rfl) (hf : X.fn x = true ∨ X.env.scope.names.lookup x = some .local := by first | exact .inl rfl | exact .inr rfl) :
    EG X (.Name x pos) (gName i) [i] (gN i) := ⟨pg_name hN hi hx hf, snd_gN i⟩
def gNilD : List D → Env → Option Env := fun ds env => match ds with
  | [] => some env
  | _ :: _ => none
def gConsD (a : Tg) (r : List D → Env → Option Env) : List D → Env → Option Env := fun ds env => match ds with
  | [] => none
  | d :: ds => match a d env with
    | none => none
    | some env1 => r ds env1
theorem egs_nil : EGs X [] gNil [] gNilD := ⟨pgs_nil, fun ca F H σ env h us ds env' Q S r e k => by
  cases r with
  | nil => cases e; exact ⟨rfl, k σ S rfl fun _ _ => rfl⟩
  | cons _ _ => cases e⟩
theorem egs_cons {e : Expr} {es : List Expr} {g : TG} {gs : TGs} {vs us : List Nat} {tg : Tg} {tgs : List D → Env → Option Env} (h1 : EG X e g vs tg) (h2 : EGs X es gs us tgs)
    (hs : (assignEach (e :: es) X.env).map (·.2) = assign e X.env :: (assignEach es X.env).map (·.2) := by rfl) : EGs X (e :: es) (gCons g gs) (vs ++ us) (gConsD tg tgs) := by
  refine ⟨pgs_cons h1.pg h2.pg hs, ?_⟩
  intro ca F H σ env h ws ds env' Q S r q k
  cases r with
  | nil => cases q
  | @cons v ws d ds r1 r2 =>
    unfold gConsD at q
    simp only at q
    split at q
    · cases q
    · rename_i env1 e1
      refine ⟨v, ws, rfl, h1.snd ca F H σ env h v d env1 _ S r1 e1 fun σ1 S1 l1 o1 => ?_⟩
      refine h2.snd ca F H σ1 env1 h ws ds env' Q S1 r2 q fun σ2 S2 l2 o2 => ?_
      refine k σ2 S2 (l2.trans l1) fun i hi => ?_
      rw [List.mem_append, not_or] at hi
      exact (o2 i hi.2).trans (o1 i hi.1)
def gTpD (tgs : List D → Env → Option Env) : Tg := fun d env => match d with
  | .tup _ ds => tgs ds env
  | _ => none
theorem eg_tup {es : List Expr} {kk : Nat} {pos : Pos} {gs : TGs} {us : List Nat} {tgs : List D → Env → Option Env} {n : Nat} (hc : X.calm = true) (q : EGs X es gs us tgs) (hl : ∀ ds env env', tgs ds env = some env' → ds.length = n)
    (hn : (assignEach es X.env).length = n := by rfl) (hst : (assignEach es X.env).findIdx? (·.1) = none := by rfl) : EG X (.Tuple es kk pos) (gTup X.K n gs) us (gTpD tgs) := by
  refine ⟨pg_tup hc q.pg hn hst, ?_⟩
  intro ca F H σ env h v d env' Q S r e k
  unfold gTpD at e
  cases d with
  | tup _ ds =>
    cases r with
    | tup a l r =>
      refine ⟨_, _, rfl, SqT.mono S.sub a.sq, by rw [RepDs.length r]; exact hl _ _ _ e, ?_⟩
      exact q.snd ca F H σ env h _ _ _ Q S r e k
  | _ => cases e
theorem gConsD_len {n : Nat} {a : Tg} {r : List D → Env → Option Env} (h : ∀ ds env env', r ds env = some env' → ds.length = n) : ∀ ds env env', gConsD a r ds env = some env' → ds.length = n + 1 := fun ds env env' e => by
  cases ds with
  | nil => cases e
  | cons d ds =>
    unfold gConsD at e
    simp only at e
    split at e
    · cases e
    · rw [List.length_cons, h _ _ _ e]
theorem gNilD_len : ∀ ds env env', gNilD ds env = some env' → ds.length = 0 := fun ds env env' e => by
  cases ds with
  | nil => rfl
  | cons d ds => cases e
/-! walks -/
/-- signs of a text -/
def signs (x : Str) : List D := x.cps.toList.map fun c => D.str ⟨#[c]⟩
def wkL (xs : List D) : Wk := fun _ i => match xs[i]? with
  | some d => .it d
  | none => .st
/-- a cell, as it stands -/
def wkC (c : Nat) : Wk := fun h i => match h.get c with
  | some (.lst xs) => (match xs[i]? with
    | some d => .it d
    | none => .st)
  | _ => .no
def wkR (lo : Int) (n : Nat) : Wk := fun _ i => if i < n then .it (.int (lo + (i : Nat))) else .st
def iSeq (a : Ev) : Iv := fun env h => (a env h).bind fun d h1 => match d with
  | .tup _ xs => .ok (wkL xs) h1
  | .rl xs => .ok (wkL xs) h1
  | .str x => .ok (wkL (signs x)) h1
  | .ref c => (match h1.get c with
    | some (.lst _) => .ok (wkC c) h1
    | _ => .no)
  | _ => .no
def wSeq (K : PySem.W.Frag) (tl : TE) : TI := fun σ H R => tl σ H fun x H1 => (∃ a, x = .ref a ∧ (∃ xs, SqL K H1 a xs) ∧ R (Itl K a) H1) ∨ (∃ a, x = .ref a ∧ (∃ xs, SqT K H1 a xs) ∧ R (Itt K a) H1) ∨ ∃ y, x = .str y ∧ R (Its y) H1
theorem pi_seq {tg l : Expr} {tl : TE} (hl : PE X l tl) : PI X tg l (wSeq X.K tl) := by
  refine ⟨fun pins s σ H R I h => ?_⟩
  refine thn (hl.run pins s σ H _ I h) fun v s1 ⟨x, H1, I1, r1, q1⟩ => ?_
  rcases q1 with ⟨a, e, ⟨xs, hq⟩, q⟩ | ⟨a, e, ⟨xs, hq⟩, q⟩ | ⟨y, e, q⟩
  · subst e
    cases r1
    obtain ⟨its, rv, p, hz⟩ := I1.list hq
    refine wpAny_pyIter_list p.isList ?_
    refine ⟨s1.heap.objs.size, [s1.heap.objs.size], _, _, H1, rfl, I1.kept (t' := s1.toks) fun b o e => Heap.get?_push_of_some _ e, turn_list a _, ⟨_, Heap.get?_push_size _ rfl, rfl, rfl⟩, fun b hb => ?_, q⟩
    have e : b = s1.heap.objs.size := by simpa using hb
    subst e
    exact I1.fpOk (Nat.le_refl _) (I1.hok.fresh (Nat.le_refl _))
  · subst e
    cases r1
    obtain ⟨its, rv, p, hz⟩ := I1.tuple hq
    refine wpAny_pyIter_tuple (show s1.heap.IsTuple a its.toArray from p) ?_
    refine ⟨s1.heap.objs.size, [s1.heap.objs.size], _, _, H1, rfl, I1.kept (t' := s1.toks) fun b o e => Heap.get?_push_of_some _ e, turn_tuple a _, ⟨_, Heap.get?_push_size _ rfl, rfl, rfl⟩, fun b hb => ?_, q⟩
    have e : b = s1.heap.objs.size := by simpa using hb
    subst e
    exact I1.fpOk (Nat.le_refl _) (I1.hok.fresh (Nat.le_refl _))
  · subst e
    obtain ⟨t, rfl⟩ := r1
    cases ha : y.cps.all (· < 128)
    · exact wpAny_pyIter_wide ha (pi_one (tk := s1.toks) I1 _ (turn_str _ y t "str_iterator" (.inr rfl)) ⟨_, Heap.get?_push_size _ rfl, rfl, rfl⟩ q)
    · exact wpAny_pyIter_ascii ha (pi_one (tk := s1.toks) I1 _ (turn_str _ y t "str_ascii_iterator" (.inl rfl)) ⟨_, Heap.get?_push_size _ rfl, rfl, rfl⟩ q)
theorem sql_of {G : Hp} {a : Addr} {vs : List V} (e : G a = some (.lst vs)) : SqL K G a vs := .inl (.inl e)
theorem wkL_it {xs : List D} {i : Nat} {d : D} (e : wkL xs h i = .it d) : xs[i]? = some d := by
  unfold wkL at e
  split at e
  · cases e; assumption
  · cases e
theorem wkL_st {xs : List D} {i : Nat} (e : wkL xs h i = .st) : xs.length ≤ i := by
  unfold wkL at e
  split at e
  · cases e
  · exact List.getElem?_eq_none_iff.mp (by assumption)
theorem itOk_list {a : Addr} {vs : List V} {ds : List D} (hq : SqL K F a vs) (r : RepDs K mg ca F vs ds) : ItOk K mg ca F (Itl K a) (wkL ds) := fun ca' F' G σ env h i hc hF S => by
  have hl := RepDs.length r
  have q := SqL.mono S.sub (SqL.mono hF hq)
  refine ⟨fun d hd => ?_, fun hi => ⟨vs, q, by have := wkL_st hi; omega⟩⟩
  obtain ⟨v, e, rd⟩ := RepDs.get r (wkL_it hd)
  refine ⟨⟨vs, v, q, e⟩, fun x G' y => ?_⟩
  obtain ⟨rfl, y⟩ := y
  have q := y vs q
  rw [e] at q
  cases q
  exact .inl ⟨rfl, RepD.mono hF hc _ _ rd⟩
theorem itOk_tup {a : Addr} {vs : List V} {ds : List D} (hq : SqT K F a vs) (r : RepDs K mg ca F vs ds) : ItOk K mg ca F (Itt K a) (wkL ds) := fun ca' F' G σ env h i hc hF S => by
  have hl := RepDs.length r
  have q := SqT.mono S.sub (SqT.mono hF hq)
  refine ⟨fun d hd => ?_, fun hi => ⟨vs, q, by have := wkL_st hi; omega⟩⟩
  obtain ⟨v, e, rd⟩ := RepDs.get r (wkL_it hd)
  refine ⟨⟨vs, v, q, e⟩, fun x G' y => ?_⟩
  obtain ⟨rfl, y⟩ := y
  have q := y vs q
  rw [e] at q
  cases q
  exact .inl ⟨rfl, RepD.mono hF hc _ _ rd⟩
theorem itOk_cell {a : Addr} {c : Nat} (ha : ca[c]? = some a) : ItOk K mg ca F (Itl K a) (wkC c) := fun ca' F' G σ env h i hc hF S => by
  have ha' := hc.get ha
  have key : ∀ xs, h.get c = some (.lst xs) → ∃ vs, G a = some (.lst vs) ∧ RepDs K mg ca' F' vs xs := fun xs e => by
    obtain ⟨b, e1, f, vs, q, l, r⟩ := S.obj c _ e
    rw [ha'] at e1
    cases e1
    exact ⟨vs, q, r⟩
  refine ⟨fun d hd => ?_, fun hi => ?_⟩
  · unfold wkC at hd
    split at hd
    · rename_i xs e
      split at hd
      · rename_i d' e2
        cases hd
        obtain ⟨vs, q, r⟩ := key _ e
        obtain ⟨v, e3, rd⟩ := RepDs.get r e2
        refine ⟨⟨vs, v, sql_of q, e3⟩, fun x G' y => ?_⟩
        obtain ⟨rfl, y⟩ := y
        have q := y vs (sql_of q)
        rw [e3] at q
        cases q
        exact .inl ⟨rfl, rd⟩
      · cases hd
    · cases hd
  · unfold wkC at hi
    split at hi
    · rename_i xs e
      split at hi
      · cases hi
      · rename_i e2
        obtain ⟨vs, q, r⟩ := key _ e
        exact ⟨vs, sql_of q, by rw [RepDs.length r]; exact List.getElem?_eq_none_iff.mp e2⟩
    · cases hi
theorem sign_ok {x : Str} (ho : PyData.strOk x = true) {c : Nat} {i : Nat} (h : x.cps[i]? = some c) : PyData.strOk (⟨#[c]⟩ : Str) = true := by
  unfold PyData.strOk at ho ⊢
  rw [Array.all_eq_true] at ho
  obtain ⟨hi, e⟩ := Array.getElem?_eq_some_iff.mp h
  have q := ho i hi
  rw [e] at q
  simpa using q
theorem itOk_str {x : Str} (ho : PyData.strOk x = true) : ItOk K mg ca F (Its x) (wkL (signs x)) := fun ca' F' G σ env h i hc hF S => by
  refine ⟨fun d hd => ?_, fun hi => ?_⟩
  · have hd := wkL_it hd
    unfold signs at hd
    rw [List.getElem?_map] at hd
    cases e : x.cps.toList[i]? with
    | none => rw [e] at hd; cases hd
    | some c =>
      rw [e] at hd
      cases hd
      have e2 : x.cps[i]? = some c := by rw [← Array.getElem?_toList]; exact e
      refine ⟨(Array.getElem?_eq_some_iff.mp e2).1, fun v G' y => ?_⟩
      obtain ⟨rfl, c', e3, rfl⟩ := y
      rw [e2] at e3
      cases e3
      exact .inl ⟨rfl, .str _ (by show 1 ≤ sizeLine; decide) (sign_ok ho e2)⟩
  · have hi := wkL_st hi
    unfold signs at hi
    rw [List.length_map, Array.length_toList] at hi
    exact hi
theorem snd_seq {ta : TE} {ea : Ev} (ha : SndE K mg W ta ea) : SndI K mg W (wSeq K ta) (iSeq ea) := by
  intro ca F H σ env h R S x
  refine ha ca F H σ env h _ S ((Aft.bind x).mono fun d ca1 F1 H1 h1 _ L1 S1 y v rv => ?_)
  cases d with
  | tup _ ys => cases rv with | tup a l r => exact .inr (.inl ⟨_, rfl, ⟨_, SqT.mono S1.sub a.sq⟩, (Aft.ok (h := h1) y S1) _ (itOk_tup a.sq r)⟩)
  | rl ys => cases rv with | rl a l r => exact .inl ⟨_, rfl, ⟨_, SqL.mono S1.sub a⟩, (Aft.ok (h := h1) y S1) _ (itOk_list a r)⟩
  | str s => cases rv with | str _ l o => exact .inr (.inr ⟨_, rfl, (Aft.ok (h := h1) y S1) _ (itOk_str o)⟩)
  | ref c =>
    cases rv with
    | @ref _ a e =>
      dsimp only at y
      split at y
      · rename_i xs g
        obtain ⟨b, e1, f, vs, q, l, r⟩ := S1.obj c _ g
        rw [e] at e1
        cases e1
        exact .inl ⟨_, rfl, ⟨_, sql_of q⟩, (Aft.ok (h := h1) y S1) _ (itOk_cell e)⟩
      · exact y.elim
  | _ => exact y.elim
theorem ei_seq {tg l : Expr} {tl : TE} {el : Ev} (hl : EE X W l tl el) : EI X W tg l (wSeq X.K tl) (iSeq el) := ⟨pi_seq hl.pe, snd_seq hl.snd⟩
/-! range -/
def iRg1 (a : Av) : Iv := fun env h => (a env h).bind fun ds h1 => match ds with
  | [.int j] => if j ≤ 16777216 ∧ -(2 ^ 62) ≤ j then .ok (wkR 0 j.toNat) h1 else .no
  | _ => .no
def iRg2 (a : Av) : Iv := fun env h => (a env h).bind fun ds h1 => match ds with
  | [.int i, .int j] => if j - i ≤ 16777216 ∧ -(2 ^ 61) ≤ i ∧ i < 2 ^ 61 ∧ -(2 ^ 61) ≤ j then .ok (wkR i (j - i).toNat) h1 else .no
  | _ => .no
theorem itOk_range (lo : Int) (n : Nat) : ItOk K mg ca F (Itr lo n) (wkR lo n) := fun ca' F' G σ env h i hc hF S => by
  unfold wkR
  refine ⟨fun d hd => ?_, fun hd => ?_⟩
  · split at hd
    · rename_i hi
      cases hd
      refine ⟨hi, fun x G' y => ?_⟩
      obtain ⟨rfl, rfl⟩ := y
      exact .inl ⟨rfl, .int _⟩
    · cases hd
  · split at hd
    · cases hd
    · rename_i hi
      exact Nat.le_of_not_lt hi
theorem int_of {v : V} {i : Int} (h : RepD K mg ca F v (.int i)) : v = .int i := by cases h; rfl
theorem snd_rg1 {ta : TA} {av : Av} (ha : SndA K mg W ta av) : SndI K mg W (iRng1 ta) (iRg1 av) := by
  intro ca F H σ env h R S x
  refine ha ca F H σ env h _ S ((Aft.bind x).mono fun ds ca1 F1 H1 h1 hz L1 S1 y vs rs => ?_)
  clear hz
  split at y
  · rename_i j
    split at y
    · rename_i hj
      cases rs with
      | cons r1 r2 =>
        cases r2
        exact ⟨j, by rw [int_of r1], hj.2, by have := hj.1; omega, (Aft.ok (h := h1) y S1) _ (itOk_range 0 _)⟩
    · exact y.elim
  · exact y.elim
theorem ei_rg1 {tg a : Expr} {ta : TA} {av : Av} {p pos : Pos} (hm : X.mg "range" = none) (ha : EA X W [a] ta av) (hg : Gl X "range" := by rfl) (hs : starEach [a] X.env = [(false, eval a X.env)] := by rfl) : EI X W tg (.Call (.Name "range" p) [a] [] pos) (iRng1 ta) (iRg1 av) := ⟨pi_range1 hg hm ha.pa hs, snd_rg1 ha.snd⟩
theorem snd_rg2 {ta : TA} {av : Av} (ha : SndA K mg W ta av) : SndI K mg W (iRng2 ta) (iRg2 av) := by
  intro ca F H σ env h R S x
  refine ha ca F H σ env h _ S ((Aft.bind x).mono fun ds ca1 F1 H1 h1 hz L1 S1 y vs rs => ?_)
  clear hz
  split at y
  · rename_i i j
    split at y
    · rename_i hj
      cases rs with
      | cons r1 r2 =>
        cases r2 with
        | cons r2 r3 =>
          cases r3
          exact ⟨i, j, by rw [int_of r1, int_of r2], by omega, (Aft.ok (h := h1) y S1) _ (itOk_range i _)⟩
    · exact y.elim
  · exact y.elim
theorem ei_rg2 {tg a b : Expr} {ta : TA} {av : Av} {p pos : Pos} (hm : X.mg "range" = none) (ha : EA X W [a, b] ta av) (hg : Gl X "range" := by rfl) (hs : starEach [a, b] X.env = [(false, eval a X.env), (false, eval b X.env)] := by rfl) (hs2 : starEach [b] X.env = [(false, eval b X.env)] := by rfl) :
    EI X W tg (.Call (.Name "range" p) [a, b] [] pos) (iRng2 ta) (iRg2 av) := ⟨pi_range2 hg hm ha.pa hs hs2, snd_rg2 ha.snd⟩
end
end HC
end
section
set_option Elab.async false
set_option linter.all false
set_option maxRecDepth 100000
set_option autoImplicit false
namespace HC
open PySem L2 PyProof.Rows
/-! ### comprehensions: nothing is raised within -/
def wipeE (env : Env) : List Nat → Env
  | [] => env
  | v :: vs => (wipeE env vs).set v none
def compW (wk : Wk) (tg : Tg) (tt : Tv) (el : Ev) (env : Env) : Nat → Nat → Hs → Option (List D × Hs)
  | 0, _, _ => none
  | n + 1, i, h => match wk h i with
    | .st => some ([], h)
    | .no => none
    | .it d => match tg d env with
      | none => none
      | some env1 => match tt env1 h with
        | .ok true h2 => (match el env1 h2 with
          | .ok t h3 => (match compW wk tg tt el env n (i + 1) h3 with
            | some (ts, h4) => some (t :: ts, h4)
            | none => none)
          | _ => none)
        | .ok false h2 => compW wk tg tt el env n (i + 1) h2
        | _ => none
def eComp (own : List Nat) (it : Iv) (tg : Tg) (tt : Tv) (el : Ev) : Ev := fun env h => (it env h).bind fun wk h1 => match compW wk tg tt el (wipeE env own) turns 0 h1 with
  | some (ts, h2) => mk (.lst ts) h2
  | none => .no
theorem wipeE_length (env : Env) : ∀ vs : List Nat, (wipeE env vs).length = env.length
  | [] => rfl
  | v :: vs => by unfold wipeE; rw [List.length_set, wipeE_length env vs]
theorem wipeE_in {env : Env} {i : Nat} {t : D} : ∀ {vs : List Nat}, i ∈ vs → (wipeE env vs)[i]? ≠ some (some t)
  | v :: vs, h => by
    unfold wipeE
    by_cases hv : v = i
    · subst hv
      by_cases hl : v < (wipeE env vs).length
      · rw [List.getElem?_set_self hl]; exact fun z => nomatch z
      · rw [List.getElem?_eq_none (by simpa using hl)]; exact fun z => nomatch z
    · rw [List.getElem?_set_ne hv]
      exact wipeE_in (by
        rcases List.mem_cons.mp h with z | z
        · exact absurd z.symm hv
        · exact z)
theorem wipeE_out {env : Env} {i : Nat} : ∀ {vs : List Nat}, i ∉ vs → (wipeE env vs)[i]? = env[i]?
  | [], _ => rfl
  | v :: vs, h => by
    rw [List.mem_cons, not_or] at h
    unfold wipeE
    rw [List.getElem?_set_ne (Ne.symm h.1)]
    exact wipeE_out h.2
theorem wipe_congr {σ τ : St} {own : List Nat} (hl : τ.length = σ.length) (h : ∀ i, i ∉ own → τ[i]? = σ[i]?) : wipe τ own = wipe σ own := by
  apply List.ext_getElem?
  intro i
  by_cases hi : i ∈ own
  · have key : ∀ ρ : St, (wipe ρ own)[i]? = if i < ρ.length then some none else none := fun ρ => by
      cases q : (wipe ρ own)[i]? with
      | none =>
        have := List.getElem?_eq_none_iff.mp q
        rw [wipe_length] at this
        rw [if_neg (by omega)]
      | some o =>
        have := (List.getElem?_eq_some_iff.mp q).1
        rw [wipe_length] at this
        rw [if_pos this]
        cases o with
        | none => rfl
        | some x => exact absurd hi (wipe_some q).2
    rw [key, key, hl]
  · rw [wipe_out hi, wipe_out hi, h i hi]
section
variable {X : Cx} {K : PySem.W.Frag} {mg : Str → Option Value} {W : WX} {ca ca' : List Addr} {F F' H H' : Hp} {σ σ' : St} {env env' : Env} {h h' : Hs}
theorem Sim.wipe (S : Sim K mg ca F H σ env h) (own : List Nat) : Sim K mg ca F H (L2.wipe σ own) (wipeE env own) h := S.slots (by rw [wipeE_length, wipe_length]; exact S.le) fun i d e => by
  by_cases hi : i ∈ own
  · exact absurd e (wipeE_in hi)
  · rw [wipeE_out hi] at e
    obtain ⟨v, e1, r⟩ := S.slot i d e
    exact ⟨v, by rw [wipe_out hi]; exact e1, r⟩
/-- what a turn begins with: the item has come -/
theorem ItY.sim {d : D} {x : V} {G G' : Hp} (y : ItY K mg ca F G d x G') (S : Sim K mg ca F G σ env h) : ∃ F', Later ca F G ca F' G' ∧ Sim K mg ca F' G' σ env h ∧ RepD K mg ca F' x d := by
  rcases y with ⟨rfl, r⟩ | ⟨p, vs, hp, rfl, r⟩
  · exact ⟨F, .refl, S, r⟩
  · obtain ⟨S', L'⟩ := S.tup (o := .tup vs) hp
    exact ⟨_, L', S', r⟩
theorem Sim.backTo (S : Sim K mg ca F H σ env h) (hp : Pre ca ca') (hF : Sub F F') (S' : Sim K mg ca' F' H' σ' env' h') : Sim K mg ca' F' H' σ env h' := S'.slots S.le fun i d e => by
  obtain ⟨v, e1, r⟩ := S.slot i d e
  exact ⟨v, e1, RepD.mono hF hp _ _ r⟩
theorem Aft.get {α : Type} {r : Rs α} {P : α → List Addr → Hp → Hp → Hs → Prop} {a : α} {h1 : Hs} (e : r = .ok a h1) (x : ∀ ca' F' H', Later ca F H ca' F' H' → Sim K mg ca' F' H' σ env h1 → P a ca' F' H' h1) : Aft K mg W ca F H σ env r P := by
  rw [e]; exact x
theorem RepDs.snoc : ∀ {ds : List D} {vs : List V} {d : D} {v : V}, RepDs K mg ca F vs ds → RepD K mg ca F v d → RepDs K mg ca F (vs ++ [v]) (ds ++ [d]) := fun r1 r2 => RepDs.append r1 (.cons r2 .nil)
/-- a place that is told of nowhere is written -/
theorem Sim.poke {D : Addr} {o : HO} (S : Sim K mg ca F H σ env h) (hF : F D = none) (hc : D ∉ ca) : Sim K mg ca F (upd H D o) σ env h :=
  S.away (fun a u e => by rw [upd_ne (ne_of_none e hF)]; exact S.sub a u e) fun a ha => upd_ne fun z => hc (z ▸ ha)
theorem turns_le : turns ≤ sizeLine := by decide
theorem snd_comp {wi : TI} {it : Iv} {g : TG} {vs own : List Nat} {tg : Tg} {tt : TT} {tv : Tv} {te : TE} {el : Ev} (hi : SndI K mg W wi it) (hg : SndG K mg g vs tg) (hv : ∀ i ∈ vs, i ∈ own) (ht : SndT K mg wNone tt tv) (he : SndE K mg wNone te el) :
    SndE K mg W (tLc wi g tt te own) (eComp own it tg tv el) := by
  intro ca F H σ env h Q S x
  refine hi ca F H σ env h _ S ((Aft.bind x).mono fun wk ca1 F1 H1 h1 _ L1 S1 y J ok => ?_)
  cases hc0 : compW wk tg tv el (wipeE env own) turns 0 h1 with
  | none => rw [hc0] at y; exact y.elim
  | some z =>
    obtain ⟨ts, hz⟩ := z
    rw [hc0] at y
    intro D hD
    have hDF : F1 D = none := S1.sub.none hD
    refine ⟨fun i m G => m + i = turns ∧ ∃ (ca2 : List Addr) (F2 : Hp) (h2 : Hs) (acc : List V) (done rest : List HC.D), Later ca1 F1 H1 ca2 F2 G ∧ Sim K mg ca2 F2 G (L2.wipe σ own) (wipeE env own) h2 ∧
      D ∉ ca2 ∧ F2 D = none ∧ G D = some (.lst acc) ∧ acc.length ≤ i ∧ RepDs K mg ca2 F2 acc done ∧ compW wk tg tv el (wipeE env own) m i h2 = some (rest, hz) ∧ ts = done ++ rest, ⟨turns, rfl, ca1, F1, h1, [], [], ts, ?_⟩, ?_⟩
    · obtain ⟨S2, L2⟩ := S1.laid (o := .lst []) hD
      exact ⟨L2, S2.wipe own, S1.fresh hD, hDF, upd_same, Nat.le_refl _, .nil, hc0, rfl⟩
    · rintro i m G ⟨hm, ca2, F2, h2, acc, done, rest, st2, S2, nD, fD, eD, lD, rD, hc, hts⟩
      cases m with
      | zero => unfold compW at hc; cases hc
      | succ m =>
        obtain ⟨okI, okS⟩ := ok ca2 F2 G _ _ h2 i st2.pre st2.ff S2
        unfold compW at hc
        split at hc
        · -- the end
          rename_i e
          have hh : rest = [] ∧ hz = h2 := by cases hc; exact ⟨rfl, rfl⟩
          rw [hh.1, List.append_nil] at hts
          rw [hh.2] at y
          subst hts
          refine .inl ⟨okS e, ?_⟩
          have S3 := S1.backTo st2.pre st2.ff S2
          have hl : acc.length ≤ sizeLine := Nat.le_trans lD (Nat.le_trans (by omega) turns_le)
          dsimp only [mk] at y
          by_cases hr : h2.sz < room
          · rw [if_pos hr] at y
            have S4 := S3.cell (o := .lst ts) nD fD hr ⟨acc, eD, hl, rD⟩
            refine y (ca2 ++ [D]) F2 G ⟨st2.pre.trans (.snoc _ _), st2.ff, fun a u e n f xx => ?_, st2.alive⟩ S4 _ (.ref ?_)
            · obtain ⟨e1, n1, f1⟩ := st2.ext a u e n f xx
              refine ⟨e1, fun z => ?_, f1⟩
              rcases List.mem_append.mp z with z | z
              · exact n1 z
              · rw [List.mem_singleton.mp z, hD] at e; cases e
            · rw [← S2.len]; simp
          · rw [if_neg hr] at y; exact y.elim
        · cases hc
        · rename_i d e
          obtain ⟨go, yl⟩ := okI d e
          refine .inr ⟨go, fun G' => ∃ (ca2 : List Addr) (F2 : Hp) (h2 : Hs) (acc : List V) (done rest : List HC.D), Later ca1 F1 H1 ca2 F2 G' ∧ Sim K mg ca2 F2 G' (L2.wipe σ own) (wipeE env own) h2 ∧
            D ∉ ca2 ∧ F2 D = none ∧ G' D = some (.lst acc) ∧ acc.length ≤ i + 1 ∧ RepDs K mg ca2 F2 acc done ∧ compW wk tg tv el (wipeE env own) m (i + 1) h2 = some (rest, hz) ∧ ts = done ++ rest, fun G' q => ⟨m, by omega, by omega, q⟩, fun x G' yy => ?_⟩
          obtain ⟨F3, L3, S3, rx⟩ := ItY.sim (yl x G' yy) S2
          obtain ⟨eD3, nD3, fD3⟩ := L3.ext D _ eD nD fD (fun _ z => nomatch z)
          split at hc
          · cases hc
          · rename_i env1 ea1
            refine hg ca2 F3 G' _ _ h2 x d env1 _ S3 rx ea1 fun σ4 S4 l4 o4 => ?_
            have hw : L2.wipe σ4 own = L2.wipe σ own := by
              have e1 : L2.wipe σ4 own = L2.wipe (L2.wipe σ own) own := wipe_congr l4 fun j hj => o4 j fun z => hj (hv j z)
              have e2 : L2.wipe (L2.wipe σ own) own = L2.wipe σ own := wipe_congr (wipe_length _ _) fun j hj => wipe_out hj
              exact e1.trans e2
            refine ⟨hw, ?_⟩
            split at hc
            · rename_i h5 et
              refine ht ca2 F3 G' σ4 env1 h2 _ S4 (Aft.get et fun ca5 F5 H5 L5 S5 => ?_)
              obtain ⟨eD5, nD5, fD5⟩ := L5.ext D _ eD3 nD3 fD3 (fun _ z => nomatch z)
              rw [if_pos rfl]
              split at hc
              · rename_i t h6 ee
                split at hc
                · rename_i ts3 h7 ec
                  cases hc
                  refine he ca5 F5 H5 σ4 env1 h5 _ S5 (Aft.get ee fun ca6 F6 H6 L6 S6 => fun v rv => ?_)
                  obtain ⟨eD6, nD6, fD6⟩ := L6.ext D _ eD5 nD5 fD5 (fun _ z => nomatch z)
                  have L36 := (L3.trans L5).trans L6
                  refine ⟨acc, eD6, Nat.lt_of_lt_of_le (by omega : acc.length < turns) turns_le, ca6, F6, h6, acc ++ [v], done ++ [t], ts3, ?_, ?_, nD6, fD6, upd_same, by rw [List.length_append, List.length_singleton]; omega, RepDs.snoc (RepDs.mono L36.ff L36.pre _ _ rD) rv, ec, by rw [hts, List.append_assoc]; rfl⟩
                  · have L := st2.trans L36
                    exact ⟨L.pre, L.ff, fun a u e n f xx => by
                      obtain ⟨e1, n1, f1⟩ := L.ext a u e n f xx
                      exact ⟨by rw [upd_ne (ne_of_none e hD)]; exact e1, n1, f1⟩, fun a u e => by
                      obtain ⟨u', e'⟩ := L.alive a u e
                      exact ⟨u', by rw [upd_ne (ne_of_none e hD)]; exact e'⟩⟩
                  · have S7 := S2.backTo L36.pre L36.ff S6
                    exact S7.poke fD6 nD6
                · cases hc
              · cases hc
            · rename_i h5 et
              refine ht ca2 F3 G' σ4 env1 h2 _ S4 (Aft.get et fun ca5 F5 H5 L5 S5 => ?_)
              obtain ⟨eD5, nD5, fD5⟩ := L5.ext D _ eD3 nD3 fD3 (fun _ z => nomatch z)
              rw [if_neg Bool.false_ne_true]
              have L35 := L3.trans L5
              exact ⟨ca5, F5, h5, acc, done, rest, st2.trans L35, S2.backTo L35.pre L35.ff S5, nD5, fD5, eD5, by omega, RepDs.mono L35.ff L35.pre _ _ rD, hc, hts⟩
            · cases hc
end
/-! ### blocks -/
structure ETs (X : Cx) (W : WX) (ifs : List Expr) (tt : TT) (tv : Tv) : Prop where
  pt : PTs X ifs tt
  snd : SndT X.K X.mg W tt tv
def tTrue : Tv := fun env h => .ok true h
section
variable {X : Cx} {K : PySem.W.Frag} {mg : Str → Option Value} {W : WX}
theorem ets_nil : ETs X W [] tYes tTrue := ⟨pts_nil, fun ca F H σ env h Q S x => Aft.ok (h := h) x S⟩
theorem ets_one {c : Expr} {tt : TT} {tv : Tv} (h : ET X W c tt tv) : ETs X W [c] tt tv := ⟨pts_one h.pt, h.snd⟩
abbrev Blk (α : Type) : Type := Shared → Hp → Addr → List (Str × Addr) → List Addr → α
def teA (te : Blk TE) : TE := fun σ H Q => ∀ s H0 C cl fp, te s H0 C cl fp σ H Q
def ttA (te : Blk TT) : TT := fun σ H Q => ∀ s H0 C cl fp, te s H0 C cl fp σ H Q
def tgA (te : Blk TG) : TG := fun v σ H Q => ∀ s H0 C cl fp, te s H0 C cl fp v σ H Q
def tiA (te : Blk TI) : TI := fun σ H Q => ∀ s H0 C cl fp, te s H0 C cl fp σ H Q
section
variable {scope : Scope} {env : PySem.Env} {e tg iter : Expr} {ifs : List Expr} {vs : List Nat} {tgf : Tg} {tv : Tv} {el : Ev} {it : Iv}
theorem teA_snd {te : Blk TE} (h : ∀ s H C cl fp, SndE K mg W (te s H C cl fp) el) : SndE K mg W (teA te) el := fun ca F H σ env hh Q S x s H0 C cl fp2 => h s H0 C cl fp2 ca F H σ env hh Q S x
theorem ttA_snd {te : Blk TT} (h : ∀ s H C cl fp, SndT K mg W (te s H C cl fp) tv) : SndT K mg W (ttA te) tv := fun ca F H σ env hh Q S x s H0 C cl fp2 => h s H0 C cl fp2 ca F H σ env hh Q S x
theorem tiA_snd {te : Blk TI} (h : ∀ s H C cl fp, SndI K mg W (te s H C cl fp) it) : SndI K mg W (tiA te) it := fun ca F H σ env hh Q S x s H0 C cl fp2 => h s H0 C cl fp2 ca F H σ env hh Q S x
theorem tgA_snd {te : Blk TG} (h : ∀ s H C cl fp, SndG K mg (te s H C cl fp) vs tgf) : SndG K mg (tgA te) vs tgf := fun ca F H σ env hh v d env' Q S r e k s H0 C cl fp2 => h s H0 C cl fp2 ca F H σ env hh v d env' Q S r e k
variable {Z : Blk Cx}
theorem teA_pe {te : Blk TE} (h : ∀ s H C cl fp, PE (Z s H C cl fp) e (te s H C cl fp)) : ∀ s H C cl fp, PE (Z s H C cl fp) e (teA te) := fun s0 H0 C cl fp => ⟨fun pins s σ H Q I q => (h s0 H0 C cl fp).run pins s σ H Q I (q s0 H0 C cl fp)⟩
theorem ttA_pt {te : Blk TT} (h : ∀ s H C cl fp, PTs (Z s H C cl fp) ifs (te s H C cl fp)) : ∀ s H C cl fp, PTs (Z s H C cl fp) ifs (ttA te) := fun s0 H0 C cl fp => ⟨fun pins s σ H Q I q => (h s0 H0 C cl fp).run pins s σ H Q I (q s0 H0 C cl fp)⟩
theorem tgA_pg {te : Blk TG} (h : ∀ s H C cl fp, PG (Z s H C cl fp) tg (te s H C cl fp)) : ∀ s H C cl fp, PG (Z s H C cl fp) tg (tgA te) := fun s0 H0 C cl fp => ⟨fun pins s σ H v u Q I r q => (h s0 H0 C cl fp).run pins s σ H v u Q I r (q s0 H0 C cl fp)⟩
theorem tiA_pi {te : Blk TI} (h : ∀ s H C cl fp, PI (Z s H C cl fp) tg iter (te s H C cl fp)) : ∀ s H C cl fp, PI (Z s H C cl fp) tg iter (tiA te) := fun s0 H0 C cl fp => ⟨fun pins s σ H Q I q => (h s0 H0 C cl fp).run pins s σ H Q I (q s0 H0 C cl fp)⟩
end
/-- no exception leaves a block -/
theorem takes_none : Takes X wNone := fun u s' ⟨_, _, _, _, _, _, _, _, _, _, _, _, _, _, _, _, w⟩ => w.elim
theorem ee_comp {elt tg iter : Expr} {ifs : List Expr} {scope : Scope} {own : List (Str × Nat)} {pos : Pos} {wi : TI} {it : Iv} {g : Blk TG} {vs : List Nat} {tgf : Tg} {tt : Blk TT} {tv : Tv} {te : Blk TE} {el : Ev} (hc : X.calm = true) (hN : X.N.Nodup) (hi : EI X W tg iter wi it) (ok : BlkOk X.N X.env.scope scope own)
    (hg : ∀ (s : Shared) (H : Hp) (C : Addr) (cl : List (Str × Addr)) (fp : List Addr), EG (X.blk s H scope (compEnvC scope cl C X.env) fp) tg (g s H C cl fp) vs tgf) (ht : ∀ (s : Shared) (H : Hp) (C : Addr) (cl : List (Str × Addr)) (fp : List Addr), ETs (X.blk s H scope (compEnvC scope cl C X.env) fp) wNone ifs (tt s H C cl fp) tv)
    (he : ∀ (s : Shared) (H : Hp) (C : Addr) (cl : List (Str × Addr)) (fp : List Addr), EE (X.blk s H scope (compEnvC scope cl C X.env) fp) wNone elt (te s H C cl fp) el) (hv : ∀ i ∈ vs, i ∈ own.map (·.2) := by decide) (hs : ∀ x, foldedSetIterable iter X.env x = pure x := by intro _; rfl) :
    EE X W (.ListComp elt [⟨tg, iter, ifs, 0⟩] scope pos) (tLc wi (tgA g) (ttA tt) (teA te) (own.map (·.2))) (eComp (own.map (·.2)) it tgf tv el) :=
  ⟨pe_lc hc hN hi.pi ok (tgA_pg (Z := fun s H C cl fp => X.blk s H scope (compEnvC scope cl C X.env) fp) fun s H C cl fp => (hg s H C cl fp).pg) (ttA_pt (Z := fun s H C cl fp => X.blk s H scope (compEnvC scope cl C X.env) fp) fun s H C cl fp => (ht s H C cl fp).pt) (teA_pe (Z := fun s H C cl fp => X.blk s H scope (compEnvC scope cl C X.env) fp) fun s H C cl fp => (he s H C cl fp).pe) hs,
    snd_comp hi.snd (tgA_snd fun s H C cl fp => (hg s H C cl fp).snd) hv (ttA_snd fun s H C cl fp => (ht s H C cl fp).snd) (teA_snd fun s H C cl fp => (he s H C cl fp).snd)⟩
end
end HC
end
section
set_option Elab.async false
set_option linter.all false
set_option maxRecDepth 100000
set_option autoImplicit false
namespace HC
open PySem PySem.Spec L2 PyProof.Rows
/-! ### statements -/
def sOf {α : Type} (r : Rs α) (env : Env) (k : α → Hs → Option (Out × Env × Hs)) : Option (Out × Env × Hs) := match r with
  | .ok a h => k a h
  | .ex x h => some (.xc x, env, h)
  | .no => none
section
variable (K : PySem.W.Frag) (mg : Str → Option Value) (W : WX)
def KO (ca : List Addr) (F H : Hp) (σ : St) (o : Out) (D : Ends) : Prop := match o with
  | .nx => D.nx σ H
  | .bk => D.bk σ H
  | .ct => D.ct σ H
  | .rt d => ∀ v, RepD K mg ca F v d → D.rt v H
  | .xc x => ∀ cls dd, RepX K mg ca F H x cls dd → W cls dd σ H
def KS (ca : List Addr) (F H : Hp) (o : Out) (env' : Env) (h' : Hs) (D : Ends) : Prop :=
  ∀ (σ' : St) (ca' : List Addr) (F' H' : Hp), Later ca F H ca' F' H' → Sim K mg ca' F' H' σ' env' h' → KO K mg W ca' F' H' σ' o D
def SndS (ts : TS) (sv : Sv) : Prop := ∀ ca F H σ env h o env' h' D, Sim K mg ca F H σ env h → sv env h = some (o, env', h') → KS K mg W ca F H o env' h' D → ts D σ H
end
structure ES (X : Cx) (W : WX) (st : Stmt) (ts : TS) (sv : Sv) : Prop where
  ps : PS X st ts
  snd : SndS X.K X.mg W ts sv
structure ESs (X : Cx) (W : WX) (sts : List Stmt) (ts : TS) (sv : Sv) : Prop where
  ps : PSs X sts ts
  snd : SndS X.K X.mg W ts sv
def sAsg (e : Ev) (tg : Tg) : Sv := fun env h => sOf (e env h) env fun d h1 => match tg d env with
  | none => none
  | some env2 => some (.nx, env2, h1)
def sDrop (e : Ev) : Sv := fun env h => sOf (e env h) env fun _ h1 => some (.nx, env, h1)
def sRet (e : Ev) : Sv := fun env h => sOf (e env h) env fun d h1 => some (.rt d, env, h1)
def sRetN : Sv := fun env h => some (.rt .non, env, h)
def sNext : Sv := fun env h => some (.nx, env, h)
def sBrk : Sv := fun env h => some (.bk, env, h)
def sCnt : Sv := fun env h => some (.ct, env, h)
def sSeq (a b : Sv) : Sv := fun env h => match a env h with
  | none => none
  | some (.nx, env1, h1) => b env1 h1
  | some (o, env1, h1) => some (o, env1, h1)
def sIf (c : Tv) (a b : Sv) : Sv := fun env h => sOf (c env h) env fun k h1 => if k = true then a env h1 else b env h1
def sNever : Sv := fun _ _ => none
def forW (wk : Wk) (tg : Tg) (b : Sv) : Nat → Nat → Env → Hs → Option (Out × Env × Hs)
  | 0, _, _, _ => none
  | n + 1, i, env, h => match wk h i with
    | .st => some (.nx, env, h)
    | .no => none
    | .it d => match tg d env with
      | none => none
      | some env1 => match b env1 h with
        | none => none
        | some (.nx, env2, h2) => forW wk tg b n (i + 1) env2 h2
        | some (.ct, env2, h2) => forW wk tg b n (i + 1) env2 h2
        | some (.bk, env2, h2) => some (.nx, env2, h2)
        | some (.rt t, env2, h2) => some (.rt t, env2, h2)
        | some (.xc x, env2, h2) => some (.xc x, env2, h2)
def sFor (it : Iv) (tg : Tg) (b : Sv) : Sv := fun env h => sOf (it env h) env fun wk h1 => forW wk tg b turns 0 env h1
def whileL (c : Tv) (b : Sv) : Nat → Env → Hs → Option (Out × Env × Hs)
  | 0, _, _ => none
  | n + 1, env, h => sOf (c env h) env fun k h1 => if k = true then (match b env h1 with
        | none => none
        | some (.nx, env2, h2) => whileL c b n env2 h2
        | some (.ct, env2, h2) => whileL c b n env2 h2
        | some (.bk, env2, h2) => some (.nx, env2, h2)
        | some (.rt t, env2, h2) => some (.rt t, env2, h2)
        | some (.xc x, env2, h2) => some (.xc x, env2, h2))
      else some (.nx, env, h1)
/-- while, so many turns at most -/
def sWhile (n : Nat) (c : Tv) (b : Sv) : Sv := fun env h => whileL c b n env h
def sPar (i j : Nat) (a : Av) : Sv := fun env h => sOf (a env h) env fun ds h1 => match ds with
  | [t, u] => some (.nx, (env.set i (some t)).set j (some u), h1)
  | _ => none
def sPar3 (i j l : Nat) (a : Av) : Sv := fun env h => sOf (a env h) env fun ds h1 => match ds with
  | [t, u, v] => some (.nx, ((env.set i (some t)).set j (some u)).set l (some v), h1)
  | _ => none
section
variable {X : Cx} {K : PySem.W.Frag} {mg : Str → Option Value} {W : WX} {ca ca' : List Addr} {F F' H H' : Hp} {σ σ' : St} {env env' : Env} {h h' : Hs} {α : Type}
theorem KS.trans {o : Out} {D : Ends} (k : KS K mg W ca F H o env' h' D) (L : Later ca F H ca' F' H') : KS K mg W ca' F' H' o env' h' D := fun σ' ca2 F2 H2 L2 S2 => k σ' ca2 F2 H2 (L.trans L2) S2
theorem KO.nx_of {D D' : Ends} {o : Out} (k : KO K mg W ca F H σ o D) (ho : o ≠ .nx) (hr : D'.rt = D.rt) (hb : D'.bk = D.bk) (hc : D'.ct = D.ct) : KO K mg W ca F H σ o D' := by
  cases o with
  | nx => exact absurd rfl ho
  | bk => unfold KO; rw [hb]; exact k
  | ct => unfold KO; rw [hc]; exact k
  | rt t => unfold KO; rw [hr]; exact k
  | xc x => exact k
theorem KS.nx_of {D D' : Ends} {o : Out} (k : KS K mg W ca F H o env h D) (ho : o ≠ .nx) (hr : D'.rt = D.rt) (hb : D'.bk = D.bk) (hc : D'.ct = D.ct) : KS K mg W ca F H o env h D' := fun σ' ca' F' H' L S => KO.nx_of (k σ' ca' F' H' L S) ho hr hb hc
/-- an expression within a statement -/
theorem aft_of {r : Rs α} {k : α → Hs → Option (Out × Env × Hs)} {o : Out} {D : Ends} {P : α → List Addr → Hp → Hp → Hs → Prop} (q : sOf r env k = some (o, env', h')) (kk : KS K mg W ca F H o env' h' D)
    (x : ∀ a h1, k a h1 = some (o, env', h') → ∀ ca1 F1 H1, Later ca F H ca1 F1 H1 → Sim K mg ca1 F1 H1 σ env h1 → KS K mg W ca1 F1 H1 o env' h' D → P a ca1 F1 H1 h1) : Aft K mg W ca F H σ env r P := by
  cases r with
  | ok a h1 => exact fun ca1 F1 H1 L S => x a h1 q ca1 F1 H1 L S (kk.trans L)
  | ex e h1 =>
    unfold sOf at q
    cases q
    exact fun cls dd ca1 F1 H1 L S rx => kk σ ca1 F1 H1 L S cls dd rx
  | no => unfold sOf at q; cases q
variable {te : TE} {ev : Ev} {e : Expr} {pos : Pos} {st : Stmt} {sts : List Stmt} {ts us : TS} {sv uv : Sv} {tt : TT} {tv : Tv}
theorem snd_asg {g : TG} {vs : List Nat} {tg : Tg} (he : SndE K mg W te ev) (hg : SndG K mg g vs tg) : SndS K mg W (tAsg te g) (sAsg ev tg) := by
  intro ca F H σ env h o env' h' D S q k
  refine he ca F H σ env h _ S (aft_of q k fun d h1 q1 ca1 F1 H1 L1 S1 k1 v rv => ?_)
  split at q1
  · cases q1
  · rename_i env2 h2
    cases q1
    exact hg ca1 F1 H1 σ env _ v d _ _ S1 rv h2 fun σ' S' _ _ => k1 σ' ca1 F1 H1 .refl S'
theorem es_set {i : Nat} {x : Str} {pos' : Pos} (hN : X.N.Nodup) (he : EE X W e te ev) (hi : X.N[i]? = some x := by rfl) (hx : Loc X.env.scope x := by first | exact .inl rfl | exact .inr rfl) (hs : swapsWith e (some (.Name x pos')) pos.line X.env = pure false := by rfl) (hf : X.fn x = true ∨ X.env.scope.names.lookup x = some .local := by first | exact .inl rfl | exact .inr rfl) :
    ES X W (.Assign [.Name x pos'] e pos) (tAsg te (gName i)) (sAsg ev (gN i)) := ⟨ps_set hN hi hx he.pe hs hf, snd_asg he.snd (snd_gN i)⟩
theorem es_asg {tg : Expr} {g : TG} {vs : List Nat} {tgf : Tg} (he : EE X W e te ev) (hg : EG X tg g vs tgf) (hs : swapsWithSole [tg] e pos.line X.env = pure false := by rfl) (hw : swappedStores [tg] e X.env = pure none := by rfl)
    (h1 : (assignEach [tg] X.env).map (·.2) = [assign tg X.env] := by rfl) : ES X W (.Assign [tg] e pos) (tAsg te g) (sAsg ev tgf) := ⟨ps_asg he.pe hg.pg hs hw h1, snd_asg he.snd hg.snd⟩
theorem snd_drop (he : SndE K mg W te ev) : SndS K mg W (tDrop te) (sDrop ev) := by
  intro ca F H σ env h o env' h' D S q k
  exact he ca F H σ env h _ S (aft_of q k fun d h1 q1 ca1 F1 H1 L1 S1 k1 v rv => by cases q1; exact k1 σ ca1 F1 H1 .refl S1)
theorem es_expr (he : EE X W e te ev) (hs : swapsWith e none pos.line X.env = pure false := by rfl) : ES X W (.Expr e pos) (tDrop te) (sDrop ev) := ⟨ps_expr he.pe hs, snd_drop he.snd⟩
theorem snd_ret (he : SndE K mg W te ev) : SndS K mg W (tRet te) (sRet ev) := by
  intro ca F H σ env h o env' h' D S q k
  exact he ca F H σ env h _ S (aft_of q k fun d h1 q1 ca1 F1 H1 L1 S1 k1 v rv => by cases q1; exact k1 σ ca1 F1 H1 .refl S1 v rv)
theorem es_ret (he : EE X W e te ev) : ES X W (.Return (some e) pos) (tRet te) (sRet ev) := ⟨ps_ret he.pe, snd_ret he.snd⟩
theorem es_retN : ES X W (.Return none pos) tRetN sRetN := ⟨ps_retN, fun ca F H σ env h o env' h' D S q k => by
  cases q
  exact k σ ca F H .refl S .non .non⟩
theorem snd_if (hc : SndT K mg W tt tv) (ha : SndS K mg W ts sv) (hb : SndS K mg W us uv) : SndS K mg W (tIfS tt ts us) (sIf tv sv uv) := by
  intro ca F H σ env h o env' h' D S q k
  refine hc ca F H σ env h _ S (aft_of q k fun b h1 q1 ca1 F1 H1 L1 S1 k1 => ?_)
  cases b with
  | true => exact ha ca1 F1 H1 σ env h1 o env' h' D S1 q1 k1
  | false => exact hb ca1 F1 H1 σ env h1 o env' h' D S1 q1 k1
theorem es_if {c : Expr} {a b : List Stmt} (hc : ET X W c tt tv) (ha : ESs X W a ts sv) (hb : ESs X W b us uv) : ES X W (.If c a b pos) (tIfS tt ts us) (sIf tv sv uv) := ⟨ps_if hc.pt ha.ps hb.ps, snd_if hc.snd ha.snd hb.snd⟩
theorem snd_next : SndS K mg W tNext sNext := fun ca F H σ env h o env' h' D S q k => by
  cases q
  exact k σ ca F H .refl S
theorem ess_nil : ESs X W [] tNext sNext := ⟨pss_nil, snd_next⟩
theorem es_pass : ES X W (.Pass pos) tNext sNext := ⟨ps_pass, snd_next⟩
theorem es_doc {x j pos'} : ES X W (.Expr (.Constant (.str x) j pos) pos') tNext sNext := ⟨ps_doc, snd_next⟩
theorem es_break : ES X W (.Break pos) tBreak sBrk := ⟨ps_break, fun ca F H σ env h o env' h' D S q k => by cases q; exact k σ ca F H .refl S⟩
theorem es_continue : ES X W (.Continue pos) tCont sCnt := ⟨ps_continue, fun ca F H σ env h o env' h' D S q k => by cases q; exact k σ ca F H .refl S⟩
theorem es_never : ES X W st tNever sNever := ⟨ps_never, fun ca F H σ env h o env' h' D S q k => nomatch q⟩
theorem ess_never : ESs X W sts tNever sNever := ⟨pss_never, fun ca F H σ env h o env' h' D S q k => nomatch q⟩
theorem ess_one (h : ES X W st ts sv) : ESs X W [st] ts sv := ⟨pss_one h.ps, h.snd⟩
theorem ess_cons (h1 : ES X W st ts sv) (h2 : ESs X W sts us uv) : ESs X W (st :: sts) (tSeq ts us) (sSeq sv uv) := by
  refine ⟨pss_cons h1.ps h2.ps, ?_⟩
  intro ca F H σ env h o env' h' D S q k
  unfold sSeq at q
  split at q
  · cases q
  · rename_i env1 hh1 e1
    refine h1.snd ca F H σ env h .nx env1 hh1 _ S e1 ?_
    intro σ1 ca1 F1 H1 L1 S1
    exact h2.snd ca1 F1 H1 σ1 env1 hh1 o env' h' D S1 q (KS.trans k L1)
  · rename_i o1 env1 hh1 hn e1
    cases q
    refine h1.snd ca F H σ env h o env' h' _ S e1 (KS.nx_of k ?_ rfl rfl rfl)
    exact fun z => by first | exact hn z | exact hn _ _ z | exact hn _ _ (by rw [z])
theorem snd_for {wi : TI} {it : Iv} {g : TG} {vs : List Nat} {tg : Tg} (hi : SndI K mg W wi it) (hg : SndG K mg g vs tg) (hb : SndS K mg W ts sv) : SndS K mg W (tFor wi g ts) (sFor it tg sv) := by
  intro ca F H σ env h o env' h' D S q k
  refine hi ca F H σ env h _ S (aft_of q k fun wk h1 q1 ca1 F1 H1 L1 S1 k1 J ok => ?_)
  let V : Nat → Nat → St → Hp → Prop := fun i m τ G => m + i = turns ∧ ∃ (ca2 : List Addr) (F2 : Hp) (envi : Env) (hi : Hs), Later ca1 F1 H1 ca2 F2 G ∧ Sim K mg ca2 F2 G τ envi hi ∧ forW wk tg sv m i envi hi = some (o, env', h')
  refine ⟨V, ⟨turns, rfl, ca1, F1, env, h1, .refl, S1, q1⟩, ?_⟩
  rintro i m τ G ⟨hm, ca2, F2, envi, hi2, L2, S2, hf⟩
  cases m with
  | zero => unfold forW at hf; cases hf
  | succ m =>
    obtain ⟨okI, okS⟩ := ok ca2 F2 G _ _ hi2 i L2.pre L2.ff S2
    unfold forW at hf
    split at hf
    · rename_i e
      cases hf
      exact .inl ⟨okS e, k1 τ ca2 F2 G L2 S2⟩
    · cases hf
    · rename_i d e
      obtain ⟨go, yl⟩ := okI d e
      refine .inr ⟨go, V (i + 1) m, fun τ' G' q => ⟨m, Nat.lt_succ_self _, q⟩, fun x G' y => ?_⟩
      obtain ⟨F3, L3, S3, rx⟩ := ItY.sim (yl x G' y) S2
      have L23 := L2.trans L3
      split at hf
      · cases hf
      · rename_i enva ea
        refine hg ca2 F3 G' τ envi hi2 x d enva _ S3 rx ea fun σ4 S4 l4 o4 => ?_
        have next : ∀ envb hb2, forW wk tg sv m (i + 1) envb hb2 = some (o, env', h') → ∀ (σ' : St) (ca' : List Addr) (F' H' : Hp), Later ca2 F3 G' ca' F' H' → Sim K mg ca' F' H' σ' envb hb2 → V (i + 1) m σ' H' :=
          fun envb hb2 hr σ' ca' F' H' L5 S5 => ⟨by omega, ca', F', envb, hb2, L23.trans L5, S5, hr⟩
        split at hf
        · cases hf
        · rename_i envb hb2 eb
          exact hb ca2 F3 G' σ4 enva hi2 .nx envb hb2 _ S4 eb (next envb hb2 hf)
        · rename_i envb hb2 eb
          exact hb ca2 F3 G' σ4 enva hi2 .ct envb hb2 _ S4 eb (next envb hb2 hf)
        · rename_i envb hb2 eb
          cases hf
          exact hb ca2 F3 G' σ4 enva hi2 .bk env' h' _ S4 eb (KS.trans (o := .nx) k1 L23)
        · rename_i t envb hb2 eb
          cases hf
          exact hb ca2 F3 G' σ4 enva hi2 (.rt t) env' h' _ S4 eb (KS.trans (o := .rt t) k1 L23)
        · rename_i t envb hb2 eb
          cases hf
          exact hb ca2 F3 G' σ4 enva hi2 (.xc t) env' h' _ S4 eb (KS.trans (o := .xc t) k1 L23)
theorem es_for {iter tg : Expr} {body : List Stmt} {wi : TI} {it : Iv} {g : TG} {vs : List Nat} {tgf : Tg} (hc : X.calm = true) (hp : PassesOwn (model X.prog X.w) X.A X.env X.xe) (hi : EI X W tg iter wi it) (hg : EG X tg g vs tgf) (hb : ESs X W body ts sv)
    (hs : ∀ x, foldedSetIterable iter X.env x = pure x := by intro _; rfl) : ES X W (.For tg iter body [] pos) (tFor wi g ts) (sFor it tgf sv) := ⟨ps_for hp hc hi.pi hg.pg hb.ps hs, snd_for hi.snd hg.snd hb.snd⟩
theorem snd_while {n : Nat} (hc : SndT K mg W tt tv) (hb : SndS K mg W ts sv) : SndS K mg W (tWhile tt ts) (sWhile n tv sv) := by
  intro ca F H σ env h o env' h' D S q k
  unfold sWhile at q
  let V : Nat → St → Hp → Prop := fun m τ G => ∃ (ca2 : List Addr) (F2 : Hp) (envi : Env) (hi : Hs), Later ca F H ca2 F2 G ∧ Sim K mg ca2 F2 G τ envi hi ∧ whileL tv sv m envi hi = some (o, env', h')
  refine ⟨V, ⟨n, ca, F, env, h, .refl, S, q⟩, ?_⟩
  rintro m τ G ⟨ca2, F2, envi, hi, L2, S2, hf⟩
  cases m with
  | zero => cases hf
  | succ m =>
    unfold whileL at hf
    refine hc ca2 F2 G τ envi hi _ S2 (aft_of hf (KS.trans k L2) fun b h1 hf ca3 F3 H3 L3 S3 k3 => ?_)
    have L23 := L2.trans L3
    cases b with
    | true =>
      rw [if_pos rfl] at hf ⊢
      refine ⟨V m, fun σ' H' q => ⟨m, Nat.lt_succ_self _, q⟩, ?_⟩
      have next : ∀ envb hb2, whileL tv sv m envb hb2 = some (o, env', h') → ∀ (σ' : St) (ca' : List Addr) (F' H' : Hp), Later ca3 F3 H3 ca' F' H' → Sim K mg ca' F' H' σ' envb hb2 → V m σ' H' :=
        fun envb hb2 hr σ' ca' F' H' L5 S5 => ⟨ca', F', envb, hb2, L23.trans L5, S5, hr⟩
      split at hf
      · cases hf
      · rename_i envb hb2 eb
        exact hb ca3 F3 H3 τ envi h1 .nx envb hb2 _ S3 eb (next envb hb2 hf)
      · rename_i envb hb2 eb
        exact hb ca3 F3 H3 τ envi h1 .ct envb hb2 _ S3 eb (next envb hb2 hf)
      · rename_i envb hb2 eb
        cases hf
        exact hb ca3 F3 H3 τ envi h1 .bk env' h' _ S3 eb k3
      · rename_i t envb hb2 eb
        cases hf
        exact hb ca3 F3 H3 τ envi h1 (.rt t) env' h' _ S3 eb k3
      · rename_i t envb hb2 eb
        cases hf
        exact hb ca3 F3 H3 τ envi h1 (.xc t) env' h' _ S3 eb k3
    | false =>
      rw [if_neg Bool.false_ne_true] at hf ⊢
      cases hf
      exact k3 τ ca3 F3 H3 .refl S3
theorem es_while {c : Expr} {body : List Stmt} (n : Nat) (hp : PassesOwn (model X.prog X.w) X.A X.env X.xe) (hc : ET X W c tt tv) (hb : ESs X W body ts sv) : ES X W (.While c body [] pos) (tWhile tt ts) (sWhile n tv sv) := ⟨ps_while hp hc.pt hb.ps, snd_while hc.snd hb.snd⟩
theorem snd_par {i j : Nat} {ta : TA} {av : Av} (ha : SndA K mg W ta av) : SndS K mg W (tPar i j ta) (sPar i j av) := by
  intro ca F H σ env h o env' h' D S q k
  refine ha ca F H σ env h _ S (aft_of q k fun ds h1 q1 ca1 F1 H1 L1 S1 k1 vs rs => ?_)
  split at q1
  · cases q1
    cases rs with
    | cons r1 r2 =>
      cases r2 with
      | cons r2 r3 =>
        cases r3
        exact ⟨_, _, rfl, k1 _ ca1 F1 H1 .refl ((S1.store r1).store r2)⟩
  · cases q1
theorem es_par {i j : Nat} {x y : Str} {a b : Expr} {ta : TA} {av : Av} {px py pt : Pos} {kt k2 pt2} (hc : X.calm = true) (hN : X.N.Nodup) (ha : EA X W [a, b] ta av) (hij : i ≠ j := by decide) (hi : X.N[i]? = some x := by rfl) (hj : X.N[j]? = some y := by rfl)
    (hx : X.env.scope.names.lookup x = some .local := by rfl) (hy : X.env.scope.names.lookup y = some .local := by rfl)
    (hw : swappedStores [.Tuple [.Name x px, .Name y py] kt pt] (.Tuple [a, b] k2 pt2) X.env = pure (some [x, y]) := by rfl)
    (hs : swapsWithSole [.Tuple [.Name x px, .Name y py] kt pt] (.Tuple [a, b] k2 pt2) pos.line X.env = pure false := by rfl) :
    ES X W (.Assign [.Tuple [.Name x px, .Name y py] kt pt] (.Tuple [a, b] k2 pt2) pos) (tPar i j ta) (sPar i j av) := ⟨ps_par hc hN hi hj hij hx hy ha.pa hw hs, snd_par ha.snd⟩
theorem snd_par3 {i j l : Nat} {ta : TA} {av : Av} (ha : SndA K mg W ta av) : SndS K mg W (tPar3 i j l ta) (sPar3 i j l av) := by
  intro ca F H σ env h o env' h' D S q k
  refine ha ca F H σ env h _ S (aft_of q k fun ds h1 q1 ca1 F1 H1 L1 S1 k1 vs rs => ?_)
  split at q1
  · cases q1
    cases rs with
    | cons r1 r2 =>
      cases r2 with
      | cons r2 r3 =>
        cases r3 with
        | cons r3 r4 =>
          cases r4
          exact ⟨_, _, _, rfl, k1 _ ca1 F1 H1 .refl (((S1.store r1).store r2).store r3)⟩
  · cases q1
theorem es_par3 {i j l : Nat} {x y z : Str} {a b c : Expr} {ta : TA} {av : Av} {px py pz pt : Pos} {kt k2 pt2} (hc : X.calm = true) (hN : X.N.Nodup) (ha : EA X W [a, b, c] ta av) (hij : i ≠ j := by decide) (hil : i ≠ l := by decide) (hjl : j ≠ l := by decide) (hi : X.N[i]? = some x := by rfl) (hj : X.N[j]? = some y := by rfl) (hl : X.N[l]? = some z := by rfl)
    (hx : X.env.scope.names.lookup x = some .local := by rfl) (hy : X.env.scope.names.lookup y = some .local := by rfl) (hz : X.env.scope.names.lookup z = some .local := by rfl)
    (hw : swappedStores [.Tuple [.Name x px, .Name y py, .Name z pz] kt pt] (.Tuple [a, b, c] k2 pt2) X.env = pure (some [x, y, z]) := by rfl)
    (hs : swapsWithSole [.Tuple [.Name x px, .Name y py, .Name z pz] kt pt] (.Tuple [a, b, c] k2 pt2) pos.line X.env = pure false := by rfl) :
    ES X W (.Assign [.Tuple [.Name x px, .Name y py, .Name z pz] kt pt] (.Tuple [a, b, c] k2 pt2) pos) (tPar3 i j l ta) (sPar3 i j l av) := ⟨ps_par3 hc hN hi hj hl hij hil hjl hx hy hz ha.pa hw hs, snd_par3 ha.snd⟩
/-- name = [..] on one line, the name a local -/
theorem es_setComp {i : Nat} {y : Str} {py spos : Pos} {elt tg iter : Expr} {ifs : List Expr} {scope : Scope} {own : List (Str × Nat)} {wi : TI} {it : Iv} {g : Blk TG} {vs : List Nat} {tgf : Tg} {tt : Blk TT} {tv : Tv} {tel : Blk TE} {el : Ev} (hc : X.calm = true) (hN : X.N.Nodup) (hi : EI X W tg iter wi it) (ok : BlkOk X.N X.env.scope scope own)
    (hg : ∀ (s : Shared) (H : Hp) (C : Addr) (cl : List (Str × Addr)) (fp : List Addr), EG (X.blk s H scope (compEnvC scope cl C X.env) fp) tg (g s H C cl fp) vs tgf) (ht : ∀ (s : Shared) (H : Hp) (C : Addr) (cl : List (Str × Addr)) (fp : List Addr), ETs (X.blk s H scope (compEnvC scope cl C X.env) fp) wNone ifs (tt s H C cl fp) tv)
    (he : ∀ (s : Shared) (H : Hp) (C : Addr) (cl : List (Str × Addr)) (fp : List Addr), EE (X.blk s H scope (compEnvC scope cl C X.env) fp) wNone elt (tel s H C cl fp) el) (hy : X.N[i]? = some y := by rfl) (hyl : X.env.scope.names.lookup y = some .local := by rfl)
    (hsw : swapsWith (.ListComp elt [⟨tg, iter, ifs, 0⟩] scope pos) (some (.Name y py)) spos.line X.env = pure true := by exact sw_true rfl rfl rfl (by decide +kernel)) (hv : ∀ i ∈ vs, i ∈ own.map (·.2) := by decide) (hs : ∀ x, foldedSetIterable iter X.env x = pure x := by intro _; rfl) :
    ES X W (.Assign [.Name y py] (.ListComp elt [⟨tg, iter, ifs, 0⟩] scope pos) spos) (tAsg (tLc wi (tgA g) (ttA tt) (teA tel) (own.map (·.2))) (gName i)) (sAsg (eComp (own.map (·.2)) it tgf tv el) (gN i)) :=
  ⟨ps_setLc hc hN hy hyl hsw hi.pi ok (tgA_pg (Z := fun s H C cl fp => X.blk s H scope (compEnvC scope cl C X.env) fp) fun s H C cl fp => (hg s H C cl fp).pg) (ttA_pt (Z := fun s H C cl fp => X.blk s H scope (compEnvC scope cl C X.env) fp) fun s H C cl fp => (ht s H C cl fp).pt) (teA_pe (Z := fun s H C cl fp => X.blk s H scope (compEnvC scope cl C X.env) fp) fun s H C cl fp => (he s H C cl fp).pe) hs,
    snd_asg (snd_comp hi.snd (tgA_snd fun s H C cl fp => (hg s H C cl fp).snd) hv (ttA_snd fun s H C cl fp => (ht s H C cl fp).snd) (teA_snd fun s H C cl fp => (he s H C cl fp).snd)) (snd_gN i)⟩
end
end HC
end
section
set_option Elab.async false
set_option linter.all false
set_option maxRecDepth 100000
set_option autoImplicit false
namespace HC
open PySem PySem.Spec L2 PyProof.Rows
/-! ### a def's body -/
def env0 (n : Nat) (ds : List D) : Env := ds.map some ++ List.replicate (n - ds.length) none
def runBody (n : Nat) (sv : Sv) : Fn := fun ds h => match sv (env0 n ds) h with
  | some (.rt t, _, h1) => .ok t h1
  | some (.nx, _, h1) => .ok .non h1
  | some (.xc x, _, h1) => .ex x h1
  | _ => .no
section
variable {K : PySem.W.Frag} {mg : Str → Option Value} {W : WX} {ca ca' : List Addr} {F F' H H' : Hp} {σ σ' : St} {env env' : Env} {h h' : Hs} {v : V} {d : D}
theorem RepDs.getE : ∀ {ds : List D} {vs : List V} {i : Nat} {t : D}, RepDs K mg ca F vs ds → (ds.map some)[i]? = some (some t) → ∃ v, (vs.map some)[i]? = some (some v) ∧ RepD K mg ca F v t := fun {ds vs i t} r e => by
  rw [List.getElem?_map] at e
  obtain ⟨d, hd, q⟩ := Option.map_eq_some_iff.mp e
  cases q
  obtain ⟨v, hv, rv⟩ := RepDs.get r hd
  exact ⟨v, by rw [List.getElem?_map, hv]; rfl, rv⟩
theorem Sim.begin {N : List Str} {vs : List V} {ds : List D} (S : Sim K mg ca F H [] [] h) (r : RepDs K mg ca F vs ds) : Sim K mg ca F H (start N vs) (env0 N.length ds) h := S.slots
  (by unfold env0 L2.start; rw [List.length_append, List.length_append, List.length_map, List.length_map, List.length_replicate, List.length_replicate, RepDs.length r]; exact Nat.le_refl _)
  fun i t e => by
    unfold env0 at e
    unfold L2.start
    by_cases hi : i < ds.length
    · rw [List.getElem?_append_left (by rw [List.length_map]; exact hi)] at e
      obtain ⟨v, ev, rv⟩ := RepDs.getE r e
      refine ⟨v, ?_, rv⟩
      rw [List.getElem?_append_left (by rw [List.length_map, RepDs.length r]; exact hi)]
      exact ev
    · rw [List.getElem?_append_right (by rw [List.length_map]; omega)] at e
      rw [List.getElem?_replicate] at e
      split at e <;> cases e
theorem run_body {sv : Sv} {t : TS} {n : Nat} {N : List Str} {vs : List V} {Q : VK} {E : XK} (hs : SndS K mg (fun c d _ H' => E c d H') t sv) (q : spM K mg n (runBody N.length sv) vs H Q E) : t { nx := fun _ H' => Q .non H', rt := Q } (start N vs) H := by
  obtain ⟨hl, ca, F, h, ds, S, r, x⟩ := q
  have S1 := S.begin (N := N) r
  unfold runBody at x
  split at x
  · rename_i e0
    exact hs ca F H _ _ h _ _ _ _ S1 e0 fun σ' ca' F' H' L S' v rv => x ca' F' H' L S'.bare v rv
  · rename_i e0
    exact hs ca F H _ _ h _ _ _ _ S1 e0 fun σ' ca' F' H' L S' => x ca' F' H' L S'.bare .non .non
  · rename_i e0
    exact hs ca F H _ _ h _ _ _ _ S1 e0 fun σ' ca' F' H' L S' cls dd rx => x cls dd ca' F' H' L S'.bare rx
  · exact x.elim
end
abbrev FnP (K : PySem.W.Frag) (x : Str) (st : Stmt) (f : Addr) (fd : FuncData) (dv : List V := []) : Prop := FunD K x x (defArgs st) (defBody st) (defScope st) dv [] f fd
/-- the def named x does what m tells, k calls deep -/
structure Cal (P : Program) (w : World) (K : PySem.W.Frag) (mg : Str → Option Value) (base : Heap) (x : Str) (st : Stmt) (ps : List Str) (k : Nat) (m : Fn) (dv : List V := []) : Prop where
  ex : ∃ f fd, mg x = some (.ref f) ∧ FnP K x st f fd dv ∧ FnG P w K mg base k f fd ps (spM K mg ps.length m)
theorem Cal.mono {P : Program} {w : World} {K : PySem.W.Frag} {mg : Str → Option Value} {base : Heap} {x : Str} {st : Stmt} {ps : List Str} {j k : Nat} {m : Fn} {dv : List V} (c : Cal P w K mg base x st ps j m dv) (h : j ≤ k) : Cal P w K mg base x st ps k m dv := by
  obtain ⟨f, fd, h1, h2, h3⟩ := c.ex
  exact ⟨f, fd, h1, h2, h3.mono h⟩
/-- arguments by place -/
def Bd (x : Str) (st : Stmt) (ps : List Str) : Prop := ∀ (kV doc pm : Value) (an : Option Addr) (cdv ct : Value) (us : List Value), us.length = ps.length → bindArgs (PySem.W.fnOf x x (defArgs st) (defBody st) (defScope st) .none kV doc pm an cdv ct) ⟨us, []⟩ = pure (ps.zip us)
/-- THE RULE for a def: its body does what sv tells, with what it lets out -/
theorem fn_ok {P : Program} {w : World} {K : PySem.W.Frag} {mg : Str → Option Value} {base : Heap} {x : Str} {st : Stmt} {f : Addr} {fd : FuncData} {N ps : List Str} {k : Nat} {sv : Sv} {dv : List V} (F : FnP K x st f fd dv) (sc : FnScope N ps (defScope st))
    (hb : ∀ (cdv : Value) (A : Around) (outer : List PySem.Env) (s : Shared) (H : Hp) (E : XK), RoomG k (A.deeper (envOfC x (defScope st) s.heap.objs.size f cdv)) →
      ∃ t, ESs (cxOf (CX P w) P w K mg base N x (defScope st) f cdv A outer s H E) (fun c d _ H' => E c d H') (defBody st) t sv) :
    FnG P w K mg base (k + 1) f fd ps (spM K mg ps.length (runBody N.length sv)) := by
  obtain ⟨oc, od, dV, kV, doc, pm, an, cdv, ct, osl, rfl, lk, hcd, _, _⟩ := F.ex
  exact fnG_of lk hcd sc (fun vs H Q E h => h.1) fun A outer s H vs Q E hr h => let ⟨t, ht⟩ := hb cdv A outer s H E hr; ⟨t, ht.ps, run_body ht.snd h⟩
theorem passes_cx {P : Program} {w : World} {K : PySem.W.Frag} {mg : Str → Option Value} {base : Heap} {f : Addr} {qual : Str} {scope : Scope} {cdv : Value} {A : Around} {outer : List PySem.Env} {s : Shared} {H : Hp} {E : XK} {N : List Str} :
    PassesOwn (model (cxOf (CX P w) P w K mg base N qual scope f cdv A outer s H E).prog (cxOf (CX P w) P w K mg base N qual scope f cdv A outer s H E).w) (cxOf (CX P w) P w K mg base N qual scope f cdv A outer s H E).A (cxOf (CX P w) P w K mg base N qual scope f cdv A outer s H E).env (cxOf (CX P w) P w K mg base N qual scope f cdv A outer s H E).xe := passes_of rfl
theorem fn_none {P : Program} {w : World} {K : PySem.W.Frag} {mg : Str → Option Value} {base : Heap} {f : Addr} {fd : FuncData} {ps : List Str} {k : Nat} : FnG P w K mg base k f fd ps (spM K mg ps.length fun _ _ => .no) :=
  ⟨fun vs H Q E h => h.1, fun A outer s H args us vs Q E hr e0 hb r h => by obtain ⟨_, _, _, _, _, _, _, x⟩ := h; exact x.elim⟩
section
variable {X : Cx} {W : WX} {x : Str} {st : Stmt} {ps : List Str} {k : Nat} {m : Fn} {p pos : Pos} {e : Expr} {es : List Expr} {ta tk : TA} {av kv : Av}
theorem ee_cal (c : Cal X.prog X.w X.K X.mg X.base x st ps k m) (hb : Bd x st ps) (hr : RoomG k X.A) (hx : Takes X W) (ha : EA X W (e :: es) ta av) (hn : (e :: es).length = ps.length := by rfl) (hg : Gl X x := by rfl) (hdb : (x == ("__debug__" : Str)) = false := by decide)
    (he : starEach (e :: es) X.env = (false, eval e X.env) :: starEach es X.env := by rfl) (hpl : (backTo pos (starEach es X.env)).any (·.1) = false := by rfl) : EE X W (.Call (.Name x p) (e :: es) [] pos) (tCallW (spM X.K X.mg ps.length m) [] W ta) (eCall m [] av) := by
  obtain ⟨f, fd, hm, F, G⟩ := c.ex
  exact ee_call G hr hm F.kp (F.bindsN hb) .nil (fun _ _ => .nil) hx ha (by rw [hn]; rfl) hg hdb he hpl
theorem ee_cal0 (c : Cal X.prog X.w X.K X.mg X.base x st ps k m) (hb : Bd x st ps) (hr : RoomG k X.A) (hx : Takes X W) (hn : 0 = ps.length := by rfl) (hg : Gl X x := by rfl) (hdb : (x == ("__debug__" : Str)) = false := by decide) : EE X W (.Call (.Name x p) [] [] pos) (tCallW (spM X.K X.mg ps.length m) [] W tNil) (eCall m [] aNil) := by
  obtain ⟨f, fd, hm, F, G⟩ := c.ex
  exact ee_call0 G hr hm F.kp (F.bindsN hb) .nil (fun _ _ => .nil) hx hn hg hdb
end
end HC
end
section
set_option Elab.async false
set_option linter.all false
set_option maxRecDepth 100000
set_option maxHeartbeats 1000000
set_option autoImplicit false
namespace HC
open PySem PySem.Spec L2 PyProof.Rows
/-! ### try: body / except C as n: m = n; what was caught stays as a cell -/
section
variable {X : Cx} {pins : List (Addr × Obj)} {σ : St} {H : Hp} {s : Shared}
theorem exr_ok {P : Program} {w : World} {H : Hp} {h : Heap} {a : Addr} {cls : Value} {d : Option Addr} {oe : Obj} {vs : Array Value} (e : h.get? a = some oe) (z : Zc cls d oe) (q : oe.data = .fields vs) : ObjOk P w H h a (exr a cls d) :=
  ⟨⟨oe, vs, e, z, q⟩, ⟨oe, e⟩, fun h1 h2 ⟨oe, vs, e, z, q⟩ k => ⟨oe, vs, k _ e, z, q⟩⟩
/-- an object that stands there, as yet told of nowhere -/
theorem inv_track {a : Addr} {o : HO} (I : Inv X pins σ H s) (hn : H a = none) (h0 : X.s_0.heap.get? a = none) (hl : a ≠ X.env.locals) (hc : ∀ x c, X.env.cells.lookup x = some c → c ≠ a) (hp : ∀ p ∈ X.pn ++ pins, p.1 ≠ a)
    (new : ObjOk X.prog X.w (upd H a o) s.heap a o) : Inv X pins σ (upd H a o) s where
  ok := I.ok
  os := I.os
  bare := I.bare
  base := ⟨I.base.keep, I.base.slot, fun b ob e n hx => by rw [upd_ne (fun z => by rw [z, h0] at e; cases e)]; exact I.base.free b ob e n hx, I.base.there, fun b xs e => by rw [upd_ne (ne_of_none (I.base.tups b xs e) hn)]; exact I.base.tups b xs e,
    fun b ob u e => by rw [upd_ne (ne_of_none (I.base.frzs b ob u e) hn)]; exact I.base.frzs b ob u e, fun b ps e => by
      obtain ⟨more, q⟩ := I.base.tbls b ps e
      exact ⟨more, by rw [upd_ne (ne_of_none q hn)]; exact q⟩⟩
  loc := I.loc
  cell := I.cell
  free := by rw [upd_ne (Ne.symm hl)]; exact I.free
  freeC := fun x c e => by rw [upd_ne (hc x c e)]; exact I.freeC x c e
  pin := fun p h => by
    obtain ⟨e, n, r⟩ := I.pin p h
    exact ⟨e, by rw [upd_ne (hp p h)]; exact n, r⟩
  hok := I.hok.laidN (fun _ _ q => q) hn new
  len := I.len
end
/-- what the clause wishes of an exception of the body: slot i is n's; the exception is told of from then on -/
def wKp (K : PySem.W.Frag) (c : Value) (i : Nat) (ts : Addr → Value → Option Addr → TS) (Wout : WX) (D : Ends) : WX := fun cls d σ H =>
  ∃ b, PySem.W.exmOne K cls c = some b ∧ (b = true → ∀ a, H a = none → ts a cls d { nx := fun σ' H' => D.nx (σ'.set i none) (upd H' a (exr a cls d)), rt := fun v H' => D.rt v (upd H' a (exr a cls d)), bk := fun σ' H' => D.bk (σ'.set i none) (upd H' a (exr a cls d)), ct := fun σ' H' => D.ct (σ'.set i none) (upd H' a (exr a cls d)) } (σ.set i (some (.ref a))) H) ∧ (b = false → Wout cls d σ H)
section
variable {X : Cx} {x n : Str} {c : Value} {i : Nat} {body suite : List Stmt} {b₀ : Stmt} {np pos pos' : Pos} {tb : WX → TS} {ts : Addr → Value → Option Addr → TS} {Wout : WX}
/-- what is known of the exception at a: no place of this frame, none that was there ahead -/
structure Anew (X : Cx) (pins : List (Addr × Obj)) (a : Addr) : Prop where
  loc : a ≠ X.env.locals
  frm : a ∉ X.fs
  ent : X.s_0.heap.get? a = none
  cel : ∀ y e, X.env.cells.lookup y = some e → e ≠ a
  pin : ∀ p ∈ X.pn ++ pins, p.1 ≠ a
theorem anew_of {pins : List (Addr × Obj)} {σ : St} {H : Hp} {sI : Shared} {G h : Heap} {a : Addr} {oe : Obj} {vs : Array Value} (hex : X.ex = []) (hs : X.stack = X.env :: X.outer) (hf : X.env.frame = some X.env.locals) (J : Inv X pins σ H sI)
    (nb : ∀ b o, sI.heap.get? b = some o → b ∉ frs X.stack → G.get? b = some o) (gn : G.get? a = none) (ff : h.FunFrames G (X.env :: X.outer)) (ea : h.get? a = some oe) (ed : oe.data = .fields vs) : Anew X pins a := by
  have out : a ∉ frs (X.env :: X.outer) := fun hm => by
    obtain ⟨_, ob, eb, nf⟩ := ff.mem hm
    cases ea.symm.trans eb
    exact nf _ ed
  have dark : sI.heap.get? a = none := Option.eq_none_iff_forall_not_mem.mpr fun o q => by
    have z := nb a o q (hs ▸ out)
    cases gn.symm.trans z
  refine ⟨fun z => out ?_, fun z => out ?_, Option.eq_none_iff_forall_not_mem.mpr fun o q => ?_, fun y e q z => ?_, fun p hp z => ?_⟩
  · exact List.mem_filterMap.mpr ⟨X.env, List.mem_cons_self, hf.trans (congrArg some z.symm)⟩
  · obtain ⟨e, he, q⟩ := List.mem_filterMap.mp z
    exact List.mem_filterMap.mpr ⟨e, List.mem_cons_of_mem _ he, q⟩
  · obtain ⟨o', z⟩ := J.base.there a o q (hex ▸ List.not_mem_nil)
    cases dark.symm.trans z
  · obtain ⟨_, ob, eb, _⟩ := J.cell y e q
    cases (z ▸ dark).symm.trans eb
  · cases (z ▸ dark).symm.trans (J.pin p hp).1
/-- the suite, and what it leaves -/
theorem keep_suite {pins : List (Addr × Obj)} {σ : St} {H : Hp} {s : Shared} {D : Ends} {a : Addr} {cls : Value} {d : Option Addr} {oe : Obj} (hN : X.N.Nodup) (hi : X.N[i]? = some n) (hln : X.env.kindOf n = some .local) (w : Anew X pins a) (J : Inv X pins σ H s)
    (ea : s.heap.get? a = some oe) (ez : Zc cls d oe) (ed : ∃ vs, oe.data = .fields vs) (na : H a = none) (run : PSs (X.suite a ((a, oe) :: (X.pn ++ pins))) (b₀ :: suite) (ts a cls d))
    (wish : ts a cls d { nx := fun σ' H' => D.nx (σ'.set i none) (upd H' a (exr a cls d)), rt := fun v H' => D.rt v (upd H' a (exr a cls d)), bk := fun σ' H' => D.bk (σ'.set i none) (upd H' a (exr a cls d)), ct := fun σ' H' => D.ct (σ'.set i none) (upd H' a (exr a cls d)) } (σ.set i (some (.ref a))) H) {E1 E2 : Value → Shared → Prop} {R : Flow → Shared → Prop}
    (hR : ∀ f s2, wpAny (model X.prog X.w) X.A (do bindName X.env n .none; unbindBehindTheSuite X.env n pos') (fun _ s3 => SP X pins D f s3) X.xe s2 → R f s2) :
    wpAny (model X.prog X.w) (X.A.mark (some (.ref a))) (storeName X.env n (.ref a)) (fun _ s1 => wpAny (model X.prog X.w) (X.A.mark (some (.ref a))) (execs (b₀ :: suite) X.env) R E2 s1) E1 s := by
  obtain ⟨vs, ed⟩ := ed
  have S := J.suite ea ed na w.loc w.frm
  refine store_ok (X := X.suite a ((a, oe) :: (X.pn ++ pins))) (v := .ref a) S hN hi (.inl hln) rfl (fun s5 S5 => ?_) (.inr hln)
  refine wpAny_mono (run.run [] s5 _ H _ S5 wish) (fun f s6 hsp => hR f s6 ?_) fun _ _ z => False.elim z
  have fin {σ6 : St} {H6 : Hp} {T : Shared → Prop} (S6 : Inv (X.suite a ((a, oe) :: (X.pn ++ pins))) [] σ6 H6 s6) (q : ∀ s7, Inv X pins (σ6.set i none) (upd H6 a (exr a cls d)) s7 → T s7) :
      wpAny (model X.prog X.w) X.A (do bindName X.env n .none; unbindBehindTheSuite X.env n pos') (fun _ s7 => T s7) X.xe s6 := by
    obtain ⟨e6, n6, _⟩ := S6.pin (a, oe) (List.mem_append_left _ List.mem_cons_self)
    exact gone_ok (inv_track (S6.unsuite J.ok) n6 w.ent w.loc w.cel w.pin (exr_ok e6 ez ed)) hN hi hln q
  cases f with
  | ret u =>
    obtain ⟨v6, σ6, H6, S6, r6, q6⟩ := hsp
    exact fin S6 fun s7 J7 => ⟨v6, _, _, J7, r6, q6⟩
  | next => obtain ⟨_, _, S6, q6⟩ := hsp; exact fin S6 fun s7 J7 => ⟨_, _, J7, q6⟩
  | brk => obtain ⟨_, _, S6, q6⟩ := hsp; exact fin S6 fun s7 J7 => ⟨_, _, J7, q6⟩
  | cont => obtain ⟨_, _, S6, q6⟩ := hsp; exact fin S6 fun s7 J7 => ⟨_, _, J7, q6⟩
theorem ps_try_keep (hex : X.ex = []) (hs : X.stack = X.env :: X.outer) (hf : X.env.frame = some X.env.locals) (hN : X.N.Nodup) (hi : X.N[i]? = some n) (hln : X.env.kindOf n = some .local) (hc : Names X x c) (tk : Takes X Wout)
    (hb : ∀ (W : WX) (pn : List (Addr × Obj)) (xe : Value → Shared → Prop), Takes (X.tr pn xe) W → PassesOwn (model X.prog X.w) X.A X.env xe → PSs (X.tr pn xe) body (tb W)) (hsu : ∀ (a : Addr) (oe : Obj) (cls : Value) (d : Option Addr) (pn : List (Addr × Obj)), Zc cls d oe → (∃ vs, oe.data = .fields vs) → PSs (X.suite a ((a, oe) :: pn)) (b₀ :: suite) (ts a cls d)) :
    PS X (.Try body [.ExceptHandler (some (.Name x np)) (some n) (b₀ :: suite) pos'] [] [] pos) (fun D σ H => tb (wKp X.K c i ts Wout D) D σ H) := by
  refine ⟨fun pins s σ H D I h => wpAny_Try_except ?_⟩
  have frames : X.A.frames = some (X.env :: X.outer) := I.ok.frames.trans (congrArg some hs)
  let look : Value → Shared → Prop := fun e s₁ => wpAny (model X.prog X.w) X.A (noteFrame e X.env) (fun _ s₂ => wpAny (model X.prog X.w) X.A (setFlight e none) (fun _ s₃ => wpAny (model X.prog X.w) X.A (handleBy e X.env [.ExceptHandler (some (.Name x np)) (some n) (b₀ :: suite) pos']) (SP X pins D) X.xe s₃) X.xe s₂) X.xe s₁
  have caught : Takes (X.tr (X.pn ++ pins) look) (wKp X.K c i ts Wout D) := by
    rintro u s' ⟨a, G, sI, pins', τ, H1, cls, d, rfl, J', nb, up, sky, na, os, ag, b, hb1, hyes, hno⟩
    have J : Inv X pins τ H1 sI := J'.ofTry I.ok
    refine Sky.land (s := s') Zc.steady frames hf (hs ▸ sky) fun h3 fl3 up3 => ?_
    have J3 : Inv X pins τ H1 { s' with heap := h3 } := J.landed nb fl3.1 (up.trans up3) os ag
    obtain ⟨oe, vs, e3, z3, d3⟩ := fl3.there
    have w : Anew X pins a := anew_of hex hs hf J nb fl3.2.1 fl3.2.2.1 e3 d3
    have S3 := J3.suite e3 d3 na w.loc w.frm
    have LM := PySem.W.exm_one (M := model X.prog X.w) J3.kIn (fun A Q E s k q => wpAny_typeOf_ref (k _ _ e3) (z3.1 ▸ q)) hb1
    refine wpAny_handleBy_cons (codeAny_handlers_test ?_) (by intro q; cases q)
    have named {Q E : Value → Shared → Prop} (q : Q c { s' with heap := h3 }) : wpAny (model X.prog X.w) (X.A.mark (some (.ref a))) (eval (.Name x np) X.env) Q E { s' with heap := h3 } := by
      rcases hc with ⟨hg, nd, hm | ⟨hm, hv, nn⟩⟩
      · exact ld_glob (X := X.suite a ((a, oe) :: (X.pn ++ pins))) S3 hg hm q nd
      · exact ld_blt (X := X.suite a ((a, oe) :: (X.pn ++ pins))) S3 hg hm hv q nn nd
    refine named (LM.here ?_)
    cases b with
    | true =>
      refine codeAny_handlers_suite_as (HandSPX.lands_againZ fl3 fun h4 fl4 up4 => ?_)
      obtain ⟨o4, v4, e4, z4, d4⟩ := fl4.there
      have J4 : Inv X pins τ H1 { s' with heap := h4 } := J.landed nb fl4.1 ((up.trans up3).trans up4) os ag
      exact keep_suite hN hi hln w J4 e4 z4 ⟨v4, d4⟩ na (hsu a o4 cls d _ z4 ⟨v4, d4⟩) (hyes rfl a na) fun f s2 q => q
    | false =>
      refine wpAny_handleBy_nil ?_
      obtain ⟨_, _, _, ob, fs, T, _, _, eb, _, db, f1, _⟩ := id fl3
      unfold PySem.passOn
      refine wpAny_bind (wpAny_field eb db f1 ?_)
      rw [if_neg (fun z => by simp at z)]
      have up5 : wpAny (model X.prog X.w) X.A (setFlight (.ref a) X.env.frame) (fun _ s4 => wpAny (model X.prog X.w) X.A (throw (.ref a) : Sem Flow) (SP X pins D) X.xe s4) X.xe { s' with heap := h3 } := by
        rw [hf]
        exact HandSPX.setFlight_upZ fl3 fun h4 hh4 up4 => wpAny_throw (tk _ _ ⟨a, G, sI, pins, τ, H1, cls, d, rfl, J, nb, (up.trans up3).trans up4, .inr (.inr (hs ▸ hh4)), na, os, ag, hno rfl⟩)
      first | exact wpAny_bind (wpAny_pure (wpAny_bind up5)) | exact wpAny_bind up5
  refine wpAny_mono ((hb _ (X.pn ++ pins) look caught PassesOwn.looking).run [] s σ H D (I.toTry _) h) (fun f s1 q => ?_) fun _ _ he => he
  cases f with
  | next => obtain ⟨τ, H1, J, z⟩ := q; exact wpAny_execs_nil ⟨τ, H1, J.ofTry I.ok, z⟩
  | brk => obtain ⟨τ, H1, J, z⟩ := q; exact ⟨τ, H1, J.ofTry I.ok, z⟩
  | cont => obtain ⟨τ, H1, J, z⟩ := q; exact ⟨τ, H1, J.ofTry I.ok, z⟩
  | ret u => obtain ⟨v, τ, H1, J, r, z⟩ := q; exact ⟨v, τ, H1, J.ofTry I.ok, r, z⟩
end
end HC
end
section
set_option Elab.async false
set_option linter.all false
set_option maxRecDepth 100000
set_option maxHeartbeats 1000000
set_option autoImplicit false
namespace HC
open PySem PySem.Spec L2 PyProof.Rows
/-- try: body / except C as n: m = n -/
def sTryK (i j : Nat) (cs : Str → Option Bool) (body : Sv) : Sv := fun env h => match body env h with
  | some (.xc x, env1, h1) => (match cs x.c with
    | some true => if h1.sz < room ∧ i < env1.length then some (.nx, ((env1.set i (some (.ref h1.sz))).set j (some (.ref h1.sz))).set i none, h1.push (.exc x.c x.v)) else none
    | some false => some (.xc x, env1, h1)
    | none => none)
  | r => r
section
variable {X : Cx} {K : PySem.W.Frag} {mg : Str → Option Value} {W : WX} {ca ca' : List Addr} {F F' H H' : Hp} {σ σ' : St} {env env' : Env} {h h' : Hs}
/-- an exception's dict is told as a thing that stays -/
theorem Sim.xdict (S : Sim K mg ca F H σ env h) {d : Addr} {fs : List (Str × V)} (e : H d = some (.xd fs)) : Sim K mg ca (upd F d (.xd fs)) H σ env h ∧ Later ca F H ca (upd F d (.xd fs)) H := by
  have ff : Sub F (upd F d (.xd fs)) := fun a u q => by
    by_cases ha : a = d
    · subst ha
      have z := S.sub a u q
      rw [e] at z
      rw [upd_same, z]
    · rw [upd_ne ha]; exact q
  have nd : d ∉ ca := fun z => by
    obtain ⟨i, o, _, _, _, r⟩ := S.mem z
    cases o with
    | lst xs => obtain ⟨vs, q, _⟩ := r; rw [e] at q; cases q
    | dK xs => obtain ⟨vs, q, _⟩ := r; rw [e] at q; cases q
    | dT xs => obtain ⟨vs, q, _⟩ := r; rw [e] at q; cases q
    | ins c xs => obtain ⟨C, dx, vs, _, q, _⟩ := r; rw [e] at q; cases q
    | exc c v => obtain ⟨C, dd, gs, u, _, q, _⟩ := r; rw [e] at q; cases q
    | exb c => obtain ⟨C, _, q⟩ := r; rw [e] at q; cases q
  refine ⟨⟨fun a u q => ?_, S.le, fun i t q => ?_, S.len, S.inj, S.full, fun i u q => ?_, S.mkle, S.old⟩, .refl, ff, fun a u q n f x => ⟨q, n, ?_⟩, fun a u q => ⟨u, q⟩⟩
  · by_cases ha : a = d
    · subst ha; rw [upd_same] at q; rw [e]; exact q
    · rw [upd_ne ha] at q; exact S.sub a u q
  · obtain ⟨v, e1, r⟩ := S.slot i t q
    exact ⟨v, e1, RepD.mono ff .refl _ _ r⟩
  · obtain ⟨a, e1, f, r⟩ := S.obj i u q
    have ha : a ≠ d := fun z => nd (z ▸ List.mem_of_getElem? e1)
    exact ⟨a, e1, by rw [upd_ne ha]; exact f, r.keep ff .refl rfl⟩
  · have ha : a ≠ d := fun z => by
      rw [z, e] at q
      cases q
      exact x _ rfl
    rw [upd_ne ha]
    exact f
theorem Sim.unset (S : Sim K mg ca F H σ env h) (i : Nat) : Sim K mg ca F H (σ.set i none) (env.set i none) h := S.slots (by rw [List.length_set, List.length_set]; exact S.le) fun j d e => by
  by_cases hj : j = i
  · subst hj
    by_cases hl : j < env.length
    · rw [List.getElem?_set_self hl] at e; cases e
    · rw [List.getElem?_eq_none (by simpa using hl)] at e; cases e
  · rw [List.getElem?_set_ne (Ne.symm hj)] at e
    obtain ⟨v, e1, r⟩ := S.slot j d e
    exact ⟨v, by rw [List.getElem?_set_ne (Ne.symm hj)]; exact e1, r⟩
/-- a caught exception becomes a cell -/
theorem Sim.catch {x : Xc} {cls : Value} {dd : Option Addr} {a : Addr} (S : Sim K mg ca F H σ env h) (rx : RepX K mg ca F H x cls dd) (ha : H a = none) (hr : h.sz < room) : ∃ F', Sim K mg (ca ++ [a]) F' (upd H a (exr a cls dd)) σ env (h.push (.exc x.c x.v)) ∧ Later ca F H (ca ++ [a]) F' (upd H a (exr a cls dd)) ∧
    (ca ++ [a])[h.sz]? = some a := by
  obtain ⟨C, d, fs, v, m, rfl, rfl, e, l, r⟩ := rx
  obtain ⟨S1, L1⟩ := S.xdict e
  obtain ⟨S2, L2, e2⟩ := S1.alloc (p := a) (u := exr a (.ref C) (some d)) (o := .exc x.c x.v) ha hr ⟨C, d, fs, v, m, upd_same, upd_same, l, RepD.mono L1.ff .refl _ _ r⟩
  exact ⟨_, S2, L1.trans L2, e2⟩
theorem snd_tryK {i j : Nat} {c : Value} {cs : Str → Option Bool} {tb : WX → TS} {sv : Sv} (hcs : ∀ n b C, cs n = some b → mg n = some (.ref C) → PySem.W.exmOne K (.ref C) c = some b) (hb : ∀ W, SndS K mg W (tb W) sv) :
    SndS K mg W (fun D σ H => tb (wKp K c i (fun _ _ _ => tAsg (tVar i) (gName j)) W D) D σ H) (sTryK i j cs sv) := by
  intro ca F H σ env h o env' h' D S q k
  unfold sTryK at q
  split at q
  · rename_i x env1 h1 e
    refine hb _ ca F H σ env h (.xc x) env1 h1 D S e fun σ' ca' F' H' L S' cls dd rx => ?_
    split at q
    · rename_i b e1
      split at q
      · rename_i hr
        cases q
        have rx' := rx
        obtain ⟨C, d, fs, v, m, rfl, rfl, _⟩ := rx'
        refine ⟨true, hcs _ _ _ e1 m, fun _ a ha => ?_, fun z => nomatch z⟩
        obtain ⟨F2, S2, L2, e2⟩ := S'.catch rx ha hr.1
        have r : RepD K mg (ca' ++ [a]) F2 (.ref a) (.ref h1.sz) := .ref e2
        refine ⟨.ref a, List.getElem?_set_self (Nat.lt_of_lt_of_le hr.2 S'.le), ?_⟩
        exact k _ _ _ _ (L.trans L2) (((S2.store (i := i) r).store (i := j) r).unset i)
      · cases q
    · rename_i e1
      cases q
      have rx' := rx
      obtain ⟨C, d, fs, v, m, rfl, rfl, _⟩ := rx'
      exact ⟨false, hcs _ _ _ e1 m, fun z => (nomatch z), fun _ => k σ' ca' F' H' L S' _ _ rx⟩
    · cases q
  · rename_i hn
    refine hb _ ca F H σ env h o env' h' D S q fun σ' ca' F' H' L S' => ?_
    cases o with
    | xc x => exact absurd q (hn x env' h')
    | nx => exact k σ' ca' F' H' L S'
    | bk => exact k σ' ca' F' H' L S'
    | ct => exact k σ' ca' F' H' L S'
    | rt t => exact k σ' ca' F' H' L S'
theorem es_tryK {x n m : Str} {i j : Nat} {c : Value} {cs : Str → Option Bool} {body : List Stmt} {np p1 p2 p3 pos pos' : Pos} {tb : WX → TS} {sv : Sv} (hN : X.N.Nodup) (hc : Names X x c) (tk : Takes X W) (hcs : ∀ n b C, cs n = some b → X.mg n = some (.ref C) → PySem.W.exmOne X.K (.ref C) c = some b)
    (hb : ∀ (W : WX) (pn : List (Addr × Obj)) (xe : Value → Shared → Prop), Takes (X.tr pn xe) W → PassesOwn (model X.prog X.w) X.A X.env xe → PSs (X.tr pn xe) body (tb W)) (hd : ∀ W, SndS X.K X.mg W (tb W) sv)
    (hex : X.ex = [] := by rfl) (hs : X.stack = X.env :: X.outer := by rfl) (hf : X.env.frame = some X.env.locals := by rfl) (hi : X.N[i]? = some n := by rfl) (hj : X.N[j]? = some m := by rfl) (hln : X.env.kindOf n = some .local := by rfl)
    (hlm : X.env.scope.names.lookup m = some .local := by rfl) (hv : Vis X.env.scope n := by first | exact .inl rfl | exact .inr (.inl rfl) | exact .inr (.inr rfl)) (hdb : (n == ("__debug__" : Str)) = false := by decide) (hcd : (n == ("__classdict__" : Str)) = false := by decide)
    (hsw : swapsWith (.Name n p2) (some (.Name m p1)) p3.line X.env = pure false := by rfl) :
    ES X W (.Try body [.ExceptHandler (some (.Name x np)) (some n) [.Assign [.Name m p1] (.Name n p2) p3] pos'] [] [] pos) (fun D σ H => tb (wKp X.K c i (fun _ _ _ => tAsg (tVar i) (gName j)) W D) D σ H) (sTryK i j cs sv) :=
  ⟨ps_try_keep hex hs hf hN hi hln hc tk hb fun a oe cls d pn _ _ => pss_one (ps_set (X := X.suite a ((a, oe) :: pn)) hN hj (.inl hlm) (pe_var hi hv hdb hcd) hsw (.inr hlm)), snd_tryK hcs hd⟩
end
end HC
end
section
set_option Elab.async false
set_option linter.all false
set_option maxRecDepth 100000
set_option maxHeartbeats 1000000
set_option autoImplicit false
namespace HC
open PySem PySem.Spec L2 PyProof.Rows
/-! ### raise C(e), C of our own with def __init__(self, value=None): self.value = value -/
/-- what such an __init__ does -/
def spIni (K : PySem.W.Frag) : Sp := fun vs H Q _ => ∃ (a C : Addr) (y : V), vs = [.ref a, y] ∧ OexC K C ∧ PySem.W.findIn K (.ref C) "value" = some none ∧ H a = some (exo a C none) ∧
  ∀ dx, H dx = none → dx ≠ a → Q .non (upd (upd H dx (exd dx [("value", y)])) a (exo a C (some dx)))
def sRaise (c : Str) (e : Ev) : Sv := fun env h => sOf (e env h) env fun d h1 => some (.xc ⟨c, d⟩, env, h1)
def bdIni (qual : Str) (params : Arguments) (body : List Stmt) (scope : Scope) : Prop := ∀ (T : Addr) (kV doc pm : Value) (an : Option Addr) (cdv ct : Value) (us its : List Value), us.length = 2 → its.length = 1 →
  ∃ k, bindArgs (PySem.W.fnOf "__init__" qual params body scope (.ref T) kV doc pm an cdv ct) ⟨us, []⟩ = seqItems? (.ref T) >>= k ∧ k (some its.toArray) = pure (([("self" : Str), "value"]).zip (us ++ its.drop 1))
/-- self alone; value by name -/
def bdIni0 (qual : Str) (params : Arguments) (body : List Stmt) (scope : Scope) : Prop := ∀ (T : Addr) (kV doc pm : Value) (an : Option Addr) (cdv ct : Value) (us its : List Value), us.length = 1 → its.length = 1 →
  ∃ k, bindArgs (PySem.W.fnOf "__init__" qual params body scope (.ref T) kV doc pm an cdv ct) ⟨us, []⟩ = seqItems? (.ref T) >>= k ∧ k (some its.toArray) = pure (([("self" : Str), "value"]).zip (us ++ its.drop 0))
def bdIniK (qual : Str) (params : Arguments) (body : List Stmt) (scope : Scope) : Prop := ∀ (T : Addr) (kV doc pm : Value) (an : Option Addr) (cdv ct : Value) (us its ws : List Value), us.length = 1 → its.length = 1 → ws.length = 1 →
  ∃ k, bindArgs (PySem.W.fnOf "__init__" qual params body scope (.ref T) kV doc pm an cdv ct) ⟨us, ([("value" : Str)]).zip ws⟩ = seqItems? (.ref T) >>= k ∧ k (some its.toArray) = pure (([("self" : Str), "value"]).zip (us ++ ws))
section
variable {X : Cx} {K : PySem.W.Frag} {mg : Str → Option Value} {W : WX}
theorem ini_ok {P : Program} {w : World} {base : Heap} {fI : Addr} {fd : FuncData} {k : Nat} {qual : Str} {params : Arguments} {scope : Scope} {p1 p2 p3 p4 : Pos} (F : FunD K "__init__" qual params [.Assign [.Attribute (.Name "self" p1) "value" p2] (.Name "value" p3) p4] scope [.non] [] fI fd)
    (S : FnScope ["self", "value"] ["self", "value"] scope) (h1 : scope.names.lookup ("self" : Str) = some .local) (h2 : scope.names.lookup ("value" : Str) = some .local) : FnOk P w K mg base CX0 (k + 1) fI fd ["self", "value"] (spIni K) := by
  refine F.ok S (fun vs H Q E h => ?_) fun cdv A outer s H vs Q E hr h => ?_
  · obtain ⟨a, C, y, rfl, _⟩ := h; rfl
  · obtain ⟨a, C, y, rfl, T, hv, ha, q⟩ := h
    refine ⟨_, pss_one (ps_ost (to := tVar 0) (te := tVar 1) (pe_var rfl (.inl h1)) (pe_var rfl (.inl h2))), ?_⟩
    exact ⟨y, rfl, .ref a, rfl, a, C, rfl, T, hv, .inl ⟨ha, fun dx hd hn => q dx hd hn⟩⟩
theorem new_same {H : Hp} {a dx C : Addr} {v : V} (ha : H a = none) (hd : dx ≠ a) : upd (del (upd (upd (upd H a (exo a C none)) dx (exd dx [("value", v)])) a (exo a C (some dx))) a) dx (.xd [("value", v)]) = upd H dx (.xd [("value", v)]) := by
  funext b
  by_cases hb : b = dx
  · subst hb; rw [upd_same, upd_same]
  · rw [upd_ne hb, upd_ne hb]
    by_cases hba : b = a
    · subst hba; rw [del_same, ha]
    · rw [del_ne hba, upd_ne hba, upd_ne hb, upd_ne hba]
theorem snd_raise {x : Str} {C : Addr} {te : TE} {ev : Ev} (T : OexC K C) (hv : PySem.W.findIn K (.ref C) "value" = some none) (hm : mg x = some (.ref C)) (he : SndE K mg W te ev) :
    SndS K mg W (fun _ σ H => tMkO C (spIni K) [] (tCons te tNil) σ H fun cls d H' => W cls d σ H') (sRaise x ev) := by
  intro ca F H σ env h o env' h' D S q k
  refine he ca F H σ env h _ S (aft_of q k fun d h1 q1 ca1 F1 H1 L1 S1 k1 v rv => ?_)
  cases q1
  refine ⟨by show 1 ≤ 1000; decide, fun a ha => ⟨a, C, v, rfl, T, hv, upd_same, fun dx hdx hne => ⟨rfl, dx, [("value", v)], upd_same, ?_, ?_, ?_⟩⟩⟩
  · rw [upd_ne hne, upd_same]
  · rw [upd_ne hne] at hdx; exact hdx
  · rw [upd_ne hne] at hdx
    rw [new_same ha hne]
    obtain ⟨S2, L2⟩ := S1.laid (o := .xd [("value", v)]) hdx
    exact k1 σ ca1 F1 _ L2 S2 _ _ ⟨C, dx, _, v, hm, rfl, rfl, upd_same, rfl, rv⟩
/-- what must be known of such a class -/
structure ExC (K : PySem.W.Frag) (mg : Str → Option Value) (x : Str) : Prop where
  ex : ∃ (C fI : Addr) (fd : FuncData) (qual : Str) (params : Arguments) (scope : Scope) (p1 p2 p3 p4 : Pos), mg x = some (.ref C) ∧ OexC K C ∧ PySem.W.findIn K (.ref C) "__init__" = some (some (.ref fI)) ∧ PySem.W.typeIn K (.ref fI) = some (.type "function") ∧
    PySem.W.findIn K (.ref C) "value" = some none ∧ FunD K "__init__" qual params [.Assign [.Attribute (.Name "self" p1) "value" p2] (.Name "value" p3) p4] scope [.non] [] fI fd ∧ FnScope ["self", "value"] ["self", "value"] scope ∧
    scope.names.lookup ("self" : Str) = some .local ∧ scope.names.lookup ("value" : Str) = some .local ∧ bdIni qual params [.Assign [.Attribute (.Name "self" p1) "value" p2] (.Name "value" p3) p4] scope ∧
    bdIni0 qual params [.Assign [.Attribute (.Name "self" p1) "value" p2] (.Name "value" p3) p4] scope ∧ bdIniK qual params [.Assign [.Attribute (.Name "self" p1) "value" p2] (.Name "value" p3) p4] scope
/-- where the name's thing stands -/
def adr (mg : Str → Option Value) (x : Str) : Addr := match mg x with
  | some (.ref a) => a
  | _ => 0
def tRaise (K : PySem.W.Frag) (C : Addr) (W : WX) (te : TE) : TS := fun _ σ H => tMkO C (spIni K) [] (tCons te tNil) σ H fun cls d H' => W cls d σ H'
theorem es_raise {x : Str} {e : Expr} {te : TE} {ev : Ev} {k : Nat} {p pos pos' : Pos} (q : ExC X.K X.mg x) (hc : X.calm = true) (tk : Takes X W) (hr : RoomG (k + 2) X.A) (he : EE X W e te ev) (hg : Gl X x := by rfl) (hdb : (x == ("__debug__" : Str)) = false := by decide)
    (hst : starEach [e] X.env = (false, eval e X.env) :: starEach [] X.env := by rfl) : ES X W (.Raise (some (.Call (.Name x p) [e] [] pos)) none pos') (tRaise X.K (adr X.mg x) W te) (sRaise x ev) := by
  obtain ⟨C, fI, fd, qual, params, scope, p1, p2, p3, p4, hm, T, iC, tI, hv, F, S, h1, h2, hb, _, _⟩ := q.ex
  obtain ⟨ds, hds, hB⟩ := FunD.binds1 (ps := ["self", "value"]) F 2 1 (by simp) rfl hb
  have mk := pmk_oex (p := p) (pos := pos) (k := k + 1) T iC tI (ini_ok F S h1 h2) hr.rm hB hds pass0 hg hm (pa_cons he.pe pa_nil hst) hdb hst
  have ea : adr X.mg x = C := by unfold adr; rw [hm]
  rw [ea]
  exact ⟨ps_raise (pos := pos') hc tk mk, snd_raise T hv hm he.snd⟩
end
end HC
end
section
set_option Elab.async false
set_option linter.all false
set_option maxRecDepth 100000
set_option autoImplicit false
namespace HC
open PySem L2 PyProof.Rows
/-! ### operations that look at no cell -/
def Op1P (K : PySem.W.Frag) (mg : Str → Option Value) (r : V → Hp → VK → Prop) (f : D → Option D) : Prop := ∀ (ca : List Addr) (F H : Hp) (x : V) (d t : D) (Q : VK), Sub F H → RepD K mg ca F x d → f d = some t → (∀ v, RepD K mg ca F v t → Q v H) → r x H Q
def Op2P (K : PySem.W.Frag) (mg : Str → Option Value) (r : R2) (f : D → D → Option D) : Prop := ∀ (ca : List Addr) (F H : Hp) (x y : V) (d e t : D) (Q : VK), Sub F H → RepD K mg ca F x d → RepD K mg ca F y e → f d e = some t → (∀ v, RepD K mg ca F v t → Q v H) → r x y H Q
def p1 (f : D → Option D) : Hs → D → Rs D := fun h d => match f d with
  | some t => .ok t h
  | none => .no
def p2 (f : D → D → Option D) : Hs → D → D → Rs D := fun h d e => match f d e with
  | some t => .ok t h
  | none => .no
section
variable {K : PySem.W.Frag} {mg : Str → Option Value} {W : WX} {ca : List Addr} {F H : Hp} {v : V} {d : D}
theorem Op1P.op {r : V → Hp → VK → Prop} {f : D → Option D} (o : Op1P K mg r f) : Op1S K mg W r (p1 f) := by
  intro ca F H σ env h x d Q S rx y
  unfold p1 at y
  split at y
  · rename_i t e
    exact o ca F H x d t Q S.sub rx e (Aft.ok (h := h) y S)
  · exact y.elim
theorem Op2P.op {r : R2} {f : D → D → Option D} (o : Op2P K mg r f) : Op2S K mg W r (p2 f) := by
  intro ca F H σ env h x y d e Q S rx ry z
  unfold p2 at z
  split at z
  · rename_i t q
    exact o ca F H x y d e t Q S.sub rx ry q (Aft.ok (h := h) z S)
  · exact z.elim
/-! ### readings -/
theorem RepD.int' {i : Int} (h : RepD K mg ca F v (.int i)) : v = .int i := by cases h; rfl
theorem RepD.bl' {i : Bool} (h : RepD K mg ca F v (.bl i)) : v = .bl i := by cases h; rfl
theorem RepD.non' (h : RepD K mg ca F v .non) : v = .non := by cases h; rfl
theorem RepD.ty' {n : String} (h : RepD K mg ca F v (.ty n)) : v = .ty n := by cases h; rfl
theorem RepD.str' {x : Str} (h : RepD K mg ca F v (.str x)) : v = .str x ∧ x.length ≤ sizeLine ∧ PyData.strOk x = true := by cases h; exact ⟨rfl, ‹_›, ‹_›⟩
theorem RepD.rep' {p : PyData} (h : RepD K mg ca F v (.rep p)) : v = .str p.shown := by cases h; rfl
theorem RepD.tup' {t : TK} {ds : List D} (h : RepD K mg ca F v (.tup t ds)) : ∃ a vs, v = .ref a ∧ SqT K F a vs ∧ vs.length ≤ sizeLine ∧ RepDs K mg ca F vs ds := by cases h with | tup a l r => exact ⟨_, _, rfl, a.sq, l, r⟩
theorem RepD.tupA {t : TK} {ds : List D} (h : RepD K mg ca F v (.tup t ds)) : ∃ a vs, v = .ref a ∧ TupAt K F t a vs ∧ vs.length ≤ sizeLine ∧ RepDs K mg ca F vs ds := by cases h with | tup a l r => exact ⟨_, _, rfl, a, l, r⟩
theorem RepD.rl' {ds : List D} (h : RepD K mg ca F v (.rl ds)) : ∃ a vs, v = .ref a ∧ SqL K F a vs ∧ vs.length ≤ sizeLine ∧ RepDs K mg ca F vs ds := by cases h; exact ⟨_, _, rfl, ‹_›, ‹_›, ‹_›⟩
theorem RepD.ref' {i : Nat} (h : RepD K mg ca F v (.ref i)) : ∃ a, v = .ref a ∧ ca[i]? = some a := by cases h; exact ⟨_, rfl, ‹_›⟩
theorem RepD.fn' {x : Str} (h : RepD K mg ca F v (.fn x)) : ∃ a, v = .ref a ∧ mg x = some (.ref a) := by cases h; exact ⟨_, rfl, ‹_›⟩
theorem RepD.cls' {x : Str} (h : RepD K mg ca F v (.cls x)) : ∃ a, v = .ref a ∧ mg x = some (.ref a) := by cases h; exact ⟨_, rfl, ‹_›⟩
/-- what stands in a list's cell -/
theorem Sim.lst {σ : St} {env : Env} {h : Hs} (S : Sim K mg ca F H σ env h) {c : Nat} {xs : List D} (r : RepD K mg ca F v (.ref c)) (g : h.get c = some (.lst xs)) : ∃ a vs, v = .ref a ∧ ca[c]? = some a ∧ H a = some (.lst vs) ∧ vs.length ≤ sizeLine ∧ RepDs K mg ca F vs xs := by
  obtain ⟨a, rfl, e⟩ := r.ref'
  obtain ⟨b, e1, f, vs, q, l, r⟩ := S.obj c _ g
  rw [e] at e1
  cases e1
  exact ⟨a, vs, rfl, e, q, l, r⟩
theorem RepD.anyT {t : TK} {ds : List D} (h : RepD K mg ca F v (.tup t ds)) : RepD K mg ca F v (.tup .any ds) := by
  cases h with | tup a l r => exact .tup (t := .any) a.sq l r
def dSub : D → D → Option D
  | .int i, .int j => some (.int (i - j))
  | _, _ => none
theorem o_sub : Op2P K mg (rI0 fun i j => .int (i - j)) dSub := by
  intro ca F H x y d e t Q hs rx ry h k
  unfold dSub at h
  split at h
  · cases h
    rw [rx.int', ry.int']
    exact ⟨_, _, rfl, rfl, k _ (.int _)⟩
  · cases h
instance (i j : Int) : Decidable (CMulW i j) := inferInstanceAs (Decidable (_ < _))
instance (i j : Int) : Decidable (CDivW i j) := inferInstanceAs (Decidable (_ ∧ _))
instance (i j : Int) : Decidable (CDivN i j) := inferInstanceAs (Decidable (_ ∧ _))
def dMul : D → D → Option D
  | .int i, .int j => if CMulW i j then some (.int (i * j)) else none
  | _, _ => none
theorem o_mul : Op2P K mg (rI CMulW fun i j => .int (i * j)) dMul := by
  intro ca F H x y d e t Q hs rx ry h k
  unfold dMul at h
  split at h
  · split at h
    · rename_i hc
      cases h
      rw [rx.int', ry.int']
      exact ⟨_, _, rfl, rfl, hc, k _ (.int _)⟩
    · cases h
  · cases h
def dFdiv : D → D → Option D
  | .int i, .int j => if CDivW i j then some (.int (i / j)) else if CDivN i j then some (.int (i.fdiv j)) else none
  | _, _ => none
def rFdiv : R2 := fun x y H Q => (rI CDivW fun i j => .int (i / j)) x y H Q ∨ (rI CDivN fun i j => .int (i.fdiv j)) x y H Q
theorem op_fdivAny {X : Cx} : OpR X (binaryOp .FloorDiv) rFdiv := OpR.or op_fdivW op_fdivN
theorem o_fdiv : Op2P K mg rFdiv dFdiv := by
  intro ca F H x y d e t Q hs rx ry h k
  unfold dFdiv at h
  split at h
  · rw [rx.int', ry.int']
    split at h
    · rename_i hc
      cases h
      exact .inl ⟨_, _, rfl, rfl, hc, k _ (.int _)⟩
    · split at h
      · rename_i hc
        cases h
        exact .inr ⟨_, _, rfl, rfl, hc, k _ (.int _)⟩
      · cases h
  · cases h
def dMod : D → D → Option D
  | .int i, .int j => if 0 < j then some (.int (i % j)) else if j ≠ 0 then some (.int (i.fmod j)) else none
  | _, _ => none
def rMod : R2 := fun x y H Q => (rI (fun _ j => 0 < j) fun i j => .int (i % j)) x y H Q ∨ (rI (fun _ j => j ≠ 0) fun i j => .int (i.fmod j)) x y H Q
theorem op_modAny {X : Cx} : OpR X (binaryOp .Mod) rMod := OpR.or op_mod op_modN
theorem o_mod : Op2P K mg rMod dMod := by
  intro ca F H x y d e t Q hs rx ry h k
  unfold dMod at h
  split at h
  · rw [rx.int', ry.int']
    split at h
    · rename_i hc
      cases h
      exact .inl ⟨_, _, rfl, rfl, hc, k _ (.int _)⟩
    · split at h
      · rename_i hc
        cases h
        exact .inr ⟨_, _, rfl, rfl, hc, k _ (.int _)⟩
      · cases h
  · cases h
def CPowW (i j : Int) : Prop := 0 ≤ j ∧ (Builtin.Int.intBits i : Int) * j ≤ 2 ^ 27
instance (i j : Int) : Decidable (CPowW i j) := inferInstanceAs (Decidable (_ ∧ _))
def dPow : D → D → Option D
  | .int i, .int j => if CPowW i j then some (.int (i ^ j.toNat)) else none
  | _, _ => none
theorem op_powW {X : Cx} : OpR X (binaryOp .Pow) (rI CPowW fun i j => .int (i ^ j.toNat)) := opI fun _ _ _ _ _ _ _ hc q => pow_int hc.1 hc.2 q
theorem o_pow : Op2P K mg (rI CPowW fun i j => .int (i ^ j.toNat)) dPow := by
  intro ca F H x y d e t Q hs rx ry h k
  unfold dPow at h
  split at h
  · split at h
    · rename_i hc
      cases h
      rw [rx.int', ry.int']
      exact ⟨_, _, rfl, rfl, hc, k _ (.int _)⟩
    · cases h
  · cases h
def dNeg : D → Option D
  | .int i => some (.int (-i))
  | _ => none
theorem o_neg : Op1P K mg (rU fun i => .int (-i)) dNeg := by
  intro ca F H x d t Q hs rx h k
  unfold dNeg at h
  split at h
  · cases h
    rw [rx.int']
    exact ⟨_, rfl, k _ (.int _)⟩
  · cases h

/-! ### order -/
def ltS (x y : Str) : Bool := decide (x.cps.toList < y.cps.toList)
def dLt : D → D → Option D
  | .int i, .int j => some (.bl (decide (i < j)))
  | .str x, .str y => some (.bl (ltS x y))
  | _, _ => none
def dLe : D → D → Option D
  | .int i, .int j => some (.bl (decide (i ≤ j)))
  | .str x, .str y => some (.bl (!ltS y x))
  | _, _ => none
def dGt : D → D → Option D
  | .int i, .int j => some (.bl (decide (j < i)))
  | .str x, .str y => some (.bl (ltS y x))
  | _, _ => none
def dGe : D → D → Option D
  | .int i, .int j => some (.bl (decide (j ≤ i)))
  | .str x, .str y => some (.bl (!ltS x y))
  | _, _ => none
def rSS (g : Str → Str → Bool) : R2 := fun x y H Q => ∃ i j, x = .str i ∧ y = .str j ∧ Q (.bl (g i j)) H
def rOr (r r' : R2) : R2 := fun x y H Q => r x y H Q ∨ r' x y H Q
theorem op_ltAny {X : Cx} : OpR X (compareOp .Lt) (rOr (rI0 fun i j => .bl (decide (i < j))) (rSS ltS)) := OpR.or op_lt op_lt_str
theorem op_leAny {X : Cx} : OpR X (compareOp .LtE) (rOr (rI0 fun i j => .bl (decide (i ≤ j))) (rSS fun x y => !ltS y x)) := OpR.or op_le op_le_str
theorem op_gtAny {X : Cx} : OpR X (compareOp .Gt) (rOr (rI0 fun i j => .bl (decide (j < i))) (rSS fun x y => ltS y x)) := OpR.or op_gt op_gt_str
theorem op_geAny {X : Cx} : OpR X (compareOp .GtE) (rOr (rI0 fun i j => .bl (decide (j ≤ i))) (rSS fun x y => !ltS x y)) := OpR.or op_ge op_ge_str
theorem o_ord {f : D → D → Option D} {g : Int → Int → Bool} {g' : Str → Str → Bool} (hi : ∀ i j, f (.int i) (.int j) = some (.bl (g i j))) (hs : ∀ i j, f (.str i) (.str j) = some (.bl (g' i j)))
    (hn : ∀ d e t, f d e = some t → (∃ i j, d = .int i ∧ e = .int j) ∨ ∃ i j, d = .str i ∧ e = .str j) : Op2P K mg (rOr (rI0 fun i j => .bl (g i j)) (rSS g')) f := by
  intro ca F H x y d e t Q hs' rx ry h k
  rcases hn d e t h with ⟨i, j, rfl, rfl⟩ | ⟨i, j, rfl, rfl⟩
  · rw [hi] at h
    cases h
    rw [rx.int', ry.int']
    exact .inl ⟨_, _, rfl, rfl, k _ (.bl _)⟩
  · rw [hs] at h
    cases h
    obtain ⟨rfl, _, _⟩ := rx.str'
    obtain ⟨rfl, _, _⟩ := ry.str'
    exact .inr ⟨_, _, rfl, rfl, k _ (.bl _)⟩
theorem o_lt : Op2P K mg (rOr (rI0 fun i j => .bl (decide (i < j))) (rSS ltS)) dLt := o_ord (fun _ _ => rfl) (fun _ _ => rfl) fun d e t h => by
  unfold dLt at h
  split at h
  · exact .inl ⟨_, _, rfl, rfl⟩
  · exact .inr ⟨_, _, rfl, rfl⟩
  · cases h
theorem o_le : Op2P K mg (rOr (rI0 fun i j => .bl (decide (i ≤ j))) (rSS fun x y => !ltS y x)) dLe := o_ord (fun _ _ => rfl) (fun _ _ => rfl) fun d e t h => by
  unfold dLe at h
  split at h
  · exact .inl ⟨_, _, rfl, rfl⟩
  · exact .inr ⟨_, _, rfl, rfl⟩
  · cases h
theorem o_gt : Op2P K mg (rOr (rI0 fun i j => .bl (decide (j < i))) (rSS fun x y => ltS y x)) dGt := o_ord (fun _ _ => rfl) (fun _ _ => rfl) fun d e t h => by
  unfold dGt at h
  split at h
  · exact .inl ⟨_, _, rfl, rfl⟩
  · exact .inr ⟨_, _, rfl, rfl⟩
  · cases h
theorem o_ge : Op2P K mg (rOr (rI0 fun i j => .bl (decide (j ≤ i))) (rSS fun x y => !ltS x y)) dGe := o_ord (fun _ _ => rfl) (fun _ _ => rfl) fun d e t h => by
  unfold dGe at h
  split at h
  · exact .inl ⟨_, _, rfl, rfl⟩
  · exact .inr ⟨_, _, rfl, rfl⟩
  · cases h

end
end HC
end
section
set_option Elab.async false
set_option linter.all false
set_option maxRecDepth 100000
set_option autoImplicit false
namespace HC
open PySem L2 PyProof.Rows
/-! ### what a value shows, through its cells -/
def mapO {α β : Type} (f : α → Option β) : List α → Option (List β)
  | [] => some []
  | x :: xs => match f x with
    | none => none
    | some p => match mapO f xs with
      | none => none
      | some ps => some (p :: ps)
def leaf : D → Option PyData
  | .non => some .none
  | .bl b => some (.bool b)
  | .int i => some (.int i)
  | .str x => some (.str x)
  | _ => none
def vw (h : Hs) : Nat → D → Option PyData
  | 0, d => leaf d
  | n + 1, .tup _ xs => (match mapO (vw h n) xs with
    | some ps => some (.tuple ps)
    | none => none)
  | n + 1, .rl xs => (match mapO (vw h n) xs with
    | some ps => some (.list ps)
    | none => none)
  | n + 1, .ref c => (match h.get c with
    | some (.lst xs) => (match mapO (vw h n) xs with
      | some ps => some (.list ps)
      | none => none)
    | _ => none)
  | n + 1, d => leaf d
section
variable {X : Cx} {K : PySem.W.Frag} {mg : Str → Option Value} {W : WX} {ca : List Addr} {F H : Hp} {σ : St} {env : Env} {h : Hs} {v : V} {d : D}
theorem leaf_dp {p : PyData} (n : Nat) (r : RepD K mg ca F v d) (e : leaf d = some p) : Dp K H v p ∧ p.canLay0 = true ∧ p.depth ≤ n := by
  cases d with
  | non => cases e; rw [r.non']; exact ⟨.non, rfl, Nat.zero_le _⟩
  | bl b => cases e; rw [r.bl']; exact ⟨.bl b, rfl, Nat.zero_le _⟩
  | int i => cases e; rw [r.int']; exact ⟨.int i, rfl, Nat.zero_le _⟩
  | str x => cases e; obtain ⟨rfl, _, o⟩ := r.str'; exact ⟨.str x, by simpa [PyData.canLay0] using o, Nat.zero_le _⟩
  | _ => cases e
theorem mapO_dp {f : D → Option PyData} {n : Nat} (ih : ∀ (d : D) (v : V) (p : PyData), RepD K mg ca F v d → f d = some p → Dp K H v p ∧ p.canLay0 = true ∧ p.depth ≤ n) :
    ∀ (ds : List D) (vs : List V) (ps : List PyData), RepDs K mg ca F vs ds → mapO f ds = some ps → DpAll K H vs ps ∧ PyData.canLayAll0 ps = true ∧ PyData.depthAll ps ≤ n
  | [], _, _, r, e => by cases r; cases e; exact ⟨.nil, rfl, Nat.zero_le _⟩
  | d :: ds, _, _, r, e => by
    cases r with
    | cons r1 r2 =>
      unfold mapO at e
      split at e
      · cases e
      · rename_i p e1
        split at e
        · cases e
        · rename_i ps e2
          cases e
          obtain ⟨a1, a2, a3⟩ := ih _ _ _ r1 e1
          obtain ⟨b1, b2, b3⟩ := mapO_dp ih ds _ _ r2 e2
          exact ⟨.cons a1 b1, by simp [PyData.canLayAll0, a2, b2], by simp only [PyData.depthAll]; exact Nat.max_le.mpr ⟨a3, b3⟩⟩
theorem vw_dp (S : Sim K mg ca F H σ env h) : ∀ (n : Nat) (d : D) (v : V) (p : PyData), RepD K mg ca F v d → vw h n d = some p → Dp K H v p ∧ p.canLay0 = true ∧ p.depth ≤ n
  | 0, d, v, p, r, e => leaf_dp 0 r e
  | n + 1, d, v, p, r, e => by
    cases d with
    | tup t xs =>
      simp only [vw] at e
      split at e
      · rename_i ps e1
        cases e
        obtain ⟨a, vs, rfl, q, l, r⟩ := r.tup'
        obtain ⟨h1, h2, h3⟩ := mapO_dp (fun d v p => vw_dp S n d v p) xs vs ps r e1
        exact ⟨.tup (SqT.mono S.sub q) h1, by simpa [PyData.canLay0] using h2, by simp [PyData.depth]; exact h3⟩
      · cases e
    | rl xs =>
      simp only [vw] at e
      split at e
      · rename_i ps e1
        cases e
        obtain ⟨a, vs, rfl, q, l, r⟩ := r.rl'
        obtain ⟨h1, h2, h3⟩ := mapO_dp (fun d v p => vw_dp S n d v p) xs vs ps r e1
        exact ⟨.lst (SqL.mono S.sub q) h1, by simpa [PyData.canLay0] using h2, by simp [PyData.depth]; exact h3⟩
      · cases e
    | ref c =>
      simp only [vw] at e
      split at e
      · rename_i xs g
        split at e
        · rename_i ps e1
          cases e
          obtain ⟨a, vs, rfl, _, q, l, r⟩ := S.lst r g
          obtain ⟨h1, h2, h3⟩ := mapO_dp (fun d v p => vw_dp S n d v p) xs vs ps r e1
          exact ⟨.lst (sql_of q) h1, by simpa [PyData.canLay0] using h2, by simp [PyData.depth]; exact h3⟩
        · cases e
      · cases e
    | non => exact leaf_dp (n + 1) r e
    | bl b => exact leaf_dp (n + 1) r e
    | int i => exact leaf_dp (n + 1) r e
    | str x => exact leaf_dp (n + 1) r e
    | fn x => cases e
    | ty x => cases e
    | cls x => cases e
    | rep x => cases e
/-! ### ==, != -/
/-- a text: its own signs, or those of what is shown -/
def D.txt : D → Option Str
  | .rep p => some p.shown
  | .str x => some x
  | _ => none
def eqv (h : Hs) (d e : D) : Option Bool := match d.txt, e.txt with
  | some x, some y => some (decide (x = y))
  | _, _ => match vw h 60 d, vw h 60 e with
    | some p, some q => some (PyData.eqv p q)
    | _, _ => none
theorem RepD.txt' {x : Str} (r : RepD K mg ca F v d) (e : d.txt = some x) : v = .str x := by
  cases d with
  | rep p => cases e; cases r; rfl
  | str y => cases e; cases r; rfl
  | _ => cases e
def dEq : Hs → D → D → Rs D := fun h d e => match eqv h d e with
  | some b => .ok (.bl b) h
  | none => .no
def dNe : Hs → D → D → Rs D := fun h d e => match eqv h d e with
  | some b => .ok (.bl (!b)) h
  | none => .no
theorem eqv_cases {e : D} {b : Bool} (q : eqv h d e = some b) : (∃ x y, d.txt = some x ∧ e.txt = some y ∧ b = decide (x = y)) ∨ ∃ p q, vw h 60 d = some p ∧ vw h 60 e = some q ∧ b = PyData.eqv p q := by
  unfold eqv at q
  split at q
  · rename_i e1 e2; cases q; exact .inl ⟨_, _, e1, e2, rfl⟩
  · split at q
    · cases q; exact .inr ⟨_, _, by assumption, by assumption, rfl⟩
    · cases q
theorem op_eqAny {X : Cx} (hu : X.A.units + 64 < cLine) : OpR X (compareOp .Eq) (rOr rEq (rEqD X.K)) := OpR.or op_eq (op_eqD hu)
theorem op_neAny {X : Cx} (hu : X.A.units + 64 < cLine) : OpR X (compareOp .NotEq) (rOr rNe (rNeD X.K)) := OpR.or op_ne (op_neD hu)
theorem shaped_of {p : PyData} (h1 : p.canLay0 = true) (h2 : p.depth ≤ 60) : SeqAt.shaped p = true := by
  unfold SeqAt.shaped
  rw [h1, Bool.true_and]
  exact decide_eq_true (by omega)
theorem o_eq : Op2S K mg W (rOr rEq (rEqD K)) dEq := by
  intro ca F H σ env h x y d e Q S rx ry z
  unfold dEq at z
  split at z
  · rename_i b hb
    have k := Aft.ok (h := h) z S
    rcases eqv_cases hb with ⟨p, q, z1, z2, rfl⟩ | ⟨p, q, h1, h2, rfl⟩
    · rw [rx.txt' z1, ry.txt' z2]
      refine .inl ⟨rfl, ?_⟩
      have e : decide (V.str p = V.str q) = decide (p = q) := by simp
      rw [e]
      exact k _ (.bl _)
    · obtain ⟨a1, a2, a3⟩ := vw_dp S 60 d x p rx h1
      obtain ⟨b1, b2, b3⟩ := vw_dp S 60 e y q ry h2
      exact .inr ⟨_, _, a1, b1, shaped_of a2 a3, shaped_of b2 b3, k _ (.bl _)⟩
  · exact z.elim
theorem o_ne : Op2S K mg W (rOr rNe (rNeD K)) dNe := by
  intro ca F H σ env h x y d e Q S rx ry z
  unfold dNe at z
  split at z
  · rename_i b hb
    have k := Aft.ok (h := h) z S
    rcases eqv_cases hb with ⟨p, q, z1, z2, rfl⟩ | ⟨p, q, h1, h2, rfl⟩
    · rw [rx.txt' z1, ry.txt' z2]
      refine .inl ⟨rfl, ?_⟩
      have e : decide (V.str p = V.str q) = decide (p = q) := by simp
      rw [e]
      exact k _ (.bl _)
    · obtain ⟨a1, a2, a3⟩ := vw_dp S 60 d x p rx h1
      obtain ⟨b1, b2, b3⟩ := vw_dp S 60 e y q ry h2
      exact .inr ⟨_, _, a1, b1, shaped_of a2 a3, shaped_of b2 b3, k _ (.bl _)⟩
  · exact z.elim
/-! ### is -/
def D.isNon : D → Bool
  | .non => true
  | _ => false
def dIs (d e : D) : Option D := match e with
  | .non => some (.bl d.isNon)
  | _ => none
def dIsNot (d e : D) : Option D := match e with
  | .non => some (.bl (!d.isNon))
  | _ => none
theorem non_iff (r : RepD K mg ca F v d) : decide (v = V.non) = d.isNon := by
  cases r <;> simp [D.isNon]
def rIsN : R2 := fun x y H Q => y = .non ∧ Q (.bl (decide (x = .non))) H
def rNotN : R2 := fun x y H Q => y = .non ∧ Q (.bl (!decide (x = .non))) H
theorem op_isAny {X : Cx} : OpR X (compareOp .Is) rIsN := op_isN
theorem op_isNotAny {X : Cx} : OpR X (compareOp .IsNot) rNotN := op_notN
theorem o_is : Op2P K mg rIsN dIs := by
  intro ca F H x y d e t Q hs rx ry h k
  unfold dIs at h
  split at h
  · cases h
    rw [ry.non']
    refine ⟨rfl, ?_⟩
    rw [non_iff rx]
    exact k _ (.bl _)
  · cases h
theorem o_isNot : Op2P K mg rNotN dIsNot := by
  intro ca F H x y d e t Q hs rx ry h k
  unfold dIsNot at h
  split at h
  · cases h
    rw [ry.non']
    refine ⟨rfl, ?_⟩
    rw [non_iff rx]
    exact k _ (.bl _)
  · cases h
/-! ### + -/
def dAdd : Hs → D → D → Rs D := fun h d e => match d, e with
  | .int i, .int j => .ok (.int (i + j)) h
  | .str x, .str y => if x.length + y.length ≤ sizeLine then .ok (.str (x ++ y)) h else .no
  | .tup _ xs, .tup _ ys => if xs.length + ys.length ≤ sizeLine then .ok (.tup .any (xs ++ ys)) h else .no
  | .ref c, .ref c' => (match h.get c, h.get c' with
    | some (.lst xs), some (.lst ys) => if xs.length + ys.length ≤ sizeLine then mk (.lst (xs ++ ys)) h else .no
    | _, _ => .no)
  | _, _ => .no
def rAddS : R2 := fun x y H Q => ∃ i j, x = .str i ∧ y = .str j ∧ i.length + j.length ≤ sizeLine ∧ Q (.str (i ++ j)) H
def rAdd (K : PySem.W.Frag) : R2 := fun x y H Q => ((rI0 fun i j => .int (i + j)) x y H Q ∨ rAddS x y H Q) ∨ (rCat x y H Q ∨ rCatA K x y H Q)
theorem op_addAny {X : Cx} : OpR X (binaryOp .Add) (rAdd X.K) := OpR.or (OpR.or op_add op_add_str) (OpR.or op_cat op_catA)
theorem strOk_append {x y : Str} (hx : PyData.strOk x = true) (hy : PyData.strOk y = true) : PyData.strOk (x ++ y) = true := by
  unfold PyData.strOk at hx hy ⊢
  show (x.cps ++ y.cps).all _ = true
  rw [Array.all_append, hx, hy]
  rfl
theorem length_append (x y : Str) : (x ++ y).length = x.length + y.length := by
  show (x.cps ++ y.cps).size = _
  rw [Array.size_append]
  rfl
/-- a new tuple -/
theorem new_tup {t : TK} {ds : List D} {vs : List V} {Q : VK} (S : Sim K mg ca F H σ env h) (x : Aft K mg W ca F H σ env (.ok (.tup t ds) h) (fun t ca' F' H' _ => ∀ v, RepD K mg ca' F' v t → Q v H')) (ht : t = .any ∨ t = .ex) (rs : RepDs K mg ca F vs ds) (hz : vs.length ≤ sizeLine) {p : Addr} (hp : H p = none) :
    Q (.ref p) (upd H p (.tup vs)) := by
  obtain ⟨S2, L2⟩ := S.tup (o := .tup vs) hp
  refine x _ _ _ L2 S2 _ ?_
  rcases ht with rfl | rfl
  · exact .tup (t := .any) (.inl (.inl upd_same)) hz (RepDs.mono L2.ff .refl _ _ rs)
  · exact .tup (t := .ex) (show TupAt _ _ .ex _ _ from upd_same) hz (RepDs.mono L2.ff .refl _ _ rs)
theorem o_add : Op2S K mg W (rAdd K) dAdd := by
  intro ca F H σ env h x y d e Q S rx ry z
  unfold dAdd at z
  split at z
  · have k := Aft.ok (h := h) z S
    rw [rx.int', ry.int']
    exact .inl (.inl ⟨_, _, rfl, rfl, k _ (.int _)⟩)
  · split at z
    · rename_i hl
      have k := Aft.ok (h := h) z S
      obtain ⟨rfl, l1, o1⟩ := rx.str'
      obtain ⟨rfl, l2, o2⟩ := ry.str'
      exact .inl (.inr ⟨_, _, rfl, rfl, hl, k _ (.str _ (by rw [length_append]; exact hl) (strOk_append o1 o2))⟩)
    · exact z.elim
  · split at z
    · rename_i hl
      have k := Aft.ok (h := h) z S
      obtain ⟨a, vs, rfl, q1, l1, r1⟩ := rx.tup'
      obtain ⟨b, us, rfl, q2, l2, r2⟩ := ry.tup'
      have hz : vs.length + us.length ≤ sizeLine := by rw [RepDs.length r1, RepDs.length r2]; exact hl
      refine .inr (.inr ⟨a, b, vs, us, rfl, rfl, SqT.mono S.sub q1, SqT.mono S.sub q2, hz, fun e => ?_, fun _ e => ?_, fun _ _ p hp => new_tup S z (.inl rfl) (RepDs.append r1 r2) (by rw [List.length_append]; exact hz) hp⟩)
      · subst e
        cases r1
        exact k _ (RepD.anyT ry)
      · subst e
        cases r2
        rw [List.append_nil] at k
        exact k _ (RepD.anyT rx)
    · exact z.elim
  · split at z
    · rename_i g1 g2
      split at z
      · rename_i hl
        obtain ⟨a, vs, rfl, _, q1, l1, r1⟩ := S.lst rx g1
        obtain ⟨b, us, rfl, _, q2, l2, r2⟩ := S.lst ry g2
        have hz : vs.length + us.length ≤ sizeLine := by rw [RepDs.length r1, RepDs.length r2]; exact hl
        exact .inr (.inl ⟨a, b, vs, us, rfl, rfl, q1, q2, hz, fun p hp => mk_lst S z (RepDs.append r1 r2) (by rw [List.length_append]; exact hz) hp⟩)
      · exact z.elim
    · exact z.elim
  · exact z.elim
end
end HC
end
section
set_option Elab.async false
set_option linter.all false
set_option maxRecDepth 100000
set_option autoImplicit false
namespace HC
open PySem L2 PyProof.Rows
section
variable {X : Cx} {K : PySem.W.Frag} {mg : Str → Option Value} {W : WX} {ca : List Addr} {F H : Hp} {σ : St} {env : Env} {h : Hs} {v : V} {d : D}
/-! ### an item -/
def dIx : Hs → D → D → Rs D := fun h d e => match d, e with
  | .rl xs, .int i => (match atI xs i with
    | some t => .ok t h
    | none => .no)
  | .tup _ xs, .int i => (match atI xs i with
    | some t => .ok t h
    | none => .no)
  | .ref c, .int i => (match h.get c with
    | some (.lst xs) => (match atI xs i with
      | some t => .ok t h
      | none => .no)
    | _ => .no)
  | .str z, .int i => (match atI z.cps.toList i with
    | some c => .ok (.str ⟨#[c]⟩) h
    | none => .no)
  | _, _ => .no
def rIxAll (K : PySem.W.Frag) : R2 := fun x y H Q => (rIxL K x y H Q ∨ rIxT K x y H Q) ∨ rIxS x y H Q
theorem ix_all {X : Cx} : IxR X (rIxAll X.K) := IxR.or (IxR.or ix_list ix_tup) ix_str
theorem RepDs.atI {vs : List V} {ds : List D} {i : Int} {d : D} (r : RepDs K mg ca F vs ds) (h : L2.atI ds i = some d) : ∃ v, L2.atI vs i = some v ∧ RepD K mg ca F v d := by
  unfold L2.atI at h ⊢
  rw [RepDs.length r]
  cases e : ixN ds.length i with
  | none => rw [e] at h; cases h
  | some j =>
    rw [e] at h
    obtain ⟨v, e1, r1⟩ := RepDs.get r h
    exact ⟨v, e1, r1⟩
theorem o_ix : Op2S K mg W (rIxAll K) dIx := by
  intro ca F H σ env h x y d e Q S rx ry z
  unfold dIx at z
  split at z
  · split at z
    · rename_i t hd
      obtain ⟨a, vs, rfl, q, l, r⟩ := rx.rl'
      obtain ⟨v, hv, rv⟩ := RepDs.atI r hd
      rw [ry.int']
      exact .inl (.inl ⟨a, vs, _, v, rfl, rfl, SqL.mono S.sub q, hv, Aft.ok (h := h) z S _ rv⟩)
    · exact z.elim
  · split at z
    · rename_i t hd
      obtain ⟨a, vs, rfl, q, l, r⟩ := rx.tup'
      obtain ⟨v, hv, rv⟩ := RepDs.atI r hd
      rw [ry.int']
      exact .inl (.inr ⟨a, vs, _, v, rfl, rfl, SqT.mono S.sub q, hv, Aft.ok (h := h) z S _ rv⟩)
    · exact z.elim
  · split at z
    · rename_i g
      split at z
      · rename_i t hd
        obtain ⟨a, vs, rfl, _, q, l, r⟩ := S.lst rx g
        obtain ⟨v, hv, rv⟩ := RepDs.atI r hd
        rw [ry.int']
        exact .inl (.inl ⟨a, vs, _, v, rfl, rfl, sql_of q, hv, Aft.ok (h := h) z S _ rv⟩)
      · exact z.elim
    · exact z.elim
  · split at z
    · rename_i c hc
      obtain ⟨rfl, l, o⟩ := rx.str'
      rw [ry.int']
      refine .inr ⟨_, _, c, rfl, rfl, l, hc, Aft.ok (h := h) z S _ (.str _ (by show 1 ≤ sizeLine; decide) ?_)⟩
      obtain ⟨j, _, hj, _⟩ := atI_get hc
      exact sign_ok (i := j) o (by rw [← Array.getElem?_toList]; exact hj)
    · exact z.elim
  · exact z.elim
theorem ee_ix {a b : Expr} {ta tb : TE} {ea eb : Ev} {pos : Pos} (ha : EE X W a ta ea) (hb : EE X W b tb eb) (hp : PlainIx b := by exact fun _ _ => rfl) : EE X W (.Subscript a b pos) (tOp (rIxAll X.K) ta tb) (e2 dIx ea eb) := ⟨pe_ix ix_all ha.pe hb.pe hp, snd_e2 o_ix ha.snd hb.snd⟩
/-! ### slices -/
abbrev Ov := Env → Hs → Rs (Option Int)
def oNo : Ov := fun _ h => .ok none h
def oAt (e : Ev) : Ov := fun env h => (e env h).bind fun d h1 => match d with
  | .int i => .ok (some i) h1
  | _ => .no
def SndO (K : PySem.W.Frag) (mg : Str → Option Value) (W : WX) (to : TO) (ov : Ov) : Prop := ∀ ca F H σ env h Q, Sim K mg ca F H σ env h → Aft K mg W ca F H σ env (ov env h) (fun o _ _ H' _ => Q o H') → to σ H Q
structure EO (X : Cx) (W : WX) (e : Option Expr) (to : TO) (ov : Ov) : Prop where
  po : PO X e to
  snd : SndO X.K X.mg W to ov
theorem eo_no : EO X W none tNoPart oNo := ⟨po_none, fun ca F H σ env h Q S x => Aft.ok (h := h) x S⟩
theorem eo_at {e : Expr} {te : TE} {ev : Ev} (he : EE X W e te ev) : EO X W (some e) (tPart te) (oAt ev) := ⟨po_some he.pe, fun ca F H σ env h Q S x => by
  refine he.snd ca F H σ env h _ S ((Aft.bind x).mono fun d ca1 F1 H1 h1 _ L1 S1 y v rv => ?_)
  cases d with
  | int i => exact ⟨i, rv.int', Aft.ok (h := h1) y S1⟩
  | _ => exact False.elim y⟩
def cutD {α : Type} (xs : List α) (lo hi : Option Int) : List α := (xs.drop (HT.sIx xs.length 0 lo)).take (HT.sIx xs.length xs.length hi - HT.sIx xs.length 0 lo)
def dSl (h : Hs) (d : D) (lo hi : Option Int) : Rs D := match d with
  | .rl xs => mk (.lst (cutD xs lo hi)) h
  | .ref c => (match h.get c with
    | some (.lst xs) => mk (.lst (cutD xs lo hi)) h
    | _ => .no)
  | .tup _ xs => .ok (.tup .any (cutD xs lo hi)) h
  | .str z => .ok (.str (cutS z lo hi)) h
  | _ => .no
def eSl (a : Ev) (lo hi : Ov) : Ev := fun env h => (a env h).bind fun d h1 => (lo env h1).bind fun l h2 => (hi env h2).bind fun u h3 => dSl h3 d l u
def rSlAll (K : PySem.W.Frag) : V → Option Int → Option Int → Hp → VK → Prop := fun x lo hi H Q => (rSlL K x lo hi H Q ∨ rSlA K x lo hi H Q) ∨ rSlS x lo hi H Q
theorem sl_all {X : Cx} : SlR X (rSlAll X.K) := SlR.or (SlR.or sl_list sl_tupA) sl_str
theorem RepDs.cut {vs : List V} {ds : List D} (r : RepDs K mg ca F vs ds) (lo hi : Option Int) : RepDs K mg ca F (cutV vs lo hi) (cutD ds lo hi) := by
  unfold cutV cutD
  rw [RepDs.length r]
  exact RepDs.take _ (RepDs.drop _ r)
theorem strOk_cut {z : Str} (h : PyData.strOk z = true) (lo hi : Option Int) : PyData.strOk (cutS z lo hi) = true := by
  unfold PyData.strOk at h ⊢
  rw [Array.all_eq_true_iff_forall_mem] at h ⊢
  intro c hc
  refine h c ?_
  unfold cutS at hc
  have hc' : c ∈ (z.cps.toList.drop (HT.sIx z.length 0 lo)).take (HT.sIx z.length z.length hi - HT.sIx z.length 0 lo) := by simpa using hc
  exact Array.mem_toList_iff.mp (List.mem_of_mem_drop (List.mem_of_mem_take hc'))
theorem o_sl {x : V} {lo hi : Option Int} {Q : VK} (S : Sim K mg ca F H σ env h) (rx : RepD K mg ca F x d) (z : Aft K mg W ca F H σ env (dSl h d lo hi) (fun t ca' F' H' _ => ∀ v, RepD K mg ca' F' v t → Q v H')) : rSlAll K x lo hi H Q := by
  unfold dSl at z
  split at z
  · obtain ⟨a, vs, rfl, q, l, r⟩ := rx.rl'
    exact .inl (.inl ⟨a, vs, rfl, SqL.mono S.sub q, fun p hp => mk_lst S z (RepDs.cut r lo hi) (Nat.le_trans (cutV_length vs lo hi) l) hp⟩)
  · split at z
    · rename_i g
      obtain ⟨a, vs, rfl, _, q, l, r⟩ := S.lst rx g
      exact .inl (.inl ⟨a, vs, rfl, sql_of q, fun p hp => mk_lst S z (RepDs.cut r lo hi) (Nat.le_trans (cutV_length vs lo hi) l) hp⟩)
    · exact z.elim
  · rename_i tk ds
    obtain ⟨a, vs, rfl, q, l, r⟩ := rx.tup'
    refine .inl (.inr ⟨a, vs, rfl, SqT.mono S.sub q, fun hw => ?_, fun _ p hp => new_tup S z (.inl rfl) (RepDs.cut r lo hi) (Nat.le_trans (cutV_length vs lo hi) l) hp⟩)
    have e : cutD ds lo hi = ds := by
      unfold cutD
      rw [← RepDs.length r, hw.1, hw.2, List.drop_zero, Nat.sub_zero, List.take_of_length_le (by rw [RepDs.length r]; exact Nat.le_refl _)]
    have k := Aft.ok (h := h) z S
    rw [e] at k
    exact k _ rx.anyT
  · obtain ⟨rfl, l, o⟩ := rx.str'
    exact .inr ⟨_, rfl, l, Aft.ok (h := h) z S _ (.str _ (Nat.le_trans (cutS_length _ lo hi) l) (strOk_cut o lo hi))⟩
  · exact z.elim
theorem ee_sl {e : Expr} {lo hi : Option Expr} {te : TE} {tl th : TO} {ea : Ev} {ol oh : Ov} {pos p2 : Pos} (ha : EE X W e te ea) (hl : EO X W lo tl ol) (hh : EO X W hi th oh) : EE X W (.Subscript e (.Slice lo hi none p2) pos) (tSl (rSlAll X.K) te tl th) (eSl ea ol oh) := by
  refine ⟨pe_slice sl_all ha.pe hl.po hh.po, ?_⟩
  intro ca F H σ env h Q S x
  refine ha.snd ca F H σ env h _ S ((Aft.bind x).mono fun d ca1 F1 H1 h1 _ L1 S1 y v rv => ?_)
  refine hl.snd ca1 F1 H1 σ env h1 _ S1 ((Aft.bind y).mono fun l ca2 F2 H2 h2 _ L2 S2 y2 => ?_)
  refine hh.snd ca2 F2 H2 σ env h2 _ S2 ((Aft.bind y2).mono fun u ca3 F3 H3 h3 _ L3 S3 y3 => ?_)
  exact o_sl S3 (RepD.mono (L2.ff.trans L3.ff) (L2.pre.trans L3.pre) _ _ rv) y3
/-! ### methods of a list -/
def OpMS (K : PySem.W.Frag) (mg : Str → Option Value) (W : WX) (r : V → List V → Hp → VK → Prop) (f : Hs → D → List D → Rs D) : Prop := ∀ ca F H σ env h x xs d ds Q, Sim K mg ca F H σ env h → RepD K mg ca F x d → RepDs K mg ca F xs ds →
  Aft K mg W ca F H σ env (f h d ds) (fun t ca' F' H' _ => ∀ v, RepD K mg ca' F' v t → Q v H') → r x xs H Q
def isL (h : Hs) : D → Bool
  | .ref c => (match h.get c with
    | some (.lst _) => true
    | _ => false)
  | _ => false
theorem isL_of (S : Sim K mg ca F H σ env h) (r : RepD K mg ca F v d) (e : isL h d = true) : tyV K "list" v H := by
  cases d with
  | ref c =>
    unfold isL at e
    dsimp only at e
    split at e
    · rename_i g
      obtain ⟨a, vs, rfl, _, q, _, _⟩ := S.lst r g
      exact .inl ⟨rfl, vs, sql_of q⟩
    · cases e
  | _ => cases e
def eBM (f : Hs → D → List D → Rs D) (o : Ev) (a : Av) : Ev := fun env h => (o env h).bind fun d h1 => if isL h1 d = true then (a env h1).bind fun ds h2 => f h2 d ds else .no
theorem snd_bm {r : V → List V → Hp → VK → Prop} {f : Hs → D → List D → Rs D} {to : TE} {ta : TA} {ov : Ev} {av : Av} (hf : OpMS K mg W r f) (ho : SndE K mg W to ov) (ha : SndA K mg W ta av) : SndE K mg W (tBM K "list" r to ta) (eBM f ov av) := by
  intro ca F H σ env h Q S x
  refine ho ca F H σ env h _ S ((Aft.bind x).mono fun d ca1 F1 H1 h1 _ L1 S1 y v rv => ?_)
  split at y
  · rename_i e
    refine ⟨isL_of S1 rv e, ha ca1 F1 H1 σ env h1 _ S1 ((Aft.bind y).mono fun ds ca2 F2 H2 h2 _ L2 S2 y2 vs rs => ?_)⟩
    exact hf ca2 F2 H2 σ env h2 v vs d ds Q S2 (RepD.mono L2.ff L2.pre _ _ rv) rs y2
  · exact y.elim
theorem snd_bm0 {r : V → List V → Hp → VK → Prop} {f : Hs → D → List D → Rs D} {to : TE} {ov : Ev} (hf : OpMS K mg W r f) (ho : SndE K mg W to ov) : SndE K mg W (tBM0 K "list" r to) (eBM f ov aNil) := by
  intro ca F H σ env h Q S x
  refine ho ca F H σ env h _ S ((Aft.bind x).mono fun d ca1 F1 H1 h1 _ L1 S1 y v rv => ?_)
  split at y
  · rename_i e
    exact ⟨isL_of S1 rv e, hf ca1 F1 H1 σ env h1 v [] d [] Q S1 rv .nil y⟩
  · exact y.elim
/-- a list's cell is written -/
def wr (c : Nat) (xs : List D) (t : D) (h : Hs) : Rs D := if h.bar c (.lst xs) = true then .ok t (h.set c (.lst xs)) else .no
theorem wr_lst {c : Nat} {a : Addr} {xs : List D} {t : D} {vs : List V} {u : V} {Q : VK} (S : Sim K mg ca F H σ env h) (z : Aft K mg W ca F H σ env (wr c xs t h) (fun t ca' F' H' _ => ∀ v, RepD K mg ca' F' v t → Q v H')) (ha : ca[c]? = some a) (r : RepDs K mg ca F vs xs) (hl : vs.length ≤ sizeLine) (ru : RepD K mg ca F u t) :
    Q u (upd H a (.lst vs)) := by
  unfold wr at z
  split at z
  · rename_i hb
    obtain ⟨S2, L2⟩ := S.write (u := .lst vs) (o := .lst xs) hb ha ⟨vs, upd_same, hl, r⟩
    exact z _ _ _ L2 S2 _ (RepD.mono L2.ff L2.pre _ _ ru)
  · exact z.elim
def dApp : Hs → D → List D → Rs D := fun h d ds => match d, ds with
  | .ref c, [e] => (match h.get c with
    | some (.lst xs) => if xs.length < sizeLine then wr c (xs ++ [e]) .non h else .no
    | _ => .no)
  | _, _ => .no
theorem RepDs.one {vs : List V} {d : D} (h : RepDs K mg ca F vs [d]) : ∃ v, vs = [v] ∧ RepD K mg ca F v d := by
  cases h with
  | cons h1 h2 => cases h2; exact ⟨_, rfl, h1⟩
theorem RepDs.two {vs : List V} {d e : D} (h : RepDs K mg ca F vs [d, e]) : ∃ v u, vs = [v, u] ∧ RepD K mg ca F v d ∧ RepD K mg ca F u e := by
  cases h with
  | cons h1 h2 => obtain ⟨u, rfl, h3⟩ := RepDs.one h2; exact ⟨_, _, rfl, h1, h3⟩
theorem m_app : OpMS K mg W rAppend dApp := by
  intro ca F H σ env h x xs d ds Q S rx rs z
  unfold dApp at z
  split at z
  · split at z
    · rename_i g
      split at z
      · rename_i hl
        obtain ⟨a, vs, rfl, ha, q, l, r⟩ := S.lst rx g
        obtain ⟨y, rfl, ry⟩ := rs.one
        have hz : vs.length < sizeLine := by rw [RepDs.length r]; exact hl
        exact ⟨a, vs, y, rfl, rfl, q, hz, wr_lst S z ha (RepDs.snoc r ry) (by rw [List.length_append, List.length_singleton]; exact hz) .non⟩
      · exact z.elim
    · exact z.elim
  · exact z.elim
def dPop : Hs → D → List D → Rs D := fun h d ds => match d, ds with
  | .ref c, [] => (match h.get c with
    | some (.lst xs) => (match xs[xs.length - 1]? with
      | some t => wr c xs.dropLast t h
      | none => .no)
    | _ => .no)
  | _, _ => .no
theorem RepDs.dropLast {vs : List V} {ds : List D} (r : RepDs K mg ca F vs ds) : RepDs K mg ca F vs.dropLast ds.dropLast := by
  rw [List.dropLast_eq_take, List.dropLast_eq_take, RepDs.length r]
  exact RepDs.take _ r
theorem m_pop : OpMS K mg W rPop dPop := by
  intro ca F H σ env h x xs d ds Q S rx rs z
  unfold dPop at z
  split at z
  · split at z
    · rename_i g
      split at z
      · rename_i t e
        obtain ⟨a, vs, rfl, ha, q, l, r⟩ := S.lst rx g
        cases rs
        obtain ⟨y, ey, ry⟩ := RepDs.get r e
        rw [← RepDs.length r] at ey
        exact ⟨a, vs, y, rfl, rfl, q, ey, wr_lst S z ha r.dropLast (by rw [List.length_dropLast]; omega) ry⟩
      · exact z.elim
    · exact z.elim
  · exact z.elim
end
end HC
end
section
set_option Elab.async false
set_option linter.all false
set_option maxRecDepth 100000
set_option autoImplicit false
namespace HC
open PySem L2 PyProof.Rows
/-! ### built-in functions that only look -/
def OpNR (K : PySem.W.Frag) (mg : Str → Option Value) (r : List V → Hp → VK → Prop) (f : Hs → List D → Option D) : Prop := ∀ (ca : List Addr) (F H : Hp) (σ : St) (env : Env) (h : Hs) (xs : List V) (ds : List D) (t : D) (Q : VK), Sim K mg ca F H σ env h → RepDs K mg ca F xs ds → f h ds = some t →
  (∀ v, RepD K mg ca F v t → Q v H) → r xs H Q
def pN (f : Hs → List D → Option D) : Hs → List D → Rs D := fun h ds => match f h ds with
  | some t => .ok t h
  | none => .no
section
variable {X : Cx} {K : PySem.W.Frag} {mg : Str → Option Value} {W : WX} {ca : List Addr} {F H : Hp} {σ : St} {env : Env} {h : Hs} {v : V} {d : D}
theorem OpNR.op {r : List V → Hp → VK → Prop} {f : Hs → List D → Option D} (o : OpNR K mg r f) : OpNS K mg W r (pN f) := by
  intro ca F H σ env h xs ds Q S rx y
  unfold pN at y
  split at y
  · rename_i t e
    exact o ca F H σ env h xs ds t Q S rx e (Aft.ok (h := h) y S)
  · exact y.elim
theorem snd_N {r : List V → Hp → VK → Prop} {f : Hs → List D → Rs D} {ta : TA} {av : Av} (hs : OpNS K mg W r f) (ha : SndA K mg W ta av) : SndE K mg W (tCB r ta) (eN f av) := by
  intro ca F H σ env h Q S x
  exact ha ca F H σ env h _ S ((Aft.bind x).mono fun ds ca1 F1 H1 h1 _ L1 S1 y vs rs => hs ca1 F1 H1 σ env h1 vs ds Q S1 rs y)
section
variable {e : Expr} {es : List Expr} {ta : TA} {av : Av} {x : Str} {p pos : Pos} {r : List V → Hp → VK → Prop} {f : Hs → List D → Rs D}
theorem ee_fun {id : String} (hc : CallR X (.builtin id) r) (hs : OpNS X.K X.mg W r f) (hm : X.mg x = none) (ha : EA X W (e :: es) ta av) (hv : bootBuiltins x = some (.builtin id) := by decide +kernel) (hg : Gl X x := by rfl) (hn : x ≠ "__name__" := by decide) (hdb : (x == ("__debug__" : Str)) = false := by decide)
    (he : starEach (e :: es) X.env = (false, eval e X.env) :: starEach es X.env := by rfl) (hpl : (backTo pos (starEach es X.env)).any (·.1) = false := by rfl) : EE X W (.Call (.Name x p) (e :: es) [] pos) (tCB r ta) (eN f av) :=
  ⟨pe_callB hc hg hm hv ha.pa hn hdb he hpl, snd_N hs ha.snd⟩
theorem ee_typ {id : String} (hc : CallR X (.type id) r) (hs : OpNS X.K X.mg W r f) (hm : X.mg x = none) (ha : EA X W (e :: es) ta av) (hv : bootBuiltins x = some (.type id) := by decide +kernel) (hg : Gl X x := by rfl) (hn : x ≠ "__name__" := by decide) (hdb : (x == ("__debug__" : Str)) = false := by decide)
    (he : starEach (e :: es) X.env = (false, eval e X.env) :: starEach es X.env := by rfl) (hpl : (backTo pos (starEach es X.env)).any (·.1) = false := by rfl) : EE X W (.Call (.Name x p) (e :: es) [] pos) (tCB r ta) (eN f av) :=
  ⟨pe_callTy hc hg hm hv ha.pa hn hdb he hpl, snd_N hs ha.snd⟩
end
/-- the items of a list -/
def seqL (h : Hs) : D → Option (List D)
  | .rl xs => some xs
  | .ref c => (match h.get c with
    | some (.lst xs) => some xs
    | _ => none)
  | _ => none
theorem seqL_of {ds : List D} (S : Sim K mg ca F H σ env h) (r : RepD K mg ca F v d) (e : seqL h d = some ds) : ∃ a vs, v = .ref a ∧ SqL K H a vs ∧ vs.length ≤ sizeLine ∧ RepDs K mg ca F vs ds := by
  cases d with
  | rl xs => cases e; obtain ⟨a, vs, rfl, q, l, r⟩ := r.rl'; exact ⟨a, vs, rfl, SqL.mono S.sub q, l, r⟩
  | ref c =>
    unfold seqL at e
    dsimp only at e
    split at e
    · rename_i g
      cases e
      obtain ⟨a, vs, rfl, _, q, l, r⟩ := S.lst r g
      exact ⟨a, vs, rfl, sql_of q, l, r⟩
    · cases e
  | _ => cases e
def lenD (h : Hs) : D → Option Nat
  | .str x => some x.length
  | .tup _ xs => some xs.length
  | d => (seqL h d).map List.length
def dLen : Hs → List D → Option D := fun h ds => match ds with
  | [d] => (match lenD h d with
    | some n => some (.int (n : Int))
    | none => none)
  | _ => none
def rLen (K : PySem.W.Frag) : List V → Hp → VK → Prop := fun xs H Q => ∃ x n, xs = [x] ∧ LenV K x H n ∧ Q (.int n) H
theorem cr_len : CallR X (.builtin "len") (rLen X.K) := call_len
theorem n_len : OpNR K mg (rLen K) dLen := by
  intro ca F H σ env h xs ds t Q S r e k
  unfold dLen at e
  split at e
  · rename_i d
    obtain ⟨v, rfl, rv⟩ := r.one
    split at e
    · rename_i n hn
      cases e
      have lst : (seqL h d).map List.length = some n → rLen K [v] H Q := fun q => by
        obtain ⟨es, q1, rfl⟩ := Option.map_eq_some_iff.mp q
        obtain ⟨a, vs, rfl, q, l, r⟩ := seqL_of S rv q1
        exact ⟨_, _, rfl, .inl ⟨vs, q, (RepDs.length r).symm⟩, k _ (.int _)⟩
      cases d with
      | str x => cases hn; obtain ⟨rfl, l, _⟩ := rv.str'; exact ⟨_, _, rfl, ⟨l, rfl⟩, k _ (.int _)⟩
      | tup _ xs => cases hn; obtain ⟨a, vs, rfl, q, l, r⟩ := rv.tup'; exact ⟨_, _, rfl, .inr ⟨vs, SqT.mono S.sub q, (RepDs.length r).symm⟩, k _ (.int _)⟩
      | _ => exact lst hn
    · cases e
  · cases e
def intsOf : List D → Option (List Int)
  | [] => some []
  | .int i :: ds => (intsOf ds).map (i :: ·)
  | _ => none
def blsOf : List D → Option (List Bool)
  | [] => some []
  | .bl i :: ds => (blsOf ds).map (i :: ·)
  | _ => none
def strsOf : List D → Option (List Str)
  | [] => some []
  | .str i :: ds => (strsOf ds).map (i :: ·)
  | _ => none
theorem intsOf_of : ∀ {ds : List D} {vs : List V} {ns : List Int}, RepDs K mg ca F vs ds → intsOf ds = some ns → vs = ns.map V.int
  | [], _, _, h, e => by cases h; cases e; rfl
  | d :: ds, _, _, h, e => by
    cases h with
    | cons h1 h2 =>
      cases d with
      | int i =>
        unfold intsOf at e
        obtain ⟨ns, e1, rfl⟩ := Option.map_eq_some_iff.mp e
        rw [h1.int', intsOf_of h2 e1]
        rfl
      | _ => cases e
theorem blsOf_of : ∀ {ds : List D} {vs : List V} {ns : List Bool}, RepDs K mg ca F vs ds → blsOf ds = some ns → vs = ns.map V.bl
  | [], _, _, h, e => by cases h; cases e; rfl
  | d :: ds, _, _, h, e => by
    cases h with
    | cons h1 h2 =>
      cases d with
      | bl i =>
        unfold blsOf at e
        obtain ⟨ns, e1, rfl⟩ := Option.map_eq_some_iff.mp e
        rw [h1.bl', blsOf_of h2 e1]
        rfl
      | _ => cases e
theorem strsOf_of : ∀ {ds : List D} {vs : List V} {ns : List Str}, RepDs K mg ca F vs ds → strsOf ds = some ns → vs = ns.map V.str ∧ ∀ x ∈ ns, x.length ≤ sizeLine ∧ PyData.strOk x = true
  | [], _, _, h, e => by cases h; cases e; exact ⟨rfl, fun _ z => nomatch z⟩
  | d :: ds, _, _, h, e => by
    cases h with
    | cons h1 h2 =>
      cases d with
      | str i =>
        unfold strsOf at e
        obtain ⟨ns, e1, rfl⟩ := Option.map_eq_some_iff.mp e
        obtain ⟨a, b⟩ := strsOf_of h2 e1
        obtain ⟨rfl, l, o⟩ := h1.str'
        rw [a]
        refine ⟨rfl, fun x hx => ?_⟩
        rcases List.mem_cons.mp hx with rfl | hx
        · exact ⟨l, o⟩
        · exact b x hx
      | _ => cases e
def on1L {α : Type} (rd : List D → Option α) (g : α → Option D) : Hs → List D → Option D := fun h ds => match ds with
  | [d] => (match seqL h d with
    | some es => (match rd es with
      | some a => g a
      | none => none)
    | none => none)
  | _ => none
theorem on1L_of {α : Type} {rd : List D → Option α} {g : α → Option D} {ds : List D} {t : D} (q : on1L rd g h ds = some t) : ∃ d es a, ds = [d] ∧ seqL h d = some es ∧ rd es = some a ∧ g a = some t := by
  unfold on1L at q
  split at q
  · split at q
    · split at q
      · exact ⟨_, _, _, rfl, by assumption, by assumption, q⟩
      · cases q
    · cases q
  · cases q
def dSum : Hs → List D → Option D := on1L intsOf fun ns => some (.int ns.sum)
def dAll : Hs → List D → Option D := on1L blsOf fun bs => some (.bl (bs.all id))
def dAny : Hs → List D → Option D := on1L blsOf fun bs => some (.bl (bs.any id))
theorem n_sum : OpNR K mg (rSum K) dSum := by
  intro ca F H σ env h xs ds t Q S r e k
  obtain ⟨d, es, ns, rfl, h1, h2, h3⟩ := on1L_of e
  cases h3
  obtain ⟨v, rfl, rv⟩ := r.one
  obtain ⟨a, vs, rfl, q, l, r⟩ := seqL_of S rv h1
  rw [intsOf_of r h2] at q
  exact ⟨a, ns, rfl, q, k _ (.int _)⟩
theorem n_all : OpNR K mg (rAll K) dAll := by
  intro ca F H σ env h xs ds t Q S r e k
  obtain ⟨d, es, ns, rfl, h1, h2, h3⟩ := on1L_of e
  cases h3
  obtain ⟨v, rfl, rv⟩ := r.one
  obtain ⟨a, vs, rfl, q, l, r⟩ := seqL_of S rv h1
  rw [blsOf_of r h2] at q
  exact ⟨a, ns, rfl, q, k _ (.bl _)⟩
theorem n_any : OpNR K mg (rAny K) dAny := by
  intro ca F H σ env h xs ds t Q S r e k
  obtain ⟨d, es, ns, rfl, h1, h2, h3⟩ := on1L_of e
  cases h3
  obtain ⟨v, rfl, rv⟩ := r.one
  obtain ⟨a, vs, rfl, q, l, r⟩ := seqL_of S rv h1
  rw [blsOf_of r h2] at q
  exact ⟨a, ns, rfl, q, k _ (.bl _)⟩
def dMax2 : Hs → List D → Option D := fun _ ds => match ds with
  | [.int i, .int j] => some (.int (if j > i then j else i))
  | _ => none
def dMin2 : Hs → List D → Option D := fun _ ds => match ds with
  | [.int i, .int j] => some (.int (if j < i then j else i))
  | _ => none
def rMm (g : Int → Int → Int) : List V → Hp → VK → Prop := fun xs H Q => ∃ i j, xs = [.int i, .int j] ∧ Q (.int (g i j)) H
theorem n_max2 : OpNR K mg (rMm fun i j => if j > i then j else i) dMax2 := by
  intro ca F H σ env h xs ds t Q S r e k
  unfold dMax2 at e
  split at e
  · cases e
    obtain ⟨v, u, rfl, r1, r2⟩ := r.two
    rw [r1.int', r2.int']
    exact ⟨_, _, rfl, k _ (.int _)⟩
  · cases e
theorem n_min2 : OpNR K mg (rMm fun i j => if j < i then j else i) dMin2 := by
  intro ca F H σ env h xs ds t Q S r e k
  unfold dMin2 at e
  split at e
  · cases e
    obtain ⟨v, u, rfl, r1, r2⟩ := r.two
    rw [r1.int', r2.int']
    exact ⟨_, _, rfl, k _ (.int _)⟩
  · cases e
def dInt : Hs → List D → Option D := fun _ ds => match ds with
  | [.int i] => some (.int i)
  | [.bl i] => some (.int (if i then 1 else 0))
  | _ => none
def rInt1 : List V → Hp → VK → Prop := fun xs H Q => (∃ i, xs = [.int i] ∧ Q (.int i) H) ∨ ∃ k, xs = [.bl k] ∧ Q (.int (if k then 1 else 0)) H
theorem n_int : OpNR K mg rInt1 dInt := by
  intro ca F H σ env h xs ds t Q S r e k
  unfold dInt at e
  split at e
  · cases e
    obtain ⟨v, rfl, rv⟩ := r.one
    rw [rv.int']
    exact .inl ⟨_, rfl, k _ (.int _)⟩
  · cases e
    obtain ⟨v, rfl, rv⟩ := r.one
    rw [rv.bl']
    exact .inr ⟨_, rfl, k _ (.int _)⟩
  · cases e
def dAbs : Hs → List D → Option D := fun _ ds => match ds with
  | [.int i] => some (.int (if i < 0 then -i else i))
  | _ => none
theorem n_abs : OpNR K mg (fun xs H Q => ∃ i, xs = [.int i] ∧ Q (.int (if i < 0 then -i else i)) H) dAbs := by
  intro ca F H σ env h xs ds t Q S r e k
  unfold dAbs at e
  split at e
  · cases e
    obtain ⟨v, rfl, rv⟩ := r.one
    rw [rv.int']
    exact ⟨_, rfl, k _ (.int _)⟩
  · cases e
/-! ### isinstance of plain kinds -/
def tyName (h : Hs) : D → Option String
  | .non => some "NoneType"
  | .bl _ => some "bool"
  | .int _ => some "int"
  | .str _ => some "str"
  | .rep _ => some "str"
  | .tup _ _ => some "tuple"
  | .rl _ => some "list"
  | .ref c => (match h.get c with
    | some (.lst _) => some "list"
    | some (.dK _) => some "dict"
    | _ => none)
  | _ => none
/-- which of the plain types is a kind of which -/
def isKind (a n : String) : Option Bool :=
  if n ∈ (["int", "bool", "str", "tuple", "list", "dict"] : List String) then
    if a = n then some true else if a = "bool" ∧ n = "int" then some true else if a ∈ (["NoneType", "bool", "int", "str", "tuple", "list", "dict"] : List String) then some false else none
  else none
theorem isKind_all : ∀ a ∈ (["NoneType", "bool", "int", "str", "tuple", "list", "dict"] : List String), ∀ n ∈ (["int", "bool", "str", "tuple", "list", "dict"] : List String), kitB a n = isKind a n := by decide +kernel
theorem isKind_kit {a n : String} {b : Bool} (ha : a ∈ (["NoneType", "bool", "int", "str", "tuple", "list", "dict"] : List String)) (h : isKind a n = some b) : kitB a n = some b := by
  have hn : n ∈ (["int", "bool", "str", "tuple", "list", "dict"] : List String) := by
    unfold isKind at h
    split at h
    · assumption
    · cases h
  rw [isKind_all a ha n hn]
  exact h
theorem tyName_mem {n : String} (q : tyName h d = some n) : n ∈ (["NoneType", "bool", "int", "str", "tuple", "list", "dict"] : List String) := by
  cases d with
  | ref c =>
    unfold tyName at q
    dsimp only at q
    split at q
    · cases q; decide
    · cases q; decide
    · cases q
  | _ => first | (cases q; decide) | cases q
theorem sqT_ty {a : Addr} {vs : List V} (h : SqT K F a vs) : TyX K F (.ref a) (.type "tuple") := by
  rcases h with (h | ⟨o, h⟩) | ⟨o, its, n, h, c, _⟩
  · exact .base (.tup h)
  · exact .fTuple h
  · exact .kTuple h c
theorem sqL_ty {a : Addr} {vs : List V} (h : SqL K F a vs) : TyX K F (.ref a) (.type "list") := by
  rcases h with (h | ⟨o, h⟩) | ⟨o, its, n, h, c, _⟩
  · exact .base (.lst h)
  · exact .base (.frz h)
  · exact .kList h c
theorem ty_of {n : String} (S : Sim K mg ca F H σ env h) (r : RepD K mg ca F v d) (q : tyName h d = some n) : TyX K H v (.type n) := by
  cases d with
  | non => cases q; rw [r.non']; exact .base .non
  | bl b => cases q; rw [r.bl']; exact .base (.bl _)
  | int b => cases q; rw [r.int']; exact .base (.int _)
  | str b => cases q; rw [r.str'.1]; exact .base (.str _)
  | rep b => cases q; rw [r.rep']; exact .base (.str _)
  | tup t b => cases q; obtain ⟨a, vs, rfl, q, l, _⟩ := r.tup'; exact sqT_ty (SqT.mono S.sub q)
  | rl b => cases q; obtain ⟨a, vs, rfl, q, l, _⟩ := r.rl'; exact sqL_ty (SqL.mono S.sub q)
  | ref c =>
    unfold tyName at q
    dsimp only at q
    split at q
    · rename_i g
      cases q
      obtain ⟨a, vs, rfl, _, q, _⟩ := S.lst r g
      exact .base (.lst q)
    · rename_i g
      cases q
      obtain ⟨a, rfl, e⟩ := r.ref'
      obtain ⟨b, e1, f, vs, q, l, _⟩ := S.obj c _ g
      rw [e] at e1
      cases e1
      exact .base (.dK q)
    · cases q
  | _ => cases q
def isAnyKind (a : String) : List D → Option Bool
  | [] => some false
  | .ty n :: r => (match isKind a n, isAnyKind a r with
    | some b, some c => some (b || c)
    | _, _ => none)
  | _ => none
def dIsi : Hs → List D → Option D := fun h ds => match ds with
  | [d, .ty n] => (match tyName h d with
    | some a => (match isKind a n with
      | some b => some (.bl b)
      | none => none)
    | none => none)
  | [d, .tup .ex ns] => (match tyName h d with
    | some a => (match isAnyKind a ns with
      | some b => some (.bl b)
      | none => none)
    | none => none)
  | _ => none
theorem anyKind_kit {a : String} (ha : a ∈ (["NoneType", "bool", "int", "str", "tuple", "list", "dict"] : List String)) : ∀ {ns : List D} {vs : List V} {b : Bool}, RepDs K mg ca F vs ns → isAnyKind a ns = some b → ∃ us, Paired ClsV vs us ∧ PySem.W.kitAny K (.type a) us = some b
  | [], _, _, h, e => by cases h; cases e; exact ⟨[], .nil, rfl⟩
  | d :: ds, _, _, h, e => by
    cases h with
    | cons h1 h2 =>
      cases d with
      | ty n =>
        rw [h1.ty']
        unfold isAnyKind at e
        split at e
        · rename_i b c hk hr
          cases e
          obtain ⟨us, hp, hu⟩ := anyKind_kit ha h2 hr
          refine ⟨.type n :: us, .cons (.ty n) hp, ?_⟩
          unfold PySem.W.kitAny
          rw [kit_ty (K := K) (isKind_kit ha hk)]
          cases b with
          | true => rfl
          | false => exact hu
        · cases e
      | _ => cases e
def rIsiAll (K : PySem.W.Frag) : List V → Hp → VK → Prop := fun xs H Q => rIsi K xs H Q ∨ rIsiT K xs H Q
theorem cr_isi {X : Cx} : CallR X (.builtin "isinstance") (rIsiAll X.K) := CallR.or call_isi call_isiT
theorem n_isi : OpNR K mg (rIsiAll K) dIsi := by
  intro ca F H σ env h xs ds t Q S r e k
  unfold dIsi at e
  split at e
  · split at e
    · rename_i a ha
      split at e
      · rename_i b hb
        cases e
        obtain ⟨v, u, rfl, r1, r2⟩ := r.two
        rw [r2.ty']
        exact .inl ⟨v, _, _, _, b, rfl, .ty _, ty_of S r1 ha, kit_ty (isKind_kit (tyName_mem ha) hb), k _ (.bl _)⟩
      · cases e
    · cases e
  · split at e
    · rename_i a ha
      split at e
      · rename_i b hb
        cases e
        obtain ⟨v, u, rfl, r1, r2⟩ := r.two
        obtain ⟨tp, cs, rfl, q, l, rc⟩ := r2.tupA
        obtain ⟨us, hp, hu⟩ := anyKind_kit (tyName_mem ha) rc hb
        exact .inr ⟨v, tp, cs, _, us, b, rfl, S.sub _ _ q, hp, ty_of S r1 ha, hu, k _ (.bl _)⟩
      · cases e
    · cases e
  · cases e
end
end HC
end
section
set_option Elab.async false
set_option linter.all false
set_option maxRecDepth 100000
set_option autoImplicit false
namespace HC
open PySem L2 PyProof.Rows
section
variable {X : Cx} {K : PySem.W.Frag} {mg : Str → Option Value} {W : WX} {ca : List Addr} {F H : Hp} {σ : St} {env : Env} {h : Hs} {v : V} {d : D}
/-! ### in -/
def inS (x y : Str) : Bool := match x.cps.toList with
  | [c] => decide (c ∈ y.cps.toList)
  | _ => !(Builtin.Str.occurrences y x 0 y.length 1).isEmpty
def D.isScal : D → Bool
  | .non => true
  | .bl _ => true
  | .int _ => true
  | .str _ => true
  | _ => false
def sPy : D → PyData
  | .bl b => .bool b
  | .int i => .int i
  | .str x => .str x
  | _ => .none
def inB (h : Hs) (d e : D) : Option Bool := match e with
  | .tup _ xs => if d.isScal = true ∧ xs.all D.isScal = true then some ((xs.map sPy).any fun z => PyData.eqv z (sPy d)) else none
  | .str y => (match d with
    | .str x => some (inS x y)
    | _ => none)
  | e => (match seqL h e, vw h 60 d with
    | some xs, some p => (match mapO (vw h 60) xs with
      | some ps => some (ps.any fun z => PyData.eqv z p)
      | none => none)
    | _, _ => none)
def dIn : Hs → D → D → Rs D := fun h d e => match inB h d e with
  | some b => .ok (.bl b) h
  | none => .no
def dNotIn : Hs → D → D → Rs D := fun h d e => match inB h d e with
  | some b => .ok (.bl (!b)) h
  | none => .no
def rInSg : R2 := fun x y H Q => ∃ (c : Nat) (z : Str), x = .str ⟨#[c]⟩ ∧ y = .str z ∧ Q (.bl (decide (c ∈ z.cps.toList))) H
def rInSt : R2 := fun x y H Q => ∃ i j, x = .str i ∧ y = .str j ∧ Q (.bl (!(Builtin.Str.occurrences j i 0 j.length 1).isEmpty)) H
def rNinSg : R2 := fun x y H Q => ∃ (c : Nat) (z : Str), x = .str ⟨#[c]⟩ ∧ y = .str z ∧ Q (.bl (!decide (c ∈ z.cps.toList))) H
def rNinSt : R2 := fun x y H Q => ∃ i j, x = .str i ∧ y = .str j ∧ Q (.bl (!(!(Builtin.Str.occurrences j i 0 j.length 1).isEmpty))) H
def rInAll (K : PySem.W.Frag) : R2 := rOr (rOr (rIn K false) (rInD K)) (rOr rInSg rInSt)
def rNinAll (K : PySem.W.Frag) : R2 := rOr (rOr (rIn K true) (rNotInD K)) (rOr rNinSg rNinSt)
theorem op_inAll {X : Cx} (hu : X.A.units + 65 < cLine) : OpR X (compareOp .In) (rInAll X.K) := OpR.or (OpR.or op_in_seq (op_inD hu)) (OpR.or op_in_sign op_in_str)
theorem op_notInAll {X : Cx} (hu : X.A.units + 65 < cLine) : OpR X (compareOp .NotIn) (rNinAll X.K) := OpR.or (OpR.or op_notIn_seq (op_notInD hu)) (OpR.or op_notIn_sign op_notIn_str)
theorem scal_flat (r : RepD K mg ca F v d) (e : d.isScal = true) : flatV v = true := by
  cases r <;> first | rfl | cases e
theorem scal_eq {u : V} {e : D} (r : RepD K mg ca F v d) (hd : d.isScal = true) (r' : RepD K mg ca F u e) (he : e.isScal = true) : eqV v u = PyData.eqv (sPy d) (sPy e) := by
  cases r <;> cases r' <;> first | exact absurd (show false = true from hd) Bool.false_ne_true | exact absurd (show false = true from he) Bool.false_ne_true | rfl | simp [eqV, sPy, PyData.eqv]
theorem scals_flat : ∀ {ds : List D} {vs : List V}, RepDs K mg ca F vs ds → ds.all D.isScal = true → vs.all flatV = true
  | [], _, r, _ => by cases r; rfl
  | d :: ds, _, r, e => by
    cases r with
    | cons r1 r2 =>
      simp only [List.all_cons, Bool.and_eq_true] at e ⊢
      exact ⟨scal_flat r1 e.1, scals_flat r2 e.2⟩
theorem inV_eq {e : D} (r' : RepD K mg ca F v e) (he : e.isScal = true) : ∀ {ds : List D} {vs : List V}, RepDs K mg ca F vs ds → ds.all D.isScal = true → inV v vs = (ds.map sPy).any fun z => PyData.eqv z (sPy e)
  | [], _, r, _ => by cases r; rfl
  | d :: ds, _, r, q => by
    cases r with
    | cons r1 r2 =>
      simp only [List.all_cons, Bool.and_eq_true] at q
      have ih := inV_eq r' he r2 q.2
      unfold inV at ih ⊢
      rw [List.any_cons, List.map_cons, List.any_cons, ih, scal_eq r1 q.1 r' he]
theorem inAll_of {x y : V} {e : D} {b : Bool} (S : Sim K mg ca F H σ env h) (rx : RepD K mg ca F x d) (ry : RepD K mg ca F y e) (q : inB h d e = some b) :
    (∀ Q : VK, Q (.bl b) H → rInAll K x y H Q) ∧ (∀ Q : VK, Q (.bl (!b)) H → rNinAll K x y H Q) := by
  unfold inB at q
  split at q
  · split at q
    · rename_i hp
      cases q
      obtain ⟨a, vs, rfl, q, l, r⟩ := ry.tup'
      have e1 := inV_eq rx hp.1 r hp.2
      refine ⟨fun Q k => .inl (.inl ⟨a, vs, rfl, .inr (SqT.mono S.sub q), scal_flat rx hp.1, scals_flat r hp.2, ?_⟩), fun Q k => .inl (.inl ⟨a, vs, rfl, .inr (SqT.mono S.sub q), scal_flat rx hp.1, scals_flat r hp.2, ?_⟩)⟩
      · rw [if_neg Bool.false_ne_true, e1]; exact k
      · rw [if_pos rfl, e1]; exact k
    · cases q
  · split at q
    · rename_i xx
      cases q
      obtain ⟨rfl, l1, o1⟩ := rx.str'
      obtain ⟨rfl, l2, o2⟩ := ry.str'
      unfold inS
      split
      · rename_i c hc
        have ex : xx = ⟨#[c]⟩ := by
          cases xx with
          | mk cps => congr 1; exact Array.toList_inj.mp hc
        subst ex
        exact ⟨fun Q k => .inr (.inl ⟨c, _, rfl, rfl, k⟩), fun Q k => .inr (.inl ⟨c, _, rfl, rfl, k⟩)⟩
      · exact ⟨fun Q k => .inr (.inr ⟨_, _, rfl, rfl, k⟩), fun Q k => .inr (.inr ⟨_, _, rfl, rfl, k⟩)⟩
    · cases q
  · split at q
    · rename_i xs p h1 h2
      split at q
      · rename_i ps h3
        cases q
        obtain ⟨a, vs, rfl, q, l, r⟩ := seqL_of S ry h1
        obtain ⟨a1, a2, a3⟩ := vw_dp S 60 d x p rx h2
        obtain ⟨b1, b2, b3⟩ := mapO_dp (fun d v p => vw_dp S 60 d v p) xs vs ps r h3
        have hsh : SeqAt.shaped (.list ps) = true := by
          unfold SeqAt.shaped
          rw [Bool.and_eq_true]
          exact ⟨by simpa [PyData.canLay0] using b2, decide_eq_true (by simp only [PyData.depth]; omega)⟩
        exact ⟨fun Q k => .inl (.inr ⟨_, _, a1, .lst q b1, shaped_of a2 a3, hsh, k⟩), fun Q k => .inl (.inr ⟨_, _, a1, .lst q b1, shaped_of a2 a3, hsh, k⟩)⟩
      · cases q
    · cases q
theorem o_in : Op2S K mg W (rInAll K) dIn := by
  intro ca F H σ env h x y d e Q S rx ry z
  unfold dIn at z
  split at z
  · rename_i b hb
    exact (inAll_of S rx ry hb).1 Q (Aft.ok (h := h) z S _ (.bl _))
  · exact z.elim
theorem o_notIn : Op2S K mg W (rNinAll K) dNotIn := by
  intro ca F H σ env h x y d e Q S rx ry z
  unfold dNotIn at z
  split at z
  · rename_i b hb
    exact (inAll_of S rx ry hb).2 Q (Aft.ok (h := h) z S _ (.bl _))
  · exact z.elim
/-! ### insert, x[k] = e -/
def dIns : Hs → D → List D → Rs D := fun h d ds => match d, ds with
  | .ref c, [.int i, e] => (match h.get c with
    | some (.lst xs) => if xs.length < sizeLine ∧ 0 ≤ i ∧ i < 2 ^ 63 then wr c (xs.take i.toNat ++ [e] ++ xs.drop i.toNat) .non h else .no
    | _ => .no)
  | _, _ => .no
def rInsert : V → List V → Hp → VK → Prop := fun x vs H Q => ∃ (l : Addr) (xs : List V) (i : Int) (y : V), x = .ref l ∧ vs = [.int i, y] ∧ H l = some (.lst xs) ∧ xs.length < sizeLine ∧ 0 ≤ i ∧ i < 2 ^ 63 ∧ Q .non (upd H l (.lst (xs.take i.toNat ++ [y] ++ xs.drop i.toNat)))
theorem m_ins : OpMS K mg W rInsert dIns := by
  intro ca F H σ env h x xs d ds Q S rx rs z
  unfold dIns at z
  split at z
  · split at z
    · rename_i g
      split at z
      · rename_i hl
        obtain ⟨a, vs, rfl, ha, q, l, r⟩ := S.lst rx g
        obtain ⟨u, y, rfl, ru, ry⟩ := rs.two
        have hz : vs.length < sizeLine := by rw [RepDs.length r]; exact hl.1
        refine ⟨a, vs, _, y, rfl, by rw [ru.int'], q, hz, hl.2.1, hl.2.2, wr_lst S z ha (RepDs.append (RepDs.append (RepDs.take _ r) (.cons ry .nil)) (RepDs.drop _ r)) ?_ .non⟩
        simp only [List.length_append, List.length_take, List.length_drop, List.length_singleton]
        omega
      · exact z.elim
    · exact z.elim
  · exact z.elim
/-- x[k] = e: first e, then x, then k -/
def sIx (o e k : Ev) : Sv := fun env h => sOf (e env h) env fun t h1 => sOf (o env h1) env fun d h2 => sOf (k env h2) env fun i h3 => match d, i with
  | .ref c, .int n => (match h3.get c with
    | some (.lst xs) => (match ixN xs.length n with
      | some j => if h3.bar c (.lst (xs.set j t)) = true then some (.nx, env, h3.set c (.lst (xs.set j t))) else none
      | none => none)
    | _ => none)
  | _, _ => none
theorem snd_ix {te to tk : TE} {ev ov kv : Ev} (he : SndE K mg W te ev) (ho : SndE K mg W to ov) (hk : SndE K mg W tk kv) : SndS K mg W (tAsg te (gSub to tk rSetL)) (sIx ov ev kv) := by
  intro ca F H σ env h o env' h' D S q k
  refine he ca F H σ env h _ S (aft_of q k fun t h1 q1 ca1 F1 H1 L1 S1 k1 v rv => ?_)
  refine ho ca1 F1 H1 σ env h1 _ S1 (aft_of q1 k1 fun d h2 q2 ca2 F2 H2 L2 S2 k2 x rx => ?_)
  refine hk ca2 F2 H2 σ env h2 _ S2 (aft_of q2 k2 fun i h3 q3 ca3 F3 H3 L3 S3 k3 z rz => ?_)
  split at q3
  · split at q3
    · rename_i g
      split at q3
      · rename_i j hj
        split at q3
        · rename_i hb
          cases q3
          obtain ⟨a, vs, rfl, ha, qa, l, r⟩ := S3.lst (RepD.mono L3.ff L3.pre _ _ rx) g
          have L23 := L2.trans L3
          have rs := RepDs.set j r (RepD.mono L23.ff L23.pre _ _ rv)
          obtain ⟨S4, L4⟩ := S3.write (u := .lst (vs.set j v)) hb ha ⟨_, upd_same, by rw [List.length_set]; exact l, rs⟩
          exact ⟨a, vs, _, j, rfl, by rw [rz.int'], qa, by rw [RepDs.length r]; exact hj, k3 σ _ _ _ L4 S4⟩
        · cases q3
      · cases q3
    · cases q3
  · cases q3
end
end HC
end
section
set_option Elab.async false
set_option linter.all false
set_option maxRecDepth 100000
set_option maxHeartbeats 4000000
set_option autoImplicit false
namespace HC
open PySem PySem.Spec PySem.Calls PySem.W PyProof.Rows
/-! ### an exception that was caught, asked later -/
section
variable {prog : Program} {w : World} {A : Around} {E : Value → Shared → Prop} {s : Shared} {K : PySem.W.Frag} {x D : Addr} {ox : Obj} {od : Option Obj}
theorem find_desc {C : Addr} {od : Option Obj} {name : Str} {a g : Value} (hc : (clsIn K C).isSome = true) (ha : findIn K (.ref C) name = some (some a)) (hg : specialIn K a "__get__" = some (some g)) (ht : takesIn K a = some true) : findObj K C od name = some (.bind g a) := by
  obtain ⟨cd, q⟩ := Option.isSome_iff_exists.mp hc
  unfold findObj
  rw [q, Option.bind_some, ha, Option.bind_some]
  simp [hg, ht]
theorem class_of {Q : Option Value → Shared → Prop} (T : L2.ExcC K D) (inK : K.In s.heap) (I : InstAt s.heap x ox D od) (hq : Q (some (.ref D)) { s with toks := s.toks + 1 }) : wpAny (model prog w) A (getAttr? (.ref x) "__class__") Q E s := by
  have fd : findObj K D od "__class__" = some (.bind (.builtin "getset_descriptor.__get__") (.builtin "object.__class__")) := find_desc (by obtain ⟨_, z, _⟩ := any_some T.hd; exact z ▸ rfl) T.ha T.hn T.ht
  obtain ⟨hp, gs, dr, tk, os⟩ := s
  have l0 := I.type (M := model prog w)
  have l3 := looks_find (M := model prog w) inK I fd
  have isE : Looks (model prog w) hp (isInstance (.ref x) (.type "BaseException")) true := l0.andThen (looks_subIn inK T.hs)
  have nb : (Value.builtin "BaseException.__getattribute__" == Value.builtin "object.__getattribute__") = false := by decide +kernel
  unfold getAttr? getAttrBy? getAttrBy
  refine wpAny_bind (wpAny_mkText (wpAny_bind (wpAny_attempt (wpAny_holding (wpAny_bind (l0.at (wpAny_bind ((looks_findIn (M := model prog w) inK T.hg).at ?_))))))))
  show wpAny _ _ (if (onTheHeap (Value.ref D) && Value.builtin "BaseException.__getattribute__" == Value.builtin "object.__getattribute__") = true then _ else _) _ _ _
  rw [nb, Bool.and_false, if_neg Bool.false_ne_true]
  unfold getAttrByItsOwn hookBefore
  refine wpAny_bind ?_
  rw [if_pos (show onTheHeap (Value.ref D) = true by rfl)]
  refine (looks_findIn (M := model prog w) inK T.hk).at (wpAny_bind (wpAny_attempt (wpAny_holding ?_)))
  unfold callGetattribute
  rw [if_neg (show ¬ (false && onTheHeap (Value.builtin "BaseException.__getattribute__")) = true from Bool.false_ne_true)]
  unfold boundAndCalled
  rw [PySem.F.excAttr_ValueError.ga.bind (.ref x)]
  refine wpAny_bind (wpAny_pure ?_)
  show wpAny _ _ (call (.builtin "BaseException.__getattribute__") [.ref x, .str "__class__" tk]) _ _ _
  refine wpAny_call (codeAny_call_builtin PySem.F.excAttr_ValueError.ga.plain PySem.F.entry_bexc_ga (@check_slot (model prog w) _ _ ⟨hp, gs, dr, tk + 1, os⟩ "BaseException.__getattribute__" "BaseException" "__getattribute__" (.ref x) [.str "__class__" tk] [] _ (by decide +kernel) (by decide +kernel) isE (PySem.F.args_bexc_ga (.ref x) (.str "__class__" tk)) ?_))
  unfold Builtin.«object.__getattribute__»
  refine wpAny_bind (wpAny_of_eq (a := ((Value.ref x : Value), [Value.str "__class__" tk])) (by first | rfl | (simp only [slotArgs]; rfl)) (wpAny_bind (wpAny_pure (wpAny_bind (l0.at (wpAny_bind (l3.at ?_)))))))
  show wpAny _ _ (holding [Value.builtin "object.__class__"] (call (.builtin "getset_descriptor.__get__") [.builtin "object.__class__", .ref x, .ref D]) >>= ret) _ _ _
  refine wpAny_bind (wpAny_holding (wpAny_call (class_get (s := ⟨hp, gs, dr, tk + 1, os⟩) (ox := ox) (od := od) inK I T.hm (wpAny_pure ?_))))
  show wpAny _ _ (handedOut (.ref D)) _ _ _
  rw [handedOut_of (v := .ref D) rfl]
  first | exact wpAny_pure (wpAny_pure hq) | exact wpAny_pure hq | exact wpAny_pure (wpAny_bind (wpAny_pure (wpAny_pure hq)))
theorem kit_exc (T : L2.ExcC K D) (P : Heap → Prop) (hP : ∀ h, P h → ∃ ox od, InstAt h x ox D od) : KitX K (.ref x) (.ref D) P where
  ty := fun M h _ p => by obtain ⟨_, _, I⟩ := hP h p; exact I.type
  it := fun M h inK _ => by
    obtain ⟨_, z, _⟩ := any_some T.hd
    unfold clsIn at z
    split at z
    · rename_i ho
      intro A Q E s k q
      unfold isType loadHead
      exact wpAny_bind (wpAny_loadPart (k _ _ (inK _ _ ho)) (wpAny_pure q))
    · cases z
  ne := fun h tp dd its n sl inK htp => by
    obtain ⟨_, z, _⟩ := any_some T.hd
    refine Bool.eq_false_iff.mpr fun q => ?_
    cases (Value.ref.inj (beq_iff_eq.mp q) : D = tp)
    unfold clsIn at z
    split at z
    · rename_i ho
      cases (inK _ _ ho).symm.trans htp
    · cases z
  ca := fun inK p q => by obtain ⟨_, _, I⟩ := hP _ p; exact class_of T inK I q
end
end HC
end
section
set_option Elab.async false
set_option linter.all false
set_option maxRecDepth 100000
set_option maxHeartbeats 1000000
set_option autoImplicit false
namespace HC
open PySem PySem.Spec L2 PyProof.Rows
def rIsX (K : PySem.W.Frag) : List V → Hp → VK → Prop := fun xs H Q => ∃ (a D : Addr) (dd : Option Addr) (c : V) (cv : Value) (b : Bool), xs = [.ref a, c] ∧ ExcC K D ∧ H a = some (exr a (.ref D) dd) ∧ (∀ d, dd = some d → ∃ fs, H d = some (.xd fs)) ∧ (∀ u, RelV c u → u = cv) ∧
  PySem.W.kitOne K (.ref D) cv = some b ∧ Q (.bl b) H
/-- .value of what was caught -/
def tXv (K : PySem.W.Frag) (te : TE) : TE := fun σ H Q => te σ H fun x H1 => ∃ (a C dd : Addr) (fs : List (Str × V)) (v : V), x = .ref a ∧ XfC K C ∧ PySem.W.findIn K (.ref C) "value" = some none ∧ H1 a = some (exr a (.ref C) (some dd)) ∧ H1 dd = some (.xd fs) ∧ fs.lookup ("value" : Str) = some v ∧ Q v H1
section
variable {X : Cx} {pins : List (Addr × Obj)} {σ : St} {H : Hp} {s : Shared}
theorem inst_of {a D dd : Addr} {fs : List (Str × V)} (I : Inv X pins σ H s) (ha : H a = some (exr a (.ref D) (some dd))) (hd : H dd = some (.xd fs)) : ∃ (oe od : Obj) (mA : Str → Option Value), PySem.W.InstAt s.heap a oe D (some od) ∧ (∀ f, RelO (fs.lookup f) (mA f)) ∧ ∀ f, PySem.W.lookIn f od = some (mA f) := by
  have hx : ObjOk X.prog X.w H s.heap a (exr a (.ref D) (some dd)) := I.hok a _ ha
  obtain ⟨⟨oe, vs, e, z, q⟩, _, _⟩ := hx
  have hy : ObjOk X.prog X.w H s.heap dd (.xd fs) := I.hok dd _ hd
  obtain ⟨mA, hns, hr⟩ := hy
  obtain ⟨od, ho, hl⟩ := lookIn_ns hns
  exact ⟨oe, od, mA, ⟨e, z.1, by unfold PySem.W.notCls; rw [q] <;> rfl, by rw [z.2]; exact ho⟩, hr, hl⟩
theorem inst_any {a D : Addr} {dd : Option Addr} (I : Inv X pins σ H s) (ha : H a = some (exr a (.ref D) dd)) (hd : ∀ d, dd = some d → ∃ fs, H d = some (.xd fs)) : ∃ (oe : Obj) (od : Option Obj), PySem.W.InstAt s.heap a oe D od := by
  cases dd with
  | some d =>
    obtain ⟨fs, e⟩ := hd d rfl
    obtain ⟨oe, od, _, J, _⟩ := inst_of I ha e
    exact ⟨oe, _, J⟩
  | none =>
    have hx : ObjOk X.prog X.w H s.heap a (exr a (.ref D) none) := I.hok a _ ha
    obtain ⟨⟨oe, vs, e, z, q⟩, _, _⟩ := hx
    exact ⟨oe, none, ⟨e, z.1, by unfold PySem.W.notCls; rw [q] <;> rfl, by rw [z.2]; trivial⟩⟩
end
theorem call_isX {X : Cx} : CallR X (.builtin "isinstance") (rIsX X.K) := by
  intro pins s σ H xs us Q I r h
  obtain ⟨a, D, dd, c, cv, b, rfl, T, ha, hd, hcv, e, q⟩ := h
  cases r with
  | cons rx rr =>
    cases rr with
    | cons rt rr =>
      cases rr
      cases rx
      cases hcv _ rt
      obtain ⟨oe, od, J⟩ := inst_any I ha hd
      exact PySem.W.kia_one (kit_exc T (fun h => ∃ ox od, PySem.W.InstAt h a ox D od) fun h p => p) I.kIn ⟨oe, _, J⟩ e (fun z => nomatch z) fun tk => ⟨.bl b, H, I.kept (t' := tk) fun _ _ z => z, rfl, q⟩
theorem pe_xv {X : Cx} {e : Expr} {te : TE} {pos : Pos} (he : PE X e te) (hb : attributeBase e "value" X.env (eval e X.env) = eval e X.env := by rfl) : PE X (.Attribute e "value" pos) (tXv X.K te) := by
  refine ⟨fun pins s σ H Q I h => attr_of hb (thn (he.run pins s σ H _ I h) fun u s1 ⟨x, H1, I1, rx, a, C, dd, fs, v, ex, T, hno, ha, hd, l, q⟩ => ?_)⟩
  subst ex
  obtain rfl : u = Value.ref a := rx
  obtain ⟨oe, od, mA, J, hr, hl⟩ := inst_of I1 ha hd
  obtain ⟨y, hy, ry⟩ := RelO.some_of (v := v) (o := mA "value") (by rw [← l]; exact hr _)
  exact HandSPX.exc_get I1.kIn J T.ga T.gg T.exC (PySem.W.findObj_own T.hdC hno rfl (by rw [hl, hy])) (handed_of ry) ⟨v, H1, I1.tok _, ry, q⟩
section
variable {X : Cx} {K : PySem.W.Frag} {mg : Str → Option Value} {W : WX} {ca : List Addr} {F H : Hp} {σ : St} {env : Env} {h : Hs} {v : V} {d : D}
/-- cs: is the class a kind of what is told -/
def excN (h : Hs) : D → Option Str
  | .ref c => (match h.get c with
    | some (.exc n _) => some n
    | some (.exb n) => some n
    | _ => none)
  | _ => none
def dIsX (cs : Str → D → Option Bool) : Hs → List D → Option D := fun h ds => match ds with
  | [d, e] => (match excN h d with
    | some n => (match cs n e with
      | some b => some (.bl b)
      | none => none)
    | none => dIsi h [d, e])
  | _ => none
def rIsAll (K : PySem.W.Frag) : List V → Hp → VK → Prop := fun xs H Q => rIsiAll K xs H Q ∨ rIsX K xs H Q
theorem cr_isX {X : Cx} : CallR X (.builtin "isinstance") (rIsAll X.K) := CallR.or cr_isi call_isX
theorem Sim.exc (S : Sim K mg ca F H σ env h) {c : Nat} {n : Str} {t : D} (r : RepD K mg ca F v (.ref c)) (g : h.get c = some (.exc n t)) : ∃ a C dd fs u, v = .ref a ∧ mg n = some (.ref C) ∧ H a = some (exr a (.ref C) (some dd)) ∧ H dd = some (.xd fs) ∧ fs.lookup ("value" : Str) = some u ∧ RepD K mg ca F u t := by
  obtain ⟨a, rfl, e⟩ := r.ref'
  obtain ⟨b, e1, f, C, dd, fs, u, m, q, y, l, r⟩ := S.obj c _ g
  rw [e] at e1
  cases e1
  exact ⟨a, C, dd, fs, u, rfl, m, q, S.sub _ _ y, l, r⟩
theorem excN_of {n : Str} (S : Sim K mg ca F H σ env h) (r : RepD K mg ca F v d) (e : excN h d = some n) : ∃ a C dd, v = .ref a ∧ mg n = some (.ref C) ∧ H a = some (exr a (.ref C) dd) ∧ ∀ d, dd = some d → ∃ fs, H d = some (.xd fs) := by
  unfold excN at e
  split at e
  · split at e
    · rename_i g
      cases e
      obtain ⟨a, C, dd, fs, u, rfl, m, ha, hd, _⟩ := S.exc r g
      exact ⟨a, C, some dd, rfl, m, ha, fun d e => by cases e; exact ⟨fs, hd⟩⟩
    · rename_i g
      cases e
      obtain ⟨a, rfl, e⟩ := r.ref'
      obtain ⟨b, e1, f, C, m, q⟩ := S.obj _ _ g
      rw [e] at e1
      cases e1
      exact ⟨a, C, none, rfl, m, q, fun d e => nomatch e⟩
    · cases e
  · cases e
/-- what the table of kinds promises -/
def KindsOk (K : PySem.W.Frag) (mg : Str → Option Value) (cs : Str → D → Option Bool) : Prop := ∀ (n : Str) (e : D) (b : Bool) (D : Addr) (ca : List Addr) (F : Hp) (u : V), cs n e = some b → mg n = some (.ref D) → RepD K mg ca F u e → ExcC K D ∧ ∃ cv, (∀ x, RelV u x → x = cv) ∧ PySem.W.kitOne K (.ref D) cv = some b
theorem n_isX {cs : Str → D → Option Bool} (hcs : KindsOk K mg cs) : OpNR K mg (rIsAll K) (dIsX cs) := by
  intro ca F H σ env h xs ds t Q S r e k
  unfold dIsX at e
  split at e
  · split at e
    · rename_i n hn
      split at e
      · rename_i b hb
        cases e
        obtain ⟨v, u, rfl, r1, r2⟩ := r.two
        obtain ⟨a, D, dd, rfl, m, ha, hd⟩ := excN_of S r1 hn
        obtain ⟨T, cv, hcv, q⟩ := hcs _ _ _ _ _ _ _ hb m r2
        exact .inr ⟨a, D, dd, _, cv, b, rfl, T, ha, hd, hcv, q, k _ (.bl _)⟩
      · cases e
    · exact .inl (n_isi ca F H σ env h xs _ t Q S r e k)
  · cases e
def eXv (ok : Str → Bool) (e : Ev) : Ev := fun env h => (e env h).bind fun d h1 => match d with
  | .ref c => (match h1.get c with
    | some (.exc n t) => if ok n = true then .ok t h1 else .no
    | _ => .no)
  | _ => .no
theorem snd_xv {ok : Str → Bool} {te : TE} {ev : Ev} (hok : ∀ n C, ok n = true → mg n = some (.ref C) → XfC K C ∧ PySem.W.findIn K (.ref C) "value" = some none) (he : SndE K mg W te ev) : SndE K mg W (tXv K te) (eXv ok ev) := by
  intro ca F H σ env h Q S x
  refine he ca F H σ env h _ S ((Aft.bind x).mono fun d ca1 F1 H1 h1 _ L1 S1 y v rv => ?_)
  split at y
  · split at y
    · rename_i g
      split at y
      · rename_i q
        obtain ⟨a, C, dd, fs, u, rfl, m, ha, hd, l, ru⟩ := S1.exc rv g
        obtain ⟨T, hn⟩ := hok _ _ q m
        exact ⟨a, C, dd, fs, u, rfl, T, hn, ha, hd, l, Aft.ok (h := h1) y S1 _ ru⟩
      · exact y.elim
    · exact y.elim
  · exact y.elim
theorem ee_xv {ok : Str → Bool} {e : Expr} {te : TE} {ev : Ev} {pos : Pos} (hok : ∀ n C, ok n = true → X.mg n = some (.ref C) → XfC X.K C ∧ PySem.W.findIn X.K (.ref C) "value" = some none) (he : EE X W e te ev) (hb : attributeBase e "value" X.env (eval e X.env) = eval e X.env := by rfl) :
    EE X W (.Attribute e "value" pos) (tXv X.K te) (eXv ok ev) := ⟨pe_xv he.pe hb, snd_xv hok he.snd⟩
end
end HC
end
section
set_option Elab.async false
set_option linter.all false
set_option maxRecDepth 100000
set_option autoImplicit false
namespace HC
open PySem L2 PyProof.Rows
/-! ### what a statement made and nothing tells of any more is dropped: the heap is as small as ahead of it -/
def mkNd : Tr → Tr → Tr
  | .lf, .lf => .lf
  | l, r => .nd l r
/-- the places below n alone -/
def Tr.cut : Nat → Tr → Nat → Tr
  | 0, t, n => if n = 0 then .lf else t
  | k + 1, .nd l r, n => if 2 ^ k ≤ n then mkNd l (Tr.cut k r (n - 2 ^ k)) else mkNd (Tr.cut k l n) .lf
  | _ + 1, _, _ => .lf
theorem get_mkNd (k : Nat) (l r : Tr) (i : Nat) : Tr.get (k + 1) (mkNd l r) i = if i.testBit k = true then Tr.get k r i else Tr.get k l i := by
  cases l <;> cases r <;> first
    | rfl
    | (show none = _; rw [Tr.get_lf]; split <;> rfl)
theorem Tr.get_cut : ∀ (k : Nat) (t : Tr) (n i : Nat), i % 2 ^ k < n → Tr.get k (Tr.cut k t n) i = Tr.get k t i
  | 0, t, n, i, h => by
    unfold Tr.cut
    rw [if_neg (by omega)]
  | k + 1, .lf, n, i, h => rfl
  | k + 1, .ob o, n, i, h => rfl
  | k + 1, .nd l r, n, i, h => by
    have e : i % 2 ^ (k + 1) = i % 2 ^ k + 2 ^ k * (i / 2 ^ k % 2) := Nat.mod_pow_succ
    have tb : i.testBit k = decide (i / 2 ^ k % 2 = 1) := Nat.testBit_eq_decide_div_mod_eq
    have p : 0 < 2 ^ k := Nat.two_pow_pos k
    unfold Tr.cut
    split
    · rename_i hn
      rw [get_mkNd]
      show _ = if i.testBit k = true then Tr.get k r i else Tr.get k l i
      by_cases hb : i.testBit k = true
      · rw [if_pos hb, if_pos hb]
        rw [tb, decide_eq_true_eq] at hb
        rw [hb, Nat.mul_one] at e
        exact Tr.get_cut k r (n - 2 ^ k) i (by omega)
      · rw [if_neg hb, if_neg hb]
    · rename_i hn
      rw [get_mkNd]
      show _ = if i.testBit k = true then Tr.get k r i else Tr.get k l i
      by_cases hb : i.testBit k = true
      · rw [tb, decide_eq_true_eq] at hb
        rw [hb, Nat.mul_one] at e
        omega
      · rw [if_neg hb, if_neg hb]
        exact Tr.get_cut k l n i (by
          have z := Nat.le_add_right (i % 2 ^ k) (2 ^ k * (i / 2 ^ k % 2))
          omega)
section
variable {K : PySem.W.Frag} {mg : Str → Option Value} {W : WX} {ca ca' : List Addr} {F F' H H' : Hp} {σ σ' : St} {env env' : Env} {h h' : Hs}
/-! what is told of is there -/
mutual
theorem RepD.clo : ∀ (d : D) (v : V), RepD K mg ca F v d → d.clo ca.length = true
  | .non, _, _ => rfl
  | .bl _, _, _ => rfl
  | .int _, _, _ => rfl
  | .str _, _, _ => rfl
  | .rep _, _, _ => rfl
  | .fn _, _, _ => rfl
  | .cls _, _, _ => rfl
  | .ty _, _, _ => rfl
  | .ref i, _, r => by cases r with | ref e => exact decide_eq_true (List.getElem?_eq_some_iff.mp e).1
  | .tup _ xs, _, r => by cases r with | tup a l r => exact RepDs.clo xs _ r
  | .rl xs, _, r => by cases r with | rl a l r => exact RepDs.clo xs _ r
theorem RepDs.clo : ∀ (ds : List D) (vs : List V), RepDs K mg ca F vs ds → D.clos ca.length ds = true
  | [], _, _ => rfl
  | d :: ds, _, r => by cases r with | cons r1 r2 => unfold D.clos; rw [RepD.clo d _ r1, RepDs.clo ds _ r2]; rfl
end
theorem RepKs.clo {α : Type} : ∀ {ds : List (α × D)} {vs : List (α × V)}, RepKs K mg ca F vs ds → cloK ca.length ds = true
  | [], _, _ => rfl
  | d :: ds, _, r => by cases r with | cons r1 r2 => unfold cloK; rw [RepD.clo _ _ r1, RepKs.clo r2]; rfl
theorem RepO.clo {a : Addr} {o : O} (r : RepO K mg ca F H a o) : o.clo ca.length = true := by
  cases o with
  | lst xs => obtain ⟨vs, q, l, r⟩ := r; exact RepDs.clo _ _ r
  | dK xs => obtain ⟨vs, q, l, r⟩ := r; exact RepKs.clo r
  | dT xs => obtain ⟨vs, q, l, r⟩ := r; exact RepKs.clo r
  | ins c xs => obtain ⟨C, dx, vs, m, q, r⟩ := r; exact RepKs.clo r
  | exc c v => obtain ⟨C, dd, fs, u, m, q, g, l, r⟩ := r; exact RepD.clo _ _ r
  | exb c => rfl
mutual
theorem RepD.less (hp : Pre ca ca') : ∀ (d : D) (v : V), RepD K mg ca' F v d → d.clo ca.length = true → RepD K mg ca F v d
  | .non, _, r, _ => by cases r; exact .non
  | .bl _, _, r, _ => by cases r; exact .bl _
  | .int _, _, r, _ => by cases r; exact .int _
  | .str _, _, r, _ => by cases r with | str _ l o => exact .str _ l o
  | .rep _, _, r, _ => by cases r; exact .rep _
  | .fn _, _, r, _ => by cases r with | fn e => exact .fn e
  | .cls _, _, r, _ => by cases r with | cls e => exact .cls e
  | .ty _, _, r, _ => by cases r; exact .ty _
  | .ref i, _, r, e => by
    cases r with
    | ref q =>
      obtain ⟨m, rfl⟩ := hp
      rw [List.getElem?_append_left (of_decide_eq_true e)] at q
      exact .ref q
  | .tup _ xs, _, r, e => by cases r with | tup a l r => exact .tup a l (RepDs.less hp xs _ r e)
  | .rl xs, _, r, e => by cases r with | rl a l r => exact .rl a l (RepDs.less hp xs _ r e)
theorem RepDs.less (hp : Pre ca ca') : ∀ (ds : List D) (vs : List V), RepDs K mg ca' F vs ds → D.clos ca.length ds = true → RepDs K mg ca F vs ds
  | [], _, r, _ => by cases r; exact .nil
  | d :: ds, _, r, e => by
    cases r with
    | cons r1 r2 =>
      unfold D.clos at e
      rw [Bool.and_eq_true] at e
      exact .cons (RepD.less hp d _ r1 e.1) (RepDs.less hp ds _ r2 e.2)
end
theorem RepKs.less {α : Type} (hp : Pre ca ca') : ∀ {ds : List (α × D)} {vs : List (α × V)}, RepKs K mg ca' F vs ds → cloK ca.length ds = true → RepKs K mg ca F vs ds
  | [], _, r, _ => by cases r; exact .nil
  | d :: ds, _, r, e => by
    cases r with
    | cons r1 r2 =>
      unfold cloK at e
      rw [Bool.and_eq_true] at e
      exact .cons (RepD.less hp _ _ r1 e.1) (RepKs.less hp r2 e.2)
theorem RepO.less (hp : Pre ca ca') {a : Addr} {o : O} (r : RepO K mg ca' F H a o) (e : o.clo ca.length = true) : RepO K mg ca F H a o := by
  cases o with
  | lst xs => obtain ⟨vs, q, l, r⟩ := r; exact ⟨vs, q, l, RepDs.less hp _ _ r e⟩
  | dK xs => obtain ⟨vs, q, l, r⟩ := r; exact ⟨vs, q, l, RepKs.less hp r e⟩
  | dT xs => obtain ⟨vs, q, l, r⟩ := r; exact ⟨vs, q, l, RepKs.less hp r e⟩
  | ins c xs => obtain ⟨C, dx, vs, m, q, r⟩ := r; exact ⟨C, dx, vs, m, q, RepKs.less hp r e⟩
  | exc c v => obtain ⟨C, dd, fs, u, m, q, g, l, r⟩ := r; exact ⟨C, dd, fs, u, m, q, g, l, RepD.less hp _ _ r e⟩
  | exb c => exact r
def gcE (n : Nat) (env : Env) : Env := env.map fun o => match o with
  | some d => if d.clo n = true then some d else none
  | none => none
def Out.clo (n : Nat) : Out → Bool
  | .rt d => d.clo n
  | .xc x => x.v.clo n
  | _ => true
def sGc (s : Sv) : Sv := fun env h => match s env ⟨h.sz, h.t, h.sz :: h.mks⟩ with
  | some (o, env', h') => if h'.mks = h.sz :: h.mks then (if o.clo h.sz = true then some (o, gcE h.sz env', ⟨h.sz, Tr.cut bits h'.t h.sz, h.mks⟩) else some (o, env', ⟨h'.sz, h'.t, h.mks⟩)) else none
  | none => none
/-- a mark is set -/
theorem Sim.mark (S : Sim K mg ca F H σ env h) : Sim K mg ca F H σ env ⟨h.sz, h.t, h.sz :: h.mks⟩ := ⟨S.sub, S.le, S.slot, S.len, S.inj, S.full, S.obj, fun m hm => by
  rcases List.mem_cons.mp hm with rfl | hm
  · exact Nat.le_refl _
  · exact S.mkle m hm, fun m hm i o hi e => by
  rcases List.mem_cons.mp hm with rfl | hm
  · obtain ⟨a, e1, f, r⟩ := S.obj i o e
    have q := r.clo
    rw [S.len] at q
    exact q
  · exact S.old m hm i o hi e⟩
/-- marks are forgotten -/
theorem Sim.unmark (S : Sim K mg ca F H σ env h) {ms : List Nat} (hm : ∀ m ∈ ms, m ∈ h.mks) : Sim K mg ca F H σ env ⟨h.sz, h.t, ms⟩ := ⟨S.sub, S.le, S.slot, S.len, S.inj, S.full, S.obj, fun m q => S.mkle m (hm m q), fun m q => S.old m (hm m q)⟩
theorem get_gc {n : Nat} {ms ms' : List Nat} {t : Tr} {sz i : Nat} (hn : n ≤ sz) (hi : i < n) : Hs.get ⟨n, Tr.cut bits t n, ms⟩ i = Hs.get ⟨sz, t, ms'⟩ i := by
  unfold Hs.get
  dsimp only
  rw [if_pos hi, if_pos (Nat.lt_of_lt_of_le hi hn)]
  split
  · rename_i hr
    have e : room = 2 ^ bits := rfl
    exact Tr.get_cut bits t n i (by rw [Nat.mod_eq_of_lt (e ▸ hr)]; exact hi)
  · rfl
theorem gcE_some {n i : Nat} {d : D} (e : (gcE n env)[i]? = some (some d)) : env[i]? = some (some d) ∧ d.clo n = true := by
  unfold gcE at e
  rw [List.getElem?_map] at e
  obtain ⟨o, e1, e2⟩ := Option.map_eq_some_iff.mp e
  cases o with
  | none => cases e2
  | some x =>
    dsimp only at e2
    split at e2
    · cases e2; exact ⟨e1, by assumption⟩
    · cases e2
theorem Sim.gc (S : Sim K mg ca F H σ env h) (L : Later ca F H ca' F' H') (S' : Sim K mg ca' F' H' σ' env' h') (hm : h'.mks = h.sz :: h.mks) : Sim K mg ca F' H' σ' (gcE h.sz env') ⟨h.sz, Tr.cut bits h'.t h.sz, h.mks⟩ ∧ Later ca F H ca F' H' := by
  have hsz : h.sz ≤ h'.sz := by
    rw [← S.len, ← S'.len]
    obtain ⟨m, e⟩ := L.pre
    rw [e, List.length_append]
    omega
  have inM : h.sz ∈ h'.mks := by rw [hm]; exact List.mem_cons_self
  have gt : ∀ i, i < h.sz → Hs.get ⟨h.sz, Tr.cut bits h'.t h.sz, h.mks⟩ i = h'.get i := fun i hi => get_gc (ms' := h'.mks) hsz hi
  refine ⟨⟨S'.sub, by unfold gcE; rw [List.length_map]; exact S'.le, fun i d e => ?_, S.len, S.inj, fun i hi => ?_, fun i o e => ?_, S.mkle, fun m hmm i o hi e => ?_⟩, .refl, L.ff, fun a o e n f x => ?_, L.alive⟩
  · obtain ⟨e1, e2⟩ := gcE_some e
    obtain ⟨v, e3, r⟩ := S'.slot i d e1
    exact ⟨v, e3, RepD.less L.pre _ _ r (by rw [S.len]; exact e2)⟩
  · rw [gt i hi]
    exact S'.full i (Nat.lt_of_lt_of_le hi hsz)
  · have hi := (Hs.get_lt e).1
    have hi : i < h.sz := hi
    rw [gt i hi] at e
    obtain ⟨a, e1, f, r⟩ := S'.obj i o e
    have hc := S'.old _ inM i o hi e
    rw [← S.len] at hc
    obtain ⟨m, hpm⟩ := id L.pre
    refine ⟨a, ?_, f, RepO.less L.pre r hc⟩
    rw [hpm, List.getElem?_append_left (by rw [S.len]; exact hi)] at e1
    exact e1
  · have hi2 : i < h.sz := Nat.lt_of_lt_of_le hi (S.mkle m hmm)
    rw [gt i hi2] at e
    exact S'.old m (by rw [hm]; exact List.mem_cons_of_mem _ hmm) i o hi e
  · obtain ⟨e1, n1, f1⟩ := L.ext a o e n f x
    refine ⟨e1, n, f1⟩
theorem snd_gc {ts : TS} {sv : Sv} (hs : SndS K mg W ts sv) : SndS K mg W ts (sGc sv) := by
  intro ca F H σ env h o env' h' D S q k
  unfold sGc at q
  split at q
  · rename_i o1 env1 h1 e
    split at q
    · rename_i hm
      split at q
      · rename_i hc
        cases q
        refine hs ca F H σ env _ o env1 h1 D S.mark e fun σ1 ca1 F1 H1 L1 S1 => ?_
        obtain ⟨S2, L2⟩ := S.gc L1 S1 hm
        have z := k σ1 ca F1 H1 L2 S2
        cases o with
        | nx => exact z
        | bk => exact z
        | ct => exact z
        | rt d => exact fun v r => z v (RepD.less L1.pre _ _ r (by rw [S.len]; exact hc))
        | xc x => exact fun cls dd ⟨C, d, fs, v, m, e1, e2, e3, e4, r⟩ => z cls dd ⟨C, d, fs, v, m, e1, e2, e3, e4, RepD.less L1.pre _ _ r (by rw [S.len]; exact hc)⟩
      · cases q
        refine hs ca F H σ env _ o env' h1 D S.mark e fun σ1 ca1 F1 H1 L1 S1 => ?_
        exact k σ1 ca1 F1 H1 L1 (S1.unmark fun m hmm => by rw [hm]; exact List.mem_cons_of_mem _ hmm)
    · cases q
  · cases q
end
theorem ess_gc {X : Cx} {W : WX} {sts : List Stmt} {ts : TS} {sv : Sv} (q : ESs X W sts ts sv) : ESs X W sts ts (sGc sv) := ⟨q.ps, snd_gc q.snd⟩
end HC
end
section
set_option Elab.async false
set_option linter.all false
set_option maxRecDepth 100000
set_option autoImplicit false
namespace HC
open PySem L2 PyProof.Rows
/-! ### dicts with plain keys -/
def D.key? : D → Option Key
  | .int i => some (.inl i)
  | .str x => some (.inr x)
  | _ => none
def look {α : Type} (k : Key) (kvs : List (Key × α)) : Option α := (kvs.find? fun p => decide (p.1 = k)).map (·.2)
def putD {α : Type} (kvs : List (Key × α)) (k : Key) (v : α) : List (Key × α) := if (kvs.any fun p => decide (p.1 = k)) = true then kvs.map (fun p => if p.1 = k then (p.1, v) else p) else kvs ++ [(k, v)]
def mergeD {α : Type} (kvs : List (Key × α)) (more : List (Key × α)) : List (Key × α) := more.foldl (fun acc kv => putD acc kv.1 kv.2) kvs
section
variable {X : Cx} {K : PySem.W.Frag} {mg : Str → Option Value} {W : WX} {ca : List Addr} {F H : Hp} {σ : St} {env : Env} {h : Hs} {v : V} {d : D}
theorem RepD.key' {k : Key} (r : RepD K mg ca F v d) (e : d.key? = some k) : v = kV k := by
  cases d with
  | int i => cases e; exact r.int'
  | str x => cases e; exact r.str'.1
  | _ => cases e
theorem RepKs.length {α : Type} : ∀ {ds : List (α × D)} {vs : List (α × V)}, RepKs K mg ca F vs ds → vs.length = ds.length
  | [], _, r => by cases r; rfl
  | d :: ds, _, r => by cases r with | cons h1 h2 => simp [RepKs.length h2]
theorem RepKs.look (k : Key) : ∀ {ds : List (Key × D)} {vs : List (Key × V)}, RepKs K mg ca F vs ds → (HC.look k ds = none ∧ valV vs k = none) ∨ ∃ d v, HC.look k ds = some d ∧ valV vs k = some v ∧ RepD K mg ca F v d
  | [], _, r => by cases r; exact .inl ⟨rfl, rfl⟩
  | _ :: ds, _, r => by
    cases r with
    | @cons j v vs d ds r1 r2 =>
      by_cases e : j = k
      · subst e
        refine .inr ⟨d, v, ?_, valV_pos rfl, r1⟩
        unfold HC.look
        rw [List.find?_cons, decide_eq_true rfl]
        rfl
      · have e1 : HC.look k ((j, d) :: ds) = HC.look k ds := by
          unfold HC.look
          rw [List.find?_cons, decide_eq_false e]
        rw [e1, valV_neg e]
        exact RepKs.look k r2
theorem RepKs.any (k : Key) : ∀ {ds : List (Key × D)} {vs : List (Key × V)}, RepKs K mg ca F vs ds → (vs.any fun kv => decide (kv.1 = k)) = ds.any fun p => decide (p.1 = k)
  | [], _, r => by cases r; rfl
  | _ :: ds, _, r => by
    cases r with
    | @cons j v vs d ds r1 r2 => rw [List.any_cons, List.any_cons, RepKs.any k r2]
theorem RepKs.repl (k : Key) {u : V} {e : D} (ru : RepD K mg ca F u e) : ∀ {ds : List (Key × D)} {vs : List (Key × V)}, RepKs K mg ca F vs ds → RepKs K mg ca F (vs.map fun kv => if kv.1 = k then (kv.1, u) else kv) (ds.map fun p => if p.1 = k then (p.1, e) else p)
  | [], _, r => by cases r; exact .nil
  | _ :: ds, _, r => by
    cases r with
    | @cons j v vs d ds r1 r2 =>
      rw [List.map_cons, List.map_cons]
      by_cases q : j = k
      · rw [if_pos q, if_pos q]
        exact .cons ru (RepKs.repl k ru r2)
      · rw [if_neg q, if_neg q]
        exact .cons r1 (RepKs.repl k ru r2)
theorem RepKs.snoc {k : Key} {u : V} {e : D} (ru : RepD K mg ca F u e) : ∀ {ds : List (Key × D)} {vs : List (Key × V)}, RepKs K mg ca F vs ds → RepKs K mg ca F (vs ++ [(k, u)]) (ds ++ [(k, e)])
  | [], _, r => by cases r; exact .cons ru .nil
  | _ :: ds, _, r => by cases r with | cons h1 h2 => exact .cons h1 (RepKs.snoc ru h2)
theorem RepKs.put {k : Key} {u : V} {e : D} {ds : List (Key × D)} {vs : List (Key × V)} (r : RepKs K mg ca F vs ds) (ru : RepD K mg ca F u e) : RepKs K mg ca F (putK vs k u) (putD ds k e) := by
  unfold putK putD
  rw [RepKs.any k r]
  split
  · exact RepKs.repl k ru r
  · exact RepKs.snoc ru r
theorem Sim.dct (S : Sim K mg ca F H σ env h) {c : Nat} {xs : List (Key × D)} (r : RepD K mg ca F v (.ref c)) (g : h.get c = some (.dK xs)) : ∃ a vs, v = .ref a ∧ ca[c]? = some a ∧ H a = some (.dK vs) ∧ vs.length ≤ sizeLine ∧ RepKs K mg ca F vs xs := by
  obtain ⟨a, rfl, e⟩ := r.ref'
  obtain ⟨b, e1, f, vs, q, l, r⟩ := S.obj c _ g
  rw [e] at e1
  cases e1
  exact ⟨a, vs, rfl, e, q, l, r⟩
/-! x[k] -/
def dIx2 : Hs → D → D → Rs D := fun h d e => match d with
  | .ref c => (match h.get c with
    | some (.dK kvs) => (match e.key? with
      | some k => (match look k kvs with
        | some t => .ok t h
        | none => .no)
      | none => .no)
    | _ => dIx h d e)
  | _ => dIx h d e
def rDIx : R2 := fun x y H Q => ∃ a v, x = .ref a ∧ DGet H a y (some v) ∧ Q v H
theorem ix_dct {X : Cx} (hu : X.A.units + 1 < cLine) : IxR X rDIx := by
  intro value slice pins s σ H x y v u Q I rx ry h hs
  obtain ⟨a, w, rfl, g, q⟩ := h
  obtain rfl : v = Value.ref a := rx
  exact tail_any (ops := [.ref a, u]) (dict_typeIs I g) PySem.F.slot_dict_getitem.lookup (d_getItem hu I g ry fun w' s3 I3 rw' => ⟨w, H, I3, rw', q⟩) hs
def rIx2 (K : PySem.W.Frag) : R2 := fun x y H Q => rIxAll K x y H Q ∨ rDIx x y H Q
theorem ix_all2 {X : Cx} (hu : X.A.units + 1 < cLine) : IxR X (rIx2 X.K) := IxR.or ix_all (ix_dct hu)
theorem o_ix2 : Op2S K mg W (rIx2 K) dIx2 := by
  intro ca F H σ env h x y d e Q S rx ry z
  have old : Aft K mg W ca F H σ env (dIx h d e) (fun t ca' F' H' _ => ∀ v, RepD K mg ca' F' v t → Q v H') → rIx2 K x y H Q := fun z => .inl (o_ix ca F H σ env h x y d e Q S rx ry z)
  unfold dIx2 at z
  split at z
  · split at z
    · rename_i g
      split at z
      · rename_i k hk
        split at z
        · rename_i t ht
          obtain ⟨a, vs, rfl, _, q, l, r⟩ := S.dct rx g
          cases ry.key' hk
          rcases RepKs.look k r with ⟨h1, h2⟩ | ⟨d1, v1, h1, h2, rv⟩
          · rw [h1] at ht; cases ht
          · rw [h1] at ht
            cases ht
            exact .inr ⟨a, v1, rfl, .inl ⟨vs, k, .inl q, rfl, h2.symm⟩, Aft.ok (h := h) z S _ rv⟩
        · exact z.elim
      · exact z.elim
    · exact old z
  · exact old z
theorem ee_ix2 {a b : Expr} {ta tb : TE} {ea eb : Ev} {pos : Pos} (hu : X.A.units + 65 < cLine) (ha : EE X W a ta ea) (hb : EE X W b tb eb) (hp : PlainIx b := by exact fun _ _ => rfl) : EE X W (.Subscript a b pos) (tOp (rIx2 X.K) ta tb) (e2 dIx2 ea eb) := ⟨pe_ix (ix_all2 (by omega)) ha.pe hb.pe hp, snd_e2 o_ix2 ha.snd hb.snd⟩
/-! in -/
def dIn2 (neg : Bool) : Hs → D → D → Rs D := fun h d e => match e with
  | .ref c => (match h.get c with
    | some (.dK kvs) => (match d.key? with
      | some k => .ok (.bl (neg != (look k kvs).isSome)) h
      | none => .no)
    | _ => if neg = true then dNotIn h d e else dIn h d e)
  | _ => if neg = true then dNotIn h d e else dIn h d e
def rDIn : R2 := fun y x H Q => ∃ a o, x = .ref a ∧ DGet H a y o ∧ Q (.bl o.isSome) H
def rDNotIn : R2 := fun y x H Q => ∃ a o, x = .ref a ∧ DGet H a y o ∧ Q (.bl (!o.isSome)) H
end
end HC
end
section
set_option Elab.async false
set_option linter.all false
set_option maxRecDepth 100000
set_option autoImplicit false
namespace HC
open PySem L2 PyProof.Rows
section
variable {X : Cx} {K : PySem.W.Frag} {mg : Str → Option Value} {W : WX} {ca : List Addr} {F H : Hp} {σ : St} {env : Env} {h : Hs} {v : V} {d : D}
theorem op_inDct {X : Cx} (hu : X.A.units + 1 < cLine) : OpR X (compareOp .In) rDIn := by
  intro pins s σ H y x v u Q I ry rx h
  obtain ⟨a, o, rfl, g, q⟩ := h
  obtain rfl : u = Value.ref a := rx
  exact d_in hu I g ry fun s3 I3 => ⟨.bl o.isSome, H, I3, rfl, q⟩
theorem op_notInDct {X : Cx} (hu : X.A.units + 1 < cLine) : OpR X (compareOp .NotIn) rDNotIn := by
  intro pins s σ H y x v u Q I ry rx h
  obtain ⟨a, o, rfl, g, q⟩ := h
  obtain rfl : u = Value.ref a := rx
  exact d_notIn hu I g ry fun s3 I3 => ⟨.bl (!o.isSome), H, I3, rfl, q⟩
def rIn2 (K : PySem.W.Frag) : R2 := rOr (rInAll K) rDIn
def rNin2 (K : PySem.W.Frag) : R2 := rOr (rNinAll K) rDNotIn
theorem op_in2 {X : Cx} (hu : X.A.units + 65 < cLine) : OpR X (compareOp .In) (rIn2 X.K) := OpR.or (op_inAll hu) (op_inDct (by omega))
theorem op_nin2 {X : Cx} (hu : X.A.units + 65 < cLine) : OpR X (compareOp .NotIn) (rNin2 X.K) := OpR.or (op_notInAll hu) (op_notInDct (by omega))
theorem dct_get (S : Sim K mg ca F H σ env h) {c : Nat} {kvs : List (Key × D)} {k : Key} {x y : V} {d : D} (rx : RepD K mg ca F x d) (hk : d.key? = some k) (ry : RepD K mg ca F y (.ref c)) (g : h.get c = some (.dK kvs)) : ∃ a o, y = .ref a ∧ DGet H a x o ∧ o.isSome = (look k kvs).isSome := by
  obtain ⟨a, vs, rfl, _, q, l, r⟩ := S.dct ry g
  cases rx.key' hk
  refine ⟨a, _, rfl, .inl ⟨vs, k, .inl q, rfl, rfl⟩, ?_⟩
  rcases RepKs.look k r with ⟨h1, h2⟩ | ⟨_, _, h1, h2, _⟩
  · rw [h1, h2]; rfl
  · rw [h1, h2]; rfl
theorem o_in2 : Op2S K mg W (rIn2 K) (dIn2 false) := by
  intro ca F H σ env h x y d e Q S rx ry z
  have old : Aft K mg W ca F H σ env (dIn h d e) (fun t ca' F' H' _ => ∀ v, RepD K mg ca' F' v t → Q v H') → rIn2 K x y H Q := fun z => .inl (o_in ca F H σ env h x y d e Q S rx ry z)
  unfold dIn2 at z
  split at z
  · split at z
    · rename_i g
      split at z
      · rename_i k hk
        obtain ⟨a, o, rfl, q, e⟩ := dct_get S rx hk ry g
        exact .inr ⟨a, o, rfl, q, Aft.ok (h := h) z S _ (by rw [← e, Bool.false_bne]; exact .bl _)⟩
      · exact z.elim
    · rw [if_neg Bool.false_ne_true] at z; exact old z
  · rw [if_neg Bool.false_ne_true] at z; exact old z
theorem o_nin2 : Op2S K mg W (rNin2 K) (dIn2 true) := by
  intro ca F H σ env h x y d e Q S rx ry z
  have old : Aft K mg W ca F H σ env (dNotIn h d e) (fun t ca' F' H' _ => ∀ v, RepD K mg ca' F' v t → Q v H') → rNin2 K x y H Q := fun z => .inl (o_notIn ca F H σ env h x y d e Q S rx ry z)
  unfold dIn2 at z
  split at z
  · split at z
    · rename_i g
      split at z
      · rename_i k hk
        obtain ⟨a, o, rfl, q, e⟩ := dct_get S rx hk ry g
        exact .inr ⟨a, o, rfl, q, Aft.ok (h := h) z S _ (by rw [← e, Bool.true_bne]; exact .bl _)⟩
      · exact z.elim
    · rw [if_pos rfl] at z; exact old z
  · rw [if_pos rfl] at z; exact old z
/-! x[k] = e, x a dict -/
def sPut (o e k : Ev) : Sv := fun env h => sOf (e env h) env fun t h1 => sOf (o env h1) env fun d h2 => sOf (k env h2) env fun i h3 => match d, i.key? with
  | .ref c, some k => (match h3.get c with
    | some (.dK kvs) => if kvs.length < sizeLine ∧ h3.bar c (.dK (putD kvs k t)) = true then some (.nx, env, h3.set c (.dK (putD kvs k t))) else none
    | _ => none)
  | _, _ => none
theorem snd_put {te to tk : TE} {ev ov kv : Ev} (he : SndE K mg W te ev) (ho : SndE K mg W to ov) (hk : SndE K mg W tk kv) : SndS K mg W (sDPut to tk te) (sPut ov ev kv) := by
  intro ca F H σ env h o env' h' D S q k
  refine he ca F H σ env h _ S (aft_of q k fun t h1 q1 ca1 F1 H1 L1 S1 k1 v rv => ?_)
  refine ho ca1 F1 H1 σ env h1 _ S1 (aft_of q1 k1 fun d h2 q2 ca2 F2 H2 L2 S2 k2 x rx => ?_)
  refine hk ca2 F2 H2 σ env h2 _ S2 (aft_of q2 k2 fun i h3 q3 ca3 F3 H3 L3 S3 k3 z rz => ?_)
  split at q3
  · rename_i key hkey
    split at q3
    · rename_i kvs g
      split at q3
      · rename_i hb
        cases q3
        obtain ⟨a, vs, rfl, ha, qa, l, r⟩ := S3.dct (RepD.mono L3.ff L3.pre _ _ rx) g
        have L23 := L2.trans L3
        have rs := RepKs.put (k := key) r (RepD.mono L23.ff L23.pre _ _ rv)
        cases rz.key' hkey
        have hl : vs.length < sizeLine := by rw [RepKs.length r]; exact hb.1
        obtain ⟨S4, L4⟩ := S3.write (u := .dK (putK vs key v)) hb.2 ha ⟨_, upd_same, by have := length_putK vs key v; omega, rs⟩
        exact ⟨a, _, rfl, DPut.k qa hl, k3 σ _ _ _ L4 S4⟩
      · cases q3
    · cases q3
  · cases q3
/-! displays -/
theorem merge_rep : ∀ {ps : List (Key × D)} {kvs vs : List (Key × V)} {ds : List (Key × D)}, RepKs K mg ca F kvs ps → RepKs K mg ca F vs ds → RepKs K mg ca F (mergeK vs kvs) (mergeD ds ps)
  | [], _, _, _, p, r => by cases p; exact r
  | d :: ps, _, vs, ds, p, r => by
    cases p with
    | @cons k v kvs d ps rv t => exact merge_rep (vs := putK vs k v) (ds := putD ds k d) t (RepKs.put r rv)
theorem mk_dK {ds : List (Key × D)} {vs : List (Key × V)} {Q : VK} (S : Sim K mg ca F H σ env h) (x : Aft K mg W ca F H σ env (mk (.dK ds) h) (fun t ca' F' H' _ => ∀ v, RepD K mg ca' F' v t → Q v H')) (rs : RepKs K mg ca F vs ds) (hz : vs.length ≤ sizeLine) {p : Addr} (hp : H p = none) : Q (.ref p) (upd H p (.dK vs)) := by
  unfold mk at x
  split at x
  · rename_i hr
    obtain ⟨S2, L2, e2⟩ := S.alloc (u := .dK vs) (o := .dK ds) hp hr ⟨vs, upd_same, hz, rs⟩
    exact x _ _ _ L2 S2 _ (.ref e2)
  · exact x.elim
def eNewK : Ev := fun _ h => mk (.dK []) h
theorem ee_newK {pos : Pos} : EE X W (.Dict [] [] pos) tDNewK eNewK := ⟨pe_dnewK, fun ca F H σ env h Q S x p hp => mk_dK S x .nil (Nat.zero_le _) hp⟩
def dispL : List (Ev × Ev) → Env → Hs → Rs (List (Key × D))
  | [], _, h => .ok [] h
  | (a, b) :: r, env, h => (a env h).bind fun d h1 => (b env h1).bind fun e h2 => match d.key? with
    | some k => (dispL r env h2).bind fun ps h3 => .ok ((k, e) :: ps) h3
    | none => .no
def eDisp (l : List (Ev × Ev)) : Ev := fun env h => (dispL l env h).bind fun ps h1 => if ps.length ≤ 15 then mk (.dK (mergeD [] ps)) h1 else .no
inductive EPs (X : Cx) (W : WX) (pos : Pos) : List (Option Expr) → List Expr → List (TE × TE) → List (Ev × Ev) → Prop where
  | nil : EPs X W pos [] [] [] []
  | cons {k v : Expr} {ks : List (Option Expr)} {vs : List Expr} {tk tv : TE} {ek ev : Ev} {trs : List (TE × TE)} {l : List (Ev × Ev)} : EE X W k tk ek → EE X W v tv ev → EPs X W pos ks vs trs l → EPs X W pos (some k :: ks) (v :: vs) ((tk, tv) :: trs) ((ek, ev) :: l)
theorem EPs.pps {pos : Pos} : ∀ {ks : List (Option Expr)} {vs : List Expr} {trs : List (TE × TE)} {l : List (Ev × Ev)}, EPs X W pos ks vs trs l → PPs X pos ks vs trs
  | _, _, _, _, .nil => pps_nil
  | _, _, _, _, .cons h1 h2 h3 => pps_cons h1.pe h2.pe h3.pps
theorem EPs.snd {pos : Pos} : ∀ {ks : List (Option Expr)} {vs : List Expr} {trs : List (TE × TE)} {l : List (Ev × Ev)}, EPs X W pos ks vs trs l → ∀ ca F H σ env h (Q : List (V × V) → Hp → Prop), Sim X.K X.mg ca F H σ env h →
    Aft X.K X.mg W ca F H σ env (dispL l env h) (fun ps ca' F' H' _ => ∀ kvs : List (Key × V), RepKs X.K X.mg ca' F' kvs ps → Q (kvs.map fun kv => (kV kv.1, kv.2)) H') → tPairs trs σ H Q
  | _, _, _, _, .nil, ca, F, H, σ, env, h, Q, S, x => Aft.ok (h := h) x S [] .nil
  | _, _, _, _, .cons h1 h2 h3, ca, F, H, σ, env, h, Q, S, x => by
    unfold dispL at x
    refine h1.snd ca F H σ env h _ S ((Aft.bind x).mono fun d ca1 F1 H1 hh1 _ L1 S1 y v rv => ?_)
    refine h2.snd ca1 F1 H1 σ env hh1 _ S1 ((Aft.bind y).mono fun e ca2 F2 H2 hh2 _ L2 S2 y2 u ru => ?_)
    split at y2
    · rename_i k hk
      refine EPs.snd h3 ca2 F2 H2 σ env hh2 _ S2 ((Aft.bind y2).mono fun ps ca3 F3 H3 hh3 _ L3 S3 y3 kvs rk => ?_)
      cases rv.key' hk
      exact Aft.ok (h := hh3) y3 S3 ((k, u) :: kvs) (.cons (RepD.mono L3.ff L3.pre _ _ ru) rk)
    · exact y2.elim
theorem ee_disp {keys : List (Option Expr)} {values : List Expr} {trs : List (TE × TE)} {l : List (Ev × Ev)} {pos : Pos} (q : EPs X W pos keys values trs l) (hall : keys.all (·.isSome) = true := by rfl) (hl : keys.length = values.length := by rfl) (h0 : keys ≠ [] := by exact fun z => nomatch z) (h15 : keys.length ≤ 15 := by decide) :
    EE X W (.Dict keys values pos) (tDisp trs) (eDisp l) := by
  refine ⟨pe_disp q.pps hall hl h0 h15, ?_⟩
  intro ca F H σ env h Q S x p hp
  obtain ⟨S1, L1⟩ := S.laid (o := .dK []) hp
  cases hd : dispL l env h with
  | no => unfold eDisp at x; rw [hd] at x; exact x.elim
  | ex e h1 =>
    unfold eDisp at x
    rw [hd] at x
    refine q.snd ca F _ σ env h _ S1 ?_
    rw [hd]
    exact fun cls dd ca' F' H' L S2 => x cls dd ca' F' H' (L1.trans L) S2
  | ok ps h2 =>
    have y : Aft X.K X.mg W ca F H σ env (if ps.length ≤ 15 then mk (.dK (mergeD [] ps)) h2 else .no) (fun t ca' F' H' _ => ∀ v, RepD X.K X.mg ca' F' v t → Q v H') := by
      unfold eDisp at x
      rw [hd] at x
      exact x
    refine q.snd ca F _ σ env h _ S1 (Aft.get hd fun ca2 F2 H2 L2 S2 kvs rk => ?_)
    obtain ⟨e2, n2, f2⟩ := L2.ext p _ upd_same (S.fresh hp) (S.sub.none hp) (fun _ z => nomatch z)
    by_cases h15' : ps.length ≤ 15
    · rw [if_pos h15'] at y
      unfold mk at y
      by_cases hr : h2.sz < room
      · rw [if_pos hr] at y
        have rm : RepKs X.K X.mg ca2 F2 (mergeK [] kvs) (mergeD [] ps) := merge_rep rk .nil
        have hl : kvs.length ≤ 15 := by rw [RepKs.length rk]; exact h15'
        have hz : (mergeK [] kvs).length ≤ sizeLine := by
          refine Nat.le_trans (length_mergeK kvs []) ?_
          rw [List.length_nil, Nat.zero_add, sizeLine_eq]
          omega
        refine ⟨e2, kvs, rfl, hl, ?_⟩
        have S3 := (S2.poke (o := .dK (mergeK [] kvs)) f2 n2).cell (o := .dK (mergeD [] ps)) n2 f2 hr ⟨_, upd_same, hz, rm⟩
        have L := L1.trans L2
        refine y (ca2 ++ [p]) F2 _ ⟨L.pre.trans (.snoc _ _), L.ff, fun a u e n f xx => ?_, fun a u e => ?_⟩ S3 _ (.ref (by rw [← S2.len]; simp))
        · obtain ⟨e1, n1, f1⟩ := L.ext a u e n f xx
          have ha : a ≠ p := fun z => by rw [z, hp] at e; cases e
          refine ⟨by rw [upd_ne ha]; exact e1, fun z => ?_, f1⟩
          rcases List.mem_append.mp z with z | z
          · exact n1 z
          · exact ha (List.mem_singleton.mp z)
        · obtain ⟨u', e'⟩ := L.alive a u e
          have ha : a ≠ p := fun z => by rw [z, hp] at e; cases e
          exact ⟨u', by rw [upd_ne ha]; exact e'⟩
      · rw [if_neg hr] at y; exact y.elim
    · rw [if_neg h15'] at y; exact y.elim
end
end HC
end
section
set_option Elab.async false
set_option linter.all false
set_option maxRecDepth 100000
set_option autoImplicit false
namespace HC
open PySem PySem.Spec L2 PyProof.Rows
/-! ### a call of a def that is picked: [f, g][k](..) -/
def tCallX (P : Program) (w : World) (K : PySem.W.Frag) (mg : Str → Option Value) (base : Heap) (k n : Nat) (W : WX) (te : TE) (t : TA) : TE := fun σ H Q => te σ H fun v H0 => ∃ (x : Str) (st : Stmt) (ps : List Str) (m : Fn) (f : Addr), Cal P w K mg base x st ps k m ∧ Bd x st ps ∧ ps.length = n ∧ mg x = some (.ref f) ∧ v = .ref f ∧
  t σ H0 fun vs H1 => spM K mg ps.length m vs H1 Q fun c d H' => W c d σ H'
section
variable {X : Cx} {W : WX} {k n : Nat} {pos ps1 : Pos} {e a b : Expr} {es : List Expr} {tf : TE} {ef : Ev} {ta : TA} {av : Av} {tb : Str → Option Fn}
theorem ee_pick (hc : ∀ y m, tb y = some m → ∃ st ps, Cal X.prog X.w X.K X.mg X.base y st ps k m ∧ Bd y st ps ∧ ps.length = n) (hr : RoomG k X.A) (hx : Takes X W) (hf : EE X W (.Subscript a b ps1) tf ef) (ha : EA X W (e :: es) ta av) (hn : (e :: es).length = n := by rfl)
    (he : starEach (e :: es) X.env = (false, eval e X.env) :: starEach es X.env := by rfl) (hpl : (backTo pos (starEach es X.env)).any (·.1) = false := by rfl) :
    EE X W (.Call (.Subscript a b ps1) (e :: es) [] pos) (tCallX X.prog X.w X.K X.mg X.base k n W tf ta) (eCallV tb ef av) := by
  refine ⟨⟨fun pins s σ H Q I h => ?_⟩, ?_⟩
  · show wpAny _ _ (do callWith pos (← eval (.Subscript a b ps1) X.env) [] (backTo pos (starEach (e :: es) X.env)) (backToKw pos (keywordEach [] X.env))) _ _ _
    refine wpAny_bind (thn (hf.pe.run pins s σ H _ I h) fun u s1 ⟨v, H1, I1, r1, q1⟩ => ?_)
    obtain ⟨y, st, ps, m, f, c, hb, hl, hm, rfl, q⟩ := q1
    cases r1
    obtain ⟨f', fd, hm', F, G⟩ := c.ex
    rw [hm] at hm'
    cases hm'
    refine PySem.W.callWith_K (h₀ := X.base) I1.ok.mod.kin F.kp (thn (ha.pa.run pos pins s1 σ _ _ I1 q) fun us s2 ⟨vs, H2, I2, r, q2⟩ => ⟨I2.kIn, ?_⟩) he hpl
    exact runW G hr (F.bindsN hb) .nil hx I2 r (by rw [List.append_nil]; exact q2)
  · intro ca F H σ env h Q S x
    refine hf.snd ca F H σ env h _ S ((Aft.bind x).mono fun d ca1 F1 H1 h1 _ L1 S1 y v rv => ?_)
    cases d with
    | fn z =>
      dsimp only at y
      split at y
      · rename_i m hm
        obtain ⟨st, ps, c, hb, hl⟩ := hc z m hm
        obtain ⟨f, rfl, hf'⟩ := rv.fn'
        refine ⟨z, st, ps, m, f, c, hb, hl, hf', rfl, ?_⟩
        refine ha.snd ca1 F1 H1 σ env h1 _ S1 ((Aft.bind y).mono fun ds ca2 F2 H2 h2 e2 L2 S2 y2 vs rs => ?_)
        refine ⟨?_, ca2, F2, h2, _, S2.bare, rs, Aft.inner S2 y2⟩
        rw [RepDs.length rs, ha.len _ _ _ _ e2, hl]
        exact hn
      · exact y.elim
    | _ => exact y.elim
end
/-! ### keyword values, arguments put in an order, defaults -/
def Kw (x : Str) (st : Stmt) (ps : List Str) (n : Nat) (ks : List Str) (g : List Value → List Value → List Value) : Prop := ∀ (kV doc pm : Value) (an : Option Addr) (cdv ct : Value) (us ws : List Value), us.length = n → ws.length = ks.length →
  bindArgs (PySem.W.fnOf x x (defArgs st) (defBody st) (defScope st) .none kV doc pm an cdv ct) ⟨us, ks.zip ws⟩ = pure (ps.zip (g us ws))
def Bdd (x : Str) (st : Stmt) (ps : List Str) (m n j : Nat) : Prop := ∀ (T : Addr) (kV doc pm : Value) (an : Option Addr) (cdv ct : Value) (us its : List Value), us.length = n → its.length = m →
  ∃ k, bindArgs (PySem.W.fnOf x x (defArgs st) (defBody st) (defScope st) (.ref T) kV doc pm an cdv ct) ⟨us, []⟩ = seqItems? (.ref T) >>= k ∧ k (some its.toArray) = pure (ps.zip (us ++ its.drop j))
section
variable {X : Cx} {W : WX} {x : Str} {st : Stmt} {ps : List Str} {k n j mm : Nat} {m : Fn} {p pos : Pos} {e : Expr} {es : List Expr} {ta : TA} {av : Av} {dv : List V} {dd : List D}
theorem ee_calD (c : Cal X.prog X.w X.K X.mg X.base x st ps k m dv) (hb : Bdd x st ps mm n j) (hr : RoomG k X.A) (hx : Takes X W) (ha : EA X W (e :: es) ta av) (hdd : ∀ ca F, RepDs X.K X.mg ca F (dv.drop j) dd) (hd : dv ≠ []) (hm : mm = dv.length := by rfl) (hn : n + (dv.length - j) = ps.length := by rfl) (hl : (e :: es).length + (dv.drop j).length = ps.length := by rfl)
    (hg : Gl X x := by rfl) (hdb : (x == ("__debug__" : Str)) = false := by decide) (he : starEach (e :: es) X.env = (false, eval e X.env) :: starEach es X.env := by rfl) (hpl : (backTo pos (starEach es X.env)).any (·.1) = false := by rfl) :
    EE X W (.Call (.Name x p) (e :: es) [] pos) (tCallW (spM X.K X.mg ps.length m) (dv.drop j) W ta) (eCall m dd av) := by
  subst hm
  obtain ⟨f, fd, hm, F, G⟩ := c.ex
  obtain ⟨ds, hv, hB⟩ := FunD.binds1 F n j hd hn hb
  exact ee_call G hr hm F.kp hB hv hdd hx ha hl hg hdb he hpl
end
end HC
end
section
set_option Elab.async false
set_option linter.all false
set_option maxRecDepth 100000
set_option autoImplicit false
namespace HC
open PySem L2 PyProof.Rows
section
variable {X : Cx} {K : PySem.W.Frag} {mg : Str → Option Value} {W : WX} {ca : List Addr} {F H : Hp} {σ : St} {env : Env} {h : Hs} {v : V} {d : D}
/-! ### enumerate, zip -/
/-- a source of items: what the walk tells stands at the place -/
def SqAt (K : PySem.W.Frag) (mg : Str → Option Value) (sq : Hp → Addr → List V → Prop) (ca : List Addr) (F : Hp) (a : Addr) (wk : Wk) : Prop := ∀ ca' F' G σ env h i, Pre ca ca' → Sub F F' → Sim K mg ca' F' G σ env h →
  (∀ d, wk h i = .it d → ∃ vs v, sq G a vs ∧ vs[i]? = some v ∧ RepD K mg ca' F' v d) ∧ (wk h i = .st → ∃ vs, sq G a vs ∧ vs.length ≤ i)
theorem sqAt_L {a : Addr} {vs : List V} {ds : List D} (hq : SqL K F a vs) (r : RepDs K mg ca F vs ds) : SqAt K mg (SqL K) ca F a (wkL ds) := fun ca' F' G σ env h i hc hF S => by
  have q := SqL.mono S.sub (SqL.mono hF hq)
  refine ⟨fun d hd => ?_, fun hi => ⟨vs, q, by rw [RepDs.length r]; exact wkL_st hi⟩⟩
  obtain ⟨v, e, rd⟩ := RepDs.get r (wkL_it hd)
  exact ⟨vs, v, q, e, RepD.mono hF hc _ _ rd⟩
theorem sqAt_T {a : Addr} {vs : List V} {ds : List D} (hq : SqT K F a vs) (r : RepDs K mg ca F vs ds) : SqAt K mg (SqT K) ca F a (wkL ds) := fun ca' F' G σ env h i hc hF S => by
  have q := SqT.mono S.sub (SqT.mono hF hq)
  refine ⟨fun d hd => ?_, fun hi => ⟨vs, q, by rw [RepDs.length r]; exact wkL_st hi⟩⟩
  obtain ⟨v, e, rd⟩ := RepDs.get r (wkL_it hd)
  exact ⟨vs, v, q, e, RepD.mono hF hc _ _ rd⟩
theorem sqAt_C {a : Addr} {c : Nat} (ha : ca[c]? = some a) : SqAt K mg (SqL K) ca F a (wkC c) := fun ca' F' G σ env h i hc hF S => by
  have ha' := hc.get ha
  have key : ∀ xs, h.get c = some (.lst xs) → ∃ vs, G a = some (.lst vs) ∧ RepDs K mg ca' F' vs xs := fun xs e => by
    obtain ⟨b, e1, f, vs, q, l, r⟩ := S.obj c _ e
    rw [ha'] at e1
    cases e1
    exact ⟨vs, q, r⟩
  unfold wkC
  refine ⟨fun d hd => ?_, fun hi => ?_⟩
  · split at hd
    · rename_i e
      split at hd
      · rename_i e2
        cases hd
        obtain ⟨vs, q, r⟩ := key _ e
        obtain ⟨v, e3, rd⟩ := RepDs.get r e2
        exact ⟨vs, v, sql_of q, e3, rd⟩
      · cases hd
    · cases hd
  · split at hi
    · rename_i e
      split at hi
      · cases hi
      · rename_i e2
        obtain ⟨vs, q, r⟩ := key _ e
        exact ⟨vs, sql_of q, by rw [RepDs.length r]; exact List.getElem?_eq_none_iff.mp e2⟩
    · cases hi
/-- a list's walk, a tuple's -/
def wkS (h : Hs) : D → Option Wk
  | .rl xs => some (wkL xs)
  | .ref c => (match h.get c with
    | some (.lst _) => some (wkC c)
    | _ => none)
  | _ => none
theorem wkS_of {wk : Wk} (S : Sim K mg ca F H σ env h) (r : RepD K mg ca F v d) (e : wkS h d = some wk) : ∃ a vs, v = .ref a ∧ SqL K H a vs ∧ SqAt K mg (SqL K) ca F a wk := by
  cases d with
  | rl xs => cases e; obtain ⟨a, vs, rfl, q, l, r⟩ := r.rl'; exact ⟨a, vs, rfl, SqL.mono S.sub q, sqAt_L q r⟩
  | ref c =>
    unfold wkS at e
    dsimp only at e
    split at e
    · rename_i g
      cases e
      obtain ⟨a, vs, rfl, ha, q, l, r⟩ := S.lst r g
      exact ⟨a, vs, rfl, sql_of q, sqAt_C ha⟩
    · cases e
  | _ => cases e
def wkE (w : Wk) : Wk := fun h i => match w h i with
  | .it d => .it (.tup .ex [.int (i : Nat), d])
  | t => t
def wkZ (w u : Wk) : Wk := fun h i => match w h i, u h i with
  | .it d, .it e => .it (.tup .ex [d, e])
  | .it _, .st => .st
  | .st, .it _ => .st
  | .st, .st => .st
  | _, _ => .no
theorem itY_pair {ca : List Addr} {F G : Hp} {p : Addr} {x y : V} {a b : D} (hG : Sub F G) (hp : G p = none) (r1 : RepD K mg ca F x a) (r2 : RepD K mg ca F y b) : ItY K mg ca F G (.tup .ex [a, b]) (.ref p) (upd G p (.tup [x, y])) := by
  have fp' : F p = none := hG.none hp
  have ff : Sub F (upd F p (.tup [x, y])) := fun a u e => by rw [upd_ne (ne_of_none e fp')]; exact e
  exact .inr ⟨p, [x, y], hp, rfl, .tup (t := .ex) (show TupAt _ _ .ex _ _ from upd_same) (by show 2 ≤ sizeLine; decide) (.cons (RepD.mono ff .refl _ _ r1) (.cons (RepD.mono ff .refl _ _ r2) .nil))⟩
theorem itOk_enum {a : Addr} {wk : Wk} (q : SqAt K mg (SqL K) ca F a wk) : ItOk K mg ca F (Ite K a) (wkE wk) := fun ca' F' G σ env h i hc hF S => by
  obtain ⟨q1, q2⟩ := q ca' F' G σ env h i hc hF S
  unfold wkE
  refine ⟨fun d hd => ?_, fun hd => ?_⟩
  · split at hd
    · rename_i d' e
      cases hd
      obtain ⟨vs, v, s, e1, r⟩ := q1 _ e
      refine ⟨⟨vs, v, s, e1⟩, fun x G' y => ?_⟩
      obtain ⟨p, x', rfl, hp, rfl, z⟩ := y
      have z := z vs s
      rw [e1] at z
      cases z
      exact itY_pair S.sub hp (.int _) r
    · rename_i t hn
      exact absurd hd (hn d)
  · split at hd
    · cases hd
    · exact q2 hd
theorem itOk_zip {sq : Hp → Addr → List V → Prop} {J : It} {a b : Addr} {w u : Wk} (q : SqAt K mg sq ca F a w) (q' : SqAt K mg sq ca F b u)
    (hJ : J = ⟨fun i H => ∃ (xs ys : List V) (x y : V), sq H a xs ∧ sq H b ys ∧ xs[i]? = some x ∧ ys[i]? = some y, fun i H v H' => ∃ T x y, v = .ref T ∧ H T = none ∧ H' = upd H T (.tup [x, y]) ∧ (∀ xs, sq H a xs → xs[i]? = some x) ∧ ∀ ys, sq H b ys → ys[i]? = some y,
      fun i H => ∃ xs ys : List V, sq H a xs ∧ sq H b ys ∧ (xs.length ≤ i ∨ ys.length ≤ i)⟩) : ItOk K mg ca F J (wkZ w u) := fun ca' F' G σ env h i hc hF S => by
  subst hJ
  obtain ⟨q1, q2⟩ := q ca' F' G σ env h i hc hF S
  obtain ⟨p1, p2⟩ := q' ca' F' G σ env h i hc hF S
  unfold wkZ
  refine ⟨fun d hd => ?_, fun hd => ?_⟩
  · split at hd
    · rename_i e1 e2
      cases hd
      obtain ⟨vs, v, s, e3, r⟩ := q1 _ e1
      obtain ⟨us, x, t, e4, r'⟩ := p1 _ e2
      refine ⟨⟨vs, us, v, x, s, t, e3, e4⟩, fun z G' y => ?_⟩
      obtain ⟨p, x', y', rfl, hp, rfl, z1, z2⟩ := y
      have z1 := z1 vs s
      have z2 := z2 us t
      rw [e3] at z1
      rw [e4] at z2
      cases z1
      cases z2
      exact itY_pair S.sub hp r r'
    all_goals cases hd
  · split at hd
    · cases hd
    · rename_i e1 e2
      obtain ⟨vs, v, s, e3, r⟩ := q1 _ e1
      obtain ⟨us, t, l⟩ := p2 e2
      exact ⟨vs, us, s, t, .inr l⟩
    · rename_i e1 e2
      obtain ⟨vs, s, l⟩ := q2 e1
      obtain ⟨us, x, t, e4, r'⟩ := p1 _ e2
      exact ⟨vs, us, s, t, .inl l⟩
    · rename_i e1 e2
      obtain ⟨vs, s, l⟩ := q2 e1
      obtain ⟨us, t, l'⟩ := p2 e2
      exact ⟨vs, us, s, t, .inl l⟩
    · cases hd
def iEn (a : Av) : Iv := fun env h => (a env h).bind fun ds h1 => match ds with
  | [d] => (match wkS h1 d with
    | some w => .ok (wkE w) h1
    | none => .no)
  | _ => .no
def iZp (a : Av) : Iv := fun env h => (a env h).bind fun ds h1 => match ds with
  | [.tup _ xs, .tup _ ys] => .ok (wkZ (wkL xs) (wkL ys)) h1
  | [d, e] => (match wkS h1 d, wkS h1 e with
    | some w, some u => .ok (wkZ w u) h1
    | _, _ => .no)
  | _ => .no
theorem snd_enum {ta : TA} {av : Av} (ha : SndA K mg W ta av) : SndI K mg W (iEnum K ta) (iEn av) := by
  intro ca F H σ env h R S x
  refine ha ca F H σ env h _ S ((Aft.bind x).mono fun ds ca1 F1 H1 h1 hz L1 S1 y vs rs => ?_)
  clear hz
  split at y
  · split at y
    · rename_i w hw
      obtain ⟨v, rfl, rv⟩ := rs.one
      obtain ⟨a, us, rfl, q, s⟩ := wkS_of S1 rv hw
      exact ⟨a, us, rfl, q, (Aft.ok (h := h1) y S1) _ (itOk_enum s)⟩
    · exact y.elim
  · exact y.elim
theorem ei_enum {e : Expr} {ta : TA} {av : Av} {p pos tpos : Pos} {elts : List Expr} {kk : Nat} (hm : X.mg "enumerate" = none) (ha : EA X W [e] ta av) (hg : Gl X "enumerate" := by rfl) (hs : starEach [e] X.env = [(false, eval e X.env)] := by rfl) :
    EI X W (.Tuple elts kk tpos) (.Call (.Name "enumerate" p) [e] [] pos) (iEnum X.K ta) (iEn av) := ⟨pi_enum hg hm ha.pa hs, snd_enum ha.snd⟩
theorem snd_zip {ta : TA} {av : Av} (ha : SndA K mg W ta av) : SndI K mg W (RZ.iZipA K ta) (iZp av) := by
  intro ca F H σ env h R S x
  refine ha ca F H σ env h _ S ((Aft.bind x).mono fun ds ca1 F1 H1 h1 hz L1 S1 y vs rs => ?_)
  clear hz
  split at y
  · obtain ⟨v, u, rfl, r1, r2⟩ := rs.two
    obtain ⟨a, xs, rfl, q1, _, s1⟩ := r1.tup'
    obtain ⟨b, ys, rfl, q2, _, s2⟩ := r2.tup'
    exact ⟨a, b, xs, ys, rfl, .inr ⟨SqT.mono S1.sub q1, SqT.mono S1.sub q2, (Aft.ok (h := h1) y S1) _ (itOk_zip (sqAt_T q1 s1) (sqAt_T q2 s2) rfl)⟩⟩
  · split at y
    · rename_i w u hw hu
      obtain ⟨v, z, rfl, r1, r2⟩ := rs.two
      obtain ⟨a, xs, rfl, q1, s1⟩ := wkS_of S1 r1 hw
      obtain ⟨b, ys, rfl, q2, s2⟩ := wkS_of S1 r2 hu
      exact ⟨a, b, xs, ys, rfl, .inl ⟨q1, q2, (Aft.ok (h := h1) y S1) _ (itOk_zip s1 s2 rfl)⟩⟩
    · exact y.elim
  · exact y.elim
theorem ei_zip {e e2 : Expr} {ta : TA} {av : Av} {p pos tpos : Pos} {elts : List Expr} {kk : Nat} (hm : X.mg "zip" = none) (ha : EA X W [e, e2] ta av) (hg : Gl X "zip" := by rfl) (hs : starEach [e, e2] X.env = (false, eval e X.env) :: starEach [e2] X.env := by rfl) (hpl : (backTo pos (starEach [e2] X.env)).any (·.1) = false := by rfl) :
    EI X W (.Tuple elts kk tpos) (.Call (.Name "zip" p) [e, e2] [] pos) (RZ.iZipA X.K ta) (iZp av) := ⟨RZ.pi_zipA hg hm ha.pa hs hpl, snd_zip ha.snd⟩
end
end HC
end
section
set_option Elab.async false
set_option linter.all false
set_option maxRecDepth 100000
set_option autoImplicit false
namespace HC
open PySem PySem.Spec L2 PyProof.Rows
section
variable {X : Cx}
/-! ### tuple(..), list(..) -/
theorem frzTup_ok {P : Program} {w : World} {H : Hp} {h : Heap} {a : Addr} {xs : List V} {its : List Value} (hz : xs.length ≤ sizeLine) (r : Vals xs its) (e : h.get? a = some { cls := .type "tuple", data := .seq its.toArray }) :
    ObjOk P w H h a (.frz { cls := .type "tuple", data := .seq its.toArray } (.tup xs)) := ⟨e, hz, its, r, _, e, rfl, _, rfl⟩
def rTupOf (K : PySem.W.Frag) : List V → Hp → VK → Prop := fun xs H Q => ∃ p ys, xs = [.ref p] ∧ ((SqL K H p ys ∧ ∀ l o, H l = none → o.dict = none → Q (.ref l) (upd H l (.frz o (.tup ys)))) ∨ (SqT K H p ys ∧ Q (.ref p) H))
theorem call_tuple_ofP : CallR X (.type "tuple") (rTupOf X.K) := by
  intro pins s σ H xs us Q I r h
  obtain ⟨p, ys, rfl, h⟩ := h
  obtain ⟨u, rfl, rx⟩ := vals1 r
  cases rx
  rcases h with ⟨hq, q⟩ | ⟨hq, q⟩
  · obtain ⟨its, r', pl, hz⟩ := I.list hq
    have hlen := r'.length
    refine call_tuple_list pl.isList (fun h' kp => ?_) (by simp only [List.size_toArray] <;> omega)
    have I1 : Inv X pins σ H { s with heap := h' } := I.kept (t' := s.toks) kp
    exact ⟨.ref h'.objs.size, _, I1.laid (t' := s.toks) (fun b o e => Heap.get?_push_of_some _ e) (Nat.le_refl _) (frzTup_ok hz r' (Heap.get?_push_size _ rfl)), rfl, q _ { cls := .type "tuple", data := .seq its.toArray } (I1.hok.fresh (Nat.le_refl _)) rfl⟩
  · obtain ⟨its, r', pl, hz⟩ := I.tuple hq
    exact call_tuple_same pl ⟨.ref p, H, I, rfl, q⟩
end
section
variable {X : Cx} {K : PySem.W.Frag} {mg : Str → Option Value} {W : WX} {ca : List Addr} {F H : Hp} {σ : St} {env : Env} {h : Hs} {v : V} {d : D}
def dTuple : Hs → List D → Rs D := fun h ds => match ds with
  | [.tup t xs] => .ok (.tup t xs) h
  | [d] => (match seqL h d with
    | some xs => .ok (.tup .pl xs) h
    | none => .no)
  | _ => .no
theorem n_tuple : OpNS K mg W (rTupOf K) dTuple := by
  intro ca F H σ env h xs ds Q S r z
  unfold dTuple at z
  split at z
  · obtain ⟨v, rfl, rv⟩ := r.one
    obtain ⟨a, vs, rfl, q, l, _⟩ := rv.tup'
    exact ⟨a, vs, rfl, .inr ⟨SqT.mono S.sub q, Aft.ok (h := h) z S _ rv⟩⟩
  · obtain ⟨v, rfl, rv⟩ := r.one
    split at z
    · rename_i ys e
      obtain ⟨a, vs, rfl, q, l, r⟩ := seqL_of S rv e
      refine ⟨a, vs, rfl, .inl ⟨q, fun p o hp ho => ?_⟩⟩
      obtain ⟨S2, L2⟩ := S.tup (o := .frz o (.tup vs)) hp
      exact z _ _ _ L2 S2 _ (.tup (t := .pl) ⟨o, upd_same, ho⟩ l (RepDs.mono L2.ff .refl _ _ r))
    · exact z.elim
  · exact z.elim
def seqA (h : Hs) : D → Option (List D)
  | .tup _ xs => some xs
  | d => seqL h d
theorem seqA_of {ds : List D} (S : Sim K mg ca F H σ env h) (r : RepD K mg ca F v d) (e : seqA h d = some ds) : ∃ a vs, v = .ref a ∧ (SqL K H a vs ∨ SqT K H a vs) ∧ vs.length ≤ sizeLine ∧ RepDs K mg ca F vs ds := by
  have lst : seqL h d = some ds → ∃ a vs, v = .ref a ∧ (SqL K H a vs ∨ SqT K H a vs) ∧ vs.length ≤ sizeLine ∧ RepDs K mg ca F vs ds := fun e => by
    obtain ⟨a, vs, e1, q, l, r⟩ := seqL_of S r e
    exact ⟨a, vs, e1, .inl q, l, r⟩
  cases d with
  | tup _ xs => cases e; obtain ⟨a, vs, e1, q, l, r⟩ := r.tup'; exact ⟨a, vs, e1, .inr (SqT.mono S.sub q), l, r⟩
  | _ => exact lst e
def dList : Hs → List D → Rs D := fun h ds => match ds with
  | [d] => (match seqA h d with
    | some xs => mk (.lst xs) h
    | none => .no)
  | _ => .no
def rListOf (K : PySem.W.Frag) : List V → Hp → VK → Prop := fun xs H Q => ∃ p ys, xs = [.ref p] ∧ (SqL K H p ys ∨ SqT K H p ys) ∧ ∀ l, H l = none → Q (.ref l) (upd H l (.lst ys))
theorem cr_list {X : Cx} : CallR X (.type "list") (rListOf X.K) := call_list_of
theorem n_list : OpNS K mg W (rListOf K) dList := by
  intro ca F H σ env h xs ds Q S r z
  unfold dList at z
  split at z
  · obtain ⟨v, rfl, rv⟩ := r.one
    split at z
    · rename_i ys e
      obtain ⟨a, vs, rfl, q, l, r⟩ := seqA_of S rv e
      exact ⟨a, vs, rfl, q, fun p hp => mk_lst S z r l hp⟩
    · exact z.elim
  · exact z.elim
/-! ### repr -/
/-- repr of deep plain data, of an empty dict -/
def rRepr (K : PySem.W.Frag) : List V → Hp → VK → Prop := fun xs H Q => ∃ x p, xs = [x] ∧ ((Dp K H x p ∧ p.depth ≤ 60 ∧ p.hasDict = false) ∨ (∃ a, x = .ref a ∧ Rd H a (.dK []) ∧ p = .dict [])) ∧ p.showable = true ∧ p.shown.length ≤ sizeLine ∧ Q (.str p.shown) H
theorem cr_repr {X : Cx} (hg : X.A.guards = some []) (hu : X.A.units + 65 < cLine) : CallR X (.builtin "repr") (rRepr X.K) := by
  intro pins s σ H xs us Q I r h
  obtain ⟨x, p, rfl, hp, hs, hz, q⟩ := h
  obtain ⟨u, rfl, ru⟩ := r.one
  have fin : ∀ h' u' tk, (∀ b o, s.heap.get? b = some o → h'.get? b = some o) → EP X pins σ Q (.str p.shown u') { s with heap := h', toks := tk } := fun h' u' tk hk => ⟨.str p.shown, H, I.kept hk, ⟨_, rfl⟩, q⟩
  rcases hp with ⟨dp, hd, hn⟩ | ⟨a, rfl, ha, rfl⟩
  · obtain ⟨as, rd⟩ := Dp.reads I p x u dp ru
    cases rd with
    | none => exact PySem.P.repr_of_none ⟨.str _, H, I.tok _, ⟨_, rfl⟩, q⟩
    | bool b => exact PySem.P.repr_of_bool ⟨.str _, H, I.tok _, ⟨_, rfl⟩, by cases b <;> exact q⟩
    | int i t => exact PySem.P.repr_of_int (by simpa [PyData.showable] using hs) ⟨.str _, H, I.tok _, ⟨_, rfl⟩, q⟩
    | str y t => exact PySem.P.repr_of_str ⟨.str _, H, I.tok _, ⟨_, rfl⟩, q⟩ hz
    | list e1 e2 e3 e4 => exact repr_of_reads' (Reads.list e1 e2 e3 e4) hs (PyData.noDict_hsm hn) hg (by omega) (fun _ _ e => e) fin hz
    | tuple e1 e2 e3 e4 => exact repr_of_reads' (Reads.tuple e1 e2 e3 e4) hs (PyData.noDict_hsm hn) hg (by omega) (fun _ _ e => e) fin hz
    | dict e1 e2 e3 e4 e5 => simp [PyData.hasDict] at hn
  · obtain rfl : u = Value.ref a := ru
    obtain ⟨hl, hm, vs, rel, o, es, ep, e1, e2, e3, e4, e5, e6⟩ := dk_rd I.hok ha
    cases rel
    have he : es = #[] := by
      cases es with | mk l => cases e5; rfl
    subst he
    refine repr_of_reads' (Reads.dict (as := []) (bs := []) (kvs := []) e1 e2.1 e3 .nil .nil) hs (fun _ => ?_) hg (by simp [PyData.depth, PyData.depthKv]; omega) (fun _ _ e => e) fin hz
    intro z
    simp at z
    rw [z] at hm
    simp at hm
def dRepr : Hs → List D → Option D := fun h ds => match ds with
  | [d] => (match vw h 60 d with
    | some p => if p.showable = true ∧ p.shown.length ≤ sizeLine then some (.rep p) else none
    | none => none)
  | _ => none
theorem leaf_nd {p : PyData} (e : leaf d = some p) : p.hasDict = false := by
  cases d <;> first | (cases e; rfl) | cases e
theorem mapO_nd {f : D → Option PyData} (ih : ∀ d p, f d = some p → p.hasDict = false) : ∀ (ds : List D) (ps : List PyData), mapO f ds = some ps → PyData.hasDictAll ps = false
  | [], _, e => by cases e; rfl
  | d :: ds, _, e => by
    unfold mapO at e
    split at e
    · cases e
    · rename_i p e1
      split at e
      · cases e
      · rename_i ps e2
        cases e
        simp only [PyData.hasDictAll, ih d p e1, mapO_nd ih ds ps e2, Bool.or_false]
theorem vw_nd : ∀ (n : Nat) (d : D) (p : PyData), vw h n d = some p → p.hasDict = false
  | 0, d, p, e => leaf_nd e
  | n + 1, d, p, e => by
    cases d with
    | tup t xs =>
      simp only [vw] at e
      split at e
      · cases e; simp only [PyData.hasDict]; exact mapO_nd (fun d p => vw_nd n d p) _ _ (by assumption)
      · cases e
    | rl xs =>
      simp only [vw] at e
      split at e
      · cases e; simp only [PyData.hasDict]; exact mapO_nd (fun d p => vw_nd n d p) _ _ (by assumption)
      · cases e
    | ref c =>
      simp only [vw] at e
      split at e
      · split at e
        · cases e; simp only [PyData.hasDict]; exact mapO_nd (fun d p => vw_nd n d p) _ _ (by assumption)
        · cases e
      · cases e
    | non => exact leaf_nd e
    | bl b => exact leaf_nd e
    | int i => exact leaf_nd e
    | str x => exact leaf_nd e
    | fn x => cases e
    | ty x => cases e
    | cls x => cases e
    | rep x => cases e
theorem n_repr : OpNR K mg (rRepr K) dRepr := by
  intro ca F H σ env h xs ds t Q S r e k
  unfold dRepr at e
  split at e
  · split at e
    · rename_i p hp
      split at e
      · rename_i hz
        cases e
        obtain ⟨v, rfl, rv⟩ := r.one
        obtain ⟨h1, h2, h3⟩ := vw_dp S 60 _ v p rv hp
        exact ⟨v, p, rfl, .inl ⟨h1, h3, vw_nd 60 _ p hp⟩, hz.1, hz.2, k _ (.rep p)⟩
      · cases e
    · cases e
  · cases e
end
end HC
end
section
set_option Elab.async false
set_option linter.all false
set_option maxRecDepth 100000
set_option autoImplicit false
namespace HC
open PySem PySem.Spec L2 PyProof.Rows
section
variable {X : Cx} {W : WX} {o e kk : Expr} {es : List Expr} {to te tk : TE} {ov ev kv : Ev} {apos cpos tpos pos : Pos}
/-! ### the walk's rules for what has a sound part already -/
theorem ee_app (ho : EE X W o to ov) (he : EE X W e te ev) (hbase : attributeBase o "append" X.env (eval o X.env) = eval o X.env := by rfl)
    (hfew : ((backTo cpos (starEach [e] X.env)).all (fun x => !x.1) && (backToKw cpos (keywordEach [] X.env)).all (fun x => x.1.isSome) && decide (([e] : List Expr).length + ([] : List Keyword).length + (if ([] : List Keyword).isEmpty then 0 else 1) < 30)) = true := by rfl)
    (hline : (apos.endLine == cpos.line) = true := by rfl) (hs : starEach [e] X.env = (false, eval e X.env) :: starEach [] X.env := by rfl) (hpl : (backTo cpos (starEach [] X.env)).any (·.1) = false := by rfl) :
    EE X W (.Call (.Attribute o "append" apos) [e] [] cpos) (tBM X.K "list" rAppend to (tCons te tNil)) (eBM dApp ov (aCons ev aNil)) :=
  ⟨pe_bm PySem.F.plainAttrs_list PySem.F.slot_list_append (by rfl) mt_append ho.pe (pa_cons he.pe pa_nil hs) hbase hfew hline hs hpl, snd_bm m_app ho.snd (snd_cons he.snd snd_nil)⟩
theorem ee_pop0 (ho : EE X W o to ov) (hbase : attributeBase o "pop" X.env (eval o X.env) = eval o X.env := by rfl) (hline : (apos.endLine == cpos.line) = true := by rfl) :
    EE X W (.Call (.Attribute o "pop" apos) [] [] cpos) (tBM0 X.K "list" rPop to) (eBM dPop ov aNil) := ⟨pe_bm0 PySem.F.plainAttrs_list PySem.F.slot_list_pop (by rfl) mt_pop ho.pe hbase hline, snd_bm0 m_pop ho.snd⟩
theorem ee_ins {f : Expr} {tf : TE} {fv : Ev} (ho : EE X W o to ov) (he : EE X W e te ev) (hf : EE X W f tf fv) (hbase : attributeBase o "insert" X.env (eval o X.env) = eval o X.env := by rfl)
    (hfew : ((backTo cpos (starEach [e, f] X.env)).all (fun x => !x.1) && (backToKw cpos (keywordEach [] X.env)).all (fun x => x.1.isSome) && decide (([e, f] : List Expr).length + ([] : List Keyword).length + (if ([] : List Keyword).isEmpty then 0 else 1) < 30)) = true := by rfl)
    (hline : (apos.endLine == cpos.line) = true := by rfl) (hs : starEach [e, f] X.env = (false, eval e X.env) :: starEach [f] X.env := by rfl) (hs2 : starEach [f] X.env = (false, eval f X.env) :: starEach [] X.env := by rfl) (hpl : (backTo cpos (starEach [f] X.env)).any (·.1) = false := by rfl) :
    EE X W (.Call (.Attribute o "insert" apos) [e, f] [] cpos) (tBM X.K "list" rInsert to (tCons te (tCons tf tNil))) (eBM dIns ov (aCons ev (aCons fv aNil))) :=
  ⟨pe_bm PySem.F.plainAttrs_list PySem.F.slot_list_insert (by rfl) mt_insert ho.pe (pa_cons he.pe (pa_cons hf.pe pa_nil hs2) hs) hbase hfew hline hs hpl, snd_bm m_ins ho.snd (snd_cons he.snd (snd_cons hf.snd snd_nil))⟩
/-- o[k] = e, o a list -/
theorem es_ix (he : EE X W e te ev) (ho : EE X W o to ov) (hk : EE X W kk tk kv)
    (ha : ∀ v, assign (.Subscript o kk tpos) X.env v = (do
      let ov ← holding [v] (eval o X.env)
      let iv ← holding [v, ov] (eval kk X.env)
      standAt tpos
      holding [v, ov, iv] (setItem ov iv v)
      release [v, ov, iv] []) := by intro _; rfl) (hs : swapsWithSole [.Subscript o kk tpos] e pos.line X.env = pure false := by rfl) (hw : swappedStores [.Subscript o kk tpos] e X.env = pure none := by rfl)
    (h1 : (assignEach [.Subscript o kk tpos] X.env).map (·.2) = [assign (.Subscript o kk tpos) X.env] := by rfl) :
    ES X W (.Assign [.Subscript o kk tpos] e pos) (tAsg te (gSub to tk rSetL)) (sIx ov ev kv) := ⟨ps_asg he.pe (pg_sub ho.pe hk.pe set_list ha) hs hw h1, snd_ix he.snd ho.snd hk.snd⟩
/-- o[k] = e, o a dict -/
theorem es_put (hu : X.A.units + 65 < cLine) (he : EE X W e te ev) (ho : EE X W o to ov) (hk : EE X W kk tk kv) (hs : swapsWith e (some (.Subscript o kk tpos)) pos.line X.env = pure false := by rfl)  :
    ES X W (.Assign [.Subscript o kk tpos] e pos) (sDPut to tk te) (sPut ov ev kv) := ⟨ps_dput (by omega) ho.pe hk.pe he.pe hs, snd_put he.snd ho.snd hk.snd⟩
theorem ee_add {a b : Expr} {ta tb : TE} {ea eb : Ev} (ha : EE X W a ta ea) (hb : EE X W b tb eb) : EE X W (.BinOp a .Add b pos) (tOp (rAdd X.K) ta tb) (e2 dAdd ea eb) := ⟨pe_op op_addAny ha.pe hb.pe, snd_e2 o_add ha.snd hb.snd⟩
end
end HC
end
section
set_option Elab.async false
set_option linter.all false
set_option maxRecDepth 100000
set_option autoImplicit false
namespace HC
open PySem PySem.Spec L2 PyProof.Rows
/-! ### sorted(list): by what the items show -/
abbrev leP : V × PyData → V × PyData → Bool := PySem.W.dataLe false (·.2)
def sortPs (bs : List (V × PyData)) : List V := (bs.mergeSort leP).map (·.1)
structure SortOk (K : PySem.W.Frag) (H : Hp) (bs : List (V × PyData)) : Prop where
  dp : ∀ b ∈ bs, Dp K H b.1 b.2
  al : PySem.W.AllAlike (bs.map (·.2))
  so : PySem.W.Sortable (bs.map (·.2))
  de : ∀ b ∈ bs, b.2.depth ≤ 60
def rSortA (K : PySem.W.Frag) : List V → Hp → VK → Prop := fun xs H Q => ∃ (a : Addr) (bs : List (V × PyData)), xs = [.ref a] ∧ SqL K H a (bs.map (·.1)) ∧ SortOk K H bs ∧ ∀ p, H p = none → Q (.ref p) (upd H p (.lst (sortPs bs)))
theorem each_rel {R : Value → V × PyData → Prop} : ∀ {bs : List (V × PyData)} {us : List Value}, Vals (bs.map (·.1)) us → (∀ b ∈ bs, ∀ u, RelV b.1 u → R u b) → PySem.W.EachIs R us bs
  | [], _, r, _ => by cases r; exact .nil
  | b :: bs, _, r, h => by
    cases r with
    | cons r1 r2 => exact .cons (h b List.mem_cons_self _ r1) (each_rel r2 fun b hb => h b (List.mem_cons_of_mem _ hb))
theorem rel_each : ∀ {bs : List (V × PyData)} {us : List Value}, PySem.W.EachIs (fun u b => RelV b.1 u) us bs → Vals (bs.map (·.1)) us
  | _, _, .nil => .nil
  | _, _, .cons h t => .cons h (rel_each t)
theorem sortPs_length (bs : List (V × PyData)) : (sortPs bs).length = bs.length := by unfold sortPs; rw [List.length_map, List.length_mergeSort]
theorem cr_sortA {X : Cx} (hu : X.A.units + 65 < cLine) : CallR X (.builtin "sorted") (rSortA X.K) := by
  intro pins s σ H vs us Q I r h
  obtain ⟨a, bs, rfl, hs, ok, q⟩ := h
  obtain ⟨its, rv, hl, hz⟩ := I.list hs
  rw [List.length_map] at hz
  rw [Vals.ref1 r]
  refine PySem.W.sorted_data (R := fun u b => RelV b.1 u) (enc := (·.2)) (bs := bs) hl.isList (each_rel rv fun b _ u e => e) (each_rel rv fun b hb u e => Dp.reads I b.2 b.1 u (ok.dp b hb) e) ok.al ok.so hz
    (fun b hb => by have := ok.de b hb; omega) fun out h1 h2 => ?_
  obtain ⟨ep, he'⟩ := PyProof.Rows.sortedAll_at s.heap its out.toArray
  have hv : Vals (sortPs bs) out := rel_each h2
  refine ⟨.ref _, upd H (s.heap.objs.size + 1) (.lst (sortPs bs)), I.laid (t' := s.toks) (fun _ _ => PyProof.Rows.sortedAll_old) (Nat.le_succ _) ⟨by rw [sortPs_length]; exact hz, out, ep, hv, he'⟩, rfl, q _ (I.hok.fresh (Nat.le_succ _))⟩
section
variable {X : Cx} {K : PySem.W.Frag} {mg : Str → Option Value} {W : WX} {ca : List Addr} {F H : Hp} {σ : St} {env : Env} {h : Hs} {v : V} {d : D}
def alikeP (ps : List PyData) : Bool := ps.all fun p => ps.all fun q => PySem.W.alike p q
def sortableP (ps : List PyData) : Bool := (ps.all fun p => match p with | .tuple (_ :: _) => true | _ => false) || ps.all fun p => match p with | .int _ => true | .str _ => true | .bool _ => true | _ => false
/-- items with what they show, sorted by that -/
def sortD (ds : List D) (ps : List PyData) : List D := ((ds.zip ps).mergeSort (PySem.W.dataLe false (·.2))).map (·.1)
def dSorted : Hs → List D → Rs D := fun h ds => match ds with
  | [d] => (match seqL h d with
    | some xs => (match mapO (vw h 60) xs with
      | some ps => if alikeP ps = true ∧ sortableP ps = true then mk (.lst (sortD xs ps)) h else .no
      | none => .no)
    | none => .no)
  | _ => .no
theorem alike_of {ps : List PyData} (q : alikeP ps = true) : PySem.W.AllAlike ps := fun p hp r hr => List.all_eq_true.mp (List.all_eq_true.mp q p hp) r hr
theorem sortable_of {ps : List PyData} (q : sortableP ps = true) : PySem.W.Sortable ps := by
  unfold sortableP at q
  rw [Bool.or_eq_true] at q
  rcases q with q | q
  · refine .inl fun p hp => ?_
    have z := List.all_eq_true.mp q p hp
    split at z
    · exact ⟨_, _, rfl⟩
    · cases z
  · refine .inr fun p hp => ?_
    have z := List.all_eq_true.mp q p hp
    split at z
    · exact ⟨by simp, by simp⟩
    · exact ⟨by simp, by simp⟩
    · exact ⟨by simp, by simp⟩
    · cases z
theorem mapO_len {α β : Type} {f : α → Option β} : ∀ {xs : List α} {ps : List β}, mapO f xs = some ps → ps.length = xs.length
  | [], _, e => by cases e; rfl
  | x :: xs, _, e => by
    unfold mapO at e
    split at e
    · cases e
    · split at e
      · cases e
      · rename_i q
        cases e
        rw [List.length_cons, List.length_cons, mapO_len q]
/-- three lists side by side -/
theorem zip3 {f : D → Option PyData} {P : V → PyData → Prop} (hf : ∀ d v p, RepD K mg ca F v d → f d = some p → P v p) : ∀ (ds : List D) (vs : List V) (ps : List PyData), RepDs K mg ca F vs ds → mapO f ds = some ps →
    ∃ zs : List (V × D × PyData), zs.map (·.1) = vs ∧ zs.map (·.2.1) = ds ∧ zs.map (·.2.2) = ps ∧ ∀ z ∈ zs, RepD K mg ca F z.1 z.2.1 ∧ P z.1 z.2.2
  | [], _, _, r, e => by cases r; cases e; exact ⟨[], rfl, rfl, rfl, fun _ z => nomatch z⟩
  | d :: ds, _, _, r, e => by
    cases r with
    | @cons v vs _ _ r1 r2 =>
      unfold mapO at e
      split at e
      · cases e
      · rename_i p e1
        split at e
        · cases e
        · rename_i ps e2
          cases e
          obtain ⟨zs, a, b, c, q⟩ := zip3 hf ds vs ps r2 e2
          refine ⟨(v, d, p) :: zs, by simp [a], by simp [b], by simp [c], fun z hz => ?_⟩
          rcases List.mem_cons.mp hz with rfl | hz
          · exact ⟨r1, hf _ _ _ r1 e1⟩
          · exact q z hz
theorem RepDs.of3 : ∀ {zs : List (V × D × PyData)}, (∀ z ∈ zs, RepD K mg ca F z.1 z.2.1) → RepDs K mg ca F (zs.map (·.1)) (zs.map (·.2.1))
  | [], _ => .nil
  | z :: zs, q => .cons (q z List.mem_cons_self) (RepDs.of3 fun y hy => q y (List.mem_cons_of_mem _ hy))
theorem n_sorted : OpNS K mg W (rSortA K) dSorted := by
  intro ca F H σ env h xs ds Q S r z
  unfold dSorted at z
  split at z
  · obtain ⟨v, rfl, rv⟩ := r.one
    split at z
    · rename_i ys e
      split at z
      · rename_i ps e2
        split at z
        · rename_i hc
          obtain ⟨a, vs, rfl, q, l, r⟩ := seqL_of S rv e
          obtain ⟨zs, z1, z2, z3, zq⟩ := zip3 (P := fun v p => Dp K H v p ∧ p.canLay0 = true ∧ p.depth ≤ 60) (fun d v p r e => vw_dp S 60 d v p r e) ys vs ps r e2
          let f : V × D × PyData → V × PyData := fun z => (z.1, z.2.2)
          let g : V × D × PyData → D × PyData := fun z => (z.2.1, z.2.2)
          let le3 : V × D × PyData → V × D × PyData → Bool := PySem.W.dataLe false (·.2.2)
          have s1 : (zs.mergeSort le3).map f = (zs.map f).mergeSort leP := List.map_mergeSort fun a _ b _ => rfl
          have s2 : (zs.mergeSort le3).map g = (zs.map g).mergeSort (PySem.W.dataLe false (·.2)) := List.map_mergeSort fun a _ b _ => rfl
          have eg : zs.map g = ys.zip ps := by
            rw [← z2, ← z3]
            clear s1 s2 z1 z2 z3 zq z e e2 r
            induction zs with
            | nil => rfl
            | cons y ys ih => simp only [List.map_cons, List.zip_cons_cons, ih]; rfl
          have rs : RepDs K mg ca F (sortPs (zs.map f)) (sortD ys ps) := by
            have q := RepDs.of3 (K := K) (mg := mg) (ca := ca) (F := F) (zs := zs.mergeSort le3) fun z hz => (zq z (List.mem_mergeSort.mp hz)).1
            unfold sortPs sortD
            rw [← s1, ← eg, ← s2, List.map_map, List.map_map]
            exact q
          have e1 : (zs.map f).map (·.1) = vs := by rw [List.map_map]; exact z1
          have e3 : (zs.map f).map (·.2) = ps := by rw [List.map_map]; exact z3
          refine ⟨a, zs.map f, rfl, by rw [e1]; exact q, ⟨fun b hb => ?_, by rw [e3]; exact alike_of hc.1, by rw [e3]; exact sortable_of hc.2, fun b hb => ?_⟩, fun p hp => mk_lst S z rs ?_ hp⟩
          · obtain ⟨y, hy, rfl⟩ := List.mem_map.mp hb
            exact (zq y hy).2.1
          · obtain ⟨y, hy, rfl⟩ := List.mem_map.mp hb
            exact (zq y hy).2.2.2
          · rw [sortPs_length, List.length_map, ← List.length_map (f := fun z : V × D × PyData => z.1), z1]
            exact l
        · exact z.elim
      · exact z.elim
    · exact z.elim
  · exact z.elim
end
end HC
end
section
set_option Elab.async false
set_option linter.all false
set_option maxRecDepth 100000
set_option maxHeartbeats 1000000
set_option autoImplicit false
namespace HC
open PySem PySem.Spec L2 PyProof.Rows
/-! ### instances of own classes: fields -/
section
variable {X : Cx} {K : PySem.W.Frag} {mg : Str → Option Value} {W : WX} {ca : List Addr} {F H : Hp} {σ : St} {env : Env} {h : Hs} {v : V} {d : D}
theorem Sim.inst (S : Sim K mg ca F H σ env h) {c : Nat} {n : Str} {xs : List (Str × D)} (r : RepD K mg ca F v (.ref c)) (g : h.get c = some (.ins n xs)) : ∃ a C dx vs, v = .ref a ∧ ca[c]? = some a ∧ mg n = some (.ref C) ∧ H a = some (.ins C dx vs) ∧ RepKs K mg ca F vs xs := by
  obtain ⟨a, rfl, e⟩ := r.ref'
  obtain ⟨b, e1, f, C, dx, vs, m, q, r⟩ := S.obj c _ g
  rw [e] at e1
  cases e1
  exact ⟨a, C, dx, vs, rfl, e, m, q, r⟩
theorem RepKs.fld (f : Str) : ∀ {ds : List (Str × D)} {vs : List (Str × V)}, RepKs K mg ca F vs ds → (ds.lookup f = none ∧ vs.lookup f = none) ∨ ∃ d v, ds.lookup f = some d ∧ vs.lookup f = some v ∧ RepD K mg ca F v d
  | [], _, r => by cases r; exact .inl ⟨rfl, rfl⟩
  | _ :: ds, _, r => by
    cases r with
    | @cons j v vs d ds r1 r2 =>
      by_cases e : (f == j) = true
      · exact .inr ⟨d, v, by rw [List.lookup_cons, e], by rw [List.lookup_cons, e], r1⟩
      · have e' : (f == j) = false := Bool.eq_false_iff.mpr e
        rw [List.lookup_cons, e', List.lookup_cons, e']
        exact RepKs.fld f r2
def eFld (ok : Str → Bool) (f : Str) (e : Ev) : Ev := fun env h => (e env h).bind fun d h1 => match d with
  | .ref c => (match h1.get c with
    | some (.ins n fs) => if ok n = true then (match fs.lookup f with
      | some t => .ok t h1
      | none => .no) else .no
    | _ => .no)
  | _ => .no
theorem snd_fld {ok : Str → Bool} {f : Str} {te : TE} {ev : Ev} (hok : ∀ n C, ok n = true → mg n = some (.ref C) → Cls K C ∧ NoAttr K C f) (he : SndE K mg W te ev) : SndE K mg W (tFld K te f) (eFld ok f ev) := by
  intro ca F H σ env h Q S x
  refine he ca F H σ env h _ S ((Aft.bind x).mono fun d ca1 F1 H1 h1 hz L1 S1 y v rv => ?_)
  clear hz
  split at y
  · split at y
    · rename_i g
      split at y
      · rename_i q
        split at y
        · rename_i t ht
          obtain ⟨a, C, dx, vs, rfl, _, m, ha, r⟩ := S1.inst rv g
          obtain ⟨T, hn⟩ := hok _ _ q m
          rcases RepKs.fld f r with ⟨z1, z2⟩ | ⟨d1, v1, z1, z2, rd⟩
          · rw [z1] at ht; cases ht
          · rw [z1] at ht
            cases ht
            exact ⟨a, C, dx, vs, v1, rfl, ha, T, hn, z2, Aft.ok (h := h1) y S1 _ rd⟩
        · exact y.elim
      · exact y.elim
    · exact y.elim
  · exact y.elim
theorem ee_fld {ok : Str → Bool} {f : Str} {e : Expr} {te : TE} {ev : Ev} {pos : Pos} (hok : ∀ n C, ok n = true → X.mg n = some (.ref C) → Cls X.K C ∧ NoAttr X.K C f) (he : EE X W e te ev) (hb : attributeBase e f X.env (eval e X.env) = eval e X.env := by rfl) :
    EE X W (.Attribute e f pos) (tFld X.K te f) (eFld ok f ev) := ⟨pe_fld he.pe hb, snd_fld hok he.snd⟩
end
/-! calls of methods, new instances -/
def tMethW (C : Addr) (m : Str) (sp : Sp) (dvs : List V) (W : WX) (ta : TE) (t : TA) : TE := fun σ H Q => ta σ H fun x H1 => ∃ a dx fs, x = .ref a ∧ H1 a = some (.ins C dx fs) ∧ fs.lookup m = none ∧ t σ H1 fun vs H2 => sp (x :: (vs ++ dvs)) H2 Q fun c d H' => W c d σ H'
def tMakeW (C : Addr) (sp : Sp) (dvs : List V) (W : WX) (t : TA) : TE := fun σ H Q => t σ H fun vs H1 => ∀ x dx, H1 x = none → H1 dx = none → dx ≠ x → sp (.ref x :: (vs ++ dvs)) (upd (upd H1 dx (.own x)) x (.ins C dx [])) (fun v H2 => v = .non ∧ Q (.ref x) H2) fun c d H' => W c d σ H'
section
variable {X : Cx} {W : WX} {k : Nat} {f C : Addr} {fd : FuncData} {ps : List Str} {sp : Sp} {dvs : List V} {ds : List Value} {x m : Str} {p pos apos : Pos} {e o : Expr} {es : List Expr} {ta : TE} {t : TA}
theorem pe_methW {pl : Sem Bool} (he : PE X o ta) (c : Cls X.K C) (hm : Meth X.K C m f) (G : FnG X.prog X.w X.K X.mg X.base k f fd ps sp) (hr : RoomG k X.A) (hb : Binds X.K fd ps ds) (hd : Vals dvs ds) (hx : Takes X W) (ha : PA X (e :: es) t)
    (hst : starEach (e :: es) X.env = (false, eval e X.env) :: starEach es X.env := by rfl) (hpl : (backTo pos (starEach es X.env)).any (·.1) = false := by rfl)
    (ht : eval (.Call (.Attribute o m apos) (e :: es) [] pos) X.env = (do
      let ov ← eval o X.env
      standAt apos.atName
      let (f, first) ← holding [ov] (getMethod ov m pl)
      callWith pos f first (backTo pos (starEach (e :: es) X.env)) (backToKw pos (keywordEach [] X.env))) := by rfl) :
    PE X (.Call (.Attribute o m apos) (e :: es) [] pos) (tMethW C m sp dvs W ta t) := by
  refine ⟨fun pins s σ H Q I q => PySem.W.methodCall_KW (pl := pl) (thn (he.run pins s σ H _ I q) fun u s1 ⟨x, H1, I1, rx, a, dx, fs, ex, ea, l, q⟩ => ?_) ht⟩
  subst ex
  obtain rfl : u = Value.ref a := rx
  refine getmeth_ok I1 ea c hm l (PySem.W.callWith_K (first := [.ref a]) (h₀ := X.base) I.ok.mod.kin hm.kp (thn (ha.run pos pins s1 σ H1 _ I1 q) fun us s2 ⟨vs, H2, I2, r, q2⟩ => ⟨I2.kIn, ?_⟩) hst hpl)
  exact runW (us := .ref a :: us) (vs := .ref a :: vs) G hr hb hd hx I2 (.cons rfl r) q2
theorem pe_methW0 {pl : Sem Bool} (he : PE X o ta) (c : Cls X.K C) (hm : Meth X.K C m f) (G : FnG X.prog X.w X.K X.mg X.base k f fd ps sp) (hr : RoomG k X.A) (hb : Binds X.K fd ps ds) (hd : Vals dvs ds) (hx : Takes X W)
    (ht : eval (.Call (.Attribute o m apos) [] [] pos) X.env = (do
      let ov ← eval o X.env
      standAt apos.atName
      let (f, first) ← holding [ov] (getMethod ov m pl)
      callWith pos f first (backTo pos (starEach [] X.env)) (backToKw pos (keywordEach [] X.env))) := by rfl) :
    PE X (.Call (.Attribute o m apos) [] [] pos) (tMethW C m sp dvs W ta tNil) := by
  refine ⟨fun pins s σ H Q I q => PySem.W.methodCall_KW (pl := pl) (thn (he.run pins s σ H _ I q) fun u s1 ⟨x, H1, I1, rx, a, dx, fs, ex, ea, l, q⟩ => ?_) ht⟩
  subst ex
  obtain rfl : u = Value.ref a := rx
  exact getmeth_ok I1 ea c hm l (PySem.W.callWith_K0 (first := [.ref a]) I1.kIn hm.kp (runW (us := [.ref a]) (vs := [.ref a]) G hr hb hd hx I1 (.cons rfl .nil) q))
end
end HC
end
section
set_option Elab.async false
set_option linter.all false
set_option maxRecDepth 100000
set_option maxHeartbeats 1000000
set_option autoImplicit false
namespace HC
open PySem PySem.Spec L2 PyProof.Rows
def putFd (f : Str) (d : D) : List (Str × D) → List (Str × D)
  | [] => [(f, d)]
  | (g, x) :: r => if g = f then (g, d) :: r else (g, x) :: putFd f d r
section
variable {X : Cx} {K : PySem.W.Frag} {mg : Str → Option Value} {W : WX} {ca : List Addr} {F H : Hp} {σ : St} {env : Env} {h : Hs} {v : V} {d : D}
theorem RepKs.putF {f : Str} {u : V} {e : D} (ru : RepD K mg ca F u e) : ∀ {ds : List (Str × D)} {vs : List (Str × V)}, RepKs K mg ca F vs ds → RepKs K mg ca F (L2.putF f u vs) (putFd f e ds)
  | [], _, r => by cases r; exact .cons ru .nil
  | _ :: ds, _, r => by
    cases r with
    | @cons j v vs d ds r1 r2 =>
      unfold L2.putF putFd
      by_cases q : j = f
      · rw [if_pos q, if_pos q]; exact .cons ru r2
      · rw [if_neg q, if_neg q]; exact .cons r1 (RepKs.putF ru r2)
theorem RepKs.lenS : ∀ {ds : List (Str × D)} {vs : List (Str × V)}, RepKs K mg ca F vs ds → vs.length = ds.length
  | [], _, r => by cases r; rfl
  | d :: ds, _, r => by cases r with | cons h1 h2 => simp [RepKs.lenS h2]
/-- o.f = e -/
def sFldS (ok : Str → Bool) (f : Str) (o e : Ev) : Sv := fun env h => sOf (e env h) env fun t h1 => sOf (o env h1) env fun d h2 => match d with
  | .ref c => (match h2.get c with
    | some (.ins n fs) => if ok n = true ∧ fs.length < 1000 ∧ h2.bar c (.ins n (putFd f t fs)) = true then some (.nx, env, h2.set c (.ins n (putFd f t fs))) else none
    | _ => none)
  | _ => none
theorem snd_sfld {ok : Str → Bool} {f : Str} {te to : TE} {ev ov : Ev} (hok : ∀ n C, ok n = true → mg n = some (.ref C) → Cls K C ∧ NoAttr K C f) (he : SndE K mg W te ev) (ho : SndE K mg W to ov) : SndS K mg W (sFld K to te f) (sFldS ok f ov ev) := by
  intro ca F H σ env h o env' h' D S q k
  refine he ca F H σ env h _ S (aft_of q k fun t h1 q1 ca1 F1 H1 L1 S1 k1 v rv => ?_)
  refine ho ca1 F1 H1 σ env h1 _ S1 (aft_of q1 k1 fun d h2 q2 ca2 F2 H2 L2 S2 k2 x rx => ?_)
  split at q2
  · split at q2
    · rename_i g
      split at q2
      · rename_i hb
        cases q2
        obtain ⟨a, C, dx, vs, rfl, ha, m, qa, r⟩ := S2.inst rx g
        obtain ⟨T, hn⟩ := hok _ _ hb.1 m
        obtain ⟨S3, L3⟩ := S2.write (u := .ins C dx (_root_.L2.putF f v vs)) hb.2.2 ha ⟨C, dx, _, m, upd_same, RepKs.putF (RepD.mono L2.ff L2.pre _ _ rv) r⟩
        exact ⟨a, C, dx, vs, rfl, qa, T, hn, by rw [RepKs.lenS r]; exact hb.2.1, k2 σ _ _ _ L3 S3⟩
      · cases q2
    · cases q2
  · cases q2
theorem es_fld {ok : Str → Bool} {f : Str} {o e : Expr} {to te : TE} {ov ev : Ev} {pos pos' : Pos} (hok : ∀ n C, ok n = true → X.mg n = some (.ref C) → Cls X.K C ∧ NoAttr X.K C f) (ho : EE X W o to ov) (he : EE X W e te ev) (hs : swapsWith e (some (.Attribute o f pos')) pos.line X.env = pure false := by rfl) :
    ES X W (.Assign [.Attribute o f pos'] e pos) (sFld X.K to te f) (sFldS ok f ov ev) := ⟨ps_fld ho.pe he.pe hs, snd_sfld hok he.snd ho.snd⟩
/-! a method's call -/
def eMeth (n : Str) (f : Str) (m : Fn) (dds : List D) (o : Ev) (a : Av) : Ev := fun env h => (o env h).bind fun d h1 => match d with
  | .ref c => (match h1.get c with
    | some (.ins n' fs) => if n' = n ∧ fs.lookup f = none then (a env h1).bind fun ds h2 => m (d :: (ds ++ dds)) h2 else .no
    | _ => .no)
  | _ => .no
theorem snd_meth {n f : Str} {C : Addr} {m : Fn} {ml : Nat} {to : TE} {ov : Ev} {ta : TA} {av : Av} {dvs : List V} {dds : List D} (hC : mg n = some (.ref C)) (ho : SndE K mg W to ov) (ha : SndA K mg W ta av) (hn : ∀ env h ts h', av env h = .ok ts h' → ts.length + dvs.length + 1 = ml)
    (hd : ∀ ca F, RepDs K mg ca F dvs dds) : SndE K mg W (tMethW C f (spM K mg ml m) dvs W to ta) (eMeth n f m dds ov av) := by
  intro ca F H σ env h Q S x
  refine ho ca F H σ env h _ S ((Aft.bind x).mono fun d ca1 F1 H1 h1 hz L1 S1 y v rv => ?_)
  clear hz
  split at y
  · split at y
    · rename_i g
      split at y
      · rename_i hc
        obtain ⟨a, C', dx, vs, rfl, _, mC, qa, r⟩ := S1.inst rv g
        rw [hc.1, hC] at mC
        cases mC
        have ln : vs.lookup f = none := by
          rcases RepKs.fld f r with ⟨_, z⟩ | ⟨_, _, z, _⟩
          · exact z
          · rw [hc.2] at z; cases z
        refine ⟨a, dx, vs, rfl, qa, ln, ha ca1 F1 H1 σ env h1 _ S1 ((Aft.bind y).mono fun ds ca2 F2 H2 h2 e2 L2 S2 y2 us rs => ?_)⟩
        refine ⟨?_, ca2, F2, h2, _, S2.bare, .cons (RepD.mono L2.ff L2.pre _ _ rv) (RepDs.append rs (hd ca2 F2)), Aft.inner S2 y2⟩
        rw [List.length_cons, List.length_append, RepDs.length rs]
        exact hn _ _ _ _ e2
      · exact y.elim
    · exact y.elim
  · exact y.elim
/-! a new instance -/
def eMake (n : Str) (m : Fn) (dds : List D) (a : Av) : Ev := fun env h => (a env h).bind fun ds h1 => if h1.sz < room then (m (.ref h1.sz :: (ds ++ dds)) (h1.push (.ins n []))).bind fun t h2 => match t with
  | .non => .ok (.ref h1.sz) h2
  | _ => .no else .no
theorem snd_make {n : Str} {C : Addr} {m : Fn} {ml : Nat} {ta : TA} {av : Av} {dvs : List V} {dds : List D} (hC : mg n = some (.ref C)) (ha : SndA K mg W ta av) (hn : ∀ env h ts h', av env h = .ok ts h' → ts.length + dvs.length + 1 = ml) (hd : ∀ ca F, RepDs K mg ca F dvs dds) :
    SndE K mg W (tMakeW C (spM K mg ml m) dvs W ta) (eMake n m dds av) := by
  intro ca F H σ env h Q S x
  refine ha ca F H σ env h _ S ((Aft.bind x).mono fun ds ca1 F1 H1 h1 e1 L1 S1 y vs rs => ?_)
  intro a dx na nd hne
  split at y
  · rename_i hr
    obtain ⟨S2, L2⟩ := S1.laid (o := .own a) nd
    have na2 : upd H1 dx (.own a) a = none := by rw [upd_ne (Ne.symm hne)]; exact na
    obtain ⟨S3, L3, e3⟩ := S2.alloc (u := .ins C dx []) (o := .ins n []) na2 hr ⟨C, dx, [], hC, upd_same, .nil⟩
    have L23 := L2.trans L3
    refine ⟨?_, _, _, _, _, S3.bare, .cons (.ref e3) (RepDs.append (RepDs.mono L23.ff L23.pre _ _ rs) (hd _ _)), Aft.inner S3 ((Aft.bind (Aft.later L23 y)).mono fun t ca4 F4 H4 h4 e4 L4 S4 y4 v rv => ?_)⟩
    · rw [List.length_cons, List.length_append, RepDs.length rs]
      exact hn _ _ _ _ e1
    · cases t with
      | non => exact ⟨rv.non', Aft.ok (h := h4) y4 S4 _ (.ref (L4.pre.get e3))⟩
      | _ => exact False.elim y4
  · exact y.elim
end
end HC
end
section
set_option Elab.async false
set_option linter.all false
set_option maxRecDepth 100000
set_option maxHeartbeats 1000000
set_option autoImplicit false
namespace HC
open PySem PySem.Spec L2 PyProof.Rows
theorem RoomG.make {k : Nat} {A : Around} (r : RoomG (k + 1) A) (C : Addr) (us : List Value) (kw : List (Str × Value)) : RoomG k (A.under (.builtin "type.__call__" ⟨.ref C :: us, kw⟩)) := ⟨r.rm.make C us kw, r.gd⟩
section
variable {X : Cx} {W : WX} {k : Nat} {f C : Addr} {fd : FuncData} {ps : List Str} {sp : Sp} {dvs : List V} {ds : List Value} {x : Str} {p pos : Pos} {e : Expr} {es : List Expr} {t : TA}
theorem makeW {pins : List (Addr × Obj)} {σ : St} {H : Hp} {s : Shared} {Q : VK} {us : List Value} {vs : List V} (M : Mk X.K C f) (G : FnG X.prog X.w X.K X.mg X.base k f fd ps sp) (hr : RoomG (k + 1) X.A) (hb : Binds X.K fd ps ds) (hd : Vals dvs ds) (hx : Takes X W) (I : Inv X pins σ H s) (r : Vals vs us)
    (q : ∀ x dx, H x = none → H dx = none → dx ≠ x → sp (.ref x :: (vs ++ dvs)) (upd (upd H dx (.own x)) x (.ins C dx [])) (fun v H2 => v = .non ∧ Q (.ref x) H2) fun c d H' => W c d σ H') : wpAny (model X.prog X.w) X.A (call (.ref C) us) (EP X pins σ Q) X.xe s := by
  have z := q (s.heap.objs.size + 1) s.heap.objs.size (I.hok.fresh (Nat.le_succ _)) (I.hok.fresh (Nat.le_refl _)) (Nat.ne_of_lt (Nat.lt_succ_self _))
  have J := Inv.made (C := C) I
  have rr : Vals (V.ref (s.heap.objs.size + 1) :: (vs ++ dvs)) (Value.ref (s.heap.objs.size + 1) :: (us ++ ds)) := .cons rfl (r.append hd)
  have len : (Value.ref (s.heap.objs.size + 1) :: us ++ ds).length = ps.length := (rr.length.symm.trans (G.len _ _ _ _ z))
  refine wpAny_call (make_map (f := f) I.kIn M.makes M.init (beq_iff_eq.mp M.fn) (codeAny_mono (G.run _ X.stack _ _ ⟨Value.ref (s.heap.objs.size + 1) :: us, []⟩ (Value.ref (s.heap.objs.size + 1) :: (us ++ ds)) _ _ _ (hr.make C us []) (J.env0.make C us []) (hb _ (Value.ref (s.heap.objs.size + 1) :: us) J.kIn len) rr z) fun r s' y => ?_))
  cases r with
  | error e => exact hx e s' (XE.of_call J (fun _ _ _ h => h) y)
  | ok fl =>
    cases fl with
    | ret u =>
      obtain ⟨v, H', J3, rv, ev, q3⟩ := J.after y
      subst ev
      exact ⟨rv, ⟨V.ref (s.heap.objs.size + 1), H', J3, rfl, q3⟩⟩
    | next => exact False.elim y
    | brk => exact False.elim y
    | cont => exact False.elim y
theorem pe_makeW (M : Mk X.K C f) (G : FnG X.prog X.w X.K X.mg X.base k f fd ps sp) (hr : RoomG (k + 1) X.A) (hg : Gl X x) (hm : X.mg x = some (.ref C)) (hb : Binds X.K fd ps ds) (hd : Vals dvs ds) (hx : Takes X W) (ha : PA X (e :: es) t)
    (hdb : (x == ("__debug__" : Str)) = false := by decide) (he : starEach (e :: es) X.env = (false, eval e X.env) :: starEach es X.env := by rfl) (hpl : (backTo pos (starEach es X.env)).any (·.1) = false := by rfl) : PE X (.Call (.Name x p) (e :: es) [] pos) (tMakeW C sp dvs W t) :=
  ⟨fun pins s σ H Q I q => wpAny_Call_Name_kw (ld_glob I hg hm (PySem.W.callWith_K (h₀ := X.base) I.ok.mod.kin M.kp (thn (ha.run pos pins s σ H _ I q) fun us s1 ⟨vs, H1, I1, r, y⟩ => ⟨I1.kIn, makeW M G hr hb hd hx I1 r y⟩) he hpl) hdb)⟩
theorem pe_makeW0 (M : Mk X.K C f) (G : FnG X.prog X.w X.K X.mg X.base k f fd ps sp) (hr : RoomG (k + 1) X.A) (hg : Gl X x) (hm : X.mg x = some (.ref C)) (hb : Binds X.K fd ps ds) (hd : Vals dvs ds) (hx : Takes X W) (hdb : (x == ("__debug__" : Str)) = false := by decide) :
    PE X (.Call (.Name x p) [] [] pos) (tMakeW C sp dvs W tNil) := ⟨fun pins s σ H Q I q => wpAny_Call_Name_kw (ld_glob I hg hm (PySem.W.callWith_K0 I.kIn M.kp (makeW (us := []) M G hr hb hd hx I .nil q)) hdb)⟩
end
end HC
end
section
set_option Elab.async false
set_option linter.all false
set_option maxRecDepth 100000
set_option maxHeartbeats 1000000
set_option autoImplicit false
/-! ### exceptions of own classes, made as values: by place, by name, bare -/
namespace HC
open PySem PySem.Spec PySem.W PySem.Calls PyProof.Rows
section
variable {M : Model} {A : Around} {E : Value → Shared → Prop} {h : Heap} {g : Array GenState} {d : Drawn} {t : Nat} {os : OsState}
variable {nm q : Str} {C N : Addr} {bs bm bmB : List Value} {hdct : Bool} {sn : List Str} {sub : List Value} {ab : Bool} {col : Option Bool} {dd : Option Addr} {k0 k1 k2 k3 k5 : Option Value} {B newId initId : String}
theorem xk_check {x : Str} {u : Value} {Q : Unit → Shared → Prop} (F : ExcBaseFacts B newId initId bmB) (hT : ∀ X : String, bm.contains (.type X) = bmB.contains (.type X))
    (hC : h.get? C = some (excClassObj nm q C N bs bm hdct sn sub ab col dd k0 k1 k2 k3 k5 newId)) (hq : Q () ⟨h, g, d, t, os⟩) : wpAny M A (checkBuiltinCall newId ⟨[.ref C], [(x, u)]⟩) Q E ⟨h, g, d, t, os⟩ := by
  have c1 : (Value.ref C :: bm).contains (.type B) = true := by rw [List.contains_cons, hT, F.hasB, Bool.or_true]
  have c2 := F.noStar
  simp only [checkBuiltinCall, F.newKind, F.newSplit, F.newRow]
  repeat (first | refine wpAny_loadPart_at hC ?_ | (refine wpAny_isSubtype_exc hC ?_; rw [c1]) | refine wpAny_staticBase_exc hC ?_ | refine wpAny_madeBy_exc hC ?_ | simp only [bne_self_eq_false, Bool.false_eq_true, if_false] | wp_step)
  exact hq
end
section
variable {prog : Program} {w : World} {A : Around} {E : Value → Shared → Prop} {R : Result → Shared → Prop} {h : Heap} {g : Array GenState} {d : Drawn} {t : Nat} {os : OsState}
variable {nm q : Str} {C N : Addr} {bs bm bmB : List Value} {hdct : Bool} {sn : List Str} {sub : List Value} {ab : Bool} {col : Option Bool} {dd : Option Addr} {k0 k1 k2 k3 k5 : Option Value} {B newId initId : String}
abbrev xkO (C t : Addr) : Obj := { cls := .ref C, data := .fields #[.ref t, .none, .none, .none, .bool false, .none] }
theorem xk_new {x : Str} {u : Value} (F : ExcBaseFacts B newId initId bmB) (hT : ∀ X : String, bm.contains (.type X) = bmB.contains (.type X))
    (hC : h.get? C = some (excClassObj nm q C N bs bm hdct sn sub ab col dd k0 k1 k2 k3 k5 newId))
    (hq : R (.ok (.ret (.ref (h.objs.size + 1)))) ⟨(h.push (kdv_tup [])).push (xkO C h.objs.size), g, d, t, os⟩) : codeAny (model prog w) A (.builtin newId ⟨[.ref C], [(x, u)]⟩) R ⟨h, g, d, t, os⟩ := by
  have e0 := F.ends
  have c1 : (Value.ref C :: bm).contains (.type B) = true := by rw [List.contains_cons, hT, F.hasB, Bool.or_true]
  have c2 : (Value.ref C :: bm).contains (.type "AttributeError") = false := by rw [List.contains_cons, hT, F.noAttr]; rfl
  have c3 : (Value.ref C :: bm).contains (.type "NameError") = false := by rw [List.contains_cons, hT, F.noName]; rfl
  refine codeAny_builtinAt F.entry ?_
  unfold Builtin.«BaseException.__new__»
  refine PySem.wpAt_bind ?_
  show PySem.wpAt _ _ _ (stack >>= _) _ _ _
  refine PySem.wpAt_bind (PySem.wpAt_stack fun p below => PySem.wpAt_of_wpAny ?_)
  wp_walk
  refine PySem.wpAt_of_wpAny ?_
  rw [F.owner]
  repeat (first | with_reducible refine wpAny_madeHere_exc F.canon hC ?_ | with_reducible refine wpAny_loadPart_at hC ?_ | (with_reducible refine wpAny_isSubtype_exc hC ?_; first | rw [c1] | rw [c2] | rw [c3]) | wp_step)
  show R _ _
  rw [Heap.size_push]
  exact hq
theorem xk_type {x : Str} {u : Value} {fI : Addr} {Q : Fin → Shared → Prop} (F : ExcBaseFacts B newId initId bmB) (hT : ∀ X : String, bm.contains (.type X) = bmB.contains (.type X))
    (hC : h.get? C = some (excClassObj nm q C N bs bm hdct sn sub ab col dd k0 k1 k2 k3 k5 newId))
    (hi : Looks (model prog w) h (typeLookup (.ref C) "__init__") (some (.ref fI))) (hb : ∀ self, Looks (model prog w) h (bindSpecial (.ref fI) self) (.ref fI, [self]))
    (hq : codeAny (model prog w) A (.call (.ref fI) ⟨[.ref (h.objs.size + 1)], [(x, u)]⟩)
      (fun r s' => match r with | .ok (.ret v) => v = .none ∧ Q (.done (.ret (.ref (h.objs.size + 1)))) s' | .ok _ => False | .error e => E e s')
      ⟨(h.push (kdv_tup [])).push (xkO C h.objs.size), g, d, t, os⟩) :
    wpAny (model prog w) A (Builtin.«type.__call__» ⟨[.ref C], [(x, u)]⟩) Q E ⟨h, g, d, t, os⟩ := by
  repeat (first | with_reducible refine wpAny_loadPart_at hC ?_ | with_reducible refine wpAny_madeBy_exc hC ?_ | wp_step)
  refine codeAny_call_builtin_code (Code.quiet_builtin _ F.quiet) (xk_check F hT hC ?_)
  refine xk_new F hT hC ?_
  show wpAny _ _ _ _ _ _
  have k : ∀ b o, h.get? b = some o → ((h.push (kdv_tup [])).push (xkO C h.objs.size)).get? b = some o := fun b o e => Heap.get?_push_of_some _ (Heap.get?_push_of_some _ e)
  have hD := k _ _ hC
  have hget : ((h.push (kdv_tup [])).push (xkO C h.objs.size)).get? (h.objs.size + 1) = some (xkO C h.objs.size) := by heap_get
  have hcC : (Value.ref C :: bm).contains (.ref C) = true := by simp
  have j1 := hi.keeps k
  have j2 := (hb (.ref (h.objs.size + 1))).keeps k
  unfold isInstance
  repeat (first | with_reducible refine wpAny_loadPart_at hget ?_ | (with_reducible refine wpAny_isSubtype_exc hD ?_; rw [hcC]) | wp_step)
  show wpAny _ _ (typeLookup (.ref C) _) _ _ _
  refine j1.at ?_
  refine wpAny_holding (wpAny_bind (j2.at ?_))
  refine wpAny_bind (wpAny_call (codeAny_mono hq fun r s' z => ?_))
  rcases r with e | (v | _ | _ | _) <;> first | exact z | exact z.elim | skip
  obtain ⟨rfl, z⟩ := z
  first
    | exact wpAny_pure (wpAny_pure z)
    | (wp_walk; exact z)
theorem xk_call {x : Str} {u : Value} {fI : Addr} (F : ExcBaseFacts B newId initId bmB) (hT : ∀ X : String, bm.contains (.type X) = bmB.contains (.type X))
    (hC : h.get? C = some (excClassObj nm q C N bs bm hdct sn sub ab col dd k0 k1 k2 k3 k5 newId))
    (hi : Looks (model prog w) h (typeLookup (.ref C) "__init__") (some (.ref fI))) (hb : ∀ self, Looks (model prog w) h (bindSpecial (.ref fI) self) (.ref fI, [self]))
    (hq : codeAny (model prog w) (A.under (.builtin "type.__call__" ⟨[.ref C], [(x, u)]⟩)) (.call (.ref fI) ⟨[.ref (h.objs.size + 1)], [(x, u)]⟩) (InitBack (h.objs.size + 1) R)
      ⟨(h.push (kdv_tup [])).push (xkO C h.objs.size), g, d, t, os⟩) :
    codeAny (model prog w) A (.call (.ref C) ⟨[], [(x, u)]⟩) R ⟨h, g, d, t, os⟩ := by
  have f1 := tc_lookup
  have f2 := tc_bind (.ref C)
  have hTy : (⟨h, g, d, t, os⟩ : Shared).TypeIs (.ref C) "type" := ⟨_, hC, rfl⟩
  refine codeAny_of_tree ?_
  show wpAny _ _ (callAny (.ref C) _) _ _ _
  repeat (any_goals (first | assumption | with_reducible refine wpAny_loadPart_at hC ?_ | wp_step))
  refine ⟨rfl, ?_⟩
  refine codeAny_call_builtin_at (Code.quiet_builtin _ (by decide +kernel)) entry_typeCall (wpAny_check_type_call_sub hC (xk_type F hT hC hi hb ?_))
  refine codeAny_mono hq fun r s' z => ?_
  rcases r with e | (v | _ | _ | _) <;> exact z
end
end HC
end
section
set_option Elab.async false
set_option linter.all false
set_option maxRecDepth 100000
set_option maxHeartbeats 1000000
set_option autoImplicit false
namespace HC
open PySem PySem.Spec L2 PyProof.Rows
/-! ### C(e), C(value=e), C() as values -/
theorem ini_okG {P : Program} {w : World} {K : PySem.W.Frag} {mg : Str → Option Value} {base : Heap} {fI : Addr} {fd : FuncData} {k : Nat} {qual : Str} {params : Arguments} {scope : Scope} {p1 p2 p3 p4 : Pos} (F : FunD K "__init__" qual params [.Assign [.Attribute (.Name "self" p1) "value" p2] (.Name "value" p3) p4] scope [.non] [] fI fd)
    (S : FnScope ["self", "value"] ["self", "value"] scope) (h1 : scope.names.lookup ("self" : Str) = some .local) (h2 : scope.names.lookup ("value" : Str) = some .local) : FnG P w K mg base (k + 1) fI fd ["self", "value"] (spIni K) := by
  obtain ⟨oc, od, dV, kV, doc, pm, an, cdv, ct, osl, rfl, lk, hcd, _, _⟩ := F.ex
  refine fnG_of lk hcd S (fun vs H Q E h => ?_) fun A outer s H vs Q E hr h => ?_
  · obtain ⟨a, C, y, rfl, _⟩ := h; rfl
  · obtain ⟨a, C, y, rfl, T, hv, ha, q⟩ := h
    refine ⟨_, pss_one (ps_ost (to := tVar 0) (te := tVar 1) (pe_var rfl (.inl h1)) (pe_var rfl (.inl h2))), ?_⟩
    exact ⟨y, rfl, .ref a, rfl, a, C, rfl, T, hv, .inl ⟨ha, fun dx hd hn => q dx hd hn⟩⟩
/-- a new exception stands at a, its dict at dx -/
def exH (H : Hp) (a C dx : Addr) (y : V) : Hp := upd (upd H a (exr a (.ref C) (some dx))) dx (.xd [("value", y)])
def tExV (K : PySem.W.Frag) (C : Addr) (te : TE) : TE := fun σ H Q => te σ H fun y H1 => ∀ a dx, H1 a = none → H1 dx = none → dx ≠ a → Q (.ref a) (exH H1 a C dx y)
section
variable {X : Cx} {pins : List (Addr × Obj)} {σ : St} {H : Hp} {s : Shared} {Q : VK} {a C dx : Addr} {y : V}
theorem ex_told (hne : dx ≠ a) (J : Inv X pins σ (upd (upd (upd H a (exo a C none)) dx (exd dx [("value", y)])) a (exo a C (some dx))) s) (q : Q (.ref a) (exH H a C dx y)) : EP X pins σ Q (.ref a) s := by
  obtain ⟨t1, he⟩ := exo_at J.hok upd_same
  have ed : (upd (upd (upd H a (exo a C none)) dx (exd dx [("value", y)])) a (exo a C (some dx))) dx = some (exd dx [("value", y)]) := by rw [upd_ne hne, upd_same]
  obtain ⟨mA, hns, rel⟩ := exd_at J.hok ed
  have J1 := J.write (t' := s.toks) (h' := s.heap) (x := a) (e := a) (o := exr a (.ref C) (some dx)) (by rw [upd_same]; exact True.intro) (.inl rfl) (fun b u _ e => e) ⟨_, he⟩ (exr_ok he ⟨rfl, rfl⟩ rfl)
  have J2 := J1.write (t' := s.toks) (h' := s.heap) (x := dx) (e := dx) (o := .xd [("value", y)]) (by rw [upd_ne hne, ed]; exact True.intro) (.inl rfl) (fun b u _ e => e) (by obtain ⟨o, es, ep, e1, _⟩ := hns; exact ⟨o, e1⟩) ⟨mA, hns, rel⟩
  have e3 : upd (upd (upd (upd (upd H a (exo a C none)) dx (exd dx [("value", y)])) a (exo a C (some dx))) a (exr a (.ref C) (some dx))) dx (.xd [("value", y)]) = exH H a C dx y := by
    unfold exH
    funext b
    by_cases hb : b = dx
    · subst hb; rw [upd_same, upd_same]
    · rw [upd_ne hb, upd_ne hb]
      by_cases ha : b = a
      · subst ha; rw [upd_same, upd_same]
      · rw [upd_ne ha, upd_ne ha, upd_ne ha, upd_ne hb, upd_ne ha]
  exact ⟨.ref a, exH H a C dx y, e3 ▸ J2, rfl, q⟩
/-- the call of __init__ made -/
theorem ex_back {k : Nat} {fI : Addr} {fd : FuncData} (T : OexC X.K C) (hv : PySem.W.findIn X.K (.ref C) "value" = some none) (G : FnG X.prog X.w X.K X.mg X.base k fI fd ["self", "value"] (spIni X.K)) (hr : RoomG (k + 1) X.A) (I : Inv X pins σ H s) {us : List Value} {ps : List Value} {kw : List (Str × Value)} {cu : List Value} {ck : List (Str × Value)}
    (hl : H (s.heap.objs.size + 1) = none) (hus : us.length ≤ sizeLine) (bd : ∀ s' : Shared, X.K.In s'.heap → BindsTo s' fd ⟨.ref (s.heap.objs.size + 1) :: us, kw⟩ ((["self", "value"] : List Str).zip ps)) (r : Vals [.ref (s.heap.objs.size + 1), y] ps)
    (q : ∀ a dx, H a = none → H dx = none → dx ≠ a → Q (.ref a) (exH H a C dx y)) :
    codeAny (model X.prog X.w) (X.A.under (.builtin "type.__call__" ⟨.ref C :: cu, ck⟩)) (.call (.ref fI) ⟨.ref (s.heap.objs.size + 1) :: us, kw⟩) (PySem.W.InitBack (s.heap.objs.size + 1) fun r s' => match r with
      | .ok (.ret v) => EP X pins σ Q v s'
      | .ok _ => False
      | .error e => X.xe e s') { s with heap := (s.heap.push (PySem.W.kdv_tup us)).push (PySem.HandSPX.excO C s.heap.objs.size) } := by
  obtain ⟨hp, g, dr, tk, os⟩ := s
  have kk : ∀ b o, hp.get? b = some o → ((hp.push (PySem.W.kdv_tup us)).push (PySem.HandSPX.excO C hp.objs.size)).get? b = some o := fun b o e => Heap.get?_push_of_some _ (Heap.get?_push_of_some _ e)
  have hget : ((hp.push (PySem.W.kdv_tup us)).push (PySem.HandSPX.excO C hp.objs.size)).get? (hp.objs.size + 1) = some (PySem.HandSPX.excO C hp.objs.size) := by heap_get
  have J : Inv X pins σ (upd H (hp.objs.size + 1) (exo (hp.objs.size + 1) C none)) ⟨(hp.push (PySem.W.kdv_tup us)).push (PySem.HandSPX.excO C hp.objs.size), g, dr, tk, os⟩ :=
    I.laid (t' := tk) (a := hp.objs.size + 1) (o := exo (hp.objs.size + 1) C none) kk (Nat.le_succ _) (exo_ok hget)
  have hsp : spIni X.K [.ref (hp.objs.size + 1), y] (upd H (hp.objs.size + 1) (exo (hp.objs.size + 1) C none)) (fun v H2 => v = .non ∧ ∃ dx, H dx = none ∧ dx ≠ hp.objs.size + 1 ∧ H2 = upd (upd (upd H (hp.objs.size + 1) (exo (hp.objs.size + 1) C none)) dx (exd dx [("value", y)])) (hp.objs.size + 1) (exo (hp.objs.size + 1) C (some dx))) (fun _ _ _ => False) :=
    ⟨_, C, y, rfl, T, hv, upd_same, fun dx hd hne => ⟨rfl, dx, by rw [upd_ne hne] at hd; exact hd, hne, rfl⟩⟩
  refine codeAny_mono (G.run _ X.stack _ _ _ ps [.ref (hp.objs.size + 1), y] _ _ (hr.make C cu ck) (J.env0.make C cu ck) (bd _ J.kIn) r hsp) fun r s' z => ?_
  cases r with
  | error e => exact takes_none (X := X) e s' (XE.of_call J (fun _ _ _ z => z) z)
  | ok fl =>
    cases fl with
    | ret u =>
      obtain ⟨v, H2, J3, rv, ev, dx, hd, hne, rfl⟩ := J.after z
      subst ev
      exact ⟨rv, ex_told hne J3 (q _ dx hl hd hne)⟩
    | next => exact False.elim z
    | brk => exact False.elim z
    | cont => exact False.elim z
theorem ex_base {C : Addr} (T : OexC X.K C) (I : Inv X pins σ H s) : ∃ nm q N bs bm sn sub ab col dd k0 k1 k2 k3 k5, s.heap.get? C = some (excClassObj nm q C N bs bm true sn sub ab col dd k0 k1 k2 k3 k5 "ValueError.__new__") ∧ PySem.HandSPX.refsVE bm = true := by
  obtain ⟨nm, q, N, bs, bm, sn, sub, ab, col, dd, k0, k1, k2, k3, k5, hC, hbm⟩ := T.cls
  exact ⟨nm, q, N, bs, bm, sn, sub, ab, col, dd, k0, k1, k2, k3, k5, I.kIn _ _ hC, hbm⟩
end
/-- one value, told of an exception that is made with it -/
def exWish (C : Addr) (Q : VK) : List V → Hp → Prop := fun vs H1 => match vs with
  | [y] => ∀ a dx, H1 a = none → H1 dx = none → dx ≠ a → Q (.ref a) (exH H1 a C dx y)
  | _ => False
section
variable {X : Cx} {W : WX} {x : Str} {k : Nat} {e : Expr} {te : TE} {ev : Ev} {p pos kpos : Pos}
theorem pe_exP (q : ExC X.K X.mg x) (hr : RoomG (k + 2) X.A) (he : PE X e te) (hg : Gl X x := by rfl) (hdb : (x == ("__debug__" : Str)) = false := by decide) (hst : starEach [e] X.env = (false, eval e X.env) :: starEach [] X.env := by rfl) :
    PE X (.Call (.Name x p) [e] [] pos) (tExV X.K (adr X.mg x) te) := by
  obtain ⟨C, fI, fd, qual, params, scope, p1, p2, p3, p4, hm, T, iC, tI, hv, F, S, h1, h2, hb, _, _⟩ := q.ex
  obtain ⟨ds, hds, hB⟩ := FunD.binds1 (ps := ["self", "value"]) F 2 1 (by simp) rfl hb
  have ea : adr X.mg x = C := by unfold adr; rw [hm]
  rw [ea]
  refine ⟨fun pins s σ H Q I h => wpAny_Call_Name_kw (ld_glob I hg hm ?_ hdb)⟩
  refine PySem.W.callWith_K (h₀ := X.base) I.ok.mod.kin T.kC (thn ((pa_cons he pa_nil hst).run pos pins s σ H (exWish C Q) I h) fun us s1 ⟨vs, H1, I1, r1, q1⟩ => ⟨I1.kIn, ?_⟩) hst rfl
  cases hds
  match vs, r1, q1 with
  | [y], r1, q2 =>
    show wpAny _ _ (call (.ref C) us) _ _ _
    obtain ⟨nm, q, N, bs, bm, sn, sub, ab, col, dd, k0, k1, k2, k3, k5, hC, hbm⟩ := ex_base T I1
    have hl : us.length = 1 := r1.length.symm
    refine wpAny_call (PySem.HandSPX.call_own PySem.F.excBase_ValueError (fun Y => PySem.HandSPX.refsVE_contains Y bm hbm) hC (PySem.W.looks_findIn I1.kIn iC) (fun self => PySem.W.bind_fn I1.kIn self tI) (by rw [hl]; decide) ?_)
    exact ex_back T hv (ini_okG F S h1 h2) hr I1 (I1.hok.fresh (Nat.le_succ _)) (by rw [hl]; decide) (ps := .ref (s1.heap.objs.size + 1) :: us) (fun s' X' => by
      have z := hB s' (.ref (s1.heap.objs.size + 1) :: us) X' (by rw [List.append_nil, List.length_cons, hl]; rfl)
      rw [List.append_nil] at z
      exact z) (.cons rfl r1) q2
theorem pe_ex0 (q : ExC X.K X.mg x) (hr : RoomG (k + 2) X.A) (hg : Gl X x := by rfl) (hdb : (x == ("__debug__" : Str)) = false := by decide) :
    PE X (.Call (.Name x p) [] [] pos) (tExV X.K (adr X.mg x) (tC .non)) := by
  obtain ⟨C, fI, fd, qual, params, scope, p1, p2, p3, p4, hm, T, iC, tI, hv, F, S, h1, h2, _, hb, _⟩ := q.ex
  obtain ⟨ds, hds, hB⟩ := FunD.binds1 (ps := ["self", "value"]) F 1 0 (by simp) rfl hb
  have ea : adr X.mg x = C := by unfold adr; rw [hm]
  rw [ea]
  refine ⟨fun pins s σ H Q I h => wpAny_Call_Name_kw (ld_glob I hg hm ?_ hdb)⟩
  refine PySem.W.callWith_K0 I.kIn T.kC ?_
  obtain ⟨nm, q, N, bs, bm, sn, sub, ab, col, dd, k0, k1, k2, k3, k5, hC, hbm⟩ := ex_base T I
  refine wpAny_call (PySem.HandSPX.call_own (rest := []) PySem.F.excBase_ValueError (fun Y => PySem.HandSPX.refsVE_contains Y bm hbm) hC (PySem.W.looks_findIn I.kIn iC) (fun self => PySem.W.bind_fn I.kIn self tI) (by decide) ?_)
  exact ex_back T hv (ini_okG F S h1 h2) hr I (I.hok.fresh (Nat.le_succ _)) (by decide) (ps := .ref (s.heap.objs.size + 1) :: ds) (fun s' X' => hB s' [.ref (s.heap.objs.size + 1)] X' (by rw [List.length_append, ← hds.length]; rfl)) (.cons rfl hds) h
theorem pe_exK (q : ExC X.K X.mg x) (hr : RoomG (k + 2) X.A) (he : PE X e te) (hg : Gl X x := by rfl) (hdb : (x == ("__debug__" : Str)) = false := by decide)
    (hall : (backToKw pos (keywordEach [⟨some "value", e, kpos⟩] X.env)).all (·.1.isSome) = true := by rfl) (hks : (backToKw pos (keywordEach [⟨some "value", e, kpos⟩] X.env)).filterMap (·.1) = [("value" : Str)] := by rfl)
    (hpl : ((backTo pos (starEach [] X.env)).any (·.1) || (backToKw pos (keywordEach [⟨some "value", e, kpos⟩] X.env)).any (·.1.isNone)) = false := by rfl) :
    PE X (.Call (.Name x p) [] [⟨some "value", e, kpos⟩] pos) (tExV X.K (adr X.mg x) te) := by
  obtain ⟨C, fI, fd, qual, params, scope, p1, p2, p3, p4, hm, T, iC, tI, hv, F, S, h1, h2, _, _, hb⟩ := q.ex
  obtain ⟨its, hB⟩ := FunD.kbindsD (ps := ["self", "value"]) F 1 ["value"] (fun us _ ws => us ++ ws) (by simp) (fun r1 _ r3 => r1.append r3) (fun T kV doc pm an cdv ct us its ws l1 l2 l3 => hb T kV doc pm an cdv ct us its ws l1 l2 l3)
  have ea : adr X.mg x = C := by unfold adr; rw [hm]
  rw [ea]
  refine ⟨fun pins s σ H Q I h => wpAny_Call_Name_kw (ld_glob I hg hm ?_ hdb)⟩
  refine PySem.W.callWith_KW0 (h₀ := X.base) I.ok.mod.kin T.kC hall ?_ hpl
  refine thn ((pk_cons he pk_nil).run pos pins s σ H (exWish C Q) I h) fun ws s1 ⟨vs, H1, I1, r1, q1⟩ => ⟨I1.kIn, ?_⟩
  rw [hks]
  match vs, r1, q1 with
  | [y], .cons (b := w) rw0 .nil, q2 =>
    obtain ⟨nm, q, N, bs, bm, sn, sub, ab, col, dd, k0, k1, k2, k3, k5, hC, hbm⟩ := ex_base T I1
    refine wpAny_call (xk_call PySem.F.excBase_ValueError (fun Y => PySem.HandSPX.refsVE_contains Y bm hbm) hC (PySem.W.looks_findIn I1.kIn iC) (fun self => PySem.W.bind_fn I1.kIn self tI) ?_)
    exact ex_back (us := []) T hv (ini_okG F S h1 h2) hr I1 (I1.hok.fresh (Nat.le_succ _)) (by decide) (ps := [.ref (s1.heap.objs.size + 1), w]) (fun s' X' => hB.to s' [.ref (s1.heap.objs.size + 1)] [w] X' rfl rfl) (.cons rfl (.cons rw0 .nil)) q2
/-- a class without an __init__ of its own -/
structure ExB (K : PySem.W.Frag) (mg : Str → Option Value) (x : Str) : Prop where
  ex : ∃ C, mg x = some (.ref C) ∧ OexC K C ∧ PySem.W.findIn K (.ref C) "__init__" = some (some (.builtin "ValueError.__init__"))
def tExB (C : Addr) : TE := fun _ H Q => ∀ a, H a = none → Q (.ref a) (upd H a (exr a (.ref C) none))
theorem pe_exB (q : ExB X.K X.mg x) (hg : Gl X x := by rfl) (hdb : (x == ("__debug__" : Str)) = false := by decide) : PE X (.Call (.Name x p) [] [] pos) (tExB (adr X.mg x)) := by
  obtain ⟨C, hm, T, iC⟩ := q.ex
  have ea : adr X.mg x = C := by unfold adr; rw [hm]
  rw [ea]
  refine ⟨fun pins s σ H Q I h => wpAny_Call_Name_kw (ld_glob I hg hm ?_ hdb)⟩
  refine PySem.W.callWith_K0 I.kIn T.kC ?_
  obtain ⟨nm, q, N, bs, bm, sn, sub, ab, col, dd, k0, k1, k2, k3, k5, hC, hbm⟩ := ex_base T I
  obtain ⟨hp, g, dr, tk, os⟩ := s
  refine PySem.W.call_B (rest := []) PySem.F.excBase_ValueError (fun Y => PySem.HandSPX.refsVE_contains Y bm hbm) hC (PySem.W.looks_findIn I.kIn iC) (by decide) fun h' kk he _ => ?_
  have J : Inv X pins σ (upd H (hp.objs.size + 1) (exr (hp.objs.size + 1) (.ref C) none)) ⟨h', g, dr, tk, os⟩ := I.laid (t' := tk) kk (Nat.le_succ _) (exr_ok he ⟨rfl, rfl⟩ rfl)
  exact ⟨.ref (hp.objs.size + 1), _, J, rfl, h _ (I.hok.fresh (Nat.le_succ _))⟩
end
/-! the sound parts -/
def eExc (c : Str) (e : Ev) : Ev := fun env h => (e env h).bind fun d h1 => mk (.exc c d) h1
def eExB (c : Str) : Ev := fun _ h => mk (.exb c) h
section
variable {K : PySem.W.Frag} {mg : Str → Option Value} {W : WX} {c : Str}
theorem snd_exc {C : Addr} {te : TE} {ev : Ev} (hm : mg c = some (.ref C)) (he : SndE K mg W te ev) : SndE K mg W (tExV K C te) (eExc c ev) := by
  intro ca F H σ env h Q S x
  refine he ca F H σ env h _ S ((Aft.bind x).mono fun d ca1 F1 H1 h1 _ L1 S1 y v rv => ?_)
  intro a dx ha hd hne
  unfold mk at y
  split at y
  · rename_i hr
    obtain ⟨S2, L2⟩ := S1.laid (o := .xd [("value", v)]) hd
    have ha2 : upd H1 dx (.xd [("value", v)]) a = none := by rw [upd_ne (Ne.symm hne)]; exact ha
    have ed : upd H1 dx (.xd [("value", v)]) dx = some (.xd [("value", v)]) := upd_same
    obtain ⟨F', S3, L3, e3⟩ := S2.catch (x := ⟨c, d⟩) (cls := .ref C) (dd := some dx) (a := a) ⟨C, dx, _, v, hm, rfl, rfl, ed, rfl, RepD.mono L2.ff L2.pre _ _ rv⟩ ha2 hr
    have e4 : upd (upd H1 dx (.xd [("value", v)])) a (exr a (.ref C) (some dx)) = exH H1 a C dx v := by
      unfold exH
      funext b
      by_cases hb : b = dx
      · subst hb; rw [upd_ne hne, upd_same, upd_same]
      · rw [upd_ne hb]
        by_cases hba : b = a
        · subst hba; rw [upd_same, upd_same]
        · rw [upd_ne hba, upd_ne hba, upd_ne hb]
    have z := y _ _ _ (L2.trans L3) S3 (.ref a) (.ref e3)
    rw [e4] at z
    exact z
  · exact y.elim
theorem snd_exB {C : Addr} (hm : mg c = some (.ref C)) : SndE K mg W (tExB C) (eExB c) := by
  intro ca F H σ env h Q S y a ha
  unfold eExB mk at y
  split at y
  · rename_i hr
    obtain ⟨S2, L2, e2⟩ := S.alloc (u := exr a (.ref C) none) (o := .exb c) ha hr ⟨C, hm, upd_same⟩
    exact y _ _ _ L2 S2 _ (.ref e2)
  · exact y.elim
end
section
variable {X : Cx} {W : WX} {x : Str} {k : Nat} {e : Expr} {te : TE} {ev : Ev} {p pos kpos : Pos}
theorem adr_of (q : ExC X.K X.mg x) : X.mg x = some (.ref (adr X.mg x)) := by
  obtain ⟨C, fI, fd, qual, params, scope, p1, p2, p3, p4, hm, _⟩ := q.ex
  unfold adr; rw [hm]
theorem adr_ofB (q : ExB X.K X.mg x) : X.mg x = some (.ref (adr X.mg x)) := by
  obtain ⟨C, hm, _⟩ := q.ex
  unfold adr; rw [hm]
theorem ee_exP (q : ExC X.K X.mg x) (hr : RoomG (k + 2) X.A) (he : EE X W e te ev) (hg : Gl X x := by rfl) (hdb : (x == ("__debug__" : Str)) = false := by decide) (hst : starEach [e] X.env = (false, eval e X.env) :: starEach [] X.env := by rfl) :
    EE X W (.Call (.Name x p) [e] [] pos) (tExV X.K (adr X.mg x) te) (eExc x ev) := ⟨pe_exP q hr he.pe hg hdb hst, snd_exc (adr_of q) he.snd⟩
theorem ee_ex0 (q : ExC X.K X.mg x) (hr : RoomG (k + 2) X.A) (hg : Gl X x := by rfl) (hdb : (x == ("__debug__" : Str)) = false := by decide) :
    EE X W (.Call (.Name x p) [] [] pos) (tExV X.K (adr X.mg x) (tC .non)) (eExc x (eC .non)) := ⟨pe_ex0 q hr hg hdb, snd_exc (adr_of q) (snd_C fun _ _ => .non)⟩
theorem ee_exK (q : ExC X.K X.mg x) (hr : RoomG (k + 2) X.A) (he : EE X W e te ev) (hg : Gl X x := by rfl) (hdb : (x == ("__debug__" : Str)) = false := by decide)
    (hall : (backToKw pos (keywordEach [⟨some "value", e, kpos⟩] X.env)).all (·.1.isSome) = true := by rfl) (hks : (backToKw pos (keywordEach [⟨some "value", e, kpos⟩] X.env)).filterMap (·.1) = [("value" : Str)] := by rfl)
    (hpl : ((backTo pos (starEach [] X.env)).any (·.1) || (backToKw pos (keywordEach [⟨some "value", e, kpos⟩] X.env)).any (·.1.isNone)) = false := by rfl) :
    EE X W (.Call (.Name x p) [] [⟨some "value", e, kpos⟩] pos) (tExV X.K (adr X.mg x) te) (eExc x ev) := ⟨pe_exK q hr he.pe hg hdb hall hks hpl, snd_exc (adr_of q) he.snd⟩
theorem ee_exB (q : ExB X.K X.mg x) (hg : Gl X x := by rfl) (hdb : (x == ("__debug__" : Str)) = false := by decide) : EE X W (.Call (.Name x p) [] [] pos) (tExB (adr X.mg x)) (eExB x) := ⟨pe_exB q hg hdb, snd_exB (adr_ofB q)⟩
end
end HC
end
section
set_option Elab.async false
set_option linter.all false
set_option maxRecDepth 100000
set_option maxHeartbeats 1000000
set_option autoImplicit false
namespace HC
open PySem PySem.Spec L2 PyProof.Rows
/-! ### repr of what holds dicts -/
def keyP : Key → PyData
  | .inl i => .int i
  | .inr x => .str x
/-- what a value shows, dicts too -/
def vwR (h : Hs) : Nat → D → Option PyData
  | 0, d => leaf d
  | n + 1, .tup _ xs => (match mapO (vwR h n) xs with
    | some ps => some (.tuple ps)
    | none => none)
  | n + 1, .rl xs => (match mapO (vwR h n) xs with
    | some ps => some (.list ps)
    | none => none)
  | n + 1, .ref c => (match h.get c with
    | some (.lst xs) => (match mapO (vwR h n) xs with
      | some ps => some (.list ps)
      | none => none)
    | some (.dK kvs) => (match mapO (vwR h n) (kvs.map (·.2)) with
      | some ps => some (.dict ((kvs.map fun kv => keyP kv.1).zip ps))
      | none => none)
    | _ => none)
  | n + 1, d => leaf d
/-- the table of modules is known -/
def SysK (K : PySem.W.Frag) : Prop := ∃ o, K.lookup sysModules = some o ∧ o.cls = .type "dict"
def Rz (h : Heap) (u : Value) (p : PyData) : Prop := ∃ as, Reads h u p as ∧ sysModules ∉ as
def RzAll (h : Heap) (us : List Value) (ps : List PyData) : Prop := ∃ as, ReadsAll h us ps as ∧ sysModules ∉ as
section
variable {X : Cx} {mg : Str → Option Value} {ca : List Addr} {F H : Hp} {σ τ : St} {env : Env} {h : Hs} {v : V} {d : D} {pins : List (Addr × Obj)} {s : Shared}
theorem rz_leaf {u : Value} {p : PyData} (n : Nat) (r : RepD X.K mg ca F v d) (e : leaf d = some p) (ru : RelV v u) : Rz s.heap u p ∧ p.depth ≤ n := by
  cases d with
  | non => cases e; rw [r.non'] at ru; cases ru; exact ⟨⟨_, .none, by simp⟩, Nat.zero_le _⟩
  | bl b => cases e; rw [r.bl'] at ru; cases ru; exact ⟨⟨_, .bool b, by simp⟩, Nat.zero_le _⟩
  | int i => cases e; rw [r.int'] at ru; obtain ⟨t, rfl⟩ := ru; exact ⟨⟨_, .int i t, by simp⟩, Nat.zero_le _⟩
  | str x => cases e; rw [r.str'.1] at ru; obtain ⟨t, rfl⟩ := ru; exact ⟨⟨_, .str x t, by simp⟩, Nat.zero_le _⟩
  | _ => cases e
theorem rz_all {f : D → Option PyData} {n : Nat} (ih : ∀ (d : D) (v : V) (u : Value) (p : PyData), RepD X.K mg ca F v d → f d = some p → RelV v u → Rz s.heap u p ∧ p.depth ≤ n) :
    ∀ (ds : List D) (vs : List V) (us : List Value) (ps : List PyData), RepDs X.K mg ca F vs ds → mapO f ds = some ps → Vals vs us → RzAll s.heap us ps ∧ PyData.depthAll ps ≤ n
  | [], _, _, _, r, e, ru => by cases r; cases e; cases ru; exact ⟨⟨[], .nil, by simp⟩, Nat.zero_le _⟩
  | d :: ds, _, _, _, r, e, ru => by
    cases r with
    | cons r1 r2 =>
      cases ru with
      | cons u1 u2 =>
        unfold mapO at e
        split at e
        · cases e
        · rename_i p e1
          split at e
          · cases e
          · rename_i ps e2
            cases e
            obtain ⟨⟨as, a1, a2⟩, a3⟩ := ih _ _ _ _ r1 e1 u1
            obtain ⟨⟨bs, b1, b2⟩, b3⟩ := rz_all ih ds _ _ _ r2 e2 u2
            exact ⟨⟨as ++ bs, .cons a1 b1, fun z => (List.mem_append.mp z).elim a2 b2⟩, by simp only [PyData.depthAll]; exact Nat.max_le.mpr ⟨a3, b3⟩⟩
theorem notSys {a : Addr} {o : Obj} {c : String} (hs : SysK X.K) (I : Inv X pins τ H s) (e : s.heap.get? a = some o) (hc : o.cls = .type c) (hn : c ≠ "dict") : a ≠ sysModules := fun z => by
  obtain ⟨o', e1, e2⟩ := hs
  have q := I.kIn _ _ e1
  rw [z] at e
  rw [e] at q
  cases q
  rw [hc] at e2
  exact hn (Value.type.inj e2)
theorem rz_keys {P : Program} {w : World} {hp : Heap} : ∀ {vs : List (Key × V)} {ws : List (Key × Value)} {es : List DictEntry} {ds : List (Key × D)}, KV vs ws → Pairs (mixKind P w) es ws → RepKs X.K mg ca F vs ds → ReadsAll hp (es.map (·.key)) (ds.map fun kv => keyP kv.1) [] ∧
      Vals (vs.map (·.2)) (es.map (·.val)) ∧ RepDs X.K mg ca F (vs.map (·.2)) (ds.map (·.2)) ∧ es.length = ds.length
  | _, _, _, _, .nil, .nil, .nil => ⟨.nil, .nil, .nil, rfl⟩
  | _, _, _, _, .cons (a := (k, v)) h1 t1, .cons (e := en) h2 h3 t2, .cons (d := d) r t3 => by
    obtain ⟨a1, a2, a3, a4⟩ := rz_keys (hp := hp) t1 t2 t3
    obtain ⟨hk, hv⟩ := h1
    refine ⟨?_, .cons (show RelV v en.val by rw [h3]; exact hv) a2, .cons r a3, by simp [a4]⟩
    have key : Reads hp en.key (keyP k) [] := by
      rcases keyIs_shape (show keyIs _ _ = true from h2) with ⟨i, t, e1, e2⟩ | ⟨x, t, e1, e2⟩
      · rw [e2, show k = _ from hk.trans e1]; exact .int i t
      · rw [e2, show k = _ from hk.trans e1]; exact .str x t
    exact ReadsAll.cons (as := []) (bs := []) key a1
theorem depth_zip : ∀ (ks : List Key) (ps : List PyData), PyData.depthKv ((ks.map keyP).zip ps) ≤ PyData.depthAll ps
  | [], ps => by simp [PyData.depthKv]
  | k :: ks, [] => by simp [PyData.depthKv]
  | k :: ks, p :: ps => by
    have ih := depth_zip ks ps
    have z : (keyP k).depth = 0 := by cases k <;> rfl
    simp only [List.map_cons, List.zip_cons_cons, PyData.depthKv, PyData.depthAll, z]
    omega
theorem mapO_length {α β : Type} {f : α → Option β} : ∀ {xs : List α} {ps : List β}, mapO f xs = some ps → ps.length = xs.length
  | [], _, e => by cases e; rfl
  | x :: xs, _, e => by
    unfold mapO at e
    split at e
    · cases e
    · split at e
      · cases e
      · rename_i q
        cases e
        simp [mapO_length q]
theorem vwR_rz (hs : SysK X.K) (I : Inv X pins τ H s) (S : Sim X.K mg ca F H σ env h) : ∀ (n : Nat) (d : D) (v : V) (u : Value) (p : PyData), RepD X.K mg ca F v d → vwR h n d = some p → RelV v u → Rz s.heap u p ∧ p.depth ≤ n
  | 0, d, v, u, p, r, e, ru => rz_leaf 0 r e ru
  | n + 1, d, v, u, p, r, e, ru => by
    have lst : ∀ (a : Addr) (vs : List V) (xs : List D) (ps : List PyData), v = .ref a → SqL X.K H a vs → RepDs X.K mg ca F vs xs → mapO (vwR h n) xs = some ps → Rz s.heap u (.list ps) ∧ (PyData.list ps).depth ≤ n + 1 := fun a vs xs ps ev q rr e1 => by
      subst ev
      obtain rfl : u = Value.ref a := ru
      obtain ⟨its, rv, ⟨o, k, ho, hc, _, hd⟩, _⟩ := I.list q
      obtain ⟨⟨as, h1, h2⟩, h3⟩ := rz_all (fun d v u p => vwR_rz hs I S n d v u p) xs vs its ps rr e1 rv
      refine ⟨⟨_, .list ho hc hd h1, fun z => ?_⟩, by simp only [PyData.depth]; omega⟩
      rcases List.mem_cons.mp z with z | z
      · exact notSys hs I ho hc (by decide) z.symm
      · exact h2 z
    cases d with
    | tup t xs =>
      simp only [vwR] at e
      split at e
      · rename_i ps e1
        cases e
        obtain ⟨a, vs, rfl, q, l, r⟩ := r.tup'
        obtain rfl : u = Value.ref a := ru
        obtain ⟨its, rv, ⟨o, ho, hc, k, hd⟩, _⟩ := I.tuple (SqT.mono S.sub q)
        obtain ⟨⟨as, h1, h2⟩, h3⟩ := rz_all (fun d v u p => vwR_rz hs I S n d v u p) xs vs its ps r e1 rv
        exact ⟨⟨_, .tuple ho hc hd h1, h2⟩, by simp only [PyData.depth]; omega⟩
      · cases e
    | rl xs =>
      simp only [vwR] at e
      split at e
      · rename_i ps e1
        cases e
        obtain ⟨a, vs, ev, q, l, r⟩ := r.rl'
        exact lst a vs xs ps ev (SqL.mono S.sub q) r e1
      · cases e
    | ref c =>
      simp only [vwR] at e
      split at e
      · rename_i xs g
        split at e
        · rename_i ps e1
          cases e
          obtain ⟨a, vs, ev, _, q, l, r⟩ := S.lst r g
          exact lst a vs xs ps ev (sql_of q) r e1
        · cases e
      · rename_i kvs g
        split at e
        · rename_i ps e1
          cases e
          obtain ⟨a, vs, rfl, _, q, l, r⟩ := S.dct r g
          obtain rfl : u = Value.ref a := ru
          obtain ⟨hl, hm, ws, rel, o, es, ep, z1, z2, z3, z4, z5, z6⟩ := dk_rd I.hok (.inl q)
          obtain ⟨k1, k2, k3, k4⟩ := rz_keys (hp := s.heap) rel z5 r
          obtain ⟨⟨as, h1, h2⟩, h3⟩ := rz_all (fun d v u p => vwR_rz hs I S n d v u p) _ _ _ ps k3 e1 k2
          have lp : ps.length = kvs.length := by rw [mapO_length e1, List.length_map]
          refine ⟨⟨a :: [] ++ as, .dict z1 z2.1 z3 ?_ ?_, fun z => ?_⟩, ?_⟩
          · rw [List.map_fst_zip (by rw [List.length_map]; omega)]; exact k1
          · rw [List.map_snd_zip (by rw [List.length_map]; omega)]; exact h1
          · rcases List.mem_cons.mp (show sysModules ∈ a :: as from z) with z | z
            · rw [← z] at hm; simp at hm
            · exact h2 z
          · have := depth_zip (kvs.map (·.1)) ps
            rw [List.map_map] at this
            simp only [PyData.depth]
            have e9 : (kvs.map fun kv => keyP kv.1) = kvs.map (keyP ∘ fun x => x.1) := rfl
            rw [e9]
            omega
        · cases e
      · cases e
    | non => exact rz_leaf (n + 1) r e ru
    | bl b => exact rz_leaf (n + 1) r e ru
    | int i => exact rz_leaf (n + 1) r e ru
    | str x => exact rz_leaf (n + 1) r e ru
    | fn x => cases e
    | ty x => cases e
    | cls x => cases e
    | rep x => cases e
end
/-- repr: what stands there reads as p -/
def rReprR (K : PySem.W.Frag) : List V → Hp → VK → Prop := fun xs H Q => ∃ x p, xs = [x] ∧ (∀ (X : Cx) (pins : List (Addr × Obj)) (τ : St) (s : Shared) (u : Value), X.K = K → SysK K → Inv X pins τ H s → RelV x u → Rz s.heap u p) ∧ p.depth ≤ 60 ∧ p.showable = true ∧ p.shown.length ≤ sizeLine ∧ Q (.str p.shown) H
theorem cr_reprR {X : Cx} (hs : SysK X.K) (hg : X.A.guards = some []) (hu : X.A.units + 65 < cLine) : CallR X (.builtin "repr") (rReprR X.K) := by
  intro pins s σ H xs us Q I r h
  obtain ⟨x, p, rfl, hp, hd, hsh, hz, q⟩ := h
  obtain ⟨u, rfl, ru⟩ := r.one
  have fin : ∀ h' u' tk, (∀ b o, s.heap.get? b = some o → h'.get? b = some o) → EP X pins σ Q (.str p.shown u') { s with heap := h', toks := tk } := fun h' u' tk hk => ⟨.str p.shown, H, I.kept hk, ⟨_, rfl⟩, q⟩
  obtain ⟨as, rd, hn⟩ := hp X pins σ s u rfl hs I ru
  cases rd with
  | none => exact PySem.P.repr_of_none ⟨.str _, H, I.tok _, ⟨_, rfl⟩, q⟩
  | bool b => exact PySem.P.repr_of_bool ⟨.str _, H, I.tok _, ⟨_, rfl⟩, by cases b <;> exact q⟩
  | int i t => exact PySem.P.repr_of_int (by simpa [PyData.showable] using hsh) ⟨.str _, H, I.tok _, ⟨_, rfl⟩, q⟩
  | str y t => exact PySem.P.repr_of_str ⟨.str _, H, I.tok _, ⟨_, rfl⟩, q⟩ hz
  | list e1 e2 e3 e4 => exact repr_of_reads' (Reads.list e1 e2 e3 e4) hsh (fun _ => hn) hg (by omega) (fun _ _ e => e) fin hz
  | tuple e1 e2 e3 e4 => exact repr_of_reads' (Reads.tuple e1 e2 e3 e4) hsh (fun _ => hn) hg (by omega) (fun _ _ e => e) fin hz
  | dict e1 e2 e3 e4 e5 => exact repr_of_reads' (Reads.dict e1 e2 e3 e4 e5) hsh (fun _ => hn) hg (by omega) (fun _ _ e => e) fin hz
def dReprR : Hs → List D → Option D := fun h ds => match ds with
  | [d] => (match vwR h 60 d with
    | some p => if p.showable = true ∧ p.shown.length ≤ sizeLine then some (.rep p) else none
    | none => none)
  | _ => none
theorem vwR_depth (h : Hs) : ∀ (n : Nat) (d : D) (p : PyData), vwR h n d = some p → p.depth ≤ n := by
  have lf : ∀ (n : Nat) (d : D) (p : PyData), leaf d = some p → p.depth ≤ n := fun n d p e => by
    cases d <;> first | (cases e; exact Nat.zero_le _) | cases e
  have al : ∀ {f : D → Option PyData} {n : Nat}, (∀ d p, f d = some p → p.depth ≤ n) → ∀ (ds : List D) (ps : List PyData), mapO f ds = some ps → PyData.depthAll ps ≤ n := fun {f n} ih ds => by
    induction ds with
    | nil => intro ps e; cases e; exact Nat.zero_le _
    | cons d ds jh =>
      intro ps e
      unfold mapO at e
      split at e
      · cases e
      · rename_i p e1
        split at e
        · cases e
        · rename_i ps e2
          cases e
          simp only [PyData.depthAll]
          exact Nat.max_le.mpr ⟨ih _ _ e1, jh _ e2⟩
  intro n
  induction n with
  | zero => exact fun d p e => lf 0 d p e
  | succ n ih =>
    intro d p e
    cases d with
    | tup t xs =>
      simp only [vwR] at e
      split at e
      · cases e; have := al ih _ _ (by assumption); simp only [PyData.depth]; omega
      · cases e
    | rl xs =>
      simp only [vwR] at e
      split at e
      · cases e; have := al ih _ _ (by assumption); simp only [PyData.depth]; omega
      · cases e
    | ref c =>
      simp only [vwR] at e
      split at e
      · split at e
        · cases e; have := al ih _ _ (by assumption); simp only [PyData.depth]; omega
        · cases e
      · rename_i kvs g
        split at e
        · rename_i ps e1
          cases e
          have h1 := al ih _ _ e1
          have h2 := depth_zip (kvs.map (·.1)) ps
          rw [List.map_map] at h2
          have e9 : (kvs.map fun kv => keyP kv.1) = kvs.map (keyP ∘ fun x => x.1) := rfl
          simp only [PyData.depth]
          rw [e9]
          omega
        · cases e
      · cases e
    | non => exact lf _ _ _ e
    | bl b => exact lf _ _ _ e
    | int i => exact lf _ _ _ e
    | str x => exact lf _ _ _ e
    | fn x => cases e
    | ty x => cases e
    | cls x => cases e
    | rep x => cases e
section
variable {K : PySem.W.Frag} {mg : Str → Option Value}
theorem n_reprR : OpNR K mg (rReprR K) dReprR := by
  intro ca F H σ env h xs ds t Q S r e k
  unfold dReprR at e
  split at e
  · split at e
    · rename_i d p hp
      split at e
      · rename_i hz
        cases e
        obtain ⟨v, rfl, rv⟩ := r.one
        refine ⟨v, p, rfl, fun X pins τ s u eK hs I ru => ?_, vwR_depth h 60 _ p hp, hz.1, hz.2, k _ (.rep p)⟩
        subst eK
        exact (vwR_rz hs I S 60 _ v u p rv hp ru).1
      · cases e
    · cases e
  · cases e
end
end HC
end
section
set_option Elab.async false
set_option linter.all false
set_option maxRecDepth 100000
set_option maxHeartbeats 1000000
set_option autoImplicit false
namespace HC
open PySem PySem.Spec L2 PyProof.Rows
/-! ### methods of texts; bit_length -/
def isS : D → Bool
  | .str _ => true
  | _ => false
def eSM (f : Hs → D → List D → Rs D) (o : Ev) (a : Av) : Ev := fun env h => (o env h).bind fun d h1 => if isS d = true then (a env h1).bind fun ds h2 => f h2 d ds else .no
section
variable {K : PySem.W.Frag} {mg : Str → Option Value} {W : WX} {ca : List Addr} {F H : Hp} {σ : St} {env : Env} {h : Hs} {v : V} {d : D}
theorem isS_of (r : RepD K mg ca F v d) (e : isS d = true) : tyV K "str" v H := by
  cases d with
  | str x => rw [r.str'.1]; rfl
  | _ => cases e
theorem snd_sm {r : V → List V → Hp → VK → Prop} {f : Hs → D → List D → Rs D} {to : TE} {ta : TA} {ov : Ev} {av : Av} (hf : OpMS K mg W r f) (ho : SndE K mg W to ov) (ha : SndA K mg W ta av) : SndE K mg W (tBM K "str" r to ta) (eSM f ov av) := by
  intro ca F H σ env h Q S x
  refine ho ca F H σ env h _ S ((Aft.bind x).mono fun d ca1 F1 H1 h1 _ L1 S1 y v rv => ?_)
  split at y
  · rename_i e
    refine ⟨isS_of rv e, ha ca1 F1 H1 σ env h1 _ S1 ((Aft.bind y).mono fun ds ca2 F2 H2 h2 _ L2 S2 y2 vs rs => ?_)⟩
    exact hf ca2 F2 H2 σ env h2 v vs d ds Q S2 (RepD.mono L2.ff L2.pre _ _ rv) rs y2
  · exact y.elim
theorem snd_sm0 {r : V → List V → Hp → VK → Prop} {f : Hs → D → List D → Rs D} {to : TE} {ov : Ev} (hf : OpMS K mg W r f) (ho : SndE K mg W to ov) : SndE K mg W (tBM0 K "str" r to) (eSM f ov aNil) := by
  intro ca F H σ env h Q S x
  refine ho ca F H σ env h _ S ((Aft.bind x).mono fun d ca1 F1 H1 h1 _ L1 S1 y v rv => ?_)
  split at y
  · rename_i e
    exact ⟨isS_of rv e, hf ca1 F1 H1 σ env h1 v [] d [] Q S1 rv .nil y⟩
  · exact y.elim
/-- a text that may stand -/
def okS (x : Str) (h : Hs) : Rs D := if x.length ≤ sizeLine ∧ PyData.strOk x = true then .ok (.str x) h else .no
theorem okS_of {x : Str} {Q : VK} (S : Sim K mg ca F H σ env h) (z : Aft K mg W ca F H σ env (okS x h) (fun t ca' F' H' _ => ∀ v, RepD K mg ca' F' v t → Q v H')) : Q (.str x) H := by
  unfold okS at z
  split at z
  · rename_i q
    exact Aft.ok (h := h) z S _ (.str x q.1 q.2)
  · exact z.elim
def rJoin (K : PySem.W.Frag) : V → List V → Hp → VK → Prop := fun x xs H Q => ∃ a p, ∃ ys : List Str, x = .str a ∧ xs = [.ref p] ∧ (SqL K H p (ys.map V.str) ∨ SqT K H p (ys.map V.str)) ∧ (ys.map (·.length)).sum + ys.length * a.length ≤ 16777216 ∧ Q (.str (Txt.join a ys)) H
def dJoin : Hs → D → List D → Rs D := fun h d ds => match d, ds with
  | .str a, [e] => (match seqA h e with
    | some xs => (match strsOf xs with
      | some ys => if (ys.map (·.length)).sum + ys.length * a.length ≤ 16777216 then okS (Txt.join a ys) h else .no
      | none => .no)
    | none => .no)
  | _, _ => .no
theorem m_join : OpMS K mg W (rJoin K) dJoin := by
  intro ca F H σ env h x xs d ds Q S rx rs z
  unfold dJoin at z
  split at z
  · split at z
    · rename_i xs' e
      split at z
      · rename_i ys e2
        split at z
        · rename_i hz
          obtain ⟨rfl, _, _⟩ := rx.str'
          obtain ⟨y, rfl, ry⟩ := rs.one
          obtain ⟨a, vs, rfl, q, l, r⟩ := seqA_of S ry e
          obtain ⟨e3, _⟩ := strsOf_of r e2
          subst e3
          exact ⟨_, a, ys, rfl, rfl, q, hz, okS_of S z⟩
        · exact z.elim
      · exact z.elim
    · exact z.elim
  · exact z.elim
def dBits : D → Option D
  | .int i => some (.int (Builtin.Int.intBits i : Nat))
  | _ => none
theorem snd_bits {to : TE} {ov : Ev} (ho : SndE K mg W to ov) : SndE K mg W (tBits to) (e1 (p1 dBits) ov) := by
  intro ca F H σ env h Q S x
  refine ho ca F H σ env h _ S ((Aft.bind x).mono fun d ca1 F1 H1 h1 _ L1 S1 y v rv => ?_)
  unfold p1 dBits at y
  cases d with
  | int i => exact ⟨i, rv.int', Aft.ok (h := h1) y S1 _ (.int _)⟩
  | _ => exact False.elim y
end
section
variable {X : Cx} {W : WX} {o e : Expr} {to te : TE} {ov ev : Ev} {apos cpos pos : Pos}
theorem ee_bits (ho : EE X W o to ov) (hbase : attributeBase o "bit_length" X.env (eval o X.env) = eval o X.env := by rfl) (hline : (apos.endLine == pos.line) = true := by rfl) : EE X W (.Call (.Attribute o "bit_length" apos) [] [] pos) (tBits to) (e1 (p1 dBits) ov) := ⟨pe_bits ho.pe hbase hline, snd_bits ho.snd⟩
theorem ee_join (ho : EE X W o to ov) (he : EE X W e te ev) (hbase : attributeBase o "join" X.env (eval o X.env) = eval o X.env := by rfl)
    (hfew : ((backTo cpos (starEach [e] X.env)).all (fun x => !x.1) && (backToKw cpos (keywordEach [] X.env)).all (fun x => x.1.isSome) && decide (([e] : List Expr).length + ([] : List Keyword).length + (if ([] : List Keyword).isEmpty then 0 else 1) < 30)) = true := by rfl)
    (hline : (apos.endLine == cpos.line) = true := by rfl) (hs : starEach [e] X.env = (false, eval e X.env) :: starEach [] X.env := by rfl) (hpl : (backTo cpos (starEach [] X.env)).any (·.1) = false := by rfl) :
    EE X W (.Call (.Attribute o "join" apos) [e] [] cpos) (tBM X.K "str" (rJoin X.K) to (tCons te tNil)) (eSM dJoin ov (aCons ev aNil)) :=
  ⟨pe_bm PySem.F.plainAttrs_str PySem.F.slot_str_join PySem.F.type_str_join mt_join ho.pe (pa_cons he.pe pa_nil hs) hbase hfew hline hs hpl, snd_sm m_join ho.snd (snd_cons he.snd snd_nil)⟩
end
end HC
end
section
set_option Elab.async false
set_option linter.all false
set_option maxRecDepth 100000
set_option maxHeartbeats 1000000
set_option autoImplicit false
namespace HC
open PySem PySem.Spec L2 PyProof.Rows
/-! ### what the head's looks tell of exception classes -/
theorem oexB_ok {K : PySem.W.Frag} {C : Addr} (q : oexB K C = true) : ∃ nm q N bs bm sn sub ab col dd k0 k1 k2 k3 k5, K.lookup C = some (excClassObj nm q C N bs bm true sn sub ab col dd k0 k1 k2 k3 k5 "ValueError.__new__") ∧ PySem.HandSPX.refsVE bm = true := by
  unfold oexB at q
  split at q
  · rename_i dd cd sl ho
    split at q
    · rename_i D bm k0 k1 k2 k3 n k5 hm hs
      simp only [Bool.and_eq_true, beq_iff_eq, Bool.not_eq_true'] at q
      obtain ⟨rfl, rfl, h1, h2, h3⟩ := q
      obtain ⟨nm, bs, mro, ns, qn, hd, sn, sub, ab, col, del⟩ := cd
      dsimp only at hm h1 h2
      subst hm h1 h2
      have hl : sl = #[k0, k1, k2, k3, some (.builtin "ValueError.__new__"), k5] := by
        obtain ⟨l⟩ := sl
        simp only at hs
        rw [hs]
      subst hl
      exact ⟨nm, qn, ns, bs, bm, sn, sub, ab, col, dd, k0, k1, k2, k3, k5, ho, h3⟩
    · cases q
  · cases q
theorem sysB_ok {K : PySem.W.Frag} (h : sysB K = true) : SysK K := by
  unfold sysB at h
  split at h
  · exact ⟨_, by assumption, of_decide_eq_true h⟩
  · cases h
section
variable {K : PySem.W.Frag} {mg : Str → Option Value} {hp : Heap} {x : Str} {own : Bool} {es : List Str}
theorem excIn_mro (h : excB K x own es = true) : ∃ cd, PySem.W.clsIn K (He.ga K x) = some cd ∧ cd.mro = .ref (He.ga K x) :: (es.map fun e => .ref (He.ga K e)) ++ PySem.HandSPX.veTail := by
  unfold excB at h
  simp only [Bool.and_eq_true] at h
  obtain ⟨_, _, _, _, _, _, _, _, h9⟩ := h
  exact Option.map_eq_some_iff.mp (of_decide_eq_true h9)
theorem sub_of (h : excB K x own es = true) (b : Value) : PySem.W.subIn K (.ref (He.ga K x)) b = some ((.ref (He.ga K x) :: (es.map fun e => Value.ref (He.ga K e)) ++ PySem.HandSPX.veTail).contains b) := by
  obtain ⟨cd, e1, e2⟩ := excIn_mro h
  show PySem.W.mroIn K _ _ = _
  unfold PySem.W.mroIn
  rw [e1, Option.bind_some, e2]
  rfl
theorem contains_tail {l : List Value} {b : Value} (h : PySem.HandSPX.veTail.contains b = true) : (l ++ PySem.HandSPX.veTail).contains b = true := by
  rw [List.contains_append, h, Bool.or_true]
theorem oexC_of (h : excB K x own es = true) : OexC K (He.ga K x) := by
  have hs := sub_of h (.type "BaseException")
  unfold excB at h
  simp only [Bool.and_eq_true] at h
  obtain ⟨h1, h2, h3, h4, h5, h6, h7, h8, h9⟩ := h
  have h2' := oexB_ok h2
  refine ⟨h2', of_decide_eq_true h3, by rw [hs, contains_tail (by decide +kernel)], ?_, h7⟩
  obtain ⟨nm, q, N, bs, bm, sn, sub, ab, col, dd, k0, k1, k2, k3, k5, e, _⟩ := h2'
  show (K.lookup (He.ga K x)).map (·.cls) = _
  rw [e]
  rfl
theorem hasDict_of (h : excB K x own es = true) : PySem.W.hasDictIn K (He.ga K x) = true := by
  obtain ⟨nm, q, N, bs, bm, sn, sub, ab, col, dd, k0, k1, k2, k3, k5, e, _⟩ := (oexC_of h).cls
  unfold PySem.W.hasDictIn PySem.W.clsIn
  rw [e]
  rfl
theorem excC_of (h : excB K x own es = true) (ho : objB K = true) : ExcC K (He.ga K x) := by
  have hs := sub_of h (.type "BaseException")
  have hd := hasDict_of h
  have hm := sub_of h (.type "object")
  unfold excB at h
  simp only [Bool.and_eq_true] at h
  obtain ⟨h1, h2, h3, h4, h5, h6, h7, h8, h9⟩ := h
  obtain ⟨o1, o2⟩ := He.ba ho
  exact ⟨of_decide_eq_true h4, of_decide_eq_true h5, by rw [hs, contains_tail (by decide +kernel)], hd, of_decide_eq_true h6, of_decide_eq_true o1, of_decide_eq_true o2, by
    have hm' : PySem.W.mroIn K (He.ga K x) (.type "object") = _ := hm
    rw [hm', contains_tail (by decide +kernel)]⟩
theorem xfC_of (h : excB K x own es = true) : XfC K (He.ga K x) := by
  have T := oexC_of h
  have hd := hasDict_of h
  unfold excB at h
  simp only [Bool.and_eq_true] at h
  obtain ⟨h1, h2, h3, h4, h5, h6, h7, h8, h9⟩ := h
  exact ⟨of_decide_eq_true h4, of_decide_eq_true h5, T.exC, hd⟩
theorem exb_mg (X : K.In hp) (G : hp.Ns mainGlobals mg) (h : excB K x own es = true) : mg x = some (.ref (He.ga K x)) := by
  unfold excB at h
  simp only [Bool.and_eq_true] at h
  exact PySem.W.mg_of X G (He.eqO_ok h.1)
theorem exB_of (X : K.In hp) (G : hp.Ns mainGlobals mg) (h : excB K x false es = true) : ExB K mg x := by
  have T := oexC_of h
  have m := exb_mg X G h
  unfold excB at h
  simp only [Bool.and_eq_true] at h
  obtain ⟨h1, h2, h3, h4, h5, h6, h7, h8, h9⟩ := h
  exact ⟨_, m, T, of_decide_eq_true h8⟩
theorem val_of (h : excB K x true es = true) : PySem.W.findIn K (.ref (He.ga K x)) "value" = some none := by
  unfold excB at h
  simp only [Bool.and_eq_true] at h
  obtain ⟨h1, h2, h3, h4, h5, h6, h7, h8, h9⟩ := h
  exact of_decide_eq_true (He.ba (He.ba h8).2).1
theorem exC_of {qual : Str} {params : Arguments} {scope : Scope} {p1 p2 p3 p4 : Pos} {fd : FuncData} (X : K.In hp) (G : hp.Ns mainGlobals mg) (h : excB K x true es = true)
    (F : FunD K "__init__" qual params [.Assign [.Attribute (.Name "self" p1) "value" p2] (.Name "value" p3) p4] scope [.non] [] (He.ma K (He.ga K x) "__init__") fd) (S : FnScope ["self", "value"] ["self", "value"] scope)
    (h1 : scope.names.lookup ("self" : Str) = some .local) (h2 : scope.names.lookup ("value" : Str) = some .local) (b1 : bdIni qual params [.Assign [.Attribute (.Name "self" p1) "value" p2] (.Name "value" p3) p4] scope)
    (b2 : bdIni0 qual params [.Assign [.Attribute (.Name "self" p1) "value" p2] (.Name "value" p3) p4] scope) (b3 : bdIniK qual params [.Assign [.Attribute (.Name "self" p1) "value" p2] (.Name "value" p3) p4] scope) : ExC K mg x := by
  have T := oexC_of h
  have m := exb_mg X G h
  have v := val_of h
  unfold excB at h
  simp only [Bool.and_eq_true] at h
  obtain ⟨_, _, _, _, _, _, _, h8, _⟩ := h
  exact ⟨_, _, fd, qual, params, scope, p1, p2, p3, p4, m, T, of_decide_eq_true (He.ba h8).1, of_decide_eq_true (He.ba (He.ba h8).2).2, v, F, S, h1, h2, b1, b2, b3⟩
end
def csT (kd : List Kd) : Str → D → Option Bool := fun n e => match kd.find? fun p => decide (p.1 = n) with
  | some p => (match e with
    | .cls m => if (kd.any fun q => decide (q.1 = m)) = true then some (decide (m = n) || p.2.2.any fun y => decide (y = m)) else none
    | .ty t => if t = "ValueError" then some true else none
    | _ => none)
  | none => none
/-- those with a field -/
def okT (kd : List Kd) (n : Str) : Bool := kd.any fun p => decide (p.1 = n) && p.2.1
structure KdOk (kd : List Kd) (K : PySem.W.Frag) : Prop where
  ob : objB K = true
  sys : SysK K
  ex : ∀ p ∈ kd, excB K p.1 p.2.1 p.2.2 = true
  clo : ∀ p ∈ kd, ∀ y ∈ p.2.2, ∃ q ∈ kd, q.1 = y
  inj : ∀ p ∈ kd, ∀ q ∈ kd, He.ga K p.1 = He.ga K q.1 → p.1 = q.1
theorem inj_of {α β : Type} {f : α → β} : ∀ {l : List α}, (l.map f).Nodup → ∀ a ∈ l, ∀ b ∈ l, f a = f b → a = b
  | [], _, _, h, _, _, _ => nomatch h
  | x :: l, hn, a, ha, b, hb, e => by
    rw [List.map_cons, List.nodup_cons] at hn
    rcases List.mem_cons.mp ha with za | ha2
    · rcases List.mem_cons.mp hb with zb | hb2
      · rw [za, zb]
      · exact absurd (List.mem_map.mpr ⟨b, hb2, by rw [← za]; exact e.symm⟩) hn.1
    · rcases List.mem_cons.mp hb with zb | hb2
      · exact absurd (List.mem_map.mpr ⟨a, ha2, by rw [← zb]; exact e⟩) hn.1
      · exact inj_of hn.2 a ha2 b hb2 e
theorem kd_ok {kd : List Kd} {K : PySem.W.Frag} (h3 : ∀ p ∈ kd, excB K p.1 p.2.1 p.2.2 = true) (h : kdT kd K = true) : KdOk kd K := by
  unfold kdT at h
  simp only [Bool.and_eq_true, decide_eq_true_eq] at h
  obtain ⟨h1, h2, h4, h5⟩ := h
  refine ⟨h1, sysB_ok h2, h3, fun p hp y hy => ?_, fun p hp q hq e => congrArg _ (inj_of h5 p hp q hq e)⟩
  obtain ⟨q, hq, e⟩ := List.any_eq_true.mp (List.all_eq_true.mp (List.all_eq_true.mp h4 p hp) y hy)
  exact ⟨q, hq, of_decide_eq_true e⟩
theorem kinds_ok {kd : List Kd} {K : PySem.W.Frag} {mg : Str → Option Value} {hp : Heap} (X : K.In hp) (G : hp.Ns mainGlobals mg) (q : KdOk kd K) : KindsOk K mg (csT kd) := by
  intro n e b D ca F u hc hm r
  unfold csT at hc
  split at hc
  · rename_i p hf
    have hp := List.mem_of_find?_eq_some hf
    have en : p.1 = n := by simpa using List.find?_some hf
    subst en
    have ex := q.ex p hp
    have eD := hm.symm.trans (exb_mg X G ex)
    cases eD
    refine ⟨excC_of ex q.ob, ?_⟩
    split at hc
    · rename_i m
      split at hc
      · rename_i ha
        cases hc
        obtain ⟨c, hc, em⟩ := List.any_eq_true.mp ha
        have em := of_decide_eq_true em
        subst em
        obtain ⟨a, rfl, ma⟩ := r.cls'
        have exc := q.ex c hc
        have ea := ma.symm.trans (exb_mg X G exc)
        cases ea
        refine ⟨.ref (He.ga K c.1), fun x hx => hx, ?_⟩
        unfold PySem.W.kitOne
        by_cases hd : (Value.ref (He.ga K p.1) == Value.ref (He.ga K c.1)) = true
        · rw [if_pos hd]
          have e1 : He.ga K p.1 = He.ga K c.1 := Value.ref.inj (beq_iff_eq.mp hd)
          have e2 := q.inj p hp c hc e1
          rw [decide_eq_true e2.symm]
          rfl
        · rw [if_neg hd]
          have ty := (oexC_of exc).tyC
          obtain ⟨cd, hcd, _⟩ := excIn_mro exc
          show (if _ then _ else _) = _
          rw [if_pos (by rw [hcd, ty]; rfl), sub_of ex]
          congr 1
          have hne : ¬ c.1 = p.1 := fun z => hd (by rw [z]; exact beq_self_eq_true _)
          rw [decide_eq_false hne, Bool.false_or]
          have tl : PySem.HandSPX.veTail.contains (Value.ref (He.ga K c.1)) = false := rfl
          rw [List.cons_append, List.contains_cons, List.contains_append, tl, Bool.or_false]
          have h0 : (Value.ref (He.ga K c.1) == Value.ref (He.ga K p.1)) = false := by
            refine Bool.eq_false_iff.mpr fun z => hd ?_
            rw [beq_iff_eq] at z ⊢
            exact z.symm
          rw [h0, Bool.false_or, Bool.eq_iff_iff, List.contains_iff_mem, List.any_eq_true]
          constructor
          · intro z
            obtain ⟨y, hy, e⟩ := List.mem_map.mp z
            obtain ⟨c2, hc2, e2⟩ := q.clo p hp y hy
            refine ⟨y, hy, decide_eq_true ?_⟩
            rw [← e2] at e ⊢
            exact q.inj c2 hc2 c hc (Value.ref.inj e)
          · rintro ⟨y, hy, e⟩
            rw [of_decide_eq_true e] at hy
            exact List.mem_map.mpr ⟨_, hy, rfl⟩
      · cases hc
    · split at hc
      · rename_i t ht
        cases hc
        subst ht
        rw [r.ty']
        refine ⟨.type "ValueError", fun x hx => hx, ?_⟩
        have hk : PySem.W.kitMeta "ValueError" = true := by decide +kernel
        unfold PySem.W.kitOne
        rw [if_neg (by simp)]
        show (if PySem.W.kitMeta "ValueError" = true then PySem.W.subIn K (.ref (He.ga K p.1)) (.type "ValueError") else none) = _
        rw [if_pos hk, sub_of ex, contains_tail (by decide +kernel)]
      · cases hc
    · cases hc
  · cases hc
theorem xv_of {kd : List Kd} {K : PySem.W.Frag} {mg : Str → Option Value} {hp : Heap} (X : K.In hp) (G : hp.Ns mainGlobals mg) (q : KdOk kd K) : ∀ n C, okT kd n = true → mg n = some (.ref C) → XfC K C ∧ PySem.W.findIn K (.ref C) "value" = some none := by
  intro n C h hm
  obtain ⟨p, hp, e⟩ := List.any_eq_true.mp h
  rw [Bool.and_eq_true] at e
  have en := of_decide_eq_true e.1
  subst en
  have ex := q.ex p hp
  rw [e.2] at ex
  have eC := hm.symm.trans (exb_mg X G ex)
  cases eC
  exact ⟨xfC_of ex, val_of ex⟩
end HC
end
section
set_option Elab.async false
set_option linter.all false
set_option maxRecDepth 100000
set_option maxHeartbeats 2000000
/-! the end of a law: HandS's law_call turned to defs that are entered where no repr is under way -/
namespace HC
open PySem PySem.Spec PyProof.Rows L2
theorem law_callG {P : Program} {w : World} {K : PySem.W.Frag} {mg mb : Str → Option Value} {k : Nat} {fa a : Addr} {fd : FuncData} {x : Str} {sp : Sp} {s₁ : Shared} {vs : List Value} {ns : List Int}
    (KX : K.In s₁.heap) (hns : s₁.heap.Ns mainGlobals mg) (hb : s₁.heap.Ns builtinsNs mb) (hbb : ∀ x : Str, x ≠ "__name__" → mb x = bootBuiltins x) (hlim : s₁.heap.NoLimit) (hg : s₁.gens = #[])
    (ha : s₁.heap.get? a = some { cls := .type "list", data := .seq vs.toArray }) (hi : IntsAre vs ns) (hl : ns.length ≤ sizeLine) (hr : RoomG k callerA)
    (F : ∀ base : Heap, K.In base → base.Ns mainGlobals mg → FnG P w K mg base k fa fd [x] sp) (hbind : ∀ (s : Shared) (u : Value), BindsTo s fd ⟨[u], []⟩ [(x, u)])
    (hsp : ∀ H : Hp, Only H → SqL K H a (ns.map V.int) → sp [.ref a] H (fun v _ => v = .bl true) fun _ _ _ => False) :
    codeAny (model P w) callerA (.call (.ref fa) ⟨[.ref a], []⟩) (fun r s' => r = .ok (.ret (.bool true)) ∧ OldK s₁.heap s'.heap ∧ s'.os = s₁.os ∧ AllBare s'.gens) s₁ := by
  have hCX : ∀ (H : Hp) (e : Value) (s' : Shared), CX P w [] H s₁ (fun _ _ _ => False) e s' → False := fun H e s' ⟨_, _, _, _, _, _, _, _, _, _, _, _, z⟩ => z
  have rv := vals_ints hi
  have lenV := hi.length
  -- from an abstract heap in which nothing but the script may be tracked
  have core : ∀ H : Hp, Only H → SqL K H a (ns.map V.int) → HOk P w H s₁.heap → (∀ b, H b ≠ none → b = a) → (H a ≠ none → K.lookup a = none) →
      codeAny (model P w) callerA (.call (.ref fa) ⟨[.ref a], []⟩) (fun r s' => r = .ok (.ret (.bool true)) ∧ OldK s₁.heap s'.heap ∧ s'.os = s₁.os ∧ AllBare s'.gens) s₁ := by
    intro H hO hS hok hA hK
    have base_of : ∀ {b : Addr} {o : Obj}, s₁.heap.get? b = some o → H b = none → (hidT s₁.heap H).get? b = some o := fun e n => hidT_get e n
    have noA : ∀ {b : Addr} {o : Obj} {es : Array DictEntry} {ep : Nat}, s₁.heap.get? b = some o → o.data = .dict es ep → H b = none := fun {b o es ep} e d => by
      cases q : H b with
      | none => rfl
      | some u =>
        have e' : b = a := hA b (by rw [q]; simp)
        subst e'
        rw [ha] at e; cases e
        have d' : Data.seq vs.toArray _ = Data.dict es ep := d
        cases d'
    have nsK : ∀ {b : Addr} {m : Str → Option Value}, s₁.heap.Ns b m → (hidT s₁.heap H).Ns b m := fun {b m} ⟨o, es, ep, e, d, r⟩ => ⟨o, es, ep, base_of e (noA e d), d, r⟩
    have hKb : K.In (hidT s₁.heap H) := fun b o e => base_of (KX b o e) (by
      cases q : H b with
      | none => rfl
      | some u =>
        have e' : b = a := hA b (by rw [q]; simp)
        subst e'
        rw [hK (by rw [q]; simp)] at e; cases e)
    have hM : Mod K mg (hidT s₁.heap H) := ⟨hKb, nsK hns, ⟨mb, nsK hb, hbb⟩, let ⟨mc, h1, h2⟩ := hlim; ⟨mc, nsK h1, h2⟩⟩
    have e0 : Env0 P w K mg (hidT s₁.heap H) callerA [] s₁ H := ⟨rfl, hM, fun b o e => of_hidT e, Nat.le_of_eq (hidT_size _ _), trivial, fun b hb => absurd (show b ∈ ([] : List Addr) from hb) (by simp), hok, .of_eq hg⟩
    refine codeAny_mono ((F _ hKb (nsK hns)).run callerA [] s₁ H ⟨[.ref a], []⟩ [.ref a] [.ref a] _ _ hr e0 (hbind s₁ (.ref a)) (.cons rfl .nil) (hsp H hO hS)) fun r s' h => ?_
    cases r with
    | error e => exact (hCX H e s' h).elim
    | ok fl =>
      cases fl with
      | next => exact False.elim h
      | brk => exact False.elim h
      | cont => exact False.elim h
      | ret u =>
        obtain ⟨v, H', os, bare, un, hok', r', q⟩ := h
        have q' : v = .bl true := q
        subst q'
        obtain rfl : u = Value.bool true := r'
        refine ⟨rfl, OldK.of_keep fun b o e => ?_, os, bare⟩
        cases q : H b with
        | none => exact un.keep b o e q (by intro z; exact absurd (show b ∈ ([] : List Addr) from z) (by simp)) (by simp)
        | some u =>
          rcases hO b with z | ⟨ob, xs, z⟩
          · rw [q] at z; cases z
          · have z2 := un.frzs b ob _ z
            obtain ⟨e1, _⟩ := hok b _ z
            obtain ⟨e2, _⟩ := hok' b _ z2
            rw [e] at e1; cases e1
            exact e2
  cases hk : K.lookup a with
  | some o =>
    -- the script is one of the module's own objects
    have e := KX a o hk
    rw [ha] at e
    cases e
    refine core (fun _ => none) (fun _ => .inl rfl) (.inr ⟨_, vs.toArray, _, hk, rfl, rfl, rfl, by rw [List.size_toArray, lenV]; exact hl, by simpa using rv⟩) (fun b u z => by have z' : (none : Option HO) = some u := z; cases z') (fun b z => absurd rfl z) fun z => absurd rfl z
  | none =>
    refine core (fun b => if b = a then some (.frz { cls := .type "list", data := .seq vs.toArray } (.lst (ns.map V.int))) else none) (fun b => ?_) (.inl (.inr ⟨{ cls := .type "list", data := .seq vs.toArray }, if_pos rfl⟩)) (fun b u z => ?_) (fun b z => ?_) fun _ => hk
    · by_cases hb : b = a
      · exact .inr ⟨_, _, if_pos hb⟩
      · exact .inl (if_neg hb)
    · by_cases hb : b = a
      · have z' := (if_pos hb).symm.trans z
        cases z'
        subst hb
        exact ⟨ha, by rw [List.length_map]; exact hl, vs, _, rv, ha⟩
      · have z' := (if_neg hb).symm.trans z
        cases z'
    · by_cases hb : b = a
      · exact hb
      · exact absurd (if_neg hb) z

/-- what the law's mirror has to tell -/
def Says (m : Fn) : Prop := ∀ ns : List Int, ns.length ≤ 63 → (∀ k ∈ ns, Builtin.Int.intBits k ≤ 1048576) → ∃ h', m [.rl (ns.map D.int)] Hs.new = .ok (.bl true) h'
theorem reps_ints {K : PySem.W.Frag} {mg : Str → Option Value} {ca : List Addr} {F : Hp} : ∀ ns : List Int, RepDs K mg ca F (ns.map V.int) (ns.map D.int)
  | [] => .nil
  | n :: ns => .cons (.int n) (reps_ints ns)
theorem sp_of {K : PySem.W.Frag} {mg : Str → Option Value} {m : Fn} (hm : Says m) {H : Hp} {a : Addr} {ns : List Int} {E : XK} (hl : ns.length ≤ 63) (hb : ∀ k ∈ ns, Builtin.Int.intBits k ≤ 1048576) (hS : SqL K H a (ns.map V.int)) : spM K mg 1 m [.ref a] H (fun v _ => v = .bl true) E := by
  obtain ⟨h', e⟩ := hm ns hl hb
  have S : Sim K mg [] H H [] [] Hs.new := ⟨.refl, Nat.le_refl _, (fun i d e => by simp at e), rfl, List.nodup_nil, (fun i hi => absurd hi (Nat.not_lt_zero _)), (fun i o e => absurd (Hs.get_lt e).1 (Nat.not_lt_zero _)), (fun m hm => nomatch hm), fun m hm => nomatch hm⟩
  refine ⟨rfl, [], H, Hs.new, [.rl (ns.map D.int)], S, .cons (.rl hS ?_ (reps_ints ns)) .nil, ?_⟩
  · rw [List.length_map, sizeLine_eq]; omega
  · rw [e]
    exact fun ca' F' H' L S' v r => bl_of r
theorem walkG {l : PySem.W.OpenLaw} {k : Nat} {q : Program} {loose : List Str} {XP : (Str → Option Value) → Heap → Prop} {YP : World → Heap → Prop} {d : DefRec} {x : Str} {m : Fn}
    (hn : l.most = some 63) (hdf : d.params.defaults = []) (hr : RoomG k callerA)
    (F : ∀ (w : World) (mg : Str → Option Value) (fa : Addr) (h : Heap), YP w h → h.Ns mainGlobals mg → mg d.name = some (.ref fa) →
      ∃ (K : PySem.W.Frag) (fd : FuncData), K.In h ∧ (∀ (s : Shared) (u : Value), BindsTo s fd ⟨[u], []⟩ [(x, u)]) ∧
        ∀ base : Heap, K.In base → base.Ns mainGlobals mg → FnG l.prog w K mg base k fa fd [x] (spM K mg 1 m))
    (hm : Says m) : PySem.W.WalkO q loose XP YP l.row.toRowW d [] (fun f vs => PySem.call f vs) := by
  refine Att.attach_callB hn hdf fun w s₀ s₁ mg mb fa o pm cd doc a vs ns G Y ho hd hcd hmg hobj hints hlen hbits hg => ?_
  obtain ⟨K, fd, KX, hb, hF⟩ := F w mg fa _ Y G.T.g hmg
  exact law_callG KX G.T.g G.T.b G.T.builtins G.T.nolimit hg hobj hints (Nat.le_trans hlen (by rw [sizeLine_eq]; omega)) hr hF hb (fun H hO hS => sp_of hm hlen hbits hS)
theorem adr_mg {mg : Str → Option Value} {x : Str} {a : Addr} (z : mg x = some (.ref a)) : mg x = some (.ref (adr mg x)) := by
  unfold adr; rw [z]
end HC
end
section
set_option Elab.async false
set_option linter.all false
set_option maxRecDepth 100000
set_option autoImplicit false
/-! what the defs do, as evaluators (printed by gen.py) -/
namespace K01
open PySem L2 PyProof.Rows HC
abbrev FU : Nat := 60
def CS : Str → D → Option Bool := csT KD
def OKV : Str → Bool := okT KD
def N_law_mixed : List Str := ["seed", "spin", "at", "mixed"]
def ps_law_mixed : List Str := ["seed", "spin", "at"]
def N_law_draw : List Str := ["purse", "many", "drawn", "found", "piece"]
def ps_law_draw : List Str := ["purse", "many"]
def N_law_one_of : List Str := ["purse", "some"]
def ps_law_one_of : List Str := ["purse", "some"]
def N_law_purse : List Str := ["script", "at", "seed"]
def ps_law_purse : List Str := ["script", "at"]
def N_law_purses : List Str := ["script", "few", "at"]
def ps_law_purses : List Str := ["script", "few"]
def N_law_first : List Str := ["thing", "found"]
def ps_law_first : List Str := ["thing"]
def N_law_called : List Str := ["thing", "found"]
def ps_law_called : List Str := ["thing"]
def N_law_bare : List Str := ["found"]
def ps_law_bare : List Str := []
def N_law_code : List Str := ["error", "found", "at"]
def ps_law_code : List Str := ["error"]
def N_law_is_error : List Str := ["error"]
def ps_law_is_error : List Str := ["error"]
def N_law_right : List Str := ["some", "noted", "error", "at"]
def ps_law_right : List Str := ["some", "noted"]
def N_law : List Str := ["script", "purse", "word", "spin", "plain", "thing", "noted", "some", "called", "later", "rest", "error"]
def ps_law : List Str := ["script"]
def b_law_mixed : Sv := (sSeq (sAsg (e2 dAdd (e2 (p2 dMul) (eVar 0) (eC (.int 69069))) (e2 (p2 dMul) (e2 (p2 dMul) (eC (.int 104729)) (eVar 1)) (eVar 1))) (gN 3)) (sSeq (sAsg (e2 (p2 dMod) (eN (pN dInt) (aCons (e2 dAdd (e2 dAdd (eVar 3) (e2 (p2 dMul) (eC (.int 7919)) (eVar 2))) (eVar 1)) aNil)) (eC (.int 2147483647))) (gN 3)) (sSeq (sAsg (e2 (p2 dMod) (eN (pN dInt) (aCons (e2 dAdd (e2 (p2 dMul) (eVar 3) (eVar 3)) (eC (.int 40503))) aNil)) (eC (.int 2147483629))) (gN 3)) (sRet (e2 (p2 dMod) (eN (pN dInt) (aCons (e2 (p2 dMul) (eVar 3) (eC (.int 48271))) aNil)) (eC (.int 2147483587)))))))
def m_law_mixed : Fn := runBody N_law_mixed.length b_law_mixed
def b_law_draw : Sv := (sSeq (sIf (tV (e2 (p2 dGt) (e2 dIx2 (eVar 0) (eC (.int 0))) (eC (.int 0)))) (sSeq (sAsg (e2 (p2 dMod) (eN (pN dInt) (aCons (e2 dIx2 (eVar 0) (eC (.int 0))) aNil)) (eVar 1)) (gN 2)) (sSeq (sIx (eVar 0) (e2 (p2 dFdiv) (e2 dIx2 (eVar 0) (eC (.int 0))) (eVar 1)) (eC (.int 0))) (sRet (eVar 2)))) sNext) (sSeq (sAsg (eC (.int 0)) (gN 3)) (sSeq (sFor (iRg1 (aCons (e2 dAdd (eC (.int 1)) (e2 (p2 dFdiv) (e1 (p1 dBits) (eVar 1)) (eC (.int 28)))) aNil)) (gN 4) (sSeq (sIx (eVar 0) (e2 dAdd (e2 dIx2 (eVar 0) (eC (.int 2))) (eC (.int 1))) (eC (.int 2))) (sAsg (e2 dAdd (e2 (p2 dMul) (eVar 3) (eC (.int 2147483587))) (eCall (m_law_mixed) [] (aCons (e2 dIx2 (eVar 0) (eC (.int 1))) (aCons (e2 dIx2 (eVar 0) (eC (.int 2))) (aCons (e2 dIx2 (eVar 0) (eC (.int 3))) aNil))))) (gN 3)))) (sRet (e2 (p2 dMod) (eN (pN dInt) (aCons (eVar 3) aNil)) (eVar 1))))))
def m_law_draw : Fn := runBody N_law_draw.length b_law_draw
def b_law_one_of : Sv := (sRet (e2 dIx2 (eVar 1) (eCall (m_law_draw) [] (aCons (eVar 0) (aCons (eN (pN dLen) (aCons (eVar 1) aNil)) aNil)))))
def m_law_one_of : Fn := runBody N_law_one_of.length b_law_one_of
def b_law_purse : Sv := (sSeq (sAsg (eN (pN dSum) (aCons (eSl (eVar 0) (oAt (eVar 1)) (oAt (e2 dAdd (eVar 1) (eC (.int 1))))) aNil)) (gN 2)) (sRet (eLst (aCons (e2 (p2 dMod) (eN (pN dInt) (aCons (eN (pN dMax2) (aCons (e2 (p2 dSub) (eVar 2) (e2 (p2 dPow) (eC (.int 10)) (eC (.int 18)))) (aCons (eC (.int 0)) aNil))) aNil)) (e2 (p2 dPow) (e2 (p2 dPow) (eC (.int 10)) (eC (.int 60))) (eC (.int 8)))) (aCons (e2 (p2 dMod) (eN (pN dInt) (aCons (eVar 2) aNil)) (eC (.int 2147483629))) (aCons (eC (.int 0)) (aCons (eVar 1) aNil)))))))
def m_law_purse : Fn := runBody N_law_purse.length b_law_purse
def b_law_purses : Sv := (sRet (eComp [2] (iRg1 (aCons (eN (pN dMax2) (aCons (eC (.int 1)) (aCons (eN (pN dMin2) (aCons (eVar 1) (aCons (eN (pN dLen) (aCons (eVar 0) aNil)) aNil))) aNil))) aNil)) (gN 2) tTrue (eCall (m_law_purse) [] (aCons (eVar 0) (aCons (eVar 2) aNil)))))
def m_law_purses : Fn := runBody N_law_purses.length b_law_purses
def b_law_first : Sv := (sSeq (sAsg (eLst (aCons (eExc "InvalidGraph" (eVar 0)) (aCons (eExc "InvalidOtherGraph" (eVar 0)) (aCons (eExc "InvalidGraphSteps" (eVar 0)) (aCons (eExc "InvalidKind" (eVar 0)) aNil))))) (gN 1)) (sSeq (sAsg (e2 dAdd (eVar 1) (eLst (aCons (eExc "InvalidForm" (eVar 0)) (aCons (eExc "InvalidOtherForm" (eVar 0)) (aCons (eExc "InvalidMultipliers" (eVar 0)) (aCons (eExc "InvalidNames" (eVar 0)) aNil)))))) (gN 1)) (sSeq (sAsg (e2 dAdd (eVar 1) (eLst (aCons (eExc "InvalidMost" (eVar 0)) (aCons (eExc "InvalidCount" (eVar 0)) (aCons (eExc "InvalidLots" (eVar 0)) (aCons (eExc "InvalidAdders" (eVar 0)) aNil)))))) (gN 1)) (sSeq (sAsg (e2 dAdd (eVar 1) (eLst (aCons (eExc "InvalidForms" (eVar 0)) (aCons (eExc "InvalidBy" (eVar 0)) (aCons (eExc "InvalidMany" (eVar 0)) (aCons (eExc "InvalidMeasure" (eVar 0)) aNil)))))) (gN 1)) (sSeq (sAsg (e2 dAdd (eVar 1) (eLst (aCons (eExc "InvalidBound" (eVar 0)) (aCons (eExc "InvalidLow" (eVar 0)) (aCons (eExc "InvalidHigh" (eVar 0)) (aCons (eExc "InvalidAt" (eVar 0)) (aCons (eExc "InvalidLot" (eVar 0)) aNil))))))) (gN 1)) (sSeq (sAsg (e2 dAdd (eVar 1) (eLst (aCons (eExc "InvalidOtherLot" (eVar 0)) (aCons (eExc "InvalidKept" (eVar 0)) (aCons (eExc "InvalidProgram" (eVar 0)) (aCons (eExc "Unread" (eVar 0)) aNil)))))) (gN 1)) (sSeq (sAsg (e2 dAdd (eVar 1) (eLst (aCons (eExc "InvalidAnswer" (eVar 0)) (aCons (eExc "InvalidInputs" (eVar 0)) (aCons (eExc "InvalidMove" (eVar 0)) (aCons (eExc "InvalidMoves" (eVar 0)) aNil)))))) (gN 1)) (sSeq (sAsg (e2 dAdd (eVar 1) (eLst (aCons (eExc "InvalidRoad" (eVar 0)) (aCons (eExc "InvalidOptions" (eVar 0)) (aCons (eExc "InvalidAct" (eVar 0)) (aCons (eExc "InvalidActs" (eVar 0)) aNil)))))) (gN 1)) (sSeq (sAsg (e2 dAdd (eVar 1) (eLst (aCons (eExc "InvalidHouse" (eVar 0)) (aCons (eExc "InvalidOtherProgram" (eVar 0)) (aCons (eExc "InvalidWord" (eVar 0)) (aCons (eExc "TooMany" (eVar 0)) aNil)))))) (gN 1)) (sSeq (sAsg (e2 dAdd (eVar 1) (eLst (aCons (eExc "InvalidPoint" (eVar 0)) (aCons (eExc "InvalidNumber" (eVar 0)) (aCons (eExc "InvalidPairs" (eVar 0)) (aCons (eExc "InvalidNumbers" (eVar 0)) aNil)))))) (gN 1)) (sSeq (sAsg (e2 dAdd (eVar 1) (eLst (aCons (eExc "InvalidSets" (eVar 0)) (aCons (eExc "InvalidRow" (eVar 0)) (aCons (eExc "InvalidRows" (eVar 0)) (aCons (eExc "InvalidTurn" (eVar 0)) (aCons (eExc "InvalidRound" (eVar 0)) aNil))))))) (gN 1)) (sSeq (sAsg (e2 dAdd (eVar 1) (eLst (aCons (eExc "InvalidPaper" (eVar 0)) (aCons (eExc "InvalidStanding" (eVar 0)) (aCons (eExc "InvalidOption" (eVar 0)) (aCons (eExc "InvalidSteps" (eVar 0)) aNil)))))) (gN 1)) (sSeq (sAsg (e2 dAdd (eVar 1) (eLst (aCons (eExc "InvalidWidth" (eVar 0)) (aCons (eExc "InvalidPlace" (eVar 0)) (aCons (eExc "InvalidTest" (eVar 0)) (aCons (eExc "InvalidTree" (eVar 0)) (aCons (eExc "InvalidText" (eVar 0)) aNil))))))) (gN 1)) (sSeq (sAsg (e2 dAdd (eVar 1) (eLst (aCons (eExc "NotBound" (eVar 0)) (aCons (eExc "InvalidOtherText" (eVar 0)) (aCons (eExc "InvalidThing" (eVar 0)) (aCons (eExc "NotTaken" (eVar 0)) aNil)))))) (gN 1)) (sRet (eVar 1))))))))))))))))
def m_law_first : Fn := runBody N_law_first.length b_law_first
def b_law_called : Sv := (sSeq (sAsg (eLst (aCons (eExc "InvalidGraph" (eVar 0)) (aCons (eExc "InvalidOtherGraph" (eVar 0)) (aCons (eExc "InvalidGraphSteps" (eVar 0)) aNil)))) (gN 1)) (sSeq (sAsg (e2 dAdd (eVar 1) (eLst (aCons (eExc "InvalidKind" (eVar 0)) (aCons (eExc "InvalidForm" (eVar 0)) (aCons (eExc "InvalidOtherForm" (eVar 0)) aNil))))) (gN 1)) (sSeq (sAsg (e2 dAdd (eVar 1) (eLst (aCons (eExc "InvalidMultipliers" (eVar 0)) (aCons (eExc "InvalidNames" (eVar 0)) (aCons (eExc "InvalidMost" (eVar 0)) aNil))))) (gN 1)) (sSeq (sAsg (e2 dAdd (eVar 1) (eLst (aCons (eExc "InvalidCount" (eVar 0)) (aCons (eExc "InvalidLots" (eVar 0)) (aCons (eExc "InvalidAdders" (eVar 0)) aNil))))) (gN 1)) (sSeq (sAsg (e2 dAdd (eVar 1) (eLst (aCons (eExc "InvalidForms" (eVar 0)) (aCons (eExc "InvalidBy" (eVar 0)) (aCons (eExc "InvalidMany" (eVar 0)) aNil))))) (gN 1)) (sSeq (sAsg (e2 dAdd (eVar 1) (eLst (aCons (eExc "InvalidMeasure" (eVar 0)) (aCons (eExc "InvalidBound" (eVar 0)) (aCons (eExc "InvalidLow" (eVar 0)) aNil))))) (gN 1)) (sSeq (sAsg (e2 dAdd (eVar 1) (eLst (aCons (eExc "InvalidHigh" (eVar 0)) (aCons (eExc "InvalidAt" (eVar 0)) (aCons (eExc "InvalidLot" (eVar 0)) aNil))))) (gN 1)) (sSeq (sAsg (e2 dAdd (eVar 1) (eLst (aCons (eExc "InvalidOtherLot" (eVar 0)) (aCons (eExc "InvalidKept" (eVar 0)) (aCons (eExc "InvalidProgram" (eVar 0)) aNil))))) (gN 1)) (sSeq (sAsg (e2 dAdd (eVar 1) (eLst (aCons (eExc "Unread" (eVar 0)) (aCons (eExc "InvalidAnswer" (eVar 0)) (aCons (eExc "InvalidInputs" (eVar 0)) aNil))))) (gN 1)) (sSeq (sAsg (e2 dAdd (eVar 1) (eLst (aCons (eExc "InvalidMove" (eVar 0)) (aCons (eExc "InvalidMoves" (eVar 0)) (aCons (eExc "InvalidRoad" (eVar 0)) aNil))))) (gN 1)) (sSeq (sAsg (e2 dAdd (eVar 1) (eLst (aCons (eExc "InvalidOptions" (eVar 0)) (aCons (eExc "InvalidAct" (eVar 0)) (aCons (eExc "InvalidActs" (eVar 0)) aNil))))) (gN 1)) (sSeq (sAsg (e2 dAdd (eVar 1) (eLst (aCons (eExc "InvalidHouse" (eVar 0)) (aCons (eExc "InvalidOtherProgram" (eVar 0)) (aCons (eExc "InvalidWord" (eVar 0)) aNil))))) (gN 1)) (sSeq (sAsg (e2 dAdd (eVar 1) (eLst (aCons (eExc "TooMany" (eVar 0)) (aCons (eExc "InvalidPoint" (eVar 0)) (aCons (eExc "InvalidNumber" (eVar 0)) aNil))))) (gN 1)) (sSeq (sAsg (e2 dAdd (eVar 1) (eLst (aCons (eExc "InvalidPairs" (eVar 0)) (aCons (eExc "InvalidNumbers" (eVar 0)) (aCons (eExc "InvalidSets" (eVar 0)) aNil))))) (gN 1)) (sSeq (sAsg (e2 dAdd (eVar 1) (eLst (aCons (eExc "InvalidRow" (eVar 0)) (aCons (eExc "InvalidRows" (eVar 0)) (aCons (eExc "InvalidTurn" (eVar 0)) aNil))))) (gN 1)) (sSeq (sAsg (e2 dAdd (eVar 1) (eLst (aCons (eExc "InvalidRound" (eVar 0)) (aCons (eExc "InvalidPaper" (eVar 0)) (aCons (eExc "InvalidStanding" (eVar 0)) aNil))))) (gN 1)) (sSeq (sAsg (e2 dAdd (eVar 1) (eLst (aCons (eExc "InvalidOption" (eVar 0)) (aCons (eExc "InvalidSteps" (eVar 0)) (aCons (eExc "InvalidWidth" (eVar 0)) aNil))))) (gN 1)) (sSeq (sAsg (e2 dAdd (eVar 1) (eLst (aCons (eExc "InvalidPlace" (eVar 0)) (aCons (eExc "InvalidTest" (eVar 0)) (aCons (eExc "InvalidTree" (eVar 0)) aNil))))) (gN 1)) (sSeq (sAsg (e2 dAdd (eVar 1) (eLst (aCons (eExc "InvalidText" (eVar 0)) (aCons (eExc "NotBound" (eVar 0)) (aCons (eExc "InvalidOtherText" (eVar 0)) aNil))))) (gN 1)) (sSeq (sAsg (e2 dAdd (eVar 1) (eLst (aCons (eExc "InvalidThing" (eVar 0)) (aCons (eExc "NotTaken" (eVar 0)) aNil)))) (gN 1)) (sRet (eVar 1))))))))))))))))))))))
def m_law_called : Fn := runBody N_law_called.length b_law_called
def b_law_bare : Sv := (sSeq (sAsg (eLst (aCons (eExc "InvalidGraph" (eC .non)) (aCons (eExc "InvalidOtherGraph" (eC .non)) (aCons (eExc "InvalidGraphSteps" (eC .non)) (aCons (eExc "InvalidKind" (eC .non)) (aCons (eExc "InvalidForm" (eC .non)) (aCons (eExc "InvalidOtherForm" (eC .non)) aNil))))))) (gN 0)) (sSeq (sAsg (e2 dAdd (eVar 0) (eLst (aCons (eExc "InvalidMultipliers" (eC .non)) (aCons (eExc "InvalidNames" (eC .non)) (aCons (eExc "InvalidMost" (eC .non)) (aCons (eExc "InvalidCount" (eC .non)) (aCons (eExc "InvalidLots" (eC .non)) (aCons (eExc "InvalidAdders" (eC .non)) aNil)))))))) (gN 0)) (sSeq (sAsg (e2 dAdd (eVar 0) (eLst (aCons (eExc "InvalidForms" (eC .non)) (aCons (eExc "InvalidBy" (eC .non)) (aCons (eExc "InvalidMany" (eC .non)) (aCons (eExc "InvalidMeasure" (eC .non)) (aCons (eExc "InvalidBound" (eC .non)) (aCons (eExc "InvalidLow" (eC .non)) aNil)))))))) (gN 0)) (sSeq (sAsg (e2 dAdd (eVar 0) (eLst (aCons (eExc "InvalidHigh" (eC .non)) (aCons (eExc "InvalidAt" (eC .non)) (aCons (eExc "InvalidLot" (eC .non)) (aCons (eExc "InvalidOtherLot" (eC .non)) (aCons (eExc "InvalidKept" (eC .non)) (aCons (eExc "InvalidProgram" (eC .non)) aNil)))))))) (gN 0)) (sSeq (sAsg (e2 dAdd (eVar 0) (eLst (aCons (eExc "Unread" (eC .non)) (aCons (eExc "InvalidAnswer" (eC .non)) (aCons (eExc "InvalidInputs" (eC .non)) (aCons (eExc "InvalidMove" (eC .non)) (aCons (eExc "InvalidMoves" (eC .non)) (aCons (eExc "InvalidRoad" (eC .non)) aNil)))))))) (gN 0)) (sSeq (sAsg (e2 dAdd (eVar 0) (eLst (aCons (eExc "InvalidOptions" (eC .non)) (aCons (eExc "InvalidAct" (eC .non)) (aCons (eExc "InvalidActs" (eC .non)) (aCons (eExc "InvalidHouse" (eC .non)) (aCons (eExc "InvalidOtherProgram" (eC .non)) (aCons (eExc "InvalidWord" (eC .non)) aNil)))))))) (gN 0)) (sSeq (sAsg (e2 dAdd (eVar 0) (eLst (aCons (eExc "TooMany" (eC .non)) (aCons (eExc "InvalidPoint" (eC .non)) (aCons (eExc "InvalidNumber" (eC .non)) (aCons (eExc "InvalidPairs" (eC .non)) (aCons (eExc "InvalidNumbers" (eC .non)) (aCons (eExc "InvalidSets" (eC .non)) aNil)))))))) (gN 0)) (sSeq (sAsg (e2 dAdd (eVar 0) (eLst (aCons (eExc "InvalidRow" (eC .non)) (aCons (eExc "InvalidRows" (eC .non)) (aCons (eExc "InvalidTurn" (eC .non)) (aCons (eExc "InvalidRound" (eC .non)) (aCons (eExc "InvalidPaper" (eC .non)) (aCons (eExc "InvalidStanding" (eC .non)) aNil)))))))) (gN 0)) (sSeq (sAsg (e2 dAdd (eVar 0) (eLst (aCons (eExc "InvalidOption" (eC .non)) (aCons (eExc "InvalidSteps" (eC .non)) (aCons (eExc "InvalidWidth" (eC .non)) (aCons (eExc "InvalidPlace" (eC .non)) (aCons (eExc "InvalidTest" (eC .non)) (aCons (eExc "InvalidTree" (eC .non)) aNil)))))))) (gN 0)) (sSeq (sAsg (e2 dAdd (eVar 0) (eLst (aCons (eExc "InvalidText" (eC .non)) (aCons (eExc "NotBound" (eC .non)) (aCons (eExc "InvalidOtherText" (eC .non)) (aCons (eExc "InvalidThing" (eC .non)) (aCons (eExc "NotTaken" (eC .non)) aNil))))))) (gN 0)) (sRet (eVar 0))))))))))))
def m_law_bare : Fn := runBody N_law_bare.length b_law_bare
def b_law_code : Sv := (sSeq (sAsg (eLst (aCons (eN (pN (dIsX CS)) (aCons (eVar 0) (aCons (eC (.cls "InvalidGraph")) aNil))) (aCons (eN (pN (dIsX CS)) (aCons (eVar 0) (aCons (eC (.cls "InvalidOtherGraph")) aNil))) (aCons (eN (pN (dIsX CS)) (aCons (eVar 0) (aCons (eC (.cls "InvalidGraphSteps")) aNil))) aNil)))) (gN 1)) (sSeq (sAsg (e2 dAdd (eVar 1) (eLst (aCons (eN (pN (dIsX CS)) (aCons (eVar 0) (aCons (eC (.cls "InvalidKind")) aNil))) (aCons (eN (pN (dIsX CS)) (aCons (eVar 0) (aCons (eC (.cls "InvalidForm")) aNil))) (aCons (eN (pN (dIsX CS)) (aCons (eVar 0) (aCons (eC (.cls "InvalidOtherForm")) aNil))) aNil))))) (gN 1)) (sSeq (sAsg (e2 dAdd (eVar 1) (eLst (aCons (eN (pN (dIsX CS)) (aCons (eVar 0) (aCons (eC (.cls "InvalidMultipliers")) aNil))) (aCons (eN (pN (dIsX CS)) (aCons (eVar 0) (aCons (eC (.cls "InvalidNames")) aNil))) aNil)))) (gN 1)) (sSeq (sAsg (e2 dAdd (eVar 1) (eLst (aCons (eN (pN (dIsX CS)) (aCons (eVar 0) (aCons (eC (.cls "InvalidMost")) aNil))) (aCons (eN (pN (dIsX CS)) (aCons (eVar 0) (aCons (eC (.cls "InvalidCount")) aNil))) (aCons (eN (pN (dIsX CS)) (aCons (eVar 0) (aCons (eC (.cls "InvalidLots")) aNil))) aNil))))) (gN 1)) (sSeq (sAsg (e2 dAdd (eVar 1) (eLst (aCons (eN (pN (dIsX CS)) (aCons (eVar 0) (aCons (eC (.cls "InvalidAdders")) aNil))) (aCons (eN (pN (dIsX CS)) (aCons (eVar 0) (aCons (eC (.cls "InvalidForms")) aNil))) (aCons (eN (pN (dIsX CS)) (aCons (eVar 0) (aCons (eC (.cls "InvalidBy")) aNil))) aNil))))) (gN 1)) (sSeq (sAsg (e2 dAdd (eVar 1) (eLst (aCons (eN (pN (dIsX CS)) (aCons (eVar 0) (aCons (eC (.cls "InvalidMany")) aNil))) (aCons (eN (pN (dIsX CS)) (aCons (eVar 0) (aCons (eC (.cls "InvalidMeasure")) aNil))) (aCons (eN (pN (dIsX CS)) (aCons (eVar 0) (aCons (eC (.cls "InvalidBound")) aNil))) aNil))))) (gN 1)) (sSeq (sAsg (e2 dAdd (eVar 1) (eLst (aCons (eN (pN (dIsX CS)) (aCons (eVar 0) (aCons (eC (.cls "InvalidLow")) aNil))) (aCons (eN (pN (dIsX CS)) (aCons (eVar 0) (aCons (eC (.cls "InvalidHigh")) aNil))) (aCons (eN (pN (dIsX CS)) (aCons (eVar 0) (aCons (eC (.cls "InvalidAt")) aNil))) aNil))))) (gN 1)) (sSeq (sAsg (e2 dAdd (eVar 1) (eLst (aCons (eN (pN (dIsX CS)) (aCons (eVar 0) (aCons (eC (.cls "InvalidLot")) aNil))) (aCons (eN (pN (dIsX CS)) (aCons (eVar 0) (aCons (eC (.cls "InvalidOtherLot")) aNil))) (aCons (eN (pN (dIsX CS)) (aCons (eVar 0) (aCons (eC (.cls "InvalidKept")) aNil))) aNil))))) (gN 1)) (sSeq (sAsg (e2 dAdd (eVar 1) (eLst (aCons (eN (pN (dIsX CS)) (aCons (eVar 0) (aCons (eC (.cls "InvalidProgram")) aNil))) (aCons (eN (pN (dIsX CS)) (aCons (eVar 0) (aCons (eC (.cls "Unread")) aNil))) (aCons (eN (pN (dIsX CS)) (aCons (eVar 0) (aCons (eC (.cls "InvalidAnswer")) aNil))) aNil))))) (gN 1)) (sSeq (sAsg (e2 dAdd (eVar 1) (eLst (aCons (eN (pN (dIsX CS)) (aCons (eVar 0) (aCons (eC (.cls "InvalidInputs")) aNil))) (aCons (eN (pN (dIsX CS)) (aCons (eVar 0) (aCons (eC (.cls "InvalidMove")) aNil))) (aCons (eN (pN (dIsX CS)) (aCons (eVar 0) (aCons (eC (.cls "InvalidMoves")) aNil))) aNil))))) (gN 1)) (sSeq (sAsg (e2 dAdd (eVar 1) (eLst (aCons (eN (pN (dIsX CS)) (aCons (eVar 0) (aCons (eC (.cls "InvalidRoad")) aNil))) (aCons (eN (pN (dIsX CS)) (aCons (eVar 0) (aCons (eC (.cls "InvalidOptions")) aNil))) (aCons (eN (pN (dIsX CS)) (aCons (eVar 0) (aCons (eC (.cls "InvalidAct")) aNil))) aNil))))) (gN 1)) (sSeq (sAsg (e2 dAdd (eVar 1) (eLst (aCons (eN (pN (dIsX CS)) (aCons (eVar 0) (aCons (eC (.cls "InvalidActs")) aNil))) (aCons (eN (pN (dIsX CS)) (aCons (eVar 0) (aCons (eC (.cls "InvalidHouse")) aNil))) aNil)))) (gN 1)) (sSeq (sAsg (e2 dAdd (eVar 1) (eLst (aCons (eN (pN (dIsX CS)) (aCons (eVar 0) (aCons (eC (.cls "InvalidOtherProgram")) aNil))) (aCons (eN (pN (dIsX CS)) (aCons (eVar 0) (aCons (eC (.cls "InvalidWord")) aNil))) (aCons (eN (pN (dIsX CS)) (aCons (eVar 0) (aCons (eC (.cls "TooMany")) aNil))) aNil))))) (gN 1)) (sSeq (sAsg (e2 dAdd (eVar 1) (eLst (aCons (eN (pN (dIsX CS)) (aCons (eVar 0) (aCons (eC (.cls "InvalidPoint")) aNil))) (aCons (eN (pN (dIsX CS)) (aCons (eVar 0) (aCons (eC (.cls "InvalidNumber")) aNil))) (aCons (eN (pN (dIsX CS)) (aCons (eVar 0) (aCons (eC (.cls "InvalidPairs")) aNil))) aNil))))) (gN 1)) (sSeq (sAsg (e2 dAdd (eVar 1) (eLst (aCons (eN (pN (dIsX CS)) (aCons (eVar 0) (aCons (eC (.cls "InvalidNumbers")) aNil))) (aCons (eN (pN (dIsX CS)) (aCons (eVar 0) (aCons (eC (.cls "InvalidSets")) aNil))) (aCons (eN (pN (dIsX CS)) (aCons (eVar 0) (aCons (eC (.cls "InvalidRow")) aNil))) aNil))))) (gN 1)) (sSeq (sAsg (e2 dAdd (eVar 1) (eLst (aCons (eN (pN (dIsX CS)) (aCons (eVar 0) (aCons (eC (.cls "InvalidRows")) aNil))) (aCons (eN (pN (dIsX CS)) (aCons (eVar 0) (aCons (eC (.cls "InvalidTurn")) aNil))) (aCons (eN (pN (dIsX CS)) (aCons (eVar 0) (aCons (eC (.cls "InvalidRound")) aNil))) aNil))))) (gN 1)) (sSeq (sAsg (e2 dAdd (eVar 1) (eLst (aCons (eN (pN (dIsX CS)) (aCons (eVar 0) (aCons (eC (.cls "InvalidPaper")) aNil))) (aCons (eN (pN (dIsX CS)) (aCons (eVar 0) (aCons (eC (.cls "InvalidStanding")) aNil))) aNil)))) (gN 1)) (sSeq (sAsg (e2 dAdd (eVar 1) (eLst (aCons (eN (pN (dIsX CS)) (aCons (eVar 0) (aCons (eC (.cls "InvalidOption")) aNil))) (aCons (eN (pN (dIsX CS)) (aCons (eVar 0) (aCons (eC (.cls "InvalidSteps")) aNil))) (aCons (eN (pN (dIsX CS)) (aCons (eVar 0) (aCons (eC (.cls "InvalidWidth")) aNil))) aNil))))) (gN 1)) (sSeq (sAsg (e2 dAdd (eVar 1) (eLst (aCons (eN (pN (dIsX CS)) (aCons (eVar 0) (aCons (eC (.cls "InvalidPlace")) aNil))) (aCons (eN (pN (dIsX CS)) (aCons (eVar 0) (aCons (eC (.cls "InvalidTest")) aNil))) (aCons (eN (pN (dIsX CS)) (aCons (eVar 0) (aCons (eC (.cls "InvalidTree")) aNil))) aNil))))) (gN 1)) (sSeq (sAsg (e2 dAdd (eVar 1) (eLst (aCons (eN (pN (dIsX CS)) (aCons (eVar 0) (aCons (eC (.cls "InvalidText")) aNil))) (aCons (eN (pN (dIsX CS)) (aCons (eVar 0) (aCons (eC (.cls "NotBound")) aNil))) (aCons (eN (pN (dIsX CS)) (aCons (eVar 0) (aCons (eC (.cls "InvalidOtherText")) aNil))) aNil))))) (gN 1)) (sSeq (sAsg (e2 dAdd (eVar 1) (eLst (aCons (eN (pN (dIsX CS)) (aCons (eVar 0) (aCons (eC (.cls "InvalidThing")) aNil))) (aCons (eN (pN (dIsX CS)) (aCons (eVar 0) (aCons (eC (.cls "NotTaken")) aNil))) (aCons (eN (pN (dIsX CS)) (aCons (eVar 0) (aCons (eC (.cls "NothingToUndo")) aNil))) aNil))))) (gN 1)) (sSeq (sAsg (e2 dAdd (eVar 1) (eLst (aCons (eN (pN (dIsX CS)) (aCons (eVar 0) (aCons (eC (.cls "NothingToRedo")) aNil))) aNil))) (gN 1)) (sRet (eComp [2] (iRg1 (aCons (eN (pN dLen) (aCons (eVar 1) aNil)) aNil)) (gN 2) (tV (e2 dIx2 (eVar 1) (eVar 2))) (eVar 2)))))))))))))))))))))))))
def m_law_code : Fn := runBody N_law_code.length b_law_code
def b_law_is_error : Sv := (sRet (eAn (eN (pN (dIsX CS)) (aCons (eVar 0) (aCons (eC (.cls "EndError")) aNil))) (eN (pN (dIsX CS)) (aCons (eVar 0) (aCons (eC (.ty "ValueError")) aNil)))))
def m_law_is_error : Fn := runBody N_law_is_error.length b_law_is_error
def b_law_right : Sv := (sSeq (sIf (tV (e2 dNe (eComp [2] (iSeq (eVar 0)) (gN 2) tTrue (eCall (m_law_code) [] (aCons (eVar 2) aNil))) (eComp [3] (iRg1 (aCons (eC (.int 59)) aNil)) (gN 3) tTrue (eLst (aCons (eVar 3) aNil))))) (sRet (eC (.bl false))) sNext) (sRet (e2 dEq (eComp [2] (iSeq (eVar 0)) (gN 2) (tOo (tNt (tV (eCall (m_law_is_error) [] (aCons (eVar 2) aNil)))) (tV (e2 dNe (eN (pN dReprR) (aCons (eXv OKV (eVar 2)) aNil)) (eVar 1)))) (eVar 2)) (eLst aNil))))
def m_law_right : Fn := runBody N_law_right.length b_law_right
def b_law : Sv := (sSeq (sFor (iSeq (eCall (m_law_purses) [] (aCons (eVar 0) (aCons (eC (.int 1)) aNil)))) (gN 1) (sSeq (sAsg (eSM dJoin (eC (.str "")) (aCons (eComp [3] (iRg1 (aCons (e2 dAdd (eC (.int 1)) (eCall (m_law_draw) [] (aCons (eVar 1) (aCons (eC (.int 4)) aNil)))) aNil)) (gN 3) tTrue (e2 dIx2 (eC (.str "abcdefghijklmnopqrstuvwxyz")) (eCall (m_law_draw) [] (aCons (eVar 1) (aCons (eC (.int 26)) aNil))))) aNil)) (gN 2)) (sSeq (sAsg (eLst (aCons (eC .non) (aCons (eC (.bl true)) (aCons (eC (.bl false)) (aCons (eC (.int 0)) (aCons (eVar 2) (aCons (e1 (p1 dNeg) (e2 dIx2 (eVar 1) (eC (.int 1)))) (aCons (eTup (aCons (eC (.str "says")) (aCons (eVar 2) (aCons (eC (.int 1)) (aCons (eC (.int 2)) aNil))))) (aCons (eTup (aCons (eVar 2) (aCons (eLst (aCons (eVar 2) aNil)) aNil))) (aCons (eDisp [((eVar 2), (eLst (aCons (eVar 2) aNil)))]) aNil)))))))))) (gN 4)) (sSeq (sAsg (eCall (m_law_one_of) [] (aCons (eVar 1) (aCons (e2 dAdd (eVar 4) (eLst (aCons (eLst (aCons (eVar 2) aNil)) (aCons (eLst (aCons (eLst (aCons (eVar 2) aNil)) (aCons (eDisp [((eC (.str "odd")), (eVar 2))]) aNil))) aNil)))) aNil))) (gN 5)) (sSeq (sAsg (eN (pN dReprR) (aCons (eVar 5) aNil)) (gN 6)) (sSeq (sPar3 7 8 9 (aCons (eCall (m_law_first) [] (aCons (eVar 5) aNil)) (aCons (eCall (m_law_called) [] (aCons (eVar 5) aNil)) (aCons (eCall (m_law_first) [] (aCons (eTup (aCons (eC (.str "later")) (aCons (eVar 2) aNil))) aNil)) aNil)))) (sSeq (sIf (tOo (tNt (tV (eCall (m_law_right) [] (aCons (eCall (m_law_bare) [] aNil) (aCons (eC (.str "None")) aNil))))) (tNt (tV (eCall (m_law_right) [] (aCons (eVar 9) (aCons (eN (pN dReprR) (aCons (eTup (aCons (eC (.str "later")) (aCons (eVar 2) aNil))) aNil)) aNil)))))) (sRet (eC (.bl false))) sNext) (sSeq (sIf (tOo (tNt (tV (eCall (m_law_right) [] (aCons (eVar 7) (aCons (eVar 6) aNil))))) (tNt (tV (eCall (m_law_right) [] (aCons (eVar 8) (aCons (eVar 6) aNil)))))) (sRet (eC (.bl false))) sNext) (sSeq (sIf (tV (eN (pN (dIsX CS)) (aCons (eVar 5) (aCons (eC (.ty "list")) aNil)))) (sDrop (eBM dApp (eVar 5) (aCons (eC (.str "later")) aNil))) sNext) (sSeq (sIf (tV (eN (pN (dIsX CS)) (aCons (eVar 5) (aCons (eC (.ty "dict")) aNil)))) (sSeq (sDrop (eBM dApp (e2 dIx2 (eVar 5) (eVar 2)) (aCons (eC (.str "later")) aNil))) (sPut (eVar 5) (eC (.int 1)) (eC (.str "LATER")))) sNext) (sSeq (sIf (tAn (tV (eN (pN (dIsX CS)) (aCons (eVar 5) (aCons (eC (.ty "tuple")) aNil)))) (tV (eN (pN (dIsX CS)) (aCons (e2 dIx2 (eVar 5) (eC (.int 1))) (aCons (eC (.ty "list")) aNil))))) (sDrop (eBM dApp (e2 dIx2 (eVar 5) (eC (.int 1))) (aCons (eC (.str "later")) aNil))) sNext) (sIf (tOo (tNt (tV (eCall (m_law_right) [] (aCons (eVar 7) (aCons (eN (pN dReprR) (aCons (eVar 5) aNil)) aNil))))) (tNt (tV (eCall (m_law_right) [] (aCons (eVar 8) (aCons (eN (pN dReprR) (aCons (eVar 5) aNil)) aNil)))))) (sRet (eC (.bl false))) sNext)))))))))))) (sSeq (sAsg (eLst (aCons (eExB "NothingToUndo") (aCons (eExB "NothingToRedo") aNil))) (gN 10)) (sSeq (sIf (tV (e2 dNe (eComp [11] (iSeq (eVar 10)) (gN 11) tTrue (eCall (m_law_code) [] (aCons (eVar 11) aNil))) (eLst (aCons (eLst (aCons (eC (.int 59)) aNil)) (aCons (eLst (aCons (eC (.int 60)) aNil)) aNil))))) (sRet (eC (.bl false))) sNext) (sSeq (sDrop (eBM dApp (eVar 10) (aCons (eExB "EndError") aNil))) (sRet (eAn (eN (pN dAll) (aCons (eComp [11] (iSeq (eVar 10)) (gN 11) tTrue (eCall (m_law_is_error) [] (aCons (eVar 11) aNil))) aNil)) (e2 dEq (eCall (m_law_code) [] (aCons (e2 dIx2 (eVar 10) (eC (.int 2))) aNil)) (eLst aNil))))))))
def m_law : Fn := runBody N_law.length b_law
end K01
end
section
set_option Elab.async false
set_option linter.all false
set_option maxRecDepth 100000
set_option maxHeartbeats 4000000
set_option autoImplicit false
/-! the walk (printed by gen.py) -/
namespace K01
open PySem L2 PyProof.Rows HC
theorem sc_law_mixed : FnScope N_law_mixed ps_law_mixed (defScope s_law_mixed) := ⟨rfl, rfl, rfl, by decide +kernel, rfl, by decide +kernel, by decide +kernel⟩
theorem bd_law_mixed : Bd "_law_mixed" s_law_mixed ps_law_mixed := fun _ _ _ _ _ _ us hl => match us, hl with | [_, _, _], _ => rfl
theorem sc_law_draw : FnScope N_law_draw ps_law_draw (defScope s_law_draw) := ⟨rfl, rfl, rfl, by decide +kernel, rfl, by decide +kernel, by decide +kernel⟩
theorem bd_law_draw : Bd "_law_draw" s_law_draw ps_law_draw := fun _ _ _ _ _ _ us hl => match us, hl with | [_, _], _ => rfl
theorem sc_law_one_of : FnScope N_law_one_of ps_law_one_of (defScope s_law_one_of) := ⟨rfl, rfl, rfl, by decide +kernel, rfl, by decide +kernel, by decide +kernel⟩
theorem bd_law_one_of : Bd "_law_one_of" s_law_one_of ps_law_one_of := fun _ _ _ _ _ _ us hl => match us, hl with | [_, _], _ => rfl
theorem sc_law_purse : FnScope N_law_purse ps_law_purse (defScope s_law_purse) := ⟨rfl, rfl, rfl, by decide +kernel, rfl, by decide +kernel, by decide +kernel⟩
theorem bd_law_purse : Bd "_law_purse" s_law_purse ps_law_purse := fun _ _ _ _ _ _ us hl => match us, hl with | [_, _], _ => rfl
theorem sc_law_purses : FnScope N_law_purses ps_law_purses (defScope s_law_purses) := ⟨rfl, rfl, rfl, by decide +kernel, rfl, by decide +kernel, by decide +kernel⟩
theorem bd_law_purses : Bd "_law_purses" s_law_purses ps_law_purses := fun _ _ _ _ _ _ us hl => match us, hl with | [_, _], _ => rfl
theorem sc_law_first : FnScope N_law_first ps_law_first (defScope s_law_first) := ⟨rfl, rfl, rfl, by decide +kernel, rfl, by decide +kernel, by decide +kernel⟩
theorem bd_law_first : Bd "_law_first" s_law_first ps_law_first := fun _ _ _ _ _ _ us hl => match us, hl with | [_], _ => rfl
theorem sc_law_called : FnScope N_law_called ps_law_called (defScope s_law_called) := ⟨rfl, rfl, rfl, by decide +kernel, rfl, by decide +kernel, by decide +kernel⟩
theorem bd_law_called : Bd "_law_called" s_law_called ps_law_called := fun _ _ _ _ _ _ us hl => match us, hl with | [_], _ => rfl
theorem sc_law_bare : FnScope N_law_bare ps_law_bare (defScope s_law_bare) := ⟨rfl, rfl, rfl, by decide +kernel, rfl, by decide +kernel, by decide +kernel⟩
theorem bd_law_bare : Bd "_law_bare" s_law_bare ps_law_bare := fun _ _ _ _ _ _ us hl => match us, hl with | [], _ => rfl
theorem sc_law_code : FnScope N_law_code ps_law_code (defScope s_law_code) := ⟨rfl, rfl, rfl, by decide +kernel, rfl, by decide +kernel, by decide +kernel⟩
theorem bd_law_code : Bd "_law_code" s_law_code ps_law_code := fun _ _ _ _ _ _ us hl => match us, hl with | [_], _ => rfl
theorem sc_law_is_error : FnScope N_law_is_error ps_law_is_error (defScope s_law_is_error) := ⟨rfl, rfl, rfl, by decide +kernel, rfl, by decide +kernel, by decide +kernel⟩
theorem bd_law_is_error : Bd "_law_is_error" s_law_is_error ps_law_is_error := fun _ _ _ _ _ _ us hl => match us, hl with | [_], _ => rfl
theorem sc_law_right : FnScope N_law_right ps_law_right (defScope s_law_right) := ⟨rfl, rfl, rfl, by decide +kernel, rfl, by decide +kernel, by decide +kernel⟩
theorem bd_law_right : Bd "_law_right" s_law_right ps_law_right := fun _ _ _ _ _ _ us hl => match us, hl with | [_, _], _ => rfl
theorem sc_law : FnScope N_law ps_law (defScope s_law) := ⟨rfl, rfl, rfl, by decide +kernel, rfl, by decide +kernel, by decide +kernel⟩
theorem bd_law : Bd "law" s_law ps_law := fun _ _ _ _ _ _ us hl => match us, hl with | [_], _ => rfl
/-- what the head tells -/
structure Facts (K : PySem.W.Frag) (mg : Str → Option Value) : Prop where
  n_ValueError : mg "ValueError" = none
  n_all : mg "all" = none
  n_dict : mg "dict" = none
  n_int : mg "int" = none
  n_isinstance : mg "isinstance" = none
  n_len : mg "len" = none
  n_list : mg "list" = none
  n_max : mg "max" = none
  n_min : mg "min" = none
  n_range : mg "range" = none
  n_repr : mg "repr" = none
  n_sum : mg "sum" = none
  n_tuple : mg "tuple" = none
  f_law_mixed : ∃ f fd, mg "_law_mixed" = some (.ref f) ∧ FnP K "_law_mixed" s_law_mixed f fd
  f_law_draw : ∃ f fd, mg "_law_draw" = some (.ref f) ∧ FnP K "_law_draw" s_law_draw f fd
  f_law_one_of : ∃ f fd, mg "_law_one_of" = some (.ref f) ∧ FnP K "_law_one_of" s_law_one_of f fd
  f_law_purse : ∃ f fd, mg "_law_purse" = some (.ref f) ∧ FnP K "_law_purse" s_law_purse f fd
  f_law_purses : ∃ f fd, mg "_law_purses" = some (.ref f) ∧ FnP K "_law_purses" s_law_purses f fd
  f_law_first : ∃ f fd, mg "_law_first" = some (.ref f) ∧ FnP K "_law_first" s_law_first f fd
  f_law_called : ∃ f fd, mg "_law_called" = some (.ref f) ∧ FnP K "_law_called" s_law_called f fd
  f_law_bare : ∃ f fd, mg "_law_bare" = some (.ref f) ∧ FnP K "_law_bare" s_law_bare f fd
  f_law_code : ∃ f fd, mg "_law_code" = some (.ref f) ∧ FnP K "_law_code" s_law_code f fd
  f_law_is_error : ∃ f fd, mg "_law_is_error" = some (.ref f) ∧ FnP K "_law_is_error" s_law_is_error f fd
  f_law_right : ∃ f fd, mg "_law_right" = some (.ref f) ∧ FnP K "_law_right" s_law_right f fd
  f_law : ∃ f fd, mg "law" = some (.ref f) ∧ FnP K "law" s_law f fd
  kinds : KindsOk K mg CS
  sys : SysK K
  xv : ∀ n C, OKV n = true → mg n = some (.ref C) → XfC K C ∧ PySem.W.findIn K (.ref C) "value" = some none
  cl_EndError : mg "EndError" = some (.ref (adr mg "EndError"))
  xb_EndError : ExB K mg "EndError"
  cl_InvalidAct : mg "InvalidAct" = some (.ref (adr mg "InvalidAct"))
  xc_InvalidAct : ExC K mg "InvalidAct"
  cl_InvalidActs : mg "InvalidActs" = some (.ref (adr mg "InvalidActs"))
  xc_InvalidActs : ExC K mg "InvalidActs"
  cl_InvalidAdders : mg "InvalidAdders" = some (.ref (adr mg "InvalidAdders"))
  xc_InvalidAdders : ExC K mg "InvalidAdders"
  cl_InvalidAnswer : mg "InvalidAnswer" = some (.ref (adr mg "InvalidAnswer"))
  xc_InvalidAnswer : ExC K mg "InvalidAnswer"
  cl_InvalidAt : mg "InvalidAt" = some (.ref (adr mg "InvalidAt"))
  xc_InvalidAt : ExC K mg "InvalidAt"
  cl_InvalidBound : mg "InvalidBound" = some (.ref (adr mg "InvalidBound"))
  xc_InvalidBound : ExC K mg "InvalidBound"
  cl_InvalidBy : mg "InvalidBy" = some (.ref (adr mg "InvalidBy"))
  xc_InvalidBy : ExC K mg "InvalidBy"
  cl_InvalidCount : mg "InvalidCount" = some (.ref (adr mg "InvalidCount"))
  xc_InvalidCount : ExC K mg "InvalidCount"
  cl_InvalidForm : mg "InvalidForm" = some (.ref (adr mg "InvalidForm"))
  xc_InvalidForm : ExC K mg "InvalidForm"
  cl_InvalidForms : mg "InvalidForms" = some (.ref (adr mg "InvalidForms"))
  xc_InvalidForms : ExC K mg "InvalidForms"
  cl_InvalidGraph : mg "InvalidGraph" = some (.ref (adr mg "InvalidGraph"))
  xc_InvalidGraph : ExC K mg "InvalidGraph"
  cl_InvalidGraphSteps : mg "InvalidGraphSteps" = some (.ref (adr mg "InvalidGraphSteps"))
  xc_InvalidGraphSteps : ExC K mg "InvalidGraphSteps"
  cl_InvalidHigh : mg "InvalidHigh" = some (.ref (adr mg "InvalidHigh"))
  xc_InvalidHigh : ExC K mg "InvalidHigh"
  cl_InvalidHouse : mg "InvalidHouse" = some (.ref (adr mg "InvalidHouse"))
  xc_InvalidHouse : ExC K mg "InvalidHouse"
  cl_InvalidInputs : mg "InvalidInputs" = some (.ref (adr mg "InvalidInputs"))
  xc_InvalidInputs : ExC K mg "InvalidInputs"
  cl_InvalidKept : mg "InvalidKept" = some (.ref (adr mg "InvalidKept"))
  xc_InvalidKept : ExC K mg "InvalidKept"
  cl_InvalidKind : mg "InvalidKind" = some (.ref (adr mg "InvalidKind"))
  xc_InvalidKind : ExC K mg "InvalidKind"
  cl_InvalidLot : mg "InvalidLot" = some (.ref (adr mg "InvalidLot"))
  xc_InvalidLot : ExC K mg "InvalidLot"
  cl_InvalidLots : mg "InvalidLots" = some (.ref (adr mg "InvalidLots"))
  xc_InvalidLots : ExC K mg "InvalidLots"
  cl_InvalidLow : mg "InvalidLow" = some (.ref (adr mg "InvalidLow"))
  xc_InvalidLow : ExC K mg "InvalidLow"
  cl_InvalidMany : mg "InvalidMany" = some (.ref (adr mg "InvalidMany"))
  xc_InvalidMany : ExC K mg "InvalidMany"
  cl_InvalidMeasure : mg "InvalidMeasure" = some (.ref (adr mg "InvalidMeasure"))
  xc_InvalidMeasure : ExC K mg "InvalidMeasure"
  cl_InvalidMost : mg "InvalidMost" = some (.ref (adr mg "InvalidMost"))
  xc_InvalidMost : ExC K mg "InvalidMost"
  cl_InvalidMove : mg "InvalidMove" = some (.ref (adr mg "InvalidMove"))
  xc_InvalidMove : ExC K mg "InvalidMove"
  cl_InvalidMoves : mg "InvalidMoves" = some (.ref (adr mg "InvalidMoves"))
  xc_InvalidMoves : ExC K mg "InvalidMoves"
  cl_InvalidMultipliers : mg "InvalidMultipliers" = some (.ref (adr mg "InvalidMultipliers"))
  xc_InvalidMultipliers : ExC K mg "InvalidMultipliers"
  cl_InvalidNames : mg "InvalidNames" = some (.ref (adr mg "InvalidNames"))
  xc_InvalidNames : ExC K mg "InvalidNames"
  cl_InvalidNumber : mg "InvalidNumber" = some (.ref (adr mg "InvalidNumber"))
  xc_InvalidNumber : ExC K mg "InvalidNumber"
  cl_InvalidNumbers : mg "InvalidNumbers" = some (.ref (adr mg "InvalidNumbers"))
  xc_InvalidNumbers : ExC K mg "InvalidNumbers"
  cl_InvalidOption : mg "InvalidOption" = some (.ref (adr mg "InvalidOption"))
  xc_InvalidOption : ExC K mg "InvalidOption"
  cl_InvalidOptions : mg "InvalidOptions" = some (.ref (adr mg "InvalidOptions"))
  xc_InvalidOptions : ExC K mg "InvalidOptions"
  cl_InvalidOtherForm : mg "InvalidOtherForm" = some (.ref (adr mg "InvalidOtherForm"))
  xc_InvalidOtherForm : ExC K mg "InvalidOtherForm"
  cl_InvalidOtherGraph : mg "InvalidOtherGraph" = some (.ref (adr mg "InvalidOtherGraph"))
  xc_InvalidOtherGraph : ExC K mg "InvalidOtherGraph"
  cl_InvalidOtherLot : mg "InvalidOtherLot" = some (.ref (adr mg "InvalidOtherLot"))
  xc_InvalidOtherLot : ExC K mg "InvalidOtherLot"
  cl_InvalidOtherProgram : mg "InvalidOtherProgram" = some (.ref (adr mg "InvalidOtherProgram"))
  xc_InvalidOtherProgram : ExC K mg "InvalidOtherProgram"
  cl_InvalidOtherText : mg "InvalidOtherText" = some (.ref (adr mg "InvalidOtherText"))
  xc_InvalidOtherText : ExC K mg "InvalidOtherText"
  cl_InvalidPairs : mg "InvalidPairs" = some (.ref (adr mg "InvalidPairs"))
  xc_InvalidPairs : ExC K mg "InvalidPairs"
  cl_InvalidPaper : mg "InvalidPaper" = some (.ref (adr mg "InvalidPaper"))
  xc_InvalidPaper : ExC K mg "InvalidPaper"
  cl_InvalidPlace : mg "InvalidPlace" = some (.ref (adr mg "InvalidPlace"))
  xc_InvalidPlace : ExC K mg "InvalidPlace"
  cl_InvalidPoint : mg "InvalidPoint" = some (.ref (adr mg "InvalidPoint"))
  xc_InvalidPoint : ExC K mg "InvalidPoint"
  cl_InvalidProgram : mg "InvalidProgram" = some (.ref (adr mg "InvalidProgram"))
  xc_InvalidProgram : ExC K mg "InvalidProgram"
  cl_InvalidRoad : mg "InvalidRoad" = some (.ref (adr mg "InvalidRoad"))
  xc_InvalidRoad : ExC K mg "InvalidRoad"
  cl_InvalidRound : mg "InvalidRound" = some (.ref (adr mg "InvalidRound"))
  xc_InvalidRound : ExC K mg "InvalidRound"
  cl_InvalidRow : mg "InvalidRow" = some (.ref (adr mg "InvalidRow"))
  xc_InvalidRow : ExC K mg "InvalidRow"
  cl_InvalidRows : mg "InvalidRows" = some (.ref (adr mg "InvalidRows"))
  xc_InvalidRows : ExC K mg "InvalidRows"
  cl_InvalidSets : mg "InvalidSets" = some (.ref (adr mg "InvalidSets"))
  xc_InvalidSets : ExC K mg "InvalidSets"
  cl_InvalidStanding : mg "InvalidStanding" = some (.ref (adr mg "InvalidStanding"))
  xc_InvalidStanding : ExC K mg "InvalidStanding"
  cl_InvalidSteps : mg "InvalidSteps" = some (.ref (adr mg "InvalidSteps"))
  xc_InvalidSteps : ExC K mg "InvalidSteps"
  cl_InvalidTest : mg "InvalidTest" = some (.ref (adr mg "InvalidTest"))
  xc_InvalidTest : ExC K mg "InvalidTest"
  cl_InvalidText : mg "InvalidText" = some (.ref (adr mg "InvalidText"))
  xc_InvalidText : ExC K mg "InvalidText"
  cl_InvalidThing : mg "InvalidThing" = some (.ref (adr mg "InvalidThing"))
  xc_InvalidThing : ExC K mg "InvalidThing"
  cl_InvalidTree : mg "InvalidTree" = some (.ref (adr mg "InvalidTree"))
  xc_InvalidTree : ExC K mg "InvalidTree"
  cl_InvalidTurn : mg "InvalidTurn" = some (.ref (adr mg "InvalidTurn"))
  xc_InvalidTurn : ExC K mg "InvalidTurn"
  cl_InvalidWidth : mg "InvalidWidth" = some (.ref (adr mg "InvalidWidth"))
  xc_InvalidWidth : ExC K mg "InvalidWidth"
  cl_InvalidWord : mg "InvalidWord" = some (.ref (adr mg "InvalidWord"))
  xc_InvalidWord : ExC K mg "InvalidWord"
  cl_NotBound : mg "NotBound" = some (.ref (adr mg "NotBound"))
  xc_NotBound : ExC K mg "NotBound"
  cl_NotTaken : mg "NotTaken" = some (.ref (adr mg "NotTaken"))
  xc_NotTaken : ExC K mg "NotTaken"
  cl_NothingToRedo : mg "NothingToRedo" = some (.ref (adr mg "NothingToRedo"))
  xb_NothingToRedo : ExB K mg "NothingToRedo"
  cl_NothingToUndo : mg "NothingToUndo" = some (.ref (adr mg "NothingToUndo"))
  xb_NothingToUndo : ExB K mg "NothingToUndo"
  cl_TooMany : mg "TooMany" = some (.ref (adr mg "TooMany"))
  xc_TooMany : ExC K mg "TooMany"
  cl_Unread : mg "Unread" = some (.ref (adr mg "Unread"))
  xc_Unread : ExC K mg "Unread"
section
variable {P : Program} {w : World} {K : PySem.W.Frag} {mg : Str → Option Value} {base : Heap}
theorem c_law_mixed (Y : Facts K mg) : Cal P w K mg base "_law_mixed" s_law_mixed ps_law_mixed 1 m_law_mixed := by
  obtain ⟨f, fd, hf, F⟩ := Y.f_law_mixed
  refine ⟨f, fd, hf, F, fn_ok F sc_law_mixed fun cdv A outer s H E hr => ?_⟩
  have hu := hr.units65
  have hv := Nat.lt_of_succ_lt hu
  exact ⟨_, (ess_cons (es_set (i := 3) sc_law_mixed.nd (ee_add (ee_op op_mulW o_mul.op (ee_var (i := 0)) ee_int) (ee_op op_mulW o_mul.op (ee_op op_mulW o_mul.op ee_int (ee_var (i := 1))) (ee_var (i := 1))))) (ess_cons (es_set (i := 3) sc_law_mixed.nd (ee_op op_modAny o_mod.op (ee_typ call_int1 n_int.op Y.n_int (ea_cons (ee_add (ee_add (ee_var (i := 3)) (ee_op op_mulW o_mul.op ee_int (ee_var (i := 2)))) (ee_var (i := 1))) ea_nil)) ee_int)) (ess_cons (es_set (i := 3) sc_law_mixed.nd (ee_op op_modAny o_mod.op (ee_typ call_int1 n_int.op Y.n_int (ea_cons (ee_add (ee_op op_mulW o_mul.op (ee_var (i := 3)) (ee_var (i := 3))) ee_int) ea_nil)) ee_int)) (ess_one (es_ret (ee_op op_modAny o_mod.op (ee_typ call_int1 n_int.op Y.n_int (ea_cons (ee_op op_mulW o_mul.op (ee_var (i := 3)) ee_int) ea_nil)) ee_int))))))⟩
theorem c_law_draw (Y : Facts K mg) : Cal P w K mg base "_law_draw" s_law_draw ps_law_draw 2 m_law_draw := by
  have c_law_mixed := c_law_mixed (P := P) (w := w) (base := base) Y
  obtain ⟨f, fd, hf, F⟩ := Y.f_law_draw
  refine ⟨f, fd, hf, F, fn_ok F sc_law_draw fun cdv A outer s H E hr => ?_⟩
  have hu := hr.units65
  have hv := Nat.lt_of_succ_lt hu
  exact ⟨_, (ess_cons (es_if (et_cmp op_gtAny o_gt.op (ee_ix2 hu (ee_var (i := 0)) ee_int) ee_int) (ess_cons (es_set (i := 2) sc_law_draw.nd (ee_op op_modAny o_mod.op (ee_typ call_int1 n_int.op Y.n_int (ea_cons (ee_ix2 hu (ee_var (i := 0)) ee_int) ea_nil)) (ee_var (i := 1)))) (ess_cons (es_ix (ee_op op_fdivAny o_fdiv.op (ee_ix2 hu (ee_var (i := 0)) ee_int) (ee_var (i := 1))) (ee_var (i := 0)) ee_int) (ess_one (es_ret (ee_var (i := 2)))))) ess_nil) (ess_cons (es_set (i := 3) sc_law_draw.nd ee_int) (ess_cons (es_for rfl passes_cx (ei_rg1 Y.n_range (ea_cons (ee_add ee_int (ee_op op_fdivAny o_fdiv.op (ee_bits (ee_var (i := 1))) ee_int)) ea_nil)) (eg_name (i := 4) sc_law_draw.nd) (ess_cons (es_ix (ee_add (ee_ix2 hu (ee_var (i := 0)) ee_int) ee_int) (ee_var (i := 0)) ee_int) (ess_one (es_set (i := 3) sc_law_draw.nd (ee_add (ee_op op_mulW o_mul.op (ee_var (i := 3)) ee_int) (ee_cal c_law_mixed bd_law_mixed (hr.mono (by omega)) takes_cx (ea_cons (ee_ix2 hu (ee_var (i := 0)) ee_int) (ea_cons (ee_ix2 hu (ee_var (i := 0)) ee_int) (ea_cons (ee_ix2 hu (ee_var (i := 0)) ee_int) ea_nil))))))))) (ess_one (es_ret (ee_op op_modAny o_mod.op (ee_typ call_int1 n_int.op Y.n_int (ea_cons (ee_var (i := 3)) ea_nil)) (ee_var (i := 1))))))))⟩
theorem c_law_one_of (Y : Facts K mg) : Cal P w K mg base "_law_one_of" s_law_one_of ps_law_one_of 3 m_law_one_of := by
  have c_law_draw := c_law_draw (P := P) (w := w) (base := base) Y
  obtain ⟨f, fd, hf, F⟩ := Y.f_law_one_of
  refine ⟨f, fd, hf, F, fn_ok F sc_law_one_of fun cdv A outer s H E hr => ?_⟩
  have hu := hr.units65
  have hv := Nat.lt_of_succ_lt hu
  exact ⟨_, (ess_one (es_ret (ee_ix2 hu (ee_var (i := 1)) (ee_cal c_law_draw bd_law_draw (hr.mono (by omega)) takes_cx (ea_cons (ee_var (i := 0)) (ea_cons (ee_fun cr_len n_len.op Y.n_len (ea_cons (ee_var (i := 1)) ea_nil)) ea_nil))))))⟩
theorem c_law_purse (Y : Facts K mg) : Cal P w K mg base "_law_purse" s_law_purse ps_law_purse 1 m_law_purse := by
  obtain ⟨f, fd, hf, F⟩ := Y.f_law_purse
  refine ⟨f, fd, hf, F, fn_ok F sc_law_purse fun cdv A outer s H E hr => ?_⟩
  have hu := hr.units65
  have hv := Nat.lt_of_succ_lt hu
  exact ⟨_, (ess_cons (es_set (i := 2) sc_law_purse.nd (ee_fun (cr_sum rfl) n_sum.op Y.n_sum (ea_cons (ee_sl (ee_var (i := 0)) (eo_at (ee_var (i := 1))) (eo_at (ee_add (ee_var (i := 1)) ee_int))) ea_nil))) (ess_one (es_ret (ee_lst (ea_cons (ee_op op_modAny o_mod.op (ee_typ call_int1 n_int.op Y.n_int (ea_cons (ee_fun (call_max2 rfl) n_max2.op Y.n_max (ea_cons (ee_op op_sub o_sub.op (ee_var (i := 2)) (ee_op op_powW o_pow.op ee_int ee_int)) (ea_cons ee_int ea_nil))) ea_nil)) (ee_op op_powW o_pow.op (ee_op op_powW o_pow.op ee_int ee_int) ee_int)) (ea_cons (ee_op op_modAny o_mod.op (ee_typ call_int1 n_int.op Y.n_int (ea_cons (ee_var (i := 2)) ea_nil)) ee_int) (ea_cons ee_int (ea_cons (ee_var (i := 1)) ea_nil))))))))⟩
theorem c_law_purses (Y : Facts K mg) : Cal P w K mg base "_law_purses" s_law_purses ps_law_purses 2 m_law_purses := by
  have c_law_purse := c_law_purse (P := P) (w := w) (base := base) Y
  obtain ⟨f, fd, hf, F⟩ := Y.f_law_purses
  refine ⟨f, fd, hf, F, fn_ok F sc_law_purses fun cdv A outer s H E hr => ?_⟩
  have hu := hr.units65
  have hv := Nat.lt_of_succ_lt hu
  exact ⟨_, (ess_one (es_ret (ee_comp (own := [("at", 2)]) rfl sc_law_purses.nd (ei_rg1 Y.n_range (ea_cons (ee_fun (call_max2 rfl) n_max2.op Y.n_max (ea_cons ee_int (ea_cons (ee_fun (call_min2 rfl) n_min2.op Y.n_min (ea_cons (ee_var (i := 1)) (ea_cons (ee_fun cr_len n_len.op Y.n_len (ea_cons (ee_var (i := 0)) ea_nil)) ea_nil))) ea_nil))) ea_nil)) (blkOk_by (own := [("at", 2)]) (N := N_law_purses) (sc := defScope s_law_purses) (by decide +kernel)) (fun _ _ _ _ _ => (eg_name (i := 2) sc_law_purses.nd)) (fun _ _ _ _ _ => ets_nil) (fun _ _ _ _ _ => (ee_cal c_law_purse bd_law_purse (hr.mono (by omega)) takes_none (ea_cons (ee_var (i := 0)) (ea_cons (ee_var (i := 2)) ea_nil)))))))⟩
theorem c_law_first (Y : Facts K mg) : Cal P w K mg base "_law_first" s_law_first ps_law_first 3 m_law_first := by
  obtain ⟨f, fd, hf, F⟩ := Y.f_law_first
  refine ⟨f, fd, hf, F, fn_ok F sc_law_first fun cdv A outer s H E hr => ?_⟩
  have hu := hr.units65
  have hv := Nat.lt_of_succ_lt hu
  exact ⟨_, (ess_cons (es_set (i := 1) sc_law_first.nd (ee_lst (ea_cons (ee_exP (k := 0) Y.xc_InvalidGraph (hr.mono (by omega)) (ee_var (i := 0))) (ea_cons (ee_exP (k := 0) Y.xc_InvalidOtherGraph (hr.mono (by omega)) (ee_var (i := 0))) (ea_cons (ee_exP (k := 0) Y.xc_InvalidGraphSteps (hr.mono (by omega)) (ee_var (i := 0))) (ea_cons (ee_exP (k := 0) Y.xc_InvalidKind (hr.mono (by omega)) (ee_var (i := 0))) ea_nil)))))) (ess_cons (es_set (i := 1) sc_law_first.nd (ee_add (ee_var (i := 1)) (ee_lst (ea_cons (ee_exP (k := 0) Y.xc_InvalidForm (hr.mono (by omega)) (ee_var (i := 0))) (ea_cons (ee_exP (k := 0) Y.xc_InvalidOtherForm (hr.mono (by omega)) (ee_var (i := 0))) (ea_cons (ee_exP (k := 0) Y.xc_InvalidMultipliers (hr.mono (by omega)) (ee_var (i := 0))) (ea_cons (ee_exP (k := 0) Y.xc_InvalidNames (hr.mono (by omega)) (ee_var (i := 0))) ea_nil))))))) (ess_cons (es_set (i := 1) sc_law_first.nd (ee_add (ee_var (i := 1)) (ee_lst (ea_cons (ee_exP (k := 0) Y.xc_InvalidMost (hr.mono (by omega)) (ee_var (i := 0))) (ea_cons (ee_exP (k := 0) Y.xc_InvalidCount (hr.mono (by omega)) (ee_var (i := 0))) (ea_cons (ee_exP (k := 0) Y.xc_InvalidLots (hr.mono (by omega)) (ee_var (i := 0))) (ea_cons (ee_exP (k := 0) Y.xc_InvalidAdders (hr.mono (by omega)) (ee_var (i := 0))) ea_nil))))))) (ess_cons (es_set (i := 1) sc_law_first.nd (ee_add (ee_var (i := 1)) (ee_lst (ea_cons (ee_exP (k := 0) Y.xc_InvalidForms (hr.mono (by omega)) (ee_var (i := 0))) (ea_cons (ee_exP (k := 0) Y.xc_InvalidBy (hr.mono (by omega)) (ee_var (i := 0))) (ea_cons (ee_exP (k := 0) Y.xc_InvalidMany (hr.mono (by omega)) (ee_var (i := 0))) (ea_cons (ee_exP (k := 0) Y.xc_InvalidMeasure (hr.mono (by omega)) (ee_var (i := 0))) ea_nil))))))) (ess_cons (es_set (i := 1) sc_law_first.nd (ee_add (ee_var (i := 1)) (ee_lst (ea_cons (ee_exP (k := 0) Y.xc_InvalidBound (hr.mono (by omega)) (ee_var (i := 0))) (ea_cons (ee_exP (k := 0) Y.xc_InvalidLow (hr.mono (by omega)) (ee_var (i := 0))) (ea_cons (ee_exP (k := 0) Y.xc_InvalidHigh (hr.mono (by omega)) (ee_var (i := 0))) (ea_cons (ee_exP (k := 0) Y.xc_InvalidAt (hr.mono (by omega)) (ee_var (i := 0))) (ea_cons (ee_exP (k := 0) Y.xc_InvalidLot (hr.mono (by omega)) (ee_var (i := 0))) ea_nil)))))))) (ess_cons (es_set (i := 1) sc_law_first.nd (ee_add (ee_var (i := 1)) (ee_lst (ea_cons (ee_exP (k := 0) Y.xc_InvalidOtherLot (hr.mono (by omega)) (ee_var (i := 0))) (ea_cons (ee_exP (k := 0) Y.xc_InvalidKept (hr.mono (by omega)) (ee_var (i := 0))) (ea_cons (ee_exP (k := 0) Y.xc_InvalidProgram (hr.mono (by omega)) (ee_var (i := 0))) (ea_cons (ee_exP (k := 0) Y.xc_Unread (hr.mono (by omega)) (ee_var (i := 0))) ea_nil))))))) (ess_cons (es_set (i := 1) sc_law_first.nd (ee_add (ee_var (i := 1)) (ee_lst (ea_cons (ee_exP (k := 0) Y.xc_InvalidAnswer (hr.mono (by omega)) (ee_var (i := 0))) (ea_cons (ee_exP (k := 0) Y.xc_InvalidInputs (hr.mono (by omega)) (ee_var (i := 0))) (ea_cons (ee_exP (k := 0) Y.xc_InvalidMove (hr.mono (by omega)) (ee_var (i := 0))) (ea_cons (ee_exP (k := 0) Y.xc_InvalidMoves (hr.mono (by omega)) (ee_var (i := 0))) ea_nil))))))) (ess_cons (es_set (i := 1) sc_law_first.nd (ee_add (ee_var (i := 1)) (ee_lst (ea_cons (ee_exP (k := 0) Y.xc_InvalidRoad (hr.mono (by omega)) (ee_var (i := 0))) (ea_cons (ee_exP (k := 0) Y.xc_InvalidOptions (hr.mono (by omega)) (ee_var (i := 0))) (ea_cons (ee_exP (k := 0) Y.xc_InvalidAct (hr.mono (by omega)) (ee_var (i := 0))) (ea_cons (ee_exP (k := 0) Y.xc_InvalidActs (hr.mono (by omega)) (ee_var (i := 0))) ea_nil))))))) (ess_cons (es_set (i := 1) sc_law_first.nd (ee_add (ee_var (i := 1)) (ee_lst (ea_cons (ee_exP (k := 0) Y.xc_InvalidHouse (hr.mono (by omega)) (ee_var (i := 0))) (ea_cons (ee_exP (k := 0) Y.xc_InvalidOtherProgram (hr.mono (by omega)) (ee_var (i := 0))) (ea_cons (ee_exP (k := 0) Y.xc_InvalidWord (hr.mono (by omega)) (ee_var (i := 0))) (ea_cons (ee_exP (k := 0) Y.xc_TooMany (hr.mono (by omega)) (ee_var (i := 0))) ea_nil))))))) (ess_cons (es_set (i := 1) sc_law_first.nd (ee_add (ee_var (i := 1)) (ee_lst (ea_cons (ee_exP (k := 0) Y.xc_InvalidPoint (hr.mono (by omega)) (ee_var (i := 0))) (ea_cons (ee_exP (k := 0) Y.xc_InvalidNumber (hr.mono (by omega)) (ee_var (i := 0))) (ea_cons (ee_exP (k := 0) Y.xc_InvalidPairs (hr.mono (by omega)) (ee_var (i := 0))) (ea_cons (ee_exP (k := 0) Y.xc_InvalidNumbers (hr.mono (by omega)) (ee_var (i := 0))) ea_nil))))))) (ess_cons (es_set (i := 1) sc_law_first.nd (ee_add (ee_var (i := 1)) (ee_lst (ea_cons (ee_exP (k := 0) Y.xc_InvalidSets (hr.mono (by omega)) (ee_var (i := 0))) (ea_cons (ee_exP (k := 0) Y.xc_InvalidRow (hr.mono (by omega)) (ee_var (i := 0))) (ea_cons (ee_exP (k := 0) Y.xc_InvalidRows (hr.mono (by omega)) (ee_var (i := 0))) (ea_cons (ee_exP (k := 0) Y.xc_InvalidTurn (hr.mono (by omega)) (ee_var (i := 0))) (ea_cons (ee_exP (k := 0) Y.xc_InvalidRound (hr.mono (by omega)) (ee_var (i := 0))) ea_nil)))))))) (ess_cons (es_set (i := 1) sc_law_first.nd (ee_add (ee_var (i := 1)) (ee_lst (ea_cons (ee_exP (k := 0) Y.xc_InvalidPaper (hr.mono (by omega)) (ee_var (i := 0))) (ea_cons (ee_exP (k := 0) Y.xc_InvalidStanding (hr.mono (by omega)) (ee_var (i := 0))) (ea_cons (ee_exP (k := 0) Y.xc_InvalidOption (hr.mono (by omega)) (ee_var (i := 0))) (ea_cons (ee_exP (k := 0) Y.xc_InvalidSteps (hr.mono (by omega)) (ee_var (i := 0))) ea_nil))))))) (ess_cons (es_set (i := 1) sc_law_first.nd (ee_add (ee_var (i := 1)) (ee_lst (ea_cons (ee_exP (k := 0) Y.xc_InvalidWidth (hr.mono (by omega)) (ee_var (i := 0))) (ea_cons (ee_exP (k := 0) Y.xc_InvalidPlace (hr.mono (by omega)) (ee_var (i := 0))) (ea_cons (ee_exP (k := 0) Y.xc_InvalidTest (hr.mono (by omega)) (ee_var (i := 0))) (ea_cons (ee_exP (k := 0) Y.xc_InvalidTree (hr.mono (by omega)) (ee_var (i := 0))) (ea_cons (ee_exP (k := 0) Y.xc_InvalidText (hr.mono (by omega)) (ee_var (i := 0))) ea_nil)))))))) (ess_cons (es_set (i := 1) sc_law_first.nd (ee_add (ee_var (i := 1)) (ee_lst (ea_cons (ee_exP (k := 0) Y.xc_NotBound (hr.mono (by omega)) (ee_var (i := 0))) (ea_cons (ee_exP (k := 0) Y.xc_InvalidOtherText (hr.mono (by omega)) (ee_var (i := 0))) (ea_cons (ee_exP (k := 0) Y.xc_InvalidThing (hr.mono (by omega)) (ee_var (i := 0))) (ea_cons (ee_exP (k := 0) Y.xc_NotTaken (hr.mono (by omega)) (ee_var (i := 0))) ea_nil))))))) (ess_one (es_ret (ee_var (i := 1))))))))))))))))))⟩
theorem c_law_called (Y : Facts K mg) : Cal P w K mg base "_law_called" s_law_called ps_law_called 3 m_law_called := by
  obtain ⟨f, fd, hf, F⟩ := Y.f_law_called
  refine ⟨f, fd, hf, F, fn_ok F sc_law_called fun cdv A outer s H E hr => ?_⟩
  have hu := hr.units65
  have hv := Nat.lt_of_succ_lt hu
  exact ⟨_, (ess_cons (es_set (i := 1) sc_law_called.nd (ee_lst (ea_cons (ee_exK (k := 0) Y.xc_InvalidGraph (hr.mono (by omega)) (ee_var (i := 0))) (ea_cons (ee_exK (k := 0) Y.xc_InvalidOtherGraph (hr.mono (by omega)) (ee_var (i := 0))) (ea_cons (ee_exK (k := 0) Y.xc_InvalidGraphSteps (hr.mono (by omega)) (ee_var (i := 0))) ea_nil))))) (ess_cons (es_set (i := 1) sc_law_called.nd (ee_add (ee_var (i := 1)) (ee_lst (ea_cons (ee_exK (k := 0) Y.xc_InvalidKind (hr.mono (by omega)) (ee_var (i := 0))) (ea_cons (ee_exK (k := 0) Y.xc_InvalidForm (hr.mono (by omega)) (ee_var (i := 0))) (ea_cons (ee_exK (k := 0) Y.xc_InvalidOtherForm (hr.mono (by omega)) (ee_var (i := 0))) ea_nil)))))) (ess_cons (es_set (i := 1) sc_law_called.nd (ee_add (ee_var (i := 1)) (ee_lst (ea_cons (ee_exK (k := 0) Y.xc_InvalidMultipliers (hr.mono (by omega)) (ee_var (i := 0))) (ea_cons (ee_exK (k := 0) Y.xc_InvalidNames (hr.mono (by omega)) (ee_var (i := 0))) (ea_cons (ee_exK (k := 0) Y.xc_InvalidMost (hr.mono (by omega)) (ee_var (i := 0))) ea_nil)))))) (ess_cons (es_set (i := 1) sc_law_called.nd (ee_add (ee_var (i := 1)) (ee_lst (ea_cons (ee_exK (k := 0) Y.xc_InvalidCount (hr.mono (by omega)) (ee_var (i := 0))) (ea_cons (ee_exK (k := 0) Y.xc_InvalidLots (hr.mono (by omega)) (ee_var (i := 0))) (ea_cons (ee_exK (k := 0) Y.xc_InvalidAdders (hr.mono (by omega)) (ee_var (i := 0))) ea_nil)))))) (ess_cons (es_set (i := 1) sc_law_called.nd (ee_add (ee_var (i := 1)) (ee_lst (ea_cons (ee_exK (k := 0) Y.xc_InvalidForms (hr.mono (by omega)) (ee_var (i := 0))) (ea_cons (ee_exK (k := 0) Y.xc_InvalidBy (hr.mono (by omega)) (ee_var (i := 0))) (ea_cons (ee_exK (k := 0) Y.xc_InvalidMany (hr.mono (by omega)) (ee_var (i := 0))) ea_nil)))))) (ess_cons (es_set (i := 1) sc_law_called.nd (ee_add (ee_var (i := 1)) (ee_lst (ea_cons (ee_exK (k := 0) Y.xc_InvalidMeasure (hr.mono (by omega)) (ee_var (i := 0))) (ea_cons (ee_exK (k := 0) Y.xc_InvalidBound (hr.mono (by omega)) (ee_var (i := 0))) (ea_cons (ee_exK (k := 0) Y.xc_InvalidLow (hr.mono (by omega)) (ee_var (i := 0))) ea_nil)))))) (ess_cons (es_set (i := 1) sc_law_called.nd (ee_add (ee_var (i := 1)) (ee_lst (ea_cons (ee_exK (k := 0) Y.xc_InvalidHigh (hr.mono (by omega)) (ee_var (i := 0))) (ea_cons (ee_exK (k := 0) Y.xc_InvalidAt (hr.mono (by omega)) (ee_var (i := 0))) (ea_cons (ee_exK (k := 0) Y.xc_InvalidLot (hr.mono (by omega)) (ee_var (i := 0))) ea_nil)))))) (ess_cons (es_set (i := 1) sc_law_called.nd (ee_add (ee_var (i := 1)) (ee_lst (ea_cons (ee_exK (k := 0) Y.xc_InvalidOtherLot (hr.mono (by omega)) (ee_var (i := 0))) (ea_cons (ee_exK (k := 0) Y.xc_InvalidKept (hr.mono (by omega)) (ee_var (i := 0))) (ea_cons (ee_exK (k := 0) Y.xc_InvalidProgram (hr.mono (by omega)) (ee_var (i := 0))) ea_nil)))))) (ess_cons (es_set (i := 1) sc_law_called.nd (ee_add (ee_var (i := 1)) (ee_lst (ea_cons (ee_exK (k := 0) Y.xc_Unread (hr.mono (by omega)) (ee_var (i := 0))) (ea_cons (ee_exK (k := 0) Y.xc_InvalidAnswer (hr.mono (by omega)) (ee_var (i := 0))) (ea_cons (ee_exK (k := 0) Y.xc_InvalidInputs (hr.mono (by omega)) (ee_var (i := 0))) ea_nil)))))) (ess_cons (es_set (i := 1) sc_law_called.nd (ee_add (ee_var (i := 1)) (ee_lst (ea_cons (ee_exK (k := 0) Y.xc_InvalidMove (hr.mono (by omega)) (ee_var (i := 0))) (ea_cons (ee_exK (k := 0) Y.xc_InvalidMoves (hr.mono (by omega)) (ee_var (i := 0))) (ea_cons (ee_exK (k := 0) Y.xc_InvalidRoad (hr.mono (by omega)) (ee_var (i := 0))) ea_nil)))))) (ess_cons (es_set (i := 1) sc_law_called.nd (ee_add (ee_var (i := 1)) (ee_lst (ea_cons (ee_exK (k := 0) Y.xc_InvalidOptions (hr.mono (by omega)) (ee_var (i := 0))) (ea_cons (ee_exK (k := 0) Y.xc_InvalidAct (hr.mono (by omega)) (ee_var (i := 0))) (ea_cons (ee_exK (k := 0) Y.xc_InvalidActs (hr.mono (by omega)) (ee_var (i := 0))) ea_nil)))))) (ess_cons (es_set (i := 1) sc_law_called.nd (ee_add (ee_var (i := 1)) (ee_lst (ea_cons (ee_exK (k := 0) Y.xc_InvalidHouse (hr.mono (by omega)) (ee_var (i := 0))) (ea_cons (ee_exK (k := 0) Y.xc_InvalidOtherProgram (hr.mono (by omega)) (ee_var (i := 0))) (ea_cons (ee_exK (k := 0) Y.xc_InvalidWord (hr.mono (by omega)) (ee_var (i := 0))) ea_nil)))))) (ess_cons (es_set (i := 1) sc_law_called.nd (ee_add (ee_var (i := 1)) (ee_lst (ea_cons (ee_exK (k := 0) Y.xc_TooMany (hr.mono (by omega)) (ee_var (i := 0))) (ea_cons (ee_exK (k := 0) Y.xc_InvalidPoint (hr.mono (by omega)) (ee_var (i := 0))) (ea_cons (ee_exK (k := 0) Y.xc_InvalidNumber (hr.mono (by omega)) (ee_var (i := 0))) ea_nil)))))) (ess_cons (es_set (i := 1) sc_law_called.nd (ee_add (ee_var (i := 1)) (ee_lst (ea_cons (ee_exK (k := 0) Y.xc_InvalidPairs (hr.mono (by omega)) (ee_var (i := 0))) (ea_cons (ee_exK (k := 0) Y.xc_InvalidNumbers (hr.mono (by omega)) (ee_var (i := 0))) (ea_cons (ee_exK (k := 0) Y.xc_InvalidSets (hr.mono (by omega)) (ee_var (i := 0))) ea_nil)))))) (ess_cons (es_set (i := 1) sc_law_called.nd (ee_add (ee_var (i := 1)) (ee_lst (ea_cons (ee_exK (k := 0) Y.xc_InvalidRow (hr.mono (by omega)) (ee_var (i := 0))) (ea_cons (ee_exK (k := 0) Y.xc_InvalidRows (hr.mono (by omega)) (ee_var (i := 0))) (ea_cons (ee_exK (k := 0) Y.xc_InvalidTurn (hr.mono (by omega)) (ee_var (i := 0))) ea_nil)))))) (ess_cons (es_set (i := 1) sc_law_called.nd (ee_add (ee_var (i := 1)) (ee_lst (ea_cons (ee_exK (k := 0) Y.xc_InvalidRound (hr.mono (by omega)) (ee_var (i := 0))) (ea_cons (ee_exK (k := 0) Y.xc_InvalidPaper (hr.mono (by omega)) (ee_var (i := 0))) (ea_cons (ee_exK (k := 0) Y.xc_InvalidStanding (hr.mono (by omega)) (ee_var (i := 0))) ea_nil)))))) (ess_cons (es_set (i := 1) sc_law_called.nd (ee_add (ee_var (i := 1)) (ee_lst (ea_cons (ee_exK (k := 0) Y.xc_InvalidOption (hr.mono (by omega)) (ee_var (i := 0))) (ea_cons (ee_exK (k := 0) Y.xc_InvalidSteps (hr.mono (by omega)) (ee_var (i := 0))) (ea_cons (ee_exK (k := 0) Y.xc_InvalidWidth (hr.mono (by omega)) (ee_var (i := 0))) ea_nil)))))) (ess_cons (es_set (i := 1) sc_law_called.nd (ee_add (ee_var (i := 1)) (ee_lst (ea_cons (ee_exK (k := 0) Y.xc_InvalidPlace (hr.mono (by omega)) (ee_var (i := 0))) (ea_cons (ee_exK (k := 0) Y.xc_InvalidTest (hr.mono (by omega)) (ee_var (i := 0))) (ea_cons (ee_exK (k := 0) Y.xc_InvalidTree (hr.mono (by omega)) (ee_var (i := 0))) ea_nil)))))) (ess_cons (es_set (i := 1) sc_law_called.nd (ee_add (ee_var (i := 1)) (ee_lst (ea_cons (ee_exK (k := 0) Y.xc_InvalidText (hr.mono (by omega)) (ee_var (i := 0))) (ea_cons (ee_exK (k := 0) Y.xc_NotBound (hr.mono (by omega)) (ee_var (i := 0))) (ea_cons (ee_exK (k := 0) Y.xc_InvalidOtherText (hr.mono (by omega)) (ee_var (i := 0))) ea_nil)))))) (ess_cons (es_set (i := 1) sc_law_called.nd (ee_add (ee_var (i := 1)) (ee_lst (ea_cons (ee_exK (k := 0) Y.xc_InvalidThing (hr.mono (by omega)) (ee_var (i := 0))) (ea_cons (ee_exK (k := 0) Y.xc_NotTaken (hr.mono (by omega)) (ee_var (i := 0))) ea_nil))))) (ess_one (es_ret (ee_var (i := 1))))))))))))))))))))))))⟩
theorem c_law_bare (Y : Facts K mg) : Cal P w K mg base "_law_bare" s_law_bare ps_law_bare 3 m_law_bare := by
  obtain ⟨f, fd, hf, F⟩ := Y.f_law_bare
  refine ⟨f, fd, hf, F, fn_ok F sc_law_bare fun cdv A outer s H E hr => ?_⟩
  have hu := hr.units65
  have hv := Nat.lt_of_succ_lt hu
  exact ⟨_, (ess_cons (es_set (i := 0) sc_law_bare.nd (ee_lst (ea_cons (ee_ex0 (k := 0) Y.xc_InvalidGraph (hr.mono (by omega))) (ea_cons (ee_ex0 (k := 0) Y.xc_InvalidOtherGraph (hr.mono (by omega))) (ea_cons (ee_ex0 (k := 0) Y.xc_InvalidGraphSteps (hr.mono (by omega))) (ea_cons (ee_ex0 (k := 0) Y.xc_InvalidKind (hr.mono (by omega))) (ea_cons (ee_ex0 (k := 0) Y.xc_InvalidForm (hr.mono (by omega))) (ea_cons (ee_ex0 (k := 0) Y.xc_InvalidOtherForm (hr.mono (by omega))) ea_nil)))))))) (ess_cons (es_set (i := 0) sc_law_bare.nd (ee_add (ee_var (i := 0)) (ee_lst (ea_cons (ee_ex0 (k := 0) Y.xc_InvalidMultipliers (hr.mono (by omega))) (ea_cons (ee_ex0 (k := 0) Y.xc_InvalidNames (hr.mono (by omega))) (ea_cons (ee_ex0 (k := 0) Y.xc_InvalidMost (hr.mono (by omega))) (ea_cons (ee_ex0 (k := 0) Y.xc_InvalidCount (hr.mono (by omega))) (ea_cons (ee_ex0 (k := 0) Y.xc_InvalidLots (hr.mono (by omega))) (ea_cons (ee_ex0 (k := 0) Y.xc_InvalidAdders (hr.mono (by omega))) ea_nil))))))))) (ess_cons (es_set (i := 0) sc_law_bare.nd (ee_add (ee_var (i := 0)) (ee_lst (ea_cons (ee_ex0 (k := 0) Y.xc_InvalidForms (hr.mono (by omega))) (ea_cons (ee_ex0 (k := 0) Y.xc_InvalidBy (hr.mono (by omega))) (ea_cons (ee_ex0 (k := 0) Y.xc_InvalidMany (hr.mono (by omega))) (ea_cons (ee_ex0 (k := 0) Y.xc_InvalidMeasure (hr.mono (by omega))) (ea_cons (ee_ex0 (k := 0) Y.xc_InvalidBound (hr.mono (by omega))) (ea_cons (ee_ex0 (k := 0) Y.xc_InvalidLow (hr.mono (by omega))) ea_nil))))))))) (ess_cons (es_set (i := 0) sc_law_bare.nd (ee_add (ee_var (i := 0)) (ee_lst (ea_cons (ee_ex0 (k := 0) Y.xc_InvalidHigh (hr.mono (by omega))) (ea_cons (ee_ex0 (k := 0) Y.xc_InvalidAt (hr.mono (by omega))) (ea_cons (ee_ex0 (k := 0) Y.xc_InvalidLot (hr.mono (by omega))) (ea_cons (ee_ex0 (k := 0) Y.xc_InvalidOtherLot (hr.mono (by omega))) (ea_cons (ee_ex0 (k := 0) Y.xc_InvalidKept (hr.mono (by omega))) (ea_cons (ee_ex0 (k := 0) Y.xc_InvalidProgram (hr.mono (by omega))) ea_nil))))))))) (ess_cons (es_set (i := 0) sc_law_bare.nd (ee_add (ee_var (i := 0)) (ee_lst (ea_cons (ee_ex0 (k := 0) Y.xc_Unread (hr.mono (by omega))) (ea_cons (ee_ex0 (k := 0) Y.xc_InvalidAnswer (hr.mono (by omega))) (ea_cons (ee_ex0 (k := 0) Y.xc_InvalidInputs (hr.mono (by omega))) (ea_cons (ee_ex0 (k := 0) Y.xc_InvalidMove (hr.mono (by omega))) (ea_cons (ee_ex0 (k := 0) Y.xc_InvalidMoves (hr.mono (by omega))) (ea_cons (ee_ex0 (k := 0) Y.xc_InvalidRoad (hr.mono (by omega))) ea_nil))))))))) (ess_cons (es_set (i := 0) sc_law_bare.nd (ee_add (ee_var (i := 0)) (ee_lst (ea_cons (ee_ex0 (k := 0) Y.xc_InvalidOptions (hr.mono (by omega))) (ea_cons (ee_ex0 (k := 0) Y.xc_InvalidAct (hr.mono (by omega))) (ea_cons (ee_ex0 (k := 0) Y.xc_InvalidActs (hr.mono (by omega))) (ea_cons (ee_ex0 (k := 0) Y.xc_InvalidHouse (hr.mono (by omega))) (ea_cons (ee_ex0 (k := 0) Y.xc_InvalidOtherProgram (hr.mono (by omega))) (ea_cons (ee_ex0 (k := 0) Y.xc_InvalidWord (hr.mono (by omega))) ea_nil))))))))) (ess_cons (es_set (i := 0) sc_law_bare.nd (ee_add (ee_var (i := 0)) (ee_lst (ea_cons (ee_ex0 (k := 0) Y.xc_TooMany (hr.mono (by omega))) (ea_cons (ee_ex0 (k := 0) Y.xc_InvalidPoint (hr.mono (by omega))) (ea_cons (ee_ex0 (k := 0) Y.xc_InvalidNumber (hr.mono (by omega))) (ea_cons (ee_ex0 (k := 0) Y.xc_InvalidPairs (hr.mono (by omega))) (ea_cons (ee_ex0 (k := 0) Y.xc_InvalidNumbers (hr.mono (by omega))) (ea_cons (ee_ex0 (k := 0) Y.xc_InvalidSets (hr.mono (by omega))) ea_nil))))))))) (ess_cons (es_set (i := 0) sc_law_bare.nd (ee_add (ee_var (i := 0)) (ee_lst (ea_cons (ee_ex0 (k := 0) Y.xc_InvalidRow (hr.mono (by omega))) (ea_cons (ee_ex0 (k := 0) Y.xc_InvalidRows (hr.mono (by omega))) (ea_cons (ee_ex0 (k := 0) Y.xc_InvalidTurn (hr.mono (by omega))) (ea_cons (ee_ex0 (k := 0) Y.xc_InvalidRound (hr.mono (by omega))) (ea_cons (ee_ex0 (k := 0) Y.xc_InvalidPaper (hr.mono (by omega))) (ea_cons (ee_ex0 (k := 0) Y.xc_InvalidStanding (hr.mono (by omega))) ea_nil))))))))) (ess_cons (es_set (i := 0) sc_law_bare.nd (ee_add (ee_var (i := 0)) (ee_lst (ea_cons (ee_ex0 (k := 0) Y.xc_InvalidOption (hr.mono (by omega))) (ea_cons (ee_ex0 (k := 0) Y.xc_InvalidSteps (hr.mono (by omega))) (ea_cons (ee_ex0 (k := 0) Y.xc_InvalidWidth (hr.mono (by omega))) (ea_cons (ee_ex0 (k := 0) Y.xc_InvalidPlace (hr.mono (by omega))) (ea_cons (ee_ex0 (k := 0) Y.xc_InvalidTest (hr.mono (by omega))) (ea_cons (ee_ex0 (k := 0) Y.xc_InvalidTree (hr.mono (by omega))) ea_nil))))))))) (ess_cons (es_set (i := 0) sc_law_bare.nd (ee_add (ee_var (i := 0)) (ee_lst (ea_cons (ee_ex0 (k := 0) Y.xc_InvalidText (hr.mono (by omega))) (ea_cons (ee_ex0 (k := 0) Y.xc_NotBound (hr.mono (by omega))) (ea_cons (ee_ex0 (k := 0) Y.xc_InvalidOtherText (hr.mono (by omega))) (ea_cons (ee_ex0 (k := 0) Y.xc_InvalidThing (hr.mono (by omega))) (ea_cons (ee_ex0 (k := 0) Y.xc_NotTaken (hr.mono (by omega))) ea_nil)))))))) (ess_one (es_ret (ee_var (i := 0))))))))))))))⟩
theorem c_law_code (Y : Facts K mg) : Cal P w K mg base "_law_code" s_law_code ps_law_code 3 m_law_code := by
  obtain ⟨f, fd, hf, F⟩ := Y.f_law_code
  refine ⟨f, fd, hf, F, fn_ok F sc_law_code fun cdv A outer s H E hr => ?_⟩
  have hu := hr.units65
  have hv := Nat.lt_of_succ_lt hu
  exact ⟨_, (ess_cons (es_set (i := 1) sc_law_code.nd (ee_lst (ea_cons (ee_fun cr_isX (n_isX Y.kinds).op Y.n_isinstance (ea_cons (ee_var (i := 0)) (ea_cons (ee_cls (Y.cl_InvalidGraph)) ea_nil))) (ea_cons (ee_fun cr_isX (n_isX Y.kinds).op Y.n_isinstance (ea_cons (ee_var (i := 0)) (ea_cons (ee_cls (Y.cl_InvalidOtherGraph)) ea_nil))) (ea_cons (ee_fun cr_isX (n_isX Y.kinds).op Y.n_isinstance (ea_cons (ee_var (i := 0)) (ea_cons (ee_cls (Y.cl_InvalidGraphSteps)) ea_nil))) ea_nil))))) (ess_cons (es_set (i := 1) sc_law_code.nd (ee_add (ee_var (i := 1)) (ee_lst (ea_cons (ee_fun cr_isX (n_isX Y.kinds).op Y.n_isinstance (ea_cons (ee_var (i := 0)) (ea_cons (ee_cls (Y.cl_InvalidKind)) ea_nil))) (ea_cons (ee_fun cr_isX (n_isX Y.kinds).op Y.n_isinstance (ea_cons (ee_var (i := 0)) (ea_cons (ee_cls (Y.cl_InvalidForm)) ea_nil))) (ea_cons (ee_fun cr_isX (n_isX Y.kinds).op Y.n_isinstance (ea_cons (ee_var (i := 0)) (ea_cons (ee_cls (Y.cl_InvalidOtherForm)) ea_nil))) ea_nil)))))) (ess_cons (es_set (i := 1) sc_law_code.nd (ee_add (ee_var (i := 1)) (ee_lst (ea_cons (ee_fun cr_isX (n_isX Y.kinds).op Y.n_isinstance (ea_cons (ee_var (i := 0)) (ea_cons (ee_cls (Y.cl_InvalidMultipliers)) ea_nil))) (ea_cons (ee_fun cr_isX (n_isX Y.kinds).op Y.n_isinstance (ea_cons (ee_var (i := 0)) (ea_cons (ee_cls (Y.cl_InvalidNames)) ea_nil))) ea_nil))))) (ess_cons (es_set (i := 1) sc_law_code.nd (ee_add (ee_var (i := 1)) (ee_lst (ea_cons (ee_fun cr_isX (n_isX Y.kinds).op Y.n_isinstance (ea_cons (ee_var (i := 0)) (ea_cons (ee_cls (Y.cl_InvalidMost)) ea_nil))) (ea_cons (ee_fun cr_isX (n_isX Y.kinds).op Y.n_isinstance (ea_cons (ee_var (i := 0)) (ea_cons (ee_cls (Y.cl_InvalidCount)) ea_nil))) (ea_cons (ee_fun cr_isX (n_isX Y.kinds).op Y.n_isinstance (ea_cons (ee_var (i := 0)) (ea_cons (ee_cls (Y.cl_InvalidLots)) ea_nil))) ea_nil)))))) (ess_cons (es_set (i := 1) sc_law_code.nd (ee_add (ee_var (i := 1)) (ee_lst (ea_cons (ee_fun cr_isX (n_isX Y.kinds).op Y.n_isinstance (ea_cons (ee_var (i := 0)) (ea_cons (ee_cls (Y.cl_InvalidAdders)) ea_nil))) (ea_cons (ee_fun cr_isX (n_isX Y.kinds).op Y.n_isinstance (ea_cons (ee_var (i := 0)) (ea_cons (ee_cls (Y.cl_InvalidForms)) ea_nil))) (ea_cons (ee_fun cr_isX (n_isX Y.kinds).op Y.n_isinstance (ea_cons (ee_var (i := 0)) (ea_cons (ee_cls (Y.cl_InvalidBy)) ea_nil))) ea_nil)))))) (ess_cons (es_set (i := 1) sc_law_code.nd (ee_add (ee_var (i := 1)) (ee_lst (ea_cons (ee_fun cr_isX (n_isX Y.kinds).op Y.n_isinstance (ea_cons (ee_var (i := 0)) (ea_cons (ee_cls (Y.cl_InvalidMany)) ea_nil))) (ea_cons (ee_fun cr_isX (n_isX Y.kinds).op Y.n_isinstance (ea_cons (ee_var (i := 0)) (ea_cons (ee_cls (Y.cl_InvalidMeasure)) ea_nil))) (ea_cons (ee_fun cr_isX (n_isX Y.kinds).op Y.n_isinstance (ea_cons (ee_var (i := 0)) (ea_cons (ee_cls (Y.cl_InvalidBound)) ea_nil))) ea_nil)))))) (ess_cons (es_set (i := 1) sc_law_code.nd (ee_add (ee_var (i := 1)) (ee_lst (ea_cons (ee_fun cr_isX (n_isX Y.kinds).op Y.n_isinstance (ea_cons (ee_var (i := 0)) (ea_cons (ee_cls (Y.cl_InvalidLow)) ea_nil))) (ea_cons (ee_fun cr_isX (n_isX Y.kinds).op Y.n_isinstance (ea_cons (ee_var (i := 0)) (ea_cons (ee_cls (Y.cl_InvalidHigh)) ea_nil))) (ea_cons (ee_fun cr_isX (n_isX Y.kinds).op Y.n_isinstance (ea_cons (ee_var (i := 0)) (ea_cons (ee_cls (Y.cl_InvalidAt)) ea_nil))) ea_nil)))))) (ess_cons (es_set (i := 1) sc_law_code.nd (ee_add (ee_var (i := 1)) (ee_lst (ea_cons (ee_fun cr_isX (n_isX Y.kinds).op Y.n_isinstance (ea_cons (ee_var (i := 0)) (ea_cons (ee_cls (Y.cl_InvalidLot)) ea_nil))) (ea_cons (ee_fun cr_isX (n_isX Y.kinds).op Y.n_isinstance (ea_cons (ee_var (i := 0)) (ea_cons (ee_cls (Y.cl_InvalidOtherLot)) ea_nil))) (ea_cons (ee_fun cr_isX (n_isX Y.kinds).op Y.n_isinstance (ea_cons (ee_var (i := 0)) (ea_cons (ee_cls (Y.cl_InvalidKept)) ea_nil))) ea_nil)))))) (ess_cons (es_set (i := 1) sc_law_code.nd (ee_add (ee_var (i := 1)) (ee_lst (ea_cons (ee_fun cr_isX (n_isX Y.kinds).op Y.n_isinstance (ea_cons (ee_var (i := 0)) (ea_cons (ee_cls (Y.cl_InvalidProgram)) ea_nil))) (ea_cons (ee_fun cr_isX (n_isX Y.kinds).op Y.n_isinstance (ea_cons (ee_var (i := 0)) (ea_cons (ee_cls (Y.cl_Unread)) ea_nil))) (ea_cons (ee_fun cr_isX (n_isX Y.kinds).op Y.n_isinstance (ea_cons (ee_var (i := 0)) (ea_cons (ee_cls (Y.cl_InvalidAnswer)) ea_nil))) ea_nil)))))) (ess_cons (es_set (i := 1) sc_law_code.nd (ee_add (ee_var (i := 1)) (ee_lst (ea_cons (ee_fun cr_isX (n_isX Y.kinds).op Y.n_isinstance (ea_cons (ee_var (i := 0)) (ea_cons (ee_cls (Y.cl_InvalidInputs)) ea_nil))) (ea_cons (ee_fun cr_isX (n_isX Y.kinds).op Y.n_isinstance (ea_cons (ee_var (i := 0)) (ea_cons (ee_cls (Y.cl_InvalidMove)) ea_nil))) (ea_cons (ee_fun cr_isX (n_isX Y.kinds).op Y.n_isinstance (ea_cons (ee_var (i := 0)) (ea_cons (ee_cls (Y.cl_InvalidMoves)) ea_nil))) ea_nil)))))) (ess_cons (es_set (i := 1) sc_law_code.nd (ee_add (ee_var (i := 1)) (ee_lst (ea_cons (ee_fun cr_isX (n_isX Y.kinds).op Y.n_isinstance (ea_cons (ee_var (i := 0)) (ea_cons (ee_cls (Y.cl_InvalidRoad)) ea_nil))) (ea_cons (ee_fun cr_isX (n_isX Y.kinds).op Y.n_isinstance (ea_cons (ee_var (i := 0)) (ea_cons (ee_cls (Y.cl_InvalidOptions)) ea_nil))) (ea_cons (ee_fun cr_isX (n_isX Y.kinds).op Y.n_isinstance (ea_cons (ee_var (i := 0)) (ea_cons (ee_cls (Y.cl_InvalidAct)) ea_nil))) ea_nil)))))) (ess_cons (es_set (i := 1) sc_law_code.nd (ee_add (ee_var (i := 1)) (ee_lst (ea_cons (ee_fun cr_isX (n_isX Y.kinds).op Y.n_isinstance (ea_cons (ee_var (i := 0)) (ea_cons (ee_cls (Y.cl_InvalidActs)) ea_nil))) (ea_cons (ee_fun cr_isX (n_isX Y.kinds).op Y.n_isinstance (ea_cons (ee_var (i := 0)) (ea_cons (ee_cls (Y.cl_InvalidHouse)) ea_nil))) ea_nil))))) (ess_cons (es_set (i := 1) sc_law_code.nd (ee_add (ee_var (i := 1)) (ee_lst (ea_cons (ee_fun cr_isX (n_isX Y.kinds).op Y.n_isinstance (ea_cons (ee_var (i := 0)) (ea_cons (ee_cls (Y.cl_InvalidOtherProgram)) ea_nil))) (ea_cons (ee_fun cr_isX (n_isX Y.kinds).op Y.n_isinstance (ea_cons (ee_var (i := 0)) (ea_cons (ee_cls (Y.cl_InvalidWord)) ea_nil))) (ea_cons (ee_fun cr_isX (n_isX Y.kinds).op Y.n_isinstance (ea_cons (ee_var (i := 0)) (ea_cons (ee_cls (Y.cl_TooMany)) ea_nil))) ea_nil)))))) (ess_cons (es_set (i := 1) sc_law_code.nd (ee_add (ee_var (i := 1)) (ee_lst (ea_cons (ee_fun cr_isX (n_isX Y.kinds).op Y.n_isinstance (ea_cons (ee_var (i := 0)) (ea_cons (ee_cls (Y.cl_InvalidPoint)) ea_nil))) (ea_cons (ee_fun cr_isX (n_isX Y.kinds).op Y.n_isinstance (ea_cons (ee_var (i := 0)) (ea_cons (ee_cls (Y.cl_InvalidNumber)) ea_nil))) (ea_cons (ee_fun cr_isX (n_isX Y.kinds).op Y.n_isinstance (ea_cons (ee_var (i := 0)) (ea_cons (ee_cls (Y.cl_InvalidPairs)) ea_nil))) ea_nil)))))) (ess_cons (es_set (i := 1) sc_law_code.nd (ee_add (ee_var (i := 1)) (ee_lst (ea_cons (ee_fun cr_isX (n_isX Y.kinds).op Y.n_isinstance (ea_cons (ee_var (i := 0)) (ea_cons (ee_cls (Y.cl_InvalidNumbers)) ea_nil))) (ea_cons (ee_fun cr_isX (n_isX Y.kinds).op Y.n_isinstance (ea_cons (ee_var (i := 0)) (ea_cons (ee_cls (Y.cl_InvalidSets)) ea_nil))) (ea_cons (ee_fun cr_isX (n_isX Y.kinds).op Y.n_isinstance (ea_cons (ee_var (i := 0)) (ea_cons (ee_cls (Y.cl_InvalidRow)) ea_nil))) ea_nil)))))) (ess_cons (es_set (i := 1) sc_law_code.nd (ee_add (ee_var (i := 1)) (ee_lst (ea_cons (ee_fun cr_isX (n_isX Y.kinds).op Y.n_isinstance (ea_cons (ee_var (i := 0)) (ea_cons (ee_cls (Y.cl_InvalidRows)) ea_nil))) (ea_cons (ee_fun cr_isX (n_isX Y.kinds).op Y.n_isinstance (ea_cons (ee_var (i := 0)) (ea_cons (ee_cls (Y.cl_InvalidTurn)) ea_nil))) (ea_cons (ee_fun cr_isX (n_isX Y.kinds).op Y.n_isinstance (ea_cons (ee_var (i := 0)) (ea_cons (ee_cls (Y.cl_InvalidRound)) ea_nil))) ea_nil)))))) (ess_cons (es_set (i := 1) sc_law_code.nd (ee_add (ee_var (i := 1)) (ee_lst (ea_cons (ee_fun cr_isX (n_isX Y.kinds).op Y.n_isinstance (ea_cons (ee_var (i := 0)) (ea_cons (ee_cls (Y.cl_InvalidPaper)) ea_nil))) (ea_cons (ee_fun cr_isX (n_isX Y.kinds).op Y.n_isinstance (ea_cons (ee_var (i := 0)) (ea_cons (ee_cls (Y.cl_InvalidStanding)) ea_nil))) ea_nil))))) (ess_cons (es_set (i := 1) sc_law_code.nd (ee_add (ee_var (i := 1)) (ee_lst (ea_cons (ee_fun cr_isX (n_isX Y.kinds).op Y.n_isinstance (ea_cons (ee_var (i := 0)) (ea_cons (ee_cls (Y.cl_InvalidOption)) ea_nil))) (ea_cons (ee_fun cr_isX (n_isX Y.kinds).op Y.n_isinstance (ea_cons (ee_var (i := 0)) (ea_cons (ee_cls (Y.cl_InvalidSteps)) ea_nil))) (ea_cons (ee_fun cr_isX (n_isX Y.kinds).op Y.n_isinstance (ea_cons (ee_var (i := 0)) (ea_cons (ee_cls (Y.cl_InvalidWidth)) ea_nil))) ea_nil)))))) (ess_cons (es_set (i := 1) sc_law_code.nd (ee_add (ee_var (i := 1)) (ee_lst (ea_cons (ee_fun cr_isX (n_isX Y.kinds).op Y.n_isinstance (ea_cons (ee_var (i := 0)) (ea_cons (ee_cls (Y.cl_InvalidPlace)) ea_nil))) (ea_cons (ee_fun cr_isX (n_isX Y.kinds).op Y.n_isinstance (ea_cons (ee_var (i := 0)) (ea_cons (ee_cls (Y.cl_InvalidTest)) ea_nil))) (ea_cons (ee_fun cr_isX (n_isX Y.kinds).op Y.n_isinstance (ea_cons (ee_var (i := 0)) (ea_cons (ee_cls (Y.cl_InvalidTree)) ea_nil))) ea_nil)))))) (ess_cons (es_set (i := 1) sc_law_code.nd (ee_add (ee_var (i := 1)) (ee_lst (ea_cons (ee_fun cr_isX (n_isX Y.kinds).op Y.n_isinstance (ea_cons (ee_var (i := 0)) (ea_cons (ee_cls (Y.cl_InvalidText)) ea_nil))) (ea_cons (ee_fun cr_isX (n_isX Y.kinds).op Y.n_isinstance (ea_cons (ee_var (i := 0)) (ea_cons (ee_cls (Y.cl_NotBound)) ea_nil))) (ea_cons (ee_fun cr_isX (n_isX Y.kinds).op Y.n_isinstance (ea_cons (ee_var (i := 0)) (ea_cons (ee_cls (Y.cl_InvalidOtherText)) ea_nil))) ea_nil)))))) (ess_cons (es_set (i := 1) sc_law_code.nd (ee_add (ee_var (i := 1)) (ee_lst (ea_cons (ee_fun cr_isX (n_isX Y.kinds).op Y.n_isinstance (ea_cons (ee_var (i := 0)) (ea_cons (ee_cls (Y.cl_InvalidThing)) ea_nil))) (ea_cons (ee_fun cr_isX (n_isX Y.kinds).op Y.n_isinstance (ea_cons (ee_var (i := 0)) (ea_cons (ee_cls (Y.cl_NotTaken)) ea_nil))) (ea_cons (ee_fun cr_isX (n_isX Y.kinds).op Y.n_isinstance (ea_cons (ee_var (i := 0)) (ea_cons (ee_cls (Y.cl_NothingToUndo)) ea_nil))) ea_nil)))))) (ess_cons (es_set (i := 1) sc_law_code.nd (ee_add (ee_var (i := 1)) (ee_lst (ea_cons (ee_fun cr_isX (n_isX Y.kinds).op Y.n_isinstance (ea_cons (ee_var (i := 0)) (ea_cons (ee_cls (Y.cl_NothingToRedo)) ea_nil))) ea_nil)))) (ess_one (es_ret (ee_comp (own := [("at", 2)]) rfl sc_law_code.nd (ei_rg1 Y.n_range (ea_cons (ee_fun cr_len n_len.op Y.n_len (ea_cons (ee_var (i := 1)) ea_nil)) ea_nil)) (blkOk_by (own := [("at", 2)]) (N := N_law_code) (sc := defScope s_law_code) (by decide +kernel)) (fun _ _ _ _ _ => (eg_name (i := 2) sc_law_code.nd)) (fun _ _ _ _ _ => (ets_one (et_val (ee_ix2 hu (ee_var (i := 1)) (ee_var (i := 2)))))) (fun _ _ _ _ _ => (ee_var (i := 2))))))))))))))))))))))))))))⟩
theorem c_law_is_error (Y : Facts K mg) : Cal P w K mg base "_law_is_error" s_law_is_error ps_law_is_error 3 m_law_is_error := by
  obtain ⟨f, fd, hf, F⟩ := Y.f_law_is_error
  refine ⟨f, fd, hf, F, fn_ok F sc_law_is_error fun cdv A outer s H E hr => ?_⟩
  have hu := hr.units65
  have hv := Nat.lt_of_succ_lt hu
  exact ⟨_, (ess_one (es_ret (ee_and (ee_fun cr_isX (n_isX Y.kinds).op Y.n_isinstance (ea_cons (ee_var (i := 0)) (ea_cons (ee_cls (Y.cl_EndError)) ea_nil))) (ee_one (ee_fun cr_isX (n_isX Y.kinds).op Y.n_isinstance (ea_cons (ee_var (i := 0)) (ea_cons (ee_ty Y.n_ValueError) ea_nil)))))))⟩
theorem c_law_right (Y : Facts K mg) : Cal P w K mg base "_law_right" s_law_right ps_law_right 4 m_law_right := by
  have c_law_code := c_law_code (P := P) (w := w) (base := base) Y
  have c_law_is_error := c_law_is_error (P := P) (w := w) (base := base) Y
  obtain ⟨f, fd, hf, F⟩ := Y.f_law_right
  refine ⟨f, fd, hf, F, fn_ok F sc_law_right fun cdv A outer s H E hr => ?_⟩
  have hu := hr.units65
  have hv := Nat.lt_of_succ_lt hu
  exact ⟨_, (ess_cons (es_if (et_cmp (op_neAny hv) o_ne (ee_comp (own := [("error", 2)]) rfl sc_law_right.nd (ei_seq (ee_var (i := 0))) (blkOk_by (own := [("error", 2)]) (N := N_law_right) (sc := defScope s_law_right) (by decide +kernel)) (fun _ _ _ _ _ => (eg_name (i := 2) sc_law_right.nd)) (fun _ _ _ _ _ => ets_nil) (fun _ _ _ _ _ => (ee_cal c_law_code bd_law_code (hr.mono (by omega)) takes_none (ea_cons (ee_var (i := 2)) ea_nil)))) (ee_comp (own := [("at", 3)]) rfl sc_law_right.nd (ei_rg1 Y.n_range (ea_cons ee_int ea_nil)) (blkOk_by (own := [("at", 3)]) (N := N_law_right) (sc := defScope s_law_right) (by decide +kernel)) (fun _ _ _ _ _ => (eg_name (i := 3) sc_law_right.nd)) (fun _ _ _ _ _ => ets_nil) (fun _ _ _ _ _ => (ee_lst (ea_cons (ee_var (i := 3)) ea_nil))))) (ess_one (es_ret ee_bl)) ess_nil) (ess_one (es_ret (ee_cmp (op_eqAny hv) o_eq (ee_comp (own := [("error", 2)]) rfl sc_law_right.nd (ei_seq (ee_var (i := 0))) (blkOk_by (own := [("error", 2)]) (N := N_law_right) (sc := defScope s_law_right) (by decide +kernel)) (fun _ _ _ _ _ => (eg_name (i := 2) sc_law_right.nd)) (fun _ _ _ _ _ => (ets_one (ew_or (et_not (et_val (ee_cal c_law_is_error bd_law_is_error (hr.mono (by omega)) takes_none (ea_cons (ee_var (i := 2)) ea_nil)))) (ew_or1 (et_cmp (op_neAny hv) o_ne (ee_fun (cr_reprR Y.sys hr.gd hu) n_reprR.op Y.n_repr (ea_cons (ee_xv Y.xv (ee_var (i := 2))) ea_nil)) (ee_var (i := 1))))).et)) (fun _ _ _ _ _ => (ee_var (i := 2)))) (ee_lst ea_nil)))))⟩
theorem c_law (Y : Facts K mg) : Cal P w K mg base "law" s_law ps_law 5 m_law := by
  have c_law_draw := c_law_draw (P := P) (w := w) (base := base) Y
  have c_law_one_of := c_law_one_of (P := P) (w := w) (base := base) Y
  have c_law_purses := c_law_purses (P := P) (w := w) (base := base) Y
  have c_law_first := c_law_first (P := P) (w := w) (base := base) Y
  have c_law_called := c_law_called (P := P) (w := w) (base := base) Y
  have c_law_bare := c_law_bare (P := P) (w := w) (base := base) Y
  have c_law_code := c_law_code (P := P) (w := w) (base := base) Y
  have c_law_is_error := c_law_is_error (P := P) (w := w) (base := base) Y
  have c_law_right := c_law_right (P := P) (w := w) (base := base) Y
  obtain ⟨f, fd, hf, F⟩ := Y.f_law
  refine ⟨f, fd, hf, F, fn_ok F sc_law fun cdv A outer s H E hr => ?_⟩
  have hu := hr.units65
  have hv := Nat.lt_of_succ_lt hu
  exact ⟨_, (ess_cons (es_for rfl passes_cx (ei_seq (ee_cal c_law_purses bd_law_purses (hr.mono (by omega)) takes_cx (ea_cons (ee_var (i := 0)) (ea_cons ee_int ea_nil)))) (eg_name (i := 1) sc_law.nd) (ess_cons (es_set (i := 2) sc_law.nd (ee_join ee_str (ee_comp (own := [("spin", 3)]) rfl sc_law.nd (ei_rg1 Y.n_range (ea_cons (ee_add ee_int (ee_cal c_law_draw bd_law_draw (hr.mono (by omega)) takes_cx (ea_cons (ee_var (i := 1)) (ea_cons ee_int ea_nil)))) ea_nil)) (blkOk_by (own := [("spin", 3)]) (N := N_law) (sc := defScope s_law) (by decide +kernel)) (fun _ _ _ _ _ => (eg_name (i := 3) sc_law.nd)) (fun _ _ _ _ _ => ets_nil) (fun _ _ _ _ _ => (ee_ix2 hu ee_str (ee_cal c_law_draw bd_law_draw (hr.mono (by omega)) takes_none (ea_cons (ee_var (i := 1)) (ea_cons ee_int ea_nil)))))))) (ess_cons (es_set (i := 4) sc_law.nd (ee_lst (ea_cons ee_non (ea_cons ee_bl (ea_cons ee_bl (ea_cons ee_int (ea_cons (ee_var (i := 2)) (ea_cons (ee_un un_neg o_neg.op (ee_ix2 hu (ee_var (i := 1)) ee_int)) (ea_cons (ee_tup (ea_cons ee_str (ea_cons (ee_var (i := 2)) (ea_cons ee_int (ea_cons ee_int ea_nil))))) (ea_cons (ee_tup (ea_cons (ee_var (i := 2)) (ea_cons (ee_lst (ea_cons (ee_var (i := 2)) ea_nil)) ea_nil))) (ea_cons (ee_disp (.cons (ee_var (i := 2)) (ee_lst (ea_cons (ee_var (i := 2)) ea_nil)) .nil)) ea_nil))))))))))) (ess_cons (es_set (i := 5) sc_law.nd (ee_cal c_law_one_of bd_law_one_of (hr.mono (by omega)) takes_cx (ea_cons (ee_var (i := 1)) (ea_cons (ee_add (ee_var (i := 4)) (ee_lst (ea_cons (ee_lst (ea_cons (ee_var (i := 2)) ea_nil)) (ea_cons (ee_lst (ea_cons (ee_lst (ea_cons (ee_var (i := 2)) ea_nil)) (ea_cons (ee_disp (.cons ee_str (ee_var (i := 2)) .nil)) ea_nil))) ea_nil)))) ea_nil)))) (ess_cons (es_set (i := 6) sc_law.nd (ee_fun (cr_reprR Y.sys hr.gd hu) n_reprR.op Y.n_repr (ea_cons (ee_var (i := 5)) ea_nil))) (ess_cons (es_par3 (i := 7) (j := 8) (l := 9) rfl sc_law.nd (ea_cons (ee_cal c_law_first bd_law_first (hr.mono (by omega)) takes_cx (ea_cons (ee_var (i := 5)) ea_nil)) (ea_cons (ee_cal c_law_called bd_law_called (hr.mono (by omega)) takes_cx (ea_cons (ee_var (i := 5)) ea_nil)) (ea_cons (ee_cal c_law_first bd_law_first (hr.mono (by omega)) takes_cx (ea_cons (ee_tup (ea_cons ee_str (ea_cons (ee_var (i := 2)) ea_nil))) ea_nil)) ea_nil)))) (ess_cons (es_if (ew_or (et_not (et_val (ee_cal c_law_right bd_law_right (hr.mono (by omega)) takes_cx (ea_cons (ee_cal0 c_law_bare bd_law_bare (hr.mono (by omega)) takes_cx) (ea_cons ee_str ea_nil))))) (ew_or1 (et_not (et_val (ee_cal c_law_right bd_law_right (hr.mono (by omega)) takes_cx (ea_cons (ee_var (i := 9)) (ea_cons (ee_fun (cr_reprR Y.sys hr.gd hu) n_reprR.op Y.n_repr (ea_cons (ee_tup (ea_cons ee_str (ea_cons (ee_var (i := 2)) ea_nil))) ea_nil)) ea_nil))))))).et (ess_one (es_ret ee_bl)) ess_nil) (ess_cons (es_if (ew_or (et_not (et_val (ee_cal c_law_right bd_law_right (hr.mono (by omega)) takes_cx (ea_cons (ee_var (i := 7)) (ea_cons (ee_var (i := 6)) ea_nil))))) (ew_or1 (et_not (et_val (ee_cal c_law_right bd_law_right (hr.mono (by omega)) takes_cx (ea_cons (ee_var (i := 8)) (ea_cons (ee_var (i := 6)) ea_nil))))))).et (ess_one (es_ret ee_bl)) ess_nil) (ess_cons (es_if (et_val (ee_fun cr_isX (n_isX Y.kinds).op Y.n_isinstance (ea_cons (ee_var (i := 5)) (ea_cons (ee_ty Y.n_list) ea_nil)))) (ess_one (es_expr (ee_app (ee_var (i := 5)) ee_str))) ess_nil) (ess_cons (es_if (et_val (ee_fun cr_isX (n_isX Y.kinds).op Y.n_isinstance (ea_cons (ee_var (i := 5)) (ea_cons (ee_ty Y.n_dict) ea_nil)))) (ess_cons (es_expr (ee_app (ee_ix2 hu (ee_var (i := 5)) (ee_var (i := 2))) ee_str)) (ess_one (es_put hu ee_int (ee_var (i := 5)) ee_str))) ess_nil) (ess_cons (es_if (ew_and (et_val (ee_fun cr_isX (n_isX Y.kinds).op Y.n_isinstance (ea_cons (ee_var (i := 5)) (ea_cons (ee_ty Y.n_tuple) ea_nil)))) (ew_and1 (et_val (ee_fun cr_isX (n_isX Y.kinds).op Y.n_isinstance (ea_cons (ee_ix2 hu (ee_var (i := 5)) ee_int) (ea_cons (ee_ty Y.n_list) ea_nil)))))).et (ess_one (es_expr (ee_app (ee_ix2 hu (ee_var (i := 5)) ee_int) ee_str))) ess_nil) (ess_one (es_if (ew_or (et_not (et_val (ee_cal c_law_right bd_law_right (hr.mono (by omega)) takes_cx (ea_cons (ee_var (i := 7)) (ea_cons (ee_fun (cr_reprR Y.sys hr.gd hu) n_reprR.op Y.n_repr (ea_cons (ee_var (i := 5)) ea_nil)) ea_nil))))) (ew_or1 (et_not (et_val (ee_cal c_law_right bd_law_right (hr.mono (by omega)) takes_cx (ea_cons (ee_var (i := 8)) (ea_cons (ee_fun (cr_reprR Y.sys hr.gd hu) n_reprR.op Y.n_repr (ea_cons (ee_var (i := 5)) ea_nil)) ea_nil))))))).et (ess_one (es_ret ee_bl)) ess_nil))))))))))))) (ess_cons (es_set (i := 10) sc_law.nd (ee_lst (ea_cons (ee_exB Y.xb_NothingToUndo) (ea_cons (ee_exB Y.xb_NothingToRedo) ea_nil)))) (ess_cons (es_if (et_cmp (op_neAny hv) o_ne (ee_comp (own := [("error", 11)]) rfl sc_law.nd (ei_seq (ee_var (i := 10))) (blkOk_by (own := [("error", 11)]) (N := N_law) (sc := defScope s_law) (by decide +kernel)) (fun _ _ _ _ _ => (eg_name (i := 11) sc_law.nd)) (fun _ _ _ _ _ => ets_nil) (fun _ _ _ _ _ => (ee_cal c_law_code bd_law_code (hr.mono (by omega)) takes_none (ea_cons (ee_var (i := 11)) ea_nil)))) (ee_lst (ea_cons (ee_lst (ea_cons ee_int ea_nil)) (ea_cons (ee_lst (ea_cons ee_int ea_nil)) ea_nil)))) (ess_one (es_ret ee_bl)) ess_nil) (ess_cons (es_expr (ee_app (ee_var (i := 10)) (ee_exB Y.xb_EndError))) (ess_one (es_ret (ee_and (ee_fun (cr_all rfl) n_all.op Y.n_all (ea_cons (ee_comp (own := [("error", 11)]) rfl sc_law.nd (ei_seq (ee_var (i := 10))) (blkOk_by (own := [("error", 11)]) (N := N_law) (sc := defScope s_law) (by decide +kernel)) (fun _ _ _ _ _ => (eg_name (i := 11) sc_law.nd)) (fun _ _ _ _ _ => ets_nil) (fun _ _ _ _ _ => (ee_cal c_law_is_error bd_law_is_error (hr.mono (by omega)) takes_none (ea_cons (ee_var (i := 11)) ea_nil)))) ea_nil)) (ee_one (ee_cmp (op_eqAny hv) o_eq (ee_cal c_law_code bd_law_code (hr.mono (by omega)) takes_cx (ea_cons (ee_ix2 hu (ee_var (i := 10)) ee_int) ea_nil)) (ee_lst ea_nil))))))))))⟩
end
end K01
end
section
set_option Elab.async false
set_option linter.all false
set_option maxRecDepth 100000
set_option maxHeartbeats 0
/-! the head (printed by genend.py) -/
namespace K01
open PySem PySem.Spec PyProof.Rows L2 HC
theorem facts {K : PySem.W.Frag} {h : Heap} {mg : Str → Option Value} (X : K.In h) (G : h.Ns mainGlobals mg) (c : SaysL pcs cks K) : Facts K mg := by
  have kd : KdOk KD K := kd_ok (fun p hp => by
    have e : KD = kd0 ++ kd1 := by decide +kernel
    rw [e] at hp
    rcases List.mem_append.mp hp with hp | hp
    rotate_left
    · exact List.all_eq_true.mp (c.ck 2) p hp
    exact List.all_eq_true.mp (c.ck 1) p hp) (c.ck 0)
  exact {
  n_ValueError := He.free_ok X G ((c.at 0).fact 12 (f := .free "ValueError") rfl)
  n_all := He.free_ok X G ((c.at 0).fact 13 (f := .free "all") rfl)
  n_dict := He.free_ok X G ((c.at 0).fact 14 (f := .free "dict") rfl)
  n_int := He.free_ok X G ((c.at 0).fact 15 (f := .free "int") rfl)
  n_isinstance := He.free_ok X G ((c.at 0).fact 16 (f := .free "isinstance") rfl)
  n_len := He.free_ok X G ((c.at 0).fact 17 (f := .free "len") rfl)
  n_list := He.free_ok X G ((c.at 0).fact 18 (f := .free "list") rfl)
  n_max := He.free_ok X G ((c.at 0).fact 19 (f := .free "max") rfl)
  n_min := He.free_ok X G ((c.at 0).fact 20 (f := .free "min") rfl)
  n_range := He.free_ok X G ((c.at 0).fact 21 (f := .free "range") rfl)
  n_repr := He.free_ok X G ((c.at 0).fact 22 (f := .free "repr") rfl)
  n_sum := He.free_ok X G ((c.at 0).fact 23 (f := .free "sum") rfl)
  n_tuple := He.free_ok X G ((c.at 0).fact 24 (f := .free "tuple") rfl)
  f_law_mixed := let ⟨fd, F⟩ := (c.at (fa := fa) (fn := fn0) 0).def_ 0 (d := d_law_mixed) rfl; ⟨_, fd, He.glo_ok X G ((c.at 0).fact 0 (f := .glo "_law_mixed") rfl), F⟩
  f_law_draw := let ⟨fd, F⟩ := (c.at (fa := fa) (fn := fn0) 0).def_ 1 (d := d_law_draw) rfl; ⟨_, fd, He.glo_ok X G ((c.at 0).fact 1 (f := .glo "_law_draw") rfl), F⟩
  f_law_one_of := let ⟨fd, F⟩ := (c.at (fa := fa) (fn := fn0) 0).def_ 2 (d := d_law_one_of) rfl; ⟨_, fd, He.glo_ok X G ((c.at 0).fact 2 (f := .glo "_law_one_of") rfl), F⟩
  f_law_purse := let ⟨fd, F⟩ := (c.at (fa := fa) (fn := fn0) 0).def_ 3 (d := d_law_purse) rfl; ⟨_, fd, He.glo_ok X G ((c.at 0).fact 3 (f := .glo "_law_purse") rfl), F⟩
  f_law_purses := let ⟨fd, F⟩ := (c.at (fa := fa) (fn := fn0) 0).def_ 4 (d := d_law_purses) rfl; ⟨_, fd, He.glo_ok X G ((c.at 0).fact 4 (f := .glo "_law_purses") rfl), F⟩
  f_law_first := let ⟨fd, F⟩ := (c.at (fa := fa) (fn := fn0) 0).def_ 5 (d := d_law_first) rfl; ⟨_, fd, He.glo_ok X G ((c.at 0).fact 5 (f := .glo "_law_first") rfl), F⟩
  f_law_called := let ⟨fd, F⟩ := (c.at (fa := fa) (fn := fn0) 0).def_ 6 (d := d_law_called) rfl; ⟨_, fd, He.glo_ok X G ((c.at 0).fact 6 (f := .glo "_law_called") rfl), F⟩
  f_law_bare := let ⟨fd, F⟩ := (c.at (fa := fa) (fn := fn0) 0).def_ 7 (d := d_law_bare) rfl; ⟨_, fd, He.glo_ok X G ((c.at 0).fact 7 (f := .glo "_law_bare") rfl), F⟩
  f_law_code := let ⟨fd, F⟩ := (c.at (fa := fa) (fn := fn0) 0).def_ 8 (d := d_law_code) rfl; ⟨_, fd, He.glo_ok X G ((c.at 0).fact 8 (f := .glo "_law_code") rfl), F⟩
  f_law_is_error := let ⟨fd, F⟩ := (c.at (fa := fa) (fn := fn0) 0).def_ 9 (d := d_law_is_error) rfl; ⟨_, fd, He.glo_ok X G ((c.at 0).fact 9 (f := .glo "_law_is_error") rfl), F⟩
  f_law_right := let ⟨fd, F⟩ := (c.at (fa := fa) (fn := fn0) 0).def_ 10 (d := d_law_right) rfl; ⟨_, fd, He.glo_ok X G ((c.at 0).fact 10 (f := .glo "_law_right") rfl), F⟩
  f_law := let ⟨fd, F⟩ := (c.at (fa := fa) (fn := fn0) 0).def_ 11 (d := d_law) rfl; ⟨_, fd, He.glo_ok X G ((c.at 0).fact 11 (f := .glo "law") rfl), F⟩
  kinds := kinds_ok X G kd
  sys := kd.sys
  xv := xv_of X G kd
  xb_EndError := exB_of (x := "EndError") X G (kd.ex (KD[0]'(by decide)) (List.getElem_mem (by decide)))
  cl_EndError := adr_mg (x := "EndError") (exb_mg X G (kd.ex (KD[0]'(by decide)) (List.getElem_mem (by decide))))
  xc_InvalidAct := let ⟨fd, F⟩ := (c.at (fa := []) (fn := fn1) 1).def_ 31 (d := dx_InvalidAct) rfl; exC_of (x := "InvalidAct") X G (kd.ex (KD[32]'(by decide)) (List.getElem_mem (by decide))) F (by exact ⟨rfl, rfl, rfl, by decide +kernel, rfl, by decide +kernel, by decide +kernel⟩) rfl rfl (fun _ _ _ _ _ _ _ us its h1 h2 => match us, its, h1, h2 with | [_, _], [_], _, _ => ⟨_, rfl, rfl⟩) (fun _ _ _ _ _ _ _ us its h1 h2 => match us, its, h1, h2 with | [_], [_], _, _ => ⟨_, rfl, rfl⟩) (fun _ _ _ _ _ _ _ us its ws h1 h2 h3 => match us, its, ws, h1, h2, h3 with | [_], [_], [_], _, _, _ => ⟨_, rfl, rfl⟩)
  cl_InvalidAct := adr_mg (x := "InvalidAct") (exb_mg X G (kd.ex (KD[32]'(by decide)) (List.getElem_mem (by decide))))
  xc_InvalidActs := let ⟨fd, F⟩ := (c.at (fa := []) (fn := fn2) 2).def_ 0 (d := dx_InvalidActs) rfl; exC_of (x := "InvalidActs") X G (kd.ex (KD[33]'(by decide)) (List.getElem_mem (by decide))) F (by exact ⟨rfl, rfl, rfl, by decide +kernel, rfl, by decide +kernel, by decide +kernel⟩) rfl rfl (fun _ _ _ _ _ _ _ us its h1 h2 => match us, its, h1, h2 with | [_, _], [_], _, _ => ⟨_, rfl, rfl⟩) (fun _ _ _ _ _ _ _ us its h1 h2 => match us, its, h1, h2 with | [_], [_], _, _ => ⟨_, rfl, rfl⟩) (fun _ _ _ _ _ _ _ us its ws h1 h2 h3 => match us, its, ws, h1, h2, h3 with | [_], [_], [_], _, _, _ => ⟨_, rfl, rfl⟩)
  cl_InvalidActs := adr_mg (x := "InvalidActs") (exb_mg X G (kd.ex (KD[33]'(by decide)) (List.getElem_mem (by decide))))
  xc_InvalidAdders := let ⟨fd, F⟩ := (c.at (fa := []) (fn := fn1) 1).def_ 11 (d := dx_InvalidAdders) rfl; exC_of (x := "InvalidAdders") X G (kd.ex (KD[12]'(by decide)) (List.getElem_mem (by decide))) F (by exact ⟨rfl, rfl, rfl, by decide +kernel, rfl, by decide +kernel, by decide +kernel⟩) rfl rfl (fun _ _ _ _ _ _ _ us its h1 h2 => match us, its, h1, h2 with | [_, _], [_], _, _ => ⟨_, rfl, rfl⟩) (fun _ _ _ _ _ _ _ us its h1 h2 => match us, its, h1, h2 with | [_], [_], _, _ => ⟨_, rfl, rfl⟩) (fun _ _ _ _ _ _ _ us its ws h1 h2 h3 => match us, its, ws, h1, h2, h3 with | [_], [_], [_], _, _, _ => ⟨_, rfl, rfl⟩)
  cl_InvalidAdders := adr_mg (x := "InvalidAdders") (exb_mg X G (kd.ex (KD[12]'(by decide)) (List.getElem_mem (by decide))))
  xc_InvalidAnswer := let ⟨fd, F⟩ := (c.at (fa := []) (fn := fn1) 1).def_ 25 (d := dx_InvalidAnswer) rfl; exC_of (x := "InvalidAnswer") X G (kd.ex (KD[26]'(by decide)) (List.getElem_mem (by decide))) F (by exact ⟨rfl, rfl, rfl, by decide +kernel, rfl, by decide +kernel, by decide +kernel⟩) rfl rfl (fun _ _ _ _ _ _ _ us its h1 h2 => match us, its, h1, h2 with | [_, _], [_], _, _ => ⟨_, rfl, rfl⟩) (fun _ _ _ _ _ _ _ us its h1 h2 => match us, its, h1, h2 with | [_], [_], _, _ => ⟨_, rfl, rfl⟩) (fun _ _ _ _ _ _ _ us its ws h1 h2 h3 => match us, its, ws, h1, h2, h3 with | [_], [_], [_], _, _, _ => ⟨_, rfl, rfl⟩)
  cl_InvalidAnswer := adr_mg (x := "InvalidAnswer") (exb_mg X G (kd.ex (KD[26]'(by decide)) (List.getElem_mem (by decide))))
  xc_InvalidAt := let ⟨fd, F⟩ := (c.at (fa := []) (fn := fn1) 1).def_ 19 (d := dx_InvalidAt) rfl; exC_of (x := "InvalidAt") X G (kd.ex (KD[20]'(by decide)) (List.getElem_mem (by decide))) F (by exact ⟨rfl, rfl, rfl, by decide +kernel, rfl, by decide +kernel, by decide +kernel⟩) rfl rfl (fun _ _ _ _ _ _ _ us its h1 h2 => match us, its, h1, h2 with | [_, _], [_], _, _ => ⟨_, rfl, rfl⟩) (fun _ _ _ _ _ _ _ us its h1 h2 => match us, its, h1, h2 with | [_], [_], _, _ => ⟨_, rfl, rfl⟩) (fun _ _ _ _ _ _ _ us its ws h1 h2 h3 => match us, its, ws, h1, h2, h3 with | [_], [_], [_], _, _, _ => ⟨_, rfl, rfl⟩)
  cl_InvalidAt := adr_mg (x := "InvalidAt") (exb_mg X G (kd.ex (KD[20]'(by decide)) (List.getElem_mem (by decide))))
  xc_InvalidBound := let ⟨fd, F⟩ := (c.at (fa := []) (fn := fn1) 1).def_ 16 (d := dx_InvalidBound) rfl; exC_of (x := "InvalidBound") X G (kd.ex (KD[17]'(by decide)) (List.getElem_mem (by decide))) F (by exact ⟨rfl, rfl, rfl, by decide +kernel, rfl, by decide +kernel, by decide +kernel⟩) rfl rfl (fun _ _ _ _ _ _ _ us its h1 h2 => match us, its, h1, h2 with | [_, _], [_], _, _ => ⟨_, rfl, rfl⟩) (fun _ _ _ _ _ _ _ us its h1 h2 => match us, its, h1, h2 with | [_], [_], _, _ => ⟨_, rfl, rfl⟩) (fun _ _ _ _ _ _ _ us its ws h1 h2 h3 => match us, its, ws, h1, h2, h3 with | [_], [_], [_], _, _, _ => ⟨_, rfl, rfl⟩)
  cl_InvalidBound := adr_mg (x := "InvalidBound") (exb_mg X G (kd.ex (KD[17]'(by decide)) (List.getElem_mem (by decide))))
  xc_InvalidBy := let ⟨fd, F⟩ := (c.at (fa := []) (fn := fn1) 1).def_ 13 (d := dx_InvalidBy) rfl; exC_of (x := "InvalidBy") X G (kd.ex (KD[14]'(by decide)) (List.getElem_mem (by decide))) F (by exact ⟨rfl, rfl, rfl, by decide +kernel, rfl, by decide +kernel, by decide +kernel⟩) rfl rfl (fun _ _ _ _ _ _ _ us its h1 h2 => match us, its, h1, h2 with | [_, _], [_], _, _ => ⟨_, rfl, rfl⟩) (fun _ _ _ _ _ _ _ us its h1 h2 => match us, its, h1, h2 with | [_], [_], _, _ => ⟨_, rfl, rfl⟩) (fun _ _ _ _ _ _ _ us its ws h1 h2 h3 => match us, its, ws, h1, h2, h3 with | [_], [_], [_], _, _, _ => ⟨_, rfl, rfl⟩)
  cl_InvalidBy := adr_mg (x := "InvalidBy") (exb_mg X G (kd.ex (KD[14]'(by decide)) (List.getElem_mem (by decide))))
  xc_InvalidCount := let ⟨fd, F⟩ := (c.at (fa := []) (fn := fn1) 1).def_ 9 (d := dx_InvalidCount) rfl; exC_of (x := "InvalidCount") X G (kd.ex (KD[10]'(by decide)) (List.getElem_mem (by decide))) F (by exact ⟨rfl, rfl, rfl, by decide +kernel, rfl, by decide +kernel, by decide +kernel⟩) rfl rfl (fun _ _ _ _ _ _ _ us its h1 h2 => match us, its, h1, h2 with | [_, _], [_], _, _ => ⟨_, rfl, rfl⟩) (fun _ _ _ _ _ _ _ us its h1 h2 => match us, its, h1, h2 with | [_], [_], _, _ => ⟨_, rfl, rfl⟩) (fun _ _ _ _ _ _ _ us its ws h1 h2 h3 => match us, its, ws, h1, h2, h3 with | [_], [_], [_], _, _, _ => ⟨_, rfl, rfl⟩)
  cl_InvalidCount := adr_mg (x := "InvalidCount") (exb_mg X G (kd.ex (KD[10]'(by decide)) (List.getElem_mem (by decide))))
  xc_InvalidForm := let ⟨fd, F⟩ := (c.at (fa := []) (fn := fn1) 1).def_ 4 (d := dx_InvalidForm) rfl; exC_of (x := "InvalidForm") X G (kd.ex (KD[5]'(by decide)) (List.getElem_mem (by decide))) F (by exact ⟨rfl, rfl, rfl, by decide +kernel, rfl, by decide +kernel, by decide +kernel⟩) rfl rfl (fun _ _ _ _ _ _ _ us its h1 h2 => match us, its, h1, h2 with | [_, _], [_], _, _ => ⟨_, rfl, rfl⟩) (fun _ _ _ _ _ _ _ us its h1 h2 => match us, its, h1, h2 with | [_], [_], _, _ => ⟨_, rfl, rfl⟩) (fun _ _ _ _ _ _ _ us its ws h1 h2 h3 => match us, its, ws, h1, h2, h3 with | [_], [_], [_], _, _, _ => ⟨_, rfl, rfl⟩)
  cl_InvalidForm := adr_mg (x := "InvalidForm") (exb_mg X G (kd.ex (KD[5]'(by decide)) (List.getElem_mem (by decide))))
  xc_InvalidForms := let ⟨fd, F⟩ := (c.at (fa := []) (fn := fn1) 1).def_ 12 (d := dx_InvalidForms) rfl; exC_of (x := "InvalidForms") X G (kd.ex (KD[13]'(by decide)) (List.getElem_mem (by decide))) F (by exact ⟨rfl, rfl, rfl, by decide +kernel, rfl, by decide +kernel, by decide +kernel⟩) rfl rfl (fun _ _ _ _ _ _ _ us its h1 h2 => match us, its, h1, h2 with | [_, _], [_], _, _ => ⟨_, rfl, rfl⟩) (fun _ _ _ _ _ _ _ us its h1 h2 => match us, its, h1, h2 with | [_], [_], _, _ => ⟨_, rfl, rfl⟩) (fun _ _ _ _ _ _ _ us its ws h1 h2 h3 => match us, its, ws, h1, h2, h3 with | [_], [_], [_], _, _, _ => ⟨_, rfl, rfl⟩)
  cl_InvalidForms := adr_mg (x := "InvalidForms") (exb_mg X G (kd.ex (KD[13]'(by decide)) (List.getElem_mem (by decide))))
  xc_InvalidGraph := let ⟨fd, F⟩ := (c.at (fa := []) (fn := fn1) 1).def_ 0 (d := dx_InvalidGraph) rfl; exC_of (x := "InvalidGraph") X G (kd.ex (KD[1]'(by decide)) (List.getElem_mem (by decide))) F (by exact ⟨rfl, rfl, rfl, by decide +kernel, rfl, by decide +kernel, by decide +kernel⟩) rfl rfl (fun _ _ _ _ _ _ _ us its h1 h2 => match us, its, h1, h2 with | [_, _], [_], _, _ => ⟨_, rfl, rfl⟩) (fun _ _ _ _ _ _ _ us its h1 h2 => match us, its, h1, h2 with | [_], [_], _, _ => ⟨_, rfl, rfl⟩) (fun _ _ _ _ _ _ _ us its ws h1 h2 h3 => match us, its, ws, h1, h2, h3 with | [_], [_], [_], _, _, _ => ⟨_, rfl, rfl⟩)
  cl_InvalidGraph := adr_mg (x := "InvalidGraph") (exb_mg X G (kd.ex (KD[1]'(by decide)) (List.getElem_mem (by decide))))
  xc_InvalidGraphSteps := let ⟨fd, F⟩ := (c.at (fa := []) (fn := fn1) 1).def_ 2 (d := dx_InvalidGraphSteps) rfl; exC_of (x := "InvalidGraphSteps") X G (kd.ex (KD[3]'(by decide)) (List.getElem_mem (by decide))) F (by exact ⟨rfl, rfl, rfl, by decide +kernel, rfl, by decide +kernel, by decide +kernel⟩) rfl rfl (fun _ _ _ _ _ _ _ us its h1 h2 => match us, its, h1, h2 with | [_, _], [_], _, _ => ⟨_, rfl, rfl⟩) (fun _ _ _ _ _ _ _ us its h1 h2 => match us, its, h1, h2 with | [_], [_], _, _ => ⟨_, rfl, rfl⟩) (fun _ _ _ _ _ _ _ us its ws h1 h2 h3 => match us, its, ws, h1, h2, h3 with | [_], [_], [_], _, _, _ => ⟨_, rfl, rfl⟩)
  cl_InvalidGraphSteps := adr_mg (x := "InvalidGraphSteps") (exb_mg X G (kd.ex (KD[3]'(by decide)) (List.getElem_mem (by decide))))
  xc_InvalidHigh := let ⟨fd, F⟩ := (c.at (fa := []) (fn := fn1) 1).def_ 18 (d := dx_InvalidHigh) rfl; exC_of (x := "InvalidHigh") X G (kd.ex (KD[19]'(by decide)) (List.getElem_mem (by decide))) F (by exact ⟨rfl, rfl, rfl, by decide +kernel, rfl, by decide +kernel, by decide +kernel⟩) rfl rfl (fun _ _ _ _ _ _ _ us its h1 h2 => match us, its, h1, h2 with | [_, _], [_], _, _ => ⟨_, rfl, rfl⟩) (fun _ _ _ _ _ _ _ us its h1 h2 => match us, its, h1, h2 with | [_], [_], _, _ => ⟨_, rfl, rfl⟩) (fun _ _ _ _ _ _ _ us its ws h1 h2 h3 => match us, its, ws, h1, h2, h3 with | [_], [_], [_], _, _, _ => ⟨_, rfl, rfl⟩)
  cl_InvalidHigh := adr_mg (x := "InvalidHigh") (exb_mg X G (kd.ex (KD[19]'(by decide)) (List.getElem_mem (by decide))))
  xc_InvalidHouse := let ⟨fd, F⟩ := (c.at (fa := []) (fn := fn2) 2).def_ 1 (d := dx_InvalidHouse) rfl; exC_of (x := "InvalidHouse") X G (kd.ex (KD[34]'(by decide)) (List.getElem_mem (by decide))) F (by exact ⟨rfl, rfl, rfl, by decide +kernel, rfl, by decide +kernel, by decide +kernel⟩) rfl rfl (fun _ _ _ _ _ _ _ us its h1 h2 => match us, its, h1, h2 with | [_, _], [_], _, _ => ⟨_, rfl, rfl⟩) (fun _ _ _ _ _ _ _ us its h1 h2 => match us, its, h1, h2 with | [_], [_], _, _ => ⟨_, rfl, rfl⟩) (fun _ _ _ _ _ _ _ us its ws h1 h2 h3 => match us, its, ws, h1, h2, h3 with | [_], [_], [_], _, _, _ => ⟨_, rfl, rfl⟩)
  cl_InvalidHouse := adr_mg (x := "InvalidHouse") (exb_mg X G (kd.ex (KD[34]'(by decide)) (List.getElem_mem (by decide))))
  xc_InvalidInputs := let ⟨fd, F⟩ := (c.at (fa := []) (fn := fn1) 1).def_ 26 (d := dx_InvalidInputs) rfl; exC_of (x := "InvalidInputs") X G (kd.ex (KD[27]'(by decide)) (List.getElem_mem (by decide))) F (by exact ⟨rfl, rfl, rfl, by decide +kernel, rfl, by decide +kernel, by decide +kernel⟩) rfl rfl (fun _ _ _ _ _ _ _ us its h1 h2 => match us, its, h1, h2 with | [_, _], [_], _, _ => ⟨_, rfl, rfl⟩) (fun _ _ _ _ _ _ _ us its h1 h2 => match us, its, h1, h2 with | [_], [_], _, _ => ⟨_, rfl, rfl⟩) (fun _ _ _ _ _ _ _ us its ws h1 h2 h3 => match us, its, ws, h1, h2, h3 with | [_], [_], [_], _, _, _ => ⟨_, rfl, rfl⟩)
  cl_InvalidInputs := adr_mg (x := "InvalidInputs") (exb_mg X G (kd.ex (KD[27]'(by decide)) (List.getElem_mem (by decide))))
  xc_InvalidKept := let ⟨fd, F⟩ := (c.at (fa := []) (fn := fn1) 1).def_ 22 (d := dx_InvalidKept) rfl; exC_of (x := "InvalidKept") X G (kd.ex (KD[23]'(by decide)) (List.getElem_mem (by decide))) F (by exact ⟨rfl, rfl, rfl, by decide +kernel, rfl, by decide +kernel, by decide +kernel⟩) rfl rfl (fun _ _ _ _ _ _ _ us its h1 h2 => match us, its, h1, h2 with | [_, _], [_], _, _ => ⟨_, rfl, rfl⟩) (fun _ _ _ _ _ _ _ us its h1 h2 => match us, its, h1, h2 with | [_], [_], _, _ => ⟨_, rfl, rfl⟩) (fun _ _ _ _ _ _ _ us its ws h1 h2 h3 => match us, its, ws, h1, h2, h3 with | [_], [_], [_], _, _, _ => ⟨_, rfl, rfl⟩)
  cl_InvalidKept := adr_mg (x := "InvalidKept") (exb_mg X G (kd.ex (KD[23]'(by decide)) (List.getElem_mem (by decide))))
  xc_InvalidKind := let ⟨fd, F⟩ := (c.at (fa := []) (fn := fn1) 1).def_ 3 (d := dx_InvalidKind) rfl; exC_of (x := "InvalidKind") X G (kd.ex (KD[4]'(by decide)) (List.getElem_mem (by decide))) F (by exact ⟨rfl, rfl, rfl, by decide +kernel, rfl, by decide +kernel, by decide +kernel⟩) rfl rfl (fun _ _ _ _ _ _ _ us its h1 h2 => match us, its, h1, h2 with | [_, _], [_], _, _ => ⟨_, rfl, rfl⟩) (fun _ _ _ _ _ _ _ us its h1 h2 => match us, its, h1, h2 with | [_], [_], _, _ => ⟨_, rfl, rfl⟩) (fun _ _ _ _ _ _ _ us its ws h1 h2 h3 => match us, its, ws, h1, h2, h3 with | [_], [_], [_], _, _, _ => ⟨_, rfl, rfl⟩)
  cl_InvalidKind := adr_mg (x := "InvalidKind") (exb_mg X G (kd.ex (KD[4]'(by decide)) (List.getElem_mem (by decide))))
  xc_InvalidLot := let ⟨fd, F⟩ := (c.at (fa := []) (fn := fn1) 1).def_ 20 (d := dx_InvalidLot) rfl; exC_of (x := "InvalidLot") X G (kd.ex (KD[21]'(by decide)) (List.getElem_mem (by decide))) F (by exact ⟨rfl, rfl, rfl, by decide +kernel, rfl, by decide +kernel, by decide +kernel⟩) rfl rfl (fun _ _ _ _ _ _ _ us its h1 h2 => match us, its, h1, h2 with | [_, _], [_], _, _ => ⟨_, rfl, rfl⟩) (fun _ _ _ _ _ _ _ us its h1 h2 => match us, its, h1, h2 with | [_], [_], _, _ => ⟨_, rfl, rfl⟩) (fun _ _ _ _ _ _ _ us its ws h1 h2 h3 => match us, its, ws, h1, h2, h3 with | [_], [_], [_], _, _, _ => ⟨_, rfl, rfl⟩)
  cl_InvalidLot := adr_mg (x := "InvalidLot") (exb_mg X G (kd.ex (KD[21]'(by decide)) (List.getElem_mem (by decide))))
  xc_InvalidLots := let ⟨fd, F⟩ := (c.at (fa := []) (fn := fn1) 1).def_ 10 (d := dx_InvalidLots) rfl; exC_of (x := "InvalidLots") X G (kd.ex (KD[11]'(by decide)) (List.getElem_mem (by decide))) F (by exact ⟨rfl, rfl, rfl, by decide +kernel, rfl, by decide +kernel, by decide +kernel⟩) rfl rfl (fun _ _ _ _ _ _ _ us its h1 h2 => match us, its, h1, h2 with | [_, _], [_], _, _ => ⟨_, rfl, rfl⟩) (fun _ _ _ _ _ _ _ us its h1 h2 => match us, its, h1, h2 with | [_], [_], _, _ => ⟨_, rfl, rfl⟩) (fun _ _ _ _ _ _ _ us its ws h1 h2 h3 => match us, its, ws, h1, h2, h3 with | [_], [_], [_], _, _, _ => ⟨_, rfl, rfl⟩)
  cl_InvalidLots := adr_mg (x := "InvalidLots") (exb_mg X G (kd.ex (KD[11]'(by decide)) (List.getElem_mem (by decide))))
  xc_InvalidLow := let ⟨fd, F⟩ := (c.at (fa := []) (fn := fn1) 1).def_ 17 (d := dx_InvalidLow) rfl; exC_of (x := "InvalidLow") X G (kd.ex (KD[18]'(by decide)) (List.getElem_mem (by decide))) F (by exact ⟨rfl, rfl, rfl, by decide +kernel, rfl, by decide +kernel, by decide +kernel⟩) rfl rfl (fun _ _ _ _ _ _ _ us its h1 h2 => match us, its, h1, h2 with | [_, _], [_], _, _ => ⟨_, rfl, rfl⟩) (fun _ _ _ _ _ _ _ us its h1 h2 => match us, its, h1, h2 with | [_], [_], _, _ => ⟨_, rfl, rfl⟩) (fun _ _ _ _ _ _ _ us its ws h1 h2 h3 => match us, its, ws, h1, h2, h3 with | [_], [_], [_], _, _, _ => ⟨_, rfl, rfl⟩)
  cl_InvalidLow := adr_mg (x := "InvalidLow") (exb_mg X G (kd.ex (KD[18]'(by decide)) (List.getElem_mem (by decide))))
  xc_InvalidMany := let ⟨fd, F⟩ := (c.at (fa := []) (fn := fn1) 1).def_ 14 (d := dx_InvalidMany) rfl; exC_of (x := "InvalidMany") X G (kd.ex (KD[15]'(by decide)) (List.getElem_mem (by decide))) F (by exact ⟨rfl, rfl, rfl, by decide +kernel, rfl, by decide +kernel, by decide +kernel⟩) rfl rfl (fun _ _ _ _ _ _ _ us its h1 h2 => match us, its, h1, h2 with | [_, _], [_], _, _ => ⟨_, rfl, rfl⟩) (fun _ _ _ _ _ _ _ us its h1 h2 => match us, its, h1, h2 with | [_], [_], _, _ => ⟨_, rfl, rfl⟩) (fun _ _ _ _ _ _ _ us its ws h1 h2 h3 => match us, its, ws, h1, h2, h3 with | [_], [_], [_], _, _, _ => ⟨_, rfl, rfl⟩)
  cl_InvalidMany := adr_mg (x := "InvalidMany") (exb_mg X G (kd.ex (KD[15]'(by decide)) (List.getElem_mem (by decide))))
  xc_InvalidMeasure := let ⟨fd, F⟩ := (c.at (fa := []) (fn := fn1) 1).def_ 15 (d := dx_InvalidMeasure) rfl; exC_of (x := "InvalidMeasure") X G (kd.ex (KD[16]'(by decide)) (List.getElem_mem (by decide))) F (by exact ⟨rfl, rfl, rfl, by decide +kernel, rfl, by decide +kernel, by decide +kernel⟩) rfl rfl (fun _ _ _ _ _ _ _ us its h1 h2 => match us, its, h1, h2 with | [_, _], [_], _, _ => ⟨_, rfl, rfl⟩) (fun _ _ _ _ _ _ _ us its h1 h2 => match us, its, h1, h2 with | [_], [_], _, _ => ⟨_, rfl, rfl⟩) (fun _ _ _ _ _ _ _ us its ws h1 h2 h3 => match us, its, ws, h1, h2, h3 with | [_], [_], [_], _, _, _ => ⟨_, rfl, rfl⟩)
  cl_InvalidMeasure := adr_mg (x := "InvalidMeasure") (exb_mg X G (kd.ex (KD[16]'(by decide)) (List.getElem_mem (by decide))))
  xc_InvalidMost := let ⟨fd, F⟩ := (c.at (fa := []) (fn := fn1) 1).def_ 8 (d := dx_InvalidMost) rfl; exC_of (x := "InvalidMost") X G (kd.ex (KD[9]'(by decide)) (List.getElem_mem (by decide))) F (by exact ⟨rfl, rfl, rfl, by decide +kernel, rfl, by decide +kernel, by decide +kernel⟩) rfl rfl (fun _ _ _ _ _ _ _ us its h1 h2 => match us, its, h1, h2 with | [_, _], [_], _, _ => ⟨_, rfl, rfl⟩) (fun _ _ _ _ _ _ _ us its h1 h2 => match us, its, h1, h2 with | [_], [_], _, _ => ⟨_, rfl, rfl⟩) (fun _ _ _ _ _ _ _ us its ws h1 h2 h3 => match us, its, ws, h1, h2, h3 with | [_], [_], [_], _, _, _ => ⟨_, rfl, rfl⟩)
  cl_InvalidMost := adr_mg (x := "InvalidMost") (exb_mg X G (kd.ex (KD[9]'(by decide)) (List.getElem_mem (by decide))))
  xc_InvalidMove := let ⟨fd, F⟩ := (c.at (fa := []) (fn := fn1) 1).def_ 27 (d := dx_InvalidMove) rfl; exC_of (x := "InvalidMove") X G (kd.ex (KD[28]'(by decide)) (List.getElem_mem (by decide))) F (by exact ⟨rfl, rfl, rfl, by decide +kernel, rfl, by decide +kernel, by decide +kernel⟩) rfl rfl (fun _ _ _ _ _ _ _ us its h1 h2 => match us, its, h1, h2 with | [_, _], [_], _, _ => ⟨_, rfl, rfl⟩) (fun _ _ _ _ _ _ _ us its h1 h2 => match us, its, h1, h2 with | [_], [_], _, _ => ⟨_, rfl, rfl⟩) (fun _ _ _ _ _ _ _ us its ws h1 h2 h3 => match us, its, ws, h1, h2, h3 with | [_], [_], [_], _, _, _ => ⟨_, rfl, rfl⟩)
  cl_InvalidMove := adr_mg (x := "InvalidMove") (exb_mg X G (kd.ex (KD[28]'(by decide)) (List.getElem_mem (by decide))))
  xc_InvalidMoves := let ⟨fd, F⟩ := (c.at (fa := []) (fn := fn1) 1).def_ 28 (d := dx_InvalidMoves) rfl; exC_of (x := "InvalidMoves") X G (kd.ex (KD[29]'(by decide)) (List.getElem_mem (by decide))) F (by exact ⟨rfl, rfl, rfl, by decide +kernel, rfl, by decide +kernel, by decide +kernel⟩) rfl rfl (fun _ _ _ _ _ _ _ us its h1 h2 => match us, its, h1, h2 with | [_, _], [_], _, _ => ⟨_, rfl, rfl⟩) (fun _ _ _ _ _ _ _ us its h1 h2 => match us, its, h1, h2 with | [_], [_], _, _ => ⟨_, rfl, rfl⟩) (fun _ _ _ _ _ _ _ us its ws h1 h2 h3 => match us, its, ws, h1, h2, h3 with | [_], [_], [_], _, _, _ => ⟨_, rfl, rfl⟩)
  cl_InvalidMoves := adr_mg (x := "InvalidMoves") (exb_mg X G (kd.ex (KD[29]'(by decide)) (List.getElem_mem (by decide))))
  xc_InvalidMultipliers := let ⟨fd, F⟩ := (c.at (fa := []) (fn := fn1) 1).def_ 6 (d := dx_InvalidMultipliers) rfl; exC_of (x := "InvalidMultipliers") X G (kd.ex (KD[7]'(by decide)) (List.getElem_mem (by decide))) F (by exact ⟨rfl, rfl, rfl, by decide +kernel, rfl, by decide +kernel, by decide +kernel⟩) rfl rfl (fun _ _ _ _ _ _ _ us its h1 h2 => match us, its, h1, h2 with | [_, _], [_], _, _ => ⟨_, rfl, rfl⟩) (fun _ _ _ _ _ _ _ us its h1 h2 => match us, its, h1, h2 with | [_], [_], _, _ => ⟨_, rfl, rfl⟩) (fun _ _ _ _ _ _ _ us its ws h1 h2 h3 => match us, its, ws, h1, h2, h3 with | [_], [_], [_], _, _, _ => ⟨_, rfl, rfl⟩)
  cl_InvalidMultipliers := adr_mg (x := "InvalidMultipliers") (exb_mg X G (kd.ex (KD[7]'(by decide)) (List.getElem_mem (by decide))))
  xc_InvalidNames := let ⟨fd, F⟩ := (c.at (fa := []) (fn := fn1) 1).def_ 7 (d := dx_InvalidNames) rfl; exC_of (x := "InvalidNames") X G (kd.ex (KD[8]'(by decide)) (List.getElem_mem (by decide))) F (by exact ⟨rfl, rfl, rfl, by decide +kernel, rfl, by decide +kernel, by decide +kernel⟩) rfl rfl (fun _ _ _ _ _ _ _ us its h1 h2 => match us, its, h1, h2 with | [_, _], [_], _, _ => ⟨_, rfl, rfl⟩) (fun _ _ _ _ _ _ _ us its h1 h2 => match us, its, h1, h2 with | [_], [_], _, _ => ⟨_, rfl, rfl⟩) (fun _ _ _ _ _ _ _ us its ws h1 h2 h3 => match us, its, ws, h1, h2, h3 with | [_], [_], [_], _, _, _ => ⟨_, rfl, rfl⟩)
  cl_InvalidNames := adr_mg (x := "InvalidNames") (exb_mg X G (kd.ex (KD[8]'(by decide)) (List.getElem_mem (by decide))))
  xc_InvalidNumber := let ⟨fd, F⟩ := (c.at (fa := []) (fn := fn2) 2).def_ 6 (d := dx_InvalidNumber) rfl; exC_of (x := "InvalidNumber") X G (kd.ex (KD[41]'(by decide)) (List.getElem_mem (by decide))) F (by exact ⟨rfl, rfl, rfl, by decide +kernel, rfl, by decide +kernel, by decide +kernel⟩) rfl rfl (fun _ _ _ _ _ _ _ us its h1 h2 => match us, its, h1, h2 with | [_, _], [_], _, _ => ⟨_, rfl, rfl⟩) (fun _ _ _ _ _ _ _ us its h1 h2 => match us, its, h1, h2 with | [_], [_], _, _ => ⟨_, rfl, rfl⟩) (fun _ _ _ _ _ _ _ us its ws h1 h2 h3 => match us, its, ws, h1, h2, h3 with | [_], [_], [_], _, _, _ => ⟨_, rfl, rfl⟩)
  cl_InvalidNumber := adr_mg (x := "InvalidNumber") (exb_mg X G (kd.ex (KD[41]'(by decide)) (List.getElem_mem (by decide))))
  xc_InvalidNumbers := let ⟨fd, F⟩ := (c.at (fa := []) (fn := fn2) 2).def_ 8 (d := dx_InvalidNumbers) rfl; exC_of (x := "InvalidNumbers") X G (kd.ex (KD[43]'(by decide)) (List.getElem_mem (by decide))) F (by exact ⟨rfl, rfl, rfl, by decide +kernel, rfl, by decide +kernel, by decide +kernel⟩) rfl rfl (fun _ _ _ _ _ _ _ us its h1 h2 => match us, its, h1, h2 with | [_, _], [_], _, _ => ⟨_, rfl, rfl⟩) (fun _ _ _ _ _ _ _ us its h1 h2 => match us, its, h1, h2 with | [_], [_], _, _ => ⟨_, rfl, rfl⟩) (fun _ _ _ _ _ _ _ us its ws h1 h2 h3 => match us, its, ws, h1, h2, h3 with | [_], [_], [_], _, _, _ => ⟨_, rfl, rfl⟩)
  cl_InvalidNumbers := adr_mg (x := "InvalidNumbers") (exb_mg X G (kd.ex (KD[43]'(by decide)) (List.getElem_mem (by decide))))
  xc_InvalidOption := let ⟨fd, F⟩ := (c.at (fa := []) (fn := fn2) 2).def_ 16 (d := dx_InvalidOption) rfl; exC_of (x := "InvalidOption") X G (kd.ex (KD[51]'(by decide)) (List.getElem_mem (by decide))) F (by exact ⟨rfl, rfl, rfl, by decide +kernel, rfl, by decide +kernel, by decide +kernel⟩) rfl rfl (fun _ _ _ _ _ _ _ us its h1 h2 => match us, its, h1, h2 with | [_, _], [_], _, _ => ⟨_, rfl, rfl⟩) (fun _ _ _ _ _ _ _ us its h1 h2 => match us, its, h1, h2 with | [_], [_], _, _ => ⟨_, rfl, rfl⟩) (fun _ _ _ _ _ _ _ us its ws h1 h2 h3 => match us, its, ws, h1, h2, h3 with | [_], [_], [_], _, _, _ => ⟨_, rfl, rfl⟩)
  cl_InvalidOption := adr_mg (x := "InvalidOption") (exb_mg X G (kd.ex (KD[51]'(by decide)) (List.getElem_mem (by decide))))
  xc_InvalidOptions := let ⟨fd, F⟩ := (c.at (fa := []) (fn := fn1) 1).def_ 30 (d := dx_InvalidOptions) rfl; exC_of (x := "InvalidOptions") X G (kd.ex (KD[31]'(by decide)) (List.getElem_mem (by decide))) F (by exact ⟨rfl, rfl, rfl, by decide +kernel, rfl, by decide +kernel, by decide +kernel⟩) rfl rfl (fun _ _ _ _ _ _ _ us its h1 h2 => match us, its, h1, h2 with | [_, _], [_], _, _ => ⟨_, rfl, rfl⟩) (fun _ _ _ _ _ _ _ us its h1 h2 => match us, its, h1, h2 with | [_], [_], _, _ => ⟨_, rfl, rfl⟩) (fun _ _ _ _ _ _ _ us its ws h1 h2 h3 => match us, its, ws, h1, h2, h3 with | [_], [_], [_], _, _, _ => ⟨_, rfl, rfl⟩)
  cl_InvalidOptions := adr_mg (x := "InvalidOptions") (exb_mg X G (kd.ex (KD[31]'(by decide)) (List.getElem_mem (by decide))))
  xc_InvalidOtherForm := let ⟨fd, F⟩ := (c.at (fa := []) (fn := fn1) 1).def_ 5 (d := dx_InvalidOtherForm) rfl; exC_of (x := "InvalidOtherForm") X G (kd.ex (KD[6]'(by decide)) (List.getElem_mem (by decide))) F (by exact ⟨rfl, rfl, rfl, by decide +kernel, rfl, by decide +kernel, by decide +kernel⟩) rfl rfl (fun _ _ _ _ _ _ _ us its h1 h2 => match us, its, h1, h2 with | [_, _], [_], _, _ => ⟨_, rfl, rfl⟩) (fun _ _ _ _ _ _ _ us its h1 h2 => match us, its, h1, h2 with | [_], [_], _, _ => ⟨_, rfl, rfl⟩) (fun _ _ _ _ _ _ _ us its ws h1 h2 h3 => match us, its, ws, h1, h2, h3 with | [_], [_], [_], _, _, _ => ⟨_, rfl, rfl⟩)
  cl_InvalidOtherForm := adr_mg (x := "InvalidOtherForm") (exb_mg X G (kd.ex (KD[6]'(by decide)) (List.getElem_mem (by decide))))
  xc_InvalidOtherGraph := let ⟨fd, F⟩ := (c.at (fa := []) (fn := fn1) 1).def_ 1 (d := dx_InvalidOtherGraph) rfl; exC_of (x := "InvalidOtherGraph") X G (kd.ex (KD[2]'(by decide)) (List.getElem_mem (by decide))) F (by exact ⟨rfl, rfl, rfl, by decide +kernel, rfl, by decide +kernel, by decide +kernel⟩) rfl rfl (fun _ _ _ _ _ _ _ us its h1 h2 => match us, its, h1, h2 with | [_, _], [_], _, _ => ⟨_, rfl, rfl⟩) (fun _ _ _ _ _ _ _ us its h1 h2 => match us, its, h1, h2 with | [_], [_], _, _ => ⟨_, rfl, rfl⟩) (fun _ _ _ _ _ _ _ us its ws h1 h2 h3 => match us, its, ws, h1, h2, h3 with | [_], [_], [_], _, _, _ => ⟨_, rfl, rfl⟩)
  cl_InvalidOtherGraph := adr_mg (x := "InvalidOtherGraph") (exb_mg X G (kd.ex (KD[2]'(by decide)) (List.getElem_mem (by decide))))
  xc_InvalidOtherLot := let ⟨fd, F⟩ := (c.at (fa := []) (fn := fn1) 1).def_ 21 (d := dx_InvalidOtherLot) rfl; exC_of (x := "InvalidOtherLot") X G (kd.ex (KD[22]'(by decide)) (List.getElem_mem (by decide))) F (by exact ⟨rfl, rfl, rfl, by decide +kernel, rfl, by decide +kernel, by decide +kernel⟩) rfl rfl (fun _ _ _ _ _ _ _ us its h1 h2 => match us, its, h1, h2 with | [_, _], [_], _, _ => ⟨_, rfl, rfl⟩) (fun _ _ _ _ _ _ _ us its h1 h2 => match us, its, h1, h2 with | [_], [_], _, _ => ⟨_, rfl, rfl⟩) (fun _ _ _ _ _ _ _ us its ws h1 h2 h3 => match us, its, ws, h1, h2, h3 with | [_], [_], [_], _, _, _ => ⟨_, rfl, rfl⟩)
  cl_InvalidOtherLot := adr_mg (x := "InvalidOtherLot") (exb_mg X G (kd.ex (KD[22]'(by decide)) (List.getElem_mem (by decide))))
  xc_InvalidOtherProgram := let ⟨fd, F⟩ := (c.at (fa := []) (fn := fn2) 2).def_ 2 (d := dx_InvalidOtherProgram) rfl; exC_of (x := "InvalidOtherProgram") X G (kd.ex (KD[35]'(by decide)) (List.getElem_mem (by decide))) F (by exact ⟨rfl, rfl, rfl, by decide +kernel, rfl, by decide +kernel, by decide +kernel⟩) rfl rfl (fun _ _ _ _ _ _ _ us its h1 h2 => match us, its, h1, h2 with | [_, _], [_], _, _ => ⟨_, rfl, rfl⟩) (fun _ _ _ _ _ _ _ us its h1 h2 => match us, its, h1, h2 with | [_], [_], _, _ => ⟨_, rfl, rfl⟩) (fun _ _ _ _ _ _ _ us its ws h1 h2 h3 => match us, its, ws, h1, h2, h3 with | [_], [_], [_], _, _, _ => ⟨_, rfl, rfl⟩)
  cl_InvalidOtherProgram := adr_mg (x := "InvalidOtherProgram") (exb_mg X G (kd.ex (KD[35]'(by decide)) (List.getElem_mem (by decide))))
  xc_InvalidOtherText := let ⟨fd, F⟩ := (c.at (fa := []) (fn := fn2) 2).def_ 24 (d := dx_InvalidOtherText) rfl; exC_of (x := "InvalidOtherText") X G (kd.ex (KD[59]'(by decide)) (List.getElem_mem (by decide))) F (by exact ⟨rfl, rfl, rfl, by decide +kernel, rfl, by decide +kernel, by decide +kernel⟩) rfl rfl (fun _ _ _ _ _ _ _ us its h1 h2 => match us, its, h1, h2 with | [_, _], [_], _, _ => ⟨_, rfl, rfl⟩) (fun _ _ _ _ _ _ _ us its h1 h2 => match us, its, h1, h2 with | [_], [_], _, _ => ⟨_, rfl, rfl⟩) (fun _ _ _ _ _ _ _ us its ws h1 h2 h3 => match us, its, ws, h1, h2, h3 with | [_], [_], [_], _, _, _ => ⟨_, rfl, rfl⟩)
  cl_InvalidOtherText := adr_mg (x := "InvalidOtherText") (exb_mg X G (kd.ex (KD[59]'(by decide)) (List.getElem_mem (by decide))))
  xc_InvalidPairs := let ⟨fd, F⟩ := (c.at (fa := []) (fn := fn2) 2).def_ 7 (d := dx_InvalidPairs) rfl; exC_of (x := "InvalidPairs") X G (kd.ex (KD[42]'(by decide)) (List.getElem_mem (by decide))) F (by exact ⟨rfl, rfl, rfl, by decide +kernel, rfl, by decide +kernel, by decide +kernel⟩) rfl rfl (fun _ _ _ _ _ _ _ us its h1 h2 => match us, its, h1, h2 with | [_, _], [_], _, _ => ⟨_, rfl, rfl⟩) (fun _ _ _ _ _ _ _ us its h1 h2 => match us, its, h1, h2 with | [_], [_], _, _ => ⟨_, rfl, rfl⟩) (fun _ _ _ _ _ _ _ us its ws h1 h2 h3 => match us, its, ws, h1, h2, h3 with | [_], [_], [_], _, _, _ => ⟨_, rfl, rfl⟩)
  cl_InvalidPairs := adr_mg (x := "InvalidPairs") (exb_mg X G (kd.ex (KD[42]'(by decide)) (List.getElem_mem (by decide))))
  xc_InvalidPaper := let ⟨fd, F⟩ := (c.at (fa := []) (fn := fn2) 2).def_ 14 (d := dx_InvalidPaper) rfl; exC_of (x := "InvalidPaper") X G (kd.ex (KD[49]'(by decide)) (List.getElem_mem (by decide))) F (by exact ⟨rfl, rfl, rfl, by decide +kernel, rfl, by decide +kernel, by decide +kernel⟩) rfl rfl (fun _ _ _ _ _ _ _ us its h1 h2 => match us, its, h1, h2 with | [_, _], [_], _, _ => ⟨_, rfl, rfl⟩) (fun _ _ _ _ _ _ _ us its h1 h2 => match us, its, h1, h2 with | [_], [_], _, _ => ⟨_, rfl, rfl⟩) (fun _ _ _ _ _ _ _ us its ws h1 h2 h3 => match us, its, ws, h1, h2, h3 with | [_], [_], [_], _, _, _ => ⟨_, rfl, rfl⟩)
  cl_InvalidPaper := adr_mg (x := "InvalidPaper") (exb_mg X G (kd.ex (KD[49]'(by decide)) (List.getElem_mem (by decide))))
  xc_InvalidPlace := let ⟨fd, F⟩ := (c.at (fa := []) (fn := fn2) 2).def_ 19 (d := dx_InvalidPlace) rfl; exC_of (x := "InvalidPlace") X G (kd.ex (KD[54]'(by decide)) (List.getElem_mem (by decide))) F (by exact ⟨rfl, rfl, rfl, by decide +kernel, rfl, by decide +kernel, by decide +kernel⟩) rfl rfl (fun _ _ _ _ _ _ _ us its h1 h2 => match us, its, h1, h2 with | [_, _], [_], _, _ => ⟨_, rfl, rfl⟩) (fun _ _ _ _ _ _ _ us its h1 h2 => match us, its, h1, h2 with | [_], [_], _, _ => ⟨_, rfl, rfl⟩) (fun _ _ _ _ _ _ _ us its ws h1 h2 h3 => match us, its, ws, h1, h2, h3 with | [_], [_], [_], _, _, _ => ⟨_, rfl, rfl⟩)
  cl_InvalidPlace := adr_mg (x := "InvalidPlace") (exb_mg X G (kd.ex (KD[54]'(by decide)) (List.getElem_mem (by decide))))
  xc_InvalidPoint := let ⟨fd, F⟩ := (c.at (fa := []) (fn := fn2) 2).def_ 5 (d := dx_InvalidPoint) rfl; exC_of (x := "InvalidPoint") X G (kd.ex (KD[40]'(by decide)) (List.getElem_mem (by decide))) F (by exact ⟨rfl, rfl, rfl, by decide +kernel, rfl, by decide +kernel, by decide +kernel⟩) rfl rfl (fun _ _ _ _ _ _ _ us its h1 h2 => match us, its, h1, h2 with | [_, _], [_], _, _ => ⟨_, rfl, rfl⟩) (fun _ _ _ _ _ _ _ us its h1 h2 => match us, its, h1, h2 with | [_], [_], _, _ => ⟨_, rfl, rfl⟩) (fun _ _ _ _ _ _ _ us its ws h1 h2 h3 => match us, its, ws, h1, h2, h3 with | [_], [_], [_], _, _, _ => ⟨_, rfl, rfl⟩)
  cl_InvalidPoint := adr_mg (x := "InvalidPoint") (exb_mg X G (kd.ex (KD[40]'(by decide)) (List.getElem_mem (by decide))))
  xc_InvalidProgram := let ⟨fd, F⟩ := (c.at (fa := []) (fn := fn1) 1).def_ 23 (d := dx_InvalidProgram) rfl; exC_of (x := "InvalidProgram") X G (kd.ex (KD[24]'(by decide)) (List.getElem_mem (by decide))) F (by exact ⟨rfl, rfl, rfl, by decide +kernel, rfl, by decide +kernel, by decide +kernel⟩) rfl rfl (fun _ _ _ _ _ _ _ us its h1 h2 => match us, its, h1, h2 with | [_, _], [_], _, _ => ⟨_, rfl, rfl⟩) (fun _ _ _ _ _ _ _ us its h1 h2 => match us, its, h1, h2 with | [_], [_], _, _ => ⟨_, rfl, rfl⟩) (fun _ _ _ _ _ _ _ us its ws h1 h2 h3 => match us, its, ws, h1, h2, h3 with | [_], [_], [_], _, _, _ => ⟨_, rfl, rfl⟩)
  cl_InvalidProgram := adr_mg (x := "InvalidProgram") (exb_mg X G (kd.ex (KD[24]'(by decide)) (List.getElem_mem (by decide))))
  xc_InvalidRoad := let ⟨fd, F⟩ := (c.at (fa := []) (fn := fn1) 1).def_ 29 (d := dx_InvalidRoad) rfl; exC_of (x := "InvalidRoad") X G (kd.ex (KD[30]'(by decide)) (List.getElem_mem (by decide))) F (by exact ⟨rfl, rfl, rfl, by decide +kernel, rfl, by decide +kernel, by decide +kernel⟩) rfl rfl (fun _ _ _ _ _ _ _ us its h1 h2 => match us, its, h1, h2 with | [_, _], [_], _, _ => ⟨_, rfl, rfl⟩) (fun _ _ _ _ _ _ _ us its h1 h2 => match us, its, h1, h2 with | [_], [_], _, _ => ⟨_, rfl, rfl⟩) (fun _ _ _ _ _ _ _ us its ws h1 h2 h3 => match us, its, ws, h1, h2, h3 with | [_], [_], [_], _, _, _ => ⟨_, rfl, rfl⟩)
  cl_InvalidRoad := adr_mg (x := "InvalidRoad") (exb_mg X G (kd.ex (KD[30]'(by decide)) (List.getElem_mem (by decide))))
  xc_InvalidRound := let ⟨fd, F⟩ := (c.at (fa := []) (fn := fn2) 2).def_ 13 (d := dx_InvalidRound) rfl; exC_of (x := "InvalidRound") X G (kd.ex (KD[48]'(by decide)) (List.getElem_mem (by decide))) F (by exact ⟨rfl, rfl, rfl, by decide +kernel, rfl, by decide +kernel, by decide +kernel⟩) rfl rfl (fun _ _ _ _ _ _ _ us its h1 h2 => match us, its, h1, h2 with | [_, _], [_], _, _ => ⟨_, rfl, rfl⟩) (fun _ _ _ _ _ _ _ us its h1 h2 => match us, its, h1, h2 with | [_], [_], _, _ => ⟨_, rfl, rfl⟩) (fun _ _ _ _ _ _ _ us its ws h1 h2 h3 => match us, its, ws, h1, h2, h3 with | [_], [_], [_], _, _, _ => ⟨_, rfl, rfl⟩)
  cl_InvalidRound := adr_mg (x := "InvalidRound") (exb_mg X G (kd.ex (KD[48]'(by decide)) (List.getElem_mem (by decide))))
  xc_InvalidRow := let ⟨fd, F⟩ := (c.at (fa := []) (fn := fn2) 2).def_ 10 (d := dx_InvalidRow) rfl; exC_of (x := "InvalidRow") X G (kd.ex (KD[45]'(by decide)) (List.getElem_mem (by decide))) F (by exact ⟨rfl, rfl, rfl, by decide +kernel, rfl, by decide +kernel, by decide +kernel⟩) rfl rfl (fun _ _ _ _ _ _ _ us its h1 h2 => match us, its, h1, h2 with | [_, _], [_], _, _ => ⟨_, rfl, rfl⟩) (fun _ _ _ _ _ _ _ us its h1 h2 => match us, its, h1, h2 with | [_], [_], _, _ => ⟨_, rfl, rfl⟩) (fun _ _ _ _ _ _ _ us its ws h1 h2 h3 => match us, its, ws, h1, h2, h3 with | [_], [_], [_], _, _, _ => ⟨_, rfl, rfl⟩)
  cl_InvalidRow := adr_mg (x := "InvalidRow") (exb_mg X G (kd.ex (KD[45]'(by decide)) (List.getElem_mem (by decide))))
  xc_InvalidRows := let ⟨fd, F⟩ := (c.at (fa := []) (fn := fn2) 2).def_ 11 (d := dx_InvalidRows) rfl; exC_of (x := "InvalidRows") X G (kd.ex (KD[46]'(by decide)) (List.getElem_mem (by decide))) F (by exact ⟨rfl, rfl, rfl, by decide +kernel, rfl, by decide +kernel, by decide +kernel⟩) rfl rfl (fun _ _ _ _ _ _ _ us its h1 h2 => match us, its, h1, h2 with | [_, _], [_], _, _ => ⟨_, rfl, rfl⟩) (fun _ _ _ _ _ _ _ us its h1 h2 => match us, its, h1, h2 with | [_], [_], _, _ => ⟨_, rfl, rfl⟩) (fun _ _ _ _ _ _ _ us its ws h1 h2 h3 => match us, its, ws, h1, h2, h3 with | [_], [_], [_], _, _, _ => ⟨_, rfl, rfl⟩)
  cl_InvalidRows := adr_mg (x := "InvalidRows") (exb_mg X G (kd.ex (KD[46]'(by decide)) (List.getElem_mem (by decide))))
  xc_InvalidSets := let ⟨fd, F⟩ := (c.at (fa := []) (fn := fn2) 2).def_ 9 (d := dx_InvalidSets) rfl; exC_of (x := "InvalidSets") X G (kd.ex (KD[44]'(by decide)) (List.getElem_mem (by decide))) F (by exact ⟨rfl, rfl, rfl, by decide +kernel, rfl, by decide +kernel, by decide +kernel⟩) rfl rfl (fun _ _ _ _ _ _ _ us its h1 h2 => match us, its, h1, h2 with | [_, _], [_], _, _ => ⟨_, rfl, rfl⟩) (fun _ _ _ _ _ _ _ us its h1 h2 => match us, its, h1, h2 with | [_], [_], _, _ => ⟨_, rfl, rfl⟩) (fun _ _ _ _ _ _ _ us its ws h1 h2 h3 => match us, its, ws, h1, h2, h3 with | [_], [_], [_], _, _, _ => ⟨_, rfl, rfl⟩)
  cl_InvalidSets := adr_mg (x := "InvalidSets") (exb_mg X G (kd.ex (KD[44]'(by decide)) (List.getElem_mem (by decide))))
  xc_InvalidStanding := let ⟨fd, F⟩ := (c.at (fa := []) (fn := fn2) 2).def_ 15 (d := dx_InvalidStanding) rfl; exC_of (x := "InvalidStanding") X G (kd.ex (KD[50]'(by decide)) (List.getElem_mem (by decide))) F (by exact ⟨rfl, rfl, rfl, by decide +kernel, rfl, by decide +kernel, by decide +kernel⟩) rfl rfl (fun _ _ _ _ _ _ _ us its h1 h2 => match us, its, h1, h2 with | [_, _], [_], _, _ => ⟨_, rfl, rfl⟩) (fun _ _ _ _ _ _ _ us its h1 h2 => match us, its, h1, h2 with | [_], [_], _, _ => ⟨_, rfl, rfl⟩) (fun _ _ _ _ _ _ _ us its ws h1 h2 h3 => match us, its, ws, h1, h2, h3 with | [_], [_], [_], _, _, _ => ⟨_, rfl, rfl⟩)
  cl_InvalidStanding := adr_mg (x := "InvalidStanding") (exb_mg X G (kd.ex (KD[50]'(by decide)) (List.getElem_mem (by decide))))
  xc_InvalidSteps := let ⟨fd, F⟩ := (c.at (fa := []) (fn := fn2) 2).def_ 17 (d := dx_InvalidSteps) rfl; exC_of (x := "InvalidSteps") X G (kd.ex (KD[52]'(by decide)) (List.getElem_mem (by decide))) F (by exact ⟨rfl, rfl, rfl, by decide +kernel, rfl, by decide +kernel, by decide +kernel⟩) rfl rfl (fun _ _ _ _ _ _ _ us its h1 h2 => match us, its, h1, h2 with | [_, _], [_], _, _ => ⟨_, rfl, rfl⟩) (fun _ _ _ _ _ _ _ us its h1 h2 => match us, its, h1, h2 with | [_], [_], _, _ => ⟨_, rfl, rfl⟩) (fun _ _ _ _ _ _ _ us its ws h1 h2 h3 => match us, its, ws, h1, h2, h3 with | [_], [_], [_], _, _, _ => ⟨_, rfl, rfl⟩)
  cl_InvalidSteps := adr_mg (x := "InvalidSteps") (exb_mg X G (kd.ex (KD[52]'(by decide)) (List.getElem_mem (by decide))))
  xc_InvalidTest := let ⟨fd, F⟩ := (c.at (fa := []) (fn := fn2) 2).def_ 20 (d := dx_InvalidTest) rfl; exC_of (x := "InvalidTest") X G (kd.ex (KD[55]'(by decide)) (List.getElem_mem (by decide))) F (by exact ⟨rfl, rfl, rfl, by decide +kernel, rfl, by decide +kernel, by decide +kernel⟩) rfl rfl (fun _ _ _ _ _ _ _ us its h1 h2 => match us, its, h1, h2 with | [_, _], [_], _, _ => ⟨_, rfl, rfl⟩) (fun _ _ _ _ _ _ _ us its h1 h2 => match us, its, h1, h2 with | [_], [_], _, _ => ⟨_, rfl, rfl⟩) (fun _ _ _ _ _ _ _ us its ws h1 h2 h3 => match us, its, ws, h1, h2, h3 with | [_], [_], [_], _, _, _ => ⟨_, rfl, rfl⟩)
  cl_InvalidTest := adr_mg (x := "InvalidTest") (exb_mg X G (kd.ex (KD[55]'(by decide)) (List.getElem_mem (by decide))))
  xc_InvalidText := let ⟨fd, F⟩ := (c.at (fa := []) (fn := fn2) 2).def_ 22 (d := dx_InvalidText) rfl; exC_of (x := "InvalidText") X G (kd.ex (KD[57]'(by decide)) (List.getElem_mem (by decide))) F (by exact ⟨rfl, rfl, rfl, by decide +kernel, rfl, by decide +kernel, by decide +kernel⟩) rfl rfl (fun _ _ _ _ _ _ _ us its h1 h2 => match us, its, h1, h2 with | [_, _], [_], _, _ => ⟨_, rfl, rfl⟩) (fun _ _ _ _ _ _ _ us its h1 h2 => match us, its, h1, h2 with | [_], [_], _, _ => ⟨_, rfl, rfl⟩) (fun _ _ _ _ _ _ _ us its ws h1 h2 h3 => match us, its, ws, h1, h2, h3 with | [_], [_], [_], _, _, _ => ⟨_, rfl, rfl⟩)
  cl_InvalidText := adr_mg (x := "InvalidText") (exb_mg X G (kd.ex (KD[57]'(by decide)) (List.getElem_mem (by decide))))
  xc_InvalidThing := let ⟨fd, F⟩ := (c.at (fa := []) (fn := fn2) 2).def_ 25 (d := dx_InvalidThing) rfl; exC_of (x := "InvalidThing") X G (kd.ex (KD[60]'(by decide)) (List.getElem_mem (by decide))) F (by exact ⟨rfl, rfl, rfl, by decide +kernel, rfl, by decide +kernel, by decide +kernel⟩) rfl rfl (fun _ _ _ _ _ _ _ us its h1 h2 => match us, its, h1, h2 with | [_, _], [_], _, _ => ⟨_, rfl, rfl⟩) (fun _ _ _ _ _ _ _ us its h1 h2 => match us, its, h1, h2 with | [_], [_], _, _ => ⟨_, rfl, rfl⟩) (fun _ _ _ _ _ _ _ us its ws h1 h2 h3 => match us, its, ws, h1, h2, h3 with | [_], [_], [_], _, _, _ => ⟨_, rfl, rfl⟩)
  cl_InvalidThing := adr_mg (x := "InvalidThing") (exb_mg X G (kd.ex (KD[60]'(by decide)) (List.getElem_mem (by decide))))
  xc_InvalidTree := let ⟨fd, F⟩ := (c.at (fa := []) (fn := fn2) 2).def_ 21 (d := dx_InvalidTree) rfl; exC_of (x := "InvalidTree") X G (kd.ex (KD[56]'(by decide)) (List.getElem_mem (by decide))) F (by exact ⟨rfl, rfl, rfl, by decide +kernel, rfl, by decide +kernel, by decide +kernel⟩) rfl rfl (fun _ _ _ _ _ _ _ us its h1 h2 => match us, its, h1, h2 with | [_, _], [_], _, _ => ⟨_, rfl, rfl⟩) (fun _ _ _ _ _ _ _ us its h1 h2 => match us, its, h1, h2 with | [_], [_], _, _ => ⟨_, rfl, rfl⟩) (fun _ _ _ _ _ _ _ us its ws h1 h2 h3 => match us, its, ws, h1, h2, h3 with | [_], [_], [_], _, _, _ => ⟨_, rfl, rfl⟩)
  cl_InvalidTree := adr_mg (x := "InvalidTree") (exb_mg X G (kd.ex (KD[56]'(by decide)) (List.getElem_mem (by decide))))
  xc_InvalidTurn := let ⟨fd, F⟩ := (c.at (fa := []) (fn := fn2) 2).def_ 12 (d := dx_InvalidTurn) rfl; exC_of (x := "InvalidTurn") X G (kd.ex (KD[47]'(by decide)) (List.getElem_mem (by decide))) F (by exact ⟨rfl, rfl, rfl, by decide +kernel, rfl, by decide +kernel, by decide +kernel⟩) rfl rfl (fun _ _ _ _ _ _ _ us its h1 h2 => match us, its, h1, h2 with | [_, _], [_], _, _ => ⟨_, rfl, rfl⟩) (fun _ _ _ _ _ _ _ us its h1 h2 => match us, its, h1, h2 with | [_], [_], _, _ => ⟨_, rfl, rfl⟩) (fun _ _ _ _ _ _ _ us its ws h1 h2 h3 => match us, its, ws, h1, h2, h3 with | [_], [_], [_], _, _, _ => ⟨_, rfl, rfl⟩)
  cl_InvalidTurn := adr_mg (x := "InvalidTurn") (exb_mg X G (kd.ex (KD[47]'(by decide)) (List.getElem_mem (by decide))))
  xc_InvalidWidth := let ⟨fd, F⟩ := (c.at (fa := []) (fn := fn2) 2).def_ 18 (d := dx_InvalidWidth) rfl; exC_of (x := "InvalidWidth") X G (kd.ex (KD[53]'(by decide)) (List.getElem_mem (by decide))) F (by exact ⟨rfl, rfl, rfl, by decide +kernel, rfl, by decide +kernel, by decide +kernel⟩) rfl rfl (fun _ _ _ _ _ _ _ us its h1 h2 => match us, its, h1, h2 with | [_, _], [_], _, _ => ⟨_, rfl, rfl⟩) (fun _ _ _ _ _ _ _ us its h1 h2 => match us, its, h1, h2 with | [_], [_], _, _ => ⟨_, rfl, rfl⟩) (fun _ _ _ _ _ _ _ us its ws h1 h2 h3 => match us, its, ws, h1, h2, h3 with | [_], [_], [_], _, _, _ => ⟨_, rfl, rfl⟩)
  cl_InvalidWidth := adr_mg (x := "InvalidWidth") (exb_mg X G (kd.ex (KD[53]'(by decide)) (List.getElem_mem (by decide))))
  xc_InvalidWord := let ⟨fd, F⟩ := (c.at (fa := []) (fn := fn2) 2).def_ 3 (d := dx_InvalidWord) rfl; exC_of (x := "InvalidWord") X G (kd.ex (KD[36]'(by decide)) (List.getElem_mem (by decide))) F (by exact ⟨rfl, rfl, rfl, by decide +kernel, rfl, by decide +kernel, by decide +kernel⟩) rfl rfl (fun _ _ _ _ _ _ _ us its h1 h2 => match us, its, h1, h2 with | [_, _], [_], _, _ => ⟨_, rfl, rfl⟩) (fun _ _ _ _ _ _ _ us its h1 h2 => match us, its, h1, h2 with | [_], [_], _, _ => ⟨_, rfl, rfl⟩) (fun _ _ _ _ _ _ _ us its ws h1 h2 h3 => match us, its, ws, h1, h2, h3 with | [_], [_], [_], _, _, _ => ⟨_, rfl, rfl⟩)
  cl_InvalidWord := adr_mg (x := "InvalidWord") (exb_mg X G (kd.ex (KD[36]'(by decide)) (List.getElem_mem (by decide))))
  xc_NotBound := let ⟨fd, F⟩ := (c.at (fa := []) (fn := fn2) 2).def_ 23 (d := dx_NotBound) rfl; exC_of (x := "NotBound") X G (kd.ex (KD[58]'(by decide)) (List.getElem_mem (by decide))) F (by exact ⟨rfl, rfl, rfl, by decide +kernel, rfl, by decide +kernel, by decide +kernel⟩) rfl rfl (fun _ _ _ _ _ _ _ us its h1 h2 => match us, its, h1, h2 with | [_, _], [_], _, _ => ⟨_, rfl, rfl⟩) (fun _ _ _ _ _ _ _ us its h1 h2 => match us, its, h1, h2 with | [_], [_], _, _ => ⟨_, rfl, rfl⟩) (fun _ _ _ _ _ _ _ us its ws h1 h2 h3 => match us, its, ws, h1, h2, h3 with | [_], [_], [_], _, _, _ => ⟨_, rfl, rfl⟩)
  cl_NotBound := adr_mg (x := "NotBound") (exb_mg X G (kd.ex (KD[58]'(by decide)) (List.getElem_mem (by decide))))
  xc_NotTaken := let ⟨fd, F⟩ := (c.at (fa := []) (fn := fn2) 2).def_ 26 (d := dx_NotTaken) rfl; exC_of (x := "NotTaken") X G (kd.ex (KD[61]'(by decide)) (List.getElem_mem (by decide))) F (by exact ⟨rfl, rfl, rfl, by decide +kernel, rfl, by decide +kernel, by decide +kernel⟩) rfl rfl (fun _ _ _ _ _ _ _ us its h1 h2 => match us, its, h1, h2 with | [_, _], [_], _, _ => ⟨_, rfl, rfl⟩) (fun _ _ _ _ _ _ _ us its h1 h2 => match us, its, h1, h2 with | [_], [_], _, _ => ⟨_, rfl, rfl⟩) (fun _ _ _ _ _ _ _ us its ws h1 h2 h3 => match us, its, ws, h1, h2, h3 with | [_], [_], [_], _, _, _ => ⟨_, rfl, rfl⟩)
  cl_NotTaken := adr_mg (x := "NotTaken") (exb_mg X G (kd.ex (KD[61]'(by decide)) (List.getElem_mem (by decide))))
  xb_NothingToRedo := exB_of (x := "NothingToRedo") X G (kd.ex (KD[39]'(by decide)) (List.getElem_mem (by decide)))
  cl_NothingToRedo := adr_mg (x := "NothingToRedo") (exb_mg X G (kd.ex (KD[39]'(by decide)) (List.getElem_mem (by decide))))
  xb_NothingToUndo := exB_of (x := "NothingToUndo") X G (kd.ex (KD[38]'(by decide)) (List.getElem_mem (by decide)))
  cl_NothingToUndo := adr_mg (x := "NothingToUndo") (exb_mg X G (kd.ex (KD[38]'(by decide)) (List.getElem_mem (by decide))))
  xc_TooMany := let ⟨fd, F⟩ := (c.at (fa := []) (fn := fn2) 2).def_ 4 (d := dx_TooMany) rfl; exC_of (x := "TooMany") X G (kd.ex (KD[37]'(by decide)) (List.getElem_mem (by decide))) F (by exact ⟨rfl, rfl, rfl, by decide +kernel, rfl, by decide +kernel, by decide +kernel⟩) rfl rfl (fun _ _ _ _ _ _ _ us its h1 h2 => match us, its, h1, h2 with | [_, _], [_], _, _ => ⟨_, rfl, rfl⟩) (fun _ _ _ _ _ _ _ us its h1 h2 => match us, its, h1, h2 with | [_], [_], _, _ => ⟨_, rfl, rfl⟩) (fun _ _ _ _ _ _ _ us its ws h1 h2 h3 => match us, its, ws, h1, h2, h3 with | [_], [_], [_], _, _, _ => ⟨_, rfl, rfl⟩)
  cl_TooMany := adr_mg (x := "TooMany") (exb_mg X G (kd.ex (KD[37]'(by decide)) (List.getElem_mem (by decide))))
  xc_Unread := let ⟨fd, F⟩ := (c.at (fa := []) (fn := fn1) 1).def_ 24 (d := dx_Unread) rfl; exC_of (x := "Unread") X G (kd.ex (KD[25]'(by decide)) (List.getElem_mem (by decide))) F (by exact ⟨rfl, rfl, rfl, by decide +kernel, rfl, by decide +kernel, by decide +kernel⟩) rfl rfl (fun _ _ _ _ _ _ _ us its h1 h2 => match us, its, h1, h2 with | [_, _], [_], _, _ => ⟨_, rfl, rfl⟩) (fun _ _ _ _ _ _ _ us its h1 h2 => match us, its, h1, h2 with | [_], [_], _, _ => ⟨_, rfl, rfl⟩) (fun _ _ _ _ _ _ _ us its ws h1 h2 h3 => match us, its, ws, h1, h2, h3 with | [_], [_], [_], _, _, _ => ⟨_, rfl, rfl⟩)
  cl_Unread := adr_mg (x := "Unread") (exb_mg X G (kd.ex (KD[25]'(by decide)) (List.getElem_mem (by decide))))
  }
theorem theLaw {P : Program} {w : World} {K : PySem.W.Frag} {h : Heap} {mg : Str → Option Value} {f : Addr} (X : K.In h) (G : h.Ns mainGlobals mg) (hfa : mg ("law" : Str) = some (.ref f)) (c : SaysL pcs cks K) :
    ∃ fd : FuncData, (∀ (s : Shared) (v : Value), BindsTo s fd ⟨[v], []⟩ [("script", v)]) ∧ ∀ base : Heap, K.In base → base.Ns mainGlobals mg → FnG P w K mg base 5 f fd ["script"] (spM K mg 1 m_law) := by
  obtain ⟨fd, F⟩ := (c.at (fa := fa) (fn := fn0) 0).def_ 11 (d := d_law) rfl
  have e := hfa.symm.trans (He.glo_ok X G ((c.at 0).fact 11 (f := .glo "law") rfl))
  cases e
  refine ⟨fd, fun s v => FunD.bindsA (ps := ["script"]) F (fun _ _ _ _ _ _ us hl => match us, hl with | [_], _ => rfl) s [v] rfl, fun base _ _ => ?_⟩
  obtain ⟨f', fd', h1, h2, h3⟩ := (c_law (P := P) (w := w) (base := base) (facts X G c)).ex
  rw [hfa] at h1
  cases h1
  have e2 : fd' = fd := by
    obtain ⟨_, _, _, _, _, _, _, _, _, _, e3, k3, _⟩ := h2.ex
    obtain ⟨_, _, _, _, _, _, _, _, _, _, e4, k4, _⟩ := F.ex
    have k5 := k3.symm.trans k4
    have z := congrArg (fun o : Option Obj => o.map (·.data)) k5
    simp only [Option.map_some, Option.some.injEq, Data.func.injEq] at z
    exact z
  rw [← e2]
  exact h3
end K01
end
section
set_option Elab.async false
set_option linter.all false
set_option maxRecDepth 100000
set_option autoImplicit false
/-! ### plain reasoning about evaluators: one step by a rule each; heaps that grow -/
namespace HC
open PySem PySem.Spec L2 PyProof.Rows
section
variable {env env1 env2 env3 : Env} {h h1 h2 h3 h4 : Hs} {a b c : Ev} {d d1 d2 r : D} {ds es : List D} {av : Av} {α β : Type}
theorem u_var {i : Nat} (e : env[i]? = some (some d)) : eVar i env h = .ok d h := by unfold eVar; rw [e]
theorem u_C : eC d env h = .ok d h := rfl
theorem u_1 {f : Hs → D → Rs D} (e1 : a env h = .ok d h1) (e2 : f h1 d = .ok r h2) : HC.e1 f a env h = .ok r h2 := by unfold HC.e1; rw [e1]; exact e2
theorem u_2 {f : Hs → D → D → Rs D} (e1 : a env h = .ok d1 h1) (e2 : b env h1 = .ok d2 h2) (e3 : f h2 d1 d2 = .ok r h3) : HC.e2 f a b env h = .ok r h3 := by
  unfold HC.e2; rw [e1]; show (b env h1).bind _ = _; rw [e2]; exact e3
theorem u_N {f : Hs → List D → Rs D} (e1 : av env h = .ok ds h1) (e2 : f h1 ds = .ok r h2) : eN f av env h = .ok r h2 := by unfold eN; rw [e1]; exact e2
theorem u_nil : aNil env h = .ok [] h := rfl
theorem u_cons (e1 : a env h = .ok d h1) (e2 : av env h1 = .ok ds h2) : aCons a av env h = .ok (d :: ds) h2 := by unfold aCons; rw [e1]; show (av env h1).bind _ = _; rw [e2]; rfl
theorem u_call {m : Fn} {dds : List D} (e1 : av env h = .ok ds h1) (e2 : m (ds ++ dds) h1 = .ok r h2) : eCall m dds av env h = .ok r h2 := by unfold eCall; rw [e1]; exact e2
theorem u_call0 {m : Fn} (e1 : av env h = .ok ds h1) (e2 : m ds h1 = .ok r h2) : eCall m [] av env h = .ok r h2 := u_call e1 (by rw [List.append_nil]; exact e2)
theorem u_tup (e1 : av env h = .ok ds h1) : eTup av env h = .ok (.tup .ex ds) h1 := by unfold eTup; rw [e1]; rfl
theorem u_mk {o : O} (hr : h.sz < room) : mk o h = .ok (.ref h.sz) (h.push o) := if_pos hr
theorem u_lst (e1 : av env h = .ok ds h1) (hr : h1.sz < room) : eLst av env h = .ok (.ref h1.sz) (h1.push (.lst ds)) := by unfold eLst; rw [e1]; exact u_mk hr
theorem u_tV (e1 : a env h = .ok (.bl true) h1) : tV a env h = .ok true h1 := by unfold tV; rw [e1]; rfl
theorem u_tVb {k : Bool} (e1 : a env h = .ok (.bl k) h1) : tV a env h = .ok k h1 := by unfold tV; rw [e1]; rfl
theorem u_tNt {t : Tv} {k : Bool} (e1 : t env h = .ok k h1) : tNt t env h = .ok (!k) h1 := by unfold tNt; rw [e1]; rfl
theorem u_tAnF {t u : Tv} (e1 : t env h = .ok false h1) : tAn t u env h = .ok false h1 := by unfold tAn; rw [e1]; rfl
theorem u_tAnT {t u : Tv} {k : Bool} (e1 : t env h = .ok true h1) (e2 : u env h1 = .ok k h2) : tAn t u env h = .ok k h2 := by unfold tAn; rw [e1]; exact e2
theorem u_tOoT {t u : Tv} (e1 : t env h = .ok true h1) : tOo t u env h = .ok true h1 := by unfold tOo; rw [e1]; rfl
theorem u_tOoF {t u : Tv} {k : Bool} (e1 : t env h = .ok false h1) (e2 : u env h1 = .ok k h2) : tOo t u env h = .ok k h2 := by unfold tOo; rw [e1]; exact e2
theorem u_eAnT (e1 : a env h = .ok (.bl true) h1) (e2 : b env h1 = .ok d h2) : eAn a b env h = .ok d h2 := by unfold eAn; rw [u_tV e1]; exact e2
theorem u_eAnF (e1 : a env h = .ok (.bl false) h1) : eAn a b env h = .ok (.bl false) h1 := by unfold eAn; rw [u_tVb e1]; rfl
/-! statements -/
theorem u_seq {s t : Sv} (e : s env h = some (.nx, env1, h1)) : sSeq s t env h = t env1 h1 := by unfold sSeq; rw [e]
theorem u_seqR {s t : Sv} (e : s env h = some (.rt d, env1, h1)) : sSeq s t env h = some (.rt d, env1, h1) := by unfold sSeq; rw [e]
theorem u_ifT {t : Tv} {s u : Sv} (e : t env h = .ok true h1) : sIf t s u env h = s env h1 := by unfold sIf sOf; rw [e]; rfl
theorem u_ifF {t : Tv} {s u : Sv} (e : t env h = .ok false h1) : sIf t s u env h = u env h1 := by unfold sIf sOf; rw [e]; rfl
theorem u_asg {i : Nat} (e : a env h = .ok d h1) : sAsg a (gN i) env h = some (.nx, env.set i (some d), h1) := by unfold sAsg sOf; rw [e]; rfl
theorem u_ret (e : a env h = .ok d h1) : sRet a env h = some (.rt d, env, h1) := by unfold sRet sOf; rw [e]
theorem u_drop (e : a env h = .ok d h1) : sDrop a env h = some (.nx, env, h1) := by unfold sDrop sOf; rw [e]
theorem u_next : sNext env h = some (.nx, env, h) := rfl
theorem u_run {n : Nat} {sv : Sv} (e : sv (env0 n ds) h = some (.rt d, env1, h1)) : runBody n sv ds h = .ok d h1 := by unfold runBody; rw [e]
theorem u_for {it : Iv} {tg : Tg} {s : Sv} {wk : Wk} (e : it env h = .ok wk h1) : sFor it tg s env h = forW wk tg s turns 0 env h1 := by unfold sFor sOf; rw [e]
theorem u_comp {own : List Nat} {it : Iv} {tg : Tg} {tt : Tv} {el : Ev} {wk : Wk} (e1 : it env h = .ok wk h1) (e2 : compW wk tg tt el (wipeE env own) turns 0 h1 = some (ds, h2)) (hr : h2.sz < room) : eComp own it tg tt el env h = .ok (.ref h2.sz) (h2.push (.lst ds)) := by
  unfold eComp; rw [e1]; show (match compW wk tg tt el (wipeE env own) turns 0 h1 with | some (ts, h2) => mk (.lst ts) h2 | none => .no) = _; rw [e2]; exact u_mk hr
end
/-! ### heaps that grow -/
structure Ext (h h' : Hs) : Prop where
  le : h.sz ≤ h'.sz
  ms : h'.mks = h.mks
  eq : ∀ i, i < h.sz → h'.get i = h.get i
section
variable {h h1 h2 : Hs} {o : O} {i : Nat}
theorem Ext.refl : Ext h h := ⟨Nat.le_refl _, rfl, fun _ _ => rfl⟩
theorem Ext.trans (a : Ext h h1) (b : Ext h1 h2) : Ext h h2 := ⟨Nat.le_trans a.le b.le, b.ms.trans a.ms, fun i hi => (b.eq i (Nat.lt_of_lt_of_le hi a.le)).trans (a.eq i hi)⟩
theorem Ext.get (a : Ext h h1) (e : h.get i = some o) : h1.get i = some o := (a.eq i (Hs.get_lt e).1).trans e
theorem Ext.push (hr : h.sz < room) : Ext h (h.push o) := ⟨Nat.le_succ _, rfl, fun i hi => Hs.get_push_ne hr (by omega)⟩
theorem push_sz : (h.push o).sz = h.sz + 1 := rfl
theorem set_sz {i : Nat} : (h.set i o).sz = h.sz := rfl
end
mutual
/-- how long a text of plain data is at most -/
def pwR : PyData → Nat
  | .none => 4
  | .bool _ => 5
  | .int _ => 1921
  | .str x => 10 * x.length + 2
  | .list xs => pwRs xs + 3
  | .tuple xs => pwRs xs + 3
  | .dict kvs => pwRk kvs + 3
def pwRs : List PyData → Nat
  | [] => 0
  | x :: xs => pwR x + 2 + pwRs xs
def pwRk : List (PyData × PyData) → Nat
  | [] => 0
  | (k, v) :: xs => pwR k + 2 + pwR v + 2 + pwRk xs
end
theorem listText_most (ts : List Str) : (listText ts).length ≤ piled ts + 2 := by
  unfold listText
  rw [strLen_append]
  have z1 : ((("]" : String) : Str)).length = 1 := rfl
  rw [z1]
  cases ts with
  | nil => exact Nat.le_of_eq rfl
  | cons t r =>
    show (textFrom 1 (("[" : Str) ++ (("" : String) : Str) ++ t) r).length + 1 ≤ _
    rw [textFrom_length_pos r 1 _ (by decide), strLen_append, strLen_append, piled_cons]
    have z2 : ((("[" : String) : Str)).length = 1 := rfl
    have z3 : ((("" : String) : Str)).length = 0 := rfl
    rw [z2, z3]
    omega
theorem tupleText_most (ts : List Str) : (tupleText ts).length ≤ piled ts + 3 := by
  unfold tupleText
  rw [strLen_append, strLen_append]
  have z1 : ((("(" : String) : Str)).length = 1 := rfl
  have z3 : (((if ts.length == 1 then ",)" else ")" : String) : Str)).length ≤ 2 := by split <;> decide
  rw [z1]
  by_cases h : ts = []
  · subst h
    have z4 : (Str.join ", " []).length = 0 := rfl
    rw [z4]
    simp only [piled_nil]
    omega
  · have := join_length_add ts h
    omega
theorem dictText_most (ts : List Str) : (dictText ts).length ≤ piled ts + 2 := by
  unfold dictText
  rw [strLen_append, strLen_append]
  have z1 : ((("{" : String) : Str)).length = 1 := rfl
  have z2 : ((("}" : String) : Str)).length = 1 := rfl
  rw [z1, z2]
  by_cases h : ts = []
  · subst h
    have z4 : (Str.join ", " []).length = 0 := rfl
    rw [z4]
    simp only [piled_nil]
    omega
  · have := join_length_add ts h
    omega
theorem cps_small {x : Str} (h : PyData.strOk x = true) : ∀ c ∈ x.cps.toList, c < 16 ^ 8 := by
  unfold PyData.strOk at h
  intro c hc
  rw [Array.all_eq_true'] at h
  have := h c (by simpa using hc)
  simp at this
  omega
mutual
/-- every text in it may stand -/
def okR : PyData → Bool
  | .str x => PyData.strOk x
  | .int i => decide (i.natAbs.log2 < 1920)
  | .list xs => okRs xs
  | .tuple xs => okRs xs
  | .dict kvs => okRk kvs
  | _ => true
def okRs : List PyData → Bool
  | [] => true
  | x :: xs => okR x && okRs xs
def okRk : List (PyData × PyData) → Bool
  | [] => true
  | (k, v) :: xs => okR k && (okR v && okRk xs)
end
mutual
theorem shown_most : ∀ p : PyData, okR p = true → p.showable = true ∧ p.shown.length ≤ pwR p
  | .none, _ => ⟨rfl, by decide⟩
  | .bool b, _ => ⟨rfl, by cases b <;> decide⟩
  | .int i, h => by
    simp only [okR, decide_eq_true_eq] at h
    exact ⟨by simpa [PyData.showable] using h, int_text_len_1921 h⟩
  | .str x, h => ⟨rfl, StrLaws.reprText_len x (cps_small (by simpa [okR] using h))⟩
  | .list xs, h => by
    simp only [okR] at h
    have ⟨a, b⟩ := shownAll_most xs h
    have := listText_most (PyData.shownAll xs)
    refine ⟨by simpa only [PyData.showable] using a, ?_⟩
    simp only [PyData.shown, pwR]
    omega
  | .tuple xs, h => by
    simp only [okR] at h
    have ⟨a, b⟩ := shownAll_most xs h
    have := tupleText_most (PyData.shownAll xs)
    refine ⟨by simpa only [PyData.showable] using a, ?_⟩
    simp only [PyData.shown, pwR]
    omega
  | .dict kvs, h => by
    simp only [okR] at h
    have ⟨a, b⟩ := shownKv_most kvs h
    have := dictText_most (PyData.shownKv kvs)
    refine ⟨by simpa only [PyData.showable] using a, ?_⟩
    simp only [PyData.shown, pwR]
    omega
theorem shownAll_most : ∀ xs : List PyData, okRs xs = true → PyData.showableAll xs = true ∧ piled (PyData.shownAll xs) ≤ pwRs xs
  | [], _ => ⟨rfl, Nat.le_refl _⟩
  | x :: xs, h => by
    simp only [okRs, Bool.and_eq_true] at h
    have h1 := shown_most x h.1
    have h2 := shownAll_most xs h.2
    refine ⟨by simp only [PyData.showableAll, h1.1, h2.1, Bool.and_self], ?_⟩
    have := h1.2
    have := h2.2
    simp only [PyData.shownAll, piled_cons, pwRs]
    omega
theorem shownKv_most : ∀ xs : List (PyData × PyData), okRk xs = true → PyData.showableKv xs = true ∧ piled (PyData.shownKv xs) ≤ pwRk xs
  | [], _ => ⟨rfl, Nat.le_refl _⟩
  | (k, v) :: xs, h => by
    simp only [okRk, Bool.and_eq_true] at h
    have h1 := shown_most k h.1
    have h3 := shown_most v h.2.1
    have h2 := shownKv_most xs h.2.2
    refine ⟨by simp only [PyData.showableKv, h1.1, h2.1, h3.1, Bool.and_self], ?_⟩
    have := h1.2
    have := h2.2
    have := h3.2
    have e : (((": " : String) : Str)).length = 2 := rfl
    simp only [PyData.shownKv, piled_cons, pwRk, strLen_append, e]
    omega
end
/-! what a value shows, seen in a heap that has grown -/
theorem mapO_imp {α β : Type} {f g : α → Option β} (h : ∀ a b, f a = some b → g a = some b) : ∀ {xs : List α} {ys : List β}, mapO f xs = some ys → mapO g xs = some ys
  | [], _, e => e
  | x :: xs, _, e => by
    unfold mapO at e ⊢
    split at e
    · cases e
    · rename_i p e1
      split at e
      · cases e
      · rename_i ps e2
        cases e
        rw [h _ _ e1, mapO_imp h e2]
theorem vwR_ext {h h' : Hs} (x : Ext h h') : ∀ (n : Nat) (d : D) (p : PyData), vwR h n d = some p → vwR h' n d = some p
  | 0, d, p, e => e
  | n + 1, d, p, e => by
    have ih := vwR_ext x n
    cases d with
    | tup t xs =>
      simp only [vwR] at e ⊢
      split at e
      · rename_i ps e1; rw [mapO_imp ih e1]; exact e
      · cases e
    | rl xs =>
      simp only [vwR] at e ⊢
      split at e
      · rename_i ps e1; rw [mapO_imp ih e1]; exact e
      · cases e
    | ref c =>
      simp only [vwR] at e ⊢
      split at e
      · rename_i xs g
        rw [x.get g]
        dsimp only
        split at e
        · rename_i ps e1; rw [mapO_imp ih e1]; exact e
        · cases e
      · rename_i kvs g
        rw [x.get g]
        dsimp only
        split at e
        · rename_i ps e1; rw [mapO_imp ih e1]; exact e
        · cases e
      · cases e
    | _ => exact e
theorem vw_ext {h h' : Hs} (x : Ext h h') : ∀ (n : Nat) (d : D) (p : PyData), vw h n d = some p → vw h' n d = some p
  | 0, d, p, e => e
  | n + 1, d, p, e => by
    have ih := vw_ext x n
    cases d with
    | tup t xs =>
      simp only [vw] at e ⊢
      split at e
      · rename_i ps e1; rw [mapO_imp ih e1]; exact e
      · cases e
    | rl xs =>
      simp only [vw] at e ⊢
      split at e
      · rename_i ps e1; rw [mapO_imp ih e1]; exact e
      · cases e
    | ref c =>
      simp only [vw] at e ⊢
      split at e
      · rename_i xs g
        rw [x.get g]
        dsimp only
        split at e
        · rename_i ps e1; rw [mapO_imp ih e1]; exact e
        · cases e
      · cases e
    | _ => exact e
end HC
end
section
set_option Elab.async false
set_option linter.all false
set_option maxRecDepth 100000
set_option autoImplicit false
namespace HC
open PySem PySem.Spec L2 PyProof.Rows
/-! ### walks over items that stay -/
def Walks (wk : Wk) (h : Hs) (xs : List D) : Prop := ∀ h1, Ext h h1 → ∀ i, wk h1 i = match xs[i]? with
  | some d => .it d
  | none => .st
theorem walks_cell {h : Hs} {c : Nat} {xs : List D} (g : h.get c = some (.lst xs)) : Walks (wkC c) h xs := fun h1 x i => by
  unfold wkC
  first
  | (rw [x.get g]; done)
  | (rw [x.get g]; dsimp only; cases xs[i]? <;> rfl)
theorem walks_list {h : Hs} {xs : List D} : Walks (wkL xs) h xs := fun h1 x i => rfl
theorem walks_range {h : Hs} {lo : Int} {n : Nat} : Walks (wkR lo n) h ((List.range n).map fun i => D.int (lo + (i : Nat))) := fun h1 x i => by
  unfold wkR
  rw [List.getElem?_map]
  by_cases hi : i < n
  · rw [if_pos hi, List.getElem?_range hi]; rfl
  · rw [if_neg hi, List.getElem?_eq_none (by rw [List.length_range]; omega)]; rfl
theorem Walks.ext {wk : Wk} {h h' : Hs} {xs : List D} (w : Walks wk h xs) (x : Ext h h') : Walks wk h' xs := fun h1 y => w h1 (x.trans y)
section
variable {wk : Wk} {tg : Tg} {tt : Tv} {el : Ev} {env : Env} {h : Hs} {xs : List D}
/-- each item gives a value -/
theorem compW_map {P : Nat → D → Hs → Prop} {k : Nat} (hw : Walks wk h xs) (mono : ∀ i r h1 h2, Ext h1 h2 → P i r h1 → P i r h2)
    (step : ∀ i d h1, xs[i]? = some d → Ext h h1 → h1.sz ≤ h.sz + k * i → ∃ env1 h2 r h3, tg d env = some env1 ∧ tt env1 h1 = .ok true h2 ∧ el env1 h2 = .ok r h3 ∧ Ext h1 h3 ∧ h3.sz ≤ h1.sz + k ∧ P i r h3) :
    ∀ (fuel i : Nat) (h1 : Hs), xs.length < fuel + i → i ≤ xs.length → Ext h h1 → h1.sz ≤ h.sz + k * i → ∃ ts h', compW wk tg tt el env fuel i h1 = some (ts, h') ∧ Ext h1 h' ∧ h'.sz ≤ h.sz + k * xs.length ∧ ts.length = xs.length - i ∧ ∀ j r, ts[j]? = some r → P (i + j) r h'
  | 0, i, h1, hl, hi, _, _ => absurd hl (by omega)
  | n + 1, i, h1, hl, hi, x, hs => by
    have e := hw h1 x i
    unfold compW
    rw [e]
    cases q : xs[i]? with
    | none =>
      have hz := List.getElem?_eq_none_iff.mp q
      have ei : i = xs.length := by omega
      subst ei
      exact ⟨[], h1, rfl, .refl, hs, by simp, fun j r z => by simp at z⟩
    | some d =>
      have hi2 : i < xs.length := (List.getElem?_eq_some_iff.mp q).1
      obtain ⟨env1, h2, r, h3, a1, a2, a3, a4, a5, a6⟩ := step i d h1 q x hs
      have hs3 : h3.sz ≤ h.sz + k * (i + 1) := by rw [Nat.mul_add, Nat.mul_one]; omega
      obtain ⟨ts, h', b1, b2, b3, b4, b5⟩ := compW_map hw mono step n (i + 1) h3 (by omega) hi2 (x.trans a4) hs3
      dsimp only
      rw [a1]
      dsimp only
      rw [a2]
      dsimp only
      rw [a3]
      dsimp only
      rw [b1]
      refine ⟨r :: ts, h', rfl, a4.trans b2, b3, by rw [List.length_cons, b4]; omega, fun j r' z => ?_⟩
      cases j with
      | zero => cases z; exact mono _ _ _ _ b2 a6
      | succ j =>
        have := b5 j r' (by simpa using z)
        rwa [show i + (j + 1) = i + 1 + j by omega]
/-- no item is kept -/
theorem compW_drop {k : Nat} (hw : Walks wk h xs) (step : ∀ i d h1, xs[i]? = some d → Ext h h1 → h1.sz ≤ h.sz + k * i → ∃ env1 h2, tg d env = some env1 ∧ tt env1 h1 = .ok false h2 ∧ Ext h1 h2 ∧ h2.sz ≤ h1.sz + k) :
    ∀ (fuel i : Nat) (h1 : Hs), xs.length < fuel + i → i ≤ xs.length → Ext h h1 → h1.sz ≤ h.sz + k * i → ∃ h', compW wk tg tt el env fuel i h1 = some ([], h') ∧ Ext h1 h' ∧ h'.sz ≤ h.sz + k * xs.length
  | 0, i, h1, hl, hi, _, _ => absurd hl (by omega)
  | n + 1, i, h1, hl, hi, x, hs => by
    have e := hw h1 x i
    unfold compW
    rw [e]
    cases q : xs[i]? with
    | none =>
      have hz := List.getElem?_eq_none_iff.mp q
      have ei : i = xs.length := by omega
      subst ei
      exact ⟨h1, rfl, .refl, hs⟩
    | some d =>
      have hi2 : i < xs.length := (List.getElem?_eq_some_iff.mp q).1
      obtain ⟨env1, h2, a1, a2, a4, a5⟩ := step i d h1 q x hs
      have hs3 : h2.sz ≤ h.sz + k * (i + 1) := by rw [Nat.mul_add, Nat.mul_one]; omega
      obtain ⟨h', b1, b2, b3⟩ := compW_drop hw step n (i + 1) h2 (by omega) hi2 (x.trans a4) hs3
      dsimp only
      rw [a1]
      dsimp only
      rw [a2]
      dsimp only
      exact ⟨h', b1, a4.trans b2, b3⟩
/-- what is kept, nothing made -/
theorem compW_pure {b : D → Bool} {v : D → D} (hw : Walks wk h xs) (step : ∀ d, d ∈ xs → ∃ env1, tg d env = some env1 ∧ tt env1 h = .ok (b d) h ∧ (b d = true → el env1 h = .ok (v d) h)) :
    ∀ (fuel i : Nat), xs.length < fuel + i → i ≤ xs.length → compW wk tg tt el env fuel i h = some (((xs.drop i).filter b).map v, h)
  | 0, i, hl, hi => absurd hl (by omega)
  | n + 1, i, hl, hi => by
    have e := hw h .refl i
    unfold compW
    rw [e]
    cases q : xs[i]? with
    | none =>
      have hz := List.getElem?_eq_none_iff.mp q
      rw [List.drop_eq_nil_of_le hz]
      rfl
    | some d =>
      obtain ⟨hi2, ed⟩ := List.getElem?_eq_some_iff.mp q
      obtain ⟨env1, a1, a2, a3⟩ := step d (List.mem_of_getElem? q)
      have ih := compW_pure (b := b) (v := v) hw step n (i + 1) (by omega) hi2
      rw [List.drop_eq_getElem_cons hi2, ed]
      dsimp only
      rw [a1]
      dsimp only
      rw [a2]
      cases hb : b d with
      | true =>
        dsimp only
        rw [a3 hb]
        dsimp only
        rw [ih, List.filter_cons_of_pos hb]
        rfl
      | false =>
        dsimp only
        rw [ih, List.filter_cons_of_neg (by rw [hb]; decide)]
end
/-! loops, turn by turn -/
section
variable {wk : Wk} {tg : Tg} {s : Sv} {env env1 env2 : Env} {h h2 : Hs} {d r : D} {i n : Nat}
theorem u_forSt (e1 : wk h i = .st) : forW wk tg s (n + 1) i env h = some (.nx, env, h) := by unfold forW; rw [e1]
theorem u_forIt (e1 : wk h i = .it d) (e2 : tg d env = some env1) (e3 : s env1 h = some (.nx, env2, h2)) : forW wk tg s (n + 1) i env h = forW wk tg s n (i + 1) env2 h2 := by
  conv => lhs; unfold forW
  rw [e1]; dsimp only; rw [e2]; dsimp only; rw [e3]
theorem u_forR (e1 : wk h i = .it d) (e2 : tg d env = some env1) (e3 : s env1 h = some (.rt r, env2, h2)) : forW wk tg s (n + 1) i env h = some (.rt r, env2, h2) := by
  unfold forW
  rw [e1]; dsimp only; rw [e2]; dsimp only; rw [e3]
theorem turns2 : turns = 65534 + 1 + 1 := rfl
end
end HC
end
section
set_option Elab.async false
set_option linter.all false
set_option maxRecDepth 100000
set_option maxHeartbeats 2000000
set_option autoImplicit false
namespace K01
open PySem L2 PyProof.Rows HC
/-! ### the purse -/
theorem log2_lt' {n k : Nat} (h : n < 2 ^ k) (hk : 0 < k) : n.log2 < k := by
  by_cases hn : n = 0
  · subst hn; simpa using hk
  · exact (Nat.log2_lt hn).mpr h
theorem cmul {a b : Int} (ha : a.natAbs < 2 ^ 250) (hb : b.natAbs < 2 ^ 250) : CMulW a b := by
  unfold CMulW
  have h1 := log2_lt' ha (by decide)
  have h2 := log2_lt' hb (by decide)
  omega
theorem cdiv {a b : Int} (hb : 0 < b) (hb' : b.natAbs < 2 ^ 250) : CDivW a b := ⟨hb, by have := log2_lt' hb' (by decide); omega⟩
theorem mul_big {a b : Int} {m n : Nat} (ha : a.natAbs < 2 ^ m) (hb : b.natAbs < 2 ^ n) : (a * b).natAbs < 2 ^ (m + n) := by
  rw [Int.natAbs_mul, Nat.pow_add]
  have h1 : 0 < 2 ^ m := Nat.pow_pos (by decide)
  have h2 : 0 < 2 ^ n := Nat.pow_pos (by decide)
  exact Nat.lt_of_le_of_lt (Nat.mul_le_mul_right _ (Nat.le_of_lt ha)) ((Nat.mul_lt_mul_left h1).mpr hb)
theorem e_mixed {s c d : Int} {h : Hs} (hs : 0 ≤ s) (hs' : s < 2147483629) (hc : 0 ≤ c) (hc' : c < 2 ^ 60) (hd : 0 ≤ d) (hd' : d < 100) : ∃ r, m_law_mixed [.int s, .int c, .int d] h = .ok (.int r) h ∧ 0 ≤ r ∧ r < 2147483587 := by
  have n1 : s.natAbs < 2 ^ 32 := by omega
  have n2 : c.natAbs < 2 ^ 60 := by omega
  have m1 : CMulW s 69069 := cmul (by omega) (by decide)
  have m2 : CMulW 104729 c := cmul (by decide) (by omega)
  have n3 : (104729 * c).natAbs < 2 ^ (17 + 60) := mul_big (by decide) n2
  have m3 : CMulW (104729 * c) c := cmul (by omega) (by omega)
  have m4 : CMulW 7919 d := cmul (by decide) (by omega)
  generalize hx : s * 69069 + 104729 * c * c = x
  generalize hy : (x + 7919 * d + c) % 2147483647 = y
  have hy0 : 0 ≤ y := by rw [← hy]; exact Int.emod_nonneg _ (by decide)
  have hy1 : y < 2147483647 := by rw [← hy]; exact Int.emod_lt_of_pos _ (by decide)
  have m5 : CMulW y y := cmul (by omega) (by omega)
  generalize hz : (y * y + 40503) % 2147483629 = z
  have hz0 : 0 ≤ z := by rw [← hz]; exact Int.emod_nonneg _ (by decide)
  have hz1 : z < 2147483629 := by rw [← hz]; exact Int.emod_lt_of_pos _ (by decide)
  have m6 : CMulW z 48271 := cmul (by omega) (by decide)
  refine ⟨(z * 48271) % 2147483587, ?_, Int.emod_nonneg _ (by decide), Int.emod_lt_of_pos _ (by decide)⟩
  simp [m_law_mixed, b_law_mixed, N_law_mixed, dMul, dMod, dInt, dAdd, m1, m2, m3, m4, hx, hy, m5, hz, m6, runBody, sRet, sRetN, sSeq, sIf, sOf, sAsg, sNext, sPar, sPar3, eAn, eOo, eNt, eIf, eN, pN, eTup, eLst, HC.e1, HC.e2, p1, p2, tV, asB, tNt, tAn, tOo, eCh, aCons, aNil, eVar, eC, eSl, oNo, oAt, eCall, gN, gTpD, gConsD, gNilD, env0, Rs.bind]
theorem bits_few {m : Int} (h1 : 1 ≤ m) (h2 : m ≤ 1000) : ((Builtin.Int.intBits m : Nat) : Int) / 28 = 0 := by
  have h : m.natAbs < 2 ^ 10 := by omega
  have h3 := log2_lt' h (by decide)
  have h4 : Builtin.Int.intBits m ≤ m.natAbs.log2 + 1 := by
    unfold Builtin.Int.intBits
    split <;> omega
  omega
theorem at0 {x0 x1 x2 x3 : D} : atI [x0, x1, x2, x3] (0 : Int) = some x0 := rfl
theorem at1 {x0 x1 x2 x3 : D} : atI [x0, x1, x2, x3] (1 : Int) = some x1 := rfl
theorem at2 {x0 x1 x2 x3 : D} : atI [x0, x1, x2, x3] (2 : Int) = some x2 := rfl
theorem at3 {x0 x1 x2 x3 : D} : atI [x0, x1, x2, x3] (3 : Int) = some x3 := rfl
theorem ix40 : ixN 4 (0 : Int) = some 0 := rfl
theorem ix42 : ixN 4 (2 : Int) = some 2 := rfl
abbrev Pu (a b c d : Int) : O := .lst [.int a, .int b, .int c, .int d]
/-- a purse: what is left, a seed, a count, a place -/
def Purse (n : Nat) (t : Option O) : Prop := ∃ a b c d : Int, t = some (Pu a b c d) ∧ 0 ≤ a ∧ 0 ≤ b ∧ b < 2147483629 ∧ 0 ≤ c ∧ c ≤ n ∧ 0 ≤ d ∧ d < 100
/-- the heaps are alike but for a cell -/
structure But (c : Nat) (h h' : Hs) : Prop where
  sz : h'.sz = h.sz
  ms : h'.mks = h.mks
  eq : ∀ i, i ≠ c → h'.get i = h.get i
theorem But.refl {c : Nat} {h : Hs} : But c h h := ⟨rfl, rfl, fun _ _ => rfl⟩
theorem But.trans {c : Nat} {h h1 h2 : Hs} (a : But c h h1) (b : But c h1 h2) : But c h h2 := ⟨b.sz.trans a.sz, b.ms.trans a.ms, fun i hi => (b.eq i hi).trans (a.eq i hi)⟩
theorem But.set {c : Nat} {h : Hs} {o : O} (hc : c < room) : But c h (h.set c o) := ⟨rfl, rfl, fun i hi => Hs.get_set_ne hc hi⟩
theorem bar_free {h : Hs} {c : Nat} {o : O} (hm : h.mks = []) : h.bar c o = true := by unfold Hs.bar; rw [hm]; rfl
theorem e_draw {n c : Nat} {m : Int} {h : Hs} (hp : Purse n (h.get c)) (hk : h.mks = []) (hn : n < 2 ^ 50) (hm : 1 ≤ m) (hm' : m ≤ 1000) : ∃ r h', m_law_draw [.ref c, .int m] h = .ok (.int r) h' ∧ 0 ≤ r ∧ r < m ∧ Purse (n + 1) (h'.get c) ∧ But c h h' := by
  obtain ⟨a, b, p, d, hc, ha, hb, hb', hcc, hcn, hd, hd'⟩ := hp
  obtain ⟨hlt, hr⟩ := Hs.get_lt hc
  have hself : ∀ o : O, (h.set c o).get c = some o := fun o => Hs.get_set_self o hlt hr
  have hbar : ∀ o : O, h.bar c o = true := fun o => bar_free hk
  by_cases hpos : 0 < a
  · have k1 : CDivW a m := cdiv (by omega) (by omega)
    refine ⟨a % m, h.set c (Pu (a / m) b p d), ?_, Int.emod_nonneg _ (by omega), Int.emod_lt_of_pos _ (by omega), ⟨_, _, _, _, hself _, Int.ediv_nonneg ha (by omega), hb, hb', hcc, by omega, hd, hd'⟩, .set hr⟩
    have hm0 : 0 < m := by omega
    simp [m_law_draw, b_law_draw, N_law_draw, dGt, dMod, dInt, dFdiv, dIx2, dIx, sIx, hc, at0, ix40, hpos, hm0, k1, hbar, runBody, sRet, sRetN, sSeq, sIf, sOf, sAsg, sNext, sPar, sPar3, eAn, eOo, eNt, eIf, eN, pN, eTup, eLst, HC.e1, HC.e2, p1, p2, tV, asB, tNt, tAn, tOo, eCh, aCons, aNil, eVar, eC, eSl, oNo, oAt, eCall, gN, gTpD, gConsD, gNilD, env0, Rs.bind]
  · have k1 := bits_few hm hm'
    have k2 : CDivW ((Builtin.Int.intBits m : Nat) : Int) 28 := cdiv (by decide) (by decide)
    obtain ⟨r, hr', r1, r2⟩ := e_mixed (s := b) (c := p + 1) (d := d) (h := h.set c (Pu a b (p + 1) d)) hb hb' (by omega) (by omega) hd hd'
    have k3 : CMulW 0 2147483587 := by decide
    have hm0 : 0 < m := by omega
    refine ⟨r % m, h.set c (Pu a b (p + 1) d), ?_, Int.emod_nonneg _ (by omega), Int.emod_lt_of_pos _ (by omega), ⟨_, _, _, _, hself _, ha, hb, hb', by omega, by omega, hd, hd'⟩, .set hr⟩
    have k4 : ¬ (a > 0) := hpos
    have t1 : (∀ (wk : Wk) (tg : Tg) (s : Sv) (env : HC.Env) (g : Hs), forW wk tg s turns 0 env g = forW wk tg s (65534 + 1 + 1) 0 env g) := fun _ _ _ _ _ => rfl
    simp [m_law_draw, b_law_draw, N_law_draw, dGt, dMod, dInt, dMul, dFdiv, dBits, dAdd, dIx2, dIx, sIx, sFor, iRg1, forW, wkR, t1, hc, at0, at1, at2, at3, ix40, ix42, hpos, hm0, k1, k2, k3, hself, hr', hbar, runBody, sRet, sRetN, sSeq, sIf, sOf, sAsg, sNext, sPar, sPar3, eAn, eOo, eNt, eIf, eN, pN, eTup, eLst, HC.e1, HC.e2, p1, p2, tV, asB, tNt, tAn, tOo, eCh, aCons, aNil, eVar, eC, eSl, oNo, oAt, eCall, gN, gTpD, gConsD, gNilD, env0, Rs.bind]
end K01
end
section
set_option Elab.async false
set_option linter.all false
set_option maxRecDepth 100000
set_option maxHeartbeats 2000000
set_option autoImplicit false
namespace K01
open PySem L2 PyProof.Rows HC
/-! ### lists that grow, group by group -/
def aMk (f : Str → Ev) : List Str → Av
  | [] => aNil
  | m :: r => aCons (f m) (aMk f r)
def growS (f : Str → Ev) (j : Nat) (last : Sv) : List (List Str) → Sv
  | [] => last
  | g :: gs => sSeq (sAsg (HC.e2 dAdd (eVar j) (eLst (aMk f g))) (gN j)) (growS f j last gs)
def cost (k : Nat) : List (List Str) → Nat
  | [] => 0
  | g :: gs => k * g.length + 2 + cost k gs
section
variable {f : Str → Ev} {P : Str → D → Hs → Prop} {k : Nat} {C : HC.Env → Prop}
theorem paired_mono {h1 h2 : Hs} (mono : ∀ m r h1 h2, Ext h1 h2 → P m r h1 → P m r h2) (x : Ext h1 h2) : ∀ {ms : List Str} {rs : List D}, Paired (fun m r => P m r h1) ms rs → Paired (fun m r => P m r h2) ms rs
  | _, _, .nil => .nil
  | _, _, .cons a b => .cons (mono _ _ _ _ x a) (paired_mono mono x b)
theorem aMk_run (mono : ∀ m r h1 h2, Ext h1 h2 → P m r h1 → P m r h2) {env : HC.Env} {top : Nat} (ht : top < room) : ∀ (ms : List Str) (h : Hs), h.sz + k * ms.length ≤ top →
    (∀ m h1, m ∈ ms → Ext h h1 → h1.sz < top + 1 → ∃ r h2, f m env h1 = .ok r h2 ∧ Ext h1 h2 ∧ h2.sz ≤ h1.sz + k ∧ P m r h2) →
    ∃ rs h', aMk f ms env h = .ok rs h' ∧ Ext h h' ∧ h'.sz ≤ h.sz + k * ms.length ∧ Paired (fun m r => P m r h') ms rs
  | [], h, _, _ => ⟨[], h, rfl, .refl, Nat.le_refl _, .nil⟩
  | m :: ms, h, hs, hf => by
    rw [List.length_cons, Nat.mul_add, Nat.mul_one] at hs
    obtain ⟨r, h2, a1, a2, a3, a4⟩ := hf m h List.mem_cons_self .refl (by omega)
    obtain ⟨rs, h', b1, b2, b3, b4⟩ := aMk_run mono ht ms h2 (by omega) fun m h1 q x z => hf m h1 (List.mem_cons_of_mem _ q) (a2.trans x) z
    exact ⟨r :: rs, h', u_cons a1 b1, a2.trans b2, by rw [List.length_cons, Nat.mul_add, Nat.mul_one]; omega, .cons (mono _ _ _ _ b2 a4) b4⟩
theorem paired_app {α β : Type} {R : α → β → Prop} : ∀ {a : List α} {b : List β} {c : List α} {d : List β}, Paired R a b → Paired R c d → Paired R (a ++ c) (b ++ d)
  | _, _, _, _, .nil, q => q
  | _, _, _, _, .cons x t, q => .cons x (paired_app t q)
theorem paired_len {α β : Type} {R : α → β → Prop} : ∀ {a : List α} {b : List β}, Paired R a b → a.length = b.length
  | _, _, .nil => rfl
  | _, _, .cons _ t => by rw [List.length_cons, List.length_cons, paired_len t]
theorem paired_get {α β : Type} {R : α → β → Prop} : ∀ {a : List α} {b : List β} {i : Nat} {y : β}, Paired R a b → b[i]? = some y → ∃ x, a[i]? = some x ∧ R x y
  | _, _, _, _, .nil, e => by simp at e
  | _, _, 0, _, .cons x t, e => by simp at e; subst e; exact ⟨_, rfl, x⟩
  | _, _, i + 1, _, .cons x t, e => by
    obtain ⟨z, e1, r⟩ := paired_get (i := i) t (by simpa using e)
    exact ⟨z, by simpa using e1, r⟩
theorem grow_run (mono : ∀ m r h1 h2, Ext h1 h2 → P m r h1 → P m r h2) {last : Sv} {j top : Nat} (ht : top < room) (hC : ∀ env d, C env → C (env.set j (some d))) (hj : ∀ env, C env → j < env.length) (h0 : Hs) {S : Str → Prop}
    (hf : ∀ m env h1, S m → C env → Ext h0 h1 → h1.sz < top + 1 → ∃ r h2, f m env h1 = .ok r h2 ∧ Ext h1 h2 ∧ h2.sz ≤ h1.sz + k ∧ P m r h2) :
    ∀ (gs : List (List Str)) (ms : List Str) (env : HC.Env) (h : Hs) (c : Nat) (rs : List D), C env → Ext h0 h → env[j]? = some (some (.ref c)) → h.get c = some (.lst rs) → Paired (fun m r => P m r h) ms rs → h.sz + cost k gs ≤ top → ms.length + gs.flatten.length ≤ 1000 → (∀ m ∈ gs.flatten, S m) →
    ∃ env' h' c' rs', growS f j last gs env h = last env' h' ∧ C env' ∧ env'[j]? = some (some (.ref c')) ∧ h'.get c' = some (.lst rs') ∧ Ext h h' ∧ h'.sz ≤ h.sz + cost k gs ∧ Paired (fun m r => P m r h') (ms ++ gs.flatten) rs'
  | [], ms, env, h, c, rs, cE, x, e, g, p, _, _, _ => ⟨env, h, c, rs, rfl, cE, e, g, .refl, Nat.le_refl _, by simpa using p⟩
  | gr :: gs, ms, env, h, c, rs, cE, x, e, g, p, hs, hl, hS => by
    simp only [cost] at hs
    simp only [List.flatten_cons, List.length_append] at hl
    obtain ⟨rs1, h1, a1, a2, a3, a4⟩ := aMk_run (f := f) (k := k) mono ht gr h (by omega) fun m h1 q y z => hf m env h1 (hS m (by rw [List.flatten_cons]; exact List.mem_append_left _ q)) cE (x.trans y) z
    have r1 : h1.sz < room := by omega
    have l1 : rs.length = ms.length := (paired_len p).symm
    have l2 : rs1.length = gr.length := (paired_len a4).symm
    have x2 : Ext h1 (h1.push (.lst rs1)) := .push r1
    have g1 : (h1.push (.lst rs1)).get h1.sz = some (.lst rs1) := Hs.get_push_self _ r1
    have g0 : (h1.push (.lst rs1)).get c = some (.lst rs) := x2.get (a2.get g)
    have r2 : (h1.push (.lst rs1)).sz < room := by show h1.sz + 1 < room; omega
    have ad : dAdd (h1.push (.lst rs1)) (.ref c) (.ref h1.sz) = .ok (.ref (h1.sz + 1)) ((h1.push (.lst rs1)).push (.lst (rs ++ rs1))) := by
      unfold dAdd
      dsimp only
      rw [g0, g1]
      dsimp only
      rw [if_pos (by have : 1000 ≤ sizeLine := by decide
                     omega)]
      exact u_mk r2
    have st : sAsg (HC.e2 dAdd (eVar j) (eLst (aMk f gr))) (gN j) env h = some (.nx, env.set j (some (.ref (h1.sz + 1))), (h1.push (.lst rs1)).push (.lst (rs ++ rs1))) := u_asg (u_2 (u_var e) (u_lst a1 r1) ad)
    have x3 : Ext (h1.push (.lst rs1)) ((h1.push (.lst rs1)).push (.lst (rs ++ rs1))) := .push r2
    have x13 := x2.trans x3
    have xx := a2.trans x13
    have sz3 : ((h1.push (.lst rs1)).push (.lst (rs ++ rs1))).sz = h1.sz + 2 := rfl
    obtain ⟨env', h', c', rs', b1, b2, b3, b4, b5, b6, b7⟩ := grow_run mono (last := last) ht hC hj h0 hf gs (ms ++ gr) (env.set j (some (.ref (h1.sz + 1)))) ((h1.push (.lst rs1)).push (.lst (rs ++ rs1))) (h1.sz + 1) (rs ++ rs1) (hC _ _ cE) (x.trans xx)
      (List.getElem?_set_self (hj _ cE)) (Hs.get_push_self _ r2) (paired_app (paired_mono mono xx p) (paired_mono mono x13 a4)) (by omega) (by rw [List.length_append]; omega) (fun m q => hS m (by rw [List.flatten_cons]; exact List.mem_append_right _ q))
    refine ⟨env', h', c', rs', ?_, b2, b3, b4, xx.trans b5, by simp only [cost]; omega, by rw [List.flatten_cons, ← List.append_assoc]; exact b7⟩
    show sSeq _ _ env h = _
    rw [u_seq st, b1]
theorem grow_all (mono : ∀ m r h1 h2, Ext h1 h2 → P m r h1 → P m r h2) {last : Sv} {j top : Nat} (ht : top < room) (hC : ∀ env d, C env → C (env.set j (some d))) (hj : ∀ env, C env → j < env.length) {h : Hs} {S : Str → Prop}
    (hf : ∀ m env h1, S m → C env → Ext h h1 → h1.sz < top + 1 → ∃ r h2, f m env h1 = .ok r h2 ∧ Ext h1 h2 ∧ h2.sz ≤ h1.sz + k ∧ P m r h2) (g0 : List Str) (gs : List (List Str)) {env : HC.Env} (cE : C env) (hs : h.sz + cost k (g0 :: gs) ≤ top) (hl : (g0 ++ gs.flatten).length ≤ 1000) (hS : ∀ m ∈ g0 ++ gs.flatten, S m) :
    ∃ env' h' c' rs', sSeq (sAsg (eLst (aMk f g0)) (gN j)) (growS f j last gs) env h = last env' h' ∧ C env' ∧ env'[j]? = some (some (.ref c')) ∧ h'.get c' = some (.lst rs') ∧ Ext h h' ∧ h'.sz ≤ h.sz + cost k (g0 :: gs) ∧ Paired (fun m r => P m r h') (g0 ++ gs.flatten) rs' := by
  simp only [cost] at hs
  obtain ⟨rs1, h1, a1, a2, a3, a4⟩ := aMk_run (f := f) (k := k) mono ht g0 h (by omega) fun m h1 q y z => hf m env h1 (hS m (List.mem_append_left _ q)) cE y z
  have r1 : h1.sz < room := by omega
  have x2 : Ext h1 (h1.push (.lst rs1)) := .push r1
  have st : sAsg (eLst (aMk f g0)) (gN j) env h = some (.nx, env.set j (some (.ref h1.sz)), h1.push (.lst rs1)) := u_asg (u_lst a1 r1)
  have sz2 : (h1.push (.lst rs1)).sz = h1.sz + 1 := rfl
  obtain ⟨env', h', c', rs', b1, b2, b3, b4, b5, b6, b7⟩ := grow_run mono (last := last) ht hC hj h hf gs g0 (env.set j (some (.ref h1.sz))) (h1.push (.lst rs1)) h1.sz rs1 (hC _ _ cE) (a2.trans x2)
    (List.getElem?_set_self (hj _ cE)) (Hs.get_push_self _ r1) (paired_mono mono x2 a4) (by omega) (by rw [List.length_append] at hl; exact hl) (fun m q => hS m (List.mem_append_right _ q))
  exact ⟨env', h', c', rs', by rw [u_seq st, b1], b2, b3, b4, (a2.trans x2).trans b5, by simp only [cost]; omega, b7⟩
end
def gF0 : List Str := [("InvalidGraph" : Str), ("InvalidOtherGraph" : Str), ("InvalidGraphSteps" : Str), ("InvalidKind" : Str)]
def gF : List (List Str) := [[("InvalidForm" : Str), ("InvalidOtherForm" : Str), ("InvalidMultipliers" : Str), ("InvalidNames" : Str)], [("InvalidMost" : Str), ("InvalidCount" : Str), ("InvalidLots" : Str), ("InvalidAdders" : Str)], [("InvalidForms" : Str), ("InvalidBy" : Str), ("InvalidMany" : Str), ("InvalidMeasure" : Str)], [("InvalidBound" : Str), ("InvalidLow" : Str), ("InvalidHigh" : Str), ("InvalidAt" : Str), ("InvalidLot" : Str)], [("InvalidOtherLot" : Str), ("InvalidKept" : Str), ("InvalidProgram" : Str), ("Unread" : Str)], [("InvalidAnswer" : Str), ("InvalidInputs" : Str), ("InvalidMove" : Str), ("InvalidMoves" : Str)], [("InvalidRoad" : Str), ("InvalidOptions" : Str), ("InvalidAct" : Str), ("InvalidActs" : Str)], [("InvalidHouse" : Str), ("InvalidOtherProgram" : Str), ("InvalidWord" : Str), ("TooMany" : Str)], [("InvalidPoint" : Str), ("InvalidNumber" : Str), ("InvalidPairs" : Str), ("InvalidNumbers" : Str)], [("InvalidSets" : Str), ("InvalidRow" : Str), ("InvalidRows" : Str), ("InvalidTurn" : Str), ("InvalidRound" : Str)], [("InvalidPaper" : Str), ("InvalidStanding" : Str), ("InvalidOption" : Str), ("InvalidSteps" : Str)], [("InvalidWidth" : Str), ("InvalidPlace" : Str), ("InvalidTest" : Str), ("InvalidTree" : Str), ("InvalidText" : Str)], [("NotBound" : Str), ("InvalidOtherText" : Str), ("InvalidThing" : Str), ("NotTaken" : Str)]]
def gC0 : List Str := [("InvalidGraph" : Str), ("InvalidOtherGraph" : Str), ("InvalidGraphSteps" : Str)]
def gC : List (List Str) := [[("InvalidKind" : Str), ("InvalidForm" : Str), ("InvalidOtherForm" : Str)], [("InvalidMultipliers" : Str), ("InvalidNames" : Str), ("InvalidMost" : Str)], [("InvalidCount" : Str), ("InvalidLots" : Str), ("InvalidAdders" : Str)], [("InvalidForms" : Str), ("InvalidBy" : Str), ("InvalidMany" : Str)], [("InvalidMeasure" : Str), ("InvalidBound" : Str), ("InvalidLow" : Str)], [("InvalidHigh" : Str), ("InvalidAt" : Str), ("InvalidLot" : Str)], [("InvalidOtherLot" : Str), ("InvalidKept" : Str), ("InvalidProgram" : Str)], [("Unread" : Str), ("InvalidAnswer" : Str), ("InvalidInputs" : Str)], [("InvalidMove" : Str), ("InvalidMoves" : Str), ("InvalidRoad" : Str)], [("InvalidOptions" : Str), ("InvalidAct" : Str), ("InvalidActs" : Str)], [("InvalidHouse" : Str), ("InvalidOtherProgram" : Str), ("InvalidWord" : Str)], [("TooMany" : Str), ("InvalidPoint" : Str), ("InvalidNumber" : Str)], [("InvalidPairs" : Str), ("InvalidNumbers" : Str), ("InvalidSets" : Str)], [("InvalidRow" : Str), ("InvalidRows" : Str), ("InvalidTurn" : Str)], [("InvalidRound" : Str), ("InvalidPaper" : Str), ("InvalidStanding" : Str)], [("InvalidOption" : Str), ("InvalidSteps" : Str), ("InvalidWidth" : Str)], [("InvalidPlace" : Str), ("InvalidTest" : Str), ("InvalidTree" : Str)], [("InvalidText" : Str), ("NotBound" : Str), ("InvalidOtherText" : Str)], [("InvalidThing" : Str), ("NotTaken" : Str)]]
def gB0 : List Str := [("InvalidGraph" : Str), ("InvalidOtherGraph" : Str), ("InvalidGraphSteps" : Str), ("InvalidKind" : Str), ("InvalidForm" : Str), ("InvalidOtherForm" : Str)]
def gB : List (List Str) := [[("InvalidMultipliers" : Str), ("InvalidNames" : Str), ("InvalidMost" : Str), ("InvalidCount" : Str), ("InvalidLots" : Str), ("InvalidAdders" : Str)], [("InvalidForms" : Str), ("InvalidBy" : Str), ("InvalidMany" : Str), ("InvalidMeasure" : Str), ("InvalidBound" : Str), ("InvalidLow" : Str)], [("InvalidHigh" : Str), ("InvalidAt" : Str), ("InvalidLot" : Str), ("InvalidOtherLot" : Str), ("InvalidKept" : Str), ("InvalidProgram" : Str)], [("Unread" : Str), ("InvalidAnswer" : Str), ("InvalidInputs" : Str), ("InvalidMove" : Str), ("InvalidMoves" : Str), ("InvalidRoad" : Str)], [("InvalidOptions" : Str), ("InvalidAct" : Str), ("InvalidActs" : Str), ("InvalidHouse" : Str), ("InvalidOtherProgram" : Str), ("InvalidWord" : Str)], [("TooMany" : Str), ("InvalidPoint" : Str), ("InvalidNumber" : Str), ("InvalidPairs" : Str), ("InvalidNumbers" : Str), ("InvalidSets" : Str)], [("InvalidRow" : Str), ("InvalidRows" : Str), ("InvalidTurn" : Str), ("InvalidRound" : Str), ("InvalidPaper" : Str), ("InvalidStanding" : Str)], [("InvalidOption" : Str), ("InvalidSteps" : Str), ("InvalidWidth" : Str), ("InvalidPlace" : Str), ("InvalidTest" : Str), ("InvalidTree" : Str)], [("InvalidText" : Str), ("NotBound" : Str), ("InvalidOtherText" : Str), ("InvalidThing" : Str), ("NotTaken" : Str)]]
def gK0 : List Str := [("InvalidGraph" : Str), ("InvalidOtherGraph" : Str), ("InvalidGraphSteps" : Str)]
def gK : List (List Str) := [[("InvalidKind" : Str), ("InvalidForm" : Str), ("InvalidOtherForm" : Str)], [("InvalidMultipliers" : Str), ("InvalidNames" : Str)], [("InvalidMost" : Str), ("InvalidCount" : Str), ("InvalidLots" : Str)], [("InvalidAdders" : Str), ("InvalidForms" : Str), ("InvalidBy" : Str)], [("InvalidMany" : Str), ("InvalidMeasure" : Str), ("InvalidBound" : Str)], [("InvalidLow" : Str), ("InvalidHigh" : Str), ("InvalidAt" : Str)], [("InvalidLot" : Str), ("InvalidOtherLot" : Str), ("InvalidKept" : Str)], [("InvalidProgram" : Str), ("Unread" : Str), ("InvalidAnswer" : Str)], [("InvalidInputs" : Str), ("InvalidMove" : Str), ("InvalidMoves" : Str)], [("InvalidRoad" : Str), ("InvalidOptions" : Str), ("InvalidAct" : Str)], [("InvalidActs" : Str), ("InvalidHouse" : Str)], [("InvalidOtherProgram" : Str), ("InvalidWord" : Str), ("TooMany" : Str)], [("InvalidPoint" : Str), ("InvalidNumber" : Str), ("InvalidPairs" : Str)], [("InvalidNumbers" : Str), ("InvalidSets" : Str), ("InvalidRow" : Str)], [("InvalidRows" : Str), ("InvalidTurn" : Str), ("InvalidRound" : Str)], [("InvalidPaper" : Str), ("InvalidStanding" : Str)], [("InvalidOption" : Str), ("InvalidSteps" : Str), ("InvalidWidth" : Str)], [("InvalidPlace" : Str), ("InvalidTest" : Str), ("InvalidTree" : Str)], [("InvalidText" : Str), ("NotBound" : Str), ("InvalidOtherText" : Str)], [("InvalidThing" : Str), ("NotTaken" : Str), ("NothingToUndo" : Str)], [("NothingToRedo" : Str)]]
def NM : List Str := [("InvalidGraph" : Str), ("InvalidOtherGraph" : Str), ("InvalidGraphSteps" : Str), ("InvalidKind" : Str), ("InvalidForm" : Str), ("InvalidOtherForm" : Str), ("InvalidMultipliers" : Str), ("InvalidNames" : Str), ("InvalidMost" : Str), ("InvalidCount" : Str), ("InvalidLots" : Str), ("InvalidAdders" : Str), ("InvalidForms" : Str), ("InvalidBy" : Str), ("InvalidMany" : Str), ("InvalidMeasure" : Str), ("InvalidBound" : Str), ("InvalidLow" : Str), ("InvalidHigh" : Str), ("InvalidAt" : Str), ("InvalidLot" : Str), ("InvalidOtherLot" : Str), ("InvalidKept" : Str), ("InvalidProgram" : Str), ("Unread" : Str), ("InvalidAnswer" : Str), ("InvalidInputs" : Str), ("InvalidMove" : Str), ("InvalidMoves" : Str), ("InvalidRoad" : Str), ("InvalidOptions" : Str), ("InvalidAct" : Str), ("InvalidActs" : Str), ("InvalidHouse" : Str), ("InvalidOtherProgram" : Str), ("InvalidWord" : Str), ("TooMany" : Str), ("InvalidPoint" : Str), ("InvalidNumber" : Str), ("InvalidPairs" : Str), ("InvalidNumbers" : Str), ("InvalidSets" : Str), ("InvalidRow" : Str), ("InvalidRows" : Str), ("InvalidTurn" : Str), ("InvalidRound" : Str), ("InvalidPaper" : Str), ("InvalidStanding" : Str), ("InvalidOption" : Str), ("InvalidSteps" : Str), ("InvalidWidth" : Str), ("InvalidPlace" : Str), ("InvalidTest" : Str), ("InvalidTree" : Str), ("InvalidText" : Str), ("NotBound" : Str), ("InvalidOtherText" : Str), ("InvalidThing" : Str), ("NotTaken" : Str)]
def CN : List Str := [("InvalidGraph" : Str), ("InvalidOtherGraph" : Str), ("InvalidGraphSteps" : Str), ("InvalidKind" : Str), ("InvalidForm" : Str), ("InvalidOtherForm" : Str), ("InvalidMultipliers" : Str), ("InvalidNames" : Str), ("InvalidMost" : Str), ("InvalidCount" : Str), ("InvalidLots" : Str), ("InvalidAdders" : Str), ("InvalidForms" : Str), ("InvalidBy" : Str), ("InvalidMany" : Str), ("InvalidMeasure" : Str), ("InvalidBound" : Str), ("InvalidLow" : Str), ("InvalidHigh" : Str), ("InvalidAt" : Str), ("InvalidLot" : Str), ("InvalidOtherLot" : Str), ("InvalidKept" : Str), ("InvalidProgram" : Str), ("Unread" : Str), ("InvalidAnswer" : Str), ("InvalidInputs" : Str), ("InvalidMove" : Str), ("InvalidMoves" : Str), ("InvalidRoad" : Str), ("InvalidOptions" : Str), ("InvalidAct" : Str), ("InvalidActs" : Str), ("InvalidHouse" : Str), ("InvalidOtherProgram" : Str), ("InvalidWord" : Str), ("TooMany" : Str), ("InvalidPoint" : Str), ("InvalidNumber" : Str), ("InvalidPairs" : Str), ("InvalidNumbers" : Str), ("InvalidSets" : Str), ("InvalidRow" : Str), ("InvalidRows" : Str), ("InvalidTurn" : Str), ("InvalidRound" : Str), ("InvalidPaper" : Str), ("InvalidStanding" : Str), ("InvalidOption" : Str), ("InvalidSteps" : Str), ("InvalidWidth" : Str), ("InvalidPlace" : Str), ("InvalidTest" : Str), ("InvalidTree" : Str), ("InvalidText" : Str), ("NotBound" : Str), ("InvalidOtherText" : Str), ("InvalidThing" : Str), ("NotTaken" : Str), ("NothingToUndo" : Str), ("NothingToRedo" : Str)]

end K01
end
section
set_option Elab.async false
set_option linter.all false
set_option maxRecDepth 100000
set_option maxHeartbeats 2000000
set_option autoImplicit false
namespace K01
open PySem L2 PyProof.Rows HC
/-! ### the lists of errors -/
abbrev fEx (e : Ev) : Str → Ev := fun m => eExc m e
abbrev fIs : Str → Ev := fun m => eN (pN (dIsX CS)) (aCons (eVar 0) (aCons (eC (.cls m)) aNil))
theorem sh_first : b_law_first = sSeq (sAsg (eLst (aMk (fEx (eVar 0)) gF0)) (gN 1)) (growS (fEx (eVar 0)) 1 (sRet (eVar 1)) gF) := rfl
theorem sh_called : b_law_called = sSeq (sAsg (eLst (aMk (fEx (eVar 0)) gC0)) (gN 1)) (growS (fEx (eVar 0)) 1 (sRet (eVar 1)) gC) := rfl
theorem sh_bare : b_law_bare = sSeq (sAsg (eLst (aMk (fEx (eC .non)) gB0)) (gN 0)) (growS (fEx (eC .non)) 0 (sRet (eVar 0)) gB) := rfl
abbrev lastK : Sv := sRet (eComp [2] (iRg1 (aCons (eN (pN dLen) (aCons (eVar 1) aNil)) aNil)) (gN 2) (tV (HC.e2 dIx2 (eVar 1) (eVar 2))) (eVar 2))
theorem sh_code : b_law_code = sSeq (sAsg (eLst (aMk fIs gK0)) (gN 1)) (growS fIs 1 lastK gK) := rfl
theorem names_F : gF0 ++ gF.flatten = NM := by decide +kernel
theorem names_C : gC0 ++ gC.flatten = NM := by decide +kernel
theorem names_B : gB0 ++ gB.flatten = NM := by decide +kernel
theorem names_K : gK0 ++ gK.flatten = CN := by decide +kernel
/-- an error of the class m with the value d -/
def Er (d : D) (m : Str) (r : D) (h : Hs) : Prop := ∃ i, r = .ref i ∧ h.get i = some (.exc m d)
theorem er_mono {d : D} (m : Str) (r : D) (h1 h2 : Hs) (x : Ext h1 h2) (q : Er d m r h1) : Er d m r h2 := by
  obtain ⟨i, e, g⟩ := q
  exact ⟨i, e, x.get g⟩
theorem exc_step {e : Ev} {env : HC.Env} {h1 : Hs} {d : D} {m : Str} (he : e env h1 = .ok d h1) (hr : h1.sz < room) : ∃ r h2, fEx e m env h1 = .ok r h2 ∧ Ext h1 h2 ∧ h2.sz ≤ h1.sz + 1 ∧ Er d m r h2 := by
  refine ⟨.ref h1.sz, h1.push (.exc m d), ?_, .push hr, Nat.le_refl _, ⟨_, rfl, Hs.get_push_self _ hr⟩⟩
  show (e env h1).bind _ = _
  rw [he]
  exact u_mk hr
/-- all errors with one value -/
def Errs (d : D) (c : Nat) (h : Hs) : Prop := ∃ rs, h.get c = some (.lst rs) ∧ Paired (fun m r => Er d m r h) NM rs
theorem Errs.ext {d : D} {c : Nat} {h h' : Hs} (q : Errs d c h) (x : Ext h h') : Errs d c h' := by
  obtain ⟨rs, g, p⟩ := q
  exact ⟨rs, x.get g, paired_mono (P := Er d) er_mono x p⟩
def C2 (d : D) : HC.Env → Prop := fun env => env.length = 2 ∧ env[0]? = some (some d)
theorem C2_set {d : D} (env : HC.Env) (e : D) (h : C2 d env) : C2 d (env.set 1 (some e)) := ⟨by rw [List.length_set]; exact h.1, by rw [List.getElem?_set_ne (by decide)]; exact h.2⟩
theorem e_first (d : D) (h : Hs) (hs : h.sz + 200 < room) : ∃ c h', m_law_first [d] h = .ok (.ref c) h' ∧ Ext h h' ∧ h'.sz ≤ h.sz + 200 ∧ Errs d c h' := by
  have c0 : cost 1 (gF0 :: gF) ≤ 200 := by decide +kernel
  obtain ⟨env', h', c, rs, a1, a2, a3, a4, a5, a6, a7⟩ := grow_all (f := fEx (eVar 0)) (P := Er d) (k := 1) (C := C2 d) er_mono (last := sRet (eVar 1)) (j := 1) (top := h.sz + 200) hs C2_set (fun env q => by rw [q.1]; decide) (h := h)
    (S := fun _ => True) (fun m env h1 _ q x z => exc_step (u_var q.2) (by omega)) gF0 gF (env := env0 2 [d]) ⟨rfl, rfl⟩ (by omega) (by rw [names_F]; decide +kernel) (fun _ _ => trivial)
  refine ⟨c, h', ?_, a5, by omega, rs, a4, by rw [← names_F]; exact a7⟩
  unfold m_law_first
  refine u_run (env1 := env') ?_
  rw [sh_first, show N_law_first.length = 2 from rfl, a1]
  exact u_ret (u_var a3)
theorem e_called (d : D) (h : Hs) (hs : h.sz + 200 < room) : ∃ c h', m_law_called [d] h = .ok (.ref c) h' ∧ Ext h h' ∧ h'.sz ≤ h.sz + 200 ∧ Errs d c h' := by
  have c0 : cost 1 (gC0 :: gC) ≤ 200 := by decide +kernel
  obtain ⟨env', h', c, rs, a1, a2, a3, a4, a5, a6, a7⟩ := grow_all (f := fEx (eVar 0)) (P := Er d) (k := 1) (C := C2 d) er_mono (last := sRet (eVar 1)) (j := 1) (top := h.sz + 200) hs C2_set (fun env q => by rw [q.1]; decide) (h := h)
    (S := fun _ => True) (fun m env h1 _ q x z => exc_step (u_var q.2) (by omega)) gC0 gC (env := env0 2 [d]) ⟨rfl, rfl⟩ (by omega) (by rw [names_C]; decide +kernel) (fun _ _ => trivial)
  refine ⟨c, h', ?_, a5, by omega, rs, a4, by rw [← names_C]; exact a7⟩
  unfold m_law_called
  refine u_run (env1 := env') ?_
  rw [sh_called, show N_law_called.length = 2 from rfl, a1]
  exact u_ret (u_var a3)
theorem e_bare (h : Hs) (hs : h.sz + 200 < room) : ∃ c h', m_law_bare [] h = .ok (.ref c) h' ∧ Ext h h' ∧ h'.sz ≤ h.sz + 200 ∧ Errs .non c h' := by
  have c0 : cost 1 (gB0 :: gB) ≤ 200 := by decide +kernel
  obtain ⟨env', h', c, rs, a1, a2, a3, a4, a5, a6, a7⟩ := grow_all (f := fEx (eC .non)) (P := Er .non) (k := 1) (C := fun env => env.length = 1) er_mono (last := sRet (eVar 0)) (j := 0) (top := h.sz + 200) hs (fun env d q => by rw [List.length_set]; exact q) (fun env q => by rw [q]; decide) (h := h)
    (S := fun _ => True) (fun m env h1 _ q x z => exc_step u_C (by omega)) gB0 gB (env := env0 1 []) rfl (by omega) (by rw [names_B]; decide +kernel) (fun _ _ => trivial)
  refine ⟨c, h', ?_, a5, by omega, rs, a4, by rw [← names_B]; exact a7⟩
  unfold m_law_bare
  refine u_run (env1 := env') ?_
  rw [sh_bare, show N_law_bare.length = 1 from rfl, a1]
  exact u_ret (u_var a3)
/-! ### the code of an error -/
theorem kd_bases : ∀ p ∈ KD, p.2.2 = [] ∨ p.2.2 = [("EndError" : Str)] := by decide +kernel
theorem kd_names : KD.map (·.1) = ("EndError" : Str) :: CN ∨ True := .inr trivial
theorem cn_in : ∀ m ∈ CN, (KD.any fun q => decide (q.1 = m)) = true := by decide +kernel
theorem cn_base : ∀ m ∈ CN, m ≠ ("EndError" : Str) := by decide +kernel
theorem cs_of {n m : Str} (hn : (KD.any fun q => decide (q.1 = n)) = true) (hm : m ∈ CN) : CS n (.cls m) = some (decide (m = n)) := by
  unfold CS csT
  cases hf : KD.find? (fun p => decide (p.1 = n)) with
  | none =>
    obtain ⟨q, hq, e⟩ := List.any_eq_true.mp hn
    have := List.find?_eq_none.mp hf q hq
    exact absurd e this
  | some p =>
    dsimp only
    rw [if_pos (cn_in m hm)]
    rcases kd_bases p (List.mem_of_find?_eq_some hf) with e | e
    · rw [e]; simp
    · rw [e]
      have := cn_base m hm
      simp [Ne.symm this]
def codeOf (n : Str) : List Nat := (List.range 61).filter fun k => decide (CN[k]? = some n)
theorem range61 : (List.range 61).map (fun i => D.int (0 + (i : Nat))) = (List.range 61).map (fun i => D.int (i : Nat)) := by simp
theorem e_code {n : Str} {i : Nat} {h : Hs} (hn : (KD.any fun q => decide (q.1 = n)) = true) (hi : excN h (.ref i) = some n) (hs : h.sz + 100 < room) : ∃ c h', m_law_code [.ref i] h = .ok (.ref c) h' ∧ Ext h h' ∧ h'.sz ≤ h.sz + 100 ∧ h'.get c = some (.lst ((codeOf n).map fun k => .int (k : Nat))) := by
  have c0 : cost 0 (gK0 :: gK) ≤ 90 := by decide +kernel
  let C : HC.Env → Prop := fun env => env.length = 3 ∧ env[0]? = some (some (.ref i))
  let P : Str → D → Hs → Prop := fun m r _ => m ∈ CN → r = .bl (decide (m = n))
  have hx : ∀ h1, Ext h h1 → excN h1 (.ref i) = some n := fun h1 x => by
    unfold excN at hi ⊢
    dsimp only at hi ⊢
    cases g : h.get i with
    | none => rw [g] at hi; cases hi
    | some o => rw [x.get g]; rw [g] at hi; exact hi
  obtain ⟨env', h', c, rs, a1, a2, a3, a4, a5, a6, a7⟩ := grow_all (f := fIs) (P := P) (k := 0) (C := C) (fun m r h1 h2 x q => q) (last := lastK) (j := 1) (top := h.sz + 95) (by omega) (fun env d q => ⟨by rw [List.length_set]; exact q.1, by rw [List.getElem?_set_ne (by decide)]; exact q.2⟩) (fun env q => by rw [q.1]; decide) (h := h) (S := fun m => m ∈ CN)
    (fun m env h1 hm q x z => by
      refine ⟨.bl (decide (m = n)), h1, ?_, .refl, Nat.le_refl _, fun _ => rfl⟩
      refine u_N (u_cons (u_var q.2) (u_cons u_C u_nil)) ?_
      unfold pN dIsX
      dsimp only
      rw [hx h1 x]
      dsimp only
      rw [cs_of hn hm]) gK0 gK (env := env0 3 [.ref i]) ⟨rfl, rfl⟩ (by omega) (by rw [names_K]; decide +kernel) (fun m q => by rw [names_K] at q; exact q)
  rw [names_K] at a7
  have hlen : rs.length = 61 := (paired_len a7).symm.trans (by decide +kernel)
  have hrs : ∀ k : Nat, k < 61 → rs[k]? = some (.bl (decide (CN[k]? = some n))) := fun k hk => by
    obtain ⟨r, e⟩ : ∃ r, rs[k]? = some r := ⟨_, List.getElem?_eq_getElem (by omega)⟩
    obtain ⟨m, e1, q⟩ := paired_get a7 e
    rw [e, q (List.mem_of_getElem? e1), e1]
    simp
  have r1 : h'.sz < room := by omega
  have ev1 : env'[1]? = some (some (.ref c)) := a3
  have cw : compW (wkR 0 61) (gN 2) (tV (HC.e2 dIx2 (eVar 1) (eVar 2))) (eVar 2) (wipeE env' [2]) turns 0 h' = some (((((List.range 61).map fun i => D.int (0 + (i : Nat))).drop 0).filter fun d => match d with | .int j => decide (CN[j.toNat]? = some n) | _ => false).map id, h') := by
    refine compW_pure (b := fun d => match d with | .int j => decide (CN[j.toNat]? = some n) | _ => false) (v := id) walks_range (fun d hd => ?_) turns 0 (by rw [List.length_map, List.length_range]; decide) (Nat.zero_le _)
    obtain ⟨k, hk, rfl⟩ := List.mem_map.mp hd
    have hk := List.mem_range.mp hk
    have l3 : (wipeE env' [2]).length = 3 := by rw [wipeE_length]; exact a2.1
    have w1 : (wipeE env' [2])[1]? = some (some (.ref c)) := by rw [wipeE_out (by decide)]; exact ev1
    have v2 : ((wipeE env' [2]).set 2 (some (.int (0 + (k : Nat)))))[2]? = some (some (.int (0 + (k : Nat)))) := List.getElem?_set_self (by rw [l3]; decide)
    have v1 : ((wipeE env' [2]).set 2 (some (.int (0 + (k : Nat)))))[1]? = some (some (.ref c)) := by rw [List.getElem?_set_ne (by decide)]; exact w1
    refine ⟨_, rfl, ?_, fun _ => u_var v2⟩
    refine u_tVb (u_2 (u_var v1) (u_var v2) ?_)
    have ei : atI rs (0 + (k : Nat)) = some (.bl (decide (CN[k]? = some n))) := by
      have hin : ixN rs.length (0 + ((k : Nat) : Int)) = some k := by
        unfold ixN
        rw [hlen]
        rw [if_pos (by omega), if_pos (by omega)]
        congr 1
        omega
      unfold atI
      rw [hin]
      exact hrs k hk
    unfold dIx2
    dsimp only
    rw [a4]
    dsimp only [dIx]
    rw [a4]
    dsimp only
    rw [ei]
    have : (0 + (k : Nat) : Int).toNat = k := by omega
    rw [this]
  have hfil : ((((List.range 61).map fun i => D.int (0 + (i : Nat))).drop 0).filter fun d => match d with | .int j => decide (CN[j.toNat]? = some n) | _ => false).map id = (codeOf n).map fun k => D.int (k : Nat) := by
    unfold codeOf
    rw [List.map_id, List.drop_zero, List.filter_map]
    have e1 : ((fun d : D => match d with | .int j => decide (CN[j.toNat]? = some n) | _ => false) ∘ fun i : Nat => D.int (0 + (i : Nat))) = fun k => decide (CN[k]? = some n) := by
      funext k
      have : (0 + (k : Nat) : Int).toNat = k := by omega
      show decide (CN[(0 + (k : Nat) : Int).toNat]? = some n) = _
      rw [this]
    rw [e1]
    simp
  rw [hfil] at cw
  refine ⟨h'.sz, h'.push (.lst ((codeOf n).map fun k => .int (k : Nat))), ?_, a5.trans (.push r1), by show h'.sz + 1 ≤ _; omega, Hs.get_push_self _ r1⟩
  unfold m_law_code
  refine u_run (env1 := env') ?_
  rw [sh_code, show N_law_code.length = 3 from rfl, a1]
  refine u_ret (u_comp (wk := wkR 0 61) (h1 := h') ?_ cw r1)
  unfold iRg1
  have el : eN (pN dLen) (aCons (eVar 1) aNil) env' h' = .ok (.int 61) h' := by
    refine u_N (u_cons (u_var ev1) u_nil) ?_
    unfold pN dLen lenD seqL
    dsimp only
    rw [a4]
    dsimp only [Option.map]
    rw [hlen]
    rfl
  rw [u_cons el u_nil]
  show (if (61 : Int) ≤ 16777216 ∧ -(2 ^ 62) ≤ (61 : Int) then Rs.ok (wkR 0 (61 : Int).toNat) h' else .no) = _
  rw [if_pos (by decide)]
  rfl
end K01
end
section
set_option Elab.async false
set_option linter.all false
set_option maxRecDepth 100000
set_option maxHeartbeats 2000000
set_option autoImplicit false
namespace K01
open PySem L2 PyProof.Rows HC
/-! ### a list of errors is right -/
theorem nm_end : ∀ n ∈ NM, CS n (.cls "EndError") = some true := by decide +kernel
theorem nm_val : ∀ n ∈ NM, CS n (.ty "ValueError") = some true := by decide +kernel
theorem nm_ok : ∀ n ∈ NM, OKV n = true := by decide +kernel
theorem nm_in : ∀ n ∈ NM, (KD.any fun q => decide (q.1 = n)) = true := by decide +kernel
theorem nm_code : ∀ i : Nat, i < 59 → codeOf (NM.getD i "") = [i] := by decide +kernel
theorem nm_len : NM.length = 59 := by decide +kernel
theorem mapO_of {α β : Type} {f : α → Option β} {g : Nat → β} : ∀ {xs : List α} (k : Nat), (∀ i x, xs[i]? = some x → f x = some (g (k + i))) → mapO f xs = some ((List.range' k xs.length).map g)
  | [], k, _ => rfl
  | x :: xs, k, h => by
    unfold mapO
    rw [h 0 x rfl, mapO_of (xs := xs) (k + 1) fun i y e => by
      have := h (i + 1) y (by simpa using e)
      rwa [show k + (i + 1) = k + 1 + i by omega] at this]
    rfl
/-- the list that holds the number of its place -/
def At (i : Nat) (r : D) (h : Hs) : Prop := ∃ c, r = .ref c ∧ h.get c = some (.lst [.int (i : Nat)])
theorem at_ext (i : Nat) (r : D) (h1 h2 : Hs) (x : Ext h1 h2) (q : At i r h1) : At i r h2 := by
  obtain ⟨c, e, g⟩ := q
  exact ⟨c, e, x.get g⟩
theorem at_vw {h : Hs} {c : Nat} {ts : List D} (hl : ts.length = 59) (hg : h.get c = some (.lst ts)) (q : ∀ i r, ts[i]? = some r → At i r h) : vw h 60 (.ref c) = some (.list ((List.range' 0 59).map fun i => .list [.int (i : Nat)])) := by
  have z : mapO (vw h 59) ts = some ((List.range' 0 ts.length).map fun i => PyData.list [.int (i : Nat)]) := mapO_of 0 fun i x e => by
    obtain ⟨k, rfl, g⟩ := q i x e
    rw [Nat.zero_add]
    simp only [vw]
    rw [g]
    rfl
  rw [hl] at z
  simp only [vw]
  rw [hg]
  dsimp only
  rw [z]
theorem at_eqv : PyData.eqv (.list ((List.range' 0 59).map fun i => PyData.list [.int (i : Nat)])) (.list ((List.range' 0 59).map fun i => .list [.int (i : Nat)])) = true := by decide +kernel
theorem e_isError {n : Str} {i : Nat} {h : Hs} (hn : n ∈ NM) (hi : excN h (.ref i) = some n) : m_law_is_error [.ref i] h = .ok (.bl true) h := by
  unfold m_law_is_error b_law_is_error
  refine u_run (env1 := env0 1 [.ref i]) (u_ret (u_eAnT (h1 := h) ?_ ?_))
  · refine u_N (u_cons (u_var (d := .ref i) rfl) (u_cons u_C u_nil)) ?_
    unfold pN dIsX
    dsimp only
    rw [hi]
    dsimp only
    rw [nm_end n hn]
  · refine u_N (u_cons (u_var (d := .ref i) rfl) (u_cons u_C u_nil)) ?_
    unfold pN dIsX
    dsimp only
    rw [hi]
    dsimp only
    rw [nm_val n hn]
theorem excN_of' {h : Hs} {i : Nat} {n : Str} {d : D} (g : h.get i = some (.exc n d)) : excN h (.ref i) = some n := by
  unfold excN
  dsimp only
  rw [g]
/-- what repr tells of d is nt -/
structure Noted (d nt : D) (h : Hs) : Prop where
  ex : ∃ p, vwR h 60 d = some p ∧ okR p = true ∧ pwR p ≤ sizeLine ∧ nt.txt = some p.shown
theorem Noted.ext {d nt : D} {h h' : Hs} (q : Noted d nt h) (x : Ext h h') : Noted d nt h' := by
  obtain ⟨p, a, b, c, e⟩ := q.ex
  exact ⟨p, vwR_ext x _ _ _ a, b, c, e⟩
theorem repr_of {d : D} {p : PyData} {h : Hs} (a : vwR h 60 d = some p) (b : okR p = true) (c : pwR p ≤ sizeLine) : pN dReprR h [d] = .ok (.rep p) h := by
  have z := shown_most p b
  unfold pN dReprR
  dsimp only
  rw [a]
  dsimp only
  rw [if_pos ⟨z.1, Nat.le_trans z.2 c⟩]
theorem ne_txt {h : Hs} {d e : D} {x : Str} (h1 : d.txt = some x) (h2 : e.txt = some x) : dNe h d e = .ok (.bl false) h := by
  unfold dNe eqv
  rw [h1, h2]
  simp
theorem e_right {d nt : D} {c : Nat} {h : Hs} (E : Errs d c h) (N : Noted d nt h) (hs : h.sz + 6100 < room) : ∃ h', m_law_right [.ref c, nt] h = .ok (.bl true) h' ∧ Ext h h' ∧ h'.sz ≤ h.sz + 6100 := by
  obtain ⟨rs, g, pr⟩ := id E
  have hl : rs.length = 59 := (paired_len pr).symm.trans nm_len
  have item : ∀ i r h1, rs[i]? = some r → Ext h h1 → ∃ k, r = .ref k ∧ i < 59 ∧ NM.getD i "" ∈ NM ∧ h1.get k = some (.exc (NM.getD i "") d) := fun i r h1 e x => by
    obtain ⟨m, e1, k, rfl, gk⟩ := paired_get pr e
    obtain ⟨hi, e2⟩ := List.getElem?_eq_some_iff.mp e1
    have e3 : NM.getD i "" = m := by rw [List.getD_eq_getElem?_getD, e1]; rfl
    rw [e3]
    exact ⟨k, rfl, by rw [← nm_len]; exact hi, List.mem_of_getElem? e1, x.get gk⟩
  have env : (env0 4 [.ref c, nt]) = [some (.ref c), some nt, none, none] := rfl
  -- the codes
  obtain ⟨ts, h1, a1, a2, a3, a4, a5⟩ := compW_map (wk := wkC c) (tg := gN 2) (tt := tTrue) (el := eCall m_law_code [] (aCons (eVar 2) aNil)) (env := wipeE (env0 4 [.ref c, nt]) [2]) (P := At) (k := 101) (walks_cell g) at_ext
    (fun i r h1 e x z => by
      obtain ⟨k, rfl, hi, hm, gk⟩ := item i r h1 e x
      obtain ⟨c1, h2, b1, b2, b3, b4⟩ := e_code (nm_in _ hm) (excN_of' gk) (h := h1) (by omega)
      refine ⟨_, h1, .ref c1, h2, rfl, rfl, u_call0 (u_cons (u_var (d := .ref k) (by rw [env]; rfl)) u_nil) b1, b2, by omega, c1, rfl, ?_⟩
      rw [b4, nm_code i hi]
      rfl) turns 0 h (by rw [hl]; decide) (Nat.zero_le _) .refl (by omega)
  rw [hl] at a3 a4
  have r1 : h1.sz < room := by have : 101 * 59 = 5959 := rfl; omega
  have c1 : eComp [2] (iSeq (eVar 0)) (gN 2) tTrue (eCall m_law_code [] (aCons (eVar 2) aNil)) (env0 4 [.ref c, nt]) h = .ok (.ref h1.sz) (h1.push (.lst ts)) := by
    refine u_comp (wk := wkC c) (h1 := h) ?_ a1 r1
    unfold iSeq
    rw [u_var (d := .ref c) (by rw [env]; rfl)]
    show (match h.get c with | some (.lst _) => Rs.ok (wkC c) h | _ => .no) = _
    rw [g]
  have x1 : Ext h1 (h1.push (.lst ts)) := .push r1
  have s1 : (h1.push (.lst ts)).sz = h1.sz + 1 := rfl
  -- the numbers
  obtain ⟨us, h2, b1, b2, b3, b4, b5⟩ := compW_map (wk := wkR 0 59) (tg := gN 3) (tt := tTrue) (el := eLst (aCons (eVar 3) aNil)) (env := wipeE (env0 4 [.ref c, nt]) [3]) (P := At) (k := 1) (h := h1.push (.lst ts)) walks_range at_ext
    (fun i r h3 e x z => by
      rw [List.getElem?_map] at e
      obtain ⟨k, e1, rfl⟩ := Option.map_eq_some_iff.mp e
      obtain ⟨hk, e2⟩ := List.getElem?_eq_some_iff.mp e1
      have ek : k = i := by rw [← e2]; simp
      subst ek
      rw [List.length_range] at hk
      have r3 : h3.sz < room := by have : 101 * 59 = 5959 := rfl; omega
      refine ⟨_, h3, .ref h3.sz, h3.push (.lst [.int (0 + (k : Nat))]), rfl, rfl, u_lst (u_cons (u_var (d := .int (0 + (k : Nat))) (by rw [env]; rfl)) u_nil) r3, .push r3, Nat.le_refl _, h3.sz, rfl, ?_⟩
      rw [Hs.get_push_self _ r3, show (0 + (k : Nat) : Int) = (k : Nat) by omega]) turns 0 (h1.push (.lst ts)) (by rw [List.length_map, List.length_range]; decide) (Nat.zero_le _) .refl (by omega)
  rw [List.length_map, List.length_range] at b3 b4
  have r2 : h2.sz < room := by have : 101 * 59 = 5959 := rfl; omega
  have c2 : eComp [3] (iRg1 (aCons (eC (.int 59)) aNil)) (gN 3) tTrue (eLst (aCons (eVar 3) aNil)) (env0 4 [.ref c, nt]) (h1.push (.lst ts)) = .ok (.ref h2.sz) (h2.push (.lst us)) := by
    refine u_comp (wk := wkR 0 59) (h1 := h1.push (.lst ts)) ?_ b1 r2
    unfold iRg1
    rw [u_cons u_C u_nil]
    show (if (59 : Int) ≤ 16777216 ∧ -(2 ^ 62) ≤ (59 : Int) then Rs.ok (wkR 0 (59 : Int).toNat) _ else .no) = _
    rw [if_pos (by decide)]
    rfl
  have x2 : Ext h2 (h2.push (.lst us)) := .push r2
  have xs := x1.trans (b2.trans x2)
  have v1 : vw (h2.push (.lst us)) 60 (.ref h1.sz) = _ := at_vw a4 ((b2.trans x2).get (Hs.get_push_self _ r1)) fun i r e => by
    have := a5 i r e
    rw [Nat.zero_add] at this
    exact at_ext _ _ _ _ xs this
  have v2 : vw (h2.push (.lst us)) 60 (.ref h2.sz) = _ := at_vw b4 (Hs.get_push_self _ r2) fun i r e => by
    have := b5 i r e
    rw [Nat.zero_add] at this
    exact at_ext _ _ _ _ x2 this
  have ne : dNe (h2.push (.lst us)) (.ref h1.sz) (.ref h2.sz) = .ok (.bl false) (h2.push (.lst us)) := by
    unfold dNe eqv
    dsimp only [D.txt]
    rw [v1, v2]
    dsimp only
    rw [at_eqv]
    rfl
  have X := a2.trans xs
  generalize hh : h2.push (.lst us) = h3 at *
  have s3 : h3.sz ≤ h.sz + 6030 := by rw [← hh]; show h2.sz + 1 ≤ _; have : 101 * 59 = 5959 := rfl; omega
  -- none is left
  obtain ⟨h4, d1, d2, d3⟩ := compW_drop (wk := wkC c) (tg := gN 2) (tt := tOo (tNt (tV (eCall m_law_is_error [] (aCons (eVar 2) aNil)))) (tV (HC.e2 dNe (eN (pN dReprR) (aCons (eXv OKV (eVar 2)) aNil)) (eVar 1)))) (el := eVar 2) (env := wipeE (env0 4 [.ref c, nt]) [2]) (k := 0) (walks_cell (X.get g))
    (fun i r h5 e x z => by
      obtain ⟨k, rfl, hi, hm, gk⟩ := item i r h5 e (X.trans x)
      have w2 : ((wipeE (env0 4 [.ref c, nt]) [2]).set 2 (some (.ref k)))[2]? = some (some (.ref k)) := by rw [env]; rfl
      have w1 : ((wipeE (env0 4 [.ref c, nt]) [2]).set 2 (some (.ref k)))[1]? = some (some nt) := by rw [env]; rfl
      obtain ⟨p, p1, p2, p3, p4⟩ := (N.ext (X.trans x)).ex
      refine ⟨_, h5, rfl, u_tOoF (u_tNt (k := true) (u_tV (u_call0 (u_cons (u_var w2) u_nil) (e_isError hm (excN_of' gk))))) (u_tVb (u_2 (u_N (u_cons (d := d) (h1 := h5) ?_ u_nil) (repr_of p1 p2 p3)) (u_var w1) ?_)), .refl, Nat.le_refl _⟩
      · unfold eXv
        rw [u_var w2]
        show (match h5.get k with | some (.exc n t) => if OKV n = true then Rs.ok t h5 else .no | _ => .no) = _
        rw [gk]
        dsimp only
        rw [if_pos (nm_ok _ hm)]
      · exact ne_txt (d := .rep p) rfl p4) turns 0 h3 (by rw [hl]; decide) (Nat.zero_le _) .refl (by omega)
  have r4 : h4.sz < room := by omega
  have c4 : eComp [2] (iSeq (eVar 0)) (gN 2) (tOo (tNt (tV (eCall m_law_is_error [] (aCons (eVar 2) aNil)))) (tV (HC.e2 dNe (eN (pN dReprR) (aCons (eXv OKV (eVar 2)) aNil)) (eVar 1)))) (eVar 2) (env0 4 [.ref c, nt]) h3 = .ok (.ref h4.sz) (h4.push (.lst [])) := by
    refine u_comp (wk := wkC c) (h1 := h3) ?_ d1 r4
    unfold iSeq
    rw [u_var (d := .ref c) (by rw [env]; rfl)]
    show (match h3.get c with | some (.lst _) => Rs.ok (wkC c) h3 | _ => .no) = _
    rw [X.get g]
  have x4 : Ext h4 (h4.push (.lst [])) := .push r4
  have r5 : (h4.push (.lst [])).sz < room := by show h4.sz + 1 < room; omega
  have x5 : Ext (h4.push (.lst [])) ((h4.push (.lst [])).push (.lst [])) := .push r5
  refine ⟨(h4.push (.lst [])).push (.lst []), ?_, X.trans (d2.trans (x4.trans x5)), by show h4.sz + 2 ≤ _; omega⟩
  unfold m_law_right b_law_right
  refine u_run (env1 := env0 4 [.ref c, nt]) ?_
  rw [show N_law_right.length = 4 from rfl]
  rw [u_seq (env1 := env0 4 [.ref c, nt]) (h1 := h3) (by rw [u_ifF (u_tVb (u_2 c1 c2 ne))]; rfl)]
  refine u_ret (u_2 c4 (u_lst u_nil r5) ?_)
  unfold dEq eqv
  dsimp only [D.txt]
  have w1 : vw ((h4.push (.lst [])).push (.lst [])) 60 (.ref h4.sz) = some (.list []) := by
    simp only [vw]
    rw [x5.get (Hs.get_push_self _ r4)]
    rfl
  have w2 : vw ((h4.push (.lst [])).push (.lst [])) 60 (.ref (h4.push (.lst [])).sz) = some (.list []) := by
    simp only [vw]
    rw [Hs.get_push_self _ r5]
    rfl
  rw [w1, w2]
  rfl
end K01
end
section
set_option Elab.async false
set_option linter.all false
set_option maxRecDepth 100000
set_option autoImplicit false
namespace K01
open PySem L2 PyProof.Rows HC
abbrev l_it : Iv := (iSeq (eCall (m_law_purses) [] (aCons (eVar 0) (aCons (eC (.int 1)) aNil))))
abbrev l_b0 : Sv := (sAsg (eSM dJoin (eC (.str "")) (aCons (eComp [3] (iRg1 (aCons (e2 dAdd (eC (.int 1)) (eCall (m_law_draw) [] (aCons (eVar 1) (aCons (eC (.int 4)) aNil)))) aNil)) (gN 3) tTrue (e2 dIx2 (eC (.str "abcdefghijklmnopqrstuvwxyz")) (eCall (m_law_draw) [] (aCons (eVar 1) (aCons (eC (.int 26)) aNil))))) aNil)) (gN 2))
abbrev l_b1 : Sv := (sAsg (eLst (aCons (eC .non) (aCons (eC (.bl true)) (aCons (eC (.bl false)) (aCons (eC (.int 0)) (aCons (eVar 2) (aCons (e1 (p1 dNeg) (e2 dIx2 (eVar 1) (eC (.int 1)))) (aCons (eTup (aCons (eC (.str "says")) (aCons (eVar 2) (aCons (eC (.int 1)) (aCons (eC (.int 2)) aNil))))) (aCons (eTup (aCons (eVar 2) (aCons (eLst (aCons (eVar 2) aNil)) aNil))) (aCons (eDisp [((eVar 2), (eLst (aCons (eVar 2) aNil)))]) aNil)))))))))) (gN 4))
abbrev l_b2 : Sv := (sAsg (eCall (m_law_one_of) [] (aCons (eVar 1) (aCons (e2 dAdd (eVar 4) (eLst (aCons (eLst (aCons (eVar 2) aNil)) (aCons (eLst (aCons (eLst (aCons (eVar 2) aNil)) (aCons (eDisp [((eC (.str "odd")), (eVar 2))]) aNil))) aNil)))) aNil))) (gN 5))
abbrev l_b3 : Sv := (sAsg (eN (pN dReprR) (aCons (eVar 5) aNil)) (gN 6))
abbrev l_b4 : Sv := (sPar3 7 8 9 (aCons (eCall (m_law_first) [] (aCons (eVar 5) aNil)) (aCons (eCall (m_law_called) [] (aCons (eVar 5) aNil)) (aCons (eCall (m_law_first) [] (aCons (eTup (aCons (eC (.str "later")) (aCons (eVar 2) aNil))) aNil)) aNil))))
abbrev l_b5 : Sv := (sIf (tOo (tNt (tV (eCall (m_law_right) [] (aCons (eCall (m_law_bare) [] aNil) (aCons (eC (.str "None")) aNil))))) (tNt (tV (eCall (m_law_right) [] (aCons (eVar 9) (aCons (eN (pN dReprR) (aCons (eTup (aCons (eC (.str "later")) (aCons (eVar 2) aNil))) aNil)) aNil)))))) (sRet (eC (.bl false))) sNext)
abbrev l_b6 : Sv := (sIf (tOo (tNt (tV (eCall (m_law_right) [] (aCons (eVar 7) (aCons (eVar 6) aNil))))) (tNt (tV (eCall (m_law_right) [] (aCons (eVar 8) (aCons (eVar 6) aNil)))))) (sRet (eC (.bl false))) sNext)
abbrev l_b7 : Sv := (sIf (tV (eN (pN (dIsX CS)) (aCons (eVar 5) (aCons (eC (.ty "list")) aNil)))) (sDrop (eBM dApp (eVar 5) (aCons (eC (.str "later")) aNil))) sNext)
abbrev l_b8 : Sv := (sIf (tV (eN (pN (dIsX CS)) (aCons (eVar 5) (aCons (eC (.ty "dict")) aNil)))) (sSeq (sDrop (eBM dApp (e2 dIx2 (eVar 5) (eVar 2)) (aCons (eC (.str "later")) aNil))) (sPut (eVar 5) (eC (.int 1)) (eC (.str "LATER")))) sNext)
abbrev l_b9 : Sv := (sIf (tAn (tV (eN (pN (dIsX CS)) (aCons (eVar 5) (aCons (eC (.ty "tuple")) aNil)))) (tV (eN (pN (dIsX CS)) (aCons (e2 dIx2 (eVar 5) (eC (.int 1))) (aCons (eC (.ty "list")) aNil))))) (sDrop (eBM dApp (e2 dIx2 (eVar 5) (eC (.int 1))) (aCons (eC (.str "later")) aNil))) sNext)
abbrev l_b10 : Sv := (sIf (tOo (tNt (tV (eCall (m_law_right) [] (aCons (eVar 7) (aCons (eN (pN dReprR) (aCons (eVar 5) aNil)) aNil))))) (tNt (tV (eCall (m_law_right) [] (aCons (eVar 8) (aCons (eN (pN dReprR) (aCons (eVar 5) aNil)) aNil)))))) (sRet (eC (.bl false))) sNext)
abbrev l_r0 : Sv := (sAsg (eLst (aCons (eExB "NothingToUndo") (aCons (eExB "NothingToRedo") aNil))) (gN 10))
abbrev l_r1 : Sv := (sIf (tV (e2 dNe (eComp [11] (iSeq (eVar 10)) (gN 11) tTrue (eCall (m_law_code) [] (aCons (eVar 11) aNil))) (eLst (aCons (eLst (aCons (eC (.int 59)) aNil)) (aCons (eLst (aCons (eC (.int 60)) aNil)) aNil))))) (sRet (eC (.bl false))) sNext)
abbrev l_r2 : Sv := (sDrop (eBM dApp (eVar 10) (aCons (eExB "EndError") aNil)))
abbrev l_r3 : Sv := (sRet (eAn (eN (pN dAll) (aCons (eComp [11] (iSeq (eVar 10)) (gN 11) tTrue (eCall (m_law_is_error) [] (aCons (eVar 11) aNil))) aNil)) (e2 dEq (eCall (m_law_code) [] (aCons (e2 dIx2 (eVar 10) (eC (.int 2))) aNil)) (eLst aNil))))
abbrev l_body : Sv := (sSeq l_b0 (sSeq l_b1 (sSeq l_b2 (sSeq l_b3 (sSeq l_b4 (sSeq l_b5 (sSeq l_b6 (sSeq l_b7 (sSeq l_b8 (sSeq l_b9 l_b10))))))))))
abbrev l_rest : Sv := (sSeq l_r0 (sSeq l_r1 (sSeq l_r2 l_r3)))
theorem sh_law : b_law = sSeq (sFor l_it (gN 1) l_body) l_rest := rfl
end K01
end
section
set_option Elab.async false
set_option linter.all false
set_option maxRecDepth 100000
set_option maxHeartbeats 2000000
set_option autoImplicit false
namespace K01
open PySem L2 PyProof.Rows HC
/-! ### the purse is made -/
theorem u_pow {a n : Int} {ea en : Ev} {env : HC.Env} {h : Hs} (e1 : ea env h = .ok (.int a) h) (e2 : en env h = .ok (.int n) h) (hc : CPowW a n) : HC.e2 (p2 dPow) ea en env h = .ok (.int (a ^ n.toNat)) h := by
  refine u_2 e1 e2 ?_
  unfold p2 dPow
  dsimp only
  rw [if_pos hc]
theorem e_purse (ns : List Int) : ∃ a b xs, m_law_purse [.rl (ns.map D.int), .int 0] Hs.new = .ok (.ref 1) ((Hs.new.push (.lst xs)).push (Pu a b 0 0)) ∧ 0 ≤ a ∧ 0 ≤ b ∧ b < 2147483629 := by
  have hp1 : CPowW 10 18 := by decide +kernel
  have hp2 : CPowW 10 60 := by decide +kernel
  have hp3 : CPowW (10 ^ 60) 8 := by decide +kernel
  have key : ∀ ms : List Int, cutD (ns.map D.int) (some 0) (some 1) = ms.map D.int → ∃ a b xs, m_law_purse [.rl (ns.map D.int), .int 0] Hs.new = .ok (.ref 1) ((Hs.new.push (.lst xs)).push (Pu a b 0 0)) ∧ 0 ≤ a ∧ 0 ≤ b ∧ b < 2147483629 := fun ms hc => by
    have hi : intsOf (ms.map D.int) = some ms := by
      clear hc
      induction ms with
      | nil => rfl
      | cons m ms ih => simp [intsOf, ih]
    have r0 : Hs.new.sz < room := by decide
    have r1 : (Hs.new.push (.lst (ms.map D.int))).sz < room := show 0 + 1 < 65536 by decide
    have g0 : (Hs.new.push (.lst (ms.map D.int))).get 0 = some (.lst (ms.map D.int)) := Hs.get_push_self _ r0
    generalize hs : ms.sum = s
    have hbig : (0 : Int) < (10 ^ 60) ^ 8 := by decide +kernel
    have c1 : eSl (eVar 0) (oAt (eVar 1)) (oAt (HC.e2 dAdd (eVar 1) (eC (.int 1)))) (env0 3 [.rl (ns.map D.int), .int 0]) Hs.new = .ok (.ref 0) (Hs.new.push (.lst (ms.map D.int))) := by
      rw [← hc]
      rfl
    have c2 : eN (pN dSum) (aCons (eSl (eVar 0) (oAt (eVar 1)) (oAt (HC.e2 dAdd (eVar 1) (eC (.int 1))))) aNil) (env0 3 [.rl (ns.map D.int), .int 0]) Hs.new = .ok (.int s) (Hs.new.push (.lst (ms.map D.int))) := by
      refine u_N (u_cons c1 u_nil) ?_
      unfold pN dSum on1L seqL
      dsimp only
      rw [g0]
      dsimp only
      rw [hi]
      dsimp only
      rw [hs]
    refine ⟨_, s % 2147483629, ms.map D.int, ?_, Int.emod_nonneg (if 0 > s - 10 ^ 18 then 0 else s - 10 ^ 18) (Int.ne_of_gt hbig), Int.emod_nonneg _ (by decide), Int.emod_lt_of_pos _ (by decide)⟩
    unfold m_law_purse b_law_purse
    refine u_run (env1 := (env0 3 [.rl (ns.map D.int), .int 0]).set 2 (some (.int s))) ?_
    rw [show N_law_purse.length = 3 from rfl, u_seq (u_asg c2)]
    refine u_ret (u_lst (ds := [.int _, .int _, .int 0, .int 0]) (u_cons (h1 := Hs.new.push (.lst (ms.map D.int))) ?_ (u_cons (h1 := Hs.new.push (.lst (ms.map D.int))) ?_ (u_cons u_C (u_cons (u_var rfl) u_nil)))) r1)
    · refine u_2 (d1 := .int (if 0 > s - 10 ^ 18 then 0 else s - 10 ^ 18)) (d2 := .int ((10 ^ 60) ^ 8)) (h1 := Hs.new.push (.lst (ms.map D.int))) (h2 := Hs.new.push (.lst (ms.map D.int))) ?_ ?_ ?_
      · exact u_N (u_cons (u_N (u_cons (u_2 (u_var rfl) (u_pow (a := 10) (n := 18) u_C u_C hp1) (r := .int (s - 10 ^ 18)) rfl) (u_cons u_C u_nil)) (r := .int (if 0 > s - 10 ^ 18 then 0 else s - 10 ^ 18)) rfl) u_nil) rfl
      · exact u_pow (a := 10 ^ 60) (n := 8) (u_pow (a := 10) (n := 60) u_C u_C hp2) u_C hp3
      · unfold p2 dMod
        dsimp only
        rw [if_pos hbig]
    · refine u_2 (u_N (u_cons (u_var rfl) u_nil) (r := .int s) rfl) u_C ?_
      unfold p2 dMod
      dsimp only
      rw [if_pos (by decide)]
  cases ns with
  | nil => exact key [] rfl
  | cons n ns => exact key [n] (by
      unfold HC.cutD
      simp [HT.sIx])
end K01
end
section
set_option Elab.async false
set_option linter.all false
set_option maxRecDepth 100000
set_option maxHeartbeats 2000000
set_option autoImplicit false
namespace K01
open PySem L2 PyProof.Rows HC
/-! ### the word -/
theorem e_purses (ns : List Int) : ∃ a b xs, m_law_purses [.rl (ns.map D.int), .int 1] Hs.new = .ok (.ref 2) (((Hs.new.push (.lst xs)).push (Pu a b 0 0)).push (.lst [.ref 1])) ∧ 0 ≤ a ∧ 0 ≤ b ∧ b < 2147483629 := by
  obtain ⟨a, b, xs, e, h1, h2, h3⟩ := e_purse ns
  refine ⟨a, b, xs, ?_, h1, h2, h3⟩
  generalize hl : ns.map D.int = ds at *
  unfold m_law_purses b_law_purses
  refine u_run (env1 := env0 3 [.rl ds, .int 1]) (u_ret (u_comp (wk := wkR 0 1) (h1 := Hs.new) (h2 := (Hs.new.push (.lst xs)).push (Pu a b 0 0)) (ds := [.ref 1]) ?_ ?_ (show 0 + 1 + 1 < 65536 by decide)))
  · have hm : (if (((ds.length : Nat) : Int) < 1) then ((ds.length : Nat) : Int) else 1) ≤ 1 := by split <;> omega
    have h0 : (0 : Int) ≤ (if (((ds.length : Nat) : Int) < 1) then ((ds.length : Nat) : Int) else 1) := by split <;> omega
    have e2 : eN (pN dMin2) (aCons (eVar 1) (aCons (eN (pN dLen) (aCons (eVar 0) aNil)) aNil)) (env0 3 [.rl ds, .int 1]) Hs.new = .ok (.int (if (((ds.length : Nat) : Int) < 1) then ((ds.length : Nat) : Int) else 1)) Hs.new :=
      u_N (u_cons (u_var rfl) (u_cons (u_N (u_cons (u_var rfl) u_nil) (r := .int (ds.length : Nat)) rfl) u_nil)) rfl
    have e3 : eN (pN dMax2) (aCons (eC (.int 1)) (aCons (eN (pN dMin2) (aCons (eVar 1) (aCons (eN (pN dLen) (aCons (eVar 0) aNil)) aNil))) aNil)) (env0 3 [.rl ds, .int 1]) Hs.new = .ok (.int 1) Hs.new := by
      refine u_N (u_cons u_C (u_cons e2 u_nil)) ?_
      unfold pN dMax2
      dsimp only
      rw [if_neg (by omega)]
    unfold iRg1
    rw [show N_law_purses.length = 3 from rfl, u_cons e3 u_nil]
    show (if (1 : Int) ≤ 16777216 ∧ -(2 ^ 62) ≤ (1 : Int) then Rs.ok (wkR 0 (1 : Int).toNat) _ else .no) = _
    rw [if_pos (by decide)]
    rfl
  · have ec : eCall (m_law_purse) [] (aCons (eVar 0) (aCons (eVar 2) aNil)) ((wipeE (env0 3 [.rl ds, .int 1]) [2]).set 2 (some (.int 0))) Hs.new = .ok (.ref 1) ((Hs.new.push (.lst xs)).push (Pu a b 0 0)) := u_call0 (u_cons (u_var rfl) (u_cons (u_var rfl) u_nil)) e
    show compW (wkR 0 1) (gN 2) tTrue _ (wipeE (env0 3 [.rl ds, .int 1]) [2]) (65534 + 1 + 1) 0 Hs.new = _
    unfold compW
    have w0 : wkR 0 1 Hs.new 0 = .it (.int (0 + ((0 : Nat) : Int))) := rfl
    rw [w0]
    dsimp only [gN, tTrue]
    rw [show (0 : Int) + ((0 : Nat) : Int) = 0 from rfl, ec]
    dsimp only
    unfold compW
    have w1 : ∀ h : Hs, wkR 0 1 h (0 + 1) = .st := fun _ => rfl
    rw [w1]
abbrev eLet : Ev := HC.e2 dIx2 (eC (.str "abcdefghijklmnopqrstuvwxyz")) (eCall (m_law_draw) [] (aCons (eVar 1) (aCons (eC (.int 26)) aNil)))
def sg (c : Nat) : D := .str ⟨#[c]⟩
theorem let_at : ∀ i : Nat, i < 26 → dIx2 Hs.new (.str "abcdefghijklmnopqrstuvwxyz") (.int (i : Nat)) = .ok (sg (97 + i)) Hs.new := by
  intro i hi
  have : ∀ i : Fin 26, dIx2 Hs.new (.str "abcdefghijklmnopqrstuvwxyz") (.int (i.1 : Nat)) = .ok (sg (97 + i.1)) Hs.new := by
    intro i
    match i with
    | ⟨0, _⟩ => rfl
    | ⟨1, _⟩ => rfl
    | ⟨2, _⟩ => rfl
    | ⟨3, _⟩ => rfl
    | ⟨4, _⟩ => rfl
    | ⟨5, _⟩ => rfl
    | ⟨6, _⟩ => rfl
    | ⟨7, _⟩ => rfl
    | ⟨8, _⟩ => rfl
    | ⟨9, _⟩ => rfl
    | ⟨10, _⟩ => rfl
    | ⟨11, _⟩ => rfl
    | ⟨12, _⟩ => rfl
    | ⟨13, _⟩ => rfl
    | ⟨14, _⟩ => rfl
    | ⟨15, _⟩ => rfl
    | ⟨16, _⟩ => rfl
    | ⟨17, _⟩ => rfl
    | ⟨18, _⟩ => rfl
    | ⟨19, _⟩ => rfl
    | ⟨20, _⟩ => rfl
    | ⟨21, _⟩ => rfl
    | ⟨22, _⟩ => rfl
    | ⟨23, _⟩ => rfl
    | ⟨24, _⟩ => rfl
    | ⟨25, _⟩ => rfl
    | ⟨n + 26, q⟩ => exact absurd q (by omega)
  exact this ⟨i, hi⟩
theorem let_any {i : Nat} (hi : i < 26) (h : Hs) : dIx2 h (.str "abcdefghijklmnopqrstuvwxyz") (.int (i : Nat)) = .ok (sg (97 + i)) h := by
  have e := let_at i hi
  unfold dIx2 dIx at e ⊢
  dsimp only at e ⊢
  cases q : atI ("abcdefghijklmnopqrstuvwxyz" : Str).cps.toList (i : Int) with
  | none => rw [q] at e; cases e
  | some c =>
    rw [q] at e
    dsimp only at e ⊢
    injection e with e1 e2
    rw [e1]
theorem e_letters {env : HC.Env} (he : (env[1]? = some (some (.ref 1))) ∧ env.length = 12) (k : Nat) : ∀ (fuel i n : Nat) (h : Hs), k < fuel + i → i ≤ k → Purse n (h.get 1) → h.mks = [] → n + (k - i) < 100 → ∃ (cs : List Nat) (h' : Hs) (m : Nat), compW (wkR 0 k) (gN 3) tTrue eLet env fuel i h = some (cs.map sg, h') ∧ But 1 h h' ∧ Purse m (h'.get 1) ∧ m < 200 ∧ cs.length = k - i ∧ ∀ c ∈ cs, 97 ≤ c ∧ c < 123
  | 0, i, n, h, hf, hi, _, _, _ => absurd hf (by omega)
  | f + 1, i, n, h, hf, hi, hp, hm, hn => by
    by_cases hk : i < k
    · obtain ⟨r, h1, d1, d2, d3, d4, d5⟩ := e_draw (m := 26) hp hm (by omega) (by decide) (by decide)
      obtain ⟨cs, h', m, c1, c2, c3, c4, c5, c6⟩ := e_letters he k f (i + 1) (n + 1) h1 (by omega) hk d4 (d5.ms.trans hm) (by omega)
      have er : r = ((r.toNat : Nat) : Int) := by omega
      have el : eLet (env.set 3 (some (.int (0 + (i : Nat))))) h = .ok (sg (97 + r.toNat)) h1 := by
        refine u_2 u_C (u_call0 (u_cons (u_var (by rw [List.getElem?_set_ne (by decide)]; exact he.1)) (u_cons u_C u_nil)) d1) ?_
        rw [er]
        exact let_any (by omega) h1
      refine ⟨(97 + r.toNat) :: cs, h', m, ?_, d5.trans c2, c3, c4, by rw [List.length_cons]; omega, fun c hc => ?_⟩
      · unfold compW
        have hw : wkR 0 k h i = .it (.int (0 + (i : Nat))) := by unfold wkR; rw [if_pos hk]
        rw [hw]
        show (match tTrue (env.set 3 (some (.int (0 + (i : Nat))))) h with
          | .ok true h2 => (match eLet (env.set 3 (some (.int (0 + (i : Nat))))) h2 with
            | .ok t h3 => (match compW (wkR 0 k) (gN 3) tTrue eLet env f (i + 1) h3 with
              | some (ts, h4) => some (t :: ts, h4)
              | none => none)
            | _ => none)
          | .ok false h2 => compW (wkR 0 k) (gN 3) tTrue eLet env f (i + 1) h2
          | _ => none) = _
        unfold tTrue
        dsimp only
        rw [el]
        dsimp only
        rw [show compW (wkR 0 k) (gN 3) (fun env h => Rs.ok true h) eLet env f (i + 1) h1 = some (cs.map sg, h') from c1]
        rfl
      · rcases List.mem_cons.mp hc with rfl | hc
        · omega
        · exact c6 c hc
    · have ei : i = k := by omega
      subst ei
      refine ⟨[], h, n, ?_, .refl, hp, by omega, by simp, fun c hc => nomatch hc⟩
      unfold compW
      have hw : wkR 0 i h i = .st := by unfold wkR; rw [if_neg (Nat.lt_irrefl _)]
      rw [hw]
      rfl
/-- a word: up to four letters -/
structure Word (w : Str) : Prop where
  len : w.length ≤ 4
  ok : PyData.strOk w = true
abbrev Wd (cs : List Nat) : Str := ⟨cs.toArray⟩
theorem word_ok {cs : List Nat} (h : ∀ c ∈ cs, 97 ≤ c ∧ c < 123) : PyData.strOk (Wd cs) = true := by
  unfold PyData.strOk
  rw [Array.all_eq_true']
  intro c hc
  have := h c (by simpa using hc)
  simp
  omega
theorem word_of {cs : List Nat} (hl : cs.length ≤ 4) (hc : ∀ c ∈ cs, 97 ≤ c ∧ c < 123) {h : Hs} {c : Nat} (g : h.get c = some (.lst (cs.map sg))) : ∃ w, Word w ∧ dJoin h (.str "") [.ref c] = .ok (.str w) h := by
  have e1 : seqA h (.ref c) = some (cs.map sg) := by
    show seqL h (.ref c) = _
    unfold seqL
    dsimp only
    rw [g]
  have e2 : ∀ xs : List Nat, strsOf (xs.map sg) = some (xs.map fun c => (⟨#[c]⟩ : Str)) := fun xs => by
    induction xs with
    | nil => rfl
    | cons x xs ih =>
      show (strsOf (xs.map sg)).map _ = _
      rw [ih]; rfl
  have e3 : Txt.join "" (cs.map fun c => (⟨#[c]⟩ : Str)) = Wd cs := by
    match cs, hl with
    | [], _ => rfl
    | [a], _ => rfl
    | [a, b], _ => rfl
    | [a, b, d], _ => rfl
    | [a, b, d, e], _ => rfl
  have e4 : (Wd cs).length = cs.length := by simp [Wd, Str.length]
  have e5 : (((cs.map fun c => (⟨#[c]⟩ : Str)).map (·.length)).sum + (cs.map fun c => (⟨#[c]⟩ : Str)).length * ("" : Str).length ≤ 16777216) := by
    have : ∀ xs : List Nat, ((xs.map fun c => (⟨#[c]⟩ : Str)).map (·.length)).sum = xs.length := fun xs => by
      induction xs with
      | nil => rfl
      | cons x xs ih => rw [List.map_cons, List.map_cons, List.sum_cons, ih, List.length_cons]; show 1 + _ = _; omega
    rw [this]
    have : ("" : Str).length = 0 := rfl
    rw [this]
    omega
  refine ⟨Wd cs, ⟨by rw [e4]; exact hl, word_ok hc⟩, ?_⟩
  unfold dJoin
  dsimp only
  rw [e1]
  dsimp only
  rw [e2]
  dsimp only
  rw [if_pos e5, e3]
  unfold okS
  rw [if_pos ⟨by rw [e4]; have : 1000 ≤ sizeLine := by decide
                 omega, word_ok hc⟩]
/-- the heap at the start of a turn -/
structure Start (n : Nat) (h : Hs) : Prop where
  sz : h.sz = 4
  ms : h.mks = []
  pu : Purse n (h.get 1)
  l2 : h.get 2 = some (.lst [.ref 1])
/-- one turn's names -/
abbrev E1 (ds : List D) : HC.Env := [some (.rl ds), some (.ref 1), none, none, none, none, none, none, none, none, none, none]
abbrev E2 (ds : List D) (w : Str) : HC.Env := [some (.rl ds), some (.ref 1), some (.str w), none, none, none, none, none, none, none, none, none]
theorem t_word {ds : List D} {h : Hs} {n : Nat} (hz : h.sz = 3) (hm : h.mks = []) (hp : Purse n (h.get 1)) (h2 : h.get 2 = some (.lst [.ref 1])) (hn : n < 10) : ∃ w h' m, Word w ∧ l_b0 (E1 ds) h = some (.nx, E2 ds w, h') ∧ Start m h' ∧ m < 200 := by
  obtain ⟨r, h1, a1, a2, a3, a4, a5⟩ := e_draw (m := 4) hp hm (by omega) (by decide) (by decide)
  have er : r = ((r.toNat : Nat) : Int) := by omega
  obtain ⟨cs, h', m, c1, c2, c3, c4, c5, c6⟩ := e_letters (env := E1 ds) ⟨rfl, rfl⟩ (1 + r.toNat) turns 0 (n + 1) h1 (by unfold turns; omega) (Nat.zero_le _) a4 (a5.ms.trans hm) (by omega)
  have r1 : h'.sz < room := by rw [c2.sz, a5.sz, hz]; decide
  have ec : eComp [3] (iRg1 (aCons (HC.e2 dAdd (eC (.int 1)) (eCall (m_law_draw) [] (aCons (eVar 1) (aCons (eC (.int 4)) aNil)))) aNil)) (gN 3) tTrue eLet (E1 ds) h = .ok (.ref h'.sz) (h'.push (.lst (cs.map sg))) := by
    refine u_comp (wk := wkR 0 (1 + r.toNat)) (h1 := h1) ?_ c1 r1
    unfold iRg1
    have e : HC.e2 dAdd (eC (.int 1)) (eCall (m_law_draw) [] (aCons (eVar 1) (aCons (eC (.int 4)) aNil))) (E1 ds) h = .ok (.int (1 + r)) h1 := u_2 u_C (u_call0 (u_cons (u_var rfl) (u_cons u_C u_nil)) a1) rfl
    rw [u_cons e u_nil]
    show (if (1 + r : Int) ≤ 16777216 ∧ -(2 ^ 62) ≤ (1 + r : Int) then Rs.ok (wkR 0 (1 + r).toNat) h1 else .no) = _
    rw [if_pos ⟨by omega, by omega⟩, show (1 + r).toNat = 1 + r.toNat by omega]
  have hz' : h'.sz = 3 := by rw [c2.sz, a5.sz, hz]
  obtain ⟨w, w1, w2⟩ := word_of (cs := cs) (by omega) c6 (Hs.get_push_self (h := h') (o := .lst (cs.map sg)) r1)
  refine ⟨w, h'.push (.lst (cs.map sg)), m, w1, ?_, ⟨by show h'.sz + 1 = 4; omega, (c2.trans (.refl) : But 1 h1 h').ms.trans (a5.ms.trans hm), ?_, ?_⟩, c4⟩
  · have : l_b0 (E1 ds) h = some (.nx, (E1 ds).set 2 (some (.str w)), h'.push (.lst (cs.map sg))) := by
      refine u_asg ?_
      unfold eSM
      show (Rs.ok (D.str "") h).bind _ = _
      show (aCons (eComp [3] (iRg1 (aCons (HC.e2 dAdd (eC (.int 1)) (eCall (m_law_draw) [] (aCons (eVar 1) (aCons (eC (.int 4)) aNil)))) aNil)) (gN 3) tTrue eLet) aNil (E1 ds) h).bind _ = _
      rw [u_cons ec u_nil]
      exact w2
    exact this
  · rw [Hs.get_push_ne r1 (by omega)]; exact c3
  · rw [Hs.get_push_ne r1 (by omega), c2.eq 2 (by decide), a5.eq 2 (by decide)]; exact h2
end K01
end
section
set_option Elab.async false
set_option linter.all false
set_option maxRecDepth 100000
set_option maxHeartbeats 2000000
set_option autoImplicit false
namespace K01
open PySem L2 PyProof.Rows HC
/-! ### the thing -/
/-- the cells that plain made -/
structure Made (w : Str) (h : Hs) : Prop where
  sz : 14 ≤ h.sz
  ms : h.mks = []
  g2 : h.get 2 = some (.lst [.ref 1])
  g4 : h.get 4 = some (.lst [.str w])
  g5 : h.get 5 = some (.lst [.str w])
  g6 : h.get 6 = some (.dK [(.inr w, .ref 5)])
  g8 : h.get 8 = some (.lst [.str w])
  g9 : h.get 9 = some (.lst [.str w])
  g10 : h.get 10 = some (.dK [(.inr "odd", .str w)])
  g11 : h.get 11 = some (.lst [.ref 9, .ref 10])
theorem Made.ext {w : Str} {h h' : Hs} (m : Made w h) (x : Ext h h') : Made w h' := ⟨Nat.le_trans m.sz x.le, x.ms.trans m.ms, x.get m.g2, x.get m.g4, x.get m.g5, x.get m.g6, x.get m.g8, x.get m.g9, x.get m.g10, x.get m.g11⟩
inductive Thing (w : Str) : D → Prop where
  | non : Thing w .non
  | bl (k : Bool) : Thing w (.bl k)
  | int (i : Int) : i.natAbs < 2 ^ 32 → Thing w (.int i)
  | word : Thing w (.str w)
  | says : Thing w (.tup .ex [.str "says", .str w, .int 1, .int 2])
  | pair : Thing w (.tup .ex [.str w, .ref 4])
  | dict : Thing w (.ref 6)
  | flat : Thing w (.ref 8)
  | deep : Thing w (.ref 11)
theorem big1921 {i : Int} (h : i.natAbs < 2 ^ 32) : okR (.int i) = true := by
  have := log2_lt' h (by decide)
  simp only [okR, decide_eq_true_eq]
  omega
theorem pw_word {w : Str} (h : Word w) : pwR (.str w) ≤ 42 := by
  have := h.len
  simp only [pwR]
  omega
theorem ok_word {w : Str} (h : Word w) : okR (.str w) = true := by simpa only [okR] using h.ok
theorem line5 : 10000 ≤ sizeLine := by decide
theorem noted_of {t nt : D} {h : Hs} {p : PyData} (a : vwR h 60 t = some p) (b : okR p = true) (c : pwR p ≤ 10000) : Noted t (.rep p) h := ⟨⟨p, a, b, Nat.le_trans c line5, rfl⟩⟩
/-- what repr tells of t -/
def Tells (t : D) (h : Hs) : Prop := ∃ p, vwR h 60 t = some p ∧ okR p = true ∧ pwR p ≤ 10000
theorem Tells.noted {t : D} {h : Hs} (q : Tells t h) : ∃ p, pN dReprR h [t] = .ok (.rep p) h ∧ Noted t (.rep p) h := by
  obtain ⟨p, a, b, c⟩ := q
  exact ⟨p, repr_of a b (Nat.le_trans c line5), noted_of (nt := .rep p) a b c⟩
theorem tells_thing {w : Str} {t : D} {h : Hs} (T : Thing w t) (hw : Word w) (m : Made w h) : Tells t h := by
  have pw := pw_word hw
  have ow := ok_word hw
  cases T with
  | non => exact ⟨_, rfl, rfl, by decide⟩
  | bl k => exact ⟨_, rfl, rfl, by cases k <;> decide⟩
  | int i hi => exact ⟨_, rfl, big1921 hi, by show 1921 ≤ 10000; decide⟩
  | word => exact ⟨_, rfl, ow, by omega⟩
  | says =>
    refine ⟨_, rfl, ?_, ?_⟩
    · simp only [okR, okRs] at ow ⊢
      rw [ow]
      decide +kernel
    · have e : ("says" : Str).length = 4 := rfl
      simp only [pwR, pwRs, e] at pw ⊢
      omega
  | pair =>
    refine ⟨.tuple [.str w, .list [.str w]], ?_, ?_, ?_⟩
    · simp only [vwR, mapO]
      rw [m.g4]
      rfl
    · simp only [okR, okRs] at ow ⊢
      rw [ow]
      decide +kernel
    · simp only [pwR, pwRs] at pw ⊢
      omega
  | dict =>
    refine ⟨.dict [(.str w, .list [.str w])], ?_, ?_, ?_⟩
    · simp only [vwR]
      rw [m.g6]
      simp only [List.map_cons, List.map_nil, mapO, vwR]
      rw [m.g5]
      rfl
    · simp only [okR, okRs, okRk] at ow ⊢
      rw [ow]
      decide +kernel
    · simp only [pwR, pwRs, pwRk] at pw ⊢
      omega
  | flat =>
    refine ⟨.list [.str w], ?_, ?_, ?_⟩
    · simp only [vwR]
      rw [m.g8]
      rfl
    · simp only [okR, okRs] at ow ⊢
      rw [ow]
      decide +kernel
    · simp only [pwR, pwRs] at pw ⊢
      omega
  | deep =>
    refine ⟨.list [.list [.str w], .dict [(.str "odd", .str w)]], ?_, ?_, ?_⟩
    · simp only [vwR]
      rw [m.g11]
      simp only [mapO, vwR]
      rw [m.g9, m.g10]
      rfl
    · simp only [okR, okRs, okRk] at ow ⊢
      rw [ow]
      decide +kernel
    · have e : ("odd" : Str).length = 3 := rfl
      simp only [pwR, pwRs, pwRk, e] at pw ⊢
      omega
/-! ### it is drawn -/
theorem e_one_of {n c : Nat} {xs : List D} {h : Hs} (hc : c ≠ 1) (hp : Purse n (h.get 1)) (hk : h.mks = []) (hn : n < 2 ^ 50) (g : h.get c = some (.lst xs)) (h1 : 1 ≤ xs.length) (h2 : xs.length ≤ 1000) : ∃ (i : Nat) (t : D) (h' : Hs), m_law_one_of [.ref 1, .ref c] h = .ok t h' ∧ xs[i]? = some t ∧ But 1 h h' := by
  obtain ⟨r, h', a1, a2, a3, a4, a5⟩ := e_draw (m := (xs.length : Nat)) hp hk hn (by omega) (by omega)
  obtain ⟨t, ht⟩ : ∃ t, xs[r.toNat]? = some t := ⟨_, List.getElem?_eq_getElem (by omega)⟩
  refine ⟨r.toNat, t, h', ?_, ht, a5⟩
  unfold m_law_one_of b_law_one_of
  refine u_run (env1 := env0 2 [.ref 1, .ref c]) (u_ret (u_2 (u_var rfl) (u_call0 (u_cons (u_var rfl) (u_cons (u_N (u_cons (u_var (d := .ref c) rfl) u_nil) (r := .int (xs.length : Nat)) ?_) u_nil)) a1) ?_))
  · unfold pN dLen lenD seqL
    dsimp only
    rw [g]
    rfl
  · unfold dIx2
    dsimp only
    have g' : h'.get c = some (.lst xs) := (a5.eq c hc).trans g
    rw [g']
    dsimp only [dIx]
    rw [g']
    dsimp only
    have : atI xs r = some t := by
      unfold atI
      have : ixN xs.length r = some r.toNat := by
        unfold ixN
        rw [if_pos (by omega), if_pos (by omega)]
      rw [this]
      exact ht
    rw [this]
abbrev Pl (w : Str) (b : Int) : List D := [.non, .bl true, .bl false, .int 0, .str w, .int (-b), .tup .ex [.str "says", .str w, .int 1, .int 2], .tup .ex [.str w, .ref 4], .ref 6]
abbrev E4 (ds : List D) (w : Str) : HC.Env := [some (.rl ds), some (.ref 1), some (.str w), none, some (.ref 7), none, none, none, none, none, none, none]
abbrev E5 (ds : List D) (w : Str) (t : D) : HC.Env := [some (.rl ds), some (.ref 1), some (.str w), none, some (.ref 7), some t, none, none, none, none, none, none]
/-- h' is h with one cell more, of the number k -/
structure Mk (o : O) (h : Hs) (k : Nat) (h' : Hs) : Prop where
  sz : h.sz = k
  few : k < 60000
  e : h' = h.push o
theorem Mk.room {o : O} {h h' : Hs} {k : Nat} (m : Mk o h k h') : h.sz < room := by
  have := m.sz
  have := m.few
  show h.sz < 65536
  omega
theorem Mk.mk' {o : O} {h h' : Hs} {k : Nat} (m : Mk o h k h') : HC.mk o h = Rs.ok (.ref k) h' := by
  rw [u_mk m.room, m.sz, m.e]
theorem Mk.ext {o : O} {h h' : Hs} {k : Nat} (m : Mk o h k h') : Ext h h' := by
  rw [m.e]; exact .push m.room
theorem Mk.get {o : O} {h h' : Hs} {k : Nat} (m : Mk o h k h') : h'.get k = some o := by
  rw [m.e, ← m.sz]; exact Hs.get_push_self _ m.room
theorem Mk.nx {o p : O} {h h' : Hs} {k : Nat} (m : Mk o h k h') (hk : k + 1 < 60000) : Mk p h' (k + 1) (h'.push p) := ⟨by rw [m.e]; show h.sz + 1 = _; rw [m.sz], hk, rfl⟩
theorem Mk.lst {ds : List D} {h h1 h' : Hs} {k : Nat} {av : Av} {env : HC.Env} (m : Mk (.lst ds) h1 k h') (e : av env h = .ok ds h1) : eLst av env h = .ok (.ref k) h' := by
  unfold eLst
  rw [e]
  exact m.mk'
theorem Mk.one {ev ek : Ev} {h h1 h2 h' : Hs} {d : D} {q : Key} {t : D} {k : Nat} {env : HC.Env} (m : Mk (.dK [(q, t)]) h2 k h') (e1 : ek env h = .ok d h1) (e2 : ev env h1 = .ok t h2) (hq : d.key? = some q) : eDisp [(ek, ev)] env h = .ok (.ref k) h' := by
  unfold eDisp dispL
  rw [e1]
  show (((ev env h1).bind fun e h2 => match d.key? with | some k => (dispL [] env h2).bind fun ps h3 => .ok ((k, e) :: ps) h3 | none => .no).bind _) = _
  rw [e2, hq]
  exact m.mk'
theorem t_thing {ds : List D} {w : Str} {h : Hs} {n : Nat} (S : Start n h) (hw : Word w) (hn : n < 200) : ∃ t h', sSeq l_b1 l_b2 (E2 ds w) h = some (.nx, E5 ds w t, h') ∧ Thing w t ∧ Made w h' ∧ h'.sz = 14 := by
  obtain ⟨_, b, _, _, hc, _, hb, hb', _, _, _, _⟩ := id S.pu
  have m4 : Mk (.lst [.str w]) h 4 _ := ⟨S.sz, by decide, rfl⟩
  have m5 := m4.nx (p := .lst [.str w]) (by decide)
  have m6 := m5.nx (p := .dK [(.inr w, .ref 5)]) (by decide)
  have m7 := m6.nx (p := .lst (Pl w b)) (by decide)
  have m8 := m7.nx (p := .lst [.str w]) (by decide)
  have m9 := m8.nx (p := .lst [.str w]) (by decide)
  have m10 := m9.nx (p := .dK [(.inr "odd", .str w)]) (by decide)
  have m11 := m10.nx (p := .lst [.ref 9, .ref 10]) (by decide)
  have m12 := m11.nx (p := .lst [.ref 8, .ref 11]) (by decide)
  have m13 := m12.nx (p := .lst (Pl w b ++ [.ref 8, .ref 11])) (by decide)
  generalize h.push (.lst [.str w]) = h1 at *
  generalize h1.push (.lst [.str w]) = h2 at *
  generalize h2.push (.dK [(.inr w, .ref 5)]) = h3 at *
  generalize h3.push (.lst (Pl w b)) = h4 at *
  generalize h4.push (.lst [.str w]) = h5 at *
  generalize h5.push (.lst [.str w]) = h6 at *
  generalize h6.push (.dK [(.inr "odd", .str w)]) = h7 at *
  generalize h7.push (.lst [.ref 9, .ref 10]) = h8 at *
  generalize h8.push (.lst [.ref 8, .ref 11]) = h9 at *
  generalize h9.push (.lst (Pl w b ++ [.ref 8, .ref 11])) = h10 at *
  have eneg : HC.e1 (p1 dNeg) (HC.e2 dIx2 (eVar 1) (eC (.int 1))) (E2 ds w) h = .ok (.int (-b)) h := by
    refine u_1 (u_2 (u_var (d := .ref 1) rfl) u_C (d2 := .int 1) (r := .int b) ?_) rfl
    unfold dIx2
    dsimp only
    rw [hc]
    dsimp only [dIx]
    rw [hc]
    rfl
  have st1 : l_b1 (E2 ds w) h = some (.nx, E4 ds w, h4) := by
    refine (u_asg (d := .ref 7) (h1 := h4) (m7.lst ?_)).trans rfl
    refine u_cons u_C (u_cons u_C (u_cons u_C (u_cons u_C (u_cons (u_var rfl) (u_cons eneg (u_cons (u_tup (u_cons u_C (u_cons (u_var rfl) (u_cons u_C (u_cons u_C u_nil))))) (u_cons (u_tup (u_cons (u_var rfl) (u_cons (m4.lst (u_cons (u_var rfl) u_nil)) u_nil))) (u_cons ?_ u_nil))))))))
    exact m6.one (d := .str w) (u_var rfl) (m5.lst (u_cons (u_var rfl) u_nil)) rfl
  have x := m4.ext.trans (m5.ext.trans (m6.ext.trans (m7.ext.trans (m8.ext.trans (m9.ext.trans (m10.ext.trans (m11.ext.trans (m12.ext.trans m13.ext))))))))
  have hp : Purse n (h10.get 1) := by
    have := S.pu
    rw [x.eq 1 (by rw [S.sz]; decide)]
    exact this
  obtain ⟨i, t, h', c1, c2, c3⟩ := e_one_of (by decide) hp (x.ms.trans S.ms) (by omega) m13.get (by show 1 ≤ 11; decide) (by show 11 ≤ 1000; decide)
  have ad : dAdd h9 (.ref 7) (.ref 12) = .ok (.ref 13) h10 := by
    unfold dAdd
    dsimp only
    rw [(m8.ext.trans (m9.ext.trans (m10.ext.trans (m11.ext.trans m12.ext)))).get m7.get, m12.get]
    dsimp only
    rw [if_pos (show (Pl w b).length + [D.ref 8, D.ref 11].length ≤ sizeLine from (show 9 + 2 ≤ sizeLine by decide))]
    exact m13.mk'
  have st2 : l_b2 (E4 ds w) h4 = some (.nx, E5 ds w t, h') := by
    refine (u_asg (d := t) (h1 := h') (u_call0 (u_cons (u_var (d := .ref 1) rfl) (u_cons (u_2 (u_var (d := .ref 7) rfl) (d2 := .ref 12) (h2 := h9) (m12.lst ?_) ad) u_nil)) c1)).trans rfl
    refine u_cons (m8.lst (u_cons (u_var rfl) u_nil)) (u_cons (m11.lst (u_cons (m9.lst (u_cons (u_var rfl) u_nil)) (u_cons ?_ u_nil))) u_nil)
    exact m10.one (d := .str "odd") u_C (u_var rfl) rfl
  have gt : ∀ k o, h10.get k = some o → k ≠ 1 → h'.get k = some o := fun k o e hk => (c3.eq k hk).trans e
  refine ⟨t, h', by rw [u_seq st1, st2], ?_, ⟨by rw [c3.sz, m13.e]; show 14 ≤ h9.sz + 1; rw [m13.sz]; decide, c3.ms.trans (x.ms.trans S.ms), gt _ _ (x.get S.l2) (by decide),
    gt _ _ ((m5.ext.trans (m6.ext.trans (m7.ext.trans (m8.ext.trans (m9.ext.trans (m10.ext.trans (m11.ext.trans (m12.ext.trans m13.ext)))))))).get m4.get) (by decide),
    gt _ _ ((m6.ext.trans (m7.ext.trans (m8.ext.trans (m9.ext.trans (m10.ext.trans (m11.ext.trans (m12.ext.trans m13.ext))))))).get m5.get) (by decide),
    gt _ _ ((m7.ext.trans (m8.ext.trans (m9.ext.trans (m10.ext.trans (m11.ext.trans (m12.ext.trans m13.ext)))))).get m6.get) (by decide),
    gt _ _ ((m9.ext.trans (m10.ext.trans (m11.ext.trans (m12.ext.trans m13.ext)))).get m8.get) (by decide),
    gt _ _ ((m10.ext.trans (m11.ext.trans (m12.ext.trans m13.ext))).get m9.get) (by decide),
    gt _ _ ((m11.ext.trans (m12.ext.trans m13.ext)).get m10.get) (by decide),
    gt _ _ ((m12.ext.trans m13.ext).get m11.get) (by decide)⟩, by rw [c3.sz, m13.e]; show h9.sz + 1 = 14; rw [m13.sz]⟩
  match i, c2 with
  | 0, e => cases e; exact .non
  | 1, e => cases e; exact .bl _
  | 2, e => cases e; exact .bl _
  | 3, e => cases e; exact .int _ (by decide)
  | 4, e => cases e; exact .word
  | 5, e => cases e; exact .int _ (by omega)
  | 6, e => cases e; exact .says
  | 7, e => cases e; exact .pair
  | 8, e => cases e; exact .dict
  | 9, e => cases e; exact .flat
  | 10, e => cases e; exact .deep
  | k + 11, e => cases e
end K01
end
section
set_option Elab.async false
set_option linter.all false
set_option maxRecDepth 100000
set_option maxHeartbeats 2000000
set_option autoImplicit false
namespace K01
open PySem L2 PyProof.Rows HC
/-! ### the thing is changed -/
def Firm : O → Prop
  | .exc _ _ => True
  | .exb _ => True
  | .lst xs => 3 ≤ xs.length
  | _ => False
structure Keeps (h h' : Hs) : Prop where
  sz : h'.sz = h.sz
  ms : h'.mks = h.mks
  g2 : h'.get 2 = h.get 2
  fm : ∀ i o, h.get i = some o → Firm o → h'.get i = some o
theorem Keeps.refl {h : Hs} : Keeps h h := ⟨rfl, rfl, rfl, fun _ _ e _ => e⟩
theorem Keeps.trans {h h1 h2 : Hs} (a : Keeps h h1) (b : Keeps h1 h2) : Keeps h h2 := ⟨b.sz.trans a.sz, b.ms.trans a.ms, b.g2.trans a.g2, fun i o e f => b.fm i o (a.fm i o e f) f⟩
theorem Keeps.set {h : Hs} {c : Nat} {o p : O} (g : h.get c = some o) (nf : ¬Firm o) (h2 : c ≠ 2) : Keeps h (h.set c p) :=
  ⟨rfl, rfl, Hs.get_set_ne (Hs.get_lt g).2 (Ne.symm h2), fun i q e f => by
    by_cases hi : i = c
    · subst hi; rw [g] at e; cases e; exact absurd f nf
    · rw [Hs.get_set_ne (Hs.get_lt g).2 hi]; exact e⟩
theorem Errs.keep {d : D} {c : Nat} {h h' : Hs} (q : Errs d c h) (k : Keeps h h') : Errs d c h' := by
  obtain ⟨rs, g, p⟩ := q
  have hl : rs.length = 59 := (paired_len p).symm.trans nm_len
  refine ⟨rs, k.fm _ _ g (by show 3 ≤ rs.length; omega), ?_⟩
  clear g hl
  revert p
  generalize NM = ms
  intro p
  induction p with
  | nil => exact .nil
  | cons a _ ih =>
    refine .cons ?_ ih
    obtain ⟨i, e, gi⟩ := a
    exact ⟨i, e, k.fm _ _ gi trivial⟩
abbrev E9 (ds : List D) (w : Str) (t nt : D) (a b c : Nat) : HC.Env := [some (.rl ds), some (.ref 1), some (.str w), none, some (.ref 7), some t, some nt, some (.ref a), some (.ref b), some (.ref c), none, none]
theorem is_ref {h : Hs} {c : Nat} {o : O} {n : String} {b : Bool} (g : h.get c = some o) (k : match o with | .lst _ => isKind "list" n = some b | .dK _ => isKind "dict" n = some b | _ => False) : pN (dIsX CS) h [.ref c, .ty n] = .ok (.bl b) h := by
  unfold pN dIsX excN dIsi tyName
  dsimp only
  rw [g]
  cases o <;> first | exact k.elim | (dsimp only at k ⊢; rw [k])
theorem is_leaf {h : Hs} {d : D} {a n : String} {b : Bool} (e : tyName h d = some a) (k : isKind a n = some b) (x : excN h d = none := by rfl) : pN (dIsX CS) h [d, .ty n] = .ok (.bl b) h := by
  unfold pN dIsX dIsi
  dsimp only
  rw [x]
  dsimp only
  rw [e]
  dsimp only
  rw [k]
theorem k_nl : isKind "NoneType" "list" = some false := by decide +kernel
theorem k_ll : isKind "list" "list" = some true := by decide +kernel
theorem mut_app {h : Hs} {c : Nat} {xs : List D} {env : HC.Env} {ev : Ev} (g : h.get c = some (.lst xs)) (hm : h.mks = []) (hl : xs.length < 3) (e : ev env h = .ok (.ref c) h) : sDrop (eBM dApp ev (aCons (eC (.str "later")) aNil)) env h = some (.nx, env, h.set c (.lst (xs ++ [.str "later"]))) := by
  refine u_drop (d := .non) ?_
  unfold eBM
  rw [e]
  show (if isL h (.ref c) = true then _ else _) = _
  have : isL h (.ref c) = true := by unfold isL; dsimp only; rw [g]
  rw [if_pos this]
  show dApp h (.ref c) [.str "later"] = _
  unfold dApp
  dsimp only
  rw [g]
  dsimp only
  rw [if_pos (by have := line5; omega)]
  unfold wr
  rw [if_pos (bar_free hm)]
abbrev fIsE (ev : Ev) (n : String) : Ev := eN (pN (dIsX CS)) (aCons ev (aCons (eC (.ty n)) aNil))
theorem c_no {ev : Ev} {n : String} {s : Sv} {env : HC.Env} {h : Hs} {t : D} (e : ev env h = .ok t h) (k : pN (dIsX CS) h [t, .ty n] = .ok (.bl false) h) : sIf (tV (fIsE ev n)) s sNext env h = some (.nx, env, h) := by
  rw [u_ifF (u_tVb (u_N (u_cons e (u_cons u_C u_nil)) k))]
  rfl
theorem c_yes {ev : Ev} {n : String} {s : Sv} {env : HC.Env} {h : Hs} {t : D} (e : ev env h = .ok t h) (k : pN (dIsX CS) h [t, .ty n] = .ok (.bl true) h) : sIf (tV (fIsE ev n)) s sNext env h = s env h :=
  u_ifT (u_tVb (u_N (u_cons e (u_cons u_C u_nil)) k))
theorem pw_later : pwR (.str "later") ≤ 52 := by decide +kernel
theorem ok_later : okR (.str "later") = true := by decide +kernel
/-- one turn's changes -/
structure Chg (env : HC.Env) (t : D) (h : Hs) : Prop where
  ex : ∃ h1 h2 h3, l_b7 env h = some (.nx, env, h1) ∧ l_b8 env h1 = some (.nx, env, h2) ∧ l_b9 env h2 = some (.nx, env, h3) ∧ Keeps h h3 ∧ Tells t h3
theorem chg_leaf {w : Str} {t : D} {a : String} {env : HC.Env} {h : Hs} (e5 : env[5]? = some (some t)) (e : tyName h t = some a) (x : excN h t = none) (k1 : isKind a "list" = some false) (k2 : isKind a "dict" = some false) (k3 : isKind a "tuple" = some false) (q : Tells t h) : Chg env t h :=
  ⟨h, h, h, c_no (u_var e5) (is_leaf e k1 x), c_no (u_var e5) (is_leaf e k2 x), by
    show sIf (tAn _ _) _ sNext env h = _
    rw [u_ifF (u_tAnF (u_tVb (u_N (u_cons (u_var e5) (u_cons u_C u_nil)) (is_leaf e k3 x))))]
    rfl, .refl, q⟩
theorem k_tl : isKind "tuple" "list" = some false := by decide +kernel
theorem k_td : isKind "tuple" "dict" = some false := by decide +kernel
theorem k_tt : isKind "tuple" "tuple" = some true := by decide +kernel
theorem k_sl : isKind "str" "list" = some false := by decide +kernel
theorem k_dl : isKind "dict" "list" = some false := by decide +kernel
theorem k_dd : isKind "dict" "dict" = some true := by decide +kernel
theorem k_dt : isKind "dict" "tuple" = some false := by decide +kernel
theorem k_ld : isKind "list" "dict" = some false := by decide +kernel
theorem k_lt : isKind "list" "tuple" = some false := by decide +kernel
theorem nf1 (w : D) : ¬Firm (.lst [w]) := fun h => absurd h (show ¬(3 ≤ 1) by decide)
theorem nf2 (w u : D) : ¬Firm (.lst [w, u]) := fun h => absurd h (show ¬(3 ≤ 2) by decide)
theorem nfd (l : List (Key × D)) : ¬Firm (.dK l) := fun h => h
theorem chg_flat {c : Nat} {xs : List D} {env : HC.Env} {h : Hs} (e5 : env[5]? = some (some (.ref c))) (g : h.get c = some (.lst xs)) (hm : h.mks = []) (hl : xs.length < 3) (hc : c ≠ 2)
    (q : Tells (.ref c) (h.set c (.lst (xs ++ [.str "later"])))) : Chg env (.ref c) h := by
  have g' : (h.set c (.lst (xs ++ [.str "later"]))).get c = some (.lst (xs ++ [.str "later"])) := Hs.get_set_self _ (Hs.get_lt g).1 (Hs.get_lt g).2
  refine ⟨_, _, _, (c_yes (u_var e5) (is_ref g k_ll)).trans (mut_app g hm hl (u_var e5)), c_no (u_var e5) (is_ref g' k_ld), ?_, .set g (fun f => absurd (show 3 ≤ xs.length from f) (by omega)) hc, q⟩
  show sIf (tAn _ _) _ sNext env _ = _
  rw [u_ifF (u_tAnF (u_tVb (u_N (u_cons (u_var e5) (u_cons u_C u_nil)) (is_ref g' k_lt))))]
  rfl
theorem t_mut {ds : List D} {w : Str} {t nt : D} {a b c : Nat} {h : Hs} (T : Thing w t) (hw : Word w) (m : Made w h) : Chg (E9 ds w t nt a b c) t h := by
  have tl := tells_thing T hw m
  have pw := pw_word hw
  have ow := ok_word hw
  have pl := pw_later
  have ol := ok_later
  cases T with
  | non => exact chg_leaf (w := w) rfl rfl rfl (by decide +kernel) (by decide +kernel) (by decide +kernel) tl
  | bl k => exact chg_leaf (w := w) rfl rfl rfl (by decide +kernel) (by decide +kernel) (by decide +kernel) tl
  | int i hi => exact chg_leaf (w := w) rfl rfl rfl (by decide +kernel) (by decide +kernel) (by decide +kernel) tl
  | word => exact chg_leaf (w := w) rfl rfl rfl (by decide +kernel) (by decide +kernel) (by decide +kernel) tl
  | says =>
    refine ⟨h, h, h, c_no (u_var rfl) (is_leaf rfl k_tl), c_no (u_var rfl) (is_leaf rfl k_td), ?_, .refl, tl⟩
    show sIf (tAn _ _) _ sNext _ h = _
    rw [u_ifF (u_tAnT (u_tVb (u_N (u_cons (u_var rfl) (u_cons u_C u_nil)) (is_leaf rfl k_tt))) (u_tVb (u_N (u_cons (u_2 (u_var rfl) u_C (d2 := .int 1) (r := .str w) rfl) (u_cons u_C u_nil)) (is_leaf rfl k_sl))))]
    rfl
  | pair =>
    have g' : (h.set 4 (.lst ([.str w] ++ [.str "later"]))).get 4 = some (.lst ([.str w] ++ [.str "later"])) := Hs.get_set_self _ (Hs.get_lt m.g4).1 (Hs.get_lt m.g4).2
    have e1 : HC.e2 dIx2 (eVar 5) (eC (.int 1)) (E9 ds w (.tup .ex [.str w, .ref 4]) nt a b c) h = .ok (.ref 4) h := u_2 (u_var rfl) u_C (d2 := .int 1) rfl
    refine ⟨h, h, h.set 4 (.lst ([.str w] ++ [.str "later"])), c_no (u_var rfl) (is_leaf rfl k_tl), c_no (u_var rfl) (is_leaf rfl k_td), ?_, .set m.g4 (nf1 _) (by decide), ?_⟩
    · show sIf (tAn _ _) _ sNext _ h = _
      rw [u_ifT (u_tAnT (u_tVb (u_N (u_cons (u_var rfl) (u_cons u_C u_nil)) (is_leaf rfl k_tt))) (u_tVb (u_N (u_cons e1 (u_cons u_C u_nil)) (is_ref m.g4 k_ll))))]
      exact mut_app m.g4 m.ms (by show 1 < 3; decide) e1
    · refine ⟨.tuple [.str w, .list [.str w, .str "later"]], ?_, ?_, ?_⟩
      · simp only [vwR, mapO]
        rw [g']
        rfl
      · simp only [okR, okRs] at ow ol ⊢
        rw [ow, ol]
        decide +kernel
      · simp only [pwR, pwRs] at pw pl ⊢
        omega
  | dict =>
    generalize hh1 : h.set 5 (.lst ([.str w] ++ [.str "later"])) = h1
    have g5 : h1.get 5 = some (.lst ([.str w] ++ [.str "later"])) := by rw [← hh1]; exact Hs.get_set_self _ (Hs.get_lt m.g5).1 (Hs.get_lt m.g5).2
    have g6 : h1.get 6 = some (.dK [(.inr w, .ref 5)]) := by rw [← hh1, Hs.get_set_ne (by decide) (by decide)]; exact m.g6
    have k1 : Keeps h h1 := by rw [← hh1]; exact .set m.g5 (nf1 _) (by decide)
    have hne : ¬((.inr w : Key) = .inr "LATER") := fun e => by
      have e1 : w = ("LATER" : Str) := by injection e
      have := hw.len
      rw [e1] at this
      exact absurd this (by decide)
    have hp : putD [((.inr w : Key), D.ref 5)] (.inr "LATER") (.int 1) = [(.inr w, .ref 5), (.inr "LATER", .int 1)] := by
      unfold putD
      have : ([((.inr w : Key), D.ref 5)].any fun p => decide (p.1 = (.inr "LATER" : Key))) = false := by simp [hne]
      rw [this]
      rfl
    generalize hh2 : h1.set 6 (.dK [(.inr w, .ref 5), (.inr "LATER", .int 1)]) = h2
    have g5' : h2.get 5 = some (.lst ([.str w] ++ [.str "later"])) := by rw [← hh2, Hs.get_set_ne (by decide) (by decide)]; exact g5
    have g6' : h2.get 6 = some (.dK [(.inr w, .ref 5), (.inr "LATER", .int 1)]) := by rw [← hh2]; exact Hs.get_set_self _ (Hs.get_lt g6).1 (Hs.get_lt g6).2
    have k2 : Keeps h1 h2 := by rw [← hh2]; exact .set g6 (nfd _) (by decide)
    refine ⟨h, h2, h2, c_no (u_var rfl) (is_ref m.g6 k_dl), ?_, ?_, k1.trans k2, ?_⟩
    · refine (c_yes (u_var rfl) (is_ref m.g6 k_dd)).trans ?_
      have ei : HC.e2 dIx2 (eVar 5) (eVar 2) (E9 ds w (.ref 6) nt a b c) h = .ok (.ref 5) h := by
        refine u_2 (u_var (d := .ref 6) rfl) (u_var (d := .str w) rfl) ?_
        unfold dIx2
        dsimp only
        rw [m.g6]
        dsimp only [D.key?]
        have : look (.inr w : Key) [((.inr w : Key), D.ref 5)] = some (.ref 5) := by simp [look]
        rw [this]
      rw [u_seq (mut_app m.g5 m.ms (by show 1 < 3; decide) ei), hh1]
      unfold sPut
      show sOf (eC (.int 1) _ h1) _ _ = _
      show (match h1.get 6 with
        | some (.dK kvs) => if kvs.length < sizeLine ∧ h1.bar 6 (.dK (putD kvs (.inr "LATER") (.int 1))) = true then some (Out.nx, E9 ds w (.ref 6) nt a b c, h1.set 6 (.dK (putD kvs (.inr "LATER") (.int 1)))) else none
        | _ => none) = _
      rw [g6]
      dsimp only
      rw [if_pos ⟨by show 1 < sizeLine; decide, bar_free (k1.ms.trans m.ms)⟩, hp, hh2]
    · show sIf (tAn _ _) _ sNext _ h2 = _
      rw [u_ifF (u_tAnF (u_tVb (u_N (u_cons (u_var rfl) (u_cons u_C u_nil)) (is_ref g6' k_dt))))]
      rfl
    · have e5 : ("LATER" : Str).length = 5 := rfl
      have e6 : PyData.strOk "LATER" = true := by decide +kernel
      refine ⟨.dict [(.str w, .list [.str w, .str "later"]), (.str "LATER", .int 1)], ?_, ?_, ?_⟩
      · simp only [vwR]
        rw [g6']
        simp only [List.map_cons, List.map_nil, mapO, vwR]
        rw [g5']
        rfl
      · simp only [okR, okRs, okRk] at ow ol ⊢
        rw [ow, ol, e6]
        decide +kernel
      · simp only [pwR, pwRs, pwRk, e5] at pw pl ⊢
        omega
  | flat =>
    have g' : (h.set 8 (.lst ([.str w] ++ [.str "later"]))).get 8 = some (.lst ([.str w] ++ [.str "later"])) := Hs.get_set_self _ (Hs.get_lt m.g8).1 (Hs.get_lt m.g8).2
    refine chg_flat rfl m.g8 m.ms (by show 1 < 3; decide) (by decide) ⟨.list [.str w, .str "later"], ?_, ?_, ?_⟩
    · simp only [vwR]
      rw [g']
      rfl
    · simp only [okR, okRs] at ow ol ⊢
      rw [ow, ol]
      decide +kernel
    · simp only [pwR, pwRs] at pw pl ⊢
      omega
  | deep =>
    have g' : (h.set 11 (.lst ([.ref 9, .ref 10] ++ [.str "later"]))).get 11 = some (.lst ([.ref 9, .ref 10] ++ [.str "later"])) := Hs.get_set_self _ (Hs.get_lt m.g11).1 (Hs.get_lt m.g11).2
    refine chg_flat rfl m.g11 m.ms (by show 2 < 3; decide) (by decide) ⟨.list [.list [.str w], .dict [(.str "odd", .str w)], .str "later"], ?_, ?_, ?_⟩
    · simp only [vwR]
      rw [g']
      simp only [List.cons_append, List.nil_append, mapO, vwR]
      rw [Hs.get_set_ne (by decide) (by decide), Hs.get_set_ne (by decide) (by decide), m.g9, m.g10]
      rfl
    · simp only [okR, okRs, okRk] at ow ol ⊢
      rw [ow, ol]
      decide +kernel
    · have e : ("odd" : Str).length = 3 := rfl
      simp only [pwR, pwRs, pwRk, e] at pw pl ⊢
      omega
end K01
end
section
set_option Elab.async false
set_option linter.all false
set_option maxRecDepth 100000
set_option maxHeartbeats 2000000
set_option autoImplicit false
namespace K01
open PySem L2 PyProof.Rows HC
/-! ### one turn -/
abbrev E6 (ds : List D) (w : Str) (t nt : D) : HC.Env := [some (.rl ds), some (.ref 1), some (.str w), none, some (.ref 7), some t, some nt, none, none, none, none, none]
abbrev eLat : Ev := eTup (aCons (eC (.str "later")) (aCons (eVar 2) aNil))
abbrev dLat (w : Str) : D := .tup .ex [.str "later", .str w]
theorem tells_lat {w : Str} {h : Hs} (hw : Word w) : Tells (dLat w) h := by
  have pw := pw_word hw
  have ow := ok_word hw
  have pl := pw_later
  have ol := ok_later
  refine ⟨.tuple [.str "later", .str w], rfl, ?_, ?_⟩
  · simp only [okR, okRs] at ow ol ⊢
    rw [ow, ol]
    decide
  · simp only [pwR, pwRs] at pw pl ⊢
    omega
theorem noted_none {h : Hs} : Noted .non (.str "None") h := ⟨⟨.none, rfl, rfl, by decide, rfl⟩⟩
theorem c_right {ea en : Ev} {env : HC.Env} {h h1 h2 : Hs} {c : Nat} {d nt : D} (e1 : ea env h = .ok (.ref c) h1) (e2 : en env h1 = .ok nt h2) (E : Errs d c h2) (N : Noted d nt h2) (hs : h2.sz + 6100 < room) :
    ∃ h', tNt (tV (eCall m_law_right [] (aCons ea (aCons en aNil)))) env h = .ok false h' ∧ Ext h2 h' ∧ h'.sz ≤ h2.sz + 6100 := by
  obtain ⟨h', a, b, c⟩ := e_right E N hs
  exact ⟨h', u_tNt (k := true) (u_tVb (u_call0 (u_cons e1 (u_cons e2 u_nil)) a)), b, c⟩
theorem c_both {t u : Tv} {env : HC.Env} {h h1 h2 : Hs} (a : t env h = .ok false h1) (b : u env h1 = .ok false h2) : sIf (tOo t u) (sRet (eC (.bl false))) sNext env h = some (.nx, env, h2) := by
  rw [u_ifF (u_tOoF a b)]
  rfl
theorem t_turn {ds : List D} {w : Str} {t : D} {h : Hs} (T : Thing w t) (hw : Word w) (m : Made w h) (hz : h.sz = 14) :
    ∃ env' h', sSeq l_b3 (sSeq l_b4 (sSeq l_b5 (sSeq l_b6 (sSeq l_b7 (sSeq l_b8 (sSeq l_b9 l_b10)))))) (E5 ds w t) h = some (.nx, env', h') ∧ env'.length = 12 ∧ h'.get 2 = some (.lst [.ref 1]) ∧ h'.mks = [] ∧ h'.sz ≤ 40000 := by
  have rm : ∀ {k : Nat}, k < 60000 → k < room := fun q => Nat.lt_trans q (by decide)
  obtain ⟨p, n1, n2⟩ := (tells_thing T hw m).noted
  have s3 : l_b3 (E5 ds w t) h = some (.nx, E6 ds w t (.rep p), h) := (u_asg (u_N (u_cons (u_var rfl) u_nil) n1)).trans rfl
  obtain ⟨a, h1, a1, a2, a3, a4⟩ := e_first t h (rm (by omega))
  obtain ⟨b, h2, b1, b2, b3, b4⟩ := e_called t h1 (rm (by omega))
  obtain ⟨c, h3, c1, c2, c3, c4⟩ := e_first (dLat w) h2 (rm (by omega))
  have s4 : l_b4 (E6 ds w t (.rep p)) h = some (.nx, E9 ds w t (.rep p) a b c, h3) := by
    have ea := u_cons (env := E6 ds w t (.rep p)) (u_call0 (u_cons (u_var (i := 5) rfl) u_nil) a1) (u_cons (u_call0 (u_cons (u_var (i := 5) rfl) u_nil) b1) (u_cons (u_call0 (u_cons (u_tup (u_cons u_C (u_cons (u_var (i := 2) rfl) u_nil))) u_nil) c1) u_nil))
    unfold l_b4 sPar3
    rw [ea]
    rfl
  obtain ⟨b0, h4, d1, d2, d3, d4⟩ := e_bare h3 (rm (by omega))
  obtain ⟨h5, e1, e2, e3⟩ := c_right (env := E9 ds w t (.rep p) a b c) (ea := eCall m_law_bare [] aNil) (en := eC (.str "None")) (u_call0 u_nil d1) u_C d4 noted_none (rm (by omega))
  obtain ⟨q, l1, l2⟩ := (tells_lat (h := h5) hw).noted
  obtain ⟨h6, f1, f2, f3⟩ := c_right (env := E9 ds w t (.rep p) a b c) (ea := eVar 9) (en := eN (pN dReprR) (aCons eLat aNil)) (u_var rfl) (u_N (u_cons (u_tup (u_cons u_C (u_cons (u_var rfl) u_nil))) u_nil) l1) (c4.ext (d2.trans e2)) l2 (rm (by omega))
  have s5 : l_b5 (E9 ds w t (.rep p) a b c) h3 = some (.nx, _, h6) := c_both e1 f1
  have x3 : Ext h h3 := a2.trans (b2.trans c2)
  have x6 : Ext h3 h6 := d2.trans (e2.trans f2)
  obtain ⟨h7, g1, g2, g3⟩ := c_right (env := E9 ds w t (.rep p) a b c) (ea := eVar 7) (en := eVar 6) (u_var rfl) (u_var rfl) (a4.ext (b2.trans (c2.trans x6))) (n2.ext (x3.trans x6)) (rm (by omega))
  obtain ⟨h8, i1, i2, i3⟩ := c_right (env := E9 ds w t (.rep p) a b c) (ea := eVar 8) (en := eVar 6) (u_var rfl) (u_var rfl) (b4.ext (c2.trans (x6.trans g2))) (n2.ext (x3.trans (x6.trans g2))) (rm (by omega))
  have s6 : l_b6 (E9 ds w t (.rep p) a b c) h6 = some (.nx, _, h8) := c_both g1 i1
  have x8 : Ext h3 h8 := x6.trans (g2.trans i2)
  have m8 := m.ext (x3.trans x8)
  obtain ⟨k1, k2, k3, j1, j2, j3, kp, tl⟩ := (t_mut (ds := ds) (nt := .rep p) (a := a) (b := b) (c := c) T hw m8).ex
  obtain ⟨p', o1, o2⟩ := tl.noted
  have z := kp.sz
  have A := (a4.ext (b2.trans (c2.trans x8))).keep kp
  have B := (b4.ext (c2.trans x8)).keep kp
  obtain ⟨h9, q1, q2, q3⟩ := c_right (env := E9 ds w t (.rep p) a b c) (ea := eVar 7) (en := eN (pN dReprR) (aCons (eVar 5) aNil)) (u_var rfl) (u_N (u_cons (u_var rfl) u_nil) o1) A o2 (rm (by omega))
  have T9 : Tells t h9 := by
    obtain ⟨r, r1, r2, r3⟩ := tl
    exact ⟨r, vwR_ext q2 _ _ _ r1, r2, r3⟩
  obtain ⟨p2, u1, u2⟩ := T9.noted
  obtain ⟨h10, v1, v2, v3⟩ := c_right (env := E9 ds w t (.rep p) a b c) (ea := eVar 8) (en := eN (pN dReprR) (aCons (eVar 5) aNil)) (u_var rfl) (u_N (u_cons (u_var rfl) u_nil) u1) (B.ext q2) u2 (rm (by omega))
  have s10 : l_b10 (E9 ds w t (.rep p) a b c) k3 = some (.nx, _, h10) := c_both q1 v1
  refine ⟨E9 ds w t (.rep p) a b c, h10, ?_, rfl, ?_, (q2.trans v2).ms.trans (kp.ms.trans m8.ms), by omega⟩
  · rw [u_seq s3, u_seq s4, u_seq s5, u_seq s6, u_seq j1, u_seq j2, u_seq j3, s10]
  · exact (q2.trans v2).get (kp.g2.trans m8.g2)
end K01
end
section
set_option Elab.async false
set_option linter.all false
set_option maxRecDepth 100000
set_option maxHeartbeats 2000000
set_option autoImplicit false
namespace K01
open PySem L2 PyProof.Rows HC
/-! ### the rest -/
theorem u_compIt {wk : Wk} {tg : Tg} {tt : Tv} {el : Ev} {env env1 : HC.Env} {n i : Nat} {h h1 h2 h3 : Hs} {d r : D} {rs : List D} (e1 : wk h i = .it d) (e2 : tg d env = some env1) (e3 : tt env1 h = .ok true h1) (e4 : el env1 h1 = .ok r h2) (e5 : compW wk tg tt el env n (i + 1) h2 = some (rs, h3)) :
    compW wk tg tt el env (n + 1) i h = some (r :: rs, h3) := by
  conv => lhs; unfold compW
  rw [e1]; dsimp only; rw [e2]; dsimp only; rw [e3]; dsimp only; rw [e4]; dsimp only; rw [e5]
theorem u_compSt {wk : Wk} {tg : Tg} {tt : Tv} {el : Ev} {env : HC.Env} {n i : Nat} {h : Hs} (e1 : wk h i = .st) : compW wk tg tt el env (n + 1) i h = some ([], h) := by
  unfold compW
  rw [e1]
theorem wkC_it {h : Hs} {c i : Nat} {xs : List D} {d : D} (g : h.get c = some (.lst xs)) (e : xs[i]? = some d) : wkC c h i = .it d := by
  unfold wkC; rw [g]; dsimp only; rw [e]
theorem wkC_st {h : Hs} {c i : Nat} {xs : List D} (g : h.get c = some (.lst xs)) (e : xs[i]? = none) : wkC c h i = .st := by
  unfold wkC; rw [g]; dsimp only; rw [e]
theorem iSeq_cell {h : Hs} {c : Nat} {xs : List D} {ev : Ev} {env : HC.Env} {h0 : Hs} (e : ev env h0 = .ok (.ref c) h) (g : h.get c = some (.lst xs)) : iSeq ev env h0 = .ok (wkC c) h := by
  unfold iSeq
  rw [e]
  show (match h.get c with | some (.lst _) => Rs.ok (wkC c) h | _ => .no) = _
  rw [g]
theorem is_err {n : Str} {i : Nat} {h : Hs} (h1 : CS n (.cls "EndError") = some true) (h2 : CS n (.ty "ValueError") = some true) (hi : excN h (.ref i) = some n) : m_law_is_error [.ref i] h = .ok (.bl true) h := by
  unfold m_law_is_error b_law_is_error
  refine u_run (env1 := env0 1 [.ref i]) (u_ret (u_eAnT (h1 := h) ?_ ?_))
  · refine u_N (u_cons (u_var (d := .ref i) rfl) (u_cons u_C u_nil)) ?_
    unfold pN dIsX
    dsimp only
    rw [hi]
    dsimp only
    rw [h1]
  · refine u_N (u_cons (u_var (d := .ref i) rfl) (u_cons u_C u_nil)) ?_
    unfold pN dIsX
    dsimp only
    rw [hi]
    dsimp only
    rw [h2]
theorem excB_of {h : Hs} {i : Nat} {n : Str} (g : h.get i = some (.exb n)) : excN h (.ref i) = some n := by
  unfold excN
  dsimp only
  rw [g]
theorem vw_ints {h : Hs} {c : Nat} {xs : List Int} (k : Nat) (g : h.get c = some (.lst (xs.map D.int))) : vw h (k + 2) (.ref c) = some (.list (xs.map PyData.int)) := by
  have : ∀ xs : List Int, mapO (vw h (k + 1)) (xs.map D.int) = some (xs.map PyData.int) := fun xs => by
    induction xs with
    | nil => rfl
    | cons x xs ih => simp only [List.map_cons, mapO, ih]; rfl
  simp only [vw]
  rw [g]
  dsimp only
  rw [this]
theorem code_undo : codeOf "NothingToUndo" = [59] := by decide +kernel
theorem code_redo : codeOf "NothingToRedo" = [60] := by decide +kernel
theorem code_end : codeOf "EndError" = [] := by decide +kernel
theorem in_undo : (KD.any fun q => decide (q.1 = ("NothingToUndo" : Str))) = true := by decide +kernel
theorem in_redo : (KD.any fun q => decide (q.1 = ("NothingToRedo" : Str))) = true := by decide +kernel
theorem in_end : (KD.any fun q => decide (q.1 = ("EndError" : Str))) = true := by decide +kernel
theorem cs_undo : CS "NothingToUndo" (.cls "EndError") = some true ∧ CS "NothingToUndo" (.ty "ValueError") = some true := by decide +kernel
theorem cs_redo : CS "NothingToRedo" (.cls "EndError") = some true ∧ CS "NothingToRedo" (.ty "ValueError") = some true := by decide +kernel
theorem cs_end : CS "EndError" (.cls "EndError") = some true ∧ CS "EndError" (.ty "ValueError") = some true := by decide +kernel
/-- what stands in the list rest -/
def EV (env : HC.Env) (c : Nat) : Prop := env.length = 12 ∧ env[10]? = some (some (.ref c))
theorem wipe_get {env : HC.Env} {i j : Nat} (hij : i ≠ j) : (wipeE env [i])[j]? = env[j]? := by
  unfold wipeE
  show (env.set i none)[j]? = _
  exact List.getElem?_set_ne hij
theorem wipe_len {env : HC.Env} {i : Nat} : (wipeE env [i]).length = env.length := by
  unfold wipeE
  show (env.set i none).length = _
  exact List.length_set
theorem wipe_set {env : HC.Env} {i : Nat} {d : D} (hi : i < env.length) : ((wipeE env [i]).set i (some d))[i]? = some (some d) := List.getElem?_set_self (by rw [wipe_len]; exact hi)
theorem t_rest {env : HC.Env} {h : Hs} (he : env.length = 12) (hm : h.mks = []) (hs : h.sz ≤ 41000) : ∃ env' h', l_rest env h = some (.rt (.bl true), env', h') := by
  have rm : ∀ {k : Nat}, k < 60000 → k < room := fun q => Nat.lt_trans q (by decide)
  generalize hz : h.sz = s at *
  have m0 : Mk (.exb "NothingToUndo") h s _ := ⟨hz, by omega, rfl⟩
  have m1 := m0.nx (p := .exb "NothingToRedo") (by omega)
  have m2 := m1.nx (p := .lst [.ref s, .ref (s + 1)]) (by omega)
  generalize h.push (.exb "NothingToUndo") = h1 at *
  generalize h1.push (.exb "NothingToRedo") = h2 at *
  generalize h2.push (.lst [.ref s, .ref (s + 1)]) = h3 at *
  have z3 : h3.sz = s + 3 := by rw [m2.e]; show h2.sz + 1 = _; rw [m2.sz]
  have g0 : h3.get s = some (.exb "NothingToUndo") := (m1.ext.trans m2.ext).get m0.get
  have g1 : h3.get (s + 1) = some (.exb "NothingToRedo") := m2.ext.get m1.get
  have g2 : h3.get (s + 2) = some (.lst [.ref s, .ref (s + 1)]) := m2.get
  have r0 : l_r0 env h = some (.nx, env.set 10 (some (.ref (s + 2))), h3) := u_asg (m2.lst (u_cons m0.mk' (u_cons m1.mk' u_nil)))
  have hv : EV (env.set 10 (some (.ref (s + 2)))) (s + 2) := ⟨by rw [List.length_set]; exact he, List.getElem?_set_self (by omega)⟩
  generalize env.set 10 (some (.ref (s + 2))) = en at *
  obtain ⟨hl, hv⟩ := hv
  -- the codes
  obtain ⟨c1, h4, a1, a2, a3, a4⟩ := e_code in_undo (excB_of g0) (rm (by omega))
  obtain ⟨c2, h5, b1, b2, b3, b4⟩ := e_code in_redo (excB_of (a2.get g1)) (rm (by omega))
  rw [code_undo] at a4
  rw [code_redo] at b4
  have cw : compW (wkC (s + 2)) (gN 11) tTrue (eCall m_law_code [] (aCons (eVar 11) aNil)) (wipeE en [11]) turns 0 h3 = some ([.ref c1, .ref c2], h5) := by
    refine u_compIt (n := 65535) (wkC_it g2 rfl) rfl rfl (u_call0 (u_cons (u_var (wipe_set (by omega))) u_nil) a1) ?_
    refine u_compIt (n := 65534) (wkC_it (a2.get g2) rfl) rfl rfl (u_call0 (u_cons (u_var (wipe_set (by omega))) u_nil) b1) ?_
    exact u_compSt (n := 65533) (wkC_st ((a2.trans b2).get g2) rfl)
  generalize hz5 : h5.sz = k at *
  have n0 : Mk (.lst [.ref c1, .ref c2]) h5 k _ := ⟨hz5, by omega, rfl⟩
  have n1 := n0.nx (p := .lst [.int 59]) (by omega)
  have n2 := n1.nx (p := .lst [.int 60]) (by omega)
  have n3 := n2.nx (p := .lst [.ref (k + 1), .ref (k + 1 + 1)]) (by omega)
  have n4 := n3.nx (p := .exb "EndError") (by omega)
  generalize h5.push (.lst [.ref c1, .ref c2]) = h6 at *
  generalize h6.push (.lst [.int 59]) = h7 at *
  generalize h7.push (.lst [.int 60]) = h8 at *
  generalize h8.push (.lst [.ref (k + 1), .ref (k + 1 + 1)]) = h9 at *
  generalize h9.push (.exb "EndError") = h10 at *
  have e1 : eComp [11] (iSeq (eVar 10)) (gN 11) tTrue (eCall m_law_code [] (aCons (eVar 11) aNil)) en h3 = .ok (.ref k) h6 := by
    have := u_comp (own := [11]) (iSeq_cell (u_var hv) g2) cw n0.room
    rw [this, ← n0.e, n0.sz]
  have e2 : eLst (aCons (eLst (aCons (eC (.int 59)) aNil)) (aCons (eLst (aCons (eC (.int 60)) aNil)) aNil)) en h6 = .ok (.ref (k + 1 + 1 + 1)) h9 := n3.lst (u_cons (n1.lst (u_cons u_C u_nil)) (u_cons (n2.lst (u_cons u_C u_nil)) u_nil))
  have x36 : Ext h3 h9 := a2.trans (b2.trans (n0.ext.trans (n1.ext.trans (n2.ext.trans n3.ext))))
  have x69 : Ext h6 h9 := n1.ext.trans (n2.ext.trans n3.ext)
  have ne : dNe h9 (.ref k) (.ref (k + 1 + 1 + 1)) = .ok (.bl false) h9 := by
    have w1 : vw h9 59 (.ref c1) = some (.list [.int 59]) := vw_ints (xs := [59]) 57 ((b2.trans (n0.ext.trans x69)).get a4)
    have w2 : vw h9 59 (.ref c2) = some (.list [.int 60]) := vw_ints (xs := [60]) 57 ((n0.ext.trans x69).get b4)
    have w3 : vw h9 59 (.ref (k + 1)) = some (.list [.int 59]) := vw_ints (xs := [59]) 57 ((n2.ext.trans n3.ext).get n1.get)
    have w4 : vw h9 59 (.ref (k + 1 + 1)) = some (.list [.int 60]) := vw_ints (xs := [60]) 57 (n3.ext.get n2.get)
    have u1 : vw h9 60 (.ref k) = some (.list [.list [.int 59], .list [.int 60]]) := by
      rw [show (60 : Nat) = 59 + 1 from rfl]
      unfold vw
      rw [x69.get n0.get]
      dsimp only
      unfold mapO
      rw [w1]
      unfold mapO
      rw [w2]
      rfl
    have u2 : vw h9 60 (.ref (k + 1 + 1 + 1)) = some (.list [.list [.int 59], .list [.int 60]]) := by
      rw [show (60 : Nat) = 59 + 1 from rfl]
      unfold vw
      rw [n3.get]
      dsimp only
      unfold mapO
      rw [w3]
      unfold mapO
      rw [w4]
      rfl
    unfold dNe eqv
    dsimp only [D.txt]
    rw [u1, u2]
    rfl
  have r1 : l_r1 en h3 = some (.nx, en, h9) := by
    show sIf _ _ _ en h3 = _
    rw [u_ifF (u_tVb (u_2 e1 e2 ne))]
    rfl
  -- one more
  have hm10 : h10.mks = [] := (x36.trans n4.ext).ms.trans ((m0.ext.trans (m1.ext.trans m2.ext)).ms.trans hm)
  have g10 := (x36.trans n4.ext).get g2
  generalize hh : h10.set (s + 2) (.lst [.ref s, .ref (s + 1), .ref (k + 1 + 1 + 1 + 1)]) = h11
  have r2 : l_r2 en h9 = some (.nx, en, h11) := by
    refine u_drop (d := .non) ?_
    unfold eBM
    rw [u_var hv]
    show (if isL h9 (.ref (s + 2)) = true then _ else _) = _
    have : isL h9 (.ref (s + 2)) = true := by unfold isL; dsimp only; rw [x36.get g2]
    rw [if_pos this]
    have ea : aCons (eExB "EndError") aNil en h9 = .ok [.ref (k + 1 + 1 + 1 + 1)] h10 := u_cons n4.mk' u_nil
    rw [ea]
    show dApp h10 (.ref (s + 2)) [.ref (k + 1 + 1 + 1 + 1)] = _
    unfold dApp
    dsimp only
    rw [g10]
    dsimp only
    rw [if_pos (show [D.ref s, D.ref (s + 1)].length < sizeLine from (show 2 < sizeLine by decide))]
    unfold wr
    rw [if_pos (bar_free hm10)]
    show Rs.ok _ (h10.set (s + 2) (.lst [.ref s, .ref (s + 1), .ref (k + 1 + 1 + 1 + 1)])) = _
    rw [hh]
  have hks : s + 3 ≤ k := by have := (a2.trans b2).le; omega
  have g11 : h11.get (s + 2) = some (.lst [.ref s, .ref (s + 1), .ref (k + 1 + 1 + 1 + 1)]) := by rw [← hh]; exact Hs.get_set_self _ (Hs.get_lt g10).1 (Hs.get_lt g10).2
  have ot : ∀ {i : Nat} {o : O}, h10.get i = some o → i ≠ s + 2 → h11.get i = some o := fun e hi => by rw [← hh, Hs.get_set_ne (Hs.get_lt g10).2 hi]; exact e
  have q0 := ot ((x36.trans n4.ext).get g0) (by omega)
  have q1 := ot ((x36.trans n4.ext).get g1) (by omega)
  have q2 := ot n4.get (by omega)
  have z11 : h11.sz = k + 1 + 1 + 1 + 1 + 1 := by rw [← hh]; show h10.sz = _; rw [n4.e]; show h9.sz + 1 = _; rw [n4.sz]
  have hw : ∀ d : D, ((wipeE en [11]).set 11 (some d))[11]? = some (some d) := fun d => wipe_set (by omega)
  have cw2 : compW (wkC (s + 2)) (gN 11) tTrue (eCall m_law_is_error [] (aCons (eVar 11) aNil)) (wipeE en [11]) turns 0 h11 = some ([.bl true, .bl true, .bl true], h11) := by
    refine u_compIt (n := 65535) (wkC_it g11 rfl) rfl rfl (u_call0 (u_cons (u_var (hw _)) u_nil) (is_err cs_undo.1 cs_undo.2 (excB_of q0))) ?_
    refine u_compIt (n := 65534) (wkC_it g11 rfl) rfl rfl (u_call0 (u_cons (u_var (hw _)) u_nil) (is_err cs_redo.1 cs_redo.2 (excB_of q1))) ?_
    refine u_compIt (n := 65533) (wkC_it g11 rfl) rfl rfl (u_call0 (u_cons (u_var (hw _)) u_nil) (is_err cs_end.1 cs_end.2 (excB_of q2))) ?_
    exact u_compSt (n := 65532) (wkC_st g11 rfl)
  have p0 : Mk (.lst [.bl true, .bl true, .bl true]) h11 (k + 1 + 1 + 1 + 1 + 1) _ := ⟨z11, by omega, rfl⟩
  generalize h11.push (.lst [.bl true, .bl true, .bl true]) = h12 at *
  have z12 : h12.sz = k + 6 := by rw [p0.e]; show h11.sz + 1 = _; rw [p0.sz]
  have e3 : eN (pN dAll) (aCons (eComp [11] (iSeq (eVar 10)) (gN 11) tTrue (eCall m_law_is_error [] (aCons (eVar 11) aNil))) aNil) en h11 = .ok (.bl true) h12 := by
    have ec := u_comp (own := [11]) (iSeq_cell (u_var hv) g11) cw2 p0.room
    rw [p0.sz, ← p0.e] at ec
    refine u_N (u_cons ec u_nil) ?_
    unfold pN dAll on1L seqL
    dsimp only
    rw [p0.get]
    rfl
  obtain ⟨c3, h13, d1, d2, d3, d4⟩ := e_code in_end (excB_of (p0.ext.get q2)) (rm (by omega))
  rw [code_end] at d4
  have ei : HC.e2 dIx2 (eVar 10) (eC (.int 2)) en h12 = .ok (.ref (k + 1 + 1 + 1 + 1)) h12 := by
    refine u_2 (u_var hv) u_C (d2 := .int 2) ?_
    unfold dIx2
    dsimp only
    rw [p0.ext.get g11]
    dsimp only [dIx]
    rw [p0.ext.get g11]
    rfl
  have r13 : h13.sz < room := rm (by omega)
  have eq : dEq (h13.push (.lst [])) (.ref c3) (.ref h13.sz) = .ok (.bl true) (h13.push (.lst [])) := by
    have u1 : vw (h13.push (.lst [])) 60 (.ref c3) = some (.list []) := vw_ints (xs := []) 58 ((Ext.push r13).get d4)
    have u2 : vw (h13.push (.lst [])) 60 (.ref h13.sz) = some (.list []) := vw_ints (xs := []) 58 (Hs.get_push_self _ r13)
    unfold dEq eqv
    dsimp only [D.txt]
    rw [u1, u2]
    rfl
  refine ⟨en, h13.push (.lst []), ?_⟩
  show sSeq l_r0 (sSeq l_r1 (sSeq l_r2 l_r3)) env h = _
  rw [u_seq r0, u_seq r1, u_seq r2]
  exact u_ret (u_eAnT e3 (u_2 (u_call0 (u_cons ei u_nil) d1) (u_lst u_nil r13) eq))
theorem says : HC.Says m_law := by
  intro ns _ _
  obtain ⟨a, b, xs, p1, p2, p3, p4⟩ := e_purses ns
  generalize hds : ns.map D.int = ds at *
  generalize hh : ((Hs.new.push (.lst xs)).push (Pu a b 0 0)).push (.lst [.ref 1]) = h at *
  have z : h.sz = 3 := by rw [← hh]; rfl
  have hm : h.mks = [] := by rw [← hh]; rfl
  have g2 : h.get 2 = some (.lst [.ref 1]) := by rw [← hh]; exact Hs.get_push_self (h := (Hs.new.push (.lst xs)).push (Pu a b 0 0)) _ (show 0 + 1 + 1 < 65536 by decide)
  have g1 : h.get 1 = some (Pu a b 0 0) := by
    rw [← hh, Hs.get_push_ne (show 0 + 1 + 1 < 65536 by decide) (show 1 ≠ 0 + 1 + 1 by decide)]
    exact Hs.get_push_self (h := Hs.new.push (.lst xs)) _ (show 0 + 1 < 65536 by decide)
  have pu : Purse 0 (h.get 1) := ⟨a, b, 0, 0, g1, p2, p3, p4, by decide, by decide, by decide, by decide⟩
  obtain ⟨w, h1, m, w1, w2, w3, w4⟩ := t_word (ds := ds) z hm pu g2 (by decide)
  obtain ⟨t, h2, t1, t2, t3, t4⟩ := t_thing (ds := ds) w3 w1 w4
  obtain ⟨en, h3, q1, q2, q3, q4, q5⟩ := t_turn (ds := ds) t2 w1 t3 t4
  obtain ⟨en', h4, r1⟩ := t_rest q2 q4 (Nat.le_trans q5 (by decide))
  have body : l_body (E1 ds) h = some (.nx, en, h3) := by
    show sSeq l_b0 (sSeq l_b1 (sSeq l_b2 _)) _ _ = _
    have t1' : ∀ k : Sv, sSeq l_b1 (sSeq l_b2 k) (E2 ds w) h1 = k (E5 ds w t) h2 := fun k => by
      unfold sSeq at t1 ⊢
      cases e1 : l_b1 (E2 ds w) h1 with
      | none => rw [e1] at t1; cases t1
      | some r =>
        obtain ⟨o, en1, hx⟩ := r
        rw [e1] at t1
        cases o with
        | nx => dsimp only at t1 ⊢; rw [t1]
        | _ => cases t1
    rw [u_seq w2, t1']
    exact q1
  have it : l_it (env0 12 [.rl ds]) Hs.new = .ok (wkC 2) h := iSeq_cell (u_call0 (u_cons (u_var (d := .rl ds) rfl) (u_cons u_C u_nil)) p1) g2
  have fo : sFor l_it (gN 1) l_body (env0 12 [.rl ds]) Hs.new = some (.nx, en, h3) := by
    rw [u_for it, turns2]
    rw [u_forIt (d := .ref 1) (env1 := E1 ds) (wkC_it g2 rfl) rfl body]
    exact u_forSt (wkC_st q3 rfl)
  refine ⟨h4, ?_⟩
  unfold m_law
  refine u_run (env1 := en') ?_
  rw [sh_law, show N_law.length = 12 from rfl, u_seq fo]
  exact r1
end K01
end
section
set_option Elab.async false
set_option linter.all false
set_option maxRecDepth 100000
set_option maxHeartbeats 0
open PySem PySem.W PySem.Calls PyProof.Rows
theorem PySem.Challenge.cw_comestoend_k01_errors_made_holds : PySem.Challenge.rw_comestoend_k01_errors_made.Holds := by
  w_on; o_law
  refine HandSHeadRun.head_any (r := OpenLaw.row PySem.Challenge.rw_comestoend_k01_errors_made) (q := view (OpenLaw.row PySem.Challenge.rw_comestoend_k01_errors_made).prog [K01.LAWAT]) (H := K01.hk) (ob := K01.ob) (M := 100000) (loose := K01.LOOSE) (d := HandSHeadRun.topDef (OpenLaw.row PySem.Challenge.rw_comestoend_k01_errors_made).prog K01.LAWAT) (kwd := []) K01.ob_eq
    (by kernel_rfl) (fun s => by kernel_rfl) K01.run (by kernel_rfl) (by kernel_rfl) (by kernel_rfl) (by rfl) (by first | assumption | decide +kernel) (by decide +kernel) ⟨rfl, rfl, rfl, rfl, rfl, by decide +kernel⟩ ?hw ?hc
  case hw => w_witness2
  case hc =>
    refine HC.walkG (l := PySem.Challenge.rw_comestoend_k01_errors_made) (k := 5) (x := "script") (m := K01.m_law) rfl (by kernel_rfl) ⟨⟨rfl, by decide, by decide⟩, rfl⟩ ?F K01.says
    intro w mg fa h Y G hmg0
    obtain ⟨K, KX, c⟩ := Y
    have hmg : mg ("law" : PySem.Str) = some (.ref fa) := by
      have e : (HandSHeadRun.topDef (OpenLaw.row PySem.Challenge.rw_comestoend_k01_errors_made).prog K01.LAWAT).name = ("law" : PySem.Str) := by kernel_rfl
      rw [← e]
      exact hmg0
    obtain ⟨fd, hb, hF⟩ := K01.theLaw (P := (PySem.Challenge.rw_comestoend_k01_errors_made).prog) (w := w) KX G hmg c
    exact ⟨K, fd, KX, hb, hF⟩
end
