import PyProof.Rows.All
import Wide.All
import OpenK.AllK
import Wide.FinOn
import HandS.ForMost
import HandS.ForExc
import HandS.Codes
import HandS.Evl
import HandS.Property
import HandS.ClsMeth
import HandS.Star
import HandS.IsInst
import HandS.ExcIs
import HandS.ExcField
import HandS.ExcInit
import HandS.ExcInitHot
import HandS.HotCalls
import HandS.ExcCtx
import HandS.RaiseFrom
import HandS.Lambda
import HandS.EndTab
import HandS.EndOwn
import HandS.SortInts
import HandS.FStr
import HandS.Conv
import HandS.SetFor
import HandS.Text
import HandS.NoneIn
import HandS.MakeKw
import HandS.Flow
import HandS.Words
import HandS.WordsExc
import HandS.WordsList
import HandS.Head0
import HandS.Head1
import HandS.Head2
import HandS.HeadEnd
import HandS.HeadHook1
import HandS.HeadHook2
import HandS.HeadHook3
import HandS.HeadHook4
import KE.GoesNew
import KE.GoesMore
import HandS.Walk
import PyProof.InstNe
import KE.KUnpack
import HandS.TryOnly
import KE.KTryMore
import KE.KIsAll
import PyProof.ReprRoads
import PyProof.Rows.CountFlat
import KE.IntTextText
import PyProof.StrLawsRepr
import PySem.Challenge.RW_bentthrough_k03_whole_texts_of_frames
set_option Elab.async false
set_option linter.all false
set_option maxRecDepth 100000
set_option maxHeartbeats 4000000
namespace Kg
open PySem PySem.Spec PyProof.Rows L2
/-! the text by places -/
def topS (i : Nat) : Stmt := PySem.Challenge.pw_bentthrough_k03_whole_texts_of_frames.main.body.getD i (.Pass ⟨0, 0, 0, 0⟩)
abbrev sIsInt : Stmt := topS 25
abbrev sBetween : Stmt := topS 26
abbrev sNumIn : Stmt := topS 27
abbrev sFault : Stmt := topS 30
abbrev sFrame : Stmt := topS 31
abbrev sInit : Stmt := inClass sFrame 0
abbrev sRead : Stmt := inClass sFrame 1
abbrev sDegree : Stmt := inClass sFrame 2
abbrev sKnots : Stmt := inClass sFrame 3
abbrev sText : Stmt := inClass sFrame 5
abbrev sEq : Stmt := inClass sFrame 6
abbrev sExc : Stmt := inClass (topS 2) 0
abbrev sMug : Stmt := topS 33
abbrev sSip : Stmt := topS 34
abbrev sPick : Stmt := topS 35
abbrev sDraft : Stmt := topS 36
abbrev sMade : Stmt := topS 37
abbrev sOdd : Stmt := topS 38
abbrev sError : Stmt := topS 39
abbrev sClass : Stmt := topS 40
abbrev sField : Stmt := topS 41
abbrev sFigure : Stmt := topS 42
abbrev sLRead : Stmt := topS 43
abbrev sBent : Stmt := topS 44
abbrev sRight : Stmt := topS 45
abbrev sLaw : Stmt := topS 46
/-! the names by slots -/
abbrev nIsInt : List Str := ["value"]
abbrev nBetween : List Str := ["value", "least", "most"]
abbrev nNumIn : List Str := ["word", "most", "sign"]
abbrev nFault : List Str := ["degree", "value", "index", "knot"]
abbrev nInit : List Str := ["self", "degree", "knots"]
abbrev nRead : List Str := ["cls", "text", "words", "numbers", "word"]
abbrev nText : List Str := ["self", "knot"]
abbrev nEq : List Str := ["self", "other"]
abbrev nMug : List Str := ["_law_script", "_law_turn", "_law_entry", "_law_stirred", "_law_each"]
abbrev nSip : List Str := ["_law_mug_here", "_law_top", "_law_digit"]
abbrev nPick : List Str := ["_law_mug_here", "_law_menu"]
abbrev nDraft : List Str := ["_law_mug_here", "_law_most_hills", "_law_most", "_law_grade", "_law_many", "_law_bolts", "_law_k", "_law_bolt"]
abbrev nMade : List Str := ["_law_draft_here"]
abbrev nOdd : List Str := ["_law_mug_here", "_law_some"]
abbrev nError : List Str := ["_law_act", "_law_found", "_law_e", "_law_bases", "_law_plain"]
abbrev nClass : List Str := ["_law_e", "_law_sorts", "_law_found", "_law_word", "_law_fits_here"]
abbrev nField : List Str := ["_law_e"]
abbrev nFigure : List Str := ["_law_word", "_law_glyph"]
abbrev nLRead : List Str := ["_law_line", "_law_words", "_law_grade", "_law_bolts", "_law_alike", "_law_word", "_law_k"]
abbrev nBent : List Str := ["_law_mug_here", "_law_draft_here", "_law_line", "_law_way", "_law_spot", "_law_glyph", "_law_words", "_law_at"]
abbrev nRight : List Str := ["_law_mug_here", "_law_turn", "_law_line", "_law_found", "_law_due"]
abbrev nLaw : List Str := ["_law_script", "_law_good", "_law_wrong", "_law_line", "_law_turn"]
theorem scIsInt : FnScope nIsInt ["value"] (defScope sIsInt) := C8.fnScope_by (by decide +kernel)
theorem scBetween : FnScope nBetween ["value", "least", "most"] (defScope sBetween) := C8.fnScope_by (by decide +kernel)
theorem scNumIn : FnScope nNumIn ["word", "most"] (defScope sNumIn) := C8.fnScope_by (by decide +kernel)
theorem scFault : FnScope nFault ["degree", "value"] (defScope sFault) := C8.fnScope_by (by decide +kernel)
theorem scInit : FnScope nInit ["self", "degree", "knots"] (defScope sInit) := C8.fnScope_by (by decide +kernel)
theorem scRead : FnScope nRead ["cls", "text"] (defScope sRead) := C8.fnScope_by (by decide +kernel)
theorem scDegree : FnScope ["self"] ["self"] (defScope sDegree) := C8.fnScope_by (by decide +kernel)
theorem scKnots : FnScope ["self"] ["self"] (defScope sKnots) := C8.fnScope_by (by decide +kernel)
theorem scText : FnScope nText ["self"] (defScope sText) := C8.fnScope_by (by decide +kernel)
theorem scEq : FnScope nEq ["self", "other"] (defScope sEq) := C8.fnScope_by (by decide +kernel)
theorem scExc : FnScope ["self", "given"] ["self", "given"] (defScope sExc) := C8.fnScope_by (by decide +kernel)
theorem scMug : FnScope nMug ["_law_script", "_law_turn"] (defScope sMug) := C8.fnScope_by (by decide +kernel)
theorem scSip : FnScope nSip ["_law_mug_here", "_law_top"] (defScope sSip) := C8.fnScope_by (by decide +kernel)
theorem scPick : FnScope nPick ["_law_mug_here", "_law_menu"] (defScope sPick) := C8.fnScope_by (by decide +kernel)
theorem scDraft : FnScope nDraft ["_law_mug_here", "_law_most_hills", "_law_most"] (defScope sDraft) := C8.fnScope_by (by decide +kernel)
theorem scMade : FnScope nMade ["_law_draft_here"] (defScope sMade) := C8.fnScope_by (by decide +kernel)
theorem scOdd : FnScope nOdd ["_law_mug_here"] (defScope sOdd) := C8.fnScope_by (by decide +kernel)
theorem scError : FnScope nError ["_law_act"] (defScope sError) := C8.fnScope_by (by decide +kernel)
theorem scClass : FnScope nClass ["_law_e"] (defScope sClass) := C8.fnScope_by (by decide +kernel)
theorem scField : FnScope nField ["_law_e"] (defScope sField) := C8.fnScope_by (by decide +kernel)
theorem scFigure : FnScope nFigure ["_law_word"] (defScope sFigure) := C8.fnScope_by (by decide +kernel)
theorem scLRead : FnScope nLRead ["_law_line"] (defScope sLRead) := C8.fnScope_by (by decide +kernel)
theorem scBent : FnScope nBent ["_law_mug_here", "_law_draft_here"] (defScope sBent) := C8.fnScope_by (by decide +kernel)
theorem scRight : FnScope nRight ["_law_mug_here"] (defScope sRight) := C8.fnScope_by (by decide +kernel)
theorem scLaw : FnScope nLaw ["_law_script"] (defScope sLaw) := C8.fnScope_by (by decide +kernel)
end Kg

set_option maxHeartbeats 0
/-! the head -/
namespace Kg
open PySem PySem.Spec PyProof.Rows L2
abbrev Rw : PySem.W.OpenRow := PySem.W.OpenLaw.row PySem.Challenge.rw_bentthrough_k03_whole_texts_of_frames
def loose1 : List Str := ["NotRight", "InvalidText", "InvalidNumber", "InvalidIndex", "InvalidDegree", "InvalidKnot", "NotAFrame", "NotACurve", "InvalidKnots", "InvalidAmounts", "InvalidPlaces", "InvalidHeights", "InvalidOffers", "NotKnown", "NotPossible", "TooMany", "NotOne", "Broken"]
def loose2 : List Str := ["MOST_DEGREE", "MOST_KNOT", "MOST_HILLS", "FIGURES", "MOST_FIGURES", "is_integer", "is_between", "number_in", "HEAD", "knots_fault", "Frame"]
def loose3 : List Str := ["_law_mug", "_law_sip", "_law_pick", "_law_draft", "_law_made", "_law_odd", "_law_error", "_law_class", "_law_field", "_law_figure", "_law_read", "_law_bent", "_law_right"]
def looseAll : List Str := loose1 ++ (loose2 ++ loose3)
def d_is_integer : He.DefD := ⟨("is_integer", none), "is_integer", "is_integer", defArgs sIsInt, defBody sIsInt, defScope sIsInt, [], []⟩
def d_is_between : He.DefD := ⟨("is_between", none), "is_between", "is_between", defArgs sBetween, defBody sBetween, defScope sBetween, [], []⟩
def d_number_in : He.DefD := ⟨("number_in", none), "number_in", "number_in", defArgs sNumIn, defBody sNumIn, defScope sNumIn, [], []⟩
def d_knots_fault : He.DefD := ⟨("knots_fault", none), "knots_fault", "knots_fault", defArgs sFault, defBody sFault, defScope sFault, [], []⟩
def d__law_mug : He.DefD := ⟨("_law_mug", none), "_law_mug", "_law_mug", defArgs sMug, defBody sMug, defScope sMug, [], []⟩
def d__law_sip : He.DefD := ⟨("_law_sip", none), "_law_sip", "_law_sip", defArgs sSip, defBody sSip, defScope sSip, [], []⟩
def d__law_pick : He.DefD := ⟨("_law_pick", none), "_law_pick", "_law_pick", defArgs sPick, defBody sPick, defScope sPick, [], []⟩
def d__law_draft : He.DefD := ⟨("_law_draft", none), "_law_draft", "_law_draft", defArgs sDraft, defBody sDraft, defScope sDraft, [], []⟩
def d__law_made : He.DefD := ⟨("_law_made", none), "_law_made", "_law_made", defArgs sMade, defBody sMade, defScope sMade, [], []⟩
def d__law_odd : He.DefD := ⟨("_law_odd", none), "_law_odd", "_law_odd", defArgs sOdd, defBody sOdd, defScope sOdd, [], []⟩
def d__law_error : He.DefD := ⟨("_law_error", none), "_law_error", "_law_error", defArgs sError, defBody sError, defScope sError, [], []⟩
def d__law_class : He.DefD := ⟨("_law_class", none), "_law_class", "_law_class", defArgs sClass, defBody sClass, defScope sClass, [], []⟩
def d__law_field : He.DefD := ⟨("_law_field", none), "_law_field", "_law_field", defArgs sField, defBody sField, defScope sField, [], []⟩
def d__law_figure : He.DefD := ⟨("_law_figure", none), "_law_figure", "_law_figure", defArgs sFigure, defBody sFigure, defScope sFigure, [], []⟩
def d__law_read : He.DefD := ⟨("_law_read", none), "_law_read", "_law_read", defArgs sLRead, defBody sLRead, defScope sLRead, [], []⟩
def d__law_bent : He.DefD := ⟨("_law_bent", none), "_law_bent", "_law_bent", defArgs sBent, defBody sBent, defScope sBent, [], []⟩
def d__law_right : He.DefD := ⟨("_law_right", none), "_law_right", "_law_right", defArgs sRight, defBody sRight, defScope sRight, [], []⟩
def d_law : He.DefD := ⟨("law", none), "law", "law", defArgs sLaw, defBody sLaw, defScope sLaw, [], []⟩
def d_Frame___init__ : He.DefD := ⟨("Frame", some "__init__"), "__init__", "Frame.__init__", defArgs sInit, defBody sInit, defScope sInit, [], []⟩
def d_Frame___eq__ : He.DefD := ⟨("Frame", some "__eq__"), "__eq__", "Frame.__eq__", defArgs sEq, defBody sEq, defScope sEq, [], []⟩
def d_InvalidText___init__ : He.DefD := ⟨("InvalidText", some "__init__"), "__init__", "InvalidText.__init__", defArgs sExc, defBody sExc, defScope sExc, [], []⟩
def fn1 : List He.DefD := [d_is_integer, d_is_between, d_number_in, d_knots_fault, d__law_mug, d__law_sip, d__law_pick, d__law_draft, d__law_made, d__law_odd, d__law_error, d__law_class]
def fn2 : List He.DefD := [d__law_field, d__law_figure, d__law_read, d__law_bent, d__law_right, d_law, d_Frame___init__, d_Frame___eq__, d_InvalidText___init__]
def fnK : List He.DefD := fn1 ++ fn2
def fa0 : List He.Fa := [.free "isinstance", .free "int", .free "bool", .free "str", .free "tuple", .free "len", .free "all", .free "enumerate", .free "abs", .free "sorted", .free "range", .free "max", .free "min", .free "repr", .free "ValueError"]
def fa1 : List He.Fa := [.free "LookupError", .free "ArithmeticError", .int "MOST_DEGREE" 4, .int "MOST_KNOT" 1000000, .int "MOST_HILLS" 10, .int "MOST_FIGURES" 60, .str "FIGURES" "0123456789", .glo "NotRight", .glo "InvalidText", .glo "InvalidNumber", .glo "InvalidIndex", .glo "InvalidDegree", .glo "InvalidKnot", .glo "NotAFrame", .glo "NotACurve"]
def fa2 : List He.Fa := [.glo "InvalidKnots", .glo "InvalidAmounts", .glo "InvalidPlaces", .glo "InvalidHeights", .glo "InvalidOffers", .glo "NotKnown", .glo "NotPossible", .glo "TooMany", .glo "NotOne", .glo "Broken", .glo "Frame", .glo "HEAD", .glo "is_integer", .glo "is_between", .glo "number_in"]
def fa3 : List He.Fa := [.glo "knots_fault", .glo "_law_mug", .glo "_law_sip", .glo "_law_pick", .glo "_law_draft", .glo "_law_made", .glo "_law_odd", .glo "_law_error", .glo "_law_class", .glo "_law_field", .glo "_law_figure", .glo "_law_read", .glo "_law_bent", .glo "_law_right", .glo "law"]
def fa4 : List He.Fa := [.cls "Frame", .noat "Frame" "parts", .noat "InvalidText" "given", .meth "Frame" "__eq__", .meth "InvalidText" "__init__", .mkr "Frame", .meth "Frame" "__init__"]
def faK : List He.Fa := fa0 ++ (fa1 ++ (fa2 ++ (fa3 ++ (fa4))))
/-- the class's record of the kind T that stands behind m, its def -/
def atM (K : PySem.W.Frag) (m : Str) : Addr := He.ma K (He.ga K "Frame") m
def defM (K : PySem.W.Frag) (T : String) (m : Str) : Addr := match PySem.W.recIn K (atM K m) T with
  | some (.ref g :: _) => g
  | _ => 0
abbrev FnQ : Type := Option (Str × Str × Arguments × FuncBody × Scope × Addr × List (Str × Addr) × Addr)
def fnQ (K : PySem.W.Frag) (a : Addr) : FnQ := match K.lookup a with
  | some ⟨_, _, .func q, _⟩ => some (q.name, q.qualname, q.params, q.body, q.scope, q.globals, q.closure, q.builtins)
  | _ => none
def fnQB (K : PySem.W.Frag) (a : Addr) (q : Str) : Bool := PySem.W.keepIn K (.ref a) && (match K.lookup a with
  | some ⟨_, _, .func fd, _⟩ => PySem.W.codeIn K fd.code q && decide (fd.defaults = .none)
  | _ => false)
/-- a def behind a record: its kind, its name, its qualified name, its text -/
structure DefQ where
  kind : String
  name : Str
  qual : Str
  st : Stmt
def DefQ.val (d : DefQ) : FnQ := some (d.name, d.qual, defArgs d.st, .stmts (defBody d.st), defScope d.st, mainGlobals, [], builtinsNs)
def qRead : DefQ := ⟨"classmethod", "read", "Frame.read", sRead⟩
def qDegree : DefQ := ⟨"property", "degree", "Frame.degree", sDegree⟩
def qKnots : DefQ := ⟨"property", "knots", "Frame.knots", sKnots⟩
def qText : DefQ := ⟨"property", "text", "Frame.text", sText⟩
def fqK : List DefQ := [qRead, qDegree, qKnots, qText]
def excO (K : PySem.W.Frag) (C : Addr) : Bool := match K.lookup C with
  | some ⟨.type "type", _, .cls cd, sl⟩ => (match cd.mro, sl.toList with
    | .ref B :: bm, [_, _, _, _, some (.builtin n), _] => decide (B = C) && (decide (n = "ValueError.__new__") && (!cd.hasDel && (cd.hasDict && PySem.HandSPX.refsVE bm)))
    | _, _ => false)
  | _ => false
def propB (K : PySem.W.Frag) (m : Str) : Bool := decide (PySem.W.findIn K (.ref (He.ga K "Frame")) m = some (some (.ref (atM K m)))) && (decide (PySem.W.specialIn K (.ref (atM K m)) "__get__" = some (some (.builtin "property.__get__"))) && (decide (PySem.W.takesIn K (.ref (atM K m)) = some true) &&
  (match PySem.W.recIn K (atM K m) "property" with
  | some (.ref _ :: _) => true
  | _ => false)))
def readB (K : PySem.W.Frag) : Bool := (match PySem.W.findCls K (.ref (He.ga K "Frame")) (.type "type") "read" with
  | some (.get g p i c) => decide (g = .builtin "classmethod.__get__") && (decide (p = .ref (atM K "read")) && (decide (i = .none) && decide (c = .ref (He.ga K "Frame"))))
  | _ => false) && ((match PySem.W.recIn K (atM K "read") "classmethod" with
  | some (.ref _ :: _) => true
  | _ => false) && PySem.W.fnIn K (defM K "classmethod" "read"))
def isB (K : PySem.W.Frag) (x : Str) (b : Bool) : Bool := decide (PySem.W.kitOne K (.ref (He.ga K "InvalidText")) (.ref (He.ga K x)) = some b)
def isL : List (Str × Bool) := [("NotRight", true), ("NotKnown", false), ("NotPossible", false), ("InvalidText", true), ("InvalidNumber", false), ("InvalidDegree", false), ("InvalidKnots", false), ("NotAFrame", false), ("NotACurve", false), ("InvalidAmounts", false), ("InvalidPlaces", false), ("InvalidHeights", false), ("InvalidIndex", false), ("InvalidKnot", false), ("InvalidOffers", false), ("NotOne", false), ("TooMany", false), ("Broken", false)]
def exA (K : PySem.W.Frag) : List Bool := [He.lstB K "HEAD" [.str "degree", .str "knots"], decide (PySem.W.findIn K (.ref (He.ga K "Frame")) "__class__" = some (some (.builtin "object.__class__"))), decide (PySem.W.specialIn K (.builtin "object.__class__") "__get__" = some (some (.builtin "getset_descriptor.__get__"))), decide (PySem.W.takesIn K (.builtin "object.__class__") = some true), decide (PySem.W.mroIn K (He.ga K "Frame") (.type "object") = some true), decide (PySem.W.kitOne K (.ref (He.ga K "Frame")) (.ref (He.ga K "Frame")) = some true), decide (PySem.W.findIn K (.ref (He.ga K "Frame")) "__ne__" = some (some (.builtin "object.__ne__"))), excO K (He.ga K "InvalidText"), decide (PySem.W.findIn K (.ref (He.ga K "InvalidText")) "__setattr__" = some (some (.builtin "object.__setattr__"))), decide (PySem.W.subIn K (.ref (He.ga K "InvalidText")) (.type "BaseException") = some true), decide (PySem.W.typeIn K (.ref (He.ga K "InvalidText")) = some (.type "type")), PySem.W.keepIn K (.ref (He.ga K "InvalidText")), decide (PySem.W.typeIn K (.ref (He.ma K (He.ga K "InvalidText") "__init__")) = some (.type "function")), decide (PySem.W.findIn K (.ref (He.ga K "InvalidText")) "__getattribute__" = some (some (.builtin "BaseException.__getattribute__"))), decide (PySem.W.findIn K (.ref (He.ga K "InvalidText")) "__getattr__" = some none), PySem.W.hasDictIn K (He.ga K "InvalidText")]
def exC (K : PySem.W.Frag) : List Bool := [decide (PySem.W.findIn K (.ref (He.ga K "InvalidText")) "__class__" = some (some (.builtin "object.__class__"))), decide (PySem.W.mroIn K (He.ga K "InvalidText") (.type "object") = some true), decide (PySem.W.kitOne K (.ref (He.ga K "InvalidText")) (.type "ValueError") = some true), decide (PySem.W.kitOne K (.ref (He.ga K "InvalidText")) (.type "LookupError") = some false), decide (PySem.W.kitOne K (.ref (He.ga K "InvalidText")) (.type "ArithmeticError") = some false), decide (PySem.W.exmAny K (.ref (He.ga K "InvalidText")) [.ref (He.ga K "NotRight"), .ref (He.ga K "NotKnown"), .ref (He.ga K "NotPossible")] = some true), isL.all fun q => isB K q.1 q.2, PySem.W.readsIn K (He.ga K "Frame") (.type "type"), decide (PySem.W.specialIn K (.ref (He.ga K "Frame")) "__getattribute__" = some (some (.builtin "type.__getattribute__"))), readB K, propB K "degree", propB K "knots", propB K "text", fqK.all fun d => fnQB K (defM K d.kind d.name) d.qual, decide ((He.cT K ("law", none)).2 ≠ (He.cT K ("_law_right", none)).2)]
def exK (K : PySem.W.Frag) : Bool := (exA K).all id && (exC K).all id
def tfK : List He.Defn := [("law", none), ("_law_right", none)]
abbrev AlK : Type := He.AlX × List FnQ
/-- what the names reach, and the statics -/
def asK (g : Addr → Option Obj) : List Addr := He.asD g 5 ++ [cStatics]
def obsK (g : Addr → Option Obj) : AlK := ((He.obsT faK fnK [] (He.frT g (asK g)), exK (He.frT g (asK g)) && He.tabsB g tfK (He.frT g (asK g))), fqK.map fun d => fnQ (He.frT g (asK g)) (defM (He.frT g (asK g)) d.kind d.name))
def valK (w : World) : AlK := (He.valX fnK [] w, fqK.map DefQ.val)
/-- what the head tells -/
structure Told (w : World) (h : Heap) (K : PySem.W.Frag) : Prop where
  kin : K.In h
  t : He.SaysT faK fnK [] w K
  ex : exK K = true
  code : ∀ p ∈ tfK, PySem.W.codeHdIn K (He.cT K p).1 (He.cT K p).2 = true
  out : ∀ p ∈ tfK, K.lookup (He.cT K p).2 = none
  tab : ∀ p ∈ tfK, h.get? (He.cT K p).2 = some { cls := .none, data := .fields #[] }
  q : (fqK.map fun d => fnQ K (defM K d.kind d.name)) = fqK.map DefQ.val
theorem told_of {w : World} {h : Heap} (e : obsK h.get? = valK w) : Told w h (He.frT h.get? (asK h.get?)) := by
  have e2 : (exK (He.frT h.get? (asK h.get?)) && He.tabsB h.get? tfK (He.frT h.get? (asK h.get?))) = true := congrArg (fun z : AlK => z.1.2) e
  rw [Bool.and_eq_true] at e2
  have key : ∀ p ∈ tfK, PySem.W.codeHdIn (He.frT h.get? (asK h.get?)) (He.cT (He.frT h.get? (asK h.get?)) p).1 (He.cT (He.frT h.get? (asK h.get?)) p).2 = true ∧ ∃ o, h.get? (He.cT (He.frT h.get? (asK h.get?)) p).2 = some o ∧ He.emptyTab o = true := by
    intro p hp
    have z := List.all_eq_true.mp e2.2 p hp
    rw [Bool.and_eq_true] at z
    refine ⟨z.1, ?_⟩
    have z2 := z.2
    split at z2
    · rename_i o ho
      exact ⟨o, ho, z2⟩
    · cases z2
  refine ⟨He.frT_in, congrArg (fun z : AlK => z.1.1) e, e2.1, fun p hp => (key p hp).1, fun p hp => ?_, fun p hp => ?_, congrArg (fun z : AlK => z.2) e⟩
  · obtain ⟨_, o, h1, h2⟩ := key p hp
    exact He.frT_none h1 h2
  · obtain ⟨_, o, h1, h2⟩ := key p hp
    rw [h1, He.emptyTab_eq h2]
def hkK : PySem.W.Hook where
  α := AlK
  obs := fun s => obsK s.heap.get?
  val := valK
  says := fun w h => ∃ K : PySem.W.Frag, Told w h K
  of := fun w s e => ⟨_, told_of e⟩
  keeps := fun w h h' ⟨K, t⟩ k => ⟨K, PySem.W.Frag.In.keeps t.kin k, t.t, t.ex, t.code, t.out, fun p hp => k _ _ (t.tab p hp), t.q⟩
def obK (s : PySem.W.SharedT) : hkK.α := obsK (HandSHeadRun.getT s)
theorem obK_eq (s : PySem.W.SharedT) : obK s = hkK.obs s.abs := by
  have e : HandSHeadRun.getT s = s.abs.heap.get? := funext (HandSHeadRun.getT_eq s)
  show obsK (HandSHeadRun.getT s) = obsK s.abs.heap.get?
  rw [e]
end Kg

set_option maxHeartbeats 0
/-! the top's run -/
namespace Kg
open PySem PySem.Spec PyProof.Rows L2
theorem runK (w : World) : HandSHeadRun.RunEq Rw (PySem.W.view Rw.prog [46]) hkK obK 15000 looseAll w := by
  intro os
  kernel_rfl
end Kg

set_option maxHeartbeats 4000000
namespace Kg
open PySem PySem.Spec PyProof.Rows L2 Evl
/-! what the module's names stand for -/
structure Nms (mg : Str → Option Value) : Prop where
  isinstance : mg "isinstance" = none
  int : mg "int" = none
  bool : mg "bool" = none
  str : mg "str" = none
  tuple : mg "tuple" = none
  len : mg "len" = none
  all : mg "all" = none
  enumerate : mg "enumerate" = none
  abs : mg "abs" = none
  sorted : mg "sorted" = none
  range : mg "range" = none
  max : mg "max" = none
  min : mg "min" = none
  repr : mg "repr" = none
  ve : mg "ValueError" = none
  le : mg "LookupError" = none
  ae : mg "ArithmeticError" = none
  mostDegree : ∃ t, mg "MOST_DEGREE" = some (.int 4 t)
  mostKnot : ∃ t, mg "MOST_KNOT" = some (.int 1000000 t)
  mostHills : ∃ t, mg "MOST_HILLS" = some (.int 10 t)
  mostFigures : ∃ t, mg "MOST_FIGURES" = some (.int 60 t)
  figures : ∃ t, mg "FIGURES" = some (.str "0123456789" t)

theorem gint {mg : Str → Option Value} {x : Str} {i : Int} (h : ∃ t, mg x = some (.int i t)) : ∃ u, mg x = some u ∧ RelV (.int i) u := by
  obtain ⟨t, e⟩ := h
  exact ⟨_, e, t, rfl⟩
theorem gstr {mg : Str → Option Value} {x z : Str} (h : ∃ t, mg x = some (.str z t)) : ∃ u, mg x = some u ∧ RelV (.str z) u := by
  obtain ⟨t, e⟩ := h
  exact ⟨_, e, t, rfl⟩

section
variable {K : PySem.W.Frag} {σ : L2.St} {H H' : Hp} {ta tb tc te : TE} {x y z v : V} {r r' : R2}
/-- a op b op' c -/
theorem ev_chain {b : Bool} (ha : Ev ta σ H x) (hb : Ev tb σ H y) (hr : RV r x y H (.bl b)) (hc : b = true → Ev tc σ H z) (hr' : b = true → RV r' y z H v) (hv : b = false → v = .bl false) : Ev (tChain r r' ta tb tc) σ H v := fun H1 e Q q =>
  ha H1 e _ fun H2 e2 => hb H2 (e.trans e2) _ fun H3 e3 => hr H3 ((e.trans e2).trans e3) _ fun H4 e4 => ⟨b, rfl, by
    cases b with
    | true =>
      show tc σ H4 fun w' H5 => r' y w' H5 Q
      exact hc rfl H4 (((e.trans e2).trans e3).trans e4) _ fun H5 e5 => hr' rfl H5 ((((e.trans e2).trans e3).trans e4).trans e5) Q fun H6 e6 => q H6 ((((e2.trans e3).trans e4).trans e5).trans e6)
    | false =>
      show Q (.bl false) H4
      rw [← hv rfl]
      exact q H4 ((e2.trans e3).trans e4)⟩
/-- two comparisons of ints in a row -/
theorem ev_chainI {p p' : Int → Int → Bool} {i j k : Int} (ha : Ev ta σ H (.int i)) (hb : Ev tb σ H (.int j)) (hc : Ev tc σ H (.int k)) :
    Ev (tChain (rI0 fun i j => .bl (p i j)) (rI0 fun i j => .bl (p' i j)) ta tb tc) σ H (.bl (p i j && p' j k)) :=
  ev_chain (b := p i j) (z := .int k) ha hb rv_I0 (fun _ => hc) (fun e => by rw [e, Bool.true_and]; exact rv_I0) (fun e => by rw [e]; rfl)
theorem rc_isi {x c : V} {t u : Value} {b : Bool} (hc : ClsV c u) (ht : ∀ H1, Ex H H1 → TyX K H1 x t) (hk : PySem.W.kitOne K t u = some b) : RC (rIsi K) [x, c] H (.bl b) := fun H1 e Q q =>
  ⟨x, c, t, u, b, rfl, hc, ht H1 e, hk, q H1 (Ex.refl H1)⟩
/-- x is an int (no bool): isinstance of int, bool -/
theorem rc_isi_int {i : Int} {n : String} {b : Bool} (h : kitB "int" n = some b) : RC (rIsi K) [.int i, .ty n] H (.bl b) := rc_isi (.ty n) (fun _ _ => .base (.int i)) (kit_ty h)
theorem rc_len {p : Addr} {xs : List V} (h : SqL K H p xs ∨ SqT K H p xs) : RC (fun xs H Q => ∃ p ys, xs = [.ref p] ∧ (SqL K H p ys ∨ SqT K H p ys) ∧ Q (.int ys.length) H) [.ref p] H (.int xs.length) := fun H1 e Q q =>
  ⟨p, xs, rfl, h.elim (fun h => .inl (ex_l e h)) (fun h => .inr (ex_t e h)), q H1 (Ex.refl H1)⟩
end
end Kg

set_option maxHeartbeats 4000000
/-! enumerate(t), t a tuple: begun, walked -/
namespace Kg
open PySem PySem.Spec PyProof.Rows L2 Evl
open AutoSeq1 (wpAny_loadPart')
theorem enT_meets (a : Addr) (items : Array Value) :
    Meets (Builtin.«enumerate.__new__» ⟨[.type "enumerate", .ref a], []⟩) (fun _ R s => s.heap.IsTuple a items ∧
      R (.ok (.ret (.ref (s.heap.push { cls := .type "tuple_iterator", data := .fields #[.ref a, .int 0 0] }).objs.size)))
        { s with heap := (s.heap.push { cls := .type "tuple_iterator", data := .fields #[.ref a, .int 0 0] }).push { cls := .type "enumerate", data := .fields #[.none, .bool false, .ref s.heap.objs.size, rawInt 0, .none, .none] } }) :=
  .of_wp fun prog w A R s h => by
    obtain ⟨hp, g, d, tk, os⟩ := s
    obtain ⟨hT, hR⟩ := h
    have fsub := sub_enumerate
    have begun : ∀ {A' : Around} {E : Value → Shared → Prop} {Q : Value → Shared → Prop}, Q (.ref hp.objs.size) ⟨hp.push { cls := .type "tuple_iterator", data := .fields #[.ref a, .int 0 0] }, g, d, tk, os⟩ → wpAny (model prog w) A' (pyIter (.ref a)) Q E ⟨hp, g, d, tk, os⟩ :=
      fun q => (begins_tuple a items).iter prog w _ _ ⟨hp, g, d, tk, os⟩ _ hT q
    wp_walk using begun
    refine wpAny_stack_any fun st => wpAny_pure ?_
    split
    · rename_i c _ _ _ _ _
      cases (c == Value.type "enumerate") <;> (wp_walk using begun; exact ⟨_, rfl, hR⟩)
    · wp_walk using begun
      exact ⟨_, rfl, hR⟩
section
variable {prog : Program} {w : World} {A : Around} {E : Value → Shared → Prop} {s : Shared}
theorem enT_call {a : Addr} {items : Array Value} {Q : Value → Shared → Prop} (hT : s.heap.IsTuple a items)
    (q : ∀ h', IsEnum h' (s.heap.objs.size + 1) s.heap.objs.size 0 .none → h'.IsTupleIter s.heap.objs.size a 0 → (∀ b o, s.heap.get? b = some o → h'.get? b = some o) → Q (.ref (s.heap.objs.size + 1)) { s with heap := h' }) :
    wpAny (model prog w) A (call (.type "enumerate") [.ref a]) Q E s := by
  refine callType_new F.called_enumerate (by decide) (F.typeCall_enumerate_1 _) (F.newCall_enumerate_1 _) (fun obj => F.args_object_init_2 obj _) F.entry_enumerate_new (enT_meets a items) ⟨hT, ?_⟩
  generalize hg : s.heap.push { cls := .type "tuple_iterator", data := .fields #[.ref a, .int 0 0] } = h1
  have hz : h1.objs.size = s.heap.objs.size + 1 := by rw [← hg]; exact Heap.size_push ..
  have hi : h1.get? s.heap.objs.size = some { cls := .type "tuple_iterator", data := .fields #[.ref a, .int 0 0] } := by rw [← hg]; exact Heap.get?_push_size _ rfl
  have hk : ∀ b o, s.heap.get? b = some o → h1.get? b = some o := fun b o e => by rw [← hg]; exact Heap.get?_push_of_some _ e
  have hE : IsEnum (h1.push { cls := .type "enumerate", data := .fields #[.none, .bool false, .ref s.heap.objs.size, rawInt 0, .none, .none] }) h1.objs.size s.heap.objs.size 0 .none := Heap.get?_push_size h1 rfl
  show _ ∧ _
  rw [hz] at hE ⊢
  refine ⟨⟨_, hE, rfl⟩, q _ hE ⟨_, Heap.get?_push_of_some _ hi, rfl, rfl⟩ ?_⟩
  intro b o e
  exact Heap.get?_push_of_some _ (hk b o e)
end
/-- the tuple at a, each item in a new pair with its place -/
def ItT (K : PySem.W.Frag) (a : Addr) (xs : List V) : It :=
  ⟨fun i H => i < xs.length ∧ SqT K H a xs, fun i H v H' => ∃ T x, v = .ref T ∧ H T = none ∧ H' = upd H T (.tup [.int (i : Nat), x]) ∧ xs[i]? = some x, fun i H => i = xs.length ∧ SqT K H a xs⟩
theorem turn_enT {P : Program} {w : World} {K : PySem.W.Frag} {elts : List Expr} {kk : Nat} {tpos : Pos} (a e it : Addr) (xs : List V) (hei : e ≠ it) (hea : e ≠ a) (hia : a ≠ it) :
    Turn P w K (.Tuple elts kk tpos) (ItT K a xs) [e, it] e (fun i h => (∃ old, IsEnum h e it ((i : Nat) : Int) old) ∧ h.IsTupleIter it a i) where
  mem := List.mem_cons_self
  obj := fun i h st b hb => by
    obtain ⟨⟨old, he⟩, o, ho, _, hd⟩ := st
    rcases List.mem_cons.mp hb with z | z
    · rw [z]
      exact ⟨_, he, fun v q => nomatch q⟩
    · rw [List.mem_singleton.mp z]
      exact ⟨o, ho, fun v q => by rw [hd] at q; cases q⟩
  keep := fun i h h' st k => ⟨st.1.elim fun old he => ⟨old, k e List.mem_cons_self _ he⟩, st.2.at fun o q => k it (by simp) o q⟩
  item := by
    intro X hP hw hK hc i pins s σ H E I hf st hg
    subst hP hw hK
    obtain ⟨hi, hS⟩ := hg
    obtain ⟨its, rv, hT, _⟩ := I.tuple hS
    obtain ⟨⟨old, he⟩, hit⟩ := st
    have D := Draws.tuple (prog := X.prog) (w := X.w) (A := X.A.in1) (I.ok.hd hc) it a hia its.toArray
    have G := GoesN.enumFrom (elts := elts) (x1 := kk) (pos := tpos) 0 D e hei (by simp [hei, hea]) (by simp)
    have z0 : (0 : Int) + (i : Int) = (i : Int) := Int.zero_add _
    have z1 : (0 : Int) + ((i + 1 : Nat) : Int) = ((i + 1 : Nat) : Int) := Int.zero_add _
    have hlt : i < its.toArray.size := by
      have e1 := rv.length
      simpa [← e1] using hi
    refine G.goes i s (fun u s2 => ∃ x H', Inv X pins σ H' s2 ∧ RelV x u ∧ (ItT X.K a xs).yld i H x H' ∧ _ ∧ ∀ b ∈ [e, it], H' b = none) E hlt ⟨⟨old, by rw [z0]; exact he⟩, hit, hT⟩ (fun v h' tk hY st' hk _ => ?_)
    obtain ⟨T, t, x, rfl, hge, hx, hTT⟩ := hY
    obtain ⟨⟨old', he'⟩, hit', _⟩ := st'
    rw [z1] at he'
    rw [z0] at hTT
    have hxi : i < xs.length := hi
    obtain ⟨u, hu, ru⟩ := rv.get (List.getElem?_eq_getElem hxi)
    have ex : x = u := by
      have h2 : its.toArray[i]? = some u := by simpa using hu
      exact Option.some.inj (hx.symm.trans h2)
    subst ex
    have new : ObjOk X.prog X.w (upd H T (.tup [.int (i : Nat), xs[i]])) h' T (.tup [.int (i : Nat), xs[i]]) := ⟨by show 2 ≤ sizeLine; decide, [.int i t, x], .cons ⟨_, rfl⟩ (.cons ru .nil), hTT⟩
    have J : Inv X pins σ (upd H T (.tup [.int (i : Nat), xs[i]])) { s with heap := h', toks := tk } := I.turnedNew (ch := [e, it]) (fun b ob hb q => hk b ob hb q) hf hge new
    refine ⟨.ref T, _, J, rfl, ⟨T, xs[i], rfl, I.hok.fresh hge, rfl, List.getElem?_eq_getElem hxi⟩, ⟨⟨old', he'⟩, hit'⟩, fun b hb => ?_⟩
    have hb' : b < s.heap.objs.size := by
      rcases List.mem_cons.mp hb with y | y
      · rw [y]
        exact Heap.lt_size he
      · rw [List.mem_singleton.mp y]
        obtain ⟨_, q, _⟩ := hit
        exact Heap.lt_size q
    rw [upd_ne (Nat.ne_of_lt (Nat.lt_of_lt_of_le hb' hge))]
    exact (hf b hb).1
  done := by
    intro X hP hw hK hc i pins s σ H E I hf st hg
    subst hP hw hK
    obtain ⟨hi, hS⟩ := hg
    obtain ⟨its, rv, hT, _⟩ := I.tuple hS
    obtain ⟨⟨old, he⟩, hit⟩ := st
    have D := Draws.tuple (prog := X.prog) (w := X.w) (A := X.A.in1) (I.ok.hd hc) it a hia its.toArray
    have hz : i = its.toArray.size := by
      have e1 := rv.length
      simpa [← e1] using hi
    obtain ⟨f0, f1, f2, f3, f4, f5⟩ := hf it (by simp)
    refine wpAny_pyNext_enum_endD D he ⟨by rw [← hz]; exact hit, hT⟩ fun h' eb => ⟨rfl, I.turned (t' := s.toks) (fun b o hb q => eb b o hb q) f0 f1 f3 f4 f5⟩
  self := fun A i s Q E st h => st.1.elim fun _ he => wpAny_pyIter_enum he h
def iEnT (K : PySem.W.Frag) (xs : List V) (ta : TA) : TI := fun σ H R => ta σ H fun vs H1 => ∃ a, vs = [.ref a] ∧ SqT K H1 a xs ∧ R (ItT K a xs) H1
theorem pi_enT {X : Cx} {e : Expr} {ta : TA} {p pos tpos : Pos} {elts : List Expr} {kk : Nat} (xs : List V) (hg : Gl X "enumerate") (hm : X.mg "enumerate" = none) (ha : PA X [e] ta) (hs : starEach [e] X.env = [(false, eval e X.env)] := by rfl) :
    PI X (.Tuple elts kk tpos) (.Call (.Name "enumerate" p) [e] [] pos) (iEnT X.K xs ta) := by
  refine ⟨fun pins s σ H R I h => ?_⟩
  refine Call_ (ld_blt I hg hm boot_enumerate (PyProof.Rows.callWith_type1 (thn (ha.run pos pins s σ H _ I h) fun us s1 hus => ?_) hs rfl))
  obtain ⟨vs, H1, I1, r1, a, rfl, hS, q⟩ := hus
  have eu : us = [Value.ref a] := Vals.ref1 r1
  subst eu
  obtain ⟨its, rv, hT, _⟩ := I1.tuple hS
  refine enT_call (show s1.heap.IsTuple a its.toArray from hT) fun h' he hit hk => wpAny_pyIter_enum he ?_
  have hlt : a < s1.heap.objs.size := IsTup.lt hT
  refine ⟨s1.heap.objs.size + 1, [s1.heap.objs.size + 1, s1.heap.objs.size], _, _, H1, rfl, I1.kept (t' := s1.toks) hk, turn_enT a (s1.heap.objs.size + 1) s1.heap.objs.size xs (Nat.succ_ne_self _) (Nat.ne_of_gt (Nat.lt_succ_of_lt hlt)) (Nat.ne_of_lt hlt), ⟨⟨.none, he⟩, hit⟩, fun b hb => ?_, q⟩
  have hle : s1.heap.objs.size ≤ b := by
    rcases List.mem_cons.mp hb with z | z
    · rw [z]; exact Nat.le_succ _
    · rw [List.mem_singleton.mp z]; exact Nat.le_refl _
  exact I1.fpOk hle (I1.hok.fresh hle)
theorem walk_enT {K : PySem.W.Frag} {a : Addr} {xs : List V} : Walk (ItT K a xs) xs.length (fun H => SqT K H a xs) (YPair (fun i => some (.int (i : Nat))) (fun i => xs[i]?)) :=
  ⟨fun i _ hi q => ⟨hi, q⟩, fun _ q => ⟨rfl, q⟩, fun i H v H' _ _ y => by
    obtain ⟨T, x, h1, h2, h3, h4⟩ := y
    exact ⟨T, .int (i : Nat), x, h1, h2, h3, rfl, h4⟩⟩
end Kg

set_option maxHeartbeats 4000000
/-! what comprehensions, loops evaluate to, by lists -/
namespace Kg
open PySem PySem.Spec PyProof.Rows L2 Evl
theorem take_more {α : Type} {l : List α} {i : Nat} {x : α} (h : l[i]? = some x) : l.take (i + 1) = l.take i ++ [x] := by
  rw [List.take_add_one, h]
  rfl
section
variable {α : Type} {K : PySem.W.Frag} {σ : L2.St} {H H1 : Hp} {te tl : TE} {t : TT} {J : It} {xs : List α} {val : α → V} {G : Hp → Prop} {j : Nat} {vs : List Nat}
/-- how far a comprehension is -/
def Lw (xs : List α) (p : α → Bool) (g : α → V) (H : Hp) (D : Addr) (i : Nat) (H' : Hp) : Prop := H D = none ∧ Ex H H' ∧ H' D = some (.lst (((xs.take i).filter p).map g))
theorem lw_yes {p : α → Bool} {g : α → V} {D : Addr} {i : Nat} {H' : Hp} {c : α} (a : H D = none) (e : Ex H H') (hc : xs[i]? = some c) (hp : p c = true) : Lw xs p g H D (i + 1) (upd H' D (.lst (((xs.take i).filter p).map g ++ [g c]))) := by
  refine ⟨a, Ex.mut e a, ?_⟩
  rw [take_more hc, List.filter_append, List.map_append, List.filter_cons, if_pos hp]
  exact upd_same
theorem lw_no {p : α → Bool} {g : α → V} {D : Addr} {i : Nat} {H' : Hp} {c : α} (a : H D = none) (e : Ex H H') (hd : H' D = some (.lst (((xs.take i).filter p).map g))) (hc : xs[i]? = some c) (hp : p c = false) : Lw xs p g H D (i + 1) H' := by
  refine ⟨a, e, ?_⟩
  rw [take_more hc, List.filter_append, List.map_append, List.filter_cons, if_neg (by rw [hp]; decide), hd]
  simp
theorem lcW_go (w : Walk J xs.length G (fun i H x H' => H' = H ∧ ∃ c, xs[i]? = some c ∧ x = val c)) (hG : ∀ H', Ex H1 H' → G H') (hz : xs.length ≤ 40000) (p : α → Bool) (g : α → V)
    (hw : ∀ c, wipe ((wipe σ vs).set j (some (val c))) vs = wipe σ vs) (ht : ∀ c ∈ xs, EvT t ((wipe σ vs).set j (some (val c))) H1 (p c)) (he : ∀ c ∈ xs, p c = true → Ev te ((wipe σ vs).set j (some (val c))) H1 (g c))
    {Q : VK} (q : ∀ D H', H1 D = none → Ex H1 H' → H' D = some (.lst ((xs.filter p).map g)) → Q (.ref D) H') :
    ∀ D, H1 D = none → ∃ W : Nat → Nat → Hp → Prop, (∃ m, W 0 m (upd H1 D (.lst []))) ∧ ∀ i m H, W i m H →
      (J.stop i H ∧ Q (.ref D) H) ∨ (J.go i H ∧ ∃ Nx : Hp → Prop, (∀ H', Nx H' → ∃ m', m' < m ∧ W (i + 1) m' H') ∧ ∀ x H', J.yld i H x H' → gName j x (wipe σ vs) H' fun σ2 H2 => wipe σ2 vs = wipe σ vs ∧ t σ2 H2 fun b H3 =>
        if b = true then te σ2 H3 fun y H4 => ∃ acc, H4 D = some (.lst acc) ∧ acc.length < sizeLine ∧ Nx (upd H4 D (.lst (acc ++ [y]))) else Nx H3) := fun D hD =>
  lc_it w (Lw xs p g H1 D) ⟨hD, Ex.new hD, upd_same⟩ (fun i H' _ l => hG H' l.2.1) (fun i x H' H'' hi l y => by
    obtain ⟨rfl, c, hc, rfl⟩ := y
    obtain ⟨l1, l2, l3⟩ := l
    have hm : c ∈ xs := List.mem_of_getElem? hc
    refine ⟨hw c, ht c hm _ l2 _ fun H3 e3 => ?_⟩
    cases hp : p c with
    | true =>
      refine he c hm hp H3 (l2.trans e3) _ fun H4 e4 => ⟨_, e4 D _ (e3 D _ l3), sz_lt ?_, lw_yes l1 ((l2.trans e3).trans e4) hc hp⟩
      rw [List.length_map]
      have h1 := List.length_filter_le p (xs.take i)
      rw [List.length_take] at h1
      omega
    | false => exact lw_no l1 (l2.trans e3) (e3 D _ l3) hc hp) (fun H' l => q D H' l.1 l.2.1 (by
      have z := l.2.2
      rw [List.take_length] at z
      exact z))
theorem walkS {z : Str} : Walk (Its z) z.cps.toList.length (fun _ => True) (fun i H x H' => H' = H ∧ ∃ c, z.cps.toList[i]? = some c ∧ x = (fun c => V.str ⟨#[c]⟩) c) := by
  have w := walk_str (z := z)
  have e : z.cps.toList.length = z.cps.size := by simp
  rw [e]
  exact w.mono (fun _ h => h) fun i H x H' _ _ y => by
    obtain ⟨y1, c, y2, y3⟩ := y
    exact ⟨y1, c, by rw [Array.getElem?_toList]; exact y2, y3⟩
theorem walkL {a : Addr} {ws : List V} : Walk (Itl K a) ws.length (fun H => SqL K H a ws) (fun i H x H' => H' = H ∧ ∃ c, ws[i]? = some c ∧ x = id c) :=
  walk_list.mono (fun _ h => h) fun i H x H' _ _ y => ⟨y.1, x, y.2, rfl⟩
theorem walkT {a : Addr} {ws : List V} : Walk (Itt K a) ws.length (fun H => SqT K H a ws) (fun i H x H' => H' = H ∧ ∃ c, ws[i]? = some c ∧ x = id c) :=
  walk_tup.mono (fun _ h => h) fun i H x H' _ _ y => ⟨y.1, x, y.2, rfl⟩
theorem walkR {n : Nat} : Walk (Itr 0 n) (List.range n).length (fun _ => True) (fun i H x H' => H' = H ∧ ∃ c, (List.range n)[i]? = some c ∧ x = (fun c : Nat => V.int (c : Int)) c) := by
  have w := walk_range (lo := 0) (n := n)
  rw [List.length_range]
  exact w.mono (fun _ h => h) fun i H x H' hi _ y => ⟨y.1, i, by simp [hi], by rw [y.2]; show V.int (0 + (i : Int)) = V.int (i : Int); rw [Int.zero_add]⟩
/-- [e for c in z if t], z a text -/
theorem el_lcS {z : Str} (p : Nat → Bool) (g : Nat → V) (h : Ev tl σ H (.str z)) (hz : z.length ≤ 40000) (hw : ∀ c : Nat, wipe ((wipe σ vs).set j (some (V.str ⟨#[c]⟩))) vs = wipe σ vs)
    (ht : ∀ c ∈ z.cps.toList, ∀ H1, Ex H H1 → EvT t ((wipe σ vs).set j (some (V.str ⟨#[c]⟩))) H1 (p c)) (he : ∀ c ∈ z.cps.toList, ∀ H1, Ex H H1 → p c = true → Ev te ((wipe σ vs).set j (some (V.str ⟨#[c]⟩))) H1 (g c)) :
    EvL (tLc (iStr tl) (gName j) t te vs) σ H ((z.cps.toList.filter p).map g) := fun H0 e Q q => h H0 e _ fun H1 e1 => ⟨z, rfl,
  lcW_go walkS (fun _ _ => True.intro) (by have : z.cps.toList.length = z.length := by simp [Str.length]
                                           omega) p g hw (fun c hc => ht c hc H1 (e.trans e1)) (fun c hc => he c hc H1 (e.trans e1)) fun D H' hd e2 hD => q D H' (fresh_back e1 hd) (e1.trans e2) hD⟩
/-- over a list that stands -/
theorem el_lcL' {a : Addr} {ws : List V} (p : V → Bool) (g : V → V) (h : Ev tl σ H (.ref a)) (hs : SqL K H a ws) (hz : ws.length ≤ 40000) (hw : ∀ c : V, wipe ((wipe σ vs).set j (some c)) vs = wipe σ vs)
    (ht : ∀ c ∈ ws, ∀ H1, Ex H H1 → EvT t ((wipe σ vs).set j (some c)) H1 (p c)) (he : ∀ c ∈ ws, ∀ H1, Ex H H1 → p c = true → Ev te ((wipe σ vs).set j (some c)) H1 (g c)) :
    EvL (tLc (iList K tl) (gName j) t te vs) σ H ((ws.filter p).map g) := fun H0 e Q q => h H0 e _ fun H1 e1 => ⟨a, rfl, ⟨ws, ex_l (e.trans e1) hs⟩,
  lcW_go walkL (fun H' e2 => ex_l ((e.trans e1).trans e2) hs) hz p g hw (fun c hc => ht c hc H1 (e.trans e1)) (fun c hc => he c hc H1 (e.trans e1)) fun D H' hd e2 hD => q D H' (fresh_back e1 hd) (e1.trans e2) hD⟩
/-- over a list that is made on the way -/
theorem el_lcN {ws : List V} (p : V → Bool) (g : V → V) (h : EvL tl σ H ws) (hz : ws.length ≤ 40000) (hw : ∀ c : V, wipe ((wipe σ vs).set j (some c)) vs = wipe σ vs)
    (ht : ∀ c ∈ ws, ∀ H1, Ex H H1 → EvT t ((wipe σ vs).set j (some c)) H1 (p c)) (he : ∀ c ∈ ws, ∀ H1, Ex H H1 → p c = true → Ev te ((wipe σ vs).set j (some c)) H1 (g c)) :
    EvL (tLc (iList K tl) (gName j) t te vs) σ H ((ws.filter p).map g) := fun H0 e Q q => h H0 e _ fun a H1 ha e1 hx => ⟨a, rfl, ⟨ws, sq_of hx⟩,
  lcW_go walkL (fun H' e2 => ex_l e2 (sq_of hx)) hz p g hw (fun c hc => ht c hc H1 (e.trans e1)) (fun c hc => he c hc H1 (e.trans e1)) fun D H' hd e2 hD => q D H' (fresh_back e1 hd) (e1.trans e2) hD⟩
/-- over a tuple -/
theorem el_lcT {a : Addr} {ws : List V} (p : V → Bool) (g : V → V) (h : Ev tl σ H (.ref a)) (hs : SqT K H a ws) (hz : ws.length ≤ 40000) (hw : ∀ c : V, wipe ((wipe σ vs).set j (some c)) vs = wipe σ vs)
    (ht : ∀ c ∈ ws, ∀ H1, Ex H H1 → EvT t ((wipe σ vs).set j (some c)) H1 (p c)) (he : ∀ c ∈ ws, ∀ H1, Ex H H1 → p c = true → Ev te ((wipe σ vs).set j (some c)) H1 (g c)) :
    EvL (tLc (iTup K tl) (gName j) t te vs) σ H ((ws.filter p).map g) := fun H0 e Q q => h H0 e _ fun H1 e1 => ⟨a, rfl, ⟨ws, ex_t (e.trans e1) hs⟩,
  lcW_go walkT (fun H' e2 => ex_t ((e.trans e1).trans e2) hs) hz p g hw (fun c hc => ht c hc H1 (e.trans e1)) (fun c hc => he c hc H1 (e.trans e1)) fun D H' hd e2 hD => q D H' (fresh_back e1 hd) (e1.trans e2) hD⟩
/-- over range(n) -/
theorem el_lcR {ta : TA} {n : Int} (p : Nat → Bool) (g : Nat → V) (h : EvA ta σ H [.int n]) (hn : n ≤ 40000 ∧ -40000 ≤ n) (hw : ∀ c : Nat, wipe ((wipe σ vs).set j (some (V.int (c : Int)))) vs = wipe σ vs)
    (ht : ∀ c : Nat, c < n.toNat → ∀ H1, Ex H H1 → EvT t ((wipe σ vs).set j (some (V.int (c : Int)))) H1 (p c)) (he : ∀ c : Nat, c < n.toNat → ∀ H1, Ex H H1 → p c = true → Ev te ((wipe σ vs).set j (some (V.int (c : Int)))) H1 (g c)) :
    EvL (tLc (iRng1 ta) (gName j) t te vs) σ H (((List.range n.toNat).filter p).map g) := fun H0 e Q q => h H0 e _ fun H1 e1 => ⟨n, rfl, by omega, by omega,
  lcW_go walkR (fun _ _ => True.intro) (by rw [List.length_range]; omega) p g hw (fun c hc => ht c (List.mem_range.mp hc) H1 (e.trans e1)) (fun c hc => he c (List.mem_range.mp hc) H1 (e.trans e1)) fun D H' hd e2 hD => q D H' (fresh_back e1 hd) (e1.trans e2) hD⟩
theorem et_yes : EvT tYes σ H true := fun H1 _ _ q => q H1 (Ex.refl H1)
theorem filter_yes {α : Type} (l : List α) : l.filter (fun _ => true) = l := by simp
end
end Kg

set_option maxHeartbeats 4000000
namespace Kg
open PySem PySem.Spec PyProof.Rows L2 Evl
section
variable {P : Program} {w : World} {K : PySem.W.Frag} {mg : Str → Option Value} {base : Heap} {f : Addr} {fd : FuncData}
abbrev CalK (P : Program) (w : World) (K : PySem.W.Frag) (mg : Str → Option Value) (base : Heap) (k : Nat) (x : Str) (sp : Sp) : Prop := C8.Cal P w K mg base k x sp []
/-! is_integer -/
def spIsInt : Sp := fun vs H Q _ => ∃ i : Int, vs = [.int i] ∧ RetV (.bl true) H Q
theorem ok_isInt (N : Nms mg) (F : L2.Fun K "is_integer" "is_integer" sIsInt f fd) : FnOk P w K mg base L2.CX0 1 f fd ["value"] spIsInt := by
  refine F.ok scIsInt (fun vs H Q E h => ?_) (fun cdv A outer s H vs Q E hr h => ?_)
  · obtain ⟨i, rfl, _⟩ := h
    rfl
  · obtain ⟨i, rfl, q⟩ := h
    refine ⟨_, pss_one (ps_ret (pe_and (pe_callB call_isi (by rfl) N.isinstance boot_isinstance (pa_cons (pv 0) (pa_cons (pe_bltn (v := .ty "int") (by rfl) N.int boot_int rfl) pa_nil)))
      (pe_one (pe_not (pe_callB call_isi (by rfl) N.isinstance boot_isinstance (pa_cons (pv 0) (pa_cons (pe_bltn (v := .ty "bool") (by rfl) N.bool boot_bool rfl) pa_nil))))))), ?_⟩
    refine s_ret (v := .bl (true && !false)) (ev_andV (ev_cb (ea_cons (ev_var rfl) (ea_cons ev_c ea_nil)) (rc_isi_int (by decide +kernel))) fun _ => ev_notV (ev_cb (ea_cons (ev_var rfl) (ea_cons ev_c ea_nil)) (rc_isi_int (by decide +kernel)))) fun H1 e => ?_
    exact q H1 e
theorem sv_isInt {H : Hp} {i : Int} : SpV spIsInt [.int i] H (.bl true) := fun H1 e Q q E => ⟨i, rfl, q⟩
/-! is_between -/
def spBetween : Sp := fun vs H Q _ => ∃ i a b : Int, vs = [.int i, .int a, .int b] ∧ RetV (.bl (decide (a ≤ i) && decide (i ≤ b))) H Q
theorem sv_between {H : Hp} {i a b : Int} : SpV spBetween [.int i, .int a, .int b] H (.bl (decide (a ≤ i) && decide (i ≤ b))) := fun H1 e Q q E => ⟨i, a, b, rfl, q⟩
theorem ok_between (F : L2.Fun K "is_between" "is_between" sBetween f fd) (cI : CalK P w K mg base 1 "is_integer" spIsInt) : FnOk P w K mg base L2.CX0 2 f fd ["value", "least", "most"] spBetween := by
  refine F.ok scBetween (fun vs H Q E h => ?_) (fun cdv A outer s H vs Q E hr h => ?_)
  · obtain ⟨i, a, b, rfl, _⟩ := h
    rfl
  · obtain ⟨i, a, b, rfl, q⟩ := h
    refine ⟨_, pss_one (ps_ret (pe_and (C8.pe_c cI hr (by decide) (by rfl) (pa_cons (pv 0) pa_nil)) (pe_one (pe_chain op_le op_le (pv 1) (pv 0) (pv 2))))), ?_⟩
    refine s_ret (ev_andV (ev_call (ea_cons (ev_var rfl) ea_nil) sv_isInt) fun _ => ev_chainI (ev_var rfl) (ev_var rfl) (ev_var rfl)) fun H1 e => ?_
    exact q H1 e
end
end Kg

set_option maxHeartbeats 4000000
namespace Kg
open PySem PySem.Spec PyProof.Rows L2 Evl
/-! plain: a word that writes a number -/
def isDig (c : Nat) : Bool := decide (c ∈ ("0123456789" : Str).cps.toList)
def allDig (w : Str) : Bool := w.cps.toList.all isDig
def wVal (w : Str) : Int := (NumText.digitsVal w.cps.toList : Nat)
def lead0 (w : Str) : Bool := match w.cps.toList with
  | c :: _ => decide (V.str ⟨#[c]⟩ = V.str "0")
  | [] => false
def not0 (w : Str) : Bool := !decide (V.str w = V.str "0")
def numOf (m : Int) (w : Str) : Option Int :=
  if (decide ((1 : Int) ≤ (w.length : Int)) && decide ((w.length : Int) ≤ 60) && allDig w) = true then (if (lead0 w && not0 w) = true then none else if wVal w ≤ m then some (wVal w) else none) else none
def vOpt : Option Int → V
  | some i => .int i
  | none => .non
theorem figs : ("0123456789" : Str).cps.toList = [48, 49, 50, 51, 52, 53, 54, 55, 56, 57] := by decide +kernel
theorem isDig_iff {c : Nat} : isDig c = true ↔ 48 ≤ c ∧ c ≤ 57 := by
  unfold isDig
  rw [figs, decide_eq_true_iff]
  simp only [List.mem_cons, List.not_mem_nil, or_false]
  omega
theorem isDig_b (c : Nat) : isDig c = (decide (48 ≤ c) && decide (c ≤ 57)) := by
  rw [Bool.eq_iff_iff, isDig_iff, Bool.and_eq_true, decide_eq_true_iff, decide_eq_true_iff]
theorem lenL (w : Str) : w.cps.toList.length = w.length := by simp [Str.length]
theorem int_of {w : Str} (h : allDig w = true) (hne : 1 ≤ w.length) (hl : w.length ≤ 640) : PySem.intText? w = some (wVal w) := by
  have e := SX.int_S (a := w.cps.toList) (by
    rw [List.all_eq_true]
    intro c hc
    rw [← isDig_b]
    exact List.all_eq_true.mp h c hc) (fun z => by
    have h2 := lenL w
    rw [z] at h2
    have h3 : w.length = 0 := h2.symm
    omega) (by rw [lenL]; omega)
  rw [SX.S_tl] at e
  exact e
section
variable {P : Program} {w : World} {K : PySem.W.Frag} {mg : Str → Option Value} {base : Heap} {f : Addr} {fd : FuncData} {σ : L2.St} {H : Hp}
theorem rc_lenS {z : Str} (hz : z.length ≤ sizeLine) : RC (fun xs H Q => ∃ z, xs = [V.str z] ∧ z.length ≤ sizeLine ∧ Q (.int z.length) H) [.str z] H (.int z.length) := fun H1 _ _ q => ⟨z, rfl, hz, q H1 (Ex.refl H1)⟩
theorem rc_intS {z : Str} {n : Int} (h : PySem.intText? z = some n) (hz : z.length ≤ 640) : RC (fun xs H Q => ∃ a n, xs = [V.str a] ∧ PySem.intText? a = some n ∧ a.length ≤ 640 ∧ Q (.int n) H) [.str z] H (.int n) := fun H1 _ _ q => ⟨z, n, rfl, h, hz, q H1 (Ex.refl H1)⟩
theorem rv_sign {c : Nat} {z : Str} : RV (fun x y H Q => ∃ (c : Nat) (z : Str), x = .str ⟨#[c]⟩ ∧ y = .str z ∧ Q (.bl (decide (c ∈ z.cps.toList))) H) (.str ⟨#[c]⟩) (.str z) H (.bl (decide (c ∈ z.cps.toList))) := fun H1 _ _ q => ⟨c, z, rfl, rfl, q H1 (Ex.refl H1)⟩
theorem rv_ix0 {z : Str} {c : Nat} {l : List Nat} (hz : z.length ≤ sizeLine) (h : z.cps.toList = c :: l) : RV rIxS (.str z) (.int 0) H (.str ⟨#[c]⟩) := fun H1 _ _ q => ⟨z, 0, c, rfl, rfl, hz, by rw [h]; simp [atI, ixN], q H1 (Ex.refl H1)⟩
/-- all([..]), a list of bools made on the way -/
theorem ev_all {ta : TE} {bs : List Bool} (h : EvL ta σ H (bs.map V.bl)) : Ev (tCB (rAll K) (tCons ta tNil)) σ H (.bl (bs.all id)) := fun H1 e Q q =>
  h H1 e _ fun p H2 _ e2 hp => ⟨p, bs, rfl, sq_of hp, q H2 e2⟩
def spNumIn : Sp := fun vs H Q _ => ∃ (z : Str) (m : Int), vs = [.str z, .int m] ∧ z.length ≤ 30000 ∧ RetV (vOpt (numOf m z)) H Q
theorem sv_numIn {z : Str} {m : Int} (hz : z.length ≤ 30000) : SpV spNumIn [.str z, .int m] H (vOpt (numOf m z)) := fun H1 _ Q q _ => ⟨z, m, rfl, hz, q⟩
theorem ok_numIn (N : Nms mg) (F : L2.Fun K "number_in" "number_in" sNumIn f fd) : FnOk P w K mg base L2.CX0 1 f fd ["word", "most"] spNumIn := by
  refine F.ok scNumIn (fun vs H Q E h => ?_) (fun cdv A outer s H vs Q E hr h => ?_)
  · obtain ⟨z, m, rfl, _⟩ := h
    rfl
  · obtain ⟨z, m, rfl, hz, q⟩ := h
    have hzl : z.length ≤ sizeLine := sz_of (by omega)
    refine ⟨_, pss_cons (ps_if (PW.pt (pw_or (pt_not (pt_chain op_le op_le pe_int (pe_callB call_len_str (by rfl) N.len boot_len (pa_cons (pv 0) pa_nil)) (C8.pe_gc (by rfl) (gint N.mostFigures))))
        (pw_or1 (pt_not (pt_val (pe_callB (cr_all rfl) (by rfl) N.all boot_all (pa_cons (pe_lc (own := [("sign", 2)]) (g := gName 2) (tt := tYes) rfl scNumIn.nd (pi_str (pv 0)) (blkOk_by (N := nNumIn) (sc := defScope sNumIn) (by decide +kernel))
          (fun _ _ _ _ _ => pg_name (i := 2) scNumIn.nd rfl (.inl rfl)) (fun _ _ _ _ _ => pts_nil) (fun _ _ _ _ _ => pe_cmpR op_in_sign (pv 2) (C8.pe_gc (by rfl) (gstr N.figures)) rfl)) pa_nil))))))) (pss_one (ps_ret pe_non)) pss_nil)
      (pss_cons (ps_if (PW.pt (pw_and (pt_cmpR op_eq (pe_ix ix_str (pv 0) pe_int (fun _ _ => rfl)) pe_str (nomark _)) (pw_and1 (pt_cmpR op_ne (pv 0) pe_str (nomark _))))) (pss_one (ps_ret pe_non)) pss_nil)
      (pss_one (ps_ret (pe_ifExp (pt_cmpR op_le (pe_callTy call_int_str (by rfl) N.int boot_int (pa_cons (pv 0) pa_nil)) (pv 1) (nomark _)) (pe_callTy call_int_str (by rfl) N.int boot_int (pa_cons (pv 0) pa_nil)) pe_non)))), ?_⟩
    have eAll : ((z.cps.toList.filter (fun _ => true)).map fun c => V.bl (isDig c)) = (z.cps.toList.map isDig).map V.bl := by rw [filter_yes, List.map_map]; rfl
    have eA2 : (z.cps.toList.map isDig).all id = allDig z := by unfold allDig; rw [List.all_map]; rfl
    refine q_when (b := !(decide ((1 : Int) ≤ (z.length : Int)) && decide ((z.length : Int) ≤ 60)) || !allDig z) (et_or
      (et_not (et_test (ev_chainI ev_c (ev_cb (ea_cons (ev_var rfl) ea_nil) (rc_lenS hzl)) ev_c)))
      (fun _ => et_not (et_B (ev_is (ev_all (by
        rw [← eAll]
        exact el_lcS _ _ (ev_var rfl) (by omega) (fun _ => rfl) (fun c _ H1 _ => et_yes) (fun c _ H1 _ _ => ev_op (ev_var rfl) ev_c rv_sign))) (by rw [eA2]))))) (fun hb H1 e1 => s_ret ev_c fun H2 e2 => ?_) fun hb H1 e1 => ?_
    · have e0 : numOf m z = none := by
        unfold numOf
        rw [if_neg]
        intro h
        rw [Bool.and_eq_true] at h
        rw [h.1, h.2] at hb
        cases hb
      rw [e0] at q
      exact q H2 (e1.trans e2)
    · have hb' : (decide ((1 : Int) ≤ (z.length : Int)) && decide ((z.length : Int) ≤ 60)) = true ∧ allDig z = true := by
        cases h1 : (decide ((1 : Int) ≤ (z.length : Int)) && decide ((z.length : Int) ≤ 60)) <;> cases h2 : allDig z <;> rw [h1, h2] at hb <;> first | exact ⟨rfl, rfl⟩ | cases hb
      obtain ⟨hl, hd⟩ := hb'
      rw [Bool.and_eq_true, decide_eq_true_iff, decide_eq_true_iff] at hl
      have hlen := lenL z
      obtain ⟨c, l, hc⟩ : ∃ c l, z.cps.toList = c :: l := by
        cases h : z.cps.toList with
        | nil =>
          rw [h] at hlen
          have : z.length = 0 := hlen.symm
          omega
        | cons c l => exact ⟨c, l, rfl⟩
      have hi := int_of hd (by omega) (by omega)
      have hlead : lead0 z = decide (V.str ⟨#[c]⟩ = V.str "0") := by unfold lead0; rw [hc]
      refine q_when (b := lead0 z && not0 z) (et_and (et_is (et_test (ev_op (ev_op (ev_var rfl) ev_c (rv_ix0 hzl hc)) ev_c (rv_eq rfl))) hlead.symm) fun _ => et_test (ev_op (ev_var rfl) ev_c (rv_ne rfl))) (fun hb2 H2 e2 => s_ret ev_c fun H3 e3 => ?_) fun hb2 H2 e2 => ?_
      · have e0 : numOf m z = none := by
          unfold numOf
          rw [if_pos (by rw [hd, Bool.and_true, Bool.and_eq_true, decide_eq_true_iff, decide_eq_true_iff]; exact hl), if_pos hb2]
        rw [e0] at q
        exact q H3 ((e1.trans e2).trans e3)
      · have e0 : numOf m z = if wVal z ≤ m then some (wVal z) else none := by
          unfold numOf
          rw [if_pos (by rw [hd, Bool.and_true, Bool.and_eq_true, decide_eq_true_iff, decide_eq_true_iff]; exact hl), if_neg (by rw [hb2]; decide)]
        rw [e0] at q
        refine s_ret (v := vOpt (if wVal z ≤ m then some (wVal z) else none)) (ev_if (b := decide (wVal z ≤ m)) (et_test (ev_op (ev_cb (ea_cons (ev_var rfl) ea_nil) (rc_intS hi (by omega))) (ev_var rfl) rv_I0)) (fun h => ?_) fun h => ?_) fun H3 e3 => q H3 ((e1.trans e2).trans e3)
        · rw [if_pos (of_decide_eq_true h)]
          exact ev_cb (ea_cons (ev_var rfl) ea_nil) (rc_intS hi (by omega))
        · rw [if_neg (of_decide_eq_false h)]
          exact ev_c
end
end Kg

set_option maxHeartbeats 4000000
namespace Kg
open PySem PySem.Spec PyProof.Rows L2 Evl
/-! plain: which knot is at fault -/
def badAt (g : Nat) (ks : List Int) (i : Nat) : Bool :=
  (decide ((i : Int) = (g : Int) + 1 + 10) || !(decide (0 ≤ ks.getD i 0) && decide (ks.getD i 0 ≤ 1000000))) || ((decide (0 < (i : Int)) && decide (ks.getD i 0 < ks.getD (i - 1) 0)) || (decide ((g : Int) < (i : Int)) && decide (ks.getD (i - g - 1) 0 = ks.getD i 0)))
def faultV (g : Nat) (ks : List Int) : V := if ks.length < g + 2 then .non else match (List.range ks.length).find? (badAt g ks) with
  | some i => .int (i : Int)
  | none => .int (-1)
/-- nothing is at fault -/
def Good (g : Nat) (ks : List Int) : Prop := g ≤ 4 ∧ g + 2 ≤ ks.length ∧ ∀ i, i < ks.length → badAt g ks i = false
theorem fault_good {g : Nat} {ks : List Int} (h : Good g ks) : faultV g ks = .int (-1) := by
  unfold faultV
  rw [if_neg (by have := h.2.1; omega)]
  have : (List.range ks.length).find? (badAt g ks) = none := by
    rw [List.find?_eq_none]
    intro x hx
    rw [h.2.2 x (List.mem_range.mp hx)]
    decide
  rw [this]
theorem fault_bad {g : Nat} {ks : List Int} (hg : g ≤ 4) (h : faultV g ks = .int (-1)) : Good g ks := by
  unfold faultV at h
  by_cases hl : ks.length < g + 2
  · rw [if_pos hl] at h
    cases h
  · rw [if_neg hl] at h
    cases hf : (List.range ks.length).find? (badAt g ks) with
    | some i =>
      rw [hf] at h
      injection h with h
      omega
    | none =>
      rw [List.find?_eq_none] at hf
      refine ⟨hg, by omega, fun i hi => ?_⟩
      have := hf i (List.mem_range.mpr hi)
      cases hb : badAt g ks i with
      | true => exact absurd hb this
      | false => rfl
theorem find_first {p : Nat → Bool} {n i : Nat} (hi : i < n) (hp : p i = true) (h : ∀ j, j < i → p j = false) : (List.range n).find? p = some i := by
  rw [List.find?_eq_some_iff_append]
  refine ⟨hp, List.range i, (List.range n).drop (i + 1), ?_, fun a ha => by rw [h a (List.mem_range.mp ha)]; rfl⟩
  have h1 : (List.range n).take i = List.range i := by rw [List.take_range, Nat.min_eq_left (Nat.le_of_lt hi)]
  have h2 : (List.range n).drop i = i :: (List.range n).drop (i + 1) := by
    rw [List.drop_eq_getElem_cons (by rw [List.length_range]; exact hi)]
    simp
  rw [← h1, ← h2, List.take_append_drop]
theorem dec_int (i j : Int) : decide (V.int i = V.int j) = decide (i = j) := by
  by_cases h : i = j
  · rw [h]; simp
  · simp [h]
section
variable {P : Program} {w : World} {K : PySem.W.Frag} {mg : Str → Option Value} {base : Heap} {f : Addr} {fd : FuncData} {σ : L2.St} {H : Hp}
theorem rc_isi_tup {p : Addr} {xs : List V} {n : String} {b : Bool} (ht : H p = some (.tup xs)) (h : kitB "tuple" n = some b) : RC (rIsi K) [.ref p, .ty n] H (.bl b) :=
  rc_isi (.ty n) (fun H1 e => .base (.tup (e p _ ht))) (kit_ty h)
theorem atI_nat {α : Type} {xs : List α} {i : Int} {j : Nat} {v : α} (h : i = (j : Int)) (hv : xs[j]? = some v) : atI xs i = some v := by
  subst h
  have hj := (List.getElem?_eq_some_iff.mp hv).1
  unfold atI
  rw [ixN_nat hj]
  exact hv
theorem atInt {ks : List Int} {i : Int} {j : Nat} (h : i = (j : Int)) (hj : j < ks.length) : atI (ks.map V.int) i = some (.int (ks.getD j 0)) :=
  atI_nat h (by rw [List.getElem?_map, List.getElem?_eq_getElem hj, List.getD_eq_getElem?_getD, List.getElem?_eq_getElem hj]; rfl)
def spFault : Sp := fun vs H Q _ => ∃ (g : Nat) (a : Addr) (ks : List Int), vs = [.int (g : Int), .ref a] ∧ H a = some (.tup (ks.map V.int)) ∧ RetV (faultV g ks) H Q
theorem sv_fault {g : Nat} {a : Addr} {ks : List Int} (ha : H a = some (.tup (ks.map V.int))) : SpV spFault [.int (g : Int), .ref a] H (faultV g ks) := fun H1 e Q q _ => ⟨g, a, ks, rfl, e a _ ha, q⟩
theorem ok_fault (N : Nms mg) (F : L2.Fun K "knots_fault" "knots_fault" sFault f fd) (cB : CalK P w K mg base 2 "is_between" spBetween) : FnOk P w K mg base L2.CX0 3 f fd ["degree", "value"] spFault := by
  refine F.ok scFault (fun vs H Q E h => ?_) (fun cdv A outer s H vs Q E hr h => ?_)
  · obtain ⟨g, a, ks, rfl, _⟩ := h
    rfl
  · obtain ⟨g, a, ks, rfl, ha, q⟩ := h
    refine ⟨_, pss_cons (ps_if (PW.pt (pw_or (pt_not (pt_val (pe_callB call_isi (by rfl) N.isinstance boot_isinstance (pa_cons (pv 1) (pa_cons (pe_bltn (v := .ty "tuple") (by rfl) N.tuple boot_tuple rfl) pa_nil)))))
        (pw_or1 (pt_cmpR op_lt (pe_callB call_len_seq (by rfl) N.len boot_len (pa_cons (pv 1) pa_nil)) (pe_op op_add (pv 0) pe_int) (nomark _))))) (pss_one (ps_ret pe_non)) pss_nil)
      (pss_cons (ps_for PassesOwn.never rfl (pi_enT (ks.map V.int) (by rfl) N.enumerate (pa_cons (pv 1) pa_nil)) (pg_tup rfl (pgs_cons (pg_name (i := 2) scFault.nd rfl (.inl rfl)) (pgs_cons (pg_name (i := 3) scFault.nd rfl (.inl rfl)) pgs_nil)))
        (pss_cons (ps_if (PW.pt (pw_or (pt_cmpR op_eq (pv 2) (pe_op op_add (pe_op op_add (pv 0) pe_int) (C8.pe_gc (by rfl) (gint N.mostHills))) (nomark _))
            (pw_or1 (pt_not (pt_val (C8.pe_c cB hr (by decide) (by rfl) (pa_cons (pv 3) (pa_cons pe_int (pa_cons (C8.pe_gc (by rfl) (gint N.mostKnot)) pa_nil))))))))) (pss_one (ps_ret (pv 2))) pss_nil)
        (pss_cons (ps_if (PW.pt (pw_and (pt_cmpR op_gt (pv 2) pe_int (nomark _)) (pw_and1 (pt_cmpR op_lt (pv 3) (pe_ix ix_tup (pv 1) (pe_op op_sub (pv 2) pe_int) (fun _ _ => rfl)) (nomark _))))) (pss_one (ps_ret (pv 2))) pss_nil)
        (pss_one (ps_if (PW.pt (pw_and (pt_cmpR op_gt (pv 2) (pv 0) (nomark _)) (pw_and1 (pt_cmpR op_eq (pe_ix ix_tup (pv 1) (pe_op op_sub (pe_op op_sub (pv 2) (pv 0)) pe_int) (fun _ _ => rfl)) (pv 3) (nomark _))))) (pss_one (ps_ret (pv 2))) pss_nil)))))
      (pss_one (ps_ret (pe_un un_neg pe_int)))), ?_⟩
    refine q_when (b := !true || decide (((ks.map V.int).length : Int) < (g : Int) + 2)) (et_or (et_not (et_B (ev_cb (ea_cons (ev_var rfl) (ea_cons ev_c ea_nil)) (rc_isi_tup ha (by decide +kernel)))))
      (fun _ => et_test (ev_op (ev_cb (ea_cons (ev_var rfl) ea_nil) (rc_len (.inr (st_of ha)))) (ev_op (ev_var rfl) ev_c rv_I0) rv_I0))) (fun hb H1 e1 => s_ret ev_c fun H2 e2 => ?_) fun hb H1 e1 => ?_
    · rw [Bool.not_true, Bool.false_or, decide_eq_true_iff, List.length_map] at hb
      have e0 : faultV g ks = .non := by unfold faultV; rw [if_pos (by omega)]
      rw [e0] at q
      exact q H2 (e1.trans e2)
    · rw [Bool.not_true, Bool.false_or, decide_eq_false_iff_not, List.length_map] at hb
      have ha1 := e1 a _ ha
      refine ev_var (i := 1) rfl H1 (Ex.refl H1) _ fun H2 e2 => ⟨a, rfl, st_of (e2 a _ ha1), ?_⟩
      have hlen : (ks.map V.int).length = ks.length := List.length_map _
      refine for_it walk_enT (fun i σ' H' => (∃ o1 o2, σ' = [some (.int (g : Int)), some (.ref a), o1, o2]) ∧ Ex H H' ∧ ∀ j, j < i → badAt g ks j = false) ⟨⟨none, none, rfl⟩, e1.trans e2, fun j hj => absurd hj (Nat.not_lt_zero j)⟩ (fun i σ' H' _ p => st_of (p.2.1 a _ ha)) (fun i x σ' H' H'' hi p y => ?_) (fun σ' H' p => ?_)
      · obtain ⟨⟨o1, o2, rfl⟩, eH, hno⟩ := p
        obtain ⟨T, xi, xk, rfl, hT, rfl, hxi, hxk⟩ := y
        injection hxi with hxi
        subst hxi
        rw [hlen] at hi
        have hk : xk = .int (ks.getD i 0) := by
          have hxk : (List.map V.int ks)[i]? = some xk := hxk
          rw [List.getElem?_map, List.getElem?_eq_getElem hi] at hxk
          injection hxk with hxk
          rw [← hxk, List.getD_eq_getElem?_getD, List.getElem?_eq_getElem hi]
          rfl
        subst hk
        have eN : Ex H' (upd H' T (.tup [.int (i : Nat), .int (ks.getD i 0)])) := Ex.new hT
        have haN := (eH.trans eN) a _ ha
        refine ⟨T, [.int (i : Nat), .int (ks.getD i 0)], rfl, st_of upd_same, rfl, .int (i : Nat), [.int (ks.getD i 0)], rfl, .int (ks.getD i 0), [], rfl, rfl, ?_⟩
        have eb : faultV g ks = .int (i : Int) ∨ badAt g ks i = false := by
          cases hb : badAt g ks i with
          | false => exact .inr rfl
          | true =>
            refine .inl ?_
            unfold faultV
            rw [if_neg (by omega), find_first hi hb hno]
        have due : badAt g ks i = true → ∀ H3, Ex (upd H' T (.tup [.int (i : Nat), .int (ks.getD i 0)])) H3 → Q (.int (i : Int)) H3 := fun hb H3 e3 => by
          have e0 := eb.resolve_right (by rw [hb]; decide)
          rw [e0] at q
          exact q H3 ((eH.trans eN).trans e3)
        refine q_when (b := decide ((i : Int) = (g : Int) + 1 + 10) || !(decide (0 ≤ ks.getD i 0) && decide (ks.getD i 0 ≤ 1000000))) (et_or (et_is (et_test (ev_op (ev_var rfl) (ev_op (ev_op (ev_var rfl) ev_c rv_I0) ev_c rv_I0) (rv_eq rfl))) (dec_int _ _))
          (fun _ => et_not (et_B (ev_call (ea_cons (ev_var rfl) (ea_cons ev_c (ea_cons ev_c ea_nil))) sv_between)))) (fun hb H3 e3 => s_ret (ev_var rfl) fun H4 e4 => ?_) fun hb H3 e3 => ?_
        · exact due (by unfold badAt; rw [hb]; rfl) H4 (e3.trans e4)
        · have ha3 := e3 a _ haN
          refine q_when (b := decide (0 < (i : Int)) && decide (ks.getD i 0 < ks.getD (i - 1) 0)) (et_and (et_test (ev_op (ev_var rfl) ev_c rv_I0)) fun h => et_test (ev_op (ev_var rfl) (ev_op (ev_var rfl) (ev_op (ev_var rfl) ev_c rv_I0) (rv_ixT (st_of ha3) (atInt (j := i - 1) (by
            have := of_decide_eq_true h
            omega) (by omega)))) rv_I0)) (fun hb2 H4 e4 => s_ret (ev_var rfl) fun H5 e5 => ?_) fun hb2 H4 e4 => ?_
          · exact due (by unfold badAt; rw [hb, hb2]; rfl) H5 ((e3.trans e4).trans e5)
          · have ha4 := e4 a _ ha3
            refine s_when (b := decide ((g : Int) < (i : Int)) && decide (ks.getD (i - g - 1) 0 = ks.getD i 0)) (et_and (et_test (ev_op (ev_var rfl) (ev_var rfl) rv_I0)) fun h => et_is (et_test (ev_op (ev_op (ev_var rfl) (ev_op (ev_op (ev_var rfl) (ev_var rfl) rv_I0) ev_c rv_I0) (rv_ixT (st_of ha4) (atInt (j := i - g - 1) (by
              have := of_decide_eq_true h
              omega) (by omega)))) (ev_var rfl) (rv_eq rfl))) (dec_int _ _)) (fun hb3 H5 e5 => s_ret (ev_var rfl) fun H6 e6 => ?_) fun hb3 H5 e5 => ?_
            · exact due (by unfold badAt; rw [hb, hb2, hb3]; rfl) H6 (((e3.trans e4).trans e5).trans e6)
            · refine ⟨⟨_, _, rfl⟩, ((((eH.trans eN).trans e3).trans e4).trans e5), fun j hj => ?_⟩
              rcases Nat.lt_or_ge j i with h | h
              · exact hno j h
              · have : j = i := by omega
                subst this
                unfold badAt
                rw [hb, hb2, hb3]
                rfl
      · obtain ⟨⟨o1, o2, rfl⟩, eH, hno⟩ := p
        rw [hlen] at hno
        refine s_ret (σ := [some (.int (g : Int)), some (.ref a), o1, o2]) (ev_un ev_c ru_neg) fun H5 e5 => ?_
        have e0 : faultV g ks = .int (-1) := by
          unfold faultV
          have : (List.range ks.length).find? (badAt g ks) = none := by
            rw [List.find?_eq_none]
            intro x hx
            rw [hno x (List.mem_range.mp hx)]
            decide
          rw [if_neg (by omega), this]
        rw [e0] at q
        exact q H5 (eH.trans e5)
end
end Kg

set_option maxHeartbeats 4000000
/-! rules: != by an own __eq__; a classmethod called with keywords; a class held by a local name, called -/
namespace Kg
open PySem PySem.Spec PyProof.Rows L2
section
variable {M : Model} {prog : Program} {w : World} {A : Around} {E : Value → Shared → Prop} {s : Shared} {K : PySem.W.Frag} {x y C f : Addr} {ox : Obj} {od : Option Obj}
theorem ifBound_ne {args : List Value} {Q : Option Value → Shared → Prop} (X : K.In s.heap) (I : PySem.W.InstAt s.heap x ox C od) (hs : PySem.W.findIn K (.ref C) "__ne__" = some (some (.builtin "object.__ne__")))
    (h : wpAny M A (call (.builtin "object.__ne__") (.ref x :: args)) (fun v => Q (some v)) E s) : wpAny M A (callSpecialIfBound? (.ref x) "__ne__" args) Q E s := by
  have fin : wpAny M A (call (.builtin "object.__ne__") ([.ref x] ++ args) >>= fun v => pure (some v)) Q E s := wpAny_bind (wpAny_mono h (fun _ _ q => wpAny_pure q) fun _ _ e => e)
  simp only [callSpecialIfBound?, bindSpecialIfBound?]
  refine wpAny_holding (wpAny_bind (wpAny_bind (wpAny_bind (I.type.here ((PySem.W.looks_findIn X hs).here ?_)))))
  refine wpAny_bind (wpAny_askSetting (wpAny_ite ?_))
  split
  · exact wpAny_bind (wpAny_of_eq (F.cmp_object.ne.bind _) (wpAny_pure (by exact fin)))
  · exact wpAny_tryCatch (wpAny_bind (wpAny_of_eq (F.cmp_object.ne.bind _) (wpAny_pure (by exact fin))))
theorem objNe_entry {Q : Fin → Shared → Prop} (X : K.In s.heap) (I : PySem.W.InstAt s.heap x ox C od) (hs : PySem.W.findIn K (.ref C) "__eq__" = some (some (.ref f))) (hf : PySem.W.isFn K (.ref f) = true) (hu : A.units < cLine)
    (h : wpAny (model prog w) A (call (.ref f) [.ref x, .ref y]) (fun v s' => ∃ b, v = .bool b ∧ Q (.done (.ret (.bool (!b)))) s') E s) : wpAny (model prog w) A (Builtin.«object.__ne__» ⟨[.ref x, .ref y], []⟩) Q E s := by
  unfold Builtin.«object.__ne__»
  repeat (first
    | with_reducible refine wpAny_cRoomFor hu ?_
    | (refine wpAny_bind (m := callSpecialIfBound? (.ref x) (Str.ofString "__eq__") [.ref y])
        (PySem.W.ifBound_K X I hs hf (wpAny_mono h (fun r s' hr => by
          obtain ⟨b, rfl, hq⟩ := hr
          repeat (first | exact hq | exact wpAny_pure hq | exact wpAny_truthy_bool hq | (refine wpAny_bind (m := truthy (.bool _)) (wpAny_truthy_bool ?_)) | wp_step)) fun _ _ e => e)))
    | wp_step)
theorem ne_run {oy : Obj} {oyd : Option Obj} {Q : Value → Shared → Prop} (X : K.In s.heap) (I : PySem.W.InstAt s.heap x ox C od) (I2 : PySem.W.InstAt s.heap y oy C oyd) (hne : PySem.W.findIn K (.ref C) "__ne__" = some (some (.builtin "object.__ne__")))
    (hm : PySem.W.mroIn K C (.type "object") = some true) (hs : PySem.W.findIn K (.ref C) "__eq__" = some (some (.ref f))) (hf : PySem.W.isFn K (.ref f) = true) (hu : A.units + 1 < cLine)
    (h : wpAny (model prog w) A.in1 (call (.ref f) [.ref x, .ref y]) (fun v s' => ∃ b, v = .bool b ∧ Q (.bool (!b)) s') E s) : wpAny (model prog w) A (compareOp .NotEq (.ref x) (.ref y)) Q E s := by
  have one : wpAny (model prog w) A (tryCompare (.ref x) "__ne__" (.ref y)) (fun r s' => ∃ b, r = some (.bool b) ∧ Q (.bool b) s') E s := by
    simp only [tryCompare]
    refine wpAny_bind (ifBound_ne X I hne (wpAny_call (codeAny_call_builtin F.cmp_object.ne.plain F.cmpEntry_ne (PySem.W.check_slot F.cmpKind_ne F.cmpSplit_ne (I.type.andThen (PySem.W.looks_mroIn X hm)) (F.cmpArgs_ne _ _)
      (objNe_entry (A := A.in1) X I hs hf (by show A.units + 1 < cLine; exact hu) (wpAny_mono h (fun v s' hv => ?_) fun _ _ e => e))))))
    obtain ⟨b, rfl, hq⟩ := hv
    first
    | exact ⟨b, rfl, wpAny_pure ⟨_, rfl, hq⟩⟩
    | exact ⟨b, rfl, wpAny_pure (wpAny_pure ⟨_, rfl, hq⟩)⟩
  unfold compareOp richCompare
  simp only [oneThing_ref]
  refine wpAny_holding (wpAny_bind (wpAny_cRoomFor (by omega) ?_))
  rw [cmpInfo_NotEq]
  dsimp only
  refine wpAny_bind (I.type.here (wpAny_bind (I2.type.here ?_)))
  rw [show (Value.ref C != Value.ref C) = false from by simp]
  simp only [Bool.false_eq_true, if_false]
  refine wpAny_bind (wpAny_pure ?_)
  simp only [Bool.false_eq_true, if_false]
  refine wpAny_bind (wpAny_mono one (fun r s' z => ?_) fun _ _ e => e)
  obtain ⟨b, rfl, hq⟩ := z
  first
  | exact wpAny_pure hq
  | exact hq
end
section
variable {X : Cx} {CX : CXT} {n : Nat} {C f : Addr} {fd : FuncData} {ps : List Str} {E : XK} {sp : Sp}
/-- x != y, two instances of the class at C, told by its __eq__ -/
def rNeO (C : Addr) (sp : Sp) (E : XK) : R2 := fun x y H Q => ∃ a b dx dy fs gs, x = .ref a ∧ y = .ref b ∧ H a = some (.ins C dx fs) ∧ H b = some (.ins C dy gs) ∧ sp [.ref a, .ref b] H (fun v H' => ∃ b, v = .bl b ∧ Q (.bl (!b)) H') E
theorem op_neO (F : FnOk X.prog X.w X.K X.mg X.base CX n f fd ps sp) (hr : Room (n + 1) X.A) (hb : Binds X.K fd ps []) (hx : Passes CX X.nox E)
    (hne : PySem.W.findIn X.K (.ref C) "__ne__" = some (some (.builtin "object.__ne__"))) (hm : PySem.W.mroIn X.K C (.type "object") = some true) (hs : PySem.W.findIn X.K (.ref C) "__eq__" = some (some (.ref f))) (hf : PySem.W.isFn X.K (.ref f) = true) :
    OpR X (compareOp .NotEq) (rNeO C sp E) := by
  intro pins s σ H x y u v Q I rx ry h
  obtain ⟨a, b, dx, dy, fs, gs, rfl, rfl, ha, hb', q⟩ := h
  cases rx
  cases ry
  obtain ⟨mA, J, _⟩ := ins_get I.hok ha
  obtain ⟨mB, J', _⟩ := ins_get I.hok hb'
  obtain ⟨od, J, _⟩ := J.look
  obtain ⟨od', J', _⟩ := J'.look
  refine ne_run I.kIn J J' hne hm hs hf (by have := hr.un; omega) ?_
  have hl := F.len _ _ _ _ q
  refine wpAny_call (codeAny_mono (F.run X.A.in1 X.stack s H ⟨[.ref a, .ref b], []⟩ [.ref a, .ref b] [.ref a, .ref b] _ E hr.in1 I.env0.in1 (by
    have := hb s [.ref a, .ref b] I.kIn (by simpa using hl)
    simpa using this) (.cons rfl (.cons rfl .nil)) q) fun r s' hq => ?_)
  cases r with
  | error er => exact False.elim (hx pins σ H s er s' (I.wish _) hq)
  | ok fl =>
    cases fl with
    | ret w =>
      obtain ⟨z, H', I', rz, c, rfl, q⟩ := I.after hq
      cases rz
      exact ⟨c, rfl, .bl (!c), H', I', rfl, q⟩
    | next => exact False.elim hq
    | brk => exact False.elim hq
    | cont => exact False.elim hq
end
end Kg

set_option maxHeartbeats 4000000
/-! rules: a classmethod with keywords; a class held by a local name; defs that know that nothing is being written (guards) -/
namespace Kg
open PySem PySem.Spec PyProof.Rows L2
section
variable {X : Cx} {CX : CXT} {k : Nat} {C p g f : Addr} {fd : FuncData} {ps ks : List Str} {mc : Value} {sp : Sp} {E : XK} {o e : Expr} {es : List Expr} {kws : List Keyword} {m x : Str} {pos apos ppos : Pos} {ta : TE} {t tk : TA} {pl : Sem Bool}
/-- C.m(k = v, ..), keywords only; gV puts the values in the parameters' order behind the class -/
def tCMethK (C : Addr) (sp : Sp) (gV : List V → List V → List V) (E : XK) (ta : TE) (tk : TA) : TE := fun σ H Q => ta σ H fun x H1 => x = .ref C ∧ tk σ H1 fun zs H2 => sp (gV [.ref C] zs) H2 Q E
theorem pe_cmethK {gl : List Value → List Value → List Value} {gV : List V → List V → List V} (he : PE X o ta) (r : ClX.CRead X.K C mc) (c : ClX.CMet X.K C mc m p g) (F : FnOk X.prog X.w X.K X.mg X.base CX k g fd ps sp) (hb : KBinds X.K fd ps ks gl gV) (hr : Room k X.A) (hx : Passes CX X E) (hkw : PK X kws tk)
    (hall : (backToKw pos (keywordEach kws X.env)).all (·.1.isSome) = true := by rfl) (hks : (backToKw pos (keywordEach kws X.env)).filterMap (·.1) = ks := by rfl)
    (hpl : ((backTo pos (starEach [] X.env)).any (·.1) || (backToKw pos (keywordEach kws X.env)).any (·.1.isNone)) = false := by rfl)
    (ht : eval (.Call (.Attribute o m apos) [] kws pos) X.env = (do
      let ov ← eval o X.env
      standAt apos.atName
      let (f, first) ← holding [ov] (getMethod ov m pl)
      callWith pos f first (backTo pos (starEach [] X.env)) (backToKw pos (keywordEach kws X.env))) := by rfl) :
    PE X (.Call (.Attribute o m apos) [] kws pos) (tCMethK C sp gV E ta tk) := by
  refine ⟨fun pins s σ H Q I h => ?_⟩
  refine PySem.W.methodCall_KW (pl := pl) (thn (he.run pins s σ H _ I h) fun u s1 ⟨y, H1, I1, rx, ex, q⟩ => ?_) ht
  subst ex
  obtain rfl : u = Value.ref C := rx
  refine ClX.getmethcm_ok I1 r c fun s2 I2 => ?_
  refine PySem.W.callWith_of hpl (PySem.W.keeps_M (q := s1.heap.objs.size) (self := .ref C) c.fi) (PyProof.Rows.evalArgs_kw2_nil hall (thn (hkw.run pos _ s2 σ H1 _ I2 q) fun ws s3 ⟨zs, H2, I3, rz, q2⟩ => ?_))
  refine ⟨⟨ClX.pin_at I3, I3.kIn⟩, ?_⟩
  rw [hks]
  have z : wpAny (model X.prog X.w) X.A (call (.ref s1.heap.objs.size) [] (ks.zip ws)) (EP X ((s1.heap.objs.size, PySem.W.methodObj (.ref g) (.ref C)) :: pins) σ Q) X.xe s3 := by
    refine wpAny_call (PySem.W.method_call (ClX.pin_at I3) ?_)
    have r2 := hb.rel (vs := [.ref C]) (us := [.ref C]) (.cons rfl .nil) rz
    have hl : (gl [.ref C] ws).length = ps.length := by rw [← r2.length]; exact F.len _ _ _ _ q2
    refine codeAny_mono (F.run X.A X.stack s3 H2 ⟨[.ref C], ks.zip ws⟩ (gl [.ref C] ws) (gV [.ref C] zs) Q E hr I3.env0 (hb.to s3 [.ref C] ws I3.kIn hl) r2 q2) fun r s' hq => ?_
    cases r with
    | error e => exact hx _ σ H2 s3 e s' I3 hq
    | ok fl =>
      cases fl with
      | ret u => exact I3.after hq
      | next => exact False.elim hq
      | brk => exact False.elim hq
      | cont => exact False.elim hq
  exact thn z fun _ _ y => ClX.unpinE y
/-- x(e, ..) where the local name x holds the class at C -/
def tMakeL (i : Nat) (C : Addr) (sp : Sp) (E : XK) (t : TA) : TE := fun σ H Q => σ[i]? = some (some (.ref C)) ∧ tMake C sp [] E t σ H Q
theorem pe_clsL {i : Nat} (M : Mk X.K C f) (F : FnOk X.prog X.w X.K X.mg X.base CX k f fd ps sp) (hr : Room (k + 1) X.A) (hN : X.N[i]? = some x) (hv : Vis X.env.scope x) (hb : Binds X.K fd ps []) (hx : Passes CX X E) (ha : PA X (e :: es) t)
    (hd : (x == ("__debug__" : Str)) = false := by decide) (hcd : (x == ("__classdict__" : Str)) = false := by decide)
    (he : starEach (e :: es) X.env = (false, eval e X.env) :: starEach es X.env := by rfl) (hpl : (backTo pos (starEach es X.env)).any (·.1) = false := by rfl) :
    PE X (.Call (.Name x ppos) (e :: es) [] pos) (tMakeL i C sp E t) := by
  refine ⟨fun pins s σ H Q I h => ?_⟩
  obtain ⟨hs, h⟩ := h
  refine wpAny_Call_Name_kw (thn ((pe_var (pos := ppos) hN hv hd hcd).run pins s σ H (fun v H1 => v = .ref C ∧ H1 = H) I ⟨.ref C, hs, rfl, rfl⟩) fun u s1 ⟨v, H1, I1, r1, q1⟩ => ?_)
  obtain ⟨rfl, rfl⟩ := q1
  cases r1
  refine PySem.W.callWith_K (h₀ := X.base) I.ok.mod.kin M.kp (thn (ha.run pos pins s1 σ _ _ I1 h) fun us s2 ⟨vs, H2, I2, r, q⟩ => ⟨I2.kIn, ?_⟩) he hpl
  exact run_make (dvs := []) (ds := []) M F hr hb .nil hx I2 r q
end
/-! defs called while no value is being written -/
structure FnG (P : Program) (w : World) (K : PySem.W.Frag) (mg : Str → Option Value) (base : Heap) (CX : CXT) (k : Nat) (f : Addr) (fd : FuncData) (ps : List Str) (sp : Sp) : Prop where
  len : ∀ vs H Q E, sp vs H Q E → vs.length = ps.length
  run : ∀ (A : Around) (outer : List Env) (s : Shared) (H : Hp) (args : Args) (us : List Value) (vs : List V) (Q : VK) (E : XK), A.guards = some [] → Room k A → Env0 P w K mg base A outer s H → BindsTo s fd args (ps.zip us) → Vals vs us → sp vs H Q E →
    codeAny (model P w) A (.call (.ref f) args) (CR CX outer P w H s Q E) s
section
variable {P : Program} {w : World} {K : PySem.W.Frag} {mg : Str → Option Value} {base : Heap}
theorem fng_of {CX : CXT} {k : Nat} {f : Addr} {name qual : Str} {params : Arguments} {body : List Stmt} {scope : Scope} {dV kV doc pm cdv ct oc : Value} {an od : Option Addr}
    {osl : Array (Option Value)} {N ps : List Str} {sp : Sp} (lk : K.lookup f = some ⟨oc, od, .func (PySem.W.fnOf name qual params body scope dV kV doc pm an cdv ct), osl⟩) (hcd : PySem.W.codeIn K cdv qual = true) (S : FnScope N ps scope)
    (len : ∀ vs H Q E, sp vs H Q E → vs.length = ps.length)
    (hbody : ∀ (A : Around) (outer : List Env) (s : Shared) (H : Hp) (vs : List V) (Q : VK) (E : XK), A.guards = some [] → Room k (A.deeper (envOfC qual scope s.heap.objs.size f cdv)) → sp vs H Q E →
      ∃ t, PSs (cxOf CX P w K mg base N qual scope f cdv A outer s H E) body t ∧ t { nx := fun _ H' => Q .non H', rt := Q } (start N vs) H) :
    FnG P w K mg base CX (k + 1) f (PySem.W.fnOf name qual params body scope dV kV doc pm an cdv ct) ps sp := by
  refine ⟨len, fun A outer s H args us vs Q E hg hr e0 hb r hsp => ?_⟩
  have hl := len _ _ _ _ hsp
  have KX : K.In s.heap := e0.mod.kin.keeps fun b o e => (e0.bs b o e).1
  have lim : s.heap.NoLimit := e0.mod.nolimit.keeps fun b o e => (e0.bs b o e).1
  have hkind : ∀ y ∈ ps.zip us, scope.names.lookup y.1 = some .local ∨ (scope.names.lookup y.1 = some .cell ∧ ((cellsFrom (s.heap.objs.size + 1) scope.names []).lookup y.1).isSome = true) := fun ⟨n, v⟩ hy =>
    (S.par n (List.of_mem_zip hy).1).imp id fun q => ⟨q, PySem.W.cellsFrom_some _ _ _ (.inl q)⟩
  refine codeAny_call_function hr.depth (KX _ _ lk) rfl S.co S.gen rfl (PySem.W.codeRec_of KX hcd) (hb _ _ _ _ (wpAny_newFunctionEnv_cells S.kind hkind fun env he s1 x => ?_))
  subst he
  refine ⟨lim.keeps x.toInCall.keep, codeAny_func ?_⟩
  obtain ⟨t, ht, hq⟩ := hbody A outer s H vs Q E hg (hr.deeper _) hsp
  have I : Inv (cxOf CX P w K mg base N qual scope f cdv A outer s H E) [] (start N vs) H s1 := inv_start S hr.hd e0 hl r x
  refine wpAny_mono (ht.run [] s1 (start N vs) H _ I hq) (fun fl s' hs => ?_) fun e s' hs => hs
  cases fl with
  | ret u =>
    obtain ⟨v, σ', H', J, rv, q⟩ := hs
    exact ⟨v, H', J.os, J.bare, J.base, J.hok, rv, q⟩
  | next =>
    obtain ⟨σ', H', J, q⟩ := hs
    exact ⟨V.non, H', J.os, J.bare, J.base, J.hok, rfl, q⟩
  | brk =>
    obtain ⟨_, _, _, q⟩ := hs
    exact False.elim q
  | cont =>
    obtain ⟨_, _, _, q⟩ := hs
    exact False.elim q
theorem okG {x qual : Str} {st : Stmt} {f : Addr} {fd : FuncData} {N ps : List Str} {k : Nat} {sp : Sp} (F : L2.Fun K x qual st f fd) (S : FnScope N ps (defScope st)) (len : ∀ vs H Q E, sp vs H Q E → vs.length = ps.length)
    (hbody : ∀ (cdv : Value) (A : Around) (outer : List Env) (s : Shared) (H : Hp) (vs : List V) (Q : VK) (E : XK), A.guards = some [] → Room k (A.deeper (envOfC qual (defScope st) s.heap.objs.size f cdv)) → sp vs H Q E →
      ∃ t, PSs (cxOf L2.CX0 P w K mg base N qual (defScope st) f cdv A outer s H E).nox (defBody st) t ∧ t { nx := fun _ H' => Q .non H', rt := Q } (start N vs) H) : FnG P w K mg base L2.CX0 (k + 1) f fd ps sp := by
  obtain ⟨oc, od, kV, doc, pm, an, cdv, ct, osl, rfl, lk, hcd⟩ := F.ex
  refine fng_of lk hcd S len fun A outer s H vs Q E hg hr hsp => ?_
  obtain ⟨t, h, q⟩ := hbody cdv A outer s H vs Q E hg hr hsp
  exact ⟨t, h.nox, q⟩
end
section
variable {X : Cx} {CX : CXT} {k : Nat} {f : Addr} {fd : FuncData} {ps : List Str} {sp : Sp} {E : XK} {e : Expr} {es : List Expr} {x : Str} {p pos : Pos} {t : TA}
theorem pe_callG (F : FnG X.prog X.w X.K X.mg X.base CX k f fd ps sp) (hgd : X.A.guards = some []) (hr : Room k X.A) (hg : Gl X x) (hm : X.mg x = some (.ref f)) (hk : PySem.W.keepIn X.K (.ref f) = true) (hb : Binds X.K fd ps []) (hx : Passes CX X E)
    (ha : PA X (e :: es) t) (hdb : (x == ("__debug__" : Str)) = false := by decide) (he : starEach (e :: es) X.env = (false, eval e X.env) :: starEach es X.env := by rfl) (hpl : (backTo pos (starEach es X.env)).any (·.1) = false := by rfl) :
    PE X (.Call (.Name x p) (e :: es) [] pos) (tCall sp [] E t) := by
  refine ⟨fun pins s σ H Q I h => ?_⟩
  refine wpAny_Call_Name_kw (ld_glob I hg hm ?_ hdb)
  refine PySem.W.callWith_K (h₀ := X.base) I.ok.mod.kin hk (thn (ha.run pos pins s σ H _ I h) fun us s1 ⟨vs, H1, I1, r, q⟩ => ⟨I1.kIn, ?_⟩) he hpl
  have hl : us.length = ps.length := by
    rw [← r.length]
    have := F.len _ _ _ _ (show sp (vs ++ []) H1 Q E from q)
    rwa [List.append_nil] at this
  have q : sp vs H1 Q E := by
    have q' : sp (vs ++ []) H1 Q E := q
    rwa [List.append_nil] at q'
  have h0 := hb s1 us I1.kIn (by rw [List.append_nil]; exact hl)
  rw [List.append_nil] at h0
  refine wpAny_call (codeAny_mono (F.run X.A X.stack s1 H1 ⟨us, []⟩ us vs Q E hgd hr I1.env0 h0 r q) fun r s' hq => ?_)
  cases r with
  | error e => exact hx pins σ H1 s1 e s' I1 hq
  | ok fl =>
    cases fl with
    | ret u => exact I1.after hq
    | next => exact False.elim hq
    | brk => exact False.elim hq
    | cont => exact False.elim hq
end
end Kg

set_option maxHeartbeats 4000000
/-! rules while an exception is handled: a list walked to its end, a list unpacked, a list comprehension -/
namespace Kg
open PySem PySem.Spec PyProof.Rows L2
section
variable {prog : Program} {w : World} {A : Around} {E : Value → Shared → Prop} {s : Shared}
/-- a list's iterator at its end -/
theorem next_end_hot {it l x1 : Addr} {i : Nat} {items : Array Value} {Q : Option Value → Shared → Prop} (hot : HotX.HotAt A x1 s.heap) (hxi : x1 ≠ it) (hit : s.heap.IsListIter it l i) (hl : s.heap.IsList l items) (hx : items[i]? = none)
    (hQ : ∀ h', (∀ b o, b ≠ it → s.heap.get? b = some o → h'.get? b = some o) → Q none { s with heap := h' }) : wpAny (model prog w) A (pyNext (.ref it)) Q E s := by
  obtain ⟨hh, o1, vs1, h1, d1, c1⟩ := hot
  obtain ⟨o, ho, hc, hd⟩ := id hit
  obtain ⟨ol, hol, _, nl, hdl⟩ := hl
  unfold pyNext
  refine wpAny_bind (wpAny_attempt (wpAny_callSpecial?_slot (name := Str.ofString "__next__") hit.typeIs slot_listiter_next
    (wpAny_call_entry slot_listiter_next hit.typeIs entry_listiter_next ?_ (args_listiter_next _))))
  show wpAny _ _ (field (.ref it) 0 >>= _) _ _ s
  refine wpAny_bind (wpAny_field ho hd (x := .ref l) rfl ?_)
  show wpAny _ _ (if (Value.ref l == Value.none) = true then _ else _) _ _ s
  rw [if_neg (show ¬ ((Value.ref l == Value.none) = true) from Bool.false_ne_true)]
  show wpAny _ _ (field (.ref it) 1 >>= _) _ _ s
  refine wpAny_bind (wpAny_field ho hd (x := .int i 0) rfl ?_)
  show wpAny _ _ (seqItems? (.ref l) >>= _) _ _ s
  refine wpAny_bind (wpAny_seqItems hol hdl ?_)
  simp only [Int.toNat_natCast, hx]
  refine wpAny_bind (wpAny_rule (wpAny_bind (wpAny_setField ho hd (by simp) ?_)))
  have k0 : ∀ b u, b ≠ it → s.heap.get? b = some u → (s.heap.update it (Obj.mapFields (·.setIfInBounds 0 Value.none))).get? b = some u := fun b u hb e => by
    rw [Heap.get?_update_other _ _ (Ne.symm hb)]
    exact e
  show wpAny _ _ (newExc (.type "StopIteration") [] >>= _) _ _ _
  refine wpAny_bind ?_
  simp only [newExc, newTuple]
  refine wpAny_bind (wpAny_newObj_type ?_ (by size_fits))
  refine wpAny_bind (m := firstArgMember _ _) (wpAny_of_eq (a := Value.none) (by first | rfl | (simp only [firstArgMember]; rfl)) ?_)
  refine wpAny_newObj_type ?_ (by size_fits)
  have h1' := Heap.get?_push_of_some (h := s.heap.update it (Obj.mapFields (·.setIfInBounds 0 Value.none))) { cls := .type "tuple", data := .seq #[] } (k0 _ _ hxi h1)
  refine HotX.raiseNew_hot ⟨hh, o1, vs1, Heap.get?_push_of_some _ (Heap.get?_push_of_some _ (k0 _ _ hxi h1)), d1, c1⟩ (Nat.ne_of_lt (Heap.lt_size (Heap.get?_push_of_some _ (k0 _ _ hxi h1)))) (Heap.get?_push_size _ rfl) rfl (by first | (simp; done) | (simp; omega) | (simp only [Array.size_append]; simp; omega)) ?_
  refine wpAny_bind (wpAny_isInstance (T := "StopIteration") (b := true) ⟨_, Heap.get?_update_self _ (Heap.get?_push_size _ rfl) rfl, rfl⟩ isSubtype_stop ?_)
  refine wpAny_pure (hQ _ fun b u hb e => ?_)
  rw [Heap.get?_update_other _ _ (Nat.ne_of_gt (Heap.lt_size (Heap.get?_push_of_some _ (k0 b u hb e))))]
  exact Heap.get?_push_of_some _ (Heap.get?_push_of_some _ (k0 b u hb e))
theorem unpack_hot {l x1 : Addr} {items : Array Value} {Q : List Value → Shared → Prop} (hot : HotX.HotAt A x1 s.heap) (hl : s.heap.IsList l items)
    (hQ : ∀ h', (∀ b o, s.heap.get? b = some o → h'.get? b = some o) → Q items.toList { s with heap := h' }) : wpAny (model prog w) A (unpackItems (.ref l) items.size none) Q E s := by
  obtain ⟨hh, o1, vs1, h1, d1, c1⟩ := hot
  have hlt : l ≠ s.heap.objs.size := by obtain ⟨o, ho, _⟩ := hl; exact Nat.ne_of_lt (Heap.lt_size ho)
  have hx1 : x1 ≠ s.heap.objs.size := Nat.ne_of_lt (Heap.lt_size h1)
  unfold unpackItems
  refine wpAny_bind ?_
  · unfold notIterableAtAll
    refine wpAny_bind (wpAny_specialOf hl.typeIs slot_list_iter.lookup ?_)
    refine wpAny_pure ?_
    simp only [Bool.false_eq_true, if_false]
    refine wpAny_bind (wpAny_holding (wpAny_pyIter_list hl ?_))
    refine wpAny_bind (wpAny_holding (PySem.W.kun_draw hlt items.size 0 _ _ ⟨_, Heap.get?_push_size _ rfl, rfl, rfl⟩ (hl.push _) (by omega) fun h₁ hit₁ hs₁ => ?_))
    have hall : List.take items.size (List.drop 0 items.toList) = items.toList := by
      rw [List.drop_zero]; exact List.take_of_length_le (by simp)
    rw [hall]
    rw [if_neg (by simp)]
    have hl₁ : h₁.IsList l items := (hl.push _).at fun o q => (hs₁.2 l hlt).trans q
    have hot₁ : HotX.HotAt A x1 h₁ := ⟨hh, o1, vs1, (hs₁.2 x1 hx1).trans (Heap.get?_push_of_some _ h1), d1, c1⟩
    refine wpAny_bind (wpAny_holding (next_end_hot (s := { s with heap := h₁ }) hot₁ hx1 hit₁ hl₁ (by simp) fun h₂ he₂ => ?_))
    simp only [Option.isSome_none, Bool.false_eq_true, if_false]
    refine wpAny_pure (hQ h₂ fun b o e => ?_)
    have hb : b ≠ s.heap.objs.size := Nat.ne_of_lt (Heap.lt_size e)
    exact he₂ b o hb ((hs₁.2 b hb).trans (Heap.get?_push_of_some _ e))
end
section
variable {X : Cx} {pos : Pos}
theorem pg_lstH {es : List Expr} {k : Nat} {t : TGs} {n : Nat} (hc : L2H.HotC X) (h : PGs X es t)
    (hn : (assignEach es X.env).length = n := by rfl) (hst : (assignEach es X.env).findIdx? (·.1) = none := by rfl) : PG X (.Tuple es k pos) (gLst X.K n t) := by
  refine ⟨fun pins s σ H v u Q I r hw => ?_⟩
  obtain ⟨a, xs, rfl, hq, hl, hw⟩ := hw
  cases r
  obtain ⟨its, rv, ht, hz⟩ := I.list hq
  obtain ⟨x1, hot⟩ := hc.at I
  have hs : (assignEach es X.env).length = its.toArray.size := by rw [hn, ← hl, rv.length, List.size_toArray]
  rw [assign_Tuple]
  refine wpAny_bind (wpAny_standAt ?_)
  unfold unpack
  rw [hs, hst]
  refine wpAny_bind (wpAny_holding (unpack_hot hot ht.isList fun h' hx => ?_))
  have I1 : Inv X pins σ H { s with heap := h' } := I.kept (t' := s.toks) hx
  exact h.run pins _ σ H xs _ Q I1 (by simpa using rv) hw
theorem turn_listH {P : Program} {w : World} {K : PySem.W.Frag} {tg : Expr} (a it : Addr) : L2H.TurnH P w K tg (Itl K a) [it] it (fun i h => h.IsListIter it a i) where
  mem := List.mem_singleton.mpr rfl
  obj := (turn_list (P := P) (w := w) (K := K) (tg := tg) a it).obj
  keep := (turn_list (P := P) (w := w) (K := K) (tg := tg) a it).keep
  item := by
    intro X hP hw hK hc i pins s σ H E I hf st hg
    subst hP hw hK
    obtain ⟨xs, x, hq, hx⟩ := hg
    obtain ⟨its, rv, p, hz⟩ := I.list hq
    obtain ⟨u, hu, ru⟩ := rv.get hx
    obtain ⟨f0, f1, f2, f3, f4, f5⟩ := hf it (by simp)
    refine wpAny_pyNext_list_item st p.isList (x := u) (by simpa using hu) fun h' st' sb => ?_
    have I1 : Inv X pins σ H { s with heap := h' } := I.turned (t' := s.toks) (fun b o hb e => (sb.2 b hb).trans e) f0 f1 f3 f4 f5
    obtain ⟨o, e, c, d⟩ := id st'
    exact ⟨u, rfl, go_of (s := { s with heap := h' }) e c d (by decide) ⟨x, H, I1, ru, ⟨rfl, fun ys hy => by rw [I.list_inj hy hq]; exact hx⟩, st', fun b hb => (hf b hb).1⟩⟩
  done := by
    intro X hP hw hK hc i pins s σ H E I hf st hg
    subst hP hw hK
    obtain ⟨xs, hq, hx⟩ := hg
    obtain ⟨its, rv, p, hz⟩ := I.list hq
    obtain ⟨f0, f1, f2, f3, f4, f5⟩ := hf it (by simp)
    have hl := rv.length
    obtain ⟨q, ⟨hh, v1, e1, c1⟩, hp⟩ := hc
    have hq1 : q.1 ≠ it := f5 q (List.mem_append_left _ hp)
    exact next_end_hot ⟨hh, q.2, v1, (I.pin q (List.mem_append_left _ hp)).1, e1, c1⟩ hq1 st p.isList (by simp; omega) fun h' eb => ⟨rfl, I.turned (t' := s.toks) (fun b o hb e => eb b o hb e) f0 f1 f3 f4 f5⟩
  self := fun _ _ _ _ _ st h => wpAny_pyIter_listiter st h
theorem pi_listH {tg l : Expr} {tl : TE} (hl : PE X l tl) : L2H.PIH X tg l (iList X.K tl) := by
  refine ⟨fun pins s σ H R I h => thn (hl.run pins s σ H _ I h) fun v s1 ⟨x, H1, I1, r1, a, e, ⟨xs, hq⟩, q⟩ => ?_⟩
  subst e
  cases r1
  obtain ⟨its, rv, p, hz⟩ := I1.list hq
  refine wpAny_pyIter_list p.isList ⟨s1.heap.objs.size, [s1.heap.objs.size], _, _, H1, rfl, I1.kept (t' := s1.toks) fun b o e => Heap.get?_push_of_some _ e, turn_listH a _, ⟨_, Heap.get?_push_size _ rfl, rfl, rfl⟩, fun b hb => ?_, q⟩
  have e : b = s1.heap.objs.size := by simpa using hb
  subst e
  exact I1.fpOk (Nat.le_refl _) (I1.hok.fresh (Nat.le_refl _))
/-- a block's context that still bears the handled exception -/
abbrev blkH (X : Cx) (s : Shared) (H : Hp) (scope : Scope) (cenv : Env) (fp : List Addr) : Cx := { X.blk s H scope cenv fp with pn := X.pn }
end
end Kg

set_option maxHeartbeats 4000000
/-! [e for t in l if c] while an exception is handled -/
namespace Kg
open PySem PySem.Spec PyProof.Rows L2
section
variable {X : Cx} {pins : List (Addr × Obj)} {σ : L2.St} {H : Hp} {s : Shared}
theorem block_startH {scope : Scope} {own : List (Str × Nat)} {fp : List Addr} (I : Inv X pins σ H s) (ok : BlkOk X.N X.env.scope scope own) (hN : X.N.Nodup) (hfp : ∀ b ∈ fp, FpOk X pins H b ∧ b < s.heap.objs.size) :
    Inv (blkH X s H scope (compEnvC scope (cellsFrom (s.heap.objs.size + 1) scope.names (cloFrom X.env.cells scope.names [])) s.heap.objs.size X.env) fp) [] (wipe σ (own.map (·.2))) H { s with heap := pushCells (s.heap.push { cls := .type "dict", data := .dict #[] }) scope.names } := by
  have B := block_start I ok hN hfp
  refine ⟨⟨B.ok.mod, B.ok.kind, B.ok.glob, B.ok.blt, B.ok.above, B.ok.inj, B.ok.has, B.ok.cab, B.ok.hd, B.ok.frames, B.ok.stk, B.ok.exf, B.ok.bs, B.ok.bsz, B.ok.noex, B.ok.exfs, B.ok.funs, B.ok.frf⟩, B.os, B.bare, B.base, B.loc, B.cell, B.free, B.freeC, fun p hp => ?_, B.hok, B.len⟩
  have hp' : p ∈ X.pn := by
    rcases List.mem_append.mp hp with z | z
    · exact z
    · cases z
  obtain ⟨g1, g2, g3, g4, g5⟩ := I.pin p (List.mem_append_left _ hp')
  refine ⟨pushCells_keeps _ _ _ _ (Heap.get?_push_of_some _ g1), g2, Nat.ne_of_lt (Heap.lt_size g1), fun hm => ?_, g5⟩
  exact (List.mem_cons.mp (I.stkSub p.1 hm)).elim g3 g4
theorem lc_coreH {elt tg iter : Expr} {ifs : List Expr} {scope : Scope} {own : List (Str × Nat)} {pos pos' : Pos} {wi : TI} {g : TG} {tt : TT} {te : TE} {use : Option (Value → Sem Unit)} {Qf : Value → Shared → Prop} {Q : VK} (hc : L2H.HotC X) (hN : X.N.Nodup) (I : Inv X pins σ H s) (hi : L2H.PIH X tg iter wi) (ok : BlkOk X.N X.env.scope scope own)
    (hg : ∀ (s : Shared) (H : Hp) (C : Addr) (cl : List (Str × Addr)) (fp : List Addr), PG (blkH X s H scope (compEnvC scope cl C X.env) fp) tg g) (ht : ∀ (s : Shared) (H : Hp) (C : Addr) (cl : List (Str × Addr)) (fp : List Addr), PTs (blkH X s H scope (compEnvC scope cl C X.env) fp) ifs tt)
    (he : ∀ (s : Shared) (H : Hp) (C : Addr) (cl : List (Str × Addr)) (fp : List Addr), PE (blkH X s H scope (compEnvC scope cl C X.env) fp) elt te) (hs : ∀ x, foldedSetIterable iter X.env x = pure x)
    (h : tLc wi g tt te (own.map (·.2)) σ H Q) (hRR : ∀ D C s' m H', Inv X pins σ H' s' → Q (.ref D) H' → s'.heap.Ns C m → FpOk X pins H' C → compPost (model X.prog X.w) X.A X.xe use Qf (.ref D) C (.ok .next) s') :
    wpAny (model X.prog X.w) X.A (comprehension (.ListComp elt [⟨tg, iter, ifs, 0⟩] scope pos) scope X.env pos' (newList []) false (eval iter X.env) use) Qf X.xe s := by
  have hfree : ∀ y ∈ scope.names, y.2 = .free → ∃ c, X.env.cells.lookup y.1 = some c := fun y hy e => (ok.free y hy e).elim (fun k => I.ok.has _ (.inl k)) fun k => I.ok.has _ (.inr k)
  refine wpAny_comprehension_free (use := use) rfl hs (closure_ok hfree) ok.kind (fun y hy e => by rw [ok.uniq y hy, e])
    (thn (hi.run pins s σ H _ I h) fun xv s1 hx => thn hx fun itv s2 h2 => ?_)
  obtain ⟨it, fp, tn, J, H2, rfl, I2, T, st2, f2, q⟩ := h2
  refine wpAny_newObj_type (newEnv_comp ?_) (by show 0 ≤ sizeLine; decide)
  generalize hD : s2.heap.objs.size = D
  obtain ⟨W, ⟨m0, w0⟩, turn⟩ := q D (I2.hok.fresh (Nat.le_of_eq hD))
  generalize hs3 : ({ s2 with heap := s2.heap.push { cls := .type "list", data := .seq ([] : List Value).toArray } } : Shared) = s3
  have h3 : s3.heap = s2.heap.push { cls := .type "list", data := .seq ([] : List Value).toArray } := by rw [← hs3]
  have I3 : Inv X pins σ (upd H2 D (.lst [])) s3 := by
    rw [← hs3]
    refine I2.laid (t' := s2.toks) (fun b o e => Heap.get?_push_of_some _ e) (Nat.le_of_eq hD) ⟨Nat.zero_le _, [], 0, .nil, ?_⟩
    rw [← hD]
    exact Heap.get?_push_size _ rfl
  have f3 : ∀ b ∈ fp, FpOk X pins (upd H2 D (.lst [])) b ∧ b < s3.heap.objs.size := fun b hb => by
    obtain ⟨o, e, _⟩ := T.obj _ _ st2 b hb
    have hlt := Heap.lt_size e
    refine ⟨⟨?_, (f2 b hb).2⟩, by rw [h3, Heap.size_push]; exact Nat.lt_succ_of_lt hlt⟩
    rw [upd_ne (by rw [← hD]; exact Nat.ne_of_lt hlt)]
    exact (f2 b hb).1
  have st3 : tn 0 s3.heap := T.keep _ _ _ st2 fun b _ o e => by rw [h3]; exact Heap.get?_push_of_some _ e
  have I4 := block_startH I3 ok hN f3
  have pg := hg s3 (upd H2 D (.lst [])) s3.heap.objs.size (cellsFrom (s3.heap.objs.size + 1) scope.names (cloFrom X.env.cells scope.names [])) fp
  have pt := ht s3 (upd H2 D (.lst [])) s3.heap.objs.size (cellsFrom (s3.heap.objs.size + 1) scope.names (cloFrom X.env.cells scope.names [])) fp
  have pe := he s3 (upd H2 D (.lst [])) s3.heap.objs.size (cellsFrom (s3.heap.objs.size + 1) scope.names (cloFrom X.env.cells scope.names [])) fp
  show codeAny _ _ (.compStart (.ListComp elt [⟨tg, iter, ifs, 0⟩] scope pos) 0 (.ref it) (.ref D) (compEnvC scope (cellsFrom (s3.heap.objs.size + 1) scope.names (cloFrom X.env.cells scope.names [])) s3.heap.objs.size X.env)) (compPost (model X.prog X.w) X.A X.xe use Qf (.ref D) s3.heap.objs.size) { s3 with heap := pushCells (s3.heap.push { cls := .type "dict", data := .dict #[] }) scope.names }
  have nfp : ∀ b ∈ fp, (upd H2 D (.lst [])) b = none := fun b hb => (f3 b hb).1.1
  generalize hce : compEnvC scope (cellsFrom (s3.heap.objs.size + 1) scope.names (cloFrom X.env.cells scope.names [])) s3.heap.objs.size X.env = ce at I4 pg pt pe ⊢
  have cL : ce.locals = s3.heap.objs.size := by subst hce; rfl
  generalize hH3 : upd H2 D (.lst []) = H3 at I3 I4 pg pt pe w0 nfp f3
  generalize hs4 : ({ s3 with heap := pushCells (s3.heap.push { cls := .type "dict", data := .dict #[] }) scope.names } : Shared) = s4 at I4 ⊢
  have st4 : tn 0 s4.heap := T.keep _ _ _ st3 fun b _ o e => by rw [← hs4]; exact pushCells_keeps _ _ _ _ (Heap.get?_push_of_some _ e)
  have hcB : L2H.HotC (blkH X s3 H3 scope ce fp) := hc
  have stat : ∀ {σ' : L2.St} {H' : Hp} {s' : Shared}, Inv (blkH X s3 H3 scope ce fp) [] σ' H' s' → (∀ b ∈ fp, H' b = none) → ∀ b ∈ fp, FpOk (blkH X s3 H3 scope ce fp) [] H' b := fun {σ' H' s'} I' hn b hb =>
    ⟨hn b hb, (I'.ok.exf b hb).1, I'.ok.exfs b hb, .inl hb, fun x c e => (I'.ok.exf b hb).2 x c e, fun p hp => by
      rcases List.mem_append.mp hp with z | z
      · exact (f3 b hb).1.2.2.2.2.2 p (List.mem_append_left _ z)
      · cases z⟩
  have loop : codeAny (model X.prog X.w) X.A (.compLoop (.ListComp elt [⟨tg, iter, ifs, 0⟩] scope pos) 0 (.ref it) (.ref D) ce) (compPost (model X.prog X.w) X.A X.xe use Qf (.ref D) s3.heap.objs.size) s4 := by
    refine compLoop_any (fun n s' => ∃ i H', Inv (blkH X s3 H3 scope ce fp) [] (wipe σ (own.map (·.2))) H' s' ∧ tn i s'.heap ∧ (∀ b ∈ fp, H' b = none) ∧ W i n H') ?_ m0 ⟨0, H3, I4, st4, nfp, w0⟩
    rintro n s5 ⟨i, H5, I5, st5, n5, w5⟩
    rcases turn i n H5 w5 with ⟨stop, qq⟩ | ⟨go, Nx, hNx, step⟩
    · refine thnF (T.done (blkH X s3 H3 scope ce fp) rfl rfl rfl hcB i [] s5 _ H5 (fun _ _ => False) I5 (stat I5 n5) st5 stop) fun r s6 ⟨hr, I6⟩ => ?_
      subst hr
      have I7 : Inv X pins σ H5 s6 := I3.call' (ch := fp) I6.os I6.base I6.hok I6.bare fun b hb => ⟨(f3 b hb).1.2.2.2.1, (f3 b hb).1.2.1, (f3 b hb).1.2.2.2.2.1, (f3 b hb).1.2.2.2.2.2⟩
      have nC : H5 s3.heap.objs.size = none := by
        have z : H5 ce.locals = none := I6.free
        rwa [cL] at z
      obtain ⟨m, hn, _⟩ := I6.loc
      have hn : s6.heap.Ns ce.locals m := hn
      rw [cL] at hn
      exact hRR D s3.heap.objs.size s6 m H5 I7 qq hn (I3.fpOk (Nat.le_refl _) nC)
    · refine thnF (T.item (blkH X s3 H3 scope ce fp) rfl rfl rfl hcB i [] s5 _ H5 (fun _ _ => False) I5 (stat I5 n5) st5 go) fun r s6 ⟨u, hr, h6⟩ => ?_
      subst hr
      refine thnF h6 fun _ s7 ⟨x, H7, I7, r7, y7, st7, n7⟩ => ?_
      have I7' := I7.pinned (stat I7 n7) (T.obj _ _ st7)
      refine thnF (pg.run _ s7 _ H7 x u _ I7' r7 (step x H7 y7)) fun _ s8 ⟨σ8, H8, I8, hw8, q8⟩ => ?_
      refine thnF (pt.run _ s8 σ8 H8 _ I8 q8) fun b s9 ⟨H9, I9, q9⟩ => ?_
      have fin : ∀ {s' : Shared} {H' : Hp}, Inv (blkH X s3 H3 scope ce fp) ([] ++ pinsAt fp s7.heap) σ8 H' s' → Nx H' → ∃ m, m < n ∧ ∃ i H', Inv (blkH X s3 H3 scope ce fp) [] (wipe σ (own.map (·.2))) H' s' ∧ tn i s'.heap ∧ (∀ b ∈ fp, H' b = none) ∧ W i m H' := fun {s' H'} I' nx => by
        obtain ⟨m', hm, w'⟩ := hNx H' nx
        have pin' : ∀ b ∈ fp, ∀ o, s7.heap.get? b = some o → s'.heap.get? b = some o ∧ H' b = none := fun b hb o e =>
          let z := I'.pin (b, o) (List.mem_append_right _ (List.mem_append_right _ (mem_pinsAt hb e)))
          ⟨z.1, z.2.1⟩
        refine ⟨m', hm, i + 1, H', (I'.unpinned (pins := [])).weak (by rw [← hw8, wipe_length]) (fun j v e => ?_), T.keep _ _ _ st7 fun b hb o e => (pin' b hb o e).1, fun b hb => ?_, w'⟩
        · rw [← hw8] at e
          exact (wipe_some e).1
        · obtain ⟨o, e, _⟩ := T.obj _ _ st7 b hb
          exact (pin' b hb o e).2
      cases b with
      | false =>
        simp only [Bool.false_eq_true, if_false] at q9 ⊢
        exact fin I9 q9
      | true =>
        simp only [if_true] at q9 ⊢
        refine thnF (pe.run _ s9 σ8 H9 _ I9 q9) fun z s10 ⟨yv, H10, I10, r10, acc, hD10, hz10, nx⟩ => ?_
        exact app_ok (X := blkH X s3 H3 scope ce fp) I10 hD10 hz10 r10 fun s11 I11 => fin I11 nx
  exact codeAny_compStart_list loop (T.self X.A 0 _ _ _ st4 loop)
theorem pe_lcH {elt tg iter : Expr} {ifs : List Expr} {scope : Scope} {own : List (Str × Nat)} {pos : Pos} {wi : TI} {g : TG} {tt : TT} {te : TE} (hc : L2H.HotC X) (hN : X.N.Nodup) (hi : L2H.PIH X tg iter wi) (ok : BlkOk X.N X.env.scope scope own)
    (hg : ∀ (s : Shared) (H : Hp) (C : Addr) (cl : List (Str × Addr)) (fp : List Addr), PG (blkH X s H scope (compEnvC scope cl C X.env) fp) tg g) (ht : ∀ (s : Shared) (H : Hp) (C : Addr) (cl : List (Str × Addr)) (fp : List Addr), PTs (blkH X s H scope (compEnvC scope cl C X.env) fp) ifs tt)
    (he : ∀ (s : Shared) (H : Hp) (C : Addr) (cl : List (Str × Addr)) (fp : List Addr), PE (blkH X s H scope (compEnvC scope cl C X.env) fp) elt te) (hs : ∀ x, foldedSetIterable iter X.env x = pure x := by intro _; rfl) :
    PE X (.ListComp elt [⟨tg, iter, ifs, 0⟩] scope pos) (tLc wi g tt te (own.map (·.2))) := by
  refine ⟨fun pins s σ H Q I h => ?_⟩
  rw [eval_ListComp]
  refine lc_coreH hc hN I hi ok hg ht he hs h fun D C s' m H' I' q hn f => ⟨m, hn, fun h'' sb => ?_⟩
  obtain ⟨f0, f1, f2, f3, f4, f5⟩ := f
  exact ⟨.ref D, H', I'.turned (t' := s'.toks) (fun b o hb e => (sb.2 b hb).trans e) f0 f1 f3 f4 f5, rfl, q⟩
theorem ps_setLcH {i : Nat} {y : Str} {py : Pos} {elt tg iter : Expr} {ifs : List Expr} {scope : Scope} {own : List (Str × Nat)} {pos spos : Pos} {wi : TI} {g : TG} {tt : TT} {te : TE} (hc : L2H.HotC X) (hN : X.N.Nodup) (hy : X.N[i]? = some y) (hyl : X.env.scope.names.lookup y = some .local)
    (hsw : swapsWith (.ListComp elt [⟨tg, iter, ifs, 0⟩] scope pos) (some (.Name y py)) spos.line X.env = pure true) (hi : L2H.PIH X tg iter wi) (ok : BlkOk X.N X.env.scope scope own)
    (hg : ∀ (s : Shared) (H : Hp) (C : Addr) (cl : List (Str × Addr)) (fp : List Addr), PG (blkH X s H scope (compEnvC scope cl C X.env) fp) tg g) (ht : ∀ (s : Shared) (H : Hp) (C : Addr) (cl : List (Str × Addr)) (fp : List Addr), PTs (blkH X s H scope (compEnvC scope cl C X.env) fp) ifs tt)
    (he : ∀ (s : Shared) (H : Hp) (C : Addr) (cl : List (Str × Addr)) (fp : List Addr), PE (blkH X s H scope (compEnvC scope cl C X.env) fp) elt te) (hs : ∀ x, foldedSetIterable iter X.env x = pure x := by intro _; rfl) :
    PS X (.Assign [.Name y py] (.ListComp elt [⟨tg, iter, ifs, 0⟩] scope pos) spos) (tAsg (tLc wi g tt te (own.map (·.2))) (gName i)) := by
  refine ⟨fun pins s σ H D I h => ?_⟩
  rw [exec_Assign_Name_used _ _ _ _ hsw]
  refine wpAny_bind (wpAny_standAt (wpAny_bind ?_))
  show wpAny _ X.A (do let _ ← comprehension (.ListComp elt [⟨tg, iter, ifs, 0⟩] scope pos) scope X.env (firstIterPos [⟨tg, iter, ifs, 0⟩] pos) (newList []) false (eval iter X.env) (some (assign (.Name y py) X.env))) _ _ s
  have h : tLc wi g tt te (own.map (·.2)) σ H (fun x H1 => gName i x σ H1 D.nx) := h
  refine wpAny_bind (thn (lc_coreH (Qf := fun _ s' => SP X pins D .next s') hc hN I hi ok hg ht he hs h fun L C s' m H' I' q hn f => ?_) fun _ s' hq => wpAny_pure (wpAny_pure hq))
  show wpAny _ _ (assign (.Name y py) X.env (.ref L)) _ _ _
  refine wpAny_assign_Name (store_ok2 (v := V.ref L) I' hN hy (.inl hyl) rfl (fun s2 I2 ⟨a, sb, ha⟩ => ?_) (.inr hyl))
  obtain ⟨f0, f1, f2, f3, f4, f5⟩ := f
  have haC : C ≠ a := by
    rcases ha with z | z
    · rw [z]; exact f1
    · exact fun e => f4 y a z e.symm
  refine ⟨m, hn.sameBut sb haC, fun h3 sb3 => ?_⟩
  exact ⟨_, H', I2.turned (t' := s2.toks) (fun b o hb e => (sb3.2 b hb).trans e) f0 f1 f3 f4 f5, q⟩
end
end Kg

set_option maxHeartbeats 4000000
/-! try: .. except (A, B, C) as n: .. where each exception of the body is one of the three -/
namespace Kg
open PySem PySem.Spec PyProof.Rows L2 L2N
/-- what the clause wishes of an exception of the body -/
def wAs3 (K : PySem.W.Frag) (c1 c2 c3 : Value) (i : Nat) (ts : Addr → Value → Option Addr → TS) (D : Ends) : WX := fun cls d σ H =>
  PySem.W.exmAny K cls [c1, c2, c3] = some true ∧ ∀ a, H a = none → ts a cls d { nx := fun σ' H' => D.nx (σ'.set i none) H', rt := D.rt, bk := fun σ' H' => D.bk (σ'.set i none) H', ct := fun σ' H' => D.ct (σ'.set i none) H' } (σ.set i (some (.ref a))) H
section
variable {X : Cx} {x1 x2 x3 n : Str} {c1 c2 c3 : Value} {i kk : Nat} {body suite : List Stmt} {b₀ : Stmt} {p1 p2 p3 tp pos pos' : Pos} {tb : WX → TS} {ts : Addr → Value → Option Addr → TS}
theorem fly_push {B h : Heap} {l : List Env} {a : Addr} {Z : Obj → Prop} {o : Obj} (f : HandSPX.FlyingZ B l a Z h) : HandSPX.FlyingZ B l a Z (h.push o) := by
  obtain ⟨f1, f2, f3, oe, vs, T, oT, ts, he, hz, hd, h1, hnT, hTe, hT, hdT, h3⟩ := f
  have k : ∀ b u, h.get? b = some u → (h.push o).get? b = some u := fun b u e => Heap.get?_push_of_some _ e
  exact ⟨fun b u e => k b u (f1 b u e), f2, f3.of_keeps fun b u e _ => ⟨u, k b u e, rfl⟩, oe, vs, T, oT, ts, k _ _ he, hz, hd, h1, hnT, hTe, k _ _ hT, hdT, h3⟩
theorem ps_try_as3 (hs : X.stack = X.env :: X.outer) (hf : X.env.frame = some X.env.locals) (hN : X.N.Nodup) (hi : X.N[i]? = some n) (hln : X.env.kindOf n = some .local) (n1 : Names X x1 c1) (n2 : Names X x2 c2) (n3 : Names X x3 c3)
    (hb : ∀ (W : WX) (pn : List (Addr × Obj)) (xe : Value → Shared → Prop), L2N.Takes (X.tr pn xe) W → PassesOwn (model X.prog X.w) X.A X.env xe → PSs (X.tr pn xe) body (tb W))
    (hsu : ∀ (a : Addr) (oe : Obj) (cls : Value) (d : Option Addr) (pn : List (Addr × Obj)), L2N.Zn cls d oe → (∃ vs, oe.data = .fields vs) → PSs (X.suite a ((a, oe) :: pn)) (b₀ :: suite) (ts a cls d))
    (hst : starEach [.Name x1 p1, .Name x2 p2, .Name x3 p3] X.env = [(false, eval (.Name x1 p1) X.env), (false, eval (.Name x2 p2) X.env), (false, eval (.Name x3 p3) X.env)] := by rfl) :
    PS X (.Try body [.ExceptHandler (some (.Tuple [.Name x1 p1, .Name x2 p2, .Name x3 p3] kk tp)) (some n) (b₀ :: suite) pos'] [] [] pos) (fun D σ H => tb (wAs3 X.K c1 c2 c3 i ts D) D σ H) := by
  refine ⟨fun pins s σ H D I h => ?_⟩
  have ok := I.ok
  have hfr : X.A.frames = some (X.env :: X.outer) := by rw [ok.frames, hs]
  have hloc : Loc X.env.scope n := .inl hln
  refine wpAny_Try_except ?_
  refine wpAny_mono ((hb (wAs3 X.K c1 c2 c3 i ts D) (X.pn ++ pins) (fun e s₁ => wpAny (model X.prog X.w) X.A (noteFrame e X.env) (fun _ s₂ => wpAny (model X.prog X.w) X.A (setFlight e none) (fun _ s₃ =>
    wpAny (model X.prog X.w) X.A (handleBy e X.env [.ExceptHandler (some (.Tuple [.Name x1 p1, .Name x2 p2, .Name x3 p3] kk tp)) (some n) (b₀ :: suite) pos']) (SP X pins D) X.xe s₃) X.xe s₂) X.xe s₁) (fun u s' xx => ?_) PassesOwn.looking).run [] s σ H D (I.toTry _) h) (fun f s1 hsp => ?_) (fun e s1 he => he)
  · obtain ⟨a, B, sI, pins', σ', H', cls, d, rfl, J', nb, up, sky, na, os, ag, hm, hyes⟩ := xx
    have J : Inv X pins σ' H' sI := J'.ofTry ok
    have sky' : Sky B (X.env :: X.outer) a (L2N.Zn cls d) X.env.locals s'.heap := by rw [← hs]; exact sky
    show wpAny (model X.prog X.w) X.A (noteFrame (.ref a) X.env) _ _ _
    refine L2N.Sky.land L2N.Zn.steady hfr hf sky' fun h3 fl3 up3 => ?_
    have J3 : Inv X pins σ' H' { s' with heap := h3 } := J.landed nb fl3.1 (up.trans up3) os ag
    obtain ⟨oe3, vs3, he3, hz3, hd3⟩ := fl3.there
    have nfr : a ∉ frs (X.env :: X.outer) := fun hmm => by
      obtain ⟨_, o', e', hnf⟩ := fl3.2.2.1.mem hmm
      rw [he3] at e'; cases e'
      exact hnf _ hd3
    have nL : a ≠ X.env.locals := fun z => nfr (List.mem_filterMap.mpr ⟨X.env, List.mem_cons_self, by rw [hf, z]⟩)
    have nF : a ∉ X.fs := fun hmm => by
      obtain ⟨e, he, q⟩ := List.mem_filterMap.mp hmm
      exact nfr (List.mem_filterMap.mpr ⟨e, List.mem_cons_of_mem _ he, q⟩)
    have S3 := J3.suite he3 hd3 na nL nF
    refine wpAny_handleBy_cons (codeAny_handlers_test ?_) (by intro q; cases q)
    have test : ∀ {x : Str} {c : Value} {np : Pos} {Q : Value → Shared → Prop} {E : Value → Shared → Prop}, Names X x c → Q c { s' with heap := h3 } → wpAny (model X.prog X.w) (X.A.mark (some (.ref a))) (eval (.Name x np) X.env) Q E { s' with heap := h3 } := fun {x c np Q E} hc q => by
      obtain ⟨hg, hdbg, hm | ⟨hm, hv, hnn⟩⟩ := hc
      · exact ld_glob (X := X.suite a ((a, oe3) :: (X.pn ++ pins))) S3 hg hm q hdbg
      · exact ld_blt (X := X.suite a ((a, oe3) :: (X.pn ++ pins))) S3 hg hm hv q hnn hdbg
    refine wpAny_Tuple_spliced ?_
    rw [hst]
    show wpAny _ _ (spliced [(false, eval (.Name x1 p1) X.env), (false, eval (.Name x2 p2) X.env), (false, eval (.Name x3 p3) X.env)]) _ _ _
    refine Calls.spliced_cons (test n1 (Calls.spliced_cons (test n2 (Calls.spliced_cons (test n3 (Calls.spliced_nil ?_))))))
    refine ⟨by show (3 : Nat) ≤ sizeLine; decide, ?_⟩
    have fl3 := fly_push (o := { cls := .type "tuple", data := .seq [c1, c2, c3].toArray }) fl3
    have up3 : s'.heap.UpToSlots (h3.push { cls := .type "tuple", data := .seq [c1, c2, c3].toArray }) := up3.trans (Heap.UpToSlots.of_keeps fun b o e => Heap.get?_push_of_some _ e)
    have he3 : (h3.push { cls := .type "tuple", data := .seq [c1, c2, c3].toArray }).get? a = some oe3 := Heap.get?_push_of_some _ he3
    have hp3 : (h3.push { cls := .type "tuple", data := .seq [c1, c2, c3].toArray }).get? h3.objs.size = some { cls := .type "tuple", data := .seq [c1, c2, c3].toArray } := Heap.get?_push_size _ rfl
    have J3 : Inv X pins σ' H' { s' with heap := h3.push { cls := .type "tuple", data := .seq [c1, c2, c3].toArray } } := J.landed nb fl3.1 (up.trans up3) os ag
    generalize h3.push { cls := .type "tuple", data := .seq [c1, c2, c3].toArray } = h5 at fl3 up3 he3 hp3 J3
    have LT : PySem.W.Looks (model X.prog X.w) h5 (typeOf (.ref a)) cls := fun A Q E s k q => wpAny_typeOf_ref (k _ _ he3) (by rw [hz3.1]; exact q)
    have LM := PySem.W.exm_tup3 (M := model X.prog X.w) J3.kIn LT hp3 hm
    refine LM.here ?_
    refine codeAny_handlers_suite_as ?_
    refine HandSPX.lands_againZ fl3 fun h4 fl4 up4 => ?_
    have J4 : Inv X pins σ' H' { s' with heap := h4 } := J.landed nb fl4.1 ((up.trans up3).trans up4) os ag
    obtain ⟨oe4, vs4, he4, hz4, hd4⟩ := fl4.there
    have S4 := J4.suite he4 hd4 na nL nF
    refine store_ok (X := X.suite a ((a, oe4) :: (X.pn ++ pins))) (v := .ref a) S4 hN hi hloc rfl (fun s5 S5 => ?_) (.inr hln)
    refine wpAny_mono ((hsu a oe4 cls d (X.pn ++ pins) hz4 ⟨_, hd4⟩).run [] s5 _ H' _ S5 (hyes a na)) (fun f s6 hsp => ?_) (fun _ _ z => False.elim z)
    have end_ : ∀ {σ6 : L2.St} {H6 : Hp} {Q : Shared → Prop}, Inv (X.suite a ((a, oe4) :: (X.pn ++ pins))) [] σ6 H6 s6 → (∀ s7, Inv X pins (σ6.set i none) H6 s7 → Q s7) →
        wpAny (model X.prog X.w) X.A (do bindName X.env n .none; unbindBehindTheSuite X.env n pos') (fun _ s7 => Q s7) X.xe s6 := fun {σ6 H6 Q} S6 hq => gone_ok (S6.unsuite ok) hN hi hln hq
    cases f with
    | next =>
      obtain ⟨σ6, H6, S6, q6⟩ := hsp
      exact end_ S6 fun s7 J7 => ⟨_, _, J7, q6⟩
    | brk =>
      obtain ⟨σ6, H6, S6, q6⟩ := hsp
      exact end_ S6 fun s7 J7 => ⟨_, _, J7, q6⟩
    | cont =>
      obtain ⟨σ6, H6, S6, q6⟩ := hsp
      exact end_ S6 fun s7 J7 => ⟨_, _, J7, q6⟩
    | ret u =>
      obtain ⟨v6, σ6, H6, S6, r6, q6⟩ := hsp
      exact end_ S6 fun s7 J7 => ⟨_, _, _, J7, r6, q6⟩
  · cases f with
    | next =>
      obtain ⟨σ', H', J', q⟩ := hsp
      exact wpAny_execs_nil ⟨σ', H', J'.ofTry ok, q⟩
    | brk =>
      obtain ⟨σ', H', J', q⟩ := hsp
      exact ⟨σ', H', J'.ofTry ok, q⟩
    | cont =>
      obtain ⟨σ', H', J', q⟩ := hsp
      exact ⟨σ', H', J'.ofTry ok, q⟩
    | ret u =>
      obtain ⟨v, σ', H', J', r, q⟩ := hsp
      exact ⟨v, σ', H', J'.ofTry ok, r, q⟩
end
end Kg

set_option maxHeartbeats 4000000
/-! exceptions of an own class that bear a dict: made, asked for their class, read; defs that take the handled one -/
namespace Kg
open PySem PySem.Spec PyProof.Rows L2
section
variable {X : Cx} {e : Expr} {es : List Expr} {ta : TA} {p pos : Pos}
/-- C(e, ..), its context told: None -/
theorem pmk_oexN {CX : CXT} {x : Str} {C fI : Addr} {k : Nat} {fd : FuncData} {ps : List Str} {sp : Sp} (T : OexC X.K C) (iC : PySem.W.findIn X.K (.ref C) "__init__" = some (some (.ref fI))) (tI : PySem.W.typeIn X.K (.ref fI) = some (.type "function"))
    (F1 : FnOk X.prog X.w X.K X.mg X.base CX k fI fd ps sp) (hr : Room (k + 1) X.A) (hb : Binds X.K fd ps []) (hx : Passes CX X (fun _ _ _ => False)) (hg : Gl X x) (hm : X.mg x = some (.ref C)) (ha : PA X (e :: es) ta)
    (hdb : (x == ("__debug__" : Str)) = false := by decide) (he : starEach (e :: es) X.env = (false, eval e X.env) :: starEach es X.env := by rfl) (hpl : (backTo pos (starEach es X.env)).any (·.1) = false := by rfl) :
    L2N.PMk X (.Call (.Name x p) (e :: es) [] pos) (tMkO C sp [] ta) := by
  intro pins s σ H Q I h
  obtain ⟨nm, q, N, bs, bm, sn, sub, ab, col, dd, k0, k1, k2, k3, k5, hC, hbm⟩ := T.cls
  refine wpAny_Call_Name_kw (ld_glob I hg hm ?_ hdb)
  refine PySem.W.callWith_K (h₀ := X.base) I.ok.mod.kin T.kC (thn (ha.run pos pins s σ H _ I h) fun us s1 ⟨vs, H1, I1, r1, hz, q1⟩ => ⟨I1.kIn, ?_⟩) he hpl
  show wpAny _ _ (call (.ref C) us) _ _ _
  obtain ⟨hp, g, dr, tk, os⟩ := s1
  have hsz : hp.objs.size ≤ hp.objs.size + 1 := Nat.le_succ _
  have hq := q1 (hp.objs.size + 1) (I1.hok.fresh hsz)
  have kk : ∀ b o, hp.get? b = some o → ((hp.push (PySem.W.kdv_tup us)).push (PySem.HandSPX.excO C hp.objs.size)).get? b = some o := fun b o e => Heap.get?_push_of_some _ (Heap.get?_push_of_some _ e)
  have hget : ((hp.push (PySem.W.kdv_tup us)).push (PySem.HandSPX.excO C hp.objs.size)).get? (hp.objs.size + 1) = some (PySem.HandSPX.excO C hp.objs.size) := by heap_get
  have I2 : Inv X pins σ (upd H1 (hp.objs.size + 1) (exo (hp.objs.size + 1) C none)) ⟨(hp.push (PySem.W.kdv_tup us)).push (PySem.HandSPX.excO C hp.objs.size), g, dr, tk, os⟩ :=
    I1.laid (t' := tk) (a := hp.objs.size + 1) (o := exo (hp.objs.size + 1) C none) (h' := (hp.push (PySem.W.kdv_tup us)).push (PySem.HandSPX.excO C hp.objs.size)) kk hsz (exo_ok hget)
  have r2 : Vals (V.ref (hp.objs.size + 1) :: (vs ++ [])) (Value.ref (hp.objs.size + 1) :: (us ++ [])) := .cons rfl (r1.append .nil)
  have hl : (Value.ref (hp.objs.size + 1) :: us ++ []).length = ps.length := by
    have e := r2.length
    rw [F1.len _ _ _ _ hq] at e
    exact e.symm
  have hbs := hb _ (Value.ref (hp.objs.size + 1) :: us) I2.kIn hl
  rw [List.cons_append] at hbs
  have hus : us.length ≤ sizeLine := by
    rw [← Paired.length r1, sizeLine_eq]
    omega
  refine wpAny_call (PySem.HandSPX.call_own F.excBase_ValueError (fun Y => PySem.HandSPX.refsVE_contains Y bm hbm) (I1.kIn _ _ hC) (PySem.W.looks_findIn I1.kIn iC) (fun self => PySem.W.bind_fn I1.kIn self tI) hus
    (codeAny_mono (F1.run _ X.stack _ _ ⟨Value.ref (hp.objs.size + 1) :: us, []⟩ (Value.ref (hp.objs.size + 1) :: (us ++ [])) _ _ (fun _ _ _ => False) (hr.make C us []) (I2.env0.make C us []) hbs r2 hq) fun r s' hq' => ?_))
  cases r with
  | error er => exact hx pins σ _ _ er s' I2 hq'
  | ok fl =>
    cases fl with
    | ret u =>
      obtain ⟨v, H2, os2, bare2, un2, hok2, rv, ev, d, fs, ea, ed, hd1, q2⟩ := hq'
      subst ev
      obtain ⟨h2, g2, d2, t2, os'⟩ := s'
      obtain ⟨t0, G, J, kG, ge, hoe, na⟩ := mk_end0 (d2 := d2) (t2 := t2) I1 hsz kk un2 hok2 os2 bare2 ea ed hd1
      exact ⟨rv, _, _, _, ⟨G, g2, d2, t2, os'⟩, _, .ref C, some d, rfl, J, kG, ge, hoe, ⟨rfl, rfl, fun vs e => by cases e; rfl⟩, rfl, rfl, na, rfl, bare2, raises_own T.exC T.tyC, q2⟩
    | next => exact False.elim hq'
    | brk => exact False.elim hq'
    | cont => exact False.elim hq'
end
end Kg

namespace Kg
open PySem PySem.W PySem.Spec PySem.Calls PyProof.Rows
section
variable {prog : Program} {w : World} {A : Around} {E : Value → Shared → Prop} {s : Shared} {K : Frag} {x D : Addr} {ox od : Obj}
/-- __class__ of an exception that bears a dict -/
theorem class_excD {Q : Option Value → Shared → Prop} (T : L2.ExcC K D) (X : K.In s.heap) (I : InstAt s.heap x ox D (some od)) (h : Q (some (.ref D)) { s with toks := s.toks + 1 }) : wpAny (model prog w) A (getAttr? (.ref x) "__class__") Q E s := by
  have hf : findObj K D (some od) "__class__" = some (.bind (.builtin "getset_descriptor.__get__") (.builtin "object.__class__")) := findObj_data (by obtain ⟨cd, hc, _⟩ := any_some T.hd; rw [hc]; rfl) T.ha T.hn T.ht
  obtain ⟨hp, g, d, t, os⟩ := s
  have L0 := I.type (M := model prog w)
  have L1 := looks_findIn (M := model prog w) X T.hg
  have L2 := looks_findIn (M := model prog w) X T.hk
  have L3 := looks_find (M := model prog w) X I hf
  have sub : Looks (model prog w) hp (isInstance (.ref x) (.type "BaseException")) true := L0.andThen (looks_subIn X T.hs)
  have hx2 : (Value.builtin "BaseException.__getattribute__" == Value.builtin "object.__getattribute__") = false := by decide +kernel
  have hx1 : (onTheHeap (Value.ref D) && Value.builtin "BaseException.__getattribute__" == Value.builtin "object.__getattribute__") = false := by rw [hx2]; rfl
  unfold getAttr? getAttrBy? getAttrBy
  refine wpAny_bind (wpAny_mkText (wpAny_bind (wpAny_attempt (wpAny_holding (wpAny_bind (L0.at (wpAny_bind (L1.at ?_))))))))
  show wpAny _ _ (if (onTheHeap (Value.ref D) && Value.builtin "BaseException.__getattribute__" == Value.builtin "object.__getattribute__") = true then _ else _) _ _ _
  rw [hx1, if_neg Bool.false_ne_true]
  unfold getAttrByItsOwn hookBefore
  refine wpAny_bind ?_
  rw [if_pos (show onTheHeap (Value.ref D) = true from rfl)]
  refine L2.at ?_
  refine wpAny_bind (wpAny_attempt (wpAny_holding ?_))
  unfold callGetattribute
  rw [show (false && onTheHeap (Value.builtin "BaseException.__getattribute__")) = false from rfl, if_neg Bool.false_ne_true]
  unfold boundAndCalled
  rw [PySem.F.excAttr_ValueError.ga.bind (.ref x)]
  refine wpAny_bind (wpAny_pure ?_)
  show wpAny _ _ (call (.builtin "BaseException.__getattribute__") [.ref x, .str "__class__" t]) _ _ _
  refine wpAny_call (codeAny_call_builtin PySem.F.excAttr_ValueError.ga.plain PySem.F.entry_bexc_ga ?_)
  refine @check_slot (model prog w) _ _ ⟨hp, g, d, t + 1, os⟩ "BaseException.__getattribute__" "BaseException" "__getattribute__" (.ref x) [.str "__class__" t] [] _ (by decide +kernel) (by decide +kernel) sub (PySem.F.args_bexc_ga (.ref x) (.str "__class__" t)) ?_
  unfold Builtin.«object.__getattribute__»
  refine wpAny_bind (wpAny_of_eq (a := ((Value.ref x : Value), [Value.str "__class__" t])) (by first | rfl | (simp only [slotArgs]; rfl)) ?_)
  refine wpAny_bind (wpAny_pure (wpAny_bind (L0.at (wpAny_bind (L3.at ?_)))))
  show wpAny _ _ (holding [Value.builtin "object.__class__"] (call (.builtin "getset_descriptor.__get__") [.builtin "object.__class__", .ref x, .ref D]) >>= ret) _ _ _
  refine wpAny_bind (wpAny_holding (wpAny_call (class_get (s := ⟨hp, g, d, t + 1, os⟩) (ox := ox) (od := some od) X I T.hm ?_)))
  refine wpAny_pure ?_
  show wpAny _ _ (handedOut (.ref D)) _ _ _
  rw [handedOut_of (v := .ref D) rfl]
  first
    | exact wpAny_pure (wpAny_pure h)
    | exact wpAny_pure h
    | exact wpAny_pure (wpAny_bind (wpAny_pure (wpAny_pure h)))
theorem kitx_excD (T : L2.ExcC K D) : KitX K (.ref x) (.ref D) (fun h => ∃ od, InstAt h x ox D (some od)) where
  ty := fun _ _ _ ⟨_, I⟩ => I.type
  it := fun _ _ X _ => by
    obtain ⟨cdD, hcD, _⟩ := any_some T.hd
    unfold clsIn at hcD
    split at hcD
    · rename_i c' d' cd' sl' ho
      intro A' Q' E' s' k q
      unfold isType loadHead
      exact wpAny_bind (wpAny_loadPart (k _ _ (X _ _ ho)) (wpAny_pure q))
    · cases hcD
  ne := fun h tp dd its n sl X htp => by
    obtain ⟨cdD, hcD, _⟩ := any_some T.hd
    refine Bool.eq_false_iff.mpr fun q => ?_
    have e : D = tp := Value.ref.inj (beq_iff_eq.mp q)
    subst e
    unfold clsIn at hcD
    split at hcD
    · rename_i c' d' cd' sl' ho
      have z := (X _ _ ho).symm.trans htp
      cases z
    · cases hcD
  ca := fun X ⟨_, I⟩ k => class_excD T X I k
end
end Kg

set_option maxHeartbeats 4000000
namespace Kg
open PySem PySem.Spec PyProof.Rows L2
/-- at a the context has an exception of the class at D, its dict at d -/
def ExAt (X : Cx) (D a d : Addr) : Prop := ∃ oe : Obj, (a, oe) ∈ X.pn ∧ oe.cls = .ref D ∧ oe.dict = some d ∧ ∃ vs, oe.data = .fields vs
section
variable {X : Cx} {D a d : Addr} {pins : List (Addr × Obj)} {σ : L2.St} {H : Hp} {s : Shared} {fs : List (Str × V)}
theorem ExAt.inst (x : ExAt X D a d) (I : Inv X pins σ H s) (hd : H d = some (.xd fs)) : ∃ (oe od : Obj) (mA : Str → Option Value), PySem.W.InstAt s.heap a oe D (some od) ∧ (∀ f, PySem.W.lookIn f od = some (mA f)) ∧ ∀ f, RelO (fs.lookup f) (mA f) := by
  obtain ⟨oe, hp, h1, h2, vs, hv⟩ := x
  obtain ⟨hget, _⟩ := I.pin (a, oe) (List.mem_append.mpr (.inl hp))
  have hx : ObjOk X.prog X.w H s.heap d (.xd fs) := I.hok d _ hd
  obtain ⟨mA, hns, hr⟩ := hx
  obtain ⟨od, ho, hl⟩ := lookIn_ns hns
  exact ⟨oe, od, mA, ⟨hget, h1, by unfold PySem.W.notCls; rw [hv] <;> rfl, by rw [h2]; exact ho⟩, hl, hr⟩
/-- isinstance(e, C) -/
def rIsX (K : PySem.W.Frag) (D a d : Addr) : List V → Hp → VK → Prop := fun xs H Q => ∃ (c : V) (cv : Value) (b : Bool) (fs : List (Str × V)), xs = [.ref a, c] ∧ (∀ u, RelV c u → u = cv) ∧ PySem.W.kitOne K (.ref D) cv = some b ∧ H d = some (.xd fs) ∧ Q (.bl b) H
theorem call_isX (x : ExAt X D a d) (T : ExcC X.K D) : CallR X (.builtin "isinstance") (rIsX X.K D a d) := by
  intro pins s σ H xs us Q I r h
  obtain ⟨c, cv, b, fs, rfl, hcv, e, hd, q⟩ := h
  obtain ⟨u1, u2, rfl, r1, r2⟩ := vals2 r
  cases r1
  have ec := hcv _ r2
  subst ec
  obtain ⟨oe, od, mA, J, _⟩ := x.inst I hd
  exact PySem.W.kia_one (kitx_excD T) I.kIn ⟨od, J⟩ e (fun z => nomatch z) fun tk => ⟨.bl b, H, I.kept (t' := tk) fun _ _ z => z, rfl, q⟩
/-- isinstance(e, (C, ..)), the tuple made here -/
def rIsXT (K : PySem.W.Frag) (D a d : Addr) : List V → Hp → VK → Prop := fun xs H Q => ∃ (tp : Addr) (cs : List V) (ws : List Value) (b : Bool) (fs : List (Str × V)), xs = [.ref a, .ref tp] ∧ H tp = some (.tup cs) ∧ Paired ClsV cs ws ∧ PySem.W.kitAny K (.ref D) ws = some b ∧ H d = some (.xd fs) ∧ Q (.bl b) H
theorem call_isXT (x : ExAt X D a d) (T : ExcC X.K D) : CallR X (.builtin "isinstance") (rIsXT X.K D a d) := by
  intro pins s σ H xs us Q I r h
  obtain ⟨tp, cs, ws, b, fs, rfl, hT, k, e, hd, q⟩ := h
  obtain ⟨u1, u2, rfl, r1, r2⟩ := vals2 r
  cases r1
  cases r2
  obtain ⟨oe, od, mA, J, _⟩ := x.inst I hd
  obtain ⟨_, its, rv, o, h1, h2, n, h3⟩ := (show ObjOk X.prog X.w H s.heap tp (.tup cs) from I.hok tp _ hT)
  have e3 := ClsV.all k rv
  subst e3
  obtain ⟨oc, od', dt, sl⟩ := o
  simp only at h2 h3
  subst h2 h3
  exact PySem.W.kia_tup (kitx_excD T) I.kIn ⟨od, J⟩ h1 e (fun z => nomatch z) fun tk => ⟨.bl b, H, I.tok tk, rfl, q⟩
/-- e.f -/
def tXf (a d : Addr) (f : Str) (te : TE) : TE := fun σ H Q => te σ H fun x H1 => ∃ fs v, x = .ref a ∧ H1 d = some (.xd fs) ∧ fs.lookup f = some v ∧ Q v H1
theorem pe_xf {e : Expr} {te : TE} {pos : Pos} {n : Str} (x : ExAt X D a d) (T : XfC X.K D) (hno : PySem.W.findIn X.K (.ref D) n = some none) (he : PE X e te) (hb : attributeBase e n X.env (eval e X.env) = eval e X.env := by rfl) :
    PE X (.Attribute e n pos) (tXf a d n te) := by
  refine ⟨fun pins s σ H Q I h => attr_of hb (thn (he.run pins s σ H _ I h) fun u s1 ⟨y, H1, I1, rx, fs, v, ey, hd, l, q⟩ => ?_)⟩
  subst ey
  cases rx
  obtain ⟨oe, od, mA, J, hl, hr⟩ := x.inst I1 hd
  obtain ⟨u, hu, ru⟩ := RelO.some_of (v := v) (o := mA n) (by rw [← l]; exact hr n)
  exact HandSPX.exc_get I1.kIn J T.ga T.gg T.exC (PySem.W.findObj_own T.hdC hno rfl (by rw [hl, hu])) (handed_of ru) ⟨v, H1, I1.tok _, ru, q⟩
end
/-! defs whose one argument is the handled exception -/
structure FnE (P : Program) (w : World) (K : PySem.W.Frag) (mg : Str → Option Value) (base : Heap) (CX : CXT) (k : Nat) (f : Addr) (fd : FuncData) (p : Str) (D : Addr) (sp : Addr → Hp → VK → Prop) : Prop where
  run : ∀ (A : Around) (outer : List Env) (s : Shared) (H : Hp) (args : Args) (Q : VK) (E : XK) (q : Addr × Obj) (d : Addr), L2H.RoomH k A → L2H.Hot1 A q → q.2.cls = .ref D → q.2.dict = some d → L2H.PinOk outer H s q → Env0 P w K mg base A outer s H → BindsTo s fd args ([p].zip [.ref q.1]) → sp d H Q →
    codeAny (model P w) A (.call (.ref f) args) (CR CX outer P w H s Q E) s
section
variable {P : Program} {w : World} {K : PySem.W.Frag} {mg : Str → Option Value} {base : Heap}
theorem okE {CX : CXT} {x qual : Str} {st : Stmt} {f : Addr} {fd : FuncData} {N : List Str} {p : Str} {k : Nat} {D : Addr} {sp : Addr → Hp → VK → Prop} (F : L2.Fun K x qual st f fd) (S : FnScope N [p] (defScope st))
    (hbody : ∀ (cdv : Value) (A : Around) (outer : List Env) (s : Shared) (H : Hp) (Q : VK) (E : XK) (q : Addr × Obj) (d : Addr), L2H.Hot1 A q → ExAt (L2H.cxH CX P w K mg base N qual (defScope st) f cdv A outer s H E q) D q.1 d → L2H.RoomH k (A.deeper (envOfC qual (defScope st) s.heap.objs.size f cdv)) → sp d H Q →
      ∃ t, PSs (L2H.cxH CX P w K mg base N qual (defScope st) f cdv A outer s H E q) (defBody st) t ∧ t { nx := fun _ H' => Q .non H', rt := Q } (L2.start N [.ref q.1]) H) : FnE P w K mg base CX (k + 1) f fd p D sp := by
  obtain ⟨oc, od, kV, doc, pm, an, cdv, ct, osl, rfl, lk, hcd⟩ := F.ex
  refine ⟨fun A outer s H args Q E q d hr hot hcls hdict hpin e0 hb hsp => ?_⟩
  have KX : K.In s.heap := e0.mod.kin.keeps fun b o e => (e0.bs b o e).1
  have lim : s.heap.NoLimit := e0.mod.nolimit.keeps fun b o e => (e0.bs b o e).1
  have hkind : ∀ y ∈ [p].zip [Value.ref q.1], (defScope st).names.lookup y.1 = some .local ∨ ((defScope st).names.lookup y.1 = some .cell ∧ ((cellsFrom (s.heap.objs.size + 1) (defScope st).names []).lookup y.1).isSome = true) := fun ⟨n, v⟩ hy =>
    (S.par n (List.of_mem_zip hy).1).imp id fun z => ⟨z, PySem.W.cellsFrom_some _ _ _ (.inl z)⟩
  refine codeAny_call_function hr.depth (KX _ _ lk) rfl S.co S.gen rfl (PySem.W.codeRec_of KX hcd) (hb _ _ _ _ (wpAny_newFunctionEnv_cells S.kind hkind fun env he s1 x => ?_))
  subst he
  refine ⟨lim.keeps x.toInCall.keep, codeAny_func ?_⟩
  obtain ⟨t, ht, hq⟩ := hbody cdv A outer s H Q E q d hot ⟨q.2, List.mem_singleton.mpr rfl, hcls, hdict, by obtain ⟨_, vs, e, _⟩ := hot; exact ⟨vs, e⟩⟩ (hr.deeper _) hsp
  have I : Inv (L2H.cxH CX P w K mg base N qual (defScope st) f cdv A outer s H E q) [] (L2.start N [.ref q.1]) H s1 := L2H.inv_startH (vs := [.ref q.1]) S hpin e0 rfl (.cons rfl .nil) x
  refine wpAny_mono (ht.run [] s1 (L2.start N [.ref q.1]) H _ I hq) (fun fl s' hs => ?_) fun e s' hs => hs
  cases fl with
  | ret u =>
    obtain ⟨v, σ', H', J, rv, q⟩ := hs
    exact ⟨v, H', J.os, J.bare, J.base, J.hok, rv, q⟩
  | next =>
    obtain ⟨σ', H', J, q⟩ := hs
    exact ⟨V.non, H', J.os, J.bare, J.base, J.hok, rfl, q⟩
  | brk =>
    obtain ⟨_, _, _, q⟩ := hs
    exact False.elim q
  | cont =>
    obtain ⟨_, _, _, q⟩ := hs
    exact False.elim q
end
section
variable {X : Cx} {k : Nat} {f : Addr} {fd : FuncData} {D a d : Addr} {sp : Addr → Hp → VK → Prop} {x p : Str} {q pos : Pos} {e : Expr} {te : TE}
/-- f(e) -/
def tCallE (a d : Addr) (sp : Addr → Hp → VK → Prop) (te : TE) : TE := fun σ H Q => te σ H fun y H1 => y = .ref a ∧ sp d H1 Q
theorem pe_callE (F : FnE X.prog X.w X.K X.mg X.base L2.CX0 k f fd p D sp) (hr : L2H.RoomH k X.A) {oe : Obj} (hot : L2H.Hot1 X.A (a, oe)) (hp : (a, oe) ∈ X.pn) (hcls : oe.cls = .ref D) (hdict : oe.dict = some d) (hg : Gl X x) (hm : X.mg x = some (.ref f)) (hk : PySem.W.keepIn X.K (.ref f) = true) (hb : Binds X.K fd [p] [])
    (ha : PE X e te) (hdb : (x == ("__debug__" : Str)) = false := by decide) (he : starEach [e] X.env = (false, eval e X.env) :: starEach [] X.env := by rfl) (hpl : (backTo pos (starEach [] X.env)).any (·.1) = false := by rfl) :
    PE X (.Call (.Name x q) [e] [] pos) (tCallE a d sp te) := by
  refine ⟨fun pins s σ H Q I h => ?_⟩
  refine wpAny_Call_Name_kw (ld_glob I hg hm ?_ hdb)
  refine PySem.W.callWith_K (h₀ := X.base) I.ok.mod.kin hk (thn ((pa_cons ha pa_nil he).run pos pins s σ H (fun vs H1 => vs = [.ref a] ∧ sp d H1 Q) I (by
    show te σ H fun y H1 => [y] = [V.ref a] ∧ sp d H1 Q
    have h' : te σ H fun y H1 => y = .ref a ∧ sp d H1 Q := h
    have e0 : (fun (y : V) (H1 : Hp) => y = .ref a ∧ sp d H1 Q) = fun y H1 => [y] = [V.ref a] ∧ sp d H1 Q := by
      funext y H1
      simp
    rw [e0] at h'
    exact h')) fun us s1 ⟨vs, H1, I1, r, ev, q⟩ => ⟨I1.kIn, ?_⟩) he hpl
  subst ev
  have eu : us = [Value.ref a] := Vals.ref1 r
  subst eu
  have b := hb s1 [.ref a] I1.kIn rfl
  have P1 := I1.pin (a, oe) (List.mem_append_left _ hp)
  have hpin : L2H.PinOk X.stack H1 s1 (a, oe) := ⟨P1.1, P1.2.1, fun hm => (List.mem_cons.mp (I1.stkSub a hm)).elim P1.2.2.1 P1.2.2.2.1, P1.2.2.2.2⟩
  refine wpAny_call (codeAny_mono (F.run X.A X.stack s1 H1 ⟨[.ref a], []⟩ Q (fun _ _ _ => False) (a, oe) d hr hot hcls hdict hpin I1.env0 b q) fun r s' hq => ?_)
  cases r with
  | error e => exact False.elim hq
  | ok fl =>
    cases fl with
    | ret u => exact I1.after hq
    | next => exact False.elim hq
    | brk => exact False.elim hq
    | cont => exact False.elim hq
end
end Kg

set_option maxHeartbeats 4000000
/-! repr of a list of data (texts, numbers, tuples, an empty dict among it); count of True in a list of bools -/
namespace Kg
open PySem PySem.Spec PyProof.Rows L2 Evl
/-- the data behind a value, an empty dict too -/
inductive Rd1 (K : PySem.W.Frag) (H : Hp) : V → PyData → Prop
  | dp {v : V} {d : PyData} (h : Dp K H v d) : Rd1 K H v d
  | dict {a : Addr} (h : H a = some (.dK [])) : Rd1 K H (.ref a) (.dict [])
mutual
theorem no_dict {K : PySem.W.Frag} {H : Hp} : ∀ (d : PyData) (v : V), Dp K H v d → d.hasDict = false
  | .none, _, _ => rfl
  | .bool _, _, _ => rfl
  | .int _, _, _ => rfl
  | .str _, _, _ => rfl
  | .list ds, _, h => by
    cases h with
    | lst _ ha => exact no_dicts ds _ ha
  | .tuple ds, _, h => by
    cases h with
    | tup _ ha => exact no_dicts ds _ ha
  | .dict _, _, h => by cases h
theorem no_dicts {K : PySem.W.Frag} {H : Hp} : ∀ (ds : List PyData) (vs : List V), DpAll K H vs ds → PyData.hasDictAll ds = false
  | [], _, _ => rfl
  | d :: ds, _, h => by
    cases h with
    | cons h1 h2 =>
      show (d.hasDict || PyData.hasDictAll ds) = false
      rw [no_dict d _ h1, no_dicts ds _ h2]
      rfl
end
section
variable {prog : Program} {w : World} {A : Around} {E : Value → Shared → Prop} {s : Shared} {Q : Value → Shared → Prop}
theorem repr_list {a : Addr} {vs : List Value} {n : Nat} {xs : List PyData} {as : List Addr} (h1 : s.heap.get? a = some { cls := .type "list", data := .seq vs.toArray n }) (h4 : ReadsAll s.heap vs xs as) (hs : PyData.showableAll xs = true) (hsm : PyData.hasDictAll xs = true → sysModules ∉ as)
    (hg : A.guards = some []) (hu : A.units + ((PyData.list xs).depth + 1) < cLine) (hz : (PyData.list xs).shown.length ≤ sizeLine)
    (hQ : ∀ h' u tk, (∀ b o, s.heap.get? b = some o → h'.get? b = some o) → Q (.str (PyData.list xs).shown u) { s with heap := h', toks := tk }) : wpAny (model prog w) A (call (.builtin "repr") [.ref a]) Q E s := by
  have hz' : (listText (PyData.shownAll xs)).length ≤ sizeLine := by simpa only [PyData.shown] using hz
  have h4t : ReadsAll s.heap vs.toArray.toList xs as := h4
  obtain ⟨bs, hb, hk⟩ := ReprAllK.of_readsAll (prog := prog) (w := w) h4t hs hsm (fun t ht => Nat.le_trans (listText_mem_le ht) hz')
  have hna : a ∉ bs := not_mem_of_deeper (.list h1 rfl rfl h4t) (by simp only [PyData.depth]; omega) hb
  have hT : s.TypeIs (.ref a) "list" := ⟨_, h1, rfl⟩
  simp only [PyData.depth] at hu
  simp only [PyData.shown] at hQ
  refine call_repr_slot (by omega) hT F.slot_list_repr.toG ?_
  cases vs with
  | nil =>
    cases h4
    simp only [PyData.shownAll, listText_nil] at hQ
    exact call_list_repr_empty hT h1 rfl ⟨_, _, rfl, hQ s.heap _ _ fun _ _ e => e⟩
  | cons x l =>
    exact call_list_reprK h1 rfl rfl hna (by simpa using hk.length_eq) (fun i y e => hk.item i y (by simpa using e)) hg (fun b _ => Clear.nil b) (by show A.units + 1 + _ < cLine; omega) (fun _ _ e => e) (fun h' u tk k => ⟨_, _, rfl, hQ h' u tk k⟩) hz'
end
section
variable {X : Cx} {pins : List (Addr × Obj)} {σ : L2.St} {H : Hp} {s : Shared}
theorem Rd1.reads (I : Inv X pins σ H s) {d : PyData} {v : V} {u : Value} (h : Rd1 X.K H v d) (r : RelV v u) : ∃ as, Reads s.heap u d as ∧ (d.hasDict = true → sysModules ∉ as) := by
  cases h with
  | dp h =>
    obtain ⟨as, q⟩ := Dp.reads I d v u h r
    exact ⟨as, q, fun z => by rw [no_dict d v h] at z; cases z⟩
  | dict h =>
    cases r
    obtain ⟨_, hs, vs, kv, o, es, ep, ho, hx, hd, hk, hp, _⟩ := (show ObjOk X.prog X.w H s.heap _ (.dK []) from I.hok _ _ h)
    have e0 : vs = [] := by cases kv; rfl
    subst e0
    have e1 : es.toList = [] := by
      generalize es.toList = l at hp
      cases hp
      rfl
    refine ⟨_, Reads.dict (kvs := []) ho hx.1 hd (by rw [e1]; exact .nil) (by rw [e1]; exact .nil), fun _ hm => ?_⟩
    rw [List.append_nil, List.mem_singleton] at hm
    rw [← hm] at hs
    exact absurd hs (by simp)
/-- repr([x, v]) -/
def rReprL (K : PySem.W.Frag) : List V → Hp → VK → Prop := fun xs H Q => ∃ (p : Addr) (t : Str) (v : V) (d : PyData), xs = [.ref p] ∧ H p = some (.lst [.str t, v]) ∧ Rd1 K H v d ∧ d.showable = true ∧ d.depth ≤ 40 ∧ (PyData.list [.str t, d]).shown.length ≤ sizeLine ∧ Q (.str (PyData.list [.str t, d]).shown) H
theorem call_reprL (hg : X.A.guards = some []) (hu : X.A.units + 64 < cLine) : CallR X (.builtin "repr") (rReprL X.K) := by
  intro pins s σ H xs us Q I r h
  obtain ⟨p, t, v, d, rfl, hp, hd, hs, hdep, hz, q⟩ := h
  have eu : us = [Value.ref p] := Vals.ref1 r
  subst eu
  obtain ⟨_, its, n, rv, ho⟩ := (show ObjOk X.prog X.w H s.heap p (.lst [.str t, v]) from I.hok p _ hp)
  obtain ⟨u1, u2, rfl, r1, r2⟩ := vals2 rv
  obtain ⟨tk, rfl⟩ := r1
  obtain ⟨as, q1, q2⟩ := hd.reads I r2
  refine repr_list ho (.cons (.str t tk) (.cons q1 .nil)) ?_ ?_ hg ?_ hz fun h' u tk k => ⟨.str _, H, I.kept (t' := tk) k, ⟨_, rfl⟩, q⟩
  · show (true && (d.showable && true)) = true
    rw [hs]
    rfl
  · intro hx hm
    have hx' : d.hasDict = true := by
      have : (false || (d.hasDict || false)) = true := hx
      simpa using this
    exact q2 hx' (by simpa using hm)
  · have e : (PyData.list [.str t, d]).depth ≤ d.depth + 3 := by
      simp only [PyData.depth, PyData.depthAll]
      omega
    omega
/-- bs.count(True) -/
def rCountB (K : PySem.W.Frag) : V → List V → Hp → VK → Prop := fun x xs H Q => ∃ (a : Addr) (bs : List Bool), x = .ref a ∧ xs = [.bl true] ∧ SqL K H a (bs.map V.bl) ∧ Q (.int (countIn (.bool true) (bs.map PyData.bool))) H
theorem dp_bools {K : PySem.W.Frag} {H : Hp} : ∀ bs : List Bool, DpAll K H (bs.map V.bl) (bs.map PyData.bool)
  | [] => .nil
  | b :: bs => .cons (.bl b) (dp_bools bs)
theorem mt_countB : MtR X "list.count" (rCountB X.K) := by
  intro pins s σ H x xs v us Q I rx rxs h
  obtain ⟨a, bs, rfl, rfl, hs, q⟩ := h
  cases rx
  have eu : us = [Value.bool true] := by
    cases rxs with
    | cons r1 r2 =>
      cases r1
      cases r2
      rfl
  subst eu
  obtain ⟨its, rv, hl, _⟩ := I.list hs
  obtain ⟨as, q1⟩ := Dp.readsAll I _ _ its (dp_bools bs) rv
  refine count_list_bools hl.isList q1 ?_ ⟨.int _, H, I.tok _, ⟨_, rfl⟩, q⟩
  rw [List.all_map, List.all_eq_true]
  intro b _
  rfl
end
end Kg

set_option maxHeartbeats 4000000
/-! a lambda handed to a def, what it raises having no context -/
namespace Kg
open PySem PySem.Spec PyProof.Rows L2 LamX
abbrev lamCxN (X : Cx) (A : Around) (outer : List Env) (s : Shared) (H : Hp) (E : XK) (scope : Scope) (f c' : Addr) : Cx :=
  { lamCx X A outer s H E scope f c' with
    xe := fun e s' => wpAny (model X.prog X.w) (A.deeper (lamEnv X scope s.heap.objs.size f c')) (leaving (lamEnv X scope s.heap.objs.size f c') e) (fun _ s'' => L2N.CX X.prog X.w outer H s E e s'') (fun e' s'' => L2N.CX X.prog X.w outer H s E e' s'') s' }
section
variable {X : Cx} {pins : List (Addr × Obj)} {σ : L2.St} {H HZ : Hp} {s s1 : Shared}
theorem pe_actN {CXg : CXT} {Eg : XK} {Ng : List Str} {qg : Str} {sg : Scope} {g f c' : Addr} {cdg pm ctv : Value} {params : Arguments} {body : Expr} {scope : Scope} {k i : Nat} {a : Str} {pn : List (Addr × Obj)} {xe : Value → Shared → Prop} {W : WX} {tb : XK → TE} {p1 p2 : Pos}
    (I : Inv X pins σ H s) (L : LamS X.env.scope scope) (hf : s.heap.get? f = some (PySem.W.kla_obj "<lambda>" (X.env.qual ++ "<lambda>") params body scope (cloFrom X.env.cells scope.names []) pm c' ctv)) (hfn : H f = none) (hfr : f ∉ frs X.stack)
    (hbind : bindArgs (PySem.W.kla_fn "<lambda>" (X.env.qual ++ "<lambda>") params body scope (cloFrom X.env.cells scope.names []) pm (.ref c') ctv) ⟨[], []⟩ = pure [])
    (tk : L2N.Takes ((cxOf CXg X.prog X.w X.K X.mg X.base Ng qg sg g cdg X.A X.stack s H Eg).tr pn xe) W) (hr : Room (k + 1) (X.A.deeper (envOfC qg sg s.heap.objs.size g cdg)))
    (hbody : ∀ (A : Around) (outer : List Env) (s : Shared) (H : Hp) (E : XK), Room k (A.deeper (lamEnv X scope s.heap.objs.size f c')) → PE (lamCxN X A outer s H E scope f c') body (tb E))
    (hN : Ng[i]? = some a) (hv : Vis sg a) (hd : (a == ("__debug__" : Str)) = false := by decide) (hcd : (a == ("__classdict__" : Str)) = false := by decide) :
    PE ((cxOf CXg X.prog X.w X.K X.mg X.base Ng qg sg g cdg X.A X.stack s H Eg).tr pn xe) (.Call (.Name a p1) [] [] p2)
      (fun σZ HZ Q => σZ[i]? = some (some (.ref f)) ∧ HZ c' = some (CodeO c' (X.env.qual ++ "<lambda>")) ∧ ∃ E : XK, (∀ cls d H', E cls d H' → W cls d σZ H') ∧ tb E σ HZ Q) := by
  refine ⟨fun pinsZ sZ σZ HZ Q IZ h => ?_⟩
  obtain ⟨hs, hc, E, hW, ht⟩ := h
  refine wpAny_Call_Name_kw (thn ((pe_var (pos := p1) (i := i) hN hv hd hcd).run pinsZ sZ σZ HZ (fun v H1 => v = .ref f ∧ H1 = HZ) IZ ⟨.ref f, hs, rfl, rfl⟩) fun u s1 ⟨v, H1, I1, r1, ev, eH⟩ => ?_)
  subst ev
  rw [eH] at I1
  obtain rfl : u = Value.ref f := r1
  have of1 : s1.heap.get? f = some (PySem.W.kla_obj "<lambda>" (X.env.qual ++ "<lambda>") params body scope (cloFrom X.env.cells scope.names []) pm c' ctv) := I1.base.keep f _ hf hfn hfr (fun z => nomatch (show f ∈ ([] : List Addr) from z))
  refine PySem.W.callWith_F0 ⟨_, _, _, _, of1⟩ ?_
  have un : Un (frs X.stack) [] H HZ s.heap s1.heap := I1.base
  obtain ⟨⟨oc, vs, t, hoc, hdc, hvc⟩, _, _⟩ := I1.hok c' _ hc
  have rc : codeAny (model X.prog X.w) (X.A.deeper (envOfC qg sg s.heap.objs.size g cdg)) (.call (.ref f) ⟨[], []⟩) (CR (L2N.CX X.prog X.w) (envOfC qg sg s.heap.objs.size g cdg :: X.stack) X.prog X.w HZ s1 Q E) s1 := by
    refine PySem.W.kla_callFunE hr.depth of1 rfl L.co L.gen rfl ⟨c', oc, vs, t, rfl, hoc, hdc, hvc⟩ ?_
    rw [hbind]
    refine wpAny_pure (wpAny_newFunctionEnv (fun y hy => (L.own y hy).2) (fun y hy => absurd hy (by simp)) (fun h₁ hns hsb => ⟨I1.nolimit.fresh _ hsb, ?_⟩) L.kind)
    show codeAny _ _ (.expr body (lamEnv X scope s1.heap.objs.size f c')) _ _
    have kp : ∀ b o, s1.heap.get? b = some o → h₁.get? b = some o := fun b o e => hsb.extBut b o (Nat.ne_of_lt (Heap.lt_size e)) (Heap.get?_push_of_some _ e)
    have J0 : Inv (lamCx X (X.A.deeper (envOfC qg sg s.heap.objs.size g cdg)) (envOfC qg sg s.heap.objs.size g cdg :: X.stack) s1 HZ E scope f c') [] σ HZ { s1 with heap := h₁, toks := s1.toks + ([] : List (Str × Value)).length } :=
      lam_start2 I L I1.env0 hr.hd un hns kp
    have J : Inv (lamCxN X (X.A.deeper (envOfC qg sg s.heap.objs.size g cdg)) (envOfC qg sg s.heap.objs.size g cdg :: X.stack) s1 HZ E scope f c') [] σ HZ { s1 with heap := h₁, toks := s1.toks + ([] : List (Str × Value)).length } :=
      ⟨⟨J0.ok.mod, J0.ok.kind, J0.ok.glob, J0.ok.blt, J0.ok.above, J0.ok.inj, J0.ok.has, J0.ok.cab, J0.ok.hd, J0.ok.frames, J0.ok.stk, J0.ok.exf, J0.ok.bs, J0.ok.bsz, J0.ok.noex, J0.ok.exfs, J0.ok.funs, J0.ok.frf⟩, J0.os, J0.bare, J0.base, J0.loc, J0.cell, J0.free, J0.freeC, J0.pin, J0.hok, J0.len⟩
    refine PySem.W.kla_codeExpr (wpAny_mono ((hbody _ _ s1 HZ E (hr.deeper _)).run [] _ _ HZ Q J ht) (fun v s' hq => ?_) fun e s' hq => hq)
    obtain ⟨w', H', J', rv, q⟩ := hq
    exact ⟨w', H', J'.os, J'.bare, J'.base, J'.hok, rv, q⟩
  have hx : ∀ e s', L2N.CX X.prog X.w ((cxOf CXg X.prog X.w X.K X.mg X.base Ng qg sg g cdg X.A X.stack s H Eg).tr pn xe).stack HZ s1 E e s' → ((cxOf CXg X.prog X.w X.K X.mg X.base Ng qg sg g cdg X.A X.stack s H Eg).tr pn xe).xe e s' := fun e s' c => tk e s' (L2N.XE.of_call I1 hW c)
  refine wpAny_call (codeAny_mono rc fun r s' hq => ?_)
  cases r with
  | error e => exact hx e s' hq
  | ok fl =>
    cases fl with
    | ret u => exact I1.after hq
    | next => exact False.elim hq
    | brk => exact False.elim hq
    | cont => exact False.elim hq
end
/-- the def that calls what it got -/
def GivesN (X : Cx) (Ng : List Str) (x : Str) (sg : Scope) (g : Addr) (cdg : Value) (bg : List Stmt) (a : Str) (q : Str) (k : Nat) (TT : (XK → Hp → VK → Prop) → Hp → VK → Prop) : Prop :=
  ∀ (f c' : Addr) (s : Shared) (H : Hp) (Q : VK) (tl : XK → Hp → VK → Prop), Room k (X.A.deeper (envOfC x sg s.heap.objs.size g cdg)) →
    (∀ (W : WX) (pn : List (Addr × Obj)) (xe : Value → Shared → Prop) (p1 p2 : Pos), L2N.Takes ((cxOf L2.CX0 X.prog X.w X.K X.mg X.base Ng x sg g cdg X.A X.stack s H C8.E0).tr pn xe) W →
      PE ((cxOf L2.CX0 X.prog X.w X.K X.mg X.base Ng x sg g cdg X.A X.stack s H C8.E0).tr pn xe) (.Call (.Name a p1) [] [] p2) (fun σZ HZ Q => σZ[0]? = some (some (.ref f)) ∧ HZ c' = some (CodeO c' q) ∧ ∃ E : XK, (∀ cls d H', E cls d H' → W cls d σZ H') ∧ tl E HZ Q)) →
    H c' = some (CodeO c' q) → TT tl H Q →
    ∃ t, PSs (cxOf L2.CX0 X.prog X.w X.K X.mg X.base Ng x sg g cdg X.A X.stack s H C8.E0).nox bg t ∧ t { nx := fun _ H' => Q .non H', rt := Q } (L2.start Ng [.ref f]) H
section
variable {X : Cx}
/-- x(lambda: body) -/
theorem pe_lamcallN {T : List (Addr × Str)} {TT : (XK → Hp → VK → Prop) → Hp → VK → Prop} {x a : Str} {g c P : Addr} {k : Nat} {pg : Arguments} {bg : List Stmt} {sg : Scope} {dV kV doc pm cdv ct oc : Value} {an od : Option Addr} {osl : Array (Option Value)} {Ng : List Str}
    {params : Arguments} {body : Expr} {scope : Scope} {t : XK → TE} {p lpos pos : Pos} (hg : Gl X x) (hm : X.mg x = some (.ref g)) (hk : PySem.W.keepIn X.K (.ref g) = true)
    (lk : X.K.lookup g = some ⟨oc, od, .func (PySem.W.fnOf x x pg bg sg dV kV doc pm an cdv ct), osl⟩) (hcg : PySem.W.codeIn X.K cdv x = true) (hb : L2.Binds X.K (PySem.W.fnOf x x pg bg sg dV kV doc pm an cdv ct) [a] []) (Sg : FnScope Ng [a] sg) (hNg : Ng[0]? = some a) (hva : Vis sg a)
    (hG : GivesN X Ng x sg g cdv bg a (X.env.qual ++ "<lambda>") (k + 1) TT)
    (TB : TabB X.base X.mg c P) (hcode : X.env.code = .ref c) (hmT : (P, X.env.qual ++ "<lambda>") ∈ T) (hu : ∀ p ∈ T, p.1 = P → p.2 = X.env.qual ++ "<lambda>") (hr : Room (k + 2) X.A) (L : LamS X.env.scope scope) (hdef : defaultsOf params X.env = ([], []))
    (hbind : ∀ (q : Str) (cl : List (Str × Addr)) (pm cv ctv : Value), bindArgs (PySem.W.kla_fn "<lambda>" q params body scope cl pm cv ctv) ⟨[], []⟩ = pure [])
    (hbody : ∀ (A : Around) (outer : List Env) (s : Shared) (H : Hp) (E : XK) (f c' : Addr), Room k (A.deeper (lamEnv X scope s.heap.objs.size f c')) → PE (lamCxN X A outer s H E scope f c') body (t E))
    (hdb : (x == ("__debug__" : Str)) = false := by decide) (hd : (a == ("__debug__" : Str)) = false := by decide) (hcd : (a == ("__classdict__" : Str)) = false := by decide) :
    PE X (.Call (.Name x p) [.Lambda params body scope lpos] [] pos) (tLam T TT t) := by
  refine ⟨fun pins s σ H Q I h => ?_⟩
  obtain ⟨hT, h⟩ := h
  refine wpAny_Call_Name_kw (ld_glob I hg hm ?_ hdb)
  refine PySem.W.callWith_K (h₀ := X.base) I.ok.mod.kin hk ?_ (by rfl) (by rfl)
  show wpAny _ _ (spliced ((false, eval (.Lambda params body scope lpos) X.env) :: backTo pos (starEach [] X.env))) _ _ s
  refine Calls.spliced_cons (lam_make2 I TB hcode hmT hu hT hdef (L.has I.ok) fun f c' pm' ctv H1 s' I1 eN T1 hf hfn hfr hco => ?_)
  refine Calls.spliced_nil ⟨I1.kIn, ?_⟩
  have rc : codeAny (model X.prog X.w) X.A (.call (.ref g) ⟨[.ref f], []⟩) (CR L2.CX0 X.stack X.prog X.w H1 s' Q C8.E0) s' := by
    refine run_ofS (N := Ng) (ps := [a]) (us := [.ref f]) (vs := [.ref f]) lk hcg Sg hr I1.env0 (hb s' [.ref f] I1.kIn rfl) (.cons rfl .nil) rfl fun hr' => ?_
    obtain ⟨t', ht', hq'⟩ := hG f c' s' H1 Q (fun E H' Q' => t E σ H' Q') hr' (fun W pn xe p1 p2 tk => pe_actN (i := 0) I1 L hf hfn hfr (hbind _ _ _ _ _) tk hr' (fun A outer s H E hr2 => hbody A outer s H E f c' hr2) hNg hva hd hcd) hco (h H1 eN T1)
    exact ⟨t', ht'.nox, hq'⟩
  refine wpAny_call (codeAny_mono rc fun r s2 hq => ?_)
  cases r with
  | error e => exact (show False from hq).elim
  | ok fl =>
    cases fl with
    | ret u => exact I1.after hq
    | next => exact False.elim hq
    | brk => exact False.elim hq
    | cont => exact False.elim hq
end
end Kg

set_option maxHeartbeats 4000000
/-! the class Frame: made, read off, written as a text, compared -/
namespace Kg
open PySem PySem.Spec PyProof.Rows L2 Evl
/-- a statement that is never come to -/
theorem ps_dead {X : Cx} {st : Stmt} : PS X st (fun _ _ _ => False) := ⟨fun _ _ _ _ _ _ h => h.elim⟩
/-- at p a frame of the degree g, its knots at a -/
def FrA (C : Addr) (H : Hp) (p a : Addr) (g : Nat) (ks : List Int) : Prop := ∃ dx t : Addr, H p = some (.ins C dx [("parts", .ref t)]) ∧ H t = some (.tup [.int (g : Int), .ref a]) ∧ H a = some (.tup (ks.map V.int))
theorem FrA.ex {C p a : Addr} {g : Nat} {ks : List Int} {H H' : Hp} (h : FrA C H p a g ks) (e : Ex H H') : FrA C H' p a g ks := by
  obtain ⟨dx, t, h1, h2, h3⟩ := h
  exact ⟨dx, t, e _ _ h1, e _ _ h2, e _ _ h3⟩
/-- a new object of which P -/
def EvN (te : TE) (σ : L2.St) (H : Hp) (P : Addr → Hp → Prop) : Prop := ∀ H1, Ex H H1 → ∀ Q : VK, (∀ p H2, H1 p = none → Ex H1 H2 → P p H2 → Q (.ref p) H2) → te σ H1 Q
def RetN (P : Addr → Hp → Prop) (H : Hp) (Q : VK) : Prop := ∀ p H2, H p = none → Ex H H2 → P p H2 → Q (.ref p) H2
section
variable {P : Program} {w : World} {K : PySem.W.Frag} {mg : Str → Option Value} {base : Heap} {f C : Addr} {fd : FuncData} {σ : L2.St} {H : Hp}
/-! __init__ -/
def spInit (C : Addr) : Sp := fun vs H Q _ => ∃ (x dx a : Addr) (g : Nat) (ks : List Int), vs = [.ref x, .int (g : Int), .ref a] ∧ H x = some (.ins C dx []) ∧ H a = some (.tup (ks.map V.int)) ∧ Good g ks ∧
  ∀ t H', (∀ b o, b ≠ x → H b = some o → H' b = some o) → H' x = some (.ins C dx [("parts", .ref t)]) → H' t = some (.tup [.int (g : Int), .ref a]) → Q .non H'
theorem ok_init (N : Nms mg) (F : L2.Fun K "__init__" "Frame.__init__" sInit f fd) (cl : Cls K C) (na : NoAttr K C "parts") (cB : CalK P w K mg base 2 "is_between" spBetween) (cF : CalK P w K mg base 3 "knots_fault" spFault) : FnOk P w K mg base L2.CX0 4 f fd ["self", "degree", "knots"] (spInit C) := by
  refine F.ok scInit (fun vs H Q E h => ?_) (fun cdv A outer s H vs Q E hr h => ?_)
  · obtain ⟨x, dx, a, g, ks, rfl, _⟩ := h
    rfl
  · obtain ⟨x, dx, a, g, ks, rfl, hx, ha, hG, q⟩ := h
    refine ⟨_, pss_cons (ps_if (pt_not (pt_val (C8.pe_c cB hr (by decide) (by rfl) (pa_cons (pv 1) (pa_cons pe_int (pa_cons (C8.pe_gc (by rfl) (gint N.mostDegree)) pa_nil)))))) (pss_one ps_dead) pss_nil)
      (pss_cons (ps_if (pt_cmpR op_ne (C8.pe_c cF hr (by decide) (by rfl) (pa_cons (pv 1) (pa_cons (pv 2) pa_nil))) (pe_un un_neg pe_int) (nomark _)) (pss_one ps_dead) pss_nil)
      (pss_one (ps_fld (pv 0) (pe_tup (pa_cons (pv 1) (pa_cons (pv 2) pa_nil))) rfl))), ?_⟩
    refine q_when (b := !(decide ((0 : Int) ≤ (g : Int)) && decide ((g : Int) ≤ 4))) (et_not (et_B (ev_call (ea_cons (ev_var rfl) (ea_cons ev_c (ea_cons ev_c ea_nil))) sv_between))) (fun hb => ?_) fun _ H1 e1 => ?_
    · have := hG.1
      rw [Bool.not_eq_true', Bool.and_eq_false_iff, decide_eq_false_iff_not, decide_eq_false_iff_not] at hb
      omega
    have ha1 := e1 a _ ha
    refine q_when (b := !decide (faultV g ks = V.int (-1))) (et_test (ev_op (ev_call (ea_cons (ev_var rfl) (ea_cons (ev_var rfl) ea_nil)) (sv_fault ha1)) (ev_un ev_c ru_neg) (rv_ne (by rw [fault_good hG]; rfl)))) (fun hb => ?_) fun _ H2 e2 => ?_
    · rw [fault_good hG] at hb
      simp at hb
    have e12 := e1.trans e2
    refine eu_tup (ea_cons (ev_var rfl) (ea_cons (ev_var rfl) ea_nil)) (by simp) H2 (Ex.refl H2) _ fun t H3 ht e3 h3 => ?_
    have e13 := e12.trans e3
    refine ev_var (i := 0) rfl H3 (Ex.refl H3) _ fun H4 e4 => ?_
    have e14 := e13.trans e4
    have hx4 := e14 x _ hx
    have tx : t ≠ x := fun z => by
      have h5 := e12 x _ hx
      rw [← z, ht] at h5
      cases h5
    refine ⟨x, C, dx, [], rfl, hx4, cl, na, by decide, q t _ (fun b o hb ho => ?_) upd_same ?_⟩
    · rw [upd_ne hb]
      exact e14 b o ho
    · rw [upd_ne tx]
      exact e4 t _ h3
/-- C(g, ks) of sound arguments -/
theorem en_make {E : XK} {t : TA} {g : Nat} {a : Addr} {ks : List Int} (h : EvA t σ H [.int (g : Int), .ref a]) (ha : H a = some (.tup (ks.map V.int))) (hG : Good g ks) : EvN (tMake C (spInit C) [] E t) σ H (fun p H2 => FrA C H2 p a g ks) := fun H1 e1 Q q =>
  h H1 e1 _ fun H2 e2 => fun x dx hx hdx hne => by
    have ha2 := (e1.trans e2) a _ ha
    have hax : a ≠ x := fun z => by rw [z, hx] at ha2; cases ha2
    have had : a ≠ dx := fun z => by rw [z, hdx] at ha2; cases ha2
    refine ⟨x, dx, a, g, ks, rfl, upd_same, by rw [upd_ne hax, upd_ne had]; exact ha2, hG, fun t H' k hx' ht => ⟨rfl, ?_⟩⟩
    have e3 : Ex H2 H' := fun b o ho => by
      have hb : b ≠ x := fun z => by rw [z, hx] at ho; cases ho
      have hd : b ≠ dx := fun z => by rw [z, hdx] at ho; cases ho
      exact k b o hb (by rw [upd_ne hb, upd_ne hd]; exact ho)
    exact q x H' (fresh_back e2 hx) (e2.trans e3) ⟨dx, t, hx', ht, e3 a _ ha2⟩
/-! properties -/
def spDegree (C : Addr) : Sp := fun vs H Q _ => ∃ (p a : Addr) (g : Nat) (ks : List Int), vs = [.ref p] ∧ FrA C H p a g ks ∧ RetV (.int (g : Int)) H Q
theorem ok_degree (F : L2.Fun K "degree" "Frame.degree" sDegree f fd) (cl : Cls K C) (na : NoAttr K C "parts") : FnOk P w K mg base L2.CX0 1 f fd ["self"] (spDegree C) := by
  refine F.ok scDegree (fun vs H Q E h => ?_) (fun cdv A outer s H vs Q E hr h => ?_)
  · obtain ⟨p, a, g, ks, rfl, _⟩ := h
    rfl
  · obtain ⟨p, a, g, ks, rfl, ⟨dx, t, h1, h2, h3⟩, q⟩ := h
    refine ⟨_, pss_one (ps_ret (pe_ix ix_tup (pe_fld (pv 0) rfl) pe_int (fun _ _ => rfl))), ?_⟩
    refine s_ret (v := .int (g : Int)) (ev_op (x := .ref t) (fun H1 e Q' q' => ev_var (i := 0) rfl H1 (Ex.refl H1) _ fun H2 e2 => ⟨p, C, dx, _, .ref t, rfl, (e.trans e2) p _ h1, cl, na, rfl, q' H2 e2⟩) ev_c (rv_ixT (st_of h2) rfl)) fun H1 e => q H1 e
def spKnots (C : Addr) : Sp := fun vs H Q _ => ∃ (p a : Addr) (g : Nat) (ks : List Int), vs = [.ref p] ∧ FrA C H p a g ks ∧ RetV (.ref a) H Q
theorem ok_knots (F : L2.Fun K "knots" "Frame.knots" sKnots f fd) (cl : Cls K C) (na : NoAttr K C "parts") : FnOk P w K mg base L2.CX0 1 f fd ["self"] (spKnots C) := by
  refine F.ok scKnots (fun vs H Q E h => ?_) (fun cdv A outer s H vs Q E hr h => ?_)
  · obtain ⟨p, a, g, ks, rfl, _⟩ := h
    rfl
  · obtain ⟨p, a, g, ks, rfl, ⟨dx, t, h1, h2, h3⟩, q⟩ := h
    refine ⟨_, pss_one (ps_ret (pe_ix ix_tup (pe_fld (pv 0) rfl) pe_int (fun _ _ => rfl))), ?_⟩
    refine s_ret (v := .ref a) (ev_op (x := .ref t) (fun H1 e Q' q' => ev_var (i := 0) rfl H1 (Ex.refl H1) _ fun H2 e2 => ⟨p, C, dx, _, .ref t, rfl, (e.trans e2) p _ h1, cl, na, rfl, q' H2 e2⟩) ev_c (rv_ixT (st_of h2) rfl)) fun H1 e => q H1 e
/-- the property f of C, told -/
structure Prp (P : Program) (w : World) (K : PySem.W.Frag) (mg : Str → Option Value) (base : Heap) (k : Nat) (C : Addr) (f : Str) (sp : Sp) : Prop where
  cl : Cls K C
  ex : ∃ (p g : Addr) (fd : FuncData), PropOf K C f p g ∧ FnOk P w K mg base L2.CX0 k g fd ["self"] sp ∧ Binds K fd ["self"] []
theorem pe_prp {X : Cx} {k j : Nat} {e : Expr} {te : TE} {f : Str} {sp : Sp} {pos : Pos} (c : Prp X.prog X.w X.K X.mg X.base k C f sp) (hr : Room j X.A) (hk : k + 1 ≤ j) (he : PE X e te) (hab : attributeBase e f X.env (eval e X.env) = eval e X.env := by rfl) : PE X (.Attribute e f pos) (tProp C sp [] C8.E0 te) := by
  obtain ⟨p, g, fd, hp, F, hb⟩ := c.ex
  exact pe_prop he c.cl hp F (hr.mono hk) hb .nil (fun _ _ _ _ _ _ _ h => h.elim) hab
theorem ev_prp {sp : Sp} {E : XK} {ta : TE} {p dx : Addr} {fs : List (Str × V)} {z : V} (h : Ev ta σ H (.ref p)) (hp : H p = some (.ins C dx fs)) (hs : SpV sp [.ref p] H z) : Ev (tProp C sp [] E ta) σ H z := fun H1 e Q q =>
  h H1 e _ fun H2 e2 => ⟨p, dx, fs, rfl, (e.trans e2) p _ hp, hs H2 (e.trans e2) Q (fun H3 e3 => q H3 (e2.trans e3)) E⟩
theorem sv_degree {p a : Addr} {g : Nat} {ks : List Int} (h : FrA C H p a g ks) : SpV (spDegree C) [.ref p] H (.int (g : Int)) := fun H1 e Q q _ => ⟨p, a, g, ks, rfl, h.ex e, q⟩
theorem sv_knots {p a : Addr} {g : Nat} {ks : List Int} (h : FrA C H p a g ks) : SpV (spKnots C) [.ref p] H (.ref a) := fun H1 e Q q _ => ⟨p, a, g, ks, rfl, h.ex e, q⟩
theorem ev_degree {E : XK} {ta : TE} {p a : Addr} {g : Nat} {ks : List Int} (h : Ev ta σ H (.ref p)) (hf : FrA C H p a g ks) : Ev (tProp C (spDegree C) [] E ta) σ H (.int (g : Int)) := by
  obtain ⟨dx, t, h1, _⟩ := id hf
  exact ev_prp h h1 (sv_degree hf)
theorem ev_knots {E : XK} {ta : TE} {p a : Addr} {g : Nat} {ks : List Int} (h : Ev ta σ H (.ref p)) (hf : FrA C H p a g ks) : Ev (tProp C (spKnots C) [] E ta) σ H (.ref a) := by
  obtain ⟨dx, t, h1, _⟩ := id hf
  exact ev_prp h h1 (sv_knots hf)
end
end Kg

set_option maxHeartbeats 4000000
/-! plain: short texts of plain signs; the text of a frame -/
namespace Kg
open PySem PySem.Spec PyProof.Rows L2 Evl
/-- at most n signs, each below 128 -/
def okS (n : Nat) (z : Str) : Prop := z.cps.toList.length ≤ n ∧ ∀ c ∈ z.cps.toList, c < 128
theorem okS.mono {m n : Nat} {z : Str} (h : okS m z) (hmn : m ≤ n) : okS n z := ⟨Nat.le_trans h.1 hmn, h.2⟩
theorem okS.len {n : Nat} {z : Str} (h : okS n z) : z.length ≤ n := by rw [← lenL]; exact h.1
theorem okS_app {m n : Nat} {x y : Str} (h : okS m x) (k : okS n y) : okS (m + n) (x ++ y) := by
  have e := TL.tl_append x y
  unfold okS
  rw [show (x ++ y).cps.toList = x.cps.toList ++ y.cps.toList from e]
  refine ⟨?_, fun c hc => ?_⟩
  · rw [List.length_append]
    have h1 := h.1
    have h2 := k.1
    omega
  · rcases List.mem_append.mp hc with z | z
    · exact h.2 c z
    · exact k.2 c z
theorem okS_sub {n : Nat} {x y : Str} (h : okS n x) (hs : ∀ c ∈ y.cps.toList, c ∈ x.cps.toList) (hl : y.cps.toList.length ≤ x.cps.toList.length) : okS n y := ⟨Nat.le_trans hl h.1, fun c hc => h.2 c (hs c hc)⟩
theorem okS_num {i : Int} (h0 : 0 ≤ i) (h1 : i ≤ 1000000) : okS 7 (Str.ofString (toString i)) := by
  obtain ⟨n, rfl⟩ : ∃ n : Nat, i = (n : Int) := ⟨i.toNat, by omega⟩
  have e := TL.tl_num n
  unfold okS
  rw [show (Str.ofString (toString (n : Int))).cps.toList = TL.numL n from e]
  refine ⟨TL.numL_len (by decide) (by omega), fun c hc => ?_⟩
  rcases Nat.lt_or_ge c 128 with h | h
  · exact h
  · exact absurd hc (TL.numL_free (.inr (by omega)))
theorem joinL_len {b : Nat} {S : List Nat} : ∀ {ys : List (List Nat)}, (∀ y ∈ ys, y.length ≤ b) → (TL.joinL S ys).length ≤ ys.length * (b + S.length)
  | [], _ => by simp [TL.joinL]
  | [p], h => by
    have h1 := h p (List.mem_singleton.mpr rfl)
    show p.length ≤ 1 * (b + S.length)
    omega
  | p :: q :: r, h => by
    have ih := joinL_len (S := S) (ys := q :: r) fun y hy => h y (List.mem_cons_of_mem _ hy)
    have h1 := h p List.mem_cons_self
    show (p ++ (S ++ TL.joinL S (q :: r))).length ≤ _
    rw [List.length_append, List.length_append, show (p :: q :: r).length = (q :: r).length + 1 from rfl, Nat.add_mul]
    omega
theorem joinL_mem {S : List Nat} {c : Nat} : ∀ {ys : List (List Nat)}, c ∈ TL.joinL S ys → c ∈ S ∨ ∃ y ∈ ys, c ∈ y
  | [], h => by cases h
  | [p], h => .inr ⟨p, List.mem_singleton.mpr rfl, h⟩
  | p :: q :: r, h => by
    have h : c ∈ p ++ (S ++ TL.joinL S (q :: r)) := h
    rcases List.mem_append.mp h with z | z
    · exact .inr ⟨p, List.mem_cons_self, z⟩
    · rcases List.mem_append.mp z with z | z
      · exact .inl z
      · rcases joinL_mem z with z | ⟨y, hy, z⟩
        · exact .inl z
        · exact .inr ⟨y, List.mem_cons_of_mem _ hy, z⟩
theorem okS_join {b : Nat} {ys : List Str} (h : ∀ y ∈ ys, okS b y) : okS (ys.length * (b + 1)) (Txt.join " " ys) := by
  have e : (Txt.join " " ys).cps.toList = TL.joinL [32] (ys.map TL.tl) := by
    have e0 : (ys.map TL.tl).map SX.S = ys := by
      rw [List.map_map]
      conv => rhs; rw [← List.map_id ys]
      exact List.map_congr_left fun y _ => SX.S_tl y
    have h1 := SX.join_S [32] (ys.map TL.tl)
    rw [e0] at h1
    have h2 : Txt.join " " ys = SX.S (TL.joinL [32] (ys.map TL.tl)) := h1
    rw [h2]
  unfold okS
  rw [e]
  refine ⟨?_, fun c hc => ?_⟩
  · have := joinL_len (b := b) (S := [32]) (ys := ys.map TL.tl) fun y hy => by
      obtain ⟨z, hz, rfl⟩ := List.mem_map.mp hy
      exact (h z hz).1
    rw [List.length_map] at this
    exact this
  · rcases joinL_mem hc with z | ⟨y, hy, z⟩
    · rw [List.mem_singleton.mp z]
      decide
    · obtain ⟨x, hx, rfl⟩ := List.mem_map.mp hy
      exact (h x hx).2 c z
theorem okS_lit {n : Nat} (z : Str) (h : (decide (z.cps.toList.length ≤ n) && z.cps.toList.all (· < 128)) = true) : okS n z := by
  rw [Bool.and_eq_true, decide_eq_true_iff, List.all_eq_true] at h
  exact ⟨h.1, fun c hc => of_decide_eq_true (h.2 c hc)⟩
/-! a sound frame's numbers -/
theorem Good.len {g : Nat} {ks : List Int} (h : Good g ks) : ks.length ≤ g + 11 := by
  rcases Nat.lt_or_ge (g + 11) ks.length with z | z
  · have h1 := h.2.2 (g + 11) z
    unfold badAt at h1
    rw [decide_eq_true (by omega : ((g + 11 : Nat) : Int) = (g : Int) + 1 + 10)] at h1
    cases h1
  · exact z
theorem Good.at {g : Nat} {ks : List Int} (h : Good g ks) {i : Nat} (hi : i < ks.length) : 0 ≤ ks.getD i 0 ∧ ks.getD i 0 ≤ 1000000 := by
  have h1 := h.2.2 i hi
  unfold badAt at h1
  simp only [Bool.or_eq_false_iff, Bool.not_eq_false', Bool.and_eq_true, decide_eq_true_iff] at h1
  exact h1.1.2
theorem Good.mem {g : Nat} {ks : List Int} (h : Good g ks) {k : Int} (hk : k ∈ ks) : 0 ≤ k ∧ k ≤ 1000000 := by
  obtain ⟨i, hi, rfl⟩ := List.getElem_of_mem hk
  have := h.at hi
  rw [List.getD_eq_getElem?_getD, List.getElem?_eq_getElem hi] at this
  exact this
def numS (k : Int) : Str := Str.ofString (toString k)
def textOf (g : Nat) (ks : List Int) : Str := (((Str.empty ++ ("degree " : Str)) ++ numS (g : Int)) ++ (" knots " : Str)) ++ Txt.join " " (ks.map numS)
theorem okS_text {g : Nat} {ks : List Int} (h : Good g ks) : okS 141 (textOf g ks) := by
  have hg := h.1
  have hl := h.len
  have h1 : okS 0 Str.empty := okS_lit _ (by decide +kernel)
  have h2 : okS 7 ("degree " : Str) := okS_lit _ (by decide +kernel)
  have h3 : okS 7 (" knots " : Str) := okS_lit _ (by decide +kernel)
  have h4 : okS 7 (numS (g : Int)) := okS_num (by omega) (by omega)
  have h5 : okS ((ks.map numS).length * (7 + 1)) (Txt.join " " (ks.map numS)) := okS_join fun y hy => by
    obtain ⟨k, hk, rfl⟩ := List.mem_map.mp hy
    obtain ⟨a, b⟩ := h.mem hk
    exact okS_num a b
  rw [List.length_map] at h5
  exact (okS_app (okS_app (okS_app (okS_app h1 h2) h4) h3) h5).mono (by omega)
section
variable {P : Program} {w : World} {K : PySem.W.Frag} {mg : Str → Option Value} {base : Heap} {f C : Addr} {fd : FuncData} {σ : L2.St} {H : Hp}
theorem rc_strI {i : Int} (h : i.natAbs.log2 < 1920) : RC (fun xs H Q => ∃ i : Int, xs = [V.int i] ∧ i.natAbs.log2 < 1920 ∧ Q (.str (toString i)) H) [.int i] H (.str (numS i)) := fun H1 _ _ q => ⟨i, rfl, h, q H1 (Ex.refl H1)⟩
theorem log_small {i : Int} (h0 : 0 ≤ i) (h1 : i ≤ 1000000) : i.natAbs.log2 < 1920 := by
  have h2 : i.natAbs < 2 ^ 20 := by omega
  rcases Nat.eq_zero_or_pos i.natAbs with z | z
  · rw [z]; decide
  · exact Nat.lt_trans ((Nat.log2_lt (by omega)).mpr h2) (by decide)
theorem ev_m1L {r : V → List V → Hp → VK → Prop} {to te : TE} {x : Str} {z : V} {xs : List V} (ho : Ev to σ H (.str x)) (he : EvL te σ H xs) (hr : ∀ p H1, Ex H H1 → H1 p = some (.lst xs) → ∀ H2, Ex H1 H2 → ∀ Q : VK, (∀ H3, Ex H2 H3 → Q z H3) → r (.str x) [.ref p] H2 Q) : Ev (tM1 r to te) σ H z := fun H1 e Q q =>
  ho H1 e _ fun H2 e2 => ⟨⟨x, rfl⟩, he H2 (e.trans e2) _ fun p H3 hp e3 hx => hr p H3 ((e.trans e2).trans e3) hx H3 (Ex.refl H3) Q fun H4 e4 => q H4 ((e2.trans e3).trans e4)⟩
theorem sum_le {b : Nat} : ∀ {ys : List Str}, (∀ y ∈ ys, y.length ≤ b) → (ys.map (·.length)).sum ≤ ys.length * b
  | [], _ => by simp
  | y :: ys, h => by
    have ih := sum_le fun z hz => h z (List.mem_cons_of_mem _ hz)
    have h1 := h y List.mem_cons_self
    rw [List.map_cons, List.sum_cons, List.length_cons, Nat.add_mul]
    omega
def spText (C : Addr) : Sp := fun vs H Q _ => ∃ (p a : Addr) (g : Nat) (ks : List Int), vs = [.ref p] ∧ FrA C H p a g ks ∧ Good g ks ∧ RetV (.str (textOf g ks)) H Q
theorem sv_text {p a : Addr} {g : Nat} {ks : List Int} (h : FrA C H p a g ks) (hG : Good g ks) : SpV (spText C) [.ref p] H (.str (textOf g ks)) := fun H1 e Q q _ => ⟨p, a, g, ks, rfl, h.ex e, hG, q⟩
theorem ev_text {E : XK} {ta : TE} {p a : Addr} {g : Nat} {ks : List Int} (h : Ev ta σ H (.ref p)) (hf : FrA C H p a g ks) (hG : Good g ks) : Ev (tProp C (spText C) [] E ta) σ H (.str (textOf g ks)) := by
  obtain ⟨dx, t, h1, _⟩ := id hf
  exact ev_prp h h1 (sv_text hf hG)
theorem ok_text (N : Nms mg) (F : L2.Fun K "text" "Frame.text" sText f fd) (cD : Prp P w K mg base 1 C "degree" (spDegree C)) (cK : Prp P w K mg base 1 C "knots" (spKnots C)) : FnOk P w K mg base L2.CX0 3 f fd ["self"] (spText C) := by
  refine F.ok scText (fun vs H Q E h => ?_) (fun cdv A outer s H vs Q E hr h => ?_)
  · obtain ⟨p, a, g, ks, rfl, _⟩ := h
    rfl
  · obtain ⟨p, a, g, ks, rfl, hf, hG, q⟩ := h
    refine ⟨_, pss_one (ps_ret (pe_joined (.cons pe_str (.cons (pe_fmt (pe_prp cD hr (by decide) (pv 0))) (.cons pe_str (.cons (pe_fmt (pe_join pe_str (pe_lc (own := [("knot", 1)]) (g := gName 1) (tt := tYes) rfl scText.nd (pi_tup (pe_prp cK hr (by decide) (pv 0))) (blkOk_by (N := nText) (sc := defScope sText) (by decide +kernel))
      (fun _ _ _ _ _ => pg_name (i := 1) scText.nd rfl (.inl rfl)) (fun _ _ _ _ _ => pts_nil) (fun _ _ _ _ _ => pe_callTy call_str_int (by rfl) N.str boot_str (pa_cons (pv 1) pa_nil))))) .nil)))))), ?_⟩
    have hg := hG.1
    have hl := hG.len
    have hT := okS_text hG
    obtain ⟨dx, t, f1, f2, f3⟩ := id hf
    refine s_ret (v := .str (textOf g ks)) (fun H1 e1 Q' q' => ?_) fun H1 e => q H1 e
    refine ⟨_, rfl, by decide +kernel, ?_⟩
    refine ev_degree (E := C8.E0) (ev_var (i := 0) rfl) hf H1 e1 _ fun H2 e2 => .inr ⟨(g : Int), rfl, log_small (by omega) (by omega), _, rfl, ?_, ?_⟩
    · exact Nat.le_trans (okS.len (okS_app (okS_app (okS_lit (n := 0) Str.empty (by decide +kernel)) (okS_lit (n := 7) ("degree " : Str) (by decide +kernel))) (okS_num (by omega) (by omega)))) (sz_of (by decide))
    refine ⟨_, rfl, ?_, ?_⟩
    · exact Nat.le_trans (okS.len (okS_app (okS_app (okS_app (okS_lit (n := 0) Str.empty (by decide +kernel)) (okS_lit (n := 7) ("degree " : Str) (by decide +kernel))) (okS_num (i := (g : Int)) (by omega) (by omega))) (okS_lit (n := 7) (" knots " : Str) (by decide +kernel)))) (sz_of (by decide))
    have e12 := e1.trans e2
    have hlc : EvL (tLc (iTup K (tProp C (spKnots C) [] C8.E0 (tVar 0))) (gName 1) tYes (tCB (fun xs H Q => ∃ i : Int, xs = [V.int i] ∧ i.natAbs.log2 < 1920 ∧ Q (.str (toString i)) H) (tCons (tVar 1) tNil)) [1]) [some (.ref p), none] H ((ks.map numS).map V.str) := by
      have e0 : ((ks.map V.int).filter fun _ => true).map (fun v => match v with | .int i => V.str (numS i) | v => v) = (ks.map numS).map V.str := by
        rw [filter_yes, List.map_map, List.map_map]
        rfl
      rw [← e0]
      refine el_lcT (fun _ => true) _ (ev_knots (E := C8.E0) (ev_var (i := 0) rfl) hf) (st_of f3) (by rw [List.length_map]; omega) (fun _ => rfl) (fun c _ H1 _ => et_yes) fun c hc H1 e3 _ => ?_
      obtain ⟨k, hk, rfl⟩ := List.mem_map.mp hc
      obtain ⟨k0, k1⟩ := hG.mem hk
      exact ev_cb (ea_cons (ev_var rfl) ea_nil) (rc_strI (log_small k0 k1))
    have hj := ev_m1L (r := fun x xs H_1 Q => ∃ a p, ∃ ys : List Str, x = V.str a ∧ xs = [V.ref p] ∧ (SqL K H_1 p (ys.map V.str) ∨ SqT K H_1 p (ys.map V.str)) ∧ (ys.map (·.length)).sum + ys.length * a.length ≤ 16777216 ∧ Q (V.str (Txt.join a ys)) H_1)
      (z := .str (Txt.join " " (ks.map numS))) (ev_c (v := .str " ")) hlc fun pl H3 e3 hl3 H4 e4 Q2 q2 => ⟨" ", pl, ks.map numS, rfl, rfl, .inl (sq_of (e4 _ _ hl3)), by
        have hs : ((ks.map numS).map (·.length)).sum ≤ (ks.map numS).length * 7 := sum_le fun y hy => by
          obtain ⟨k, hk, rfl⟩ := List.mem_map.mp hy
          obtain ⟨a, b⟩ := hG.mem hk
          exact okS.len (okS_num a b)
        rw [List.length_map] at hs ⊢
        have h1 : ((" " : Str)).length = 1 := by decide +kernel
        rw [h1]
        omega, q2 H4 (Ex.refl H4)⟩
    have hJ : okS 120 (Txt.join " " (ks.map numS)) := by
      have h5 : okS ((ks.map numS).length * (7 + 1)) (Txt.join " " (ks.map numS)) := okS_join fun y hy => by
        obtain ⟨k, hk, rfl⟩ := List.mem_map.mp hy
        obtain ⟨a, b⟩ := hG.mem hk
        exact okS_num a b
      rw [List.length_map] at h5
      exact h5.mono (by omega)
    unfold tJs tFmt
    exact hj H2 e12 _ fun H3 e3 => .inl ⟨_, rfl, Nat.le_trans hJ.len (sz_of (by decide)), _, rfl, Nat.le_trans hT.len (sz_of (by decide)), q' H3 (e2.trans e3)⟩
end
end Kg

set_option maxHeartbeats 4000000
/-! equality of data made of ints and texts; Frame.__eq__ -/
namespace Kg
open PySem PySem.Spec PyProof.Rows L2 Evl
theorem lay_ints : ∀ l : List Int, PyData.canLayAll0 (l.map PyData.int) = true
  | [] => rfl
  | i :: l => by
    show (PyData.canLay0 (.int i) && PyData.canLayAll0 (l.map PyData.int)) = true
    rw [lay_ints l]
    rfl
theorem lay_strs : ∀ {l : List Str}, (∀ z ∈ l, PyData.strOk z = true) → PyData.canLayAll0 (l.map PyData.str) = true
  | [], _ => rfl
  | i :: l, h => by
    show (PyData.strOk i && PyData.canLayAll0 (l.map PyData.str)) = true
    rw [lay_strs fun z hz => h z (List.mem_cons_of_mem _ hz), h i List.mem_cons_self]
    rfl
theorem dep_ints : ∀ l : List Int, PyData.depthAll (l.map PyData.int) ≤ 1
  | [] => by simp [PyData.depthAll]
  | i :: l => by
    have := dep_ints l
    simp only [List.map_cons, PyData.depthAll, PyData.depth]
    omega
theorem dep_strs : ∀ l : List Str, PyData.depthAll (l.map PyData.str) ≤ 1
  | [] => by simp [PyData.depthAll]
  | i :: l => by
    have := dep_strs l
    simp only [List.map_cons, PyData.depthAll, PyData.depth]
    omega
theorem eqv_ints : ∀ a b : List Int, PyData.eqvAll (a.map PyData.int) (b.map PyData.int) = decide (a = b)
  | [], [] => by simp [PyData.eqvAll]
  | [], _ :: _ => by simp [PyData.eqvAll]
  | _ :: _, [] => by simp [PyData.eqvAll]
  | i :: a, j :: b => by
    simp only [List.map_cons, PyData.eqvAll, PyData.eqv, eqv_ints a b, List.cons.injEq]
    by_cases h : i = j <;> by_cases k : a = b <;> simp [h, k]
theorem eqv_strs : ∀ a b : List Str, PyData.eqvAll (a.map PyData.str) (b.map PyData.str) = decide (a = b)
  | [], [] => by simp [PyData.eqvAll]
  | [], _ :: _ => by simp [PyData.eqvAll]
  | _ :: _, [] => by simp [PyData.eqvAll]
  | i :: a, j :: b => by
    simp only [List.map_cons, PyData.eqvAll, PyData.eqv, eqv_strs a b, List.cons.injEq]
    by_cases h : i = j <;> by_cases k : a = b <;> simp [h, k]
theorem shp_of {d : PyData} (h : d.canLay0 = true) (k : d.depth ≤ 64) : SeqAt.shaped d = true := by
  unfold SeqAt.shaped
  rw [h, decide_eq_true k]
  rfl
theorem shp_ints (l : List Int) : SeqAt.shaped (.list (l.map PyData.int)) = true := shp_of (by simpa only [PyData.canLay0] using lay_ints l) (by
  have h2 := dep_ints l
  simp only [PyData.depth]
  omega)
theorem shp_strs {l : List Str} (h : ∀ z ∈ l, PyData.strOk z = true) : SeqAt.shaped (.list (l.map PyData.str)) = true := shp_of (by simpa only [PyData.canLay0] using lay_strs h) (by
  have h2 := dep_strs l
  simp only [PyData.depth]
  omega)
def frD (g : Nat) (ks : List Int) : List PyData := [.int (g : Int), .tuple (ks.map PyData.int)]
theorem lay_fr (g : Nat) (ks : List Int) : PyData.canLayAll0 (frD g ks) = true := by
  have h1 := lay_ints ks
  simp only [frD, PyData.canLayAll0, PyData.canLay0, h1, Bool.and_self]
theorem dep_fr (g : Nat) (ks : List Int) : PyData.depthAll (frD g ks) ≤ 3 := by
  have h2 := dep_ints ks
  simp only [frD, PyData.depth, PyData.depthAll]
  omega
theorem shp_frT (g : Nat) (ks : List Int) : SeqAt.shaped (.tuple (frD g ks)) = true := shp_of (by simpa only [PyData.canLay0] using lay_fr g ks) (by
  have h2 := dep_fr g ks
  simp only [PyData.depth]
  omega)
theorem shp_frL (g : Nat) (ks : List Int) : SeqAt.shaped (.list (frD g ks)) = true := shp_of (by simpa only [PyData.canLay0] using lay_fr g ks) (by
  have h2 := dep_fr g ks
  simp only [PyData.depth]
  omega)
section
variable {K : PySem.W.Frag} {H : Hp} {σ : L2.St}
theorem dp_ints : ∀ l : List Int, DpAll K H (l.map V.int) (l.map PyData.int)
  | [] => .nil
  | i :: l => .cons (.int i) (dp_ints l)
theorem dp_strs : ∀ l : List Str, DpAll K H (l.map V.str) (l.map PyData.str)
  | [] => .nil
  | i :: l => .cons (.str i) (dp_strs l)
theorem dp_fr {a : Addr} {g : Nat} {ks : List Int} (h : H a = some (.tup (ks.map V.int))) : DpAll K H [.int (g : Int), .ref a] (frD g ks) := .cons (.int _) (.cons (.tup (st_of h) (dp_ints ks)) .nil)
theorem rv_eqD {x y : V} {d e : PyData} (hx : ∀ H1, Ex H H1 → Dp K H1 x d) (hy : ∀ H1, Ex H H1 → Dp K H1 y e) (sd : SeqAt.shaped d = true) (se : SeqAt.shaped e = true) : RV (rEqD K) x y H (.bl (PyData.eqv d e)) := fun H1 e1 _ q => ⟨d, e, hx H1 e1, hy H1 e1, sd, se, q H1 (Ex.refl H1)⟩
theorem rv_neD {x y : V} {d e : PyData} (hx : ∀ H1, Ex H H1 → Dp K H1 x d) (hy : ∀ H1, Ex H H1 → Dp K H1 y e) (sd : SeqAt.shaped d = true) (se : SeqAt.shaped e = true) : RV (rNeD K) x y H (.bl (!PyData.eqv d e)) := fun H1 e1 _ q => ⟨d, e, hx H1 e1, hy H1 e1, sd, se, q H1 (Ex.refl H1)⟩
end
section
variable {P : Program} {w : World} {K : PySem.W.Frag} {mg : Str → Option Value} {base : Heap} {f C : Addr} {fd : FuncData}
def spEq (C : Addr) : Sp := fun vs H Q _ => ∃ (p q a b : Addr) (g : Nat) (ks : List Int), vs = [.ref p, .ref q] ∧ FrA C H p a g ks ∧ FrA C H q b g ks ∧ RetV (.bl true) H Q
theorem ok_eq (N : Nms mg) (F : L2.Fun K "__eq__" "Frame.__eq__" sEq f fd) (cl : Cls K C) (na : NoAttr K C "parts") (hm : mg "Frame" = some (.ref C)) (ic : C8.InsC K C) : FnOk P w K mg base L2.CX0 1 f fd ["self", "other"] (spEq C) := by
  refine F.ok scEq (fun vs H Q E h => ?_) (fun cdv A outer s H vs Q E hr h => ?_)
  · obtain ⟨p, q, a, b, g, ks, rfl, _⟩ := h
    rfl
  · obtain ⟨p, q, a, b, g, ks, rfl, ⟨dx, t, h1, h2, h3⟩, ⟨dy, u, k1, k2, k3⟩, rt⟩ := h
    refine ⟨_, pss_one (ps_ret (pe_and (pe_callB (C8.call_isC ic) (by rfl) N.isinstance boot_isinstance (pa_cons (pv 1) (pa_cons (C8.pe_gc (v := .ref C) (by rfl) ⟨_, hm, rfl⟩) pa_nil))) (pe_one (pe_cmpR (op_eqD hr.units) (pe_fld (pv 0) rfl) (pe_fld (pv 1) rfl) (nomark _))))), ?_⟩
    refine s_ret (v := .bl (true && true)) (ev_andV (ev_cb (ea_cons (ev_var rfl) (ea_cons ev_c ea_nil)) (fun H1 e Q' q' => ⟨q, dy, _, rfl, e q _ k1, q' H1 (Ex.refl H1)⟩)) fun _ => ?_) fun H1 e => rt H1 e
    have e0 : PyData.eqv (.tuple (frD g ks)) (.tuple (frD g ks)) = true := SeqAt.eqv_refl _ (by have := lay_fr g ks; simp only [PyData.canLay0, this])
    rw [← e0]
    refine ev_op (x := .ref t) (y := .ref u) (fun H1 e Q' q' => ev_var (i := 0) rfl H1 (Ex.refl H1) _ fun H2 e2 => ⟨p, C, dx, _, .ref t, rfl, (e.trans e2) p _ h1, cl, na, rfl, q' H2 e2⟩)
      (fun H1 e Q' q' => ev_var (i := 1) rfl H1 (Ex.refl H1) _ fun H2 e2 => ⟨q, C, dy, _, .ref u, rfl, (e.trans e2) q _ k1, cl, na, rfl, q' H2 e2⟩) (rv_eqD (fun H1 e => .tup (st_of (e t _ h2)) (dp_fr (e a _ h3))) (fun H1 e => .tup (st_of (e u _ k2)) (dp_fr (e b _ k3))) (shp_frT g ks) (shp_frT g ks))
end
end Kg

set_option maxHeartbeats 4000000
/-! Frame.read; what a line says -/
namespace Kg
open PySem PySem.Spec PyProof.Rows L2 Evl
/-! plain -/
def wordsOf (z : Str) : List Str := Txt.split z " "
def nums (ws : List Str) : List (Option Int) := (ws.getD 1 "" :: ws.drop 3).map (numOf 1000000)
def pickW : List Int → Option (Nat × List Int)
  | [] => none
  | g :: ks => if g ≤ 4 ∧ faultV g.toNat ks = .int (-1) then some (g.toNat, ks) else none
theorem pickW_cons (g : Int) (ks : List Int) : pickW (g :: ks) = if g ≤ 4 ∧ faultV g.toNat ks = .int (-1) then some (g.toNat, ks) else none := rfl
def parseW (ws : List Str) : Option (Nat × List Int) :=
  if ws.length < 4 then none else if [ws.getD 0 "", ws.getD 2 ""] = (["degree", "knots"] : List Str) then (if (nums ws).any Option.isNone = true then none else pickW ((nums ws).map (·.getD 0))) else none
def parse (z : Str) : Option (Nat × List Int) := parseW (wordsOf z)
theorem numOf_nn {m : Int} {w : Str} {i : Int} (h : numOf m w = some i) : 0 ≤ i := by
  unfold numOf at h
  split at h
  · split at h
    · cases h
    · split at h
      · injection h with h
        rw [← h]
        unfold wVal
        omega
      · cases h
  · cases h
theorem inV_none : ∀ l : List (Option Int), inV .non (l.map vOpt) = l.any Option.isNone
  | [] => rfl
  | none :: l => rfl
  | some i :: l => by
    have ih := inV_none l
    unfold inV at ih ⊢
    rw [List.map_cons, List.any_cons, List.any_cons, ih]
    rfl
theorem flat_opt : ∀ l : List (Option Int), (l.map vOpt).all flatV = true
  | [] => rfl
  | none :: l => by rw [List.map_cons, List.all_cons, flat_opt l]; rfl
  | some i :: l => by rw [List.map_cons, List.all_cons, flat_opt l]; rfl
theorem opt_ints : ∀ {l : List (Option Int)}, l.any Option.isNone = false → l.map vOpt = (l.map (·.getD 0)).map V.int
  | [], _ => rfl
  | none :: l, h => by simp at h
  | some i :: l, h => by
    have h' : l.any Option.isNone = false := by simpa using h
    rw [List.map_cons, List.map_cons, List.map_cons, opt_ints h']
    rfl
theorem parse_good {ws : List Str} {g : Nat} {ks : List Int} (h : parseW ws = some (g, ks)) : Good g ks := by
  unfold parseW at h
  split at h
  · cases h
  split at h
  · split at h
    · cases h
    · rename_i h0
      cases hn : (nums ws).map (·.getD 0) with
      | nil => rw [hn] at h; cases h
      | cons g' ks' =>
        rw [hn] at h
        have h : (if g' ≤ 4 ∧ faultV g'.toNat ks' = .int (-1) then some (g'.toNat, ks') else none) = some (g, ks) := h
        split at h
        · rename_i hc
          injection h with h
          injection h with h1 h2
          subst h1 h2
          refine fault_bad ?_ hc.2
          have := hc.1
          omega
        · cases h
  · cases h
theorem spl_len (S : List Nat) : ∀ (l : List Nat) (k : Nat) (acc : List Nat), (TL.spl S k acc l).length ≤ l.length + 1 ∧ ∀ p ∈ TL.spl S k acc l, p.length ≤ acc.length + l.length ∧ ∀ c ∈ p, c ∈ acc ∨ c ∈ l
  | [], k, acc => by
    rw [TL.spl_nil]
    refine ⟨Nat.le_refl _, fun p hp => ?_⟩
    rw [List.mem_singleton.mp hp]
    exact ⟨Nat.le_refl _, fun c hc => .inl hc⟩
  | c :: r, 0, acc => by
    cases h : TL.pre S (c :: r) with
    | true =>
      rw [TL.spl_hit h]
      obtain ⟨h1, h2⟩ := spl_len S r (S.length - 1) []
      refine ⟨by rw [List.length_cons, List.length_cons]; omega, fun p hp => ?_⟩
      rcases List.mem_cons.mp hp with z | z
      · rw [z]
        exact ⟨by omega, fun c hc => .inl hc⟩
      · obtain ⟨h3, h4⟩ := h2 p z
        refine ⟨by rw [List.length_cons]; simp at h3; omega, fun x hx => ?_⟩
        rcases h4 x hx with y | y
        · cases y
        · exact .inr (List.mem_cons_of_mem _ y)
    | false =>
      rw [TL.spl_miss h]
      obtain ⟨h1, h2⟩ := spl_len S r 0 (acc ++ [c])
      refine ⟨by rw [List.length_cons]; omega, fun p hp => ?_⟩
      obtain ⟨h3, h4⟩ := h2 p hp
      refine ⟨by rw [List.length_cons]; rw [List.length_append] at h3; simp at h3; omega, fun x hx => ?_⟩
      rcases h4 x hx with y | y
      · rcases List.mem_append.mp y with y | y
        · exact .inl y
        · rw [List.mem_singleton.mp y]
          exact .inr List.mem_cons_self
      · exact .inr (List.mem_cons_of_mem _ y)
  | c :: r, k + 1, acc => by
    show (TL.spl S k acc r).length ≤ _ ∧ _
    obtain ⟨h1, h2⟩ := spl_len S r k acc
    refine ⟨by rw [List.length_cons]; omega, fun p hp => ?_⟩
    obtain ⟨h3, h4⟩ := h2 p hp
    exact ⟨by rw [List.length_cons]; omega, fun x hx => (h4 x hx).imp id (List.mem_cons_of_mem _)⟩
theorem words_eq (z : Str) : wordsOf z = (TL.spl [32] 0 [] z.cps.toList).map SX.S := by
  have h := SX.split_S (a := z.cps.toList) (b := [32]) (by simp) (by decide)
  rw [SX.S_tl] at h
  exact h
theorem words_ok {n : Nat} {z : Str} (h : okS n z) : (wordsOf z).length ≤ n + 1 ∧ ∀ y ∈ wordsOf z, okS n y := by
  rw [words_eq]
  obtain ⟨h1, h2⟩ := spl_len [32] z.cps.toList 0 []
  have h3 := h.1
  refine ⟨by rw [List.length_map]; omega, fun y hy => ?_⟩
  obtain ⟨p, hp, rfl⟩ := List.mem_map.mp hy
  obtain ⟨h4, h5⟩ := h2 p hp
  refine ⟨by show p.length ≤ n; rw [List.length_nil, Nat.zero_add] at h4; omega, fun c hc => ?_⟩
  rcases h5 c hc with y | y
  · cases y
  · exact h.2 c y
theorem okS.strOk {n : Nat} {z : Str} (h : okS n z) : PyData.strOk z = true := by
  unfold PyData.strOk
  rw [← Array.all_toList, List.all_eq_true]
  intro c hc
  have := h.2 c hc
  exact decide_eq_true (by omega)
/-! readings -/
section
variable {K : PySem.W.Frag} {σ : L2.St} {H : Hp} {ta tb te : TE} {t : TA} {tt : TT} {xs ys : List V} {x z : V} {E : XK} {sp : Sp} {C : Addr}
theorem el_if {b : Bool} (h : EvT tt σ H b) (h1 : b = true → EvL ta σ H xs) (h2 : b = false → EvL tb σ H xs) : EvL (tIf tt ta tb) σ H xs := fun H1 e Q q => h H1 e _ fun H2 e2 => by
  cases b with
  | true => exact h1 rfl H2 (e.trans e2) Q fun p H3 hp e3 hx => q p H3 (fresh_back e2 hp) (e2.trans e3) hx
  | false => exact h2 rfl H2 (e.trans e2) Q fun p H3 hp e3 hx => q p H3 (fresh_back e2 hp) (e2.trans e3) hx
theorem el_split {y : Str} (h : Ev te σ H (.str y)) (hy : y.length ≤ 40000) : EvL (tM1 (fun x xs H Q => ∃ a b, x = V.str a ∧ xs = [V.str b] ∧ (b.length == 0) = false ∧ a.length + 2 ≤ sizeLine ∧ rNewStrs (Txt.split a b) H Q) te (tC (.str " "))) σ H ((wordsOf y).map V.str) := fun H1 e Q q =>
  h H1 e _ fun H2 e2 => ⟨⟨y, rfl⟩, y, " ", rfl, rfl, by decide +kernel, sz_of (by omega), fun p hp => q p _ (fresh_back e2 hp) (e2.trans (Ex.new hp)) upd_same⟩
theorem ea_starL (h : EvL te σ H xs) (hr : EvA t σ H ys) : EvA (StX.tStar K te t) σ H (xs ++ ys) := fun H1 e Q q =>
  h H1 e _ fun p H2 hp e2 hx => ⟨p, xs, rfl, .inr (sq_of hx), hr H2 (e.trans e2) _ fun H3 e3 => q H3 (e2.trans e3)⟩
theorem eu_tupleOf (h : EvL te σ H xs) : EvU (tCB (fun xs H Q => ∃ p ys, xs = [V.ref p] ∧ ((SqL K H p ys ∧ ∀ l, H l = none → Q (.ref l) (upd H l (.tup ys))) ∨ (SqT K H p ys ∧ Q (.ref p) H))) (tCons te tNil)) σ H xs := fun H1 e Q q =>
  h H1 e _ fun p H2 hp e2 hx => ⟨p, xs, rfl, .inl ⟨sq_of hx, fun l hl => q l _ (fresh_back e2 hl) (e2.trans (Ex.new hl)) upd_same⟩⟩
theorem ev_call2U (ha : Ev ta σ H x) (hb : EvU tb σ H xs) (hs : ∀ p H1, Ex H H1 → H1 p = some (.tup xs) → SpV sp [x, .ref p] H1 z) : Ev (tCall sp [] E (tCons ta (tCons tb tNil))) σ H z := fun H1 e Q q =>
  ha H1 e _ fun H2 e2 => hb H2 (e.trans e2) _ fun p H3 hp e3 hx => hs p H3 ((e.trans e2).trans e3) hx H3 (Ex.refl H3) Q (fun H4 e4 => q H4 ((e2.trans e3).trans e4)) E
theorem en_make2U {g : Nat} {ks : List Int} (ha : Ev ta σ H (.int (g : Int))) (hb : EvU tb σ H (ks.map V.int)) (hG : Good g ks) : EvN (tMake C (spInit C) [] E (tCons ta (tCons tb tNil))) σ H (fun p H2 => ∃ a, FrA C H2 p a g ks) := fun H1 e Q q =>
  ha H1 e _ fun H2 e2 => hb H2 (e.trans e2) _ fun a H3 hp e3 hx => fun x dx hx0 hdx hne => by
    have hax : a ≠ x := fun z => by rw [z, hx0] at hx; cases hx
    have had : a ≠ dx := fun z => by rw [z, hdx] at hx; cases hx
    refine ⟨x, dx, a, g, ks, rfl, upd_same, by rw [upd_ne hax, upd_ne had]; exact hx, hG, fun t H' k hx' ht => ⟨rfl, ?_⟩⟩
    have e4 : Ex H3 H' := fun b o ho => by
      have hb : b ≠ x := fun z => by rw [z, hx0] at ho; cases ho
      have hd : b ≠ dx := fun z => by rw [z, hdx] at ho; cases ho
      exact k b o hb (by rw [upd_ne hb, upd_ne hd]; exact ho)
    have e5 := (e2.trans e3).trans e4
    exact q x H' (fresh_back (e2.trans e3) hx0) e5 ⟨a, dx, t, hx', ht, e4 a _ hx⟩
end
end Kg

set_option maxHeartbeats 4000000
namespace Kg
open PySem PySem.Spec PyProof.Rows L2 Evl
section
variable {P : Program} {w : World} {K : PySem.W.Frag} {mg : Str → Option Value} {base : Heap} {f C : Addr} {fd : FuncData} {H : Hp}
/-! InvalidText.__init__ -/
def spXI (K : PySem.W.Frag) : Sp := fun vs H Q _ => ∃ (a C : Addr) (v : V), vs = [.ref a, v] ∧ OexC K C ∧ PySem.W.findIn K (.ref C) "given" = some none ∧ H a = some (exo a C none) ∧ ∀ dx, H dx = none → dx ≠ a → Q .non (upd (upd H dx (exd dx [("given", v)])) a (exo a C (some dx)))
theorem ok_xi (F : L2.Fun K "__init__" "InvalidText.__init__" sExc f fd) : FnOk P w K mg base L2.CX0 1 f fd ["self", "given"] (spXI K) := by
  refine F.ok scExc (fun vs H Q E h => ?_) (fun cdv A outer s H vs Q E hr h => ?_)
  · obtain ⟨a, C, v, rfl, _⟩ := h
    rfl
  · obtain ⟨a, C, v, rfl, T, hno, ha, q⟩ := h
    refine ⟨_, pss_one (ps_ost (pv 0) (pv 1)), ?_⟩
    exact ⟨v, rfl, .ref a, rfl, a, C, rfl, T, hno, .inl ⟨ha, fun dx hdx hne => q dx hdx hne⟩⟩
/-- as Fun.ok, for a def whose exceptions have no context -/
theorem okN {x qual : Str} {st : Stmt} {N ps : List Str} {k : Nat} {sp : Sp} (F : L2.Fun K x qual st f fd) (S : FnScope N ps (defScope st)) (len : ∀ vs H Q E, sp vs H Q E → vs.length = ps.length)
    (hbody : ∀ (cdv : Value) (A : Around) (outer : List Env) (s : Shared) (H : Hp) (vs : List V) (Q : VK) (E : XK), Room k (A.deeper (envOfC qual (defScope st) s.heap.objs.size f cdv)) → sp vs H Q E →
      ∃ t, PSs (cxOf (L2N.CX P w) P w K mg base N qual (defScope st) f cdv A outer s H E) (defBody st) t ∧ t { nx := fun _ H' => Q .non H', rt := Q } (start N vs) H) : FnOk P w K mg base (L2N.CX P w) (k + 1) f fd ps sp := by
  obtain ⟨oc, od, kV, doc, pm, an, cdv, ct, osl, rfl, lk, hcd⟩ := F.ex
  exact fn_of lk hcd S len fun A outer s H vs Q E hr hsp => hbody cdv A outer s H vs Q E hr hsp
/-- what a text, or what else is given, says -/
def Given (K : PySem.W.Frag) (H : Hp) (v : V) (pz : Option (Nat × List Int)) : Prop :=
  (∃ z, v = .str z ∧ okS 1000 z ∧ pz = parse z) ∨ (pz = none ∧ ∃ t, (∀ H', Ex H H' → TyX K H' v t) ∧ PySem.W.kitOne K t (.type "str") = some false)
def spRead (K : PySem.W.Frag) (C CE : Addr) : Sp := fun vs H Q E => ∃ (v : V) (pz : Option (Nat × List Int)), vs = [.ref C, v] ∧ Given K H v pz ∧ (∀ g ks, pz = some (g, ks) → RetN (fun p H2 => ∃ a, FrA C H2 p a g ks) H Q) ∧
  (pz = none → ∀ d H2, H d = none → Ex H H2 → H2 d = some (.xd [("given", v)]) → E (.ref CE) (some d) H2)
/-- InvalidText(v), raised -/
theorem mko_text {CE : Addr} {ta : TA} {σ : L2.St} {v : V} {Q : XK} (T : OexC K CE) (hno : PySem.W.findIn K (.ref CE) "given" = some none) (h : EvA ta σ H [v]) (q : ∀ d H2, H d = none → Ex H H2 → H2 d = some (.xd [("given", v)]) → Q (.ref CE) (some d) H2) : tMkO CE (spXI K) [] ta σ H Q :=
  h H (Ex.refl H) _ fun H1 e1 => ⟨by show (1 : Nat) ≤ 1000; decide, fun a ha => ⟨a, CE, v, rfl, T, hno, upd_same, fun dx hdx hne => ⟨rfl, dx, [("given", v)], upd_same, by rw [upd_ne hne]; exact upd_same, by rw [upd_ne hne] at hdx; exact hdx, by
    have hd1 : H1 dx = none := by rw [upd_ne hne] at hdx; exact hdx
    refine q dx _ (fresh_back e1 hd1) (fun b o hb => ?_) upd_same
    have h1 := e1 b o hb
    have nb : b ≠ dx := ne_of_none h1 hd1
    have na : b ≠ a := ne_of_none h1 ha
    rw [upd_ne nb, del_ne na, upd_ne na, upd_ne nb, upd_ne na]
    exact h1⟩⟩⟩
structure HeadL (K : PySem.W.Frag) (mg : Str → Option Value) : Prop where
  ex : ∃ a, mg "HEAD" = some (.ref a) ∧ ∀ H, SqL K H a ((["degree", "knots"] : List Str).map V.str)
theorem ok_read (N : Nms mg) (hH : HeadL K mg) {CE fI fX : Addr} {fdI fdX : FuncData} (F : L2.Fun K "read" "Frame.read" sRead f fd) (M : Mk K C fI) (FI : FnOk P w K mg base L2.CX0 4 fI fdI ["self", "degree", "knots"] (spInit C)) (bI : Binds K fdI ["self", "degree", "knots"] [])
    (T : OexC K CE) (hno : PySem.W.findIn K (.ref CE) "given" = some none) (iC : PySem.W.findIn K (.ref CE) "__init__" = some (some (.ref fX))) (tI : PySem.W.typeIn K (.ref fX) = some (.type "function")) (FX : FnOk P w K mg base L2.CX0 1 fX fdX ["self", "given"] (spXI K)) (bX : Binds K fdX ["self", "given"] []) (mE : mg "InvalidText" = some (.ref CE))
    (cN : CalK P w K mg base 1 "number_in" spNumIn) (cF : CalK P w K mg base 3 "knots_fault" spFault) : FnOk P w K mg base (L2N.CX P w) 6 f fd ["cls", "text"] (spRead K C CE) := by
  obtain ⟨hp, hm, hl⟩ := hH.ex
  refine okN F scRead (fun vs H Q E h => ?_) (fun cdv A outer s H vs Q E hr h => ?_)
  · obtain ⟨v, pz, rfl, _⟩ := h
    rfl
  · obtain ⟨v, pz, rfl, hg, hyes, hnone⟩ := h
    have tk := L2N.takes_of (X := cxOf (L2N.CX P w) P w K mg base nRead "Frame.read" (defScope sRead) f cdv A outer s H E) rfl rfl rfl rfl
    refine ⟨_, pss_cons (ps_asg (pe_ifExp (pt_val (pe_callB call_isi (by rfl) N.isinstance boot_isinstance (pa_cons (pv 1) (pa_cons (pe_bltn (v := .ty "str") (by rfl) N.str boot_str rfl) pa_nil)))) (pe_split (pv 1) pe_str) (pe_lst pa_nil)) (pg_name (i := 2) scRead.nd rfl (.inl rfl)))
      (pss_cons (ps_if (PW.pt (pw_or (pt_cmpR op_lt (pe_callB call_len_seq (by rfl) N.len boot_len (pa_cons (pv 2) pa_nil)) pe_int (nomark _)) (pw_or1 (pt_cmpR (op_neD hr.units) (pe_lst (pa_cons (pe_ix ix_list (pv 2) pe_int (fun _ _ => rfl)) (pa_cons (pe_ix ix_list (pv 2) pe_int (fun _ _ => rfl)) pa_nil))) (C8.pe_gc (v := .ref hp) (by rfl) ⟨_, hm, rfl⟩) (nomark _))))) (pss_one (L2N.ps_raise rfl tk (pmk_oexN T iC tI FX (hr.mono (by decide)) bX (fun _ _ _ _ _ _ _ h => h.elim) (by rfl) mE (pa_cons (pv 1) pa_nil)))) pss_nil)
      (pss_cons (ps_setLc (i := 3) (own := [("word", 4)]) (g := gName 4) (tt := tYes) rfl scRead.nd rfl rfl (sw_true rfl rfl rfl rfl) (pi_list (pe_lst (pa_cons (pe_ix ix_list (pv 2) pe_int (fun _ _ => rfl)) (StX.pa_star (pe_slice sl_list (pv 2) (po_some pe_int) po_none) pa_nil)))) (blkOk_by (N := nRead) (sc := defScope sRead) (by decide +kernel))
        (fun _ _ _ _ _ => pg_name (i := 4) scRead.nd rfl (.inl rfl)) (fun _ _ _ _ _ => pts_nil) (fun _ _ _ _ _ => C8.pe_c cN hr (by decide) (by rfl) (pa_cons (pv 4) (pa_cons (C8.pe_gc (by rfl) (gint N.mostKnot)) pa_nil))))
      (pss_cons (ps_if (PW.pt (pw_or (pt_cmpR op_in_seq pe_non (pv 3) rfl) (pw_or (pt_cmpR op_gt (pe_ix ix_list (pv 3) pe_int (fun _ _ => rfl)) (C8.pe_gc (by rfl) (gint N.mostDegree)) (nomark _))
          (pw_or1 (pt_cmpR op_ne (C8.pe_c cF hr (by decide) (by rfl) (pa_cons (pe_ix ix_list (pv 3) pe_int (fun _ _ => rfl)) (pa_cons (pe_callTy call_tuple_of (by rfl) N.tuple boot_tuple (pa_cons (pe_slice sl_list (pv 3) (po_some pe_int) po_none) pa_nil)) pa_nil))) (pe_un un_neg pe_int) (nomark _)))))) (pss_one (L2N.ps_raise rfl tk (pmk_oexN T iC tI FX (hr.mono (by decide)) bX (fun _ _ _ _ _ _ _ h => h.elim) (by rfl) mE (pa_cons (pv 1) pa_nil)))) pss_nil)
      (pss_one (ps_ret (pe_clsL (i := 0) (E := C8.E0) M FI (hr.mono (by decide)) rfl (.inl rfl) bI (fun _ _ _ _ _ _ _ h => h.elim) (pa_cons (pe_ix ix_list (pv 3) pe_int (fun _ _ => rfl)) (pa_cons (pe_callTy call_tuple_of (by rfl) N.tuple boot_tuple (pa_cons (pe_slice sl_list (pv 3) (po_some pe_int) po_none) pa_nil)) pa_nil)))))))), ?_⟩
    have hw : ∃ ws : List Str, ws.length ≤ 1001 ∧ (∀ y ∈ ws, okS 1000 y) ∧ pz = parseW ws ∧ EvL (tIf (tB (tCB (rIsi K) (tCons (tVar 1) (tCons (tC (.ty "str")) tNil)))) (tM1 (fun x xs H Q => ∃ a b, x = V.str a ∧ xs = [V.str b] ∧ (b.length == 0) = false ∧ a.length + 2 ≤ sizeLine ∧ rNewStrs (Txt.split a b) H Q) (tVar 1) (tC (.str " "))) (tLst tNil)) [some (.ref C), some v, none, none, none] H (ws.map V.str) := by
      rcases hg with ⟨z, rfl, hz, hpz⟩ | ⟨hpz, t, ht, hk⟩
      · refine ⟨wordsOf z, (words_ok hz).1, (words_ok hz).2, hpz, el_if (b := true) (et_B (ev_cb (ea_cons (ev_var rfl) (ea_cons ev_c ea_nil)) (rc_isi (.ty "str") (fun _ _ => .base (.str z)) (kit_ty (by decide +kernel))))) (fun _ => el_split (ev_var rfl) (by have := hz.len; omega)) (fun h => by cases h)⟩
      · refine ⟨[], by decide, (fun y hy => by cases hy), by rw [hpz]; rfl, el_if (b := false) (et_B (ev_cb (ea_cons (ev_var rfl) (ea_cons ev_c ea_nil)) (rc_isi (.ty "str") ht hk))) (fun h => by cases h) (fun _ => el_lst ea_nil (by decide))⟩
    obtain ⟨ws, hwl, hwo, hpz, hwe⟩ := hw
    clear hg
    refine q_asgL hwe fun pw H1 hpw e1 hx1 => ?_
    have raise : ∀ {σ : L2.St} {H2 : Hp}, pz = none → σ[1]? = some (some v) → Ex H H2 → tMkO CE (spXI K) [] (tCons (tVar 1) tNil) σ H2 (fun cls d H' => E cls d H') := fun {σ H2} hz hσ e => mko_text T hno (ea_cons (ev_var hσ) ea_nil) fun d H3 hd e3 h3 => hnone hz d H3 (fresh_back e hd) (e.trans e3) h3
    have hlen : (ws.map V.str).length = ws.length := List.length_map _
    by_cases hl4 : ws.length < 4
    · refine q_when (b := true || false) (et_or (et_is (et_test (ev_op (ev_cb (ea_cons (ev_var rfl) ea_nil) (rc_len (.inl (sq_of hx1)))) ev_c rv_I0)) (decide_eq_true (by rw [hlen]; omega))) (fun h => by cases h)) (fun _ H2 e2 => ?_) (fun h => by cases h)
      exact raise (by rw [hpz]; unfold parseW; rw [if_pos hl4]) rfl (e1.trans e2)
    have at_ : ∀ i, i < ws.length → (ws.map V.str)[i]? = some (.str (ws.getD i "")) := fun i hi => by
      rw [List.getElem?_map, List.getElem?_eq_getElem hi, List.getD_eq_getElem?_getD, List.getElem?_eq_getElem hi]
      rfl
    have mem_ : ∀ i, i < ws.length → okS 1000 (ws.getD i "") := fun i hi => by
      rw [List.getD_eq_getElem?_getD, List.getElem?_eq_getElem hi]
      exact hwo _ (List.getElem_mem hi)
    have hIx : ∀ (i : Nat) {H2 : Hp} {σ : L2.St}, i < ws.length → Ex H1 H2 → σ[2]? = some (some (.ref pw)) → Ev (tOp (rIxL K) (tVar 2) (tC (.int (i : Int)))) σ H2 (.str (ws.getD i "")) := fun i {H2 σ} hi e hσ => ev_op (ev_var hσ) ev_c (rv_ixL (sq_of (e pw _ hx1)) (atI_nat rfl (at_ i hi)))
    have hHd : SeqAt.shaped (.list ((["degree", "knots"] : List Str).map PyData.str)) = true := by decide +kernel
    refine q_when (b := false || !decide ([ws.getD 0 "", ws.getD 2 ""] = (["degree", "knots"] : List Str))) (et_or (et_is (et_test (ev_op (ev_cb (ea_cons (ev_var rfl) ea_nil) (rc_len (.inl (sq_of hx1)))) ev_c rv_I0)) (decide_eq_false (by rw [hlen]; omega))) fun _ => et_is (et_test (ev_opL1 (xs := [ws.getD 0 "", ws.getD 2 ""].map V.str) (y := .ref hp)
        (el_lst (ea_cons (hIx 0 (by omega) (Ex.refl _) rfl) (ea_cons (hIx 2 (by omega) (Ex.refl _) rfl) ea_nil)) (by simp)) (fun _ _ => ev_c)
        fun p H3 h3 e3 => rv_neD (d := .list ([ws.getD 0 "", ws.getD 2 ""].map PyData.str)) (e := .list ((["degree", "knots"] : List Str).map PyData.str)) (fun H4 e4 => .lst (sq_of (e4 p _ h3)) (dp_strs _)) (fun H4 e4 => .lst (hl H4) (dp_strs _)) (shp_strs fun z hz => by
          rcases List.mem_cons.mp hz with rfl | hz
          · exact (mem_ 0 (by omega)).strOk
          · rw [List.mem_singleton.mp hz]
            exact (mem_ 2 (by omega)).strOk) hHd)) (by show (!PyData.eqvAll _ _) = _; rw [eqv_strs])) (fun hb H2 e2 => ?_) fun hb H2 e2 => ?_
    · refine raise ?_ rfl (e1.trans e2)
      rw [Bool.false_or, Bool.not_eq_true', decide_eq_false_iff_not] at hb
      rw [hpz]
      unfold parseW
      rw [if_neg hl4, if_neg hb]
    rw [Bool.false_or, Bool.not_eq_false', decide_eq_true_iff] at hb
    have hx2 := e2 pw _ hx1
    have e12 := e1.trans e2
    have hcut : cutV (ws.map V.str) (some 3) none = (ws.drop 3).map V.str := by
      unfold cutV
      have h1 : HT.sIx (ws.map V.str).length 0 (some 3) = 3 := by
        rw [hlen]
        unfold HT.sIx
        simp
        omega
      have h2 : HT.sIx (ws.map V.str).length (ws.map V.str).length none = (ws.map V.str).length := rfl
      rw [h1, h2, List.map_drop]
      exact List.take_of_length_le (by rw [List.length_drop]; exact Nat.le_refl _)
    have hN : EvL (tLc (iList K (tLst (tCons (tOp (rIxL K) (tVar 2) (tC (.int 1))) (StX.tStar K (tSl (rSlL K) (tVar 2) (tPart (tC (.int 3))) tNoPart) tNil)))) (gName 4) tYes (tCall spNumIn [] C8.E0 (tCons (tVar 4) (tCons (tC (.int 1000000)) tNil))) [4]) [some (.ref C), some v, some (.ref pw), none, none] H2 ((nums ws).map vOpt) := by
      have e0 : (((ws.getD 1 "" :: ws.drop 3).map V.str).filter fun _ => true).map (fun v => match v with | .str w => vOpt (numOf 1000000 w) | v => v) = (nums ws).map vOpt := by
        rw [filter_yes, List.map_map]
        unfold nums
        rw [List.map_map]
        rfl
      rw [← e0]
      have hl1 : EvL (tLst (tCons (tOp (rIxL K) (tVar 2) (tC (.int 1))) (StX.tStar K (tSl (rSlL K) (tVar 2) (tPart (tC (.int 3))) tNoPart) tNil))) [some (.ref C), some v, some (.ref pw), none, none] H2 ((ws.getD 1 "" :: ws.drop 3).map V.str) := by
        have h0 := ea_starL (K := K) (t := tNil) (ys := []) (el_sl (K := K) (te := tVar 2) (tl := tPart (tC (.int 3))) (th := tNoPart) (σ := [some (.ref C), some v, some (.ref pw), none, none]) (H := H2) (ev_var rfl) (eo_some ev_c) eo_none (sq_of hx2)) ea_nil
        rw [hcut, List.append_nil] at h0
        exact el_lst (ea_cons (hIx 1 (by omega) e2 rfl) h0) (by rw [List.length_map, List.length_cons, List.length_drop]; omega)
      refine el_lcN (fun _ => true) _ hl1 (by rw [List.length_map, List.length_cons, List.length_drop]; omega) (fun _ => rfl) (fun c _ H3 _ => et_yes) fun c hc H3 e3 _ => ?_
      obtain ⟨y, hy, rfl⟩ := List.mem_map.mp hc
      have hyo : okS 1000 y := by
        rcases List.mem_cons.mp hy with rfl | hy
        · exact mem_ 1 (by omega)
        · exact hwo y (List.mem_of_mem_drop hy)
      exact ev_call (ea_cons (ev_var rfl) (ea_cons ev_c ea_nil)) (sv_numIn (by have := hyo.len; omega))
    refine q_asgL hN fun pn H3 hpn e3 hx3 => ?_
    have e13 := e12.trans e3
    have hpz2 : pz = if (nums ws).any Option.isNone = true then none else pickW ((nums ws).map (·.getD 0)) := by
      rw [hpz]
      unfold parseW
      rw [if_neg hl4, if_pos hb]
    cases hany : (nums ws).any Option.isNone with
    | true =>
      refine q_when (b := true || false) (et_or (et_is (et_test (ev_op ev_c (ev_var rfl) (rv_isL (sq_of hx3) rfl (flat_opt _)))) (by rw [inV_none, hany])) (fun h => by cases h)) (fun _ H4 e4 => ?_) (fun h => by cases h)
      exact raise (by rw [hpz2, if_pos hany]) rfl (e13.trans e4)
    | false =>
      rw [if_neg (by rw [hany]; decide)] at hpz2
      rw [opt_ints hany] at hx3
      obtain ⟨g, ks, hgk⟩ : ∃ g ks, (nums ws).map (·.getD 0) = g :: ks := ⟨_, _, rfl⟩
      have hg0 : 0 ≤ g := by
        have h1 : (numOf 1000000 (ws.getD 1 "")).getD 0 = g := by
          have := congrArg List.head? hgk
          exact Option.some.inj this
        cases hn1 : numOf 1000000 (ws.getD 1 "") with
        | none =>
          rw [hn1] at h1
          rw [← h1]
          decide
        | some i =>
          rw [hn1] at h1
          rw [← h1]
          exact numOf_nn hn1
      rw [hgk] at hx3 hpz2
      have hks : ks.length ≤ 1001 := by
        have h1 := congrArg List.length hgk
        rw [List.length_map, List.length_cons] at h1
        unfold nums at h1
        rw [List.length_map, List.length_cons, List.length_drop] at h1
        omega
      obtain ⟨gN, rfl⟩ : ∃ gN : Nat, g = (gN : Int) := ⟨g.toNat, by omega⟩
      have hcut1 : cutV (((gN : Int) :: ks).map V.int) (some 1) none = ks.map V.int := by
        unfold cutV
        have h1 : HT.sIx (((gN : Int) :: ks).map V.int).length 0 (some 1) = 1 := by
          rw [List.length_map, List.length_cons]
          unfold HT.sIx
          simp
        have h2 : HT.sIx (((gN : Int) :: ks).map V.int).length (((gN : Int) :: ks).map V.int).length none = (((gN : Int) :: ks).map V.int).length := rfl
        rw [h1, h2]
        exact List.take_of_length_le (by rw [List.length_drop]; exact Nat.le_refl _)
      have hI0 : ∀ {H4 : Hp} {σ : L2.St}, Ex H3 H4 → σ[3]? = some (some (.ref pn)) → Ev (tOp (rIxL K) (tVar 3) (tC (.int 0))) σ H4 (.int (gN : Int)) := fun {H4 σ} e hσ => ev_op (ev_var hσ) ev_c (rv_ixL (sq_of (e pn _ hx3)) (atI_nat (j := 0) rfl rfl))
      have hT : ∀ {H4 : Hp} {σ : L2.St}, Ex H3 H4 → σ[3]? = some (some (.ref pn)) → EvU (tCB (fun xs H Q => ∃ p ys, xs = [V.ref p] ∧ ((SqL K H p ys ∧ ∀ l, H l = none → Q (.ref l) (upd H l (.tup ys))) ∨ (SqT K H p ys ∧ Q (.ref p) H))) (tCons (tSl (rSlL K) (tVar 3) (tPart (tC (.int 1))) tNoPart) tNil)) σ H4 (ks.map V.int) := fun {H4 σ} e hσ => by
        have h0 := el_sl (K := K) (te := tVar 3) (tl := tPart (tC (.int 1))) (th := tNoPart) (σ := σ) (H := H4) (ev_var hσ) (eo_some ev_c) eo_none (sq_of (e pn _ hx3))
        rw [hcut1] at h0
        exact eu_tupleOf h0
      have t1 : ∀ {σ : L2.St}, σ[3]? = some (some (.ref pn)) → EvT (tTest (tOp (rIn K false) (tC .non) (tVar 3))) σ H3 false := fun {σ} hσ => et_is (et_test (ev_op ev_c (ev_var hσ) (rv_isL (sq_of hx3) rfl (by
        rw [← hgk, ← opt_ints hany]
        exact flat_opt _)))) (by rw [← hgk, ← opt_ints hany, inV_none, hany])
      by_cases hg4 : (gN : Int) ≤ 4
      · have sc : scal (faultV gN ks) (.int (-1)) = true := by
          unfold faultV
          split
          · rfl
          · split <;> rfl
        refine q_when (b := false || (false || !decide (faultV gN ks = .int (-1)))) (et_or (t1 rfl) fun _ => et_or (et_is (et_test (ev_op (hI0 (Ex.refl _) rfl) ev_c rv_I0)) (decide_eq_false (by omega))) fun _ => et_test (ev_op (ev_call2U (hI0 (Ex.refl _) rfl) (hT (Ex.refl _) rfl) fun p H4 e4 h4 => sv_fault h4) (ev_un ev_c ru_neg) (rv_ne sc))) (fun hb2 H4 e4 => ?_) fun hb2 H4 e4 => ?_
        · refine raise ?_ rfl (e13.trans e4)
          rw [hpz2]
          rw [pickW_cons, if_neg]
          rintro ⟨_, hf⟩
          rw [Int.toNat_natCast] at hf
          rw [hf] at hb2
          simp at hb2
        · have hf : faultV gN ks = .int (-1) := by simpa using hb2
          have hpz3 : pz = some (gN, ks) := by
            rw [hpz2]
            rw [pickW_cons, if_pos ⟨hg4, by rw [Int.toNat_natCast]; exact hf⟩, Int.toNat_natCast]
          have hG := fault_bad (by omega) hf
          exact ⟨rfl, en_make2U (hI0 e4 rfl) (hT e4 rfl) hG H4 (Ex.refl H4) _ fun p H5 hp e5 hF => hyes gN ks hpz3 p H5 (fresh_back (e13.trans e4) hp) ((e13.trans e4).trans e5) hF⟩
      · refine q_when (b := false || (true || false)) (et_or (t1 rfl) fun _ => et_or (et_is (et_test (ev_op (hI0 (Ex.refl _) rfl) ev_c rv_I0)) (decide_eq_true (by omega))) (fun h => by cases h)) (fun _ H4 e4 => ?_) (fun h => by cases h)
        refine raise ?_ rfl (e13.trans e4)
        rw [hpz2]
        rw [pickW_cons, if_neg]
        rintro ⟨h, _⟩
        exact hg4 h
end
end Kg

set_option maxHeartbeats 4000000
/-! plain: the law's own reading of a number's word -/
namespace Kg
open PySem PySem.Spec PyProof.Rows L2 Evl
def figV (w : Str) : Int := if ((decide (V.str w = V.str "") || decide (7 < (w.length : Int))) || !allDig w) = true then -1 else if (!not0 w || !lead0 w) = true then wVal w else -1
theorem strV {a b : Str} : decide (V.str a = V.str b) = decide (a = b) := by
  by_cases h : a = b
  · rw [h]; simp
  · simp [h]
theorem allD {w : Str} (h : allDig w = true) : NumText.AllDigits w.cps.toList := fun c hc => isDig_iff.mp (List.all_eq_true.mp h c hc)
theorem fig_num {w : Str} {i : Int} : numOf 1000000 w = some i ↔ figV w = i ∧ 0 ≤ i ∧ i ≤ 1000000 := by
  have hl := lenL w
  have hv0 : 0 ≤ wVal w := by unfold wVal; omega
  unfold numOf figV
  by_cases hd : allDig w = true
  · rw [hd]
    simp only [Bool.and_true, Bool.not_true, Bool.or_false]
    cases hc : w.cps.toList with
    | nil =>
      have h0 : w.length = 0 := by rw [← hl, hc]; rfl
      have hw : w = "" := TL.ext_tl (by show w.cps.toList = _; rw [hc]; rfl)
      rw [strV, decide_eq_true hw]
      have h1 : (decide ((1 : Int) ≤ (w.length : Int)) && decide ((w.length : Int) ≤ 60)) = false := by rw [h0]; rfl
      rw [h1]
      simp
      omega
    | cons c l =>
      have hne : ¬ w = "" := fun z => by
        rw [z] at hc
        cases hc
      have hlen : w.length = l.length + 1 := by rw [← hl, hc]; rfl
      rw [strV, decide_eq_false hne, Bool.false_or]
      have hlead : lead0 w = decide (c = 48) := by
        unfold lead0
        rw [hc]
        show decide (V.str ⟨#[c]⟩ = V.str "0") = _
        rw [strV]
        by_cases h48 : c = 48
        · rw [h48]; rfl
        · rw [decide_eq_false h48, decide_eq_false]
          intro z
          have := congrArg (fun x : Str => x.cps.toList) z
          have h2 : [c] = [48] := this
          injection h2 with h2 _
          exact h48 h2
      by_cases h7 : w.length ≤ 7
      · have e1 : (decide ((1 : Int) ≤ (w.length : Int)) && decide ((w.length : Int) ≤ 60)) = true := by simp; omega
        have e2 : decide ((7 : Int) < (w.length : Int)) = false := decide_eq_false (by omega)
        rw [e1, e2]
        simp only [if_true, Bool.false_eq_true, if_false]
        have eB : (!not0 w || !lead0 w) = !(lead0 w && not0 w) := by cases not0 w <;> cases lead0 w <;> rfl
        rw [eB]
        cases (lead0 w && not0 w) with
        | true =>
          simp only [if_true, Bool.not_true, Bool.false_eq_true, if_false]
          exact ⟨fun z => (by cases z), fun z => (by omega)⟩
        | false =>
          simp only [if_true, Bool.not_false, Bool.false_eq_true, if_false]
          by_cases hv : wVal w ≤ 1000000
          · rw [if_pos hv]
            exact ⟨fun z => (by injection z with z; omega), fun z => (by rw [z.1])⟩
          · rw [if_neg hv]
            exact ⟨fun z => (by cases z), fun z => (by omega)⟩
      · have e2 : decide ((7 : Int) < (w.length : Int)) = true := decide_eq_true (by omega)
        rw [e2]
        simp only [if_true]
        refine ⟨fun z => ?_, fun z => by omega⟩
        exfalso
        split at z
        · have hn0 : not0 w = true := by
            unfold not0
            rw [strV, decide_eq_false]
            · rfl
            intro h0
            rw [h0] at h7
            exact h7 (by decide)
          rw [hn0, Bool.and_true, hlead] at z
          split at z
          · cases z
          · rename_i hc48
            have hc49 : 49 ≤ c := by
              have h1 := allD hd c (by rw [hc]; exact List.mem_cons_self)
              have h2 : c ≠ 48 := fun e => hc48 (decide_eq_true e)
              omega
            split at z
            · rename_i hv
              have h3 := NumText.toDigits_digitsVal l.length w.cps.toList (by rw [hl, hlen]) (allD hd) (.inr ⟨c, l, hc, hc49⟩)
              have h4 : (TL.numL (NumText.digitsVal w.cps.toList)).length ≤ 7 := TL.numL_len (by decide) (by unfold wVal at hv; omega)
              unfold TL.numL at h4
              rw [h3, List.length_map, List.length_map, hl] at h4
              exact h7 h4
            · cases z
        · cases z
  · have hd' : allDig w = false := by simpa using hd
    rw [hd']
    simp
    omega
end Kg

set_option maxHeartbeats 4000000
/-! plain: what a line says, by the law's own figures -/
namespace Kg
open PySem PySem.Spec PyProof.Rows L2 Evl
theorem bad_iff {g : Nat} {ks : List Int} {i : Nat} : badAt g ks i = false ↔ ((i : Int) ≠ (g : Int) + 1 + 10 ∧ 0 ≤ ks.getD i 0 ∧ ks.getD i 0 ≤ 1000000) ∧ (0 < i → ks.getD (i - 1) 0 ≤ ks.getD i 0) ∧ (g < i → ks.getD (i - g - 1) 0 ≠ ks.getD i 0) := by
  unfold badAt
  simp only [Bool.or_eq_false_iff, Bool.not_eq_false', Bool.and_eq_true, Bool.and_eq_false_iff, decide_eq_true_iff, decide_eq_false_iff_not]
  constructor
  · rintro ⟨⟨a, b⟩, c, d⟩
    exact ⟨⟨a, b⟩, fun h => by omega, fun h => by omega⟩
  · rintro ⟨⟨a, b⟩, c, d⟩
    refine ⟨⟨a, b⟩, ?_, ?_⟩
    · by_cases h : 0 < i
      · right
        have := c h
        omega
      · left
        omega
    · by_cases h : g < i
      · right
        exact d h
      · left
        omega
theorem getD_eq {ks : List Int} {i : Nat} (h : i < ks.length) : ks.getD i 0 = ks[i] := by
  rw [List.getD_eq_getElem?_getD, List.getElem?_eq_getElem h]
  rfl
theorem mono_of {ks : List Int} (h : ∀ i, 0 < i → i < ks.length → ks.getD (i - 1) 0 ≤ ks.getD i 0) : ∀ j i, i ≤ j → j < ks.length → ks.getD i 0 ≤ ks.getD j 0
  | 0, i, hi, hj => by
    have : i = 0 := by omega
    rw [this]
    exact Int.le_refl _
  | j + 1, i, hi, hj => by
    rcases Nat.lt_or_ge i (j + 1) with z | z
    · have h1 := mono_of h j i (by omega) (by omega)
      have h2 := h (j + 1) (by omega) hj
      rw [Nat.add_sub_cancel] at h2
      omega
    · have : i = j + 1 := by omega
      rw [this]
      exact Int.le_refl _
theorem sorted_iff {ks : List Int} : ks.Pairwise (· ≤ ·) ↔ ∀ i, 0 < i → i < ks.length → ks.getD (i - 1) 0 ≤ ks.getD i 0 := by
  constructor
  · intro h i h0 hi
    rw [getD_eq (show i - 1 < ks.length by omega), getD_eq hi]
    exact List.pairwise_iff_getElem.mp h (i - 1) i (by omega) hi (by omega)
  · intro h
    refine List.pairwise_iff_getElem.mpr fun i j hi hj hij => ?_
    have := mono_of h j i (by omega) hj
    rw [getD_eq hi, getD_eq hj] at this
    exact this
/-- the places where g + 1 in a row are alike -/
def alike (g : Nat) (ks : List Int) : List Nat := (List.range ((ks.length : Int) - (g : Int) - 1).toNat).filter fun k => decide (ks.getD k 0 = ks.getD (k + g + 1) 0)
theorem alike_nil {g : Nat} {ks : List Int} : alike g ks = [] ↔ ∀ i, g < i → i < ks.length → ks.getD (i - g - 1) 0 ≠ ks.getD i 0 := by
  unfold alike
  rw [List.filter_eq_nil_iff]
  constructor
  · intro h i h1 h2 e
    refine h (i - g - 1) (List.mem_range.mpr (by omega)) (decide_eq_true ?_)
    rw [e]
    congr 1
    omega
  · intro h k hk e
    have e := of_decide_eq_true e
    have hk := List.mem_range.mp hk
    refine h (k + g + 1) (by omega) (by omega) ?_
    rw [show k + g + 1 - g - 1 = k by omega]
    exact e
theorem good_iff {g : Nat} {ks : List Int} : Good g ks ↔ g ≤ 4 ∧ g + 2 ≤ ks.length ∧ ks.length ≤ g + 11 ∧ (∀ k ∈ ks, 0 ≤ k ∧ k ≤ 1000000) ∧ ks.Pairwise (· ≤ ·) ∧ alike g ks = [] := by
  constructor
  · intro h
    refine ⟨h.1, h.2.1, h.len, fun k hk => h.mem hk, sorted_iff.mpr fun i h0 hi => (bad_iff.mp (h.2.2 i hi)).2.1 h0, alike_nil.mpr fun i hg hi => (bad_iff.mp (h.2.2 i hi)).2.2 hg⟩
  · rintro ⟨h1, h2, h3, h4, h5, h6⟩
    refine ⟨h1, h2, fun i hi => bad_iff.mpr ⟨⟨by omega, ?_⟩, fun h0 => sorted_iff.mp h5 i h0 hi, fun hg => alike_nil.mp h6 i hg hi⟩⟩
    rw [getD_eq hi]
    exact h4 _ (List.getElem_mem hi)
theorem parse_iff {ws : List Str} {g : Nat} {ks : List Int} : parseW ws = some (g, ks) ↔ 4 ≤ ws.length ∧ ws.getD 0 "" = "degree" ∧ ws.getD 2 "" = "knots" ∧ figV (ws.getD 1 "") = (g : Int) ∧ (ws.drop 3).map figV = ks ∧ Good g ks := by
  constructor
  · intro h
    have hG := parse_good h
    unfold parseW at h
    by_cases h4 : ws.length < 4
    · rw [if_pos h4] at h
      cases h
    rw [if_neg h4] at h
    by_cases hh : [ws.getD 0 "", ws.getD 2 ""] = (["degree", "knots"] : List Str)
    · rw [if_pos hh] at h
      cases hany : (nums ws).any Option.isNone with
      | true =>
        rw [hany] at h
        cases h
      | false =>
        rw [hany] at h
        rw [if_neg (by decide)] at h
        injection hh with h0 hh
        injection hh with h2 _
        unfold nums at hany h
        have all_ : ∀ w ∈ (ws.getD 1 "" :: ws.drop 3), ∃ i, numOf 1000000 w = some i ∧ figV w = i := fun w hw => by
          have h1 : (numOf 1000000 w).isNone = false := by
            rw [List.any_map, List.any_eq_false] at hany
            have := hany w hw
            cases hz : (numOf 1000000 w).isNone with
            | true => exact absurd hz this
            | false => rfl
          cases hn : numOf 1000000 w with
          | none => rw [hn] at h1; cases h1
          | some i => exact ⟨i, rfl, (fig_num.mp hn).1⟩
        have e1 : ((ws.getD 1 "" :: ws.drop 3).map (numOf 1000000)).map (·.getD 0) = (ws.getD 1 "" :: ws.drop 3).map figV := by
          rw [List.map_map]
          refine List.map_congr_left fun w hw => ?_
          obtain ⟨i, a, b⟩ := all_ w hw
          show (numOf 1000000 w).getD 0 = figV w
          rw [a, b]
          rfl
        rw [e1, List.map_cons, pickW_cons] at h
        split at h
        · injection h with h
          injection h with ha hb
          obtain ⟨i, a, b⟩ := all_ _ List.mem_cons_self
          have := numOf_nn a
          refine ⟨by omega, h0, h2, by omega, hb, hG⟩
        · cases h
    · rw [if_neg hh] at h
      cases h
  · rintro ⟨h4, h0, h2, hg, hk, hG⟩
    unfold parseW
    rw [if_neg (by omega), if_pos (by rw [h0, h2])]
    have all_ : ∀ w ∈ (ws.getD 1 "" :: ws.drop 3), numOf 1000000 w = some (figV w) := fun w hw => by
      rcases List.mem_cons.mp hw with rfl | hw
      · exact fig_num.mpr ⟨rfl, by omega, by have := hG.1; omega⟩
      · have : figV w ∈ ks := by rw [← hk]; exact List.mem_map.mpr ⟨w, hw, rfl⟩
        obtain ⟨a, b⟩ := hG.mem this
        exact fig_num.mpr ⟨rfl, a, b⟩
    have e0 : nums ws = (ws.getD 1 "" :: ws.drop 3).map fun w => some (figV w) := List.map_congr_left all_
    have e1 : (nums ws).any Option.isNone = false := by
      rw [e0, List.any_map, List.any_eq_false]
      intro w _ z
      cases z
    rw [e1, if_neg (by decide), e0, List.map_map]
    have e2 : (ws.getD 1 "" :: ws.drop 3).map ((fun o : Option Int => o.getD 0) ∘ fun w => some (figV w)) = (g : Int) :: ks := by
      rw [List.map_cons, ← hk, ← hg]
      rfl
    rw [e2, pickW_cons, if_pos ⟨by have := hG.1; omega, by rw [Int.toNat_natCast]; exact fault_good hG⟩, Int.toNat_natCast]
theorem parse_none {ws : List Str} (h : ∀ (g : Nat) (ks : List Int), 4 ≤ ws.length → ws.getD 0 "" = "degree" → ws.getD 2 "" = "knots" → figV (ws.getD 1 "") = (g : Int) → (ws.drop 3).map figV = ks → Good g ks → False) : parseW ws = none := by
  cases hp : parseW ws with
  | none => rfl
  | some x =>
    obtain ⟨g, ks⟩ := x
    obtain ⟨a, b, c, d, e, f⟩ := parse_iff.mp hp
    exact (h g ks a b c d e f).elim
end Kg

set_option maxHeartbeats 4000000
/-! _law_figure, _law_read -/
namespace Kg
open PySem PySem.Spec PyProof.Rows L2 Evl
section
variable {P : Program} {w : World} {K : PySem.W.Frag} {mg : Str → Option Value} {base : Heap} {f C : Addr} {fd : FuncData} {H : Hp} {σ : L2.St}
def spFig : Sp := fun vs H Q _ => ∃ z : Str, vs = [.str z] ∧ okS 1000 z ∧ RetV (.int (figV z)) H Q
theorem sv_fig {z : Str} (hz : okS 1000 z) : SpV spFig [.str z] H (.int (figV z)) := fun H1 _ Q q _ => ⟨z, rfl, hz, q⟩
theorem rv_notsign {c : Nat} {z : Str} : RV (fun x y H Q => ∃ (c : Nat) (z : Str), x = .str ⟨#[c]⟩ ∧ y = .str z ∧ Q (.bl (!decide (c ∈ z.cps.toList))) H) (.str ⟨#[c]⟩) (.str z) H (.bl (!decide (c ∈ z.cps.toList))) := fun H1 _ _ q => ⟨c, z, rfl, rfl, q H1 (Ex.refl H1)⟩
theorem ok_fig (N : Nms mg) (F : L2.Fun K "_law_figure" "_law_figure" sFigure f fd) : FnOk P w K mg base L2.CX0 1 f fd ["_law_word"] spFig := by
  refine F.ok scFigure (fun vs H Q E h => ?_) (fun cdv A outer s H vs Q E hr h => ?_)
  · obtain ⟨z, rfl, _⟩ := h
    rfl
  · obtain ⟨z, rfl, hz, q⟩ := h
    have hzl : z.length ≤ sizeLine := sz_of (by have := hz.len; omega)
    have hz1 := hz.len
    refine ⟨_, pss_cons (ps_if (PW.pt (pw_or (pt_cmpR op_eq (pv 0) pe_str (nomark _)) (pw_or (pt_cmpR op_gt (pe_callB call_len_str (by rfl) N.len boot_len (pa_cons (pv 0) pa_nil)) pe_int (nomark _))
        (pw_or1 (pt_cmpR (op_neD hr.units) (pe_lc (own := [("_law_glyph", 1)]) (g := gName 1) rfl scFigure.nd (pi_str (pv 0)) (blkOk_by (N := nFigure) (sc := defScope sFigure) (by decide +kernel))
          (fun _ _ _ _ _ => pg_name (i := 1) scFigure.nd rfl (.inl rfl)) (fun _ _ _ _ _ => pts_one (pt_cmpR op_notIn_sign (pv 1) pe_str rfl)) (fun _ _ _ _ _ => pv 1)) (pe_lst pa_nil) (nomark _)))))) (pss_one (ps_ret (pe_un un_neg pe_int))) pss_nil)
      (pss_one (ps_ret (pe_ifExp (PW.pt (pw_or (pt_cmpR op_eq (pv 0) pe_str (nomark _)) (pw_or1 (pt_cmpR op_ne (pe_ix ix_str (pv 0) pe_int (fun _ _ => rfl)) pe_str (nomark _))))) (pe_callTy call_int_str (by rfl) N.int boot_int (pa_cons (pv 0) pa_nil)) (pe_un un_neg pe_int)))), ?_⟩
    have hA : EvL (tLc (iStr (tVar 0)) (gName 1) (tTest (tOp (fun x y H Q => ∃ (c : Nat) (z : Str), x = V.str ⟨#[c]⟩ ∧ y = V.str z ∧ Q (.bl (!decide (c ∈ z.cps.toList))) H) (tVar 1) (tC (.str "0123456789")))) (tVar 1) [1]) [some (.str z), none] H (((z.cps.toList.filter fun c => !isDig c).map fun c => (⟨#[c]⟩ : Str)).map V.str) := by
      rw [List.map_map]
      exact el_lcS (fun c => !isDig c) _ (ev_var rfl) (by omega) (fun _ => rfl) (fun c _ H1 _ => et_test (ev_op (ev_var rfl) ev_c rv_notsign)) (fun c _ H1 _ _ => ev_var rfl)
    have hD : decide ((z.cps.toList.filter fun c => !isDig c).map (fun c => (⟨#[c]⟩ : Str)) = []) = allDig z := by
      rw [Bool.eq_iff_iff, decide_eq_true_iff, List.map_eq_nil_iff, List.filter_eq_nil_iff]
      unfold allDig
      rw [List.all_eq_true]
      constructor
      · intro h c hc
        have := h c hc
        cases hi : isDig c with
        | true => rfl
        | false => rw [hi] at this; exact absurd rfl this
      · intro h c hc
        rw [h c hc]
        decide
    refine q_when (b := decide (V.str z = V.str "") || (decide (7 < (z.length : Int)) || !allDig z)) (et_or (et_test (ev_op (ev_var rfl) ev_c (rv_eq rfl))) fun _ => et_or (et_test (ev_op (ev_cb (ea_cons (ev_var rfl) ea_nil) (rc_lenS hzl)) ev_c rv_I0))
      fun _ => et_is (et_test (ev_opLL hA (el_lst (vs := []) ea_nil (by decide)) fun p q H1 h1 h2 e => rv_neD (d := .list (((z.cps.toList.filter fun c => !isDig c).map fun c => (⟨#[c]⟩ : Str)).map PyData.str)) (e := .list (([] : List Str).map PyData.str)) (fun H2 e2 => .lst (sq_of (e2 p _ h1)) (dp_strs _)) (fun H2 e2 => .lst (sq_of (e2 q _ h2)) .nil) (shp_strs fun y hy => by
        obtain ⟨c, hc, rfl⟩ := List.mem_map.mp hy
        have h3 := hz.2 c ((List.mem_filter.mp hc).1)
        exact okS.strOk (n := 1) ⟨Nat.le_refl 1, fun x hx => by
          have : x ∈ [c] := hx
          rw [List.mem_singleton.mp this]
          exact h3⟩) (shp_strs fun y hy => by cases hy))) (by show (!PyData.eqvAll _ (([] : List Str).map PyData.str)) = _; rw [eqv_strs, hD])) (fun hb H1 e1 => s_ret (ev_un ev_c ru_neg) fun H2 e2 => ?_) fun hb H1 e1 => ?_
    · have e0 : figV z = -1 := by
        unfold figV
        rw [Bool.or_assoc, hb]
        rfl
      rw [e0] at q
      exact q H2 (e1.trans e2)
    · have e0 : figV z = if (!not0 z || !lead0 z) = true then wVal z else -1 := by
        unfold figV
        rw [Bool.or_assoc, hb]
        rfl
      have hb' := hb
      rw [Bool.or_eq_false_iff, Bool.or_eq_false_iff] at hb'
      obtain ⟨h1, h2, h3⟩ := hb'
      have hd : allDig z = true := by simpa using h3
      have h7 : z.length ≤ 7 := by
        have := of_decide_eq_false h2
        omega
      have hne : ¬ z = "" := fun h => by
        rw [strV, decide_eq_true h] at h1
        cases h1
      have hlen := lenL z
      obtain ⟨c, l, hc⟩ : ∃ c l, z.cps.toList = c :: l := by
        cases h : z.cps.toList with
        | nil => exact (hne (TL.ext_tl (by show z.cps.toList = _; rw [h]; rfl))).elim
        | cons c l => exact ⟨c, l, rfl⟩
      have hz0 : 1 ≤ z.length := by
        rw [← hlen, hc, List.length_cons]
        omega
      have hi := int_of hd hz0 (by omega)
      have hlead : lead0 z = decide (V.str ⟨#[c]⟩ = V.str "0") := by unfold lead0; rw [hc]
      rw [e0] at q
      refine s_ret (v := .int (if (!not0 z || !lead0 z) = true then wVal z else -1)) (ev_if (b := !not0 z || !lead0 z) (et_or (et_is (et_test (ev_op (ev_var rfl) ev_c (rv_eq rfl))) (by unfold not0; rw [Bool.not_not])) fun _ => et_is (et_test (ev_op (ev_op (ev_var rfl) ev_c (rv_ix0 hzl hc)) ev_c (rv_ne rfl))) (by rw [hlead])) (fun hb2 => ?_) fun hb2 => ?_) fun H2 e2 => q H2 (e1.trans e2)
      · rw [if_pos hb2]
        exact ev_cb (ea_cons (ev_var rfl) ea_nil) (rc_intS hi (by omega))
      · rw [if_neg (by rw [hb2]; decide)]
        exact ev_un ev_c ru_neg
end
end Kg

set_option maxHeartbeats 4000000
/-! _law_read -/
namespace Kg
open PySem PySem.Spec PyProof.Rows L2 Evl
section
variable {P : Program} {w : World} {K : PySem.W.Frag} {mg : Str → Option Value} {base : Heap} {f C : Addr} {fd : FuncData} {H : Hp} {σ : L2.St}
/-- [g, (k, ..)], new -/
def DueAt (g : Nat) (ks : List Int) (p : Addr) (H2 : Hp) : Prop := ∃ a, H2 p = some (.lst [.int (g : Int), .ref a]) ∧ H2 a = some (.tup (ks.map V.int))
def spLRead (K : PySem.W.Frag) : Sp := fun vs H Q _ => ∃ (v : V) (pz : Option (Nat × List Int)), vs = [v] ∧ Given K H v pz ∧ (pz = none → RetL [] H Q) ∧ (∀ g ks, pz = some (g, ks) → RetN (DueAt g ks) H Q)
theorem given_words {v : V} {pz : Option (Nat × List Int)} {i n : Nat} (hg : Given K H v pz) (hi : σ[i]? = some (some v)) : ∃ ws : List Str, ws.length ≤ 1001 ∧ (∀ y ∈ ws, okS 1000 y) ∧ pz = parseW ws ∧
    EvL (tIf (tB (tCB (rIsi K) (tCons (tVar i) (tCons (tC (.ty "str")) tNil)))) (tM1 (fun x xs H Q => ∃ a b, x = V.str a ∧ xs = [V.str b] ∧ (b.length == 0) = false ∧ a.length + 2 ≤ sizeLine ∧ rNewStrs (Txt.split a b) H Q) (tVar i) (tC (.str " "))) (tLst tNil)) σ H (ws.map V.str) := by
  rcases hg with ⟨z, rfl, hz, hpz⟩ | ⟨hpz, t, ht, hk⟩
  · refine ⟨wordsOf z, (words_ok hz).1, (words_ok hz).2, hpz, el_if (b := true) (et_B (ev_cb (ea_cons (ev_var hi) (ea_cons ev_c ea_nil)) (rc_isi (.ty "str") (fun _ _ => .base (.str z)) (kit_ty (by decide +kernel))))) (fun _ => el_split (ev_var hi) (by have := hz.len; omega)) (fun h => by cases h)⟩
  · refine ⟨[], by decide, (fun y hy => by cases hy), by rw [hpz]; rfl, el_if (b := false) (et_B (ev_cb (ea_cons (ev_var hi) (ea_cons ev_c ea_nil)) (rc_isi (.ty "str") ht hk))) (fun h => by cases h) (fun _ => el_lst ea_nil (by decide))⟩
theorem figV_ge (w : Str) : -1 ≤ figV w := by
  unfold figV
  split
  · exact Int.le_refl _
  · split
    · unfold wVal
      omega
    · exact Int.le_refl _
theorem max_ex : ∀ {l : List Int}, 0 < l.length → ∃ m ∈ l, ∀ y ∈ l, y ≤ m
  | [], h => by cases h
  | [a], _ => ⟨a, List.mem_singleton.mpr rfl, fun y hy => by rw [List.mem_singleton.mp hy]; exact Int.le_refl _⟩
  | a :: b :: l, _ => by
    obtain ⟨m, h1, h2⟩ := max_ex (l := b :: l) (by simp)
    rcases Int.le_total a m with z | z
    · exact ⟨m, List.mem_cons_of_mem _ h1, fun y hy => by
        rcases List.mem_cons.mp hy with rfl | hy
        · exact z
        · exact h2 y hy⟩
    · exact ⟨a, List.mem_cons_self, fun y hy => by
        rcases List.mem_cons.mp hy with rfl | hy
        · exact Int.le_refl _
        · exact Int.le_trans (h2 y hy) z⟩
theorem rc_max {p : Addr} {l : List Int} {m : Int} (hp : SqL K H p (l.map V.int)) (hm : m ∈ l) (hy : ∀ y ∈ l, y ≤ m) : RC (rMax K) [.ref p] H (.int m) := fun H1 e Q q => ⟨p, l, rfl, ex_l e hp, List.length_pos_of_mem hm, fun m' h1 h2 => by
  have : m' = m := Int.le_antisymm (hy m' h1) (h2 m hm)
  rw [this]
  exact q H1 (Ex.refl H1)⟩
theorem inV_int (i : Int) : ∀ l : List Int, inV (.int i) (l.map V.int) = decide (i ∈ l)
  | [] => by simp [inV]
  | j :: l => by
    have ih := inV_int i l
    unfold inV at ih ⊢
    rw [List.map_cons, List.any_cons, ih]
    show ((j == i) || _) = _
    by_cases h : j = i
    · simp [h]
    · have h' : ¬ i = j := fun z => h z.symm
      rw [show (j == i) = false from by simpa using h, Bool.false_or, decide_eq_decide, List.mem_cons]
      exact ⟨.inr, fun z => z.resolve_left h'⟩
theorem flat_ints : ∀ l : List Int, (l.map V.int).all flatV = true
  | [] => rfl
  | j :: l => by rw [List.map_cons, List.all_cons, flat_ints l]; rfl
theorem ev_sortedEq {p : Addr} {i : Nat} {l : List Int} (hi : σ[i]? = some (some (.ref p))) (hp : SqL K H p (l.map V.int)) : Ev (tOp (rEqD K) (tVar i) (tCB (rSortedI K) (tCons (tVar i) tNil))) σ H (.bl (decide (l.Pairwise (· ≤ ·)))) := fun H1 e Q q =>
  ev_var hi H1 (Ex.refl H1) _ fun H2 e2 => ev_var hi H2 (Ex.refl H2) _ fun H3 e3 => ⟨p, l, rfl, ex_l ((e.trans e2).trans e3) hp, fun ns p' h1 h2 hp' => ⟨.list (l.map PyData.int), .list (ns.map PyData.int), .lst (ex_l (Ex.new hp') (ex_l ((e.trans e2).trans e3) hp)) (dp_ints _), .lst (sq_of upd_same) (dp_ints _), shp_ints _, shp_ints _, by
    have e0 : PyData.eqv (.list (l.map PyData.int)) (.list (ns.map PyData.int)) = decide (l.Pairwise (· ≤ ·)) := by
      show PyData.eqvAll _ _ = _
      rw [eqv_ints, decide_eq_decide]
      constructor
      · intro h
        rw [h]
        exact h2
      · intro h
        exact (List.Perm.eq_of_pairwise (fun a b _ _ x y => Int.le_antisymm x y) h2 h h1).symm
    rw [e0]
    exact q _ ((e2.trans e3).trans (Ex.new hp'))⟩⟩
theorem eu_tupleOfV {te : TE} {p : Addr} {xs : List V} (h : Ev te σ H (.ref p)) (hp : SqL K H p xs) : EvU (tCB (fun xs H Q => ∃ p ys, xs = [V.ref p] ∧ ((SqL K H p ys ∧ ∀ l, H l = none → Q (.ref l) (upd H l (.tup ys))) ∨ (SqT K H p ys ∧ Q (.ref p) H))) (tCons te tNil)) σ H xs := fun H1 e Q q =>
  h H1 e _ fun H2 e2 => ⟨p, xs, rfl, .inl ⟨ex_l (e.trans e2) hp, fun l hl => q l _ (fresh_back e2 hl) (e2.trans (Ex.new hl)) upd_same⟩⟩
theorem en_lst2U {ta tb : TE} {x : V} {xs : List V} (ha : Ev ta σ H x) (hb : EvU tb σ H xs) : EvN (tLst (tCons ta (tCons tb tNil))) σ H (fun p H2 => ∃ a, H2 p = some (.lst [x, .ref a]) ∧ H2 a = some (.tup xs)) := fun H1 e Q q =>
  ha H1 e _ fun H2 e2 => hb H2 (e.trans e2) _ fun a H3 ha' e3 h3 => ⟨by show (2 : Nat) ≤ sizeLine; decide, fun p hp => by
    refine q p _ (fresh_back (e2.trans e3) hp) ((e2.trans e3).trans (Ex.new hp)) ⟨a, upd_same, ?_⟩
    rw [upd_ne (ne_of_none h3 hp)]
    exact h3⟩
theorem ok_lread (N : Nms mg) (F : L2.Fun K "_law_read" "_law_read" sLRead f fd) (cG : CalK P w K mg base 1 "_law_figure" spFig) : FnOk P w K mg base L2.CX0 2 f fd ["_law_line"] (spLRead K) := by
  refine F.ok scLRead (fun vs H Q E h => ?_) (fun cdv A outer s H vs Q E hr h => ?_)
  · obtain ⟨v, pz, rfl, _⟩ := h
    rfl
  · obtain ⟨v, pz, rfl, hg, hnone, hyes⟩ := h
    refine ⟨_, pss_cons (ps_asg (pe_ifExp (pt_val (pe_callB call_isi (by rfl) N.isinstance boot_isinstance (pa_cons (pv 0) (pa_cons (pe_bltn (v := .ty "str") (by rfl) N.str boot_str rfl) pa_nil)))) (pe_split (pv 0) pe_str) (pe_lst pa_nil)) (pg_name (i := 1) scLRead.nd rfl (.inl rfl)))
      (pss_cons (ps_if (PW.pt (pw_or (pt_cmpR op_lt (pe_callB call_len_seq (by rfl) N.len boot_len (pa_cons (pv 1) pa_nil)) pe_int (nomark _)) (pw_or (pt_cmpR op_ne (pe_ix ix_list (pv 1) pe_int (fun _ _ => rfl)) pe_str (nomark _)) (pw_or1 (pt_cmpR op_ne (pe_ix ix_list (pv 1) pe_int (fun _ _ => rfl)) pe_str (nomark _)))))) (pss_one (ps_ret (pe_lst pa_nil))) pss_nil)
      (pss_cons (ps_asg (pe_tup (pa_cons (C8.pe_c cG hr (by decide) (by rfl) (pa_cons (pe_ix ix_list (pv 1) pe_int (fun _ _ => rfl)) pa_nil)) (pa_cons (pe_lc (own := [("_law_word", 5)]) (g := gName 5) (tt := tYes) rfl scLRead.nd (pi_list (pe_slice sl_list (pv 1) (po_some pe_int) po_none)) (blkOk_by (N := nLRead) (sc := defScope sLRead) (by decide +kernel))
          (fun _ _ _ _ _ => pg_name (i := 5) scLRead.nd rfl (.inl rfl)) (fun _ _ _ _ _ => pts_nil) (fun _ _ _ _ _ => C8.pe_c cG hr (by decide) (by rfl) (pa_cons (pv 5) pa_nil))) pa_nil))) (pg_tup rfl (pgs_cons (pg_name (i := 2) scLRead.nd rfl (.inr rfl)) (pgs_cons (pg_name (i := 3) scLRead.nd rfl (.inr rfl)) pgs_nil))))
      (pss_cons (ps_if (PW.pt (pw_or (pt_not (pt_chain op_le op_le pe_int (pv 2) pe_int)) (pw_or (pt_cmpR op_in_seq (pe_un un_neg pe_int) (pv 3) rfl) (pw_or (pt_not (pt_chain op_le op_le (pe_op op_add (pv 2) pe_int) (pe_callB call_len_seq (by rfl) N.len boot_len (pa_cons (pv 3) pa_nil)) (pe_op op_add (pv 2) pe_int)))
          (pw_or1 (pt_cmpR op_gt (pe_callB (cr_max rfl) (by rfl) N.max boot_max (pa_cons (pv 3) pa_nil)) (pe_op op_pow pe_int pe_int) (nomark _))))))) (pss_one (ps_ret (pe_lst pa_nil))) pss_nil)
      (pss_cons (ps_setLc (i := 4) (own := [("_law_k", 6)]) (g := gName 6) rfl scLRead.nd rfl rfl (sw_true rfl rfl rfl rfl) (pi_range1 (by rfl) N.range (pa_cons (pe_op op_sub (pe_op op_sub (pe_callB call_len_seq (by rfl) N.len boot_len (pa_cons (pv 3) pa_nil)) (pv 2)) pe_int) pa_nil)) (blkOk_by (N := nLRead) (sc := defScope sLRead) (by decide +kernel))
          (fun _ _ _ _ _ => pg_name (i := 6) scLRead.nd rfl (.inl rfl)) (fun _ _ _ _ _ => pts_one (pt_cmpR op_eq (pe_ix (r := rIxL K) ix_list (pv 3) (pv 6) (fun _ _ => rfl)) (pe_ix (r := rIxL K) ix_list (pv 3) (pe_op op_add (pe_op op_add (pv 6) (pv 2)) pe_int) (fun _ _ => rfl)) (nomark _))) (fun _ _ _ _ _ => pv 6))
      (pss_one (ps_ret (pe_ifExp (PW.pt (pw_and (pt_cmpR (op_eqD hr.units) (pv 3) (pe_callB cr_sortedI (by rfl) N.sorted boot_sorted (pa_cons (pv 3) pa_nil)) (nomark _)) (pw_and1 (pt_cmpR (op_eqD hr.units) (pv 4) (pe_lst pa_nil) (nomark _)))))
          (pe_lst (pa_cons (pv 2) (pa_cons (pe_callTy call_tuple_of (by rfl) N.tuple boot_tuple (pa_cons (pv 3) pa_nil)) pa_nil))) (pe_lst pa_nil)))))))), ?_⟩
    obtain ⟨ws, hwl, hwo, hpz, hwe⟩ := given_words (K := K) (i := 0) (n := 0) (σ := [some v, none, none, none, none, none, none]) hg rfl
    refine q_asgL hwe fun pw H1 hpw e1 hx1 => ?_
    have none_ : ∀ {σ : L2.St} {H2 : Hp} {D : Ends}, pz = none → D.rt = Q → Ex H H2 → tRet (tLst tNil) D σ H2 := fun {σ H2 D} hz hD e => s_retL (el_lst (vs := []) ea_nil (by decide)) fun p H3 hp e3 h3 => by
      rw [hD]
      exact hnone hz p H3 (fresh_back e hp) (e.trans e3) h3
    have hlen : (ws.map V.str).length = ws.length := List.length_map _
    by_cases hl5 : ws.length < 5
    · refine q_when (b := true || false) (et_or (et_is (et_test (ev_op (ev_cb (ea_cons (ev_var rfl) ea_nil) (rc_len (.inl (sq_of hx1)))) ev_c rv_I0)) (decide_eq_true (by rw [hlen]; omega))) (fun h => by cases h)) (fun _ H2 e2 => ?_) (fun h => by cases h)
      refine none_ ?_ rfl (e1.trans e2)
      rw [hpz]
      exact parse_none fun g ks h4 _ _ _ hk hG => by
        have h6 := hG.2.1
        rw [← hk, List.length_map, List.length_drop] at h6
        omega
    have at_ : ∀ i, i < ws.length → (ws.map V.str)[i]? = some (.str (ws.getD i "")) := fun i hi => by
      rw [List.getElem?_map, List.getElem?_eq_getElem hi, List.getD_eq_getElem?_getD, List.getElem?_eq_getElem hi]
      rfl
    have mem_ : ∀ i, i < ws.length → okS 1000 (ws.getD i "") := fun i hi => by
      rw [List.getD_eq_getElem?_getD, List.getElem?_eq_getElem hi]
      exact hwo _ (List.getElem_mem hi)
    have hIx : ∀ (i : Nat) {H2 : Hp} {σ : L2.St}, i < ws.length → Ex H1 H2 → σ[1]? = some (some (.ref pw)) → Ev (tOp (rIxL K) (tVar 1) (tC (.int (i : Int)))) σ H2 (.str (ws.getD i "")) := fun i {H2 σ} hi e hσ => ev_op (ev_var hσ) ev_c (rv_ixL (sq_of (e pw _ hx1)) (atI_nat rfl (at_ i hi)))
    refine q_when (b := false || (!decide (ws.getD 0 "" = "degree") || !decide (ws.getD 2 "" = "knots"))) (et_or (et_is (et_test (ev_op (ev_cb (ea_cons (ev_var rfl) ea_nil) (rc_len (.inl (sq_of hx1)))) ev_c rv_I0)) (decide_eq_false (by rw [hlen]; omega))) fun _ => et_or (et_is (et_test (ev_op (hIx 0 (by omega) (Ex.refl _) rfl) ev_c (rv_ne rfl))) (by rw [strV])) fun _ => et_is (et_test (ev_op (hIx 2 (by omega) (Ex.refl _) rfl) ev_c (rv_ne rfl))) (by rw [strV])) (fun hb H2 e2 => ?_) fun hb H2 e2 => ?_
    · refine none_ ?_ rfl (e1.trans e2)
      rw [hpz]
      exact parse_none fun g ks _ h0 h2 _ _ _ => by
        rw [h0, h2] at hb
        cases hb
    have e12 := e1.trans e2
    have hx2 := e2 pw _ hx1
    have h0 : ws.getD 0 "" = "degree" := by
      by_cases z : ws.getD 0 "" = "degree"
      · exact z
      · rw [decide_eq_false z] at hb
        cases hb
    have h2 : ws.getD 2 "" = "knots" := by
      by_cases z : ws.getD 2 "" = "knots"
      · exact z
      · rw [decide_eq_false z] at hb
        simp at hb
    have hcut : cutV (ws.map V.str) (some 3) none = (ws.drop 3).map V.str := by
      unfold cutV
      have h1 : HT.sIx (ws.map V.str).length 0 (some 3) = 3 := by
        rw [hlen]
        unfold HT.sIx
        simp
        omega
      have h2 : HT.sIx (ws.map V.str).length (ws.map V.str).length none = (ws.map V.str).length := rfl
      rw [h1, h2, List.map_drop]
      exact List.take_of_length_le (by rw [List.length_drop]; exact Nat.le_refl _)
    have hB : EvL (tLc (iList K (tSl (rSlL K) (tVar 1) (tPart (tC (.int 3))) tNoPart)) (gName 5) tYes (tCall spFig [] C8.E0 (tCons (tVar 5) tNil)) [5]) [some v, some (.ref pw), none, none, none, none, none] H2 (((ws.drop 3).map figV).map V.int) := by
      have e0 : (((ws.drop 3).map V.str).filter fun _ => true).map (fun v => match v with | .str w => V.int (figV w) | v => v) = ((ws.drop 3).map figV).map V.int := by
        rw [filter_yes, List.map_map, List.map_map]
        rfl
      rw [← e0]
      have hl1 := el_sl (K := K) (te := tVar 1) (tl := tPart (tC (.int 3))) (th := tNoPart) (σ := [some v, some (.ref pw), none, none, none, none, none]) (H := H2) (ev_var rfl) (eo_some ev_c) eo_none (sq_of hx2)
      rw [hcut] at hl1
      refine el_lcN (fun _ => true) _ hl1 (by rw [List.length_map, List.length_drop]; omega) (fun _ => rfl) (fun c _ H3 _ => et_yes) fun c hc H3 e3 _ => ?_
      obtain ⟨y, hy, rfl⟩ := List.mem_map.mp hc
      exact ev_call (ea_cons (ev_var rfl) ea_nil) (sv_fig (hwo y (List.mem_of_mem_drop hy)))
    generalize hBd : (ws.drop 3).map figV = B at hB
    generalize hGd : figV (ws.getD 1 "") = G at *
    have hG1 := figV_ge (ws.getD 1 "")
    have hBl : B.length ≤ 1001 := by
      rw [← hBd, List.length_map, List.length_drop]
      omega
    have hf1 : Ev (tCall spFig [] C8.E0 (tCons (tOp (rIxL K) (tVar 1) (tC (.int 1))) tNil)) [some v, some (.ref pw), none, none, none, none, none] H2 (.int G) := by
      rw [← hGd]
      exact ev_call (ea_cons (hIx 1 (by omega) e2 rfl) ea_nil) (sv_fig (mem_ 1 (by omega)))
    refine hf1 H2 (Ex.refl H2) _ fun H3 e3 => hB H3 e3 _ fun pb H4 hpb e4 hx4 => ⟨by show (2 : Nat) ≤ sizeLine; decide, fun pt hpt => ⟨pt, _, rfl, st_of upd_same, rfl, .int G, [.ref pb], rfl, .ref pb, [], rfl, rfl, ?_⟩⟩
    have e5 : Ex H4 (upd H4 pt (.tup [.int G, .ref pb])) := Ex.new hpt
    generalize upd H4 pt (.tup [.int G, .ref pb]) = H5 at e5
    have hx5 := e5 pb _ hx4
    have e15 : Ex H H5 := ((e12.trans e3).trans e4).trans e5
    clear hB hf1 hIx at_ hcut hx2 hx4 hpb hpt
    have cutN : ∀ {h : ∀ (g : Nat), figV (ws.getD 1 "") = (g : Int) → Good g B → False}, parseW ws = none := fun {h} => parse_none fun g ks _ _ _ hg1 hk hG => by
      rw [hBd] at hk
      subst hk
      exact h g hg1 hG
    by_cases hG : 0 ≤ G ∧ G ≤ 4
    rotate_left
    · refine q_when (b := true || false) (et_or (et_is (et_not (et_test (ev_chainI ev_c (ev_var rfl) ev_c))) (by
        rw [Bool.not_eq_true', Bool.and_eq_false_iff, decide_eq_false_iff_not, decide_eq_false_iff_not]
        omega)) (fun h => by cases h)) (fun _ H6 e6 => ?_) (fun h => by cases h)
      refine none_ ?_ rfl (e15.trans e6)
      rw [hpz]
      exact cutN (h := fun g hg1 hGd2 => by
        have := hGd2.1
        rw [hGd] at hg1
        omega)
    have tG' : EvT (tNot (tTest (tChain (rI0 fun i j => .bl (decide (i ≤ j))) (rI0 fun i j => .bl (decide (i ≤ j))) (tC (.int 0)) (tVar 2) (tC (.int 4))))) [some v, some (.ref pw), some (.int G), some (.ref pb), none, none, none] H5 false := et_is (et_not (et_test (ev_chainI ev_c (ev_var rfl) ev_c))) (by
      rw [Bool.not_eq_false', Bool.and_eq_true, decide_eq_true_iff, decide_eq_true_iff]
      exact hG)
    obtain ⟨g, rfl⟩ : ∃ g : Nat, G = (g : Int) := ⟨G.toNat, by omega⟩
    have bad : (Good g B → False) → parseW ws = none := fun h => cutN (h := fun g' hg1 hG' => by
      rw [hGd] at hg1
      have : g' = g := by omega
      subst this
      exact h hG')
    have tM : Ev (tOp (rIn K false) (tUn (rU fun i => .int (-i)) (tC (.int 1))) (tVar 3)) [some v, some (.ref pw), some (.int (g : Int)), some (.ref pb), none, none, none] H5 (.bl (inV (.int (-1)) (B.map V.int))) := ev_op (ev_un ev_c ru_neg) (ev_var rfl) (rv_isL (sq_of hx5) rfl (flat_ints B))
    rw [inV_int] at tM
    by_cases hm : (-1 : Int) ∈ B
    · refine q_when (b := false || (true || false)) (et_or tG' fun _ => et_or (et_is (et_test tM) (decide_eq_true hm)) (fun h => by cases h)) (fun _ H6 e6 => ?_) (fun h => by cases h)
      refine none_ ?_ rfl (e15.trans e6)
      rw [hpz]
      exact bad fun hG' => by
        have := (hG'.mem hm).1
        omega
    have tM' := et_is (et_test tM) (decide_eq_false hm)
    have hlB : (B.map V.int).length = B.length := List.length_map _
    have evLen : ∀ {H6 : Hp} {σ : L2.St}, Ex H5 H6 → σ[3]? = some (some (.ref pb)) → Ev (tCB (fun xs H Q => ∃ p ys, xs = [V.ref p] ∧ (SqL K H p ys ∨ SqT K H p ys) ∧ Q (.int ys.length) H) (tCons (tVar 3) tNil)) σ H6 (.int (B.length : Int)) := fun {H6 σ} e hσ => ev_is (ev_cb (ea_cons (ev_var hσ) ea_nil) (rc_len (.inl (sq_of (e pb _ hx5))))) (by rw [hlB])
    have tL := et_not (et_test (ev_chainI (p := fun i j => decide (i ≤ j)) (p' := fun i j => decide (i ≤ j)) (ev_op (r := rI0 fun i j => .int (i + j)) (σ := [some v, some (.ref pw), some (.int (g : Int)), some (.ref pb), none, none, none]) (H := H5) (ev_var (i := 2) (v := .int (g : Int)) rfl) (ev_c (v := .int 2)) rv_I0) (evLen (Ex.refl H5) rfl) (ev_op (r := rI0 fun i j => .int (i + j)) (ev_var (i := 2) (v := .int (g : Int)) rfl) (ev_c (v := .int 11)) rv_I0)))
    by_cases hL : (g : Int) + 2 ≤ (B.length : Int) ∧ (B.length : Int) ≤ (g : Int) + 11
    rotate_left
    · refine q_when (b := false || (false || (true || false))) (et_or tG' fun _ => et_or tM' fun _ => et_or (et_is tL (by
        rw [Bool.not_eq_true', Bool.and_eq_false_iff, decide_eq_false_iff_not, decide_eq_false_iff_not]
        omega)) (fun h => by cases h)) (fun _ H6 e6 => ?_) (fun h => by cases h)
      refine none_ ?_ rfl (e15.trans e6)
      rw [hpz]
      exact bad fun hG' => by
        have h6 := hG'.2.1
        have h7 := hG'.len
        omega
    have tL' := et_is tL (b := false) (by
      rw [Bool.not_eq_false', Bool.and_eq_true, decide_eq_true_iff, decide_eq_true_iff]
      exact hL)
    obtain ⟨m, hm1, hm2⟩ := max_ex (l := B) (by omega)
    have tX : EvT (tTest (tOp (rI0 fun i j => .bl (decide (j < i))) (tCB (rMax K) (tCons (tVar 3) tNil)) (tOp (rI CPow fun i j => .int (i ^ j.toNat)) (tC (.int 10)) (tC (.int 6))))) [some v, some (.ref pw), some (.int (g : Int)), some (.ref pb), none, none, none] H5 (decide (10 ^ (6 : Int).toNat < m)) := et_test (ev_op (ev_cb (ea_cons (ev_var rfl) ea_nil) (rc_max (sq_of hx5) hm1 hm2)) (ev_op ev_c ev_c (rv_I (show (0:Int) ≤ 6 ∧ (6:Int) ≤ 1000000 ∧ (10:Int).natAbs < 2 ^ 64 from ⟨by decide, by decide, by decide⟩))) rv_I0)
    by_cases hX : m ≤ 1000000
    rotate_left
    · refine q_when (b := false || (false || (false || true))) (et_or tG' fun _ => et_or tM' fun _ => et_or tL' fun _ => et_is tX (decide_eq_true (by show (1000000 : Int) < m; omega))) (fun _ H6 e6 => ?_) (fun h => by cases h)
      refine none_ ?_ rfl (e15.trans e6)
      rw [hpz]
      exact bad fun hG' => by
        have := (hG'.mem hm1).2
        omega
    refine q_when (b := false || (false || (false || false))) (et_or tG' fun _ => et_or tM' fun _ => et_or tL' fun _ => et_is tX (decide_eq_false (by show ¬ (1000000 : Int) < m; omega))) (fun h => by cases h) (fun _ H6 e6 => ?_)
    have e16 := e15.trans e6
    have hx6 := e6 pb _ hx5
    have hAl : EvL (tLc (iRng1 (tCons (tOp (rI0 fun i j => .int (i - j)) (tOp (rI0 fun i j => .int (i - j)) (tCB (fun xs H Q => ∃ p ys, xs = [V.ref p] ∧ (SqL K H p ys ∨ SqT K H p ys) ∧ Q (.int ys.length) H) (tCons (tVar 3) tNil)) (tVar 2)) (tC (.int 1))) tNil)) (gName 6) (tTest (tOp rEq (tOp (rIxL K) (tVar 3) (tVar 6)) (tOp (rIxL K) (tVar 3) (tOp (rI0 fun i j => .int (i + j)) (tOp (rI0 fun i j => .int (i + j)) (tVar 6) (tVar 2)) (tC (.int 1)))))) (tVar 6) [6])
        [some v, some (.ref pw), some (.int (g : Int)), some (.ref pb), none, none, none] H6 (((alike g B).map fun k : Nat => (k : Int)).map V.int) := by
      rw [List.map_map]
      refine el_lcR (n := (B.length : Int) - (g : Int) - 1) (fun k => decide (B.getD k 0 = B.getD (k + g + 1) 0)) _ (ea_cons (ev_op (ev_op (evLen e6 rfl) (ev_var rfl) rv_I0) ev_c rv_I0) ea_nil) (by omega) (fun _ => rfl) (fun k hk H7 e7 => ?_) (fun k hk H7 e7 _ => ev_var rfl)
      have hx7 := e7 pb _ hx6
      exact et_is (et_test (ev_op (ev_op (ev_var rfl) (ev_var rfl) (rv_ixL (sq_of hx7) (atInt (j := k) rfl (by omega)))) (ev_op (ev_var rfl) (ev_op (ev_op (ev_var rfl) (ev_var rfl) rv_I0) ev_c rv_I0) (rv_ixL (sq_of hx7) (atInt (j := k + g + 1) (by omega) (by omega)))) (rv_eq rfl))) (dec_int _ _)
    refine q_asgL hAl fun pa H7 hpa e7 hx7a => ?_
    have e17 := e16.trans e7
    have hx7 := e7 pb _ hx6
    have tS := ev_sortedEq (K := K) (σ := [some v, some (.ref pw), some (.int (g : Int)), some (.ref pb), some (.ref pa), none, none]) (i := 3) rfl (sq_of hx7)
    have tN : Ev (tOp (rEqD K) (tVar 4) (tLst tNil)) [some v, some (.ref pw), some (.int (g : Int)), some (.ref pb), some (.ref pa), none, none] H7 (.bl (decide ((alike g B).map (fun k : Nat => (k : Int)) = []))) := by
      rw [← eqv_ints _ []]
      exact ev_opL (x := .ref pa) (xs := []) (ev_var rfl) (el_lst ea_nil (by decide)) fun p H8 h8 e8 => rv_eqD (d := .list (((alike g B).map fun k : Nat => (k : Int)).map PyData.int)) (e := .list (([] : List Int).map PyData.int)) (fun H9 e9 => .lst (sq_of ((e8.trans e9) pa _ hx7a)) (dp_ints _)) (fun H9 e9 => .lst (sq_of (e9 p _ h8)) .nil) (shp_ints _) (shp_ints _)
    have tC := et_and (et_test tS) fun _ => et_test tN
    refine tC H7 (Ex.refl H7) _ fun H8 e8 => ?_
    have e18 := e17.trans e8
    have hx8 := e8 pb _ hx7
    cases hb : (decide (B.Pairwise (· ≤ ·)) && decide ((alike g B).map (fun k : Nat => (k : Int)) = [])) with
    | false =>
      refine el_lst (vs := []) ea_nil (by decide) H8 (Ex.refl H8) _ fun p H9 hp e9 h9 => hnone ?_ p H9 (fresh_back e18 hp) (e18.trans e9) h9
      rw [hpz]
      refine bad fun hG' => ?_
      obtain ⟨_, _, _, _, h5, h6⟩ := good_iff.mp hG'
      rw [h6] at hb
      rw [decide_eq_true h5] at hb
      cases hb
    | true =>
      rw [Bool.and_eq_true, decide_eq_true_iff, decide_eq_true_iff, List.map_eq_nil_iff] at hb
      have hp : pz = some (g, B) := by
        rw [hpz]
        refine parse_iff.mpr ⟨by omega, h0, h2, hGd, hBd, good_iff.mpr ⟨by omega, by omega, by omega, fun k hk => ⟨?_, Int.le_trans (hm2 k hk) hX⟩, hb.1, hb.2⟩⟩
        rw [← hBd] at hk
        obtain ⟨y, hy, rfl⟩ := List.mem_map.mp hk
        have h1 := figV_ge y
        have h3 : figV y ≠ -1 := fun z => hm (by rw [← hBd, ← z]; exact List.mem_map.mpr ⟨y, hy, rfl⟩)
        omega
      exact en_lst2U (ev_var (i := 2) (σ := [some v, some (.ref pw), some (.int (g : Int)), some (.ref pb), some (.ref pa), none, none]) (H := H8) (v := .int (g : Int)) rfl) (eu_tupleOfV (ev_var (i := 3) rfl) (sq_of hx8)) H8 (Ex.refl H8) _ fun p H9 hp' e9 hd => hyes g B hp p H9 (fresh_back e18 hp') (e18.trans e9) hd
end
end Kg

set_option maxHeartbeats 4000000
/-! the mug: three ints at one place; draws -/
namespace Kg
open PySem PySem.Spec PyProof.Rows L2 Evl
def MugAt (H : Hp) (m : Addr) : Prop := ∃ a b c : Int, H m = some (.lst [.int a, .int b, .int c])
/-- all but m stays -/
def Kp (m : Addr) (H H' : Hp) : Prop := ∀ b o, b ≠ m → H b = some o → H' b = some o
theorem Kp.refl (m : Addr) (H : Hp) : Kp m H H := fun _ _ _ h => h
theorem Kp.trans {m : Addr} {H H1 H2 : Hp} (a : Kp m H H1) (b : Kp m H1 H2) : Kp m H H2 := fun x o hx h => b x o hx (a x o hx h)
theorem Kp.of {m : Addr} {H H' : Hp} (e : Ex H H') : Kp m H H' := fun b o _ h => e b o h
theorem Kp.upd {m : Addr} {H : Hp} {o : HO} : Kp m H (upd H m o) := fun b u hb h => by
  rw [upd_ne hb]
  exact h
theorem MugAt.ex {m : Addr} {H H' : Hp} (h : MugAt H m) (e : Ex H H') : MugAt H' m := by
  obtain ⟨a, b, c, h⟩ := h
  exact ⟨a, b, c, e _ _ h⟩
/-- fresh ahead of a keeping is fresh before, and not m -/
theorem Kp.back {m : Addr} {H H' : Hp} {p : Addr} (k : Kp m H H') (hm : MugAt H' m) (h : H' p = none) (hm0 : MugAt H m) : H p = none := by
  cases h1 : H p with
  | none => rfl
  | some o =>
    by_cases e : p = m
    · obtain ⟨a, b, c, z⟩ := hm
      rw [← e, h] at z
      cases z
    · rw [k p o e h1] at h
      cases h
section
variable {P : Program} {w : World} {K : PySem.W.Frag} {mg : Str → Option Value} {base : Heap} {f C : Addr} {fd : FuncData} {H : Hp} {σ : L2.St}
theorem rc_int1 {i : Int} : RC (fun xs H Q => (∃ i, xs = [V.int i] ∧ Q (.int i) H) ∨ ∃ k, xs = [V.bl k] ∧ Q (.int (if k then 1 else 0)) H) [.int i] H (.int i) := fun H1 _ _ q => .inl ⟨i, rfl, q H1 (Ex.refl H1)⟩
theorem rc_abs {i : Int} : RC (fun xs H Q => ∃ i, xs = [V.int i] ∧ Q (.int (if i < 0 then -i else i)) H) [.int i] H (.int (if i < 0 then -i else i)) := fun H1 _ _ q => ⟨i, rfl, q H1 (Ex.refl H1)⟩
theorem q_mug {te ta tb : TE} {tz : TS} {D : Ends} {l : Addr} {xs ys : List V} {v : V} {j : Nat} (hl : H l = some (.lst xs)) (h : Ev te σ H v) (ho : Ev ta σ H (.ref l)) (hi : Ev tb σ H (.int (j : Int))) (hj : j < xs.length) (hy : xs.set j v = ys) (k : ∀ H2, Kp l H H2 → H2 l = some (.lst ys) → tz D σ H2) : tSeq (tAsg te (gSub ta tb rSetL)) tz D σ H :=
  q_setL hl h ho hi hj fun H1 e1 => k _ ((Kp.of e1).trans Kp.upd) (by rw [upd_same, hy])
/-! _law_sip -/
def spSip : Sp := fun vs H Q _ => ∃ (m : Addr) (t : Int), vs = [.ref m, .int t] ∧ MugAt H m ∧ 0 < t ∧ t < 2 ^ 30 ∧ ∀ r H', 0 ≤ r → r < t → Kp m H H' → MugAt H' m → Q (.int r) H'
theorem ok_sip (N : Nms mg) (F : L2.Fun K "_law_sip" "_law_sip" sSip f fd) : FnOk P w K mg base L2.CX0 1 f fd ["_law_mug_here", "_law_top"] spSip := by
  refine F.ok scSip (fun vs H Q E h => ?_) (fun cdv A outer s H vs Q E hr h => ?_)
  · obtain ⟨m, t, rfl, _⟩ := h
    rfl
  · obtain ⟨m, t, rfl, ⟨a, b, c, hm⟩, h0, h1, q⟩ := h
    refine ⟨_, pss_cons (ps_asg (pe_op op_add (pe_ix ix_list (pv 0) pe_int (fun _ _ => rfl)) pe_int) (pg_sub (pv 0) pe_int set_list))
      (pss_cons (ps_if (pt_cmpR op_gt (pe_ix ix_list (pv 0) pe_int (fun _ _ => rfl)) pe_int (nomark _))
        (pss_cons (ps_asg (pe_op op_mod (pe_callTy call_int1 (by rfl) N.int boot_int (pa_cons (pe_ix ix_list (pv 0) pe_int (fun _ _ => rfl)) pa_nil)) (pv 1)) (pg_name (i := 2) scSip.nd rfl (.inl rfl)))
        (pss_cons (ps_asg (pe_op op_fdiv (pe_callTy call_int1 (by rfl) N.int boot_int (pa_cons (pe_ix ix_list (pv 0) pe_int (fun _ _ => rfl)) pa_nil)) (pv 1)) (pg_sub (pv 0) pe_int set_list))
        (pss_one (ps_ret (pv 2))))) pss_nil)
      (pss_cons (ps_asg (pe_op op_mod (pe_callTy call_int1 (by rfl) N.int boot_int (pa_cons (pe_op op_add (pe_op op_add (pe_op op_mul (pe_ix ix_list (pv 0) pe_int (fun _ _ => rfl)) pe_int) (pe_op op_mul pe_int (pe_ix ix_list (pv 0) pe_int (fun _ _ => rfl)))) pe_int) pa_nil)) pe_int) (pg_sub (pv 0) pe_int set_list))
      (pss_one (ps_ret (pe_op op_mod (pe_callTy call_int1 (by rfl) N.int boot_int (pa_cons (pe_op op_fdiv (pe_ix ix_list (pv 0) pe_int (fun _ _ => rfl)) pe_int) pa_nil)) (pv 1)))))), ?_⟩
    have ix : ∀ (j : Nat) {H1 : Hp} {σ : L2.St} {x y z : Int}, H1 m = some (.lst [.int x, .int y, .int z]) → j < 3 → σ[0]? = some (some (.ref m)) → Ev (tOp (rIxL K) (tVar 0) (tC (.int (j : Int)))) σ H1 (.int ([x, y, z].getD j 0)) := fun j {H1 σ x y z} h hj hσ => ev_op (ev_var hσ) ev_c (rv_ixL (sq_of h) (atI_nat (j := j) rfl (by
      match j, hj with
      | 0, _ => rfl
      | 1, _ => rfl
      | 2, _ => rfl)))
    have l3 : ∀ {x y z : Int}, ([.int x, .int y, .int z] : List V).length = 3 := rfl
    refine q_mug (xs := [.int a, .int b, .int c]) (j := 2) hm (ev_op (ix 2 hm (by decide) rfl) ev_c rv_I0) (ev_var rfl) ev_c (by rw [l3]; decide) (ys := [.int a, .int b, .int (c + 1)]) rfl fun H2 k1 m1 => ?_
    refine q_when (b := decide (0 < a)) (et_test (ev_op (ix 0 m1 (by decide) rfl) ev_c rv_I0)) (fun hb H3 e3 => ?_) fun hb H3 e3 => ?_
    · have m3 := e3 m _ m1
      refine q_asg (v := .int (a % t)) (ev_op (ev_cb (ea_cons (ix 0 m3 (by decide) rfl) ea_nil) rc_int1) (ev_var rfl) (rv_I h0)) fun H4 e4 => ?_
      have m4 := e4 m _ m3
      refine q_mug (xs := [.int a, .int b, .int (c + 1)]) (j := 0) m4 (ev_op (z := .int (a / t)) (ev_cb (ea_cons (ix 0 m4 (by decide) rfl) ea_nil) rc_int1) (ev_var rfl) (rv_I ⟨h0, h1⟩)) (ev_var rfl) ev_c (by rw [l3]; decide) (ys := [.int (a / t), .int b, .int (c + 1)]) rfl fun H5 k5 m5 => ?_
      refine s_ret (v := .int (a % t)) (ev_var rfl) fun H6 e6 => q (a % t) H6 (Int.emod_nonneg _ (by omega)) (Int.emod_lt_of_pos _ h0) (((k1.trans (Kp.of (e3.trans e4))).trans k5).trans (Kp.of e6)) ⟨_, _, _, e6 m _ m5⟩
    · have m3 := e3 m _ m1
      refine q_mug (xs := [.int a, .int b, .int (c + 1)]) (j := 1) m3 (ev_op (ev_cb (ea_cons (ev_op (ev_op (ev_op (ix 1 m3 (by decide) rfl) ev_c (rv_I (.inr (by decide)))) (ev_op ev_c (ix 2 m3 (by decide) rfl) (rv_I (.inl (by decide)))) rv_I0) ev_c rv_I0) ea_nil) rc_int1) ev_c (rv_I (by decide))) (ev_var rfl) ev_c (by rw [l3]; decide) rfl fun H5 k5 m5 => ?_
      refine s_ret (ev_op (ev_cb (ea_cons (ev_op (ix 1 m5 (by decide) rfl) ev_c (rv_I (by exact ⟨by decide, by decide⟩))) ea_nil) rc_int1) (ev_var rfl) (rv_I h0)) fun H6 e6 => q _ H6 (Int.emod_nonneg _ (by omega)) (Int.emod_lt_of_pos _ h0) (((k1.trans (Kp.of e3)).trans k5).trans (Kp.of e6)) ⟨_, _, _, e6 m _ m5⟩
end
end Kg

set_option maxHeartbeats 4000000
/-! _law_mug, _law_pick -/
namespace Kg
open PySem PySem.Spec PyProof.Rows L2 Evl
section
variable {P : Program} {w : World} {K : PySem.W.Frag} {mg : Str → Option Value} {base : Heap} {f C : Addr} {fd : FuncData} {H : Hp} {σ : L2.St}
theorem ev_ifI {t : TT} {ta tb : TE} {b : Bool} {x y : Int} (h : EvT t σ H b) (h1 : Ev ta σ H (.int x)) (h2 : Ev tb σ H (.int y)) : Ev (tIf t ta tb) σ H (.int (if b = true then x else y)) := ev_if h (fun hb => by rw [if_pos hb]; exact h1) fun hb => by rw [if_neg (by rw [hb]; decide)]; exact h2
def spMug (K : PySem.W.Frag) : Sp := fun vs H Q _ => ∃ (a : Addr) (xs : List Int) (t : Nat), vs = [.ref a, .int (t : Int)] ∧ SqL K H a (xs.map V.int) ∧ RetN (fun p H2 => MugAt H2 p) H Q
theorem ok_mug (N : Nms mg) (F : L2.Fun K "_law_mug" "_law_mug" sMug f fd) : FnOk P w K mg base L2.CX0 1 f fd ["_law_script", "_law_turn"] (spMug K) := by
  refine F.ok scMug (fun vs H Q E h => ?_) (fun cdv A outer s H vs Q E hr h => ?_)
  · obtain ⟨a, xs, t, rfl, _⟩ := h
    rfl
  · obtain ⟨a, xs, t, rfl, ha, q⟩ := h
    refine ⟨_, pss_cons (ps_asg (pe_ifExp (pt_cmpR op_lt (pv 1) (pe_callB call_len_seq (by rfl) N.len boot_len (pa_cons (pv 0) pa_nil)) (nomark _)) (pe_callTy call_int1 (by rfl) N.int boot_int (pa_cons (pe_ix ix_list (pv 0) (pv 1) (fun _ _ => rfl)) pa_nil)) (pe_op op_add (pe_op op_mul pe_int (pv 1)) pe_int)) (pg_name (i := 2) scMug.nd rfl (.inl rfl)))
      (pss_cons (ps_asg (pe_op op_add pe_int (pe_op op_mul pe_int (pv 1))) (pg_name (i := 3) scMug.nd rfl (.inl rfl)))
      (pss_cons (ps_for PassesOwn.never rfl (pi_list (pe_slice sl_list (pv 0) po_none (po_some pe_int))) (pg_name (i := 4) scMug.nd rfl (.inl rfl))
        (pss_one (ps_asg (pe_op op_mod (pe_callTy call_int1 (by rfl) N.int boot_int (pa_cons (pe_op op_add (pe_op op_add (pe_op op_mul (pv 3) pe_int) (pe_op op_mod (pe_callTy call_int1 (by rfl) N.int boot_int (pa_cons (pv 4) pa_nil)) pe_int)) (pv 1)) pa_nil)) pe_int) (pg_name (i := 3) scMug.nd rfl (.inl rfl)))))
      (pss_cons (ps_asg (pe_op op_mod (pe_callTy call_int1 (by rfl) N.int boot_int (pa_cons (pe_op op_add (pe_op op_mul (pv 3) pe_int) (pe_op op_mod (pe_callTy call_int1 (by rfl) N.int boot_int (pa_cons (pv 2) pa_nil)) pe_int)) pa_nil)) pe_int) (pg_name (i := 3) scMug.nd rfl (.inl rfl)))
      (pss_one (ps_ret (pe_lst (pa_cons (pe_ifExp (pt_cmpR op_ge (pe_callB call_abs (by rfl) N.abs boot_abs (pa_cons (pv 2) pa_nil)) (pe_op op_pow pe_int pe_int) (nomark _)) (pe_callB call_abs (by rfl) N.abs boot_abs (pa_cons (pv 2) pa_nil)) pe_int) (pa_cons (pv 3) (pa_cons pe_int pa_nil))))))))), ?_⟩
    have hlen : (xs.map V.int).length = xs.length := List.length_map _
    obtain ⟨en, hen⟩ : ∃ en : Int, Ev (tIf (tTest (tOp (rI0 fun i j => .bl (decide (i < j))) (tVar 1) (tCB (fun xs H Q => ∃ p ys, xs = [V.ref p] ∧ (SqL K H p ys ∨ SqT K H p ys) ∧ Q (.int ys.length) H) (tCons (tVar 0) tNil)))) (tCB (fun xs H Q => (∃ i, xs = [V.int i] ∧ Q (.int i) H) ∨ ∃ k, xs = [V.bl k] ∧ Q (.int (if k then 1 else 0)) H) (tCons (tOp (rIxL K) (tVar 0) (tVar 1)) tNil)) (tOp (rI0 fun i j => .int (i + j)) (tOp (rI CMul fun i j => .int (i * j)) (tC (.int 59)) (tVar 1)) (tC (.int 13)))) [some (.ref a), some (.int (t : Int)), none, none, none] H (.int en) := by
      by_cases ht : t < xs.length
      · exact ⟨xs.getD t 0, ev_if (b := true) (et_is (et_test (ev_op (ev_var rfl) (ev_cb (ea_cons (ev_var rfl) ea_nil) (rc_len (.inl ha))) rv_I0)) (decide_eq_true (by rw [hlen]; omega))) (fun _ => ev_cb (ea_cons (ev_op (ev_var rfl) (ev_var rfl) (rv_ixL ha (atInt (j := t) rfl ht))) ea_nil) rc_int1) (fun h => by cases h)⟩
      · exact ⟨59 * t + 13, ev_if (b := false) (et_is (et_test (ev_op (ev_var rfl) (ev_cb (ea_cons (ev_var rfl) ea_nil) (rc_len (.inl ha))) rv_I0)) (decide_eq_false (by rw [hlen]; omega))) (fun h => by cases h) fun _ => ev_op (ev_op ev_c (ev_var rfl) (rv_I (.inl (by decide)))) ev_c rv_I0⟩
    refine q_asg hen fun H1 e1 => ?_
    refine q_asg (ev_op ev_c (ev_op ev_c (ev_var rfl) (rv_I (.inl (by decide)))) rv_I0) fun H2 e2 => ?_
    have e12 := e1.trans e2
    refine q_forNLn (el_sl (ev_var (i := 0) rfl) eo_none (eo_some ev_c) (ex_l e12 ha)) (fun p i σ' H' => (∃ (st : Int) (o : Option V), σ' = [some (.ref a), some (.int (t : Int)), some (.int en), some (.int st), o]) ∧ Ex H H' ∧ H' p = some (.lst (cutV (xs.map V.int) none (some 8)))) (fun p H3 hp e3 h3 => ⟨⟨_, _, rfl⟩, e12.trans e3, h3⟩) (fun p i σ' H' _ h => sq_of h.2.2) (fun p i x σ' H' hx h => ?_) (fun p σ' H' h => ?_)
    · obtain ⟨⟨st, o, rfl⟩, eH, hp⟩ := h
      have hm : x ∈ xs.map V.int := by
        have h1 := List.mem_of_getElem? hx
        unfold cutV at h1
        exact List.mem_of_mem_drop (List.mem_of_mem_take h1)
      obtain ⟨k, _, rfl⟩ := List.mem_map.mp hm
      refine s_asg (ev_op (ev_cb (ea_cons (ev_op (ev_op (ev_op (ev_var rfl) ev_c (rv_I (.inr (by decide)))) (ev_op (ev_cb (ea_cons (ev_var rfl) ea_nil) rc_int1) ev_c (rv_I (by decide))) rv_I0) (ev_var rfl) rv_I0) ea_nil) rc_int1) ev_c (rv_I (by decide))) fun H4 e4 => ⟨⟨_, _, rfl⟩, eH.trans e4, e4 p _ hp⟩
    · obtain ⟨⟨st, o, rfl⟩, eH, hp⟩ := h
      refine q_asg (ev_op (ev_cb (ea_cons (ev_op (ev_op (ev_var rfl) ev_c (rv_I (.inr (by decide)))) (ev_op (ev_cb (ea_cons (ev_var rfl) ea_nil) rc_int1) ev_c (rv_I (by decide))) rv_I0) ea_nil) rc_int1) ev_c (rv_I (by decide))) fun H4 e4 => ?_
      refine s_retL (el_lst (ea_cons (ev_ifI (et_test (ev_op (ev_cb (ea_cons (ev_var rfl) ea_nil) rc_abs) (ev_op ev_c ev_c (rv_I (show (0:Int) ≤ 18 ∧ (18:Int) ≤ 1000000 ∧ (10:Int).natAbs < 2 ^ 64 from ⟨by decide, by decide, by decide⟩))) rv_I0)) (ev_cb (ea_cons (ev_var rfl) ea_nil) rc_abs) ev_c) (ea_cons (ev_var rfl) (ea_cons ev_c ea_nil))) (by show (3 : Nat) ≤ 100000; decide)) fun p5 H5 hp5 e5 h5 => q p5 H5 (fresh_back (eH.trans e4) hp5) ((eH.trans e4).trans e5) ⟨_, _, _, h5⟩
/-! _law_pick: of a list, of a text -/
def rLenB (K : PySem.W.Frag) : List V → Hp → VK → Prop := fun xs H Q => (∃ p ys, xs = [V.ref p] ∧ (SqL K H p ys ∨ SqT K H p ys) ∧ Q (.int ys.length) H) ∨ ∃ z, xs = [V.str z] ∧ z.length ≤ sizeLine ∧ Q (.int z.length) H
def rIxB (K : PySem.W.Frag) : R2 := fun x y H Q => rIxL K x y H Q ∨ rIxS x y H Q
def spPick : Sp := fun vs H Q _ => ∃ (m : Addr) (v : V), vs = [.ref m, v] ∧ MugAt H m ∧
  ((∃ (l : Addr) (xs : List V), v = .ref l ∧ l ≠ m ∧ H l = some (.lst xs) ∧ 0 < xs.length ∧ xs.length ≤ 1000 ∧ ∀ x H', x ∈ xs → Kp m H H' → MugAt H' m → Q x H') ∨
    ∃ z : Str, v = .str z ∧ 0 < z.length ∧ z.length ≤ 1000 ∧ ∀ c H', c ∈ z.cps.toList → Kp m H H' → MugAt H' m → Q (.str ⟨#[c]⟩) H')
theorem ok_pick (N : Nms mg) (F : L2.Fun K "_law_pick" "_law_pick" sPick f fd) (cS : CalK P w K mg base 1 "_law_sip" spSip) : FnOk P w K mg base L2.CX0 2 f fd ["_law_mug_here", "_law_menu"] spPick := by
  refine F.ok scPick (fun vs H Q E h => ?_) (fun cdv A outer s H vs Q E hr h => ?_)
  · obtain ⟨m, v, rfl, _⟩ := h
    rfl
  · obtain ⟨m, v, rfl, hm, h⟩ := h
    refine ⟨_, pss_one (ps_ret (pe_ix (r := rIxB K) (IxR.or ix_list ix_str) (pv 1) (C8.pe_c cS hr (by decide) (by rfl) (pa_cons (pv 0) (pa_cons (pe_callB (r := rLenB K) (CallR.or call_len_seq call_len_str) (by rfl) N.len boot_len (pa_cons (pv 1) pa_nil)) pa_nil))) (fun _ _ => rfl))), ?_⟩
    rcases h with ⟨l, xs, rfl, hlm, hl, h0, h1, q⟩ | ⟨z, rfl, h0, h1, q⟩
    · refine ⟨.ref l, rfl, ?_⟩
      have hA : EvA (tCons (tVar 0) (tCons (tCB (rLenB K) (tCons (tVar 1) tNil)) tNil)) [some (.ref m), some (.ref l)] H [.ref m, .int (xs.length : Int)] := ea_cons (ev_var rfl) (ea_cons (ev_cb (ea_cons (ev_var rfl) ea_nil) (fun H2 e2 Q' q' => .inl ⟨l, xs, rfl, .inl (sq_of (e2 l _ hl)), q' H2 (Ex.refl H2)⟩)) ea_nil)
      refine hA H (Ex.refl H) _ fun H2 e2 => ⟨m, (xs.length : Int), rfl, hm.ex e2, by omega, by omega, fun r H3 hr0 hr1 k3 m3 => ?_⟩
      obtain ⟨j, rfl⟩ : ∃ j : Nat, r = (j : Int) := ⟨r.toNat, by omega⟩
      have hj : j < xs.length := by omega
      have kp := (Kp.of e2).trans k3
      refine .inl ⟨l, xs, (j : Int), xs[j], rfl, rfl, sq_of (kp l _ hlm hl), atI_nat rfl (List.getElem?_eq_getElem hj), q _ H3 (List.getElem_mem hj) kp m3⟩
    · refine ⟨.str z, rfl, ?_⟩
      have hA : EvA (tCons (tVar 0) (tCons (tCB (rLenB K) (tCons (tVar 1) tNil)) tNil)) [some (.ref m), some (.str z)] H [.ref m, .int (z.length : Int)] := ea_cons (ev_var rfl) (ea_cons (ev_cb (ea_cons (ev_var rfl) ea_nil) (fun H2 e2 Q' q' => .inr ⟨z, rfl, sz_of (by omega), q' H2 (Ex.refl H2)⟩)) ea_nil)
      refine hA H (Ex.refl H) _ fun H2 e2 => ⟨m, (z.length : Int), rfl, hm.ex e2, by omega, by omega, fun r H3 hr0 hr1 k3 m3 => ?_⟩
      obtain ⟨j, rfl⟩ : ∃ j : Nat, r = (j : Int) := ⟨r.toNat, by omega⟩
      have hj : j < z.cps.toList.length := by rw [lenL]; omega
      have kp := (Kp.of e2).trans k3
      refine .inr ⟨z, (j : Int), z.cps.toList[j], rfl, rfl, sz_of (by omega), atI_nat rfl (List.getElem?_eq_getElem hj), q _ H3 (List.getElem_mem hj) kp m3⟩
end
end Kg

set_option maxHeartbeats 4000000
/-! plain: a draft's knots, spread until no g + 1 in a row are alike -/
namespace Kg
open PySem PySem.Spec PyProof.Rows L2 Evl
def bump (c : Nat) (bl : List Int) : List Int := bl.take c ++ (bl.drop c).map (· + 1)
theorem bump_len (c : Nat) (bl : List Int) : (bump c bl).length = bl.length := by
  unfold bump
  rw [List.length_append, List.length_map, List.length_take, List.length_drop]
  omega
theorem bump_at {c i : Nat} {bl : List Int} (hi : i < bl.length) : (bump c bl).getD i 0 = if i < c then bl.getD i 0 else bl.getD i 0 + 1 := by
  unfold bump
  rw [List.getD_eq_getElem?_getD, List.getD_eq_getElem?_getD, List.getElem?_append]
  have hl : (bl.take c).length = min c bl.length := List.length_take
  by_cases h : i < c
  · rw [if_pos (by rw [hl]; omega), if_pos h, List.getElem?_take_of_lt h]
  · rw [if_neg (by rw [hl]; omega), if_neg h, List.getElem?_map, List.getElem?_drop, hl]
    have e : c + (i - min c bl.length) = i := by omega
    rw [e, List.getElem?_eq_getElem hi]
    rfl
theorem filter_lt {p q : Nat → Bool} : ∀ {l : List Nat}, (∀ x ∈ l, q x = true → p x = true) → (∃ k ∈ l, p k = true ∧ q k = false) → (l.filter q).length < (l.filter p).length
  | [], _, ⟨_, h, _⟩ => by cases h
  | x :: l, h, ⟨k, hk, h1, h2⟩ => by
    have le : ∀ {m : List Nat}, (∀ x ∈ m, q x = true → p x = true) → (m.filter q).length ≤ (m.filter p).length := by
      intro m
      induction m with
      | nil => intro _; exact Nat.le_refl _
      | cons y m ih =>
        intro hm
        have i1 := ih fun z hz => hm z (List.mem_cons_of_mem _ hz)
        have i2 := hm y List.mem_cons_self
        rw [List.filter_cons, List.filter_cons]
        cases hq : q y with
        | true =>
          rw [if_pos rfl, if_pos (i2 hq), List.length_cons, List.length_cons]
          omega
        | false =>
          rw [if_neg (by decide)]
          split
          · rw [List.length_cons]; omega
          · exact i1
    rw [List.filter_cons, List.filter_cons]
    rcases List.mem_cons.mp hk with e | hk
    · subst e
      rw [if_neg (by rw [h2]; decide), if_pos h1, List.length_cons]
      have := le fun z hz => h z (List.mem_cons_of_mem _ hz)
      omega
    · have ih := filter_lt (fun z hz => h z (List.mem_cons_of_mem _ hz)) ⟨k, hk, h1, h2⟩
      have i2 := h x List.mem_cons_self
      cases hq : q x with
      | true =>
        rw [if_pos rfl, if_pos (i2 hq), List.length_cons, List.length_cons]
        omega
      | false =>
        rw [if_neg (by decide)]
        split
        · rw [List.length_cons]; omega
        · exact ih
/-- what holds of the knots on their way -/
structure Way (g n : Nat) (bl : List Int) : Prop where
  len : bl.length = n
  srt : bl.Pairwise (· ≤ ·)
  lo : ∀ b ∈ bl, 0 ≤ b
  hi : ∀ b ∈ bl, b + ((alike g bl).length : Int) ≤ 100020
theorem mem_getD {bl : List Int} {b : Int} (h : b ∈ bl) : ∃ i, i < bl.length ∧ bl.getD i 0 = b := by
  obtain ⟨i, hi, e⟩ := List.getElem_of_mem h
  exact ⟨i, hi, by rw [getD_eq hi]; exact e⟩
theorem getD_mem {bl : List Int} {i : Nat} (h : i < bl.length) : bl.getD i 0 ∈ bl := by
  rw [getD_eq h]
  exact List.getElem_mem h
theorem alike_le (g : Nat) (bl : List Int) : (alike g bl).length ≤ bl.length := by
  unfold alike
  have := List.length_filter_le (fun k => decide (bl.getD k 0 = bl.getD (k + g + 1) 0)) (List.range ((bl.length : Int) - (g : Int) - 1).toNat)
  rw [List.length_range] at this
  omega
theorem way_bump {g n k : Nat} {bl : List Int} {r : List Nat} (w : Way g n bl) (h : alike g bl = k :: r) : Way g n (bump (k + g + 1) bl) ∧ (alike g (bump (k + g + 1) bl)).length < (alike g bl).length := by
  have hk : k ∈ alike g bl := by rw [h]; exact List.mem_cons_self
  obtain ⟨hk1, hk2⟩ := List.mem_filter.mp hk
  have hk1 := List.mem_range.mp hk1
  have hk2 := of_decide_eq_true hk2
  have first : ∀ i, i < k → i < bl.length → bl.getD i 0 ≠ bl.getD (i + g + 1) 0 := fun i hi _ e => by
    have hm : i ∈ alike g bl := List.mem_filter.mpr ⟨List.mem_range.mpr (by omega), decide_eq_true e⟩
    have hs : (alike g bl).Pairwise (· < ·) := List.Pairwise.filter _ (List.pairwise_lt_range)
    rw [h] at hs hm
    rcases List.mem_cons.mp hm with z | z
    · omega
    · have := (List.pairwise_cons.mp hs).1 i z
      omega
  have mono : ∀ i j, i ≤ j → j < bl.length → bl.getD i 0 ≤ bl.getD j 0 := fun i j hij hj => mono_of (sorted_iff.mp w.srt) j i hij hj
  have hlt : (alike g (bump (k + g + 1) bl)).length < (alike g bl).length := by
    unfold alike
    rw [bump_len]
    refine filter_lt (fun i hi hq => ?_) ⟨k, List.mem_range.mpr hk1, decide_eq_true hk2, ?_⟩
    · have hi := List.mem_range.mp hi
      have hq := of_decide_eq_true hq
      rw [bump_at (by omega), bump_at (by omega)] at hq
      refine decide_eq_true ?_
      have := mono i (i + g + 1) (by omega) (by omega)
      by_cases h1 : i + g + 1 < k + g + 1
      · rw [if_pos (by omega), if_pos h1] at hq
        exact hq
      · by_cases h2 : i < k + g + 1
        · rw [if_pos h2, if_neg h1] at hq
          omega
        · rw [if_neg h2, if_neg h1] at hq
          omega
    · refine decide_eq_false ?_
      rw [bump_at (by omega), bump_at (by omega), if_pos (by omega), if_neg (by omega)]
      omega
  refine ⟨⟨by rw [bump_len]; exact w.len, sorted_iff.mpr fun i h0 hi => ?_, fun b hb => ?_, fun b hb => ?_⟩, hlt⟩
  · rw [bump_len] at hi
    rw [bump_at (by omega), bump_at hi]
    have := mono (i - 1) i (by omega) hi
    split <;> split <;> omega
  · obtain ⟨i, hi, rfl⟩ := mem_getD hb
    rw [bump_len] at hi
    rw [bump_at hi]
    have := w.lo _ (getD_mem hi)
    split <;> omega
  · obtain ⟨i, hi, rfl⟩ := mem_getD hb
    rw [bump_len] at hi
    rw [bump_at hi]
    have := w.hi _ (getD_mem hi)
    split <;> omega
theorem way_good {g n : Nat} {bl : List Int} (w : Way g n bl) (hg : g ≤ 4) (hn : g + 2 ≤ n) (hn2 : n ≤ g + 11) (h : alike g bl = []) : Good g bl :=
  good_iff.mpr ⟨hg, by rw [w.len]; exact hn, by rw [w.len]; exact hn2, fun k hk => ⟨w.lo k hk, by have := w.hi k hk; omega⟩, w.srt, h⟩
/-- the first of a kind, the middle, the last of a kind -/
def clamp (g many : Nat) (bl : List Int) : List Int := (List.replicate (g + 1) (bl.getD 0 0) ++ (bl.drop (g + 1)).take (many - (g + 1))) ++ List.replicate (g + 1) (bl.getD (bl.length - 1) 0)
theorem clamp_ok {g many : Nat} {bl : List Int} (hl : bl.length = many + g + 1) (hm : g < many) (hs : bl.Pairwise (· ≤ ·)) : (clamp g many bl).length = many + g + 1 ∧ (clamp g many bl).Pairwise (· ≤ ·) ∧ ∀ b ∈ clamp g many bl, b ∈ bl := by
  have mono : ∀ i j, i ≤ j → j < bl.length → bl.getD i 0 ≤ bl.getD j 0 := fun i j hij hj => mono_of (sorted_iff.mp hs) j i hij hj
  have h0 : ∀ b ∈ bl, bl.getD 0 0 ≤ b ∧ b ≤ bl.getD (bl.length - 1) 0 := fun b hb => by
    obtain ⟨i, hi, rfl⟩ := mem_getD hb
    exact ⟨mono 0 i (by omega) hi, mono i _ (by omega) (by omega)⟩
  have hmid : ∀ b ∈ (bl.drop (g + 1)).take (many - (g + 1)), b ∈ bl := fun b hb => List.mem_of_mem_drop (List.mem_of_mem_take hb)
  have hf := getD_mem (bl := bl) (i := 0) (by omega)
  have hlst := getD_mem (bl := bl) (i := bl.length - 1) (by omega)
  refine ⟨?_, ?_, fun b hb => ?_⟩
  · unfold clamp
    rw [List.length_append, List.length_append, List.length_replicate, List.length_replicate, List.length_take, List.length_drop]
    omega
  · unfold clamp
    rw [List.pairwise_append, List.pairwise_append]
    refine ⟨⟨List.pairwise_replicate.mpr (.inr (Int.le_refl _)), (hs.drop).take, fun a ha b hb => ?_⟩, List.pairwise_replicate.mpr (.inr (Int.le_refl _)), fun a ha b hb => ?_⟩
    · rw [List.eq_of_mem_replicate ha]
      exact (h0 b (hmid b hb)).1
    · rw [List.eq_of_mem_replicate hb]
      rcases List.mem_append.mp ha with z | z
      · rw [List.eq_of_mem_replicate z]
        exact (h0 _ hf).2
      · exact (h0 a (hmid a z)).2
  · unfold clamp at hb
    rcases List.mem_append.mp hb with z | z
    · rcases List.mem_append.mp z with z | z
      · rw [List.eq_of_mem_replicate z]
        exact hf
      · exact hmid b z
    · rw [List.eq_of_mem_replicate z]
      exact hlst
end Kg

set_option maxHeartbeats 4000000
/-! readings for _law_draft -/
namespace Kg
open PySem PySem.Spec PyProof.Rows L2 Evl
theorem take_min {xs : List V} {c : Nat} : xs.take (min c xs.length) = xs.take c := by
  rcases Nat.le_total c xs.length with h | h
  · rw [Nat.min_eq_left h]
  · rw [Nat.min_eq_right h, List.take_of_length_le (Nat.le_refl _), List.take_of_length_le h]
theorem drop_min {xs : List V} {c : Nat} : xs.drop (min c xs.length) = xs.drop c := by
  rcases Nat.le_total c xs.length with h | h
  · rw [Nat.min_eq_left h]
  · rw [Nat.min_eq_right h, List.drop_of_length_le (Nat.le_refl _), List.drop_of_length_le h]
theorem cut_to {xs : List V} {c : Nat} : cutV xs none (some (c : Int)) = xs.take c := by
  unfold cutV
  rw [HT.sIx_nat]
  have h1 : HT.sIx xs.length 0 none = 0 := rfl
  rw [h1, List.drop_zero, Nat.sub_zero, take_min]
theorem cut_from {xs : List V} {c : Nat} : cutV xs (some (c : Int)) none = xs.drop c := by
  unfold cutV
  rw [HT.sIx_nat, drop_min]
  have h1 : HT.sIx xs.length xs.length none = xs.length := rfl
  rw [h1]
  refine List.take_of_length_le ?_
  rw [List.length_drop]
  omega
theorem cut_mid {xs : List V} {c d : Nat} (h : d ≤ xs.length) (hc : c ≤ xs.length) : cutV xs (some (c : Int)) (some (d : Int)) = (xs.drop c).take (d - c) := by
  unfold cutV
  rw [HT.sIx_nat, HT.sIx_nat, Nat.min_eq_left h, Nat.min_eq_left hc]
theorem rep_flat {x : V} : ∀ n : Nat, (List.replicate n [x]).flatten = List.replicate n x
  | 0 => rfl
  | n + 1 => by rw [List.replicate_succ, List.flatten_cons, rep_flat n]; rfl
section
variable {K : PySem.W.Frag} {mg : Str → Option Value} {H : Hp} {σ : L2.St}
theorem el_cat {ta tb : TE} {xs ys : List V} (ha : EvL ta σ H xs) (hb : EvL tb σ H ys) (hz : xs.length + ys.length ≤ 100000) : EvL (tOp rCat ta tb) σ H (xs ++ ys) := fun H1 e Q q =>
  ha H1 e _ fun p H2 hp e2 hx => hb H2 (e.trans e2) _ fun r H3 hr e3 hy => ⟨p, r, xs, ys, rfl, rfl, e3 p _ hx, hy, sz_of hz, fun l hl => q l _ (fresh_back (e2.trans e3) hl) ((e2.trans e3).trans (Ex.new hl)) upd_same⟩
theorem el_rep1 {ta tb : TE} {x : V} {k : Nat} (ha : EvL ta σ H [x]) (hb : ∀ H1, Ex H H1 → Ev tb σ H1 (.int (k : Int))) (hk : k ≤ 1000) : EvL (tOp rRep ta tb) σ H (List.replicate k x) := fun H1 e Q q =>
  ha H1 e _ fun p H2 hp e2 hx => hb H2 (e.trans e2) H2 (Ex.refl H2) _ fun H3 e3 => ⟨p, (k : Int), [x], rfl, rfl, e3 p _ hx, by omega, by omega, sz_of (by rw [Int.toNat_natCast]; simp; omega), fun l hl => by
    have e0 : (List.replicate (k : Int).toNat [x]).flatten = List.replicate k x := by rw [Int.toNat_natCast, rep_flat]
    rw [e0]
    exact q l _ (fresh_back (e2.trans e3) hl) ((e2.trans e3).trans (Ex.new hl)) upd_same⟩
theorem q_cb1 {r : List V → Hp → VK → Prop} {te : TE} {g : TG} {tz : TS} {D : Ends} (h : te σ H fun x H1 => r [x] H1 fun v H2 => g v σ H2 fun σ' H' => tz D σ' H') : tSeq (tAsg (tCB r (tCons te tNil)) g) tz D σ H := h
/-- the places where g + 1 in a row are alike, as _law_draft seeks them -/
theorem el_alike {m pb : Addr} {mo mn : Int} {g : Nat} {bl : List Int} {o : Option V} (hb : H pb = some (.lst (bl.map V.int))) (hl : bl.length ≤ 1000) (hg : g ≤ 4) :
    EvL (tLc (iRng1 (tCons (tOp (rI0 fun i j => .int (i - j)) (tOp (rI0 fun i j => .int (i - j)) (tCB (fun xs H Q => ∃ p ys, xs = [V.ref p] ∧ (SqL K H p ys ∨ SqT K H p ys) ∧ Q (.int ys.length) H) (tCons (tVar 5) tNil)) (tVar 3)) (tC (.int 1))) tNil)) (gName 6) (tTest (tOp rEq (tOp (rIxL K) (tVar 5) (tVar 6)) (tOp (rIxL K) (tVar 5) (tOp (rI0 fun i j => .int (i + j)) (tOp (rI0 fun i j => .int (i + j)) (tVar 6) (tVar 3)) (tC (.int 1)))))) (tVar 6) [6])
      [some (.ref m), some (.int 6), some (.int mo), some (.int (g : Int)), some (.int mn), some (.ref pb), o, none] H (((alike g bl).map fun k : Nat => (k : Int)).map V.int) := by
  rw [List.map_map]
  refine el_lcR (n := (bl.length : Int) - (g : Int) - 1) (fun k => decide (bl.getD k 0 = bl.getD (k + g + 1) 0)) _ (ea_cons (ev_op (ev_op (ev_is (ev_cb (ea_cons (ev_var rfl) ea_nil) (rc_len (.inl (sq_of hb)))) (by rw [List.length_map])) (ev_var rfl) rv_I0) ev_c rv_I0) ea_nil) (by omega) (fun _ => rfl) (fun k hk H7 e7 => ?_) (fun k hk H7 e7 _ => ev_var rfl)
  have hx7 := e7 pb _ hb
  exact et_is (et_test (ev_op (ev_op (ev_var rfl) (ev_var rfl) (rv_ixL (sq_of hx7) (atInt (j := k) rfl (by omega)))) (ev_op (ev_var rfl) (ev_op (ev_op (ev_var rfl) (ev_var rfl) rv_I0) ev_c rv_I0) (rv_ixL (sq_of hx7) (atInt (j := k + g + 1) (by omega) (by omega)))) (rv_eq rfl))) (dec_int _ _)
/-- a comprehension of draws -/
theorem lm_sips {m : Addr} {mo : Int} {n : Nat} {ta : TA} {g many o5 o6 : Option V} (hm : MugAt H m) (h0 : 0 < mo) (h1 : mo ≤ 100000) (hn : n ≤ 100) (h : EvA ta [some (.ref m), some (.int 6), some (.int mo), g, many, o5, o6, none] H [.int (n : Int)]) {Q : VK}
    (q : ∀ D (vals : List Int) H', Kp m H H' → MugAt H' m → H' D = some (.lst (vals.map V.int)) → vals.length = n → (∀ v ∈ vals, 0 ≤ v ∧ v ≤ mo) → D ≠ m → Q (.ref D) H') :
    tLc (iRng1 ta) (gName 6) tYes (tCall spSip [] C8.E0 (tCons (tVar 0) (tCons (tOp (rI0 fun i j => .int (i + j)) (tVar 2) (tC (.int 1))) tNil))) [6] [some (.ref m), some (.int 6), some (.int mo), g, many, o5, o6, none] H Q :=
  h H (Ex.refl H) _ fun H1 e1 => ⟨(n : Int), rfl, by omega, by omega, fun D hD => by
    have hm1 := hm.ex e1
    have hDm : D ≠ m := fun z => by
      obtain ⟨a, b, c, hh⟩ := hm1
      rw [← z, hD] at hh
      cases hh
    refine lc_range (lo := 0) (n := (n : Int).toNat) (fun i H' => Kp m H1 H' ∧ MugAt H' m ∧ ∃ vals : List Int, H' D = some (.lst (vals.map V.int)) ∧ vals.length = i ∧ ∀ v ∈ vals, 0 ≤ v ∧ v ≤ mo) ⟨Kp.of (Ex.new hD), ?_, [], upd_same, rfl, fun v hv => by cases hv⟩ (fun i H' hi p => ?_) fun H' p => ?_
    · exact hm1.ex (Ex.new hD)
    · obtain ⟨kp, m1, vals, hd, hl, hv⟩ := p
      refine ⟨rfl, ?_⟩
      show tCall spSip [] C8.E0 (tCons (tVar 0) (tCons (tOp (rI0 fun i j => .int (i + j)) (tVar 2) (tC (.int 1))) tNil)) [some (.ref m), some (.int 6), some (.int mo), g, many, o5, some (.int (0 + (i : Int))), none] H' _
      refine ⟨.ref m, rfl, .int mo, rfl, mo, 1, rfl, rfl, m, mo + 1, rfl, m1, by omega, by omega, fun r H2 r0 r1 k2 m2 => ⟨vals.map V.int, k2 D _ hDm hd, sz_lt (by rw [List.length_map]; omega), ?_⟩⟩
      refine ⟨fun b o hb ho => ?_, ?_, vals ++ [r], ?_, by rw [List.length_append, hl]; rfl, fun v hv' => ?_⟩
      · rw [upd_ne (ne_of_none ho hD)]
        exact (kp.trans k2) b o hb ho
      · obtain ⟨a, b, c, hh⟩ := m2
        exact ⟨a, b, c, by rw [upd_ne (Ne.symm hDm)]; exact hh⟩
      · rw [upd_same, List.map_append]
        rfl
      · rcases List.mem_append.mp hv' with z | z
        · exact hv v z
        · rw [List.mem_singleton.mp z]
          omega
    · obtain ⟨kp, m1, vals, hd, hl, hv⟩ := p
      exact q D vals H' ((Kp.of e1).trans kp) m1 hd (by rw [hl]; exact Int.toNat_natCast n) hv hDm⟩
end
end Kg

set_option maxHeartbeats 4000000
/-! _law_draft, _law_made -/
namespace Kg
open PySem PySem.Spec PyProof.Rows L2 Evl
section
variable {P : Program} {w : World} {K : PySem.W.Frag} {mg : Str → Option Value} {base : Heap} {f C : Addr} {fd : FuncData} {H : Hp} {σ : L2.St}
/-- what came, all but the mug at m as it was -/
def RetM (m : Addr) (P : V → Hp → Prop) (H : Hp) (Q : VK) : Prop := ∀ v H', Kp m H H' → MugAt H' m → P v H' → Q v H'
def spDraft : Sp := fun vs H Q _ => ∃ (m : Addr) (mo : Int), vs = [.ref m, .int 6, .int mo] ∧ MugAt H m ∧ 0 < mo ∧ mo ≤ 100000 ∧ RetM m (fun v H' => ∃ p g ks, v = .ref p ∧ p ≠ m ∧ DueAt g ks p H' ∧ Good g ks) H Q
theorem ok_draft (N : Nms mg) (F : L2.Fun K "_law_draft" "_law_draft" sDraft f fd) (cS : CalK P w K mg base 1 "_law_sip" spSip) (cP : CalK P w K mg base 2 "_law_pick" spPick) : FnOk P w K mg base L2.CX0 3 f fd ["_law_mug_here", "_law_most_hills", "_law_most"] spDraft := by
  refine F.ok scDraft (fun vs H Q E h => ?_) (fun cdv A outer s H vs Q E hr h => ?_)
  · obtain ⟨m, mo, rfl, _⟩ := h
    rfl
  · obtain ⟨m, mo, rfl, hm, hmo0, hmo1, q⟩ := h
    refine ⟨_, pss_cons (ps_asg (pe_tup (pa_cons (C8.pe_c cP hr (by decide) (by rfl) (pa_cons (pv 0) (pa_cons (pe_lst (pa_cons pe_int (pa_cons pe_int (pa_cons pe_int (pa_cons pe_int (pa_cons pe_int (pa_cons pe_int (pa_cons pe_int pa_nil)))))))) pa_nil))) (pa_cons (pe_op op_add pe_int (C8.pe_c cS hr (by decide) (by rfl) (pa_cons (pv 0) (pa_cons (pv 1) pa_nil)))) pa_nil)))
        (pg_tup rfl (pgs_cons (pg_name (i := 3) scDraft.nd rfl (.inr rfl)) (pgs_cons (pg_name (i := 4) scDraft.nd rfl (.inl rfl)) pgs_nil))))
      (pss_cons (ps_asg (pe_callB cr_sortedI (by rfl) N.sorted boot_sorted (pa_cons (pe_lc (own := [("_law_k", 6)]) (g := gName 6) (tt := tYes) rfl scDraft.nd (pi_range1 (by rfl) N.range (pa_cons (pe_op op_add (pe_op op_add (pv 4) (pv 3)) pe_int) pa_nil)) (blkOk_by (N := nDraft) (sc := defScope sDraft) (by decide +kernel))
          (fun _ _ _ _ _ => pg_name (i := 6) scDraft.nd rfl (.inl rfl)) (fun _ _ _ _ _ => pts_nil) (fun _ _ _ _ _ => C8.pe_c cS hr (by decide) (by rfl) (pa_cons (pv 0) (pa_cons (pe_op op_add (pv 2) pe_int) pa_nil)))) pa_nil)) (pg_name (i := 5) scDraft.nd rfl (.inr rfl)))
      (Evl.pss_cut (ps_if (PW.pt (pw_and (pt_cmpR op_eq (C8.pe_c cS hr (by decide) (by rfl) (pa_cons (pv 0) (pa_cons pe_int pa_nil))) pe_int (nomark _)) (pw_and1 (pt_cmpR op_gt (pv 4) (pv 3) (nomark _)))))
        (pss_one (ps_asg (pe_op op_cat (pe_op op_cat (pe_op op_rep (pe_lst (pa_cons (pe_ix ix_list (pv 5) pe_int (fun _ _ => rfl)) pa_nil)) (pe_op op_add (pv 3) pe_int)) (pe_slice sl_list (pv 5) (po_some (pe_op op_add (pv 3) pe_int)) (po_some (pv 4)))) (pe_op op_rep (pe_lst (pa_cons (pe_ix ix_list (pv 5) (pe_un un_neg pe_int) (fun _ _ => rfl)) pa_nil)) (pe_op op_add (pv 3) pe_int))) (pg_name (i := 5) scDraft.nd rfl (.inr rfl)))) pss_nil)
      (pss_cons (ps_while PassesOwn.never (pt_cmpR (op_neD hr.units) (pe_lc (own := [("_law_k", 6)]) (g := gName 6) rfl scDraft.nd (pi_range1 (by rfl) N.range (pa_cons (pe_op op_sub (pe_op op_sub (pe_callB call_len_seq (by rfl) N.len boot_len (pa_cons (pv 5) pa_nil)) (pv 3)) pe_int) pa_nil)) (blkOk_by (N := nDraft) (sc := defScope sDraft) (by decide +kernel))
          (fun _ _ _ _ _ => pg_name (i := 6) scDraft.nd rfl (.inl rfl)) (fun _ _ _ _ _ => pts_one (pt_cmpR op_eq (pe_ix (r := rIxL K) ix_list (pv 5) (pv 6) (fun _ _ => rfl)) (pe_ix (r := rIxL K) ix_list (pv 5) (pe_op op_add (pe_op op_add (pv 6) (pv 3)) pe_int) (fun _ _ => rfl)) (nomark _))) (fun _ _ _ _ _ => pv 6)) (pe_lst pa_nil) (nomark _))
        (pss_cons (ps_asg (pe_ix ix_list (pe_lc (own := [("_law_k", 6)]) (g := gName 6) rfl scDraft.nd (pi_range1 (by rfl) N.range (pa_cons (pe_op op_sub (pe_op op_sub (pe_callB call_len_seq (by rfl) N.len boot_len (pa_cons (pv 5) pa_nil)) (pv 3)) pe_int) pa_nil)) (blkOk_by (N := nDraft) (sc := defScope sDraft) (by decide +kernel))
          (fun _ _ _ _ _ => pg_name (i := 6) scDraft.nd rfl (.inl rfl)) (fun _ _ _ _ _ => pts_one (pt_cmpR op_eq (pe_ix (r := rIxL K) ix_list (pv 5) (pv 6) (fun _ _ => rfl)) (pe_ix (r := rIxL K) ix_list (pv 5) (pe_op op_add (pe_op op_add (pv 6) (pv 3)) pe_int) (fun _ _ => rfl)) (nomark _))) (fun _ _ _ _ _ => pv 6)) pe_int (fun _ _ => rfl)) (pg_name (i := 6) scDraft.nd rfl (.inl rfl)))
        (pss_one (ps_asg (pe_op op_cat (pe_slice sl_list (pv 5) po_none (po_some (pe_op op_add (pe_op op_add (pv 6) (pv 3)) pe_int))) (pe_lc (own := [("_law_bolt", 7)]) (g := gName 7) (tt := tYes) rfl scDraft.nd (pi_list (pe_slice sl_list (pv 5) (po_some (pe_op op_add (pe_op op_add (pv 6) (pv 3)) pe_int)) po_none)) (blkOk_by (N := nDraft) (sc := defScope sDraft) (by decide +kernel))
          (fun _ _ _ _ _ => pg_name (i := 7) scDraft.nd rfl (.inl rfl)) (fun _ _ _ _ _ => pts_nil) (fun _ _ _ _ _ => pe_op op_add (pv 7) pe_int))) (pg_name (i := 5) scDraft.nd rfl (.inr rfl))))))
      (pss_one (ps_ret (pe_lst (pa_cons (pv 3) (pa_cons (pe_callTy call_tuple_of (by rfl) N.tuple boot_tuple (pa_cons (pv 5) pa_nil)) pa_nil)))))))), ?_⟩
    -- the grade, how many
    refine ⟨.ref m, rfl, ?_⟩
    refine el_lst (vs := [.int 0, .int 1, .int 1, .int 2, .int 2, .int 3, .int 4]) (ea_cons ev_c (ea_cons ev_c (ea_cons ev_c (ea_cons ev_c (ea_cons ev_c (ea_cons ev_c (ea_cons ev_c ea_nil))))))) (by decide) H (Ex.refl H) _ fun pl H1 hpl e1 h1 => ?_
    have hplm : pl ≠ m := fun z => by
      obtain ⟨a, b, c, hh⟩ := hm
      rw [← z, hpl] at hh
      cases hh
    refine ⟨m, .ref pl, rfl, hm.ex e1, .inl ⟨pl, _, rfl, hplm, h1, by decide, by decide, fun x H2 hx k2 m2 => ?_⟩⟩
    obtain ⟨g, hg4, rfl⟩ : ∃ g : Nat, g ≤ 4 ∧ x = .int (g : Int) := by
      simp only [List.mem_cons, List.not_mem_nil, or_false] at hx
      rcases hx with rfl | rfl | rfl | rfl | rfl | rfl | rfl
      · exact ⟨0, by decide, rfl⟩
      · exact ⟨1, by decide, rfl⟩
      · exact ⟨1, by decide, rfl⟩
      · exact ⟨2, by decide, rfl⟩
      · exact ⟨2, by decide, rfl⟩
      · exact ⟨3, by decide, rfl⟩
      · exact ⟨4, by decide, rfl⟩
    refine ⟨.ref m, rfl, .int 6, rfl, m, 6, rfl, m2, by decide, by decide, fun r H3 r0 r1 k3 m3 => ⟨1, r, rfl, rfl, by show (2 : Nat) ≤ sizeLine; decide, fun pt hpt => ⟨pt, _, rfl, st_of upd_same, rfl, .int (g : Int), [.int (1 + r)], rfl, .int (1 + r), [], rfl, rfl, ?_⟩⟩⟩
    obtain ⟨mn, hmn, hmn1, hmn6⟩ : ∃ mn : Nat, 1 + r = (mn : Int) ∧ 1 ≤ mn ∧ mn ≤ 6 := ⟨(1 + r).toNat, by omega, by omega, by omega⟩
    dsimp only
    rw [hmn]
    have k4 : Kp m H (upd H3 pt (.tup [.int (g : Int), .int (mn : Int)])) := (((Kp.of e1).trans k2).trans k3).trans (Kp.of (Ex.new hpt))
    have m4 : MugAt (upd H3 pt (.tup [.int (g : Int), .int (mn : Int)])) m := m3.ex (Ex.new hpt)
    generalize upd H3 pt (.tup [.int (g : Int), .int (mn : Int)]) = H4 at k4 m4
    -- the draws, sorted
    have hSip := fun Q0 : VK => lm_sips (Q := Q0) (m := m) (mo := mo) (n := mn + g + 1) (ta := tCons (tOp (rI0 fun i j => .int (i + j)) (tOp (rI0 fun i j => .int (i + j)) (tVar 4) (tVar 3)) (tC (.int 1))) tNil) (g := some (.int (g : Int))) (many := some (.int (mn : Int))) (o5 := none) (o6 := none) m4 hmo0 hmo1 (by omega)
      (ea_cons (ev_is (ev_op (ev_op (ev_var rfl) (ev_var rfl) rv_I0) ev_c rv_I0) (by congr 1)) ea_nil)
    refine q_cb1 (hSip _ fun D vals H5 k5 m5 hD hvl hv hDm => ⟨D, vals, rfl, sq_of hD, fun bl pb hperm hsrt hpb => ?_⟩)
    have hblm : pb ≠ m := fun z => by
      obtain ⟨a, b, c, hh⟩ := m5
      rw [← z, hpb] at hh
      cases hh
    have hl : bl.length = mn + g + 1 := by rw [hperm.length_eq, hvl]
    have hlo : ∀ b ∈ bl, 0 ≤ b ∧ b ≤ 100000 := fun b hb => by
      have := hv b (hperm.mem_iff.mp hb)
      omega
    have wayOf : ∀ {cl : List Int}, cl.length = mn + g + 1 → cl.Pairwise (· ≤ ·) → (∀ b ∈ cl, b ∈ bl) → Way g (mn + g + 1) cl := fun {cl} c1 c2 c3 => ⟨c1, c2, fun b hb => (hlo b (c3 b hb)).1, fun b hb => by
      have h1 := (hlo b (c3 b hb)).2
      have h2 := alike_le g cl
      omega⟩
    have k6 : Kp m H (upd H5 pb (.lst (bl.map V.int))) := (k4.trans k5).trans (Kp.of (Ex.new hpb))
    have m6 : MugAt (upd H5 pb (.lst (bl.map V.int))) m := m5.ex (Ex.new hpb)
    have h6 : (upd H5 pb (.lst (bl.map V.int))) pb = some (.lst (bl.map V.int)) := upd_same
    generalize upd H5 pb (.lst (bl.map V.int)) = H6 at k6 m6 h6
    -- the clamp
    refine q_cut (M := fun σ' H' => ∃ (pb : Addr) (bl : List Int), σ' = [some (.ref m), some (.int 6), some (.int mo), some (.int (g : Int)), some (.int (mn : Int)), some (.ref pb), none, none] ∧ Kp m H H' ∧ MugAt H' m ∧ pb ≠ m ∧ H' pb = some (.lst (bl.map V.int)) ∧ Way g (mn + g + 1) bl) ?_ fun σ' H' hM => ?_
    · refine ⟨.ref m, rfl, m, 3, rfl, m6, by decide, by decide, fun r2 H7 _ _ k7 m7 => ⟨rfl, _, rfl, ?_⟩⟩
      have h7 := k7 pb _ hblm h6
      have k67 := k6.trans k7
      have hstay : ∀ H8, Ex H7 H8 → (∃ (pc : Addr) (cl : List Int), ([some (.ref m), some (.int 6), some (.int mo), some (.int (g : Int)), some (.int (mn : Int)), some (.ref pb), none, none] : L2.St) = [some (.ref m), some (.int 6), some (.int mo), some (.int (g : Int)), some (.int (mn : Int)), some (.ref pc), none, none] ∧ Kp m H H8 ∧ MugAt H8 m ∧ pc ≠ m ∧ H8 pc = some (.lst (cl.map V.int)) ∧ Way g (mn + g + 1) cl) := fun H8 e8 => ⟨pb, bl, rfl, k67.trans (Kp.of e8), m7.ex e8, hblm, e8 _ _ h7, wayOf hl hsrt fun b hb => hb⟩
      generalize decide (V.int r2 = V.int 0) = bz
      cases bz with
      | false => exact hstay H7 (Ex.refl H7)
      | true =>
        show tTest (tOp (rI0 fun i j => .bl (decide (j < i))) (tVar 4) (tVar 3)) [some (.ref m), some (.int 6), some (.int mo), some (.int (g : Int)), some (.int (mn : Int)), some (.ref pb), none, none] H7 _
        refine et_test (b := decide ((g : Int) < (mn : Int))) (ev_op (ev_var rfl) (ev_var rfl) rv_I0) H7 (Ex.refl H7) _ fun H8 e8 => ?_
        by_cases hgm : (g : Int) < (mn : Int)
        · rw [decide_eq_true hgm]
          have h8 := e8 _ _ h7
          have hlen : (bl.map V.int).length = bl.length := List.length_map _
          have hd : (bl.map V.int)[bl.length - 1]? = some (.int (bl.getD (bl.length - 1) 0)) := by
            rw [List.getElem?_map, List.getElem?_eq_getElem (by omega), getD_eq (by omega)]
            rfl
          have hlast : atI (bl.map V.int) (-1) = some (.int (bl.getD (bl.length - 1) 0)) := by
            unfold atI ixN
            rw [hlen, if_neg (by decide), if_pos (by omega)]
            show (bl.map V.int)[(-1 + (bl.length : Int)).toNat]? = _
            rw [show (-1 + (bl.length : Int)).toNat = bl.length - 1 by omega]
            exact hd
          have hcl := el_cat (el_cat (el_rep1 (k := g + 1) (σ := [some (.ref m), some (.int 6), some (.int mo), some (.int (g : Int)), some (.int (mn : Int)), some (.ref pb), none, none]) (H := H8) (ta := tLst (tCons (tOp (rIxL K) (tVar 5) (tC (.int 0))) tNil)) (tb := tOp (rI0 fun i j => .int (i + j)) (tVar 3) (tC (.int 1)))
              (el_lst (ea_cons (ev_op (ev_var rfl) ev_c (rv_ixL (sq_of h8) (atInt (j := 0) rfl (by omega)))) ea_nil) (by show (1 : Nat) ≤ 100000; decide)) (fun H9 e9 => ev_is (ev_op (ev_var (v := .int (g : Int)) rfl) ev_c rv_I0) rfl) (by omega))
              (el_sl (K := K) (te := tVar 5) (tl := tPart (tOp (rI0 fun i j => .int (i + j)) (tVar 3) (tC (.int 1)))) (th := tPart (tVar 4)) (lo := some (((g + 1 : Nat) : Int))) (hi := some ((mn : Int))) (ev_var rfl) (eo_some (ev_is (ev_op (ev_var (v := .int (g : Int)) rfl) ev_c rv_I0) rfl)) (eo_some (ev_var rfl)) (sq_of h8)) (by rw [List.length_replicate]; have := cutV_length (bl.map V.int) (some ((g + 1 : Nat) : Int)) (some (mn : Int)); omega))
              (el_rep1 (k := g + 1) (ta := tLst (tCons (tOp (rIxL K) (tVar 5) (tUn (rU fun i => .int (-i)) (tC (.int 1)))) tNil)) (tb := tOp (rI0 fun i j => .int (i + j)) (tVar 3) (tC (.int 1))) (el_lst (ea_cons (ev_op (ev_var rfl) (ev_un ev_c ru_neg) (rv_ixL (sq_of h8) hlast)) ea_nil) (by show (1 : Nat) ≤ 100000; decide)) (fun H9 e9 => ev_is (ev_op (ev_var (v := .int (g : Int)) rfl) ev_c rv_I0) rfl) (by omega)) (by
                rw [List.length_append, List.length_replicate, List.length_replicate]
                have := cutV_length (bl.map V.int) (some ((g + 1 : Nat) : Int)) (some (mn : Int))
                omega)
          have e0 : (List.replicate (g + 1) (V.int (bl.getD 0 0)) ++ cutV (bl.map V.int) (some ((g + 1 : Nat) : Int)) (some (mn : Int))) ++ List.replicate (g + 1) (V.int (bl.getD (bl.length - 1) 0)) = (clamp g mn bl).map V.int := by
            rw [cut_mid (by omega) (by omega)]
            unfold clamp
            rw [List.map_append, List.map_append, List.map_replicate, List.map_replicate, List.map_take, List.map_drop]
          rw [e0] at hcl
          obtain ⟨c1, c2, c3⟩ := clamp_ok (g := g) (many := mn) (bl := bl) (by omega) (by omega) hsrt
          refine s_asgL hcl fun pc H9 hpc e9 h9 => ⟨pc, clamp g mn bl, rfl, k67.trans (Kp.of (e8.trans e9)), m7.ex (e8.trans e9), fun z => ?_, h9, wayOf c1 c2 c3⟩
          obtain ⟨a, b, c, hh⟩ := m7.ex e8
          rw [← z, hpc] at hh
          cases hh
        · rw [decide_eq_false hgm]
          exact hstay H8 e8
    · obtain ⟨pb, bl, rfl, kM, mM, hpm, hpb, hW⟩ := hM
      refine q_while (fun μ σ' H' => ∃ (pb : Addr) (bl : List Int) (o : Option V), σ' = [some (.ref m), some (.int 6), some (.int mo), some (.int (g : Int)), some (.int (mn : Int)), some (.ref pb), o, none] ∧ Kp m H H' ∧ MugAt H' m ∧ pb ≠ m ∧ H' pb = some (.lst (bl.map V.int)) ∧ Way g (mn + g + 1) bl ∧ (alike g bl).length = μ) (alike g bl).length ⟨pb, bl, none, rfl, kM, mM, hpm, hpb, hW, rfl⟩ fun μ σ' H' hw => ?_
      clear hpb hW hpm kM mM
      obtain ⟨pb, bl, o, rfl, kM, mM, hpm, hpb, hW, rfl⟩ := hw
      have hbl := hW.len
      have hAl := fun {H1 : Hp} (e1 : Ex H' H1) => el_alike (K := K) (m := m) (mo := mo) (mn := (mn : Int)) (g := g) (o := o) (e1 pb _ hpb) (by omega) hg4
      have tN : Ev (tOp (rNeD K) (tLc (iRng1 (tCons (tOp (rI0 fun i j => .int (i - j)) (tOp (rI0 fun i j => .int (i - j)) (tCB (fun xs H Q => ∃ p ys, xs = [V.ref p] ∧ (SqL K H p ys ∨ SqT K H p ys) ∧ Q (.int ys.length) H) (tCons (tVar 5) tNil)) (tVar 3)) (tC (.int 1))) tNil)) (gName 6) (tTest (tOp rEq (tOp (rIxL K) (tVar 5) (tVar 6)) (tOp (rIxL K) (tVar 5) (tOp (rI0 fun i j => .int (i + j)) (tOp (rI0 fun i j => .int (i + j)) (tVar 6) (tVar 3)) (tC (.int 1)))))) (tVar 6) [6]) (tLst tNil)) [some (.ref m), some (.int 6), some (.int mo), some (.int (g : Int)), some (.int (mn : Int)), some (.ref pb), o, none] H' (.bl (!decide ((alike g bl).map (fun k : Nat => (k : Int)) = []))) := by
        rw [← eqv_ints _ []]
        exact ev_opLL (hAl (Ex.refl H')) (el_lst (vs := []) ea_nil (by decide)) fun p q H8 h8 h9 e8 => rv_neD (d := .list (((alike g bl).map fun k : Nat => (k : Int)).map PyData.int)) (e := .list (([] : List Int).map PyData.int)) (fun H9 e9 => .lst (sq_of (e9 p _ h8)) (dp_ints _)) (fun H9 e9 => .lst (sq_of (e9 q _ h9)) .nil) (shp_ints _) (shp_ints _)
      refine ⟨_, et_test tN, fun hb H1 e1 => ?_, fun hb H1 e1 => ?_⟩
      · obtain ⟨k, r, hk⟩ : ∃ k r, alike g bl = k :: r := by
          cases hz : alike g bl with
          | nil => rw [hz] at hb; simp at hb
          | cons k r => exact ⟨k, r, rfl⟩
        obtain ⟨w1, w2⟩ := way_bump hW hk
        have hkl : k + g + 1 < bl.length := by
          have hm' : k ∈ alike g bl := by rw [hk]; exact List.mem_cons_self
          have := List.mem_range.mp (List.mem_filter.mp hm').1
          omega
        refine ⟨fun σ2 H2 => ∃ (pb : Addr) (bl2 : List Int) (o : Option V), σ2 = [some (.ref m), some (.int 6), some (.int mo), some (.int (g : Int)), some (.int (mn : Int)), some (.ref pb), o, none] ∧ Kp m H H2 ∧ MugAt H2 m ∧ pb ≠ m ∧ H2 pb = some (.lst (bl2.map V.int)) ∧ Way g (mn + g + 1) bl2 ∧ (alike g bl2).length < (alike g bl).length, fun σ2 H2 h2 => ?_, ?_⟩
        · obtain ⟨pc, cl, o2, a1, a2, a3, a4, a5, a6, a7⟩ := h2
          exact ⟨_, a7, pc, cl, o2, a1, a2, a3, a4, a5, a6, rfl⟩
        · refine q_asg (v := .int (k : Int)) (ev_opL1 (hAl e1) (fun _ _ => ev_c) fun p H8 h8 e8 => rv_ixL (sq_of h8) (atI_nat (j := 0) rfl (by rw [hk]; rfl))) fun H2 e2 => ?_
          have hp2 := e2 pb _ (e1 pb _ hpb)
          have hcl : EvL (tOp rCat (tSl (rSlL K) (tVar 5) tNoPart (tPart (tOp (rI0 fun i j => .int (i + j)) (tOp (rI0 fun i j => .int (i + j)) (tVar 6) (tVar 3)) (tC (.int 1))))) (tLc (iList K (tSl (rSlL K) (tVar 5) (tPart (tOp (rI0 fun i j => .int (i + j)) (tOp (rI0 fun i j => .int (i + j)) (tVar 6) (tVar 3)) (tC (.int 1)))) tNoPart)) (gName 7) tYes (tOp (rI0 fun i j => .int (i + j)) (tVar 7) (tC (.int 1))) [7]))
              [some (.ref m), some (.int 6), some (.int mo), some (.int (g : Int)), some (.int (mn : Int)), some (.ref pb), some (.int (k : Int)), none] H2 ((bump (k + g + 1) bl).map V.int) := by
            have p1 := el_sl (K := K) (σ := [some (.ref m), some (.int 6), some (.int mo), some (.int (g : Int)), some (.int (mn : Int)), some (.ref pb), some (.int (k : Int)), none]) (te := tVar 5) (tl := tNoPart) (th := tPart (tOp (rI0 fun i j => .int (i + j)) (tOp (rI0 fun i j => .int (i + j)) (tVar 6) (tVar 3)) (tC (.int 1)))) (hi := some (((k + g + 1 : Nat) : Int))) (ev_var rfl) eo_none (eo_some (ev_is (ev_op (ev_op (ev_var (v := .int (k : Int)) rfl) (ev_var (v := .int (g : Int)) rfl) rv_I0) ev_c rv_I0) rfl)) (sq_of hp2)
            have p2 := el_sl (K := K) (σ := [some (.ref m), some (.int 6), some (.int mo), some (.int (g : Int)), some (.int (mn : Int)), some (.ref pb), some (.int (k : Int)), none]) (te := tVar 5) (th := tNoPart) (tl := tPart (tOp (rI0 fun i j => .int (i + j)) (tOp (rI0 fun i j => .int (i + j)) (tVar 6) (tVar 3)) (tC (.int 1)))) (lo := some (((k + g + 1 : Nat) : Int))) (ev_var rfl) (eo_some (ev_is (ev_op (ev_op (ev_var (v := .int (k : Int)) rfl) (ev_var (v := .int (g : Int)) rfl) rv_I0) ev_c rv_I0) rfl)) eo_none (sq_of hp2)
            rw [cut_to] at p1
            rw [cut_from] at p2
            have hln : (bl.map V.int).length = bl.length := List.length_map _
            have p3 : EvL (tLc (iList K (tSl (rSlL K) (tVar 5) (tPart (tOp (rI0 fun i j => .int (i + j)) (tOp (rI0 fun i j => .int (i + j)) (tVar 6) (tVar 3)) (tC (.int 1)))) tNoPart)) (gName 7) tYes (tOp (rI0 fun i j => .int (i + j)) (tVar 7) (tC (.int 1))) [7]) [some (.ref m), some (.int 6), some (.int mo), some (.int (g : Int)), some (.int (mn : Int)), some (.ref pb), some (.int (k : Int)), none] H2 (((bl.drop (k + g + 1)).map (· + 1)).map V.int) := by
              have e0 : (((bl.map V.int).drop (k + g + 1)).filter fun _ => true).map (fun v => match v with | .int i => V.int (i + 1) | v => v) = ((bl.drop (k + g + 1)).map (· + 1)).map V.int := by
                rw [filter_yes, ← List.map_drop, List.map_map, List.map_map]
                rfl
              rw [← e0]
              refine el_lcN (fun _ => true) _ p2 (by rw [List.length_drop, hln]; omega) (fun _ => rfl) (fun c _ H3 _ => et_yes) fun c hc H3 e3 _ => ?_
              obtain ⟨i, _, rfl⟩ := List.mem_map.mp (List.mem_of_mem_drop hc)
              exact ev_op (ev_var rfl) ev_c rv_I0
            have p4 := el_cat p1 p3 (by simp only [List.length_take, List.length_map, List.length_drop]; omega)
            have e1 : (bl.map V.int).take (k + g + 1) ++ ((bl.drop (k + g + 1)).map (· + 1)).map V.int = (bump (k + g + 1) bl).map V.int := by
              unfold bump
              rw [List.map_append, List.map_take]
            rw [e1] at p4
            exact p4
          refine s_asgL hcl fun pc H3 hpc e3 h3 => ⟨pc, _, _, rfl, kM.trans (Kp.of ((e1.trans e2).trans e3)), mM.ex ((e1.trans e2).trans e3), fun z => ?_, h3, w1, w2⟩
          obtain ⟨a, b, c, hh⟩ := mM.ex (e1.trans e2)
          rw [← z, hpc] at hh
          cases hh
      · have hnil : alike g bl = [] := by
          rw [Bool.not_eq_false', decide_eq_true_iff, List.map_eq_nil_iff] at hb
          exact hb
        have hG := way_good hW hg4 (by omega) (by omega) hnil
        have hp1 := e1 pb _ hpb
        refine en_lst2U (ev_var (i := 3) (σ := [some (.ref m), some (.int 6), some (.int mo), some (.int (g : Int)), some (.int (mn : Int)), some (.ref pb), o, none]) (H := H1) (v := .int (g : Int)) rfl) (eu_tupleOfV (ev_var (i := 5) rfl) (sq_of hp1)) H1 (Ex.refl H1) _ fun p H9 hp' e9 hd => ?_
        refine q (.ref p) H9 (kM.trans (Kp.of (e1.trans e9))) (mM.ex (e1.trans e9)) ⟨p, g, bl, rfl, fun z => ?_, hd, hG⟩
        obtain ⟨a, b, c, hh⟩ := mM.ex e1
        rw [← z, hp'] at hh
        cases hh
end
end Kg

set_option maxHeartbeats 4000000
/-! what may be handed to read as a line; _law_made -/
namespace Kg
open PySem PySem.Spec PyProof.Rows L2 Evl
/-- all but m and the tables of code objects stays -/
def Kn (m : Addr) (H H' : Hp) : Prop := ∀ b o, b ≠ m → H b = some o → (∀ ps, o ≠ .tbl ps) → H' b = some o
theorem Kn.refl (m : Addr) (H : Hp) : Kn m H H := fun _ _ _ h _ => h
theorem Kn.trans {m : Addr} {H H1 H2 : Hp} (a : Kn m H H1) (b : Kn m H1 H2) : Kn m H H2 := fun x o hx h n => b x o hx (a x o hx h n) n
theorem Kn.kp {m : Addr} {H H' : Hp} (k : Kp m H H') : Kn m H H' := fun b o hb h _ => k b o hb h
theorem Kn.of {m : Addr} {H H' : Hp} (e : Ex H H') : Kn m H H' := fun b o _ h _ => e b o h
theorem Kn.ext {m : Addr} {H H' : Hp} (e : LamX.ExtN H H') : Kn m H H' := fun b o _ h n => e b o h n
theorem lst_tbl {xs : List V} (ps : Array Value) : HO.lst xs ≠ .tbl ps := fun z => by cases z
theorem tup_tbl {xs : List V} (ps : Array Value) : HO.tup xs ≠ .tbl ps := fun z => by cases z
theorem ins_tbl {C dx : Addr} {fs : List (Str × V)} (ps : Array Value) : HO.ins C dx fs ≠ .tbl ps := fun z => by cases z
theorem dk_tbl {xs : List (Key × V)} (ps : Array Value) : HO.dK xs ≠ .tbl ps := fun z => by cases z
def LineAt (K : PySem.W.Frag) (m : Addr) (v : V) (H : Hp) : Prop := ∃ (pz : Option (Nat × List Int)) (d : PyData), (∀ H', Kn m H H' → Given K H' v pz ∧ Rd1 K H' v d) ∧ d.showable = true ∧ d.depth ≤ 40 ∧ d.shown.length ≤ 90000
theorem LineAt.kn {K : PySem.W.Frag} {m : Addr} {v : V} {H H' : Hp} (h : LineAt K m v H) (k : Kn m H H') : LineAt K m v H' := by
  obtain ⟨pz, d, h1, h2⟩ := h
  exact ⟨pz, d, fun H2 k2 => h1 H2 (k.trans k2), h2⟩
theorem shown_pair (t : Str) (d : PyData) : (PyData.list [.str t, d]).shown = ((((("[" : Str) ++ ("" : Str)) ++ reprText t) ++ (", " : Str)) ++ d.shown) ++ ("]" : Str) := by
  simp only [PyData.shown, PyData.shownAll]
  rfl
theorem pair_size {d : PyData} (h : d.shown.length ≤ 90000) : (PyData.list [.str "text", d]).shown.length ≤ sizeLine := by
  rw [shown_pair]
  simp only [strLen_append]
  have h1 : (("[" : Str)).length = 1 := by decide +kernel
  have h2 : (("" : Str)).length = 0 := by decide +kernel
  have h3 : ((", " : Str)).length = 2 := by decide +kernel
  have h4 : (("]" : Str)).length = 1 := by decide +kernel
  have h5 : (reprText "text").length = 6 := by decide +kernel
  rw [h1, h2, h3, h4, h5]
  exact sz_of (by omega)
section
variable {K : PySem.W.Frag} {H : Hp} {m : Addr}
theorem line_sc {v : V} {t : String} {d : PyData} (h : ∀ H, TyOf K H v (.type t)) (hk : kitB t "str" = some false) (hd : ∀ H, Dp K H v d) (h1 : d.showable = true) (h2 : d.depth ≤ 40) (h3 : d.shown.length ≤ 90000) : LineAt K m v H :=
  ⟨none, d, fun H' _ => ⟨.inr ⟨rfl, .type t, fun H2 _ => .base (h H2), kit_ty hk⟩, .dp (hd H')⟩, h1, h2, h3⟩
theorem line_str {z : Str} (h : okS 1000 z) : LineAt K m (.str z) H := ⟨parse z, .str z, fun H' _ => ⟨.inl ⟨z, rfl, h, rfl⟩, .dp (.str z)⟩, rfl, by simp [PyData.depth], by
  have h1 := StrLaws.reprText_len z fun c hc => Nat.lt_of_lt_of_le (h.2 c hc) (by decide)
  have h2 := h.len
  show (reprText z).length ≤ 90000
  omega⟩
theorem line_tup {a : Addr} {xs : List V} {ds : List PyData} (ha : H a = some (.tup xs)) (hm : a ≠ m) (hd : ∀ H', Kn m H H' → DpAll K H' xs ds) (h1 : (PyData.tuple ds).showable = true) (h2 : (PyData.tuple ds).depth ≤ 40) (h3 : (PyData.tuple ds).shown.length ≤ 90000) : LineAt K m (.ref a) H :=
  ⟨none, .tuple ds, fun H' k => by
    have h' := k a _ hm ha tup_tbl
    exact ⟨.inr ⟨rfl, .type "tuple", fun H2 e => .base (.tup (e a _ h')), kit_ty (by decide +kernel)⟩, .dp (.tup (st_of h') (hd H' k))⟩, h1, h2, h3⟩
theorem line_lst {a : Addr} {xs : List V} {ds : List PyData} (ha : H a = some (.lst xs)) (hm : a ≠ m) (hd : ∀ H', Kn m H H' → DpAll K H' xs ds) (h1 : (PyData.list ds).showable = true) (h2 : (PyData.list ds).depth ≤ 40) (h3 : (PyData.list ds).shown.length ≤ 90000) : LineAt K m (.ref a) H :=
  ⟨none, .list ds, fun H' k => by
    have h' := k a _ hm ha lst_tbl
    exact ⟨.inr ⟨rfl, .type "list", fun H2 e => .base (.lst (e a _ h')), kit_ty (by decide +kernel)⟩, .dp (.lst (sq_of h') (hd H' k))⟩, h1, h2, h3⟩
theorem line_dict {a : Addr} (ha : H a = some (.dK [])) (hm : a ≠ m) : LineAt K m (.ref a) H :=
  ⟨none, .dict [], fun H' k => by
    have h' := k a _ hm ha dk_tbl
    exact ⟨.inr ⟨rfl, .type "dict", fun H2 e => .base (.dK (e a _ h')), kit_ty (by decide +kernel)⟩, .dict h'⟩, by decide +kernel, by decide +kernel, by decide +kernel⟩
theorem MugAt.ne {p : Addr} (h : MugAt H m) (hp : H p = none) : p ≠ m := fun z => by
  obtain ⟨a, b, c, hh⟩ := h
  rw [← z, hp] at hh
  cases hh
end
section
variable {P : Program} {w : World} {K : PySem.W.Frag} {mg : Str → Option Value} {base : Heap} {f C : Addr} {fd : FuncData} {H : Hp} {σ : L2.St}
def spMade (C : Addr) : Sp := fun vs H Q _ => ∃ (p : Addr) (g : Nat) (ks : List Int), vs = [.ref p] ∧ DueAt g ks p H ∧ Good g ks ∧ RetN (fun q H2 => ∃ a, FrA C H2 q a g ks) H Q
theorem ok_made (F : L2.Fun K "_law_made" "_law_made" sMade f fd) (cM : C8.Mak P w K mg base 4 "Frame" C (spInit C) []) : FnOk P w K mg base L2.CX0 6 f fd ["_law_draft_here"] (spMade C) := by
  refine F.ok scMade (fun vs H Q E h => ?_) (fun cdv A outer s H vs Q E hr h => ?_)
  · obtain ⟨p, g, ks, rfl, _⟩ := h
    rfl
  · obtain ⟨p, g, ks, rfl, ⟨a, h1, h2⟩, hG, q⟩ := h
    refine ⟨_, pss_one (ps_ret (C8.pe_mk cM hr (by decide) (by rfl) (pa_cons (pe_ix ix_list (pv 0) pe_int (fun _ _ => rfl)) (pa_cons (pe_ix ix_list (pv 0) pe_int (fun _ _ => rfl)) pa_nil)))), ?_⟩
    refine en_make (σ := [some (.ref p)]) (g := g) (a := a) (ea_cons (ev_op (ev_var rfl) ev_c (rv_ixL (sq_of h1) (atI_nat (j := 0) rfl rfl))) (ea_cons (ev_op (ev_var rfl) ev_c (rv_ixL (sq_of h1) (atI_nat (j := 1) rfl rfl))) ea_nil)) h2 hG H (Ex.refl H) _ fun x H2 hx e2 hF => q x H2 hx e2 ⟨a, hF⟩
theorem sn_made {E : XK} {ta : TE} {p : Addr} {g : Nat} {ks : List Int} (h : Ev ta σ H (.ref p)) (hd : DueAt g ks p H) (hG : Good g ks) : EvN (tCall (spMade C) [] E (tCons ta tNil)) σ H (fun q H2 => ∃ a, FrA C H2 q a g ks) := fun H1 e1 Q q =>
  h H1 e1 _ fun H2 e2 => by
    obtain ⟨a, h1, h2⟩ := hd
    exact ⟨p, g, ks, rfl, ⟨a, (e1.trans e2) _ _ h1, (e1.trans e2) _ _ h2⟩, hG, fun x H3 hx e3 hF => q x H3 (fresh_back e2 hx) (e2.trans e3) hF⟩
end
end Kg

set_option maxHeartbeats 4000000
/-! _law_odd -/
namespace Kg
open PySem PySem.Spec PyProof.Rows L2 Evl
section
variable {P : Program} {w : World} {K : PySem.W.Frag} {mg : Str → Option Value} {base : Heap} {f C : Addr} {fd : FuncData} {H : Hp} {σ : L2.St} {m : Addr} {te : TE} {t : TA}
/-- a value that is a line -/
def EvP (K : PySem.W.Frag) (m : Addr) (te : TE) (σ : L2.St) (H : Hp) : Prop := ∀ H1, Ex H H1 → ∀ Q : VK, (∀ v H2, Ex H1 H2 → LineAt K m v H2 → Q v H2) → te σ H1 Q
def EvAP (K : PySem.W.Frag) (m : Addr) (n : Nat) (t : TA) (σ : L2.St) (H : Hp) : Prop := ∀ H1, Ex H H1 → ∀ Q : List V → Hp → Prop, (∀ vs H2, Ex H1 H2 → vs.length = n → (∀ v ∈ vs, LineAt K m v H2) → Q vs H2) → t σ H1 Q
theorem eap_nil : EvAP K m 0 tNil σ H := fun H1 _ Q q => q [] H1 (Ex.refl H1) rfl fun v hv => by cases hv
theorem eap_cons {n : Nat} (h : EvP K m te σ H) (hr : EvAP K m n t σ H) : EvAP K m (n + 1) (tCons te t) σ H := fun H1 e Q q =>
  h H1 e _ fun v H2 e2 hv => hr H2 (e.trans e2) _ fun vs H3 e3 hl hvs => q (v :: vs) H3 (e2.trans e3) (by rw [List.length_cons, hl]) fun x hx => by
    rcases List.mem_cons.mp hx with rfl | hx
    · exact hv.kn (Kn.of e3)
    · exact hvs x hx
theorem ep_sc {v : V} {ty : String} {d : PyData} (he : Ev te σ H v) (h : ∀ H, TyOf K H v (.type ty)) (hk : kitB ty "str" = some false) (hd : ∀ H, Dp K H v d) (h1 : d.showable = true) (h2 : d.depth ≤ 40) (h3 : d.shown.length ≤ 90000) : EvP K m te σ H := fun H1 e Q q =>
  he H1 e _ fun H2 e2 => q v H2 e2 (line_sc h hk hd h1 h2 h3)
theorem ep_int {i : Int} (he : Ev te σ H (.int i)) (h1 : (PyData.int i).showable = true) (h3 : (PyData.int i).shown.length ≤ 90000) : EvP K m te σ H := ep_sc he (fun _ => .int i) (by decide +kernel) (fun _ => .int i) h1 (by simp [PyData.depth]) h3
theorem ep_str {z : Str} (he : Ev te σ H (.str z)) (hz : okS 1000 z) : EvP K m te σ H := fun H1 e Q q => he H1 e _ fun H2 e2 => q _ H2 e2 (line_str hz)
theorem ep_tup {vs : List V} {ds : List PyData} (hm : MugAt H m) (he : EvU te σ H vs) (hd : ∀ H, DpAll K H vs ds) (h1 : (PyData.tuple ds).showable = true) (h2 : (PyData.tuple ds).depth ≤ 40) (h3 : (PyData.tuple ds).shown.length ≤ 90000) : EvP K m te σ H := fun H1 e Q q =>
  he H1 e _ fun p H2 hp e2 hx => q _ H2 e2 (line_tup hx ((hm.ex e).ne hp) (fun H' _ => hd H') h1 h2 h3)
theorem ep_lst {vs : List V} {ds : List PyData} (hm : MugAt H m) (he : EvL te σ H vs) (hd : ∀ H, DpAll K H vs ds) (h1 : (PyData.list ds).showable = true) (h2 : (PyData.list ds).depth ≤ 40) (h3 : (PyData.list ds).shown.length ≤ 90000) : EvP K m te σ H := fun H1 e Q q =>
  he H1 e _ fun p H2 hp e2 hx => q _ H2 e2 (line_lst hx ((hm.ex e).ne hp) (fun H' _ => hd H') h1 h2 h3)
theorem ep_dict (hm : MugAt H m) : EvP K m tDNewK σ H := fun H1 e Q q p hp => q _ _ (Ex.new hp) (line_dict upd_same ((hm.ex e).ne hp))
/-- ((i, j),) -/
theorem ep_tup2 {i j : Int} (hm : MugAt H m) (he : EvU te σ H [.int i, .int j]) (h1 : (PyData.tuple [.tuple [.int i, .int j]]).showable = true) (h2 : (PyData.tuple [.tuple [.int i, .int j]]).depth ≤ 40) (h3 : (PyData.tuple [.tuple [.int i, .int j]]).shown.length ≤ 90000) : EvP K m (tTup (tCons te tNil)) σ H := fun H1 e Q q =>
  he H1 e _ fun p H2 hp e2 hx => ⟨by show (1 : Nat) ≤ sizeLine; decide, fun r hr => q _ _ (e2.trans (Ex.new hr)) (line_tup (ds := [.tuple [.int i, .int j]]) upd_same (((hm.ex e).ex e2).ne hr) (fun H' k => .cons (.tup (st_of (k p _ ((hm.ex e).ne hp) (by rw [upd_ne (ne_of_none hx hr)]; exact hx) tup_tbl)) (.cons (.int i) (.cons (.int j) .nil))) .nil) h1 h2 h3)⟩
/-- a new list of lines -/
def EvLP (K : PySem.W.Frag) (m : Addr) (n : Nat) (te : TE) (σ : L2.St) (H : Hp) : Prop := ∀ H1, Ex H H1 → ∀ Q : VK, (∀ p vs H2, H1 p = none → Ex H1 H2 → H2 p = some (.lst vs) → vs.length = n → (∀ v ∈ vs, LineAt K m v H2) → Q (.ref p) H2) → te σ H1 Q
theorem elp_lst {n : Nat} (h : EvAP K m n t σ H) (hn : n ≤ 1000) : EvLP K m n (tLst t) σ H := fun H1 e Q q =>
  h H1 e _ fun vs H2 e2 hl hv => ⟨sz_of (by omega), fun p hp => q p vs _ (fresh_back e2 hp) (e2.trans (Ex.new hp)) upd_same hl fun v hv' => (hv v hv').kn (Kn.of (Ex.new hp))⟩
theorem ep_cI (i : Int) (h1 : (PyData.int i).showable = true) (h3 : (PyData.int i).shown.length ≤ 90000) : EvP K m (tC (.int i)) σ H := ep_int ev_c h1 h3
theorem ep_cS (z : Str) (h : (decide (z.cps.toList.length ≤ 1000) && z.cps.toList.all (· < 128)) = true) : EvP K m (tC (.str z)) σ H := ep_str ev_c (okS_lit z h)
theorem ep_cN : EvP K m (tC .non) σ H := ep_sc ev_c (fun _ => .non) (by decide +kernel) (fun _ => .non) rfl (by decide +kernel) (by decide +kernel)
theorem ep_cB (b : Bool) : EvP K m (tC (.bl b)) σ H := ep_sc ev_c (fun _ => .bl b) (by decide +kernel) (fun _ => .bl b) rfl (by cases b <;> decide +kernel) (by cases b <;> decide +kernel)
theorem ev_pow6 : Ev (tOp (rI CPow fun i j => .int (i ^ j.toNat)) (tC (.int 10)) (tC (.int 6))) σ H (.int 1000000) := ev_is (ev_op ev_c ev_c (rv_I (show (0:Int) ≤ 6 ∧ (6:Int) ≤ 1000000 ∧ (10:Int).natAbs < 2 ^ 64 from ⟨by decide, by decide, by decide⟩))) (congrArg V.int (by decide +kernel))
theorem ev_pow20 : Ev (tOp (rI CPow fun i j => .int (i ^ j.toNat)) (tC (.int 10)) (tC (.int 20))) σ H (.int 100000000000000000000) := ev_is (ev_op ev_c ev_c (rv_I (show (0:Int) ≤ 20 ∧ (20:Int) ≤ 1000000 ∧ (10:Int).natAbs < 2 ^ 64 from ⟨by decide, by decide, by decide⟩))) (congrArg V.int (by decide +kernel))
theorem ep_neg1 : EvP K m (tUn (rU fun i => .int (-i)) (tC (.int 1))) σ H := ep_int (i := -1) (ev_un ev_c ru_neg) (by decide +kernel) (by decide +kernel)
theorem ep_pow6 : EvP K m (tOp (rI CPow fun i j => .int (i ^ j.toNat)) (tC (.int 10)) (tC (.int 6))) σ H := ep_int ev_pow6 (by decide +kernel) (by decide +kernel)
theorem ep_pow6p : EvP K m (tOp (rI0 fun i j => .int (i + j)) (tOp (rI CPow fun i j => .int (i ^ j.toNat)) (tC (.int 10)) (tC (.int 6))) (tC (.int 1))) σ H := ep_int (i := 1000001) (ev_op ev_pow6 ev_c rv_I0) (by decide +kernel) (by decide +kernel)
theorem ep_pow20p : EvP K m (tOp (rI0 fun i j => .int (i + j)) (tOp (rI CPow fun i j => .int (i ^ j.toNat)) (tC (.int 10)) (tC (.int 20))) (tC (.int 1))) σ H := ep_int (i := 100000000000000000001) (ev_op ev_pow20 ev_c rv_I0) (by decide +kernel) (by decide +kernel)
theorem ep_t0 (hm : MugAt H m) : EvP K m (tTup tNil) σ H := ep_tup (vs := []) (ds := []) hm (eu_tup ea_nil (by decide)) (fun _ => .nil) (by decide +kernel) (by decide +kernel) (by decide +kernel)
theorem ep_t1 (hm : MugAt H m) : EvP K m (tTup (tCons (tC (.int 0)) tNil)) σ H := ep_tup (vs := [.int 0]) (ds := [.int 0]) hm (eu_tup (ea_cons ev_c ea_nil) (by decide)) (fun _ => .cons (.int 0) .nil) (by decide +kernel) (by decide +kernel) (by decide +kernel)
theorem ep_tN (hm : MugAt H m) : EvP K m (tTup (tCons (tC .non) tNil)) σ H := ep_tup (vs := [.non]) (ds := [.none]) hm (eu_tup (ea_cons ev_c ea_nil) (by decide)) (fun _ => .cons .non .nil) (by decide +kernel) (by decide +kernel) (by decide +kernel)
theorem ep_p (i j : Int) (hm : MugAt H m) (h1 : (PyData.tuple [.int i, .int j]).showable = true) (h2 : (PyData.tuple [.int i, .int j]).depth ≤ 40) (h3 : (PyData.tuple [.int i, .int j]).shown.length ≤ 90000) : EvP K m (tTup (tCons (tC (.int i)) (tCons (tC (.int j)) tNil))) σ H := ep_tup (vs := [.int i, .int j]) (ds := [.int i, .int j]) hm (eu_tup (ea_cons ev_c (ea_cons ev_c ea_nil)) (by show (2 : Nat) ≤ 100000; decide)) (fun _ => .cons (.int i) (.cons (.int j) .nil)) h1 h2 h3
theorem ep_l15 (hm : MugAt H m) : EvP K m (tLst (tCons (tC (.int 1)) (tCons (tC (.int 5)) tNil))) σ H := ep_lst (vs := [.int 1, .int 5]) (ds := [.int 1, .int 5]) hm (el_lst (ea_cons ev_c (ea_cons ev_c ea_nil)) (by decide)) (fun _ => .cons (.int _) (.cons (.int _) .nil)) (by decide +kernel) (by decide +kernel) (by decide +kernel)
theorem ep_b2 (hm : MugAt H m) : EvP K m (tTup (tCons (tC (.bl true)) (tCons (tC (.int 2)) tNil))) σ H := ep_tup (vs := [.bl true, .int 2]) (ds := [.bool true, .int 2]) hm (eu_tup (ea_cons ev_c (ea_cons ev_c ea_nil)) (by decide)) (fun _ => .cons (.bl _) (.cons (.int _) .nil)) (by decide +kernel) (by decide +kernel) (by decide +kernel)
theorem ep_s1 (hm : MugAt H m) : EvP K m (tTup (tCons (tC (.int 0)) (tCons (tC (.str "1")) tNil))) σ H := ep_tup (vs := [.int 0, .str "1"]) (ds := [.int 0, .str "1"]) hm (eu_tup (ea_cons ev_c (ea_cons ev_c ea_nil)) (by decide)) (fun _ => .cons (.int _) (.cons (.str _) .nil)) (by decide +kernel) (by decide +kernel) (by decide +kernel)
theorem ep_n2 (hm : MugAt H m) : EvP K m (tTup (tCons (tUn (rU fun i => .int (-i)) (tC (.int 1))) (tCons (tC (.int 2)) tNil))) σ H := ep_tup (vs := [.int (-1), .int 2]) (ds := [.int (-1), .int 2]) hm (eu_tup (ea_cons (ev_un ev_c ru_neg) (ea_cons ev_c ea_nil)) (by decide)) (fun _ => .cons (.int _) (.cons (.int _) .nil)) (by decide +kernel) (by decide +kernel) (by decide +kernel)
theorem ep_z6 (hm : MugAt H m) : EvP K m (tTup (tCons (tC (.int 0)) (tCons (tOp (rI0 fun i j => .int (i + j)) (tOp (rI CPow fun i j => .int (i ^ j.toNat)) (tC (.int 10)) (tC (.int 6))) (tC (.int 1))) tNil))) σ H := ep_tup (vs := [.int 0, .int (1000000 + 1)]) (ds := [.int 0, .int (1000000 + 1)]) hm (eu_tup (ea_cons ev_c (ea_cons (ev_op ev_pow6 ev_c rv_I0) ea_nil)) (by decide)) (fun _ => .cons (.int _) (.cons (.int _) .nil)) (by decide +kernel) (by decide +kernel) (by decide +kernel)
theorem ep_11 (hm : MugAt H m) : EvP K m (tTup (tCons (tTup (tCons (tC (.int 1)) (tCons (tC (.int 1)) tNil))) tNil)) σ H := ep_tup2 (i := 1) (j := 1) hm (eu_tup (ea_cons ev_c (ea_cons ev_c ea_nil)) (by decide)) (by decide +kernel) (by decide +kernel) (by decide +kernel)
theorem q_asgLP {n i : Nat} {tz : TS} {D : Ends} (h : EvLP K m n te σ H) (k : ∀ p vs H1, H p = none → Ex H H1 → H1 p = some (.lst vs) → vs.length = n → (∀ v ∈ vs, LineAt K m v H1) → tz D (σ.set i (some (.ref p))) H1) : tSeq (tAsg te (gName i)) tz D σ H := h H (Ex.refl H) _ fun p vs H1 hp e hx hl hv => k p vs H1 hp e hx hl hv
theorem q_asgCatP {n i j : Nat} {tz : TS} {D : Ends} {p1 : Addr} {vs1 : List V} (hj : σ[j]? = some (some (.ref p1))) (h1 : H p1 = some (.lst vs1)) (hl1 : vs1.length ≤ 1000) (hn : n ≤ 1000) (h : EvLP K m n te σ H)
    (k : ∀ p vs H1, H p = none → Ex H H1 → H1 p = some (.lst (vs1 ++ vs)) → vs.length = n → (∀ v ∈ vs, LineAt K m v H1) → tz D (σ.set i (some (.ref p))) H1) : tSeq (tAsg (tOp rCat (tVar j) te) (gName i)) tz D σ H :=
  ⟨.ref p1, hj, h H (Ex.refl H) _ fun p2 vs H2 hp e hx hl hv => ⟨p1, p2, vs1, vs, rfl, rfl, e _ _ h1, hx, sz_of (by omega), fun p hp' => k p vs _ (fresh_back e hp') (e.trans (Ex.new hp')) upd_same hl fun v hv' => (hv v hv').kn (Kn.of (Ex.new hp'))⟩⟩
abbrev teOdd1 : TA := tCons (tC .non) (tCons (tC (.bl true)) (tCons (tC (.bl false)) (tCons (tC (.int 0)) (tCons (tC (.int 1)) (tCons (tUn (rU fun i => .int (-i)) (tC (.int 1))) (tCons (tC (.int 2)) (tCons (tOp (rI CPow fun i j => .int (i ^ j.toNat)) (tC (.int 10)) (tC (.int 6))) (tCons (tOp (rI0 fun i j => .int (i + j)) (tOp (rI CPow fun i j => .int (i ^ j.toNat)) (tC (.int 10)) (tC (.int 6))) (tC (.int 1))) (tCons (tOp (rI0 fun i j => .int (i + j)) (tOp (rI CPow fun i j => .int (i ^ j.toNat)) (tC (.int 10)) (tC (.int 20))) (tC (.int 1))) (tCons (tC (.str "")) (tCons (tC (.str "degree 1 knots 0 2 4")) (tCons (tC (.str "1")) (tCons (tTup tNil) (tCons (tTup (tCons (tC (.int 0)) tNil)) (tNil)))))))))))))))
abbrev teOdd2 : TA := tCons (tTup (tCons (tC (.int 1)) (tCons (tC (.int 5)) tNil))) (tCons (tTup (tCons (tC (.int 5)) (tCons (tC (.int 1)) tNil))) (tCons (tTup (tCons (tC (.int 1)) (tCons (tC (.int 1)) tNil))) (tCons (tLst (tCons (tC (.int 1)) (tCons (tC (.int 5)) tNil))) (tCons (tDNewK) (tCons (tTup (tCons (tC (.bl true)) (tCons (tC (.int 2)) tNil))) (tCons (tTup (tCons (tC (.int 0)) (tCons (tC (.str "1")) tNil))) (tCons (tTup (tCons (tUn (rU fun i => .int (-i)) (tC (.int 1))) (tCons (tC (.int 2)) tNil))) (tCons (tTup (tCons (tC (.int 0)) (tCons (tOp (rI0 fun i j => .int (i + j)) (tOp (rI CPow fun i j => .int (i ^ j.toNat)) (tC (.int 10)) (tC (.int 6))) (tC (.int 1))) tNil))) (tCons (tTup (tCons (tTup (tCons (tC (.int 1)) (tCons (tC (.int 1)) tNil))) tNil)) (tCons (tTup (tCons (tC .non) tNil)) (tNil)))))))))))
theorem ap1 (hm : MugAt H m) : EvAP K m 15 teOdd1 σ H := eap_cons (ep_cN) (eap_cons (ep_cB true) (eap_cons (ep_cB false) (eap_cons (ep_cI 0 (by decide +kernel) (by decide +kernel)) (eap_cons (ep_cI 1 (by decide +kernel) (by decide +kernel)) (eap_cons (ep_neg1) (eap_cons (ep_cI 2 (by decide +kernel) (by decide +kernel)) (eap_cons (ep_pow6) (eap_cons (ep_pow6p) (eap_cons (ep_pow20p) (eap_cons (ep_cS "" (by decide +kernel)) (eap_cons (ep_cS "degree 1 knots 0 2 4" (by decide +kernel)) (eap_cons (ep_cS "1" (by decide +kernel)) (eap_cons (ep_t0 hm) (eap_cons (ep_t1 hm) (eap_nil)))))))))))))))
theorem ap2 (hm : MugAt H m) : EvAP K m 11 teOdd2 σ H := eap_cons (ep_p 1 5 hm (by decide +kernel) (by decide +kernel) (by decide +kernel)) (eap_cons (ep_p 5 1 hm (by decide +kernel) (by decide +kernel) (by decide +kernel)) (eap_cons (ep_p 1 1 hm (by decide +kernel) (by decide +kernel) (by decide +kernel)) (eap_cons (ep_l15 hm) (eap_cons (ep_dict hm) (eap_cons (ep_b2 hm) (eap_cons (ep_s1 hm) (eap_cons (ep_n2 hm) (eap_cons (ep_z6 hm) (eap_cons (ep_11 hm) (eap_cons (ep_tN hm) (eap_nil)))))))))))
end
end Kg

set_option maxHeartbeats 4000000
/-! _law_odd -/
namespace Kg
open PySem PySem.Spec PyProof.Rows L2 Evl
section
variable {P : Program} {w : World} {K : PySem.W.Frag} {mg : Str → Option Value} {base : Heap} {f C : Addr} {fd : FuncData} {H : Hp} {σ : L2.St} {m : Addr} {te : TE} {t : TA}
def spOdd (K : PySem.W.Frag) : Sp := fun vs H Q _ => ∃ m : Addr, vs = [.ref m] ∧ MugAt H m ∧ ∀ v H', Kp m H H' → MugAt H' m → LineAt K m v H' → Q v H'
theorem ok_odd (N : Nms mg) (F : L2.Fun K "_law_odd" "_law_odd" sOdd f fd) (cS : CalK P w K mg base 1 "_law_sip" spSip) : FnOk P w K mg base L2.CX0 2 f fd ["_law_mug_here"] (spOdd K) := by
  refine F.ok scOdd (fun vs H Q E h => ?_) (fun cdv A outer s H vs Q E hr h => ?_)
  · obtain ⟨m, rfl, _⟩ := h
    rfl
  · obtain ⟨m, rfl, hm, q⟩ := h
    refine ⟨_, pss_cons (ps_asg (pe_lst (pa_cons pe_non (pa_cons pe_bl (pa_cons pe_bl (pa_cons pe_int (pa_cons pe_int (pa_cons (pe_un un_neg pe_int) (pa_cons pe_int (pa_cons (pe_op op_pow pe_int pe_int) (pa_cons (pe_op op_add (pe_op op_pow pe_int pe_int) pe_int) (pa_cons (pe_op op_add (pe_op op_pow pe_int pe_int) pe_int) (pa_cons pe_str (pa_cons pe_str (pa_cons pe_str (pa_cons (pe_tup pa_nil) (pa_cons (pe_tup (pa_cons pe_int pa_nil)) pa_nil)))))))))))))))) (pg_name (i := 1) scOdd.nd rfl (.inl rfl)))
      (pss_cons (ps_asg (pe_op op_cat (pv 1) (pe_lst (pa_cons (pe_tup (pa_cons pe_int (pa_cons pe_int pa_nil))) (pa_cons (pe_tup (pa_cons pe_int (pa_cons pe_int pa_nil))) (pa_cons (pe_tup (pa_cons pe_int (pa_cons pe_int pa_nil))) (pa_cons (pe_lst (pa_cons pe_int (pa_cons pe_int pa_nil))) (pa_cons pe_dnewK (pa_cons (pe_tup (pa_cons pe_bl (pa_cons pe_int pa_nil))) (pa_cons (pe_tup (pa_cons pe_int (pa_cons pe_str pa_nil)))
          (pa_cons (pe_tup (pa_cons (pe_un un_neg pe_int) (pa_cons pe_int pa_nil))) (pa_cons (pe_tup (pa_cons pe_int (pa_cons (pe_op op_add (pe_op op_pow pe_int pe_int) pe_int) pa_nil))) (pa_cons (pe_tup (pa_cons (pe_tup (pa_cons pe_int (pa_cons pe_int pa_nil))) pa_nil)) (pa_cons (pe_tup (pa_cons pe_non pa_nil)) pa_nil))))))))))))) (pg_name (i := 1) scOdd.nd rfl (.inl rfl)))
      (pss_one (ps_ret (pe_ix ix_list (pv 1) (C8.pe_c cS hr (by decide) (by rfl) (pa_cons (pv 0) (pa_cons (pe_callB call_len_seq (by rfl) N.len boot_len (pa_cons (pv 1) pa_nil)) pa_nil))) (fun _ _ => rfl))))), ?_⟩
    refine q_asgLP (K := K) (m := m) (n := 15) (elp_lst (ap1 hm) (by decide)) fun p1 vs1 H1 hp1 e1 hx1 hl1 hv1 => ?_
    have m1 := hm.ex e1
    refine q_asgCatP (K := K) (m := m) (n := 11) (p1 := p1) (vs1 := vs1) rfl hx1 (by omega) (by decide) (elp_lst (ap2 m1) (by decide)) fun p vs2 H3 hp e3 hx3 hl2 hv2 => ?_
    have hpm := m1.ne hp
    have e13 := e1.trans e3
    refine ⟨.ref p, rfl, ?_⟩
    have hA : EvA (tCons (tVar 0) (tCons (tCB (fun xs H Q => ∃ p ys, xs = [V.ref p] ∧ (SqL K H p ys ∨ SqT K H p ys) ∧ Q (.int ys.length) H) (tCons (tVar 1) tNil)) tNil)) [some (.ref m), some (.ref p)] H3 [.ref m, .int (((vs1 ++ vs2).length : Nat) : Int)] := ea_cons (ev_var rfl) (ea_cons (ev_cb (ea_cons (ev_var rfl) ea_nil) (rc_len (.inl (sq_of hx3)))) ea_nil)
    refine hA H3 (Ex.refl H3) _ fun H4 e4 => ⟨m, (((vs1 ++ vs2).length : Nat) : Int), rfl, (m1.ex e3).ex e4, by rw [List.length_append]; omega, by rw [List.length_append]; omega, fun r H5 r0 r1 k5 m5 => ?_⟩
    obtain ⟨j, rfl⟩ : ∃ j : Nat, r = (j : Int) := ⟨r.toNat, by omega⟩
    have hj : j < (vs1 ++ vs2).length := by omega
    have kp : Kp m H H5 := (Kp.of (e13.trans e4)).trans k5
    refine ⟨p, vs1 ++ vs2, (j : Int), (vs1 ++ vs2)[j], rfl, rfl, sq_of (k5 p _ hpm (e4 p _ hx3)), atI_nat rfl (List.getElem?_eq_getElem hj), q _ H5 kp m5 ?_⟩
    have hin := List.getElem_mem hj
    rcases List.mem_append.mp hin with z | z
    · exact (hv1 _ z).kn ((Kn.of (e3.trans e4)).trans (Kn.kp k5))
    · exact (hv2 _ z).kn ((Kn.of e4).trans (Kn.kp k5))
end
end Kg

set_option maxHeartbeats 4000000
/-! plain: bent texts stay short and plain -/
namespace Kg
open PySem PySem.Spec PyProof.Rows L2 Evl
theorem slice_ok {n : Nat} {z : Str} {i : Int} (h : okS n z) (hi : 0 ≤ i) : okS n (Txt.slice z none (some i)) ∧ okS n (Txt.slice z (some i) none) := by
  have h1 := SX.slice_to (a := z.cps.toList) hi
  have h2 := SX.slice_from (a := z.cps.toList) hi
  rw [SX.S_tl] at h1 h2
  rw [h1, h2]
  refine ⟨⟨?_, fun c hc => h.2 c (List.mem_of_mem_take hc)⟩, ⟨?_, fun c hc => h.2 c (List.mem_of_mem_drop hc)⟩⟩
  · show (z.cps.toList.take i.toNat).length ≤ n
    have := h.1
    rw [List.length_take]
    omega
  · show (z.cps.toList.drop i.toNat).length ≤ n
    have := h.1
    rw [List.length_drop]
    omega
theorem upper_ok {n : Nat} {z : Str} (h : okS n z) : okS n (Txt.upper z) := by
  have h1 := SX.upper_S (a := z.cps.toList) (by rw [List.all_eq_true]; exact fun c hc => decide_eq_true (h.2 c hc))
  rw [SX.S_tl] at h1
  rw [h1]
  refine ⟨by show (z.cps.toList.map PyProof.Rows.up1).length ≤ n; rw [List.length_map]; exact h.1, fun c hc => ?_⟩
  have hc : c ∈ z.cps.toList.map PyProof.Rows.up1 := hc
  obtain ⟨x, hx, rfl⟩ := List.mem_map.mp hc
  have := h.2 x hx
  unfold PyProof.Rows.up1
  split <;> omega
def tot (ys : List Str) : Nat := (ys.map (·.length)).sum
theorem tot_app (xs ys : List Str) : tot (xs ++ ys) = tot xs + tot ys := by
  unfold tot
  rw [List.map_append, List.sum_append]
theorem tot_take (n : Nat) (ys : List Str) : tot (ys.take n) ≤ tot ys ∧ tot (ys.drop n) ≤ tot ys := by
  have := tot_app (ys.take n) (ys.drop n)
  rw [List.take_append_drop] at this
  omega
theorem spl_sum (S : List Nat) : ∀ (l : List Nat) (k : Nat) (acc : List Nat), ((TL.spl S k acc l).map (·.length)).sum ≤ acc.length + l.length
  | [], k, acc => by
    rw [TL.spl_nil]
    simp
  | c :: r, 0, acc => by
    cases h : TL.pre S (c :: r) with
    | true =>
      rw [TL.spl_hit h]
      have := spl_sum S r (S.length - 1) []
      rw [List.length_nil] at this
      rw [List.map_cons, List.sum_cons, List.length_cons]
      omega
    | false =>
      rw [TL.spl_miss h]
      have := spl_sum S r 0 (acc ++ [c])
      rw [List.length_append, List.length_singleton] at this
      rw [List.length_cons]
      omega
  | c :: r, k + 1, acc => by
    show ((TL.spl S k acc r).map (·.length)).sum ≤ _
    have := spl_sum S r k acc
    rw [List.length_cons]
    omega
theorem tot_words {n : Nat} {z : Str} (h : okS n z) : tot (wordsOf z) ≤ n := by
  have h1 := spl_sum [32] z.cps.toList 0 []
  have h2 := h.1
  unfold tot
  rw [words_eq, List.map_map]
  have e : (TL.spl [32] 0 [] z.cps.toList).map ((fun y : Str => y.length) ∘ SX.S) = (TL.spl [32] 0 [] z.cps.toList).map (·.length) := List.map_congr_left fun p _ => SX.S_len p
  rw [e]
  rw [List.length_nil] at h1
  omega
theorem joinL_tot {S : List Nat} : ∀ ys : List (List Nat), (TL.joinL S ys).length ≤ (ys.map (·.length)).sum + ys.length * S.length
  | [] => by simp [TL.joinL]
  | [p] => by
    show p.length ≤ _
    simp
  | p :: q :: r => by
    have ih := joinL_tot (S := S) (q :: r)
    show (p ++ (S ++ TL.joinL S (q :: r))).length ≤ _
    rw [List.length_append, List.length_append, List.map_cons, List.sum_cons, show (p :: q :: r).length = (q :: r).length + 1 from rfl, Nat.add_mul]
    omega
theorem join_ok {b : Nat} {ys : List Str} (h : ∀ y ∈ ys, okS b y) : okS (tot ys + ys.length) (Txt.join " " ys) := by
  have hj := okS_join h
  refine ⟨?_, hj.2⟩
  have e0 : (ys.map TL.tl).map SX.S = ys := by
    rw [List.map_map]
    conv => rhs; rw [← List.map_id ys]
    exact List.map_congr_left fun y _ => SX.S_tl y
  have h1 := SX.join_S [32] (ys.map TL.tl)
  rw [e0] at h1
  have h2 : Txt.join " " ys = SX.S (TL.joinL [32] (ys.map TL.tl)) := h1
  rw [h2]
  have h3 := joinL_tot (S := [32]) (ys.map TL.tl)
  rw [List.map_map, List.length_map] at h3
  have e : ys.map ((fun l : List Nat => l.length) ∘ TL.tl) = ys.map (·.length) := List.map_congr_left fun y _ => lenL y
  rw [e] at h3
  show (TL.joinL [32] (ys.map TL.tl)).length ≤ _
  unfold tot
  simpa using h3
/-- a tuple of knots, as repr shows it -/
theorem shown_ints : ∀ l : List Int, PyData.shownAll (l.map PyData.int) = l.map numS
  | [] => rfl
  | i :: l => by
    rw [List.map_cons, List.map_cons, PyData.shownAll, shown_ints l]
    rfl
theorem showable_ints : ∀ {l : List Int}, (∀ k ∈ l, 0 ≤ k ∧ k ≤ 1000000) → PyData.showableAll (l.map PyData.int) = true
  | [], _ => rfl
  | i :: l, h => by
    obtain ⟨h0, h1⟩ := h i List.mem_cons_self
    rw [List.map_cons, PyData.showableAll, showable_ints fun k hk => h k (List.mem_cons_of_mem _ hk), Bool.and_true]
    exact decide_eq_true (log_small h0 h1)
theorem shown_knots {g : Nat} {ks : List Int} (h : Good g ks) : (PyData.tuple (ks.map PyData.int)).showable = true ∧ (PyData.tuple (ks.map PyData.int)).depth ≤ 40 ∧ (PyData.tuple (ks.map PyData.int)).shown.length ≤ 90000 := by
  have hl := h.len
  have hg := h.1
  refine ⟨showable_ints fun k hk => h.mem hk, ?_, ?_⟩
  · have := dep_ints ks
    simp only [PyData.depth]
    omega
  · show (tupleText (PyData.shownAll (ks.map PyData.int))).length ≤ 90000
    rw [shown_ints]
    unfold tupleText
    rw [strLen_append, strLen_append]
    have h1 : (Str.join ", " (ks.map numS)).length ≤ (ks.map numS).length * (7 + 2) := by
      rw [← lenL]
      have e := TL.tl_join ", " (ks.map numS)
      rw [show (Str.join ", " (ks.map numS)).cps.toList = TL.joinL (TL.tl ", ") ((ks.map numS).map TL.tl) from e]
      have := joinL_len (b := 7) (S := TL.tl ", ") (ys := (ks.map numS).map TL.tl) fun y hy => by
        obtain ⟨z, hz, rfl⟩ := List.mem_map.mp hy
        obtain ⟨k, hk, rfl⟩ := List.mem_map.mp hz
        obtain ⟨a, b⟩ := h.mem hk
        exact (okS_num a b).1
      rw [List.length_map] at this
      exact this
    rw [List.length_map] at h1
    have h2 : (("(" : Str)).length = 1 := by decide +kernel
    have h3 : ((if ((ks.map numS).length == 1) = true then ",)" else ")" : String) : Str).length ≤ 2 := by
      split
      · decide +kernel
      · decide +kernel
    rw [h2]
    omega
end Kg

set_option maxHeartbeats 1000000
/-! _law_bent -/
namespace Kg
open PySem PySem.Spec PyProof.Rows L2 Evl
section
variable {P : Program} {w : World} {K : PySem.W.Frag} {mg : Str → Option Value} {base : Heap} {f C : Addr} {fd : FuncData} {H : Hp} {σ : L2.St}
theorem q_par2 {i j : Nat} {ta tb : TE} {tz : TS} {D : Ends} (h : ta σ H fun x H1 => tb σ H1 fun y H2 => ∃ v w, [x, y] = [v, w] ∧ tz D ((σ.set i (some v)).set j (some w)) H2) : tSeq (tPar i j (tCons ta (tCons tb tNil))) tz D σ H := h
theorem ev_textN {E : XK} {te : TE} {g : Nat} {ks : List Int} (h : EvN te σ H (fun q H2 => ∃ a, FrA C H2 q a g ks)) (hG : Good g ks) : Ev (tProp C (spText C) [] E te) σ H (.str (textOf g ks)) := fun H1 e Q q => h H1 e _ fun p H2 hp e2 hF => by
  obtain ⟨a, hF⟩ := hF
  obtain ⟨dx, t, h1, _⟩ := id hF
  exact ⟨p, dx, _, rfl, h1, sv_text hF hG H2 (Ex.refl H2) Q (fun H3 e3 => q H3 (e2.trans e3)) E⟩
theorem ev_slT {te : TE} {tl th : TO} {z : Str} {lo hi : Option Int} (h : Ev te σ H (.str z)) (h1 : EvO tl σ H lo) (h2 : EvO th σ H hi) (hz : z.length ≤ 40000) : Ev (tSl C8.rSlX te tl th) σ H (.str (Txt.slice z lo hi)) := fun H1 e Q q =>
  h H1 e _ fun H2 e2 => h1 H2 (e.trans e2) _ fun H3 e3 => h2 H3 ((e.trans e2).trans e3) _ fun H4 e4 => ⟨z, rfl, sz_of (by omega), q H4 ((e2.trans e3).trans e4)⟩
theorem rv_addS {x y : Str} (h : x.length + y.length ≤ 40000) : RV (fun x y H Q => ∃ i j, x = V.str i ∧ y = V.str j ∧ i.length + j.length ≤ sizeLine ∧ Q (.str (i ++ j)) H) (.str x) (.str y) H (.str (x ++ y)) := fun H1 _ _ q => ⟨x, y, rfl, rfl, sz_of (by omega), q H1 (Ex.refl H1)⟩
theorem q_sip {i : Nat} {ta : TA} {E : XK} {tz : TS} {D : Ends} {m : Addr} {t : Int} (hA : EvA ta σ H [.ref m, .int t]) (hm : MugAt H m) (h0 : 0 < t) (h1 : t < 2 ^ 30) (k : ∀ r H', 0 ≤ r → r < t → Kp m H H' → MugAt H' m → tz D (σ.set i (some (.int r))) H') : tSeq (tAsg (tCall spSip [] E ta) (gName i)) tz D σ H :=
  hA H (Ex.refl H) _ fun H2 e2 => ⟨m, t, rfl, hm.ex e2, h0, h1, fun r H3 r0 r1 k3 m3 => k r H3 r0 r1 ((Kp.of e2).trans k3) m3⟩
theorem sip_if {ta : TA} {tA tB : TE} {E : XK} {m : Addr} {t : Int} {Q : VK} (hA : EvA ta σ H [.ref m, .int t]) (hm : MugAt H m) (h0 : 0 < t) (h1 : t < 2 ^ 30) (kA : ∀ H', Kp m H H' → MugAt H' m → tA σ H' Q) (kB : ∀ H', Kp m H H' → MugAt H' m → tB σ H' Q) : tIf (tTest (tOp rEq (tCall spSip [] E ta) (tC (.int 0)))) tA tB σ H Q :=
  hA H (Ex.refl H) _ fun H2 e2 => ⟨m, t, rfl, hm.ex e2, h0, h1, fun r H3 r0 r1 k3 m3 => ⟨rfl, _, rfl, by
    cases decide (V.int r = V.int 0) with
    | true => exact kA H3 ((Kp.of e2).trans k3) m3
    | false => exact kB H3 ((Kp.of e2).trans k3) m3⟩⟩
def spBent (K : PySem.W.Frag) : Sp := fun vs H Q _ => ∃ (m p : Addr) (g : Nat) (ks : List Int), vs = [.ref m, .ref p] ∧ MugAt H m ∧ p ≠ m ∧ DueAt g ks p H ∧ Good g ks ∧ ∀ v H', Kp m H H' → MugAt H' m → LineAt K m v H' → Q v H'
theorem ok_bent (N : Nms mg) (F : L2.Fun K "_law_bent" "_law_bent" sBent f fd) (cS : CalK P w K mg base 1 "_law_sip" spSip) (cP : CalK P w K mg base 2 "_law_pick" spPick) (cM : CalK P w K mg base 6 "_law_made" (spMade C)) (cO : CalK P w K mg base 2 "_law_odd" (spOdd K)) (cT : Prp P w K mg base 3 C "text" (spText C)) :
    FnOk P w K mg base L2.CX0 7 f fd ["_law_mug_here", "_law_draft_here"] (spBent K) := by
  refine F.ok scBent (fun vs H Q E h => ?_) (fun cdv A outer s H vs Q E hr h => ?_)
  · obtain ⟨m, p, g, ks, rfl, _⟩ := h
    rfl
  · obtain ⟨m, p, g, ks, rfl, hm, hpm, hD, hG, q⟩ := h
    refine ⟨_, pss_cons (ps_par (i := 2) (j := 3) rfl scBent.nd rfl rfl (by decide) rfl rfl (pa_cons (pe_prp cT hr (by decide) (C8.pe_c cM hr (by decide) (by rfl) (pa_cons (pv 1) pa_nil))) (pa_cons (C8.pe_c cS hr (by decide) (by rfl) (pa_cons (pv 0) (pa_cons pe_int pa_nil))) pa_nil)) rfl)
      (pss_cons (ps_if (pt_cmpR op_lt (pv 3) pe_int (nomark _))
        (pss_cons (ps_par (i := 4) (j := 5) rfl scBent.nd rfl rfl (by decide) rfl rfl (pa_cons (C8.pe_c cS hr (by decide) (by rfl) (pa_cons (pv 0) (pa_cons (pe_op op_add (pe_callB call_len_str (by rfl) N.len boot_len (pa_cons (pv 2) pa_nil)) pe_int) pa_nil))) (pa_cons (C8.pe_c cP hr (by decide) (by rfl) (pa_cons (pv 0) (pa_cons pe_str pa_nil))) pa_nil)) rfl)
        (pss_one (ps_ret (pe_ix ix_list (pe_lst (pa_cons (pe_op op_add_str (pe_slice C8.sl_txt (pv 2) po_none (po_some (pv 4))) (pe_slice C8.sl_txt (pv 2) (po_some (pe_op op_add (pv 4) pe_int)) po_none)) (pa_cons (pe_op op_add_str (pe_op op_add_str (pe_slice C8.sl_txt (pv 2) po_none (po_some (pv 4))) (pv 5)) (pe_slice C8.sl_txt (pv 2) (po_some (pv 4)) po_none))
          (pa_cons (pe_op op_add_str (pe_op op_add_str (pe_slice C8.sl_txt (pv 2) po_none (po_some (pv 4))) (pv 5)) (pe_slice C8.sl_txt (pv 2) (po_some (pe_op op_add (pv 4) pe_int)) po_none)) pa_nil)))) (pv 3) (fun _ _ => rfl))))) pss_nil)
      (pss_cons (ps_if (pt_cmpR op_eq (pv 3) pe_int (nomark _))
        (pss_cons (ps_asg (pe_split (pv 2) pe_str) (pg_name (i := 6) scBent.nd rfl (.inl rfl)))
        (pss_cons (ps_asg (C8.pe_c cS hr (by decide) (by rfl) (pa_cons (pv 0) (pa_cons (pe_callB call_len_seq (by rfl) N.len boot_len (pa_cons (pv 6) pa_nil)) pa_nil))) (pg_name (i := 7) scBent.nd rfl (.inl rfl)))
        (pss_one (ps_ret (pe_join pe_str (pe_ifExp (pt_cmpR op_eq (C8.pe_c cS hr (by decide) (by rfl) (pa_cons (pv 0) (pa_cons pe_int pa_nil))) pe_int (nomark _)) (pe_op op_cat (pe_slice sl_list (pv 6) po_none (po_some (pv 7))) (pe_slice sl_list (pv 6) (po_some (pe_op op_add (pv 7) pe_int)) po_none))
          (pe_op op_cat (pe_op op_cat (pe_slice sl_list (pv 6) po_none (po_some (pv 7))) (pe_slice sl_list (pv 6) (po_some (pv 7)) (po_some (pe_op op_add (pv 7) pe_int)))) (pe_slice sl_list (pv 6) (po_some (pv 7)) po_none)))))))) pss_nil)
      (pss_cons (ps_if (pt_cmpR op_eq (pv 3) pe_int (nomark _))
        (pss_one (ps_ret (C8.pe_c cP hr (by decide) (by rfl) (pa_cons (pv 0) (pa_cons (pe_lst (pa_cons (C8.pe_c cO hr (by decide) (by rfl) (pa_cons (pv 0) pa_nil)) (pa_cons (pe_upper (pv 2)) (pa_cons (pe_op op_add_str pe_str (pv 2)) (pa_cons (pe_op op_add_str (pv 2) pe_str) (pa_cons (pe_op op_add_str (pv 2) pe_str) (pa_cons (pe_ix ix_list (pv 1) pe_int (fun _ _ => rfl)) pa_nil))))))) pa_nil))))) pss_nil)
      (pss_one (ps_ret (pv 2)))))), ?_⟩
    have hL := okS_text hG
    have hT := ev_textN (E := C8.E0) (sn_made (E := C8.E0) (C := C) (σ := [some (.ref m), some (.ref p), none, none, none, none, none, none]) (H := H) (ev_var (i := 1) rfl) hD hG) hG
    generalize textOf g ks = L at hL hT
    have hLl := hL.len
    refine q_par2 (hT H (Ex.refl H) _ fun H1 e1 => ?_)
    refine ⟨.ref m, rfl, m, 8, rfl, hm.ex e1, by decide, by decide, fun r H2 r0 r8 k2 m2 => ⟨_, _, rfl, ?_⟩⟩
    have kH : Kp m H H2 := (Kp.of e1).trans k2
    have lineS : ∀ {z : Str} {H' : Hp}, okS 1000 z → Kp m H H' → MugAt H' m → Q (.str z) H' := fun {z H'} hz k hm' => q _ H' k hm' (line_str hz)
    refine q_when (b := decide (r < 3)) (et_test (ev_op (ev_var rfl) ev_c rv_I0)) (fun hb H3 e3 => ?_) fun hb H3 e3 => ?_
    · have hr3 : r < 3 := of_decide_eq_true hb
      have hAs : EvA (tCons (tVar 0) (tCons (tOp (rI0 fun i j => .int (i + j)) (tCB (fun xs H Q => ∃ z, xs = [V.str z] ∧ z.length ≤ sizeLine ∧ Q (.int z.length) H) (tCons (tVar 2) tNil)) (tC (.int 1))) tNil)) [some (.ref m), some (.ref p), some (.str L), some (.int r), none, none, none, none] H3 [.ref m, .int ((L.length : Int) + 1)] := ea_cons (ev_var rfl) (ea_cons (ev_op (ev_cb (ea_cons (ev_var rfl) ea_nil) (rc_lenS (sz_of (by omega)))) ev_c rv_I0) ea_nil)
      refine q_par2 (hAs H3 (Ex.refl H3) _ fun H4 e4 => ⟨m, (L.length : Int) + 1, rfl, (m2.ex e3).ex e4, by omega, by omega, fun sp H5 s0 s1 k5 m5 => ?_⟩)
      refine ⟨.ref m, rfl, m, .str " 0123d-\n,k", rfl, m5, .inr ⟨_, rfl, by decide +kernel, by decide +kernel, fun c H6 hc k6 m6 => ⟨_, _, rfl, ?_⟩⟩⟩
      have hc128 : c < 128 := by
        have h := List.all_eq_true.mp (show (" 0123d-\n,k" : Str).cps.toList.all (fun c => decide (c < 128)) = true by decide +kernel) c hc
        exact of_decide_eq_true h
      have hC : okS 1 (⟨#[c]⟩ : Str) := ⟨Nat.le_refl 1, fun x hx => by
        have : x ∈ [c] := hx
        rw [List.mem_singleton.mp this]
        exact hc128⟩
      have kS : Kp m H H6 := (((kH.trans (Kp.of e3)).trans (Kp.of e4)).trans k5).trans k6
      obtain ⟨a1, _⟩ := slice_ok hL s0
      obtain ⟨_, a2⟩ := slice_ok hL s0
      obtain ⟨_, a3⟩ := slice_ok (i := sp + 1) hL (by omega)
      have hLst := el_lst (σ := [some (.ref m), some (.ref p), some (.str L), some (.int r), some (.int sp), some (.str ⟨#[c]⟩), none, none]) (H := H6)
        (ea_cons (ev_op (ev_slT (te := tVar 2) (tl := tNoPart) (th := tPart (tVar 4)) (ev_var rfl) eo_none (eo_some (i := sp) (ev_var rfl)) (by omega)) (ev_slT (te := tVar 2) (tl := tPart (tOp (rI0 fun i j => .int (i + j)) (tVar 4) (tC (.int 1)))) (th := tNoPart) (ev_var rfl) (eo_some (i := sp + 1) (ev_op (ev_var rfl) ev_c rv_I0)) eo_none (by omega)) (rv_addS (by have := a1.len; have := a3.len; omega)))
        (ea_cons (ev_op (ev_op (ev_slT (te := tVar 2) (tl := tNoPart) (th := tPart (tVar 4)) (ev_var rfl) eo_none (eo_some (i := sp) (ev_var rfl)) (by omega)) (ev_var (i := 5) (v := .str ⟨#[c]⟩) rfl) (rv_addS (by have := a1.len; have := hC.len; omega))) (ev_slT (te := tVar 2) (tl := tPart (tVar 4)) (th := tNoPart) (ev_var rfl) (eo_some (i := sp) (ev_var rfl)) eo_none (by omega)) (rv_addS (by have := (okS_app a1 hC).len; have := a2.len; omega)))
        (ea_cons (ev_op (ev_op (ev_slT (te := tVar 2) (tl := tNoPart) (th := tPart (tVar 4)) (ev_var rfl) eo_none (eo_some (i := sp) (ev_var rfl)) (by omega)) (ev_var (i := 5) (v := .str ⟨#[c]⟩) rfl) (rv_addS (by have := a1.len; have := hC.len; omega))) (ev_slT (te := tVar 2) (tl := tPart (tOp (rI0 fun i j => .int (i + j)) (tVar 4) (tC (.int 1)))) (th := tNoPart) (ev_var rfl) (eo_some (i := sp + 1) (ev_op (ev_var rfl) ev_c rv_I0)) eo_none (by omega)) (rv_addS (by have := (okS_app a1 hC).len; have := a3.len; omega))) ea_nil))) (by show (3 : Nat) ≤ 100000; decide)
      obtain ⟨z, hz, hat⟩ : ∃ z : Str, okS 1000 z ∧ ∀ p H7, H7 p = some (.lst [.str (Txt.slice L none (some sp) ++ Txt.slice L (some (sp + 1)) none), .str (Txt.slice L none (some sp) ++ (⟨#[c]⟩ : Str) ++ Txt.slice L (some sp) none), .str (Txt.slice L none (some sp) ++ (⟨#[c]⟩ : Str) ++ Txt.slice L (some (sp + 1)) none)]) → RV (rIxL K) (.ref p) (.int r) H7 (.str z) := by
        have hr : r = 0 ∨ r = 1 ∨ r = 2 := by omega
        rcases hr with rfl | rfl | rfl
        · exact ⟨_, (okS_app a1 a3).mono (by decide), fun p H7 h7 => rv_ixL (sq_of h7) (atI_nat (j := 0) rfl rfl)⟩
        · exact ⟨_, (okS_app (okS_app a1 hC) a2).mono (by decide), fun p H7 h7 => rv_ixL (sq_of h7) (atI_nat (j := 1) rfl rfl)⟩
        · exact ⟨_, (okS_app (okS_app a1 hC) a3).mono (by decide), fun p H7 h7 => rv_ixL (sq_of h7) (atI_nat (j := 2) rfl rfl)⟩
      exact s_ret (ev_opL1 hLst (fun H7 e7 => ev_var (v := .int r) rfl) fun p H7 h7 e7 => hat p H7 h7) fun H7 e7 => lineS hz (kS.trans (Kp.of e7)) (m6.ex e7)
    · have k3 := kH.trans (Kp.of e3)
      have m3 := m2.ex e3
      refine q_when (b := decide (V.int r = V.int 3)) (et_test (ev_op (ev_var rfl) ev_c (rv_eq rfl))) (fun hb H4 e4 => ?_) fun hb H4 e4 => ?_
      · have k4 := k3.trans (Kp.of e4)
        have m4 := m3.ex e4
        obtain ⟨hw1, hw2⟩ := words_ok hL
        have hw3 := tot_words hL
        generalize hwd : wordsOf L = ws at hw1 hw2 hw3
        have hSp := el_split (σ := [some (.ref m), some (.ref p), some (.str L), some (.int r), none, none, none, none]) (H := H4) (te := tVar 2) (y := L) (ev_var rfl) (by omega)
        rw [hwd] at hSp
        have hne : 0 < ws.length := by
          rw [← hwd, words_eq, List.length_map]
          cases h : TL.spl [32] 0 [] L.cps.toList with
          | nil =>
            have h2 : ∀ (l : List Nat) (k : Nat) (acc : List Nat), TL.spl [32] k acc l ≠ [] := by
              intro l
              induction l with
              | nil => intro k acc; rw [TL.spl_nil]; exact List.cons_ne_nil _ _
              | cons c l ih =>
                intro k acc
                cases k with
                | succ k => exact ih k acc
                | zero =>
                  cases hp : TL.pre [32] (c :: l) with
                  | true => rw [TL.spl_hit hp]; exact List.cons_ne_nil _ _
                  | false => rw [TL.spl_miss hp]; exact ih 0 _
            exact absurd h (h2 _ _ _)
          | cons _ _ => exact Nat.succ_pos _
        refine q_asgL hSp fun pw H5 hpw e5 hx5 => ?_
        have hpwm := m4.ne hpw
        have hlw : (ws.map V.str).length = ws.length := List.length_map _
        refine q_sip (m := m) (t := (ws.length : Int)) (ea_cons (ev_var rfl) (ea_cons (ev_is (ev_cb (ea_cons (ev_var rfl) ea_nil) (rc_len (.inl (sq_of hx5)))) (by rw [hlw])) ea_nil)) (m4.ex e5) (by omega) (by omega) fun at_ H6 a0 a1 k6 m6 => ?_
        obtain ⟨j, rfl⟩ : ∃ j : Nat, at_ = (j : Int) := ⟨at_.toNat, by omega⟩
        have hx6 := k6 pw _ hpwm hx5
        have kS := (k4.trans (Kp.of e5)).trans k6
        refine ⟨⟨_, rfl⟩, ?_⟩
        have sl1 : ∀ {H7 : Hp}, H7 pw = some (.lst (ws.map V.str)) → EvL (tSl (rSlL K) (tVar 6) tNoPart (tPart (tVar 7))) [some (.ref m), some (.ref p), some (.str L), some (.int r), none, none, some (.ref pw), some (.int (j : Int))] H7 ((ws.take j).map V.str) := fun {H7} h7 => by
          have h0 := el_sl (K := K) (σ := [some (.ref m), some (.ref p), some (.str L), some (.int r), none, none, some (.ref pw), some (.int (j : Int))]) (te := tVar 6) (tl := tNoPart) (th := tPart (tVar 7)) (hi := some (j : Int)) (ev_var rfl) eo_none (eo_some (ev_var rfl)) (sq_of h7)
          rw [cut_to, ← List.map_take] at h0
          exact h0
        have sl2 : ∀ {H7 : Hp}, H7 pw = some (.lst (ws.map V.str)) → EvL (tSl (rSlL K) (tVar 6) (tPart (tOp (rI0 fun i j => .int (i + j)) (tVar 7) (tC (.int 1)))) tNoPart) [some (.ref m), some (.ref p), some (.str L), some (.int r), none, none, some (.ref pw), some (.int (j : Int))] H7 ((ws.drop (j + 1)).map V.str) := fun {H7} h7 => by
          have h0 := el_sl (K := K) (σ := [some (.ref m), some (.ref p), some (.str L), some (.int r), none, none, some (.ref pw), some (.int (j : Int))]) (te := tVar 6) (tl := tPart (tOp (rI0 fun i j => .int (i + j)) (tVar 7) (tC (.int 1)))) (th := tNoPart) (lo := some (((j + 1 : Nat) : Int))) (ev_var rfl) (eo_some (ev_is (ev_op (ev_var (v := .int (j : Int)) rfl) ev_c rv_I0) rfl)) eo_none (sq_of h7)
          rw [cut_from, ← List.map_drop] at h0
          exact h0
        have sl3 : ∀ {H7 : Hp}, H7 pw = some (.lst (ws.map V.str)) → EvL (tSl (rSlL K) (tVar 6) (tPart (tVar 7)) tNoPart) [some (.ref m), some (.ref p), some (.str L), some (.int r), none, none, some (.ref pw), some (.int (j : Int))] H7 ((ws.drop j).map V.str) := fun {H7} h7 => by
          have h0 := el_sl (K := K) (σ := [some (.ref m), some (.ref p), some (.str L), some (.int r), none, none, some (.ref pw), some (.int (j : Int))]) (te := tVar 6) (tl := tPart (tVar 7)) (th := tNoPart) (lo := some (j : Int)) (ev_var rfl) (eo_some (ev_var rfl)) eo_none (sq_of h7)
          rw [cut_from, ← List.map_drop] at h0
          exact h0
        have sl4 : ∀ {H7 : Hp}, H7 pw = some (.lst (ws.map V.str)) → EvL (tSl (rSlL K) (tVar 6) (tPart (tVar 7)) (tPart (tOp (rI0 fun i j => .int (i + j)) (tVar 7) (tC (.int 1))))) [some (.ref m), some (.ref p), some (.str L), some (.int r), none, none, some (.ref pw), some (.int (j : Int))] H7 (((ws.drop j).take (j + 1 - j)).map V.str) := fun {H7} h7 => by
          have h0 := el_sl (K := K) (σ := [some (.ref m), some (.ref p), some (.str L), some (.int r), none, none, some (.ref pw), some (.int (j : Int))]) (te := tVar 6) (tl := tPart (tVar 7)) (th := tPart (tOp (rI0 fun i j => .int (i + j)) (tVar 7) (tC (.int 1)))) (lo := some (j : Int)) (hi := some (((j + 1 : Nat) : Int))) (ev_var rfl) (eo_some (ev_var rfl)) (eo_some (ev_is (ev_op (ev_var (v := .int (j : Int)) rfl) ev_c rv_I0) rfl)) (sq_of h7)
          rw [cut_mid (by omega) (by omega), ← List.map_drop, ← List.map_take] at h0
          exact h0
        have hJ : ∀ {te : TE} {ys : List Str} {H7 : Hp}, Kp m H H7 → MugAt H7 m → EvL te [some (.ref m), some (.ref p), some (.str L), some (.int r), none, none, some (.ref pw), some (.int (j : Int))] H7 (ys.map V.str) → (∀ y ∈ ys, y ∈ ws) → tot ys ≤ 423 → ys.length ≤ 430 →
            te [some (.ref m), some (.ref p), some (.str L), some (.int r), none, none, some (.ref pw), some (.int (j : Int))] H7 fun y H2 => ∃ a p, ∃ ys : List Str, V.str " " = V.str a ∧ [y] = [V.ref p] ∧ (SqL K H2 p (ys.map V.str) ∨ SqT K H2 p (ys.map V.str)) ∧ (ys.map (·.length)).sum + ys.length * a.length ≤ 16777216 ∧ Q (V.str (Txt.join a ys)) H2 := fun {te ys H7} k7 m7 he hin ht hlen =>
          he H7 (Ex.refl H7) _ fun p7 H8 hp7 e8 h8 => ⟨" ", p7, ys, rfl, rfl, .inl (sq_of h8), by
            have h1 : ((" " : Str)).length = 1 := by decide +kernel
            rw [h1]
            unfold tot at ht
            omega, lineS ((join_ok fun y hy => hw2 y (hin y hy)).mono (by omega)) (k7.trans (Kp.of e8)) (m7.ex e8)⟩
        have t1 := tot_take j ws
        have t2 := tot_take (j + 1) ws
        have t3 := tot_take (j + 1 - j) (ws.drop j)
        refine sip_if (m := m) (t := 2) (ea_cons (ev_var rfl) (ea_cons ev_c ea_nil)) m6 (by decide) (by decide) (fun H7 k7 m7 => ?_) fun H7 k7 m7 => ?_
        · have h7 := k7 pw _ hpwm hx6
          have hc := el_cat (sl1 h7) (sl2 h7) (by simp only [List.length_map, List.length_take, List.length_drop]; omega)
          rw [← List.map_append] at hc
          exact hJ (kS.trans k7) m7 hc (fun y hy => (List.mem_append.mp hy).elim List.mem_of_mem_take List.mem_of_mem_drop) (by rw [tot_app]; omega) (by simp only [List.length_append, List.length_take, List.length_drop]; omega)
        · have h7 := k7 pw _ hpwm hx6
          have hc := el_cat (el_cat (sl1 h7) (sl4 h7) (by simp only [List.length_map, List.length_take, List.length_drop]; omega)) (sl3 h7) (by simp only [List.length_append, List.length_map, List.length_take, List.length_drop]; omega)
          rw [← List.map_append, ← List.map_append] at hc
          exact hJ (kS.trans k7) m7 hc (fun y hy => by
            rcases List.mem_append.mp hy with z | z
            · exact (List.mem_append.mp z).elim List.mem_of_mem_take fun z => List.mem_of_mem_drop (List.mem_of_mem_take z)
            · exact List.mem_of_mem_drop z) (by rw [tot_app, tot_app]; omega) (by simp only [List.length_append, List.length_take, List.length_drop]; omega)
      · have k4 := k3.trans (Kp.of e4)
        have m4 := m3.ex e4
        refine q_when (b := decide (V.int r = V.int 4)) (et_test (ev_op (ev_var rfl) ev_c (rv_eq rfl))) (fun hb H5 e5 => ?_) fun hb H5 e5 => ?_
        · have k5 := k4.trans (Kp.of e5)
          have m5 := m4.ex e5
          refine ⟨.ref m, rfl, ?_⟩
          refine ⟨.ref m, rfl, m, rfl, m5, fun v H6 k6 m6 lv => ?_⟩
          have k06 := k5.trans k6
          obtain ⟨a, hd1, hd2⟩ := hD
          have ha : a ≠ m := fun z => by
            obtain ⟨x, y, zz, hh⟩ := hm
            rw [z, hh] at hd2
            cases hd2
          have hd1' := k06 p _ hpm hd1
          have hd2' := k06 a _ ha hd2
          obtain ⟨s1, s2, s3⟩ := shown_knots hG
          have hline : ∀ {z : Str} {te : TE}, okS 1000 z → Ev te [some (.ref m), some (.ref p), some (.str L), some (.int r), none, none, none, none] H6 (.str z) → EvP K m te [some (.ref m), some (.ref p), some (.str L), some (.int r), none, none, none, none] H6 := fun {z te} hz he => ep_str he hz
          have hS1 : okS 1 (" " : Str) := okS_lit _ (by decide +kernel)
          have hN1 : okS 1 ("\n" : Str) := okS_lit _ (by decide +kernel)
          have hrest : EvAP K m 5 (tCons (tM0 (fun x xs H Q => ∃ a, x = V.str a ∧ xs = [] ∧ a.length ≤ 5592405 ∧ Q (.str (Txt.upper a)) H) (tVar 2)) (tCons (tOp (fun x y H Q => ∃ i j, x = V.str i ∧ y = V.str j ∧ i.length + j.length ≤ sizeLine ∧ Q (.str (i ++ j)) H) (tC (.str " ")) (tVar 2)) (tCons (tOp (fun x y H Q => ∃ i j, x = V.str i ∧ y = V.str j ∧ i.length + j.length ≤ sizeLine ∧ Q (.str (i ++ j)) H) (tVar 2) (tC (.str " ")))
              (tCons (tOp (fun x y H Q => ∃ i j, x = V.str i ∧ y = V.str j ∧ i.length + j.length ≤ sizeLine ∧ Q (.str (i ++ j)) H) (tVar 2) (tC (.str "\n"))) (tCons (tOp (rIxL K) (tVar 1) (tC (.int 1))) tNil))))) [some (.ref m), some (.ref p), some (.str L), some (.int r), none, none, none, none] H6 :=
            eap_cons (hline ((upper_ok hL).mono (by decide)) fun H7 e7 Q' q' => ⟨.str L, rfl, ⟨L, rfl⟩, L, rfl, rfl, by omega, q' H7 (Ex.refl H7)⟩) (eap_cons (hline ((okS_app hS1 hL).mono (by decide)) (ev_op ev_c (ev_var rfl) (rv_addS (by have := hS1.len; omega)))) (eap_cons (hline ((okS_app hL hS1).mono (by decide)) (ev_op (ev_var rfl) ev_c (rv_addS (by have := hS1.len; omega))))
              (eap_cons (hline ((okS_app hL hN1).mono (by decide)) (ev_op (ev_var rfl) ev_c (rv_addS (by have := hN1.len; omega)))) (eap_cons (fun H7 e7 Q' q' => ev_op (x := .ref p) (y := .int 1) (z := .ref a) (ev_var rfl) ev_c (rv_ixL (sq_of (e7 p _ hd1')) (atI_nat (j := 1) rfl rfl)) H7 (Ex.refl H7) _ fun H8 e8 => q' (.ref a) H8 e8 (line_tup (ds := ks.map PyData.int) ((e7.trans e8) a _ hd2') ha (fun H' _ => dp_ints ks) s1 s2 s3)) eap_nil))))
          refine hrest H6 (Ex.refl H6) _ fun vs H7 e7 hl hv => ⟨by rw [List.length_cons, hl]; decide, fun pl hpl => ⟨m, .ref pl, rfl, (m6.ex e7).ex (Ex.new hpl), .inl ⟨pl, v :: vs, rfl, (m6.ex e7).ne hpl, upd_same, by rw [List.length_cons]; omega, by rw [List.length_cons, hl]; decide, fun x H8 hx k8 m8 => ?_⟩⟩⟩
          have kE : Kn m H7 H8 := (Kn.of (Ex.new hpl)).trans (Kn.kp k8)
          refine q x H8 (((k06.trans (Kp.of e7)).trans (Kp.of (Ex.new hpl))).trans k8) m8 ?_
          rcases List.mem_cons.mp hx with rfl | hx
          · exact lv.kn ((Kn.of e7).trans kE)
          · exact (hv x hx).kn kE
        · exact s_ret (σ := [some (.ref m), some (.ref p), some (.str L), some (.int r), none, none, none, none]) (ev_var (i := 2) rfl) fun H6 e6 => lineS (hL.mono (by decide)) (k4.trans (Kp.of (e5.trans e6))) (m4.ex (e5.trans e6))
end
end Kg

set_option maxHeartbeats 1000000
/-! _law_class, _law_field: asked while an InvalidText is handled -/
namespace Kg
open PySem PySem.Spec PyProof.Rows L2 Evl
/-- the class x, and whether D is below it -/
def Is (K : PySem.W.Frag) (mg : Str → Option Value) (D : Addr) (x : Str) (b : Bool) : Prop := ∃ C, mg x = some (.ref C) ∧ PySem.W.kitOne K (.ref D) (.ref C) = some b
structure XF (K : PySem.W.Frag) (mg : Str → Option Value) (D : Addr) : Prop where
  ec : ExcC K D
  xf : XfC K D
  no : PySem.W.findIn K (.ref D) "given" = some none
  notRight : Is K mg D "NotRight" true
  notKnown : Is K mg D "NotKnown" false
  notPossible : Is K mg D "NotPossible" false
  text : Is K mg D "InvalidText" true
  number : Is K mg D "InvalidNumber" false
  degree : Is K mg D "InvalidDegree" false
  knots : Is K mg D "InvalidKnots" false
  frame : Is K mg D "NotAFrame" false
  curve : Is K mg D "NotACurve" false
  amounts : Is K mg D "InvalidAmounts" false
  places : Is K mg D "InvalidPlaces" false
  heights : Is K mg D "InvalidHeights" false
  index : Is K mg D "InvalidIndex" false
  knot : Is K mg D "InvalidKnot" false
  offers : Is K mg D "InvalidOffers" false
  one : Is K mg D "NotOne" false
  many : Is K mg D "TooMany" false
  broken : Is K mg D "Broken" false
  ve : PySem.W.kitOne K (.ref D) (.type "ValueError") = some true
  le : PySem.W.kitOne K (.ref D) (.type "LookupError") = some false
  ae : PySem.W.kitOne K (.ref D) (.type "ArithmeticError") = some false
section
variable {K : PySem.W.Frag} {H : Hp} {σ : L2.St} {te : TE} {t : TA}
/-- a list of pairs (lists) of a word and a bool -/
def PairsAt (H : Hp) (p : Addr) (l : List (Str × Bool)) : Prop := ∃ rs : List Addr, H p = some (.lst (rs.map V.ref)) ∧ Paired (fun r wb => H r = some (.lst [.str wb.1, .bl wb.2])) rs l
theorem paired_ex {H H' : Hp} {rs : List Addr} {l : List (Str × Bool)} (e : Ex H H') (h : Paired (fun r wb => H r = some (.lst [.str wb.1, .bl wb.2])) rs l) : Paired (fun r wb => H' r = some (.lst [.str wb.1, .bl wb.2])) rs l := L2.Paired.mapP h fun a b h => e _ _ h
def EvPr (te : TE) (σ : L2.St) (H : Hp) (l : List (Str × Bool)) : Prop := ∀ H1, Ex H H1 → ∀ Q : VK, (∀ p H2, H1 p = none → Ex H1 H2 → PairsAt H2 p l → Q (.ref p) H2) → te σ H1 Q
def EvPA (t : TA) (σ : L2.St) (H : Hp) (l : List (Str × Bool)) : Prop := ∀ H1, Ex H H1 → ∀ Q : List V → Hp → Prop, (∀ (rs : List Addr) H2, Ex H1 H2 → Paired (fun r wb => H2 r = some (.lst [.str wb.1, .bl wb.2])) rs l → Q (rs.map V.ref) H2) → t σ H1 Q
theorem epa_nil : EvPA tNil σ H [] := fun H1 _ Q q => q [] H1 (Ex.refl H1) .nil
theorem epa_cons {x : Str} {b : Bool} {l : List (Str × Bool)} (h : Ev te σ H (.bl b)) (hr : EvPA t σ H l) : EvPA (tCons (tLst (tCons (tC (.str x)) (tCons te tNil))) t) σ H ((x, b) :: l) := fun H1 e Q q =>
  h H1 e _ fun H2 e2 => ⟨by show (2 : Nat) ≤ sizeLine; decide, fun p hp => hr _ ((e.trans e2).trans (Ex.new hp)) _ fun rs H3 e3 hq => q (p :: rs) H3 ((e2.trans (Ex.new hp)).trans e3) (.cons (e3 p _ upd_same) hq)⟩
theorem epr_lst {l : List (Str × Bool)} (h : EvPA t σ H l) (hl : l.length ≤ 100) : EvPr (tLst t) σ H l := fun H1 e Q q =>
  h H1 e _ fun rs H2 e2 hq => ⟨sz_of (by rw [List.length_map, Paired.length hq]; omega), fun p hp => q p _ (fresh_back e2 hp) (e2.trans (Ex.new hp)) ⟨rs, upd_same, paired_ex (Ex.new hp) hq⟩⟩
theorem paired_app {α β : Type} {R : α → β → Prop} : ∀ {a b : List α} {c d : List β}, Paired R a c → Paired R b d → Paired R (a ++ b) (c ++ d)
  | _, _, _, _, .nil, h => h
  | _, _, _, _, .cons r t, h => .cons r (paired_app t h)
theorem q_prs {i : Nat} {tz : TS} {D : Ends} {l : List (Str × Bool)} (h : EvPr te σ H l) (k : ∀ p H1, Ex H H1 → PairsAt H1 p l → tz D (σ.set i (some (.ref p))) H1) : tSeq (tAsg te (gName i)) tz D σ H := h H (Ex.refl H) _ fun p H1 hp e hx => k p H1 e hx
theorem q_prsCat {i j : Nat} {tz : TS} {D : Ends} {p1 : Addr} {l1 l : List (Str × Bool)} (hj : σ[j]? = some (some (.ref p1))) (h1 : PairsAt H p1 l1) (hz : l1.length ≤ 100 ∧ l.length ≤ 100) (h : EvPr te σ H l)
    (k : ∀ p H1, Ex H H1 → PairsAt H1 p (l1 ++ l) → tz D (σ.set i (some (.ref p))) H1) : tSeq (tAsg (tOp rCat (tVar j) te) (gName i)) tz D σ H :=
  ⟨.ref p1, hj, h H (Ex.refl H) _ fun p2 H2 hp e hx => by
    obtain ⟨r1, a1, b1⟩ := h1
    obtain ⟨r2, a2, b2⟩ := hx
    refine ⟨p1, p2, _, _, rfl, rfl, e _ _ a1, a2, sz_of ?_, fun p hp' => k p _ (e.trans (Ex.new hp')) ⟨r1 ++ r2, by rw [upd_same, List.map_append], paired_ex (Ex.new hp') (paired_app (paired_ex e b1) b2)⟩⟩
    rw [List.length_map, List.length_map, Paired.length b1, Paired.length b2]
    omega⟩
theorem rc_isX {D a d : Addr} {c : V} {cv : Value} {b : Bool} {fs : List (Str × V)} (hc : ∀ u, RelV c u → u = cv) (hk : PySem.W.kitOne K (.ref D) cv = some b) (hd : H d = some (.xd fs)) : RC (rIsX K D a d) [.ref a, c] H (.bl b) := fun H1 e Q q => ⟨c, cv, b, fs, rfl, hc, hk, e d _ hd, q H1 (Ex.refl H1)⟩
theorem ev_isC {D a d C : Addr} {b : Bool} {fs : List (Str × V)} {i : Nat} (hi : σ[i]? = some (some (.ref a))) (hk : PySem.W.kitOne K (.ref D) (.ref C) = some b) (hd : H d = some (.xd fs)) : Ev (tCB (rIsX K D a d) (tCons (tVar i) (tCons (tC (.ref C)) tNil))) σ H (.bl b) :=
  ev_cb (ea_cons (ev_var hi) (ea_cons ev_c ea_nil)) (rc_isX (cv := .ref C) (fun u r => r) hk hd)
theorem paired_at {α β : Type} {R : α → β → Prop} : ∀ {a : List α} {b : List β} {i : Nat} {x : α}, Paired R a b → a[i]? = some x → ∃ y, b[i]? = some y ∧ R x y
  | _, _, _, _, .nil, h => by simp at h
  | _, _, 0, _, .cons r t, h => by
    injection h with h
    subst h
    exact ⟨_, rfl, r⟩
  | _, _, i + 1, _, .cons r t, h => paired_at (i := i) t (by simpa using h)
end
section
variable {K : PySem.W.Frag} {H : Hp}
theorem el_pairs {a ps : Addr} {l : List (Str × Bool)} (hp : PairsAt H ps l) (hl : l.length ≤ 100) :
    EvL (tLc (iList K (tVar 1)) (gLst K 2 (gCons (gName 3) (gCons (gName 4) gNil))) (tB (tVar 4)) (tVar 3) [3, 4]) [some (.ref a), some (.ref ps), none, none, none] H ((l.filter (·.2)).map fun wb => V.str wb.1) := fun H1 e Q q => by
  obtain ⟨rs, h1, h2⟩ := hp
  have hz := Paired.length h2
  refine ⟨.ref ps, rfl, ps, rfl, ⟨_, sq_of (e _ _ h1)⟩, fun D hD => ?_⟩
  refine lc_list (xs := rs.map V.ref) (fun i H' => Ex H1 H' ∧ H' D = some (.lst (((l.take i).filter (·.2)).map fun wb => V.str wb.1))) ⟨Ex.new hD, upd_same⟩ (fun i H' _ p => sq_of ((e.trans p.1) _ _ h1)) (fun i x H' hx p => ?_) (fun H' p => ?_)
  · obtain ⟨eH, hd⟩ := p
    rw [List.getElem?_map] at hx
    obtain ⟨r, hr, rfl⟩ : ∃ r, rs[i]? = some r ∧ V.ref r = x := by
      cases hh : rs[i]? with
      | none => rw [hh] at hx; cases hx
      | some r => rw [hh] at hx; exact ⟨r, rfl, Option.some.inj hx⟩
    obtain ⟨wb, hwb, hrw⟩ := paired_at h2 hr
    have hi : i < l.length := (List.getElem?_eq_some_iff.mp hwb).1
    refine ⟨r, _, rfl, sq_of ((e.trans eH) _ _ hrw), rfl, .str wb.1, [.bl wb.2], rfl, .bl wb.2, [], rfl, rfl, rfl, ?_⟩
    refine ⟨.bl wb.2, rfl, wb.2, rfl, ?_⟩
    cases hb : wb.2 with
    | true =>
      refine ⟨.str wb.1, rfl, _, hd, sz_lt ?_, fun b o hb' => ?_, ?_⟩
      · rw [List.length_map]
        have h3 := List.length_filter_le (fun x : Str × Bool => x.2) (l.take i)
        rw [List.length_take] at h3
        omega
      · rw [upd_ne (ne_of_none hb' hD)]
        exact eH b o hb'
      · rw [upd_same, take_more hwb, List.filter_append, List.map_append, List.filter_cons, if_pos hb]
        rfl
    | false =>
      refine ⟨eH, ?_⟩
      rw [take_more hwb, List.filter_append, List.map_append, List.filter_cons, if_neg (by rw [hb]; decide), hd]
      simp
  · obtain ⟨eH, hd⟩ := p
    rw [List.length_map, hz, List.take_length] at hd
    exact q D H' hD eH hd
end
theorem hotB {X : Cx} {s : Shared} {H : Hp} {scope : Scope} {ce : Env} {fp : List Addr} (h : L2H.HotC X) : L2H.HotC (blkH X s H scope ce fp) := h
section
variable {X : Cx} {D a d C : Addr} {e : Expr} {te : TE} {c : Str} {p1 p2 pos : Pos}
theorem pe_isC (x : ExAt X D a d) (T : ExcC X.K D) (gI : Gl X "isinstance") (mI : X.mg "isinstance" = none) (he : PE X e te) (hg : Gl X c) (hm : X.mg c = some (.ref C)) (hd : (c == ("__debug__" : Str)) = false := by decide)
    (hs1 : starEach [e, .Name c p2] X.env = (false, eval e X.env) :: starEach [.Name c p2] X.env := by rfl) (hs2 : (backTo pos (starEach [.Name c p2] X.env)).any (·.1) = false := by rfl) : PE X (.Call (.Name "isinstance" p1) [e, .Name c p2] [] pos) (tCB (rIsX X.K D a d) (tCons te (tCons (tC (.ref C)) tNil))) :=
  pe_callB (call_isX x T) gI mI boot_isinstance (pa_cons he (pa_cons (C8.pe_gc hg ⟨_, hm, rfl⟩ hd) pa_nil) hs1) (by decide) (by decide) hs1 hs2
end
section
variable {P : Program} {w : World} {K : PySem.W.Frag} {mg : Str → Option Value} {base : Heap} {f D : Addr} {fd : FuncData}
def spClassE : Addr → Hp → VK → Prop := fun d H Q => ∃ fs, H d = some (.xd fs) ∧ RetV (.str "text") H Q
theorem ok_class (N : Nms mg) (T : XF K mg D) (F : L2.Fun K "_law_class" "_law_class" sClass f fd) : FnE P w K mg base L2.CX0 2 f fd "_law_e" D spClassE := by
  obtain ⟨c1, m1, k1⟩ := T.text
  obtain ⟨c2, m2, k2⟩ := T.number
  obtain ⟨c3, m3, k3⟩ := T.degree
  obtain ⟨c4, m4, k4⟩ := T.knots
  obtain ⟨c5, m5, k5⟩ := T.frame
  obtain ⟨c6, m6, k6⟩ := T.curve
  obtain ⟨c7, m7, k7⟩ := T.amounts
  obtain ⟨c8, m8, k8⟩ := T.places
  obtain ⟨c9, m9, k9⟩ := T.heights
  obtain ⟨c10, m10, k10⟩ := T.index
  obtain ⟨c11, m11, k11⟩ := T.knot
  obtain ⟨c12, m12, k12⟩ := T.offers
  obtain ⟨c13, m13, k13⟩ := T.one
  obtain ⟨c14, m14, k14⟩ := T.many
  obtain ⟨c15, m15, k15⟩ := T.broken
  refine okE F scClass fun cdv A outer s H Q E q d hot x hr h => ?_
  obtain ⟨fs, hd, rt⟩ := h
  have hc : L2H.HotC (L2H.cxH L2.CX0 P w K mg base nClass "_law_class" (defScope sClass) f cdv A outer s H E q) := ⟨q, ⟨hot.1, hot.2⟩, List.mem_singleton.mpr rfl⟩
  refine ⟨_, pss_cons (ps_asg (pe_lst (pa_cons (pe_lst (pa_cons pe_str (pa_cons (pe_isC x T.ec (by rfl) N.isinstance (pv 0) (by rfl) m1) pa_nil))) (pa_cons (pe_lst (pa_cons pe_str (pa_cons (pe_isC x T.ec (by rfl) N.isinstance (pv 0) (by rfl) m2) pa_nil))) pa_nil))) (pg_name (i := 1) scClass.nd rfl (.inl rfl))) (
    pss_cons (ps_asg (pe_op op_cat (pv 1) (pe_lst (pa_cons (pe_lst (pa_cons pe_str (pa_cons (pe_isC x T.ec (by rfl) N.isinstance (pv 0) (by rfl) m3) pa_nil))) (pa_cons (pe_lst (pa_cons pe_str (pa_cons (pe_isC x T.ec (by rfl) N.isinstance (pv 0) (by rfl) m4) pa_nil))) pa_nil)))) (pg_name (i := 1) scClass.nd rfl (.inl rfl))) (
    pss_cons (ps_asg (pe_op op_cat (pv 1) (pe_lst (pa_cons (pe_lst (pa_cons pe_str (pa_cons (pe_isC x T.ec (by rfl) N.isinstance (pv 0) (by rfl) m5) pa_nil))) (pa_cons (pe_lst (pa_cons pe_str (pa_cons (pe_isC x T.ec (by rfl) N.isinstance (pv 0) (by rfl) m6) pa_nil))) pa_nil)))) (pg_name (i := 1) scClass.nd rfl (.inl rfl))) (
    pss_cons (ps_asg (pe_op op_cat (pv 1) (pe_lst (pa_cons (pe_lst (pa_cons pe_str (pa_cons (pe_isC x T.ec (by rfl) N.isinstance (pv 0) (by rfl) m7) pa_nil))) (pa_cons (pe_lst (pa_cons pe_str (pa_cons (pe_isC x T.ec (by rfl) N.isinstance (pv 0) (by rfl) m8) pa_nil))) pa_nil)))) (pg_name (i := 1) scClass.nd rfl (.inl rfl))) (
    pss_cons (ps_asg (pe_op op_cat (pv 1) (pe_lst (pa_cons (pe_lst (pa_cons pe_str (pa_cons (pe_isC x T.ec (by rfl) N.isinstance (pv 0) (by rfl) m9) pa_nil))) (pa_cons (pe_lst (pa_cons pe_str (pa_cons (pe_isC x T.ec (by rfl) N.isinstance (pv 0) (by rfl) m10) pa_nil))) pa_nil)))) (pg_name (i := 1) scClass.nd rfl (.inl rfl))) (
    pss_cons (ps_asg (pe_op op_cat (pv 1) (pe_lst (pa_cons (pe_lst (pa_cons pe_str (pa_cons (pe_isC x T.ec (by rfl) N.isinstance (pv 0) (by rfl) m11) pa_nil))) (pa_cons (pe_lst (pa_cons pe_str (pa_cons (pe_isC x T.ec (by rfl) N.isinstance (pv 0) (by rfl) m12) pa_nil))) pa_nil)))) (pg_name (i := 1) scClass.nd rfl (.inl rfl))) (
    pss_cons (ps_asg (pe_op op_cat (pv 1) (pe_lst (pa_cons (pe_lst (pa_cons pe_str (pa_cons (pe_isC x T.ec (by rfl) N.isinstance (pv 0) (by rfl) m13) pa_nil))) (pa_cons (pe_lst (pa_cons pe_str (pa_cons (pe_isC x T.ec (by rfl) N.isinstance (pv 0) (by rfl) m14) pa_nil))) (pa_cons (pe_lst (pa_cons pe_str (pa_cons (pe_isC x T.ec (by rfl) N.isinstance (pv 0) (by rfl) m15) pa_nil))) pa_nil))))) (pg_name (i := 1) scClass.nd rfl (.inl rfl))) (
    pss_cons (ps_setLcH (i := 2) (own := [("_law_word", 3), ("_law_fits_here", 4)]) (g := gLst K 2 (gCons (gName 3) (gCons (gName 4) gNil))) hc scClass.nd rfl rfl (sw_true rfl rfl rfl rfl) (pi_listH (pv 1)) (blkOk_by (N := nClass) (sc := defScope sClass) (by decide +kernel)) (fun _ _ _ _ _ => pg_lstH (hotB hc) (pgs_cons (pg_name (i := 3) scClass.nd rfl (.inl rfl)) (pgs_cons (pg_name (i := 4) scClass.nd rfl (.inl rfl)) pgs_nil))) (fun _ _ _ _ _ => pts_one (pt_val (pv 4))) (fun _ _ _ _ _ => pv 3)) (
    pss_one (ps_ret (pe_ifExp (pt_cmpR op_eq (pe_callB call_len_seq (by rfl) N.len boot_len (pa_cons (pv 2) pa_nil)) pe_int (nomark _)) (pe_ix ix_list (pv 2) pe_int (fun _ _ => rfl)) pe_str)))))))))), ?_⟩
  refine q_prs (epr_lst (epa_cons (ev_isC rfl k1 (hd)) (epa_cons (ev_isC rfl k2 (hd)) epa_nil)) (by decide)) fun p1 H1 e1 h1 => ?_
  have d1 := e1 d _ hd
  refine q_prsCat rfl h1 ⟨by decide, by decide⟩ (epr_lst (epa_cons (ev_isC rfl k3 (d1)) (epa_cons (ev_isC rfl k4 (d1)) epa_nil)) (by decide)) fun p2 H2 e2 h2 => ?_
  have d2 := e2 d _ d1
  refine q_prsCat rfl h2 ⟨by decide, by decide⟩ (epr_lst (epa_cons (ev_isC rfl k5 (d2)) (epa_cons (ev_isC rfl k6 (d2)) epa_nil)) (by decide)) fun p3 H3 e3 h3 => ?_
  have d3 := e3 d _ d2
  refine q_prsCat rfl h3 ⟨by decide, by decide⟩ (epr_lst (epa_cons (ev_isC rfl k7 (d3)) (epa_cons (ev_isC rfl k8 (d3)) epa_nil)) (by decide)) fun p4 H4 e4 h4 => ?_
  have d4 := e4 d _ d3
  refine q_prsCat rfl h4 ⟨by decide, by decide⟩ (epr_lst (epa_cons (ev_isC rfl k9 (d4)) (epa_cons (ev_isC rfl k10 (d4)) epa_nil)) (by decide)) fun p5 H5 e5 h5 => ?_
  have d5 := e5 d _ d4
  refine q_prsCat rfl h5 ⟨by decide, by decide⟩ (epr_lst (epa_cons (ev_isC rfl k11 (d5)) (epa_cons (ev_isC rfl k12 (d5)) epa_nil)) (by decide)) fun p6 H6 e6 h6 => ?_
  have d6 := e6 d _ d5
  refine q_prsCat rfl h6 ⟨by decide, by decide⟩ (epr_lst (epa_cons (ev_isC rfl k13 (d6)) (epa_cons (ev_isC rfl k14 (d6)) (epa_cons (ev_isC rfl k15 (d6)) epa_nil))) (by decide)) fun p7 H7 e7 h7 => ?_
  have d7 := e7 d _ d6
  refine q_asgL (el_pairs h7 (by decide)) fun pf H8 hpf e8 h8 => ?_
  have eA := ((((((e1.trans e2).trans e3).trans e4).trans e5).trans e6).trans e7).trans e8
  refine s_ret (σ := [some (.ref q.1), some (.ref p7), some (.ref pf), none, none]) (v := .str "text") (ev_if (b := true) (et_is (et_test (ev_op (ev_cb (ea_cons (ev_var rfl) ea_nil) (rc_len (.inl (sq_of h8)))) ev_c (rv_eq rfl))) (by decide +kernel)) (fun _ => ev_op (ev_var rfl) ev_c (rv_ixL (sq_of h8) (atI_nat (j := 0) rfl rfl))) (fun h => by cases h)) fun H9 e9 => rt H9 (eA.trans e9)
end
end Kg

set_option maxHeartbeats 1000000
/-! _law_field -/
namespace Kg
open PySem PySem.Spec PyProof.Rows L2 Evl
theorem pe_dead {X : Cx} {e : Expr} : PE X e (fun _ _ _ => False) := ⟨fun _ _ _ _ _ _ h => h.elim⟩
section
variable {K : PySem.W.Frag} {H : Hp} {σ : L2.St}
theorem ev_cb2U {r : List V → Hp → VK → Prop} {ta tb : TE} {x z : V} {xs : List V} (ha : Ev ta σ H x) (hb : EvU tb σ H xs) (hr : ∀ p H1, Ex H H1 → H1 p = some (.tup xs) → RC r [x, .ref p] H1 z) : Ev (tCB r (tCons ta (tCons tb tNil))) σ H z := fun H1 e Q q =>
  ha H1 e _ fun H2 e2 => hb H2 (e.trans e2) _ fun p H3 hp e3 hx => hr p H3 ((e.trans e2).trans e3) hx H3 (Ex.refl H3) Q fun H4 e4 => q H4 ((e2.trans e3).trans e4)
theorem rc_isXT {D a d : Addr} {cs : List V} {ws : List Value} {b : Bool} {fs : List (Str × V)} {p : Addr} (hp : H p = some (.tup cs)) (hc : Paired ClsV cs ws) (hk : PySem.W.kitAny K (.ref D) ws = some b) (hd : H d = some (.xd fs)) : RC (rIsXT K D a d) [.ref a, .ref p] H (.bl b) := fun H1 e Q q => ⟨p, cs, ws, b, fs, rfl, e _ _ hp, hc, hk, e d _ hd, q H1 (Ex.refl H1)⟩
end
section
variable {P : Program} {w : World} {K : PySem.W.Frag} {mg : Str → Option Value} {base : Heap} {f D : Addr} {fd : FuncData}
def spFieldE : Addr → Hp → VK → Prop := fun d H Q => ∃ v, H d = some (.xd [("given", v)]) ∧ RetV v H Q
theorem ok_field (N : Nms mg) (T : XF K mg D) (F : L2.Fun K "_law_field" "_law_field" sField f fd) : FnE P w K mg base L2.CX0 2 f fd "_law_e" D spFieldE := by
  obtain ⟨c4, m4, k4⟩ := T.knots
  obtain ⟨c7, m7, k7⟩ := T.amounts
  obtain ⟨c8, m8, k8⟩ := T.places
  obtain ⟨c9, m9, k9⟩ := T.heights
  obtain ⟨c12, m12, k12⟩ := T.offers
  obtain ⟨c13, m13, k13⟩ := T.one
  obtain ⟨c14, m14, k14⟩ := T.many
  obtain ⟨c15, m15, k15⟩ := T.broken
  refine okE F scField fun cdv A outer s H Q E q d hot x hr h => ?_
  obtain ⟨v, hd, rt⟩ := h
  refine ⟨_, pss_cons (ps_if (pt_val (pe_callB (call_isXT x T.ec) (by rfl) N.isinstance boot_isinstance (pa_cons (pv 0) (pa_cons (pe_tup (pa_cons (C8.pe_gc (v := .ref c4) (by rfl) ⟨_, m4, rfl⟩) (pa_cons (C8.pe_gc (v := .ref c7) (by rfl) ⟨_, m7, rfl⟩) (pa_cons (C8.pe_gc (v := .ref c8) (by rfl) ⟨_, m8, rfl⟩) (pa_cons (C8.pe_gc (v := .ref c9) (by rfl) ⟨_, m9, rfl⟩) (pa_cons (C8.pe_gc (v := .ref c12) (by rfl) ⟨_, m12, rfl⟩) (pa_cons (C8.pe_gc (v := .ref c15) (by rfl) ⟨_, m15, rfl⟩) pa_nil))))))) pa_nil)))) (pss_one ps_dead) pss_nil)
    (pss_cons (ps_if (pt_val (pe_isC x T.ec (by rfl) N.isinstance (pv 0) (by rfl) m13)) (pss_one ps_dead) pss_nil)
    (pss_one (ps_ret (pe_ifExp (pt_val (pe_isC x T.ec (by rfl) N.isinstance (pv 0) (by rfl) m14)) pe_dead (pe_xf x T.xf T.no (pv 0)))))), ?_⟩
  refine q_when (b := false) (et_B (ev_cb2U (ev_var rfl) (eu_tup (ea_cons ev_c (ea_cons ev_c (ea_cons ev_c (ea_cons ev_c (ea_cons ev_c (ea_cons ev_c ea_nil)))))) (by show (6 : Nat) ≤ 100000; decide)) fun p H1 e1 hp => rc_isXT hp (.cons (.own c4) (.cons (.own c7) (.cons (.own c8) (.cons (.own c9) (.cons (.own c12) (.cons (.own c15) .nil)))))) (kitAny_cons k4 (fun _ => kitAny_cons k7 (fun _ => kitAny_cons k8 (fun _ => kitAny_cons k9 (fun _ => kitAny_cons k12 (fun _ => kitAny_cons k15 (fun _ => rfl) (fun h => by cases h)) (fun h => by cases h)) (fun h => by cases h)) (fun h => by cases h)) (fun h => by cases h)) (fun h => by cases h)) (e1 d _ hd))) (fun h => by cases h) fun _ H1 e1 => ?_
  have d1 := e1 d _ hd
  refine q_when (b := false) (et_B (ev_isC rfl k13 d1)) (fun h => by cases h) fun _ H2 e2 => ?_
  have d2 := e2 d _ d1
  refine s_ret (v := v) (ev_if (b := false) (et_B (ev_isC rfl k14 d2)) (fun h => by cases h) fun _ => fun H3 e3 Q' q' => ?_) fun H3 e3 => rt H3 ((e1.trans e2).trans e3)
  exact ⟨.ref q.1, rfl, _, v, rfl, e3 d _ d2, rfl, q' H3 (Ex.refl H3)⟩
end
end Kg

set_option maxHeartbeats 1000000
/-! _law_error -/
namespace Kg
open PySem PySem.Spec PyProof.Rows L2 Evl LamX
/-- told, or an InvalidText with what was given -/
def TTe (D : Addr) : (XK → Hp → VK → Prop) → Hp → VK → Prop := fun tl H Q =>
  ∀ (E1 : XK) (Q1 : VK), (∀ v H', RetL [.str "told", v] H' Q → Q1 v H') → (∀ (dd : Addr) (v : V) H', H' dd = some (.xd [("given", v)]) → RetL [.str "text", v] H' Q → E1 (.ref D) (some dd) H') → tl E1 H Q1
section
variable {K : PySem.W.Frag}
/-- how the suite reads -/
def tSuite (K : PySem.W.Frag) (D a dd c1 c2 c3 : Addr) : TS :=
  tSeq (tAsg (tLst (tCons (tCB (rIsX K D a dd) (tCons (tVar 2) (tCons (tC (.ref c1)) tNil))) (tCons (tCB (rIsX K D a dd) (tCons (tVar 2) (tCons (tC (.ref c2)) tNil))) (tCons (tCB (rIsX K D a dd) (tCons (tVar 2) (tCons (tC (.ref c3)) tNil))) tNil)))) (gName 3))
  (tSeq (tAsg (tLst (tCons (tCB (rIsX K D a dd) (tCons (tVar 2) (tCons (tC (.ty "ValueError")) tNil))) (tCons (tCB (rIsX K D a dd) (tCons (tVar 2) (tCons (tC (.ty "LookupError")) tNil))) (tCons (tCB (rIsX K D a dd) (tCons (tVar 2) (tCons (tC (.ty "ArithmeticError")) tNil))) tNil)))) (gName 4))
  (tRet (tLst (tCons (tIf (tAnd (tTest (tOp (rEqD K) (tVar 3) (tVar 4))) (tTest (tOp rEq (tBM K "list" (rCountB K) (tVar 3) (tCons (tC (.bl true)) tNil)) (tC (.int 1))))) (tCallE a dd spClassE (tVar 2)) (tC (.str "odd"))) (tCons (tCallE a dd spFieldE (tVar 2)) tNil)))))
theorem suite_runs {mg : Str → Option Value} {D a dd c1 c2 c3 f : Addr} {o1 o3 o4 : Option V} {v : V} {H : Hp} {D0 : Ends} (T : XF K mg D) (k1 : PySem.W.kitOne K (.ref D) (.ref c1) = some true) (k2 : PySem.W.kitOne K (.ref D) (.ref c2) = some false) (k3 : PySem.W.kitOne K (.ref D) (.ref c3) = some false)
    (hd : H dd = some (.xd [("given", v)])) (h : RetL [.str "text", v] H D0.rt) : tSuite K D a dd c1 c2 c3 D0 [some (.ref f), o1, some (.ref a), o3, o4] H := by
  unfold tSuite
  refine q_asgL (el_lst (ea_cons (ev_isC (b := true) rfl k1 hd) (ea_cons (ev_isC (b := false) rfl k2 hd) (ea_cons (ev_isC (b := false) rfl k3 hd) ea_nil))) (by show (3 : Nat) ≤ 100000; decide)) fun p1 H1 hp1 e1 h1 => ?_
  have d1 := e1 dd _ hd
  have isT : ∀ {n : String} {b : Bool}, PySem.W.kitOne K (.ref D) (.type n) = some b → Ev (tCB (rIsX K D a dd) (tCons (tVar 2) (tCons (tC (.ty n)) tNil))) [some (.ref f), o1, some (.ref a), some (.ref p1), o4] H1 (.bl b) := fun {n b} hk => ev_cb (ea_cons (ev_var rfl) (ea_cons ev_c ea_nil)) (rc_isX (cv := .type n) (fun u r => r) hk d1)
  refine q_asgL (el_lst (ea_cons (isT T.ve) (ea_cons (isT T.le) (ea_cons (isT T.ae) ea_nil))) (by show (3 : Nat) ≤ 100000; decide)) fun p2 H2 hp2 e2 h2 => ?_
  have e12 := e1.trans e2
  have h1' := e2 _ _ h1
  have d2 := e2 dd _ d1
  have tE : EvT (tTest (tOp (rEqD K) (tVar 3) (tVar 4))) [some (.ref f), o1, some (.ref a), some (.ref p1), some (.ref p2)] H2 true := et_is (et_test (ev_op (ev_var rfl) (ev_var rfl) (rv_eqD (d := .list [.bool true, .bool false, .bool false]) (e := .list [.bool true, .bool false, .bool false]) (fun H3 e3 => .lst (sq_of (e3 _ _ h1')) (dp_bools [true, false, false])) (fun H3 e3 => .lst (sq_of (e3 _ _ h2)) (dp_bools [true, false, false])) (by decide +kernel) (by decide +kernel)))) (by decide +kernel)
  have tCnt : EvT (tTest (tOp rEq (tBM K "list" (rCountB K) (tVar 3) (tCons (tC (.bl true)) tNil)) (tC (.int 1)))) [some (.ref f), o1, some (.ref a), some (.ref p1), some (.ref p2)] H2 true := et_is (et_test (ev_op (x := .int 1) (y := .int 1) (fun H3 e3 Q q => ⟨.ref p1, rfl, .inl ⟨rfl, _, sq_of (e3 _ _ h1')⟩, p1, [true, false, false], rfl, rfl, sq_of (e3 _ _ h1'), q H3 (Ex.refl H3)⟩) ev_c (rv_eq rfl))) (by decide +kernel)
  have hcl : Ev (tIf (tAnd (tTest (tOp (rEqD K) (tVar 3) (tVar 4))) (tTest (tOp rEq (tBM K "list" (rCountB K) (tVar 3) (tCons (tC (.bl true)) tNil)) (tC (.int 1))))) (tCallE a dd spClassE (tVar 2)) (tC (.str "odd"))) [some (.ref f), o1, some (.ref a), some (.ref p1), some (.ref p2)] H2 (.str "text") := ev_if (b := true && true) (et_and tE fun _ => tCnt) (fun _ H3 e3 Q q => ⟨.ref a, rfl, rfl, _, e3 dd _ d2, q⟩) (fun h => by cases h)
  have hfl : Ev (tCallE a dd spFieldE (tVar 2)) [some (.ref f), o1, some (.ref a), some (.ref p1), some (.ref p2)] H2 v := fun H3 e3 Q q => ⟨.ref a, rfl, rfl, v, e3 dd _ d2, q⟩
  exact s_retL (el_lst (ea_cons hcl (ea_cons hfl ea_nil)) (by show (2 : Nat) ≤ 100000; decide)) fun p H3 hp e3 h3 => h p H3 (fresh_back e12 hp) (e12.trans e3) h3
end
section
variable {X : Cx} {D : Addr}
theorem error_gives {fC fF : Addr} {fdC fdF : FuncData} {g : Addr} {cdg : Value} {q : Str} (N : Nms X.mg) (T : XF X.K X.mg D) (hex : PySem.W.exmAny X.K (.ref D) [(X.mg "NotRight").getD .none, (X.mg "NotKnown").getD .none, (X.mg "NotPossible").getD .none] = some true)
    (FC : FnE X.prog X.w X.K X.mg X.base L2.CX0 2 fC fdC "_law_e" D spClassE) (bC : Binds X.K fdC ["_law_e"] []) (mC : X.mg "_law_class" = some (.ref fC)) (kC : PySem.W.keepIn X.K (.ref fC) = true)
    (FF : FnE X.prog X.w X.K X.mg X.base L2.CX0 2 fF fdF "_law_e" D spFieldE) (bF : Binds X.K fdF ["_law_e"] []) (mF : X.mg "_law_field" = some (.ref fF)) (kF : PySem.W.keepIn X.K (.ref fF) = true) :
    GivesN X nError "_law_error" (defScope sError) g cdg (defBody sError) "_law_act" q 10 (TTe D) := by
  intro f c' s H Q tl hr act hc h
  obtain ⟨c1, m1, k1⟩ := T.notRight
  obtain ⟨c2, m2, k2⟩ := T.notKnown
  obtain ⟨c3, m3, k3⟩ := T.notPossible
  rw [m1, m2, m3] at hex
  have hex : PySem.W.exmAny X.K (.ref D) [.ref c1, .ref c2, .ref c3] = some true := hex
  refine ⟨_, pss_cons (ps_try_as3 (X := (cxOf L2.CX0 X.prog X.w X.K X.mg X.base nError "_law_error" (defScope sError) g cdg X.A X.stack s H C8.E0).nox) (i := 2) (c1 := .ref c1) (c2 := .ref c2) (c3 := .ref c3)
      (tb := fun W D0 σ H => σ = [some (.ref f), none, none, none, none] ∧ H c' = some (CodeO c' q) ∧ ∃ E : XK, (∀ cls d H', E cls d H' → W cls d σ H') ∧ tl E H (fun v H1 => D0.nx (σ.set 1 (some v)) H1))
      (ts := fun a cls d D0 σ H => ∃ dd : Addr, cls = .ref D ∧ d = some dd ∧ tSuite X.K D a dd c1 c2 c3 D0 σ H)
      rfl rfl scError.nd rfl rfl ⟨by rfl, by decide, .inl m1⟩ ⟨by rfl, by decide, .inl m2⟩ ⟨by rfl, by decide, .inl m3⟩ (fun W pn xe tk _ => ?_) (fun a oe cls d pn hz hf => ?_)) (pss_one (ps_ret (pe_lst (pa_cons pe_str (pa_cons (pv 1) pa_nil))))), ?_⟩
  · refine ⟨fun pins s' σ H' D0 I h' => ?_⟩
    obtain ⟨rfl, h2, h3⟩ := h'
    exact (pss_one (ps_asg (act W pn xe _ _ tk) (pg_name (i := 1) scError.nd rfl (.inl rfl)))).run pins s' _ H' D0 I ⟨rfl, h2, h3⟩
  · refine ⟨fun pins s' σ H' D0 I h' => ?_⟩
    obtain ⟨dd, rfl, rfl, h'⟩ := h'
    have x : ExAt ((cxOf L2.CX0 X.prog X.w X.K X.mg X.base nError "_law_error" (defScope sError) g cdg X.A X.stack s H C8.E0).nox.suite a ((a, oe) :: pn)) D a dd := ⟨oe, List.mem_cons_self, hz.1, hz.2.1, hf⟩
    have hot : L2H.Hot1 ((cxOf L2.CX0 X.prog X.w X.K X.mg X.base nError "_law_error" (defScope sError) g cdg X.A X.stack s H C8.E0).nox.suite a ((a, oe) :: pn)).A (a, oe) := ⟨rfl, by
      obtain ⟨vs, hv⟩ := hf
      exact ⟨vs, hv, hz.2.2 vs hv⟩⟩
    have hrH : L2H.RoomH 10 ((cxOf L2.CX0 X.prog X.w X.K X.mg X.base nError "_law_error" (defScope sError) g cdg X.A X.stack s H C8.E0).nox.suite a ((a, oe) :: pn)).A := ⟨hr.dp, hr.un⟩
    refine PSs.run (t := tSuite X.K D a dd c1 c2 c3) ?_ pins s' σ H' D0 I h'
    exact pss_cons (ps_asg (pe_lst (pa_cons (pe_isC x T.ec (by rfl) N.isinstance (pv 2) (by rfl) m1) (pa_cons (pe_isC x T.ec (by rfl) N.isinstance (pv 2) (by rfl) m2) (pa_cons (pe_isC x T.ec (by rfl) N.isinstance (pv 2) (by rfl) m3) pa_nil)))) (pg_name (i := 3) scError.nd rfl (.inl rfl)))
      (pss_cons (ps_asg (pe_lst (pa_cons (pe_callB (call_isX x T.ec) (by rfl) N.isinstance boot_isinstance (pa_cons (pv 2) (pa_cons (pe_bltn (v := .ty "ValueError") (by rfl) N.ve PyProof.Rows.Boot.«ValueError» rfl) pa_nil))) (pa_cons (pe_callB (call_isX x T.ec) (by rfl) N.isinstance boot_isinstance (pa_cons (pv 2) (pa_cons (pe_bltn (v := .ty "LookupError") (by rfl) N.le PyProof.Rows.Boot.«LookupError» rfl) pa_nil))) (pa_cons (pe_callB (call_isX x T.ec) (by rfl) N.isinstance boot_isinstance (pa_cons (pv 2) (pa_cons (pe_bltn (v := .ty "ArithmeticError") (by rfl) N.ae PyProof.Rows.Boot.«ArithmeticError» rfl) pa_nil))) pa_nil)))) (pg_name (i := 4) scError.nd rfl (.inl rfl)))
      (pss_one (ps_ret (pe_lst (pa_cons (pe_ifExp (PW.pt (pw_and (pt_cmpR (op_eqD (by have := hrH.un; omega)) (pv 3) (pv 4) (nomark _)) (pw_and1 (pt_cmpR op_eq (pe_bm PySem.F.plainAttrs_list PySem.F.slot_list_count PySem.F.type_list_count mt_countB (pv 3) (pa_cons pe_bl pa_nil)) pe_int (nomark _))))) (pe_callE FC (hrH.mono (by decide)) hot List.mem_cons_self hz.1 hz.2.1 (by rfl) mC kC bC (pv 2)) pe_str) (pa_cons (pe_callE FF (hrH.mono (by decide)) hot List.mem_cons_self hz.1 hz.2.1 (by rfl) mF kF bF (pv 2)) pa_nil))))))
  · refine ⟨rfl, hc, _, fun cls d H' h => h, h _ _ (fun v H' hq => ?_) fun dd v H' hd hq => ?_⟩
    · exact s_retL (el_lst (ea_cons ev_c (ea_cons (ev_var (i := 1) (v := v) rfl) ea_nil)) (by show (2 : Nat) ≤ 100000; decide)) hq
    · exact ⟨hex, fun a ha => ⟨dd, rfl, rfl, suite_runs T k1 k2 k3 hd hq⟩⟩
end
end Kg

set_option maxHeartbeats 1000000
/-! what _law_right and law call: Frame.read, _law_error with a lambda -/
namespace Kg
open PySem PySem.Spec PyProof.Rows L2 Evl LamX
/-- a method call is read as one -/
abbrev MethEq (env : Env) (o : Expr) (m : Str) (args : List Expr) (kws : List Keyword) (apos pos : Pos) (pl : Sem Bool) : Prop := eval (.Call (.Attribute o m apos) args kws pos) env = (do
  let ov ← eval o env
  standAt apos.atName
  let (f, first) ← holding [ov] (getMethod ov m pl)
  callWith pos f first (backTo pos (starEach args env)) (backToKw pos (keywordEach kws env)))
/-- one by its place, one by its name -/
def g2 {α : Type} : List α → List α → List α
  | [u], [w] => [u, w]
  | _, _ => []
/-- Frame.read -/
structure ReadC (P : Program) (w : World) (K : PySem.W.Frag) (mg : Str → Option Value) (base : Heap) (C D : Addr) : Prop where
  ex : ∃ (mc : Value) (p g : Addr) (fd : FuncData), ClX.CRead K C mc ∧ ClX.CMet K C mc "read" p g ∧ FnOk P w K mg base (L2N.CX P w) 6 g fd ["cls", "text"] (spRead K C D) ∧ Binds K fd ["cls", "text"] [] ∧ KBinds K fd ["cls", "text"] ["text"] g2 g2
  mF : mg "Frame" = some (.ref C)
/-- _law_error -/
structure ErrC (P : Program) (w : World) (K : PySem.W.Frag) (mg : Str → Option Value) (base : Heap) (D : Addr) : Prop where
  N : Nms mg
  T : XF K mg D
  hex : PySem.W.exmAny K (.ref D) [(mg "NotRight").getD .none, (mg "NotKnown").getD .none, (mg "NotPossible").getD .none] = some true
  cl : ∃ (f : Addr) (fd : FuncData), FnE P w K mg base L2.CX0 2 f fd "_law_e" D spClassE ∧ Binds K fd ["_law_e"] [] ∧ mg "_law_class" = some (.ref f) ∧ PySem.W.keepIn K (.ref f) = true
  fi : ∃ (f : Addr) (fd : FuncData), FnE P w K mg base L2.CX0 2 f fd "_law_e" D spFieldE ∧ Binds K fd ["_law_e"] [] ∧ mg "_law_field" = some (.ref f) ∧ PySem.W.keepIn K (.ref f) = true
  er : ∃ (f : Addr) (fd : FuncData), L2.Fun K "_law_error" "_law_error" sError f fd ∧ Binds K fd ["_law_act"] [] ∧ mg "_law_error" = some (.ref f)
section
variable {X : Cx} {C D c P0 : Addr} {T : List (Addr × Str)}
theorem pe_err {params : Arguments} {body : Expr} {scope : Scope} {t : XK → TE} {p lpos pos : Pos} (EC : ErrC X.prog X.w X.K X.mg X.base D) (hg : Gl X "_law_error") (TB : TabB X.base X.mg c P0) (hcode : X.env.code = .ref c) (hmT : (P0, X.env.qual ++ "<lambda>") ∈ T) (hu : ∀ p ∈ T, p.1 = P0 → p.2 = X.env.qual ++ "<lambda>") (hr : Room 11 X.A) (L : LamS X.env.scope scope) (hdef : defaultsOf params X.env = ([], []))
    (hbind : ∀ (q : Str) (cl : List (Str × Addr)) (pm cv ctv : Value), bindArgs (PySem.W.kla_fn "<lambda>" q params body scope cl pm cv ctv) ⟨[], []⟩ = pure [])
    (hbody : ∀ (A : Around) (outer : List Env) (s : Shared) (H : Hp) (E : XK) (f c' : Addr), Room 9 (A.deeper (lamEnv X scope s.heap.objs.size f c')) → PE (lamCxN X A outer s H E scope f c') body (t E)) :
    PE X (.Call (.Name "_law_error" p) [.Lambda params body scope lpos] [] pos) (tLam T (TTe D) t) := by
  obtain ⟨fC, fdC, FC, bC, mC, kC⟩ := EC.cl
  obtain ⟨fF, fdF, FF, bF, mF, kF⟩ := EC.fi
  obtain ⟨g, fd, F, bE, mE⟩ := EC.er
  have kp := F.kp
  obtain ⟨oc, od, kV, doc, pm, an, cdv, ct, osl, rfl, lk, hcd⟩ := F.ex
  exact pe_lamcallN hg mE kp lk hcd bE scError rfl (.inl rfl) (error_gives EC.N EC.T EC.hex FC bC mC kC FF bF mF kF) TB hcode hmT hu hr L hdef hbind hbody
section
variable {A : Around} {outer : List Env} {s : Shared} {H : Hp} {E : XK} {scope : Scope} {f c' : Addr} {i : Nat} {p px apos pos : Pos}
theorem pe_frameN (R : ReadC X.prog X.w X.K X.mg X.base C D) (hg : scope.names.lookup ("Frame" : Str) = some NameKind.globalImplicit) : PE (lamCxN X A outer s H E scope f c') (.Name "Frame" p) (tC (.ref C)) := C8.pe_gc (v := .ref C) (show Gl (lamCxN X A outer s H E scope f c') "Frame" from hg) ⟨_, R.mF, rfl⟩
/-- Frame.read(x) in a lambda -/
theorem pe_readN (R : ReadC X.prog X.w X.K X.mg X.base C D) (hr : Room 9 (A.deeper (lamEnv X scope s.heap.objs.size f c'))) (hg : scope.names.lookup ("Frame" : Str) = some NameKind.globalImplicit) (hN : X.N[i]? = some ("_law_line" : Str)) (hv : Vis scope "_law_line") {pl : Sem Bool} (ht : MethEq (lamCxN X A outer s H E scope f c').env (.Name "Frame" p) "read" [.Name "_law_line" px] [] apos pos pl := by rfl) :
    PE (lamCxN X A outer s H E scope f c') (.Call (.Attribute (.Name "Frame" p) "read" apos) [.Name "_law_line" px] [] pos) (ClX.tCMeth C (fun vs H Q E => spRead X.K C D (vs ++ []) H Q E) E (tC (.ref C)) (tCons (tVar i) tNil)) := by
  obtain ⟨mc, p', g, fd, cr, cm, F, b, _⟩ := R.ex
  have tk := L2N.takes_of (X := lamCxN X A outer s H E scope f c') rfl rfl rfl rfl
  exact ClX.pe_cmeth (ht := ht) (X := lamCxN X A outer s H E scope f c') (pe_frameN R hg) cr cm (F.raw b .nil) (hr.mono (by decide)) (L2N.passes_call tk fun _ _ _ _ h => h) (pa_cons (pe_var (i := i) hN hv) pa_nil)
/-- Frame.read(text = x) in a lambda -/
theorem pe_readKN (R : ReadC X.prog X.w X.K X.mg X.base C D) (hr : Room 9 (A.deeper (lamEnv X scope s.heap.objs.size f c'))) (hg : scope.names.lookup ("Frame" : Str) = some NameKind.globalImplicit) (hN : X.N[i]? = some ("_law_line" : Str)) (hv : Vis scope "_law_line") {kpos : Pos} {pl : Sem Bool} (ht : MethEq (lamCxN X A outer s H E scope f c').env (.Name "Frame" p) "read" [] [⟨some "text", .Name "_law_line" px, kpos⟩] apos pos pl := by rfl) :
    PE (lamCxN X A outer s H E scope f c') (.Call (.Attribute (.Name "Frame" p) "read" apos) [] [⟨some "text", .Name "_law_line" px, kpos⟩] pos) (tCMethK C (spRead X.K C D) g2 E (tC (.ref C)) (tCons (tVar i) tNil)) := by
  obtain ⟨mc, p', g, fd, cr, cm, F, _, kb⟩ := R.ex
  have tk := L2N.takes_of (X := lamCxN X A outer s H E scope f c') rfl rfl rfl rfl
  exact pe_cmethK (ht := ht) (X := lamCxN X A outer s H E scope f c') (pe_frameN R hg) cr cm F kb (hr.mono (by decide)) (L2N.passes_call tk fun _ _ _ _ h => h) (pk_cons (pe_var (X := lamCxN X A outer s H E scope f c') (i := i) hN hv) pk_nil)
end
/-- Frame.read(text = x), of a line that is one -/
theorem pe_readK {i : Nat} {p px apos pos kpos : Pos} (R : ReadC X.prog X.w X.K X.mg X.base C D) (hr : Room 6 X.A) (hg : Gl X "Frame") (hN : X.N[i]? = some ("_law_line" : Str)) (hv : Vis X.env.scope "_law_line") {pl : Sem Bool} (ht : MethEq X.env (.Name "Frame" p) "read" [] [⟨some "text", .Name "_law_line" px, kpos⟩] apos pos pl := by rfl) :
    PE X (.Call (.Attribute (.Name "Frame" p) "read" apos) [] [⟨some "text", .Name "_law_line" px, kpos⟩] pos) (tCMethK C (spRead X.K C D) g2 C8.E0 (tC (.ref C)) (tCons (tVar i) tNil)) := by
  obtain ⟨mc, p', g, fd, cr, cm, F, _, kb⟩ := R.ex
  exact pe_cmethK (ht := ht) (C8.pe_gc (v := .ref C) hg ⟨_, R.mF, rfl⟩) cr cm F kb hr (fun _ _ _ _ _ _ _ h => by
    obtain ⟨_, _, _, _, _, _, _, _, _, _, _, _, z⟩ := h
    exact z.elim) (pk_cons (pe_var (i := i) hN hv) pk_nil)
theorem pe_read {i : Nat} {p px apos pos : Pos} (R : ReadC X.prog X.w X.K X.mg X.base C D) (hr : Room 6 X.A) (hg : Gl X "Frame") (hN : X.N[i]? = some ("_law_line" : Str)) (hv : Vis X.env.scope "_law_line") {pl : Sem Bool} (ht : MethEq X.env (.Name "Frame" p) "read" [.Name "_law_line" px] [] apos pos pl := by rfl) :
    PE X (.Call (.Attribute (.Name "Frame" p) "read" apos) [.Name "_law_line" px] [] pos) (ClX.tCMeth C (fun vs H Q E => spRead X.K C D (vs ++ []) H Q E) C8.E0 (tC (.ref C)) (tCons (tVar i) tNil)) := by
  obtain ⟨mc, p', g, fd, cr, cm, F, b, _⟩ := R.ex
  exact ClX.pe_cmeth (ht := ht) (C8.pe_gc (v := .ref C) hg ⟨_, R.mF, rfl⟩) cr cm (F.raw b .nil) hr (fun _ _ _ _ _ _ _ h => by
    obtain ⟨_, _, _, _, _, _, _, _, _, _, _, _, z⟩ := h
    exact z.elim) (pa_cons (pe_var (i := i) hN hv) pa_nil)
end
end Kg

set_option maxHeartbeats 1000000
/-! _law_right -/
namespace Kg
open PySem PySem.Spec PyProof.Rows L2 Evl LamX
theorem tabs_kp {T : List (Addr × Str)} {m : Addr} {H H' : Hp} (t : Tabs T H) (hm : MugAt H m) (k : Kp m H H') : Tabs T H' := fun p hp => by
  obtain ⟨ps, h1, h2, h3⟩ := t p hp
  obtain ⟨a, b, c, hm⟩ := hm
  refine ⟨ps, k _ _ (fun z => ?_) h1, h2, fun pos cv hc => ?_⟩
  · rw [z, hm] at h1
    cases h1
  · obtain ⟨d, e1, e2⟩ := h3 pos cv hc
    refine ⟨d, e1, k _ _ (fun z => ?_) e2⟩
    rw [z, hm] at e2
    cases e2
theorem ev_pow5 {σ : L2.St} {H : Hp} : Ev (tOp (rI CPow fun i j => .int (i ^ j.toNat)) (tC (.int 10)) (tC (.int 5))) σ H (.int 100000) := ev_is (ev_op ev_c ev_c (rv_I (show (0:Int) ≤ 5 ∧ (5:Int) ≤ 1000000 ∧ (10:Int).natAbs < 2 ^ 64 from ⟨by decide, by decide, by decide⟩))) (congrArg V.int (by decide +kernel))
theorem q_nm {i : Nat} {x : V} {σ : L2.St} {H : Hp} {Q : L2.St → Hp → Prop} (h : Q (σ.set i (some x)) H) : gName i x σ H Q := h
theorem kn_of {m : Addr} {H H' : Hp} (e : ExtN H H') : Kn m H H' := fun b o _ h n => e b o h n
section
variable {K : PySem.W.Frag} {C D : Addr} {H : Hp} {σ : L2.St} {i : Nat} {v : V} {pz : Option (Nat × List Int)} {g : Nat} {ks : List Int} {E : XK}
theorem ev_neFr {te tm : TE} (h1 : EvN te σ H (fun p H2 => ∃ a, FrA C H2 p a g ks)) (h2 : EvN tm σ H (fun p H2 => ∃ a, FrA C H2 p a g ks)) : Ev (tOp (rNeO C (spEq C) E) te tm) σ H (.bl false) := fun H1 e Q q =>
  h1 H1 e _ fun p H2 hp e2 ⟨a, hF⟩ => h2 H2 (e.trans e2) _ fun p' H3 hp' e3 ⟨b, hG⟩ => by
    have hF3 := hF.ex e3
    obtain ⟨dx, t, x1, _⟩ := id hF3
    obtain ⟨dy, u, y1, _⟩ := id hG
    exact ⟨p, p', dx, dy, _, _, rfl, rfl, x1, y1, p, p', a, b, g, ks, rfl, hF3, hG, fun H4 e4 => ⟨true, rfl, q H4 ((e2.trans e3).trans e4)⟩⟩
theorem en_readK (hσ : σ[i]? = some (some v)) (hg : ∀ H1, Ex H H1 → Given K H1 v (some (g, ks))) : EvN (tCMethK C (spRead K C D) g2 E (tC (.ref C)) (tCons (tVar i) tNil)) σ H (fun p H2 => ∃ a, FrA C H2 p a g ks) := fun H1 e Q q =>
  ⟨rfl, v, hσ, v, some (g, ks), rfl, hg H1 e, fun g' ks' hh p H2 hp e2 hF => by
    cases hh
    exact q p H2 hp e2 hF, fun h => by cases h⟩
theorem en_read (hσ : σ[i]? = some (some v)) (hg : ∀ H1, Ex H H1 → Given K H1 v (some (g, ks))) : EvN (ClX.tCMeth C (fun vs H Q E => spRead K C D (vs ++ []) H Q E) E (tC (.ref C)) (tCons (tVar i) tNil)) σ H (fun p H2 => ∃ a, FrA C H2 p a g ks) := fun H1 e Q q =>
  ⟨rfl, v, hσ, v, some (g, ks), rfl, hg H1 e, fun g' ks' hh p H2 hp e2 hF => by
    cases hh
    exact q p H2 hp e2 hF, fun h => by cases h⟩
/-- what _law_error found -/
def Found (C : Addr) (pz : Option (Nat × List Int)) (v : V) (t : Str) (x : V) (H : Hp) : Prop := (pz = none ∧ t = "text" ∧ x = v) ∨ ∃ g ks a pf, pz = some (g, ks) ∧ t = "told" ∧ x = .ref pf ∧ FrA C H pf a g ks
theorem tte_read {Q : VK} (hσ : σ[i]? = some (some v)) (hg : Given K H v pz) (k : ∀ p t x H', H p = none → Ex H H' → H' p = some (.lst [.str t, x]) → Found C pz v t x H' → Q (.ref p) H') :
    TTe D (fun E H' Q' => ClX.tCMeth C (fun vs H Q E => spRead K C D (vs ++ []) H Q E) E (tC (.ref C)) (tCons (tVar i) tNil) σ H' Q') H Q := fun E1 Q1 ht hr =>
  ⟨rfl, v, hσ, v, pz, rfl, hg, fun g ks hp pf H2 hpf e2 ⟨a, hF⟩ => ht _ _ fun p H3 hp3 e3 h3 => k p "told" (.ref pf) H3 (fresh_back e2 hp3) (e2.trans e3) h3 (.inr ⟨g, ks, a, pf, hp, rfl, rfl, hF.ex e3⟩), fun hp d H2 hd e2 hx => hr d v H2 hx fun p H3 hp3 e3 h3 => k p "text" v H3 (fresh_back e2 hp3) (e2.trans e3) h3 (.inl ⟨hp, rfl, rfl⟩)⟩
theorem tte_readK {Q : VK} (hσ : σ[i]? = some (some v)) (hg : Given K H v pz) (k : ∀ p t x H', H p = none → Ex H H' → H' p = some (.lst [.str t, x]) → Found C pz v t x H' → Q (.ref p) H') :
    TTe D (fun E H' Q' => tCMethK C (spRead K C D) g2 E (tC (.ref C)) (tCons (tVar i) tNil) σ H' Q') H Q := fun E1 Q1 ht hr =>
  ⟨rfl, v, hσ, v, pz, rfl, hg, fun g ks hp pf H2 hpf e2 ⟨a, hF⟩ => ht _ _ fun p H3 hp3 e3 h3 => k p "told" (.ref pf) H3 (fresh_back e2 hp3) (e2.trans e3) h3 (.inr ⟨g, ks, a, pf, hp, rfl, rfl, hF.ex e3⟩), fun hp d H2 hd e2 hx => hr d v H2 hx fun p H3 hp3 e3 h3 => k p "text" v H3 (fresh_back e2 hp3) (e2.trans e3) h3 (.inl ⟨hp, rfl, rfl⟩)⟩
theorem rc_repr {p : Addr} {d : PyData} (hp : H p = some (.lst [.str "text", v])) (hd : ∀ H1, Ex H H1 → Rd1 K H1 v d) (h1 : d.showable = true) (h2 : d.depth ≤ 40) (h3 : d.shown.length ≤ 90000) : RC (rReprL K) [.ref p] H (.str (PyData.list [.str "text", d]).shown) := fun H1 e Q q =>
  ⟨p, "text", v, d, rfl, e p _ hp, hd H1 e, h1, h2, pair_size h3, q H1 (Ex.refl H1)⟩
theorem ev_reprN {te : TE} {d : PyData} (h : EvL te σ H [.str "text", v]) (hd : ∀ H1, Ex H H1 → Rd1 K H1 v d) (h1 : d.showable = true) (h2 : d.depth ≤ 40) (h3 : d.shown.length ≤ 90000) : Ev (tCB (rReprL K) (tCons te tNil)) σ H (.str (PyData.list [.str "text", d]).shown) := fun H1 e Q q =>
  h H1 e _ fun p H2 hp e2 hx => ⟨p, "text", v, d, rfl, hx, hd H2 (e.trans e2), h1, h2, pair_size h3, q H2 e2⟩
theorem ev_isNil {p : Addr} {ds : List PyData} {xs : List V} (hσ : σ[i]? = some (some (.ref p))) (hp : H p = some (.lst xs)) (hd : ∀ H1, Ex H H1 → DpAll K H1 xs ds) (sd : SeqAt.shaped (.list ds) = true) : Ev (tOp (rEqD K) (tVar i) (tLst tNil)) σ H (.bl (PyData.eqv (.list ds) (.list []))) :=
  ev_opL (x := .ref p) (xs := []) (ev_var hσ) (el_lst ea_nil (by decide)) fun q H8 h8 e8 => rv_eqD (d := .list ds) (e := .list []) (fun H9 e9 => .lst (sq_of ((e8.trans e9) p _ hp)) (hd H9 (e8.trans e9))) (fun H9 e9 => .lst (sq_of (e9 q _ h8)) .nil) sd (by decide +kernel)
theorem ev_neNil {p : Addr} {ds : List PyData} {xs : List V} (hσ : σ[i]? = some (some (.ref p))) (hp : H p = some (.lst xs)) (hd : ∀ H1, Ex H H1 → DpAll K H1 xs ds) (sd : SeqAt.shaped (.list ds) = true) : Ev (tOp (rNeD K) (tVar i) (tLst tNil)) σ H (.bl (!PyData.eqv (.list ds) (.list []))) :=
  ev_opL (x := .ref p) (xs := []) (ev_var hσ) (el_lst ea_nil (by decide)) fun q H8 h8 e8 => rv_neD (d := .list ds) (e := .list []) (fun H9 e9 => .lst (sq_of ((e8.trans e9) p _ hp)) (hd H9 (e8.trans e9))) (fun H9 e9 => .lst (sq_of (e9 q _ h8)) .nil) sd (by decide +kernel)
theorem eqv_frN (g : Nat) (ks : List Int) : PyData.eqv (.list (frD g ks)) (.list []) = false := rfl
theorem eqv_frL (g : Nat) (ks : List Int) : PyData.eqv (.list (frD g ks)) (.list (frD g ks)) = true := SeqAt.eqv_refl _ (by have := lay_fr g ks; simp only [PyData.canLay0, this])
theorem given_good (h : Given K H v (some (g, ks))) : Good g ks := by
  rcases h with ⟨z, _, _, h⟩ | ⟨h, _⟩
  · exact parse_good h.symm
  · cases h
end
section
variable {P : Program} {w : World} {K : PySem.W.Frag} {mg : Str → Option Value} {base : Heap} {f C D c P0 fE : Addr} {fd fdE : FuncData} {T : List (Addr × Str)}
def spRight (T : List (Addr × Str)) : Sp := fun vs H Q _ => ∃ m : Addr, vs = [.ref m] ∧ MugAt H m ∧ Tabs T H ∧ ∀ H', Kn m H H' → Tabs T H' → Q (.bl true) H'
theorem ok_right (N : Nms mg) (F : L2.Fun K "_law_right" "_law_right" sRight f fd) (hcd : fd.code = .ref c) (TB : TabB base mg c P0) (hmT : (P0, ("_law_right" : Str) ++ ".<locals>." ++ "<lambda>") ∈ T) (hu : ∀ p ∈ T, p.1 = P0 → p.2 = ("_law_right" : Str) ++ ".<locals>." ++ "<lambda>")
    (cP : CalK P w K mg base 2 "_law_pick" spPick) (cD : CalK P w K mg base 3 "_law_draft" spDraft) (cB : CalK P w K mg base 7 "_law_bent" (spBent K)) (cR : CalK P w K mg base 2 "_law_read" (spLRead K)) (cM : CalK P w K mg base 6 "_law_made" (spMade C))
    (EC : ErrC P w K mg base D) (R : ReadC P w K mg base C D) (pD : Prp P w K mg base 1 C "degree" (spDegree C)) (pK : Prp P w K mg base 1 C "knots" (spKnots C))
    (FE : FnOk P w K mg base L2.CX0 1 fE fdE ["self", "other"] (spEq C)) (bE : Binds K fdE ["self", "other"] []) (ne1 : PySem.W.findIn K (.ref C) "__ne__" = some (some (.builtin "object.__ne__"))) (ne2 : PySem.W.mroIn K C (.type "object") = some true) (ne3 : PySem.W.findIn K (.ref C) "__eq__" = some (some (.ref fE))) (ne4 : PySem.W.isFn K (.ref fE) = true) :
    FnG P w K mg base L2.CX0 12 f fd ["_law_mug_here"] (spRight T) := by
  obtain ⟨oc, od, kV, doc, pm, an, cdv, ct, osl, rfl, lk, hcdv⟩ := F.ex
  obtain rfl : cdv = .ref c := hcd
  refine fng_of (N := nRight) lk hcdv scRight (fun vs H Q E h => ?_) (fun A outer s H vs Q E hgd hr h => ?_)
  · obtain ⟨m, rfl, _⟩ := h
    rfl
  obtain ⟨m, rfl, hm, hT, q⟩ := h
  suffices hs : ∃ t, PSs (cxOf L2.CX0 P w K mg base nRight "_law_right" (defScope sRight) f (.ref c) A outer s H E).nox (defBody sRight) t ∧ t { nx := fun _ H' => Q .non H', rt := Q } (start nRight [.ref m]) H by
    obtain ⟨t, h1, h2⟩ := hs
    exact ⟨t, h1.nox, h2⟩
  refine ⟨_, pss_cons (ps_for PassesOwn.never rfl (pi_range1 (by rfl) N.range (pa_cons pe_int pa_nil)) (pg_name (i := 1) scRight.nd rfl (.inl rfl))
      (pss_cons (ps_asg (C8.pe_c cB hr (by decide) (by rfl) (pa_cons (pv 0) (pa_cons (C8.pe_c cD hr (by decide) (by rfl) (pa_cons (pv 0) (pa_cons pe_int (pa_cons (C8.pe_c cP hr (by decide) (by rfl) (pa_cons (pv 0) (pa_cons (pe_lst (pa_cons pe_int (pa_cons pe_int (pa_cons (pe_op op_pow pe_int pe_int) pa_nil)))) pa_nil))) pa_nil)))) pa_nil))) (pg_name (i := 2) scRight.nd rfl (.inr rfl)))
      (pss_cons (ps_par (i := 3) (j := 4) rfl scRight.nd rfl rfl (by decide) rfl rfl (pa_cons (pe_err EC (by rfl) TB rfl hmT hu hr (lamS_by (sc := defScope sRight) (by decide +kernel)) rfl (fun _ _ _ _ _ => rfl) fun A outer s H E f c' hr2 => pe_readN (i := 2) R hr2 (by rfl) rfl (by right; right; rfl)) (pa_cons (C8.pe_c cR hr (by decide) (by rfl) (pa_cons (pv 2) pa_nil)) pa_nil)) rfl)
      (pss_cons (ps_if (PW.pt (pw_and (pt_cmpR (op_eqD hr.units) (pv 4) (pe_lst pa_nil) (nomark _)) (pw_and1 (pt_cmpR op_ne (pe_callB (call_reprL hgd hr.units) (by rfl) N.repr PyProof.Rows.boot_repr (pa_cons (pv 3) pa_nil)) (pe_callB (call_reprL hgd hr.units) (by rfl) N.repr PyProof.Rows.boot_repr (pa_cons (pe_lst (pa_cons pe_str (pa_cons (pv 2) pa_nil))) pa_nil)) (nomark _))))) (pss_one (ps_ret pe_bl)) pss_nil)
      (pss_one (ps_if (PW.pt (pw_and (pt_cmpR (op_neD hr.units) (pv 4) (pe_lst pa_nil) (nomark _)) (pw_and1 (PW.pt (pw_or (pt_cmpR op_ne (pe_ix (r := rIxL K) ix_list (pv 3) pe_int (fun _ _ => rfl)) pe_str (nomark _))
        (pw_or (pt_cmpR (op_neD hr.units) (pe_lst (pa_cons (pe_prp pD hr (by decide) (pe_ix (r := rIxL K) ix_list (pv 3) pe_int (fun _ _ => rfl))) (pa_cons (pe_prp pK hr (by decide) (pe_ix (r := rIxL K) ix_list (pv 3) pe_int (fun _ _ => rfl))) pa_nil))) (pv 4) (nomark _))
        (pw_or1 (pt_cmpR (op_neO (E := C8.E0) FE (hr.mono (by decide)) bE (fun _ _ _ _ _ _ _ h => h.elim) ne1 ne2 ne3 ne4) (pe_readK (i := 2) R (hr.mono (by decide)) (by rfl) rfl (by right; left; rfl)) (C8.pe_c cM hr (by decide) (by rfl) (pa_cons (pv 4) pa_nil)) (nomark _))))))))) (pss_one (ps_ret pe_bl)) pss_nil))))))
      (pss_one (ps_ret pe_bl)), ?_⟩
  refine q_forR1 (n := 8) (ea_cons ev_c ea_nil) (by decide) (fun _ σ' H' => (∃ o1 o2 o3 o4, σ' = [some (.ref m), o1, o2, o3, o4]) ∧ MugAt H' m ∧ Tabs T H' ∧ Kn m H H') (fun H1 e => ⟨⟨none, none, none, none, rfl⟩, hm.ex e, hT.ext e, Kn.of e⟩) (fun i σ' H' hi hPv => ?_) (fun σ' H' hPv => ?_)
  rotate_left
  · obtain ⟨_, _, t', k'⟩ := hPv
    exact s_ret ev_c fun H1 e => q H1 (k'.trans (Kn.of e)) (t'.ext e)
  obtain ⟨⟨o1, o2, o3, o4, rfl⟩, m', t', k'⟩ := hPv
  refine ⟨.ref m, rfl, .ref m, rfl, .ref m, rfl, ?_⟩
  refine el_lst (vs := [.int 3, .int 12, .int 100000]) (ea_cons ev_c (ea_cons ev_c (ea_cons ev_pow5 ea_nil))) (by decide) H' (Ex.refl H') _ fun pl H1 hpl e1 h1 => ?_
  refine ⟨m, .ref pl, rfl, m'.ex e1, .inl ⟨pl, _, rfl, m'.ne hpl, h1, by decide, by decide, fun x H2 hx k2 m2 => ?_⟩⟩
  obtain ⟨mo, rfl, hmo⟩ : ∃ mo : Int, x = .int mo ∧ 0 < mo ∧ mo ≤ 100000 := by
    simp only [List.mem_cons, List.not_mem_nil, or_false] at hx
    rcases hx with rfl | rfl | rfl
    · exact ⟨3, rfl, by decide, by decide⟩
    · exact ⟨12, rfl, by decide, by decide⟩
    · exact ⟨100000, rfl, by decide, by decide⟩
  refine ⟨m, mo, rfl, m2, hmo.1, hmo.2, fun v H3 k3 m3 hv => ?_⟩
  obtain ⟨pd, g0, ks0, rfl, hpd, hD0, hG0⟩ := hv
  refine ⟨m, pd, g0, ks0, rfl, m3, hpd, hD0, hG0, fun v H4 k4 m4 hL => ?_⟩
  have kp4 : Kp m H' H4 := (((Kp.of e1).trans k2).trans k3).trans k4
  have t4 := tabs_kp t' m' kp4
  have kn4 : Kn m H H4 := k'.trans (Kn.kp kp4)
  clear k4 hD0 k3 k2 h1 e1 hpl kp4
  obtain ⟨pz, d, hL, hd1, hd2, hd3⟩ := hL
  refine q_nm ?_
  have hσ : (List.set ([some (V.ref m), o1, o2, o3, o4] : L2.St) 1 (some (V.int (i : Int)))).set 2 (some v) = [some (.ref m), some (.int (i : Int)), some v, o3, o4] := rfl
  rw [hσ]
  dsimp only
  refine q_par2 ?_
  refine ⟨t4, fun H5 e5 t5 => ?_⟩
  refine tte_read (v := v) rfl (hL H5 (Kn.ext e5)).1 fun p t x H6 hp e6 h6 hF => ?_
  have m5 : MugAt H5 m := by
    obtain ⟨a, b, c, hh⟩ := m4
    exact ⟨a, b, c, e5 _ _ hh lst_tbl⟩
  have k6 : Kn m H4 H6 := (Kn.ext e5).trans (Kn.of e6)
  have fin : ∀ {H7 : Hp} {o1 o2 o3 o4 : Option V}, Ex H6 H7 → (∃ a1 a2 a3 a4, [some (.ref m), o1, o2, o3, o4] = [some (.ref m), a1, a2, a3, a4]) ∧ MugAt H7 m ∧ Tabs T H7 ∧ Kn m H H7 := fun {H7 o1 o2 o3 o4} e7 => ⟨⟨_, _, _, _, rfl⟩, m5.ex (e6.trans e7), t5.ext (e6.trans e7), (kn4.trans k6).trans (Kn.of e7)⟩
  refine ⟨v, rfl, v, pz, rfl, (hL H6 k6).1, fun hn pd H7 hpd e7 h7 => ⟨_, _, rfl, ?_⟩, fun g ks hs pd H7 hpd e7 hD => ⟨_, _, rfl, ?_⟩⟩
  · obtain ⟨_, rfl, rfl⟩ : pz = none ∧ t = "text" ∧ x = v := by
      rcases hF with h | ⟨g, ks, _, _, h, _⟩
      · exact h
      · rw [hn] at h
        cases h
    have hR : ∀ H8, Ex H7 H8 → Rd1 K H8 x d := fun H8 e8 => (hL H8 ((k6.trans (Kn.of e7)).trans (Kn.of e8))).2
    refine q_when (b := true && !true) (et_and (et_is (et_test (ev_isNil rfl h7 (fun _ _ => .nil) (by decide +kernel))) (by decide +kernel)) fun _ => et_is (et_test (ev_op (ev_cb (ea_cons (ev_var rfl) ea_nil) (rc_repr (e7 p _ h6) hR hd1 hd2 hd3)) (ev_reprN (el_lst (ea_cons ev_c (ea_cons (ev_var rfl) ea_nil)) (by show (2 : Nat) ≤ 100000; decide)) hR hd1 hd2 hd3) (rv_ne rfl))) (by simp)) (fun h => by cases h) fun _ H8 e8 => ?_
    have e78 := e7.trans e8
    exact s_when (b := false) (et_is (et_and (a := false) (b := true) (et_is (et_test (ev_neNil rfl (e8 _ _ h7) (fun _ _ => .nil) (by decide +kernel))) (by decide +kernel)) (fun h => by cases h)) rfl) (fun h => by cases h) fun _ H9 e9 => fin (e78.trans e9)
  · obtain ⟨a, pf, rfl, rfl, hFr⟩ : ∃ a pf, t = "told" ∧ x = .ref pf ∧ FrA C H6 pf a g ks := by
      rcases hF with ⟨h, _⟩ | ⟨g', ks', a, pf, h, h1, h2, h3⟩
      · rw [hs] at h
        cases h
      · rw [hs] at h
        cases h
        exact ⟨a, pf, h1, h2, h3⟩
    subst hs
    have hG := given_good (hL H6 k6).1
    obtain ⟨a', hd', ha'⟩ := id hD
    refine q_when (b := false && true) (et_and (et_is (et_test (ev_isNil rfl hd' (fun H8 e8 => dp_fr (e8 _ _ ha')) (shp_frL g ks))) (eqv_frN g ks)) fun h => by cases h) (fun h => by cases h) fun _ H8 e8 => ?_
    have e78 := e7.trans e8
    have hd8 := e8 _ _ hd'
    have ha8 := e8 _ _ ha'
    have hF8 := hFr.ex e78
    have h8 := e78 _ _ h6
    obtain ⟨dx, tt, _, _, ha⟩ := id hF8
    have hix : ∀ {H9 : Hp} {o1 o2 o4 : Option V}, Ex H8 H9 → Ev (tOp (rIxL K) (tVar 3) (tC (.int 1))) [some (.ref m), o1, o2, some (.ref p), o4] H9 (.ref pf) := fun {H9 o1 o2 o4} e9 => ev_op (ev_var rfl) ev_c (rv_ixL (sq_of (e9 _ _ h8)) (atI_nat (j := 1) rfl rfl))
    refine s_when (b := true && (!true || (!true || false))) (et_and (et_is (et_test (ev_neNil rfl hd8 (fun H9 e9 => dp_fr (e9 _ _ ha8)) (shp_frL g ks))) (by rw [eqv_frN]; rfl)) fun _ => et_or (et_is (et_test (ev_op (ev_op (ev_var rfl) ev_c (rv_ixL (sq_of h8) (atI_nat (j := 0) rfl rfl))) ev_c (rv_ne rfl))) (by simp)) fun _ => et_or
        (et_is (et_test (ev_opL1 (y := .ref pd) (xs := [.int (g : Int), .ref a]) (el_lst (ea_cons (ev_degree (hix (Ex.refl _)) hF8) (ea_cons (ev_knots (hix (Ex.refl _)) hF8) ea_nil)) (by show (2 : Nat) ≤ 100000; decide)) (fun _ _ => ev_var rfl) fun pq H9 h9 e9 => rv_neD (d := .list (frD g ks)) (e := .list (frD g ks)) (fun H10 e10 => .lst (sq_of (e10 _ _ h9)) (dp_fr ((e9.trans e10) _ _ ha))) (fun H10 e10 => .lst (sq_of ((e9.trans e10) _ _ hd8)) (dp_fr ((e9.trans e10) _ _ ha8))) (shp_frL g ks) (shp_frL g ks))) (by rw [eqv_frL]))
        fun _ => et_test (ev_neFr (en_readK (v := v) rfl fun H9 e9 => (hL H9 (k6.trans (Kn.of (e78.trans e9)))).1) (sn_made (ev_var rfl) ⟨a', hd8, ha8⟩ hG))) (fun h => by cases h) fun _ H9 e9 => fin (e78.trans e9)
end
end Kg

set_option maxHeartbeats 1000000
/-! law -/
namespace Kg
open PySem PySem.Spec PyProof.Rows L2 Evl LamX
section
variable {K : PySem.W.Frag} {H : Hp} {σ : L2.St} {i : Nat}
theorem tabs_set {T : List (Addr × Str)} {D : Addr} {xs ys : List V} (t : Tabs T H) (hD : H D = some (.lst xs)) : Tabs T (upd H D (.lst ys)) := fun p hp => by
  obtain ⟨ps, h1, h2, h3⟩ := t p hp
  refine ⟨ps, ?_, h2, fun pos cv hc => ?_⟩
  · rw [upd_ne fun z => by rw [z, hD] at h1; cases h1]
    exact h1
  · obtain ⟨d, e1, e2⟩ := h3 pos cv hc
    refine ⟨d, e1, ?_⟩
    rw [upd_ne fun z => by rw [z, hD] at e2; cases e2]
    exact e2
theorem sq_extn {a : Addr} {xs : List V} {H' : Hp} (h : SqL K H a xs) (e : ExtN H H') : SqL K H' a xs := by
  rcases h with (h | ⟨o, h⟩) | h
  · exact .inl (.inl (e _ _ h lst_tbl))
  · exact .inl (.inr ⟨o, e _ _ h fun ps z => by cases z⟩)
  · exact .inr h
theorem el_catV {ta tb : TE} {p : Addr} {xs ys : List V} (ha : Ev ta σ H (.ref p)) (hp : H p = some (.lst xs)) (hb : EvL tb σ H ys) (hz : xs.length + ys.length ≤ 100000) : EvL (tOp rCat ta tb) σ H (xs ++ ys) := fun H1 e Q q =>
  ha H1 e _ fun H2 e2 => hb H2 (e.trans e2) _ fun r H3 hr e3 hy => ⟨p, r, xs, ys, rfl, rfl, ((e.trans e2).trans e3) p _ hp, hy, sz_of hz, fun l hl => q l _ (fresh_back (e2.trans e3) hl) ((e2.trans e3).trans (Ex.new hl)) upd_same⟩
theorem q_forAny {tl : TE} {g : TG} {tu tz : TS} {D : Ends} (h : tl σ H fun v H1 => tSeq (tFor (iList K (tC v)) g tu) tz D σ H1) : tSeq (tFor (iList K tl) g tu) tz D σ H := h
theorem q_ifFirst {r : List V → Hp → VK → Prop} {ta tb : TE} {t2 : TT} {tu tw : TS} {D : Ends} (h : ta σ H fun v H1 => tIfS (tOr (tTest (tOp rNe (tCB r (tCons (tC v) tNil)) tb)) t2) tu tw D σ H1) : tIfS (tOr (tTest (tOp rNe (tCB r (tCons ta tNil)) tb)) t2) tu tw D σ H := h
theorem q_retAll {ta : TE} {D : Ends} (h : ta σ H fun v H1 => rAll K [v] H1 D.rt) : tRet (tCB (rAll K) (tCons ta tNil)) D σ H := h
theorem ev_min2 {ta tb : TE} {i j : Int} (ha : Ev ta σ H (.int i)) (hb : Ev tb σ H (.int j)) : Ev (tCB (fun xs H Q => ∃ i j, xs = [V.int i, V.int j] ∧ Q (.int (if j < i then j else i)) H) (tCons ta (tCons tb tNil))) σ H (.int (if j < i then j else i)) := ev_cb (ea_cons ha (ea_cons hb ea_nil)) fun H1 _ _ q => ⟨i, j, rfl, q H1 (Ex.refl H1)⟩
theorem lst3 {te : TE} {x y : V} {Q : VK} (h : te σ H fun v H1 => 3 ≤ sizeLine ∧ ∀ p, H1 p = none → Q (.ref p) (upd H1 p (.lst [x, y, v]))) : tLst (tCons (tC x) (tCons (tC y) (tCons te tNil))) σ H Q := h
theorem cat_three {te : TE} {p : Addr} {xs : List V} {x y : V} {z : Str} (ha : Ev te σ H (.ref p)) (hp : H p = some (.lst xs)) (hz : xs.length ≤ 1000) {Q : VK} (q : ∀ pt l H2, Ex H H2 → H2 pt = some (.tup [.str z]) → H2 l = some (.lst (xs ++ [x, y, .ref pt])) → Q (.ref l) H2) :
    tOp rCat te (tLst (tCons (tC x) (tCons (tC y) (tCons (tTup (tCons (tC (.str z)) tNil)) tNil)))) σ H Q := by
  refine ha H (Ex.refl H) _ fun H4 e4 => ?_
  have hT : EvU (tTup (tCons (tC (.str z)) tNil)) σ H4 [.str z] := eu_tup (ea_cons ev_c ea_nil) (by simp)
  refine lst3 (hT H4 (Ex.refl H4) _ fun pt H5 hpt e5 h5 => ⟨by show (3 : Nat) ≤ sizeLine; decide, fun pl hpl => ⟨p, pl, xs, [x, y, .ref pt], rfl, rfl, ?_, upd_same, sz_of (by simp only [List.length_cons, List.length_nil]; omega), fun l hl => ?_⟩⟩)
  · have h := e5 _ _ (e4 _ _ hp)
    rw [upd_ne (ne_of_none h hpl)]
    exact h
  · have e6 : Ex H5 (upd (upd H5 pl (.lst [x, y, .ref pt])) l (.lst (xs ++ [x, y, .ref pt]))) := (Ex.new hpl).trans (Ex.new hl)
    exact q pt l _ ((e4.trans e5).trans e6) (e6 _ _ h5) upd_same
/-- what _law_wrong holds: no text of a frame -/
def WrongAt (K : PySem.W.Frag) (v : V) (H : Hp) : Prop := ∃ d : PyData, (∀ H', ExtN H H' → Given K H' v none ∧ Rd1 K H' v d) ∧ d.showable = true ∧ d.depth ≤ 40 ∧ d.shown.length ≤ 90000
theorem wrong_str {z : Str} (h : okS 1000 z) (hp : parse z = none) : WrongAt K (.str z) H := ⟨.str z, fun H' _ => ⟨.inl ⟨z, rfl, h, hp.symm⟩, .dp (.str z)⟩, rfl, by simp [PyData.depth], by
  have h1 := StrLaws.reprText_len z fun c hc => Nat.lt_of_lt_of_le (h.2 c hc) (by decide)
  have h2 := h.len
  show (reprText z).length ≤ 90000
  omega⟩
theorem wrong_sc {v : V} {t : String} {d : PyData} (h : ∀ H, TyOf K H v (.type t)) (hk : kitB t "str" = some false) (hd : ∀ H, Dp K H v d) (h1 : d.showable = true) (h2 : d.depth ≤ 40) (h3 : d.shown.length ≤ 90000) : WrongAt K v H :=
  ⟨d, fun H' _ => ⟨.inr ⟨rfl, .type t, fun H2 _ => .base (h H2), kit_ty hk⟩, .dp (hd H')⟩, h1, h2, h3⟩
theorem wrong_tup {a : Addr} {z : Str} (ha : H a = some (.tup [.str z])) (h1 : (PyData.tuple [.str z]).showable = true) (h2 : (PyData.tuple [.str z]).depth ≤ 40) (h3 : (PyData.tuple [.str z]).shown.length ≤ 90000) : WrongAt K (.ref a) H :=
  ⟨.tuple [.str z], fun H' k => by
    have h' := k a _ ha tup_tbl
    exact ⟨.inr ⟨rfl, .type "tuple", fun H2 e => .base (.tup (e a _ h')), kit_ty (by decide +kernel)⟩, .dp (.tup (st_of h') (.cons (.str z) .nil))⟩, h1, h2, h3⟩
/-- the last line of law: each turn's _law_right says True -/
theorem lm_rights {ta : TA} {T : List (Addr × Str)} {a : Addr} {xs : List Int} {n : Nat} {o1 o2 o3 o4 : Option V} (ha : SqL K H a (xs.map V.int)) (hT : Tabs T H) (hn : n ≤ 100) (h : EvA ta [some (.ref a), o1, o2, o3, o4] H [.int (n : Int)]) {Q : VK}
    (q : ∀ D H', H' D = some (.lst ((List.replicate n true).map V.bl)) → Q (.ref D) H') :
    tLc (iRng1 ta) (gName 4) tYes (tCall (spRight T) [] C8.E0 (tCons (tCall (spMug K) [] C8.E0 (tCons (tVar 0) (tCons (tVar 4) tNil))) tNil)) [4] [some (.ref a), o1, o2, o3, o4] H Q :=
  h H (Ex.refl H) _ fun H8 e8 => ⟨(n : Int), rfl, by omega, by omega, fun D8 hD8 => by
    refine lc_range (lo := 0) (n := (n : Int).toNat) (fun i H9 => ExtN H8 H9 ∧ Tabs T H9 ∧ H9 D8 = some (.lst ((List.replicate i true).map V.bl))) ⟨ExtN.of (Ex.new hD8), hT.ext (e8.trans (Ex.new hD8)), upd_same⟩ (fun i H9 hi h => ?_) (fun H9 h => ?_)
    · obtain ⟨k9, t9, hd9⟩ := h
      refine ⟨rfl, ?_⟩
      show tCall (spRight T) [] C8.E0 (tCons (tCall (spMug K) [] C8.E0 (tCons (tVar 0) (tCons (tVar 4) tNil))) tNil) [some (.ref a), o1, o2, o3, some (.int (0 + (i : Int)))] H9 _
      refine ⟨.ref a, rfl, .int (0 + (i : Int)), rfl, a, xs, i, by rw [Int.zero_add]; rfl, sq_extn (ex_l e8 ha) k9, fun m H10 hm e10 hM => ⟨m, rfl, hM, t9.ext e10, fun H11 k11 t11 => ?_⟩⟩
      have hmD : D8 ≠ m := fun z => by
        rw [← z, hd9] at hm
        cases hm
      have hd11 := k11 _ _ hmD (e10 _ _ hd9) lst_tbl
      refine ⟨_, hd11, sz_lt (by rw [List.length_map, List.length_replicate]; omega), fun b o hb hnt => ?_, tabs_set t11 hd11, ?_⟩
      · rw [upd_ne (ne_of_none hb hD8)]
        have hb9 := k9 b o hb hnt
        exact k11 b o (fun z => by rw [← z, hb9] at hm; cases hm) (e10 _ _ hb9) hnt
      · rw [upd_same, List.replicate_succ', List.map_append]
        rfl
    · obtain ⟨k9, t9, hd9⟩ := h
      rw [Int.toNat_natCast] at hd9
      exact q D8 H9 hd9⟩
end
def goodTexts : List (Str × Nat × List Int) := [("degree 0 knots 0 1", 0, [0, 1]), ("degree 1 knots 0 2 4 6", 1, [0, 2, 4, 6]), ("degree 2 knots 0 0 0 4 4 4", 2, [0, 0, 0, 4, 4, 4]), ("degree 4 knots 0 0 0 0 0 1000000", 4, [0, 0, 0, 0, 0, 1000000])]
theorem good_all : goodTexts.all (fun t => decide (t.1.cps.toList.length ≤ 1000) && t.1.cps.toList.all (· < 128) && decide (parse t.1 = some (t.2.1, t.2.2)) && decide (textOf t.2.1 t.2.2 = t.1)) = true := by decide +kernel
def wrongTexts : List Str := ["degree 0 knots 0", "degree 1 knots 0 2 02", "degree 5 knots 0 1 2 3 4 5 6", "degree 1 knots 2 0 4", "degree 1 knots 0 0 0", "", "degree 1 knots 0 2 1000001", "degree  1 knots 0 2 4", "degree 1 knots", "knots 1 degree 0 2 4", "degree 01 knots 0 2 4"]
theorem wrong_all : wrongTexts.all (fun t => decide (t.cps.toList.length ≤ 1000) && t.cps.toList.all (· < 128) && decide (parse t = none)) = true := by decide +kernel
section
variable {P : Program} {w : World} {K : PySem.W.Frag} {mg : Str → Option Value} {base : Heap} {f C D c P0 fR : Addr} {fd fdR : FuncData} {T : List (Addr × Str)}
def spLaw (K : PySem.W.Frag) (T : List (Addr × Str)) : Sp := fun vs H Q _ => ∃ (a : Addr) (xs : List Int), vs = [.ref a] ∧ SqL K H a (xs.map V.int) ∧ xs.length ≤ 1000 ∧ Tabs T H ∧ ∀ H', Q (.bl true) H'
theorem ok_law (N : Nms mg) (F : L2.Fun K "law" "law" sLaw f fd) (hcd : fd.code = .ref c) (TB : TabB base mg c P0) (hmT : (P0, ("law" : Str) ++ ".<locals>." ++ "<lambda>") ∈ T) (hu : ∀ p ∈ T, p.1 = P0 → p.2 = ("law" : Str) ++ ".<locals>." ++ "<lambda>")
    (cG : CalK P w K mg base 1 "_law_mug" (spMug K)) (cR : CalK P w K mg base 2 "_law_read" (spLRead K))
    (EC : ErrC P w K mg base D) (R : ReadC P w K mg base C D) (pT : Prp P w K mg base 3 C "text" (spText C))
    (FR : FnG P w K mg base L2.CX0 12 fR fdR ["_law_mug_here"] (spRight T)) (mR : mg "_law_right" = some (.ref fR)) (kR : PySem.W.keepIn K (.ref fR) = true) (bR : Binds K fdR ["_law_mug_here"] []) :
    FnG P w K mg base L2.CX0 14 f fd ["_law_script"] (spLaw K T) := by
  obtain ⟨oc, od, kV, doc, pm, an, cdv, ct, osl, rfl, lk, hcdv⟩ := F.ex
  obtain rfl : cdv = .ref c := hcd
  refine fng_of (N := nLaw) lk hcdv scLaw (fun vs H Q E h => ?_) (fun A outer s H vs Q E hgd hr h => ?_)
  · obtain ⟨a, xs, rfl, _⟩ := h
    rfl
  obtain ⟨a, xs, rfl, ha, hxl, hT, q⟩ := h
  suffices hs : ∃ t, PSs (cxOf L2.CX0 P w K mg base nLaw "law" (defScope sLaw) f (.ref c) A outer s H E).nox (defBody sLaw) t ∧ t { nx := fun _ H' => Q .non H', rt := Q } (start nLaw [.ref a]) H by
    obtain ⟨t, h1, h2⟩ := hs
    exact ⟨t, h1.nox, h2⟩
  refine ⟨_, pss_cons (ps_asg (pe_lst (pa_cons pe_str (pa_cons pe_str (pa_cons pe_str (pa_cons pe_str pa_nil))))) (pg_name (i := 1) scLaw.nd rfl (.inl rfl)))
      (pss_cons (ps_asg (pe_lst (pa_cons pe_str (pa_cons pe_str (pa_cons pe_str (pa_cons pe_str (pa_cons pe_str (pa_cons pe_str pa_nil))))))) (pg_name (i := 2) scLaw.nd rfl (.inl rfl)))
      (pss_cons (ps_asg (pe_op op_cat (pv 2) (pe_lst (pa_cons pe_str (pa_cons pe_str (pa_cons pe_str (pa_cons pe_str (pa_cons pe_str pa_nil))))))) (pg_name (i := 2) scLaw.nd rfl (.inl rfl)))
      (pss_cons (ps_if (pt_cmpR (op_neD hr.units) (pe_lc (own := [("_law_line", 3)]) (g := gName 3) (tt := tYes) rfl scLaw.nd (pi_list (pv 1)) (blkOk_by (N := nLaw) (sc := defScope sLaw) (by decide +kernel))
          (fun _ _ _ _ _ => pg_name (i := 3) scLaw.nd rfl (.inl rfl)) (fun _ _ _ _ _ => pts_nil) (fun _ _ _ _ _ => pe_prp (te := ClX.tCMeth C (fun vs H Q E => spRead K C D (vs ++ []) H Q E) C8.E0 (tC (.ref C)) (tCons (tVar 3) tNil)) pT hr (by decide) (by exact pe_read (i := 3) R (hr.mono (by decide)) (by rfl) rfl (by left; rfl)))) (pv 1) (nomark _)) (pss_one (ps_ret pe_bl)) pss_nil)
      (pss_cons (ps_for PassesOwn.never rfl (pi_list (pe_op op_cat (pv 2) (pe_lst (pa_cons pe_non (pa_cons pe_int (pa_cons (pe_tup (pa_cons pe_str pa_nil)) pa_nil)))))) (pg_name (i := 3) scLaw.nd rfl (.inr rfl))
        (pss_one (ps_if (PW.pt (pw_or (pt_cmpR op_ne (pe_callB (call_reprL hgd hr.units) (by rfl) N.repr PyProof.Rows.boot_repr (pa_cons (pe_err EC (by rfl) TB rfl hmT hu (hr.mono (by decide)) (lamS_by (sc := defScope sLaw) (by decide +kernel)) rfl (fun _ _ _ _ _ => rfl) fun A outer s H E f c' hr2 => pe_readKN (i := 3) R hr2 (by rfl) rfl (by right; right; rfl)) pa_nil))
            (pe_callB (call_reprL hgd hr.units) (by rfl) N.repr PyProof.Rows.boot_repr (pa_cons (pe_lst (pa_cons pe_str (pa_cons (pv 3) pa_nil))) pa_nil)) (nomark _))
          (pw_or1 (pt_cmpR (op_neD hr.units) (C8.pe_c cR hr (by decide) (by rfl) (pa_cons (pv 3) pa_nil)) (pe_lst pa_nil) (nomark _))))) (pss_one (ps_ret pe_bl)) pss_nil)))
      (pss_one (ps_ret (pe_callB (cr_all rfl) (by rfl) N.all boot_all (pa_cons (pe_lc (own := [("_law_turn", 4)]) (g := gName 4) (tt := tYes) rfl scLaw.nd (pi_range1 (by rfl) N.range (pa_cons (pe_callB (call_max2 rfl) (by rfl) N.max boot_max (pa_cons pe_int (pa_cons (pe_callB (call_min2 rfl) (by rfl) N.min boot_min (pa_cons (pe_callB call_len_seq (by rfl) N.len boot_len (pa_cons (pv 0) pa_nil)) (pa_cons pe_int pa_nil))) pa_nil))) pa_nil)) (blkOk_by (N := nLaw) (sc := defScope sLaw) (by decide +kernel))
          (fun _ _ _ _ _ => pg_name (i := 4) scLaw.nd rfl (.inl rfl)) (fun _ _ _ _ _ => pts_nil) (fun _ _ _ _ _ => pe_callG (E := C8.E0) FR hgd (hr.mono (by decide)) (by rfl) mR kR bR (fun _ _ _ _ _ _ _ h => h.elim) (pa_cons (C8.pe_c cG hr (by decide) (by rfl) (pa_cons (pv 0) (pa_cons (pv 4) pa_nil))) pa_nil))) pa_nil))))))))
      , ?_⟩
  refine q_asgL (xs := (goodTexts.map (·.1)).map V.str) (el_lst (ea_cons ev_c (ea_cons ev_c (ea_cons ev_c (ea_cons ev_c ea_nil)))) (by decide)) fun pg H1 hpg e1 hg => ?_
  refine q_asgL (xs := (wrongTexts.take 6).map V.str) (el_lst (ea_cons ev_c (ea_cons ev_c (ea_cons ev_c (ea_cons ev_c (ea_cons ev_c (ea_cons ev_c ea_nil)))))) (by decide)) fun pw1 H2 hpw1 e2 hw1 => ?_
  refine q_asgL (xs := (wrongTexts.take 6).map V.str ++ (wrongTexts.drop 6).map V.str) (el_catV (ev_var rfl) hw1 (el_lst (ea_cons ev_c (ea_cons ev_c (ea_cons ev_c (ea_cons ev_c (ea_cons ev_c ea_nil))))) (by decide)) (by decide)) fun pw H3 hpw e3 hw => ?_
  have e13 := (e1.trans e2).trans e3
  have hg3 := e3 _ _ (e2 _ _ hg)
  rw [← List.map_append, List.take_append_drop] at hw
  have hAll : EvL (tLc (iList K (tVar 1)) (gName 3) tYes (tProp C (spText C) [] C8.E0 (ClX.tCMeth C (fun vs H Q E => spRead K C D (vs ++ []) H Q E) C8.E0 (tC (.ref C)) (tCons (tVar 3) tNil))) [3]) [some (.ref a), some (.ref pg), some (.ref pw), none, none] H3 ((goodTexts.map (·.1)).map V.str) := by
    have e0 : (((goodTexts.map (·.1)).map V.str).filter fun _ => true).map id = (goodTexts.map (·.1)).map V.str := by rw [filter_yes, List.map_id]
    rw [← e0]
    refine el_lcL' (fun _ => true) id (ev_var rfl) (sq_of hg3) (by decide) (fun _ => rfl) (fun c _ H4 _ => et_yes) fun c hc H4 e4 _ => ?_
    obtain ⟨z, hz, rfl⟩ := List.mem_map.mp hc
    obtain ⟨⟨z', g, ks⟩, ht, rfl⟩ := List.mem_map.mp hz
    have h := List.all_eq_true.mp good_all _ ht
    simp only [Bool.and_eq_true, decide_eq_true_eq] at h
    obtain ⟨⟨h1, h2⟩, h3⟩ := h
    have hG := parse_good h2
    have h4 := ev_textN (C := C) (E := C8.E0) (en_read (K := K) (C := C) (D := D) (E := C8.E0) (σ := (wipe [some (.ref a), some (.ref pg), some (.ref pw), none, none] [3]).set 3 (some (V.str z'))) (i := 3) (v := .str z') (H := H4) rfl (fun H5 _ => .inl ⟨z', rfl, ⟨h1.1, fun c hc => of_decide_eq_true (List.all_eq_true.mp h1.2 c hc)⟩, h2.symm⟩)) hG
    rw [h3] at h4
    exact h4
  have hsh : SeqAt.shaped (.list ((goodTexts.map (·.1)).map PyData.str)) = true := by decide +kernel
  refine q_when (b := false) (et_is (et_test (ev_opL1 (y := .ref pg) hAll (fun _ _ => ev_var rfl) fun p H4 h4 e4 => rv_neD (d := .list ((goodTexts.map (·.1)).map PyData.str)) (e := .list ((goodTexts.map (·.1)).map PyData.str)) (fun H5 e5 => .lst (sq_of (e5 _ _ h4)) (dp_strs _)) (fun H5 e5 => .lst (sq_of ((e4.trans e5) _ _ hg3)) (dp_strs _)) hsh hsh)) (by decide +kernel)) (fun h => by cases h) fun _ H4 e4 => ?_
  have hw4 := e4 _ _ hw
  have e14 := e13.trans e4
  clear hAll hw hg hw1 hpw1 hpw hpg
  refine q_forAny ?_
  refine cat_three (ev_var rfl) hw4 (by decide) fun pt l H6 e6 hpt6 h6 => ?_
  have e16 := e14.trans e6
  have hW : ∀ x ∈ wrongTexts.map V.str ++ [.non, .int 7, .ref pt], WrongAt K x H6 := fun x hx => by
    rcases List.mem_append.mp hx with hx | hx
    · obtain ⟨z, hz, rfl⟩ := List.mem_map.mp hx
      have h := List.all_eq_true.mp wrong_all _ hz
      simp only [Bool.and_eq_true, decide_eq_true_eq] at h
      exact wrong_str ⟨h.1.1, fun c hc => of_decide_eq_true (List.all_eq_true.mp h.1.2 c hc)⟩ h.2
    · simp only [List.mem_cons, List.not_mem_nil, or_false] at hx
      rcases hx with rfl | rfl | rfl
      · exact wrong_sc (fun _ => .non) (by decide +kernel) (fun _ => .non) rfl (by decide +kernel) (by decide +kernel)
      · exact wrong_sc (fun _ => .int 7) (by decide +kernel) (fun _ => .int 7) rfl (by decide +kernel) (by decide +kernel)
      · exact wrong_tup hpt6 (by decide +kernel) (by decide +kernel) (by decide +kernel)
  generalize wrongTexts.map V.str ++ [.non, .int 7, .ref pt] = xsW at h6 hW
  refine q_forL (a := l) (xs := xsW) ev_c (sq_of h6) (fun _ σ' H' => (∃ o3 o4, σ' = [some (.ref a), some (.ref pg), some (.ref pw), o3, o4]) ∧ ExtN H6 H' ∧ Tabs T H') (fun H7 e7 => ⟨⟨_, _, rfl⟩, ExtN.of e7, hT.ext (e16.trans e7)⟩) (fun i σ' H' _ h => sq_extn (sq_of h6) h.2.1) (fun i x σ' H' hx h => ?_) (fun σ' H' h => ?_)
  · obtain ⟨⟨o3, o4, rfl⟩, k7, t7⟩ := h
    obtain ⟨d, hd0, hd1, hd2, hd3⟩ := hW x (List.mem_of_getElem? hx)
    refine q_nm ?_
    have hσ : (List.set ([some (V.ref a), some (.ref pg), some (.ref pw), o3, o4] : L2.St) 3 (some x)) = [some (.ref a), some (.ref pg), some (.ref pw), some x, o4] := rfl
    rw [hσ]
    refine q_ifFirst ⟨t7, fun H8 e8 t8 => ?_⟩
    refine tte_readK (C := C) (v := x) rfl (hd0 H8 (k7.trans e8)).1 fun p t x' H9 hp e9 h9 hF => ?_
    obtain ⟨rfl, rfl⟩ : t = "text" ∧ x' = x := by
      rcases hF with ⟨_, h⟩ | ⟨_, _, _, _, h, _⟩
      · exact h
      · cases h
    have k9 := (k7.trans e8).trans (ExtN.of e9)
    have hR : ∀ H10, Ex H9 H10 → Rd1 K H10 x' d := fun H10 e10 => (hd0 H10 (k9.trans (ExtN.of e10))).2
    exact s_when (b := false || false) (et_or (et_is (et_test (ev_op (ev_cb (ea_cons ev_c ea_nil) (rc_repr h9 hR hd1 hd2 hd3)) (ev_reprN (el_lst (ea_cons ev_c (ea_cons (ev_var rfl) ea_nil)) (by show (2 : Nat) ≤ 100000; decide)) hR hd1 hd2 hd3) (rv_ne rfl))) (by simp)) fun _ =>
      et_is (et_test (ev_opLL (xs := []) (ys := []) (el_call (vs := [x']) (ea_cons (ev_var rfl) ea_nil) (fun H10 e10 Q' q' E' => ⟨x', none, rfl, (hd0 H10 (k9.trans (ExtN.of e10))).1, fun _ p H11 hp e11 h => q' p H11 hp e11 h, fun g ks hh => by cases hh⟩)) (el_lst ea_nil (by decide)) fun p q H10 h10 h11 e10 => rv_neD (d := .list []) (e := .list []) (fun H11 e11 => .lst (sq_of (e11 _ _ h10)) .nil) (fun H11 e11 => .lst (sq_of (e11 _ _ h11)) .nil) (by decide +kernel) (by decide +kernel))) (by decide +kernel))
      (fun h => by cases h) fun _ H10 e10 => ⟨⟨_, _, rfl⟩, k9.trans (ExtN.of e10), t8.ext (e9.trans e10)⟩
  · obtain ⟨⟨o3, o4, rfl⟩, k7, t7⟩ := h
    have ha7 : SqL K H' a (xs.map V.int) := sq_extn (ex_l e16 ha) k7
    refine q_retAll ?_
    obtain ⟨n, hn, hA⟩ : ∃ n : Nat, n ≤ 5 ∧ EvA (tCons (tCB (fun xs H Q => ∃ i j, xs = [V.int i, V.int j] ∧ Q (.int (if j > i then j else i)) H) (tCons (tC (.int 2)) (tCons (tCB (fun xs H Q => ∃ i j, xs = [V.int i, V.int j] ∧ Q (.int (if j < i then j else i)) H) (tCons (tCB (fun xs H Q => ∃ p ys, xs = [V.ref p] ∧ (SqL K H p ys ∨ SqT K H p ys) ∧ Q (.int ys.length) H) (tCons (tVar 0) tNil)) (tCons (tC (.int 5)) tNil))) tNil))) tNil) [some (.ref a), some (.ref pg), some (.ref pw), o3, o4] H' [.int (n : Int)] := by
      refine ⟨(if (if (5 : Int) < ((xs.map V.int).length : Int) then (5 : Int) else ((xs.map V.int).length : Int)) > 2 then (if (5 : Int) < ((xs.map V.int).length : Int) then (5 : Int) else ((xs.map V.int).length : Int)) else 2).toNat, ?_, ?_⟩
      · split <;> split <;> omega
      · refine ea_cons (ev_is (ev_max2 ev_c (ev_min2 (ev_cb (ea_cons (ev_var rfl) ea_nil) (rc_len (.inl ha7))) ev_c)) (congrArg V.int (Int.toNat_of_nonneg ?_).symm)) ea_nil
        split <;> split <;> omega
    refine lm_rights ha7 t7 (by omega) hA fun D9 H9 hd9 => ⟨D9, List.replicate n true, rfl, sq_of hd9, ?_⟩
    have e0 : (List.replicate n true).all id = true := by simp
    rw [e0]
    exact q H9
end
end Kg

set_option maxHeartbeats 1000000
/-! the end: the law's call at the ground, where no value is being written -/
namespace Kg
open PySem PySem.Spec PyProof.Rows L2 LamX
section
variable {P : Program} {w : World} {K : PySem.W.Frag} {mg mb : Str → Option Value} {k : Nat} {fa a : Addr} {cs : List (Addr × Addr)} {fd : FuncData} {x : Str} {sp : Sp} {s : Shared} {us : List Value} {ns : List Int} {H : Hp}
/-- what the ground gives -/
structure Gnd (w : World) (K : PySem.W.Frag) (mg mb : Str → Option Value) (cs : List (Addr × Addr)) (a : Addr) (us : List Value) (s : Shared) : Prop where
  kin : K.In s.heap
  glob : s.heap.Ns mainGlobals mg
  blt : s.heap.Ns builtinsNs mb
  boot : ∀ x : Str, x ≠ "__name__" → mb x = bootBuiltins x
  lim : s.heap.NoLimit
  gens : s.gens = #[]
  tab : ∀ p ∈ cs, s.heap.get? p.2 = some { cls := .none, data := .fields #[] }
  out : ∀ p ∈ cs, K.lookup p.2 = none
  code : ∀ p ∈ cs, PySem.W.CodeHd s.heap p.1 p.2
  bm : ∃ (b : Addr) (o : Obj), mg "__builtins__" = some (.ref b) ∧ b ≠ builtinsNs ∧ s.heap.get? b = some o ∧ o.cls = .type "module" ∧ o.dict = some builtinsNs ∧ o.data = .plain
  arg : s.heap.get? a = some { cls := .type "list", data := .seq us.toArray }
/-- what is followed: the tables, the script at most -/
structure Fol (w : World) (P : Program) (K : PySem.W.Frag) (cs : List (Addr × Addr)) (a : Addr) (s : Shared) (H : Hp) : Prop where
  tb : ∀ p ∈ cs, H p.2 = some (.tbl #[])
  only : ∀ b, H b = none ∨ (∃ p ∈ cs, p.2 = b) ∨ (b = a ∧ K.lookup a = none ∧ ∃ o u, H b = some (.frz o u))
  ok : HOk P w H s.heap
theorem Gnd.free (G : Gnd w K mg mb cs a us s) (F : Fol w P K cs a s H) {b : Addr} {o : Obj} (e : s.heap.get? b = some o) (hd : o.data ≠ .fields #[]) (hs : ∀ (v : Array Value) (n : Nat), o.data ≠ .seq v n) : H b = none := by
  rcases F.only b with z | ⟨p, hp, rfl⟩ | ⟨rfl, _⟩
  · exact z
  · rw [G.tab p hp] at e
    cases e
    exact absurd rfl hd
  · rw [G.arg] at e
    cases e
    exact absurd rfl (hs _ _)
theorem Gnd.mod (G : Gnd w K mg mb cs a us s) (F : Fol w P K cs a s H) : L2.Mod K mg (hidT s.heap H) := by
  have nsOf : ∀ {b : Addr} {m : Str → Option Value}, s.heap.Ns b m → (hidT s.heap H).Ns b m := by
    rintro b m ⟨o, es, ep, e, d, r⟩
    refine ⟨o, es, ep, hidT_get e (G.free F e ?_ fun v n => ?_), d, r⟩ <;> rw [d] <;> exact fun z => by cases z
  obtain ⟨ml, l1, l2⟩ := G.lim
  refine ⟨fun b o e => hidT_get (G.kin b o e) ?_, nsOf G.glob, ⟨mb, nsOf G.blt, G.boot⟩, ⟨ml, nsOf l1, l2⟩⟩
  rcases F.only b with z | ⟨p, hp, rfl⟩ | ⟨rfl, z, _⟩
  · exact z
  · rw [G.out p hp] at e
    cases e
  · rw [z] at e
    cases e
theorem Gnd.tabB (G : Gnd w K mg mb cs a us s) (F : Fol w P K cs a s H) : ∀ p ∈ cs, TabB (hidT s.heap H) mg p.1 p.2 := by
  intro p hp
  have tp := G.tab p hp
  constructor
  · obtain ⟨o, vs, f1, f2, f3, f4, f5, f6, f7, g1, g2, g3, g4, g5⟩ := G.code p hp
    refine ⟨o, vs, f1, f2, f3, f4, f5, f6, f7, hidT_get g1 (G.free F g1 ?_ fun v n => ?_), g2, g3, g4, g5⟩
    · rw [g3]
      intro z
      cases z
      simp at g4
    · rw [g3]
      intro z
      cases z
  · obtain ⟨b, o, h1, h2, h3, h4, h5, h6⟩ := G.bm
    refine ⟨b, o, h1, h2, ?_, ?_, hidT_get h3 (G.free F h3 ?_ fun v n => ?_), h4, h5, h6⟩
    · rintro rfl
      obtain ⟨u, es, ep, e, d, _⟩ := G.glob
      rw [h3] at e
      cases e
      rw [h6] at d
      cases d
    · rintro rfl
      rw [tp] at h3
      cases h3
      cases h6
    · rw [h6]
      intro z
      cases z
    · rw [h6]
      intro z
      cases z
  · intro z
    obtain ⟨u, es, ep, e, d, _⟩ := G.glob
    rw [z, tp] at e
    cases e
    cases d
theorem ground_runs (G : Gnd w K mg mb cs a us s) (F : Fol w P K cs a s H) (hr : Room k callerA) (hF : ∀ base : Heap, K.In base → base.Ns mainGlobals mg → (∀ p ∈ cs, TabB base mg p.1 p.2) → FnG P w K mg base L2.CX0 k fa fd [x] sp) (hb : ∀ (s : Shared) (u : Value), BindsTo s fd ⟨[u], []⟩ [(x, u)])
    (hsp : sp [.ref a] H (fun v _ => v = .bl true) fun _ _ _ => False) :
    codeAny (model P w) callerA (.call (.ref fa) ⟨[.ref a], []⟩) (fun r s' => r = .ok (.ret (.bool true)) ∧ OldK s.heap s'.heap ∧ s'.os = s.os ∧ AllBare s'.gens) s := by
  have M := G.mod F
  have E0 : Env0 P w K mg (hidT s.heap H) callerA [] s H := { frames := rfl, mod := M, bs := fun b o e => of_hidT e, bsz := Nat.le_of_eq (hidT_size _ _), funs := trivial, frf := fun b z => absurd (show b ∈ ([] : List Addr) from z) (by simp), hok := F.ok, bare := .of_eq G.gens }
  refine codeAny_mono ((hF _ M.kin M.glob (G.tabB F)).run callerA [] s H ⟨[.ref a], []⟩ [.ref a] [.ref a] _ _ rfl hr E0 (hb s (.ref a)) (.cons rfl .nil) hsp) ?_
  rintro (e | fl) s' z
  · exact False.elim z
  rcases fl with _ | _ | _ | u
  all_goals first
    | exact False.elim z
    | skip
  obtain ⟨v, H', os, bare, un, ok', rv, hv⟩ := z
  have hv : v = .bl true := hv
  subst hv
  obtain rfl : u = Value.bool true := rv
  have stay : ∀ b o, (∀ p ∈ cs, p.2 ≠ b) → s.heap.get? b = some o → s'.heap.get? b = some o := fun b o nb e => by
    rcases F.only b with z | ⟨p, hp, z⟩ | ⟨_, _, ob, y, z⟩
    · exact un.keep b o e z (fun z => absurd (show b ∈ ([] : List Addr) from z) (by simp)) (by simp)
    · exact absurd z (nb p hp)
    · have e1 := (F.ok b _ z).1
      have e2 := (ok' b _ (un.frzs b ob _ z)).1
      rw [e] at e1
      cases e1
      exact e2
  have more : ∀ p ∈ cs, ∃ vs : Array Value, s'.heap.get? p.2 = some { cls := .none, data := .fields vs } := fun p hp => by
    obtain ⟨vs, z⟩ := un.tbls p.2 #[] (F.tb p hp)
    exact ⟨_, ok' p.2 _ z⟩
  refine ⟨rfl, ⟨fun b o e => ?_, fun b o e => ?_⟩, os, bare⟩
  · by_cases hc : ∃ p ∈ cs, p.2 = b
    · obtain ⟨p, hp, rfl⟩ := hc
      obtain ⟨vs, z⟩ := more p hp
      rw [G.tab p hp] at e
      cases e
      refine .inr (.inl ⟨((G.code p hp).tab (G.tab p hp)).isCodeTable, rfl, #[], vs, rfl, ?_⟩)
      rw [Array.empty_append]
      exact z
    · exact .inl (stay b o (fun p hp z => hc ⟨p, hp, z⟩) e)
  · by_cases hc : ∃ p ∈ cs, p.2 = b
    · obtain ⟨p, hp, rfl⟩ := hc
      obtain ⟨vs, z⟩ := more p hp
      exact ⟨_, z⟩
    · exact ⟨o, stay b o (fun p hp z => hc ⟨p, hp, z⟩) e⟩
open Classical in
/-- the heap that is followed -/
noncomputable def folH (cs : List (Addr × Addr)) (a : Addr) (us : List Value) (ns : List Int) (K : PySem.W.Frag) : Hp := fun b => if (∃ p ∈ cs, p.2 = b) then some (.tbl #[]) else if b = a ∧ K.lookup a = none then some (.frz { cls := .type "list", data := .seq us.toArray } (.lst (ns.map V.int))) else none
theorem fol_of (G : Gnd w K mg mb cs a us s) (hi : IntsAre us ns) (hl : ns.length ≤ sizeLine) : Fol w P K cs a s (folH cs a us ns K) ∧ SqL K (folH cs a us ns K) a (ns.map V.int) := by
  have na : ¬ ∃ p ∈ cs, p.2 = a := by
    rintro ⟨p, hp, rfl⟩
    have h := G.tab p hp
    rw [G.arg] at h
    cases h
  have rv := vals_ints hi
  refine ⟨⟨fun p hp => if_pos ⟨p, hp, rfl⟩, fun b => ?_, fun b u z => ?_⟩, ?_⟩
  · unfold folH
    by_cases h1 : ∃ p ∈ cs, p.2 = b
    · exact .inr (.inl h1)
    · rw [if_neg h1]
      by_cases h2 : b = a ∧ K.lookup a = none
      · rw [if_pos h2]
        exact .inr (.inr ⟨h2.1, h2.2, _, _, rfl⟩)
      · rw [if_neg h2]
        exact .inl rfl
  · unfold folH at z
    by_cases h1 : ∃ p ∈ cs, p.2 = b
    · rw [if_pos h1] at z
      obtain ⟨p, hp, rfl⟩ := h1
      cases z
      exact G.tab p hp
    · rw [if_neg h1] at z
      by_cases h2 : b = a ∧ K.lookup a = none
      · rw [if_pos h2] at z
        cases z
        obtain ⟨rfl, _⟩ := h2
        exact ⟨G.arg, by rw [List.length_map]; exact hl, us, _, rv, G.arg⟩
      · rw [if_neg h2] at z
        cases z
  · cases hk : K.lookup a with
    | none =>
      refine .inl (.inr ⟨{ cls := .type "list", data := .seq us.toArray }, ?_⟩)
      unfold folH
      rw [if_neg na, if_pos ⟨rfl, hk⟩]
    | some o =>
      have e := G.kin a o hk
      rw [G.arg] at e
      cases e
      exact .inr ⟨_, us.toArray, _, hk, rfl, rfl, rfl, by rw [List.size_toArray, hi.length]; exact hl, by simpa using rv⟩
end
end Kg

set_option maxHeartbeats 0
/-! what the head tells, as the walk asks it -/
namespace Kg
open PySem PySem.Spec PyProof.Rows L2 LamX
section
variable {K : PySem.W.Frag} {h : Heap} {mg : Str → Option Value} {w : World}
theorem fun_ofD {x q : Str} {st : Stmt} {f : Addr} {fd : FuncData} (F : FunD K x q (defArgs st) (defBody st) (defScope st) [] [] f fd) : L2.Fun K x q st f fd := by
  obtain ⟨oc, od, dV, kV, doc, pm, an, cdv, ct, osl, e, lk, hc, hd, _⟩ := F.ex
  obtain rfl : dV = .none := hd.elim And.right fun z => absurd rfl z.1
  exact ⟨⟨oc, od, kV, doc, pm, an, cdv, ct, osl, e, lk, hc⟩, F.kp⟩
theorem binds_fun {x q : Str} {st : Stmt} {f : Addr} {fd : FuncData} {ps : List Str} (F : L2.Fun K x q st f fd) (hb : ∀ (kV doc pm : Value) (an : Option Addr) (cdv ct : Value) (us : List Value), us.length = ps.length → bindArgs (PySem.W.fnOf x q (defArgs st) (defBody st) (defScope st) .none kV doc pm an cdv ct) ⟨us, []⟩ = pure (ps.zip us)) : Binds K fd ps [] := by
  obtain ⟨oc, od, kV, doc, pm, an, cdv, ct, osl, rfl, _⟩ := F.ex
  exact Binds.all fun us hl => hb kV doc pm an cdv ct us hl
theorem code_of {x q : Str} {st : Stmt} {p : He.Defn} {fd : FuncData} (F : L2.Fun K x q st (He.fAd K p) fd) : fd.code = .ref (He.cT K p).1 := by
  obtain ⟨oc, od, kV, doc, pm, an, cdv, ct, osl, rfl, lk, hc⟩ := F.ex
  obtain ⟨c, rfl⟩ := He.codeIn_ref hc
  exact congrArg Value.ref (He.codeOf_eq lk rfl).symm
theorem fun_ofQ {d : DefQ} {a : Addr} (e : fnQ K a = d.val) (c : fnQB K a d.qual = true) : ∃ fd, L2.Fun K d.name d.qual d.st a fd := by
  unfold fnQB at c
  unfold fnQ at e
  rw [Bool.and_eq_true] at c
  obtain ⟨kp, c⟩ := c
  cases q : K.lookup a with
  | none =>
    rw [q] at c
    cases c
  | some o =>
    obtain ⟨oc, od, dt, osl⟩ := o
    rw [q] at c e
    cases dt with
    | func fd =>
      obtain ⟨m1, m2, m3, m4, m5, m6, m7, m8, m9, u1, u2, u3, u4, u5, u6⟩ := fd
      have e2 : (some (m1, m2, m3, m4, m5, m6, m7, u6) : FnQ) = d.val := e
      unfold DefQ.val at e2
      simp only [Option.some.injEq, Prod.mk.injEq] at e2
      obtain ⟨rfl, rfl, rfl, rfl, rfl, rfl, rfl, rfl⟩ := e2
      have c2 : (PySem.W.codeIn K u4 d.qual && decide (m8 = .none)) = true := c
      rw [Bool.and_eq_true, decide_eq_true_eq] at c2
      obtain ⟨c3, rfl⟩ := c2
      exact ⟨_, ⟨⟨oc, od, m9, u1, u2, u3, u4, u5, osl, rfl, q, c3⟩, kp⟩⟩
    | _ => cases c
theorem oexc_of {C : Addr} (h : excO K C = true) (h1 : PySem.W.findIn K (.ref C) "__setattr__" = some (some (.builtin "object.__setattr__"))) (h2 : PySem.W.subIn K (.ref C) (.type "BaseException") = some true) (h3 : PySem.W.typeIn K (.ref C) = some (.type "type")) (h4 : PySem.W.keepIn K (.ref C) = true) : OexC K C := by
  refine ⟨?_, h1, h2, h3, h4⟩
  unfold excO at h
  split at h
  · rename_i dd cd sl ho
    split at h
    · rename_i B bm k0 k1 k2 k3 n k5 hm hs
      simp only [Bool.and_eq_true, decide_eq_true_eq, Bool.not_eq_true'] at h
      obtain ⟨rfl, rfl, hdel, hdict, hb⟩ := h
      obtain ⟨nm, bs, mro, ns, qn, hd, sn, sub, ab, col, del⟩ := cd
      dsimp only at hm hdel hdict
      subst hm hdel hdict
      obtain ⟨l⟩ := sl
      simp only at hs
      subst hs
      exact ⟨nm, qn, ns, bs, bm, sn, sub, ab, col, dd, k0, k1, k2, k3, k5, ho, hb⟩
    · cases h
  · cases h
theorem prop_of {m : Str} (h : propB K m = true) : PropOf K (He.ga K "Frame") m (atM K m) (defM K "property" m) := by
  unfold propB at h
  simp only [Bool.and_eq_true, decide_eq_true_eq] at h
  obtain ⟨h1, h2, h3, h4⟩ := h
  refine ⟨h1, h2, h3, ?_⟩
  unfold defM
  split at h4
  · rename_i g r hr
    rw [hr]
    exact ⟨r, rfl⟩
  · cases h4
theorem read_of (h : readB K = true) : ClX.CMet K (He.ga K "Frame") (.type "type") "read" (atM K "read") (defM K "classmethod" "read") := by
  unfold readB at h
  simp only [Bool.and_eq_true] at h
  obtain ⟨h1, h2, h3⟩ := h
  refine ⟨?_, ?_, h3⟩
  · split at h1
    · rename_i g p i c hf
      simp only [Bool.and_eq_true, decide_eq_true_eq] at h1
      obtain ⟨rfl, rfl, rfl, rfl⟩ := h1
      exact hf
    · cases h1
  · unfold defM
    split at h2
    · rename_i g r hr
      rw [hr]
      exact ⟨r, rfl⟩
    · cases h2
theorem ex_a (t : Told w h K) {i : Nat} {b : Bool} (e : (exA K)[i]? = some b) : b = true := by
  have z := t.ex
  unfold exK at z
  rw [Bool.and_eq_true] at z
  exact List.all_eq_true.mp z.1 b (List.mem_of_getElem? e)
theorem ex_c (t : Told w h K) {i : Nat} {b : Bool} (e : (exC K)[i]? = some b) : b = true := by
  have z := t.ex
  unfold exK at z
  rw [Bool.and_eq_true] at z
  exact List.all_eq_true.mp z.2 b (List.mem_of_getElem? e)
theorem q_of (t : Told w h K) {i : Nat} {d : DefQ} (e : fqK[i]? = some d) : ∃ fd, L2.Fun K d.name d.qual d.st (defM K d.kind d.name) fd := by
  have z := congrArg (fun l : List FnQ => l[i]?) t.q
  simp only [List.getElem?_map, e, Option.map_some, Option.some.injEq] at z
  exact fun_ofQ z (List.all_eq_true.mp (ex_c t (i := 13) rfl) d (List.mem_of_getElem? e))
theorem nms_of (t : Told w h K) (G : h.Ns mainGlobals mg) : Nms mg := by
  have c := t.t.d
  exact { isinstance := (He.free_ok t.kin G (c.fact 0 (f := .free "isinstance") rfl)), int := (He.free_ok t.kin G (c.fact 1 (f := .free "int") rfl)), bool := (He.free_ok t.kin G (c.fact 2 (f := .free "bool") rfl)), str := (He.free_ok t.kin G (c.fact 3 (f := .free "str") rfl)), tuple := (He.free_ok t.kin G (c.fact 4 (f := .free "tuple") rfl)), len := (He.free_ok t.kin G (c.fact 5 (f := .free "len") rfl)), all := (He.free_ok t.kin G (c.fact 6 (f := .free "all") rfl)), enumerate := (He.free_ok t.kin G (c.fact 7 (f := .free "enumerate") rfl)), abs := (He.free_ok t.kin G (c.fact 8 (f := .free "abs") rfl)), sorted := (He.free_ok t.kin G (c.fact 9 (f := .free "sorted") rfl)), range := (He.free_ok t.kin G (c.fact 10 (f := .free "range") rfl)), max := (He.free_ok t.kin G (c.fact 11 (f := .free "max") rfl)), min := (He.free_ok t.kin G (c.fact 12 (f := .free "min") rfl)), repr := (He.free_ok t.kin G (c.fact 13 (f := .free "repr") rfl)), ve := (He.free_ok t.kin G (c.fact 14 (f := .free "ValueError") rfl)), le := (He.free_ok t.kin G (c.fact 15 (f := .free "LookupError") rfl)), ae := (He.free_ok t.kin G (c.fact 16 (f := .free "ArithmeticError") rfl)), mostDegree := (He.int_ok t.kin G (c.fact 17 (f := .int "MOST_DEGREE" 4) rfl)), mostKnot := (He.int_ok t.kin G (c.fact 18 (f := .int "MOST_KNOT" 1000000) rfl)), mostHills := (He.int_ok t.kin G (c.fact 19 (f := .int "MOST_HILLS" 10) rfl)), mostFigures := (He.int_ok t.kin G (c.fact 20 (f := .int "MOST_FIGURES" 60) rfl)), figures := (He.str_ok t.kin G (c.fact 21 (f := .str "FIGURES" "0123456789") rfl)) }
theorem headL_of (t : Told w h K) (G : h.Ns mainGlobals mg) : HeadL K mg := by
  have c := t.t.d
  exact ⟨⟨_, (He.glo_ok t.kin G (c.fact 41 (f := .glo "HEAD") rfl)), fun H => He.lstB_ok (ex_a t (i := 0) rfl) H⟩⟩
theorem is_of (t : Told w h K) {i : Nat} {x : Str} {b : Bool} (e : isL[i]? = some (x, b)) (hm : mg x = some (.ref (He.ga K x))) : Is K mg (He.ga K "InvalidText") x b := by
  have z := List.all_eq_true.mp (ex_c t (i := 6) rfl) (x, b) (List.mem_of_getElem? e)
  exact ⟨_, hm, of_decide_eq_true z⟩
theorem xf_of (t : Told w h K) (G : h.Ns mainGlobals mg) : XF K mg (He.ga K "InvalidText") := by
  have c := t.t.d
  exact { ec := ⟨of_decide_eq_true (ex_a t (i := 13) rfl), of_decide_eq_true (ex_a t (i := 14) rfl), of_decide_eq_true (ex_a t (i := 9) rfl), ex_a t (i := 15) rfl, of_decide_eq_true (ex_c t (i := 0) rfl), of_decide_eq_true (ex_a t (i := 2) rfl), of_decide_eq_true (ex_a t (i := 3) rfl), of_decide_eq_true (ex_c t (i := 1) rfl)⟩
          xf := ⟨of_decide_eq_true (ex_a t (i := 13) rfl), of_decide_eq_true (ex_a t (i := 14) rfl), of_decide_eq_true (ex_a t (i := 9) rfl), ex_a t (i := 15) rfl⟩
          no := He.noat_ok (c.fact 62 (f := .noat "InvalidText" "given") rfl)
          notRight := is_of t (i := 0) rfl (He.glo_ok t.kin G (c.fact 22 (f := .glo "NotRight") rfl))
          notKnown := is_of t (i := 1) rfl (He.glo_ok t.kin G (c.fact 35 (f := .glo "NotKnown") rfl))
          notPossible := is_of t (i := 2) rfl (He.glo_ok t.kin G (c.fact 36 (f := .glo "NotPossible") rfl))
          text := is_of t (i := 3) rfl (He.glo_ok t.kin G (c.fact 23 (f := .glo "InvalidText") rfl))
          number := is_of t (i := 4) rfl (He.glo_ok t.kin G (c.fact 24 (f := .glo "InvalidNumber") rfl))
          degree := is_of t (i := 5) rfl (He.glo_ok t.kin G (c.fact 26 (f := .glo "InvalidDegree") rfl))
          knots := is_of t (i := 6) rfl (He.glo_ok t.kin G (c.fact 30 (f := .glo "InvalidKnots") rfl))
          frame := is_of t (i := 7) rfl (He.glo_ok t.kin G (c.fact 28 (f := .glo "NotAFrame") rfl))
          curve := is_of t (i := 8) rfl (He.glo_ok t.kin G (c.fact 29 (f := .glo "NotACurve") rfl))
          amounts := is_of t (i := 9) rfl (He.glo_ok t.kin G (c.fact 31 (f := .glo "InvalidAmounts") rfl))
          places := is_of t (i := 10) rfl (He.glo_ok t.kin G (c.fact 32 (f := .glo "InvalidPlaces") rfl))
          heights := is_of t (i := 11) rfl (He.glo_ok t.kin G (c.fact 33 (f := .glo "InvalidHeights") rfl))
          index := is_of t (i := 12) rfl (He.glo_ok t.kin G (c.fact 25 (f := .glo "InvalidIndex") rfl))
          knot := is_of t (i := 13) rfl (He.glo_ok t.kin G (c.fact 27 (f := .glo "InvalidKnot") rfl))
          offers := is_of t (i := 14) rfl (He.glo_ok t.kin G (c.fact 34 (f := .glo "InvalidOffers") rfl))
          one := is_of t (i := 15) rfl (He.glo_ok t.kin G (c.fact 38 (f := .glo "NotOne") rfl))
          many := is_of t (i := 16) rfl (He.glo_ok t.kin G (c.fact 37 (f := .glo "TooMany") rfl))
          broken := is_of t (i := 17) rfl (He.glo_ok t.kin G (c.fact 39 (f := .glo "Broken") rfl))
          ve := of_decide_eq_true (ex_c t (i := 2) rfl), le := of_decide_eq_true (ex_c t (i := 3) rfl), ae := of_decide_eq_true (ex_c t (i := 4) rfl) }
/-- the law's promise behind the head -/
theorem law_of (t : Told w h K) (G : h.Ns mainGlobals mg) : ∃ fd : FuncData, (∀ (s : Shared) (u : Value), BindsTo s fd ⟨[u], []⟩ [("_law_script", u)]) ∧ ∀ (P : Program) (base : Heap), K.In base → base.Ns mainGlobals mg → (∀ p ∈ tfK.map (He.cT K), TabB base mg p.1 p.2) →
    FnG P w K mg base L2.CX0 14 (He.ga K "law") fd ["_law_script"] (spLaw K [((He.cT K ("_law_right", none)).2, ("_law_right" : Str) ++ ".<locals>." ++ "<lambda>"), ((He.cT K ("law", none)).2, ("law" : Str) ++ ".<locals>." ++ "<lambda>")]) := by
  have c := t.t.d
  have N := nms_of t G
  have hH := headL_of t G
  have X := xf_of t G
  obtain ⟨fd_is_integer, F0⟩ := c.def_ 0 (d := d_is_integer) rfl
  have F_is_integer : L2.Fun K "is_integer" "is_integer" sIsInt (He.ga K "is_integer") fd_is_integer := fun_ofD F0
  have b_is_integer : Binds K fd_is_integer ["value"] [] := binds_fun F_is_integer fun _ _ _ _ _ _ us hl => match us, hl with | [_], _ => rfl
  have m_is_integer : mg "is_integer" = some (.ref (He.ga K "is_integer")) := (He.glo_ok t.kin G (c.fact 42 (f := .glo "is_integer") rfl))
  clear F0
  obtain ⟨fd_is_between, F0⟩ := c.def_ 1 (d := d_is_between) rfl
  have F_is_between : L2.Fun K "is_between" "is_between" sBetween (He.ga K "is_between") fd_is_between := fun_ofD F0
  have b_is_between : Binds K fd_is_between ["value", "least", "most"] [] := binds_fun F_is_between fun _ _ _ _ _ _ us hl => match us, hl with | [_, _, _], _ => rfl
  have m_is_between : mg "is_between" = some (.ref (He.ga K "is_between")) := (He.glo_ok t.kin G (c.fact 43 (f := .glo "is_between") rfl))
  clear F0
  obtain ⟨fd_number_in, F0⟩ := c.def_ 2 (d := d_number_in) rfl
  have F_number_in : L2.Fun K "number_in" "number_in" sNumIn (He.ga K "number_in") fd_number_in := fun_ofD F0
  have b_number_in : Binds K fd_number_in ["word", "most"] [] := binds_fun F_number_in fun _ _ _ _ _ _ us hl => match us, hl with | [_, _], _ => rfl
  have m_number_in : mg "number_in" = some (.ref (He.ga K "number_in")) := (He.glo_ok t.kin G (c.fact 44 (f := .glo "number_in") rfl))
  clear F0
  obtain ⟨fd_knots_fault, F0⟩ := c.def_ 3 (d := d_knots_fault) rfl
  have F_knots_fault : L2.Fun K "knots_fault" "knots_fault" sFault (He.ga K "knots_fault") fd_knots_fault := fun_ofD F0
  have b_knots_fault : Binds K fd_knots_fault ["degree", "value"] [] := binds_fun F_knots_fault fun _ _ _ _ _ _ us hl => match us, hl with | [_, _], _ => rfl
  have m_knots_fault : mg "knots_fault" = some (.ref (He.ga K "knots_fault")) := (He.glo_ok t.kin G (c.fact 45 (f := .glo "knots_fault") rfl))
  clear F0
  obtain ⟨fd__law_mug, F0⟩ := c.def_ 4 (d := d__law_mug) rfl
  have F__law_mug : L2.Fun K "_law_mug" "_law_mug" sMug (He.ga K "_law_mug") fd__law_mug := fun_ofD F0
  have b__law_mug : Binds K fd__law_mug ["_law_script", "_law_turn"] [] := binds_fun F__law_mug fun _ _ _ _ _ _ us hl => match us, hl with | [_, _], _ => rfl
  have m__law_mug : mg "_law_mug" = some (.ref (He.ga K "_law_mug")) := (He.glo_ok t.kin G (c.fact 46 (f := .glo "_law_mug") rfl))
  clear F0
  obtain ⟨fd__law_sip, F0⟩ := c.def_ 5 (d := d__law_sip) rfl
  have F__law_sip : L2.Fun K "_law_sip" "_law_sip" sSip (He.ga K "_law_sip") fd__law_sip := fun_ofD F0
  have b__law_sip : Binds K fd__law_sip ["_law_mug_here", "_law_top"] [] := binds_fun F__law_sip fun _ _ _ _ _ _ us hl => match us, hl with | [_, _], _ => rfl
  have m__law_sip : mg "_law_sip" = some (.ref (He.ga K "_law_sip")) := (He.glo_ok t.kin G (c.fact 47 (f := .glo "_law_sip") rfl))
  clear F0
  obtain ⟨fd__law_pick, F0⟩ := c.def_ 6 (d := d__law_pick) rfl
  have F__law_pick : L2.Fun K "_law_pick" "_law_pick" sPick (He.ga K "_law_pick") fd__law_pick := fun_ofD F0
  have b__law_pick : Binds K fd__law_pick ["_law_mug_here", "_law_menu"] [] := binds_fun F__law_pick fun _ _ _ _ _ _ us hl => match us, hl with | [_, _], _ => rfl
  have m__law_pick : mg "_law_pick" = some (.ref (He.ga K "_law_pick")) := (He.glo_ok t.kin G (c.fact 48 (f := .glo "_law_pick") rfl))
  clear F0
  obtain ⟨fd__law_draft, F0⟩ := c.def_ 7 (d := d__law_draft) rfl
  have F__law_draft : L2.Fun K "_law_draft" "_law_draft" sDraft (He.ga K "_law_draft") fd__law_draft := fun_ofD F0
  have b__law_draft : Binds K fd__law_draft ["_law_mug_here", "_law_most_hills", "_law_most"] [] := binds_fun F__law_draft fun _ _ _ _ _ _ us hl => match us, hl with | [_, _, _], _ => rfl
  have m__law_draft : mg "_law_draft" = some (.ref (He.ga K "_law_draft")) := (He.glo_ok t.kin G (c.fact 49 (f := .glo "_law_draft") rfl))
  clear F0
  obtain ⟨fd__law_made, F0⟩ := c.def_ 8 (d := d__law_made) rfl
  have F__law_made : L2.Fun K "_law_made" "_law_made" sMade (He.ga K "_law_made") fd__law_made := fun_ofD F0
  have b__law_made : Binds K fd__law_made ["_law_draft_here"] [] := binds_fun F__law_made fun _ _ _ _ _ _ us hl => match us, hl with | [_], _ => rfl
  have m__law_made : mg "_law_made" = some (.ref (He.ga K "_law_made")) := (He.glo_ok t.kin G (c.fact 50 (f := .glo "_law_made") rfl))
  clear F0
  obtain ⟨fd__law_odd, F0⟩ := c.def_ 9 (d := d__law_odd) rfl
  have F__law_odd : L2.Fun K "_law_odd" "_law_odd" sOdd (He.ga K "_law_odd") fd__law_odd := fun_ofD F0
  have b__law_odd : Binds K fd__law_odd ["_law_mug_here"] [] := binds_fun F__law_odd fun _ _ _ _ _ _ us hl => match us, hl with | [_], _ => rfl
  have m__law_odd : mg "_law_odd" = some (.ref (He.ga K "_law_odd")) := (He.glo_ok t.kin G (c.fact 51 (f := .glo "_law_odd") rfl))
  clear F0
  obtain ⟨fd__law_error, F0⟩ := c.def_ 10 (d := d__law_error) rfl
  have F__law_error : L2.Fun K "_law_error" "_law_error" sError (He.ga K "_law_error") fd__law_error := fun_ofD F0
  have b__law_error : Binds K fd__law_error ["_law_act"] [] := binds_fun F__law_error fun _ _ _ _ _ _ us hl => match us, hl with | [_], _ => rfl
  have m__law_error : mg "_law_error" = some (.ref (He.ga K "_law_error")) := (He.glo_ok t.kin G (c.fact 52 (f := .glo "_law_error") rfl))
  clear F0
  obtain ⟨fd__law_class, F0⟩ := c.def_ 11 (d := d__law_class) rfl
  have F__law_class : L2.Fun K "_law_class" "_law_class" sClass (He.ga K "_law_class") fd__law_class := fun_ofD F0
  have b__law_class : Binds K fd__law_class ["_law_e"] [] := binds_fun F__law_class fun _ _ _ _ _ _ us hl => match us, hl with | [_], _ => rfl
  have m__law_class : mg "_law_class" = some (.ref (He.ga K "_law_class")) := (He.glo_ok t.kin G (c.fact 53 (f := .glo "_law_class") rfl))
  clear F0
  obtain ⟨fd__law_field, F0⟩ := c.def_ 12 (d := d__law_field) rfl
  have F__law_field : L2.Fun K "_law_field" "_law_field" sField (He.ga K "_law_field") fd__law_field := fun_ofD F0
  have b__law_field : Binds K fd__law_field ["_law_e"] [] := binds_fun F__law_field fun _ _ _ _ _ _ us hl => match us, hl with | [_], _ => rfl
  have m__law_field : mg "_law_field" = some (.ref (He.ga K "_law_field")) := (He.glo_ok t.kin G (c.fact 54 (f := .glo "_law_field") rfl))
  clear F0
  obtain ⟨fd__law_figure, F0⟩ := c.def_ 13 (d := d__law_figure) rfl
  have F__law_figure : L2.Fun K "_law_figure" "_law_figure" sFigure (He.ga K "_law_figure") fd__law_figure := fun_ofD F0
  have b__law_figure : Binds K fd__law_figure ["_law_word"] [] := binds_fun F__law_figure fun _ _ _ _ _ _ us hl => match us, hl with | [_], _ => rfl
  have m__law_figure : mg "_law_figure" = some (.ref (He.ga K "_law_figure")) := (He.glo_ok t.kin G (c.fact 55 (f := .glo "_law_figure") rfl))
  clear F0
  obtain ⟨fd__law_read, F0⟩ := c.def_ 14 (d := d__law_read) rfl
  have F__law_read : L2.Fun K "_law_read" "_law_read" sLRead (He.ga K "_law_read") fd__law_read := fun_ofD F0
  have b__law_read : Binds K fd__law_read ["_law_line"] [] := binds_fun F__law_read fun _ _ _ _ _ _ us hl => match us, hl with | [_], _ => rfl
  have m__law_read : mg "_law_read" = some (.ref (He.ga K "_law_read")) := (He.glo_ok t.kin G (c.fact 56 (f := .glo "_law_read") rfl))
  clear F0
  obtain ⟨fd__law_bent, F0⟩ := c.def_ 15 (d := d__law_bent) rfl
  have F__law_bent : L2.Fun K "_law_bent" "_law_bent" sBent (He.ga K "_law_bent") fd__law_bent := fun_ofD F0
  have b__law_bent : Binds K fd__law_bent ["_law_mug_here", "_law_draft_here"] [] := binds_fun F__law_bent fun _ _ _ _ _ _ us hl => match us, hl with | [_, _], _ => rfl
  have m__law_bent : mg "_law_bent" = some (.ref (He.ga K "_law_bent")) := (He.glo_ok t.kin G (c.fact 57 (f := .glo "_law_bent") rfl))
  clear F0
  obtain ⟨fd__law_right, F0⟩ := c.def_ 16 (d := d__law_right) rfl
  have F__law_right : L2.Fun K "_law_right" "_law_right" sRight (He.ga K "_law_right") fd__law_right := fun_ofD F0
  have b__law_right : Binds K fd__law_right ["_law_mug_here"] [] := binds_fun F__law_right fun _ _ _ _ _ _ us hl => match us, hl with | [_], _ => rfl
  have m__law_right : mg "_law_right" = some (.ref (He.ga K "_law_right")) := (He.glo_ok t.kin G (c.fact 58 (f := .glo "_law_right") rfl))
  clear F0
  obtain ⟨fd_law, F0⟩ := c.def_ 17 (d := d_law) rfl
  have F_law : L2.Fun K "law" "law" sLaw (He.ga K "law") fd_law := fun_ofD F0
  have b_law : Binds K fd_law ["_law_script"] [] := binds_fun F_law fun _ _ _ _ _ _ us hl => match us, hl with | [_], _ => rfl
  have m_law : mg "law" = some (.ref (He.ga K "law")) := (He.glo_ok t.kin G (c.fact 59 (f := .glo "law") rfl))
  clear F0
  obtain ⟨fd_Frame___init__, F0⟩ := c.def_ 18 (d := d_Frame___init__) rfl
  have F_Frame___init__ : L2.Fun K "__init__" "Frame.__init__" sInit (He.ma K (He.ga K "Frame") "__init__") fd_Frame___init__ := fun_ofD F0
  have b_Frame___init__ : Binds K fd_Frame___init__ ["self", "degree", "knots"] [] := binds_fun F_Frame___init__ fun _ _ _ _ _ _ us hl => match us, hl with | [_, _, _], _ => rfl
  clear F0
  obtain ⟨fd_Frame___eq__, F0⟩ := c.def_ 19 (d := d_Frame___eq__) rfl
  have F_Frame___eq__ : L2.Fun K "__eq__" "Frame.__eq__" sEq (He.ma K (He.ga K "Frame") "__eq__") fd_Frame___eq__ := fun_ofD F0
  have b_Frame___eq__ : Binds K fd_Frame___eq__ ["self", "other"] [] := binds_fun F_Frame___eq__ fun _ _ _ _ _ _ us hl => match us, hl with | [_, _], _ => rfl
  clear F0
  obtain ⟨fd_InvalidText___init__, F0⟩ := c.def_ 20 (d := d_InvalidText___init__) rfl
  have F_InvalidText___init__ : L2.Fun K "__init__" "InvalidText.__init__" sExc (He.ma K (He.ga K "InvalidText") "__init__") fd_InvalidText___init__ := fun_ofD F0
  have b_InvalidText___init__ : Binds K fd_InvalidText___init__ ["self", "given"] [] := binds_fun F_InvalidText___init__ fun _ _ _ _ _ _ us hl => match us, hl with | [_, _], _ => rfl
  clear F0
  obtain ⟨fd_read, F0⟩ := q_of t (i := 0) (d := qRead) rfl
  have F_read : L2.Fun K "read" "Frame.read" sRead (defM K "classmethod" "read") fd_read := F0
  have b_read : Binds K fd_read ["cls", "text"] [] := binds_fun F_read fun _ _ _ _ _ _ us hl => match us, hl with | [_, _], _ => rfl
  clear F0
  obtain ⟨fd_degree, F0⟩ := q_of t (i := 1) (d := qDegree) rfl
  have F_degree : L2.Fun K "degree" "Frame.degree" sDegree (defM K "property" "degree") fd_degree := F0
  have b_degree : Binds K fd_degree ["self"] [] := binds_fun F_degree fun _ _ _ _ _ _ us hl => match us, hl with | [_], _ => rfl
  clear F0
  obtain ⟨fd_knots, F0⟩ := q_of t (i := 2) (d := qKnots) rfl
  have F_knots : L2.Fun K "knots" "Frame.knots" sKnots (defM K "property" "knots") fd_knots := F0
  have b_knots : Binds K fd_knots ["self"] [] := binds_fun F_knots fun _ _ _ _ _ _ us hl => match us, hl with | [_], _ => rfl
  clear F0
  obtain ⟨fd_text, F0⟩ := q_of t (i := 3) (d := qText) rfl
  have F_text : L2.Fun K "text" "Frame.text" sText (defM K "property" "text") fd_text := F0
  have b_text : Binds K fd_text ["self"] [] := binds_fun F_text fun _ _ _ _ _ _ us hl => match us, hl with | [_], _ => rfl
  clear F0
  have kb : KBinds K fd_read ["cls", "text"] ["text"] g2 g2 := by
    refine ⟨fun s us ws _ hl => ?_, fun {vs us zs ws} r1 r2 => ?_⟩
    · match us, ws, hl with
      | [u], [v], _ =>
        obtain ⟨oc, od, kV, doc, pm, an, cdv, ct, osl, e, _⟩ := F_read.ex
        subst e
        exact .of_eq rfl
    · cases r1 with
      | nil => cases r2 <;> exact .nil
      | cons a r1 =>
        cases r1 with
        | nil =>
          cases r2 with
          | nil => exact .nil
          | cons b r2 =>
            cases r2 with
            | nil => exact .cons a (.cons b .nil)
            | cons _ _ => exact .nil
        | cons _ _ => exact .nil
  have mF : mg "Frame" = some (.ref (He.ga K "Frame")) := (He.glo_ok t.kin G (c.fact 40 (f := .glo "Frame") rfl))
  have mE : mg "InvalidText" = some (.ref (He.ga K "InvalidText")) := (He.glo_ok t.kin G (c.fact 23 (f := .glo "InvalidText") rfl))
  have cl : Cls K (He.ga K "Frame") := He.cls_ok (c.fact 60 (f := .cls "Frame") rfl)
  have na : NoAttr K (He.ga K "Frame") "parts" := He.noat_ok (c.fact 61 (f := .noat "Frame" "parts") rfl)
  have mk : Mk K (He.ga K "Frame") (He.ma K (He.ga K "Frame") "__init__") := He.mkr_ok (c.fact 65 (f := .mkr "Frame") rfl)
  have meq : Meth K (He.ga K "Frame") "__eq__" (He.ma K (He.ga K "Frame") "__eq__") := He.meth_ok (c.fact 63 (f := .meth "Frame" "__eq__") rfl)
  have mxi : Meth K (He.ga K "InvalidText") "__init__" (He.ma K (He.ga K "InvalidText") "__init__") := He.meth_ok (c.fact 64 (f := .meth "InvalidText" "__init__") rfl)
  have ic : C8.InsC K (He.ga K "Frame") := ⟨cl, of_decide_eq_true (ex_a t (i := 1) rfl), of_decide_eq_true (ex_a t (i := 2) rfl), of_decide_eq_true (ex_a t (i := 3) rfl), of_decide_eq_true (ex_a t (i := 4) rfl), of_decide_eq_true (ex_a t (i := 5) rfl)⟩
  have oe : OexC K (He.ga K "InvalidText") := oexc_of (ex_a t (i := 7) rfl) (of_decide_eq_true (ex_a t (i := 8) rfl)) (of_decide_eq_true (ex_a t (i := 9) rfl)) (of_decide_eq_true (ex_a t (i := 10) rfl)) (ex_a t (i := 11) rfl)
  have cr : ClX.CRead K (He.ga K "Frame") (.type "type") := ⟨ex_c t (i := 7) rfl, of_decide_eq_true (ex_c t (i := 8) rfl)⟩
  have cm := read_of (ex_c t (i := 9) rfl)
  have pd := prop_of (ex_c t (i := 10) rfl)
  have pk := prop_of (ex_c t (i := 11) rfl)
  have pt := prop_of (ex_c t (i := 12) rfl)
  have hne : (He.cT K ("law", none)).2 ≠ (He.cT K ("_law_right", none)).2 := of_decide_eq_true (ex_c t (i := 14) rfl)
  have hex : PySem.W.exmAny K (.ref (He.ga K "InvalidText")) [(mg "NotRight").getD .none, (mg "NotKnown").getD .none, (mg "NotPossible").getD .none] = some true := by
    have e := of_decide_eq_true (ex_c t (i := 5) rfl)
    rw [(He.glo_ok t.kin G (c.fact 22 (f := .glo "NotRight") rfl)), (He.glo_ok t.kin G (c.fact 35 (f := .glo "NotKnown") rfl)), (He.glo_ok t.kin G (c.fact 36 (f := .glo "NotPossible") rfl))]
    exact e
  refine ⟨fd_law, fun s u => by
    have z := b_law s [u]
    obtain ⟨oc, od, kV, doc, pm, an, cdv, ct, osl, rfl, _⟩ := F_law.ex
    exact .of_eq rfl, fun P base KB GB TB => ?_⟩
  have cal : ∀ {k : Nat} {x : Str} {sp : Sp} {f : Addr} {fd : FuncData} {ps : List Str} {q : Str} {st : Stmt}, L2.Fun K x q st f fd → mg x = some (.ref f) → Binds K fd ps [] → FnOk P w K mg base L2.CX0 k f fd ps sp → CalK P w K mg base k x sp := fun F m b ok => ⟨⟨_, _, _, [], ok, m, F.kp, b, .nil⟩⟩
  have c1 := cal F_is_integer m_is_integer b_is_integer (ok_isInt N F_is_integer)
  have c2 := cal F_is_between m_is_between b_is_between (ok_between F_is_between c1)
  have c3 := cal F_number_in m_number_in b_number_in (ok_numIn N F_number_in)
  have c4 := cal F_knots_fault m_knots_fault b_knots_fault (ok_fault N F_knots_fault c2)
  have okI := ok_init (P := P) (w := w) (base := base) N F_Frame___init__ cl na c2 c4
  have okX := ok_xi (P := P) (w := w) (mg := mg) (base := base) F_InvalidText___init__
  have okR := ok_read N hH F_read mk okI b_Frame___init__ oe X.no mxi.1 (of_decide_eq_true (ex_a t (i := 12) rfl)) okX b_InvalidText___init__ mE c3 c4
  have pD : Prp P w K mg base 1 (He.ga K "Frame") "degree" (spDegree (He.ga K "Frame")) := ⟨cl, ⟨_, _, _, pd, ok_degree F_degree cl na, b_degree⟩⟩
  have pK : Prp P w K mg base 1 (He.ga K "Frame") "knots" (spKnots (He.ga K "Frame")) := ⟨cl, ⟨_, _, _, pk, ok_knots F_knots cl na, b_knots⟩⟩
  have pT : Prp P w K mg base 3 (He.ga K "Frame") "text" (spText (He.ga K "Frame")) := ⟨cl, ⟨_, _, _, pt, ok_text N F_text pD pK, b_text⟩⟩
  have okE := ok_eq (P := P) (w := w) (base := base) N F_Frame___eq__ cl na mF ic
  have cG := cal F__law_mug m__law_mug b__law_mug (ok_mug N F__law_mug)
  have cS := cal F__law_sip m__law_sip b__law_sip (ok_sip N F__law_sip)
  have cP := cal F__law_pick m__law_pick b__law_pick (ok_pick N F__law_pick cS)
  have cD := cal F__law_draft m__law_draft b__law_draft (ok_draft N F__law_draft cS cP)
  have cM := cal F__law_made m__law_made b__law_made (ok_made F__law_made ⟨⟨_, _, _, _, mk, okI, mF, b_Frame___init__, .nil⟩⟩)
  have cO := cal F__law_odd m__law_odd b__law_odd (ok_odd N F__law_odd cS)
  have cF := cal F__law_figure m__law_figure b__law_figure (ok_fig N F__law_figure)
  have cR := cal F__law_read m__law_read b__law_read (ok_lread N F__law_read cF)
  have cB := cal F__law_bent m__law_bent b__law_bent (ok_bent N F__law_bent cS cP cM cO pT)
  have EC : ErrC P w K mg base (He.ga K "InvalidText") := ⟨N, X, hex, ⟨_, _, ok_class N X F__law_class, b__law_class, m__law_class, F__law_class.kp⟩, ⟨_, _, ok_field N X F__law_field, b__law_field, m__law_field, F__law_field.kp⟩, ⟨_, _, F__law_error, b__law_error, m__law_error⟩⟩
  have RC : ReadC P w K mg base (He.ga K "Frame") (He.ga K "InvalidText") := ⟨⟨_, _, _, _, cr, cm, okR, b_read, kb⟩, mF⟩
  have tR := TB _ (List.mem_map.mpr ⟨("_law_right", none), by simp [tfK], rfl⟩)
  have tL := TB _ (List.mem_map.mpr ⟨("law", none), by simp [tfK], rfl⟩)
  have FR := ok_right (T := [((He.cT K ("_law_right", none)).2, ("_law_right" : Str) ++ ".<locals>." ++ "<lambda>"), ((He.cT K ("law", none)).2, ("law" : Str) ++ ".<locals>." ++ "<lambda>")]) N F__law_right (code_of (p := ("_law_right", none)) F__law_right) tR List.mem_cons_self (fun p hp e => by
    rcases List.mem_cons.mp hp with rfl | hp
    · rfl
    · rw [List.mem_singleton.mp hp] at e
      exact absurd e hne) cP cD cB cR cM EC RC pD pK okE b_Frame___eq__ (of_decide_eq_true (ex_a t (i := 6) rfl)) (of_decide_eq_true (ex_a t (i := 4) rfl)) meq.1 meq.2
  exact ok_law N F_law (code_of (p := ("law", none)) F_law) tL (List.mem_cons_of_mem _ List.mem_cons_self) (fun p hp e => by
    rcases List.mem_cons.mp hp with rfl | hp
    · exact absurd e.symm hne
    · rw [List.mem_singleton.mp hp]) cG cR EC RC pT FR m__law_right F__law_right.kp b__law_right
end
end Kg

set_option maxHeartbeats 0
/-! the whole -/
open PySem PySem.W PySem.Calls PyProof.Rows
theorem PySem.Challenge.cw_bentthrough_k03_whole_texts_of_frames_holds : PySem.Challenge.rw_bentthrough_k03_whole_texts_of_frames.Holds := by
  w_on; o_law
  refine HandSHeadRun.head_any (r := Kg.Rw) (q := view Kg.Rw.prog [46]) (H := Kg.hkK) (ob := Kg.obK) (M := 15000) (loose := Kg.looseAll) (d := HandSHeadRun.topDef Kg.Rw.prog 46) (kwd := []) Kg.obK_eq
    (by kernel_rfl) (fun s => by kernel_rfl) Kg.runK (by kernel_rfl) (by kernel_rfl) (by kernel_rfl) (by rfl) (by first | assumption | decide +kernel) (by decide +kernel) ⟨rfl, rfl, rfl, rfl, rfl, by decide +kernel⟩ ?hw ?hc
  case hw => w_witness2
  case hc =>
    refine Att.attach_callB (l := PySem.Challenge.rw_bentthrough_k03_whole_texts_of_frames) (n := 63) rfl (by kernel_rfl) fun w s₀ s₁ mg mb fa o pm cd doc a vs ns G Y ho hd hcd hmg hobj hints hlen hbits hg => ?_
    obtain ⟨K, t⟩ := Y
    obtain ⟨fd, hb, hF⟩ := Kg.law_of t G.T.g
    have e : (HandSHeadRun.topDef Kg.Rw.prog 46).name = ("law" : PySem.Str) := by kernel_rfl
    rw [e, He.glo_ok t.kin G.T.g (t.t.d.facts (f := .glo "law") (List.mem_of_getElem? (i := 59) rfl))] at hmg
    obtain rfl : He.ga K "law" = fa := Value.ref.inj (Option.some.inj hmg)
    have inT : ∀ {R : Addr × Addr → Prop}, (∀ d ∈ Kg.tfK, R (He.cT K d)) → ∀ p ∈ Kg.tfK.map (He.cT K), R p := fun {R} hR p hp => by
      obtain ⟨d, hd, rfl⟩ := List.mem_map.mp hp
      exact hR d hd
    have gnd : Kg.Gnd w K mg mb (Kg.tfK.map (He.cT K)) a vs s₁ := ⟨t.kin, G.T.g, G.T.b, G.T.builtins, G.T.nolimit, hg, inT t.tab, inT t.out, inT (R := fun p => CodeHd s₁.heap p.1 p.2) fun d hd => codeHd_of_K t.kin (t.code d hd), G.T.bmain, hobj⟩
    have hz : ns.length ≤ sizeLine := Nat.le_trans hlen (by decide)
    obtain ⟨fol, hS⟩ := Kg.fol_of (P := (PySem.Challenge.rw_bentthrough_k03_whole_texts_of_frames).prog) gnd hints hz
    refine Kg.ground_runs gnd fol (k := 14) ⟨rfl, by decide, by decide⟩ (hF _) hb ⟨a, ns, rfl, hS, Nat.le_trans hlen (by decide), ?_, fun _ => rfl⟩
    intro p hp
    rcases List.mem_cons.mp hp with rfl | hp
    · exact LamX.TabS.nil (fol.tb _ (List.mem_map.mpr ⟨("_law_right", none), by simp [Kg.tfK], rfl⟩))
    · rw [List.mem_singleton.mp hp]
      exact LamX.TabS.nil (fol.tb _ (List.mem_map.mpr ⟨("law", none), by simp [Kg.tfK], rfl⟩))
