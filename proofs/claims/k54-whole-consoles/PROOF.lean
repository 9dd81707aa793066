import PyProof.Rows.All
import Wide.All
import OpenK.AllK
import Wide.FinOn
import KE.KStateDown
import Lean
import KE.KExcInit
import KE.KTryMore
import KE.KCallOwn
import HandS.ForMost
import HandS.More
import HandS.Exc
import HandS.ExcOwn
import HandS.TryOnly
import HandS.WordsExc
import HandS.ExcInit
import HandS.Property
import HandS.Defaults
import HandS.Codes
import HandS.Conv
import HandS.Flow
import HandS.Style
import HandS.Deep
import HandS.TupAny
import HandS.FStr
import HandS.Strs
import HandS.Walk
import HandS.IsInst
import KE.GoesMore
import KE.GoesEnum
import KE.SortKeyHeap
import HandS.SortKw
import HandS.Evl
import HandS.Lambda
import HandS.EndTab
import HandS.Nested
import HandS.Head0
import HandS.Head1
import HandS.Head2
import HandS.HeadEnd
import HandS.HeadHook1
import HandS.HeadHook2
import HandS.HeadHook3
import HandS.HeadHook4
import HandS.HeadWalk
import PySem.Challenge.RW_forcedsteer_k54_whole_consoles_beside_bo
set_option Elab.async false
set_option linter.all false
set_option maxRecDepth 100000
set_option maxHeartbeats 0
/-! K1: the places of the defs in the row's text, and what the head tells of the top. Printed by gen_base.py. -/
namespace K54
open PySem PySem.Spec PyProof.Rows L2
def top (i : Nat) : Stmt := PySem.Challenge.pw_forcedsteer_k54_whole_consoles_beside_bo.main.body.getD i (.Pass ⟨0, 0, 0, 0⟩)
abbrev sIsName : Stmt := top 19
abbrev sWrongPart : Stmt := top 21
abbrev sIsPair : Stmt := top 22
abbrev sWrongTie : Stmt := top 23
abbrev sLinesOf : Stmt := top 24
abbrev sCheckWorks : Stmt := top 27
abbrev sPlaceOf : Stmt := top 28
abbrev sNamed : Stmt := top 29
abbrev sWrongLeader : Stmt := top 30
abbrev sPlacesOf : Stmt := top 31
abbrev sOnlyUnknown : Stmt := top 33
abbrev sNextForce : Stmt := top 34
abbrev sAllForces : Stmt := top 35
abbrev sIsAll : Stmt := top 36
abbrev sLotsBelow : Stmt := top 40
abbrev sGoodLots : Stmt := top 42
abbrev sFewestOf : Stmt := top 43
abbrev sFewest : Stmt := top 44
abbrev sNamesText : Stmt := top 49
abbrev sLawVat : Stmt := top 52
abbrev sLawDip : Stmt := top 53
abbrev sLawOf : Stmt := top 54
abbrev sLawMixed : Stmt := top 55
abbrev sLawHeads : Stmt := top 56
abbrev sLawRoads : Stmt := top 57
abbrev sLawChiefs : Stmt := top 58
abbrev sLawNames : Stmt := top 59
abbrev sLawDeed : Stmt := top 60
abbrev sLawRight : Stmt := top 61
abbrev sLaw : Stmt := top 62
abbrev sWorksInit : Stmt := inClass (top 26) 0
abbrev sWorksLen : Stmt := inClass (top 26) 5
abbrev sWorksStr : Stmt := inClass (top 26) 8
abbrev sBoardInit : Stmt := inClass (top 38) 0
abbrev sBoardSure : Stmt := inClass (top 38) 4
abbrev sBoardKnown : Stmt := inClass (top 38) 5
abbrev sBoardPut : Stmt := inClass (top 38) 6
abbrev sBoardTie : Stmt := inClass (top 38) 7
abbrev sBoardCut : Stmt := inClass (top 38) 8
abbrev sBoardLead : Stmt := inClass (top 38) 9
abbrev sBoardLeave : Stmt := inClass (top 38) 10
abbrev sBoardUndo : Stmt := inClass (top 38) 11
abbrev sConsoleInit : Stmt := inClass (top 50) 0
abbrev sConsoleJudged : Stmt := inClass (top 50) 3
abbrev sConsoleAsked : Stmt := inClass (top 50) 4
abbrev sConsoleDeed : Stmt := inClass (top 50) 5
abbrev sConsoleAnswer : Stmt := inClass (top 50) 6
abbrev sConsoleSay : Stmt := inClass (top 50) 7
abbrev sInvalidNameInit : Stmt := inClass (top 4) 0
abbrev sInvalidTieInit : Stmt := inClass (top 5) 0
abbrev sUnknownNameInit : Stmt := inClass (top 11) 0
abbrev sWorksParts : Stmt := inClass (top 26) 2
abbrev sWorksTies : Stmt := inClass (top 26) 3
abbrev sBoardWorks : Stmt := inClass (top 38) 1
abbrev sBoardLeaders : Stmt := inClass (top 38) 2
abbrev sConsoleSaid : Stmt := inClass (top 50) 1
/-! ### facts that the head tells -/
def fa : List He.Fa :=
  [.glo "is_name",
   .glo "wrong_part",
   .glo "is_pair",
   .glo "wrong_tie",
   .glo "lines_of",
   .glo "check_works",
   .glo "place_of",
   .glo "named",
   .glo "wrong_leader",
   .glo "places_of",
   .glo "only_unknown",
   .glo "next_force",
   .glo "all_forces",
   .glo "is_all",
   .glo "lots_below",
   .glo "good_lots",
   .glo "fewest_of",
   .glo "fewest",
   .glo "names_text",
   .glo "_law_vat",
   .glo "_law_dip",
   .glo "_law_of",
   .glo "_law_mixed",
   .glo "_law_heads",
   .glo "_law_roads",
   .glo "_law_chiefs",
   .glo "_law_names",
   .glo "_law_deed",
   .glo "_law_right",
   .glo "law",
   .glo "Works",
   .glo "Board",
   .glo "Console",
   .glo "InvalidName",
   .glo "InvalidTie",
   .glo "UnknownName",
   .glo "NothingToUndo",
   .free "isinstance",
   .free "str",
   .free "len",
   .free "all",
   .free "int",
   .free "tuple",
   .free "enumerate",
   .free "sorted",
   .free "list",
   .free "range",
   .free "abs",
   .free "divmod",
   .free "max",
   .free "min",
   .free "bool",
   .int "MOST_PARTS" 8,
   .int "LONGEST_NAME" 8,
   .str "LETTERS" "abcdefghijklmnopqrstuvwxyz",
   .str "DIGITS" "0123456789",
   .str "WORDS" "text leaders known forces sure some fewest tie cut lead leave undo help",
   .cls "Works",
   .mkr "Works",
   .noat "Works" "heads",
   .noat "Works" "roads",
   .noat "Works" "pushed",
   .meth "Works" "__len__",
   .meth "Works" "__str__",
   .cls "Board",
   .mkr "Board",
   .noat "Board" "states",
   .meth "Board" "sure",
   .meth "Board" "known",
   .meth "Board" "put",
   .meth "Board" "tie",
   .meth "Board" "cut",
   .meth "Board" "lead",
   .meth "Board" "leave",
   .meth "Board" "undo",
   .cls "Console",
   .mkr "Console",
   .noat "Console" "desk",
   .noat "Console" "answers",
   .meth "Console" "judged",
   .meth "Console" "asked",
   .meth "Console" "deed",
   .meth "Console" "answer",
   .meth "Console" "say"]
def d_sIsName : He.DefD := ⟨("is_name", none), "is_name", "is_name", defArgs sIsName, defBody sIsName, defScope sIsName, [], []⟩
def d_sWrongPart : He.DefD := ⟨("wrong_part", none), "wrong_part", "wrong_part", defArgs sWrongPart, defBody sWrongPart, defScope sWrongPart, [], []⟩
def d_sIsPair : He.DefD := ⟨("is_pair", none), "is_pair", "is_pair", defArgs sIsPair, defBody sIsPair, defScope sIsPair, [], []⟩
def d_sWrongTie : He.DefD := ⟨("wrong_tie", none), "wrong_tie", "wrong_tie", defArgs sWrongTie, defBody sWrongTie, defScope sWrongTie, [], []⟩
def d_sLinesOf : He.DefD := ⟨("lines_of", none), "lines_of", "lines_of", defArgs sLinesOf, defBody sLinesOf, defScope sLinesOf, [], []⟩
def d_sCheckWorks : He.DefD := ⟨("check_works", none), "check_works", "check_works", defArgs sCheckWorks, defBody sCheckWorks, defScope sCheckWorks, [], []⟩
def d_sPlaceOf : He.DefD := ⟨("place_of", none), "place_of", "place_of", defArgs sPlaceOf, defBody sPlaceOf, defScope sPlaceOf, [], []⟩
def d_sNamed : He.DefD := ⟨("named", none), "named", "named", defArgs sNamed, defBody sNamed, defScope sNamed, [], []⟩
def d_sWrongLeader : He.DefD := ⟨("wrong_leader", none), "wrong_leader", "wrong_leader", defArgs sWrongLeader, defBody sWrongLeader, defScope sWrongLeader, [], []⟩
def d_sPlacesOf : He.DefD := ⟨("places_of", none), "places_of", "places_of", defArgs sPlacesOf, defBody sPlacesOf, defScope sPlacesOf, [], []⟩
def d_sOnlyUnknown : He.DefD := ⟨("only_unknown", none), "only_unknown", "only_unknown", defArgs sOnlyUnknown, defBody sOnlyUnknown, defScope sOnlyUnknown, [], []⟩
def d_sNextForce : He.DefD := ⟨("next_force", none), "next_force", "next_force", defArgs sNextForce, defBody sNextForce, defScope sNextForce, [], []⟩
def d_sAllForces : He.DefD := ⟨("all_forces", none), "all_forces", "all_forces", defArgs sAllForces, defBody sAllForces, defScope sAllForces, [], []⟩
def d_sIsAll : He.DefD := ⟨("is_all", none), "is_all", "is_all", defArgs sIsAll, defBody sIsAll, defScope sIsAll, [], []⟩
def d_sLotsBelow : He.DefD := ⟨("lots_below", none), "lots_below", "lots_below", defArgs sLotsBelow, defBody sLotsBelow, defScope sLotsBelow, [], []⟩
def d_sGoodLots : He.DefD := ⟨("good_lots", none), "good_lots", "good_lots", defArgs sGoodLots, defBody sGoodLots, defScope sGoodLots, [], []⟩
def d_sFewestOf : He.DefD := ⟨("fewest_of", none), "fewest_of", "fewest_of", defArgs sFewestOf, defBody sFewestOf, defScope sFewestOf, [], []⟩
def d_sFewest : He.DefD := ⟨("fewest", none), "fewest", "fewest", defArgs sFewest, defBody sFewest, defScope sFewest, [], []⟩
def d_sNamesText : He.DefD := ⟨("names_text", none), "names_text", "names_text", defArgs sNamesText, defBody sNamesText, defScope sNamesText, [], []⟩
def d_sLawVat : He.DefD := ⟨("_law_vat", none), "_law_vat", "_law_vat", defArgs sLawVat, defBody sLawVat, defScope sLawVat, [], []⟩
def d_sLawDip : He.DefD := ⟨("_law_dip", none), "_law_dip", "_law_dip", defArgs sLawDip, defBody sLawDip, defScope sLawDip, [], []⟩
def d_sLawOf : He.DefD := ⟨("_law_of", none), "_law_of", "_law_of", defArgs sLawOf, defBody sLawOf, defScope sLawOf, [], []⟩
def d_sLawMixed : He.DefD := ⟨("_law_mixed", none), "_law_mixed", "_law_mixed", defArgs sLawMixed, defBody sLawMixed, defScope sLawMixed, [], []⟩
def d_sLawHeads : He.DefD := ⟨("_law_heads", none), "_law_heads", "_law_heads", defArgs sLawHeads, defBody sLawHeads, defScope sLawHeads, [], []⟩
def d_sLawRoads : He.DefD := ⟨("_law_roads", none), "_law_roads", "_law_roads", defArgs sLawRoads, defBody sLawRoads, defScope sLawRoads, [], []⟩
def d_sLawChiefs : He.DefD := ⟨("_law_chiefs", none), "_law_chiefs", "_law_chiefs", defArgs sLawChiefs, defBody sLawChiefs, defScope sLawChiefs, [], []⟩
def d_sLawNames : He.DefD := ⟨("_law_names", none), "_law_names", "_law_names", defArgs sLawNames, defBody sLawNames, defScope sLawNames, [], []⟩
def d_sLawDeed : He.DefD := ⟨("_law_deed", none), "_law_deed", "_law_deed", defArgs sLawDeed, defBody sLawDeed, defScope sLawDeed, [], []⟩
def d_sLawRight : He.DefD := ⟨("_law_right", none), "_law_right", "_law_right", defArgs sLawRight, defBody sLawRight, defScope sLawRight, [], []⟩
def d_sLaw : He.DefD := ⟨("law", none), "law", "law", defArgs sLaw, defBody sLaw, defScope sLaw, [], []⟩
def d_sWorksInit : He.DefD := ⟨("Works", some "__init__"), "__init__", "Works.__init__", defArgs sWorksInit, defBody sWorksInit, defScope sWorksInit, [.adr (He.dflAt ("Works", some "__init__") 0)], []⟩
def d_sWorksLen : He.DefD := ⟨("Works", some "__len__"), "__len__", "Works.__len__", defArgs sWorksLen, defBody sWorksLen, defScope sWorksLen, [], []⟩
def d_sWorksStr : He.DefD := ⟨("Works", some "__str__"), "__str__", "Works.__str__", defArgs sWorksStr, defBody sWorksStr, defScope sWorksStr, [], []⟩
def d_sBoardInit : He.DefD := ⟨("Board", some "__init__"), "__init__", "Board.__init__", defArgs sBoardInit, defBody sBoardInit, defScope sBoardInit, [], []⟩
def d_sBoardSure : He.DefD := ⟨("Board", some "sure"), "sure", "Board.sure", defArgs sBoardSure, defBody sBoardSure, defScope sBoardSure, [], []⟩
def d_sBoardKnown : He.DefD := ⟨("Board", some "known"), "known", "Board.known", defArgs sBoardKnown, defBody sBoardKnown, defScope sBoardKnown, [], []⟩
def d_sBoardPut : He.DefD := ⟨("Board", some "put"), "put", "Board.put", defArgs sBoardPut, defBody sBoardPut, defScope sBoardPut, [], []⟩
def d_sBoardTie : He.DefD := ⟨("Board", some "tie"), "tie", "Board.tie", defArgs sBoardTie, defBody sBoardTie, defScope sBoardTie, [], []⟩
def d_sBoardCut : He.DefD := ⟨("Board", some "cut"), "cut", "Board.cut", defArgs sBoardCut, defBody sBoardCut, defScope sBoardCut, [], []⟩
def d_sBoardLead : He.DefD := ⟨("Board", some "lead"), "lead", "Board.lead", defArgs sBoardLead, defBody sBoardLead, defScope sBoardLead, [], []⟩
def d_sBoardLeave : He.DefD := ⟨("Board", some "leave"), "leave", "Board.leave", defArgs sBoardLeave, defBody sBoardLeave, defScope sBoardLeave, [], []⟩
def d_sBoardUndo : He.DefD := ⟨("Board", some "undo"), "undo", "Board.undo", defArgs sBoardUndo, defBody sBoardUndo, defScope sBoardUndo, [], []⟩
def d_sConsoleInit : He.DefD := ⟨("Console", some "__init__"), "__init__", "Console.__init__", defArgs sConsoleInit, defBody sConsoleInit, defScope sConsoleInit, [], []⟩
def d_sConsoleJudged : He.DefD := ⟨("Console", some "judged"), "judged", "Console.judged", defArgs sConsoleJudged, defBody sConsoleJudged, defScope sConsoleJudged, [], []⟩
def d_sConsoleAsked : He.DefD := ⟨("Console", some "asked"), "asked", "Console.asked", defArgs sConsoleAsked, defBody sConsoleAsked, defScope sConsoleAsked, [], []⟩
def d_sConsoleDeed : He.DefD := ⟨("Console", some "deed"), "deed", "Console.deed", defArgs sConsoleDeed, defBody sConsoleDeed, defScope sConsoleDeed, [], []⟩
def d_sConsoleAnswer : He.DefD := ⟨("Console", some "answer"), "answer", "Console.answer", defArgs sConsoleAnswer, defBody sConsoleAnswer, defScope sConsoleAnswer, [], []⟩
def d_sConsoleSay : He.DefD := ⟨("Console", some "say"), "say", "Console.say", defArgs sConsoleSay, defBody sConsoleSay, defScope sConsoleSay, [], []⟩
def d_sInvalidNameInit : He.DefD := ⟨("InvalidName", some "__init__"), "__init__", "InvalidName.__init__", defArgs sInvalidNameInit, defBody sInvalidNameInit, defScope sInvalidNameInit, [], []⟩
def d_sInvalidTieInit : He.DefD := ⟨("InvalidTie", some "__init__"), "__init__", "InvalidTie.__init__", defArgs sInvalidTieInit, defBody sInvalidTieInit, defScope sInvalidTieInit, [], []⟩
def d_sUnknownNameInit : He.DefD := ⟨("UnknownName", some "__init__"), "__init__", "UnknownName.__init__", defArgs sUnknownNameInit, defBody sUnknownNameInit, defScope sUnknownNameInit, [], []⟩
def fn : List He.DefD := [d_sIsName, d_sWrongPart, d_sIsPair, d_sWrongTie, d_sLinesOf, d_sCheckWorks, d_sPlaceOf, d_sNamed, d_sWrongLeader, d_sPlacesOf, d_sOnlyUnknown, d_sNextForce, d_sAllForces, d_sIsAll, d_sLotsBelow, d_sGoodLots, d_sFewestOf, d_sFewest, d_sNamesText, d_sLawVat, d_sLawDip, d_sLawOf, d_sLawMixed, d_sLawHeads, d_sLawRoads, d_sLawChiefs, d_sLawNames, d_sLawDeed, d_sLawRight, d_sLaw, d_sWorksInit, d_sWorksLen, d_sWorksStr, d_sBoardInit, d_sBoardSure, d_sBoardKnown, d_sBoardPut, d_sBoardTie, d_sBoardCut, d_sBoardLead, d_sBoardLeave, d_sBoardUndo, d_sConsoleInit, d_sConsoleJudged, d_sConsoleAsked, d_sConsoleDeed, d_sConsoleAnswer, d_sConsoleSay, d_sInvalidNameInit, d_sInvalidTieInit, d_sUnknownNameInit]
/-! ### properties, exceptions: facts of our own -/
/-- the getter of the property m of the class x -/
def gAd (K : PySem.W.Frag) (x m : Str) : Addr := match PySem.W.recIn K (He.ma K (He.ga K x) m) "property" with
  | some (.ref g :: _) => g
  | _ => 0
def getW (K : PySem.W.Frag) (x m : Str) : He.FnW := match K.lookup (gAd K x m) with
  | some ⟨_, _, .func fd, _⟩ => some (fd.name, fd.qualname, fd.params, fd.body, fd.scope, fd.globals, fd.closure, fd.builtins)
  | _ => none
structure PrD where
  cls : Str
  name : Str
  qual : Str
  params : Arguments
  body : List Stmt
  scope : Scope
def PrD.val (d : PrD) : He.FnW := some (d.name, d.qual, d.params, .stmts d.body, d.scope, mainGlobals, [], builtinsNs)
def PrD.ok (K : PySem.W.Frag) (d : PrD) : Bool := He.eqO (PySem.W.findIn K (.ref (He.ga K d.cls)) d.name) (some (some (.ref (He.ma K (He.ga K d.cls) d.name)))) &&
  (decide (PySem.W.specialIn K (.ref (He.ma K (He.ga K d.cls) d.name)) "__get__" = some (some (.builtin "property.__get__"))) && (decide (PySem.W.takesIn K (.ref (He.ma K (He.ga K d.cls) d.name)) = some true) &&
  ((match PySem.W.recIn K (He.ma K (He.ga K d.cls) d.name) "property" with
    | some (.ref g :: _) => decide (g = gAd K d.cls d.name)
    | _ => false) && (PySem.W.keepIn K (.ref (gAd K d.cls d.name)) && (match K.lookup (gAd K d.cls d.name) with
  | some ⟨_, _, .func fd, _⟩ => PySem.W.codeIn K fd.code d.qual && (He.dflB K fd.defaults [] && He.kwdB K fd.kwdefaults [])
  | _ => false)))))
/-- an own exception class with an __init__ of its own, over a built-in's mro -/
def xcB (K : PySem.W.Frag) (C : Addr) (bmB : List Value) (newId : String) : Bool := match K.lookup C with
  | some ⟨.type "type", _, .cls cd, sl⟩ => (match cd.mro, sl.toList with
    | .ref C' :: bm, [_, _, _, _, some (.builtin n), _] => decide (C' = C) && (decide (n = newId) && (!cd.hasDel && (cd.hasDict && PySem.W.excTail bmB bm)))
    | _, _ => false)
  | _ => false
def xiB (K : PySem.W.Frag) (x : Str) (bmB : List Value) (newId : String) : Bool := xcB K (He.ga K x) bmB newId &&
  (He.eqO (PySem.W.findIn K (.ref (He.ga K x)) "__setattr__") (some (some (.builtin "object.__setattr__"))) && (He.eqO (PySem.W.findIn K (.ref (He.ga K x)) "__init__") (some (some (.ref (He.ma K (He.ga K x) "__init__")))) &&
  (decide (PySem.W.typeIn K (.ref (He.ma K (He.ga K x) "__init__")) = some (.type "function")) && He.eqO (PySem.W.findIn K (.ref (He.ga K x)) "given") (some none))))
def xrB (K : PySem.W.Frag) (x : Str) : Bool := PySem.W.keepIn K (.ref (He.ga K x)) && (decide (PySem.W.subIn K (.ref (He.ga K x)) (.type "BaseException") = some true) && (decide (PySem.W.typeIn K (.ref (He.ga K x)) = some (.type "type")) &&
  decide (PySem.W.exmAny K (.ref (He.ga K x)) [.ref (He.ga K "InvalidName"), .ref (He.ga K "InvalidTie"), .ref (He.ga K "NothingToUndo"), .ref (He.ga K "UnknownName")] = some true)))
def veT : List Value := [.type "ValueError", .type "Exception", .type "BaseException", .type "object"]
def leT : List Value := [.type "LookupError", .type "Exception", .type "BaseException", .type "object"]
def aeT : List Value := [.type "ArithmeticError", .type "Exception", .type "BaseException", .type "object"]
/-- isinstance(w, Works) -/
def insB (K : PySem.W.Frag) (x : Str) : Bool := He.eqO (PySem.W.findIn K (.ref (He.ga K x)) "__class__") (some (some (.builtin "object.__class__"))) &&
  (decide (PySem.W.specialIn K (.builtin "object.__class__") "__get__" = some (some (.builtin "getset_descriptor.__get__"))) && (decide (PySem.W.takesIn K (.builtin "object.__class__") = some true) &&
  (decide (PySem.W.mroIn K (He.ga K x) (.type "object") = some true) && decide (PySem.W.kitOne K (.ref (He.ga K x)) (.ref (He.ga K x)) = some true))))
def pr : List PrD := [⟨"Works", "parts", "Works.parts", defArgs sWorksParts, defBody sWorksParts, defScope sWorksParts⟩, ⟨"Works", "ties", "Works.ties", defArgs sWorksTies, defBody sWorksTies, defScope sWorksTies⟩, ⟨"Board", "works", "Board.works", defArgs sBoardWorks, defBody sBoardWorks, defScope sBoardWorks⟩, ⟨"Board", "leaders", "Board.leaders", defArgs sBoardLeaders, defBody sBoardLeaders, defScope sBoardLeaders⟩, ⟨"Console", "said", "Console.said", defArgs sConsoleSaid, defBody sConsoleSaid, defScope sConsoleSaid⟩]
def exF (K : PySem.W.Frag) : Bool := (pr.all fun d => d.ok K) && (xiB K "InvalidName" veT "ValueError.__new__" && (xiB K "InvalidTie" veT "ValueError.__new__" && (xiB K "UnknownName" leT "LookupError.__new__" &&
  (PySem.W.excIn K (He.ga K "NothingToUndo") aeT "ArithmeticError.__new__" && (xrB K "InvalidName" && (xrB K "InvalidTie" && (xrB K "UnknownName" && (xrB K "NothingToUndo" && (insB K "Works" && decide ((He.cT K ("lots_below", none)).2 ≠ (He.cT K ("Console", some "deed")).2))))))))))
/-- the defs whose code objects have tables that the run fills -/
def tf : List He.Defn := [("lots_below", none), ("Console", some "deed")]
/-- what the top's end says -/
structure SayK (w : World) (h : Heap) (K : PySem.W.Frag) : Prop where
  x : He.SaysX fa fn [] tf exF w h K
  g : pr.map (fun d => getW K d.cls d.name) = pr.map PrD.val
def obK (n : Nat) (g : Addr → Option Obj) : He.AlX × List He.FnW := (He.obsX n fa fn [] tf exF g, pr.map fun d => getW (He.frT g (He.asD g n)) d.cls d.name)
def hkK (n : Nat) : PySem.W.Hook where
  α := He.AlX × List He.FnW
  obs := fun s => obK n s.heap.get?
  val := fun w => (He.valX fn [] w, pr.map PrD.val)
  says := fun w h => ∃ K : PySem.W.Frag, K.In h ∧ SayK w h K
  of := fun w s e => ⟨_, He.frT_in, He.saysX_of (congrArg Prod.fst e), congrArg Prod.snd e⟩
  keeps := fun _ _ _ ⟨K, hK, c⟩ k => ⟨K, PySem.W.Frag.In.keeps hK k, ⟨⟨c.x.t, c.x.more, c.x.hd, c.x.out, fun p hp => k _ _ (c.x.empty p hp)⟩, c.g⟩⟩
theorem obK_eq {n : Nat} {g : Addr → Option Obj} {s : Shared} (h : ∀ a, g a = s.heap.get? a) : obK n g = (hkK n).obs s := by
  have e : g = s.heap.get? := funext h
  rw [e] <;> rfl
/-- the module's facts as the defs' proofs take them -/
structure Tp (K : PySem.W.Frag) (mg : Str → Option Value) : Prop where
  says : He.SaysD fa fn K
  more : exF K = true
  g : pr.map (fun d => getW K d.cls d.name) = pr.map PrD.val
  names : ∃ h : Heap, K.In h ∧ h.Ns mainGlobals mg
section
variable {K : PySem.W.Frag} {mg : Str → Option Value}
theorem Tp.glo_ (T : Tp K mg) (i : Nat) {x : Str} (h : fa[i]? = some (.glo x)) : mg x = some (.ref (He.ga K x)) := by
  obtain ⟨h0, X, G⟩ := T.names
  exact He.glo_ok X G (T.says.fact i h)
theorem Tp.free_ (T : Tp K mg) (i : Nat) {x : Str} (h : fa[i]? = some (.free x)) : mg x = none := by
  obtain ⟨h0, X, G⟩ := T.names
  exact He.free_ok X G (T.says.fact i h)
theorem Tp.int_ (T : Tp K mg) (i : Nat) {x : Str} {z : Int} (h : fa[i]? = some (.int x z)) : ∃ t, mg x = some (.int z t) := by
  obtain ⟨h0, X, G⟩ := T.names
  exact He.int_ok X G (T.says.fact i h)
theorem Tp.str_ (T : Tp K mg) (i : Nat) {x z : Str} (h : fa[i]? = some (.str x z)) : ∃ t, mg x = some (.str z t) := by
  obtain ⟨h0, X, G⟩ := T.names
  exact He.str_ok X G (T.says.fact i h)
theorem Tp.pr_ok (T : Tp K mg) (i : Nat) {d : PrD} (h : pr[i]? = some d) : d.ok K = true := List.all_eq_true.mp (He.ba T.more).1 d (List.mem_of_getElem? h)
theorem Tp.prop_ (T : Tp K mg) (i : Nat) {d : PrD} (h : pr[i]? = some d) : PropOf K (He.ga K d.cls) d.name (He.ma K (He.ga K d.cls) d.name) (gAd K d.cls d.name) := by
  obtain ⟨c1, c⟩ := He.ba (T.pr_ok i h)
  obtain ⟨c2, c⟩ := He.ba c
  obtain ⟨c3, c⟩ := He.ba c
  obtain ⟨c4, _⟩ := He.ba c
  refine ⟨He.eqO_ok c1, of_decide_eq_true c2, of_decide_eq_true c3, ?_⟩
  split at c4
  · rename_i g rest e
    exact ⟨rest, by rw [← of_decide_eq_true c4]; exact e⟩
  · cases c4
theorem Tp.getter_ (T : Tp K mg) (i : Nat) {d : PrD} (h : pr[i]? = some d) : ∃ fd, FunD K d.name d.qual d.params d.body d.scope [] [] (gAd K d.cls d.name) fd := by
  obtain ⟨_, c⟩ := He.ba (T.pr_ok i h)
  obtain ⟨_, c⟩ := He.ba c
  obtain ⟨_, c⟩ := He.ba c
  obtain ⟨_, c⟩ := He.ba c
  obtain ⟨c1, c2⟩ := He.ba c
  have e2 : (pr.map fun d => getW K d.cls d.name)[i]? = (pr.map PrD.val)[i]? := by rw [T.g]
  rw [List.getElem?_map, List.getElem?_map, h] at e2
  have e : getW K d.cls d.name = d.val := Option.some.inj e2
  unfold getW at e
  cases q : K.lookup (gAd K d.cls d.name) with
  | none =>
    rw [q] at c2
    cases c2
  | some o =>
    obtain ⟨oc, od, dt, osl⟩ := o
    rw [q] at c2 e
    cases dt with
    | func fd =>
      obtain ⟨n1, n2, n3, n4, n5, n6, n7, n8, n9, n10, n11, n12, n13, n14, n15⟩ := fd
      have e3 : (some (n1, n2, n3, n4, n5, n6, n7, n8, n15) : Option _) = some (d.name, d.qual, d.params, FuncBody.stmts d.body, d.scope, mainGlobals, ([] : List (Str × Addr)), n8, builtinsNs) := by
        have e4 : (some (n1, n2, n3, n4, n5, n6, n7, n15) : He.FnW) = some (d.name, d.qual, d.params, .stmts d.body, d.scope, mainGlobals, [], builtinsNs) := e
        simp only [Option.some.injEq, Prod.mk.injEq] at e4 ⊢
        obtain ⟨h1, h2, h3, h4, h5, h6, h7, h9⟩ := e4
        exact ⟨h1, h2, h3, h4, h5, h6, h7, trivial, h9⟩
      simp only [Option.some.injEq, Prod.mk.injEq] at e3
      obtain ⟨h1, h2, h3, h4, h5, h6, h7, _, h9⟩ := e3
      subst h1 h2 h3 h4 h5 h6 h7 h9
      obtain ⟨k1, k2⟩ := He.ba (show (PySem.W.codeIn K _ _ && (He.dflB K _ [] && He.kwdB K _ [])) = true from c2)
      obtain ⟨k2, k3⟩ := He.ba k2
      exact ⟨_, ⟨⟨oc, od, n8, n9, n10, n11, n12, n13, n14, osl, rfl, q, k1, He.dflB_ok k2, He.kwdB_ok k3⟩, c1⟩⟩
    | _ => cases c2
theorem Tp.g_is_name (T : Tp K mg) : mg "is_name" = some (.ref (He.ga K "is_name")) := T.glo_ 0 rfl
theorem Tp.g_wrong_part (T : Tp K mg) : mg "wrong_part" = some (.ref (He.ga K "wrong_part")) := T.glo_ 1 rfl
theorem Tp.g_is_pair (T : Tp K mg) : mg "is_pair" = some (.ref (He.ga K "is_pair")) := T.glo_ 2 rfl
theorem Tp.g_wrong_tie (T : Tp K mg) : mg "wrong_tie" = some (.ref (He.ga K "wrong_tie")) := T.glo_ 3 rfl
theorem Tp.g_lines_of (T : Tp K mg) : mg "lines_of" = some (.ref (He.ga K "lines_of")) := T.glo_ 4 rfl
theorem Tp.g_check_works (T : Tp K mg) : mg "check_works" = some (.ref (He.ga K "check_works")) := T.glo_ 5 rfl
theorem Tp.g_place_of (T : Tp K mg) : mg "place_of" = some (.ref (He.ga K "place_of")) := T.glo_ 6 rfl
theorem Tp.g_named (T : Tp K mg) : mg "named" = some (.ref (He.ga K "named")) := T.glo_ 7 rfl
theorem Tp.g_wrong_leader (T : Tp K mg) : mg "wrong_leader" = some (.ref (He.ga K "wrong_leader")) := T.glo_ 8 rfl
theorem Tp.g_places_of (T : Tp K mg) : mg "places_of" = some (.ref (He.ga K "places_of")) := T.glo_ 9 rfl
theorem Tp.g_only_unknown (T : Tp K mg) : mg "only_unknown" = some (.ref (He.ga K "only_unknown")) := T.glo_ 10 rfl
theorem Tp.g_next_force (T : Tp K mg) : mg "next_force" = some (.ref (He.ga K "next_force")) := T.glo_ 11 rfl
theorem Tp.g_all_forces (T : Tp K mg) : mg "all_forces" = some (.ref (He.ga K "all_forces")) := T.glo_ 12 rfl
theorem Tp.g_is_all (T : Tp K mg) : mg "is_all" = some (.ref (He.ga K "is_all")) := T.glo_ 13 rfl
theorem Tp.g_lots_below (T : Tp K mg) : mg "lots_below" = some (.ref (He.ga K "lots_below")) := T.glo_ 14 rfl
theorem Tp.g_good_lots (T : Tp K mg) : mg "good_lots" = some (.ref (He.ga K "good_lots")) := T.glo_ 15 rfl
theorem Tp.g_fewest_of (T : Tp K mg) : mg "fewest_of" = some (.ref (He.ga K "fewest_of")) := T.glo_ 16 rfl
theorem Tp.g_fewest (T : Tp K mg) : mg "fewest" = some (.ref (He.ga K "fewest")) := T.glo_ 17 rfl
theorem Tp.g_names_text (T : Tp K mg) : mg "names_text" = some (.ref (He.ga K "names_text")) := T.glo_ 18 rfl
theorem Tp.g_law_vat (T : Tp K mg) : mg "_law_vat" = some (.ref (He.ga K "_law_vat")) := T.glo_ 19 rfl
theorem Tp.g_law_dip (T : Tp K mg) : mg "_law_dip" = some (.ref (He.ga K "_law_dip")) := T.glo_ 20 rfl
theorem Tp.g_law_of (T : Tp K mg) : mg "_law_of" = some (.ref (He.ga K "_law_of")) := T.glo_ 21 rfl
theorem Tp.g_law_mixed (T : Tp K mg) : mg "_law_mixed" = some (.ref (He.ga K "_law_mixed")) := T.glo_ 22 rfl
theorem Tp.g_law_heads (T : Tp K mg) : mg "_law_heads" = some (.ref (He.ga K "_law_heads")) := T.glo_ 23 rfl
theorem Tp.g_law_roads (T : Tp K mg) : mg "_law_roads" = some (.ref (He.ga K "_law_roads")) := T.glo_ 24 rfl
theorem Tp.g_law_chiefs (T : Tp K mg) : mg "_law_chiefs" = some (.ref (He.ga K "_law_chiefs")) := T.glo_ 25 rfl
theorem Tp.g_law_names (T : Tp K mg) : mg "_law_names" = some (.ref (He.ga K "_law_names")) := T.glo_ 26 rfl
theorem Tp.g_law_deed (T : Tp K mg) : mg "_law_deed" = some (.ref (He.ga K "_law_deed")) := T.glo_ 27 rfl
theorem Tp.g_law_right (T : Tp K mg) : mg "_law_right" = some (.ref (He.ga K "_law_right")) := T.glo_ 28 rfl
theorem Tp.g_law (T : Tp K mg) : mg "law" = some (.ref (He.ga K "law")) := T.glo_ 29 rfl
theorem Tp.g_Works (T : Tp K mg) : mg "Works" = some (.ref (He.ga K "Works")) := T.glo_ 30 rfl
theorem Tp.g_Board (T : Tp K mg) : mg "Board" = some (.ref (He.ga K "Board")) := T.glo_ 31 rfl
theorem Tp.g_Console (T : Tp K mg) : mg "Console" = some (.ref (He.ga K "Console")) := T.glo_ 32 rfl
theorem Tp.g_InvalidName (T : Tp K mg) : mg "InvalidName" = some (.ref (He.ga K "InvalidName")) := T.glo_ 33 rfl
theorem Tp.g_InvalidTie (T : Tp K mg) : mg "InvalidTie" = some (.ref (He.ga K "InvalidTie")) := T.glo_ 34 rfl
theorem Tp.g_UnknownName (T : Tp K mg) : mg "UnknownName" = some (.ref (He.ga K "UnknownName")) := T.glo_ 35 rfl
theorem Tp.g_NothingToUndo (T : Tp K mg) : mg "NothingToUndo" = some (.ref (He.ga K "NothingToUndo")) := T.glo_ 36 rfl
theorem Tp.z_isinstance (T : Tp K mg) : mg "isinstance" = none := T.free_ 37 rfl
theorem Tp.z_str (T : Tp K mg) : mg "str" = none := T.free_ 38 rfl
theorem Tp.z_len (T : Tp K mg) : mg "len" = none := T.free_ 39 rfl
theorem Tp.z_all (T : Tp K mg) : mg "all" = none := T.free_ 40 rfl
theorem Tp.z_int (T : Tp K mg) : mg "int" = none := T.free_ 41 rfl
theorem Tp.z_tuple (T : Tp K mg) : mg "tuple" = none := T.free_ 42 rfl
theorem Tp.z_enumerate (T : Tp K mg) : mg "enumerate" = none := T.free_ 43 rfl
theorem Tp.z_sorted (T : Tp K mg) : mg "sorted" = none := T.free_ 44 rfl
theorem Tp.z_list (T : Tp K mg) : mg "list" = none := T.free_ 45 rfl
theorem Tp.z_range (T : Tp K mg) : mg "range" = none := T.free_ 46 rfl
theorem Tp.z_abs (T : Tp K mg) : mg "abs" = none := T.free_ 47 rfl
theorem Tp.z_divmod (T : Tp K mg) : mg "divmod" = none := T.free_ 48 rfl
theorem Tp.z_max (T : Tp K mg) : mg "max" = none := T.free_ 49 rfl
theorem Tp.z_min (T : Tp K mg) : mg "min" = none := T.free_ 50 rfl
theorem Tp.z_bool (T : Tp K mg) : mg "bool" = none := T.free_ 51 rfl
theorem Tp.i_MOST_PARTS (T : Tp K mg) : ∃ t, mg "MOST_PARTS" = some (.int 8 t) := T.int_ 52 rfl
theorem Tp.i_LONGEST_NAME (T : Tp K mg) : ∃ t, mg "LONGEST_NAME" = some (.int 8 t) := T.int_ 53 rfl
theorem Tp.t_LETTERS (T : Tp K mg) : ∃ t, mg "LETTERS" = some (.str "abcdefghijklmnopqrstuvwxyz" t) := T.str_ 54 rfl
theorem Tp.t_DIGITS (T : Tp K mg) : ∃ t, mg "DIGITS" = some (.str "0123456789" t) := T.str_ 55 rfl
theorem Tp.t_WORDS (T : Tp K mg) : ∃ t, mg "WORDS" = some (.str "text leaders known forces sure some fewest tie cut lead leave undo help" t) := T.str_ 56 rfl
theorem Tp.c_Works (T : Tp K mg) : Cls K (He.ga K "Works") := He.cls_ok (T.says.fact 57 rfl)
theorem Tp.m_Works (T : Tp K mg) : Mk K (He.ga K "Works") (He.ma K (He.ga K "Works") "__init__") := He.mkr_ok (T.says.fact 58 rfl)
theorem Tp.n_Works_heads (T : Tp K mg) : NoAttr K (He.ga K "Works") "heads" := He.noat_ok (T.says.fact 59 rfl)
theorem Tp.n_Works_roads (T : Tp K mg) : NoAttr K (He.ga K "Works") "roads" := He.noat_ok (T.says.fact 60 rfl)
theorem Tp.n_Works_pushed (T : Tp K mg) : NoAttr K (He.ga K "Works") "pushed" := He.noat_ok (T.says.fact 61 rfl)
theorem Tp.h_Works_len (T : Tp K mg) : Meth K (He.ga K "Works") "__len__" (He.ma K (He.ga K "Works") "__len__") := He.meth_ok (T.says.fact 62 rfl)
theorem Tp.h_Works_str (T : Tp K mg) : Meth K (He.ga K "Works") "__str__" (He.ma K (He.ga K "Works") "__str__") := He.meth_ok (T.says.fact 63 rfl)
theorem Tp.c_Board (T : Tp K mg) : Cls K (He.ga K "Board") := He.cls_ok (T.says.fact 64 rfl)
theorem Tp.m_Board (T : Tp K mg) : Mk K (He.ga K "Board") (He.ma K (He.ga K "Board") "__init__") := He.mkr_ok (T.says.fact 65 rfl)
theorem Tp.n_Board_states (T : Tp K mg) : NoAttr K (He.ga K "Board") "states" := He.noat_ok (T.says.fact 66 rfl)
theorem Tp.h_Board_sure (T : Tp K mg) : Meth K (He.ga K "Board") "sure" (He.ma K (He.ga K "Board") "sure") := He.meth_ok (T.says.fact 67 rfl)
theorem Tp.h_Board_known (T : Tp K mg) : Meth K (He.ga K "Board") "known" (He.ma K (He.ga K "Board") "known") := He.meth_ok (T.says.fact 68 rfl)
theorem Tp.h_Board_put (T : Tp K mg) : Meth K (He.ga K "Board") "put" (He.ma K (He.ga K "Board") "put") := He.meth_ok (T.says.fact 69 rfl)
theorem Tp.h_Board_tie (T : Tp K mg) : Meth K (He.ga K "Board") "tie" (He.ma K (He.ga K "Board") "tie") := He.meth_ok (T.says.fact 70 rfl)
theorem Tp.h_Board_cut (T : Tp K mg) : Meth K (He.ga K "Board") "cut" (He.ma K (He.ga K "Board") "cut") := He.meth_ok (T.says.fact 71 rfl)
theorem Tp.h_Board_lead (T : Tp K mg) : Meth K (He.ga K "Board") "lead" (He.ma K (He.ga K "Board") "lead") := He.meth_ok (T.says.fact 72 rfl)
theorem Tp.h_Board_leave (T : Tp K mg) : Meth K (He.ga K "Board") "leave" (He.ma K (He.ga K "Board") "leave") := He.meth_ok (T.says.fact 73 rfl)
theorem Tp.h_Board_undo (T : Tp K mg) : Meth K (He.ga K "Board") "undo" (He.ma K (He.ga K "Board") "undo") := He.meth_ok (T.says.fact 74 rfl)
theorem Tp.c_Console (T : Tp K mg) : Cls K (He.ga K "Console") := He.cls_ok (T.says.fact 75 rfl)
theorem Tp.m_Console (T : Tp K mg) : Mk K (He.ga K "Console") (He.ma K (He.ga K "Console") "__init__") := He.mkr_ok (T.says.fact 76 rfl)
theorem Tp.n_Console_desk (T : Tp K mg) : NoAttr K (He.ga K "Console") "desk" := He.noat_ok (T.says.fact 77 rfl)
theorem Tp.n_Console_answers (T : Tp K mg) : NoAttr K (He.ga K "Console") "answers" := He.noat_ok (T.says.fact 78 rfl)
theorem Tp.h_Console_judged (T : Tp K mg) : Meth K (He.ga K "Console") "judged" (He.ma K (He.ga K "Console") "judged") := He.meth_ok (T.says.fact 79 rfl)
theorem Tp.h_Console_asked (T : Tp K mg) : Meth K (He.ga K "Console") "asked" (He.ma K (He.ga K "Console") "asked") := He.meth_ok (T.says.fact 80 rfl)
theorem Tp.h_Console_deed (T : Tp K mg) : Meth K (He.ga K "Console") "deed" (He.ma K (He.ga K "Console") "deed") := He.meth_ok (T.says.fact 81 rfl)
theorem Tp.h_Console_answer (T : Tp K mg) : Meth K (He.ga K "Console") "answer" (He.ma K (He.ga K "Console") "answer") := He.meth_ok (T.says.fact 82 rfl)
theorem Tp.h_Console_say (T : Tp K mg) : Meth K (He.ga K "Console") "say" (He.ma K (He.ga K "Console") "say") := He.meth_ok (T.says.fact 83 rfl)
theorem Tp.f_is_name (T : Tp K mg) : ∃ fd, FunD K "is_name" "is_name" (defArgs sIsName) (defBody sIsName) (defScope sIsName) [] [] (He.ga K "is_name") fd := T.says.def_ 0 (d := d_sIsName) rfl
theorem Tp.f_wrong_part (T : Tp K mg) : ∃ fd, FunD K "wrong_part" "wrong_part" (defArgs sWrongPart) (defBody sWrongPart) (defScope sWrongPart) [] [] (He.ga K "wrong_part") fd := T.says.def_ 1 (d := d_sWrongPart) rfl
theorem Tp.f_is_pair (T : Tp K mg) : ∃ fd, FunD K "is_pair" "is_pair" (defArgs sIsPair) (defBody sIsPair) (defScope sIsPair) [] [] (He.ga K "is_pair") fd := T.says.def_ 2 (d := d_sIsPair) rfl
theorem Tp.f_wrong_tie (T : Tp K mg) : ∃ fd, FunD K "wrong_tie" "wrong_tie" (defArgs sWrongTie) (defBody sWrongTie) (defScope sWrongTie) [] [] (He.ga K "wrong_tie") fd := T.says.def_ 3 (d := d_sWrongTie) rfl
theorem Tp.f_lines_of (T : Tp K mg) : ∃ fd, FunD K "lines_of" "lines_of" (defArgs sLinesOf) (defBody sLinesOf) (defScope sLinesOf) [] [] (He.ga K "lines_of") fd := T.says.def_ 4 (d := d_sLinesOf) rfl
theorem Tp.f_check_works (T : Tp K mg) : ∃ fd, FunD K "check_works" "check_works" (defArgs sCheckWorks) (defBody sCheckWorks) (defScope sCheckWorks) [] [] (He.ga K "check_works") fd := T.says.def_ 5 (d := d_sCheckWorks) rfl
theorem Tp.f_place_of (T : Tp K mg) : ∃ fd, FunD K "place_of" "place_of" (defArgs sPlaceOf) (defBody sPlaceOf) (defScope sPlaceOf) [] [] (He.ga K "place_of") fd := T.says.def_ 6 (d := d_sPlaceOf) rfl
theorem Tp.f_named (T : Tp K mg) : ∃ fd, FunD K "named" "named" (defArgs sNamed) (defBody sNamed) (defScope sNamed) [] [] (He.ga K "named") fd := T.says.def_ 7 (d := d_sNamed) rfl
theorem Tp.f_wrong_leader (T : Tp K mg) : ∃ fd, FunD K "wrong_leader" "wrong_leader" (defArgs sWrongLeader) (defBody sWrongLeader) (defScope sWrongLeader) [] [] (He.ga K "wrong_leader") fd := T.says.def_ 8 (d := d_sWrongLeader) rfl
theorem Tp.f_places_of (T : Tp K mg) : ∃ fd, FunD K "places_of" "places_of" (defArgs sPlacesOf) (defBody sPlacesOf) (defScope sPlacesOf) [] [] (He.ga K "places_of") fd := T.says.def_ 9 (d := d_sPlacesOf) rfl
theorem Tp.f_only_unknown (T : Tp K mg) : ∃ fd, FunD K "only_unknown" "only_unknown" (defArgs sOnlyUnknown) (defBody sOnlyUnknown) (defScope sOnlyUnknown) [] [] (He.ga K "only_unknown") fd := T.says.def_ 10 (d := d_sOnlyUnknown) rfl
theorem Tp.f_next_force (T : Tp K mg) : ∃ fd, FunD K "next_force" "next_force" (defArgs sNextForce) (defBody sNextForce) (defScope sNextForce) [] [] (He.ga K "next_force") fd := T.says.def_ 11 (d := d_sNextForce) rfl
theorem Tp.f_all_forces (T : Tp K mg) : ∃ fd, FunD K "all_forces" "all_forces" (defArgs sAllForces) (defBody sAllForces) (defScope sAllForces) [] [] (He.ga K "all_forces") fd := T.says.def_ 12 (d := d_sAllForces) rfl
theorem Tp.f_is_all (T : Tp K mg) : ∃ fd, FunD K "is_all" "is_all" (defArgs sIsAll) (defBody sIsAll) (defScope sIsAll) [] [] (He.ga K "is_all") fd := T.says.def_ 13 (d := d_sIsAll) rfl
theorem Tp.f_lots_below (T : Tp K mg) : ∃ fd, FunD K "lots_below" "lots_below" (defArgs sLotsBelow) (defBody sLotsBelow) (defScope sLotsBelow) [] [] (He.ga K "lots_below") fd := T.says.def_ 14 (d := d_sLotsBelow) rfl
theorem Tp.f_good_lots (T : Tp K mg) : ∃ fd, FunD K "good_lots" "good_lots" (defArgs sGoodLots) (defBody sGoodLots) (defScope sGoodLots) [] [] (He.ga K "good_lots") fd := T.says.def_ 15 (d := d_sGoodLots) rfl
theorem Tp.f_fewest_of (T : Tp K mg) : ∃ fd, FunD K "fewest_of" "fewest_of" (defArgs sFewestOf) (defBody sFewestOf) (defScope sFewestOf) [] [] (He.ga K "fewest_of") fd := T.says.def_ 16 (d := d_sFewestOf) rfl
theorem Tp.f_fewest (T : Tp K mg) : ∃ fd, FunD K "fewest" "fewest" (defArgs sFewest) (defBody sFewest) (defScope sFewest) [] [] (He.ga K "fewest") fd := T.says.def_ 17 (d := d_sFewest) rfl
theorem Tp.f_names_text (T : Tp K mg) : ∃ fd, FunD K "names_text" "names_text" (defArgs sNamesText) (defBody sNamesText) (defScope sNamesText) [] [] (He.ga K "names_text") fd := T.says.def_ 18 (d := d_sNamesText) rfl
theorem Tp.f_law_vat (T : Tp K mg) : ∃ fd, FunD K "_law_vat" "_law_vat" (defArgs sLawVat) (defBody sLawVat) (defScope sLawVat) [] [] (He.ga K "_law_vat") fd := T.says.def_ 19 (d := d_sLawVat) rfl
theorem Tp.f_law_dip (T : Tp K mg) : ∃ fd, FunD K "_law_dip" "_law_dip" (defArgs sLawDip) (defBody sLawDip) (defScope sLawDip) [] [] (He.ga K "_law_dip") fd := T.says.def_ 20 (d := d_sLawDip) rfl
theorem Tp.f_law_of (T : Tp K mg) : ∃ fd, FunD K "_law_of" "_law_of" (defArgs sLawOf) (defBody sLawOf) (defScope sLawOf) [] [] (He.ga K "_law_of") fd := T.says.def_ 21 (d := d_sLawOf) rfl
theorem Tp.f_law_mixed (T : Tp K mg) : ∃ fd, FunD K "_law_mixed" "_law_mixed" (defArgs sLawMixed) (defBody sLawMixed) (defScope sLawMixed) [] [] (He.ga K "_law_mixed") fd := T.says.def_ 22 (d := d_sLawMixed) rfl
theorem Tp.f_law_heads (T : Tp K mg) : ∃ fd, FunD K "_law_heads" "_law_heads" (defArgs sLawHeads) (defBody sLawHeads) (defScope sLawHeads) [] [] (He.ga K "_law_heads") fd := T.says.def_ 23 (d := d_sLawHeads) rfl
theorem Tp.f_law_roads (T : Tp K mg) : ∃ fd, FunD K "_law_roads" "_law_roads" (defArgs sLawRoads) (defBody sLawRoads) (defScope sLawRoads) [] [] (He.ga K "_law_roads") fd := T.says.def_ 24 (d := d_sLawRoads) rfl
theorem Tp.f_law_chiefs (T : Tp K mg) : ∃ fd, FunD K "_law_chiefs" "_law_chiefs" (defArgs sLawChiefs) (defBody sLawChiefs) (defScope sLawChiefs) [] [] (He.ga K "_law_chiefs") fd := T.says.def_ 25 (d := d_sLawChiefs) rfl
theorem Tp.f_law_names (T : Tp K mg) : ∃ fd, FunD K "_law_names" "_law_names" (defArgs sLawNames) (defBody sLawNames) (defScope sLawNames) [] [] (He.ga K "_law_names") fd := T.says.def_ 26 (d := d_sLawNames) rfl
theorem Tp.f_law_deed (T : Tp K mg) : ∃ fd, FunD K "_law_deed" "_law_deed" (defArgs sLawDeed) (defBody sLawDeed) (defScope sLawDeed) [] [] (He.ga K "_law_deed") fd := T.says.def_ 27 (d := d_sLawDeed) rfl
theorem Tp.f_law_right (T : Tp K mg) : ∃ fd, FunD K "_law_right" "_law_right" (defArgs sLawRight) (defBody sLawRight) (defScope sLawRight) [] [] (He.ga K "_law_right") fd := T.says.def_ 28 (d := d_sLawRight) rfl
theorem Tp.f_law (T : Tp K mg) : ∃ fd, FunD K "law" "law" (defArgs sLaw) (defBody sLaw) (defScope sLaw) [] [] (He.ga K "law") fd := T.says.def_ 29 (d := d_sLaw) rfl
theorem Tp.f_Works_init (T : Tp K mg) : ∃ fd, FunD K "__init__" "Works.__init__" (defArgs sWorksInit) (defBody sWorksInit) (defScope sWorksInit) [.ref (He.dflAt ("Works", some "__init__") 0 K)] [] (He.ma K (He.ga K "Works") "__init__") fd := T.says.def_ 30 (d := d_sWorksInit) rfl
theorem Tp.f_Works_len (T : Tp K mg) : ∃ fd, FunD K "__len__" "Works.__len__" (defArgs sWorksLen) (defBody sWorksLen) (defScope sWorksLen) [] [] (He.ma K (He.ga K "Works") "__len__") fd := T.says.def_ 31 (d := d_sWorksLen) rfl
theorem Tp.f_Works_str (T : Tp K mg) : ∃ fd, FunD K "__str__" "Works.__str__" (defArgs sWorksStr) (defBody sWorksStr) (defScope sWorksStr) [] [] (He.ma K (He.ga K "Works") "__str__") fd := T.says.def_ 32 (d := d_sWorksStr) rfl
theorem Tp.f_Board_init (T : Tp K mg) : ∃ fd, FunD K "__init__" "Board.__init__" (defArgs sBoardInit) (defBody sBoardInit) (defScope sBoardInit) [] [] (He.ma K (He.ga K "Board") "__init__") fd := T.says.def_ 33 (d := d_sBoardInit) rfl
theorem Tp.f_Board_sure (T : Tp K mg) : ∃ fd, FunD K "sure" "Board.sure" (defArgs sBoardSure) (defBody sBoardSure) (defScope sBoardSure) [] [] (He.ma K (He.ga K "Board") "sure") fd := T.says.def_ 34 (d := d_sBoardSure) rfl
theorem Tp.f_Board_known (T : Tp K mg) : ∃ fd, FunD K "known" "Board.known" (defArgs sBoardKnown) (defBody sBoardKnown) (defScope sBoardKnown) [] [] (He.ma K (He.ga K "Board") "known") fd := T.says.def_ 35 (d := d_sBoardKnown) rfl
theorem Tp.f_Board_put (T : Tp K mg) : ∃ fd, FunD K "put" "Board.put" (defArgs sBoardPut) (defBody sBoardPut) (defScope sBoardPut) [] [] (He.ma K (He.ga K "Board") "put") fd := T.says.def_ 36 (d := d_sBoardPut) rfl
theorem Tp.f_Board_tie (T : Tp K mg) : ∃ fd, FunD K "tie" "Board.tie" (defArgs sBoardTie) (defBody sBoardTie) (defScope sBoardTie) [] [] (He.ma K (He.ga K "Board") "tie") fd := T.says.def_ 37 (d := d_sBoardTie) rfl
theorem Tp.f_Board_cut (T : Tp K mg) : ∃ fd, FunD K "cut" "Board.cut" (defArgs sBoardCut) (defBody sBoardCut) (defScope sBoardCut) [] [] (He.ma K (He.ga K "Board") "cut") fd := T.says.def_ 38 (d := d_sBoardCut) rfl
theorem Tp.f_Board_lead (T : Tp K mg) : ∃ fd, FunD K "lead" "Board.lead" (defArgs sBoardLead) (defBody sBoardLead) (defScope sBoardLead) [] [] (He.ma K (He.ga K "Board") "lead") fd := T.says.def_ 39 (d := d_sBoardLead) rfl
theorem Tp.f_Board_leave (T : Tp K mg) : ∃ fd, FunD K "leave" "Board.leave" (defArgs sBoardLeave) (defBody sBoardLeave) (defScope sBoardLeave) [] [] (He.ma K (He.ga K "Board") "leave") fd := T.says.def_ 40 (d := d_sBoardLeave) rfl
theorem Tp.f_Board_undo (T : Tp K mg) : ∃ fd, FunD K "undo" "Board.undo" (defArgs sBoardUndo) (defBody sBoardUndo) (defScope sBoardUndo) [] [] (He.ma K (He.ga K "Board") "undo") fd := T.says.def_ 41 (d := d_sBoardUndo) rfl
theorem Tp.f_Console_init (T : Tp K mg) : ∃ fd, FunD K "__init__" "Console.__init__" (defArgs sConsoleInit) (defBody sConsoleInit) (defScope sConsoleInit) [] [] (He.ma K (He.ga K "Console") "__init__") fd := T.says.def_ 42 (d := d_sConsoleInit) rfl
theorem Tp.f_Console_judged (T : Tp K mg) : ∃ fd, FunD K "judged" "Console.judged" (defArgs sConsoleJudged) (defBody sConsoleJudged) (defScope sConsoleJudged) [] [] (He.ma K (He.ga K "Console") "judged") fd := T.says.def_ 43 (d := d_sConsoleJudged) rfl
theorem Tp.f_Console_asked (T : Tp K mg) : ∃ fd, FunD K "asked" "Console.asked" (defArgs sConsoleAsked) (defBody sConsoleAsked) (defScope sConsoleAsked) [] [] (He.ma K (He.ga K "Console") "asked") fd := T.says.def_ 44 (d := d_sConsoleAsked) rfl
theorem Tp.f_Console_deed (T : Tp K mg) : ∃ fd, FunD K "deed" "Console.deed" (defArgs sConsoleDeed) (defBody sConsoleDeed) (defScope sConsoleDeed) [] [] (He.ma K (He.ga K "Console") "deed") fd := T.says.def_ 45 (d := d_sConsoleDeed) rfl
theorem Tp.f_Console_answer (T : Tp K mg) : ∃ fd, FunD K "answer" "Console.answer" (defArgs sConsoleAnswer) (defBody sConsoleAnswer) (defScope sConsoleAnswer) [] [] (He.ma K (He.ga K "Console") "answer") fd := T.says.def_ 46 (d := d_sConsoleAnswer) rfl
theorem Tp.f_Console_say (T : Tp K mg) : ∃ fd, FunD K "say" "Console.say" (defArgs sConsoleSay) (defBody sConsoleSay) (defScope sConsoleSay) [] [] (He.ma K (He.ga K "Console") "say") fd := T.says.def_ 47 (d := d_sConsoleSay) rfl
theorem Tp.f_InvalidName_init (T : Tp K mg) : ∃ fd, FunD K "__init__" "InvalidName.__init__" (defArgs sInvalidNameInit) (defBody sInvalidNameInit) (defScope sInvalidNameInit) [] [] (He.ma K (He.ga K "InvalidName") "__init__") fd := T.says.def_ 48 (d := d_sInvalidNameInit) rfl
theorem Tp.f_InvalidTie_init (T : Tp K mg) : ∃ fd, FunD K "__init__" "InvalidTie.__init__" (defArgs sInvalidTieInit) (defBody sInvalidTieInit) (defScope sInvalidTieInit) [] [] (He.ma K (He.ga K "InvalidTie") "__init__") fd := T.says.def_ 49 (d := d_sInvalidTieInit) rfl
theorem Tp.f_UnknownName_init (T : Tp K mg) : ∃ fd, FunD K "__init__" "UnknownName.__init__" (defArgs sUnknownNameInit) (defBody sUnknownNameInit) (defScope sUnknownNameInit) [] [] (He.ma K (He.ga K "UnknownName") "__init__") fd := T.says.def_ 50 (d := d_sUnknownNameInit) rfl
theorem Tp.p_Works_parts (T : Tp K mg) : PropOf K (He.ga K "Works") "parts" (He.ma K (He.ga K "Works") "parts") (gAd K "Works" "parts") := T.prop_ 0 rfl
theorem Tp.q_Works_parts (T : Tp K mg) : ∃ fd, FunD K "parts" "Works.parts" (defArgs sWorksParts) (defBody sWorksParts) (defScope sWorksParts) [] [] (gAd K "Works" "parts") fd := T.getter_ 0 rfl
theorem Tp.p_Works_ties (T : Tp K mg) : PropOf K (He.ga K "Works") "ties" (He.ma K (He.ga K "Works") "ties") (gAd K "Works" "ties") := T.prop_ 1 rfl
theorem Tp.q_Works_ties (T : Tp K mg) : ∃ fd, FunD K "ties" "Works.ties" (defArgs sWorksTies) (defBody sWorksTies) (defScope sWorksTies) [] [] (gAd K "Works" "ties") fd := T.getter_ 1 rfl
theorem Tp.p_Board_works (T : Tp K mg) : PropOf K (He.ga K "Board") "works" (He.ma K (He.ga K "Board") "works") (gAd K "Board" "works") := T.prop_ 2 rfl
theorem Tp.q_Board_works (T : Tp K mg) : ∃ fd, FunD K "works" "Board.works" (defArgs sBoardWorks) (defBody sBoardWorks) (defScope sBoardWorks) [] [] (gAd K "Board" "works") fd := T.getter_ 2 rfl
theorem Tp.p_Board_leaders (T : Tp K mg) : PropOf K (He.ga K "Board") "leaders" (He.ma K (He.ga K "Board") "leaders") (gAd K "Board" "leaders") := T.prop_ 3 rfl
theorem Tp.q_Board_leaders (T : Tp K mg) : ∃ fd, FunD K "leaders" "Board.leaders" (defArgs sBoardLeaders) (defBody sBoardLeaders) (defScope sBoardLeaders) [] [] (gAd K "Board" "leaders") fd := T.getter_ 3 rfl
theorem Tp.p_Console_said (T : Tp K mg) : PropOf K (He.ga K "Console") "said" (He.ma K (He.ga K "Console") "said") (gAd K "Console" "said") := T.prop_ 4 rfl
theorem Tp.q_Console_said (T : Tp K mg) : ∃ fd, FunD K "said" "Console.said" (defArgs sConsoleSaid) (defBody sConsoleSaid) (defScope sConsoleSaid) [] [] (gAd K "Console" "said") fd := T.getter_ 4 rfl
end
end K54
/-! K2: the top's run in the kernel. Printed by gen_head.py. -/
namespace K54
open PySem PySem.Spec PyProof.Rows L2
def names1 : List Str := ["_wall", "__name__", "WrongValue", "InvalidText", "InvalidName", "InvalidTie", "NotWorks", "InvalidParts", "InvalidTies", "InvalidLeaders", "WrongName", "UnknownName", "NoAnswer", "NothingToUndo", "MOST_PARTS", "LETTERS", "DIGITS", "LONGEST_NAME", "is_name", "wrong_part", "is_pair", "wrong_tie", "lines_of", "read_works"]
def names2 : List Str := ["Works", "check_works", "place_of", "named", "wrong_leader", "places_of", "only_unknown", "next_force", "all_forces", "is_all", "Board", "lots_below", "good_lots", "fewest_of", "fewest", "reached_from", "WORDS", "names_text", "Console", "_law_vat", "_law_dip", "_law_of", "_law_mixed", "_law_heads", "_law_roads", "_law_chiefs", "_law_names", "_law_deed", "_law_right"]
def names : List Str := names1 ++ names2
abbrev R : PySem.W.OpenRow := PySem.W.OpenLaw.row PySem.Challenge.rw_forcedsteer_k54_whole_consoles_beside_bo
abbrev hk : PySem.W.Hook := hkK 5
def ob (s : PySem.W.SharedT) : hk.α := obK 5 (HandSHeadRun.getT s)
theorem ob_eq (s : PySem.W.SharedT) : ob s = hk.obs s.abs := obK_eq (HandSHeadRun.getT_eq s)
theorem run (w : World) : HandSHeadRun.RunEq R (PySem.W.view R.prog [62]) hk ob 8000 names w := by
  intro os
  kernel_rfl
end K54
/-! K3 -/
namespace K54
open PySem PySem.Spec PyProof.Rows L2
/-! ### len(o), str(o) by the class's own methods -/
section
variable {X : Cx} {k : Nat} {C f : Addr} {fd : FuncData} {sp : Sp}
def rLenOwn (C : Addr) (sp : Sp) : List V → Hp → VK → Prop := fun xs H Q => ∃ a dx fs, xs = [.ref a] ∧ H a = some (.ins C dx fs) ∧ sp [.ref a] H (fun v H' => ∃ n : Int, v = .int n ∧ (0 ≤ n ∧ n < 2 ^ 63) ∧ Q (.int n) H') E0
theorem call_lenOwn (hm : Meth X.K C "__len__" f) (F : FnOk X.prog X.w X.K X.mg X.base CX0 k f fd ["self"] sp) (hr : Room (k + 1) X.A) (hb : Binds X.K fd ["self"] []) : CallR X (.builtin "len") (rLenOwn C sp) := by
  intro pins s σ H xs us Q I r h
  obtain ⟨a, dx, fs, rfl, ea, h⟩ := h
  obtain ⟨u, rfl, rx⟩ := vals1 r
  cases rx
  obtain ⟨mA, O, _, _, _, _⟩ := ins_get I.hok ea
  obtain ⟨od, J, _⟩ := O.look
  obtain ⟨m, fr⟩ := I.fr
  refine PySem.W.len_K fr I.ok.mod.kin J hm.at_ hm.fn (wpAny_call (codeAny_mono (F.run X.A.in1 X.stack s H ⟨[.ref a], []⟩ [.ref a] [.ref a] _ E0 hr.in1 I.env0.in1 (hb s [.ref a] I.kIn rfl) (.cons rfl .nil) h) fun r s' hq => ?_))
  cases r with
  | error er => exact False.elim hq
  | ok fl =>
    cases fl with
    | ret u =>
      obtain ⟨v, H', I3, rv, n, ev, hn, q⟩ := I.after hq
      subst ev
      obtain ⟨t, rfl⟩ := rv
      exact ⟨hn, .int n, H', I3.tok _, ⟨_, rfl⟩, q⟩
    | next => exact False.elim hq
    | brk => exact False.elim hq
    | cont => exact False.elim hq
def rStrOwn (C : Addr) (sp : Sp) : List V → Hp → VK → Prop := fun xs H Q => ∃ a dx fs, xs = [.ref a] ∧ H a = some (.ins C dx fs) ∧ sp [.ref a] H (fun v H' => ∃ z : Str, v = .str z ∧ Q (.str z) H') E0
theorem call_strOwn (hm : Meth X.K C "__str__" f) (F : FnOk X.prog X.w X.K X.mg X.base CX0 k f fd ["self"] sp) (hr : Room (k + 2) X.A) (hb : Binds X.K fd ["self"] []) : CallR X (.type "str") (rStrOwn C sp) := by
  intro pins s σ H xs us Q I r h
  obtain ⟨a, dx, fs, rfl, ea, h⟩ := h
  obtain ⟨u, rfl, rx⟩ := vals1 r
  cases rx
  obtain ⟨mA, O, _, _, _, _⟩ := ins_get I.hok ea
  obtain ⟨od, J, _⟩ := O.look
  have hu : X.A.in1.in1.units < cLine := hr.in1.in1.units0
  refine PySem.W.kso_call hu I.kIn J hm.at_ hm.fn (wpAny_call (codeAny_mono (F.run X.A.in1.in1 X.stack s H ⟨[.ref a], []⟩ [.ref a] [.ref a] _ E0 hr.in1.in1 I.env0.in1.in1 (hb s [.ref a] I.kIn rfl) (.cons rfl .nil) h) fun r s' hq => ?_))
  cases r with
  | error er => exact False.elim hq
  | ok fl =>
    cases fl with
    | ret u =>
      obtain ⟨v, H', I3, rv, z, ev, q⟩ := I.after hq
      subst ev
      obtain ⟨t, rfl⟩ := rv
      exact ⟨.str z, H', I3, ⟨_, rfl⟩, q⟩
    | next => exact False.elim hq
    | brk => exact False.elim hq
    | cont => exact False.elim hq
end
/-! ### x in t, x not in t: t a tuple of data of any depth -/
section
variable {X : Cx}
def rInU (K : PySem.W.Frag) : R2 := fun x y H Q => ∃ d ds, Dp K H x d ∧ Dp K H y (.tuple ds) ∧ SeqAt.shaped d = true ∧ SeqAt.shaped (.tuple ds) = true ∧ Q (.bl (ds.any fun z => PyData.eqv z d)) H
def rNotInU (K : PySem.W.Frag) : R2 := fun x y H Q => ∃ d ds, Dp K H x d ∧ Dp K H y (.tuple ds) ∧ SeqAt.shaped d = true ∧ SeqAt.shaped (.tuple ds) = true ∧ Q (.bl (!ds.any fun z => PyData.eqv z d)) H
theorem op_inU (hu : X.A.units + 65 < cLine) : OpR X (compareOp .In) (rInU X.K) := by
  intro pins s σ H x y v u Q I rx ry h
  obtain ⟨d, ds, hd, he, sd, se, q⟩ := h
  obtain ⟨as, r1⟩ := Dp.reads I d x v hd rx
  obtain ⟨bs, r2⟩ := Dp.reads I (.tuple ds) y u he ry
  exact SeqAt.in_tuple_reads r2 r1 (SeqAt.canLay_of_shaped se) (SeqAt.canLay_of_shaped sd) (room_in_shaped sd hu) ⟨.bl _, H, I, rfl, q⟩
theorem op_notInU (hu : X.A.units + 65 < cLine) : OpR X (compareOp .NotIn) (rNotInU X.K) := by
  intro pins s σ H x y v u Q I rx ry h
  obtain ⟨d, ds, hd, he, sd, se, q⟩ := h
  obtain ⟨as, r1⟩ := Dp.reads I d x v hd rx
  obtain ⟨bs, r2⟩ := Dp.reads I (.tuple ds) y u he ry
  exact SeqAt.notIn_tuple_reads r2 r1 (SeqAt.canLay_of_shaped se) (SeqAt.canLay_of_shaped sd) (room_in_shaped sd hu) ⟨.bl _, H, I, rfl, q⟩
end
/-! ### enumerate(t), t a tuple -/
open AutoSeq1 (wpAny_loadPart') in
theorem meets_enumU (l : Addr) (items : Array Value) (n : Nat) (dct : Option Addr) (sl : Array (Option Value)) :
    Meets (Builtin.«enumerate.__new__» ⟨[.type "enumerate", .ref l], []⟩) (fun _ R s => s.heap.get? l = some { cls := .type "tuple", dict := dct, data := .seq items n, slots := sl } ∧
      R (.ok (.ret (.ref (s.heap.push { cls := .type "tuple_iterator", data := .fields #[.ref l, .int 0 0] }).objs.size)))
        { s with heap := (s.heap.push { cls := .type "tuple_iterator", data := .fields #[.ref l, .int 0 0] }).push { cls := .type "enumerate", data := .fields #[.none, .bool false, .ref s.heap.objs.size, rawInt 0, .none, .none] } }) :=
  .of_wp fun prog w A R s h => by
    obtain ⟨hp, g, d, tk, os⟩ := s
    obtain ⟨hl, h⟩ := h
    have hsub := sub_enumerate
    have hL : Heap.IsTuple (Shared.heap ⟨hp, g, d, tk, os⟩) l items := ⟨_, hl, rfl, n, rfl⟩
    wp_walk using wpAny_loadPart' hl
    refine wpAny_stack_any fun st => wpAny_pure ?_
    split
    · rename_i c _ _ _ _ _
      cases (c == Value.type "enumerate")
      all_goals
        wp_walk using wpAny_loadPart' hl, wpAny_pyIter_tuple hL
        exact ⟨_, rfl, h⟩
    · wp_walk using wpAny_loadPart' hl, wpAny_pyIter_tuple hL
      exact ⟨_, rfl, h⟩
section
variable {prog : Program} {w : World} {A : Around} {E : Value → Shared → Prop} {s : Shared}
theorem call_enumU {l : Addr} {items : Array Value} {Q : Value → Shared → Prop} (hL : IsTup s.heap l items)
    (h : ∀ h', IsEnum h' (s.heap.objs.size + 1) s.heap.objs.size 0 .none → h'.IsTupleIter s.heap.objs.size l 0 → h'.objs.size = s.heap.objs.size + 2 →
      (∀ b o, s.heap.get? b = some o → h'.get? b = some o) → Q (.ref (s.heap.objs.size + 1)) { s with heap := h' }) :
    wpAny (model prog w) A (call (.type "enumerate") [.ref l]) Q E s := by
  obtain ⟨⟨c, dct, dt, sl⟩, hl, hc, n, hd⟩ := hL
  replace hc : c = .type "tuple" := hc
  replace hd : dt = .seq items n := hd
  subst hc hd
  refine callType_new F.called_enumerate (by decide) (F.typeCall_enumerate_1 _) (F.newCall_enumerate_1 _) (fun obj => F.args_object_init_2 obj _) F.entry_enumerate_new
    (meets_enumU l items n dct sl) ⟨hl, ?_⟩
  have hz : (s.heap.push { cls := .type "tuple_iterator", data := .fields #[.ref l, .int 0 0] }).objs.size = s.heap.objs.size + 1 := Heap.size_push ..
  show _ ∧ _
  rw [hz]
  have he : IsEnum ((s.heap.push { cls := .type "tuple_iterator", data := .fields #[.ref l, .int 0 0] }).push { cls := .type "enumerate", data := .fields #[.none, .bool false, .ref s.heap.objs.size, rawInt 0, .none, .none] }) (s.heap.objs.size + 1) s.heap.objs.size 0 .none := by
    have q := Heap.get?_push_size (s.heap.push { cls := .type "tuple_iterator", data := .fields #[.ref l, .int 0 0] }) (o := { cls := .type "enumerate", data := .fields #[.none, .bool false, .ref s.heap.objs.size, rawInt 0, .none, .none] }) rfl
    rw [hz] at q
    exact q
  exact ⟨⟨_, he, rfl⟩, h _ he ⟨_, Heap.get?_push_of_some _ (Heap.get?_push_size _ rfl), rfl, rfl⟩ (by rw [Heap.size_push, hz]) fun b o x => Heap.get?_push_of_some _ (Heap.get?_push_of_some _ x)⟩
end
section
variable {prog : Program} {w : World} {A : Around} {E : Value → Shared → Prop} {s : Shared}
theorem enumU_end {e it l : Addr} {i : Nat} {items : Array Value} {old : Value} {Q : Option Value → Shared → Prop} (hh : A.handled = none) (he : IsEnum s.heap e it i old) (hit : s.heap.IsTupleIter it l i) (hl : s.heap.IsTuple l items) (hx : items[i]? = none)
    (hQ : ∀ h', Heap.ExtBut it s.heap h' → Q none { s with heap := h' }) : wpAny (model prog w) A (pyNext (.ref e)) Q E s := by
  have hT : s.TypeIs (.ref e) "enumerate" := ⟨_, he, rfl⟩
  unfold pyNext
  refine wpAny_bind (wpAny_attempt (wpAny_callSpecial?_slot (name := Str.ofString "__next__") hT F.slot_enumerate_next (wpAny_call_entry F.slot_enumerate_next hT F.entry_enumerate_next ?_ (F.args_enumerate_next_1 _))))
  show wpAny _ _ (field (.ref e) 2 >>= _) _ _ _
  refine wpAny_bind (wpAny_field he rfl (x := .ref it) rfl ?_)
  refine wpAny_bind (wpAny_nextOf_tuple_end (show A.in1.handled = none from hh) hit hl hx fun h' x he' hx' => ?_)
  obtain ⟨o, ho, hc⟩ := hx'
  exact wpAny_bind (wpAny_isInstance (T := "StopIteration") (b := true) ⟨o, ho, hc⟩ isSubtype_stop (wpAny_pure (hQ _ he')))
end
/-- the tuple at a, each item in a new pair with its place -/
def ItU (K : PySem.W.Frag) (a : Addr) : It :=
  ⟨fun i H => ∃ (xs : List V) (x : V), SqT K H a xs ∧ xs[i]? = some x, fun i H v H' => ∃ T x, v = .ref T ∧ H T = none ∧ H' = upd H T (.tup [.int (i : Nat), x]) ∧ ∀ xs, SqT K H a xs → xs[i]? = some x, fun i H => ∃ xs : List V, SqT K H a xs ∧ xs.length ≤ i⟩
theorem turn_enumU {P : Program} {w : World} {K : PySem.W.Frag} {elts : List Expr} {kk : Nat} {tpos : Pos} (a e it : Addr) (hai : a ≠ it) (hae : e ≠ a) :
    Turn P w K (.Tuple elts kk tpos) (ItU K a) [e, it] e (fun i h => (∃ old, IsEnum h e it ((i : Nat) : Int) old) ∧ h.IsTupleIter it a i ∧ e ≠ it) where
  mem := by simp
  obj := fun i h st b hb => by
    obtain ⟨⟨old, he⟩, ⟨o, ho, hc, hd⟩, _⟩ := st
    have e' : b = e ∨ b = it := by simpa using hb
    rcases e' with rfl | rfl
    · exact ⟨_, he, fun v q => nomatch q⟩
    · exact ⟨o, ho, fun v q => by rw [hd] at q; cases q⟩
  keep := fun i h h' st k => ⟨⟨st.1.choose, k e (by simp) _ st.1.choose_spec⟩, st.2.1.at fun o q => k it (by simp) o q, st.2.2⟩
  item := by
    intro X hP hw hK hc i pins s σ H E I hf st hg
    subst hP hw hK
    obtain ⟨⟨old, he⟩, hit, hne⟩ := st
    obtain ⟨xs, x, hq, hx⟩ := hg
    obtain ⟨its, rv, p, hz⟩ := I.tuple hq
    obtain ⟨u, hu, ru⟩ := rv.get hx
    have hel : e < s.heap.objs.size := Heap.lt_size he
    have hil : it < s.heap.objs.size := by
      obtain ⟨_, q, _⟩ := hit
      exact Heap.lt_size q
    have hlt : i < its.toArray.size := by
      have q := (List.getElem?_eq_some_iff.mp hu).1
      simpa using q
    have D := Draws.tuple (prog := X.prog) (w := X.w) (A := X.A.in1) (show X.A.in1.handled = none from I.ok.hd hc) it a hai its.toArray
    refine wpAny_pyNext_enum_itemD D he ⟨hit, p⟩ hlt hne (by simp [hne, hae]) fun y h' tk hy ho st' hT hsz hk => ?_
    obtain ⟨hit', _⟩ := st'
    have ey : y = u := by
      have q : its.toArray[i]? = some u := by simpa using hu
      rw [q] at hy
      exact (Option.some.inj hy).symm
    subst ey
    refine ⟨_, rfl, wpAny_letOwnedTupleGo_enum (s := { s with heap := h', toks := tk + 1 }) ho fun h'' he' sb => ?_⟩
    have hT2 : h''.get? s.heap.objs.size = some { cls := .type "tuple", data := .seq #[.int i tk, y] } := (sb.2 _ (Nat.ne_of_gt hel)).trans hT
    have new : ObjOk X.prog X.w (upd H s.heap.objs.size (.tup [.int (i : Nat), x])) h'' s.heap.objs.size (.tup [.int (i : Nat), x]) :=
      ⟨by show 2 ≤ sizeLine; decide, [.int i tk, y], .cons ⟨_, rfl⟩ (.cons ru .nil), ⟨_, hT2, rfl, _, rfl⟩⟩
    have keep : ∀ b ob, b ∉ [e, it] → s.heap.get? b = some ob → h''.get? b = some ob := fun b ob hb q => (sb.2 b (fun z => hb (by simp [z]))).trans (hk b ob (fun z => hb (by simp [z])) (fun z => hb (by simp [z])) q)
    have I1 : Inv X pins σ (upd H s.heap.objs.size (.tup [.int (i : Nat), x])) { s with heap := h'', toks := tk + 1 } := I.turnedNew (ch := [e, it]) keep hf (Nat.le_refl _) new
    refine ⟨.ref s.heap.objs.size, _, I1, rfl, ⟨_, x, rfl, I.hok.fresh (Nat.le_refl _), rfl, fun ys hy => by rw [I.tuple_inj hy hq]; exact hx⟩, ⟨⟨y, ?_⟩, hit'.at fun o q => (sb.2 it (Ne.symm hne)).trans q, hne⟩, fun b hb => ?_⟩
    · rw [show ((i + 1 : Nat) : Int) = (i : Int) + 1 by omega]
      exact he'
    · have e' : b = e ∨ b = it := by simpa using hb
      have hb' : b < s.heap.objs.size := by
        rcases e' with rfl | rfl
        · exact hel
        · exact hil
      rw [upd_ne (Nat.ne_of_lt hb')]
      exact (hf b hb).1
  done := by
    intro X hP hw hK hc i pins s σ H E I hf st hg
    subst hP hw hK
    obtain ⟨⟨old, he⟩, hit, hne⟩ := st
    obtain ⟨xs, hq, hx⟩ := hg
    obtain ⟨its, rv, p, hz⟩ := I.tuple hq
    obtain ⟨f0, f1, f2, f3, f4, f5⟩ := hf it (by simp)
    have hl := rv.length
    exact enumU_end (I.ok.hd hc) he hit p (by simp; omega) fun h' eb => ⟨rfl, I.turned (t' := s.toks) (fun b o hb q => eb b o hb q) f0 f1 f3 f4 f5⟩
  self := fun A i s Q E st h => wpAny_pyIter_enum st.1.choose_spec h
def iEnumU (K : PySem.W.Frag) (ta : TA) : TI := fun σ H R => ta σ H fun vs H1 => ∃ a xs, vs = [.ref a] ∧ SqT K H1 a xs ∧ R (ItU K a) H1
theorem pi_enumU {X : Cx} {e : Expr} {ta : TA} {p pos tpos : Pos} {elts : List Expr} {kk : Nat} (hg : Gl X "enumerate") (hm : X.mg "enumerate" = none) (ha : PA X [e] ta) (hs : starEach [e] X.env = [(false, eval e X.env)] := by rfl) :
    PI X (.Tuple elts kk tpos) (.Call (.Name "enumerate" p) [e] [] pos) (iEnumU X.K ta) := by
  refine ⟨fun pins s σ H R I h => ?_⟩
  refine Call_ (ld_blt I hg hm boot_enumerate (PyProof.Rows.callWith_type1 (thn (ha.run pos pins s σ H _ I h) fun us s1 ⟨vs, H1, I1, r1, q1⟩ => ?_) hs rfl))
  obtain ⟨a, xs, ex, hq, q⟩ := q1
  subst ex
  obtain ⟨u, rfl, rx⟩ := vals1 r1
  cases rx
  obtain ⟨its, rv, p', hz⟩ := I1.tuple hq
  have hal : a < s1.heap.objs.size := p'.lt
  refine call_enumU p' fun h' he hit hsz hk => wpAny_pyIter_enum he ?_
  have I2 : Inv X pins σ H1 { s1 with heap := h' } := I1.kept (t' := s1.toks) hk
  refine ⟨s1.heap.objs.size + 1, [s1.heap.objs.size + 1, s1.heap.objs.size], _, _, H1, rfl, I2, turn_enumU a (s1.heap.objs.size + 1) s1.heap.objs.size (Nat.ne_of_lt hal) (Nat.ne_of_gt (Nat.lt_succ_of_lt hal)), ⟨⟨.none, he⟩, hit, Nat.succ_ne_self _⟩, fun b hb => ?_, q⟩
  have hle : s1.heap.objs.size ≤ b := by
    have e' : b = s1.heap.objs.size + 1 ∨ b = s1.heap.objs.size := by simpa using hb
    rcases e' with z | z
    · rw [z]
      exact Nat.le_succ _
    · rw [z]
      exact Nat.le_refl _
  exact I1.fpOk hle (I1.hok.fresh hle)
theorem walk_enumU {K : PySem.W.Frag} {a : Addr} {xs : List V} : Walk (ItU K a) xs.length (fun H => SqT K H a xs) (YPair (fun i => some (.int (i : Nat))) (fun i => xs[i]?)) := by
  refine ⟨fun i H hi hG => ⟨xs, _, hG, List.getElem?_eq_getElem hi⟩, fun H hG => ⟨xs, hG, Nat.le_refl _⟩, fun i H v H' hi hG y => ?_⟩
  obtain ⟨T, x, e, n, e2, hx⟩ := y
  exact ⟨T, _, x, e, n, e2, rfl, hx xs hG⟩
end K54
/-! K4 -/
namespace PySem
namespace K54X
open Builtin Builtin.ObjectAttr
/-- what the store of a first attribute asks of an exception's class -/
structure Osa (mro : List Value) : Prop where
  ne : mro.isEmpty = false
  obj : mro.contains (.type "object") = true
  pass : ∀ self : Value, refuseLoop self "__setattr__" mro = pure ()
theorem osa_of {T : String} {bmB mro : List Value} (F : StoreFacts T bmB "object.__setattr__" "object") (ho : bmB.contains (.type "object") = true) (h : W.excTail bmB mro = true) (hn : mro.isEmpty = false) : Osa mro :=
  ⟨hn, (W.excTail_contains "object" _ h).trans ho, fun self => W.excTail_pass self (F.passes self) _ h⟩
section
variable {prog : Program} {w : World} {A : Around} {E : Value → Shared → Prop} {R : Result → Shared → Prop} {hp : Heap} {g : Array GenState} {d : Drawn} {t : Nat} {os : OsState}
theorem osaG {K : W.Frag} {name : Str} {tk : Tok} {v : Value} {x C : Addr} {fv : Array Value} {cd : ClassData}
    (X : K.In hp) (hx : hp.get? x = some { cls := .ref C, data := .fields fv }) (hcd : W.clsIn K C = some cd) (O : Osa cd.mro) (hh : cd.hasDict = true) (ha : W.findIn K (.ref C) name = some none)
    (hq : ∀ h' tk' dx, (∀ b o, b ≠ x → hp.get? b = some o → h'.get? b = some o) → hp.objs.size ≤ dx → dx ≠ x → h'.get? x = some { cls := .ref C, dict := some dx, data := .fields fv } →
      h'.Ns1 dx (fun y => if y = name then some v else none) → R (.ok (.ret .none)) ⟨h', g, d, tk', os⟩) :
    codeAny (model prog w) A (.call (.builtin "object.__setattr__") ⟨[.ref x, .str name tk, v], []⟩) R ⟨hp, g, d, t, os⟩ := by
  have J : W.InstAt hp x { cls := .ref C, data := .fields fv } C none := ⟨hx, rfl, rfl, trivial⟩
  have SF := F.store_object
  have nxs : x ≠ hp.objs.size := Nat.ne_of_lt (Heap.lt_size hx)
  have onObj : W.Looks (model prog w) hp (isInstance (.ref x) (.type "object")) true := J.type.andThen (W.looks_mroIn X (by
    unfold W.mroIn
    rw [hcd, Option.bind_some, if_neg (by rw [O.ne]; decide), O.obj]))
  refine codeAny_call_builtin SF.slot.plain SF.entry (@W.check_slot (model prog w) _ _ ⟨hp, g, d, t, os⟩ "object.__setattr__" "object" "__setattr__" (.ref x) [.str name tk, v] [] _ SF.kind SF.split onObj (SF.args (.ref x) (.str name tk) v) ?_)
  have lm : W.Looks (model prog w) hp (mroOf (.ref C)) cd.mro := (W.looks_clsIn X hcd).andThen .now
  have ls : W.Looks (model prog w) hp (storeTaker? none) none := .now
  have lc : W.Looks (model prog w) hp (classData C) cd := W.looks_clsIn X hcd
  rw [W.osa_eq, refuse_eq]
  refine wpAny_bind (wpAny_bind (J.type.at (wpAny_bind (lm.at ?_))))
  rw [O.pass]
  refine wpAny_pure (wpAny_bind (J.type.at (wpAny_bind ((W.looks_findIn X ha).at (wpAny_bind (ls.at ?_))))))
  show wpAny _ _ (storeInOwnDict (.ref x) (.ref C) (.str name tk) name v false) _ _ _
  obtain ⟨nm, bs, mro, ns, qn, hd, sn, sb, ab, col, del⟩ := cd
  dsimp only at hh
  subst hh
  unfold storeInOwnDict ownDictForStores
  repeat (first | with_reducible refine HandSPX.store_in_new ?_ ?_ | with_reducible refine wpAny_loadPart_at hx ?_ | with_reducible refine lc.at ?_ | wp_step)
  · exact ⟨_, #[], _, (Heap.get?_update_ne _ _ _ _ nxs.symm).trans (Heap.get?_push_at rfl rfl), rfl, fun e he => absurd he (by simp), fun _ => rfl⟩
  · intro h' tk' hn' hs
    have hx1 : (hp.push { cls := .type "dict", data := .dict #[] }).get? x = some { cls := .ref C, data := .fields fv } := Heap.get?_push_of_some _ hx
    exact hq h' tk' hp.objs.size (fun b o hb ho => (hs.2 b (Nat.ne_of_lt (Heap.lt_size ho))).trans ((Heap.get?_update_ne _ _ _ _ hb).trans (Heap.get?_push_of_some _ ho))) (Nat.le_refl _) nxs.symm ((hs.2 x nxs).trans (Heap.get?_update_self _ hx1 rfl)) hn'
end
end K54X
end PySem
namespace K54
open PySem PySem.Spec PyProof.Rows L2
/-! ### own exception classes over any built-in base, their __init__ walked as a def -/
structure XcC (K : PySem.W.Frag) (C : Addr) (bmB : List Value) (newId : String) : Prop where
  cls : ∃ nm q N bs bm sn sub ab col dd k0 k1 k2 k3 k5, K.lookup C = some (excClassObj nm q C N bs bm true sn sub ab col dd k0 k1 k2 k3 k5 newId) ∧ PySem.W.excTail bmB bm = true
  osa : ∀ bm : List Value, PySem.W.excTail bmB bm = true → PySem.K54X.Osa (.ref C :: bm)
  sa : PySem.W.findIn K (.ref C) "__setattr__" = some (some (.builtin "object.__setattr__"))
  exC : PySem.W.subIn K (.ref C) (.type "BaseException") = some true
  tyC : PySem.W.typeIn K (.ref C) = some (.type "type")
  kC : PySem.W.keepIn K (.ref C) = true
theorem xcB_ok {K : PySem.W.Frag} {C : Addr} {bmB : List Value} {newId : String} (q : xcB K C bmB newId = true) :
    ∃ nm q N bs bm sn sub ab col dd k0 k1 k2 k3 k5, K.lookup C = some (excClassObj nm q C N bs bm true sn sub ab col dd k0 k1 k2 k3 k5 newId) ∧ PySem.W.excTail bmB bm = true := by
  unfold xcB at q
  split at q
  · rename_i dd cd sl ho
    split at q
    · rename_i C' bm k0 k1 k2 k3 n k5 hm hs
      simp only [Bool.and_eq_true, decide_eq_true_eq, Bool.not_eq_true'] at q
      obtain ⟨rfl, rfl, hdel, hdct, ht⟩ := q
      obtain ⟨nm, bs, mro, ns, qn, hd, sn, sub, ab, col, del⟩ := cd
      dsimp only at hm hdel hdct
      subst hm hdel hdct
      have hsl : sl = #[k0, k1, k2, k3, some (.builtin n), k5] := by
        obtain ⟨l⟩ := sl
        simp only at hs
        rw [hs]
      subst hsl
      exact ⟨nm, qn, ns, bs, bm, sn, sub, ab, col, dd, k0, k1, k2, k3, k5, ho, ht⟩
    · cases q
  · cases q
section
variable {X : Cx} {pins : List (Addr × Obj)} {σ : L2.St} {H : Hp} {s : Shared} {a C : Addr} {f : Str} {y : V} {u : Value} {Q : Unit → Shared → Prop} {E : Value → Shared → Prop} {A : Around} {bmB : List Value} {newId : String}
theorem ostG (T : XcC X.K C bmB newId) (I : Inv X pins σ H s) (e : H a = some (exo a C none)) (hno : PySem.W.findIn X.K (.ref C) f = some none) (ry : RelV y u)
    (h : ∀ dx s', H dx = none → dx ≠ a → Inv X pins σ (upd (upd H dx (exd dx [(f, y)])) a (exo a C (some dx))) s' → Q () s') : wpAny (model X.prog X.w) A (setAttr (.ref a) f u) Q E s := by
  obtain ⟨nm, q, N, bs, bm, sn, sub, ab, col, dd, k0, k1, k2, k3, k5, hC, hbm⟩ := T.cls
  have hcl : PySem.W.clsIn X.K C = some { name := nm, bases := bs, mro := .ref C :: bm, ns := N, qualname := q, hasDict := true, slotNames := sn, subclasses := sub, abstract := ab, collection := col, hasDel := false } := by
    unfold PySem.W.clsIn
    rw [hC] <;> rfl
  obtain ⟨t1, ho⟩ := exo_at I.hok e
  obtain ⟨hp, g, d, t, os⟩ := s
  refine PySem.W.set_plain I.kIn (ox := { cls := .ref C, dict := none, data := .fields #[.ref t1, .none, .none, .none, .bool false, .none] }) (od := none) ⟨ho, rfl, rfl, trivial⟩ T.sa ?_
  refine PySem.K54X.osaG I.kIn ho hcl (T.osa bm hbm) rfl hno fun h' tk' dx k dn dne hx hn => ?_
  have hnd : H dx = none := I.hok.fresh dn
  have nd : ∀ {b : Addr} {o : Obj}, hp.get? b = some o → b ≠ dx := fun {b o} q => Nat.ne_of_lt (Nat.lt_of_lt_of_le (Heap.lt_size q) dn)
  have na : ∀ {b : Addr}, H b = none → b ≠ a := fun {b} n z => by
    rw [z, e] at n
    cases n
  have kt : ∀ {b : Addr} {o : HO}, H b = some o → exo a C none ≠ o → upd (upd H dx (exd dx [(f, y)])) a (exo a C (some dx)) b = some o := fun {b o} q z => by
    rw [upd_ne (at_ne e q z), upd_ne (ne_of_none q hnd)]
    exact q
  have U : Un X.fs [] H (upd (upd H dx (exd dx [(f, y)])) a (exo a C (some dx))) hp h' := {
    keep := fun b o q n _ _ => k b o (na n) q
    slot := fun b o q n _ _ => ⟨o.slots, k b o (na n) q⟩
    free := fun b o q n _ => by
      rw [upd_ne (na n), upd_ne (nd q)]
      exact n
    there := fun b o q _ => by
      by_cases hb : b = a
      · exact ⟨_, by rw [hb]; exact hx⟩
      · exact ⟨o, k b o hb q⟩
    tups := fun b xs q => kt q exo_tup
    frzs := fun b o v q => kt q exo_frz
    tbls := fun b ps q => ⟨#[], by rw [kt q exo_tbl]; simp⟩ }
  refine h dx _ hnd dne (I.un (t' := tk') U fun b o q => ?_)
  by_cases hb : b = a
  · subst hb
    rw [upd_same] at q
    cases q
    exact exo_ok hx
  · rw [upd_ne hb] at q
    by_cases hd : b = dx
    · subst hd
      rw [upd_same] at q
      cases q
      exact exd_ok hn (relO_put (fs := []) ry fun g => True.intro)
    · rw [upd_ne hd] at q
      refine (I.hok b o q).stay (fun c v hc z => k c v ?_ z) (fun c hc => kt hc exo_own) (fun c xs hc => kt hc exo_tup)
      rcases hc with hc | hc
      · rw [hc]
        exact hb
      · exact at_ne e hc exo_own
end
/-- self.f = e, the first one -/
def tOstG (K : PySem.W.Frag) (bmB : List Value) (newId : String) (f : Str) (to te : TE) : TS := fun D σ H => te σ H fun y H1 => to σ H1 fun x H2 => ∃ a C : Addr, x = .ref a ∧ XcC K C bmB newId ∧ PySem.W.findIn K (.ref C) f = some none ∧
  H2 a = some (exo a C none) ∧ ∀ dx, H2 dx = none → dx ≠ a → D.nx σ (upd (upd H2 dx (exd dx [(f, y)])) a (exo a C (some dx)))
section
variable {X : Cx} {o e : Expr} {es : List Expr} {to te : TE} {ta : TA} {f : Str} {p p' p1 p2 pos : Pos} {bmB : List Value} {newId : String}
theorem ps_ostG (ho : PE X o to) (he : PE X e te) (hs : swapsWith e (some (.Attribute o f p')) pos.line X.env = pure false := by rfl) : PS X (.Assign [.Attribute o f p'] e pos) (tOstG X.K bmB newId f to te) := by
  refine ⟨fun pins s σ H D I h => ?_⟩
  refine plainObj_wpAny_Assign_Attribute (thn (he.run pins s σ H _ I h) fun v s1 ⟨y, H1, I1, r1, q1⟩ => thn (ho.run pins s1 σ H1 _ I1 q1) fun u s2 ⟨x, H2, I2, r2, a, C, ex, T, hno, ea, q⟩ => ?_) hs
  subst ex
  cases r2
  exact ostG T I2 ea hno r1 fun dx s' n ne J => ⟨σ, _, J, q dx n ne⟩
/-- C(e, ..), C's own __init__ keeping sp -/
theorem pmkG {B initId : String} {CX : CXT} {x : Str} {C fI : Addr} {k : Nat} {fd : FuncData} {ps : List Str} {sp : Sp} (FB : ExcBaseFacts B newId initId bmB) (T : XcC X.K C bmB newId) (iC : PySem.W.findIn X.K (.ref C) "__init__" = some (some (.ref fI))) (tI : PySem.W.typeIn X.K (.ref fI) = some (.type "function"))
    (F1 : FnOk X.prog X.w X.K X.mg X.base CX k fI fd ps sp) (hr : Room (k + 1) X.A) (hb : Binds X.K fd ps []) (hx : Passes CX X (fun _ _ _ => False)) (hg : Gl X x) (hm : X.mg x = some (.ref C)) (ha : PA X (e :: es) ta)
    (hdb : (x == ("__debug__" : Str)) = false := by decide) (he : starEach (e :: es) X.env = (false, eval e X.env) :: starEach es X.env := by rfl) (hpl : (backTo pos (starEach es X.env)).any (·.1) = false := by rfl) :
    PMk X (.Call (.Name x p) (e :: es) [] pos) (tMkO C sp [] ta) := by
  intro pins s σ H Q I h
  obtain ⟨nm, q, N, bs, bm, sn, sub, ab, col, dd, k0, k1, k2, k3, k5, hC, hbm⟩ := T.cls
  refine wpAny_Call_Name_kw (ld_glob I hg hm ?_ hdb)
  refine PySem.W.callWith_K (h₀ := X.base) I.ok.mod.kin T.kC (thn (ha.run pos pins s σ H _ I h) fun us s1 ⟨vs, H1, I1, r1, hz, q1⟩ => ⟨I1.kIn, ?_⟩) he hpl
  show wpAny _ _ (call (.ref C) us) _ _ _
  obtain ⟨hp, g, dr, tk, os⟩ := s1
  have hsz : hp.objs.size ≤ hp.objs.size + 1 := Nat.le_succ _
  have hq := q1 (hp.objs.size + 1) (I1.hok.fresh hsz)
  rw [List.append_nil] at hq
  have kk : ∀ b o, hp.get? b = some o → ((hp.push (PySem.W.kdv_tup us)).push (PySem.HandSPX.excO C hp.objs.size)).get? b = some o := fun b o e => Heap.get?_push_of_some _ (Heap.get?_push_of_some _ e)
  have hget : ((hp.push (PySem.W.kdv_tup us)).push (PySem.HandSPX.excO C hp.objs.size)).get? (hp.objs.size + 1) = some (PySem.HandSPX.excO C hp.objs.size) := by heap_get
  have I2 := I1.laid (t' := tk) (a := hp.objs.size + 1) (o := exo (hp.objs.size + 1) C none) (h' := (hp.push (PySem.W.kdv_tup us)).push (PySem.HandSPX.excO C hp.objs.size)) kk hsz (exo_ok hget)
  have r2 : Vals (V.ref (hp.objs.size + 1) :: vs) (Value.ref (hp.objs.size + 1) :: us) := .cons rfl r1
  have hl : (Value.ref (hp.objs.size + 1) :: us ++ []).length = ps.length := by
    have e := r2.length
    rw [F1.len _ _ _ _ hq] at e
    rw [List.append_nil]
    exact e.symm
  have bb := hb _ (Value.ref (hp.objs.size + 1) :: us) I2.kIn hl
  rw [List.append_nil] at bb
  have hus : us.length ≤ sizeLine := by
    rw [← Paired.length r1, sizeLine_eq]
    omega
  refine wpAny_call (PySem.HandSPX.call_own FB (fun Y => PySem.W.excTail_contains Y bm hbm) (I1.kIn _ _ hC) (PySem.W.looks_findIn I1.kIn iC) (fun self => PySem.W.bind_fn I1.kIn self tI) hus
    (codeAny_mono (F1.run _ X.stack _ _ ⟨Value.ref (hp.objs.size + 1) :: us, []⟩ (Value.ref (hp.objs.size + 1) :: us) _ _ (fun _ _ _ => False) (hr.make C us []) (I2.env0.make C us []) bb r2 hq) fun r s' hq' => ?_))
  cases r with
  | error er => exact hx pins σ _ _ er s' I2 hq'
  | ok fl =>
    cases fl with
    | ret u =>
      obtain ⟨v, H2, os2, bare2, un2, hok2, rv, ev, d, fs, ea, ed, hd1, q2⟩ := hq'
      subst ev
      obtain ⟨h2, g2, d2, t2, os'⟩ := s'
      exact ⟨rv, mk_end (raises_own T.exC T.tyC) I1 hsz kk un2 hok2 os2 bare2 ea ed hd1 q2⟩
    | next => exact False.elim hq'
    | brk => exact False.elim hq'
    | cont => exact False.elim hq'
/-- C(), C without an __init__ of its own -/
theorem pmk_own0 {x : Str} {C : Addr} {B initId : String} (FB : ExcBaseFacts B newId initId bmB) (q : PySem.W.excIn X.K C bmB newId = true) (gC : X.mg x = some (.ref C)) (kC : PySem.W.keepIn X.K (.ref C) = true) (r : Raises X (.ref C)) (hg : Gl X x)
    (hdb : (x == ("__debug__" : Str)) = false := by decide) : PMk X (.Call (.Name x p) [] [] pos) (fun _ H Q => Q (.ref C) none H) := by
  intro pins s σ H Q I h
  refine wpAny_Call_Name_kw (ld_glob I hg gC ?_ hdb)
  refine PySem.W.callWith_K0 I.kIn kC ?_
  show wpAny _ _ (call (.ref C) []) _ _ _
  obtain ⟨bm, N, nm, qn, bs, hdct, sn, sub, ab, col, dd, k0, k1, k2, k3, k5, mN, hC, hN, hni, T⟩ := exc_obj I.kIn q
  refine wpAny_call_exc_subT FB T hC hN hni (fun h' e hm => ?_) (Nat.zero_le _)
  exact mk_of I hm r h (I.hok.gone hm.new)
end
end K54
/-! K5 -/
namespace K54
open PySem PySem.Spec PyProof.Rows L2
/-! ### try: body / except (A, B, C, D): suite, where every exception of the body is one of them -/
theorem flyingZ_push {B : Heap} {l : List Env} {e : Addr} {Z : Obj → Prop} {h : Heap} (f : PySem.HandSPX.FlyingZ B l e Z h) (o : Obj) : PySem.HandSPX.FlyingZ B l e Z (h.push o) := by
  obtain ⟨k1, k2, k3, oe, vs, T, oT, ts, e1, e2, e3, e4, e5, e6, e7, e8, e9⟩ := f
  have up : ∀ b u, h.get? b = some u → (h.push o).get? b = some u := fun b u q => Heap.get?_push_of_some _ q
  exact ⟨fun b u q => up b u (k1 b u q), k2, Heap.FunFrames.of_keeps (fun b u q _ => ⟨u, up b u q, rfl⟩) k3, oe, vs, T, oT, ts, up _ _ e1, e2, e3, e4, e5, e6, up _ _ e7, e8, e9⟩
/-- what is wished of an exception of the body: it is one of the four, the suite does what is wanted -/
def wTup (K : PySem.W.Frag) (cs : List Value) (ts : TS) (D : Ends) : WX := fun cls _ σ H => PySem.W.exmAny K cls cs = some true ∧ ts D σ H
section
variable {X : Cx} {body : List Stmt} {x1 x2 x3 x4 : Str} {q1 q2 q3 q4 tpos hpos pos : Pos} {kk : Nat} {c1 c2 c3 c4 : Value} {b₀ : Stmt} {suite : List Stmt} {tb : WX → TS} {ts : TS}
theorem ps_try_tup (hs : X.stack = X.env :: X.outer) (hf : X.env.frame = some X.env.locals) (n1 : Gl X x1 ∧ X.mg x1 = some c1) (n2 : Gl X x2 ∧ X.mg x2 = some c2) (n3 : Gl X x3 ∧ X.mg x3 = some c3) (n4 : Gl X x4 ∧ X.mg x4 = some c4)
    (hb : ∀ (W : WX) (pn : List (Addr × Obj)) (xe : Value → Shared → Prop), Takes (X.tr pn xe) W → PassesOwn (model X.prog X.w) X.A X.env xe → PSs (X.tr pn xe) body (tb W))
    (hsu : ∀ (a : Addr) (pn : List (Addr × Obj)), PSs (X.suite a pn) (b₀ :: suite) ts)
    (d1 : (x1 == ("__debug__" : Str)) = false := by decide) (d2 : (x2 == ("__debug__" : Str)) = false := by decide) (d3 : (x3 == ("__debug__" : Str)) = false := by decide) (d4 : (x4 == ("__debug__" : Str)) = false := by decide) :
    PS X (.Try body [.ExceptHandler (some (.Tuple [.Name x1 q1, .Name x2 q2, .Name x3 q3, .Name x4 q4] kk tpos)) none (b₀ :: suite) hpos] [] [] pos) (fun D σ H => tb (wTup X.K [c1, c2, c3, c4] ts D) D σ H) := by
  refine ⟨fun pins s σ H D I h => ?_⟩
  have ok := I.ok
  have hfr : X.A.frames = some (X.env :: X.outer) := by rw [ok.frames, hs]
  refine wpAny_Try_except ?_
  refine wpAny_mono ((hb (wTup X.K [c1, c2, c3, c4] ts D) (X.pn ++ pins) (fun e s₁ => wpAny (model X.prog X.w) X.A (noteFrame e X.env) (fun _ s₂ => wpAny (model X.prog X.w) X.A (setFlight e none) (fun _ s₃ =>
    wpAny (model X.prog X.w) X.A (handleBy e X.env [.ExceptHandler (some (.Tuple [.Name x1 q1, .Name x2 q2, .Name x3 q3, .Name x4 q4] kk tpos)) none (b₀ :: suite) hpos]) (SP X pins D) X.xe s₃) X.xe s₂) X.xe s₁) (fun u s' xx => ?_) PassesOwn.looking).run [] s σ H D (I.toTry _) h) (fun f s1 hsp => ?_) (fun e s1 he => he)
  · obtain ⟨a, B, sI, pins', σ', H', cls, d, rfl, J', nb, up, sky, na, os, ag, hx, w⟩ := xx
    have J : Inv X pins σ' H' sI := J'.ofTry ok
    have sky' : Sky B (X.env :: X.outer) a (Zc cls d) X.env.locals s'.heap := by
      rw [← hs]
      exact sky
    show wpAny (model X.prog X.w) X.A (noteFrame (.ref a) X.env) _ _ _
    refine Sky.land Zc.steady hfr hf sky' fun h3 fl3 up3 => ?_
    have up13 := up.trans up3
    have J3 : Inv X pins σ' H' { s' with heap := h3 } := J.landed nb fl3.1 up13 os ag
    obtain ⟨oe3, vs3, he3, hz3, hd3⟩ := fl3.there
    have nfr : a ∉ frs (X.env :: X.outer) := fun hm => by
      obtain ⟨_, o', e', hnf⟩ := fl3.2.2.1.mem hm
      rw [he3] at e'
      cases e'
      exact hnf _ hd3
    have nL : a ≠ X.env.locals := fun z => nfr (List.mem_filterMap.mpr ⟨X.env, List.mem_cons_self, by rw [hf, z]⟩)
    have nF : a ∉ X.fs := fun hm => by
      obtain ⟨e, he, q⟩ := List.mem_filterMap.mp hm
      exact nfr (List.mem_filterMap.mpr ⟨e, List.mem_cons_of_mem _ he, q⟩)
    have S3 := J3.suite he3 hd3 na nL nF
    refine wpAny_handleBy_cons (codeAny_handlers_test ?_) (by intro q; cases q)
    refine wpAny_Tuple_spliced (Calls.spliced_cons (ld_glob S3 n1.1 n1.2 ?_ d1))
    refine Calls.spliced_cons (ld_glob S3 n2.1 n2.2 ?_ d2)
    refine Calls.spliced_cons (ld_glob S3 n3.1 n3.2 ?_ d3)
    refine Calls.spliced_cons (ld_glob S3 n4.1 n4.2 ?_ d4)
    refine Calls.spliced_nil ⟨by show 4 ≤ sizeLine; decide, ?_⟩
    have ht : (h3.push { cls := .type "tuple", data := .seq [c1, c2, c3, c4].toArray }).get? h3.objs.size = some { cls := .type "tuple", data := .seq [c1, c2, c3, c4].toArray } := Heap.get?_push_size _ rfl
    have fl4 := flyingZ_push fl3 { cls := .type "tuple", data := .seq [c1, c2, c3, c4].toArray }
    have upP : h3.UpToSlots (h3.push { cls := .type "tuple", data := .seq [c1, c2, c3, c4].toArray }) := Heap.UpToSlots.of_keeps fun b o q => Heap.get?_push_of_some _ q
    have LT : PySem.W.Looks (model X.prog X.w) (h3.push { cls := .type "tuple", data := .seq [c1, c2, c3, c4].toArray }) (typeOf (.ref a)) cls := fun A Q E s k q => wpAny_typeOf_ref (k _ _ (Heap.get?_push_of_some _ he3)) (by rw [hz3.1]; exact q)
    have KX : X.K.In (h3.push { cls := .type "tuple", data := .seq [c1, c2, c3, c4].toArray }) := J3.kIn.keeps fun b o q => Heap.get?_push_of_some _ q
    have LM := PySem.W.exm_tup4 (M := model X.prog X.w) KX LT ht hx
    refine LM.here ?_
    refine codeAny_handlers_suite ?_
    refine HandSPX.lands_againZ fl4 fun h5 fl5 up5 => ?_
    have J5 : Inv X pins σ' H' { s' with heap := h5 } := J.landed nb fl5.1 ((up13.trans upP).trans up5) os ag
    obtain ⟨oe5, vs5, he5, hz5, hd5⟩ := fl5.there
    have S5 := J5.suite he5 hd5 na nL nF
    refine wpAny_mono ((hsu a ((a, oe5) :: (X.pn ++ pins))).run [] _ _ H' _ S5 w) (fun f s6 hsp => ?_) (fun _ _ z => False.elim z)
    cases f with
    | next =>
      obtain ⟨σ6, H6, S6, q6⟩ := hsp
      exact ⟨_, _, S6.unsuite ok, q6⟩
    | brk =>
      obtain ⟨σ6, H6, S6, q6⟩ := hsp
      exact ⟨_, _, S6.unsuite ok, q6⟩
    | cont =>
      obtain ⟨σ6, H6, S6, q6⟩ := hsp
      exact ⟨_, _, S6.unsuite ok, q6⟩
    | ret u =>
      obtain ⟨v6, σ6, H6, S6, r6, q6⟩ := hsp
      exact ⟨_, _, _, S6.unsuite ok, r6, q6⟩
  · cases f with
    | next =>
      obtain ⟨σ', H', J', q⟩ := hsp
      exact wpAny_execs_nil ⟨σ', H', J'.ofTry ok, q⟩
    | brk =>
      obtain ⟨σ', H', J', q⟩ := hsp
      exact ⟨σ', H', J'.ofTry ok, q⟩
    | cont =>
      obtain ⟨σ', H', J', q⟩ := hsp
      exact ⟨σ', H', J'.ofTry ok, q⟩
    | ret u =>
      obtain ⟨v, σ', H', J', r, q⟩ := hsp
      exact ⟨v, σ', H', J'.ofTry ok, r, q⟩
end
end K54
/-! K6 -/
namespace K54
open PySem PySem.Spec PyProof.Rows L2 LamX NdefX
/-! ### closures that a def returns -/
/-- the words of a lambda: qualified name, parameters, body, scope, the cells that it captured, its code object -/
structure LF where
  qual : Str
  params : Arguments
  body : Expr
  scope : Scope
  cl : List (Str × Addr)
  c : Addr
abbrev LF.fd (F : LF) (pm ctv : Value) : FuncData := PySem.W.kla_fn "<lambda>" F.qual F.params F.body F.scope F.cl pm (.ref F.c) ctv
/-- the object at f is the lambda F -/
def LamO (f : Addr) (F : LF) : HO := .ext fun h => ∃ pm ctv : Value, h.get? f = some ({ cls := .type "function", data := .func (F.fd pm ctv) } : Obj)
/-- the cell at c holds u -/
def CellO (c : Addr) (u : Value) : HO := .ext fun h => h.IsCell c (some u)
theorem lamO_at {P : Program} {w : World} {H : Hp} {h : Heap} {f : Addr} {F : LF} (hok : HOk P w H h) (e : H f = some (LamO f F)) : ∃ pm ctv : Value, h.get? f = some ({ cls := .type "function", data := .func (F.fd pm ctv) } : Obj) := (hok f _ e).1
theorem cellO_at {P : Program} {w : World} {H : Hp} {h : Heap} {c : Addr} {u : Value} (hok : HOk P w H h) (e : H c = some (CellO c u)) : h.IsCell c (some u) := (hok c _ e).1
theorem cellO_ok {P : Program} {w : World} {H : Hp} {h : Heap} {c : Addr} {u : Value} (z : h.IsCell c (some u)) : ObjOk P w H h c (CellO c u) := by
  obtain ⟨o, ho, hd⟩ := z
  exact ⟨⟨o, ho, hd⟩, ⟨o, ho⟩, fun h1 h2 ⟨o, e, d⟩ st => ⟨o, st _ e, d⟩⟩
theorem ext_ne {φ : Heap → Prop} {o : HO} (h : ∀ ψ, o ≠ .ext ψ) : HO.ext φ ≠ o := fun z => h φ z.symm
section
variable {X : Cx} {pins : List (Addr × Obj)} {σ : L2.St} {H : Hp} {s : Shared}
theorem inv_lam {F : LF} {t' : Nat} {pm ctv : Value} (I : Inv X pins σ H s) :
    Inv X pins σ (upd H s.heap.objs.size (LamO s.heap.objs.size F)) { s with heap := s.heap.push ({ cls := .type "function", data := .func (F.fd pm ctv) } : Obj), toks := t' } := by
  refine I.laid (a := s.heap.objs.size) (fun b u e => Heap.get?_push_of_some _ e) (Nat.le_refl _) ?_
  have e : (s.heap.push ({ cls := .type "function", data := .func (F.fd pm ctv) } : Obj)).get? s.heap.objs.size = some ({ cls := .type "function", data := .func (F.fd pm ctv) } : Obj) := Heap.get?_push_size _ rfl
  exact ⟨⟨pm, ctv, e⟩, ⟨_, e⟩, fun h1 h2 ⟨p, t, z⟩ st => ⟨p, t, st _ z⟩⟩
/-- the lambda is made: its code object is new, or found in the table -/
theorem lam_mk {T : List (Addr × Str)} {c P : Addr} {params : Arguments} {body : Expr} {scope : Scope} {pos : Pos} {E : Value → Shared → Prop} {Q : Value → Shared → Prop} (I : Inv X pins σ H s) (TB : TabB X.base X.mg c P) (hcode : X.env.code = .ref c)
    (hm : (P, X.env.qual ++ "<lambda>") ∈ T) (hu : ∀ p ∈ T, p.1 = P → p.2 = X.env.qual ++ "<lambda>") (hT : Tabs T H) (hdef : defaultsOf params X.env = ([], [])) (hfree : ∀ y ∈ scope.names, y.2 = .free → ∃ c, X.env.cells.lookup y.1 = some c)
    (h : ∀ (f c' : Addr) (H1 : Hp) (s' : Shared), Inv X pins σ H1 s' → ExtN H H1 → (∀ b, H1 b = Option.none → H b = Option.none) → Tabs T H1 → H f = none → H1 f = some (LamO f ⟨X.env.qual ++ "<lambda>", params, body, scope, cloFrom X.env.cells scope.names [], c'⟩) → H1 c' = some (CodeO c' (X.env.qual ++ "<lambda>")) → Q (.ref f) s') :
    wpAny (model X.prog X.w) X.A (eval (.Lambda params body scope pos) X.env) Q E s := by
  obtain ⟨ps, hP, ht, ha⟩ := hT _ hm
  have bP : s.heap.BuiltinsAt X.mg P := TB.bm.keeps I.bk
  have gP : s.heap.get? P = some { cls := .none, data := .fields ps } := I.hok P _ hP
  refine PySem.W.kla_eval hdef ?_
  cases hc : codeAmong pos ps.toList with
  | none =>
    refine PySem.W.kla_makeFunction (mg := X.mg) (c := c) (P := P) (ps := ps) (closure_ok hfree) I.ok.glob (I.mod.glob.keeps I.bk) hcode (TB.code.keeps I.bk) gP ht hc TB.gP bP fun c' ctv h' tk hx hge hlt hrec htb => ?_
    obtain ⟨c2, oc, vs, t, e2, hoc, hd, hv⟩ := hrec
    cases e2
    have nC : H c' = none := I.hok.fresh hge
    have I1 := inv_table (t' := tk) (more := #[rawInt pos.line, rawInt pos.col, .ref c']) (h' := h') I hP (fun b o hb e => hx b o hb e) htb hge ⟨oc, vs, t, hoc, hd, hv⟩
    have nPc : P ≠ c' := ne_of_none hP nC
    have hE : ExtN H (upd (upd H P (.tbl (ps ++ #[rawInt pos.line, rawInt pos.col, .ref c']))) c' (CodeO c' (X.env.qual ++ "<lambda>"))) := fun b o e n => by
      rw [upd_ne (ne_of_none e nC), upd_ne (fun z => n ps (Option.some.inj (e.symm.trans (by rw [z]; exact hP))))]
      exact e
    have eL : (ps ++ #[rawInt pos.line, rawInt pos.col, .ref c']).toList = ps.toList ++ [rawInt pos.line, rawInt pos.col, .ref c'] := by simp
    have T1 : Tabs T (upd (upd H P (.tbl (ps ++ #[rawInt pos.line, rawInt pos.col, .ref c']))) c' (CodeO c' (X.env.qual ++ "<lambda>"))) := fun p hp => by
      by_cases hb : p.1 = P
      · rw [hu p hp hb, hb]
        refine ⟨_, (upd_ne nPc).trans upd_same, by rw [eL]; exact PySem.TriplesOk_snoc _ _ _ _ ht, fun p' cv hcv => ?_⟩
        rw [eL] at hcv
        rcases among_app _ ht hcv with z | z
        · obtain ⟨c0, e1, e2⟩ := ha p' cv z
          exact ⟨c0, e1, hE _ _ e2 codeO_ne⟩
        · exact ⟨c', z, upd_same⟩
      · obtain ⟨ps', a1, a2, a3⟩ := hT p hp
        refine ⟨ps', (upd_ne (ne_of_none a1 nC)).trans ((upd_ne hb).trans a1), a2, fun p' cv hcv => ?_⟩
        obtain ⟨c0, e1, e2⟩ := a3 p' cv hcv
        exact ⟨c0, e1, hE _ _ e2 codeO_ne⟩
    have nF := I1.hok.fresh (Nat.le_refl _)
    have I2 := inv_lam (F := ⟨X.env.qual ++ "<lambda>", params, body, scope, cloFrom X.env.cells scope.names [], c'⟩) (t' := tk) (pm := (X.mg "__name__").getD .none) (ctv := ctv) I1
    refine h h'.objs.size c' _ _ I2 (fun b o e n => ?_) (fun b e => upd_none (upd_none (upd_none e))) (T1.ext fun b o e => ?_) (I.hok.fresh (Nat.le_trans hge (Nat.le_of_lt hlt))) upd_same ?_
    · have e1 := hE b o e n
      exact (upd_ne (ne_of_none e1 nF)).trans e1
    · exact (upd_ne (ne_of_none e nF)).trans e
    · exact (upd_ne (Nat.ne_of_lt hlt)).trans upd_same
  | some cv =>
    obtain ⟨c', e, hco⟩ := ha pos cv hc
    subst e
    refine PySem.W.kla_makeFunctionHit (mg := X.mg) (c := c) (P := P) (ps := ps) (closure_ok hfree) I.ok.glob (I.mod.glob.keeps I.bk) hcode (TB.code.keeps I.bk) gP ht hc bP fun ctv h' tk hx hsz => ?_
    have I1 : Inv X pins σ H { s with heap := h', toks := tk } := I.kept hx
    have nF : H h'.objs.size = none := I1.hok.fresh (Nat.le_refl _)
    have I2 := inv_lam (F := ⟨X.env.qual ++ "<lambda>", params, body, scope, cloFrom X.env.cells scope.names [], c'⟩) (t' := tk) (pm := (X.mg "__name__").getD .none) (ctv := ctv) I1
    exact h h'.objs.size c' _ _ I2 (fun b o e n => (upd_ne (ne_of_none e nF)).trans e) (fun b e => upd_none e) (hT.ext fun b o e => (upd_ne (ne_of_none e nF)).trans e) nF upd_same ((upd_ne (ne_of_none hco nF)).trans hco)
/-- an untracked object is tracked from now on -/
theorem hok_track {P : Program} {w : World} {h : Heap} {a : Addr} {o : HO} (x : HOk P w H h) (n : H a = none) (new : ∀ H', ObjOk P w H' h a o) : HOk P w (upd H a o) h := fun b u e => by
  by_cases hb : b = a
  · subst hb
    rw [upd_same] at e
    cases e
    exact new _
  · rw [upd_ne hb] at e
    exact (x b u e).stay (fun _ _ _ q => q) (fun c q => (upd_ne (ne_of_none q n)).trans q) (fun c xs q => (upd_ne (ne_of_none q n)).trans q)
/-- what stands at a is tracked no more -/
theorem Inv.forget {a : Addr} {φ : Heap → Prop} (I : Inv X pins σ H s) (e : H a = some (.ext φ)) : Inv X pins σ (del H a) s := by
  have kt : ∀ {b : Addr} {o : HO}, H b = some o → (∀ ψ, o ≠ .ext ψ) → del H a b = some o := fun {b o} q z => by
    refine (del_ne fun y => ?_).trans q
    rw [y, e] at q
    exact z φ (Option.some.inj q).symm
  have dn : ∀ {b : Addr}, H b = none → del H a b = none := fun {b} n => by
    unfold del
    split
    · rfl
    · exact n
  refine ⟨I.ok, I.os, I.bare, ⟨fun b o q n hb hx => I.base.keep b o q n hb hx, fun b o q n hb hx => I.base.slot b o q n hb hx, fun b o q n hx => dn (I.base.free b o q n hx), I.base.there, fun b xs q => kt (I.base.tups b xs q) (fun ψ z => nomatch z), fun b o u q => kt (I.base.frzs b o u q) (fun ψ z => nomatch z), fun b ps q => ?_⟩,
    I.loc, I.cell, dn I.free, fun x c q => dn (I.freeC x c q), fun p hp => ?_, fun b u q => ?_, I.len⟩
  · obtain ⟨more, z⟩ := I.base.tbls b ps q
    exact ⟨more, kt z (fun ψ z => nomatch z)⟩
  · obtain ⟨h1, h2, h3⟩ := I.pin p hp
    exact ⟨h1, dn h2, h3⟩
  · by_cases hb : b = a
    · rw [hb, del_same] at q
      cases q
    · rw [del_ne hb] at q
      exact (I.hok b u q).stay (fun _ _ _ z => z) (fun c z => kt z (fun ψ y => nomatch y)) (fun c xs z => kt z (fun ψ y => nomatch y))
end
/-- a lambda's reading: what is new: the function object, its code object, perhaps a row of the table -/
def tLamE (T : List (Addr × Str)) (mk : Addr → LF) : TE := fun _ H Q => Tabs T H ∧ ∀ f c' H1, ExtN H H1 → (∀ b, H1 b = Option.none → H b = Option.none) → Tabs T H1 → H f = none → H1 f = some (LamO f (mk c')) → H1 c' = some (CodeO c' (mk c').qual) → Q (.ref f) H1
theorem pe_lam {X : Cx} {T : List (Addr × Str)} {c P : Addr} {params : Arguments} {body : Expr} {scope : Scope} {pos : Pos} (TB : TabB X.base X.mg c P) (hcode : X.env.code = .ref c) (hm : (P, X.env.qual ++ "<lambda>") ∈ T) (hu : ∀ p ∈ T, p.1 = P → p.2 = X.env.qual ++ "<lambda>")
    (L : LamS X.env.scope scope) (hdef : defaultsOf params X.env = ([], [])) : PE X (.Lambda params body scope pos) (tLamE T fun c' => ⟨X.env.qual ++ "<lambda>", params, body, scope, cloFrom X.env.cells scope.names [], c'⟩) := by
  refine ⟨fun pins s σ H Q I h => ?_⟩
  obtain ⟨hT, h⟩ := h
  exact lam_mk I TB hcode hm hu hT hdef (L.has I.ok) fun f c' H1 s' I1 eN nn T1 f0 f1 c1 => ⟨.ref f, H1, I1, rfl, h f c' H1 eN nn T1 f0 f1 c1⟩
/-! ### a block whose returns tell the slots too -/
def SPr (X : Cx) (pins : List (Addr × Obj)) (Dn : L2.St → Hp → Prop) (Dr : V → L2.St → Hp → Prop) (f : Flow) (s' : Shared) : Prop :=
  match f with
  | .next => ∃ σ' H', Inv X pins σ' H' s' ∧ Dn σ' H'
  | .ret u => ∃ v σ' H', Inv X pins σ' H' s' ∧ L2.RelV v u ∧ Dr v σ' H'
  | _ => False
abbrev TR := (L2.St → Hp → Prop) → (V → L2.St → Hp → Prop) → L2.St → Hp → Prop
structure PRs (X : Cx) (sts : List Stmt) (t : TR) : Prop where
  run : ∀ (pins : List (Addr × Obj)) (s : Shared) (σ : L2.St) (H : Hp) (Dn : L2.St → Hp → Prop) (Dr : V → L2.St → Hp → Prop), Inv X pins σ H s → t Dn Dr σ H → wpAny (model X.prog X.w) X.A (execs sts X.env) (SPr X pins Dn Dr) X.xe s
section
variable {X : Cx} {st : Stmt} {rest : List Stmt} {e : Expr} {te : TE} {tc : TT} {c : Expr} {u : TR} {t : TS} {p pos : Pos}
theorem prs_ret (he : PE X e te) : PRs X [.Return (some e) p] (fun _ Dr σ H => te σ H fun v H1 => Dr v σ H1) := by
  refine ⟨fun pins s σ H Dn Dr I h => ?_⟩
  refine wpAny_execs_cons (wpAny_Return_some (thn (he.run pins s σ H _ I h) fun v s1 ⟨x, H1, I1, r1, q1⟩ => ?_))
  exact ⟨x, σ, H1, I1, r1, q1⟩
theorem prs_st (h1 : PS X st t) (h2 : PRs X rest u) : PRs X (st :: rest) (fun Dn Dr σ H => t { nx := u Dn Dr, rt := fun _ _ => False } σ H) := by
  refine ⟨fun pins s σ H Dn Dr I h => ?_⟩
  refine wpAny_execs_cons (thn (h1.run pins s σ H _ I h) fun f s1 q => ?_)
  cases f with
  | next =>
    obtain ⟨σ', H', I', q⟩ := q
    exact h2.run pins s1 σ' H' Dn Dr I' q
  | ret v =>
    obtain ⟨_, _, _, _, _, q⟩ := q
    exact q.elim
  | brk =>
    obtain ⟨_, _, _, q⟩ := q
    exact q.elim
  | cont =>
    obtain ⟨_, _, _, q⟩ := q
    exact q.elim
theorem prs_if (hc : PT X c tc) (he : PE X e te) (h2 : PRs X rest u) : PRs X (.If c [.Return (some e) p] [] pos :: rest) (fun Dn Dr σ H => tc σ H fun b H1 => if b = true then te σ H1 (fun v H2 => Dr v σ H2) else u Dn Dr σ H1) := by
  refine ⟨fun pins s σ H Dn Dr I h => ?_⟩
  refine wpAny_execs_cons (wpAny_If (thn (hc.run pins s σ H _ I h) fun b s1 ⟨H1, I1, q1⟩ => ?_))
  cases b with
  | true =>
    refine thn ((prs_ret (p := p) he).run pins s1 σ H1 (fun _ _ => False) Dr I1 q1) fun f s2 q => ?_
    cases f with
    | next =>
      obtain ⟨_, _, _, q⟩ := q
      exact q.elim
    | ret v => exact q
    | brk => exact q
    | cont => exact q
  | false => exact wpAny_execs_nil (h2.run pins s1 σ H1 Dn Dr I1 q1)
end
end K54
/-! K7 -/
namespace K54
open PySem PySem.Spec PyProof.Rows L2 LamX NdefX
/-! ### defs that make lambdas: the code object told -/
section
variable {P : Program} {w : World} {K : PySem.W.Frag} {mg : Str → Option Value} {base : Heap} {x qual : Str} {params : Arguments} {body : List Stmt} {scope : Scope} {f : Addr} {fd : FuncData} {CX : CXT}
theorem code_told {p : He.Defn} {oc : Value} {od : Option Addr} {osl : Array (Option Value)} {dV kV doc pm cdv ct : Value} {an : Option Addr} (hf : He.fAd K p = f) (lk : K.lookup f = some ⟨oc, od, .func (PySem.W.fnOf x qual params body scope dV kV doc pm an cdv ct), osl⟩) (hcd : PySem.W.codeIn K cdv qual = true) : cdv = .ref (He.codeOf K p) := by
  obtain ⟨c, rfl⟩ := He.codeIn_ref hcd
  rw [← hf] at lk
  rw [He.codeOf_eq lk rfl]
theorem ok_code {N ps : List Str} {k : Nat} {sp : Sp} {p : He.Defn} (F : FunD K x qual params body scope [] [] f fd) (hf : He.fAd K p = f) (S : FnScope N ps scope) (len : ∀ vs H Q E, sp vs H Q E → vs.length = ps.length)
    (hbody : ∀ (A : Around) (outer : List Env) (s : Shared) (H : Hp) (vs : List V) (Q : VK) (E : XK), Room k (A.deeper (envOfC qual scope s.heap.objs.size f (.ref (He.codeOf K p)))) → sp vs H Q E →
      ∃ t, PSs (cxOf CX P w K mg base N qual scope f (.ref (He.codeOf K p)) A outer s H E) body t ∧ t { nx := fun _ H' => Q .non H', rt := Q } (L2.start N vs) H) : FnOk P w K mg base CX (k + 1) f fd ps sp := by
  obtain ⟨oc, od, dV, kV, doc, pm, an, cdv, ct, osl, rfl, lk, hcd, _, _⟩ := F.ex
  obtain rfl := code_told hf lk hcd
  exact fn_of lk hcd S len fun A outer s H vs Q E hr hsp => hbody A outer s H vs Q E hr hsp
/-- a def two of whose names are cells that hold objects at every return: behind it these cells are tracked -/
theorem ok_cells {N ps : List Str} {k : Nat} {sp : Sp} {p : He.Defn} {i1 i2 : Nat} {x1 x2 : Str} (F : FunD K x qual params body scope [] [] f fd) (hf : He.fAd K p = f) (S : FnScope N ps scope) (hn1 : N[i1]? = some x1) (hn2 : N[i2]? = some x2)
    (k1 : scope.names.lookup x1 = some .cell) (k2 : scope.names.lookup x2 = some .cell) (h12 : x1 ≠ x2) (len : ∀ vs H Q E, sp vs H Q E → vs.length = ps.length)
    (hbody : ∀ (A : Around) (outer : List Env) (s : Shared) (H : Hp) (vs : List V) (Q : VK) (E : XK) (c1 c2 : Addr), Room k (A.deeper (envOfC qual scope s.heap.objs.size f (.ref (He.codeOf K p)))) → sp vs H Q E →
      (envOfC qual scope s.heap.objs.size f (.ref (He.codeOf K p))).cells.lookup x1 = some c1 → (envOfC qual scope s.heap.objs.size f (.ref (He.codeOf K p))).cells.lookup x2 = some c2 →
      ∃ t, PRs (cxOf CX P w K mg base N qual scope f (.ref (He.codeOf K p)) A outer s H E) body t ∧ t (fun _ _ => False) (fun v σ' H' => ∃ a1 a2 : Addr, σ'[i1]? = some (some (.ref a1)) ∧ σ'[i2]? = some (some (.ref a2)) ∧
        (H' c1 = none → H' c2 = none → c1 ≠ c2 → Q v (upd (upd H' c1 (CellO c1 (.ref a1))) c2 (CellO c2 (.ref a2))))) (L2.start N vs) H) : FnOk P w K mg base CX (k + 1) f fd ps sp := by
  obtain ⟨oc, od, dV, kV, doc, pm, an, cdv, ct, osl, rfl, lk, hcd, _, _⟩ := F.ex
  obtain rfl := code_told hf lk hcd
  refine ⟨len, fun A outer s H args us vs Q E hr e0 hb r hsp => ?_⟩
  have hl := len _ _ _ _ hsp
  have KX : K.In s.heap := e0.mod.kin.keeps fun b o e => (e0.bs b o e).1
  have lim : s.heap.NoLimit := e0.mod.nolimit.keeps fun b o e => (e0.bs b o e).1
  have hkind : ∀ y ∈ ps.zip us, scope.names.lookup y.1 = some .local ∨ (scope.names.lookup y.1 = some .cell ∧ ((cellsFrom (s.heap.objs.size + 1) scope.names []).lookup y.1).isSome = true) := fun ⟨n, v⟩ hy => by
    rcases S.par n (List.of_mem_zip hy).1 with q | q
    · exact .inl q
    · exact .inr ⟨q, PySem.W.cellsFrom_some _ _ _ (.inl q)⟩
  refine codeAny_call_function hr.depth (KX _ _ lk) rfl S.co S.gen rfl (PySem.W.codeRec_of KX hcd) (hb _ _ _ _ ?_)
  refine wpAny_newFunctionEnv_cells S.kind hkind fun env he s1 x => ?_
  subst he
  refine ⟨lim.keeps x.toInCall.keep, codeAny_func ?_⟩
  obtain ⟨c1, hc1⟩ := cell_has (n := s.heap.objs.size + 1) k1
  obtain ⟨c2, hc2⟩ := cell_has (n := s.heap.objs.size + 1) k2
  obtain ⟨t, ht, hq⟩ := hbody A outer s H vs Q E c1 c2 (hr.deeper _) hsp hc1 hc2
  have I : Inv (cxOf CX P w K mg base N qual scope f (.ref (He.codeOf K p)) A outer s H E) [] (L2.start N vs) H s1 := inv_start S hr.hd e0 hl r x
  refine wpAny_mono (ht.run [] s1 (L2.start N vs) H _ _ I hq) (fun fl s' hs => ?_) fun e s' hs => hs
  cases fl with
  | next =>
    obtain ⟨_, _, _, q⟩ := hs
    exact q.elim
  | brk => exact False.elim hs
  | cont => exact False.elim hs
  | ret u =>
    obtain ⟨v, σ', H', J, rv, a1, a2, s1', s2', q⟩ := hs
    have n1 : H' c1 = none := J.freeC x1 c1 hc1
    have n2 : H' c2 = none := J.freeC x2 c2 hc2
    have h12' : c1 ≠ c2 := fun z => h12 (J.ok.inj x1 x2 c1 hc1 (by rw [z]; exact hc2))
    have g1 : s.heap.objs.size ≤ c1 := J.ok.cab x1 c1 rfl hc1
    have g2 : s.heap.objs.size ≤ c2 := J.ok.cab x2 c2 rfl hc2
    obtain ⟨m, hn, hlk⟩ := J.loc
    have cellOf : ∀ {i : Nat} {y : Str} {c a : Addr}, N[i]? = some y → scope.names.lookup y = some .cell → (envOfC qual scope s.heap.objs.size f (.ref (He.codeOf K p))).cells.lookup y = some c → σ'[i]? = some (some (.ref a)) → s'.heap.IsCell c (some (.ref a)) := fun {i y c a} e1 e2 e3 e4 => by
      obtain ⟨z, rz, lz⟩ := hlk i y (.ref a) e1 e4 (.inr (.inl e2))
      cases rz
      rcases lz with ⟨q1, _⟩ | ⟨_, c', q1, q2⟩
      · have q3 : scope.names.lookup y = some .local := q1
        rw [e2] at q3
        cases q3
      · have q3 : some c = some c' := e3.symm.trans q1
        cases q3
        exact q2
    have ic1 := cellOf hn1 k1 hc1 s1'
    have ic2 := cellOf hn2 k2 hc2 s2'
    have ok1 : HOk P w (upd H' c1 (CellO c1 (.ref a1))) s'.heap := hok_track J.hok n1 fun _ => cellO_ok ic1
    have n2' : upd H' c1 (CellO c1 (.ref a1)) c2 = none := by rw [upd_ne (Ne.symm h12')]; exact n2
    have ok2 : HOk P w (upd (upd H' c1 (CellO c1 (.ref a1))) c2 (CellO c2 (.ref a2))) s'.heap := hok_track ok1 n2' fun _ => cellO_ok ic2
    have kt : ∀ {b : Addr} {o : HO}, H' b = some o → upd (upd H' c1 (CellO c1 (.ref a1))) c2 (CellO c2 (.ref a2)) b = some o := fun {b o} e => by
      rw [upd_ne (ne_of_none e n2), upd_ne (ne_of_none e n1)]
      exact e
    have U := J.base
    refine ⟨v, _, J.os, J.bare, ⟨U.keep, U.slot, fun b o e n hx => ?_, U.there, fun b xs e => kt (U.tups b xs e), fun b o z e => kt (U.frzs b o z e), fun b qs e => ?_⟩, ok2, rv, q n1 n2 h12'⟩
    · have lt : b < s.heap.objs.size := Heap.lt_size e
      rw [upd_ne (Nat.ne_of_lt (Nat.lt_of_lt_of_le lt g2)), upd_ne (Nat.ne_of_lt (Nat.lt_of_lt_of_le lt g1))]
      exact U.free b o e n hx
    · obtain ⟨more, z⟩ := U.tbls b qs e
      exact ⟨more, kt z⟩
end
/-! ### a lambda's call -/
def LF.nf (F : LF) : NF := ⟨"<lambda>", F.qual, F.params, [], F.scope, F.cl, F.c⟩
structure LOk (P : Program) (w : World) (K : PySem.W.Frag) (mg : Str → Option Value) (base : Heap) (CX : CXT) (k : Nat) (F : LF) (fr : List Str) (sp : Sp) : Prop where
  run : ∀ (A : Around) (outer : List Env) (s : Shared) (H : Hp) (f : Addr) (ws : List V) (Q : VK) (E : XK), Room k A → Env0 P w K mg base A outer s H → H f = some (LamO f F) → H F.c = some (CodeO F.c F.qual) →
    CellsAt F.cl fr (ws.map some) s.heap H → sp ws H Q E → codeAny (model P w) A (.call (.ref f) ⟨[], []⟩) (CR CX outer P w H s Q E) s
theorem lok_of {CX : CXT} {P : Program} {w : World} {K : PySem.W.Frag} {mg : Str → Option Value} {base : Heap} {fr : List Str} {F : LF} {k : Nat} {sp : Sp} (S : NScope fr [] fr F.scope) (hb : ∀ pm ctv : Value, bindArgs (F.fd pm ctv) ⟨[], []⟩ = pure [])
    (hbody : ∀ (A : Around) (outer : List Env) (s : Shared) (H : Hp) (f : Addr) (ws : List V) (Q : VK) (E : XK), Room k (A.deeper (envF F.nf f s.heap.objs.size)) → ws.length = fr.length → sp ws H Q E →
      ∃ t, PE (ncx CX P w K mg base fr F.nf f A outer s H E) F.body t ∧ t (ws.map some) H Q) : LOk P w K mg base CX (k + 1) F fr sp := by
  refine ⟨fun A outer s H f ws Q E hr e0 hf hc C hsp => ?_⟩
  have lim : s.heap.NoLimit := e0.mod.nolimit.keeps fun b o e => (e0.bs b o e).1
  obtain ⟨pm, ctv, ho⟩ := lamO_at e0.hok hf
  have hlen : ws.length = fr.length := by
    have q := C.len
    rw [List.length_map] at q
    exact q
  refine PySem.W.kla_callFunE hr.depth ho rfl S.co S.gen rfl (codeO_at e0.hok hc) ?_
  rw [hb pm ctv]
  refine wpAny_pure (wpAny_newFunctionEnv S.nocell (fun y hy => absurd hy (by simp)) (fun h₁ hns hsb => ⟨lim.fresh _ hsb, ?_⟩) S.kind)
  show codeAny _ _ (.expr F.body (envF F.nf f s.heap.objs.size)) _ _
  have kp : ∀ b o, s.heap.get? b = some o → h₁.get? b = some o := fun b o e => hsb.extBut b o (Nat.ne_of_lt (Heap.lt_size e)) (Heap.get?_push_of_some _ e)
  obtain ⟨t, ht, hq⟩ := hbody A outer s H f ws Q E (hr.deeper _) hlen hsp
  have I : Inv (ncx CX P w K mg base fr F.nf f A outer s H E) [] (startF fr [] (ws.map some)) H { s with heap := h₁, toks := s.toks + ([] : List (Str × Value)).length } := inv_startN (ps := []) (us := []) (vs := []) (F := F.nf) S hr.hd e0 rfl .nil C hns kp
  have e : startF fr [] (ws.map some) = ws.map some := by
    unfold startF
    rw [List.length_map, hlen]
    simp
  rw [e] at I
  refine PySem.W.kla_codeExpr (wpAny_mono (ht.run [] _ _ H Q I hq) (fun v s' hq => ?_) fun e s' hq => hq)
  obtain ⟨v', H', J, rv, q⟩ := hq
  exact ⟨v', H', J.os, J.bare, J.base, J.hok, rv, q⟩
/-- how a lambda's captured names lie: self alone, or self and words -/
def Capt (F : LF) (fr : List Str) (c1 c2 : Addr) (y1 y2 : Str) (a1 a2 : Addr) (ws : List V) : Prop := (F.cl = [(y1, c1)] ∧ fr = [y1] ∧ ws = [.ref a1]) ∨ (F.cl = [(y2, c2), (y1, c1)] ∧ fr = [y1, y2] ∧ ws = [.ref a1, .ref a2])
/-- act(), the name in the slot i -/
def tAct (X : Cx) (CX : CXT) (j i : Nat) (y1 y2 : Str) (E : XK) : TE := fun σ H Q => ∃ (f : Addr) (F : LF) (fr : List Str) (sp : Sp) (k : Nat) (c1 c2 a1 a2 : Addr) (ws : List V), σ[i]? = some (some (.ref f)) ∧ H f = some (LamO f F) ∧ H F.c = some (CodeO F.c F.qual) ∧ LOk X.prog X.w X.K X.mg X.base CX k F fr sp ∧ k ≤ j ∧
  H c1 = some (CellO c1 (.ref a1)) ∧ H c2 = some (CellO c2 (.ref a2)) ∧ c1 ≠ c2 ∧ Capt F fr c1 c2 y1 y2 a1 a2 ws ∧ sp ws (del (del H c1) c2) Q E
theorem pe_actC {X : Cx} {CX : CXT} {j i : Nat} {x y1 y2 : Str} {E : XK} {p pos : Pos} (hr : Room j X.A) (h12 : y1 ≠ y2) (hN : X.N[i]? = some x) (hv : Vis X.env.scope x) (hx : Passes CX X E) (hd : (x == ("__debug__" : Str)) = false := by decide) (hcd : (x == ("__classdict__" : Str)) = false := by decide) :
    PE X (.Call (.Name x p) [] [] pos) (tAct X CX j i y1 y2 E) := by
  refine ⟨fun pins s σ H Q I h => ?_⟩
  obtain ⟨f, F, fr, sp, k, c1, c2, a1, a2, ws, hs, hf, hc, L, hk, e1, e2, ne, cap, q⟩ := h
  refine wpAny_Call_Name_kw (thn ((pe_var (pos := p) hN hv hd hcd).run pins s σ H (fun v H1 => v = .ref f ∧ H1 = H) I ⟨.ref f, hs, rfl, rfl⟩) fun u s1 ⟨v, H1, I1, r1, q1⟩ => ?_)
  obtain ⟨ev, eH⟩ := q1
  subst ev
  subst eH
  cases r1
  obtain ⟨pm, ctv, ho⟩ := lamO_at I1.hok hf
  have ic1 := cellO_at I1.hok e1
  have ic2 := cellO_at I1.hok e2
  obtain ⟨cc, oc, vs, t, ez, hoc, hdc, _⟩ := codeO_at I1.hok hc
  cases ez
  have nfc : ∀ {c a : Addr}, s1.heap.IsCell c (some (.ref a)) → f ≠ c := fun {c a} ⟨o, h1, h2⟩ z => by
    rw [← z, ho] at h1
    cases h1
    cases h2
  have ncc : ∀ {c a : Addr}, s1.heap.IsCell c (some (.ref a)) → F.c ≠ c := fun {c a} ⟨o, h1, h2⟩ z => by
    rw [← z, hoc] at h1
    cases h1
    rw [hdc] at h2
    cases h2
  have I2 := Inv.forget I1 e1
  have e2' : del H1 c1 c2 = some (CellO c2 (.ref a2)) := by rw [del_ne (Ne.symm ne)]; exact e2
  have I3 := Inv.forget I2 e2'
  have hf3 : del (del H1 c1) c2 f = some (LamO f F) := by rw [del_ne (nfc ic2), del_ne (nfc ic1)]; exact hf
  have hc3 : del (del H1 c1) c2 F.c = some (CodeO F.c F.qual) := by rw [del_ne (ncc ic2), del_ne (ncc ic1)]; exact hc
  have d1 : del (del H1 c1) c2 c1 = none := by rw [del_ne ne]; exact del_same
  have d2 : del (del H1 c1) c2 c2 = none := del_same
  have C : CellsAt F.cl fr (ws.map some) s1.heap (del (del H1 c1) c2) := by
    rcases cap with ⟨z1, z2, z3⟩ | ⟨z1, z2, z3⟩
    · rw [z1, z2, z3]
      refine ⟨rfl, fun y c e => ?_, fun x y c h1 h2 => ?_, fun n y e => ?_⟩
      · by_cases hy : y = y1
        · subst hy
          simp [List.lookup] at e
          subst e
          exact ⟨d1, _, ic1⟩
        · simp [List.lookup, hy] at e
          split at e
          · rename_i z
            exact absurd (eq_of_beq z) hy
          · cases e
      · have hx : ∀ {z : Str} {c : Addr}, [(y1, c1)].lookup z = some c → z = y1 := fun {z c} e => by
          by_cases hz : z = y1
          · exact hz
          · have e' : (match z == y1 with | true => some c1 | false => none) = some c := e
            rw [beq_eq_false_iff_ne.mpr hz] at e'
            cases e'
        rw [hx h1, hx h2]
      · cases n with
        | zero =>
          cases e
          refine ⟨c1, by simp [List.lookup], fun v ev => ?_⟩
          cases ev
          exact ⟨_, rfl, ic1⟩
        | succ n => cases e
    · rw [z1, z2, z3]
      have lk : ∀ {z : Str} {c : Addr}, [(y2, c2), (y1, c1)].lookup z = some c → (z = y2 ∧ c = c2) ∨ (z = y1 ∧ c = c1) := fun {z c} e => by
        by_cases hz : z = y2
        · subst hz
          have e' : some c2 = some c := by simpa [List.lookup] using e
          exact .inl ⟨rfl, (Option.some.inj e').symm⟩
        · have e' : (match z == y2 with | true => some c2 | false => [(y1, c1)].lookup z) = some c := e
          rw [beq_eq_false_iff_ne.mpr hz] at e'
          by_cases hy : z = y1
          · subst hy
            have e2 : some c1 = some c := by simpa [List.lookup] using e'
            exact .inr ⟨rfl, (Option.some.inj e2).symm⟩
          · have e3 : (match z == y1 with | true => some c1 | false => none) = some c := e'
            rw [beq_eq_false_iff_ne.mpr hy] at e3
            cases e3
      have l1 : [(y2, c2), (y1, c1)].lookup y1 = some c1 := by
        show (match y1 == y2 with | true => some c2 | false => [(y1, c1)].lookup y1) = some c1
        rw [beq_eq_false_iff_ne.mpr h12]
        simp [List.lookup]
      have l2 : [(y2, c2), (y1, c1)].lookup y2 = some c2 := by simp [List.lookup]
      refine ⟨rfl, fun y c e => ?_, fun x y c h1 h2 => ?_, fun n y e => ?_⟩
      · rcases lk e with ⟨_, rfl⟩ | ⟨_, rfl⟩
        · exact ⟨d2, _, ic2⟩
        · exact ⟨d1, _, ic1⟩
      · rcases lk h1 with ⟨a, b⟩ | ⟨a, b⟩ <;> rcases lk h2 with ⟨a', b'⟩ | ⟨a', b'⟩
        · rw [a, a']
        · exact absurd (b'.symm.trans b) ne
        · exact absurd (b.symm.trans b') ne
        · rw [a, a']
      · match n with
        | 0 =>
          cases e
          refine ⟨c1, l1, fun v ev => ?_⟩
          cases ev
          exact ⟨_, rfl, ic1⟩
        | 1 =>
          cases e
          refine ⟨c2, l2, fun v ev => ?_⟩
          cases ev
          exact ⟨_, rfl, ic2⟩
        | n + 2 => cases e
  refine PySem.W.callWith_F0 (first := []) ⟨_, _, _, _, ho⟩ ?_
  show wpAny _ _ (call (.ref f) []) _ _ _
  refine wpAny_call (codeAny_mono (L.run X.A X.stack s1 _ f ws Q E (hr.mono hk) I3.env0 hf3 hc3 C q) fun r s' hq => ?_)
  cases r with
  | error e => exact hx pins σ _ s1 e s' I3 hq
  | ok fl =>
    cases fl with
    | ret u => exact I3.after hq
    | next => exact False.elim hq
    | brk => exact False.elim hq
    | cont => exact False.elim hq
end K54
/-! K8 -/
namespace K54
open PySem PySem.Spec PyProof.Rows L2 LamX NdefX
/-! ### sorted(rows, key=lambda row: (len(row), row)) -/
abbrev rowBody (p1 p2 p3 p4 p5 : Pos) (kk : Nat) : Expr := .Tuple [.Call (.Name "len" p1) [.Name "row" p2] [] p3, .Name "row" p4] kk p5
/-- a row of whole numbers as data, its key -/
def rowD (ns : List Nat) : PyData := .tuple (ns.map fun n : Nat => PyData.int (n : Int))
def keyD (ns : List Nat) : PyData := .tuple [.int (ns.length : Int), rowD ns]
section
variable {prog : Program} {w : World} {A : Around} {s : Shared} {mg mb : Str → Option Value}
theorem row_turn {f a : Addr} {F : LF} {pm ctv : Value} {its : List Value} {ns : List Nat} {p1 p2 p3 p4 p5 : Pos} {kk : Nat} (hroom : A.depth < recursionLimit) (ho : s.heap.get? f = some ({ cls := .type "function", data := .func (F.fd pm ctv) } : Obj)) (hcode : s.heap.CodeRec (.ref F.c) F.qual)
    (hg : s.heap.Ns mainGlobals mg) (hb : s.heap.Ns builtinsNs mb) (gl : mg ("len" : Str) = none) (bl : mb ("len" : Str) = some (.builtin "len")) (lim : s.heap.NoLimit)
    (kind : F.scope.kind = .function) (co : F.scope.isCoroutine = false) (gen : F.scope.isGenerator = false) (nocell : ∀ y ∈ F.scope.names, y.2 ≠ .cell) (kr : F.scope.names.lookup ("row" : Str) = some NameKind.local) (kl : F.scope.names.lookup ("len" : Str) = some NameKind.globalImplicit)
    (hbody : F.body = rowBody p1 p2 p3 p4 p5 kk) (hbind : ∀ v : Value, bindArgs (F.fd pm ctv) ⟨[v], []⟩ = (pure [(("row" : Str), v)] : Sem (List (Str × Value))))
    (ht : IsTup s.heap a its.toArray) (hr : Reads s.heap (.ref a) (rowD ns) []) (hl : its.length = ns.length) (hz : ns.length < 1000) :
    wpAny (model prog w) A (call (.ref f) [.ref a]) (PySem.W.KeyPure (keyD ns) s) (fun _ _ => False) s := by
  refine wpAny_call (PySem.W.kla_callFunE hroom ho rfl co gen rfl hcode ?_)
  rw [hbind]
  refine wpAny_pure (wpAny_newFunctionEnv nocell (fun y hy => by
    have e : y = (("row" : Str), Value.ref a) := by simpa using hy
    rw [e]
    exact kr) (fun h₁ hns hsb => ⟨lim.fresh _ hsb, ?_⟩) kind)
  show codeAny _ _ (.expr F.body (envF F.nf f s.heap.objs.size)) _ _
  have kp : ∀ b o, s.heap.get? b = some o → h₁.get? b = some o := fun b o e => hsb.extBut b o (Nat.ne_of_lt (Heap.lt_size e)) (Heap.get?_push_of_some _ e)
  refine PySem.W.kla_codeExpr ?_
  rw [hbody]
  have knd : (envF F.nf f s.heap.objs.size).scope.kind = .function := kind
  have k1 : (envF F.nf f s.heap.objs.size).kindOf "row" = some .local := kr
  have k2 : (envF F.nf f s.heap.objs.size).kindOf "len" = some .globalImplicit := kl
  have hrow : (fun y => ([(("row" : Str), Value.ref a)]).reverse.lookup y) "row" = some (Value.ref a) := by simp [List.lookup]
  have rd : ∀ {t : Nat} {g : Heap} {gs : Array GenState} {dr : Drawn} {os : OsState} {pos : Pos} {Q : Value → Shared → Prop} {E : Value → Shared → Prop}, (∀ b o, h₁.get? b = some o → g.get? b = some o) → Q (.ref a) ⟨g, gs, dr, t, os⟩ →
      wpAny (model prog w) (A.deeper (envF F.nf f s.heap.objs.size)) (eval (.Name "row" pos) (envF F.nf f s.heap.objs.size)) Q E ⟨g, gs, dr, t, os⟩ := fun {t g gs dr os pos Q E} k q =>
    wpAny_Name (wpAny_loadName_local knd k1 (hns.keeps k) hrow q) (by decide)
  refine wpAny_Tuple_spliced (Calls.spliced_cons (wpAny_Call_Name_kw (Calls.Name_function_global knd k2 (Calls.loadGlobal_builtin (hg.keeps kp) gl (hb.keeps kp) bl ?_) (by decide))))
  refine PyProof.Rows.callWith_builtin1 ?_ (by rfl) (by rfl)
  show wpAny _ _ (spliced ((false, eval (.Name "row" p2) (envF F.nf f s.heap.objs.size)) :: backTo p3 (starEach [] (envF F.nf f s.heap.objs.size)))) _ _ _
  refine Calls.spliced_cons (rd (fun _ _ e => e) (Calls.spliced_nil ?_))
  have ht1 : IsTup h₁ a its.toArray := by
    obtain ⟨o, e, r⟩ := ht
    exact ⟨o, kp _ _ e, r⟩
  refine len_tuple ht1 (by rw [List.size_toArray]; omega) ?_
  refine Calls.spliced_cons (rd (fun _ _ e => e) (Calls.spliced_nil ⟨by show 2 ≤ sizeLine; decide, ?_⟩))
  refine ⟨_, _, rfl, fun b o e => Heap.get?_push_of_some _ (kp _ _ e), ?_⟩
  have up : ∀ b o, s.heap.get? b = some o → (h₁.push ({ cls := .type "tuple", data := .seq [Value.int (its.toArray.size : Int) (s.toks + [(("row" : Str), Value.ref a)].length + 1), Value.ref a].toArray } : Obj)).get? b = some o := fun b o e => Heap.get?_push_of_some _ (kp _ _ e)
  have r1 := Reads.keeps up hr
  have e0 : ((its.toArray.size : Nat) : Int) = (ns.length : Int) := by rw [List.size_toArray, hl]
  refine Reads.tuple (as := [] ++ ([] ++ [])) (Heap.get?_push_size _ rfl) rfl rfl (ReadsAll.cons (as := []) ?_ (ReadsAll.cons (as := []) r1 .nil))
  rw [← e0]
  exact .int _ _
end
theorem reads_ints {h : Heap} : ∀ {ns : List Nat} {its : List Value}, Vals (ns.map fun n : Nat => V.int (n : Int)) its → ReadsAll h its (ns.map fun n : Nat => PyData.int (n : Int)) []
  | [], _, .nil => .nil
  | n :: ns, _, .cons r t => by
    obtain ⟨tk, rfl⟩ := r
    exact ReadsAll.cons (as := []) (bs := []) (.int _ _) (reads_ints t)
theorem depth_ints : ∀ ns : List Nat, PyData.depthAll (ns.map fun n : Nat => PyData.int (n : Int)) = 0
  | [] => rfl
  | n :: ns => by
    show max (PyData.depth (.int _)) (PyData.depthAll (ns.map fun n : Nat => PyData.int (n : Int))) = 0
    rw [depth_ints ns]
    rfl
theorem depth_key (ns : List Nat) : (keyD ns).depth ≤ 4 := by
  have e : (rowD ns).depth = 1 := by
    show PyData.depthAll (ns.map fun n : Nat => PyData.int (n : Int)) + 1 = 1
    rw [depth_ints]
  have e2 : (keyD ns).depth = max 0 (max (rowD ns).depth 0) + 1 := rfl
  rw [e2, e]
  decide
theorem alike_ints : ∀ ns ms : List Nat, PySem.W.alikeAll (ns.map fun n : Nat => PyData.int (n : Int)) (ms.map fun n : Nat => PyData.int (n : Int)) = true
  | [], _ => rfl
  | _ :: _, [] => rfl
  | n :: ns, m :: ms => by
    show (true && PySem.W.alikeAll _ _) = true
    rw [alike_ints ns ms]
    rfl
theorem alike_key (ns ms : List Nat) : PySem.W.alike (keyD ns) (keyD ms) = true := by
  show (true && (PySem.W.alikeAll _ _ && true)) = true
  rw [alike_ints ns ms]
  rfl
/-- the lambda of the key, by its words -/
structure RowLam (F : LF) : Prop where
  kind : F.scope.kind = .function
  co : F.scope.isCoroutine = false
  gen : F.scope.isGenerator = false
  nocell : ∀ y ∈ F.scope.names, y.2 ≠ .cell
  kr : F.scope.names.lookup ("row" : Str) = some NameKind.local
  kl : F.scope.names.lookup ("len" : Str) = some NameKind.globalImplicit
  body : ∃ p1 p2 p3 p4 p5 kk, F.body = rowBody p1 p2 p3 p4 p5 kk
  bind : ∀ pm ctv v : Value, bindArgs (F.fd pm ctv) ⟨[v], []⟩ = (pure [(("row" : Str), v)] : Sem (List (Str × Value)))
def rSortRow (K : PySem.W.Frag) : List V → List V → Hp → VK → Prop := fun vs zs H Q => ∃ (a f : Addr) (F : LF) (rows : List (Addr × List Nat)), vs = [V.ref a] ∧ zs = [V.ref f] ∧ SqL K H a (rows.map fun p => V.ref p.1) ∧ (∀ p ∈ rows, H p.1 = some (.tup (p.2.map fun n : Nat => V.int (n : Int))) ∧ p.2.length < 1000) ∧
  RowLam F ∧ H f = some (LamO f F) ∧ H F.c = some (CodeO F.c F.qual) ∧ ∀ (rows' : List (Addr × List Nat)) (p : Addr), rows'.Perm rows → H p = none → Q (.ref p) (upd H p (.lst (rows'.map fun p => V.ref p.1)))
theorem cr_sortedRow {X : Cx} {k : Nat} (hr : Room (k + 1) X.A) (gl : X.mg ("len" : Str) = none) : CallRK X (.builtin "sorted") [Str.ofString "key"] (rSortRow X.K) := by
  intro pins s σ H vs zs us ws Q I r rz h
  obtain ⟨a, f, F, rows, rfl, rfl, hs, hrow, L, hf, hc, q⟩ := h
  obtain ⟨u, rfl, ru⟩ := vals1 r
  cases ru
  obtain ⟨w1, rfl, rw1⟩ := vals1 rz
  cases rw1
  obtain ⟨its, rv, hl, hz⟩ := I.list hs
  obtain ⟨pm, ctv, ho⟩ := lamO_at I.hok hf
  have hcd := codeO_at I.hok hc
  obtain ⟨mb, hb1, hb2⟩ := I.mod.blt
  obtain ⟨p1, p2, p3, p4, p5, kk, hbd⟩ := L.body
  have eq_refs : ∀ {rs : List (Addr × List Nat)} {is : List Value}, Vals (rs.map fun p => V.ref p.1) is → PySem.W.EachIs (fun (v : Value) (x : Addr × List Nat) => v = .ref x.1) is rs := fun {rs} => by
    induction rs with
    | nil =>
      intro is h
      cases h
      exact .nil
    | cons p rs ih =>
      intro is h
      cases h with
      | cons r t => exact .cons r (ih t)
  have hlen : rows.length ≤ sizeLine := by
    rw [List.length_map] at hz
    exact hz
  refine PySem.W.sorted_key_data (R := fun (v : Value) (x : Addr × List Nat) => v = .ref x.1) (bs := rows) (b := false) (f := .ref f) (vs := its) (fun x => keyD x.2) hl.isList (eq_refs rv) (fun d hd d' hd' => ?_) (.inl fun d hd => ?_) hlen (fun x hx => ?_) (PyProof.Rows.ksk_s1 _ _) (fun _ => PyProof.Rows.ksk_l1 _ _) (fun x => PyProof.Rows.ksk_t1 _ _) (fun v x hv hx h tk kp => ?_) fun out c h' tk kp fresh hD hol hE => ?_
  · obtain ⟨x, _, rfl⟩ := List.mem_map.mp hd
    obtain ⟨y, _, rfl⟩ := List.mem_map.mp hd'
    exact alike_key _ _
  · obtain ⟨x, _, rfl⟩ := List.mem_map.mp hd
    exact ⟨_, _, rfl⟩
  · have h1 := depth_key x.2
    have h2 := hr.units
    omega
  · subst hv
    obtain ⟨ht, hn⟩ := hrow x hx
    obtain ⟨ts, rt, pt, _⟩ := I.tuple (show SqT X.K H x.1 _ from .inl (.inl ht))
    have hlt : ts.length = x.2.length := by
      have e := rt.length
      rw [List.length_map] at e
      exact e.symm
    obtain ⟨o, e1, e2, n, e3⟩ := id pt
    refine row_turn (s := { s with heap := h, toks := tk }) (its := ts) (by have := hr.depth; exact this) (kp _ _ ho) ?_ ((I.mod.glob.keeps I.bk).keeps kp) ((hb1.keeps I.bk).keeps kp) gl (hb2 "len" (by decide)) (I.nolimit.keeps kp) L.kind L.co L.gen L.nocell L.kr L.kl hbd (L.bind pm ctv) ⟨o, kp _ _ e1, e2, n, e3⟩ ?_ hlt hn
    · obtain ⟨cc, oc, fv, t, z, z1, z2, z3⟩ := hcd
      exact ⟨cc, oc, fv, t, z, kp _ _ z1, z2, z3⟩
    · refine Reads.tuple (kp _ _ e1) e2 e3 ?_
      exact reads_ints rt
  · have refs_of : ∀ {rs : List (Addr × List Nat)} {is : List Value}, PySem.W.EachIs (fun (v : Value) (x : Addr × List Nat) => v = .ref x.1) is rs → Vals (rs.map fun p => V.ref p.1) is := fun {rs} => by
      induction rs with
      | nil =>
        intro is h
        cases h
        exact .nil
      | cons p rs ih =>
        intro is h
        cases h with
        | cons r t => exact .cons r (ih t)
    have pm' := List.mergeSort_perm rows (PySem.W.dataLe false fun x => keyD x.2)
    have hz' : ((rows.mergeSort (PySem.W.dataLe false fun x => keyD x.2)).map fun p => V.ref p.1).length ≤ sizeLine := by
      rw [List.length_map, pm'.length_eq]
      exact hlen
    exact ⟨.ref _, _, I.laid (t' := tk) (a := s.heap.objs.size + 1) (o := .lst ((rows.mergeSort (PySem.W.dataLe false fun x => keyD x.2)).map fun p => V.ref p.1)) kp (Nat.le_succ _) ⟨hz', out, c, refs_of hE, hD⟩, rfl, q _ _ pm' (I.hok.fresh (Nat.le_succ _))⟩
end K54
/-! K9 -/
namespace K54
open PySem PySem.Spec PyProof.Rows L2 LamX NdefX Evl
/-! ### how heaps go on -/
/-- all but the objects at bs (and the tables of code objects) stay -/
def Fm (bs : List Addr) (H H' : Hp) : Prop := ∀ a o, H a = some o → a ∉ bs → (∀ ps, o ≠ .tbl ps) → H' a = some o
theorem Fm.refl (bs : List Addr) (H : Hp) : Fm bs H H := fun _ _ h _ _ => h
theorem Fm.trans {bs : List Addr} {H H1 H2 : Hp} (a : Fm bs H H1) (b : Fm bs H1 H2) : Fm bs H H2 := fun x o h n t => b x o (a x o h n t) n t
theorem Fm.of {bs : List Addr} {H H' : Hp} (e : Ex H H') : Fm bs H H' := fun a o h _ _ => e a o h
theorem Fm.ofN {bs : List Addr} {H H' : Hp} (e : ExtN H H') : Fm bs H H' := fun a o h _ t => e a o h t
theorem Fm.toN {H H' : Hp} (e : Fm [] H H') : ExtN H H' := fun a o h t => e a o h (by simp) t
theorem Fm.mono {bs cs : List Addr} {H H' : Hp} (f : Fm bs H H') (h : ∀ b ∈ bs, b ∈ cs) : Fm cs H H' := fun a o e n t => f a o e (fun z => n (h a z)) t
theorem Fm.put {H : Hp} {a : Addr} {o : HO} : Fm [a] H (upd H a o) := fun b u e n _ => by
  rw [upd_ne (fun z => n (by rw [z]; exact List.mem_cons_self))]
  exact e
/-- what is changed is neither a tuple nor works -/
def wkF (h r p : Addr) : List (Str × V) := [("heads", .ref h), ("roads", .ref r), ("pushed", .ref p)]
def Mb (H : Hp) (bs : List Addr) : Prop := ∀ b ∈ bs, ∃ o, H b = some o ∧ ((∀ xs, o ≠ .tup xs) ∧ ∀ u xs, o ≠ .frz u (.tup xs)) ∧ ∀ C dx h r p, o ≠ .ins C dx (wkF h r p)
theorem Mb.nil {H : Hp} : Mb H [] := fun b z => absurd z (by simp)
theorem Mb.cons {H : Hp} {b : Addr} {bs : List Addr} {o : HO} (e : H b = some o) (h1 : (∀ xs, o ≠ .tup xs) ∧ ∀ u xs, o ≠ .frz u (.tup xs)) (h2 : ∀ C dx h r p, o ≠ .ins C dx (wkF h r p)) (m : Mb H bs) : Mb H (b :: bs) := fun c hc => by
  rcases List.mem_cons.mp hc with z | z
  · rw [z]
    exact ⟨o, e, h1, h2⟩
  · exact m c z
theorem Mb.lst {H : Hp} {b : Addr} {bs : List Addr} {xs : List V} (e : H b = some (.lst xs)) (m : Mb H bs) : Mb H (b :: bs) := m.cons e ⟨(fun _ z => nomatch z), (fun _ _ z => nomatch z)⟩ fun _ _ _ _ _ z => nomatch z
theorem Fm.tup {bs : List Addr} {H H' : Hp} (f : Fm bs H H') (m : Mb H bs) {a : Addr} {xs : List V} (e : H a = some (.tup xs)) : H' a = some (.tup xs) := f a _ e (fun z => by
  obtain ⟨o, h1, h2, _⟩ := m a z
  rw [e] at h1
  exact h2.1 xs (Option.some.inj h1).symm) fun _ z => nomatch z
theorem Fm.frz {bs : List Addr} {H H' : Hp} (f : Fm bs H H') (m : Mb H bs) {a : Addr} {u : Obj} {xs : List V} (e : H a = some (.frz u (.tup xs))) : H' a = some (.frz u (.tup xs)) := f a _ e (fun z => by
  obtain ⟨o, h1, h2, _⟩ := m a z
  rw [e] at h1
  exact h2.2 u xs (Option.some.inj h1).symm) fun _ z => nomatch z
theorem Fm.rd {bs : List Addr} {H H' : Hp} (f : Fm bs H H') (m : Mb H bs) {a : Addr} {xs : List V} (e : Rd H a (.tup xs)) : Rd H' a (.tup xs) := by
  rcases e with e | ⟨u, e⟩
  · exact .inl (f.tup m e)
  · exact .inr ⟨u, f.frz m e⟩
theorem Fm.wk {bs : List Addr} {H H' : Hp} (f : Fm bs H H') (m : Mb H bs) {a C dx h r p : Addr} (e : H a = some (.ins C dx (wkF h r p))) : H' a = some (.ins C dx (wkF h r p)) := f a _ e (fun z => by
  obtain ⟨o, h1, _, h2⟩ := m a z
  rw [e] at h1
  exact h2 C dx h r p (Option.some.inj h1).symm) fun _ z => nomatch z
/-! ### tuples of texts, of pairs, of numbers; works; boards -/
def STup (H : Hp) (a : Addr) (xs : List Str) : Prop := Rd H a (.tup (xs.map V.str))
/-- .. that surely has no dict of its own -/
def STupN (H : Hp) (a : Addr) (xs : List Str) : Prop := ∃ u : Obj, u.dict = none ∧ H a = some (.frz u (.tup (xs.map V.str)))
theorem STupN.st {H : Hp} {a : Addr} {xs : List Str} (h : STupN H a xs) : STup H a xs := by
  obtain ⟨u, _, e⟩ := h
  exact .inr ⟨u, e⟩
def PairAt (H : Hp) (a : Addr) (t : Str × Str) : Prop := H a = some (.tup [.str t.1, .str t.2])
def AllAt {α : Type} (F : Addr → α → Prop) (as : List Addr) (xs : List α) : Prop := Paired F as xs
def PTup (H : Hp) (a : Addr) (ts : List (Str × Str)) : Prop := ∃ as : List Addr, Rd H a (.tup (as.map V.ref)) ∧ Paired (PairAt H) as ts
def NTup (H : Hp) (a : Addr) (ns : List Nat) : Prop := H a = some (.tup (ns.map fun n : Nat => V.int (n : Int)))
def NNTup (H : Hp) (a : Addr) (nss : List (List Nat)) : Prop := ∃ as : List Addr, H a = some (.tup (as.map V.ref)) ∧ Paired (NTup H) as nss
def NLst (H : Hp) (a : Addr) (ns : List Nat) : Prop := H a = some (.lst (ns.map fun n : Nat => V.int (n : Int)))
/-- parts and ties -/
structure Wk where
  hs : List Str
  ts : List (Str × Str)
def pushRow (W : Wk) (one : Str) : List Nat := (List.range W.hs.length).filter fun i => decide ((one, W.hs.getD i Str.empty) ∈ W.ts)
def pushedOf (W : Wk) : List (List Nat) := W.hs.map (pushRow W)
structure WorksAt (K : PySem.W.Frag) (H : Hp) (a : Addr) (W : Wk) : Prop where
  at_ : ∃ dx h r p, H a = some (.ins (He.ga K "Works") dx (wkF h r p)) ∧ STupN H h W.hs ∧ PTup H r W.ts ∧ NNTup H p (pushedOf W)
abbrev Stt := Wk × List Str
def StAt (K : PySem.W.Frag) (H : Hp) (a : Addr) (s : Stt) : Prop := ∃ w l, H a = some (.tup [.ref w, .ref l]) ∧ WorksAt K H w s.1 ∧ STup H l s.2
structure BoardAt (K : PySem.W.Frag) (H : Hp) (b : Addr) (st : List Stt) : Prop where
  at_ : ∃ dx t as, H b = some (.ins (He.ga K "Board") dx [("states", .ref t)]) ∧ H t = some (.tup (as.map V.ref)) ∧ Paired (StAt K H) as st
section
variable {K : PySem.W.Frag} {bs : List Addr} {H H' : Hp} {a : Addr}
theorem STup.fm {xs : List Str} (h : STup H a xs) (f : Fm bs H H') (m : Mb H bs) : STup H' a xs := f.rd m h
theorem STupN.fm {xs : List Str} (h : STupN H a xs) (f : Fm bs H H') (m : Mb H bs) : STupN H' a xs := by
  obtain ⟨u, hu, e⟩ := h
  exact ⟨u, hu, f.frz m e⟩
theorem PTup.fm {ts : List (Str × Str)} (h : PTup H a ts) (f : Fm bs H H') (m : Mb H bs) : PTup H' a ts := by
  obtain ⟨as, e, p⟩ := h
  exact ⟨as, f.rd m e, L2.Paired.mapP p fun _ _ z => f.tup m z⟩
theorem NNTup.fm {ns : List (List Nat)} (h : NNTup H a ns) (f : Fm bs H H') (m : Mb H bs) : NNTup H' a ns := by
  obtain ⟨as, e, p⟩ := h
  exact ⟨as, f.tup m e, L2.Paired.mapP p fun _ _ z => f.tup m z⟩
theorem WorksAt.fm {W : Wk} (h : WorksAt K H a W) (f : Fm bs H H') (m : Mb H bs) : WorksAt K H' a W := by
  obtain ⟨dx, h1, r, p, e, e1, e2, e3⟩ := h.at_
  exact ⟨dx, h1, r, p, f.wk m e, e1.fm f m, e2.fm f m, e3.fm f m⟩
theorem StAt.fm {s : Stt} (h : StAt K H a s) (f : Fm bs H H') (m : Mb H bs) : StAt K H' a s := by
  obtain ⟨w, l, e, e1, e2⟩ := h
  exact ⟨w, l, f.tup m e, e1.fm f m, e2.fm f m⟩
theorem BoardAt.fm {st : List Stt} (h : BoardAt K H a st) (f : Fm bs H H') (m : Mb H bs) (n : a ∉ bs) : BoardAt K H' a st := by
  obtain ⟨dx, t, as, e, e1, p⟩ := h.at_
  exact ⟨dx, t, as, f a _ e n (fun _ z => nomatch z), f.tup m e1, L2.Paired.mapP p fun _ _ z => z.fm f m⟩
theorem STup.ex {xs : List Str} (h : STup H a xs) (e : Ex H H') : STup H' a xs := ex_rd e h
theorem STupN.ex {xs : List Str} (h : STupN H a xs) (e : Ex H H') : STupN H' a xs := h.fm (Fm.of e) Mb.nil
theorem PTup.ex {ts : List (Str × Str)} (h : PTup H a ts) (e : Ex H H') : PTup H' a ts := h.fm (Fm.of e) Mb.nil
theorem WorksAt.ex {W : Wk} (h : WorksAt K H a W) (e : Ex H H') : WorksAt K H' a W := h.fm (Fm.of e) Mb.nil
theorem StAt.ex {s : Stt} (h : StAt K H a s) (e : Ex H H') : StAt K H' a s := h.fm (Fm.of e) Mb.nil
theorem BoardAt.ex {st : List Stt} (h : BoardAt K H a st) (e : Ex H H') : BoardAt K H' a st := h.fm (Fm.of e) Mb.nil (by simp)
theorem NNTup.ex {ns : List (List Nat)} (h : NNTup H a ns) (e : Ex H H') : NNTup H' a ns := h.fm (Fm.of e) Mb.nil
end
/-! ### the plain functions -/
def onlyUnk (pu : List (List Nat)) (at_ : Nat) (lot : List Nat) : Option Nat := match (pu.getD at_ []).filter fun p => !decide (p ∈ lot) with
  | [x] => some x
  | _ => none
def nextF (pu : List (List Nat)) (lot : List Nat) : Option Nat := (lot.mergeSort fun a b => decide (a ≤ b)).findSome? fun i => onlyUnk pu i lot
def allLot (pu : List (List Nat)) : Nat → List Nat → List Nat
  | 0, lot => lot
  | k + 1, lot => match nextF pu lot with
    | none => lot
    | some y => allLot pu k (lot ++ [y])
def lotOf (W : Wk) (row : List Nat) : List Nat := allLot (pushedOf W) W.hs.length row
def isAllM (W : Wk) (row : List Nat) : Bool := decide ((lotOf W row).length = W.hs.length)
def placesM (W : Wk) (ls : List Str) : List Nat := ls.map fun x => W.hs.idxOf x
def namedM (W : Wk) (row : List Nat) : List Str := (row.mergeSort fun a b => decide (a ≤ b)).map fun i => W.hs.getD i Str.empty
def knownM (s : Stt) : List Str := namedM s.1 (lotOf s.1 (placesM s.1 s.2))
def sureM (s : Stt) : Bool := isAllM s.1 (placesM s.1 s.2)
def lotsB : Nat → List (List Nat)
  | 0 => [[]]
  | n + 1 => lotsB n ++ (lotsB n).map (· ++ [n])
def goodM (W : Wk) (m : Nat) : Bool := (lotsB W.hs.length).any fun row => decide (row.length = m) && isAllM W row
def fewFrom (W : Wk) : Nat → Nat → Nat
  | 0, m => m
  | k + 1, m => if goodM W m then m else fewFrom W k (m + 1)
def fewM (W : Wk) : Nat := fewFrom W W.hs.length 1
def tieT (t : Str × Str) : Str := ((Str.empty ++ t.1) ++ (" > " : Str)) ++ t.2
def textM (W : Wk) : Str := Txt.join ("\n" : Str) (Txt.join (" " : Str) W.hs :: W.ts.map tieT)
def namesM (xs : List Str) : Str := if xs.length = 0 then ("-" : Str) else Txt.join (" " : Str) xs
/-! ### which data are right -/
def letB (c : Nat) : Bool := decide (c ∈ (Str.ofString "abcdefghijklmnopqrstuvwxyz").cps.toList)
def digB (c : Nat) : Bool := decide (c ∈ (Str.ofString "0123456789").cps.toList)
def nameB (z : Str) : Bool := match z.cps.toList with
  | [] => false
  | c :: r => decide (r.length < 8) && (letB c && (c :: r).all fun d => letB d || digB d)
structure Wk.Ok (W : Wk) : Prop where
  ne : W.hs ≠ []
  few : W.hs.length ≤ 5
  nd : W.hs.Nodup
  nm : ∀ z ∈ W.hs, nameB z = true
  ties : ∀ t ∈ W.ts, t.1 ∈ W.hs ∧ t.2 ∈ W.hs ∧ t.1 ≠ t.2
  tnd : W.ts.Nodup
  tlen : W.ts.length ≤ 1000
structure Stt.Ok (s : Stt) : Prop where
  w : s.1.Ok
  ld : ∀ x ∈ s.2, x ∈ s.1.hs
  nd : s.2.Nodup
  len : s.2.length ≤ 1000
end K54
/-! K10 -/
namespace K54
open PySem PySem.Spec PyProof.Rows L2 LamX NdefX Evl
section
variable {X : Cx} {x : Str} {e : Expr} {p pos : Pos} {te : TE} {id T : String} {r : List V → Hp → VK → Prop}
/-- x(e), x a built-in function of one argument; a built-in type -/
theorem pb (hc : CallR X (.builtin id) r) (z : X.mg x = none) (hv : bootBuiltins x = some (.builtin id)) (ha : PE X e te) (hg : Gl X x := by rfl) (hn : x ≠ "__name__" := by decide) (hdb : (x == ("__debug__" : Str)) = false := by decide)
    (hs : starEach [e] X.env = (false, eval e X.env) :: starEach [] X.env := by rfl) (hpl : (backTo pos (starEach [] X.env)).any (·.1) = false := by rfl) : PE X (.Call (.Name x p) [e] [] pos) (tCB r (tCons te tNil)) :=
  pe_callB hc hg z hv (pa_cons ha pa_nil hs) hn hdb hs hpl
theorem pty (hc : CallR X (.type T) r) (z : X.mg x = none) (hv : bootBuiltins x = some (.type T)) (ha : PE X e te) (hg : Gl X x := by rfl) (hn : x ≠ "__name__" := by decide) (hdb : (x == ("__debug__" : Str)) = false := by decide)
    (hs : starEach [e] X.env = (false, eval e X.env) :: starEach [] X.env := by rfl) (hpl : (backTo pos (starEach [] X.env)).any (·.1) = false := by rfl) : PE X (.Call (.Name x p) [e] [] pos) (tCB r (tCons te tNil)) :=
  pe_callTy hc hg z hv (pa_cons ha pa_nil hs) hn hdb hs hpl
theorem pgS {z : Str} (h : ∃ t, X.mg x = some (.str z t)) (hg : Gl X x := by rfl) (hd : (x == ("__debug__" : Str)) = false := by decide) : PE X (.Name x pos) (tC (.str z)) := by
  obtain ⟨t, h⟩ := h
  exact pe_glob hg h ⟨t, rfl⟩ hd
theorem pgI {z : Int} (h : ∃ t, X.mg x = some (.int z t)) (hg : Gl X x := by rfl) (hd : (x == ("__debug__" : Str)) = false := by decide) : PE X (.Name x pos) (tC (.int z)) := by
  obtain ⟨t, h⟩ := h
  exact pe_glob hg h ⟨t, rfl⟩ hd
theorem pgT {z : String} (h : X.mg x = none) (hv : bootBuiltins x = some (.type z)) (hg : Gl X x := by rfl) (hn : x ≠ "__name__" := by decide) (hd : (x == ("__debug__" : Str)) = false := by decide) : PE X (.Name x pos) (tC (.ty z)) := pe_bltn hg h hv rfl hn hd
/-- isinstance(e, T), T a built-in type -/
theorem pis {z : String} {nm : Str} {q : Pos} (h : X.mg "isinstance" = none) (hz : X.mg nm = none) (hv : bootBuiltins nm = some (.type z)) (ha : PE X e te) (hg : Gl X "isinstance" := by rfl) (hgz : Gl X nm := by rfl) (hn : nm ≠ "__name__" := by decide) (hd : (nm == ("__debug__" : Str)) = false := by decide)
    (hs : starEach [e, .Name nm q] X.env = (false, eval e X.env) :: starEach [.Name nm q] X.env := by rfl) (hs2 : starEach [.Name nm q] X.env = (false, eval (.Name nm q) X.env) :: starEach [] X.env := by rfl) (hpl : (backTo pos (starEach [.Name nm q] X.env)).any (·.1) = false := by rfl) :
    PE X (.Call (.Name "isinstance" p) [e, .Name nm q] [] pos) (tCB (rIsi X.K) (tCons te (tCons (tC (.ty z)) tNil))) :=
  pe_callB call_isi hg h PyProof.Rows.boot_isinstance (pa_cons ha (pa_cons (pe_bltn hgz hz hv rfl hn hd) pa_nil hs2) hs) (by decide) (by decide) hs hpl
end
/-! ### what evaluates to what, further -/
/-- some value of which R holds -/
def EvP (te : TE) (σ : L2.St) (H : Hp) (R : V → Hp → Prop) : Prop := ∀ H1, Ex H H1 → ∀ Q : VK, (∀ v H2, Ex H1 H2 → R v H2 → Q v H2) → te σ H1 Q
def RCP (r : List V → Hp → VK → Prop) (vs : List V) (H : Hp) (R : V → Hp → Prop) : Prop := ∀ H1, Ex H H1 → ∀ Q : VK, (∀ v H2, Ex H1 H2 → R v H2 → Q v H2) → r vs H1 Q
def RVP (r : R2) (x y : V) (H : Hp) (R : V → Hp → Prop) : Prop := ∀ H1, Ex H H1 → ∀ Q : VK, (∀ v H2, Ex H1 H2 → R v H2 → Q v H2) → r x y H1 Q
def SpP (sp : Sp) (vs : List V) (H : Hp) (R : V → Hp → Prop) : Prop := ∀ H1, Ex H H1 → ∀ Q : VK, (∀ v H2, Ex H1 H2 → R v H2 → Q v H2) → ∀ E : XK, sp vs H1 Q E
section
variable {K : PySem.W.Frag} {σ : L2.St} {H H' : Hp} {ta tb tc te tx : TE} {t u : TT} {x y z v : V} {r r' : R2} {R R' S : V → Hp → Prop} {D : Ends} {tz : TS}
theorem EvP.mono (e : Ex H H') (h : EvP te σ H R) : EvP te σ H' R := fun H1 a Q q => h H1 (e.trans a) Q q
theorem EvP.imp (h : EvP te σ H R) (k : ∀ v H1, Ex H H1 → R v H1 → S v H1) : EvP te σ H S := fun H1 a Q q => h H1 a Q fun v H2 e r => q v H2 e (k v H2 (a.trans e) r)
theorem EvP.of (h : Ev te σ H v) : EvP te σ H (fun x _ => x = v) := fun H1 a Q q => h H1 a Q fun H2 e => q v H2 e rfl
theorem EvP.ev (h : EvP te σ H fun x _ => x = v) : Ev te σ H v := fun H1 a Q q => h H1 a Q fun x H2 e hx => by
  rw [hx]
  exact q H2 e
theorem EvP.ofL {xs : List V} (h : EvL te σ H xs) : EvP te σ H fun x H2 => ∃ p, x = .ref p ∧ H2 p = some (.lst xs) := fun H1 a Q q => h H1 a Q fun p H2 _ e h2 => q _ H2 e ⟨p, rfl, h2⟩
theorem EvP.ofU {xs : List V} (h : EvU te σ H xs) : EvP te σ H fun x H2 => ∃ p, x = .ref p ∧ H2 p = some (.tup xs) := fun H1 a Q q => h H1 a Q fun p H2 _ e h2 => q _ H2 e ⟨p, rfl, h2⟩
theorem s_retP (h : EvP te σ H R) (k : ∀ v H1, Ex H H1 → R v H1 → D.rt v H1) : tRet te D σ H := h H (Ex.refl H) _ k
theorem q_asgP {i : Nat} (h : EvP te σ H R) (k : ∀ v H1, Ex H H1 → R v H1 → tz D (σ.set i (some v)) H1) : tSeq (tAsg te (gName i)) tz D σ H := h H (Ex.refl H) _ k
theorem s_asgP {i : Nat} (h : EvP te σ H R) (k : ∀ v H1, Ex H H1 → R v H1 → D.nx (σ.set i (some v)) H1) : tAsg te (gName i) D σ H := h H (Ex.refl H) _ k
theorem s_dropP (h : EvP te σ H R) (k : ∀ v H1, Ex H H1 → R v H1 → D.nx σ H1) : tDrop te D σ H := h H (Ex.refl H) _ k
/-- the first operand some value -/
theorem evp_op (ha : EvP ta σ H R) (hb : ∀ x H1, Ex H H1 → R x H1 → EvP tb σ H1 R') (hr : ∀ x y H1 H2, Ex H H1 → R x H1 → Ex H1 H2 → R' y H2 → RVP r x y H2 S) : EvP (tOp r ta tb) σ H S := fun H1 e Q q =>
  ha H1 e _ fun x H2 e2 hx => hb x H2 (e.trans e2) hx H2 (Ex.refl H2) _ fun y H3 e3 hy => hr x y H2 H3 (e.trans e2) hx e3 hy H3 (Ex.refl H3) Q fun v H4 e4 hv => q v H4 ((e2.trans e3).trans e4) hv
theorem ev_opP (ha : Ev ta σ H x) (hb : EvP tb σ H R) (hr : ∀ y H1, Ex H H1 → R y H1 → RV r x y H1 z) : Ev (tOp r ta tb) σ H z := fun H1 e Q q =>
  ha H1 e _ fun H2 e2 => hb H2 (e.trans e2) _ fun y H3 e3 hy => hr y H3 ((e.trans e2).trans e3) hy H3 (Ex.refl H3) Q fun H4 e4 => q H4 ((e2.trans e3).trans e4)
theorem ev_opP1 (ha : EvP ta σ H R) (hb : ∀ x H1, Ex H H1 → R x H1 → Ev tb σ H1 y) (hr : ∀ x H1, Ex H H1 → R x H1 → RV r x y H1 z) : Ev (tOp r ta tb) σ H z := fun H1 e Q q =>
  ha H1 e _ fun x H2 e2 hx => hb x H2 (e.trans e2) hx H2 (Ex.refl H2) _ fun H3 e3 => hr x H2 (e.trans e2) hx H3 e3 Q fun H4 e4 => q H4 ((e2.trans e3).trans e4)
theorem ev_chain {a b : Bool} (ha : Ev ta σ H x) (hb : Ev tb σ H y) (h1 : RV r x y H (.bl a)) (hc : a = true → Ev tc σ H z) (h2 : a = true → RV r' y z H (.bl b)) : Ev (tChain r r' ta tb tc) σ H (.bl (a && b)) := fun H1 e Q q =>
  ha H1 e _ fun H2 e2 => hb H2 (e.trans e2) _ fun H3 e3 => h1 H3 ((e.trans e2).trans e3) _ fun H4 e4 => ⟨a, rfl, by
    have e14 := (e2.trans e3).trans e4
    cases a with
    | true => exact hc rfl H4 (e.trans e14) _ fun H5 e5 => h2 rfl H5 ((e.trans e14).trans e5) Q fun H6 e6 => q H6 ((e14.trans e5).trans e6)
    | false => exact q H4 e14⟩
theorem ev_cb1 {r : List V → Hp → VK → Prop} (h : Ev te σ H x) (hr : RC r [x] H z) : Ev (tCB r (tCons te tNil)) σ H z := ev_cb (ea_cons h ea_nil) hr
theorem ev_cb1P {r : List V → Hp → VK → Prop} (h : EvP te σ H R) (hr : ∀ v H1, Ex H H1 → R v H1 → RC r [v] H1 z) : Ev (tCB r (tCons te tNil)) σ H z := fun H1 e Q q =>
  h H1 e _ fun v H2 e2 hv => hr v H2 (e.trans e2) hv H2 (Ex.refl H2) Q fun H3 e3 => q H3 (e2.trans e3)
theorem evp_cb1P {r : List V → Hp → VK → Prop} (h : EvP te σ H R) (hr : ∀ v H1, Ex H H1 → R v H1 → RCP r [v] H1 S) : EvP (tCB r (tCons te tNil)) σ H S := fun H1 e Q q =>
  h H1 e _ fun v H2 e2 hv => hr v H2 (e.trans e2) hv H2 (Ex.refl H2) Q fun w H3 e3 => q w H3 (e2.trans e3)
theorem evp_cb1 {r : List V → Hp → VK → Prop} (h : Ev te σ H x) (hr : RCP r [x] H S) : EvP (tCB r (tCons te tNil)) σ H S := fun H1 e Q q =>
  h H1 e _ fun H2 e2 => hr H2 (e.trans e2) Q fun w H3 e3 => q w H3 (e2.trans e3)
theorem evp_call {sp : Sp} {dvs vs : List V} {E : XK} {ta : TA} (h : EvA ta σ H vs) (hs : SpP sp (vs ++ dvs) H R) : EvP (tCall sp dvs E ta) σ H R := fun H1 e Q q =>
  h H1 e _ fun H2 e2 => hs H2 (e.trans e2) Q (fun v H3 e3 => q v H3 (e2.trans e3)) E
theorem ev_fld {C : Addr} {f : Str} {a dx : Addr} {fs : List (Str × V)} (h : Ev te σ H (.ref a)) (ha : H a = some (.ins C dx fs)) (c : Cls K C) (n : NoAttr K C f) (l : fs.lookup f = some v) : Ev (tFld K te f) σ H v := fun H1 e Q q =>
  h H1 e _ fun H2 e2 => ⟨a, C, dx, fs, v, rfl, (e.trans e2) _ _ ha, c, n, l, q H2 e2⟩
theorem ev_prop {C : Addr} {sp : Sp} {E : XK} {a dx : Addr} {fs : List (Str × V)} (h : Ev te σ H (.ref a)) (ha : H a = some (.ins C dx fs)) (hs : SpV sp [.ref a] H v) : Ev (tProp C sp [] E te) σ H v := fun H1 e Q q =>
  h H1 e _ fun H2 e2 => ⟨a, dx, fs, rfl, (e.trans e2) _ _ ha, hs H2 (e.trans e2) Q (fun H3 e3 => q H3 (e2.trans e3)) E⟩
theorem evp_prop {C : Addr} {sp : Sp} {E : XK} {a dx : Addr} {fs : List (Str × V)} (h : Ev te σ H (.ref a)) (ha : H a = some (.ins C dx fs)) (hs : SpP sp [.ref a] H R) : EvP (tProp C sp [] E te) σ H R := fun H1 e Q q =>
  h H1 e _ fun H2 e2 => ⟨a, dx, fs, rfl, (e.trans e2) _ _ ha, hs H2 (e.trans e2) Q (fun v H3 e3 => q v H3 (e2.trans e3)) E⟩
theorem evp_if {b : Bool} (h : EvT t σ H b) (h1 : b = true → EvP ta σ H R) (h2 : b = false → EvP tb σ H R) : EvP (tIf t ta tb) σ H R := fun H1 e Q q => h H1 e _ fun H2 e2 => by
  cases b with
  | true =>
    show ta σ H2 Q
    exact h1 rfl H2 (e.trans e2) Q fun v H3 e3 => q v H3 (e2.trans e3)
  | false =>
    show tb σ H2 Q
    exact h2 rfl H2 (e.trans e2) Q fun v H3 e3 => q v H3 (e2.trans e3)
/-! ### built-ins -/
theorem rc_isS {z : Str} : RC (rIsi K) [.str z, .ty "str"] H (.bl true) := fun H1 _ Q q => ⟨_, _, .type "str", .type "str", true, rfl, .ty "str", .base (.str z), kit_ty (by decide +kernel), q H1 (Ex.refl H1)⟩
theorem rc_isT {a : Addr} {xs : List V} (h : Rd H a (.tup xs)) : RC (rIsi K) [.ref a, .ty "tuple"] H (.bl true) := fun H1 e Q q => by
  rcases ex_rd e h with h | ⟨u, h⟩
  · exact ⟨_, _, .type "tuple", .type "tuple", true, rfl, .ty "tuple", .base (.tup h), kit_ty (by decide +kernel), q H1 (Ex.refl H1)⟩
  · exact ⟨_, _, .type "tuple", .type "tuple", true, rfl, .ty "tuple", .fTuple h, kit_ty (by decide +kernel), q H1 (Ex.refl H1)⟩
def rLenAny (K : PySem.W.Frag) : List V → Hp → VK → Prop := fun xs H Q => ∃ x n, xs = [x] ∧ LenV K x H n ∧ Q (.int n) H
theorem rc_lenS {z : Str} (h : z.length ≤ 100000) : RC (rLenAny K) [.str z] H (.int (z.length : Int)) := fun H1 _ Q q => ⟨_, z.length, rfl, ⟨sz_of h, rfl⟩, q H1 (Ex.refl H1)⟩
theorem rc_lenT {a : Addr} {xs : List V} (h : Rd H a (.tup xs)) : RC (rLenAny K) [.ref a] H (.int (xs.length : Int)) := fun H1 e Q q => ⟨_, xs.length, rfl, .inr ⟨xs, .inl (ex_rd e h), rfl⟩, q H1 (Ex.refl H1)⟩
theorem rc_lenL {a : Addr} {xs : List V} (h : SqL K H a xs) : RC (rLenAny K) [.ref a] H (.int (xs.length : Int)) := fun H1 e Q q => ⟨_, xs.length, rfl, .inl ⟨xs, ex_l e h, rfl⟩, q H1 (Ex.refl H1)⟩
theorem rc_all {a : Addr} {bs : List Bool} (h : H a = some (.lst (bs.map V.bl))) (hb : ∀ b ∈ bs, b = true) : RC (rAll K) [.ref a] H (.bl true) := fun H1 e Q q => ⟨a, bs, rfl, .inl (.inl (e _ _ h)), by
  have z : bs.all id = true := List.all_eq_true.mpr fun b hm => hb b hm
  rw [z]
  exact q H1 (Ex.refl H1)⟩
def rTupOf (K : PySem.W.Frag) : List V → Hp → VK → Prop := fun xs H Q => ∃ p ys, xs = [.ref p] ∧ ((SqL K H p ys ∧ ∀ l, H l = none → Q (.ref l) (upd H l (.tup ys))) ∨ (SqT K H p ys ∧ Q (.ref p) H))
theorem rcp_tupL {a : Addr} {xs : List V} (h : H a = some (.lst xs)) : RCP (rTupOf K) [.ref a] H fun v H2 => ∃ p, v = .ref p ∧ H2 p = some (.tup xs) := fun H1 e Q q => ⟨a, xs, rfl, .inl ⟨.inl (.inl (e _ _ h)), fun l hl => q _ _ (Ex.new hl) ⟨l, rfl, upd_same⟩⟩⟩
/-- tuple(e), e a new list -/
theorem evp_tup (h : EvP te σ H fun v H1 => ∃ p xs, v = .ref p ∧ H1 p = some (.lst xs) ∧ ∀ q H2, Ex H1 H2 → H2 q = some (.tup xs) → R (.ref q) H2) : EvP (tCB (rTupOf K) (tCons te tNil)) σ H R :=
  evp_cb1P h fun v H1 _ ⟨p, xs, ev, hp, k⟩ => by
    rw [ev]
    exact fun H2 e2 Q q => rcp_tupL hp H2 e2 Q fun w H3 e3 ⟨p', ew, hw⟩ => q w H3 e3 (by rw [ew]; exact k p' H3 (e2.trans e3) hw)
def rInS1 : R2 := fun x y H Q => ∃ (c : Nat) (z : Str), x = .str ⟨#[c]⟩ ∧ y = .str z ∧ Q (.bl (decide (c ∈ z.cps.toList))) H
theorem rv_sign {c : Nat} {z : Str} : RV rInS1 (.str ⟨#[c]⟩) (.str z) H (.bl (decide (c ∈ z.cps.toList))) := fun H1 _ Q q => ⟨c, z, rfl, rfl, q H1 (Ex.refl H1)⟩
theorem inV_str (z : Str) : ∀ xs : List Str, inV (.str z) (xs.map V.str) = decide (z ∈ xs)
  | [] => rfl
  | x :: xs => by
    have ih := inV_str z xs
    unfold inV at ih ⊢
    rw [List.map_cons, List.any_cons, ih]
    show ((x == z) || decide (z ∈ xs)) = decide (z ∈ x :: xs)
    by_cases e : z = x
    · subst e
      simp
    · have e' : (x == z) = false := beq_eq_false_iff_ne.mpr (Ne.symm e)
      rw [e', Bool.false_or]
      simp [e]
theorem flat_str (xs : List Str) : (xs.map V.str).all flatV = true := List.all_eq_true.mpr fun v hv => by
  obtain ⟨x, _, rfl⟩ := List.mem_map.mp hv
  rfl
theorem inV_nat (i : Nat) : ∀ xs : List Nat, inV (.int (i : Int)) (xs.map fun n : Nat => V.int (n : Int)) = decide (i ∈ xs)
  | [] => rfl
  | x :: xs => by
    have ih := inV_nat i xs
    unfold inV at ih ⊢
    rw [List.map_cons, List.any_cons, ih]
    show (((x : Int) == (i : Int)) || decide (i ∈ xs)) = decide (i ∈ x :: xs)
    by_cases e : i = x
    · subst e
      simp
    · have e' : ((x : Int) == (i : Int)) = false := beq_eq_false_iff_ne.mpr (by omega)
      rw [e', Bool.false_or]
      simp [e]
theorem flat_nat (xs : List Nat) : (xs.map fun n : Nat => V.int (n : Int)).all flatV = true := List.all_eq_true.mpr fun v hv => by
  obtain ⟨x, _, rfl⟩ := List.mem_map.mp hv
  rfl
theorem rv_inS {a : Addr} {z : Str} {xs : List Str} (h : STup H a xs) : RV (rIn K false) (.str z) (.ref a) H (.bl (decide (z ∈ xs))) := by
  have q := rv_isT (K := K) (x := .str z) (.inl h) rfl (flat_str xs)
  rw [inV_str] at q
  exact q
theorem rv_niS {a : Addr} {z : Str} {xs : List Str} (h : STup H a xs) : RV (rIn K true) (.str z) (.ref a) H (.bl (!decide (z ∈ xs))) := by
  have q := rv_niT (K := K) (x := .str z) (.inl h) rfl (flat_str xs)
  rw [inV_str] at q
  exact q
theorem rv_niN {a : Addr} {i : Nat} {xs : List Nat} (h : NLst H a xs) : RV (rIn K true) (.int (i : Int)) (.ref a) H (.bl (!decide (i ∈ xs))) := by
  have q := rv_niL (K := K) (x := .int (i : Int)) (sq_of h) rfl (flat_nat xs)
  rw [inV_nat] at q
  exact q
/-! ### pairs of texts as data -/
def pairD (t : Str × Str) : PyData := .tuple [.str t.1, .str t.2]
def PkOk (t : Str × Str) : Prop := PyData.strOk t.1 = true ∧ PyData.strOk t.2 = true
theorem sign_ok : ∀ c, (letB c || digB c) = true → c < 0x110000 := fun c h => by
  have h1 : ∀ d ∈ (Str.ofString "abcdefghijklmnopqrstuvwxyz").cps.toList, d < 0x110000 := by decide +kernel
  have h2 : ∀ d ∈ (Str.ofString "0123456789").cps.toList, d < 0x110000 := by decide +kernel
  rcases Bool.or_eq_true _ _ ▸ h with h | h
  · exact h1 c (of_decide_eq_true h)
  · exact h2 c (of_decide_eq_true h)
theorem nameB_out {z : Str} (h : nameB z = true) : ∃ c r, z.cps.toList = c :: r ∧ r.length < 8 ∧ letB c = true ∧ ∀ d ∈ c :: r, (letB d || digB d) = true := by
  unfold nameB at h
  split at h
  · cases h
  · rename_i c r e
    simp only [Bool.and_eq_true, decide_eq_true_eq, List.all_eq_true] at h
    exact ⟨c, r, e, h.1, h.2.1, h.2.2⟩
theorem nameB_len {z : Str} (h : nameB z = true) : 1 ≤ z.length ∧ z.length ≤ 8 := by
  obtain ⟨c, r, e, h1, _⟩ := nameB_out h
  have e2 : z.length = z.cps.toList.length := by simp [Str.length]
  rw [e2, e, List.length_cons]
  omega
theorem nameB_strOk {z : Str} (h : nameB z = true) : PyData.strOk z = true := by
  obtain ⟨c, r, e, _, _, h2⟩ := nameB_out h
  unfold PyData.strOk
  rw [← Array.all_toList, e, List.all_eq_true]
  intro d hd
  exact decide_eq_true (sign_ok d (h2 d hd))
theorem PkOk.of {t : Str × Str} (h1 : nameB t.1 = true) (h2 : nameB t.2 = true) : PkOk t := ⟨nameB_strOk h1, nameB_strOk h2⟩
theorem Wk.Ok.pk {W : Wk} (h : W.Ok) : ∀ t ∈ W.ts, PkOk t := fun t ht => .of (h.nm _ (h.ties t ht).1) (h.nm _ (h.ties t ht).2.1)
theorem pairD_lay (t : Str × Str) (h : PkOk t) : (pairD t).canLay0 = true := by
  have h1 := h.1
  have h2 := h.2
  simp [pairD, PyData.canLay0, PyData.canLayAll0, h1, h2]
theorem pairD_depth (t : Str × Str) : (pairD t).depth = 1 := by simp [pairD, PyData.depth, PyData.depthAll]
theorem pairsD_lay : ∀ ts : List (Str × Str), (∀ t ∈ ts, PkOk t) → PyData.canLayAll0 (ts.map pairD) = true
  | [], _ => by simp [PyData.canLayAll0]
  | t :: ts, h => by simp [PyData.canLayAll0, pairD_lay t (h t List.mem_cons_self), pairsD_lay ts fun u hu => h u (List.mem_cons_of_mem _ hu)]
theorem pairsD_depth : ∀ ts : List (Str × Str), PyData.depthAll (ts.map pairD) ≤ 1
  | [] => by simp [PyData.depthAll]
  | t :: ts => by
    have h1 := pairsD_depth ts
    have h2 := pairD_depth t
    simp only [List.map_cons, PyData.depthAll]
    omega
theorem pairD_shaped (t : Str × Str) (ho : PkOk t) : SeqAt.shaped (pairD t) = true := by
  have h := pairD_depth t
  show ((pairD t).canLay0 && decide ((pairD t).depth ≤ 64)) = true
  rw [Bool.and_eq_true]
  exact ⟨pairD_lay t ho, decide_eq_true (by omega)⟩
theorem pairsD_shaped (ts : List (Str × Str)) (ho : ∀ t ∈ ts, PkOk t) : SeqAt.shaped (.tuple (ts.map pairD)) = true := by
  have h1 := pairsD_depth ts
  have h2 : PyData.depth (.tuple (ts.map pairD)) ≤ 64 := by
    simp only [PyData.depth]
    omega
  show (PyData.canLay0 (.tuple (ts.map pairD)) && decide (PyData.depth (.tuple (ts.map pairD)) ≤ 64)) = true
  rw [Bool.and_eq_true]
  exact ⟨by simp only [PyData.canLay0]; exact pairsD_lay ts ho, decide_eq_true h2⟩
theorem pairD_eqv (t u : Str × Str) : PyData.eqv (pairD t) (pairD u) = decide (t = u) := by
  obtain ⟨a, b⟩ := t
  obtain ⟨c, d⟩ := u
  have e : PyData.eqv (pairD (a, b)) (pairD (c, d)) = ((a == c) && ((b == d) && true)) := by simp only [pairD, PyData.eqv, PyData.eqvAll]
  rw [e]
  by_cases h1 : a = c
  · by_cases h2 : b = d
    · subst h1 h2
      simp
    · have q : (b == d) = false := beq_eq_false_iff_ne.mpr h2
      rw [q, decide_eq_false (fun z => h2 (congrArg Prod.snd z))]
      simp
  · have q : (a == c) = false := beq_eq_false_iff_ne.mpr h1
    rw [q, decide_eq_false (fun z => h1 (congrArg Prod.fst z))]
    rfl
theorem pair_dp {p : Addr} {t : Str × Str} (h : PairAt H p t) : Dp K H (.ref p) (pairD t) := .tup (.inl (.inl h)) (.cons (.str _) (.cons (.str _) .nil))
theorem pairs_dp : ∀ {as : List Addr} {ts : List (Str × Str)}, Paired (PairAt H) as ts → DpAll K H (as.map V.ref) (ts.map pairD)
  | _, _, .nil => .nil
  | _, _, .cons h t => .cons (pair_dp h) (pairs_dp t)
theorem ptup_dp {a : Addr} {ts : List (Str × Str)} (h : PTup H a ts) : Dp K H (.ref a) (.tuple (ts.map pairD)) := by
  obtain ⟨as, e, p⟩ := h
  exact .tup (.inl e) (pairs_dp p)
theorem any_pair (t : Str × Str) (ts : List (Str × Str)) : ((ts.map pairD).any fun z => PyData.eqv z (pairD t)) = decide (t ∈ ts) := by
  induction ts with
  | nil => rfl
  | cons u ts ih =>
    rw [List.map_cons, List.any_cons, ih, pairD_eqv]
    by_cases e : t = u
    · subst e
      simp
    · rw [decide_eq_false (Ne.symm e), Bool.false_or]
      simp [e]
theorem PairAt.ex {p : Addr} {t : Str × Str} (h : PairAt H p t) (e : Ex H H') : PairAt H' p t := e _ _ h
theorem rv_inP {a p : Addr} {t : Str × Str} {ts : List (Str × Str)} (hp : PairAt H p t) (ha : PTup H a ts) (ho : PkOk t) (hos : ∀ u ∈ ts, PkOk u) : RV (rInU K) (.ref p) (.ref a) H (.bl (decide (t ∈ ts))) := fun H1 e Q q =>
  ⟨_, _, pair_dp (hp.ex e), ptup_dp (ha.ex e), pairD_shaped t ho, pairsD_shaped ts hos, by rw [any_pair]; exact q H1 (Ex.refl H1)⟩
theorem rv_niP {a p : Addr} {t : Str × Str} {ts : List (Str × Str)} (hp : PairAt H p t) (ha : PTup H a ts) (ho : PkOk t) (hos : ∀ u ∈ ts, PkOk u) : RV (rNotInU K) (.ref p) (.ref a) H (.bl (!decide (t ∈ ts))) := fun H1 e Q q =>
  ⟨_, _, pair_dp (hp.ex e), ptup_dp (ha.ex e), pairD_shaped t ho, pairsD_shaped ts hos, by rw [any_pair]; exact q H1 (Ex.refl H1)⟩
theorem rv_neP {p q : Addr} {t u : Str × Str} (hp : PairAt H p t) (hq : PairAt H q u) (ho : PkOk t) (hou : PkOk u) : RV (rNeD K) (.ref p) (.ref q) H (.bl (!decide (t = u))) := fun H1 e Q k =>
  ⟨_, _, pair_dp (hp.ex e), pair_dp (hq.ex e), pairD_shaped t ho, pairD_shaped u hou, by rw [pairD_eqv]; exact k H1 (Ex.refl H1)⟩
/-- t[:i], a tuple's beginning -/
theorem evp_take {a : Addr} {xs : List V} {i : Nat} (h : Ev te σ H (.ref a)) (ha : Rd H a (.tup xs)) {ti : TO} (hi : EvO ti σ H (some (i : Int))) : EvP (tSl (rSlA K) te tNoPart ti) σ H fun v H1 => ∃ p, v = .ref p ∧ Rd H1 p (.tup (xs.take i)) := fun H1 e Q q =>
  h H1 e _ fun H2 e2 => show tNoPart σ H2 _ from hi H2 (e.trans e2) _ fun H3 e3 => by
    have e' := (e.trans e2).trans e3
    have hx := ex_rd e' ha
    refine ⟨a, xs, rfl, .inl hx, fun hw => ?_, fun _ p hp => ?_⟩
    · refine q _ H3 (e2.trans e3) ⟨a, rfl, ?_⟩
      rw [HT.sIx_nat] at hw
      rw [List.take_of_length_le (by omega)]
      exact hx
    · refine q _ _ ((e2.trans e3).trans (Ex.new hp)) ⟨p, rfl, .inl ?_⟩
      rw [upd_same]
      have ec : cutV xs none (some (i : Int)) = xs.take i := by
        unfold cutV
        rw [HT.sIx_nat, HT.sIx_none]
        by_cases h1 : i ≤ xs.length
        · rw [Nat.min_eq_left h1]
          simp
        · rw [Nat.min_eq_right (by omega), List.take_of_length_le (by omega : xs.length ≤ i)]
          simp
      rw [ec]
end
end K54
/-! K11 -/
namespace K54
open PySem PySem.Spec PyProof.Rows L2 LamX NdefX Evl
/-! ### what is gone over -/
def WalkE (J : It) (n : Nat) (Y : Nat → Hp → V → Hp → Prop) (H : Hp) : Prop := ∃ G : Hp → Prop, Walk J n G Y ∧ (∀ H1 H2, Ex H1 H2 → G H1 → G H2) ∧ G H
def EvI (wi : TI) (σ : L2.St) (H : Hp) (n : Nat) (Y : Nat → Hp → V → Hp → Prop) : Prop := ∀ H1, Ex H H1 → ∀ Rk : It → Hp → Prop, (∀ J H2, Ex H1 H2 → WalkE J n Y H2 → Rk J H2) → wi σ H1 Rk
def EvG (g : TG) (x : V) (σ : L2.St) (H : Hp) (M : L2.St → Hp → Prop) : Prop := ∀ Kk : L2.St → Hp → Prop, (∀ σ2 H2, Ex H H2 → M σ2 H2 → Kk σ2 H2) → g x σ H Kk
def Yx (Y : Nat → Hp → V → Hp → Prop) : Prop := ∀ i H x H', Y i H x H' → Ex H H'
/-- holds on, whatever list is changed -/
def Stb (R : Nat → V → Hp → Prop) : Prop := ∀ i v bs H H', Fm bs H H' → Mb H bs → R i v H → R i v H'
def YStr (z : Str) : Nat → Hp → V → Hp → Prop := fun i H v H' => H' = H ∧ ∃ c, z.cps[i]? = some c ∧ v = .str ⟨#[c]⟩
theorem yx_at {xs : List V} : Yx (YAt xs) := fun _ H _ _ y => by rw [y.1]; exact Ex.refl H
theorem yx_fn {f : Nat → V} : Yx (YFn f) := fun _ H _ _ y => by rw [y.1]; exact Ex.refl H
theorem yx_str {z : Str} : Yx (YStr z) := fun _ H _ _ y => by rw [y.1]; exact Ex.refl H
theorem yx_pair {xs ys : Nat → Option V} : Yx (YPair xs ys) := fun _ H _ _ ⟨T, x, y, _, n, e, _, _⟩ => by rw [e]; exact Ex.new n
section
variable {K : PySem.W.Frag} {σ : L2.St} {H H' : Hp} {g : TG} {x u v : V} {M : L2.St → Hp → Prop} {te tl : TE} {ta : TA} {xs : List V} {a : Addr} {tt : TT} {wi : TI} {n : Nat} {Y : Nat → Hp → V → Hp → Prop}
theorem eg_name {i : Nat} (m : M (σ.set i (some x)) H) : EvG (gName i) x σ H M := fun _ k => k _ _ (Ex.refl H) m
theorem eg_two {i j : Nat} (h : H a = some (.tup [u, v])) (m : M ((σ.set i (some u)).set j (some v)) H) : EvG (gTup K 2 (gCons (gName i) (gCons (gName j) gNil))) (.ref a) σ H M :=
  fun _ k => ⟨a, _, rfl, .inl (.inl h), rfl, _, _, rfl, _, _, rfl, rfl, k _ _ (Ex.refl H) m⟩
theorem ei_tup (h : Ev tl σ H (.ref a)) (ha : Rd H a (.tup xs)) : EvI (iTup K tl) σ H xs.length (YAt xs) := fun H1 e Rk q => h H1 e _ fun H2 e2 =>
  ⟨a, rfl, ⟨xs, .inl (ex_rd (e.trans e2) ha)⟩, q _ H2 e2 ⟨_, walk_tup, fun _ _ e z => ex_t e z, .inl (ex_rd (e.trans e2) ha)⟩⟩
theorem ei_tupP (h : EvP tl σ H fun v H1 => ∃ p, v = .ref p ∧ H1 p = some (.tup xs)) : EvI (iTup K tl) σ H xs.length (YAt xs) := fun H1 e Rk q => h H1 e _ fun v H2 e2 ⟨p, ev, hp⟩ => by
  subst ev
  exact ⟨p, rfl, ⟨xs, st_of hp⟩, q _ H2 e2 ⟨_, walk_tup, fun _ _ e z => ex_t e z, st_of hp⟩⟩
theorem ei_lst (h : EvP tl σ H fun v H1 => ∃ p, v = .ref p ∧ H1 p = some (.lst xs)) : EvI (iList K tl) σ H xs.length (YAt xs) := fun H1 e Rk q => h H1 e _ fun v H2 e2 ⟨p, ev, hp⟩ => by
  subst ev
  exact ⟨p, rfl, ⟨xs, sq_of hp⟩, q _ H2 e2 ⟨_, walk_list, fun _ _ e z => ex_l e z, sq_of hp⟩⟩
theorem ei_str {z : Str} (h : Ev te σ H (.str z)) : EvI (iStr te) σ H z.cps.size (YStr z) := fun H1 e Rk q => h H1 e _ fun H2 e2 =>
  ⟨z, rfl, q _ H2 e2 ⟨_, walk_str, fun _ _ _ _ => trivial, trivial⟩⟩
theorem ei_enum (h : EvA ta σ H [.ref a]) (ha : Rd H a (.tup xs)) : EvI (iEnumU K ta) σ H xs.length (YPair (fun i => some (.int (i : Nat))) fun i => xs[i]?) := fun H1 e Rk q => h H1 e _ fun H2 e2 =>
  ⟨a, xs, rfl, .inl (ex_rd (e.trans e2) ha), q _ H2 e2 ⟨_, walk_enumU, fun _ _ e z => ex_t e z, .inl (ex_rd (e.trans e2) ha)⟩⟩
theorem ei_rng {n : Nat} (h : EvA ta σ H [.int (n : Int)]) (hn : n ≤ 100000) : EvI (iRng1 ta) σ H n (YFn fun i => .int (i : Int)) := fun H1 e Rk q => h H1 e _ fun H2 e2 => by
  refine ⟨(n : Int), rfl, by omega, by omega, ?_⟩
  refine q _ H2 e2 ⟨fun _ => True, ?_, fun _ _ _ _ => trivial, trivial⟩
  have w := walk_range (lo := 0) (n := (n : Int).toNat)
  have e0 : (n : Int).toNat = n := by omega
  rw [e0] at w ⊢
  exact w.mono (fun _ _ => trivial) fun i H x H' _ _ y => ⟨y.1, by rw [y.2]; exact congrArg V.int (Int.zero_add _)⟩
theorem range_yes {f : Nat → Bool} {i : Nat} (h : f i = true) : (List.range (i + 1)).filter f = (List.range i).filter f ++ [i] := by
  rw [List.range_succ, List.filter_append, List.filter_cons, if_pos h] <;> rfl
theorem range_no {f : Nat → Bool} {i : Nat} (h : f i = false) : (List.range (i + 1)).filter f = (List.range i).filter f := by
  rw [List.range_succ, List.filter_append, List.filter_cons, if_neg (by rw [h]; decide)]
  show _ ++ [] = _
  rw [List.append_nil]
theorem paired_snoc {α β : Type} {F : α → β → Prop} : ∀ {as : List α} {bs : List β} {a : α} {b : β}, Paired F as bs → F a b → Paired F (as ++ [a]) (bs ++ [b])
  | _, _, _, _, .nil, h => .cons h .nil
  | _, _, _, _, .cons h t, h' => .cons h (paired_snoc t h')
theorem paired_length {α β : Type} {F : α → β → Prop} : ∀ {as : List α} {bs : List β}, Paired F as bs → as.length = bs.length
  | _, _, .nil => rfl
  | _, _, .cons _ t => congrArg Nat.succ (paired_length t)
theorem paired_app {α β : Type} {F : α → β → Prop} : ∀ {as as' : List α} {bs bs' : List β}, Paired F as bs → Paired F as' bs' → Paired F (as ++ as') (bs ++ bs')
  | _, _, _, _, .nil, h => h
  | _, _, _, _, .cons h t, h' => .cons h (paired_app t h')
theorem paired_at {α β : Type} {F : α → β → Prop} : ∀ {as : List α} {bs : List β} {i : Nat} {a : α}, Paired F as bs → as[i]? = some a → ∃ b, bs[i]? = some b ∧ F a b
  | _, _, 0, _, .cons h _, e => ⟨_, rfl, by cases e; exact h⟩
  | _, _, i + 1, _, .cons _ t, e => by
    have e' : _ = some _ := e
    exact paired_at (i := i) t (by simpa using e')
theorem paired_at2 {α β : Type} {F : α → β → Prop} : ∀ {as : List α} {bs : List β} {i : Nat} {b : β}, Paired F as bs → bs[i]? = some b → ∃ a, as[i]? = some a ∧ F a b
  | _, _, 0, _, .cons h _, e => ⟨_, rfl, by cases e; exact h⟩
  | _, _, i + 1, _, .cons _ t, e => by
    have e' : _ = some _ := e
    exact paired_at2 (i := i) t (by simpa using e')
theorem paired_eq {α β : Type} {F : α → β} : ∀ {as : List α} {bs : List β}, Paired (fun a b => b = F a) as bs → bs = as.map F
  | _, _, .nil => rfl
  | _, _, .cons h t => by rw [h, paired_eq t]; rfl
/-- a comprehension: each turn that gives adds a value of which R holds -/
theorem lcP {vs : List Nat} (f : Nat → Bool) (R : Nat → V → Hp → Prop) (st : Stb R) (h : EvI wi σ H n Y) (yx : Yx Y) (hn : n ≤ 40000)
    (hs : ∀ i x Hc Hd, i < n → Ex H Hc → Y i Hc x Hd → EvG g x (wipe σ vs) Hd fun σ2 H2 => wipe σ2 vs = wipe σ vs ∧ EvT tt σ2 H2 (f i) ∧ (f i = true → EvP te σ2 H2 (R i))) :
    EvP (tLc wi g tt te vs) σ H fun v H' => ∃ p ws, v = .ref p ∧ H' p = some (.lst ws) ∧ Paired (fun i w => R i w H') ((List.range n).filter f) ws := fun H0 e Q q =>
  h H0 e _ fun J H1 e1 ⟨G, w, gm, hG⟩ => fun D hD => by
    refine lc_it w (fun i Hc => H1 D = none ∧ Ex H1 Hc ∧ ∃ ws, Hc D = some (.lst ws) ∧ ws.length ≤ i ∧ Paired (fun i w => R i w Hc) ((List.range i).filter f) ws) ⟨hD, Ex.new hD, [], upd_same, Nat.zero_le _, .nil⟩ (fun i Hc _ p => gm _ _ p.2.1 hG) (fun i x Hc Hd hi p y => ?_) (fun Hc p => ?_)
    · obtain ⟨p1, p2, ws, p3, p4, p5⟩ := p
      have ey := yx _ _ _ _ y
      refine hs i x Hc Hd hi ((e.trans e1).trans p2) y _ fun σ2 H2 e2 ⟨m1, m2, m3⟩ => ⟨m1, m2 H2 (Ex.refl H2) _ fun H3 e3 => ?_⟩
      have e03 := (ey.trans e2).trans e3
      cases hf : f i with
      | true =>
        show te σ2 H3 _
        refine m3 hf H3 e3 _ fun v H4 e4 hv => ⟨ws, (e03.trans e4) _ _ p3, sz_lt (by omega), p1, Ex.mut ((p2.trans e03).trans e4) p1, ws ++ [v], upd_same, by rw [List.length_append]; show _ + 1 ≤ _; omega, ?_⟩
        have hD4 := (e03.trans e4) _ _ p3
        rw [range_yes hf]
        refine paired_snoc (L2.Paired.mapP p5 fun j w r => ?_) ?_
        · exact st j w [D] H4 _ Fm.put (Mb.lst hD4 Mb.nil) (st j w [] Hc H4 (Fm.of (e03.trans e4)) Mb.nil r)
        · exact st i v [D] H4 _ Fm.put (Mb.lst hD4 Mb.nil) hv
      | false =>
        show H1 D = none ∧ _
        refine ⟨p1, p2.trans e03, ws, e03 _ _ p3, by omega, ?_⟩
        rw [range_no hf]
        exact L2.Paired.mapP p5 fun j w r => st j w [] Hc H3 (Fm.of e03) Mb.nil r
    · obtain ⟨p1, p2, ws, p3, p4, p5⟩ := p
      exact q _ Hc (e1.trans p2) ⟨D, ws, rfl, p3, p5⟩
/-- .. with told values -/
theorem lcV {vs : List Nat} (f : Nat → Bool) (val : Nat → V) (h : EvI wi σ H n Y) (yx : Yx Y) (hn : n ≤ 40000)
    (hs : ∀ i x Hc Hd, i < n → Ex H Hc → Y i Hc x Hd → EvG g x (wipe σ vs) Hd fun σ2 H2 => wipe σ2 vs = wipe σ vs ∧ EvT tt σ2 H2 (f i) ∧ (f i = true → Ev te σ2 H2 (val i))) :
    EvP (tLc wi g tt te vs) σ H fun v H' => ∃ p, v = .ref p ∧ H' p = some (.lst (given n f val)) :=
  (lcP f (fun i v _ => v = val i) (fun _ _ _ _ _ _ _ h => h) h yx hn fun i x Hc Hd hi e y Kk k => hs i x Hc Hd hi e y Kk fun σ2 H2 e2 ⟨m1, m2, m3⟩ => k σ2 H2 e2 ⟨m1, m2, fun hf => EvP.of (m3 hf)⟩).imp
    fun v H1 _ ⟨p, ws, ev, hp, pr⟩ => ⟨p, ev, by rw [hp, paired_eq pr]; rfl⟩
theorem given_all {n : Nat} {f : Nat → Bool} {val : Nat → V} (h : ∀ i, i < n → f i = true) : given n f val = (List.range n).map val := by
  unfold given
  rw [List.filter_eq_self.mpr fun i hi => h i (List.mem_range.mp hi)]
theorem map_range_at {α β : Type} (xs : List α) (F : α → β) (G : Nat → β) (h : ∀ i x, xs[i]? = some x → G i = F x) : (List.range xs.length).map G = xs.map F := by
  apply List.ext_getElem
  · simp
  · intro i h1 h2
    have hi : i < xs.length := by simpa using h1
    simp only [List.getElem_map, List.getElem_range]
    exact h i _ (List.getElem?_eq_getElem hi)
/-- a for over it: the heap only grows -/
theorem s_forI {tb : TS} {D : Ends} (h : EvI wi σ H n Y) (yx : Yx Y) (Pv : Nat → L2.St → Hp → Prop) (h0 : ∀ H1, Ex H H1 → Pv 0 σ H1)
    (hs : ∀ Hb i x σ' Hc Hd, i < n → Ex H Hb → Ex Hb Hc → Pv i σ' Hc → Y i Hc x Hd → EvG g x σ' Hd fun σ2 H2 => tb { D with nx := fun σ3 H3 => Ex Hb H3 ∧ Pv (i + 1) σ3 H3, ct := fun σ3 H3 => Ex Hb H3 ∧ Pv (i + 1) σ3 H3, bk := D.nx } σ2 H2)
    (hd : ∀ σ' H', Ex H H' → Pv n σ' H' → D.nx σ' H') : tFor wi g tb D σ H :=
  h H (Ex.refl H) _ fun J H1 e1 ⟨G, w, gm, hG⟩ =>
    for_it w (fun i σ' Hc => Ex H1 Hc ∧ Pv i σ' Hc) ⟨Ex.refl H1, h0 H1 e1⟩ (fun i σ' Hc _ p => gm _ _ p.1 hG)
      (fun i x σ' Hc Hd hi p y => hs H1 i x σ' Hc Hd hi e1 p.1 p.2 y _ fun σ2 H2 e2 m => m)
      (fun σ' Hc p => hd σ' Hc (e1.trans p.1) p.2)
theorem q_forI {tb tz : TS} {D : Ends} (h : EvI wi σ H n Y) (yx : Yx Y) (Pv : Nat → L2.St → Hp → Prop) (h0 : ∀ H1, Ex H H1 → Pv 0 σ H1)
    (hs : ∀ Hb i x σ' Hc Hd, i < n → Ex H Hb → Ex Hb Hc → Pv i σ' Hc → Y i Hc x Hd → EvG g x σ' Hd fun σ2 H2 => tb { D with nx := fun σ3 H3 => Ex Hb H3 ∧ Pv (i + 1) σ3 H3, ct := fun σ3 H3 => Ex Hb H3 ∧ Pv (i + 1) σ3 H3, bk := tz D } σ2 H2)
    (hd : ∀ σ' H', Ex H H' → Pv n σ' H' → tz D σ' H') : tSeq (tFor wi g tb) tz D σ H := s_forI (D := { D with nx := tz D }) h yx Pv h0 hs hd
end
end K54
/-! K12 -/
namespace K54
open PySem PySem.Spec PyProof.Rows L2 LamX NdefX Evl
section
variable {K : PySem.W.Frag} {σ : L2.St} {H H' : Hp} {te : TE}
theorem et_yes : EvT tYes σ H true := fun H1 _ Q q => q H1 (Ex.refl H1)
theorem rc_allT {a : Addr} {ws : List V} (h : H a = some (.lst ws)) (hb : ∀ w ∈ ws, w = .bl true) : RC (rAll K) [.ref a] H (.bl true) := by
  have e : ws = (List.replicate ws.length true).map V.bl := by
    rw [List.map_replicate]
    exact List.eq_replicate_iff.mpr ⟨rfl, hb⟩
  rw [e] at h
  exact rc_all h fun b hb' => (List.mem_replicate.mp hb').2
theorem given_mem {n : Nat} {f : Nat → Bool} {val : Nat → V} {w : V} (h : w ∈ given n f val) : ∃ i, i < n ∧ f i = true ∧ w = val i := by
  unfold given at h
  obtain ⟨i, hi, rfl⟩ := List.mem_map.mp h
  have q := List.mem_filter.mp hi
  exact ⟨i, List.mem_range.mp q.1, q.2, rfl⟩
end
variable {P : Program} {w : World} {K : PySem.W.Frag} {mg : Str → Option Value} {base : Heap}
/-! ### is_name -/
def spIsName : Sp := fun vs H Q _ => ∃ z : Str, vs = [.str z] ∧ nameB z = true ∧ ∀ H', Ex H H' → Q (.bl true) H'
theorem v_is_name {z : Str} {H : Hp} (h : nameB z = true) : SpV spIsName [.str z] H (.bl true) := fun H1 _ Q q _ => ⟨z, rfl, h, q⟩
theorem scIsName : FnScope ["value", "sign"] ["value"] (defScope sIsName) := ⟨rfl, rfl, rfl, by decide +kernel, rfl, by decide +kernel, by decide +kernel⟩
theorem ok_is_name (T : Tp K mg) : C8.Cal P w K mg base 1 "is_name" spIsName [] := by
  obtain ⟨fd, F⟩ := T.f_is_name
  refine ⟨_, fd, ["value"], [], ?_, T.g_is_name, F.kp, F.bindsN (fun _ _ _ _ _ _ us hl => match us, hl with | [_], _ => rfl), .nil⟩
  refine F.ok scIsName (fun vs H Q E h => ?_) (fun cdv A outer s H vs Q E hr h => ?_)
  · obtain ⟨z, rfl, _⟩ := h
    rfl
  · obtain ⟨z, rfl, hz, k⟩ := h
    obtain ⟨c, r, ez, hl, hc, hall⟩ := nameB_out hz
    have hlen := nameB_len hz
    refine ⟨_, PSs.nox (pss_cons (ps_if (PW.pt (pw_or (pt_not (pt_val (pis T.z_isinstance T.z_str PyProof.Rows.boot_str (pv 0))))
      (pw_or1 (pt_not (pt_chain op_le op_le pe_int (pb call_len T.z_len PySem.boot_len (pv 0)) (pgI T.i_LONGEST_NAME)))))) (pss_one (ps_ret pe_bl)) pss_nil)
      (pss_one (ps_ret (pe_and (pe_cmpR op_in_sign (pe_ix ix_str (pv 0) pe_int (fun _ _ => rfl)) (pgS T.t_LETTERS) rfl)
        (pe_one (pb (cr_all rfl) T.z_all PyProof.Rows.boot_all (pe_lc (own := [("sign", 1)]) (g := gName 1) (tt := tYes) rfl scIsName.nd (pi_str (pv 0)) (blkOk_by (N := ["value", "sign"]) (sc := defScope sIsName) (by decide +kernel))
          (fun _ _ _ _ _ => pg_name (i := 1) scIsName.nd rfl (Or.inl rfl)) (fun _ _ _ _ _ => pts_nil)
          (fun _ _ _ _ _ => pe_or (pe_cmpR op_in_sign (pv 1) (pgS T.t_LETTERS) rfl) (pe_one (pe_cmpR op_in_sign (pv 1) (pgS T.t_DIGITS) rfl)))))))))), ?_⟩
    refine q_when (b := false) (et_is (et_or (et_not (et_B (ev_cb (ea_cons (ev_var rfl) (ea_cons ev_c ea_nil)) rc_isS))) (fun _ => et_not (et_test (ev_chain ev_c (ev_cb1 (ev_var rfl) (rc_lenS (by omega))) rv_I0 (fun _ => ev_c) (fun _ => rv_I0))))) ?_) nofun (fun _ H1 e1 => ?_)
    · have h1 : decide ((1 : Int) ≤ (z.length : Int)) = true := decide_eq_true (by omega)
      have h2 : decide ((z.length : Int) ≤ 8) = true := decide_eq_true (by omega)
      rw [h1, h2]
      rfl
    · refine s_ret (v := .bl true) (ev_is (ev_andV (b := true) (ev_op (ev_op (ev_var rfl) ev_c (rv_ixS (c := c) (by omega) (by rw [ez]; exact atI_nat (j := 0) rfl))) ev_c rv_sign) (fun _ => ev_cb1P (lcV (fun _ => true) (fun _ => .bl true) (ei_str (ev_var rfl)) yx_str (by have : z.cps.size = z.length := rfl; omega) (fun i x Hc Hd hi e y => ?_)) fun v H2 e2 hv => ?_)) ?_) fun H2 e2 => k H2 (e1.trans e2)
      · obtain ⟨rfl, d, hd, rfl⟩ := y
        have hd' : d ∈ c :: r := by
          rw [← ez]
          rw [← Array.getElem?_toList] at hd
          exact List.mem_of_getElem? hd
        have hq := hall d hd'
        refine eg_name ⟨rfl, et_yes, fun _ => ev_is (ev_orV (ev_op (ev_var rfl) ev_c rv_sign) (fun _ => ev_op (ev_var rfl) ev_c rv_sign)) ?_⟩
        exact congrArg V.bl hq
      · obtain ⟨p, rfl, hp⟩ := hv
        exact rc_allT hp fun w hw => by
          obtain ⟨_, _, _, e⟩ := given_mem hw
          exact e
      · have : letB c = true := hc
        unfold letB at this
        rw [this]
        rfl
end K54
/-! K13 -/
namespace K54
open PySem PySem.Spec PyProof.Rows L2 LamX NdefX Evl
section
variable {K : PySem.W.Frag} {σ : L2.St} {H H' : Hp} {te ta tb to : TE} {v x : V} {R R' S : V → Hp → Prop}
/-- a list / a tuple of these -/
def IsL (xs : List V) : V → Hp → Prop := fun v H => ∃ p, v = .ref p ∧ H p = some (.lst xs)
def IsU (xs : List V) : V → Hp → Prop := fun v H => ∃ p, v = .ref p ∧ Rd H p (.tup xs)
def joinSum (a : Str) (ys : List Str) : Nat := (ys.map (·.length)).sum + ys.length * a.length
def rJoin (K : PySem.W.Frag) : V → List V → Hp → VK → Prop := fun x xs H Q => ∃ a p, ∃ ys : List Str, x = .str a ∧ xs = [.ref p] ∧ (SqL K H p (ys.map V.str) ∨ SqT K H p (ys.map V.str)) ∧
      (ys.map (·.length)).sum + ys.length * a.length ≤ 16777216 ∧ Q (.str (Txt.join a ys)) H
theorem ev_joinL {a : Str} {ys : List Str} (h0 : Ev to σ H (.str a)) (h : EvP te σ H (IsL (ys.map V.str))) (hz : joinSum a ys ≤ 16777216) : Ev (tM1 (rJoin K) to te) σ H (.str (Txt.join a ys)) := fun H1 e Q q =>
  h0 H1 e _ fun H2 e2 => ⟨⟨a, rfl⟩, h H2 (e.trans e2) _ fun v H3 e3 ⟨p, ev, hp⟩ => by
    subst ev
    exact ⟨a, p, ys, rfl, rfl, .inl (sq_of hp), hz, q H3 (e2.trans e3)⟩⟩
theorem ev_joinT {a : Str} {ys : List Str} {p : Addr} (h0 : Ev to σ H (.str a)) (h : Ev te σ H (.ref p)) (hp : STup H p ys) (hz : joinSum a ys ≤ 16777216) : Ev (tM1 (rJoin K) to te) σ H (.str (Txt.join a ys)) := fun H1 e Q q =>
  h0 H1 e _ fun H2 e2 => ⟨⟨a, rfl⟩, h H2 (e.trans e2) _ fun H3 e3 => ⟨a, p, ys, rfl, rfl, .inr (.inl (ex_rd ((e.trans e2).trans e3) hp)), hz, q H3 (e2.trans e3)⟩⟩
def rSplit : V → List V → Hp → VK → Prop := fun x xs H Q => ∃ a b, x = .str a ∧ xs = [.str b] ∧ (b.length == 0) = false ∧ a.length + 2 ≤ sizeLine ∧ rNewStrs (Txt.split a b) H Q
theorem evp_split {a b : Str} (h0 : Ev to σ H (.str a)) (h : Ev te σ H (.str b)) (hb : (b.length == 0) = false) (ha : a.length ≤ 100000) : EvP (tM1 rSplit to te) σ H (IsL ((Txt.split a b).map V.str)) := fun H1 e Q q =>
  h0 H1 e _ fun H2 e2 => ⟨⟨a, rfl⟩, h H2 (e.trans e2) _ fun H3 e3 => ⟨a, b, rfl, rfl, hb, Nat.le_trans (Nat.add_le_add_right ha 2) (by decide), fun p hp => q _ _ ((e2.trans e3).trans (Ex.new hp)) ⟨p, rfl, upd_same⟩⟩⟩
theorem evp_cat {xs ys : List V} (ha : EvP ta σ H (IsL xs)) (hb : ∀ H1, Ex H H1 → EvP tb σ H1 (IsL ys)) (hz : xs.length + ys.length ≤ 100000) : EvP (tOp rCat ta tb) σ H (IsL (xs ++ ys)) := fun H1 e Q q =>
  ha H1 e _ fun v H2 e2 ⟨p, ev, hp⟩ => hb H2 (e.trans e2) H2 (Ex.refl H2) _ fun w H3 e3 ⟨p2, ew, hp2⟩ => by
    subst ev ew
    exact ⟨p, p2, xs, ys, rfl, rfl, e3 _ _ hp, hp2, sz_of hz, fun p3 h3 => q _ _ ((e2.trans e3).trans (Ex.new h3)) ⟨p3, rfl, upd_same⟩⟩
theorem ev_fmtS {z : Str} (h : Ev te σ H (.str z)) (hz : z.length ≤ 100000) : Ev (tFmt te) σ H (.str z) := fun H1 e Q q => h H1 e _ fun H2 e2 => .inl ⟨z, rfl, sz_of hz, q H2 e2⟩
theorem ev_js {ts : List TE} {out : Str} (h : ∀ H1, Ex H H1 → ∀ Q : Str → Hp → Prop, (∀ H2, Ex H1 H2 → Q out H2) → tJs ts Str.empty σ H1 Q) : Ev (fun σ H Q => tJs ts Str.empty σ H fun out H1 => Q (.str out) H1) σ H (.str out) := fun H1 e Q q => h H1 e _ q
theorem js_cons {t : TE} {ts : List TE} {acc y out : Str} (h : Ev t σ H (.str y)) (hz : (acc ++ y).length ≤ 100000) (hr : ∀ H1, Ex H H1 → ∀ Q : Str → Hp → Prop, (∀ H2, Ex H1 H2 → Q out H2) → tJs ts (acc ++ y) σ H1 Q) : ∀ H1, Ex H H1 → ∀ Q : Str → Hp → Prop, (∀ H2, Ex H1 H2 → Q out H2) → tJs (t :: ts) acc σ H1 Q := fun H1 e Q q =>
  h H1 e _ fun H2 e2 => ⟨y, rfl, sz_of hz, hr H2 (e.trans e2) Q fun H3 e3 => q H3 (e2.trans e3)⟩
theorem js_nil {acc : Str} : ∀ H1, Ex H H1 → ∀ Q : Str → Hp → Prop, (∀ H2, Ex H1 H2 → Q acc H2) → tJs [] acc σ H1 Q := fun H1 _ Q q => q H1 (Ex.refl H1)
theorem evp_lst1 (h : EvP te σ H R) (hR : ∀ v bs H H', Fm bs H H' → Mb H bs → R v H → R v H') : EvP (tLst (tCons te tNil)) σ H fun v H1 => ∃ p x, v = .ref p ∧ H1 p = some (.lst [x]) ∧ R x H1 := fun H1 e Q q =>
  h H1 e _ fun x H2 e2 hx => ⟨by show 1 ≤ sizeLine; decide, fun l hl => q _ _ (e2.trans (Ex.new hl)) ⟨l, x, rfl, upd_same, hR x [] H2 _ (Fm.of (Ex.new hl)) Mb.nil hx⟩⟩
theorem evp_lstV {vs : List V} {t : TA} (h : EvA t σ H vs) (hz : vs.length ≤ 100000) : EvP (tLst t) σ H (IsL vs) := EvP.ofL (el_lst h hz)
theorem evp_tupV {vs : List V} {t : TA} (h : EvA t σ H vs) (hz : vs.length ≤ 100000) : EvP (tTup t) σ H (IsU vs) := (EvP.ofU (eu_tup h hz)).imp fun _ _ _ ⟨p, e, h⟩ => ⟨p, e, .inl h⟩
theorem rv_neE {p q : Addr} (hp : Rd H p (.tup [])) (hq : Rd H q (.tup [])) : RV (rNeD K) (.ref p) (.ref q) H (.bl false) := fun H1 e Q k =>
  ⟨.tuple [], .tuple [], .tup (.inl (ex_rd e hp)) .nil, .tup (.inl (ex_rd e hq)) .nil, by decide +kernel, by decide +kernel, by
    have z : PyData.eqv (.tuple []) (.tuple []) = true := by decide +kernel
    rw [z]
    exact k H1 (Ex.refl H1)⟩
theorem dV {i j : Int} : decide (V.int i = V.int j) = decide (i = j) := by simp
theorem dS {i j : Str} : decide (V.str i = V.str j) = decide (i = j) := by simp
theorem nodup_take {α : Type} {xs : List α} {i : Nat} {z : α} (h : xs.Nodup) (hi : xs[i]? = some z) : z ∉ xs.take i := fun hm => by
  obtain ⟨j, hj, e⟩ := List.mem_iff_getElem.mp hm
  rw [List.length_take] at hj
  rw [List.getElem_take] at e
  obtain ⟨hi', e2⟩ := List.getElem?_eq_some_iff.mp hi
  exact absurd ((List.getElem_inj h).mp (e.trans e2.symm)) (by omega)
end
variable {P : Program} {w : World} {K : PySem.W.Frag} {mg : Str → Option Value} {base : Heap}
/-! ### wrong_part -/
def GoodParts (hs : List Str) : Prop := hs ≠ [] ∧ hs.length ≤ 8 ∧ hs.Nodup ∧ ∀ z ∈ hs, nameB z = true
def spWrongPart : Sp := fun vs H Q _ => ∃ a hs, vs = [.ref a] ∧ STup H a hs ∧ GoodParts hs ∧ ∀ v H', Ex H H' → IsU [] v H' → Q v H'
theorem v_wrong_part {a : Addr} {hs : List Str} {H : Hp} (h : STup H a hs) (g : GoodParts hs) : SpP spWrongPart [.ref a] H (IsU []) := fun H1 e Q q _ => ⟨a, hs, rfl, h.ex e, g, q⟩
theorem scWrongPart : FnScope ["parts", "at", "name"] ["parts"] (defScope sWrongPart) := ⟨rfl, rfl, rfl, by decide +kernel, rfl, by decide +kernel, by decide +kernel⟩
theorem ok_wrong_part (T : Tp K mg) : C8.Cal P w K mg base 2 "wrong_part" spWrongPart [] := by
  obtain ⟨fd, F⟩ := T.f_wrong_part
  refine ⟨_, fd, ["parts"], [], ?_, T.g_wrong_part, F.kp, F.bindsN (fun _ _ _ _ _ _ us hl => match us, hl with | [_], _ => rfl), .nil⟩
  refine F.ok scWrongPart (fun vs H Q E h => ?_) (fun cdv A outer s H vs Q E hr h => ?_)
  · obtain ⟨a, hs, rfl, _⟩ := h
    rfl
  · obtain ⟨a, hs, rfl, h, ⟨g1, g2, g3, g4⟩, k⟩ := h
    have nd := scWrongPart.nd
    refine ⟨_, PSs.nox (pss_cons (ps_if (PW.pt (pw_or (pt_not (pt_val (pis T.z_isinstance T.z_tuple PyProof.Rows.boot_tuple (pv 0)))) (pw_or1 (pt_cmpR op_eq (pb call_len T.z_len PySem.boot_len (pv 0)) pe_int (nomark _))))) pss_never pss_nil)
      (pss_cons (ps_for PassesOwn.never rfl (pi_enumU rfl T.z_enumerate (pa_cons (pv 0) pa_nil)) (pg_tup (n := 2) rfl (pgs_cons (pg_name (i := 1) nd rfl (Or.inl rfl)) (pgs_cons (pg_name (i := 2) nd rfl (Or.inl rfl)) pgs_nil)))
        (pss_one (ps_if (PW.pt (pw_or (pt_not (pt_val (C8.pe_c (ok_is_name T) hr (by decide) rfl (pa_cons (pv 2) pa_nil)))) (pw_or (pt_cmpR op_ge (pv 1) (pgI T.i_MOST_PARTS) (nomark _)) (pw_or1 (pt_cmpR op_in_seq (pv 2) (pe_slice sl_tupA (pv 0) po_none (po_some (pv 1))) rfl))))) pss_never pss_nil)))
        (pss_one (ps_ret (pe_tup pa_nil))))), ?_⟩
    refine q_when (b := false) (et_is (et_or (et_not (et_B (ev_cb (ea_cons (ev_var rfl) (ea_cons ev_c ea_nil)) (rc_isT h)))) (fun _ => et_test (ev_op (ev_cb1 (ev_var rfl) (rc_lenT h)) ev_c (rv_eq rfl)))) ?_) nofun (fun _ H1 e1 => ?_)
    · rw [dV, List.length_map]
      have : ((hs.length : Nat) : Int) ≠ 0 := by
        have := List.length_pos_iff.mpr g1
        omega
      rw [decide_eq_false this]
      rfl
    · refine q_forI (ei_enum (ea_cons (ev_var rfl) ea_nil) (h.ex e1)) yx_pair (fun _ σ' _ => ∃ x y, σ' = [some (.ref a), x, y]) (fun _ _ => ⟨_, _, rfl⟩) ?_ (fun σ' H2 e2 _ => s_retP (evp_tupV ea_nil (by decide)) fun v H3 e3 hv => k v H3 ((e1.trans e2).trans e3) hv)
      rintro Hb i _ σ' Hc Hd hi eb ebc ⟨o1, o2, rfl⟩ ⟨Tt, u, v, rfl, hn, rfl, hu, hv⟩
      cases hu
      replace hv : (hs.map V.str)[i]? = some v := hv
      rw [List.getElem?_map] at hv
      obtain ⟨z, hz, rfl⟩ := Option.map_eq_some_iff.mp hv
      have ecd : Ex Hc (upd Hc Tt (.tup [.int (i : Nat), .str z])) := Ex.new hn
      have hd := h.ex (e1.trans (eb.trans (ebc.trans ecd)))
      refine eg_two upd_same (s_when (b := false) (et_is (et_or (et_not (et_B (ev_call (ea_cons (ev_var rfl) ea_nil) (v_is_name (g4 z (List.mem_of_getElem? hz)))))) (fun _ => et_or (et_test (ev_op (ev_var rfl) ev_c rv_I0)) (fun _ => et_test (b := decide (z ∈ hs.take i)) (ev_opP (ev_var rfl) (evp_take (ev_var rfl) hd (eo_some (ev_var rfl))) (fun y H2 e2 hy => ?_))))) ?_) nofun (fun _ H2 e2 => ⟨(ebc.trans ecd).trans e2, _, _, rfl⟩))
      · obtain ⟨p, rfl, hp⟩ := hy
        rw [← List.map_take] at hp
        exact rv_inS hp
      · have hi' : i < hs.length := (List.getElem?_eq_some_iff.mp hz).1
        have h1 : decide ((8 : Int) ≤ (i : Nat)) = false := decide_eq_false (by omega)
        rw [h1, decide_eq_false (nodup_take g3 hz)]
        rfl
end K54
/-! K14 -/
namespace K54
open PySem PySem.Spec PyProof.Rows L2 LamX NdefX Evl
section
variable {K : PySem.W.Frag} {σ : L2.St} {H H' : Hp}
theorem hu65 {k : Nat} {A : Around} (r : Room k A) : A.units + 65 < cLine := by have := r.un; omega
theorem evp_is_ref {te : TE} {p : Addr} {xs : List V} (h : Ev te σ H (.ref p)) (hp : H p = some (.lst xs)) : EvP te σ H (IsL xs) := fun H1 e Q q => h H1 e _ fun H2 e2 => q _ H2 e2 ⟨p, rfl, (e.trans e2) _ _ hp⟩
theorem evp_is_tup {te : TE} {p : Addr} {xs : List V} (h : Ev te σ H (.ref p)) (hp : Rd H p (.tup xs)) : EvP te σ H (IsU xs) := fun H1 e Q q => h H1 e _ fun H2 e2 => q _ H2 e2 ⟨p, rfl, ex_rd (e.trans e2) hp⟩
theorem nodup_len {α : Type} [DecidableEq α] : ∀ {xs ys : List α}, xs.Nodup → (∀ x ∈ xs, x ∈ ys) → xs.length ≤ ys.length
  | [], _, _, _ => Nat.zero_le _
  | x :: xs, ys, h, hm => by
    obtain ⟨h1, h2⟩ := List.nodup_cons.mp h
    have hx := hm x List.mem_cons_self
    have ih := nodup_len (ys := ys.erase x) h2 fun z hz => (List.mem_erase_of_ne (fun e => h1 (by rw [← e]; exact hz))).mpr (hm z (List.mem_cons_of_mem _ hz))
    rw [List.length_erase_of_mem hx] at ih
    have := List.length_pos_of_mem hx
    rw [List.length_cons]
    omega
theorem sum_le {M : Nat} : ∀ {ns : List Nat}, (∀ n ∈ ns, n ≤ M) → ns.sum ≤ ns.length * M
  | [], _ => by simp
  | n :: ns, h => by
    have ih := sum_le (ns := ns) fun m hm => h m (List.mem_cons_of_mem _ hm)
    have := h n List.mem_cons_self
    rw [List.sum_cons, List.length_cons, Nat.add_mul]
    omega
theorem joinSum_le {a : Str} {ys : List Str} {M : Nat} (h : ∀ y ∈ ys, y.length ≤ M) : joinSum a ys ≤ ys.length * (M + a.length) := by
  unfold joinSum
  have := sum_le (ns := ys.map (·.length)) (M := M) fun n hn => by
    obtain ⟨y, hy, rfl⟩ := List.mem_map.mp hn
    exact h y hy
  rw [List.length_map] at this
  rw [Nat.mul_add]
  omega
theorem str_app_len (a b : Str) : (a ++ b).length = a.length + b.length := by
  show (a.cps ++ b.cps).size = _
  rw [Array.size_append]
  rfl
theorem tieT_len {t : Str × Str} (h1 : nameB t.1 = true) (h2 : nameB t.2 = true) : (tieT t).length ≤ 19 := by
  have e1 := nameB_len h1
  have e2 := nameB_len h2
  unfold tieT
  rw [str_app_len, str_app_len, str_app_len]
  have : (" > " : Str).length = 3 := by decide +kernel
  have : Str.empty.length = 0 := rfl
  omega
end
variable {P : Program} {w : World} {K : PySem.W.Frag} {mg : Str → Option Value} {base : Heap}
/-! ### is_pair -/
def GoodTie (hs : List Str) (t : Str × Str) : Prop := t.1 ∈ hs ∧ t.2 ∈ hs ∧ t.1 ≠ t.2
def spIsPair : Sp := fun vs H Q _ => ∃ a p hs t, vs = [.ref a, .ref p] ∧ STup H a hs ∧ PairAt H p t ∧ GoodTie hs t ∧ ∀ H', Ex H H' → Q (.bl true) H'
theorem v_is_pair {a p : Addr} {hs : List Str} {t : Str × Str} {H : Hp} (h : STup H a hs) (hp : PairAt H p t) (g : GoodTie hs t) : SpV spIsPair [.ref a, .ref p] H (.bl true) := fun H1 e Q q _ => ⟨a, p, hs, t, rfl, h.ex e, hp.ex e, g, q⟩
theorem scIsPair : FnScope ["parts", "value"] ["parts", "value"] (defScope sIsPair) := ⟨rfl, rfl, rfl, by decide +kernel, rfl, by decide +kernel, by decide +kernel⟩
theorem ok_is_pair (T : Tp K mg) : C8.Cal P w K mg base 1 "is_pair" spIsPair [] := by
  obtain ⟨fd, F⟩ := T.f_is_pair
  refine ⟨_, fd, ["parts", "value"], [], ?_, T.g_is_pair, F.kp, F.bindsN (fun _ _ _ _ _ _ us hl => match us, hl with | [_, _], _ => rfl), .nil⟩
  refine F.ok scIsPair (fun vs H Q E h => ?_) (fun cdv A outer s H vs Q E hr h => ?_)
  · obtain ⟨a, p, hs, t, rfl, _⟩ := h
    rfl
  · obtain ⟨a, p, hs, t, rfl, h, hp, ⟨g1, g2, g3⟩, k⟩ := h
    refine ⟨_, PSs.nox (pss_cons (ps_if (PW.pt (pw_or (pt_not (pt_val (pis T.z_isinstance T.z_tuple PyProof.Rows.boot_tuple (pv 1)))) (pw_or (pt_cmpR op_ne (pb call_len T.z_len PySem.boot_len (pv 1)) pe_int (nomark _))
      (pw_or (pt_cmpR op_notIn_seq (pe_ix ix_tup (pv 1) pe_int (fun _ _ => rfl)) (pv 0) rfl) (pw_or1 (pt_cmpR op_notIn_seq (pe_ix ix_tup (pv 1) pe_int (fun _ _ => rfl)) (pv 0) rfl)))))) pss_never pss_nil)
      (pss_one (ps_ret (pe_cmpR op_ne (pe_ix ix_tup (pv 1) pe_int (fun _ _ => rfl)) (pe_ix ix_tup (pv 1) pe_int (fun _ _ => rfl)) (nomark _))))), ?_⟩
    have i0 : ∀ H1, Ex H H1 → Ev (tOp (rIxT K) (tVar 1) (tC (.int 0))) (start ["parts", "value"] [.ref a, .ref p]) H1 (.str t.1) := fun H1 e1 => ev_op (ev_var rfl) ev_c (rv_ixT (st_of (e1 _ _ hp)) (atI_nat (j := 0) rfl))
    have i1 : ∀ H1, Ex H H1 → Ev (tOp (rIxT K) (tVar 1) (tC (.int 1))) (start ["parts", "value"] [.ref a, .ref p]) H1 (.str t.2) := fun H1 e1 => ev_op (ev_var rfl) ev_c (rv_ixT (st_of (e1 _ _ hp)) (atI_nat (j := 1) rfl))
    refine q_when (b := false) (et_is (et_or (et_not (et_B (ev_cb (ea_cons (ev_var rfl) (ea_cons ev_c ea_nil)) (rc_isT (.inl hp))))) (fun _ => et_or (et_test (ev_op (ev_cb1 (ev_var rfl) (rc_lenT (.inl hp))) ev_c (rv_ne rfl))) (fun _ => et_or (et_test (ev_op (i0 H (Ex.refl H)) (ev_var rfl) (rv_niS h))) (fun _ => et_test (ev_op (i1 H (Ex.refl H)) (ev_var rfl) (rv_niS h)))))) ?_) nofun (fun _ H1 e1 => s_ret (ev_is (ev_op (i0 H1 e1) (i1 H1 e1) (rv_ne rfl)) ?_) fun H2 e2 => k H2 (e1.trans e2))
    · rw [dV, decide_eq_true g1, decide_eq_true g2]
      rfl
    · rw [dS, decide_eq_false g3]
      rfl
/-! ### wrong_tie -/
def GoodTies (hs : List Str) (ts : List (Str × Str)) : Prop := (∀ z ∈ hs, nameB z = true) ∧ ts.Nodup ∧ ∀ t ∈ ts, GoodTie hs t
def spWrongTie : Sp := fun vs H Q _ => ∃ a b hs ts, vs = [.ref a, .ref b] ∧ STup H a hs ∧ PTup H b ts ∧ GoodTies hs ts ∧ ∀ v H', Ex H H' → IsU [] v H' → Q v H'
theorem v_wrong_tie {a b : Addr} {hs : List Str} {ts : List (Str × Str)} {H : Hp} (h : STup H a hs) (hp : PTup H b ts) (g : GoodTies hs ts) : SpP spWrongTie [.ref a, .ref b] H (IsU []) := fun H1 e Q q _ => ⟨a, b, hs, ts, rfl, h.ex e, hp.ex e, g, q⟩
theorem paired_take {α β : Type} {F : α → β → Prop} : ∀ {as : List α} {bs : List β} (n : Nat), Paired F as bs → Paired F (as.take n) (bs.take n)
  | _, _, 0, _ => .nil
  | _, _, _ + 1, .nil => .nil
  | _, _, n + 1, .cons h t => .cons h (paired_take n t)
theorem scWrongTie : FnScope ["parts", "ties", "at", "tie"] ["parts", "ties"] (defScope sWrongTie) := ⟨rfl, rfl, rfl, by decide +kernel, rfl, by decide +kernel, by decide +kernel⟩
theorem ok_wrong_tie (T : Tp K mg) : C8.Cal P w K mg base 2 "wrong_tie" spWrongTie [] := by
  obtain ⟨fd, F⟩ := T.f_wrong_tie
  refine ⟨_, fd, ["parts", "ties"], [], ?_, T.g_wrong_tie, F.kp, F.bindsN (fun _ _ _ _ _ _ us hl => match us, hl with | [_, _], _ => rfl), .nil⟩
  refine F.ok scWrongTie (fun vs H Q E h => ?_) (fun cdv A outer s H vs Q E hr h => ?_)
  · obtain ⟨a, b, hs, ts, rfl, _⟩ := h
    rfl
  · obtain ⟨a, b, hs, ts, rfl, h, hb, ⟨g1, g2, g3⟩, k⟩ := h
    have nd := scWrongTie.nd
    have pko : ∀ t ∈ ts, PkOk t := fun t ht => .of (g1 _ (g3 t ht).1) (g1 _ (g3 t ht).2.1)
    obtain ⟨as, hb0, hpp⟩ := hb
    refine ⟨_, PSs.nox (pss_cons (ps_if (pt_not (pt_val (pis T.z_isinstance T.z_tuple PyProof.Rows.boot_tuple (pv 1)))) pss_never pss_nil)
      (pss_cons (ps_for PassesOwn.never rfl (pi_enumU rfl T.z_enumerate (pa_cons (pv 1) pa_nil)) (pg_tup (n := 2) rfl (pgs_cons (pg_name (i := 2) nd rfl (Or.inl rfl)) (pgs_cons (pg_name (i := 3) nd rfl (Or.inl rfl)) pgs_nil)))
        (pss_one (ps_if (PW.pt (pw_or (pt_not (pt_val (C8.pe_c (ok_is_pair T) hr (by decide) rfl (pa_cons (pv 0) (pa_cons (pv 3) pa_nil))))) (pw_or1 (pt_cmpR (op_inU (hu65 hr)) (pv 3) (pe_slice sl_tupA (pv 1) po_none (po_some (pv 2))) rfl)))) pss_never pss_nil)))
        (pss_one (ps_ret (pe_tup pa_nil))))), ?_⟩
    refine q_when (b := false) (et_is (et_not (et_B (ev_cb (ea_cons (ev_var rfl) (ea_cons ev_c ea_nil)) (rc_isT hb0)))) rfl) nofun (fun _ H1 e1 => ?_)
    refine q_forI (ei_enum (ea_cons (ev_var rfl) ea_nil) (ex_rd e1 hb0)) yx_pair (fun _ σ' _ => ∃ x y, σ' = [some (.ref a), some (.ref b), x, y]) (fun _ _ => ⟨_, _, rfl⟩) ?_ (fun σ' H2 e2 _ => s_retP (evp_tupV ea_nil (by decide)) fun v H3 e3 hv => k v H3 ((e1.trans e2).trans e3) hv)
    rintro Hb i _ σ' Hc Hd hi eb ebc ⟨o1, o2, rfl⟩ ⟨Tt, u, v, rfl, hn, rfl, hu, hv⟩
    cases hu
    replace hv : (as.map V.ref)[i]? = some v := hv
    rw [List.getElem?_map] at hv
    obtain ⟨p, hz, rfl⟩ := Option.map_eq_some_iff.mp hv
    obtain ⟨t, ht, hpt⟩ := paired_at hpp hz
    have htm := List.mem_of_getElem? ht
    have ecd : Ex Hc (upd Hc Tt (.tup [.int (i : Nat), .ref p])) := Ex.new hn
    have ehd := e1.trans (eb.trans (ebc.trans ecd))
    refine eg_two upd_same (s_when (b := false) (et_is (et_or (et_not (et_B (ev_call (ea_cons (ev_var rfl) (ea_cons (ev_var rfl) ea_nil)) (v_is_pair (h.ex ehd) (hpt.ex ehd) (g3 t htm))))) (fun _ => et_test (b := decide (t ∈ ts.take i)) (ev_opP (ev_var rfl) (evp_take (ev_var rfl) (ex_rd ehd hb0) (eo_some (ev_var rfl))) (fun y H2 e2 hy => ?_)))) ?_) nofun (fun _ H2 e2 => ⟨(ebc.trans ecd).trans e2, _, _, rfl⟩))
    · obtain ⟨q, rfl, hq⟩ := hy
      rw [← List.map_take] at hq
      exact rv_inP (hpt.ex (ehd.trans e2)) ⟨_, hq, L2.Paired.mapP (paired_take i hpp) fun _ _ z => (ehd.trans e2) _ _ z⟩ (pko t htm) fun u hu => pko u (List.mem_of_mem_take hu)
    · rw [decide_eq_false (nodup_take g2 ht)]
      rfl
/-! ### lines_of -/
def linesM (hs : List Str) (ts : List (Str × Str)) : List Str := Txt.join (" " : Str) hs :: ts.map tieT
def GoodLines (hs : List Str) (ts : List (Str × Str)) : Prop := (∀ z ∈ hs, nameB z = true) ∧ hs.length ≤ 8 ∧ ts.length ≤ 1000 ∧ ∀ t ∈ ts, t.1 ∈ hs ∧ t.2 ∈ hs
def spLinesOf : Sp := fun vs H Q _ => ∃ a b hs ts, vs = [.ref a, .ref b] ∧ STup H a hs ∧ PTup H b ts ∧ GoodLines hs ts ∧ ∀ v H', Ex H H' → IsL ((linesM hs ts).map V.str) v H' → Q v H'
theorem v_lines_of {a b : Addr} {hs : List Str} {ts : List (Str × Str)} {H : Hp} (h : STup H a hs) (hp : PTup H b ts) (g : GoodLines hs ts) : SpP spLinesOf [.ref a, .ref b] H (IsL ((linesM hs ts).map V.str)) := fun H1 e Q q _ => ⟨a, b, hs, ts, rfl, h.ex e, hp.ex e, g, q⟩
theorem scLinesOf : FnScope ["parts", "ties", "found", "one", "other"] ["parts", "ties"] (defScope sLinesOf) := ⟨rfl, rfl, rfl, by decide +kernel, rfl, by decide +kernel, by decide +kernel⟩
theorem take_succ' {α : Type} {xs : List α} {i : Nat} {x : α} (h : xs[i]? = some x) : xs.take (i + 1) = xs.take i ++ [x] := by
  rw [List.take_succ, h]
  rfl
theorem ok_lines_of (T : Tp K mg) : C8.Cal P w K mg base 1 "lines_of" spLinesOf [] := by
  obtain ⟨fd, F⟩ := T.f_lines_of
  refine ⟨_, fd, ["parts", "ties"], [], ?_, T.g_lines_of, F.kp, F.bindsN (fun _ _ _ _ _ _ us hl => match us, hl with | [_, _], _ => rfl), .nil⟩
  refine F.ok scLinesOf (fun vs H Q E h => ?_) (fun cdv A outer s H vs Q E hr h => ?_)
  · obtain ⟨a, b, hs, ts, rfl, _⟩ := h
    rfl
  · obtain ⟨a, b, hs, ts, rfl, h, hb, ⟨g1, g2, g3, g4⟩, k⟩ := h
    have nd := scLinesOf.nd
    obtain ⟨as, hb0, hpp⟩ := hb
    have hnl : ∀ z ∈ hs, z.length ≤ 8 := fun z hz => (nameB_len (g1 z hz)).2
    have hz0 : joinSum (" " : Str) hs ≤ 16777216 := by
      have h1 := joinSum_le (a := (" " : Str)) hnl
      have h2 : (" " : Str).length = 1 := by decide +kernel
      rw [h2] at h1
      omega
    refine ⟨_, PSs.nox (pss_cons (ps_set (i := 2) nd rfl (Or.inl rfl) (pe_lst (pa_cons (pe_join pe_str (pv 0)) pa_nil)))
      (pss_cons (ps_for PassesOwn.never rfl (pi_tup (pv 1)) (pg_tup (n := 2) rfl (pgs_cons (pg_name (i := 3) nd rfl (Or.inl rfl)) (pgs_cons (pg_name (i := 4) nd rfl (Or.inl rfl)) pgs_nil)))
        (pss_one (ps_set (i := 2) nd rfl (Or.inl rfl) (pe_op op_cat (pv 2) (pe_lst (pa_cons (pe_joined (.cons (pe_fmt (pv 3)) (.cons pe_str (.cons (pe_fmt (pv 4)) .nil)))) pa_nil))))))
        (pss_one (ps_ret (pv 2))))), ?_⟩
    refine q_asgP (evp_lstV (ea_cons (ev_joinT ev_c (ev_var rfl) h hz0) ea_nil) (by show 1 ≤ 100000; omega)) fun v H1 e1 hv => ?_
    refine q_forI (ei_tup (ev_var rfl) (ex_rd e1 hb0)) yx_at (fun i σ' H' => ∃ v x y, IsL ((linesM hs (ts.take i)).map V.str) v H' ∧ σ' = [some (.ref a), some (.ref b), some v, x, y]) (fun H2 e2 => ?_) ?_ (fun σ' H2 e2 hp => ?_)
    · obtain ⟨p, rfl, hp⟩ := hv
      exact ⟨_, none, none, ⟨p, rfl, e2 _ _ hp⟩, rfl⟩
    · rintro Hb i _ σ' Hc Hd hi eb ebc ⟨v1, o1, o2, hv1, rfl⟩ ⟨rfl, hx⟩
      rw [List.getElem?_map] at hx
      obtain ⟨p, hz, rfl⟩ := Option.map_eq_some_iff.mp hx
      obtain ⟨t, ht, hpt⟩ := paired_at hpp hz
      have htm := List.mem_of_getElem? ht
      have t1 := g1 _ (g4 t htm).1
      have t2 := g1 _ (g4 t htm).2
      have l1 := nameB_len t1
      have l2 := nameB_len t2
      have l3 := tieT_len t1 t2
      have eh := e1.trans (eb.trans ebc)
      obtain ⟨q1, rfl, hq1⟩ := hv1
      have hi' : i < ts.length := (List.getElem?_eq_some_iff.mp ht).1
      have l4 : (" > " : Str).length = 3 := by decide +kernel
      have l5 : Str.empty.length = 0 := rfl
      refine eg_two (hpt.ex eh) (s_asgP (evp_cat (evp_is_ref (ev_var rfl) hq1) (fun H3 e3 => evp_lstV (ea_cons (ev_js (js_cons (ev_fmtS (ev_var rfl) (by omega)) (by rw [str_app_len]; omega) (js_cons ev_c (by rw [str_app_len, str_app_len]; omega) (js_cons (ev_fmtS (ev_var rfl) (by omega)) (by rw [str_app_len, str_app_len, str_app_len]; omega) js_nil)))) ea_nil) (by show 1 ≤ 100000; omega)) ?_) fun v H4 e4 hv4 => ⟨ebc.trans e4, v, _, _, ?_, rfl⟩)
      · have : ((linesM hs (ts.take i)).map V.str).length ≤ i + 1 := by
          rw [List.length_map]
          unfold linesM
          rw [List.length_cons, List.length_map, List.length_take]
          omega
        show _ + 1 ≤ _
        omega
      · have e5 : (linesM hs (ts.take (i + 1))).map V.str = (linesM hs (ts.take i)).map V.str ++ [V.str (tieT t)] := by
          rw [take_succ' ht]
          unfold linesM
          rw [List.map_append, List.map_cons, List.map_cons, List.map_append]
          rfl
        rw [e5]
        exact hv4
    · obtain ⟨v1, o1, o2, hv1, rfl⟩ := hp
      obtain ⟨q1, rfl, hq1⟩ := hv1
      have el : (as.map V.ref).length = ts.length := by rw [List.length_map, paired_length hpp]
      rw [el, List.take_length] at hq1
      exact s_ret (ev_var rfl) fun H3 e3 => k _ H3 ((e1.trans e2).trans e3) ⟨q1, rfl, e3 _ _ hq1⟩
end K54
/-! K15 -/
namespace K54
open PySem PySem.Spec PyProof.Rows L2 LamX NdefX Evl
/-! ### rules within a comprehension: K said -/
section
variable {X : Cx} (K : PySem.W.Frag)
theorem opK_inU (hK : X.K = K) (hu : X.A.units + 65 < cLine) : OpR X (compareOp .In) (rInU K) := by
  subst hK
  exact op_inU hu
theorem opK_neD (hK : X.K = K) (hu : X.A.units + 64 < cLine) : OpR X (compareOp .NotEq) (rNeD K) := by
  subst hK
  exact op_neD hu
theorem opK_in (hK : X.K = K) : OpR X (compareOp .In) (rIn K false) := by
  subst hK
  exact op_in_seq
theorem opK_notIn (hK : X.K = K) : OpR X (compareOp .NotIn) (rIn K true) := by
  subst hK
  exact op_notIn_seq
theorem opK_cat (hK : X.K = K) : OpR X (binaryOp .Add) (rCatA K) := by
  subst hK
  exact op_catA
theorem ixK_tup (hK : X.K = K) : IxR X (rIxT K) := by
  subst hK
  exact ix_tup
theorem ixK_list (hK : X.K = K) : IxR X (rIxL K) := by
  subst hK
  exact ix_list
theorem callK_tup (hK : X.K = K) : CallR X (.type "tuple") (rTupOf K) := by
  subst hK
  exact call_tuple_of
theorem callK_len (hK : X.K = K) : CallR X (.builtin "len") (rLenAny K) := by
  subst hK
  exact call_len
theorem pgK_tup {es : List Expr} {k : Nat} {t : TGs} {n : Nat} {pos : Pos} (hK : X.K = K) (hc : X.calm = true) (h : PGs X es t)
    (hn : (assignEach es X.env).length = n := by rfl) (hst : (assignEach es X.env).findIdx? (·.1) = none := by rfl) : PG X (.Tuple es k pos) (gTup K n t) := by
  subst hK
  exact pg_tup hc h hn hst
theorem piK_enumU {e : Expr} {ta : TA} {p pos tpos : Pos} {elts : List Expr} {kk : Nat} (hK : X.K = K) (hg : Gl X "enumerate") (hm : X.mg "enumerate" = none) (ha : PA X [e] ta) (hs : starEach [e] X.env = [(false, eval e X.env)] := by rfl) :
    PI X (.Tuple elts kk tpos) (.Call (.Name "enumerate" p) [e] [] pos) (iEnumU K ta) := by
  subst hK
  exact pi_enumU hg hm ha hs
theorem peK_fld {o : Expr} {f : Str} {pos : Pos} {ta : TE} (hK : X.K = K) (he : PE X o ta) (hab : attributeBase o f X.env (eval o X.env) = eval o X.env) : PE X (.Attribute o f pos) (tFld K ta f) := by
  subst hK
  exact pe_fld he hab
end
/-! ### a tuple's method (the tuple has surely no dict) -/
def tTM (r : V → List V → Hp → VK → Prop) (to : TE) (t : TA) : TE := fun σ H Q => to σ H fun x H1 => (∃ (p : Addr) (u : Obj) (xs : List V), x = .ref p ∧ u.dict = none ∧ H1 p = some (.frz u (.tup xs))) ∧ t σ H1 fun xs H2 => r x xs H2 Q
section
variable {X : Cx} {o e : Expr} {es : List Expr} {to : TE} {t : TA} {name : Str} {apos cpos : Pos} {id : String} {r : V → List V → Hp → VK → Prop}
theorem pe_tm (slot : Slot "tuple" name id) (hty : typeOf (.builtin id) = pure (.type "method_descriptor")) (hm : MtR X id r) (ho : PE X o to) (ha : PA X (e :: es) t)
    (hbase : attributeBase o name X.env (eval o X.env) = eval o X.env := by rfl)
    (hfew : ((backTo cpos (starEach (e :: es) X.env)).all (fun x => !x.1) && (backToKw cpos (keywordEach [] X.env)).all (fun x => x.1.isSome)
      && decide ((e :: es).length + ([] : List Keyword).length + (if ([] : List Keyword).isEmpty then 0 else 1) < 30)) = true := by rfl)
    (hline : (apos.endLine == cpos.line) = true := by rfl) (hs : starEach (e :: es) X.env = (false, eval e X.env) :: starEach es X.env := by rfl) (hplain : (backTo cpos (starEach es X.env)).any (·.1) = false := by rfl) :
    PE X (.Call (.Attribute o name apos) (e :: es) [] cpos) (tTM r to t) := by
  refine ⟨fun pins s σ H Q I h => ?_⟩
  refine wpAny_Call_method_late hbase hfew hline rfl (thn (ho.run pins s σ H _ I h) fun v s1 ⟨x, H1, I1, r1, ⟨p, u, xs, ex, hu, hp⟩, q1⟩ => ?_)
  subst ex
  cases r1
  obtain ⟨k1, _, its, rv, pl⟩ := I1.hok p _ hp
  refine ⟨"tuple", id, PySem.F.plainAttrs_tuple, slot, hty, pl.typeIs, (fun a e => ?_), ?_⟩
  · cases e
    exact ⟨u, k1, hu⟩
  have hA := ha.run cpos pins s1 σ H1 _ I1 q1
  rw [hs] at hA ⊢
  refine Calls.callWith_builtin (by show (false || (backTo cpos (starEach es X.env)).any (·.1)) = false; rw [hplain] <;> rfl) (Calls.evalArgs_plain ?_)
  exact thn hA fun us s2 ⟨vs, H2, I2, r2, q2⟩ => hm pins s2 σ H2 (.ref p) vs (.ref p) us Q I2 rfl r2 q2
end
def rTIx (K : PySem.W.Frag) : V → List V → Hp → VK → Prop := fun x xs H Q => ∃ p, ∃ ys : List Str, ∃ z j, x = .ref p ∧ xs = [.str z] ∧ SqT K H p (ys.map V.str) ∧ ys[j]? = some z ∧ (∀ m, m < j → ys[m]? ≠ some z) ∧ Q (.int (j : Nat)) H
theorem idx_ne {x z : Str} {xs : List Str} (e : x ≠ z) : (x :: xs).idxOf z = xs.idxOf z + 1 := by
  rw [List.idxOf_cons, beq_eq_false_iff_ne.mpr e]
  rfl
theorem idxOf_at {z : Str} : ∀ {xs : List Str}, z ∈ xs → xs[xs.idxOf z]? = some z
  | [], h => by cases h
  | x :: xs, h => by
    by_cases e : x = z
    · subst e
      rw [List.idxOf_cons_self]
      rfl
    · have hz : z ∈ xs := by
        rcases List.mem_cons.mp h with q | q
        · exact absurd q.symm e
        · exact q
      rw [idx_ne e]
      exact idxOf_at hz
theorem idxOf_first {z : Str} : ∀ {xs : List Str} {m : Nat}, m < xs.idxOf z → xs[m]? ≠ some z
  | [], m, h => by simp
  | x :: xs, m, h => by
    by_cases e : x = z
    · subst e
      rw [List.idxOf_cons_self] at h
      omega
    · rw [idx_ne e] at h
      cases m with
      | zero => simpa using e
      | succ m => exact idxOf_first (xs := xs) (m := m) (by omega)
section
variable {K : PySem.W.Frag} {σ : L2.St} {H H' : Hp} {te ta tv to : TE} {v : V} {R S : V → Hp → Prop} {D : Ends} {tz : TS}
theorem ev_tix {a : Addr} {hs : List Str} {z : Str} (h0 : Ev to σ H (.ref a)) (ha : STupN H a hs) (h : Ev te σ H (.str z)) (hz : z ∈ hs) : Ev (tTM (rTIx K) to (tCons te tNil)) σ H (.int (hs.idxOf z : Nat)) := fun H1 e Q q =>
  h0 H1 e _ fun H2 e2 => by
    obtain ⟨u, hu, hp⟩ := ha.ex (e.trans e2)
    refine ⟨⟨a, u, _, rfl, hu, hp⟩, h H2 (e.trans e2) _ fun H3 e3 => ?_⟩
    exact ⟨a, hs, z, _, rfl, rfl, .inl (.inr ⟨u, e3 _ _ hp⟩), idxOf_at hz, fun m hm => idxOf_first hm, q H3 (e2.trans e3)⟩
/-! ### fields -/
theorem q_fld {C a dx : Addr} {fs : List (Str × V)} {f : Str} (h : Ev tv σ H v) (ho : Ev ta σ H (.ref a)) (ha : H a = some (.ins C dx fs)) (c : Cls K C) (n : NoAttr K C f) (hl : fs.length < 1000) (k : ∀ H1, Ex H H1 → tz D σ (upd H1 a (.ins C dx (putF f v fs)))) : tSeq (sFld K ta tv f) tz D σ H :=
  h H (Ex.refl H) _ fun H1 e1 => ho H1 e1 _ fun H2 e2 => ⟨a, C, dx, fs, rfl, (e1.trans e2) _ _ ha, c, n, hl, k H2 (e1.trans e2)⟩
theorem s_fldP {C a dx : Addr} {fs : List (Str × V)} {f : Str} (h : EvP tv σ H R) (ho : ∀ H1, Ex H H1 → Ev ta σ H1 (.ref a)) (ha : H a = some (.ins C dx fs)) (c : Cls K C) (n : NoAttr K C f) (hl : fs.length < 1000)
    (mono : ∀ v H1 H2, Ex H1 H2 → R v H1 → R v H2) (k : ∀ v H1, Ex H H1 → R v H1 → D.nx σ (upd H1 a (.ins C dx (putF f v fs)))) : sFld K ta tv f D σ H :=
  h H (Ex.refl H) _ fun v H1 e1 hv => ho H1 e1 H1 (Ex.refl H1) _ fun H2 e2 => ⟨a, C, dx, fs, rfl, (e1.trans e2) _ _ ha, c, n, hl, k v H2 (e1.trans e2) (mono v H1 H2 e2 hv)⟩
def ExB (x : Addr) (H H' : Hp) : Prop := ∀ c o, H c = some o → c ≠ x → H' c = some o
theorem ExB.put {x : Addr} {o : HO} (e : Ex H H') : ExB x H (upd H' x o) := fun c u h n => by
  rw [upd_ne n]
  exact e c u h
theorem ExB.trans {x : Addr} {H1 : Hp} (a : ExB x H H1) (b : ExB x H1 H') : ExB x H H' := fun c o h n => b c o (a c o h n) n
theorem ExB.of {x : Addr} (e : Ex H H') : ExB x H H' := fun c o h _ => e c o h
theorem ExB.fm {x : Addr} (e : ExB x H H') : Fm [x] H H' := fun a o h n _ => e a o h (fun z => n (by rw [z]; exact List.mem_cons_self))
/-- the new instance: what stood stands -/
theorem ExB.new {x dx C : Addr} {H0 : Hp} (h1 : H0 x = none) (h2 : H0 dx = none) (e : ExB x (upd (upd H0 dx (.own x)) x (.ins C dx [])) H') : Ex H0 H' := fun c o h => by
  have n1 : c ≠ x := fun z => by rw [z, h1] at h; cases h
  have n2 : c ≠ dx := fun z => by rw [z, h2] at h; cases h
  refine e c o ?_ n1
  rw [upd_ne n1, upd_ne n2]
  exact h
theorem paired_refs {α : Type} {F : Addr → α → Prop} {g : Nat → α} : ∀ {is : List Nat} {ws : List V}, Paired (fun i w => ∃ p, w = V.ref p ∧ F p (g i)) is ws → ∃ as : List Addr, ws = as.map V.ref ∧ Paired F as (is.map g)
  | _, _, .nil => ⟨[], rfl, .nil⟩
  | _, _, .cons h t => by
    obtain ⟨p, e, f⟩ := h
    obtain ⟨as, e2, pr⟩ := paired_refs t
    exact ⟨p :: as, by rw [e, e2]; rfl, .cons f pr⟩
end
/-! ### Works(parts, ties) -/
def compSc : Expr → Scope
  | .ListComp _ _ s _ => s
  | .Call _ (a :: _) _ _ => compSc a
  | _ => ⟨.function, [], false, false, []⟩
def elOf : Expr → Expr
  | .ListComp e _ _ _ => e
  | .Call _ (a :: _) _ _ => elOf a
  | e => e
def asgVal : Stmt → Expr
  | .Assign _ v _ => v
  | _ => .Name "" ⟨0, 0, 0, 0⟩
def nthS (ss : List Stmt) (i : Nat) : Stmt := ss.getD i (.Pass ⟨0, 0, 0, 0⟩)
abbrev NWorks : List Str := ["self", "parts", "ties", "wrong", "one", "at", "other"]
abbrev scPushed : Scope := relabel (compSc (asgVal (nthS (defBody sWorksInit) 6))) (envOfC "Works.__init__" (defScope sWorksInit) 0 0 .none)
variable {P : Program} {w : World} {K : PySem.W.Frag} {mg : Str → Option Value} {base : Heap}
def spWorksInit (K : PySem.W.Frag) : Sp := fun vs H Q _ => ∃ x dx a b hs ts, vs = [.ref x, .ref a, .ref b] ∧ H x = some (.ins (He.ga K "Works") dx []) ∧ STupN H a hs ∧ PTup H b ts ∧ GoodParts hs ∧ GoodTies hs ts ∧
  ∀ p H', ExB x H H' → H' x = some (.ins (He.ga K "Works") dx (wkF a b p)) → NNTup H' p (pushedOf ⟨hs, ts⟩) → Q .non H'
theorem scWorksInit : FnScope NWorks ["self", "parts", "ties"] (defScope sWorksInit) := ⟨rfl, rfl, rfl, by decide +kernel, rfl, by decide +kernel, by decide +kernel⟩
theorem ok_Works (T : Tp K mg) : C8.Mak P w K mg base 3 "Works" (He.ga K "Works") (spWorksInit K) [] := by
  obtain ⟨fd, F⟩ := T.f_Works_init
  obtain ⟨ds, vd, bd⟩ := F.binds1 (ps := ["self", "parts", "ties"]) 3 1 (by simp) rfl (fun _ _ _ _ _ _ _ us its h1 h2 => match us, its, h1, h2 with | [_, _, _], [_], _, _ => ⟨_, rfl, rfl⟩)
  refine ⟨_, fd, ["self", "parts", "ties"], ds, T.m_Works, ?_, T.g_Works, bd, vd⟩
  refine F.ok scWorksInit (fun vs H Q E h => ?_) (fun cdv A outer s H vs Q E hr h => ?_)
  · obtain ⟨x, dx, a, b, hs, ts, rfl, _⟩ := h
    rfl
  · obtain ⟨x, dx, a, b, hs, ts, rfl, hx, ha, hb, gp, gt, k⟩ := h
    have nd := scWorksInit.nd
    refine ⟨_, PSs.nox (pss_cons (ps_set (i := 3) nd rfl (Or.inl rfl) (C8.pe_c (ok_wrong_part T) hr (by decide) rfl (pa_cons (pv 1) pa_nil)))
      (pss_cons (ps_if (pt_cmpR (op_neD hr.units) (pv 3) (pe_tup pa_nil) (nomark _)) pss_never pss_nil)
      (pss_cons (ps_set (i := 3) nd rfl (Or.inl rfl) (C8.pe_c (ok_wrong_tie T) hr (by decide) rfl (pa_cons (pv 1) (pa_cons (pv 2) pa_nil))))
      (pss_cons (ps_if (pt_cmpR (op_neD hr.units) (pv 3) (pe_tup pa_nil) (nomark _)) pss_never pss_nil)
      (pss_cons (ps_fld (pv 0) (pv 1) rfl) (pss_cons (ps_fld (pv 0) (pv 2) rfl)
      (pss_one (ps_fld (pv 0) (pty call_tuple_of T.z_tuple PyProof.Rows.boot_tuple (pe_lc (own := [("one", 4)]) (g := gName 4) (tt := tYes) rfl nd (pi_tup (pv 1)) (blkOk_by (N := NWorks) (sc := defScope sWorksInit) (by decide +kernel))
        (fun _ _ _ _ _ => pg_name (i := 4) nd rfl (Or.inr rfl)) (fun _ _ _ _ _ => pts_nil)
        (fun _ _ _ _ _ => pty (callK_tup K rfl) T.z_tuple PyProof.Rows.boot_tuple (pe_lc (own := [("at", 5), ("other", 6)]) rfl nd (piK_enumU K rfl rfl T.z_enumerate (pa_cons (pv 1) pa_nil)) (blkOk_by (N := NWorks) (sc := scPushed) (by decide +kernel))
          (fun _ _ _ _ _ => pgK_tup K (n := 2) rfl rfl (pgs_cons (pg_name (i := 5) nd rfl (Or.inl rfl)) (pgs_cons (pg_name (i := 6) nd rfl (Or.inl rfl)) pgs_nil)))
          (fun _ _ _ _ _ => pts_one (pt_cmpR (opK_inU K rfl (hu65 hr)) (pe_tup (pa_cons (pv 4) (pa_cons (pv 6) pa_nil))) (pv 2) rfl)) (fun _ _ _ _ _ => pv 5))))) rfl)))))))), ?_⟩
    have hst := ha.st
    refine q_asgP (evp_call (ea_cons (ev_var rfl) ea_nil) (v_wrong_part hst gp)) fun v1 H1 e1 hv1 => ?_
    obtain ⟨q1, rfl, hq1⟩ := hv1
    refine q_when (b := false) (et_test (ev_opP (ev_var rfl) (evp_tupV ea_nil (by decide)) fun y H2 e2 ⟨q2, ey, hq2⟩ => by rw [ey]; exact rv_neE (ex_rd e2 hq1) hq2)) nofun (fun _ H2 e2 => ?_)
    refine q_asgP (evp_call (ea_cons (ev_var rfl) (ea_cons (ev_var rfl) ea_nil)) (v_wrong_tie (hst.ex (e1.trans e2)) (hb.ex (e1.trans e2)) gt)) fun v2 H3 e3 hv2 => ?_
    obtain ⟨q2, rfl, hq2⟩ := hv2
    refine q_when (b := false) (et_test (ev_opP (ev_var rfl) (evp_tupV ea_nil (by decide)) fun y H2 e2 ⟨q3, ey, hq3⟩ => by rw [ey]; exact rv_neE (ex_rd e2 hq2) hq3)) nofun (fun _ H4 e4 => ?_)
    have e04 := (e1.trans e2).trans (e3.trans e4)
    refine q_fld (ev_var rfl) (ev_var rfl) (e04 _ _ hx) T.c_Works T.n_Works_heads (by decide) fun H5 e5 => ?_
    refine q_fld (ev_var rfl) (ev_var rfl) upd_same T.c_Works T.n_Works_roads (by show 1 < 1000; omega) fun H6 e6 => ?_
    have eb := (ExB.put (x := x) (o := .ins (He.ga K "Works") dx (putF "heads" (.ref a) [])) (e04.trans e5)).trans (ExB.put (o := .ins (He.ga K "Works") dx (putF "roads" (.ref b) (putF "heads" (.ref a) []))) e6)
    have mb : Mb H [x] := Mb.cons hx ⟨(fun _ z => nomatch z), (fun _ _ z => nomatch z)⟩ (fun _ _ _ _ _ z => by cases z) Mb.nil
    have ha2 := ha.fm eb.fm mb
    have hb2 := hb.fm eb.fm mb
    obtain ⟨as, hb3, hpp⟩ := id hb2
    have pko : ∀ t ∈ ts, PkOk t := fun t ht => .of (gt.1 _ (gt.2.2 t ht).1) (gt.1 _ (gt.2.2 t ht).2.1)
    refine s_fldP (R := fun v H => ∃ p, v = .ref p ∧ NNTup H p (pushedOf ⟨hs, ts⟩)) (evp_tup ?_) (fun _ _ => ev_var rfl) upd_same T.c_Works T.n_Works_pushed (by show 2 < 1000; omega) (fun v H1 H2 e ⟨p, ev, hp⟩ => ⟨p, ev, hp.ex e⟩) ?_
    · refine (lcP (fun _ => true) (fun i v H => ∃ p, v = .ref p ∧ NTup H p (pushRow ⟨hs, ts⟩ (hs.getD i Str.empty))) (fun i v bs H H' f m ⟨p, ev, hp⟩ => ⟨p, ev, f.tup m hp⟩) (ei_tup (ev_var rfl) ha2.st) yx_at (by rw [List.length_map]; exact Nat.le_trans gp.2.1 (by decide)) ?_).imp ?_
      · rintro i _ Hc Hd hi ec ⟨rfl, hx'⟩
        rw [List.getElem?_map] at hx'
        obtain ⟨z, hz, rfl⟩ := Option.map_eq_some_iff.mp hx'
        have hzm := List.mem_of_getElem? hz
        have ez : hs.getD i Str.empty = z := by rw [List.getD_eq_getElem?_getD, hz]; rfl
        rw [ez]
        refine eg_name ⟨rfl, et_yes, fun _ => evp_tup ?_⟩
        refine (lcV (fun j => decide ((z, hs.getD j Str.empty) ∈ ts)) (fun j => .int (j : Nat)) (ei_enum (ea_cons (ev_var rfl) ea_nil) (ha2.st.ex ec)) yx_pair (by rw [List.length_map]; exact Nat.le_trans gp.2.1 (by decide)) ?_).imp ?_
        · rintro j _ Hc2 Hd2 hj ec2 ⟨Tt, u, v, rfl, hn, rfl, hu, hv⟩
          cases hu
          replace hv : (hs.map V.str)[j]? = some v := hv
          rw [List.getElem?_map] at hv
          obtain ⟨y, hy, rfl⟩ := Option.map_eq_some_iff.mp hv
          have hym := List.mem_of_getElem? hy
          have ey : hs.getD j Str.empty = y := by rw [List.getD_eq_getElem?_getD, hy]; rfl
          have ecd : Ex Hc2 (upd Hc2 Tt (.tup [.int (j : Nat), .str y])) := Ex.new hn
          refine eg_two upd_same ⟨rfl, et_test (ev_opP1 (EvP.ofU (eu_tup (ea_cons (ev_var rfl) (ea_cons (ev_var rfl) ea_nil)) (by show 2 ≤ 100000; omega))) (fun _ _ _ _ => ev_var rfl) fun p H9 e9 ⟨p', ep, hp'⟩ => ?_), fun _ => ev_var rfl⟩
          subst ep
          show RV _ _ _ _ (.bl (decide ((z, hs.getD j Str.empty) ∈ ts)))
          rw [ey]
          exact rv_inP (t := (z, y)) hp' (hb2.ex (ec.trans (ec2.trans (ecd.trans e9)))) (.of (gp.2.2.2 z hzm) (gp.2.2.2 y hym)) pko
        · intro v H8 e8 ⟨p, ev, hp⟩
          refine ⟨p, _, ev, hp, fun q H9 e9 hq => ⟨q, rfl, ?_⟩⟩
          show H9 q = _
          rw [hq]
          unfold given pushRow
          rw [List.length_map]
      · intro v H8 e8 ⟨p, ws, ev, hp, pr⟩
        obtain ⟨as8, ews, pr8⟩ := paired_refs (F := NTup H8) (g := fun i => pushRow ⟨hs, ts⟩ (hs.getD i Str.empty)) pr
        subst ews
        refine ⟨p, _, ev, hp, fun q H9 e9 hq => ⟨q, rfl, as8, hq, ?_⟩⟩
        have e10 : (List.filter (fun _ => true) (List.range (hs.map V.str).length)).map (fun i => pushRow ⟨hs, ts⟩ (hs.getD i Str.empty)) = pushedOf ⟨hs, ts⟩ := by
          rw [List.filter_eq_self.mpr (fun _ _ => rfl), List.length_map]
          exact map_range_at hs (pushRow ⟨hs, ts⟩) _ fun i x hx => by
            rw [List.getD_eq_getElem?_getD, hx]
            rfl
        rw [e10] at pr8
        exact L2.Paired.mapP pr8 fun _ _ z => e9 _ _ z
    · rintro v H7 e7 ⟨p, rfl, hp⟩
      have hx7 := e7 _ _ (upd_same (H := H6) (a := x) (o := .ins (He.ga K "Works") dx (putF "roads" (.ref b) (putF "heads" (.ref a) []))))
      refine k p _ (eb.trans (ExB.put e7)) upd_same (hp.fm Fm.put (Mb.cons hx7 ⟨(fun _ z => nomatch z), (fun _ _ z => nomatch z)⟩ (fun _ _ _ _ _ z => by cases z) Mb.nil))
end K54
/-! K16 -/
namespace K54
open PySem PySem.Spec PyProof.Rows L2 LamX NdefX Evl
/-! ### the program's own errors -/
def errCs (K : PySem.W.Frag) : List Value := [.ref (He.ga K "InvalidName"), .ref (He.ga K "InvalidTie"), .ref (He.ga K "NothingToUndo"), .ref (He.ga K "UnknownName")]
def Err (K : PySem.W.Frag) (cls : Value) : Prop := PySem.W.exmAny K cls (errCs K) = some true
section
variable {K : PySem.W.Frag} {mg : Str → Option Value}
theorem xi_out {x : Str} {bmB : List Value} {newId : String} (h : xiB K x bmB newId = true) : xcB K (He.ga K x) bmB newId = true ∧ PySem.W.findIn K (.ref (He.ga K x)) "__setattr__" = some (some (.builtin "object.__setattr__")) ∧
    PySem.W.findIn K (.ref (He.ga K x)) "__init__" = some (some (.ref (He.ma K (He.ga K x) "__init__"))) ∧ PySem.W.typeIn K (.ref (He.ma K (He.ga K x) "__init__")) = some (.type "function") ∧ PySem.W.findIn K (.ref (He.ga K x)) "given" = some none := by
  obtain ⟨h1, h⟩ := He.ba h
  obtain ⟨h2, h⟩ := He.ba h
  obtain ⟨h3, h⟩ := He.ba h
  obtain ⟨h4, h5⟩ := He.ba h
  exact ⟨h1, He.eqO_ok h2, He.eqO_ok h3, of_decide_eq_true h4, He.eqO_ok h5⟩
theorem xr_out {x : Str} (h : xrB K x = true) : PySem.W.keepIn K (.ref (He.ga K x)) = true ∧ PySem.W.subIn K (.ref (He.ga K x)) (.type "BaseException") = some true ∧ PySem.W.typeIn K (.ref (He.ga K x)) = some (.type "type") ∧ Err K (.ref (He.ga K x)) := by
  obtain ⟨h1, h⟩ := He.ba h
  obtain ⟨h2, h⟩ := He.ba h
  obtain ⟨h3, h4⟩ := He.ba h
  exact ⟨h1, of_decide_eq_true h2, of_decide_eq_true h3, of_decide_eq_true (p := PySem.W.exmAny K (.ref (He.ga K x)) (errCs K) = some true) h4⟩
structure ExAll (K : PySem.W.Frag) : Prop where
  n1 : xiB K "InvalidName" veT "ValueError.__new__" = true
  t1 : xiB K "InvalidTie" veT "ValueError.__new__" = true
  u1 : xiB K "UnknownName" leT "LookupError.__new__" = true
  o1 : PySem.W.excIn K (He.ga K "NothingToUndo") aeT "ArithmeticError.__new__" = true
  n2 : xrB K "InvalidName" = true
  t2 : xrB K "InvalidTie" = true
  u2 : xrB K "UnknownName" = true
  o2 : xrB K "NothingToUndo" = true
  w : insB K "Works" = true
  d : (He.cT K ("lots_below", none)).2 ≠ (He.cT K ("Console", some "deed")).2
theorem Tp.exs (T : Tp K mg) : ExAll K := by
  obtain ⟨_, h⟩ := He.ba T.more
  obtain ⟨h1, h⟩ := He.ba h
  obtain ⟨h2, h⟩ := He.ba h
  obtain ⟨h3, h⟩ := He.ba h
  obtain ⟨h4, h⟩ := He.ba h
  obtain ⟨h5, h⟩ := He.ba h
  obtain ⟨h6, h⟩ := He.ba h
  obtain ⟨h7, h⟩ := He.ba h
  obtain ⟨h8, h⟩ := He.ba h
  obtain ⟨h9, h10⟩ := He.ba h
  exact ⟨h1, h2, h3, h4, h5, h6, h7, h8, h9, of_decide_eq_true h10⟩
theorem Tp.xc {B newId initId : String} {bmB : List Value} (T : Tp K mg) (FB : ExcBaseFacts B newId initId bmB) (SF : StoreFacts B bmB "object.__setattr__" "object") (ho : bmB.contains (.type "object") = true) {x : Str} (h1 : xiB K x bmB newId = true) (h2 : xrB K x = true) : XcC K (He.ga K x) bmB newId :=
  ⟨xcB_ok (xi_out h1).1, fun bm hb => PySem.K54X.osa_of SF ho (show PySem.W.excTail bmB (.ref _ :: bm) = true from hb) rfl, (xi_out h1).2.1, (xr_out h2).2.1, (xr_out h2).2.2.1, (xr_out h2).1⟩
/-! ### self.given = given -/
def spGiven (C : Addr) : Sp := fun vs H Q _ => ∃ a y, vs = [.ref a, y] ∧ H a = some (exo a C none) ∧ ∀ dx, H dx = none → dx ≠ a → Q .non (upd (upd H dx (exd dx [("given", y)])) a (exo a C (some dx)))
variable {P : Program} {w : World} {base : Heap}
theorem scInvalidName : FnScope ["self", "given"] ["self", "given"] (defScope sInvalidNameInit) := ⟨rfl, rfl, rfl, by decide +kernel, rfl, by decide +kernel, by decide +kernel⟩
theorem scInvalidTie : FnScope ["self", "given"] ["self", "given"] (defScope sInvalidTieInit) := ⟨rfl, rfl, rfl, by decide +kernel, rfl, by decide +kernel, by decide +kernel⟩
theorem scUnknownName : FnScope ["self", "given"] ["self", "given"] (defScope sUnknownNameInit) := ⟨rfl, rfl, rfl, by decide +kernel, rfl, by decide +kernel, by decide +kernel⟩
theorem spGiven_len {C : Addr} : ∀ vs H Q E, spGiven C vs H Q E → vs.length = ["self", "given"].length := fun vs H Q E ⟨a, y, e, _⟩ => by rw [e]; rfl
theorem ok_InvalidName (T : Tp K mg) : ∃ fd, FnOk P w K mg base C8.CX0 1 (He.ma K (He.ga K "InvalidName") "__init__") fd ["self", "given"] (spGiven (He.ga K "InvalidName")) ∧ Binds K fd ["self", "given"] [] := by
  obtain ⟨fd, F⟩ := T.f_InvalidName_init
  refine ⟨fd, F.ok scInvalidName spGiven_len (fun cdv A outer s H vs Q E hr h => ?_), F.bindsN (fun _ _ _ _ _ _ us hl => match us, hl with | [_, _], _ => rfl)⟩
  obtain ⟨a, y, rfl, h, k⟩ := h
  refine ⟨_, PSs.nox (pss_one (ps_ostG (bmB := veT) (newId := "ValueError.__new__") (pv 0) (pv 1))), ?_⟩
  exact ⟨_, rfl, _, rfl, a, _, rfl, T.xc PySem.F.excBase_ValueError PySem.F.store_ValueError rfl T.exs.n1 T.exs.n2, (xi_out T.exs.n1).2.2.2.2, h, k⟩
theorem ok_InvalidTie (T : Tp K mg) : ∃ fd, FnOk P w K mg base C8.CX0 1 (He.ma K (He.ga K "InvalidTie") "__init__") fd ["self", "given"] (spGiven (He.ga K "InvalidTie")) ∧ Binds K fd ["self", "given"] [] := by
  obtain ⟨fd, F⟩ := T.f_InvalidTie_init
  refine ⟨fd, F.ok scInvalidTie spGiven_len (fun cdv A outer s H vs Q E hr h => ?_), F.bindsN (fun _ _ _ _ _ _ us hl => match us, hl with | [_, _], _ => rfl)⟩
  obtain ⟨a, y, rfl, h, k⟩ := h
  refine ⟨_, PSs.nox (pss_one (ps_ostG (bmB := veT) (newId := "ValueError.__new__") (pv 0) (pv 1))), ?_⟩
  exact ⟨_, rfl, _, rfl, a, _, rfl, T.xc PySem.F.excBase_ValueError PySem.F.store_ValueError rfl T.exs.t1 T.exs.t2, (xi_out T.exs.t1).2.2.2.2, h, k⟩
theorem ok_UnknownName (T : Tp K mg) : ∃ fd, FnOk P w K mg base C8.CX0 1 (He.ma K (He.ga K "UnknownName") "__init__") fd ["self", "given"] (spGiven (He.ga K "UnknownName")) ∧ Binds K fd ["self", "given"] [] := by
  obtain ⟨fd, F⟩ := T.f_UnknownName_init
  refine ⟨fd, F.ok scUnknownName spGiven_len (fun cdv A outer s H vs Q E hr h => ?_), F.bindsN (fun _ _ _ _ _ _ us hl => match us, hl with | [_, _], _ => rfl)⟩
  obtain ⟨a, y, rfl, h, k⟩ := h
  refine ⟨_, PSs.nox (pss_one (ps_ostG (bmB := leT) (newId := "LookupError.__new__") (pv 0) (pv 1))), ?_⟩
  exact ⟨_, rfl, _, rfl, a, _, rfl, T.xc PySem.F.excBase_LookupError PySem.F.store_LookupError rfl T.exs.u1 T.exs.u2, (xi_out T.exs.u1).2.2.2.2, h, k⟩
/-- raise C(e) -/
theorem s_raise1 {C : Addr} {te : TE} {σ : L2.St} {H : Hp} {R : V → Hp → Prop} {W : WX} (h : EvP te σ H R) (k : ∀ d H', Ex H H' → W (.ref C) d σ H') : tMkO C (spGiven C) [] (tCons te tNil) σ H fun cls d H' => W cls d σ H' :=
  h H (Ex.refl H) _ fun v H1 e1 _ => ⟨by show 1 ≤ 1000; omega, fun a ha => ⟨a, v, rfl, upd_same, fun dx hdx ne => by
    rw [upd_ne ne] at hdx
    refine ⟨rfl, dx, [("given", v)], upd_same, ?_, hdx, k _ _ fun b o hb => ?_⟩
    · rw [upd_ne ne]
      exact upd_same
    · have hb1 := e1 b o hb
      have n1 : b ≠ a := fun z => by rw [z, ha] at hb1; cases hb1
      have n2 : b ≠ dx := fun z => by rw [z, hdx] at hb1; cases hb1
      rw [upd_ne n2, del_ne n1, upd_ne n1, upd_ne n2, upd_ne n1]
      exact hb1⟩⟩
section
variable {X : Cx} {W : WX} {e : Expr} {ta : TE} {p pos rp : Pos} {j : Nat}
theorem ps_rN (T : Tp X.K X.mg) (hc : X.calm = true) (tk : Takes X W) (hr : Room j X.A) (hj : 2 ≤ j) (hg : Gl X "InvalidName") (ha : PE X e ta) (he : starEach [e] X.env = (false, eval e X.env) :: starEach [] X.env := by rfl) (hpl : (backTo pos (starEach [] X.env)).any (·.1) = false := by rfl) :
    PS X (.Raise (some (.Call (.Name "InvalidName" p) [e] [] pos)) none rp) (fun _ σ H => tMkO (He.ga X.K "InvalidName") (spGiven (He.ga X.K "InvalidName")) [] (tCons ta tNil) σ H fun cls d H' => W cls d σ H') := by
  obtain ⟨fd, F, b⟩ := ok_InvalidName (P := X.prog) (w := X.w) (base := X.base) T
  exact ps_raise hc tk (pmkG PySem.F.excBase_ValueError (T.xc PySem.F.excBase_ValueError PySem.F.store_ValueError rfl T.exs.n1 T.exs.n2) (xi_out T.exs.n1).2.2.1 (xi_out T.exs.n1).2.2.2.1 F (hr.mono hj) b C8.pass0 hg T.g_InvalidName (pa_cons ha pa_nil he) (by decide) he hpl)
theorem ps_rT (T : Tp X.K X.mg) (hc : X.calm = true) (tk : Takes X W) (hr : Room j X.A) (hj : 2 ≤ j) (hg : Gl X "InvalidTie") (ha : PE X e ta) (he : starEach [e] X.env = (false, eval e X.env) :: starEach [] X.env := by rfl) (hpl : (backTo pos (starEach [] X.env)).any (·.1) = false := by rfl) :
    PS X (.Raise (some (.Call (.Name "InvalidTie" p) [e] [] pos)) none rp) (fun _ σ H => tMkO (He.ga X.K "InvalidTie") (spGiven (He.ga X.K "InvalidTie")) [] (tCons ta tNil) σ H fun cls d H' => W cls d σ H') := by
  obtain ⟨fd, F, b⟩ := ok_InvalidTie (P := X.prog) (w := X.w) (base := X.base) T
  exact ps_raise hc tk (pmkG PySem.F.excBase_ValueError (T.xc PySem.F.excBase_ValueError PySem.F.store_ValueError rfl T.exs.t1 T.exs.t2) (xi_out T.exs.t1).2.2.1 (xi_out T.exs.t1).2.2.2.1 F (hr.mono hj) b C8.pass0 hg T.g_InvalidTie (pa_cons ha pa_nil he) (by decide) he hpl)
theorem ps_rU (T : Tp X.K X.mg) (hc : X.calm = true) (tk : Takes X W) (hr : Room j X.A) (hj : 2 ≤ j) (hg : Gl X "UnknownName") (ha : PE X e ta) (he : starEach [e] X.env = (false, eval e X.env) :: starEach [] X.env := by rfl) (hpl : (backTo pos (starEach [] X.env)).any (·.1) = false := by rfl) :
    PS X (.Raise (some (.Call (.Name "UnknownName" p) [e] [] pos)) none rp) (fun _ σ H => tMkO (He.ga X.K "UnknownName") (spGiven (He.ga X.K "UnknownName")) [] (tCons ta tNil) σ H fun cls d H' => W cls d σ H') := by
  obtain ⟨fd, F, b⟩ := ok_UnknownName (P := X.prog) (w := X.w) (base := X.base) T
  exact ps_raise hc tk (pmkG PySem.F.excBase_LookupError (T.xc PySem.F.excBase_LookupError PySem.F.store_LookupError rfl T.exs.u1 T.exs.u2) (xi_out T.exs.u1).2.2.1 (xi_out T.exs.u1).2.2.2.1 F (hr.mono hj) b C8.pass0 hg T.g_UnknownName (pa_cons ha pa_nil he) (by decide) he hpl)
theorem ps_rO (T : Tp X.K X.mg) (hc : X.calm = true) (tk : Takes X W) (hg : Gl X "NothingToUndo") :
    PS X (.Raise (some (.Call (.Name "NothingToUndo" p) [] [] pos)) none rp) (fun _ σ H => W (.ref (He.ga X.K "NothingToUndo")) none σ H) :=
  ps_raise hc tk (pmk_own0 PySem.F.excBase_ArithmeticError T.exs.o1 T.g_NothingToUndo (xr_out T.exs.o2).1 (raises_own (xr_out T.exs.o2).2.1 (xr_out T.exs.o2).2.2.1) hg)
end
end
end K54
/-! K17 -/
namespace K54
open PySem PySem.Spec PyProof.Rows L2 LamX NdefX Evl
section
variable {X : Cx} (K : PySem.W.Frag)
theorem mtK_tix (hK : X.K = K) : MtR X "tuple.index" (rTIx K) := by
  subst hK
  exact mt_tup_index
theorem callK_sorted (hK : X.K = K) : CallR X (.builtin "sorted") (rSorted K) := by
  subst hK
  exact cr_sorted
end
variable {P : Program} {w : World} {K : PySem.W.Frag} {mg : Str → Option Value} {base : Heap}
/-! ### parts, ties -/
theorem scGet {sc : Scope} (h1 : sc.kind = .function := by rfl) (h2 : sc.isCoroutine = false := by rfl) (h3 : sc.isGenerator = false := by rfl) (h4 : ∀ x ∈ (["self"] : List Str), sc.names.lookup x = some .local ∨ sc.names.lookup x = some .cell := by decide +kernel) (h5 : ∀ y ∈ sc.names, y.2 ≠ .free := by decide +kernel) : True := trivial
theorem scParts : FnScope ["self"] ["self"] (defScope sWorksParts) := ⟨rfl, rfl, rfl, by decide +kernel, rfl, by decide +kernel, by decide +kernel⟩
theorem scTies : FnScope ["self"] ["self"] (defScope sWorksTies) := ⟨rfl, rfl, rfl, by decide +kernel, rfl, by decide +kernel, by decide +kernel⟩
theorem getSp_len {C : Addr} {f : Str} : ∀ vs H Q E, getSp C f vs H Q E → vs.length = ["self"].length := fun vs H Q E ⟨a, dx, fs, v, e, _⟩ => by rw [e]; rfl
theorem ok_parts (T : Tp K mg) : ∃ fd, FnOk P w K mg base C8.CX0 1 (gAd K "Works" "parts") fd ["self"] (getSp (He.ga K "Works") "heads") ∧ Binds K fd ["self"] [] := by
  obtain ⟨fd, F⟩ := T.q_Works_parts
  refine ⟨fd, F.ok scParts getSp_len (fun cdv A outer s H vs Q E hr h => ?_), F.bindsN (fun _ _ _ _ _ _ us hl => match us, hl with | [_], _ => rfl)⟩
  obtain ⟨a, dx, fs, v, rfl, ea, l, q⟩ := h
  exact ⟨_, PSs.nox (pss_one (ps_ret (pe_fld (pv 0) rfl))), .ref a, rfl, a, _, dx, fs, v, rfl, ea, T.c_Works, T.n_Works_heads, l, q⟩
theorem ok_ties (T : Tp K mg) : ∃ fd, FnOk P w K mg base C8.CX0 1 (gAd K "Works" "ties") fd ["self"] (getSp (He.ga K "Works") "roads") ∧ Binds K fd ["self"] [] := by
  obtain ⟨fd, F⟩ := T.q_Works_ties
  refine ⟨fd, F.ok scTies getSp_len (fun cdv A outer s H vs Q E hr h => ?_), F.bindsN (fun _ _ _ _ _ _ us hl => match us, hl with | [_], _ => rfl)⟩
  obtain ⟨a, dx, fs, v, rfl, ea, l, q⟩ := h
  exact ⟨_, PSs.nox (pss_one (ps_ret (pe_fld (pv 0) rfl))), .ref a, rfl, a, _, dx, fs, v, rfl, ea, T.c_Works, T.n_Works_roads, l, q⟩
section
variable {X : Cx} {e : Expr} {ta : TE} {pos : Pos} {j : Nat}
theorem pe_parts (T : Tp K mg) (hr : Room j X.A) (he : PE X e ta) (hj : 2 ≤ j := by decide) (hK : X.K = K := by rfl) (hm : X.mg = mg := by rfl) (hab : attributeBase e "parts" X.env (eval e X.env) = eval e X.env := by rfl) :
    PE X (.Attribute e "parts" pos) (tProp (He.ga K "Works") (getSp (He.ga K "Works") "heads") [] C8.E0 ta) := by
  subst hK hm
  obtain ⟨fd, F, b⟩ := ok_parts (P := X.prog) (w := X.w) (base := X.base) T
  exact pe_prop he T.c_Works T.p_Works_parts F (hr.mono hj) b .nil C8.pass0 hab
theorem pe_ties (T : Tp K mg) (hr : Room j X.A) (he : PE X e ta) (hj : 2 ≤ j := by decide) (hK : X.K = K := by rfl) (hm : X.mg = mg := by rfl) (hab : attributeBase e "ties" X.env (eval e X.env) = eval e X.env := by rfl) :
    PE X (.Attribute e "ties" pos) (tProp (He.ga K "Works") (getSp (He.ga K "Works") "roads") [] C8.E0 ta) := by
  subst hK hm
  obtain ⟨fd, F, b⟩ := ok_ties (P := X.prog) (w := X.w) (base := X.base) T
  exact pe_prop he T.c_Works T.p_Works_ties F (hr.mono hj) b .nil C8.pass0 hab
end
/-- the works' fields -/
structure WIn (K : PySem.W.Frag) (H : Hp) (a : Addr) (W : Wk) (dx h r p : Addr) : Prop where
  at_ : H a = some (.ins (He.ga K "Works") dx (wkF h r p))
  heads : STupN H h W.hs
  roads : PTup H r W.ts
  pushed : NNTup H p (pushedOf W)
section
variable {σ : L2.St} {H H' : Hp} {te : TE} {a dx h r p : Addr} {W : Wk}
theorem WIn.ex (w : WIn K H a W dx h r p) (e : Ex H H') : WIn K H' a W dx h r p := ⟨e _ _ w.at_, w.heads.ex e, w.roads.ex e, w.pushed.ex e⟩
theorem WIn.wk (w : WIn K H a W dx h r p) : WorksAt K H a W := ⟨dx, h, r, p, w.at_, w.heads, w.roads, w.pushed⟩
theorem WorksAt.out (w : WorksAt K H a W) : ∃ dx h r p, WIn K H a W dx h r p := by
  obtain ⟨dx, h, r, p, e1, e2, e3, e4⟩ := w.at_
  exact ⟨dx, h, r, p, e1, e2, e3, e4⟩
theorem ev_parts (w : WIn K H a W dx h r p) (he : Ev te σ H (.ref a)) {E : XK} : Ev (tProp (He.ga K "Works") (getSp (He.ga K "Works") "heads") [] E te) σ H (.ref h) :=
  ev_prop he w.at_ fun H1 e Q q _ => ⟨a, dx, _, _, rfl, e _ _ w.at_, rfl, q H1 (Ex.refl H1)⟩
theorem ev_ties (w : WIn K H a W dx h r p) (he : Ev te σ H (.ref a)) {E : XK} : Ev (tProp (He.ga K "Works") (getSp (He.ga K "Works") "roads") [] E te) σ H (.ref r) :=
  ev_prop he w.at_ fun H1 e Q q _ => ⟨a, dx, _, _, rfl, e _ _ w.at_, rfl, q H1 (Ex.refl H1)⟩
theorem ev_heads (T : Tp K mg) (w : WIn K H a W dx h r p) (he : Ev te σ H (.ref a)) : Ev (tFld K te "heads") σ H (.ref h) := ev_fld he w.at_ T.c_Works T.n_Works_heads rfl
theorem ev_roads (T : Tp K mg) (w : WIn K H a W dx h r p) (he : Ev te σ H (.ref a)) : Ev (tFld K te "roads") σ H (.ref r) := ev_fld he w.at_ T.c_Works T.n_Works_roads rfl
theorem ev_pushed (T : Tp K mg) (w : WIn K H a W dx h r p) (he : Ev te σ H (.ref a)) : Ev (tFld K te "pushed") σ H (.ref p) := ev_fld he w.at_ T.c_Works T.n_Works_pushed rfl
end
/-! ### len, str -/
def spWLen (K : PySem.W.Frag) : Sp := fun vs H Q _ => ∃ a W, vs = [.ref a] ∧ WorksAt K H a W ∧ W.hs.length ≤ 8 ∧ ∀ H', Ex H H' → Q (.int (W.hs.length : Nat)) H'
theorem scWLen : FnScope ["self"] ["self"] (defScope sWorksLen) := ⟨rfl, rfl, rfl, by decide +kernel, rfl, by decide +kernel, by decide +kernel⟩
theorem ok_WLen (T : Tp K mg) : ∃ fd, FnOk P w K mg base C8.CX0 1 (He.ma K (He.ga K "Works") "__len__") fd ["self"] (spWLen K) ∧ Binds K fd ["self"] [] := by
  obtain ⟨fd, F⟩ := T.f_Works_len
  refine ⟨fd, F.ok scWLen (fun vs H Q E h => ?_) (fun cdv A outer s H vs Q E hr h => ?_), F.bindsN (fun _ _ _ _ _ _ us hl => match us, hl with | [_], _ => rfl)⟩
  · obtain ⟨a, W, rfl, _⟩ := h
    rfl
  obtain ⟨a, W, rfl, hw, _, k⟩ := h
  obtain ⟨dx, h, r, p, wi⟩ := hw.out
  refine ⟨_, PSs.nox (pss_one (ps_ret (pb call_len T.z_len PySem.boot_len (pe_fld (pv 0) rfl)))), ?_⟩
  refine s_ret (ev_is (ev_cb1 (ev_heads T wi (ev_var rfl)) (rc_lenT wi.heads.st)) ?_) k
  rw [List.length_map]
def spWStr (K : PySem.W.Frag) : Sp := fun vs H Q _ => ∃ a W, vs = [.ref a] ∧ WorksAt K H a W ∧ W.Ok ∧ ∀ H', Ex H H' → Q (.str (textM W)) H'
theorem scWStr : FnScope ["self", "lines"] ["self"] (defScope sWorksStr) := ⟨rfl, rfl, rfl, by decide +kernel, rfl, by decide +kernel, by decide +kernel⟩
theorem Wk.Ok.parts {W : Wk} (h : W.Ok) : GoodParts W.hs := ⟨h.ne, by have := h.few; omega, h.nd, h.nm⟩
theorem Wk.Ok.gties {W : Wk} (h : W.Ok) : GoodTies W.hs W.ts := ⟨h.nm, h.tnd, h.ties⟩
theorem Wk.Ok.lines {W : Wk} (h : W.Ok) : GoodLines W.hs W.ts := ⟨h.nm, by have := h.few; omega, h.tlen, fun t ht => ⟨(h.ties t ht).1, (h.ties t ht).2.1⟩⟩
theorem join_eq (sep : Str) (l : List Str) : Txt.join sep l = Str.join sep l := eq_of_beq (PyProof.Rows.join_plain_closes sep l)
theorem join_len (sep : Str) (l : List Str) : (Txt.join sep l).length ≤ joinSum sep l := by
  rw [join_eq]
  exact StrLaws.join_length_le sep l
theorem Wk.Ok.first {W : Wk} (h : W.Ok) : (Txt.join (" " : Str) W.hs).length ≤ 100 := by
  have h1 := join_len (" " : Str) W.hs
  have h2 := joinSum_le (a := (" " : Str)) (ys := W.hs) (M := 8) fun z hz => (nameB_len (h.nm z hz)).2
  have h3 : (" " : Str).length = 1 := by decide +kernel
  have h4 := h.few
  rw [h3] at h2
  omega
theorem ok_WStr (T : Tp K mg) : ∃ fd, FnOk P w K mg base C8.CX0 2 (He.ma K (He.ga K "Works") "__str__") fd ["self"] (spWStr K) ∧ Binds K fd ["self"] [] := by
  obtain ⟨fd, F⟩ := T.f_Works_str
  refine ⟨fd, F.ok scWStr (fun vs H Q E h => ?_) (fun cdv A outer s H vs Q E hr h => ?_), F.bindsN (fun _ _ _ _ _ _ us hl => match us, hl with | [_], _ => rfl)⟩
  · obtain ⟨a, W, rfl, _⟩ := h
    rfl
  obtain ⟨a, W, rfl, hw, ok, k⟩ := h
  obtain ⟨dx, h, r, p, wi⟩ := hw.out
  have nd := scWStr.nd
  refine ⟨_, PSs.nox (pss_cons (ps_set (i := 1) nd rfl (Or.inl rfl) (C8.pe_c (ok_lines_of T) hr (by decide) rfl (pa_cons (pe_fld (pv 0) rfl) (pa_cons (pe_fld (pv 0) rfl) pa_nil)))) (pss_one (ps_ret (pe_join pe_str (pv 1))))), ?_⟩
  refine q_asgP (evp_call (ea_cons (ev_heads T wi (ev_var rfl)) (ea_cons (ev_roads T wi (ev_var rfl)) ea_nil)) (v_lines_of wi.heads.st wi.roads ok.lines)) fun v H1 e1 hv => ?_
  obtain ⟨q, rfl, hq⟩ := hv
  refine s_ret (ev_joinL ev_c (evp_is_ref (ev_var rfl) hq) ?_) fun H2 e2 => k H2 (e1.trans e2)
  have h1 := joinSum_le (a := ("\n" : Str)) (M := 100) (ys := linesM W.hs W.ts) fun y hy => by
    rcases List.mem_cons.mp hy with e | hy
    · rw [e]
      exact ok.first
    · obtain ⟨t, ht, rfl⟩ := List.mem_map.mp hy
      exact Nat.le_trans (tieT_len (ok.nm _ (ok.ties t ht).1) (ok.nm _ (ok.ties t ht).2.1)) (by decide)
  have h2 : ("\n" : Str).length = 1 := by decide +kernel
  have h3 : (linesM W.hs W.ts).length ≤ 1001 := by
    unfold linesM
    rw [List.length_cons, List.length_map]
    have := ok.tlen
    omega
  have h4 := Nat.mul_le_mul_right 101 h3
  rw [h2] at h1
  omega
/-! ### check_works, place_of -/
theorem Tp.insC (T : Tp K mg) : C8.InsC K (He.ga K "Works") := by
  obtain ⟨h1, h⟩ := He.ba T.exs.w
  obtain ⟨h2, h⟩ := He.ba h
  obtain ⟨h3, h⟩ := He.ba h
  obtain ⟨h4, h5⟩ := He.ba h
  exact ⟨T.c_Works, He.eqO_ok h1, of_decide_eq_true h2, of_decide_eq_true h3, of_decide_eq_true h4, of_decide_eq_true h5⟩
def spCheck (K : PySem.W.Frag) : Sp := fun vs H Q _ => ∃ a W, vs = [.ref a] ∧ WorksAt K H a W ∧ ∀ H', Ex H H' → Q .non H'
theorem v_check {a : Addr} {W : Wk} {H : Hp} (h : WorksAt K H a W) : SpV (spCheck K) [.ref a] H .non := fun H1 e Q q _ => ⟨a, W, rfl, h.ex e, q⟩
theorem scCheck : FnScope ["value"] ["value"] (defScope sCheckWorks) := ⟨rfl, rfl, rfl, by decide +kernel, rfl, by decide +kernel, by decide +kernel⟩
theorem ok_check (T : Tp K mg) : C8.Cal P w K mg base 1 "check_works" (spCheck K) [] := by
  obtain ⟨fd, F⟩ := T.f_check_works
  refine ⟨_, fd, ["value"], [], ?_, T.g_check_works, F.kp, F.bindsN (fun _ _ _ _ _ _ us hl => match us, hl with | [_], _ => rfl), .nil⟩
  refine F.ok scCheck (fun vs H Q E h => ?_) (fun cdv A outer s H vs Q E hr h => ?_)
  · obtain ⟨a, W, rfl, _⟩ := h
    rfl
  · obtain ⟨a, W, rfl, hw, k⟩ := h
    obtain ⟨dx, h, r, p, wi⟩ := hw.out
    refine ⟨_, PSs.nox (pss_one (ps_if (pt_not (pt_val (pe_callB (C8.call_isC (T.insC)) rfl T.z_isinstance PyProof.Rows.boot_isinstance (pa_cons (pv 0) (pa_cons (C8.pe_gc (v := .ref (He.ga K "Works")) rfl ⟨_, T.g_Works, rfl⟩) pa_nil))))) pss_never pss_nil)), ?_⟩
    exact s_when (b := false) (et_is (et_not (et_B (ev_cb (ea_cons (ev_var rfl) (ea_cons ev_c ea_nil)) (z := .bl true) fun H1 e Q q => ⟨a, dx, _, rfl, e _ _ wi.at_, q H1 (Ex.refl H1)⟩))) rfl) nofun fun _ H1 e1 => k H1 e1
def spPlace (K : PySem.W.Frag) : Sp := fun vs H Q E => ∃ a W z, vs = [.ref a, .str z] ∧ WorksAt K H a W ∧ (z ∈ W.hs → ∀ H', Ex H H' → Q (.int (W.hs.idxOf z : Nat)) H') ∧ (z ∉ W.hs → ∀ d H', Ex H H' → E (.ref (He.ga K "UnknownName")) d H')
theorem scPlace : FnScope ["works", "name"] ["works", "name"] (defScope sPlaceOf) := ⟨rfl, rfl, rfl, by decide +kernel, rfl, by decide +kernel, by decide +kernel⟩
theorem ok_place (T : Tp K mg) : ∃ fd, FnOk P w K mg base (L2.CX P w) 3 (He.ga K "place_of") fd ["works", "name"] (spPlace K) ∧ Binds K fd ["works", "name"] [] ∧ PySem.W.keepIn K (.ref (He.ga K "place_of")) = true := by
  obtain ⟨fd, F⟩ := T.f_place_of
  refine ⟨fd, F.ok scPlace (fun vs H Q E h => ?_) (fun cdv A outer s H vs Q E hr h => ?_), F.bindsN (fun _ _ _ _ _ _ us hl => match us, hl with | [_, _], _ => rfl), F.kp⟩
  · obtain ⟨a, W, z, rfl, _⟩ := h
    rfl
  · obtain ⟨a, W, z, rfl, hw, k1, k2⟩ := h
    obtain ⟨dx, h, r, p, wi⟩ := hw.out
    refine ⟨_, pss_cons (ps_if (pt_cmpR op_notIn_seq (pv 1) (pe_parts T hr (pv 0)) rfl) (pss_one (ps_rU T rfl (takes_of rfl rfl rfl rfl) hr (by decide) rfl (pv 1))) pss_nil) (pss_one (ps_ret (pe_tm PySem.F.slot_tuple_index PySem.F.type_tuple_index mt_tup_index (pe_parts T hr (pv 0)) (pa_cons (pv 1) pa_nil)))), ?_⟩
    refine q_when (et_test (ev_op (ev_var rfl) (ev_parts wi (ev_var rfl)) (rv_niS wi.heads.st))) (fun hb H1 e1 => ?_) (fun hb H1 e1 => ?_)
    · have hz : z ∉ W.hs := by simpa using hb
      exact s_raise1 (W := fun cls d _ H => E cls d H) (EvP.of (ev_var rfl)) fun d H2 e2 => k2 hz d H2 (e1.trans e2)
    · have hz : z ∈ W.hs := by simpa using hb
      exact s_ret (ev_tix (ev_parts (wi.ex e1) (ev_var rfl)) (wi.heads.ex e1) (ev_var rfl) hz) fun H2 e2 => k1 hz H2 (e1.trans e2)
end K54
/-! K18 -/
namespace K54
open PySem PySem.Spec PyProof.Rows L2 LamX NdefX Evl
/-! ### sorted -/
def sortN (row : List Nat) : List Nat := row.mergeSort fun a b => decide (a ≤ b)
theorem sortN_mem {i : Nat} {row : List Nat} : i ∈ sortN row ↔ i ∈ row := (List.mergeSort_perm row _).mem_iff
theorem sortN_len (row : List Nat) : (sortN row).length = row.length := (List.mergeSort_perm row _).length_eq
theorem getD_of {α : Type} {xs : List α} {i : Nat} {x d : α} (h : xs[i]? = some x) : xs.getD i d = x := by
  rw [List.getD_eq_getElem?_getD, h]
  rfl
theorem sortN_ints {row : List Nat} {ns : List Int} (hp : ns.Perm (row.map fun n : Nat => (n : Int))) (hs : ns.Pairwise (· ≤ ·)) : ns = (sortN row).map fun n : Nat => (n : Int) := by
  refine List.Perm.eq_of_pairwise (le := (· ≤ ·)) (fun a b _ _ h1 h2 => Int.le_antisymm h1 h2) hs ?_ (hp.trans ((List.mergeSort_perm row _).map _).symm)
  rw [List.pairwise_map]
  have h := List.pairwise_mergeSort (le := fun a b : Nat => decide (a ≤ b)) (fun a b c h1 h2 => decide_eq_true (Nat.le_trans (of_decide_eq_true h1) (of_decide_eq_true h2))) (fun a b => by
    rw [Bool.or_eq_true]
    rcases Nat.le_total a b with h | h
    · exact .inl (decide_eq_true h)
    · exact .inr (decide_eq_true h)) row
  exact h.imp fun {a b} q => Int.ofNat_le.mpr (of_decide_eq_true q)
def natV (n : Nat) : V := .int (n : Int)
section
variable {K : PySem.W.Frag} {σ : L2.St} {H H' : Hp} {te ta tb : TE} {v : V}
theorem evp_sorted {a : Addr} {row : List Nat} (h : Ev te σ H (.ref a)) (ha : NLst H a row) (hl : row.length < 64) : EvP (tCB (rSorted K) (tCons te tNil)) σ H (IsL ((sortN row).map natV)) :=
  evp_cb1 h fun H1 e Q q => ⟨a, row.map fun n : Nat => (n : Int), rfl, by
    rw [List.map_map]
    exact .inl (.inl (e _ _ ha)), by rw [List.length_map]; exact hl, fun ns' p hp hs hn => q _ _ (Ex.new hn) ⟨p, rfl, by
    rw [upd_same, sortN_ints hp hs, List.map_map]
    rfl⟩⟩
theorem el_cat {xs ys : List V} {p : Addr} (ha : Ev ta σ H (.ref p)) (hp : H p = some (.lst xs)) (hb : EvL tb σ H ys) (hz : xs.length + ys.length ≤ 100000) : EvL (tOp rCat ta tb) σ H (xs ++ ys) := fun H1 e Q q =>
  ha H1 e _ fun H2 e2 => hb H2 (e.trans e2) _ fun p2 H3 _ e3 hp2 => ⟨p, p2, xs, ys, rfl, rfl, ((e.trans e2).trans e3) _ _ hp, hp2, sz_of hz, fun p3 h3 => q p3 _ (fresh_back (e2.trans e3) h3) ((e2.trans e3).trans (Ex.new h3)) upd_same⟩
theorem el_listS {xs : List V} {p : Addr} (ha : Ev ta σ H (.ref p)) (hp : SqL K H p xs ∨ SqT K H p xs) : EvL (tCB (rListS K) (tCons ta tNil)) σ H xs := fun H1 e Q q =>
  ha H1 e _ fun H2 e2 => ⟨p, xs, rfl, hp.imp (ex_l (e.trans e2)) (ex_t (e.trans e2)), fun l hl => q l _ (fresh_back e2 hl) (e2.trans (Ex.new hl)) upd_same⟩
theorem rv_isN : RV (fun x y H Q => y = .non ∧ Q (.bl (decide (x = .non))) H) v .non H (.bl (decide (v = .non))) := fun H1 _ Q q => ⟨rfl, q H1 (Ex.refl H1)⟩
theorem rv_notN : RV (fun x y H Q => y = .non ∧ Q (.bl (!decide (x = .non))) H) v .non H (.bl (!decide (v = .non))) := fun H1 _ Q q => ⟨rfl, q H1 (Ex.refl H1)⟩
end
variable {P : Program} {w : World} {K : PySem.W.Frag} {mg : Str → Option Value} {base : Heap}
/-! ### named -/
def spNamed (K : PySem.W.Frag) : Sp := fun vs H Q _ => ∃ a l W row, vs = [.ref a, .ref l] ∧ WorksAt K H a W ∧ NLst H l row ∧ row.length < 64 ∧ (∀ i ∈ row, i < W.hs.length) ∧ ∀ v H', Ex H H' → IsU ((namedM W row).map V.str) v H' → Q v H'
theorem v_named {a l : Addr} {W : Wk} {row : List Nat} {H : Hp} (h : WorksAt K H a W) (hl : NLst H l row) (h1 : row.length < 64) (h2 : ∀ i ∈ row, i < W.hs.length) : SpP (spNamed K) [.ref a, .ref l] H (IsU ((namedM W row).map V.str)) := fun H1 e Q q _ => ⟨a, l, W, row, rfl, h.ex e, e _ _ hl, h1, h2, q⟩
abbrev NNamed : List Str := ["works", "row", "at"]
theorem scNamed : FnScope NNamed ["works", "row"] (defScope sNamed) := ⟨rfl, rfl, rfl, by decide +kernel, rfl, by decide +kernel, by decide +kernel⟩
theorem ok_named (T : Tp K mg) : C8.Cal P w K mg base 3 "named" (spNamed K) [] := by
  obtain ⟨fd, F⟩ := T.f_named
  refine ⟨_, fd, ["works", "row"], [], ?_, T.g_named, F.kp, F.bindsN (fun _ _ _ _ _ _ us hl => match us, hl with | [_, _], _ => rfl), .nil⟩
  refine F.ok scNamed (fun vs H Q E h => ?_) (fun cdv A outer s H vs Q E hr h => ?_)
  · obtain ⟨a, l, W, row, rfl, _⟩ := h
    rfl
  · obtain ⟨a, l, W, row, rfl, hw, hl, h64, hlt, k⟩ := h
    have nd := scNamed.nd
    obtain ⟨dx, h, r, p, wi⟩ := hw.out
    refine ⟨_, PSs.nox (pss_one (ps_ret (pty call_tuple_of T.z_tuple PyProof.Rows.boot_tuple (pe_lc (own := [("at", 2)]) (g := gName 2) (tt := tYes) rfl nd (pi_list (pb cr_sorted T.z_sorted PyProof.Rows.boot_sorted (pv 1))) (blkOk_by (N := NNamed) (sc := defScope sNamed) (by decide +kernel))
      (fun _ _ _ _ _ => pg_name (i := 2) nd rfl (Or.inl rfl)) (fun _ _ _ _ _ => pts_nil) (fun _ _ _ _ _ => pe_ix (ixK_tup K rfl) (pe_parts T hr (pv 0)) (pv 2) (fun _ _ => rfl)))))), ?_⟩
    refine s_retP (R := IsU ((namedM W row).map V.str)) (evp_tup ((lcV (n := ((sortN row).map natV).length) (fun _ => true) (fun j => .str (W.hs.getD ((sortN row).getD j 0) Str.empty)) (ei_lst (evp_sorted (ev_var rfl) hl h64)) yx_at ?_ ?_).imp ?_)) k
    · rw [List.length_map, sortN_len]
      omega
    · rintro i _ Hc Hd hi ec ⟨rfl, hx⟩
      rw [List.getElem?_map] at hx
      obtain ⟨j, hj, rfl⟩ := Option.map_eq_some_iff.mp hx
      have hjm := hlt j (sortN_mem.mp (List.mem_of_getElem? hj))
      have e1 : (sortN row).getD i 0 = j := by rw [List.getD_eq_getElem?_getD, hj]; rfl
      rw [e1]
      refine eg_name ⟨rfl, et_yes, fun _ => ev_op (ev_parts (wi.ex ec) (ev_var rfl)) (ev_var rfl) (rv_ixT (.inl (wi.heads.ex ec).st) (atI_nat ?_))⟩
      rw [List.getElem?_map, List.getElem?_eq_getElem hjm, List.getD_eq_getElem?_getD, List.getElem?_eq_getElem hjm]
      rfl
    · rintro v H1 e1 ⟨q, rfl, hq⟩
      refine ⟨q, _, rfl, hq, fun q' H2 e2 hq' => ⟨q', rfl, .inl ?_⟩⟩
      rw [hq', given_all fun _ _ => rfl, List.length_map]
      unfold namedM
      rw [List.map_map]
      exact congrArg (fun z => some (HO.tup z)) (map_range_at (sortN row) (V.str ∘ fun i => W.hs.getD i Str.empty) _ fun i x hx => by
        rw [getD_of hx]
        rfl)
/-! ### wrong_leader, places_of -/
def GoodLead (hs ls : List Str) : Prop := (∀ x ∈ ls, x ∈ hs) ∧ ls.Nodup ∧ ls.length ≤ 1000
def spWrongLeader : Sp := fun vs H Q _ => ∃ a b hs ls, vs = [.ref a, .ref b] ∧ STup H a hs ∧ STup H b ls ∧ GoodLead hs ls ∧ ∀ v H', Ex H H' → IsU [] v H' → Q v H'
theorem v_wrong_leader {a b : Addr} {hs ls : List Str} {H : Hp} (h : STup H a hs) (hb : STup H b ls) (g : GoodLead hs ls) : SpP spWrongLeader [.ref a, .ref b] H (IsU []) := fun H1 e Q q _ => ⟨a, b, hs, ls, rfl, h.ex e, hb.ex e, g, q⟩
theorem scWrongLeader : FnScope ["parts", "leaders", "at", "part"] ["parts", "leaders"] (defScope sWrongLeader) := ⟨rfl, rfl, rfl, by decide +kernel, rfl, by decide +kernel, by decide +kernel⟩
theorem ok_wrong_leader (T : Tp K mg) : C8.Cal P w K mg base 1 "wrong_leader" spWrongLeader [] := by
  obtain ⟨fd, F⟩ := T.f_wrong_leader
  refine ⟨_, fd, ["parts", "leaders"], [], ?_, T.g_wrong_leader, F.kp, F.bindsN (fun _ _ _ _ _ _ us hl => match us, hl with | [_, _], _ => rfl), .nil⟩
  refine F.ok scWrongLeader (fun vs H Q E h => ?_) (fun cdv A outer s H vs Q E hr h => ?_)
  · obtain ⟨a, b, hs, ls, rfl, _⟩ := h
    rfl
  · obtain ⟨a, b, hs, ls, rfl, h, hb, ⟨g1, g2, g3⟩, k⟩ := h
    have nd := scWrongLeader.nd
    refine ⟨_, PSs.nox (pss_cons (ps_if (pt_not (pt_val (pis T.z_isinstance T.z_tuple PyProof.Rows.boot_tuple (pv 1)))) pss_never pss_nil)
      (pss_cons (ps_for PassesOwn.never rfl (pi_enumU rfl T.z_enumerate (pa_cons (pv 1) pa_nil)) (pg_tup (n := 2) rfl (pgs_cons (pg_name (i := 2) nd rfl (Or.inl rfl)) (pgs_cons (pg_name (i := 3) nd rfl (Or.inl rfl)) pgs_nil)))
        (pss_one (ps_if (PW.pt (pw_or (pt_cmpR op_notIn_seq (pv 3) (pv 0) rfl) (pw_or1 (pt_cmpR op_in_seq (pv 3) (pe_slice sl_tupA (pv 1) po_none (po_some (pv 2))) rfl)))) pss_never pss_nil)))
        (pss_one (ps_ret (pe_tup pa_nil))))), ?_⟩
    refine q_when (b := false) (et_is (et_not (et_B (ev_cb (ea_cons (ev_var rfl) (ea_cons ev_c ea_nil)) (rc_isT hb)))) rfl) nofun (fun _ H1 e1 => ?_)
    refine q_forI (ei_enum (ea_cons (ev_var rfl) ea_nil) (hb.ex e1)) yx_pair (fun _ σ' _ => ∃ x y, σ' = [some (.ref a), some (.ref b), x, y]) (fun _ _ => ⟨_, _, rfl⟩) ?_ (fun σ' H2 e2 _ => s_retP (evp_tupV ea_nil (by decide)) fun v H3 e3 hv => k v H3 ((e1.trans e2).trans e3) hv)
    rintro Hb i _ σ' Hc Hd hi eb ebc ⟨o1, o2, rfl⟩ ⟨Tt, u, v, rfl, hn, rfl, hu, hv⟩
    cases hu
    replace hv : (ls.map V.str)[i]? = some v := hv
    rw [List.getElem?_map] at hv
    obtain ⟨z, hz, rfl⟩ := Option.map_eq_some_iff.mp hv
    have hzm := g1 z (List.mem_of_getElem? hz)
    have ecd : Ex Hc (upd Hc Tt (.tup [.int (i : Nat), .str z])) := Ex.new hn
    have ehd := e1.trans (eb.trans (ebc.trans ecd))
    refine eg_two upd_same (s_when (b := false) (et_is (et_or (et_test (ev_op (ev_var rfl) (ev_var rfl) (rv_niS (h.ex ehd)))) (fun _ => et_test (b := decide (z ∈ ls.take i)) (ev_opP (ev_var rfl) (evp_take (ev_var rfl) (hb.ex ehd) (eo_some (ev_var rfl))) (fun y H2 e2 hy => ?_)))) ?_) nofun (fun _ H2 e2 => ⟨(ebc.trans ecd).trans e2, _, _, rfl⟩))
    · obtain ⟨q, rfl, hq⟩ := hy
      rw [← List.map_take] at hq
      exact rv_inS hq
    · rw [decide_eq_true hzm, decide_eq_false (nodup_take g2 hz)]
      rfl
def spPlaces (K : PySem.W.Frag) : Sp := fun vs H Q _ => ∃ a l W ls, vs = [.ref a, .ref l] ∧ WorksAt K H a W ∧ STup H l ls ∧ GoodLead W.hs ls ∧ ∀ v H', Ex H H' → IsL ((placesM W ls).map natV) v H' → Q v H'
theorem v_places {a l : Addr} {W : Wk} {ls : List Str} {H : Hp} (h : WorksAt K H a W) (hl : STup H l ls) (g : GoodLead W.hs ls) : SpP (spPlaces K) [.ref a, .ref l] H (IsL ((placesM W ls).map natV)) := fun H1 e Q q _ => ⟨a, l, W, ls, rfl, h.ex e, hl.ex e, g, q⟩
abbrev NPlaces : List Str := ["works", "leaders", "wrong", "part"]
theorem scPlaces : FnScope NPlaces ["works", "leaders"] (defScope sPlacesOf) := ⟨rfl, rfl, rfl, by decide +kernel, rfl, by decide +kernel, by decide +kernel⟩
theorem ok_places (T : Tp K mg) : C8.Cal P w K mg base 3 "places_of" (spPlaces K) [] := by
  obtain ⟨fd, F⟩ := T.f_places_of
  refine ⟨_, fd, ["works", "leaders"], [], ?_, T.g_places_of, F.kp, F.bindsN (fun _ _ _ _ _ _ us hl => match us, hl with | [_, _], _ => rfl), .nil⟩
  refine F.ok scPlaces (fun vs H Q E h => ?_) (fun cdv A outer s H vs Q E hr h => ?_)
  · obtain ⟨a, l, W, ls, rfl, _⟩ := h
    rfl
  · obtain ⟨a, l, W, ls, rfl, hw, hl, g, k⟩ := h
    have nd := scPlaces.nd
    obtain ⟨dx, h, r, p, wi⟩ := hw.out
    refine ⟨_, PSs.nox (pss_cons (ps_expr (C8.pe_c (ok_check T) hr (by decide) rfl (pa_cons (pv 0) pa_nil)))
      (pss_cons (ps_set (i := 2) nd rfl (Or.inl rfl) (C8.pe_c (ok_wrong_leader T) hr (by decide) rfl (pa_cons (pe_parts T hr (pv 0)) (pa_cons (pv 1) pa_nil))))
      (pss_cons (ps_if (pt_cmpR (op_neD hr.units) (pv 2) (pe_tup pa_nil) (nomark _)) pss_never pss_nil)
      (pss_one (ps_ret (pe_lc (own := [("part", 3)]) (g := gName 3) (tt := tYes) rfl nd (pi_tup (pv 1)) (blkOk_by (N := NPlaces) (sc := defScope sPlacesOf) (by decide +kernel))
      (fun _ _ _ _ _ => pg_name (i := 3) nd rfl (Or.inl rfl)) (fun _ _ _ _ _ => pts_nil) (fun _ _ _ _ _ => pe_tm PySem.F.slot_tuple_index PySem.F.type_tuple_index (mtK_tix K rfl) (pe_parts T hr (pv 0)) (pa_cons (pv 3) pa_nil)))))))), ?_⟩
    refine q_drop (ev_call (ea_cons (ev_var rfl) ea_nil) (v_check hw)) fun H1 e1 => ?_
    refine q_asgP (evp_call (ea_cons (ev_parts (wi.ex e1) (ev_var rfl)) (ea_cons (ev_var rfl) ea_nil)) (v_wrong_leader (wi.heads.st.ex e1) (hl.ex e1) g)) fun v1 H2 e2 hv1 => ?_
    obtain ⟨q1, rfl, hq1⟩ := hv1
    refine q_when (b := false) (et_test (ev_opP (ev_var rfl) (evp_tupV ea_nil (by decide)) fun y H2 e2 ⟨q2, ey, hq2⟩ => by rw [ey]; exact rv_neE (ex_rd e2 hq1) hq2)) nofun (fun _ H3 e3 => ?_)
    have e03 := (e1.trans e2).trans e3
    refine s_retP (lcV (fun _ => true) (fun j => natV (W.hs.idxOf (ls.getD j Str.empty))) (ei_tup (ev_var rfl) (hl.ex e03)) yx_at (by rw [List.length_map]; exact Nat.le_trans g.2.2 (by decide)) ?_) (fun v H4 e4 ⟨q, ev, hq⟩ => k v H4 (e03.trans e4) ⟨q, ev, ?_⟩)
    · rintro i _ Hc Hd hi ec ⟨rfl, hx⟩
      rw [List.getElem?_map] at hx
      obtain ⟨z, hz, rfl⟩ := Option.map_eq_some_iff.mp hx
      have e1 : ls.getD i Str.empty = z := by rw [List.getD_eq_getElem?_getD, hz]; rfl
      rw [e1]
      exact eg_name ⟨rfl, et_yes, fun _ => ev_tix (ev_parts (wi.ex (e03.trans ec)) (ev_var rfl)) (wi.heads.ex (e03.trans ec)) (ev_var rfl) (g.1 z (List.mem_of_getElem? hz))⟩
    · rw [hq, given_all fun _ _ => rfl, List.length_map]
      unfold placesM
      rw [List.map_map]
      exact congrArg (fun z => some (HO.lst z)) (map_range_at ls (natV ∘ fun x => W.hs.idxOf x) _ fun i x hx => by
        rw [List.getD_eq_getElem?_getD, hx]
        rfl)
end K54
/-! K19 -/
namespace K54
open PySem PySem.Spec PyProof.Rows L2 LamX NdefX Evl
/-! ### plain facts of forcing -/
theorem pushedOf_at {W : Wk} {i : Nat} (h : i < W.hs.length) : (pushedOf W)[i]? = some (pushRow W (W.hs.getD i Str.empty)) := by
  unfold pushedOf
  rw [List.getElem?_map, List.getElem?_eq_getElem h, List.getD_eq_getElem?_getD, List.getElem?_eq_getElem h]
  rfl
theorem pushRow_lt {W : Wk} {one : Str} {j : Nat} (h : j ∈ pushRow W one) : j < W.hs.length := List.mem_range.mp (List.mem_filter.mp h).1
theorem onlyUnk_lt {W : Wk} {i : Nat} {lot : List Nat} {y : Nat} (h : onlyUnk (pushedOf W) i lot = some y) : y < W.hs.length ∧ y ∉ lot := by
  unfold onlyUnk at h
  split at h
  · rename_i x e
    cases h
    have hm : y ∈ ((pushedOf W).getD i []).filter fun p => !decide (p ∈ lot) := by rw [e]; exact List.mem_cons_self
    obtain ⟨h1, h2⟩ := List.mem_filter.mp hm
    refine ⟨?_, by simpa using h2⟩
    by_cases hi : i < W.hs.length
    · rw [List.getD_eq_getElem?_getD, pushedOf_at hi] at h1
      exact pushRow_lt h1
    · rw [List.getD_eq_getElem?_getD, List.getElem?_eq_none (by unfold pushedOf; rw [List.length_map]; omega)] at h1
      cases h1
  · cases h
theorem nextF_lt {W : Wk} {lot : List Nat} {y : Nat} (h : nextF (pushedOf W) lot = some y) : y < W.hs.length ∧ y ∉ lot := by
  unfold nextF at h
  obtain ⟨i, _, hi⟩ := List.exists_of_findSome?_eq_some h
  exact onlyUnk_lt hi
theorem findSome_none {α β : Type} {f : α → Option β} {xs : List α} (h : ∀ (j : Nat) (x : α), xs[j]? = some x → f x = none) : xs.findSome? f = none := List.findSome?_eq_none_iff.mpr fun x hx => by
  obtain ⟨j, hj⟩ := List.mem_iff_getElem?.mp hx
  exact h j x hj
theorem findSome_at {α β : Type} {f : α → Option β} : ∀ {xs : List α} {i : Nat} {x : α} {y : β}, xs[i]? = some x → f x = some y → (∀ j z, j < i → xs[j]? = some z → f z = none) → xs.findSome? f = some y
  | [], i, x, y, h, _, _ => by simp at h
  | a :: xs, 0, x, y, h, hy, _ => by
    have : a = x := by simpa using h
    rw [List.findSome?_cons, this, hy]
  | a :: xs, i + 1, x, y, h, hy, hn => by
    rw [List.findSome?_cons, hn 0 a (Nat.zero_lt_succ i) rfl]
    exact findSome_at (xs := xs) (i := i) (by simpa using h) hy fun j z hj hz => hn (j + 1) z (by omega) (by simpa using hz)
/-- a lot: distinct places below n -/
def Lot (n : Nat) (lot : List Nat) : Prop := lot.Nodup ∧ ∀ i ∈ lot, i < n
theorem Lot.len {n : Nat} {lot : List Nat} (h : Lot n lot) : lot.length ≤ n := by
  have := nodup_len (ys := List.range n) h.1 fun i hi => List.mem_range.mpr (h.2 i hi)
  rwa [List.length_range] at this
theorem Lot.snoc {n : Nat} {lot : List Nat} {y : Nat} (h : Lot n lot) (h1 : y < n) (h2 : y ∉ lot) : Lot n (lot ++ [y]) := by
  refine ⟨List.nodup_append.mpr ⟨h.1, by simp, fun a ha b hb => ?_⟩, fun i hi => ?_⟩
  · have : b = y := by simpa using hb
    rw [this]
    exact fun z => h2 (by rw [← z]; exact ha)
  · rcases List.mem_append.mp hi with q | q
    · exact h.2 i q
    · have : i = y := by simpa using q
      rw [this]
      exact h1
theorem allLot_stop {pu : List (List Nat)} {lot : List Nat} (h : nextF pu lot = none) : ∀ f, allLot pu f lot = lot
  | 0 => rfl
  | f + 1 => by
    unfold allLot
    rw [h]
theorem allLot_step {pu : List (List Nat)} {lot : List Nat} {y f : Nat} (h : nextF pu lot = some y) : allLot pu (f + 1) lot = allLot pu f (lot ++ [y]) := by
  rw [allLot, h]
theorem allLot_lot {W : Wk} : ∀ (f : Nat) {lot : List Nat}, Lot W.hs.length lot → Lot W.hs.length (allLot (pushedOf W) f lot)
  | 0, _, h => h
  | f + 1, lot, h => by
    unfold allLot
    cases e : nextF (pushedOf W) lot with
    | none => exact h
    | some y => exact allLot_lot f (h.snoc (nextF_lt e).1 (nextF_lt e).2)
variable {P : Program} {w : World} {K : PySem.W.Frag} {mg : Str → Option Value} {base : Heap}
def optV : Option Nat → V
  | none => .non
  | some y => natV y
/-! ### only_unknown -/
def spOnly (K : PySem.W.Frag) : Sp := fun vs H Q _ => ∃ a l W i lot, vs = [.ref a, natV i, .ref l] ∧ WorksAt K H a W ∧ i < W.hs.length ∧ W.hs.length ≤ 8 ∧ NLst H l lot ∧ ∀ H', Ex H H' → Q (optV (onlyUnk (pushedOf W) i lot)) H'
theorem v_only {a l : Addr} {W : Wk} {i : Nat} {lot : List Nat} {H : Hp} (h : WorksAt K H a W) (hi : i < W.hs.length) (h8 : W.hs.length ≤ 8) (hl : NLst H l lot) : SpV (spOnly K) [.ref a, natV i, .ref l] H (optV (onlyUnk (pushedOf W) i lot)) := fun H1 e Q q _ => ⟨a, l, W, i, lot, rfl, h.ex e, hi, h8, e _ _ hl, q⟩
abbrev NOnly : List Str := ["works", "at", "lot", "found", "place"]
theorem scOnly : FnScope NOnly ["works", "at", "lot"] (defScope sOnlyUnknown) := ⟨rfl, rfl, rfl, by decide +kernel, rfl, by decide +kernel, by decide +kernel⟩
theorem given_filter (xs : List Nat) (q : Nat → Bool) : given xs.length (fun j => q (xs.getD j 0)) (fun j => natV (xs.getD j 0)) = (xs.filter q).map natV := by
  have e : (List.range xs.length).map (fun j => xs.getD j 0) = xs := by
    have := map_range_at xs id (fun j => xs.getD j 0) fun i x hx => getD_of hx
    rwa [List.map_id] at this
  have e2 : xs.filter q = ((List.range xs.length).filter fun j => q (xs.getD j 0)).map fun j => xs.getD j 0 := by
    conv => lhs; rw [← e]
    rw [List.filter_map]
    rfl
  rw [e2]
  unfold given
  rw [List.map_map]
  rfl
theorem ok_only (T : Tp K mg) : C8.Cal P w K mg base 1 "only_unknown" (spOnly K) [] := by
  obtain ⟨fd, F⟩ := T.f_only_unknown
  refine ⟨_, fd, ["works", "at", "lot"], [], ?_, T.g_only_unknown, F.kp, F.bindsN (fun _ _ _ _ _ _ us hl => match us, hl with | [_, _, _], _ => rfl), .nil⟩
  refine F.ok scOnly (fun vs H Q E h => ?_) (fun cdv A outer s H vs Q E hr h => ?_)
  · obtain ⟨a, l, W, i, lot, rfl, _⟩ := h
    rfl
  · obtain ⟨a, l, W, i, lot, rfl, hw, hi, h8, hl, k⟩ := h
    have nd := scOnly.nd
    obtain ⟨dx, h, r, p, wi⟩ := hw.out
    obtain ⟨as, hp, hpp⟩ := wi.pushed
    obtain ⟨q, hq1, hq2⟩ := paired_at2 hpp (pushedOf_at hi)
    have hlen : (pushRow W (W.hs.getD i Str.empty)).length ≤ 8 := by
      unfold pushRow
      have := List.length_filter_le (fun j => decide ((W.hs.getD i Str.empty, W.hs.getD j Str.empty) ∈ W.ts)) (List.range W.hs.length)
      rw [List.length_range] at this
      omega
    refine ⟨_, PSs.nox (pss_cons (ps_setLc (i := 3) (own := [("place", 4)]) (g := gName 4) rfl nd rfl rfl (sw_true rfl rfl rfl (by decide +kernel)) (pi_tup (pe_ix ix_tup (pe_fld (pv 0) rfl) (pv 1) (fun _ _ => rfl))) (blkOk_by (N := NOnly) (sc := defScope sOnlyUnknown) (by decide +kernel))
      (fun _ _ _ _ _ => pg_name (i := 4) nd rfl (Or.inl rfl)) (fun _ _ _ _ _ => pts_one (pt_cmpR (opK_notIn K rfl) (pv 4) (pv 2) rfl)) (fun _ _ _ _ _ => pv 4))
      (pss_one (ps_ret (pe_ifExp (pt_cmpR op_eq (pb call_len T.z_len PySem.boot_len (pv 3)) pe_int (nomark _)) (pe_ix ix_list (pv 3) pe_int (fun _ _ => rfl)) pe_non)))), ?_⟩
    have hx : ∀ H1, Ex H H1 → H1 q = some (.tup ((pushRow W (W.hs.getD i Str.empty)).map natV)) := fun H1 e => e _ _ hq2
    refine q_asgP (lcV (fun j => !decide ((pushRow W (W.hs.getD i Str.empty)).getD j 0 ∈ lot)) (fun j => natV ((pushRow W (W.hs.getD i Str.empty)).getD j 0))
      (ei_tup (a := q) (xs := (pushRow W (W.hs.getD i Str.empty)).map natV) (ev_op (ev_pushed T wi (ev_var rfl)) (ev_var rfl) (rv_ixT (st_of hp) (atI_nat (by rw [List.getElem?_map, hq1]; rfl)))) (.inl hq2)) yx_at (by rw [List.length_map]; omega) ?_) fun v H1 e1 hv => ?_
    · rintro j _ Hc Hd hj ec ⟨rfl, hx⟩
      rw [List.getElem?_map] at hx
      obtain ⟨z, hz, rfl⟩ := Option.map_eq_some_iff.mp hx
      rw [getD_of hz]
      exact eg_name ⟨rfl, et_test (ev_op (ev_var rfl) (ev_var rfl) (rv_niN (show NLst Hd l lot from ec _ _ hl))), fun _ => ev_var rfl⟩
    · obtain ⟨c, rfl, hc⟩ := hv
      rw [List.length_map, given_filter _ fun z => !decide (z ∈ lot)] at hc
      have eo : onlyUnk (pushedOf W) i lot = match (pushRow W (W.hs.getD i Str.empty)).filter fun z => !decide (z ∈ lot) with
          | [x] => some x
          | _ => none := by
        unfold onlyUnk
        first
          | (rw [getD_of (pushedOf_at hi)]; done)
          | (rw [getD_of (pushedOf_at hi)]
             generalize List.filter (fun z => !decide (z ∈ lot)) (pushRow W (W.hs.getD i Str.empty)) = ll
             rcases ll with _ | ⟨x, _ | ⟨y, r⟩⟩ <;> rfl)
      refine s_ret (ev_if (b := decide (((pushRow W (W.hs.getD i Str.empty)).filter fun z => !decide (z ∈ lot)).length = 1)) (et_is (et_test (ev_op (ev_cb1 (ev_var rfl) (rc_lenL (sq_of hc))) ev_c (rv_eq rfl))) ?_) (fun hb => ?_) (fun hb => ?_)) fun H2 e2 => k H2 (e1.trans e2)
      · rw [dV, List.length_map]
        exact decide_eq_decide.mpr (by omega)
      · have hb' := of_decide_eq_true hb
        rw [eo]
        match hm : (pushRow W (W.hs.getD i Str.empty)).filter fun z => !decide (z ∈ lot), hb' with
        | [x], _ =>
          rw [hm] at hc
          exact ev_op (ev_var rfl) ev_c (rv_ixL (sq_of hc) (atI_nat (j := 0) rfl))
      · have hb' := of_decide_eq_false hb
        rw [eo]
        match hm : (pushRow W (W.hs.getD i Str.empty)).filter fun z => !decide (z ∈ lot), hb' with
        | [], _ => exact ev_c
        | x :: y :: r, _ => exact ev_c
/-! ### next_force -/
def IsForce (y : Nat) : V → Hp → Prop := fun v H => ∃ p x, v = .ref p ∧ H p = some (.tup [x, natV y])
def NextR (o : Option Nat) : V → Hp → Prop := fun v H => match o with
  | none => v = .non
  | some y => IsForce y v H
def spNext (K : PySem.W.Frag) : Sp := fun vs H Q _ => ∃ a l W lot, vs = [.ref a, .ref l] ∧ WorksAt K H a W ∧ W.hs.length ≤ 8 ∧ NLst H l lot ∧ Lot W.hs.length lot ∧ ∀ v H', Ex H H' → NextR (nextF (pushedOf W) lot) v H' → Q v H'
theorem v_next {a l : Addr} {W : Wk} {lot : List Nat} {H : Hp} (h : WorksAt K H a W) (h8 : W.hs.length ≤ 8) (hl : NLst H l lot) (g : Lot W.hs.length lot) : SpP (spNext K) [.ref a, .ref l] H (NextR (nextF (pushedOf W) lot)) := fun H1 e Q q _ => ⟨a, l, W, lot, rfl, h.ex e, h8, e _ _ hl, g, q⟩
theorem scNext : FnScope ["works", "lot", "at", "found"] ["works", "lot"] (defScope sNextForce) := ⟨rfl, rfl, rfl, by decide +kernel, rfl, by decide +kernel, by decide +kernel⟩
theorem ok_next (T : Tp K mg) : C8.Cal P w K mg base 2 "next_force" (spNext K) [] := by
  obtain ⟨fd, F⟩ := T.f_next_force
  refine ⟨_, fd, ["works", "lot"], [], ?_, T.g_next_force, F.kp, F.bindsN (fun _ _ _ _ _ _ us hl => match us, hl with | [_, _], _ => rfl), .nil⟩
  refine F.ok scNext (fun vs H Q E h => ?_) (fun cdv A outer s H vs Q E hr h => ?_)
  · obtain ⟨a, l, W, lot, rfl, _⟩ := h
    rfl
  · obtain ⟨a, l, W, lot, rfl, hw, h8, hl, hlot, k⟩ := h
    have nd := scNext.nd
    refine ⟨_, PSs.nox (pss_cons (ps_for PassesOwn.never rfl (pi_list (pb cr_sorted T.z_sorted PyProof.Rows.boot_sorted (pv 1))) (pg_name (i := 2) nd rfl (Or.inl rfl))
      (pss_cons (ps_set (i := 3) nd rfl (Or.inl rfl) (C8.pe_c (ok_only T) hr (by decide) rfl (pa_cons (pv 0) (pa_cons (pv 2) (pa_cons (pv 1) pa_nil)))))
        (pss_one (ps_if (pt_cmpR op_notN (pv 3) pe_non (nomark _)) (pss_one (ps_ret (pe_tup (pa_cons (pv 2) (pa_cons (pv 3) pa_nil))))) pss_nil))))
      (pss_one (ps_ret pe_non))), ?_⟩
    refine q_forI (ei_lst (evp_sorted (ev_var rfl) hl (by have := hlot.len; omega))) yx_at (fun i σ' _ => (∃ x y, σ' = [some (.ref a), some (.ref l), x, y]) ∧ ∀ j z, j < i → (sortN lot)[j]? = some z → onlyUnk (pushedOf W) z lot = none) (fun _ _ => ⟨⟨_, _, rfl⟩, fun _ _ h => absurd h (Nat.not_lt_zero _)⟩) ?_ (fun σ' H2 e2 hp => s_ret ev_c fun H3 e3 => k _ H3 (e2.trans e3) ?_)
    · rintro Hb i _ σ' Hc Hd hi eb ebc ⟨⟨o1, o2, rfl⟩, hno⟩ ⟨rfl, hx⟩
      rw [List.getElem?_map] at hx
      obtain ⟨z, hz, rfl⟩ := Option.map_eq_some_iff.mp hx
      have hzl : z < W.hs.length := hlot.2 z (sortN_mem.mp (List.mem_of_getElem? hz))
      have eh := eb.trans ebc
      refine eg_name (q_asg (ev_call (ea_cons (ev_var rfl) (ea_cons (ev_var rfl) (ea_cons (ev_var rfl) ea_nil))) (v_only (hw.ex eh) hzl h8 (eh _ _ hl))) fun H2 e2 => ?_)
      cases ho : onlyUnk (pushedOf W) z lot with
      | none =>
        refine s_when (b := false) (et_is (et_test (ev_op (ev_var rfl) ev_c rv_notN)) rfl) nofun fun _ H3 e3 => ⟨ebc.trans (e2.trans e3), ⟨_, _, rfl⟩, fun j z' hj hz' => ?_⟩
        by_cases e : j = i
        · rw [e, hz] at hz'
          rw [← Option.some.inj hz']
          exact ho
        · exact hno j z' (by omega) hz'
      | some y =>
        refine s_when (b := true) (et_is (et_test (ev_op (ev_var rfl) ev_c rv_notN)) rfl) (fun _ H3 e3 => ?_) nofun
        refine s_retP (EvP.ofU (eu_tup (ea_cons (ev_var rfl) (ea_cons (ev_var rfl) ea_nil)) (by show 2 ≤ 100000; omega))) fun v H4 e4 ⟨p, ev, hp⟩ => k v H4 (eh.trans (e2.trans (e3.trans e4))) ?_
        have en : nextF (pushedOf W) lot = some y := findSome_at hz ho hno
        rw [en]
        exact ⟨p, _, ev, hp⟩
    · have en : nextF (pushedOf W) lot = none := findSome_none fun j z hj => hp.2 j z (by
        rw [List.length_map]
        exact (List.getElem?_eq_some_iff.mp hj).1) hj
      rw [en]
      rfl
theorem q_parG {ta : TA} {tz : TS} {D : Ends} {σ : L2.St} {H : Hp} {i j : Nat} (h : ta σ H fun vs H1 => ∃ v w, vs = [v, w] ∧ tz D ((σ.set i (some v)).set j (some w)) H1) : tSeq (tPar i j ta) tz D σ H := h
theorem ac_cons {te : TE} {tr : TA} {σ : L2.St} {H : Hp} {Q : List V → Hp → Prop} (h : te σ H fun x H1 => tr σ H1 fun xs H2 => Q (x :: xs) H2) : tCons te tr σ H Q := h
/-! ### all_forces, is_all -/
def IsForces (lot : List Nat) : V → Hp → Prop := fun v H => ∃ p fl pl, v = .ref p ∧ H p = some (.tup [.ref fl, .ref pl]) ∧ NLst H pl lot
def Row (H : Hp) (r : Addr) (row : List Nat) : Prop := NLst H r row ∨ NTup H r row
theorem Row.ex {H H' : Hp} {r : Addr} {row : List Nat} (h : Row H r row) (e : Ex H H') : Row H' r row := h.imp (fun z => e _ _ z) (fun z => e _ _ z)
def spAll (K : PySem.W.Frag) : Sp := fun vs H Q _ => ∃ a r W row, vs = [.ref a, .ref r] ∧ WorksAt K H a W ∧ W.hs.length ≤ 8 ∧ Row H r row ∧ Lot W.hs.length row ∧ ∀ v H', Ex H H' → IsForces (lotOf W row) v H' → Q v H'
theorem v_all {a r : Addr} {W : Wk} {row : List Nat} {H : Hp} (h : WorksAt K H a W) (h8 : W.hs.length ≤ 8) (hl : Row H r row) (g : Lot W.hs.length row) : SpP (spAll K) [.ref a, .ref r] H (IsForces (lotOf W row)) := fun H1 e Q q _ => ⟨a, r, W, row, rfl, h.ex e, h8, hl.ex e, g, q⟩
theorem scAll : FnScope ["works", "row", "lot", "found", "force"] ["works", "row"] (defScope sAllForces) := ⟨rfl, rfl, rfl, by decide +kernel, rfl, by decide +kernel, by decide +kernel⟩
def InvAll (a r fl : Addr) (W : Wk) (row : List Nat) (H : Hp) (m : Nat) (σ' : L2.St) (H' : Hp) : Prop := ∃ v pl lot fs f, σ' = [some (.ref a), some (.ref r), some (.ref pl), some (.ref fl), some v] ∧ Ex H H' ∧ pl ≠ fl ∧ H' fl = some (.lst fs) ∧ fs.length ≤ lot.length ∧ NLst H' pl lot ∧
  Lot W.hs.length lot ∧ NextR (nextF (pushedOf W) lot) v H' ∧ allLot (pushedOf W) f lot = lotOf W row ∧ W.hs.length ≤ f + lot.length ∧ m = W.hs.length - lot.length
theorem ok_all (T : Tp K mg) : C8.Cal P w K mg base 3 "all_forces" (spAll K) [] := by
  obtain ⟨fd, F⟩ := T.f_all_forces
  refine ⟨_, fd, ["works", "row"], [], ?_, T.g_all_forces, F.kp, F.bindsN (fun _ _ _ _ _ _ us hl => match us, hl with | [_, _], _ => rfl), .nil⟩
  refine F.ok scAll (fun vs H Q E h => ?_) (fun cdv A outer s H vs Q E hr h => ?_)
  · obtain ⟨a, r, W, row, rfl, _⟩ := h
    rfl
  · obtain ⟨a, r, W, row, rfl, hw, h8, hrow, hlot, k⟩ := h
    have nd := scAll.nd
    refine ⟨_, PSs.nox (pss_cons (ps_par (i := 2) (j := 3) rfl nd rfl rfl (by decide) rfl rfl (pa_cons (pty call_list_of T.z_list PyProof.Rows.boot_list (pv 1)) (pa_cons (pe_lst pa_nil) pa_nil)) rfl)
      (pss_cons (ps_set (i := 4) nd rfl (Or.inl rfl) (C8.pe_c (ok_next T) hr (by decide) rfl (pa_cons (pv 0) (pa_cons (pv 2) pa_nil))))
      (pss_cons (ps_while PassesOwn.never (pt_cmpR op_notN (pv 4) pe_non (nomark _)) (pss_cons (ps_expr (pe_bm PySem.F.plainAttrs_list PySem.F.slot_list_append PySem.F.type_list_append mt_append (pv 3) (pa_cons (pv 4) pa_nil)))
        (pss_cons (ps_set (i := 2) nd rfl (Or.inl rfl) (pe_op op_cat (pv 2) (pe_lst (pa_cons (pe_ix ix_tup (pv 4) pe_int (fun _ _ => rfl)) pa_nil))))
        (pss_one (ps_set (i := 4) nd rfl (Or.inl rfl) (C8.pe_c (ok_next T) hr (by decide) rfl (pa_cons (pv 0) (pa_cons (pv 2) pa_nil))))))))
      (pss_one (ps_ret (pe_tup (pa_cons (pv 3) (pa_cons (pv 2) pa_nil)))))))), ?_⟩
    have g1 := el_listS (K := K) (σ := start ["works", "row", "lot", "found", "force"] [.ref a, .ref r]) (ta := tVar 1) (H := H) (xs := row.map natV) (p := r) (ev_var rfl) (hrow.imp sq_of st_of)
    refine q_parG (ac_cons (g1 H (Ex.refl H) _ fun pl H1 hn1 e1 hl1 => ac_cons ?_))
    refine ⟨by show 0 ≤ sizeLine; exact Nat.zero_le _, fun fl hfl => ⟨_, _, rfl, ?_⟩⟩
    have npf : pl ≠ fl := fun z => by rw [z, hfl] at hl1; cases hl1
    have e2 : Ex H (upd H1 fl (.lst [])) := e1.trans (Ex.new hfl)
    have hl2 : (upd H1 fl (.lst [])) pl = some (.lst (row.map natV)) := by rw [upd_ne npf]; exact hl1
    refine q_asgP (evp_call (ea_cons (ev_var rfl) (ea_cons (ev_var rfl) ea_nil)) (v_next (hw.ex e2) h8 hl2 hlot)) fun v H3 e3 hv => ?_
    have hfl3 := e3 _ _ (upd_same (H := H1) (a := fl) (o := .lst []))
    have hfl0 : H fl = none := fresh_back e1 hfl
    refine q_while (InvAll a r fl W row H) (W.hs.length - row.length) ⟨v, pl, row, [], W.hs.length, rfl, e2.trans e3, npf, hfl3, Nat.zero_le _, e3 _ _ hl2, hlot, hv, rfl, by omega, rfl⟩ ?_
    rintro m σ' H' ⟨v, pl, lot, fs, f, rfl, e, np, hf, hfs, hl, hlt, hv, ha, hm, rfl⟩
    refine ⟨!decide (v = .non), et_test (ev_op (ev_var rfl) ev_c rv_notN), fun hb H4 e4 => ?_, fun hb H4 e4 => ?_⟩
    · cases hn : nextF (pushedOf W) lot with
      | none =>
        rw [hn] at hv
        have : v = .non := hv
        rw [this] at hb
        cases hb
      | some y =>
        rw [hn] at hv
        obtain ⟨p, x, rfl, hp⟩ := hv
        obtain ⟨y1, y2⟩ := nextF_lt hn
        have hlt2 := hlt.snoc y1 y2
        have hl2 := hlt2.len
        rw [List.length_append] at hl2
        have hl3 : lot.length + 1 ≤ W.hs.length := hl2
        obtain ⟨f', rfl⟩ : ∃ f', f = f' + 1 := ⟨f - 1, by omega⟩
        refine ⟨InvAll a r fl W row H (W.hs.length - (lot ++ [y]).length), fun σ2 H2 h => ⟨_, by rw [List.length_append]; show _ - (_ + 1) < _; omega, h⟩, q_app (e4 _ _ hf) (ev_var rfl) (ev_var rfl) (by omega) fun H5 e5 => ?_⟩
        · have npl : p ≠ fl := fun z => by rw [z, hf] at hp; cases hp
          have hpl5 : (upd H5 fl (.lst (fs ++ [.ref p]))) pl = some (.lst (lot.map natV)) := by rw [upd_ne np]; exact (e4.trans e5) _ _ hl
          have hp5 : (upd H5 fl (.lst (fs ++ [.ref p]))) p = some (.tup [x, natV y]) := by rw [upd_ne npl]; exact (e4.trans e5) _ _ hp
          have e05 : Ex H (upd H5 fl (.lst (fs ++ [.ref p]))) := Ex.mut (e.trans (e4.trans e5)) hfl0
          refine q_asgL (el_cat (ev_var rfl) hpl5 (el_lst (ea_cons (ev_op (ev_var rfl) ev_c (rv_ixT (st_of hp5) (atI_nat (j := 1) rfl))) ea_nil) (by show 1 ≤ 100000; omega)) (by rw [List.length_map]; show _ + 1 ≤ _; omega)) fun pl2 H6 hn6 e6 hl6 => ?_
          have np6 : pl2 ≠ fl := fun z => by rw [z, upd_same] at hn6; cases hn6
          have hl6' : NLst H6 pl2 (lot ++ [y]) := by
            show H6 pl2 = _
            rw [hl6, List.map_append]
            rfl
          refine s_asgP (evp_call (ea_cons (ev_var rfl) (ea_cons (ev_var rfl) ea_nil)) (v_next (hw.ex (e05.trans e6)) h8 hl6' hlt2)) fun v7 H7 e7 hv7 => ?_
          exact ⟨v7, pl2, lot ++ [y], fs ++ [.ref p], f', rfl, (e05.trans e6).trans e7, np6, e7 _ _ (e6 _ _ upd_same), by rw [List.length_append, List.length_append]; show _ + 1 ≤ _ + 1; omega, e7 _ _ hl6', hlt2, hv7, (allLot_step hn).symm.trans ha, by rw [List.length_append]; show _ ≤ _ + (_ + 1); omega, rfl⟩
    · have hv0 : v = .non := by simpa using hb
      have hn : nextF (pushedOf W) lot = none := by
        cases hn : nextF (pushedOf W) lot with
        | none => rfl
        | some y =>
          rw [hn, hv0] at hv
          obtain ⟨p, x, e, _⟩ := hv
          cases e
      rw [allLot_stop hn] at ha
      rw [ha] at hl
      exact s_retP (EvP.ofU (eu_tup (ea_cons (ev_var rfl) (ea_cons (ev_var rfl) ea_nil)) (by show 2 ≤ 100000; omega))) fun v H5 e5 ⟨p, ev, hp⟩ => k v H5 (e.trans (e4.trans e5)) ⟨p, fl, pl, ev, hp, (e4.trans e5) _ _ hl⟩
/-! ### is_all -/
section
variable {σ : L2.St} {H : Hp} {te : TE}
theorem ev_lenW {a : Addr} {W : Wk} (hw : WorksAt K H a W) (h8 : W.hs.length ≤ 8) (he : Ev te σ H (.ref a)) : Ev (tCB (rLenOwn (He.ga K "Works") (spWLen K)) (tCons te tNil)) σ H (.int (W.hs.length : Nat)) :=
  ev_cb1 he fun H1 e Q q => by
    obtain ⟨dx, h, r, p, wi⟩ := (hw.ex e).out
    exact ⟨a, dx, _, rfl, wi.at_, a, W, rfl, hw.ex e, h8, fun H2 e2 => ⟨_, rfl, by constructor <;> omega, q H2 e2⟩⟩
end
theorem lenOwn_W {X : Cx} {j : Nat} (T : Tp K mg) (hr : Room j X.A) (hj : 2 ≤ j := by decide) (hK : X.K = K := by rfl) (hm : X.mg = mg := by rfl) : CallR X (.builtin "len") (rLenOwn (He.ga K "Works") (spWLen K)) := by
  subst hK hm
  obtain ⟨fd, F, b⟩ := ok_WLen (P := X.prog) (w := X.w) (base := X.base) T
  exact call_lenOwn T.h_Works_len F (hr.mono hj) b
def spIsAll (K : PySem.W.Frag) : Sp := fun vs H Q _ => ∃ a r W row, vs = [.ref a, .ref r] ∧ WorksAt K H a W ∧ W.hs.length ≤ 8 ∧ Row H r row ∧ Lot W.hs.length row ∧ ∀ H', Ex H H' → Q (.bl (isAllM W row)) H'
theorem v_isall {a r : Addr} {W : Wk} {row : List Nat} {H : Hp} (h : WorksAt K H a W) (h8 : W.hs.length ≤ 8) (hl : Row H r row) (g : Lot W.hs.length row) : SpV (spIsAll K) [.ref a, .ref r] H (.bl (isAllM W row)) := fun H1 e Q q _ => ⟨a, r, W, row, rfl, h.ex e, h8, hl.ex e, g, q⟩
theorem scIsAll : FnScope ["works", "row"] ["works", "row"] (defScope sIsAll) := ⟨rfl, rfl, rfl, by decide +kernel, rfl, by decide +kernel, by decide +kernel⟩
theorem ok_isall (T : Tp K mg) : C8.Cal P w K mg base 4 "is_all" (spIsAll K) [] := by
  obtain ⟨fd, F⟩ := T.f_is_all
  refine ⟨_, fd, ["works", "row"], [], ?_, T.g_is_all, F.kp, F.bindsN (fun _ _ _ _ _ _ us hl => match us, hl with | [_, _], _ => rfl), .nil⟩
  refine F.ok scIsAll (fun vs H Q E h => ?_) (fun cdv A outer s H vs Q E hr h => ?_)
  · obtain ⟨a, r, W, row, rfl, _⟩ := h
    rfl
  · obtain ⟨a, r, W, row, rfl, hw, h8, hrow, hlot, k⟩ := h
    refine ⟨_, PSs.nox (pss_one (ps_ret (pe_cmpR op_eq (pb call_len T.z_len PySem.boot_len (pe_ix ix_tup (C8.pe_c (ok_all T) hr (by decide) rfl (pa_cons (pv 0) (pa_cons (pv 1) pa_nil))) pe_int (fun _ _ => rfl))) (pb (lenOwn_W T hr) T.z_len PySem.boot_len (pv 0)) (nomark _)))), ?_⟩
    refine s_ret (ev_opP1 (R := fun v _ => v = .int ((lotOf W row).length : Nat)) (evp_cb1P (R := fun v H => ∃ pl, v = .ref pl ∧ NLst H pl (lotOf W row)) (evp_op (evp_call (ea_cons (ev_var rfl) (ea_cons (ev_var rfl) ea_nil)) (v_all hw h8 hrow hlot)) (fun _ _ _ _ => EvP.of ev_c) (fun x y H1 H2 e1 hx e2 hy => ?_)) (fun v H1 e1 hv => ?_)) (fun x H1 e1 hx => ev_lenW (hw.ex e1) h8 (ev_var rfl)) (fun x H1 e1 hx => ?_)) k
    · obtain ⟨p, fl, pl, rfl, hp, hl⟩ := hx
      subst hy
      exact fun H3 e3 Q q => rv_ixT (st_of (e2 _ _ hp)) (atI_nat (j := 1) rfl) H3 e3 Q fun H4 e4 => q _ H4 e4 ⟨pl, rfl, ((e2.trans e3).trans e4) _ _ hl⟩
    · obtain ⟨pl, rfl, hl⟩ := hv
      exact fun H2 e2 Q q => rc_lenL (sq_of hl) H2 e2 Q fun H3 e3 => q _ H3 e3 (by rw [List.length_map])
    · subst hx
      have z := rv_eq (H := H1) (x := .int ((lotOf W row).length : Nat)) (y := .int (W.hs.length : Nat)) rfl
      rw [dV] at z
      unfold isAllM
      have e : decide (((lotOf W row).length : Int) = (W.hs.length : Int)) = decide ((lotOf W row).length = W.hs.length) := decide_eq_decide.mpr (by omega)
      rw [e] at z
      exact z
end K54
/-! K20 -/
namespace K54
open PySem PySem.Spec PyProof.Rows L2 LamX NdefX Evl
/-! ### the board's states -/
theorem paired_last {α β : Type} {F : α → β → Prop} {b : β} : ∀ {as : List α} {bs : List β}, Paired F as (bs ++ [b]) → ∃ as0 a, as = as0 ++ [a] ∧ Paired F as0 bs ∧ F a b
  | _, [], .cons h .nil => ⟨[], _, rfl, .nil, h⟩
  | _, _ :: _, .cons h t => by
    obtain ⟨as0, a, e, p, q⟩ := paired_last t
    exact ⟨_ :: as0, a, by rw [e]; rfl, .cons h p, q⟩
/-- the board's object, its states' tuple, the last state -/
structure BIn (K : PySem.W.Frag) (H : Hp) (b : Addr) (st : List Stt) (s : Stt) (dx t : Addr) (as : List Addr) (p w l : Addr) : Prop where
  at_ : H b = some (.ins (He.ga K "Board") dx [("states", .ref t)])
  tup : H t = some (.tup ((as ++ [p]).map V.ref))
  pre : Paired (StAt K H) as st
  last : H p = some (.tup [.ref w, .ref l])
  wk : WorksAt K H w s.1
  ld : STup H l s.2
section
variable {K : PySem.W.Frag} {mg : Str → Option Value} {σ : L2.St} {H H' : Hp} {te ta tb : TE} {b dx t p w l : Addr} {as : List Addr} {st : List Stt} {s : Stt}
theorem BoardAt.out (h : BoardAt K H b (st ++ [s])) : ∃ dx t as p w l, BIn K H b st s dx t as p w l := by
  obtain ⟨dx, t, as, e1, e2, pr⟩ := h.at_
  obtain ⟨as0, p, rfl, p0, w, l, e3, e4, e5⟩ := paired_last pr
  exact ⟨dx, t, as0, p, w, l, e1, e2, p0, e3, e4, e5⟩
theorem BIn.bd (h : BIn K H b st s dx t as p w l) : BoardAt K H b (st ++ [s]) := ⟨dx, t, as ++ [p], h.at_, h.tup, paired_snoc h.pre ⟨w, l, h.last, h.wk, h.ld⟩⟩
theorem BIn.ex (h : BIn K H b st s dx t as p w l) (e : Ex H H') : BIn K H' b st s dx t as p w l := ⟨e _ _ h.at_, e _ _ h.tup, L2.Paired.mapP h.pre fun _ _ z => z.ex e, e _ _ h.last, h.wk.ex e, h.ld.ex e⟩
theorem ev_states (T : Tp K mg) (h : BIn K H b st s dx t as p w l) (he : Ev te σ H (.ref b)) : Ev (tFld K te "states") σ H (.ref t) := ev_fld he h.at_ T.c_Board T.n_Board_states rfl
theorem ev_m1 : Ev (tUn (rU fun i => .int (-i)) (tC (.int 1))) σ H (.int (-1)) := ev_un ev_c ru_neg
theorem ev_lastS (T : Tp K mg) (h : BIn K H b st s dx t as p w l) (he : Ev te σ H (.ref b)) : Ev (tOp (rIxT K) (tFld K te "states") (tUn (rU fun i => .int (-i)) (tC (.int 1)))) σ H (.ref p) :=
  ev_op (ev_states T h he) ev_m1 (rv_ixT (st_of h.tup) (by rw [List.map_append]; exact atI_last _ _))
theorem q_dropP {tz : TS} {D : Ends} {R : V → Hp → Prop} (h : EvP te σ H R) (k : ∀ v H1, Ex H H1 → R v H1 → tz D σ H1) : tSeq (tDrop te) tz D σ H := h H (Ex.refl H) _ k
theorem q_asgG {tz : TS} {D : Ends} {g : TG} {v : V} (h : Ev te σ H v) (k : ∀ H1, Ex H H1 → EvG g v σ H1 fun σ2 H2 => tz D σ2 H2) : tSeq (tAsg te g) tz D σ H := h H (Ex.refl H) _ fun H1 e1 => k H1 e1 _ fun σ2 H2 _ m => m
def EAP (ta : TA) (σ : L2.St) (H : Hp) (R : List V → Hp → Prop) : Prop := ∀ H1, Ex H H1 → ∀ Q : List V → Hp → Prop, (∀ vs H2, Ex H1 H2 → R vs H2 → Q vs H2) → ta σ H1 Q
theorem eap_nil {R : List V → Hp → Prop} (h : ∀ H1, Ex H H1 → R [] H1) : EAP tNil σ H R := fun H1 e Q q => q [] H1 (Ex.refl H1) (h H1 e)
theorem eap_cons {tr : TA} {R1 : V → Hp → Prop} {R : List V → Hp → Prop} (h : EvP te σ H R1) (k : ∀ x H1, Ex H H1 → R1 x H1 → EAP tr σ H1 fun xs H2 => R (x :: xs) H2) : EAP (tCons te tr) σ H R := fun H1 e Q q =>
  h H1 e _ fun x H2 e2 hx => k x H2 (e.trans e2) hx H2 (Ex.refl H2) _ fun xs H3 e3 hxs => q _ H3 (e2.trans e3) hxs
theorem eap_one {R1 : V → Hp → Prop} {R : List V → Hp → Prop} (h : EvP te σ H R1) (k : ∀ x H1, Ex H H1 → R1 x H1 → R [x] H1) : EAP (tCons te tNil) σ H R := fun H1 e Q q =>
  h H1 e _ fun x H2 e2 hx => q _ H2 e2 (k x H2 (e.trans e2) hx)
theorem evp_callA {sp : Sp} {dvs : List V} {E : XK} {ta : TA} {Ra : List V → Hp → Prop} {R : V → Hp → Prop} (h : EAP ta σ H Ra) (hs : ∀ vs H1, Ex H H1 → Ra vs H1 → SpP sp (vs ++ dvs) H1 R) : EvP (tCall sp dvs E ta) σ H R := fun H1 e Q q =>
  h H1 e _ fun vs H2 e2 hv => hs vs H2 (e.trans e2) hv H2 (Ex.refl H2) Q (fun v H3 e3 => q v H3 (e2.trans e3)) E
theorem SpP.of {sp : Sp} {vs : List V} {v : V} (h : SpV sp vs H v) : SpP sp vs H fun x _ => x = v := fun H1 e Q q E => h H1 e Q (fun H2 e2 => q v H2 e2 rfl) E
/-- (e,) -/
theorem evp_tup1 {R R' : V → Hp → Prop} (h : EvP te σ H R) (k : ∀ v t H1 H2, Ex H1 H2 → R v H1 → H2 t = some (.tup [v]) → R' (.ref t) H2) : EvP (tTup (tCons te tNil)) σ H R' := fun H1 e Q q => h H1 e _ fun v H2 e2 hv => ⟨by show 1 ≤ sizeLine; decide, fun l hl => q _ _ (e2.trans (Ex.new hl)) (k v l H2 _ (Ex.new hl) hv upd_same)⟩
theorem evp_catT {R' : V → Hp → Prop} {xs ys : List V} {R : V → Hp → Prop} (ha : EvP ta σ H (IsU xs)) (hb : ∀ H1, Ex H H1 → EvP tb σ H1 fun v H2 => IsU ys v H2 ∧ R v H2) (hz : xs.length + ys.length ≤ 100000) (hR : ∀ v H1 H2, Ex H1 H2 → R v H1 → R v H2) (k : ∀ v v' H1, Ex H H1 → R v H1 → IsU (xs ++ ys) v' H1 → R' v' H1) : EvP (tOp (rCatA K) ta tb) σ H R' := fun H1 e Q q =>
  ha H1 e _ fun x H2 e2 ⟨p1, ex, h1⟩ => hb H2 (e.trans e2) H2 (Ex.refl H2) _ fun y H3 e3 ⟨⟨p2, ey, h2⟩, hr⟩ => by
    subst ex ey
    have h1' := ex_rd e3 h1
    have e13 := e2.trans e3
    refine ⟨p1, p2, xs, ys, rfl, rfl, .inl h1', .inl h2, sz_of hz, fun hx => q _ H3 e13 (k _ _ _ (e.trans e13) hr ⟨p2, rfl, ?_⟩), fun hx hy => q _ H3 e13 (k _ _ _ (e.trans e13) hr ⟨p1, rfl, ?_⟩), fun hx hy p hp => q _ _ (e13.trans (Ex.new hp)) (k _ _ _ (e.trans (e13.trans (Ex.new hp))) (hR _ _ _ (Ex.new hp) hr) ⟨p, rfl, .inl upd_same⟩)⟩
    · rw [hx, List.nil_append]
      exact h2
    · rw [hy, List.append_nil]
      exact h1'
end
variable {P : Program} {w : World} {K : PySem.W.Frag} {mg : Str → Option Value} {base : Heap}
theorem Stt.Ok.lead {s : Stt} (h : s.Ok) : GoodLead s.1.hs s.2 := ⟨h.ld, h.nd, h.len⟩
theorem Stt.Ok.few {s : Stt} (h : s.Ok) : s.1.hs.length ≤ 8 := by
  have := h.w.few
  omega
theorem places_lot {s : Stt} (h : s.Ok) : Lot s.1.hs.length (placesM s.1 s.2) := by
  have ix : ∀ {x y : Str}, x ∈ s.1.hs → y ∈ s.1.hs → s.1.hs.idxOf x = s.1.hs.idxOf y → x = y := fun {x y} hx hy e => by
    have h1 := idxOf_at hx
    rw [e, idxOf_at hy] at h1
    exact (Option.some.inj h1).symm
  unfold placesM
  refine ⟨?_, fun i hi => ?_⟩
  · have key : ∀ ls : List Str, (∀ x ∈ ls, x ∈ s.1.hs) → ls.Nodup → (ls.map fun x => s.1.hs.idxOf x).Nodup := by
      intro ls
      induction ls with
      | nil => intro _ _; exact List.nodup_nil
      | cons x ls ih =>
        intro hm hn
        obtain ⟨n1, n2⟩ := List.nodup_cons.mp hn
        refine List.nodup_cons.mpr ⟨fun hc => ?_, ih (fun y hy => hm y (List.mem_cons_of_mem _ hy)) n2⟩
        obtain ⟨y, hy, e⟩ := List.mem_map.mp hc
        exact n1 (by rw [← ix (hm y (List.mem_cons_of_mem _ hy)) (hm x List.mem_cons_self) e]; exact hy)
    exact key s.2 h.ld h.nd
  · obtain ⟨x, hx, rfl⟩ := List.mem_map.mp hi
    exact (List.getElem?_eq_some_iff.mp (idxOf_at (h.ld x hx))).1
/-! ### Board(works, leaders) -/
def spBoardInit (K : PySem.W.Frag) : Sp := fun vs H Q _ => ∃ x dx a l W ls, vs = [.ref x, .ref a, .ref l] ∧ H x = some (.ins (He.ga K "Board") dx []) ∧ WorksAt K H a W ∧ STup H l ls ∧ GoodLead W.hs ls ∧
  ∀ t p H', ExB x H H' → H' x = some (.ins (He.ga K "Board") dx [("states", .ref t)]) → H' t = some (.tup [.ref p]) → H' p = some (.tup [.ref a, .ref l]) → Q .non H'
theorem scBoardInit : FnScope ["self", "works", "leaders"] ["self", "works", "leaders"] (defScope sBoardInit) := ⟨rfl, rfl, rfl, by decide +kernel, rfl, by decide +kernel, by decide +kernel⟩
theorem ok_Board (T : Tp K mg) : C8.Mak P w K mg base 4 "Board" (He.ga K "Board") (spBoardInit K) [] := by
  obtain ⟨fd, F⟩ := T.f_Board_init
  refine ⟨_, fd, ["self", "works", "leaders"], [], T.m_Board, ?_, T.g_Board, F.bindsN (fun _ _ _ _ _ _ us hl => match us, hl with | [_, _, _], _ => rfl), .nil⟩
  refine F.ok scBoardInit (fun vs H Q E h => ?_) (fun cdv A outer s H vs Q E hr h => ?_)
  · obtain ⟨x, dx, a, l, W, ls, rfl, _⟩ := h
    rfl
  · obtain ⟨x, dx, a, l, W, ls, rfl, hx, hw, hl, g, k⟩ := h
    refine ⟨_, PSs.nox (pss_cons (ps_expr (C8.pe_c (ok_places T) hr (by decide) rfl (pa_cons (pv 1) (pa_cons (pv 2) pa_nil))))
      (pss_one (ps_fld (pv 0) (pe_tup (pa_cons (pe_tup (pa_cons (pv 1) (pa_cons (pv 2) pa_nil))) pa_nil)) rfl))), ?_⟩
    refine q_dropP (evp_call (ea_cons (ev_var rfl) (ea_cons (ev_var rfl) ea_nil)) (v_places hw hl g)) fun v H1 e1 _ => ?_
    refine s_fldP (R := fun v H => ∃ t p, v = .ref t ∧ H t = some (.tup [.ref p]) ∧ H p = some (.tup [.ref a, .ref l])) (evp_tup1 (EvP.ofU (eu_tup (ea_cons (ev_var rfl) (ea_cons (ev_var rfl) ea_nil)) (by show 2 ≤ 100000; omega))) fun v t H2 H3 e3 ⟨p, ev, hp⟩ ht => ⟨t, p, rfl, by rw [← ev]; exact ht, e3 _ _ hp⟩) (fun _ _ => ev_var rfl) (e1 _ _ hx) T.c_Board T.n_Board_states (by decide) (fun v H2 H3 e ⟨t, p, ev, h1, h2⟩ => ⟨t, p, ev, e _ _ h1, e _ _ h2⟩) ?_
    rintro v H2 e2 ⟨t, p, rfl, ht, hp⟩
    have hx2 := (e1.trans e2) _ _ hx
    have nt : t ≠ x := fun z => by rw [z, hx2] at ht; cases ht
    have np : p ≠ x := fun z => by rw [z, hx2] at hp; cases hp
    exact k t p _ (ExB.put (e1.trans e2)) upd_same (by rw [upd_ne nt]; exact ht) (by rw [upd_ne np]; exact hp)
/-! ### works, leaders -/
def spBWorks (K : PySem.W.Frag) : Sp := fun vs H Q _ => ∃ b st s, vs = [.ref b] ∧ BoardAt K H b (st ++ [s]) ∧ ∀ v H', Ex H H' → (∃ a, v = .ref a ∧ WorksAt K H' a s.1) → Q v H'
def spBLead (K : PySem.W.Frag) : Sp := fun vs H Q _ => ∃ b st s, vs = [.ref b] ∧ BoardAt K H b (st ++ [s]) ∧ ∀ v H', Ex H H' → (∃ a, v = .ref a ∧ STup H' a s.2) → Q v H'
theorem scBWorks : FnScope ["self"] ["self"] (defScope sBoardWorks) := ⟨rfl, rfl, rfl, by decide +kernel, rfl, by decide +kernel, by decide +kernel⟩
theorem scBLead : FnScope ["self"] ["self"] (defScope sBoardLeaders) := ⟨rfl, rfl, rfl, by decide +kernel, rfl, by decide +kernel, by decide +kernel⟩
theorem ok_bworks (T : Tp K mg) : ∃ fd, FnOk P w K mg base C8.CX0 1 (gAd K "Board" "works") fd ["self"] (spBWorks K) ∧ Binds K fd ["self"] [] := by
  obtain ⟨fd, F⟩ := T.q_Board_works
  refine ⟨fd, F.ok scBWorks (fun vs H Q E h => ?_) (fun cdv A outer s H vs Q E hr h => ?_), F.bindsN (fun _ _ _ _ _ _ us hl => match us, hl with | [_], _ => rfl)⟩
  · obtain ⟨b, st, s, rfl, _⟩ := h
    rfl
  obtain ⟨b, st, s, rfl, hb, k⟩ := h
  obtain ⟨dx, t, as, p, wa, l, bi⟩ := hb.out
  refine ⟨_, PSs.nox (pss_one (ps_ret (pe_ix ix_tup (pe_ix ix_tup (pe_fld (pv 0) rfl) (pe_un un_neg pe_int) (fun _ _ => rfl)) pe_int (fun _ _ => rfl)))), ?_⟩
  exact s_ret (ev_op (ev_lastS T bi (ev_var rfl)) ev_c (rv_ixT (st_of bi.last) (atI_nat (j := 0) rfl))) fun H1 e1 => k _ H1 e1 ⟨wa, rfl, bi.wk.ex e1⟩
theorem ok_blead (T : Tp K mg) : ∃ fd, FnOk P w K mg base C8.CX0 1 (gAd K "Board" "leaders") fd ["self"] (spBLead K) ∧ Binds K fd ["self"] [] := by
  obtain ⟨fd, F⟩ := T.q_Board_leaders
  refine ⟨fd, F.ok scBLead (fun vs H Q E h => ?_) (fun cdv A outer s H vs Q E hr h => ?_), F.bindsN (fun _ _ _ _ _ _ us hl => match us, hl with | [_], _ => rfl)⟩
  · obtain ⟨b, st, s, rfl, _⟩ := h
    rfl
  obtain ⟨b, st, s, rfl, hb, k⟩ := h
  obtain ⟨dx, t, as, p, wa, l, bi⟩ := hb.out
  refine ⟨_, PSs.nox (pss_one (ps_ret (pe_ix ix_tup (pe_ix ix_tup (pe_fld (pv 0) rfl) (pe_un un_neg pe_int) (fun _ _ => rfl)) pe_int (fun _ _ => rfl)))), ?_⟩
  exact s_ret (ev_op (ev_lastS T bi (ev_var rfl)) ev_c (rv_ixT (st_of bi.last) (atI_nat (j := 1) rfl))) fun H1 e1 => k _ H1 e1 ⟨l, rfl, bi.ld.ex e1⟩
section
variable {X : Cx} {e : Expr} {ta : TE} {pos : Pos} {j : Nat}
theorem pe_bworks (T : Tp K mg) (hr : Room j X.A) (he : PE X e ta) (hj : 2 ≤ j := by decide) (hK : X.K = K := by rfl) (hm : X.mg = mg := by rfl) (hab : attributeBase e "works" X.env (eval e X.env) = eval e X.env := by rfl) :
    PE X (.Attribute e "works" pos) (tProp (He.ga K "Board") (spBWorks K) [] C8.E0 ta) := by
  subst hK hm
  obtain ⟨fd, F, b⟩ := ok_bworks (P := X.prog) (w := X.w) (base := X.base) T
  exact pe_prop he T.c_Board T.p_Board_works F (hr.mono hj) b .nil C8.pass0 hab
theorem pe_blead (T : Tp K mg) (hr : Room j X.A) (he : PE X e ta) (hj : 2 ≤ j := by decide) (hK : X.K = K := by rfl) (hm : X.mg = mg := by rfl) (hab : attributeBase e "leaders" X.env (eval e X.env) = eval e X.env := by rfl) :
    PE X (.Attribute e "leaders" pos) (tProp (He.ga K "Board") (spBLead K) [] C8.E0 ta) := by
  subst hK hm
  obtain ⟨fd, F, b⟩ := ok_blead (P := X.prog) (w := X.w) (base := X.base) T
  exact pe_prop he T.c_Board T.p_Board_leaders F (hr.mono hj) b .nil C8.pass0 hab
end
section
variable {σ : L2.St} {H : Hp} {te : TE} {b : Addr} {st : List Stt} {s : Stt} {E : XK}
theorem evp_bworks (h : BoardAt K H b (st ++ [s])) (he : Ev te σ H (.ref b)) : EvP (tProp (He.ga K "Board") (spBWorks K) [] E te) σ H fun v H' => ∃ a, v = .ref a ∧ WorksAt K H' a s.1 := by
  obtain ⟨dx, t, as, p, wa, l, bi⟩ := h.out
  exact evp_prop he bi.at_ fun H1 e Q q _ => ⟨b, st, s, rfl, h.ex e, q⟩
theorem evp_blead (h : BoardAt K H b (st ++ [s])) (he : Ev te σ H (.ref b)) : EvP (tProp (He.ga K "Board") (spBLead K) [] E te) σ H fun v H' => ∃ a, v = .ref a ∧ STup H' a s.2 := by
  obtain ⟨dx, t, as, p, wa, l, bi⟩ := h.out
  exact evp_prop he bi.at_ fun H1 e Q q _ => ⟨b, st, s, rfl, h.ex e, q⟩
end
/-! ### sure, known, put -/
abbrev NBd : List Str := ["self", "works", "leaders"]
def spSure (K : PySem.W.Frag) : Sp := fun vs H Q _ => ∃ b st s, vs = [.ref b] ∧ BoardAt K H b (st ++ [s]) ∧ s.Ok ∧ ∀ H', Ex H H' → Q (.bl (sureM s)) H'
theorem scSure : FnScope NBd ["self"] (defScope sBoardSure) := ⟨rfl, rfl, rfl, by decide +kernel, rfl, by decide +kernel, by decide +kernel⟩
theorem ok_sure (T : Tp K mg) : C8.Met P w K mg base 5 (He.ga K "Board") "sure" (spSure K) [] := by
  obtain ⟨fd, F⟩ := T.f_Board_sure
  refine ⟨_, fd, ["self"], [], T.c_Board, T.h_Board_sure, ?_, F.bindsN (fun _ _ _ _ _ _ us hl => match us, hl with | [_], _ => rfl), .nil⟩
  refine F.ok scSure (fun vs H Q E h => ?_) (fun cdv A outer s H vs Q E hr h => ?_)
  · obtain ⟨b, st, s, rfl, _⟩ := h
    rfl
  · obtain ⟨b, st, s', rfl, hb, ok, k⟩ := h
    have nd := scSure.nd
    obtain ⟨dx, t, as, p, wa, l, bi⟩ := hb.out
    refine ⟨_, PSs.nox (pss_cons (ps_asg (pe_ix ix_tup (pe_fld (pv 0) rfl) (pe_un un_neg pe_int) (fun _ _ => rfl)) (pg_tup (n := 2) rfl (pgs_cons (pg_name (i := 1) nd rfl (Or.inl rfl)) (pgs_cons (pg_name (i := 2) nd rfl (Or.inl rfl)) pgs_nil))))
      (pss_one (ps_ret (C8.pe_c (ok_isall T) hr (by decide) rfl (pa_cons (pv 1) (pa_cons (C8.pe_c (ok_places T) hr (by decide) rfl (pa_cons (pv 1) (pa_cons (pv 2) pa_nil))) pa_nil)))))), ?_⟩
    refine q_asgG (ev_lastS T bi (ev_var rfl)) fun H1 e1 => eg_two (e1 _ _ bi.last) ?_
    refine s_retP (R := fun v _ => v = .bl (sureM s')) (evp_callA (Ra := fun vs H2 => ∃ q, vs = [.ref wa, .ref q] ∧ NLst H2 q (placesM s'.1 s'.2)) (eap_cons (EvP.of (ev_var rfl)) (fun x H2 e2 hx => eap_one (evp_call (ea_cons (ev_var rfl) (ea_cons (ev_var rfl) ea_nil)) (v_places (bi.wk.ex (e1.trans e2)) (bi.ld.ex (e1.trans e2)) ok.lead)) fun y H3 e3 ⟨q, ey, hq⟩ => ⟨q, by rw [hx, ey], hq⟩)) ?_) (fun v H2 e2 hv => by rw [hv]; exact k H2 (e1.trans e2))
    rintro vs H2 e2 ⟨q, rfl, hq⟩
    exact SpP.of (v_isall (bi.wk.ex (e1.trans e2)) ok.few (.inl hq) (places_lot ok))
def spKnown (K : PySem.W.Frag) : Sp := fun vs H Q _ => ∃ b st s, vs = [.ref b] ∧ BoardAt K H b (st ++ [s]) ∧ s.Ok ∧ ∀ v H', Ex H H' → IsU ((knownM s).map V.str) v H' → Q v H'
theorem scKnown : FnScope ["self", "works", "leaders", "row"] ["self"] (defScope sBoardKnown) := ⟨rfl, rfl, rfl, by decide +kernel, rfl, by decide +kernel, by decide +kernel⟩
theorem ok_known (T : Tp K mg) : C8.Met P w K mg base 4 (He.ga K "Board") "known" (spKnown K) [] := by
  obtain ⟨fd, F⟩ := T.f_Board_known
  refine ⟨_, fd, ["self"], [], T.c_Board, T.h_Board_known, ?_, F.bindsN (fun _ _ _ _ _ _ us hl => match us, hl with | [_], _ => rfl), .nil⟩
  refine F.ok scKnown (fun vs H Q E h => ?_) (fun cdv A outer s H vs Q E hr h => ?_)
  · obtain ⟨b, st, s, rfl, _⟩ := h
    rfl
  · obtain ⟨b, st, s', rfl, hb, ok, k⟩ := h
    have nd := scKnown.nd
    obtain ⟨dx, t, as, p, wa, l, bi⟩ := hb.out
    refine ⟨_, PSs.nox (pss_cons (ps_asg (pe_ix ix_tup (pe_fld (pv 0) rfl) (pe_un un_neg pe_int) (fun _ _ => rfl)) (pg_tup (n := 2) rfl (pgs_cons (pg_name (i := 1) nd rfl (Or.inl rfl)) (pgs_cons (pg_name (i := 2) nd rfl (Or.inl rfl)) pgs_nil))))
      (pss_cons (ps_set (i := 3) nd rfl (Or.inl rfl) (C8.pe_c (ok_places T) hr (by decide) rfl (pa_cons (pv 1) (pa_cons (pv 2) pa_nil))))
      (pss_one (ps_ret (C8.pe_c (ok_named T) hr (by decide) rfl (pa_cons (pv 1) (pa_cons (pe_ix ix_tup (C8.pe_c (ok_all T) hr (by decide) rfl (pa_cons (pv 1) (pa_cons (pv 3) pa_nil))) pe_int (fun _ _ => rfl)) pa_nil))))))), ?_⟩
    refine q_asgG (ev_lastS T bi (ev_var rfl)) fun H1 e1 => eg_two (e1 _ _ bi.last) ?_
    refine q_asgP (evp_call (ea_cons (ev_var rfl) (ea_cons (ev_var rfl) ea_nil)) (v_places (bi.wk.ex e1) (bi.ld.ex e1) ok.lead)) fun v H2 e2 ⟨q, ev, hq⟩ => ?_
    subst ev
    have e02 := e1.trans e2
    have lot := places_lot ok
    refine s_retP (evp_callA (Ra := fun vs H2 => ∃ q, vs = [.ref wa, .ref q] ∧ NLst H2 q (lotOf s'.1 (placesM s'.1 s'.2))) (eap_cons (EvP.of (ev_var rfl)) (fun x H3 e3 hx => eap_one (R1 := fun v H => ∃ q, v = .ref q ∧ NLst H q (lotOf s'.1 (placesM s'.1 s'.2)))
      (evp_op (evp_call (ea_cons (ev_var rfl) (ea_cons (ev_var rfl) ea_nil)) (v_all (bi.wk.ex (e02.trans e3)) ok.few (.inl (e3 _ _ hq)) lot)) (fun _ _ _ _ => EvP.of ev_c) (fun x y H4 H5 e4 hx e5 hy => ?_)) fun y H4 e4 ⟨q, ey, hq⟩ => ⟨q, by rw [hx, ey], hq⟩)) ?_) (fun v H3 e3 hv => k v H3 (e02.trans e3) hv)
    · obtain ⟨p, fl, pl, rfl, hp, hl⟩ := hx
      subst hy
      exact fun H6 e6 Q q => rv_ixT (st_of (e5 _ _ hp)) (atI_nat (j := 1) rfl) H6 e6 Q fun H7 e7 => q _ H7 e7 ⟨pl, rfl, ((e5.trans e6).trans e7) _ _ hl⟩
    · rintro vs H3 e3 ⟨q, rfl, hq⟩
      have lot2 : Lot s'.1.hs.length (lotOf s'.1 (placesM s'.1 s'.2)) := allLot_lot _ lot
      exact v_named (bi.wk.ex (e02.trans e3)) hq (by have := lot2.len; have := ok.few; omega) lot2.2
/-- what the board's states become -/
def spPut (K : PySem.W.Frag) : Sp := fun vs H Q _ => ∃ b st s s' wa l, vs = [.ref b, .ref wa, .ref l] ∧ BoardAt K H b (st ++ [s]) ∧ WorksAt K H wa s'.1 ∧ STup H l s'.2 ∧ st.length ≤ 1000 ∧ ∀ H', ExB b H H' → BoardAt K H' b ((st ++ [s]) ++ [s']) → Q .non H'
theorem scPut : FnScope NBd ["self", "works", "leaders"] (defScope sBoardPut) := ⟨rfl, rfl, rfl, by decide +kernel, rfl, by decide +kernel, by decide +kernel⟩
theorem mb_board {H : Hp} {b C dx : Addr} {fs : List (Str × V)} (h : H b = some (.ins C dx fs)) (n : fs.length ≤ 2) : Mb H [b] := Mb.cons h ⟨(fun _ z => nomatch z), (fun _ _ z => nomatch z)⟩ (fun _ _ _ _ _ z => by
  cases z
  have n' : 3 ≤ 2 := n
  omega) Mb.nil
theorem ok_put (T : Tp K mg) : C8.Met P w K mg base 1 (He.ga K "Board") "put" (spPut K) [] := by
  obtain ⟨fd, F⟩ := T.f_Board_put
  refine ⟨_, fd, ["self", "works", "leaders"], [], T.c_Board, T.h_Board_put, ?_, F.bindsN (fun _ _ _ _ _ _ us hl => match us, hl with | [_, _, _], _ => rfl), .nil⟩
  refine F.ok scPut (fun vs H Q E h => ?_) (fun cdv A outer s H vs Q E hr h => ?_)
  · obtain ⟨b, st, s, s', wa, l, rfl, _⟩ := h
    rfl
  · obtain ⟨b, st, s, s', wa, l, rfl, hb, hw, hl, hz, k⟩ := h
    obtain ⟨dx, t, as, p, w0, l0, bi⟩ := hb.out
    have hlen := paired_length bi.pre
    refine ⟨_, PSs.nox (pss_one (ps_fld (pv 0) (pe_op op_catA (pe_fld (pv 0) rfl) (pe_tup (pa_cons (pe_tup (pa_cons (pv 1) (pa_cons (pv 2) pa_nil))) pa_nil))) rfl)), ?_⟩
    refine s_fldP (R := fun v H => ∃ t2 p2, v = .ref t2 ∧ H t2 = some (.tup ((as ++ [p]).map V.ref ++ [.ref p2])) ∧ H p2 = some (.tup [.ref wa, .ref l])) ?_ (fun _ _ => ev_var rfl) bi.at_ T.c_Board T.n_Board_states (by show 1 < 1000; omega) (fun v H2 H3 e ⟨t, p, ev, h1, h2⟩ => ⟨t, p, ev, e _ _ h1, e _ _ h2⟩) ?_
    · intro H1 e Q q
      refine ev_states T bi (ev_var rfl) H1 e _ fun H2 e2 => ?_
      refine evp_tup1 (R' := fun v H => ∃ p3 p2, v = .ref p3 ∧ H p3 = some (.tup [.ref p2]) ∧ H p2 = some (.tup [.ref wa, .ref l])) (EvP.ofU (eu_tup (ea_cons (ev_var rfl) (ea_cons (ev_var rfl) ea_nil)) (by show 2 ≤ 100000; omega))) (fun v t H2 H3 e3 ⟨p, ev, hp⟩ ht => ⟨t, p, rfl, by rw [← ev]; exact ht, e3 _ _ hp⟩) H2 (Ex.refl H2) _ fun y H3 e3 ⟨p3, p2, ey, h3, h2⟩ => ?_
      subst ey
      have ht3 := ((e.trans e2).trans e3) _ _ bi.tup
      have ne : (as ++ [p]).map V.ref ≠ [] := by simp
      refine ⟨t, p3, _, _, rfl, rfl, st_of ht3, st_of h3, sz_of (by rw [List.length_map, List.length_append, hlen]; show _ + 1 + 1 ≤ _; omega), fun z => absurd z ne, (fun _ z => nomatch z), fun _ _ p4 hp4 => q _ _ ((e2.trans e3).trans (Ex.new hp4)) ⟨p4, p2, rfl, upd_same, Ex.new hp4 _ _ h2⟩⟩
    · rintro v H1 e1 ⟨t2, p2, rfl, ht, hp⟩
      have eb : ExB b H (upd H1 b (.ins (He.ga K "Board") dx [("states", .ref t2)])) := ExB.put e1
      have fm := eb.fm
      have mb := mb_board bi.at_ (by show 1 ≤ 2; decide)
      have mb1 := mb_board (e1 _ _ bi.at_) (by show 1 ≤ 2; decide)
      have fp : Fm [b] H1 (upd H1 b (.ins (He.ga K "Board") dx [("states", .ref t2)])) := Fm.put
      refine k _ eb ⟨dx, t2, (as ++ [p]) ++ [p2], upd_same, ?_, ?_⟩
      · rw [List.map_append (l₁ := as ++ [p])]
        exact fp.tup mb1 ht
      · exact paired_snoc (paired_snoc (L2.Paired.mapP bi.pre fun _ _ z => z.fm fm mb) ⟨w0, l0, fm.tup mb bi.last, bi.wk.fm fm mb, bi.ld.fm fm mb⟩) ⟨wa, l, fp.tup mb1 hp, hw.fm fm mb, hl.fm fm mb⟩
end K54
/-! K21 -/
namespace K54
open PySem PySem.Spec PyProof.Rows L2 LamX NdefX Evl
/-! ### what the changes do -/
def doTie (s : Stt) (x y : Str) : Option Stt := if x ∈ s.1.hs ∧ y ∈ s.1.hs ∧ x ≠ y ∧ (x, y) ∉ s.1.ts then some (⟨s.1.hs, s.1.ts ++ [(x, y)]⟩, s.2) else none
def doCut (s : Stt) (x y : Str) : Option Stt := if x ∈ s.1.hs ∧ y ∈ s.1.hs ∧ (x, y) ∈ s.1.ts then some (⟨s.1.hs, s.1.ts.filter fun t => !decide (t = (x, y))⟩, s.2) else none
def doLead (s : Stt) (x : Str) : Option Stt := if x ∈ s.1.hs ∧ x ∉ s.2 then some (s.1, s.2 ++ [x]) else none
def doLeave (s : Stt) (x : Str) : Option Stt := if x ∈ s.1.hs ∧ x ∈ s.2 then some (s.1, s.2.filter fun o => !decide (o = x)) else none
theorem ties_len {hs : List Str} {ts : List (Str × Str)} (h5 : hs.length ≤ 5) (hn : ts.Nodup) (hm : ∀ t ∈ ts, t.1 ∈ hs ∧ t.2 ∈ hs ∧ t.1 ≠ t.2) : ts.length ≤ 1000 := by
  have h := nodup_len (ys := hs.flatMap fun a => hs.map fun b => (a, b)) hn fun t ht => List.mem_flatMap.mpr ⟨t.1, (hm t ht).1, List.mem_map.mpr ⟨t.2, (hm t ht).2.1, rfl⟩⟩
  have e : (hs.flatMap fun a => hs.map fun b => (a, b)).length ≤ hs.length * hs.length := by
    rw [List.length_flatMap]
    have := sum_le (ns := hs.map fun a => (hs.map fun b => (a, b)).length) (M := hs.length) fun n hn => by
      obtain ⟨a, _, rfl⟩ := List.mem_map.mp hn
      rw [List.length_map]
      exact Nat.le_refl _
    rwa [List.length_map] at this
  have e2 : hs.length * hs.length ≤ 5 * 5 := Nat.mul_le_mul h5 h5
  omega
theorem doTie_ok {s s' : Stt} {x y : Str} (h : s.Ok) (e : doTie s x y = some s') : s'.Ok := by
  unfold doTie at e
  split at e
  · rename_i c
    obtain ⟨c1, c2, c3, c4⟩ := c
    cases e
    have hm : ∀ t ∈ s.1.ts ++ [(x, y)], t.1 ∈ s.1.hs ∧ t.2 ∈ s.1.hs ∧ t.1 ≠ t.2 := fun t ht => by
      rcases List.mem_append.mp ht with q | q
      · exact h.w.ties t q
      · have : t = (x, y) := by simpa using q
        rw [this]
        exact ⟨c1, c2, c3⟩
    have hn : (s.1.ts ++ [(x, y)]).Nodup := List.nodup_append.mpr ⟨h.w.tnd, by simp, fun a ha b hb => by
      have : b = (x, y) := by simpa using hb
      rw [this]
      exact fun z => c4 (by rw [← z]; exact ha)⟩
    exact ⟨⟨h.w.ne, h.w.few, h.w.nd, h.w.nm, hm, hn, ties_len h.w.few hn hm⟩, h.ld, h.nd, h.len⟩
  · cases e
theorem doCut_ok {s s' : Stt} {x y : Str} (h : s.Ok) (e : doCut s x y = some s') : s'.Ok := by
  unfold doCut at e
  split at e
  · cases e
    have hm : ∀ t ∈ s.1.ts.filter fun t => !decide (t = (x, y)), t.1 ∈ s.1.hs ∧ t.2 ∈ s.1.hs ∧ t.1 ≠ t.2 := fun t ht => h.w.ties t (List.mem_filter.mp ht).1
    have hn : (s.1.ts.filter fun t => !decide (t = (x, y))).Nodup := h.w.tnd.filter _
    exact ⟨⟨h.w.ne, h.w.few, h.w.nd, h.w.nm, hm, hn, ties_len h.w.few hn hm⟩, h.ld, h.nd, h.len⟩
  · cases e
theorem lead_len {hs ls : List Str} (h5 : hs.length ≤ 5) (hn : ls.Nodup) (hm : ∀ x ∈ ls, x ∈ hs) : ls.length ≤ 1000 := by
  have := nodup_len hn hm
  omega
theorem doLead_ok {s s' : Stt} {x : Str} (h : s.Ok) (e : doLead s x = some s') : s'.Ok := by
  unfold doLead at e
  split at e
  · rename_i c
    cases e
    have hn : (s.2 ++ [x]).Nodup := List.nodup_append.mpr ⟨h.nd, by simp, fun a ha b hb => by
      have : b = x := by simpa using hb
      rw [this]
      exact fun z => c.2 (by rw [← z]; exact ha)⟩
    have hm : ∀ z ∈ s.2 ++ [x], z ∈ s.1.hs := fun z hz => by
      rcases List.mem_append.mp hz with q | q
      · exact h.ld z q
      · have : z = x := by simpa using q
        rw [this]
        exact c.1
    exact ⟨h.w, hm, hn, lead_len h.w.few hn hm⟩
  · cases e
theorem doLeave_ok {s s' : Stt} {x : Str} (h : s.Ok) (e : doLeave s x = some s') : s'.Ok := by
  unfold doLeave at e
  split at e
  · cases e
    have hn : (s.2.filter fun o => !decide (o = x)).Nodup := h.nd.filter _
    have hm : ∀ z ∈ s.2.filter fun o => !decide (o = x), z ∈ s.1.hs := fun z hz => h.ld z (List.mem_filter.mp hz).1
    exact ⟨h.w, hm, hn, lead_len h.w.few hn hm⟩
  · cases e
def MutP (K : PySem.W.Frag) (H : Hp) (b : Addr) (o : Option (List Stt)) (Q : VK) (E : XK) : Prop := (∀ st', o = some st' → ∀ H', ExB b H H' → BoardAt K H' b st' → Q .non H') ∧ (o = none → ∀ cls d H', Err K cls → Ex H H' → E cls d H')
/-! ### readings -/
section
variable {K : PySem.W.Frag} {mg : Str → Option Value} {σ : L2.St} {H H' : Hp} {te ta tb tw : TE} {b dx t p w l : Addr} {as : List Addr} {st : List Stt} {s s' : Stt} {D : Ends} {tz : TS} {E : XK}
theorem q_dropC {sp : Sp} {dvs vs : List V} {ta : TA} (h : EvA ta σ H vs) (k : ∀ H1, Ex H H1 → sp (vs ++ dvs) H1 (fun _ H2 => tz D σ H2) E) : tSeq (tDrop (tCall sp dvs E ta)) tz D σ H := h H (Ex.refl H) _ k
theorem q_place {W : Wk} {wa : Addr} {z : Str} (hw : WorksAt K H wa W) (h1 : Ev tw σ H (.ref wa)) (h2 : Ev te σ H (.str z)) (k1 : z ∈ W.hs → ∀ H1, Ex H H1 → tz D σ H1) (k2 : z ∉ W.hs → ∀ d H1, Ex H H1 → E (.ref (He.ga K "UnknownName")) d H1) :
    tSeq (tDrop (tCall (spPlace K) [] E (tCons tw (tCons te tNil)))) tz D σ H :=
  q_dropC (ea_cons h1 (ea_cons h2 ea_nil)) fun H1 e1 => ⟨wa, W, z, rfl, hw.ex e1, fun hz H2 e2 => k1 hz H2 (e1.trans e2), fun hz d H2 e2 => k2 hz d H2 (e1.trans e2)⟩
theorem evp_works {hs : List Str} {ts : List (Str × Str)} {ta : TA} (h : EAP ta σ H fun vs H1 => ∃ a r, vs = [.ref a, .ref r] ∧ STupN H1 a hs ∧ PTup H1 r ts) (gp : GoodParts hs) (gt : GoodTies hs ts) :
    EvP (tMake (He.ga K "Works") (spWorksInit K) [] E ta) σ H fun v H1 => ∃ x, v = .ref x ∧ WorksAt K H1 x ⟨hs, ts⟩ := fun H1 e Q q =>
  h H1 e _ fun vs H2 e2 ⟨a, r, ev, h1, h2⟩ => fun x dx hx hdx ne => by
    subst ev
    have hx' : (upd H2 dx (.own x)) x = none := by rw [upd_ne (Ne.symm ne)]; exact hx
    have en : Ex H2 (upd (upd H2 dx (.own x)) x (.ins (He.ga K "Works") dx [])) := (Ex.new hdx).trans (Ex.new hx')
    exact ⟨x, dx, a, r, hs, ts, rfl, upd_same, h1.ex en, h2.ex en, gp, gt, fun p H3 eb hx3 hp => ⟨rfl, q _ H3 (e2.trans (ExB.new hx hdx eb)) ⟨x, rfl, dx, a, r, p, hx3, h1.ex (ExB.new hx hdx eb), h2.ex (ExB.new hx hdx eb), hp⟩⟩⟩
theorem s_put {t' : TA} (bi : BIn K H b st s dx t as p w l) (h0 : Ev ta σ H (.ref b)) (h : EAP t' σ H fun vs H1 => ∃ wa la, vs = [.ref wa, .ref la] ∧ WorksAt K H1 wa s'.1 ∧ STup H1 la s'.2) (hz : st.length ≤ 1000)
    (k : ∀ H', ExB b H H' → BoardAt K H' b ((st ++ [s]) ++ [s']) → D.nx σ H') : tDrop (tMeth (He.ga K "Board") "put" (spPut K) [] E ta t') D σ H :=
  h0 H (Ex.refl H) _ fun H1 e1 => ⟨b, dx, _, rfl, e1 _ _ bi.at_, rfl, h H1 e1 _ fun vs H2 e2 ⟨wa, la, ev, h1, h2⟩ => by
    subst ev
    exact ⟨b, st, s, s', wa, la, rfl, (bi.ex (e1.trans e2)).bd, h1, h2, hz, fun H3 f hb => k H3 ((ExB.of (e1.trans e2)).trans f) hb⟩⟩
/-- t + (e,) -/
theorem evp_snocT {xs : List V} {R : V → Hp → Prop} {R' : V → Hp → Prop} {a : Addr} (ha : Ev ta σ H (.ref a)) (hx : Rd H a (.tup xs)) (hb : ∀ H1, Ex H H1 → EvP te σ H1 R) (hz : xs.length ≤ 99999) (hR : ∀ v H1 H2, Ex H1 H2 → R v H1 → R v H2)
    (k : ∀ v q H1, Ex H H1 → R v H1 → Rd H1 q (.tup (xs ++ [v])) → R' (.ref q) H1) : EvP (tOp (rCatA K) ta (tTup (tCons te tNil))) σ H R' := fun H1 e Q q =>
  ha H1 e _ fun H2 e2 => hb H2 (e.trans e2) H2 (Ex.refl H2) _ fun v H3 e3 hv => ⟨by show 1 ≤ sizeLine; decide, fun p2 hp2 => by
    have e23 := e3.trans (Ex.new (o := .tup [v]) hp2)
    have hx' := ex_rd ((e.trans e2).trans e23) hx
    have hv' := hR v _ _ (Ex.new (o := .tup [v]) hp2) hv
    refine ⟨a, p2, xs, [v], rfl, rfl, .inl hx', st_of upd_same, sz_of (by show _ + 1 ≤ _; omega), fun hz => q _ _ (e2.trans e23) (k v _ _ ((e.trans e2).trans e23) hv' (.inl ?_)), (fun _ z => nomatch z), fun _ _ p hp => q _ _ ((e2.trans e23).trans (Ex.new hp)) (k v _ _ (((e.trans e2).trans e23).trans (Ex.new hp)) (hR _ _ _ (Ex.new hp) hv') (.inl upd_same))⟩
    rw [hz, List.nil_append]
    exact upd_same⟩
end
theorem err_U {K : PySem.W.Frag} {mg : Str → Option Value} (T : Tp K mg) : Err K (.ref (He.ga K "UnknownName")) := (xr_out T.exs.u2).2.2.2
theorem err_N {K : PySem.W.Frag} {mg : Str → Option Value} (T : Tp K mg) : Err K (.ref (He.ga K "InvalidName")) := (xr_out T.exs.n2).2.2.2
theorem err_T {K : PySem.W.Frag} {mg : Str → Option Value} (T : Tp K mg) : Err K (.ref (He.ga K "InvalidTie")) := (xr_out T.exs.t2).2.2.2
theorem err_O {K : PySem.W.Frag} {mg : Str → Option Value} (T : Tp K mg) : Err K (.ref (He.ga K "NothingToUndo")) := (xr_out T.exs.o2).2.2.2
variable {P : Program} {w : World} {K : PySem.W.Frag} {mg : Str → Option Value} {base : Heap}
section
variable {X : Cx} {W : WX} {e1 e2 : Expr} {t1 t2 : TE} {p pos : Pos} {j : Nat} {E : XK}
theorem pe_place (T : Tp K mg) (tk : Takes X W) (hW : ∀ cls d σ H, E cls d H → W cls d σ H) (hr : Room j X.A) (hg : Gl X "place_of") (h1 : PE X e1 t1) (h2 : PE X e2 t2) (hj : 3 ≤ j := by decide) (hK : X.K = K := by rfl) (hm : X.mg = mg := by rfl)
    (ha1 : starEach [e1, e2] X.env = (false, eval e1 X.env) :: starEach [e2] X.env := by rfl) (ha2 : starEach [e2] X.env = (false, eval e2 X.env) :: starEach [] X.env := by rfl) (hpl : (backTo pos (starEach [e2] X.env)).any (·.1) = false := by rfl) :
    PE X (.Call (.Name "place_of" p) [e1, e2] [] pos) (tCall (spPlace K) [] E (tCons t1 (tCons t2 tNil))) := by
  subst hK hm
  obtain ⟨fd, F, b, kp⟩ := ok_place (P := X.prog) (w := X.w) (base := X.base) T
  exact pe_call F (hr.mono hj) hg T.g_place_of kp b .nil (passes_call tk hW) (pa_cons h1 (pa_cons h2 pa_nil ha2) ha1) (by decide) ha1 hpl
end
/-! ### tie -/
def spTie (K : PySem.W.Frag) (op : Stt → Str → Str → Option Stt) : Sp := fun vs H Q E => ∃ b st s x y, vs = [.ref b, .str x, .str y] ∧ BoardAt K H b (st ++ [s]) ∧ s.Ok ∧ st.length ≤ 1000 ∧ MutP K H b ((op s x y).map fun s' => (st ++ [s]) ++ [s']) Q E
abbrev NTie : List Str := ["self", "one", "other", "works", "leaders"]
theorem scTie : FnScope NTie ["self", "one", "other"] (defScope sBoardTie) := ⟨rfl, rfl, rfl, by decide +kernel, rfl, by decide +kernel, by decide +kernel⟩
theorem ok_tie (T : Tp K mg) : ∃ fd, FnOk P w K mg base (L2.CX P w) 5 (He.ma K (He.ga K "Board") "tie") fd ["self", "one", "other"] (spTie K doTie) ∧ Binds K fd ["self", "one", "other"] [] := by
  obtain ⟨fd, F⟩ := T.f_Board_tie
  refine ⟨fd, F.ok scTie (fun vs H Q E h => ?_) (fun cdv A outer s H vs Q E hr h => ?_), F.bindsN (fun _ _ _ _ _ _ us hl => match us, hl with | [_, _, _], _ => rfl)⟩
  · obtain ⟨b, st, s, x, y, rfl, _⟩ := h
    rfl
  · obtain ⟨b, st, s', x, y, rfl, hb, ok, hz, k1, k2⟩ := h
    have nd := scTie.nd
    obtain ⟨dx, t, as, p, wa, l, bi⟩ := hb.out
    refine ⟨_, pss_cons (ps_asg (pe_ix ix_tup (pe_fld (pv 0) rfl) (pe_un un_neg pe_int) (fun _ _ => rfl)) (pg_tup (n := 2) rfl (pgs_cons (pg_name (i := 3) nd rfl (Or.inl rfl)) (pgs_cons (pg_name (i := 4) nd rfl (Or.inl rfl)) pgs_nil))))
      (pss_cons (ps_expr (pe_place (E := E) T (takes_of rfl rfl rfl rfl) (fun _ _ _ _ h => h) hr rfl (pv 3) (pv 1)))
      (pss_cons (ps_expr (pe_place (E := E) T (takes_of rfl rfl rfl rfl) (fun _ _ _ _ h => h) hr rfl (pv 3) (pv 2)))
      (pss_cons (ps_if (PW.pt (pw_or (pt_cmpR op_eq (pv 1) (pv 2) (nomark _)) (pw_or1 (pt_cmpR (op_inU (hu65 hr)) (pe_tup (pa_cons (pv 1) (pa_cons (pv 2) pa_nil))) (pe_ties T hr (pv 3)) rfl)))) (pss_one (ps_rT T rfl (takes_of rfl rfl rfl rfl) hr (by decide) rfl (pe_tup (pa_cons (pv 1) (pa_cons (pv 2) pa_nil))))) pss_nil)
      (pss_one (ps_expr (C8.pe_mt (ok_put T) hr (by decide) (pv 0) (pa_cons (C8.pe_mk (ok_Works T) hr (by decide) rfl (pa_cons (pe_parts T hr (pv 3)) (pa_cons (pe_op op_catA (pe_ties T hr (pv 3)) (pe_tup (pa_cons (pe_tup (pa_cons (pv 1) (pa_cons (pv 2) pa_nil))) pa_nil))) pa_nil))) (pa_cons (pv 4) pa_nil)))))))), ?_⟩
    have bad : ∀ c : Prop, (x ∈ s'.1.hs ∧ y ∈ s'.1.hs ∧ x ≠ y ∧ (x, y) ∉ s'.1.ts → c) → (¬ (x ∈ s'.1.hs ∧ y ∈ s'.1.hs ∧ x ≠ y ∧ (x, y) ∉ s'.1.ts) → doTie s' x y = none → c) → c := fun c h1 h2 => by
      by_cases q : x ∈ s'.1.hs ∧ y ∈ s'.1.hs ∧ x ≠ y ∧ (x, y) ∉ s'.1.ts
      · exact h1 q
      · exact h2 q (if_neg q)
    have none_of : ¬ (x ∈ s'.1.hs ∧ y ∈ s'.1.hs ∧ x ≠ y ∧ (x, y) ∉ s'.1.ts) → (doTie s' x y).map (fun s'' => (st ++ [s']) ++ [s'']) = none := fun q => by
      unfold doTie
      rw [if_neg q]
      rfl
    refine q_asgG (ev_lastS T bi (ev_var rfl)) fun H1 e1 => eg_two (e1 _ _ bi.last) ?_
    refine q_place (bi.wk.ex e1) (ev_var rfl) (ev_var rfl) (fun c1 H2 e2 => ?_) (fun c1 d H2 e2 => k2 (none_of fun q => c1 q.1) _ d H2 (err_U T) (e1.trans e2))
    refine q_place (bi.wk.ex (e1.trans e2)) (ev_var rfl) (ev_var rfl) (fun c2 H3 e3 => ?_) (fun c2 d H3 e3 => k2 (none_of fun q => c2 q.2.1) _ d H3 (err_U T) ((e1.trans e2).trans e3))
    have e03 := (e1.trans e2).trans e3
    obtain ⟨wdx, h, r, wp, wi⟩ := (bi.wk.ex e03).out
    have nx := ok.w.nm x c1
    have ny := ok.w.nm y c2
    refine q_when (b := decide (x = y) || decide ((x, y) ∈ s'.1.ts)) (et_or (et_is (et_test (ev_op (ev_var rfl) (ev_var rfl) (rv_eq rfl))) dS) (fun _ => et_test (ev_opP1 (EvP.ofU (eu_tup (ea_cons (ev_var rfl) (ea_cons (ev_var rfl) ea_nil)) (by show 2 ≤ 100000; omega))) (fun _ H4 e4 _ => ev_ties (wi.ex e4) (ev_var rfl)) fun v H4 e4 ⟨q, ev, hq⟩ => by
      subst ev
      exact rv_inP (t := (x, y)) hq (wi.ex e4).roads (.of nx ny) ok.w.pk))) (fun hb H4 e4 => ?_) (fun hb H4 e4 => ?_)
    · have hn : ¬ (x ∈ s'.1.hs ∧ y ∈ s'.1.hs ∧ x ≠ y ∧ (x, y) ∉ s'.1.ts) := fun q => by
        rw [decide_eq_false q.2.2.1, decide_eq_false q.2.2.2] at hb
        cases hb
      exact s_raise1 (W := fun cls d _ H => E cls d H) (EvP.ofU (eu_tup (ea_cons (ev_var rfl) (ea_cons (ev_var rfl) ea_nil)) (by show 2 ≤ 100000; omega))) fun d H5 e5 => k2 (none_of hn) _ d H5 (err_T T) (e03.trans (e4.trans e5))
    · have hb' : x ≠ y ∧ (x, y) ∉ s'.1.ts := by simpa using hb
      have hd : doTie s' x y = some (⟨s'.1.hs, s'.1.ts ++ [(x, y)]⟩, s'.2) := if_pos ⟨c1, c2, hb'.1, hb'.2⟩
      have ok2 := doTie_ok ok hd
      have e04 := e03.trans e4
      have wi4 := wi.ex e4
      obtain ⟨rs, hr1, hr2⟩ := wi4.roads
      refine s_put (s' := (⟨s'.1.hs, s'.1.ts ++ [(x, y)]⟩, s'.2)) (bi.ex e04) (ev_var rfl) (eap_cons (evp_works (hs := s'.1.hs) (ts := s'.1.ts ++ [(x, y)]) (eap_cons (EvP.of (ev_parts wi4 (ev_var rfl))) (fun v1 H5 e5 hv1 => eap_one (evp_snocT (R := fun v H => ∃ q, v = .ref q ∧ PairAt H q (x, y)) (R' := fun v H => ∃ q, v = .ref q ∧ PTup H q (s'.1.ts ++ [(x, y)])) (ev_ties (wi4.ex e5) (ev_var rfl)) (ex_rd e5 hr1)
        (fun H6 e6 => EvP.ofU (eu_tup (ea_cons (ev_var rfl) (ea_cons (ev_var rfl) ea_nil)) (by show 2 ≤ 100000; omega))) (by rw [List.length_map, paired_length hr2]; have := ok.w.tlen; omega) (fun v H1 H2 e ⟨q, ev, hq⟩ => ⟨q, ev, e _ _ hq⟩)
        (fun v q H6 e6 ⟨q2, ev, hq2⟩ hq => ⟨q, rfl, rs ++ [q2], by rw [List.map_append, ← show [v] = [q2].map V.ref by rw [ev]; rfl]; exact hq, paired_snoc (L2.Paired.mapP hr2 fun _ _ z => (e5.trans e6) _ _ z) hq2⟩)) fun v2 H6 e6 ⟨q, ev2, hq⟩ => ⟨h, q, by rw [hv1, ev2], wi4.heads.ex (e5.trans e6), hq⟩)) ok2.w.parts ok2.w.gties)
        (fun v1 H5 e5 ⟨x1, ev1, hx1⟩ => eap_one (EvP.of (ev_var rfl)) fun v2 H6 e6 hv2 => ⟨x1, l, by rw [ev1, hv2], hx1.ex e6, bi.ld.ex (e04.trans (e5.trans e6))⟩)) hz
        (fun H5 f5 hb5 => k1 _ (by rw [hd]; rfl) H5 ((ExB.of e04).trans f5) hb5)
end K54
/-! K22 -/
namespace K54
open PySem PySem.Spec PyProof.Rows L2 LamX NdefX Evl
section
variable {K : PySem.W.Frag} {σ : L2.St} {H H' : Hp} {te : TE}
theorem paired_refsG {α : Type} {F : Addr → α → Prop} {g : Nat → α} {is : List Nat} {ws : List V} (h : Paired (fun i w => ∃ p, w = V.ref p ∧ F p (g i)) is ws) : ∃ as : List Addr, ws = as.map V.ref ∧ Paired F as (is.map g) := paired_refs h
theorem filter_at {α : Type} (xs : List α) (d : α) (q : α → Bool) : ((List.range xs.length).filter fun j => q (xs.getD j d)).map (fun j => xs.getD j d) = xs.filter q := by
  have e : (List.range xs.length).map (fun j => xs.getD j d) = xs := by
    have := map_range_at xs id (fun j => xs.getD j d) fun i x hx => getD_of hx
    rwa [List.map_id] at this
  conv => rhs; rw [← e]
  rw [List.filter_map]
  rfl
/-- t[:-1] -/
theorem evp_butlast {a : Addr} {xs : List V} (h : Ev te σ H (.ref a)) (ha : H a = some (.tup xs)) (hx : xs ≠ []) {ti : TO} (hi : EvO ti σ H (some (-1))) : EvP (tSl (rSlA K) te tNoPart ti) σ H fun v H1 => ∃ p, v = .ref p ∧ H1 p = some (.tup xs.dropLast) := fun H1 e Q q =>
  h H1 e _ fun H2 e2 => show tNoPart σ H2 _ from hi H2 (e.trans e2) _ fun H3 e3 => by
    have e' := (e.trans e2).trans e3
    have hx' := e' _ _ ha
    have hl := List.length_pos_iff.mpr hx
    have es : HT.sIx xs.length xs.length (some (-1)) = xs.length - 1 := by
      show (if (-1 : Int) < 0 then ((-1 : Int) + (xs.length : Int)).toNat else min (-1 : Int).toNat xs.length) = _
      rw [if_pos (by decide)]
      omega
    refine ⟨a, xs, rfl, st_of hx', fun hw => ?_, fun _ p hp => q _ _ ((e2.trans e3).trans (Ex.new hp)) ⟨p, rfl, ?_⟩⟩
    · rw [es] at hw
      omega
    · rw [upd_same]
      unfold cutV
      rw [es, HT.sIx_none, List.drop_zero, Nat.sub_zero, List.dropLast_eq_take]
end
variable {P : Program} {w : World} {K : PySem.W.Frag} {mg : Str → Option Value} {base : Heap}
/-! ### cut -/
theorem scCut : FnScope ["self", "one", "other", "works", "leaders", "tie"] ["self", "one", "other"] (defScope sBoardCut) := ⟨rfl, rfl, rfl, by decide +kernel, rfl, by decide +kernel, by decide +kernel⟩
theorem ok_cut (T : Tp K mg) : ∃ fd, FnOk P w K mg base (L2.CX P w) 5 (He.ma K (He.ga K "Board") "cut") fd ["self", "one", "other"] (spTie K doCut) ∧ Binds K fd ["self", "one", "other"] [] := by
  obtain ⟨fd, F⟩ := T.f_Board_cut
  refine ⟨fd, F.ok scCut (fun vs H Q E h => ?_) (fun cdv A outer s H vs Q E hr h => ?_), F.bindsN (fun _ _ _ _ _ _ us hl => match us, hl with | [_, _, _], _ => rfl)⟩
  · obtain ⟨b, st, s, x, y, rfl, _⟩ := h
    rfl
  · obtain ⟨b, st, s', x, y, rfl, hb, ok, hz, k1, k2⟩ := h
    have nd := scCut.nd
    obtain ⟨dx, t, as, p, wa, l, bi⟩ := hb.out
    refine ⟨_, pss_cons (ps_asg (pe_ix ix_tup (pe_fld (pv 0) rfl) (pe_un un_neg pe_int) (fun _ _ => rfl)) (pg_tup (n := 2) rfl (pgs_cons (pg_name (i := 3) nd rfl (Or.inl rfl)) (pgs_cons (pg_name (i := 4) nd rfl (Or.inl rfl)) pgs_nil))))
      (pss_cons (ps_expr (pe_place (E := E) T (takes_of rfl rfl rfl rfl) (fun _ _ _ _ h => h) hr rfl (pv 3) (pv 1)))
      (pss_cons (ps_expr (pe_place (E := E) T (takes_of rfl rfl rfl rfl) (fun _ _ _ _ h => h) hr rfl (pv 3) (pv 2)))
      (pss_cons (ps_if (pt_cmpR (op_notInU (hu65 hr)) (pe_tup (pa_cons (pv 1) (pa_cons (pv 2) pa_nil))) (pe_ties T hr (pv 3)) rfl) (pss_one (ps_rT T rfl (takes_of rfl rfl rfl rfl) hr (by decide) rfl (pe_tup (pa_cons (pv 1) (pa_cons (pv 2) pa_nil))))) pss_nil)
      (pss_one (ps_expr (C8.pe_mt (ok_put T) hr (by decide) (pv 0) (pa_cons (C8.pe_mk (ok_Works T) hr (by decide) rfl (pa_cons (pe_parts T hr (pv 3)) (pa_cons (pty call_tuple_of T.z_tuple PyProof.Rows.boot_tuple
        (pe_lc (own := [("tie", 5)]) (g := gName 5) rfl nd (pi_tup (pe_ties T hr (pv 3))) (blkOk_by (N := ["self", "one", "other", "works", "leaders", "tie"]) (sc := defScope sBoardCut) (by decide +kernel)) (fun _ _ _ _ _ => pg_name (i := 5) nd rfl (Or.inl rfl))
          (fun _ _ _ _ _ => pts_one (pt_cmpR (opK_neD K rfl hr.units) (pv 5) (pe_tup (pa_cons (pv 1) (pa_cons (pv 2) pa_nil))) (nomark _))) (fun _ _ _ _ _ => pv 5))) pa_nil))) (pa_cons (pv 4) pa_nil)))))))), ?_⟩
    have none_of : ¬ (x ∈ s'.1.hs ∧ y ∈ s'.1.hs ∧ (x, y) ∈ s'.1.ts) → (doCut s' x y).map (fun s'' => (st ++ [s']) ++ [s'']) = none := fun q => by
      unfold doCut
      rw [if_neg q]
      rfl
    refine q_asgG (ev_lastS T bi (ev_var rfl)) fun H1 e1 => eg_two (e1 _ _ bi.last) ?_
    refine q_place (bi.wk.ex e1) (ev_var rfl) (ev_var rfl) (fun c1 H2 e2 => ?_) (fun c1 d H2 e2 => k2 (none_of fun q => c1 q.1) _ d H2 (err_U T) (e1.trans e2))
    refine q_place (bi.wk.ex (e1.trans e2)) (ev_var rfl) (ev_var rfl) (fun c2 H3 e3 => ?_) (fun c2 d H3 e3 => k2 (none_of fun q => c2 q.2.1) _ d H3 (err_U T) ((e1.trans e2).trans e3))
    have e03 := (e1.trans e2).trans e3
    obtain ⟨wdx, h, r, wp, wi⟩ := (bi.wk.ex e03).out
    have nx := ok.w.nm x c1
    have ny := ok.w.nm y c2
    refine q_when (b := !decide ((x, y) ∈ s'.1.ts)) (et_test (ev_opP1 (EvP.ofU (eu_tup (ea_cons (ev_var rfl) (ea_cons (ev_var rfl) ea_nil)) (by show 2 ≤ 100000; omega))) (fun _ H4 e4 _ => ev_ties (wi.ex e4) (ev_var rfl)) fun v H4 e4 ⟨q, ev, hq⟩ => by
      subst ev
      exact rv_niP (t := (x, y)) hq (wi.ex e4).roads (.of nx ny) ok.w.pk)) (fun hb H4 e4 => ?_) (fun hb H4 e4 => ?_)
    · have hn : (x, y) ∉ s'.1.ts := by simpa using hb
      exact s_raise1 (W := fun cls d _ H => E cls d H) (EvP.ofU (eu_tup (ea_cons (ev_var rfl) (ea_cons (ev_var rfl) ea_nil)) (by show 2 ≤ 100000; omega))) fun d H5 e5 => k2 (none_of fun q => hn q.2.2) _ d H5 (err_T T) (e03.trans (e4.trans e5))
    · have hb' : (x, y) ∈ s'.1.ts := by simpa using hb
      have hd : doCut s' x y = some (⟨s'.1.hs, s'.1.ts.filter fun t => !decide (t = (x, y))⟩, s'.2) := if_pos ⟨c1, c2, hb'⟩
      have ok2 := doCut_ok ok hd
      have e04 := e03.trans e4
      have wi4 := wi.ex e4
      obtain ⟨rs, hr1, hr2⟩ := wi4.roads
      have hlen := paired_length hr2
      refine s_put (s' := (⟨s'.1.hs, s'.1.ts.filter fun t => !decide (t = (x, y))⟩, s'.2)) (bi.ex e04) (ev_var rfl) (eap_cons (evp_works (hs := s'.1.hs) (ts := s'.1.ts.filter fun t => !decide (t = (x, y))) (eap_cons (EvP.of (ev_parts wi4 (ev_var rfl))) (fun v1 H5 e5 hv1 => eap_one (R1 := fun v H => ∃ q, v = .ref q ∧ PTup H q (s'.1.ts.filter fun t => !decide (t = (x, y))))
        (evp_tup ((lcP (n := (rs.map V.ref).length) (fun j => !decide (s'.1.ts.getD j (x, y) = (x, y))) (fun j v H => ∃ q, v = .ref q ∧ PairAt H q (s'.1.ts.getD j (x, y))) (fun i v bs H H' f m ⟨q, ev, hq⟩ => ⟨q, ev, f.tup m hq⟩) (ei_tup (ev_ties (wi4.ex e5) (ev_var rfl)) (ex_rd e5 hr1)) yx_at (by rw [List.length_map, hlen]; have := ok.w.tlen; omega) (fun i x0 Hc Hd hi ec hy => ?_)).imp ?_))
        fun v2 H6 e6 ⟨q, ev2, hq⟩ => ⟨h, q, by rw [hv1, ev2], wi4.heads.ex (e5.trans e6), hq⟩)) ok2.w.parts ok2.w.gties)
        (fun v1 H5 e5 ⟨x1, ev1, hx1⟩ => eap_one (EvP.of (ev_var rfl)) fun v2 H6 e6 hv2 => ⟨x1, l, by rw [ev1, hv2], hx1.ex e6, bi.ld.ex (e04.trans (e5.trans e6))⟩)) hz
        (fun H5 f5 hb5 => k1 _ (by rw [hd]; rfl) H5 ((ExB.of e04).trans f5) hb5)
      · obtain ⟨rfl, hx⟩ := hy
        rw [List.getElem?_map] at hx
        obtain ⟨q, hq, rfl⟩ := Option.map_eq_some_iff.mp hx
        obtain ⟨t, ht, hpt⟩ := paired_at hr2 hq
        have htm := List.mem_of_getElem? ht
        rw [getD_of ht]
        have hpt' := hpt.ex (e5.trans ec)
        refine eg_name ⟨rfl, et_test (ev_opP (ev_var rfl) (EvP.ofU (eu_tup (ea_cons (ev_var rfl) (ea_cons (ev_var rfl) ea_nil)) (by show 2 ≤ 100000; omega))) fun v H7 e7 ⟨q2, ev, hq2⟩ => ?_), fun _ => (EvP.of (ev_var rfl)).imp fun v H7 e7 hv => ⟨q, hv, hpt'.ex e7⟩⟩
        subst ev
        exact rv_neP (hpt'.ex e7) (u := (x, y)) hq2 (ok.w.pk t htm) (.of nx ny)
      · rintro v H6 e6 ⟨q, ws, rfl, hq, pr⟩
        obtain ⟨as6, ews, pr6⟩ := paired_refsG (F := PairAt H6) (g := fun j => s'.1.ts.getD j (x, y)) pr
        subst ews
        refine ⟨q, _, rfl, hq, fun q' H7 e7 hq' => ⟨q', rfl, as6, .inl hq', ?_⟩⟩
        rw [List.length_map, hlen, filter_at s'.1.ts (x, y) fun t => !decide (t = (x, y))] at pr6
        exact L2.Paired.mapP pr6 fun _ _ z => e7 _ _ z
/-! ### lead, leave -/
def spLd (K : PySem.W.Frag) (op : Stt → Str → Option Stt) : Sp := fun vs H Q E => ∃ b st s x, vs = [.ref b, .str x] ∧ BoardAt K H b (st ++ [s]) ∧ s.Ok ∧ st.length ≤ 1000 ∧ MutP K H b ((op s x).map fun s' => (st ++ [s]) ++ [s']) Q E
theorem scLead : FnScope ["self", "part", "works", "leaders"] ["self", "part"] (defScope sBoardLead) := ⟨rfl, rfl, rfl, by decide +kernel, rfl, by decide +kernel, by decide +kernel⟩
theorem ok_lead (T : Tp K mg) : ∃ fd, FnOk P w K mg base (L2.CX P w) 5 (He.ma K (He.ga K "Board") "lead") fd ["self", "part"] (spLd K doLead) ∧ Binds K fd ["self", "part"] [] := by
  obtain ⟨fd, F⟩ := T.f_Board_lead
  refine ⟨fd, F.ok scLead (fun vs H Q E h => ?_) (fun cdv A outer s H vs Q E hr h => ?_), F.bindsN (fun _ _ _ _ _ _ us hl => match us, hl with | [_, _], _ => rfl)⟩
  · obtain ⟨b, st, s, x, rfl, _⟩ := h
    rfl
  · obtain ⟨b, st, s', x, rfl, hb, ok, hz, k1, k2⟩ := h
    have nd := scLead.nd
    obtain ⟨dx, t, as, p, wa, l, bi⟩ := hb.out
    refine ⟨_, pss_cons (ps_asg (pe_ix ix_tup (pe_fld (pv 0) rfl) (pe_un un_neg pe_int) (fun _ _ => rfl)) (pg_tup (n := 2) rfl (pgs_cons (pg_name (i := 2) nd rfl (Or.inl rfl)) (pgs_cons (pg_name (i := 3) nd rfl (Or.inl rfl)) pgs_nil))))
      (pss_cons (ps_expr (pe_place (E := E) T (takes_of rfl rfl rfl rfl) (fun _ _ _ _ h => h) hr rfl (pv 2) (pv 1)))
      (pss_cons (ps_if (pt_cmpR op_in_seq (pv 1) (pv 3) rfl) (pss_one (ps_rN T rfl (takes_of rfl rfl rfl rfl) hr (by decide) rfl (pv 1))) pss_nil)
      (pss_one (ps_expr (C8.pe_mt (ok_put T) hr (by decide) (pv 0) (pa_cons (pv 2) (pa_cons (pe_op op_catA (pv 3) (pe_tup (pa_cons (pv 1) pa_nil))) pa_nil))))))), ?_⟩
    have none_of : ¬ (x ∈ s'.1.hs ∧ x ∉ s'.2) → (doLead s' x).map (fun s'' => (st ++ [s']) ++ [s'']) = none := fun q => by
      unfold doLead
      rw [if_neg q]
      rfl
    refine q_asgG (ev_lastS T bi (ev_var rfl)) fun H1 e1 => eg_two (e1 _ _ bi.last) ?_
    refine q_place (bi.wk.ex e1) (ev_var rfl) (ev_var rfl) (fun c1 H2 e2 => ?_) (fun c1 d H2 e2 => k2 (none_of fun q => c1 q.1) _ d H2 (err_U T) (e1.trans e2))
    have e02 := e1.trans e2
    refine q_when (b := decide (x ∈ s'.2)) (et_test (ev_op (ev_var rfl) (ev_var rfl) (rv_inS (bi.ld.ex e02)))) (fun hb H4 e4 => ?_) (fun hb H4 e4 => ?_)
    · exact s_raise1 (W := fun cls d _ H => E cls d H) (EvP.of (ev_var rfl)) fun d H5 e5 => k2 (none_of fun q => q.2 (of_decide_eq_true hb)) _ d H5 (err_N T) (e02.trans (e4.trans e5))
    · have hb' := of_decide_eq_false hb
      have hd : doLead s' x = some (s'.1, s'.2 ++ [x]) := if_pos ⟨c1, hb'⟩
      have e04 := e02.trans e4
      refine s_put (s' := (s'.1, s'.2 ++ [x])) (bi.ex e04) (ev_var rfl) (eap_cons (EvP.of (ev_var rfl)) fun v1 H5 e5 hv1 => eap_one (evp_snocT (R := fun v _ => v = .str x) (R' := fun v H => ∃ q, v = .ref q ∧ STup H q (s'.2 ++ [x])) (ev_var rfl) (bi.ld.ex (e04.trans e5)) (fun H6 e6 => EvP.of (ev_var rfl)) (by rw [List.length_map]; have := ok.len; omega) (fun _ _ _ _ h => h)
        (fun v q H6 e6 hv hq => ⟨q, rfl, by show Rd _ _ _; rw [List.map_append]; rw [hv] at hq; exact hq⟩)) fun v2 H6 e6 ⟨q, ev2, hq⟩ => ⟨wa, q, by rw [hv1, ev2], bi.wk.ex (e04.trans (e5.trans e6)), hq⟩) hz
        (fun H5 f5 hb5 => k1 _ (by rw [hd]; rfl) H5 ((ExB.of e04).trans f5) hb5)
theorem scLeave : FnScope ["self", "part", "works", "leaders", "other"] ["self", "part"] (defScope sBoardLeave) := ⟨rfl, rfl, rfl, by decide +kernel, rfl, by decide +kernel, by decide +kernel⟩
theorem ok_leave (T : Tp K mg) : ∃ fd, FnOk P w K mg base (L2.CX P w) 5 (He.ma K (He.ga K "Board") "leave") fd ["self", "part"] (spLd K doLeave) ∧ Binds K fd ["self", "part"] [] := by
  obtain ⟨fd, F⟩ := T.f_Board_leave
  refine ⟨fd, F.ok scLeave (fun vs H Q E h => ?_) (fun cdv A outer s H vs Q E hr h => ?_), F.bindsN (fun _ _ _ _ _ _ us hl => match us, hl with | [_, _], _ => rfl)⟩
  · obtain ⟨b, st, s, x, rfl, _⟩ := h
    rfl
  · obtain ⟨b, st, s', x, rfl, hb, ok, hz, k1, k2⟩ := h
    have nd := scLeave.nd
    obtain ⟨dx, t, as, p, wa, l, bi⟩ := hb.out
    refine ⟨_, pss_cons (ps_asg (pe_ix ix_tup (pe_fld (pv 0) rfl) (pe_un un_neg pe_int) (fun _ _ => rfl)) (pg_tup (n := 2) rfl (pgs_cons (pg_name (i := 2) nd rfl (Or.inl rfl)) (pgs_cons (pg_name (i := 3) nd rfl (Or.inl rfl)) pgs_nil))))
      (pss_cons (ps_expr (pe_place (E := E) T (takes_of rfl rfl rfl rfl) (fun _ _ _ _ h => h) hr rfl (pv 2) (pv 1)))
      (pss_cons (ps_if (pt_cmpR op_notIn_seq (pv 1) (pv 3) rfl) (pss_one (ps_rN T rfl (takes_of rfl rfl rfl rfl) hr (by decide) rfl (pv 1))) pss_nil)
      (pss_one (ps_expr (C8.pe_mt (ok_put T) hr (by decide) (pv 0) (pa_cons (pv 2) (pa_cons (pty call_tuple_of T.z_tuple PyProof.Rows.boot_tuple
        (pe_lc (own := [("other", 4)]) (g := gName 4) rfl nd (pi_tup (pv 3)) (blkOk_by (N := ["self", "part", "works", "leaders", "other"]) (sc := defScope sBoardLeave) (by decide +kernel)) (fun _ _ _ _ _ => pg_name (i := 4) nd rfl (Or.inl rfl))
          (fun _ _ _ _ _ => pts_one (pt_cmpR op_ne (pv 4) (pv 1) (nomark _))) (fun _ _ _ _ _ => pv 4))) pa_nil))))))), ?_⟩
    have none_of : ¬ (x ∈ s'.1.hs ∧ x ∈ s'.2) → (doLeave s' x).map (fun s'' => (st ++ [s']) ++ [s'']) = none := fun q => by
      unfold doLeave
      rw [if_neg q]
      rfl
    refine q_asgG (ev_lastS T bi (ev_var rfl)) fun H1 e1 => eg_two (e1 _ _ bi.last) ?_
    refine q_place (bi.wk.ex e1) (ev_var rfl) (ev_var rfl) (fun c1 H2 e2 => ?_) (fun c1 d H2 e2 => k2 (none_of fun q => c1 q.1) _ d H2 (err_U T) (e1.trans e2))
    have e02 := e1.trans e2
    refine q_when (b := !decide (x ∈ s'.2)) (et_test (ev_op (ev_var rfl) (ev_var rfl) (rv_niS (bi.ld.ex e02)))) (fun hb H4 e4 => ?_) (fun hb H4 e4 => ?_)
    · have hb' : x ∉ s'.2 := by simpa using hb
      exact s_raise1 (W := fun cls d _ H => E cls d H) (EvP.of (ev_var rfl)) fun d H5 e5 => k2 (none_of fun q => hb' q.2) _ d H5 (err_N T) (e02.trans (e4.trans e5))
    · have hb' : x ∈ s'.2 := by simpa using hb
      have hd : doLeave s' x = some (s'.1, s'.2.filter fun o => !decide (o = x)) := if_pos ⟨c1, hb'⟩
      have e04 := e02.trans e4
      refine s_put (s' := (s'.1, s'.2.filter fun o => !decide (o = x))) (bi.ex e04) (ev_var rfl) (eap_cons (EvP.of (ev_var rfl)) fun v1 H5 e5 hv1 => eap_one (R1 := fun v H => ∃ q, v = .ref q ∧ STup H q (s'.2.filter fun o => !decide (o = x)))
        (evp_tup ((lcV (n := (s'.2.map V.str).length) (fun j => !decide (s'.2.getD j x = x)) (fun j => .str (s'.2.getD j x)) (ei_tup (ev_var rfl) (bi.ld.ex (e04.trans e5))) yx_at (by rw [List.length_map]; have := ok.len; omega) (fun i x0 Hc Hd hi ec hy => ?_)).imp ?_)) fun v2 H6 e6 ⟨q, ev2, hq⟩ => ⟨wa, q, by rw [hv1, ev2], bi.wk.ex (e04.trans (e5.trans e6)), hq⟩) hz
        (fun H5 f5 hb5 => k1 _ (by rw [hd]; rfl) H5 ((ExB.of e04).trans f5) hb5)
      · obtain ⟨rfl, hx⟩ := hy
        rw [List.getElem?_map] at hx
        obtain ⟨z, hz', rfl⟩ := Option.map_eq_some_iff.mp hx
        rw [getD_of hz']
        exact eg_name ⟨rfl, et_is (et_test (ev_op (ev_var rfl) (ev_var rfl) (rv_ne rfl))) (by rw [dS]), fun _ => ev_var rfl⟩
      · rintro v H6 e6 ⟨q, rfl, hq⟩
        refine ⟨q, _, rfl, hq, fun q' H7 e7 hq' => ⟨q', rfl, .inl ?_⟩⟩
        rw [hq']
        have e9 := congrArg (List.map V.str) (filter_at s'.2 x fun o => !decide (o = x))
        rw [List.map_map] at e9
        unfold given
        rw [List.length_map]
        exact congrArg (fun z => some (HO.tup z)) e9
/-! ### undo -/
def spUndo (K : PySem.W.Frag) : Sp := fun vs H Q E => ∃ b st s, vs = [.ref b] ∧ BoardAt K H b (st ++ [s]) ∧ st.length ≤ 1000 ∧ MutP K H b (if st = [] then none else some st) Q E
theorem scUndo : FnScope ["self"] ["self"] (defScope sBoardUndo) := ⟨rfl, rfl, rfl, by decide +kernel, rfl, by decide +kernel, by decide +kernel⟩
theorem ok_undo (T : Tp K mg) : ∃ fd, FnOk P w K mg base (L2.CX P w) 5 (He.ma K (He.ga K "Board") "undo") fd ["self"] (spUndo K) ∧ Binds K fd ["self"] [] := by
  obtain ⟨fd, F⟩ := T.f_Board_undo
  refine ⟨fd, F.ok scUndo (fun vs H Q E h => ?_) (fun cdv A outer s H vs Q E hr h => ?_), F.bindsN (fun _ _ _ _ _ _ us hl => match us, hl with | [_], _ => rfl)⟩
  · obtain ⟨b, st, s, rfl, _⟩ := h
    rfl
  · obtain ⟨b, st, s', rfl, hb, hz, k1, k2⟩ := h
    obtain ⟨dx, t, as, p, wa, l, bi⟩ := hb.out
    have hlen := paired_length bi.pre
    refine ⟨_, pss_cons (ps_if (pt_cmpR op_eq (pb call_len T.z_len PySem.boot_len (pe_fld (pv 0) rfl)) pe_int (nomark _)) (pss_one (ps_rO T rfl (takes_of rfl rfl rfl rfl) rfl)) pss_nil)
      (pss_one (ps_fld (pv 0) (pe_slice sl_tupA (pe_fld (pv 0) rfl) po_none (po_some (pe_un un_neg pe_int))) rfl)), ?_⟩
    refine q_when (b := decide (st = [])) (et_is (et_test (ev_op (ev_cb1 (ev_states T bi (ev_var rfl)) (rc_lenT (.inl bi.tup))) ev_c (rv_eq rfl))) ?_) (fun hb H1 e1 => ?_) (fun hb H1 e1 => ?_)
    · rw [dV, List.length_map, List.length_append, hlen]
      refine decide_eq_decide.mpr ⟨fun q => ?_, fun q => by rw [q]; rfl⟩
      have : ((st.length + 1 : Nat) : Int) = 1 := q
      exact List.eq_nil_of_length_eq_zero (by omega)
    · exact k2 (if_pos (of_decide_eq_true hb)) _ none H1 (err_O T) e1
    · have hne := of_decide_eq_false hb
      refine s_fldP (R := fun v H => ∃ t2, v = .ref t2 ∧ H t2 = some (.tup (as.map V.ref))) ((evp_butlast (ev_states T (bi.ex e1) (ev_var rfl)) (e1 _ _ bi.tup) (by simp) (eo_some ev_m1)).imp fun v H2 e2 ⟨q, ev, hq⟩ => ⟨q, ev, by rw [hq, List.map_append]; exact congrArg (fun z => some (HO.tup z)) List.dropLast_concat⟩) (fun _ _ => ev_var rfl) (e1 _ _ bi.at_) T.c_Board T.n_Board_states (by show 1 < 1000; omega) (fun v H2 H3 e ⟨t, ev, h1⟩ => ⟨t, ev, e _ _ h1⟩) ?_
      rintro v H2 e2 ⟨t2, rfl, ht⟩
      have e02 := e1.trans e2
      have eb : ExB b H (upd H2 b (.ins (He.ga K "Board") dx [("states", .ref t2)])) := ExB.put e02
      have fm := eb.fm
      have mb := mb_board bi.at_ (by show 1 ≤ 2; decide)
      have mb2 := mb_board (e02 _ _ bi.at_) (by show 1 ≤ 2; decide)
      have fp : Fm [b] H2 (upd H2 b (.ins (He.ga K "Board") dx [("states", .ref t2)])) := Fm.put
      exact k1 st (if_neg hne) _ eb ⟨dx, t2, as, upd_same, fp.tup mb2 ht, L2.Paired.mapP bi.pre fun _ _ z => z.fm fm mb⟩
end K54
/-! K23 -/
namespace K54
open PySem PySem.Spec PyProof.Rows L2 LamX NdefX Evl
theorem pe_lam0 {X : Cx} {T : List (Addr × Str)} {c P : Addr} {params : Arguments} {body : Expr} {scope : Scope} {pos : Pos} (TB : TabB X.base X.mg c P) (hcode : X.env.code = .ref c) (hm : (P, X.env.qual ++ "<lambda>") ∈ T) (hu : ∀ p ∈ T, p.1 = P → p.2 = X.env.qual ++ "<lambda>")
    (hno : ∀ y ∈ scope.names, y.2 ≠ .free) (hdef : defaultsOf params X.env = ([], [])) : PE X (.Lambda params body scope pos) (tLamE T fun c' => ⟨X.env.qual ++ "<lambda>", params, body, scope, cloFrom X.env.cells scope.names [], c'⟩) := by
  refine ⟨fun pins s σ H Q I h => ?_⟩
  obtain ⟨hT, h⟩ := h
  exact lam_mk I TB hcode hm hu hT hdef (fun y hy e => absurd e (hno y hy)) fun f c' H1 s' I1 eN nn T1 f0 f1 c1 => ⟨.ref f, H1, I1, rfl, h f c' H1 eN nn T1 f0 f1 c1⟩
/-! ### the tables -/
def tabA (K : PySem.W.Frag) : Addr × Addr := He.cT K ("lots_below", none)
def tabC (K : PySem.W.Frag) : Addr × Addr := He.cT K ("Console", some "deed")
def TT2 (K : PySem.W.Frag) : List (Addr × Str) := [((tabA K).2, "lots_below.<locals>.<lambda>"), ((tabC K).2, "Console.deed.<locals>.<lambda>")]
structure TB2 (base : Heap) (mg : Str → Option Value) (K : PySem.W.Frag) : Prop where
  a : TabB base mg (tabA K).1 (tabA K).2
  c : TabB base mg (tabC K).1 (tabC K).2
/-- all but the objects at bs stay; the tables stay tables -/
def FT (K : PySem.W.Frag) (bs : List Addr) (H H' : Hp) : Prop := Fm bs H H' ∧ Tabs (TT2 K) H'
section
variable {K : PySem.W.Frag} {bs : List Addr} {H H' H1 : Hp}
theorem FT.of (e : Ex H H') (t : Tabs (TT2 K) H) : FT K bs H H' := ⟨Fm.of e, t.ext e⟩
theorem FT.trans (a : FT K bs H H1) (b : FT K bs H1 H') : FT K bs H H' := ⟨a.1.trans b.1, b.2⟩
theorem FT.mono {cs : List Addr} (f : FT K bs H H') (h : ∀ b ∈ bs, b ∈ cs) : FT K cs H H' := ⟨f.1.mono h, f.2⟩
theorem tabs_but {b : Addr} {o : HO} (e : ExB b H H') (hb : H b = some o) (n : ∀ ps, o ≠ .tbl ps) (n2 : ∀ ψ, o ≠ .ext ψ) (t : Tabs (TT2 K) H) : Tabs (TT2 K) H' := fun p hp => by
  obtain ⟨ps, h1, h2, h3⟩ := t p hp
  refine ⟨ps, e _ _ h1 (fun z => by rw [z, hb] at h1; exact n _ (Option.some.inj h1)), h2, fun pos cv hc => ?_⟩
  obtain ⟨c, e1, e2⟩ := h3 pos cv hc
  exact ⟨c, e1, e _ _ e2 (fun z => by rw [z, hb] at e2; exact n2 _ (Option.some.inj e2))⟩
end
/-! ### lots_below -/
def IsRows (rows : List (Addr × List Nat)) : V → Hp → Prop := fun v H => ∃ p, v = .ref p ∧ H p = some (.lst (rows.map fun q => V.ref q.1)) ∧ ∀ q ∈ rows, NTup H q.1 q.2
theorem lotsB_len : ∀ n, (lotsB n).length = 2 ^ n
  | 0 => rfl
  | n + 1 => by
    show (lotsB n ++ _).length = _
    rw [List.length_append, List.length_map, lotsB_len n, Nat.pow_succ]
    omega
theorem lotsB_row : ∀ (n : Nat) {row : List Nat}, row ∈ lotsB n → Lot n row
  | 0, row, h => by
    have : row = [] := by simpa [lotsB] using h
    rw [this]
    exact ⟨List.nodup_nil, fun i hi => by cases hi⟩
  | n + 1, row, h => by
    rcases List.mem_append.mp (show row ∈ lotsB n ++ (lotsB n).map (· ++ [n]) from h) with q | q
    · have l := lotsB_row n q
      exact ⟨l.1, fun i hi => Nat.lt_succ_of_lt (l.2 i hi)⟩
    · obtain ⟨r, hr, rfl⟩ := List.mem_map.mp q
      have l := lotsB_row n hr
      exact Lot.snoc ⟨l.1, fun i hi => Nat.lt_succ_of_lt (l.2 i hi)⟩ (Nat.lt_succ_self n) fun hn => Nat.lt_irrefl n (l.2 n hn)
theorem lotsB_full : ∀ n, List.range n ∈ lotsB n
  | 0 => by simp [lotsB]
  | n + 1 => by
    show _ ∈ lotsB n ++ (lotsB n).map (· ++ [n])
    rw [List.range_succ]
    exact List.mem_append.mpr (.inr (List.mem_map.mpr ⟨_, lotsB_full n, rfl⟩))
section
variable {K : PySem.W.Frag} {σ : L2.St} {H H' : Hp} {ta te : TE}
theorem evp_snocN {xs : List V} {v : V} {a : Addr} (ha : Ev ta σ H (.ref a)) (hx : H a = some (.tup xs)) (hb : Ev te σ H v) (hz : xs.length ≤ 99999) : EvP (tOp (rCatA K) ta (tTup (tCons te tNil))) σ H fun w H1 => ∃ q, w = .ref q ∧ H1 q = some (.tup (xs ++ [v])) := fun H1 e Q q =>
  ha H1 e _ fun H2 e2 => hb H2 (e.trans e2) _ fun H3 e3 => ⟨by show 1 ≤ sizeLine; decide, fun p2 hp2 => by
    have e23 := e3.trans (Ex.new (o := .tup [v]) hp2)
    have hx' := ((e.trans e2).trans e23) _ _ hx
    refine ⟨a, p2, xs, [v], rfl, rfl, st_of hx', st_of upd_same, sz_of (by show _ + 1 ≤ _; omega), fun hz => q _ _ (e2.trans e23) ⟨p2, rfl, ?_⟩, (fun _ z => nomatch z), fun _ _ p hp => q _ _ ((e2.trans e23).trans (Ex.new hp)) ⟨p, rfl, upd_same⟩⟩
    rw [hz, List.nil_append]
    exact upd_same⟩
theorem evp_catR {xs : List V} {n : Nat} {S : List V → Hp → Prop} (ha : EvP ta σ H (IsL xs)) (hb : ∀ H1, Ex H H1 → EvP te σ H1 fun v H2 => ∃ ys, IsL ys v H2 ∧ ys.length ≤ n ∧ S ys H2) (hS : ∀ ys H1 H2, Ex H1 H2 → S ys H1 → S ys H2) (hz : xs.length + n ≤ 100000) :
    EvP (tOp rCat ta te) σ H fun v H2 => ∃ ys, IsL (xs ++ ys) v H2 ∧ S ys H2 := fun H1 e Q q =>
  ha H1 e _ fun v H2 e2 ⟨p, ev, hp⟩ => hb H2 (e.trans e2) H2 (Ex.refl H2) _ fun w H3 e3 ⟨ys, ⟨p2, ew, hp2⟩, hn, hs⟩ => by
    subst ev ew
    exact ⟨p, p2, xs, ys, rfl, rfl, e3 _ _ hp, hp2, sz_of (by omega), fun p3 h3 => q _ _ ((e2.trans e3).trans (Ex.new h3)) ⟨ys, ⟨p3, rfl, upd_same⟩, hS _ _ _ (Ex.new h3) hs⟩⟩
theorem rows_of {is : List Nat} {g : Nat → List Nat} {ws : List V} {H : Hp} (h : Paired (fun i w => ∃ p, w = V.ref p ∧ NTup H p (g i)) is ws) : ∃ rs : List (Addr × List Nat), ws = rs.map (fun q => V.ref q.1) ∧ rs.map Prod.snd = is.map g ∧ ∀ q ∈ rs, NTup H q.1 q.2 := by
  induction h with
  | nil => exact ⟨[], rfl, rfl, fun _ h => by cases h⟩
  | cons h _ ih =>
    obtain ⟨p, e, f⟩ := h
    obtain ⟨rs, e1, e2, e3⟩ := ih
    refine ⟨(p, g _) :: rs, by rw [e, e1]; rfl, by rw [List.map_cons, List.map_cons, e2], fun q hq => ?_⟩
    rcases List.mem_cons.mp hq with z | z
    · rw [z]
      exact f
    · exact e3 q z
end
def lamOf : Expr → Arguments × Expr × Scope
  | .Call _ _ (⟨_, .Lambda p b s _, _⟩ :: _) _ => (p, b, s)
  | _ => (⟨[], [], none, [], [], none, []⟩, .Name "" ⟨0, 0, 0, 0⟩, ⟨.function, [], false, false, []⟩)
def retVal : Stmt → Expr
  | .Return (some e) _ => e
  | _ => .Name "" ⟨0, 0, 0, 0⟩
abbrev keyLam : Arguments × Expr × Scope := lamOf (retVal (nthS (defBody sLotsBelow) 2))
theorem keyLam_ok (qual : Str) (cl : List (Str × Addr)) (c : Addr) : RowLam ⟨qual, keyLam.1, keyLam.2.1, keyLam.2.2, cl, c⟩ :=
  ⟨rfl, rfl, rfl, by show ∀ y ∈ keyLam.2.2.names, y.2 ≠ .cell; decide +kernel, by show keyLam.2.2.names.lookup _ = _; decide +kernel, by show keyLam.2.2.names.lookup _ = _; decide +kernel, ⟨_, _, _, _, _, _, rfl⟩, fun _ _ _ => rfl⟩
variable {P : Program} {w : World} {K : PySem.W.Frag} {mg : Str → Option Value} {base : Heap}
def spLots (K : PySem.W.Frag) : Sp := fun vs H Q _ => ∃ n : Nat, vs = [.int (n : Int)] ∧ n ≤ 8 ∧ Tabs (TT2 K) H ∧ ∀ rows v H', FT K [] H H' → IsRows rows v H' → (rows.map Prod.snd).Perm (lotsB n) → Q v H'
abbrev NLots : List Str := ["count", "found", "at", "row"]
theorem scLots : FnScope NLots ["count"] (defScope sLotsBelow) := ⟨rfl, rfl, rfl, by decide +kernel, rfl, by decide +kernel, by decide +kernel⟩
theorem ok_lots (T : Tp K mg) (TB : TB2 base mg K) : C8.Cal P w K mg base 2 "lots_below" (spLots K) [] := by
  obtain ⟨fd, F⟩ := T.f_lots_below
  refine ⟨_, fd, ["count"], [], ?_, T.g_lots_below, F.kp, F.bindsN (fun _ _ _ _ _ _ us hl => match us, hl with | [_], _ => rfl), .nil⟩
  refine ok_code (p := ("lots_below", none)) F rfl scLots (fun vs H Q E h => ?_) (fun A outer s H vs Q E hr h => ?_)
  · obtain ⟨n, rfl, _⟩ := h
    rfl
  · obtain ⟨n, rfl, h8, ht, k⟩ := h
    have nd := scLots.nd
    refine ⟨_, PSs.nox (pss_cons (ps_set (i := 1) nd rfl (Or.inl rfl) (pe_lst (pa_cons (pe_tup pa_nil) pa_nil)))
      (pss_cons (ps_for PassesOwn.never rfl (pi_range1 rfl T.z_range (pa_cons (pv 0) pa_nil)) (pg_name (i := 2) nd rfl (Or.inr rfl))
        (pss_one (ps_set (i := 1) nd rfl (Or.inl rfl) (pe_op op_cat (pv 1) (pe_lc (own := [("row", 3)]) (g := gName 3) (tt := tYes) rfl nd (pi_list (pv 1)) (blkOk_by (N := NLots) (sc := defScope sLotsBelow) (by decide +kernel))
          (fun _ _ _ _ _ => pg_name (i := 3) nd rfl (Or.inl rfl)) (fun _ _ _ _ _ => pts_nil) (fun _ _ _ _ _ => pe_op (opK_cat K rfl) (pv 3) (pe_tup (pa_cons (pv 2) pa_nil))))))))
      (pss_one (ps_ret (pe_callBK (cr_sortedRow hr T.z_len) rfl T.z_sorted PyProof.Rows.boot_sorted (pa_cons (pv 1) pa_nil) (pk_cons (pe_lam0 (T := TT2 K) TB.a rfl (by exact List.mem_cons_self) (fun p hp e => ?_) (by decide +kernel) rfl) pk_nil)))))), ?_⟩
    · rcases List.mem_cons.mp hp with z | z
      · rw [z]
        rfl
      · have z' : p = ((tabC K).2, ("Console.deed.<locals>.<lambda>" : Str)) := by simpa using z
        rw [z'] at e
        exact absurd e.symm T.exs.d
    · refine q_asgP (evp_lst1 (R := fun v H => ∃ q, v = .ref q ∧ H q = some (.tup [])) (EvP.ofU (eu_tup ea_nil (by decide))) (fun v bs H H' f m ⟨q, ev, hq⟩ => ⟨q, ev, f.tup m hq⟩)) fun v H1 e1 ⟨p1, x1, ev, h1, q1, ex1, hq1⟩ => ?_
      subst ev ex1
      refine q_forI (ei_rng (ea_cons (ev_var rfl) ea_nil) (by omega)) yx_fn (fun i σ' H' => ∃ p rows o2 o3, σ' = [some (.int (n : Nat)), some (.ref p), o2, o3] ∧ H' p = some (.lst (rows.map fun q : Addr × List Nat => V.ref q.1)) ∧ (∀ q ∈ rows, NTup H' q.1 q.2) ∧ rows.map Prod.snd = lotsB i)
        (fun H2 e2 => ⟨p1, [(q1, [])], _, _, rfl, e2 _ _ h1, fun q hq => by
          have : q = (q1, []) := by simpa using hq
          rw [this]
          exact e2 _ _ hq1, rfl⟩) ?_ ?_
      · rintro Hb i _ σ' Hc Hd hi eb ebc ⟨p, rows, o2, o3, rfl, hp, hr1, hr2⟩ ⟨rfl, rfl⟩
        have hrl : rows.length ≤ 256 := by
          have h1 := congrArg List.length hr2
          rw [List.length_map, lotsB_len] at h1
          have h2 : 2 ^ i ≤ 2 ^ 8 := Nat.pow_le_pow_right (by decide) (by omega)
          rw [h1]
          exact h2
        refine eg_name (s_asgP (evp_catR (n := 256) (S := fun ys H2 => ∃ rs : List (Addr × List Nat), ys = rs.map (fun q => V.ref q.1) ∧ rs.map Prod.snd = (rows.map Prod.snd).map (· ++ [i]) ∧ ∀ q ∈ rs, NTup H2 q.1 q.2) (evp_is_ref (ev_var rfl) hp)
          (fun H3 e3 => (lcP (n := (rows.map fun q : Addr × List Nat => V.ref q.1).length) (fun _ => true) (fun j w H => ∃ p, w = .ref p ∧ NTup H p ((rows.map Prod.snd).getD j [] ++ [i])) (fun j v bs H H' f m ⟨q, ev, hq⟩ => ⟨q, ev, f.tup m hq⟩) (ei_lst (evp_is_ref (ev_var rfl) (e3 _ _ hp))) yx_at (by rw [List.length_map]; omega) ?_).imp ?_) ?_ (by rw [List.length_map]; omega)) ?_)
        · rintro j _ Hc2 Hd2 hj ec2 ⟨rfl, hx⟩
          rw [List.getElem?_map] at hx
          obtain ⟨q, hq, rfl⟩ := Option.map_eq_some_iff.mp hx
          have hqn := hr1 q (List.mem_of_getElem? hq)
          have e9 : (rows.map Prod.snd).getD j [] = q.2 := getD_of (by rw [List.getElem?_map, hq]; rfl)
          rw [e9]
          refine eg_name ⟨rfl, et_yes, fun _ => (evp_snocN (ev_var rfl) ((e3.trans ec2) _ _ hqn) (ev_var rfl) ?_).imp fun w H5 e5 ⟨q5, ew, h5⟩ => ⟨q5, ew, ?_⟩⟩
          · rw [List.length_map]
            have l9 := lotsB_row i (by rw [← hr2]; exact List.mem_map.mpr ⟨q, List.mem_of_getElem? hq, rfl⟩)
            have := l9.len
            omega
          · show H5 q5 = _
            rw [h5, List.map_append]
            rfl
        · rintro v H4 e4 ⟨p4, ws, rfl, h4, pr⟩
          obtain ⟨rs, ews, er, hrs⟩ := rows_of (g := fun j => (rows.map Prod.snd).getD j [] ++ [i]) pr
          refine ⟨ws, ⟨p4, rfl, h4⟩, ?_, rs, ews, ?_, hrs⟩
          · have hl := paired_length pr
            rw [List.filter_eq_self.mpr (fun _ _ => rfl), List.length_range, List.length_map] at hl
            omega
          · rw [er, List.filter_eq_self.mpr (fun _ _ => rfl), List.length_map, ← List.length_map (f := Prod.snd)]
            exact map_range_at (rows.map Prod.snd) (fun r => r ++ [i]) _ fun j r hj => by rw [getD_of hj]
        · rintro ys H3 H4 e ⟨rs, h1, h2, h3⟩
          exact ⟨rs, h1, h2, fun q hq => e _ _ (h3 q hq)⟩
        · rintro v H3 e3 ⟨ys, ⟨p3, rfl, h3⟩, rs, rfl, h4, h5⟩
          refine ⟨ebc.trans e3, p3, rows ++ rs, _, _, rfl, by rw [h3, List.map_append], fun q hq => ?_, ?_⟩
          · rcases List.mem_append.mp hq with z | z
            · exact e3 _ _ (hr1 q z)
            · exact h5 q z
          · rw [List.map_append, h4, hr2]
            rfl
      · rintro σ' H2 e2 ⟨p, rows, o2, o3, rfl, hp, hr1, hr2⟩
        have e02 := e1.trans e2
        refine ⟨_, rfl, ht.ext e02, fun f c' H3 eN nn t3 hf f3 c3 => ?_⟩
        have hp3 := eN _ _ hp (fun _ z => nomatch z)
        have hr3 : ∀ q ∈ rows, NTup H3 q.1 q.2 := fun q hq => eN _ _ (hr1 q hq) (fun _ z => nomatch z)
        refine ⟨p, f, _, rows, rfl, rfl, sq_of hp3, fun q hq => ⟨hr3 q hq, ?_⟩, keyLam_ok _ _ _, f3, c3, fun rows' p4 perm hp4 => k rows' _ _ ⟨((Fm.of e02).trans (Fm.ofN eN)).trans (Fm.of (Ex.new hp4)), t3.ext (Ex.new hp4)⟩ ⟨p4, rfl, upd_same, fun q hq => Ex.new hp4 _ _ (hr3 q (perm.mem_iff.mp hq))⟩ ?_⟩
        · have l9 := lotsB_row n (by rw [← hr2]; exact List.mem_map.mpr ⟨q, hq, rfl⟩)
          have := l9.len
          omega
        · rw [← hr2]
          exact perm.map _
end K54
/-! K24 -/
namespace K54
open PySem PySem.Spec PyProof.Rows L2 LamX NdefX Evl
section
variable {K : PySem.W.Frag} {σ : L2.St} {H H' : Hp} {te tb : TE} {ta : TA} {sp : Sp} {dvs vs : List V} {E : XK} {g : TG} {tt : TT} {vl : List Nat} {Q : VK}
/-- [.. for .. in f(..)] -/
theorem lc_call (h : EvA ta σ H vs) (k : ∀ H1, Ex H H1 → ∀ Q' : VK, (∀ x H2, (∃ p xs, x = .ref p ∧ H2 p = some (.lst xs) ∧ tLc (iList K (tC (.ref p))) g tt te vl σ H2 Q) → Q' x H2) → sp (vs ++ dvs) H1 Q' E) : tLc (iList K (tCall sp dvs E ta)) g tt te vl σ H Q :=
  h H (Ex.refl H) _ fun H1 e1 => k H1 e1 _ fun x H2 ⟨p, xs, ex, hp, hq⟩ => by
    subst ex
    obtain ⟨a, ea, _, r⟩ := hq
    cases ea
    exact ⟨p, rfl, ⟨xs, sq_of hp⟩, r⟩
theorem s_retLc {wi : TI} {D : Ends} (h : tLc wi g tt te vl σ H D.rt) : tRet (tLc wi g tt te vl) D σ H := h
/-- f(..) op e, a test -/
theorem tst_call {r : R2} {Qb : Bool → Hp → Prop} (h : EvA ta σ H vs) (k : ∀ H1, Ex H H1 → sp (vs ++ dvs) H1 (fun x H2 => tb σ H2 fun y H3 => r x y H3 fun z H4 => ∃ c, z = .bl c ∧ Qb c H4) E) : tTest (tOp r (tCall sp dvs E ta) tb) σ H Qb := h H (Ex.refl H) _ k
theorem s_retC {D : Ends} (h : EvA ta σ H vs) (k : ∀ H1, Ex H H1 → sp (vs ++ dvs) H1 D.rt E) : tRet (tCall sp dvs E ta) D σ H := h H (Ex.refl H) _ k
theorem lay_ints : ∀ ns : List Nat, PyData.canLayAll0 (ns.map fun n : Nat => PyData.int (n : Int)) = true
  | [] => by simp [PyData.canLayAll0]
  | n :: ns => by simp [PyData.canLayAll0, PyData.canLay0, lay_ints ns]
theorem row_lay (ns : List Nat) : (rowD ns).canLay0 = true := by
  unfold rowD
  simp only [PyData.canLay0]
  exact lay_ints ns
theorem rows_lay : ∀ rs : List (List Nat), PyData.canLayAll0 (rs.map rowD) = true
  | [] => by simp [PyData.canLayAll0]
  | r :: rs => by simp [PyData.canLayAll0, row_lay r, rows_lay rs]
theorem row_depth (ns : List Nat) : (rowD ns).depth = 1 := by
  show PyData.depthAll (ns.map fun n : Nat => PyData.int (n : Int)) + 1 = 1
  rw [depth_ints]
theorem rows_depth : ∀ rs : List (List Nat), PyData.depthAll (rs.map rowD) ≤ 1
  | [] => by simp [PyData.depthAll]
  | r :: rs => by
    have h1 := rows_depth rs
    have h2 := row_depth r
    simp only [List.map_cons, PyData.depthAll]
    omega
theorem rows_shaped (rs : List (List Nat)) : SeqAt.shaped (.list (rs.map rowD)) = true := by
  have h1 := rows_depth rs
  have h2 : PyData.depth (.list (rs.map rowD)) ≤ 64 := by
    simp only [PyData.depth]
    omega
  show (PyData.canLay0 (.list (rs.map rowD)) && decide (PyData.depth (.list (rs.map rowD)) ≤ 64)) = true
  rw [Bool.and_eq_true]
  exact ⟨by simp only [PyData.canLay0]; exact rows_lay rs, decide_eq_true h2⟩
theorem dp_ints : ∀ ns : List Nat, DpAll K H (ns.map natV) (ns.map fun n : Nat => PyData.int (n : Int))
  | [] => .nil
  | n :: ns => .cons (.int _) (dp_ints ns)
theorem dp_rows : ∀ {rows : List (Addr × List Nat)}, (∀ q ∈ rows, NTup H q.1 q.2) → DpAll K H (rows.map fun q => V.ref q.1) (rows.map fun q => rowD q.2)
  | [], _ => .nil
  | q :: rows, h => .cons (.tup (st_of (h q List.mem_cons_self)) (dp_ints q.2)) (dp_rows fun z hz => h z (List.mem_cons_of_mem _ hz))
theorem eqv_nil : ∀ ds : List PyData, PyData.eqv (.list ds) (.list []) = ds.isEmpty
  | [] => by simp [PyData.eqv, PyData.eqvAll]
  | d :: ds => by simp [PyData.eqv, PyData.eqvAll]
end
variable {P : Program} {w : World} {K : PySem.W.Frag} {mg : Str → Option Value} {base : Heap}
/-! ### good_lots -/
def spGood (K : PySem.W.Frag) : Sp := fun vs H Q _ => ∃ a W, ∃ m : Nat, vs = [.ref a, .int (m : Int)] ∧ WorksAt K H a W ∧ W.hs.length ≤ 8 ∧ Tabs (TT2 K) H ∧ ∀ rows v H', FT K [] H H' → IsRows rows v H' → (rows = [] ↔ goodM W m = false) → Q v H'
abbrev NGood : List Str := ["works", "many", "row"]
theorem scGood : FnScope NGood ["works", "many"] (defScope sGoodLots) := ⟨rfl, rfl, rfl, by decide +kernel, rfl, by decide +kernel, by decide +kernel⟩
theorem ok_good (T : Tp K mg) (TB : TB2 base mg K) : C8.Cal P w K mg base 5 "good_lots" (spGood K) [] := by
  obtain ⟨fd, F⟩ := T.f_good_lots
  refine ⟨_, fd, ["works", "many"], [], ?_, T.g_good_lots, F.kp, F.bindsN (fun _ _ _ _ _ _ us hl => match us, hl with | [_, _], _ => rfl), .nil⟩
  refine F.ok scGood (fun vs H Q E h => ?_) (fun cdv A outer s H vs Q E hr h => ?_)
  · obtain ⟨a, W, m, rfl, _⟩ := h
    rfl
  · obtain ⟨a, W, m, rfl, hw, h8, ht, k⟩ := h
    have nd := scGood.nd
    refine ⟨_, PSs.nox (pss_one (ps_ret (pe_lc (own := [("row", 2)]) (g := gName 2) rfl nd (pi_list (C8.pe_c (ok_lots T TB) hr (by decide) rfl (pa_cons (pb (lenOwn_W T hr) T.z_len PySem.boot_len (pv 0)) pa_nil))) (blkOk_by (N := NGood) (sc := defScope sGoodLots) (by decide +kernel))
      (fun _ _ _ _ _ => pg_name (i := 2) nd rfl (Or.inl rfl)) (fun _ _ _ _ _ => pts_one (PW.pt (pw_and (pt_cmpR op_eq (pb (callK_len K rfl) T.z_len PySem.boot_len (pv 2)) (pv 1) (nomark _)) (pw_and1 (pt_val (C8.pe_c (ok_isall T) hr (by decide) rfl (pa_cons (pv 0) (pa_cons (pv 2) pa_nil)))))))) (fun _ _ _ _ _ => pv 2)))), ?_⟩
    refine s_retLc (lc_call (ea_cons (ev_lenW hw h8 (ev_var rfl)) ea_nil) fun H1 e1 Q' kq => ⟨W.hs.length, rfl, h8, ht.ext e1, fun rows v H2 ft ⟨p, ev, hp, hrows⟩ perm => kq v H2 ⟨p, _, ev, hp, ?_⟩⟩)
    have f02 : FT K [] H H2 := (FT.of e1 ht).trans ft
    have hw2 := hw.fm f02.1 Mb.nil
    have hrl : rows.length ≤ 256 := by
      have h1 := perm.length_eq
      rw [List.length_map, lotsB_len] at h1
      have h2 : 2 ^ W.hs.length ≤ 2 ^ 8 := Nat.pow_le_pow_right (by decide) h8
      rw [h1]
      exact h2
    refine lcP (n := (rows.map fun q : Addr × List Nat => V.ref q.1).length) (fun j => decide (((rows.map Prod.snd).getD j []).length = m) && isAllM W ((rows.map Prod.snd).getD j [])) (fun j w H => ∃ p, w = .ref p ∧ NTup H p ((rows.map Prod.snd).getD j [])) (fun j v bs H H' f m ⟨q, ev, hq⟩ => ⟨q, ev, f.tup m hq⟩)
      (ei_lst (evp_is_ref ev_c hp)) yx_at (by rw [List.length_map]; omega) ?_ H2 (Ex.refl H2) _ ?_
    · rintro j _ Hc2 Hd2 hj ec2 ⟨rfl, hx⟩
      rw [List.getElem?_map] at hx
      obtain ⟨q, hq, rfl⟩ := Option.map_eq_some_iff.mp hx
      have hqn := hrows q (List.mem_of_getElem? hq)
      have e9 : (rows.map Prod.snd).getD j [] = q.2 := getD_of (by rw [List.getElem?_map, hq]; rfl)
      have l9 := lotsB_row W.hs.length (perm.mem_iff.mp (List.mem_map.mpr ⟨q, List.mem_of_getElem? hq, rfl⟩))
      rw [e9]
      refine eg_name ⟨rfl, et_and (et_is (et_test (ev_op (ev_cb1 (ev_var rfl) (rc_lenT (.inl (ec2 _ _ hqn)))) (ev_var rfl) (rv_eq rfl))) ?_) (fun _ => et_B (ev_call (ea_cons (ev_var rfl) (ea_cons (ev_var rfl) ea_nil)) (v_isall (hw2.ex ec2) h8 (.inr (ec2 _ _ hqn)) l9))), fun _ => (EvP.of (ev_var rfl)).imp fun w H5 e5 hw' => ⟨q.1, hw', (ec2.trans e5) _ _ hqn⟩⟩
      rw [dV, List.length_map]
      exact decide_eq_decide.mpr (by omega)
    · rintro v3 H3 e3 ⟨p3, ws, rfl, h3, pr⟩
      obtain ⟨rs, ews, er, hrs⟩ := rows_of (g := fun j => (rows.map Prod.snd).getD j []) pr
      refine k rs _ H3 (f02.trans (FT.of e3 f02.2)) ⟨p3, rfl, by rw [h3, ews], hrs⟩ ?_
      rw [List.length_map, ← List.length_map (f := Prod.snd) (as := rows), filter_at (rows.map Prod.snd) [] fun r => decide (r.length = m) && isAllM W r] at er
      have e1 : rs = [] ↔ rs.map Prod.snd = [] := List.map_eq_nil_iff.symm
      rw [e1, er, List.filter_eq_nil_iff]
      unfold goodM
      rw [List.any_eq_false]
      exact ⟨fun h r hr' => h r (perm.mem_iff.mpr hr'), fun h r hr' => h r (perm.mem_iff.mp hr')⟩
/-! ### fewest -/
theorem good_full {W : Wk} : goodM W W.hs.length = true := by
  unfold goodM
  rw [List.any_eq_true]
  refine ⟨List.range W.hs.length, lotsB_full _, ?_⟩
  have l : Lot W.hs.length (List.range W.hs.length) := lotsB_row _ (lotsB_full _)
  have l2 : Lot W.hs.length (lotOf W (List.range W.hs.length)) := allLot_lot _ l
  have grow : ∀ (f : Nat) (lot : List Nat), lot.length ≤ (allLot (pushedOf W) f lot).length := fun f => by
    induction f with
    | zero => intro lot; exact Nat.le_refl _
    | succ f ih =>
      intro lot
      unfold allLot
      cases nextF (pushedOf W) lot with
      | none => exact Nat.le_refl _
      | some y =>
        have := ih (lot ++ [y])
        rw [List.length_append] at this
        show _ ≤ (allLot _ f _).length
        exact Nat.le_trans (Nat.le_add_right _ _) this
  have g := grow W.hs.length (List.range W.hs.length)
  rw [List.length_range] at g
  have e : (lotOf W (List.range W.hs.length)).length = W.hs.length := Nat.le_antisymm l2.len g
  rw [List.length_range, decide_eq_true rfl]
  unfold isAllM
  rw [decide_eq_true e]
  rfl
def spFewOf (K : PySem.W.Frag) : Sp := fun vs H Q _ => ∃ a W, vs = [.ref a] ∧ WorksAt K H a W ∧ W.Ok ∧ Tabs (TT2 K) H ∧ ∀ H', FT K [] H H' → Q (.int (fewM W : Nat)) H'
theorem scFewOf : FnScope ["works", "many"] ["works"] (defScope sFewestOf) := ⟨rfl, rfl, rfl, by decide +kernel, rfl, by decide +kernel, by decide +kernel⟩
def InvFew (K : PySem.W.Frag) (a : Addr) (W : Wk) (H : Hp) (m : Nat) (σ' : L2.St) (H' : Hp) : Prop := ∃ j : Nat, σ' = [some (.ref a), some (.int (j : Int))] ∧ FT K [] H H' ∧ 1 ≤ j ∧ j ≤ W.hs.length ∧ fewM W = fewFrom W (W.hs.length + 1 - j) j ∧ m = W.hs.length + 1 - j
theorem ok_fewof (T : Tp K mg) (TB : TB2 base mg K) : C8.Cal P w K mg base 6 "fewest_of" (spFewOf K) [] := by
  obtain ⟨fd, F⟩ := T.f_fewest_of
  refine ⟨_, fd, ["works"], [], ?_, T.g_fewest_of, F.kp, F.bindsN (fun _ _ _ _ _ _ us hl => match us, hl with | [_], _ => rfl), .nil⟩
  refine F.ok scFewOf (fun vs H Q E h => ?_) (fun cdv A outer s H vs Q E hr h => ?_)
  · obtain ⟨a, W, rfl, _⟩ := h
    rfl
  · obtain ⟨a, W, rfl, hw, ok, ht, k⟩ := h
    have nd := scFewOf.nd
    have h8 := ok.parts.2.1
    have hpos := List.length_pos_iff.mpr ok.ne
    refine ⟨_, PSs.nox (pss_cons (ps_set (i := 1) nd rfl (Or.inl rfl) pe_int) (pss_cons (ps_while PassesOwn.never (pt_cmpR (op_eqD hr.units) (C8.pe_c (ok_good T TB) hr (by decide) rfl (pa_cons (pv 0) (pa_cons (pv 1) pa_nil))) (pe_lst pa_nil) (nomark _)) (pss_one (ps_aug (i := 1) nd rfl (Or.inl rfl) pe_int ip_add)))
      (pss_one (ps_ret (pv 1))))), ?_⟩
    refine q_asg ev_c fun H1 e1 => ?_
    refine ⟨InvFew K a W H, ⟨_, 1, rfl, FT.of e1 ht, Nat.le_refl _, hpos, ?_, rfl⟩, ?_⟩
    · unfold fewM
      rw [Nat.add_sub_cancel]
    rintro m σ' H' ⟨j, rfl, ft, j1, j2, hf, rfl⟩
    have hw' := hw.fm ft.1 Mb.nil
    refine tst_call (ea_cons (ev_var rfl) (ea_cons (ev_var rfl) ea_nil)) fun H2 e2 => ⟨a, W, j, rfl, hw'.ex e2, h8, ft.2.ext e2, fun rows v H3 f3 ⟨p, ev, hp, hrows⟩ hiff => ?_⟩
    subst ev
    refine ⟨by show 0 ≤ sizeLine; exact Nat.zero_le _, fun l hl => ?_⟩
    have en : Ex H3 (upd H3 l (.lst [])) := Ex.new hl
    refine ⟨.list (rows.map fun q => rowD q.2), .list [], .lst (sq_of (en _ _ hp)) (dp_rows fun q hq => en _ _ (hrows q hq)), .lst (sq_of upd_same) .nil, ?_, rows_shaped [], _, rfl, ?_⟩
    · have := rows_shaped (rows.map Prod.snd)
      rw [List.map_map] at this
      exact this
    have f04 : FT K [] H (upd H3 l (.lst [])) := (ft.trans ((FT.of e2 ft.2).trans f3)).trans (FT.of en f3.2)
    rw [eqv_nil]
    cases hg : goodM W j with
    | true =>
      have hne : rows ≠ [] := fun z => by
        rw [hiff.mp z] at hg
        cases hg
      have e0 : (rows.map fun q => rowD q.2).isEmpty = false := by
        cases rows with
        | nil => exact absurd rfl hne
        | cons _ _ => rfl
      rw [e0]
      show _
      have ef : fewM W = j := by
        rw [hf, show W.hs.length + 1 - j = (W.hs.length - j) + 1 by omega]
        unfold fewFrom
        rw [hg]
        rfl
      refine s_ret (ev_var rfl) fun H5 e5 => ?_
      rw [← ef]
      exact k H5 (f04.trans (FT.of e5 f04.2))
    | false =>
      have e0 : rows = [] := hiff.mpr hg
      subst e0
      have jn : j ≠ W.hs.length := fun z => by
        rw [z, good_full] at hg
        cases hg
      refine ⟨InvFew K a W H (W.hs.length + 1 - (j + 1)), fun σ2 H2 h => ⟨_, by omega, h⟩, ?_⟩
      refine s_aug rfl ev_c fun H5 e5 => ⟨j + 1, rfl, f04.trans (FT.of e5 f04.2), by omega, by omega, ?_, rfl⟩
      rw [hf, show W.hs.length + 1 - j = (W.hs.length + 1 - (j + 1)) + 1 by omega]
      conv => lhs; unfold fewFrom
      rw [hg]
      rfl
def spFewest := spFewOf
theorem scFewest : FnScope ["works"] ["works"] (defScope sFewest) := ⟨rfl, rfl, rfl, by decide +kernel, rfl, by decide +kernel, by decide +kernel⟩
theorem ok_fewest (T : Tp K mg) (TB : TB2 base mg K) : C8.Cal P w K mg base 7 "fewest" (spFewest K) [] := by
  obtain ⟨fd, F⟩ := T.f_fewest
  refine ⟨_, fd, ["works"], [], ?_, T.g_fewest, F.kp, F.bindsN (fun _ _ _ _ _ _ us hl => match us, hl with | [_], _ => rfl), .nil⟩
  refine F.ok scFewest (fun vs H Q E h => ?_) (fun cdv A outer s H vs Q E hr h => ?_)
  · obtain ⟨a, W, rfl, _⟩ := h
    rfl
  · obtain ⟨a, W, rfl, hw, ok, ht, k⟩ := h
    refine ⟨_, PSs.nox (pss_cons (ps_expr (C8.pe_c (ok_check T) hr (by decide) rfl (pa_cons (pv 0) pa_nil))) (pss_one (ps_ret (C8.pe_c (ok_fewof T TB) hr (by decide) rfl (pa_cons (pv 0) pa_nil))))), ?_⟩
    refine q_drop (ev_call (ea_cons (ev_var rfl) ea_nil) (v_check hw)) fun H1 e1 => ?_
    exact s_retC (ea_cons (ev_var rfl) ea_nil) fun H2 e2 => ⟨a, W, rfl, hw.ex (e1.trans e2), ok, ht.ext (e1.trans e2), fun H3 f3 => k H3 ((FT.of (e1.trans e2) ht).trans f3)⟩
end K54
/-! K25 -/
namespace K54
open PySem PySem.Spec PyProof.Rows L2 LamX NdefX Evl
variable {P : Program} {w : World} {K : PySem.W.Frag} {mg : Str → Option Value} {base : Heap}
section
variable {σ : L2.St} {H H' : Hp} {te ta tb : TE} {D : Ends} {tz : TS} {E : XK} {R : V → Hp → Prop}
theorem q_asgGP {g : TG} (h : EvP te σ H R) (k : ∀ v H1, Ex H H1 → R v H1 → EvG g v σ H1 fun σ2 H2 => tz D σ2 H2) : tSeq (tAsg te g) tz D σ H := h H (Ex.refl H) _ fun v H1 e1 hv => k v H1 e1 hv _ fun σ2 H2 _ m => m
theorem ev_opS {op : Str → Str → V} {x y z : Str} (hx : Ev ta σ H (.str x)) (hy : Ev tb σ H (.str y)) : Ev (tOp rEq ta tb) σ H (.bl (decide (x = y))) := ev_is (ev_op hx hy (rv_eq rfl)) (by rw [dS])
/-- line == 'z' -/
theorem et_line {x z : Str} (hx : Ev te σ H (.str x)) : EvT (tTest (tOp rEq te (tC (.str z)))) σ H (decide (x = z)) := et_is (et_test (ev_op hx ev_c (rv_eq rfl))) dS
theorem q_fldP {C a dx : Addr} {fs : List (Str × V)} {f : Str} {tv : TE} (h : EvP tv σ H R) (ho : ∀ H1, Ex H H1 → Ev ta σ H1 (.ref a)) (ha : H a = some (.ins C dx fs)) (c : Cls K C) (n : NoAttr K C f) (hl : fs.length < 1000)
    (mono : ∀ v H1 H2, Ex H1 H2 → R v H1 → R v H2) (k : ∀ v H1, Ex H H1 → R v H1 → tz D σ (upd H1 a (.ins C dx (putF f v fs)))) : tSeq (sFld K ta tv f) tz D σ H := s_fldP (D := { D with nx := tz D }) h ho ha c n hl mono k
/-- a method, no argument: what is read -/
theorem evp_meth0 {C a dx : Addr} {fs : List (Str × V)} {m : Str} {sp : Sp} (he : Ev te σ H (.ref a)) (ha : H a = some (.ins C dx fs)) (hl : fs.lookup m = none) (hs : SpP sp [.ref a] H R) : EvP (tMeth C m sp [] E te tNil) σ H R := fun H1 e Q q =>
  he H1 e _ fun H2 e2 => ⟨a, dx, fs, rfl, (e.trans e2) _ _ ha, hl, hs H2 (e.trans e2) Q (fun v H3 e3 => q v H3 (e2.trans e3)) E⟩
end
section
variable {σ : L2.St} {H H' : Hp} {te ta tb : TE} {t : TT} {D : Ends} {E : XK} {R : V → Hp → Prop}
theorem evp_tupA {ta : TA} {Ra : List V → Hp → Prop} (h : EAP ta σ H Ra) (hl : ∀ vs H1, Ra vs H1 → vs.length ≤ 100000) (k : ∀ vs t H1 H2, Ex H1 H2 → Ra vs H1 → H2 t = some (.tup vs) → R (.ref t) H2) : EvP (tTup ta) σ H R := fun H1 e Q q =>
  h H1 e _ fun vs H2 e2 hv => ⟨sz_of (hl vs H2 hv), fun l hl => q _ _ (e2.trans (Ex.new hl)) (k vs l H2 _ (Ex.new hl) hv upd_same)⟩
theorem s_retIf {b : Bool} (h : EvT t σ H b) (h1 : b = true → ∀ H1, Ex H H1 → ta σ H1 D.rt) (h2 : b = false → ∀ H1, Ex H H1 → tb σ H1 D.rt) : tRet (tIf t ta tb) D σ H := h H (Ex.refl H) _ fun H1 e => by
  cases b with
  | true => exact h1 rfl H1 e
  | false => exact h2 rfl H1 e
theorem cb_call {r : List V → Hp → VK → Prop} {sp : Sp} {dvs vs : List V} {ta : TA} {Q : VK} (h : EvA ta σ H vs) (k : ∀ H1, Ex H H1 → sp (vs ++ dvs) H1 (fun x H2 => r [x] H2 Q) E) : tCB r (tCons (tCall sp dvs E ta) tNil) σ H Q := h H (Ex.refl H) _ k
/-- o.m(..) -/
theorem c_meth {C a dx : Addr} {fs : List (Str × V)} {m : Str} {sp : Sp} {dvs vs : List V} {ta' : TA} {Q : VK} (h0 : Ev te σ H (.ref a)) (ha : H a = some (.ins C dx fs)) (hl : fs.lookup m = none) (h : EvA ta' σ H vs) (k : ∀ H1, Ex H H1 → sp (.ref a :: (vs ++ dvs)) H1 Q E) : tMeth C m sp dvs E te ta' σ H Q :=
  h0 H (Ex.refl H) _ fun H1 e1 => ⟨a, dx, fs, rfl, e1 _ _ ha, hl, h H1 e1 _ fun H2 e2 => k H2 (e1.trans e2)⟩
end
/-! ### names_text -/
def spNames : Sp := fun vs H Q _ => ∃ a xs, vs = [.ref a] ∧ STup H a xs ∧ (∀ z ∈ xs, z.length ≤ 8) ∧ xs.length ≤ 1000 ∧ ∀ H', Ex H H' → Q (.str (namesM xs)) H'
theorem v_names {a : Addr} {xs : List Str} {H : Hp} (h : STup H a xs) (h1 : ∀ z ∈ xs, z.length ≤ 8) (h2 : xs.length ≤ 1000) : SpV spNames [.ref a] H (.str (namesM xs)) := fun H1 e Q q _ => ⟨a, xs, rfl, h.ex e, h1, h2, q⟩
theorem scNames : FnScope ["names"] ["names"] (defScope sNamesText) := ⟨rfl, rfl, rfl, by decide +kernel, rfl, by decide +kernel, by decide +kernel⟩
theorem ok_names (T : Tp K mg) : C8.Cal P w K mg base 1 "names_text" spNames [] := by
  obtain ⟨fd, F⟩ := T.f_names_text
  refine ⟨_, fd, ["names"], [], ?_, T.g_names_text, F.kp, F.bindsN (fun _ _ _ _ _ _ us hl => match us, hl with | [_], _ => rfl), .nil⟩
  refine F.ok scNames (fun vs H Q E h => ?_) (fun cdv A outer s H vs Q E hr h => ?_)
  · obtain ⟨a, xs, rfl, _⟩ := h
    rfl
  · obtain ⟨a, xs, rfl, h, h1, h2, k⟩ := h
    refine ⟨_, PSs.nox (pss_one (ps_ret (pe_ifExp (pt_cmpR op_eq (pb call_len T.z_len PySem.boot_len (pv 0)) pe_int (nomark _)) pe_str (pe_join pe_str (pv 0))))), ?_⟩
    have hj := joinSum_le (a := (" " : Str)) h1
    have hs : (" " : Str).length = 1 := by decide +kernel
    have hm := Nat.mul_le_mul_right 9 h2
    refine s_ret (ev_if (b := decide (xs.length = 0)) (et_is (et_test (ev_op (ev_cb1 (ev_var rfl) (rc_lenT h)) ev_c (rv_eq rfl))) ?_) (fun hb => ?_) (fun hb => ?_)) k
    · rw [dV, List.length_map]
      exact decide_eq_decide.mpr (by omega)
    · unfold namesM
      rw [if_pos (of_decide_eq_true hb)]
      exact ev_c
    · unfold namesM
      rw [if_neg (of_decide_eq_false hb)]
      exact ev_joinT ev_c (ev_var rfl) h (by rw [hs] at hj; omega)
/-! ### Console(works, leaders), said -/
structure ConAt (K : PySem.W.Frag) (H : Hp) (c b : Addr) (n : Nat) (st : List Stt) : Prop where
  at_ : ∃ dx t, H c = some (.ins (He.ga K "Console") dx [("desk", .ref b), ("answers", .ref t)]) ∧ ∃ ws, Rd H t (.tup ws) ∧ ws.length = n
  bd : BoardAt K H b st
structure CIn (K : PySem.W.Frag) (H : Hp) (c b : Addr) (dx t : Addr) (ws : List V) : Prop where
  at_ : H c = some (.ins (He.ga K "Console") dx [("desk", .ref b), ("answers", .ref t)])
  ans : Rd H t (.tup ws)
theorem ConAt.out {H : Hp} {c b : Addr} {n : Nat} {st : List Stt} (h : ConAt K H c b n st) : ∃ dx t ws, CIn K H c b dx t ws ∧ ws.length = n := by
  obtain ⟨dx, t, e1, ws, e2, e3⟩ := h.at_
  exact ⟨dx, t, ws, ⟨e1, e2⟩, e3⟩
theorem CIn.ex {H H' : Hp} {c b dx t : Addr} {ws : List V} (h : CIn K H c b dx t ws) (e : Ex H H') : CIn K H' c b dx t ws := ⟨e _ _ h.at_, ex_rd e h.ans⟩
theorem CIn.fm {H H' : Hp} {c b dx t : Addr} {ws : List V} {bs : List Addr} (h : CIn K H c b dx t ws) (f : Fm bs H H') (m : Mb H bs) (n : c ∉ bs) : CIn K H' c b dx t ws := ⟨f _ _ h.at_ n (fun _ z => nomatch z), f.rd m h.ans⟩
section
variable {σ : L2.St} {H : Hp} {te ta : TE}
theorem evp_board {W : Wk} {ls : List Str} {E : XK} {ta : TA} (h : EAP ta σ H fun vs H1 => ∃ a l, vs = [.ref a, .ref l] ∧ WorksAt K H1 a W ∧ STup H1 l ls) (g : GoodLead W.hs ls) :
    EvP (tMake (He.ga K "Board") (spBoardInit K) [] E ta) σ H fun v H1 => ∃ b, v = .ref b ∧ BoardAt K H1 b [(W, ls)] ∧ H b = none := fun H1 e Q q =>
  h H1 e _ fun vs H2 e2 ⟨a, l, ev, h1, h2⟩ => fun x dx hx hdx ne => by
    subst ev
    have hx' : (upd H2 dx (.own x)) x = none := by rw [upd_ne (Ne.symm ne)]; exact hx
    have en : Ex H2 (upd (upd H2 dx (.own x)) x (.ins (He.ga K "Board") dx [])) := (Ex.new hdx).trans (Ex.new hx')
    exact ⟨x, dx, a, l, W, ls, rfl, upd_same, h1.ex en, h2.ex en, g, fun t p H3 eb hx3 ht hp => by
      have e3 := ExB.new hx hdx eb
      exact ⟨rfl, q _ H3 (e2.trans e3) ⟨x, rfl, ⟨dx, t, [p], hx3, ht, .cons ⟨a, l, hp, h1.ex e3, h2.ex e3⟩ .nil⟩, fresh_back (e.trans e2) hx⟩⟩⟩
theorem ev_desk (T : Tp K mg) {c b dx t : Addr} {ws : List V} (h : CIn K H c b dx t ws) (he : Ev te σ H (.ref c)) : Ev (tFld K te "desk") σ H (.ref b) := ev_fld he h.at_ T.c_Console T.n_Console_desk rfl
theorem ev_answers (T : Tp K mg) {c b dx t : Addr} {ws : List V} (h : CIn K H c b dx t ws) (he : Ev te σ H (.ref c)) : Ev (tFld K te "answers") σ H (.ref t) := ev_fld he h.at_ T.c_Console T.n_Console_answers rfl
end
def spConInit (K : PySem.W.Frag) : Sp := fun vs H Q _ => ∃ x dx a l W ls, vs = [.ref x, .ref a, .ref l] ∧ H x = some (.ins (He.ga K "Console") dx []) ∧ WorksAt K H a W ∧ STup H l ls ∧ GoodLead W.hs ls ∧
  ∀ b t H', ExB x H H' → H' x = some (.ins (He.ga K "Console") dx [("desk", .ref b), ("answers", .ref t)]) → BoardAt K H' b [(W, ls)] → Rd H' t (.tup []) → b ≠ x → H b = none → Q .non H'
theorem scConInit : FnScope ["self", "works", "leaders"] ["self", "works", "leaders"] (defScope sConsoleInit) := ⟨rfl, rfl, rfl, by decide +kernel, rfl, by decide +kernel, by decide +kernel⟩
theorem ok_Console (T : Tp K mg) : C8.Mak P w K mg base 6 "Console" (He.ga K "Console") (spConInit K) [] := by
  obtain ⟨fd, F⟩ := T.f_Console_init
  refine ⟨_, fd, ["self", "works", "leaders"], [], T.m_Console, ?_, T.g_Console, F.bindsN (fun _ _ _ _ _ _ us hl => match us, hl with | [_, _, _], _ => rfl), .nil⟩
  refine F.ok scConInit (fun vs H Q E h => ?_) (fun cdv A outer s H vs Q E hr h => ?_)
  · obtain ⟨x, dx, a, l, W, ls, rfl, _⟩ := h
    rfl
  · obtain ⟨x, dx, a, l, W, ls, rfl, hx, hw, hl, g, k⟩ := h
    refine ⟨_, PSs.nox (pss_cons (ps_fld (pv 0) (C8.pe_mk (ok_Board T) hr (by decide) rfl (pa_cons (pv 1) (pa_cons (pv 2) pa_nil))) rfl) (pss_one (ps_fld (pv 0) (pe_tup pa_nil) rfl))), ?_⟩
    refine q_fldP (R := fun v H1 => ∃ b, v = .ref b ∧ BoardAt K H1 b [(W, ls)] ∧ H b = none) (evp_board (eap_cons (EvP.of (ev_var rfl)) fun v1 H1 e1 hv1 => eap_one (EvP.of (ev_var rfl)) fun v2 H2 e2 hv2 => ⟨a, l, by rw [hv1, hv2], hw.ex (e1.trans e2), hl.ex (e1.trans e2)⟩) g) (fun _ _ => ev_var rfl) hx T.c_Console T.n_Console_desk (by decide) (fun v H1 H2 e ⟨b, ev, hb, hn⟩ => ⟨b, ev, hb.ex e, hn⟩) ?_
    rintro v H1 e1 ⟨b, rfl, hb, hn⟩
    have hx1 := e1 _ _ hx
    have nb : b ≠ x := fun z => by rw [z, hx] at hn; cases hn
    have mb : Mb H1 [x] := mb_board hx1 (by show 0 ≤ 2; decide)
    have hb1 := hb.fm (Fm.put (o := .ins (He.ga K "Console") dx (putF "desk" (.ref b) []))) mb (by simpa using nb)
    refine s_fldP (R := IsU []) (evp_tupV ea_nil (by decide)) (fun _ _ => ev_var rfl) upd_same T.c_Console T.n_Console_answers (by show 1 < 1000; omega) (fun v H1 H2 e ⟨q, ev, hq⟩ => ⟨q, ev, ex_rd e hq⟩) ?_
    rintro v H2 e2 ⟨t, rfl, ht⟩
    have hx2 := e2 _ _ (upd_same (H := H1) (a := x) (o := .ins (He.ga K "Console") dx (putF "desk" (.ref b) [])))
    have mb2 : Mb H2 [x] := mb_board hx2 (by show 1 ≤ 2; decide)
    have fp : Fm [x] H2 (upd H2 x (.ins (He.ga K "Console") dx (putF "answers" (.ref t) (putF "desk" (.ref b) [])))) := Fm.put
    exact k b t _ ((ExB.put e1).trans (ExB.put e2)) upd_same ((hb1.ex e2).fm fp mb2 (by simpa using nb)) (fp.rd mb2 ht) nb hn
def spSaid (K : PySem.W.Frag) : Sp := fun vs H Q _ => ∃ c b dx t ws, vs = [.ref c] ∧ CIn K H c b dx t ws ∧ ∀ H', Ex H H' → Q (.int (ws.length : Nat)) H'
theorem scSaid : FnScope ["self"] ["self"] (defScope sConsoleSaid) := ⟨rfl, rfl, rfl, by decide +kernel, rfl, by decide +kernel, by decide +kernel⟩
theorem ok_said (T : Tp K mg) : ∃ fd, FnOk P w K mg base C8.CX0 1 (gAd K "Console" "said") fd ["self"] (spSaid K) ∧ Binds K fd ["self"] [] := by
  obtain ⟨fd, F⟩ := T.q_Console_said
  refine ⟨fd, F.ok scSaid (fun vs H Q E h => ?_) (fun cdv A outer s H vs Q E hr h => ?_), F.bindsN (fun _ _ _ _ _ _ us hl => match us, hl with | [_], _ => rfl)⟩
  · obtain ⟨c, b, dx, t, ws, rfl, _⟩ := h
    rfl
  obtain ⟨c, b, dx, t, ws, rfl, hc, k⟩ := h
  exact ⟨_, PSs.nox (pss_one (ps_ret (pb call_len T.z_len PySem.boot_len (pe_fld (pv 0) rfl)))), s_ret (ev_cb1 (ev_answers T hc (ev_var rfl)) (rc_lenT hc.ans)) k⟩
theorem pe_said {X : Cx} {e : Expr} {ta : TE} {pos : Pos} {j : Nat} (T : Tp K mg) (hr : Room j X.A) (he : PE X e ta) (hj : 2 ≤ j := by decide) (hK : X.K = K := by rfl) (hm : X.mg = mg := by rfl) (hab : attributeBase e "said" X.env (eval e X.env) = eval e X.env := by rfl) :
    PE X (.Attribute e "said" pos) (tProp (He.ga K "Console") (spSaid K) [] C8.E0 ta) := by
  subst hK hm
  obtain ⟨fd, F, b⟩ := ok_said (P := X.prog) (w := X.w) (base := X.base) T
  exact pe_prop he T.c_Console T.p_Console_said F (hr.mono hj) b .nil C8.pass0 hab
theorem ev_said {σ : L2.St} {H : Hp} {te : TE} {c b dx t : Addr} {ws : List V} {E : XK} (h : CIn K H c b dx t ws) (he : Ev te σ H (.ref c)) : Ev (tProp (He.ga K "Console") (spSaid K) [] E te) σ H (.int (ws.length : Nat)) :=
  ev_prop he h.at_ fun H1 e Q q _ => ⟨c, b, dx, t, ws, rfl, h.ex e, q⟩
/-! ### judged, asked -/
def yesno (b : Bool) : Str := if b = true then "yes" else "no"
def numT (n : Nat) : Str := Str.ofString (toString ((n : Nat) : Int))
def judgedM (s : Stt) (line : Str) : Option Str := if line = "sure" then some (yesno (sureM s)) else if line = "fewest" then some (numT (fewM s.1)) else none
def askedM (s : Stt) (line : Str) : Option Str := if line = "text" then some (textM s.1) else if line = "leaders" then some (namesM s.2) else if line = "known" then some (namesM (knownM s)) else judgedM s line
def optS : Option Str → V
  | none => .non
  | some z => .str z
def LineOk (line : Str) : Prop := line ≠ "forces" ∧ line ≠ "some" ∧ line ≠ "help"
def spJudged (K : PySem.W.Frag) (M : Stt → Str → Option Str) : Sp := fun vs H Q _ => ∃ c b dx t ws st s line, vs = [.ref c, .str line] ∧ CIn K H c b dx t ws ∧ BoardAt K H b (st ++ [s]) ∧ s.Ok ∧ Tabs (TT2 K) H ∧ LineOk line ∧ ∀ H', FT K [] H H' → Q (optS (M s line)) H'
theorem few_le (W : Wk) : ∀ k m, fewFrom W k m ≤ m + k
  | 0, m => Nat.le_refl _
  | k + 1, m => by
    unfold fewFrom
    split
    · omega
    · have := few_le W k (m + 1)
      omega
theorem fewM_small {W : Wk} (h : W.Ok) : ((fewM W : Nat) : Int).natAbs.log2 < 1920 := by
  have h1 := few_le W W.hs.length 1
  have h2 := h.few
  have h3 : fewM W ≤ 6 := by unfold fewM; omega
  have e : ((fewM W : Nat) : Int).natAbs = fewM W := rfl
  rw [e]
  have h4 : (fewM W).log2 ≤ fewM W := Nat.log2_le_self _
  omega
abbrev NJudged : List Str := ["self", "line", "works", "row", "rows"]
theorem scJudged : FnScope NJudged ["self", "line"] (defScope sConsoleJudged) := ⟨rfl, rfl, rfl, by decide +kernel, rfl, by decide +kernel, by decide +kernel⟩
theorem ok_judged (T : Tp K mg) (TB : TB2 base mg K) : C8.Met P w K mg base 7 (He.ga K "Console") "judged" (spJudged K judgedM) [] := by
  obtain ⟨fd, F⟩ := T.f_Console_judged
  refine ⟨_, fd, ["self", "line"], [], T.c_Console, T.h_Console_judged, ?_, F.bindsN (fun _ _ _ _ _ _ us hl => match us, hl with | [_, _], _ => rfl), .nil⟩
  refine F.ok scJudged (fun vs H Q E h => ?_) (fun cdv A outer s H vs Q E hr h => ?_)
  · obtain ⟨c, b, dx, t, ws, st, s, line, rfl, _⟩ := h
    rfl
  · obtain ⟨c, b, dx, t, ws, st, s', line, rfl, ci, hb, ok, ht, ⟨l1, l2, l3⟩, k⟩ := h
    have nd := scJudged.nd
    refine ⟨_, PSs.nox (pss_cons (ps_asg (pe_tup (pa_cons (pe_bworks T hr (pe_fld (pv 0) rfl)) (pa_cons (C8.pe_c (ok_places T) hr (by decide) rfl (pa_cons (pe_bworks T hr (pe_fld (pv 0) rfl)) (pa_cons (pe_blead T hr (pe_fld (pv 0) rfl)) pa_nil))) pa_nil))) (pg_tup (n := 2) rfl (pgs_cons (pg_name (i := 2) nd rfl (Or.inr rfl)) (pgs_cons (pg_name (i := 3) nd rfl (Or.inl rfl)) pgs_nil))))
      (pss_cons (ps_if (pt_cmpR op_eq (pv 1) pe_str (nomark _)) pss_never pss_nil)
      (pss_cons (ps_if (pt_cmpR op_eq (pv 1) pe_str (nomark _)) (pss_one (ps_ret (pe_ifExp (pt_val (C8.pe_mt0 (ok_sure T) hr (by decide) (pe_fld (pv 0) rfl))) pe_str pe_str))) pss_nil)
      (pss_cons (ps_if (pt_cmpR op_eq (pv 1) pe_str (nomark _)) pss_never pss_nil)
      (pss_one (ps_ret (pe_ifExp (pt_cmpR op_eq (pv 1) pe_str (nomark _)) (pty call_str_int T.z_str PyProof.Rows.boot_str (C8.pe_c (ok_fewof T TB) hr (by decide) rfl (pa_cons (pv 2) pa_nil))) pe_non))))))), ?_⟩
    refine q_asgGP (R := fun v H => ∃ p wa q, v = .ref p ∧ H p = some (.tup [.ref wa, .ref q]) ∧ WorksAt K H wa s'.1) (evp_tupA (Ra := fun vs H => ∃ wa q, vs = [.ref wa, .ref q] ∧ WorksAt K H wa s'.1)
      (eap_cons (evp_bworks hb (ev_desk T ci (ev_var rfl))) (fun x H1 e1 ⟨wa, ex, hwa⟩ => eap_one (evp_callA (R := IsL ((placesM s'.1 s'.2).map natV)) (Ra := fun vs H => ∃ wa l, vs = [.ref wa, .ref l] ∧ WorksAt K H wa s'.1 ∧ STup H l s'.2) (eap_cons (evp_bworks (hb.ex e1) (ev_desk T (ci.ex e1) (ev_var rfl))) (fun y H2 e2 ⟨wa2, ey, hwa2⟩ => eap_one (evp_blead (hb.ex (e1.trans e2)) (ev_desk T (ci.ex (e1.trans e2)) (ev_var rfl))) fun z H3 e3 ⟨l, ez, hl⟩ => ⟨wa2, l, by rw [ey, ez], hwa2.ex e3, hl⟩))
        (fun vs H4 e4 ⟨wa2, l, ev, h1, h2⟩ => by subst ev; exact v_places h1 h2 ok.lead)) fun y H2 e2 ⟨q, ey, hq⟩ => ⟨wa, q, by rw [ex, ey], hwa.ex e2⟩))
      (fun vs H1 ⟨wa, q, ev, _⟩ => by rw [ev]; show 2 ≤ 100000; omega) (fun vs t H1 H2 e ⟨wa, q, ev, hw⟩ ht => ⟨t, wa, q, rfl, by rw [← ev]; exact ht, hw.ex e⟩)) ?_
    rintro v H1 e1 ⟨p, wa, q, rfl, hp, hw⟩
    refine eg_two hp ?_
    refine q_when (b := false) (et_is (et_line (ev_var rfl)) (decide_eq_false l1)) nofun fun _ H2 e2 => ?_
    have e02 := e1.trans e2
    obtain ⟨bdx, bt, as, bp, bwa, bl, bi⟩ := (hb.ex e02).out
    refine q_when (b := decide (line = "sure")) (et_line (ev_var rfl)) (fun hc H3 e3 => ?_) (fun hc H3 e3 => ?_)
    · have hs := of_decide_eq_true hc
      have hM : judgedM s' line = some (yesno (sureM s')) := if_pos hs
      rw [hM] at k
      refine s_ret (v := .str (yesno (sureM s'))) (ev_if (b := sureM s') (et_B (EvP.ev (evp_meth0 (R := fun v _ => v = .bl (sureM s')) (ev_desk T (ci.ex (e02.trans e3)) (ev_var rfl)) (e3 _ _ bi.at_) rfl fun H4 e4 Q' q' _ => ⟨b, st, s', rfl, (hb.ex (e02.trans e3)).ex e4, ok, fun H5 e5 => q' _ H5 e5 rfl⟩))) (fun hb => by rw [hb]; exact ev_c) (fun hb => by rw [hb]; exact ev_c)) fun H4 e4 => k H4 (FT.of (e02.trans (e3.trans e4)) ht)
    · have hs := of_decide_eq_false hc
      refine q_when (b := false) (et_is (et_line (ev_var rfl)) (decide_eq_false l2)) nofun fun _ H4 e4 => ?_
      have e04 := e02.trans (e3.trans e4)
      refine s_retIf (b := decide (line = "fewest")) (et_line (ev_var rfl)) (fun hc2 H5 e5 => ?_) (fun hc2 H5 e5 => ?_)
      · have hM : judgedM s' line = some (numT (fewM s'.1)) := by
          unfold judgedM
          rw [if_neg hs, if_pos (of_decide_eq_true hc2)]
        rw [hM] at k
        exact cb_call (ea_cons (ev_var rfl) ea_nil) fun H6 e6 => ⟨wa, s'.1, rfl, hw.ex (e2.trans ((e3.trans e4).trans (e5.trans e6))), ok.w, ht.ext (e04.trans (e5.trans e6)), fun H7 f7 => ⟨_, rfl, fewM_small ok.w, k H7 ((FT.of (e04.trans (e5.trans e6)) ht).trans f7)⟩⟩
      · have hM : judgedM s' line = none := by
          unfold judgedM
          rw [if_neg hs, if_neg (of_decide_eq_false hc2)]
        rw [hM] at k
        exact k H5 (FT.of (e04.trans e5) ht)
theorem scAsked : FnScope ["self", "line"] ["self", "line"] (defScope sConsoleAsked) := ⟨rfl, rfl, rfl, by decide +kernel, rfl, by decide +kernel, by decide +kernel⟩
theorem strOwn_W {X : Cx} {j : Nat} (T : Tp K mg) (hr : Room j X.A) (hj : 4 ≤ j := by decide) (hK : X.K = K := by rfl) (hm : X.mg = mg := by rfl) : CallR X (.type "str") (rStrOwn (He.ga K "Works") (spWStr K)) := by
  subst hK hm
  obtain ⟨fd, F, b⟩ := ok_WStr (P := X.prog) (w := X.w) (base := X.base) T
  exact call_strOwn T.h_Works_str F (hr.mono hj) b
theorem ev_strW {σ : L2.St} {H : Hp} {te : TE} {W : Wk} (ok : W.Ok) (he : EvP te σ H fun v H' => ∃ a, v = .ref a ∧ WorksAt K H' a W) : Ev (tCB (rStrOwn (He.ga K "Works") (spWStr K)) (tCons te tNil)) σ H (.str (textM W)) :=
  ev_cb1P he fun v H1 e1 ⟨a, ev, hw⟩ => by
    subst ev
    exact fun H2 e2 Q q => by
      obtain ⟨dx, h, r, p, wi⟩ := (hw.ex e2).out
      exact ⟨a, dx, _, rfl, wi.at_, a, W, rfl, hw.ex e2, ok, fun H3 e3 => ⟨_, rfl, q H3 e3⟩⟩
theorem lead_small {s : Stt} (h : s.Ok) : ∀ z ∈ s.2, z.length ≤ 8 := fun z hz => (nameB_len (h.w.nm z (h.ld z hz))).2
theorem known_small {s : Stt} (h : s.Ok) : (∀ z ∈ knownM s, z.length ≤ 8) ∧ (knownM s).length ≤ 1000 := by
  have l : Lot s.1.hs.length (lotOf s.1 (placesM s.1 s.2)) := allLot_lot _ (places_lot h)
  refine ⟨fun z hz => ?_, ?_⟩
  · unfold knownM namedM at hz
    obtain ⟨i, hi, rfl⟩ := List.mem_map.mp hz
    have hi' := l.2 i (sortN_mem.mp hi)
    rw [List.getD_eq_getElem?_getD, List.getElem?_eq_getElem hi']
    exact (nameB_len (h.w.nm _ (List.getElem_mem hi'))).2
  · unfold knownM namedM
    rw [List.length_map]
    have e := sortN_len (lotOf s.1 (placesM s.1 s.2))
    unfold sortN at e
    rw [e]
    have := l.len
    have := h.few
    omega
theorem ok_asked (T : Tp K mg) (TB : TB2 base mg K) : C8.Met P w K mg base 8 (He.ga K "Console") "asked" (spJudged K askedM) [] := by
  obtain ⟨fd, F⟩ := T.f_Console_asked
  refine ⟨_, fd, ["self", "line"], [], T.c_Console, T.h_Console_asked, ?_, F.bindsN (fun _ _ _ _ _ _ us hl => match us, hl with | [_, _], _ => rfl), .nil⟩
  refine F.ok scAsked (fun vs H Q E h => ?_) (fun cdv A outer s H vs Q E hr h => ?_)
  · obtain ⟨c, b, dx, t, ws, st, s, line, rfl, _⟩ := h
    rfl
  · obtain ⟨c, b, dx, t, ws, st, s', line, rfl, ci, hb, ok, ht, lo, k⟩ := h
    refine ⟨_, PSs.nox (pss_cons (ps_if (pt_cmpR op_eq (pv 1) pe_str (nomark _)) (pss_one (ps_ret (pty (strOwn_W T hr) T.z_str PyProof.Rows.boot_str (pe_bworks T hr (pe_fld (pv 0) rfl))))) pss_nil)
      (pss_cons (ps_if (pt_cmpR op_eq (pv 1) pe_str (nomark _)) (pss_one (ps_ret (C8.pe_c (ok_names T) hr (by decide) rfl (pa_cons (pe_blead T hr (pe_fld (pv 0) rfl)) pa_nil)))) pss_nil)
      (pss_cons (ps_if (pt_cmpR op_eq (pv 1) pe_str (nomark _)) (pss_one (ps_ret (C8.pe_c (ok_names T) hr (by decide) rfl (pa_cons (C8.pe_mt0 (ok_known T) hr (by decide) (pe_fld (pv 0) rfl)) pa_nil)))) pss_nil)
      (pss_one (ps_ret (pe_ifExp (pt_cmpR op_eq (pv 1) pe_str (nomark _)) (pgS T.t_WORDS) (C8.pe_mt (ok_judged T TB) hr (by decide) (pv 0) (pa_cons (pv 1) pa_nil)))))))), ?_⟩
    have goS : ∀ z : Str, askedM s' line = some z → ∀ H', FT K [] H H' → Q (.str z) H' := fun z hz H' f => by
      have := k H' f
      rw [hz] at this
      exact this
    refine q_when (b := decide (line = "text")) (et_line (ev_var rfl)) (fun hc H1 e1 => ?_) (fun hc H1 e1 => ?_)
    · exact s_ret (ev_strW ok.w (evp_bworks (hb.ex e1) (ev_desk T (ci.ex e1) (ev_var rfl)))) fun H2 e2 => goS _ (if_pos (of_decide_eq_true hc)) H2 (FT.of (e1.trans e2) ht)
    have n1 := of_decide_eq_false hc
    refine q_when (b := decide (line = "leaders")) (et_line (ev_var rfl)) (fun hc H2 e2 => ?_) (fun hc H2 e2 => ?_)
    · refine s_retP (R := fun v _ => v = .str (namesM s'.2)) (evp_callA (Ra := fun vs H => ∃ l, vs = [.ref l] ∧ STup H l s'.2) (eap_one (evp_blead (hb.ex (e1.trans e2)) (ev_desk T (ci.ex (e1.trans e2)) (ev_var rfl))) fun y H3 e3 ⟨l, ey, hl⟩ => ⟨l, by rw [ey], hl⟩) (fun vs H3 e3 ⟨l, ev, hl⟩ => by subst ev; exact SpP.of (v_names hl (lead_small ok) ok.len))) fun v H3 e3 hv => ?_
      rw [hv]
      exact goS _ (by unfold askedM; rw [if_neg n1, if_pos (of_decide_eq_true hc)]) H3 (FT.of ((e1.trans e2).trans e3) ht)
    have n2 := of_decide_eq_false hc
    refine q_when (b := decide (line = "known")) (et_line (ev_var rfl)) (fun hc H3 e3 => ?_) (fun hc H3 e3 => ?_)
    · have e03 := (e1.trans e2).trans e3
      obtain ⟨bdx, bt, as, bp, bwa, bl, bi⟩ := (hb.ex e03).out
      have hks := known_small ok
      refine s_retP (R := fun v _ => v = .str (namesM (knownM s'))) (evp_callA (Ra := fun vs H => ∃ l, vs = [.ref l] ∧ STup H l (knownM s')) (eap_one (evp_meth0 (R := IsU ((knownM s').map V.str)) (ev_desk T (ci.ex e03) (ev_var rfl)) bi.at_ rfl fun H4 e4 Q' q' _ => ⟨b, st, s', rfl, (hb.ex e03).ex e4, ok, fun v H5 e5 hv => q' v H5 e5 hv⟩) fun y H4 e4 ⟨l, ey, hl⟩ => ⟨l, by rw [ey], hl⟩) (fun vs H4 e4 ⟨l, ev, hl⟩ => by subst ev; exact SpP.of (v_names hl hks.1 hks.2))) fun v H4 e4 hv => ?_
      rw [hv]
      exact goS _ (by unfold askedM; rw [if_neg n1, if_neg n2, if_pos (of_decide_eq_true hc)]) H4 (FT.of (e03.trans e4) ht)
    have n3 := of_decide_eq_false hc
    have e03 := (e1.trans e2).trans e3
    have hM : askedM s' line = judgedM s' line := by
      unfold askedM
      rw [if_neg n1, if_neg n2, if_neg n3]
    refine s_retIf (b := false) (et_is (et_line (ev_var rfl)) (decide_eq_false lo.2.2)) nofun fun _ H4 e4 => ?_
    exact c_meth (ev_var rfl) ((e03.trans e4) _ _ ci.at_) rfl (ea_cons (ev_var rfl) ea_nil) fun H5 e5 => ⟨c, b, dx, t, ws, st, s', line, rfl, ci.ex (e03.trans (e4.trans e5)), hb.ex (e03.trans (e4.trans e5)), ok, ht.ext (e03.trans (e4.trans e5)), lo, fun H6 f6 => by
      have := k H6 ((FT.of (e03.trans (e4.trans e5)) ht).trans f6)
      rw [hM] at this
      exact this⟩
end K54
/-! K26 -/
namespace K54
open PySem PySem.Spec PyProof.Rows L2 LamX NdefX Evl
/-! ### lines and words -/
theorem name_no32 {z : Str} (h : nameB z = true) : 32 ∉ TL.tl z := fun hm => by
  obtain ⟨c, r, e, _, _, h2⟩ := nameB_out h
  have e' : TL.tl z = c :: r := e
  rw [e'] at hm
  have h3 := h2 32 hm
  have h4 : (letB 32 || digB 32) = false := by decide +kernel
  rw [h4] at h3
  cases h3
theorem tl_sp : TL.tl (" " : Str) = [32] := by decide +kernel
theorem split_words {ws : List Str} (hne : ws ≠ []) (h : ∀ z ∈ ws, nameB z = true) : Txt.split (Txt.join (" " : Str) ws) (" " : Str) = ws := by
  apply TL.map_tl_inj
  have hk : ¬ Builtin.Str.strKind (Txt.join (" " : Str) ws) < Builtin.Str.strKind (" " : Str) := by
    have e : Builtin.Str.strKind (" " : Str) = 1 := by decide +kernel
    rw [e]
    unfold Builtin.Str.strKind
    split
    · omega
    · split <;> omega
  rw [TL.split_spl _ _ (by rw [tl_sp]; simp) hk, join_eq, TL.tl_join, tl_sp]
  exact TL.spl_join (s := 32) (S := []) (by simpa using hne) fun p hp => by
    obtain ⟨z, hz, rfl⟩ := List.mem_map.mp hp
    exact name_no32 (h z hz)
theorem tl_inj {x y : Str} (h : x = y) : TL.tl x = TL.tl y := by rw [h]
theorem two_has32 {a b : Str} {r : List Str} : 32 ∈ TL.tl (Txt.join (" " : Str) (a :: b :: r)) := by
  rw [join_eq]
  show 32 ∈ TL.tl (a ++ " " ++ Str.join " " (b :: r))
  rw [TL.tl_append, TL.tl_append, tl_sp]
  simp
/-- the lines that change -/
def DW (ws : List Str) : Prop := ws = [("undo" : Str)] ∨ (∃ w x y : Str, ws = [w, x, y] ∧ (w = "tie" ∨ w = "cut") ∧ nameB x = true ∧ nameB y = true) ∨ ∃ w x : Str, ws = [w, x] ∧ (w = "lead" ∨ w = "leave") ∧ nameB x = true
theorem DW.names {ws : List Str} (h : DW ws) : ws ≠ [] ∧ (∀ z ∈ ws, nameB z = true) ∧ ws.length ≤ 3 := by
  have t1 : nameB "tie" = true := by decide +kernel
  have t2 : nameB "cut" = true := by decide +kernel
  have t3 : nameB "lead" = true := by decide +kernel
  have t4 : nameB "leave" = true := by decide +kernel
  have t5 : nameB "undo" = true := by decide +kernel
  rcases h with rfl | ⟨w, x, y, rfl, hw, hx, hy⟩ | ⟨w, x, rfl, hw, hx⟩
  · exact ⟨by simp, by simpa using t5, by simp⟩
  · refine ⟨by simp, fun z hz => ?_, by simp⟩
    have : z = w ∨ z = x ∨ z = y := by simpa using hz
    rcases this with rfl | rfl | rfl
    · rcases hw with rfl | rfl
      · exact t1
      · exact t2
    · exact hx
    · exact hy
  · refine ⟨by simp, fun z hz => ?_, by simp⟩
    have : z = w ∨ z = x := by simpa using hz
    rcases this with rfl | rfl
    · rcases hw with rfl | rfl
      · exact t3
      · exact t4
    · exact hx
theorem line_ne {ws : List Str} (h : DW ws) {k : Str} (h1 : k ≠ "undo") (h2 : 32 ∉ TL.tl k) : Txt.join (" " : Str) ws ≠ k := fun e => by
  rcases h with rfl | ⟨w, x, y, rfl, _⟩ | ⟨w, x, rfl, _⟩
  · rw [join_eq] at e
    exact h1 e.symm
  · exact h2 (by rw [← e]; exact two_has32)
  · exact h2 (by rw [← e]; exact two_has32)
theorem line_undo {ws : List Str} (h : DW ws) : Txt.join (" " : Str) ws = "undo" ↔ ws = [("undo" : Str)] := by
  refine ⟨fun e => ?_, fun e => by rw [e, join_eq]; rfl⟩
  rcases h with rfl | ⟨w, x, y, rfl, _⟩ | ⟨w, x, rfl, _⟩
  · rfl
  · have h2 : 32 ∉ TL.tl ("undo" : Str) := by decide +kernel
    exact absurd (by rw [← e]; exact two_has32) h2
  · have h2 : 32 ∉ TL.tl ("undo" : Str) := by decide +kernel
    exact absurd (by rw [← e]; exact two_has32) h2
theorem dw_line {ws : List Str} (h : DW ws) : LineOk (Txt.join (" " : Str) ws) ∧ ∀ s, askedM s (Txt.join (" " : Str) ws) = none := by
  refine ⟨⟨line_ne h (by decide +kernel) (by decide +kernel), line_ne h (by decide +kernel) (by decide +kernel), line_ne h (by decide +kernel) (by decide +kernel)⟩, fun s => ?_⟩
  unfold askedM judgedM
  rw [if_neg (line_ne h (by decide +kernel) (by decide +kernel)), if_neg (line_ne h (by decide +kernel) (by decide +kernel)), if_neg (line_ne h (by decide +kernel) (by decide +kernel)), if_neg (line_ne h (by decide +kernel) (by decide +kernel)), if_neg (line_ne h (by decide +kernel) (by decide +kernel))]
/-- what a line does -/
def doWords (st : List Stt) (s : Stt) : List Str → Option (List Stt)
  | [w, x, y] => (if w = "tie" then doTie s x y else doCut s x y).map fun s' => (st ++ [s]) ++ [s']
  | [w, x] => (if w = "lead" then doLead s x else doLeave s x).map fun s' => (st ++ [s]) ++ [s']
  | _ => if st = [] then none else some st
/-! ### the lambdas -/
def ifLam : Stmt → Arguments × Expr × Scope
  | .If _ (.Return (some (.Lambda p b s _)) _ :: _) _ _ => (p, b, s)
  | _ => (⟨[], [], none, [], [], none, []⟩, .Name "" ⟨0, 0, 0, 0⟩, ⟨.function, [], false, false, []⟩)
abbrev dLam (i : Nat) : Arguments × Expr × Scope := ifLam (nthS (defBody sConsoleDeed) i)
variable {P : Program} {w : World} {K : PySem.W.Frag} {mg : Str → Option Value} {base : Heap}
def spL0 (K : PySem.W.Frag) : Sp := fun vs H Q E => ∃ c b dx t ans st s, vs = [.ref c] ∧ CIn K H c b dx t ans ∧ BoardAt K H b (st ++ [s]) ∧ st.length ≤ 1000 ∧ MutP K H b (if st = [] then none else some st) Q E
def spL2 (K : PySem.W.Frag) (op : Stt → Str → Option Stt) : Sp := fun vs H Q E => ∃ c b dx t ans wl w0 x st s, vs = [.ref c, .ref wl] ∧ H wl = some (.lst [.str w0, .str x]) ∧ CIn K H c b dx t ans ∧ BoardAt K H b (st ++ [s]) ∧ s.Ok ∧ st.length ≤ 1000 ∧ MutP K H b ((op s x).map fun s' => (st ++ [s]) ++ [s']) Q E
def spL3 (K : PySem.W.Frag) (op : Stt → Str → Str → Option Stt) : Sp := fun vs H Q E => ∃ c b dx t ans wl w0 x y st s, vs = [.ref c, .ref wl] ∧ H wl = some (.lst [.str w0, .str x, .str y]) ∧ CIn K H c b dx t ans ∧ BoardAt K H b (st ++ [s]) ∧ s.Ok ∧ st.length ≤ 1000 ∧ MutP K H b ((op s x y).map fun s' => (st ++ [s]) ++ [s']) Q E
theorem MutP.ex {H H1 : Hp} {b : Addr} {o : Option (List Stt)} {Q : VK} {E : XK} (m : MutP K H b o Q E) (e : Ex H H1) : MutP K H1 b o Q E := ⟨fun st' h H' f hb => m.1 st' h H' ((ExB.of e).trans f) hb, fun h cls d H' he e' => m.2 h cls d H' he (e.trans e')⟩
theorem lok_undo (T : Tp K mg) (qual : Str) (cl : List (Str × Addr)) (c' : Addr) : LOk P w K mg base (L2.CX P w) 6 ⟨qual, (dLam 1).1, (dLam 1).2.1, (dLam 1).2.2, cl, c'⟩ ["self"] (spL0 K) := by
  obtain ⟨fd, F, bd⟩ := ok_undo (P := P) (w := w) (base := base) T
  refine lok_of (nscope_by (by show nscB ["self"] [] ["self"] (dLam 1).2.2 = true; decide +kernel)) (fun _ _ => rfl) fun A outer s H f ws Q E hr hl hsp => ?_
  obtain ⟨c, b, dx, t, ans, st, s', rfl, ci, hb, hz, m⟩ := hsp
  obtain ⟨bdx, bt, as, bp, bwa, bl, bi⟩ := hb.out
  refine ⟨_, pe_meth0 (pe_fld (pv 0) rfl) T.c_Board T.h_Board_undo F hr bd .nil (passes_call (E := E) (takes_of rfl rfl rfl rfl) fun _ _ _ _ h => h), ?_⟩
  exact c_meth (ev_desk T ci (ev_var rfl)) bi.at_ rfl ea_nil fun H1 e1 => ⟨b, st, s', rfl, hb.ex e1, hz, m.ex e1⟩
theorem lok_tie (T : Tp K mg) (qual : Str) (cl : List (Str × Addr)) (c' : Addr) : LOk P w K mg base (L2.CX P w) 6 ⟨qual, (dLam 3).1, (dLam 3).2.1, (dLam 3).2.2, cl, c'⟩ ["self", "words"] (spL3 K doTie) := by
  obtain ⟨fd, F, bd⟩ := ok_tie (P := P) (w := w) (base := base) T
  refine lok_of (nscope_by (by show nscB ["self", "words"] [] ["self", "words"] (dLam 3).2.2 = true; decide +kernel)) (fun _ _ => rfl) fun A outer s H f ws Q E hr hl hsp => ?_
  obtain ⟨c, b, dx, t, ans, wl, w0, x, y, st, s', rfl, hw, ci, hb, ok, hz, m⟩ := hsp
  obtain ⟨bdx, bt, as, bp, bwa, bl, bi⟩ := hb.out
  refine ⟨_, pe_meth (pe_fld (pv 0) rfl) T.c_Board T.h_Board_tie F hr bd .nil (passes_call (E := E) (takes_of rfl rfl rfl rfl) fun _ _ _ _ h => h) (pa_cons (pe_ix ix_list (pv 1) pe_int (fun _ _ => rfl)) (pa_cons (pe_ix ix_list (pv 1) pe_int (fun _ _ => rfl)) pa_nil)), ?_⟩
  exact c_meth (ev_desk T ci (ev_var rfl)) bi.at_ rfl (ea_cons (ev_op (ev_var rfl) ev_c (rv_ixL (sq_of hw) (atI_nat (j := 1) rfl))) (ea_cons (ev_op (ev_var rfl) ev_c (rv_ixL (sq_of hw) (atI_nat (j := 2) rfl))) ea_nil)) fun H1 e1 => ⟨b, st, s', x, y, rfl, hb.ex e1, ok, hz, m.ex e1⟩
theorem lok_cut (T : Tp K mg) (qual : Str) (cl : List (Str × Addr)) (c' : Addr) : LOk P w K mg base (L2.CX P w) 6 ⟨qual, (dLam 4).1, (dLam 4).2.1, (dLam 4).2.2, cl, c'⟩ ["self", "words"] (spL3 K doCut) := by
  obtain ⟨fd, F, bd⟩ := ok_cut (P := P) (w := w) (base := base) T
  refine lok_of (nscope_by (by show nscB ["self", "words"] [] ["self", "words"] (dLam 4).2.2 = true; decide +kernel)) (fun _ _ => rfl) fun A outer s H f ws Q E hr hl hsp => ?_
  obtain ⟨c, b, dx, t, ans, wl, w0, x, y, st, s', rfl, hw, ci, hb, ok, hz, m⟩ := hsp
  obtain ⟨bdx, bt, as, bp, bwa, bl, bi⟩ := hb.out
  refine ⟨_, pe_meth (pe_fld (pv 0) rfl) T.c_Board T.h_Board_cut F hr bd .nil (passes_call (E := E) (takes_of rfl rfl rfl rfl) fun _ _ _ _ h => h) (pa_cons (pe_ix ix_list (pv 1) pe_int (fun _ _ => rfl)) (pa_cons (pe_ix ix_list (pv 1) pe_int (fun _ _ => rfl)) pa_nil)), ?_⟩
  exact c_meth (ev_desk T ci (ev_var rfl)) bi.at_ rfl (ea_cons (ev_op (ev_var rfl) ev_c (rv_ixL (sq_of hw) (atI_nat (j := 1) rfl))) (ea_cons (ev_op (ev_var rfl) ev_c (rv_ixL (sq_of hw) (atI_nat (j := 2) rfl))) ea_nil)) fun H1 e1 => ⟨b, st, s', x, y, rfl, hb.ex e1, ok, hz, m.ex e1⟩
theorem lok_lead (T : Tp K mg) (qual : Str) (cl : List (Str × Addr)) (c' : Addr) : LOk P w K mg base (L2.CX P w) 6 ⟨qual, (dLam 5).1, (dLam 5).2.1, (dLam 5).2.2, cl, c'⟩ ["self", "words"] (spL2 K doLead) := by
  obtain ⟨fd, F, bd⟩ := ok_lead (P := P) (w := w) (base := base) T
  refine lok_of (nscope_by (by show nscB ["self", "words"] [] ["self", "words"] (dLam 5).2.2 = true; decide +kernel)) (fun _ _ => rfl) fun A outer s H f ws Q E hr hl hsp => ?_
  obtain ⟨c, b, dx, t, ans, wl, w0, x, st, s', rfl, hw, ci, hb, ok, hz, m⟩ := hsp
  obtain ⟨bdx, bt, as, bp, bwa, bl, bi⟩ := hb.out
  refine ⟨_, pe_meth (pe_fld (pv 0) rfl) T.c_Board T.h_Board_lead F hr bd .nil (passes_call (E := E) (takes_of rfl rfl rfl rfl) fun _ _ _ _ h => h) (pa_cons (pe_ix ix_list (pv 1) pe_int (fun _ _ => rfl)) pa_nil), ?_⟩
  exact c_meth (ev_desk T ci (ev_var rfl)) bi.at_ rfl (ea_cons (ev_op (ev_var rfl) ev_c (rv_ixL (sq_of hw) (atI_nat (j := 1) rfl))) ea_nil) fun H1 e1 => ⟨b, st, s', x, rfl, hb.ex e1, ok, hz, m.ex e1⟩
theorem lok_leave (T : Tp K mg) (qual : Str) (cl : List (Str × Addr)) (c' : Addr) : LOk P w K mg base (L2.CX P w) 6 ⟨qual, (dLam 6).1, (dLam 6).2.1, (dLam 6).2.2, cl, c'⟩ ["self", "words"] (spL2 K doLeave) := by
  obtain ⟨fd, F, bd⟩ := ok_leave (P := P) (w := w) (base := base) T
  refine lok_of (nscope_by (by show nscB ["self", "words"] [] ["self", "words"] (dLam 6).2.2 = true; decide +kernel)) (fun _ _ => rfl) fun A outer s H f ws Q E hr hl hsp => ?_
  obtain ⟨c, b, dx, t, ans, wl, w0, x, st, s', rfl, hw, ci, hb, ok, hz, m⟩ := hsp
  obtain ⟨bdx, bt, as, bp, bwa, bl, bi⟩ := hb.out
  refine ⟨_, pe_meth (pe_fld (pv 0) rfl) T.c_Board T.h_Board_leave F hr bd .nil (passes_call (E := E) (takes_of rfl rfl rfl rfl) fun _ _ _ _ h => h) (pa_cons (pe_ix ix_list (pv 1) pe_int (fun _ _ => rfl)) pa_nil), ?_⟩
  exact c_meth (ev_desk T ci (ev_var rfl)) bi.at_ rfl (ea_cons (ev_op (ev_var rfl) ev_c (rv_ixL (sq_of hw) (atI_nat (j := 1) rfl))) ea_nil) fun H1 e1 => ⟨b, st, s', x, rfl, hb.ex e1, ok, hz, m.ex e1⟩
end K54
/-! K27 -/
namespace K54
open PySem PySem.Spec PyProof.Rows L2 LamX NdefX Evl
def tIfR (tc : TT) (te : TE) (u : TR) : TR := fun Dn Dr σ H => tc σ H fun b H1 => if b = true then te σ H1 (fun v H2 => Dr v σ H2) else u Dn Dr σ H1
def tStR (t : TS) (u : TR) : TR := fun Dn Dr σ H => t { nx := u Dn Dr, rt := fun _ _ => False } σ H
theorem prs_ifN {X : Cx} {tc : TT} {te : TE} {u : TR} {c e : Expr} {p pos : Pos} {rest : List Stmt} (hc : PT X c tc) (he : PE X e te) (h2 : PRs X rest u) : PRs X (.If c [.Return (some e) p] [] pos :: rest) (tIfR tc te u) := prs_if hc he h2
theorem prs_stN {X : Cx} {t : TS} {u : TR} {st : Stmt} {rest : List Stmt} (h1 : PS X st t) (h2 : PRs X rest u) : PRs X (st :: rest) (tStR t u) := prs_st h1 h2
section
variable {σ : L2.St} {H H' : Hp} {te : TE} {tc : TT} {u : TR} {Dn : L2.St → Hp → Prop} {Dr : V → L2.St → Hp → Prop} {D : Ends} {tz : TS} {b : Bool}
theorem r_if (h : EvT tc σ H b) (h1 : b = true → ∀ H1, Ex H H1 → te σ H1 (fun v H2 => Dr v σ H2)) (h2 : b = false → ∀ H1, Ex H H1 → u Dn Dr σ H1) : tIfR tc te u Dn Dr σ H := h H (Ex.refl H) _ fun H1 e => by
  cases b with
  | true => exact h1 rfl H1 e
  | false => exact h2 rfl H1 e
theorem r_asgP {i : Nat} {R : V → Hp → Prop} (h : EvP te σ H R) (k : ∀ v H1, Ex H H1 → R v H1 → u Dn Dr (σ.set i (some v)) H1) : tStR (tAsg te (gName i)) u Dn Dr σ H := h H (Ex.refl H) _ k
theorem q_asgRaw {i : Nat} (h : te σ H fun v H1 => tz D (σ.set i (some v)) H1) : tSeq (tAsg te (gName i)) tz D σ H := h
end
variable {P : Program} {w : World} {K : PySem.W.Frag} {mg : Str → Option Value} {base : Heap}
/-- the function at f does what the words say -/
def Act (P : Program) (w : World) (K : PySem.W.Frag) (mg : Str → Option Value) (base : Heap) (c wl : Addr) (ws : List Str) (f c1 c2 : Addr) (H' : Hp) : Prop := ∃ F fr sp k ws', H' f = some (LamO f F) ∧ H' F.c = some (CodeO F.c F.qual) ∧ LOk P w K mg base (L2.CX P w) k F fr sp ∧ k ≤ 6 ∧ Capt F fr c1 c2 "self" "words" c wl ws' ∧
  ∀ Hm b st s dx t ans Q E, CIn K Hm c b dx t ans → BoardAt K Hm b (st ++ [s]) → s.Ok → st.length ≤ 1000 → Hm wl = some (.lst (ws.map V.str)) → MutP K Hm b (doWords st s ws) Q E → sp ws' Hm Q E
def spDeed (P : Program) (w : World) (K : PySem.W.Frag) (mg : Str → Option Value) (base : Heap) : Sp := fun vs H Q _ => ∃ c ws, vs = [.ref c, .str (Txt.join (" " : Str) ws)] ∧ DW ws ∧ (Txt.join (" " : Str) ws).length ≤ 1000 ∧ Tabs (TT2 K) H ∧
  ∀ f Hm c1 c2 wl, FT K [] H Hm → Hm wl = some (.lst (ws.map V.str)) → Hm c1 = none → Hm c2 = none → c1 ≠ c2 → Act P w K mg base c wl ws f c1 c2 Hm → Q (.ref f) (upd (upd Hm c1 (CellO c1 (.ref c))) c2 (CellO c2 (.ref wl)))
theorem clo1 {cells : List (Str × Addr)} {c1 : Addr} (h1 : cells.lookup ("self" : Str) = some c1) : cloFrom cells [(("self" : Str), NameKind.free)] [] = [(("self" : Str), c1)] := by
  show [(("self" : Str), (cells.lookup ("self" : Str)).getD 0)] = _
  rw [h1]
  rfl
theorem clo2 {cells : List (Str × Addr)} {c1 c2 : Addr} (h1 : cells.lookup ("self" : Str) = some c1) (h2 : cells.lookup ("words" : Str) = some c2) : cloFrom cells [(("self" : Str), NameKind.free), (("words" : Str), NameKind.free)] [] = [(("words" : Str), c2), (("self" : Str), c1)] := by
  show [(("words" : Str), (cells.lookup ("words" : Str)).getD 0), (("self" : Str), (cells.lookup ("self" : Str)).getD 0)] = _
  rw [h1, h2]
  rfl
theorem go_lam {lam : Arguments × Expr × Scope} {qual : Str} {cells : List (Str × Addr)} {fr : List Str} {sp : Sp} {ws' : List V} {c wl c1 c2 : Addr} {ws : List Str} {σ : L2.St} {H H1 : Hp} {Q Qr : VK} (ht : Tabs (TT2 K) H) (e1 : Ex H H1) (hwl : H1 wl = some (.lst (ws.map V.str)))
    (L : ∀ c', LOk P w K mg base (L2.CX P w) 6 ⟨qual, lam.1, lam.2.1, lam.2.2, cloFrom cells lam.2.2.names [], c'⟩ fr sp) (C : ∀ c', Capt ⟨qual, lam.1, lam.2.1, lam.2.2, cloFrom cells lam.2.2.names [], c'⟩ fr c1 c2 "self" "words" c wl ws')
    (A : ∀ Hm b st s dx t ans Q E, CIn K Hm c b dx t ans → BoardAt K Hm b (st ++ [s]) → s.Ok → st.length ≤ 1000 → Hm wl = some (.lst (ws.map V.str)) → MutP K Hm b (doWords st s ws) Q E → sp ws' Hm Q E)
    (k : ∀ f Hm c1 c2 wl, FT K [] H Hm → Hm wl = some (.lst (ws.map V.str)) → Hm c1 = none → Hm c2 = none → c1 ≠ c2 → Act P w K mg base c wl ws f c1 c2 Hm → Q (.ref f) (upd (upd Hm c1 (CellO c1 (.ref c))) c2 (CellO c2 (.ref wl))))
    (kr : ∀ f H2, (H2 c1 = none → H2 c2 = none → c1 ≠ c2 → Q (.ref f) (upd (upd H2 c1 (CellO c1 (.ref c))) c2 (CellO c2 (.ref wl)))) → Qr (.ref f) H2) :
    tLamE (TT2 K) (fun c' => ⟨qual, lam.1, lam.2.1, lam.2.2, cloFrom cells lam.2.2.names [], c'⟩) σ H1 Qr := by
  refine ⟨ht.ext e1, fun f c' H2 eN nn t2 hf f2 k2 => kr f H2 fun n1 n2 ne => k f H2 c1 c2 wl ⟨(Fm.of e1).trans (Fm.ofN eN), t2⟩ (eN _ _ hwl fun _ z => nomatch z) n1 n2 ne ?_⟩
  exact ⟨_, fr, sp, 6, ws', f2, k2, L c', Nat.le_refl _, C c', A⟩
abbrev NDeed : List Str := ["self", "line", "words", "word"]
theorem scDeed : FnScope NDeed ["self", "line"] (defScope sConsoleDeed) := ⟨rfl, rfl, rfl, by decide +kernel, rfl, by decide +kernel, by decide +kernel⟩
theorem ok_deed (T : Tp K mg) (TB : TB2 base mg K) : C8.Met P w K mg base 2 (He.ga K "Console") "deed" (spDeed P w K mg base) [] := by
  obtain ⟨fd, F⟩ := T.f_Console_deed
  refine ⟨_, fd, ["self", "line"], [], T.c_Console, T.h_Console_deed, ?_, F.bindsN (fun _ _ _ _ _ _ us hl => match us, hl with | [_, _], _ => rfl), .nil⟩
  refine ok_cells (p := ("Console", some "deed")) (i1 := 0) (i2 := 2) (x1 := "self") (x2 := "words") F rfl scDeed rfl rfl (by decide +kernel) (by decide +kernel) (by decide) (fun vs H Q E h => ?_) (fun A outer s H vs Q E c1 c2 hr h hc1 hc2 => ?_)
  · obtain ⟨c, ws, rfl, _⟩ := h
    rfl
  · obtain ⟨c, ws, rfl, dw, hlen, ht, k⟩ := h
    have nd := scDeed.nd
    obtain ⟨dn1, dn2, dn3⟩ := dw.names
    have hm : ((tabC K).2, ("Console.deed.<locals>.<lambda>" : Str)) ∈ TT2 K := List.mem_cons_of_mem _ List.mem_cons_self
    have hu : ∀ p ∈ TT2 K, p.1 = (tabC K).2 → p.2 = ("Console.deed.<locals>.<lambda>" : Str) := fun p hp e => by
      rcases List.mem_cons.mp hp with z | z
      · rw [z] at e
        exact absurd e T.exs.d
      · have z' : p = ((tabC K).2, ("Console.deed.<locals>.<lambda>" : Str)) := by simpa using z
        rw [z']
    refine ⟨_, prs_stN (ps_set (i := 2) nd rfl (Or.inr rfl) (pe_split (pv 1) pe_str))
      (prs_ifN (pt_cmpR op_eq (pv 1) pe_str (nomark _)) (pe_lam (T := TT2 K) TB.c rfl hm hu (lamS_by (by show lamSB (defScope sConsoleDeed) _ = true; decide +kernel)) rfl)
      (prs_ifN (pt_not (pt_val (pb (cr_all rfl) T.z_all PyProof.Rows.boot_all (pe_lc (own := [("word", 3)]) (g := gName 3) (tt := tYes) rfl nd (pi_list (pv 2)) (blkOk_by (N := NDeed) (sc := defScope sConsoleDeed) (by decide +kernel))
          (fun _ _ _ _ _ => pg_name (i := 3) nd rfl (Or.inl rfl)) (fun _ _ _ _ _ => pts_nil) (fun _ _ _ _ _ => C8.pe_c (ok_is_name T) hr (by decide) rfl (pa_cons (pv 3) pa_nil)))))) pe_non
      (prs_ifN (PW.pt (pw_and (pt_cmpR op_eq (pb call_len T.z_len PySem.boot_len (pv 2)) pe_int (nomark _)) (pw_and1 (pt_cmpR op_eq (pe_ix ix_list (pv 2) pe_int (fun _ _ => rfl)) pe_str (nomark _))))) (pe_lam (T := TT2 K) TB.c rfl hm hu (lamS_by (by show lamSB (defScope sConsoleDeed) _ = true; decide +kernel)) rfl)
      (prs_ifN (PW.pt (pw_and (pt_cmpR op_eq (pb call_len T.z_len PySem.boot_len (pv 2)) pe_int (nomark _)) (pw_and1 (pt_cmpR op_eq (pe_ix ix_list (pv 2) pe_int (fun _ _ => rfl)) pe_str (nomark _))))) (pe_lam (T := TT2 K) TB.c rfl hm hu (lamS_by (by show lamSB (defScope sConsoleDeed) _ = true; decide +kernel)) rfl)
      (prs_ifN (PW.pt (pw_and (pt_cmpR op_eq (pb call_len T.z_len PySem.boot_len (pv 2)) pe_int (nomark _)) (pw_and1 (pt_cmpR op_eq (pe_ix ix_list (pv 2) pe_int (fun _ _ => rfl)) pe_str (nomark _))))) (pe_lam (T := TT2 K) TB.c rfl hm hu (lamS_by (by show lamSB (defScope sConsoleDeed) _ = true; decide +kernel)) rfl)
      (prs_ifN (PW.pt (pw_and (pt_cmpR op_eq (pb call_len T.z_len PySem.boot_len (pv 2)) pe_int (nomark _)) (pw_and1 (pt_cmpR op_eq (pe_ix ix_list (pv 2) pe_int (fun _ _ => rfl)) pe_str (nomark _))))) (pe_lam (T := TT2 K) TB.c rfl hm hu (lamS_by (by show lamSB (defScope sConsoleDeed) _ = true; decide +kernel)) rfl)
      (prs_ret pe_non))))))), ?_⟩
    refine r_asgP (evp_split (b := (" " : Str)) (ev_var rfl) ev_c (by decide +kernel) (Nat.le_trans hlen (by decide))) fun v H1 e1 hv => ?_
    rw [split_words dn1 dn2] at hv
    obtain ⟨wl, rfl, hwl⟩ := hv
    refine r_if (b := decide (Txt.join (" " : Str) ws = "undo")) (et_line (ev_var rfl)) (fun hb H2 e2 => ?_) (fun hb H2 e2 => ?_)
    · have hws := (line_undo dw).mp (of_decide_eq_true hb)
      refine go_lam (lam := dLam 1) (ws := ws) ht (e1.trans e2) (e2 _ _ hwl) (fun c' => lok_undo T _ _ c') (fun c' => .inl ⟨clo1 hc1, rfl, rfl⟩) (fun Hm b st s dx t ans Q E ci hb ok hz hw m => ⟨c, b, dx, t, ans, st, s, rfl, ci, hb, hz, ?_⟩) k (fun f H3 q => ⟨c, wl, rfl, rfl, q⟩)
      rw [hws] at m
      exact m
    · have hnu : ws ≠ [("undo" : Str)] := fun z => of_decide_eq_false hb ((line_undo dw).mpr z)
      have e12 := e1.trans e2
      have hwl2 := e2 _ _ hwl
      refine r_if (b := false) (et_is (et_not (et_B (ev_cb1P (z := .bl true) (lcV (n := (ws.map V.str).length) (fun _ => true) (fun _ => .bl true) (ei_lst (evp_is_ref (ev_var rfl) hwl2)) yx_at (by rw [List.length_map]; omega) (fun i x Hc Hd hi ec hy => ?_)) fun v H3 e3 hv => ?_))) rfl) nofun (fun _ H3 e3 => ?_)
      · obtain ⟨rfl, hx⟩ := hy
        rw [List.getElem?_map] at hx
        obtain ⟨z, hz, rfl⟩ := Option.map_eq_some_iff.mp hx
        exact eg_name ⟨rfl, et_yes, fun _ => ev_call (ea_cons (ev_var rfl) ea_nil) (v_is_name (dn2 z (List.mem_of_getElem? hz)))⟩
      · obtain ⟨p, rfl, hp⟩ := hv
        exact rc_allT hp fun w hw => by
          obtain ⟨_, _, _, e⟩ := given_mem hw
          exact e
      have e13 := e12.trans e3
      have hwl3 := e3 _ _ hwl2
      have tst : ∀ (n : Nat) (z : Str) (H4 : Hp), H4 wl = some (.lst (ws.map V.str)) → EvT (tAnd (tTest (tOp rEq (tCB (rLenAny K) (tCons (tVar 2) tNil)) (tC (.int (n : Int))))) (tTest (tOp rEq (tOp (rIxL K) (tVar 2) (tC (.int 0))) (tC (.str z))))) ([some (.ref c), some (.str (Txt.join (" " : Str) ws)), some (.ref wl), none] : L2.St) H4 (decide (ws.length = n) && decide (ws.head? = some z)) := fun n z H4 h4 => by
        obtain ⟨w0, wr, hw0⟩ : ∃ w0 wr, ws = w0 :: wr := by
          cases ws with
          | nil => exact absurd rfl dn1
          | cons a r => exact ⟨a, r, rfl⟩
        refine et_and (et_is (et_test (ev_op (ev_cb1 (ev_var rfl) (rc_lenL (sq_of h4))) ev_c (rv_eq rfl))) ?_) (fun _ => et_is (et_test (ev_op (ev_op (ev_var rfl) ev_c (rv_ixL (v := .str w0) (sq_of h4) (atI_nat (j := 0) (by rw [hw0]; rfl)))) ev_c (rv_eq rfl))) ?_)
        · rw [dV, List.length_map]
          exact decide_eq_decide.mpr (by omega)
        · rw [dS, hw0]
          exact decide_eq_decide.mpr ⟨fun q => by rw [q]; rfl, fun q => Option.some.inj q⟩
      have lam3 : ∀ (i : Nat) (op : Stt → Str → Str → Option Stt) (H4 : Hp), True := fun _ _ _ => trivial
      rcases dw with hws | ⟨w0, x, y, hws, hw0, hx, hy⟩ | ⟨w0, x, hws, hw0, hx⟩
      · exact absurd hws hnu
      · rcases hw0 with h0 | h0
        · refine r_if (b := true) (et_is (tst 3 "tie" H3 hwl3) (by rw [hws, h0]; rfl)) (fun _ H4 e4 => ?_) nofun
          refine go_lam (lam := dLam 3) (ws := ws) ht (e13.trans e4) (e4 _ _ hwl3) (fun c' => lok_tie T _ _ c') (fun c' => .inr ⟨clo2 hc1 hc2, rfl, rfl⟩) (fun Hm b st s dx t ans Q E ci hb ok hz hw m => ⟨c, b, dx, t, ans, wl, w0, x, y, st, s, rfl, ?_, ci, hb, ok, hz, ?_⟩) k (fun f H3 q => ⟨c, wl, rfl, rfl, q⟩)
          · rw [hw, hws]
            rfl
          · rw [hws, h0] at m
            exact m
        · refine r_if (b := false) (et_is (tst 3 "tie" H3 hwl3) (by rw [hws, h0]; exact Bool.and_eq_false_iff.mpr (.inr (decide_eq_false fun q => absurd (Option.some.inj q) (by decide +kernel))))) nofun (fun _ H4 e4 => ?_)
          refine r_if (b := true) (et_is (tst 3 "cut" H4 (e4 _ _ hwl3)) (by rw [hws, h0]; rfl)) (fun _ H5 e5 => ?_) nofun
          refine go_lam (lam := dLam 4) (ws := ws) ht (e13.trans (e4.trans e5)) (e5 _ _ (e4 _ _ hwl3)) (fun c' => lok_cut T _ _ c') (fun c' => .inr ⟨clo2 hc1 hc2, rfl, rfl⟩) (fun Hm b st s dx t ans Q E ci hb ok hz hw m => ⟨c, b, dx, t, ans, wl, w0, x, y, st, s, rfl, ?_, ci, hb, ok, hz, ?_⟩) k (fun f H3 q => ⟨c, wl, rfl, rfl, q⟩)
          · rw [hw, hws]
            rfl
          · rw [hws, h0] at m
            exact m
      · have l2 : ws.length = 2 := by rw [hws]; rfl
        refine r_if (b := false) (et_is (tst 3 "tie" H3 hwl3) (by rw [l2]; rfl)) nofun (fun _ H4 e4 => ?_)
        refine r_if (b := false) (et_is (tst 3 "cut" H4 (e4 _ _ hwl3)) (by rw [l2]; rfl)) nofun (fun _ H5 e5 => ?_)
        have hwl5 := e5 _ _ (e4 _ _ hwl3)
        have e15 := e13.trans (e4.trans e5)
        rcases hw0 with h0 | h0
        · refine r_if (b := true) (et_is (tst 2 "lead" H5 hwl5) (by rw [hws, h0]; rfl)) (fun _ H6 e6 => ?_) nofun
          refine go_lam (lam := dLam 5) (ws := ws) ht (e15.trans e6) (e6 _ _ hwl5) (fun c' => lok_lead T _ _ c') (fun c' => .inr ⟨clo2 hc1 hc2, rfl, rfl⟩) (fun Hm b st s dx t ans Q E ci hb ok hz hw m => ⟨c, b, dx, t, ans, wl, w0, x, st, s, rfl, ?_, ci, hb, ok, hz, ?_⟩) k (fun f H3 q => ⟨c, wl, rfl, rfl, q⟩)
          · rw [hw, hws]
            rfl
          · rw [hws, h0] at m
            exact m
        · refine r_if (b := false) (et_is (tst 2 "lead" H5 hwl5) (by rw [hws, h0]; exact Bool.and_eq_false_iff.mpr (.inr (decide_eq_false fun q => absurd (Option.some.inj q) (by decide +kernel))))) nofun (fun _ H6 e6 => ?_)
          refine r_if (b := true) (et_is (tst 2 "leave" H6 (e6 _ _ hwl5)) (by rw [hws, h0]; rfl)) (fun _ H7 e7 => ?_) nofun
          refine go_lam (lam := dLam 6) (ws := ws) ht (e15.trans (e6.trans e7)) (e7 _ _ (e6 _ _ hwl5)) (fun c' => lok_leave T _ _ c') (fun c' => .inr ⟨clo2 hc1 hc2, rfl, rfl⟩) (fun Hm b st s dx t ans Q E ci hb ok hz hw m => ⟨c, b, dx, t, ans, wl, w0, x, st, s, rfl, ?_, ci, hb, ok, hz, ?_⟩) k (fun f H3 q => ⟨c, wl, rfl, rfl, q⟩)
          · rw [hw, hws]
            rfl
          · rw [hws, h0] at m
            exact m
end K54
/-! K28 -/
namespace K54
open PySem PySem.Spec PyProof.Rows L2 LamX NdefX Evl
variable {P : Program} {w : World} {K : PySem.W.Frag} {mg : Str → Option Value} {base : Heap}
/-! ### answer -/
def ansM (st : List Stt) (s : Stt) (ws : List Str) : List Stt × Str := match doWords st s ws with
  | some st' => (st', "done")
  | none => (st ++ [s], "refused")
/-- what is promised of an answer: Q by the value, the heap -/
def AnsP (K : PySem.W.Frag) (H : Hp) (b : Addr) (st : List Stt) (s : Stt) (line : Str) (Q : Str → Hp → Prop) : Prop := (∃ z, askedM s line = some z ∧ LineOk line ∧ ∀ H', FT K [] H H' → Q z H') ∨
  ∃ ws, line = Txt.join (" " : Str) ws ∧ DW ws ∧ ∀ H', FT K [b] H H' → BoardAt K H' b (ansM st s ws).1 → Q (ansM st s ws).2 H'
def spAns (K : PySem.W.Frag) : Sp := fun vs H Q _ => ∃ c b dx t ans st s line, vs = [.ref c, .str line] ∧ CIn K H c b dx t ans ∧ BoardAt K H b (st ++ [s]) ∧ s.Ok ∧ st.length ≤ 1000 ∧ line.length ≤ 1000 ∧ Tabs (TT2 K) H ∧ AnsP K H b st s line fun z H' => Q (.str z) H'
theorem ex_del {Hm H1 : Hp} {c1 c2 : Addr} {o1 o2 : HO} (n1 : Hm c1 = none) (n2 : Hm c2 = none) (e : Ex (upd (upd Hm c1 o1) c2 o2) H1) : Ex Hm (del (del H1 c1) c2) := fun b o h => by
  have b1 : b ≠ c1 := fun z => by rw [z, n1] at h; cases h
  have b2 : b ≠ c2 := fun z => by rw [z, n2] at h; cases h
  rw [del_ne b2, del_ne b1]
  refine e b o ?_
  rw [upd_ne b2, upd_ne b1]
  exact h
theorem board_ne {H : Hp} {c b dx t : Addr} {ans : List V} {st : List Stt} (ci : CIn K H c b dx t ans) (hb : BoardAt K H b st) : b ≠ c := fun z => by
  obtain ⟨bdx, bt, as, e, _⟩ := hb.at_
  rw [z, ci.at_] at e
  have e2 := congrArg (fun o : Option HO => match o with | some (.ins _ _ fs) => fs.length | _ => 0) e
  have e3 : (2 : Nat) = 1 := e2
  omega
/-- act(), no context said -/
def tActP (P : Program) (w : World) (K : PySem.W.Frag) (mg : Str → Option Value) (base : Heap) (CX : CXT) (j i : Nat) (y1 y2 : Str) (E : XK) : TE := fun σ H Q => ∃ (f : Addr) (F : LF) (fr : List Str) (sp : Sp) (k : Nat) (c1 c2 a1 a2 : Addr) (ws : List V), σ[i]? = some (some (.ref f)) ∧ H f = some (LamO f F) ∧ H F.c = some (CodeO F.c F.qual) ∧ LOk P w K mg base CX k F fr sp ∧ k ≤ j ∧
  H c1 = some (CellO c1 (.ref a1)) ∧ H c2 = some (CellO c2 (.ref a2)) ∧ c1 ≠ c2 ∧ Capt F fr c1 c2 y1 y2 a1 a2 ws ∧ sp ws (del (del H c1) c2) Q E
theorem pe_actP {X : Cx} {CX : CXT} {j i : Nat} {x y1 y2 : Str} {E : XK} {p pos : Pos} (hr : Room j X.A) (h12 : y1 ≠ y2) (hN : X.N[i]? = some x) (hv : Vis X.env.scope x) (hx : Passes CX X E) (hP : X.prog = P) (hw : X.w = w) (hK : X.K = K) (hm : X.mg = mg) (hb : X.base = base) (hd : (x == ("__debug__" : Str)) = false := by decide) (hcd : (x == ("__classdict__" : Str)) = false := by decide) :
    PE X (.Call (.Name x p) [] [] pos) (tActP P w K mg base CX j i y1 y2 E) := by
  subst hP hw hK hm hb
  exact pe_actC hr h12 hN hv hx hd hcd
theorem scAnswer : FnScope ["self", "line", "told", "act"] ["self", "line"] (defScope sConsoleAnswer) := ⟨rfl, rfl, rfl, by decide +kernel, rfl, by decide +kernel, by decide +kernel⟩
theorem ok_answer (T : Tp K mg) (TB : TB2 base mg K) : C8.Met P w K mg base 9 (He.ga K "Console") "answer" (spAns K) [] := by
  obtain ⟨fd, F⟩ := T.f_Console_answer
  refine ⟨_, fd, ["self", "line"], [], T.c_Console, T.h_Console_answer, ?_, F.bindsN (fun _ _ _ _ _ _ us hl => match us, hl with | [_, _], _ => rfl), .nil⟩
  refine F.ok scAnswer (fun vs H Q E h => ?_) (fun cdv A outer s H vs Q E hr h => ?_)
  · obtain ⟨c, b, dx, t, ans, st, s, line, rfl, _⟩ := h
    rfl
  · obtain ⟨c, b, dx, t, ans, st, s', line, rfl, ci, hb, ok, hz, hlen, ht, hA⟩ := h
    have nd := scAnswer.nd
    refine ⟨_, PSs.nox (pss_cons (ps_set (i := 2) nd rfl (Or.inl rfl) (C8.pe_mt (ok_asked T TB) hr (by decide) (pv 0) (pa_cons (pv 1) pa_nil)))
      (pss_cons (ps_if (pt_cmpR op_notN (pv 2) pe_non (nomark _)) (pss_one (ps_ret (pv 2))) pss_nil)
      (pss_cons (ps_set (i := 3) nd rfl (Or.inl rfl) (C8.pe_mt (ok_deed T TB) hr (by decide) (pv 0) (pa_cons (pv 1) pa_nil)))
      (pss_cons (ps_if (pt_cmpR op_isN (pv 3) pe_non (nomark _)) pss_never pss_nil)
      (pss_cons (ps_try_tup rfl rfl ⟨rfl, T.g_InvalidName⟩ ⟨rfl, T.g_InvalidTie⟩ ⟨rfl, T.g_NothingToUndo⟩ ⟨rfl, T.g_UnknownName⟩
        (fun W pn xe tk po => pss_one (ps_expr (pe_actP (P := P) (w := w) (K := K) (mg := mg) (base := base) (CX := L2.CX P w) (j := 8) (i := 3) (y1 := "self") (y2 := "words") (E := fun cls d H => ∀ σ, W cls d σ H) hr (by decide) rfl (Or.inl rfl) (passes_call tk fun cls d σ H h => h σ) rfl rfl rfl rfl rfl))) (fun a pn => pss_one (ps_ret pe_str)))
      (pss_one (ps_ret pe_str))))))), ?_⟩
    refine q_asgRaw (c_meth (ev_var rfl) ci.at_ rfl (ea_cons (ev_var rfl) ea_nil) fun H1 e1 => ?_)
    rcases hA with ⟨z, hz', lo, k⟩ | ⟨ws, rfl, dw, k⟩
    · refine ⟨c, b, dx, t, ans, st, s', line, rfl, ci.ex e1, hb.ex e1, ok, ht.ext e1, lo, fun H2 f2 => ?_⟩
      rw [hz']
      have f02 := (FT.of e1 ht).trans f2
      refine q_when (b := true) (et_is (et_test (ev_op (ev_var rfl) ev_c rv_notN)) rfl) (fun _ H3 e3 => ?_) nofun
      exact s_ret (ev_var rfl) fun H4 e4 => k H4 (f02.trans (FT.of (e3.trans e4) f02.2))
    · obtain ⟨lo, hn⟩ := dw_line dw
      refine ⟨c, b, dx, t, ans, st, s', _, rfl, ci.ex e1, hb.ex e1, ok, ht.ext e1, lo, fun H2 f2 => ?_⟩
      rw [hn]
      have f02 := (FT.of e1 ht).trans f2
      refine q_when (b := false) (et_is (et_test (ev_op (ev_var rfl) ev_c rv_notN)) rfl) nofun (fun _ H3 e3 => ?_)
      have f03 := f02.trans (FT.of e3 f02.2)
      have ci3 := ci.fm f03.1 Mb.nil (by simp)
      have hb3 := hb.fm f03.1 Mb.nil (by simp)
      refine q_asgRaw (c_meth (ev_var rfl) ci3.at_ rfl (ea_cons (ev_var rfl) ea_nil) fun H4 e4 => ⟨c, ws, rfl, dw, hlen, f03.2.ext e4, fun f Hm c1 c2 wl fm hwl n1 n2 ne hAct => ?_⟩)
      have f0m := (f03.trans (FT.of e4 f03.2)).trans fm
      obtain ⟨Fl, fr, sp, kk, ws', hf, hc, L, hk, cap, act⟩ := hAct
      refine q_when (b := false) (et_is (et_test (ev_op (ev_var rfl) ev_c rv_isN)) rfl) nofun (fun _ H5 e5 => ?_)
      have up : ∀ {x : Addr} {o : HO}, Hm x = some o → H5 x = some o := fun {x o} h => e5 _ _ (by
        rw [upd_ne (fun z => by rw [z, n2] at h; cases h), upd_ne (fun z => by rw [z, n1] at h; cases h)]
        exact h)
      have ed := ex_del n1 n2 e5
      have cim := ci.fm f0m.1 Mb.nil (by simp)
      have hbm := hb.fm f0m.1 Mb.nil (by simp)
      refine ⟨f, Fl, fr, sp, kk, c1, c2, c, wl, ws', rfl, up hf, up hc, L, Nat.le_trans hk (by decide), e5 _ _ (by rw [upd_ne ne]; exact upd_same), e5 _ _ upd_same, ne, cap, act _ b st s' dx t ans _ _ (cim.ex ed) (hbm.ex ed) ok hz (ed _ _ hwl) ?_⟩
      have fdel : FT K [] H (del (del H5 c1) c2) := f0m.trans (FT.of ed f0m.2)
      have hbd := hbm.ex ed
      obtain ⟨bdx, bt, bas, bp, bwa, bl, bi⟩ := hbd.out
      refine ⟨fun st' hst H6 eb hb6 => ?_, fun hst cls d H6 he e6 σ => ⟨he, ?_⟩⟩
      · show tRet (tC (V.str ("done" : Str))) { nx := fun _ H' => Q .non H', rt := Q } [some (.ref c), some (.str (Txt.join (" " : Str) ws)), some .non, some (.ref f)] H6
        have t6 : Tabs (TT2 K) H6 := tabs_but eb bi.at_ (fun _ z => nomatch z) (fun _ z => nomatch z) fdel.2
        have f6 : FT K [b] H H6 := (fdel.mono (by simp)).trans ⟨eb.fm, t6⟩
        refine s_ret ev_c fun H7 e7 => ?_
        have hM : ansM st s' ws = (st', ("done" : Str)) := by
          unfold ansM
          rw [hst]
        have := k H7 (f6.trans (FT.of e7 f6.2)) (by rw [hM]; exact hb6.ex e7)
        rw [hM] at this
        exact this
      · have f6 : FT K [b] H H6 := (fdel.trans (FT.of e6 fdel.2)).mono (by simp)
        refine s_ret ev_c fun H7 e7 => ?_
        have hM : ansM st s' ws = (st ++ [s'], ("refused" : Str)) := by
          unfold ansM
          rw [hst]
        have := k H7 (f6.trans (FT.of e7 f6.2)) (by rw [hM]; exact (hbd.ex e6).ex e7)
        rw [hM] at this
        exact this
/-! ### say -/
def spSay (K : PySem.W.Frag) : Sp := fun vs H Q _ => ∃ c b dx t ans st s line, vs = [.ref c, .str line] ∧ CIn K H c b dx t ans ∧ BoardAt K H b (st ++ [s]) ∧ s.Ok ∧ st.length ≤ 1000 ∧ line.length ≤ 1000 ∧ ans.length ≤ 90000 ∧ Tabs (TT2 K) H ∧
  ((∃ z, askedM s line = some z ∧ LineOk line ∧ ∀ t' H', FT K [b, c] H H' → CIn K H' c b dx t' (ans ++ [.str z]) → BoardAt K H' b (st ++ [s]) → Q (.str z) H') ∨
    ∃ ws, line = Txt.join (" " : Str) ws ∧ DW ws ∧ ∀ t' H', FT K [b, c] H H' → CIn K H' c b dx t' (ans ++ [.str (ansM st s ws).2]) → BoardAt K H' b (ansM st s ws).1 → Q (.str (ansM st s ws).2) H')
theorem scSay : FnScope ["self", "line", "told"] ["self", "line"] (defScope sConsoleSay) := ⟨rfl, rfl, rfl, by decide +kernel, rfl, by decide +kernel, by decide +kernel⟩
theorem ok_say (T : Tp K mg) (TB : TB2 base mg K) : C8.Met P w K mg base 10 (He.ga K "Console") "say" (spSay K) [] := by
  obtain ⟨fd, F⟩ := T.f_Console_say
  refine ⟨_, fd, ["self", "line"], [], T.c_Console, T.h_Console_say, ?_, F.bindsN (fun _ _ _ _ _ _ us hl => match us, hl with | [_, _], _ => rfl), .nil⟩
  refine F.ok scSay (fun vs H Q E h => ?_) (fun cdv A outer s H vs Q E hr h => ?_)
  · obtain ⟨c, b, dx, t, ans, st, s, line, rfl, _⟩ := h
    rfl
  · obtain ⟨c, b, dx, t, ans, st, s', line, rfl, ci, hb, ok, hz, hlen, hans, ht, hA⟩ := h
    have nd := scSay.nd
    refine ⟨_, PSs.nox (pss_cons (ps_if (pt_not (pt_val (pis T.z_isinstance T.z_str PyProof.Rows.boot_str (pv 1)))) pss_never pss_nil)
      (pss_cons (ps_set (i := 2) nd rfl (Or.inl rfl) (C8.pe_mt (ok_answer T TB) hr (by decide) (pv 0) (pa_cons (pv 1) pa_nil)))
      (pss_cons (ps_fld (pv 0) (pe_op op_catA (pe_fld (pv 0) rfl) (pe_tup (pa_cons (pv 2) pa_nil))) rfl)
      (pss_one (ps_ret (pv 2)))))), ?_⟩
    refine q_when (b := false) (et_is (et_not (et_B (ev_cb (ea_cons (ev_var rfl) (ea_cons ev_c ea_nil)) rc_isS))) rfl) nofun (fun _ H1 e1 => ?_)
    have nb := board_ne ci hb
    -- behind the answer: the answers' tuple grows
    have tail : ∀ (z : Str) (st' : List Stt) (bs : List Addr) (H2 : Hp), (∀ x ∈ bs, x = b) → FT K bs H H2 → BoardAt K H2 b st' → (∀ t' H', FT K [b, c] H H' → CIn K H' c b dx t' (ans ++ [.str z]) → BoardAt K H' b st' → Q (.str z) H') →
        tSeq (sFld K (tVar 0) (tOp (rCatA K) (tFld K (tVar 0) "answers") (tTup (tCons (tVar 2) tNil))) "answers") (tRet (tVar 2)) { nx := fun _ H' => Q .non H', rt := Q } [some (.ref c), some (.str line), some (.str z)] H2 := fun z st' bs H2 hbs f2 hb2 kk => by
      have mb : Mb H bs := fun x hx => by
        rw [hbs x hx]
        obtain ⟨bdx, bt, as, bp, bwa, bl, bi⟩ := hb.out
        exact mb_board bi.at_ (by show 1 ≤ 2; decide) b List.mem_cons_self
      have ci2 := ci.fm f2.1 mb (fun hm => nb (hbs c hm).symm)
      refine q_fldP (R := fun v H => ∃ q, v = .ref q ∧ Rd H q (.tup (ans ++ [.str z]))) (evp_snocT (R := fun v _ => v = .str z) (ev_answers T ci2 (ev_var rfl)) ci2.ans (fun _ _ => EvP.of (ev_var rfl)) (by omega) (fun _ _ _ _ h => h) fun v q H3 e3 hv hq => ⟨q, rfl, by rw [hv] at hq; exact hq⟩) (fun _ _ => ev_var rfl) ci2.at_ T.c_Console T.n_Console_answers (by show 2 < 1000; omega) (fun v H3 H4 e ⟨q, ev, hq⟩ => ⟨q, ev, ex_rd e hq⟩) ?_
      rintro v H3 e3 ⟨q, rfl, hq⟩
      have hc3 := e3 _ _ ci2.at_
      have mc : Mb H3 [c] := mb_board hc3 (by show 2 ≤ 2; decide)
      have fp : Fm [c] H3 (upd H3 c (.ins (He.ga K "Console") dx (putF "answers" (.ref q) [("desk", .ref b), ("answers", .ref t)]))) := Fm.put
      have tp : Tabs (TT2 K) (upd H3 c (.ins (He.ga K "Console") dx (putF "answers" (.ref q) [("desk", .ref b), ("answers", .ref t)]))) := tabs_but (ExB.put (Ex.refl H3)) hc3 (fun _ z => nomatch z) (fun _ z => nomatch z) (f2.2.ext e3)
      refine s_ret (ev_var rfl) fun H4 e4 => kk q H4 ?_ ⟨e4 _ _ upd_same, ex_rd e4 (fp.rd mc hq)⟩ (((hb2.ex e3).fm fp mc (by simpa using nb)).ex e4)
      have g1 : FT K [b, c] H H3 := (f2.trans (FT.of e3 f2.2)).mono fun x hx => by rw [hbs x hx]; exact List.mem_cons_self
      have g2 : FT K [b, c] H3 (upd H3 c (.ins (He.ga K "Console") dx (putF "answers" (.ref q) [("desk", .ref b), ("answers", .ref t)]))) := ⟨fp.mono (by simp), tp⟩
      exact (g1.trans g2).trans (FT.of e4 tp)
    refine q_asgRaw (c_meth (ev_var rfl) (e1 _ _ ci.at_) rfl (ea_cons (ev_var rfl) ea_nil) fun H2 e2 => ⟨c, b, dx, t, ans, st, s', line, rfl, ci.ex (e1.trans e2), hb.ex (e1.trans e2), ok, hz, hlen, ht.ext (e1.trans e2), ?_⟩)
    have f02 : FT K [] H H2 := FT.of (e1.trans e2) ht
    rcases hA with ⟨z, hz', lo, k⟩ | ⟨ws, hl, dw, k⟩
    · refine .inl ⟨z, hz', lo, fun H3 f3 => ?_⟩
      have f03 := f02.trans f3
      exact tail z (st ++ [s']) [] H3 (by simp) f03 (hb.fm f03.1 Mb.nil (by simp)) k
    · refine .inr ⟨ws, hl, dw, fun H3 f3 hb3 => ?_⟩
      have f03 := (f02.mono (by simp)).trans f3
      exact tail (ansM st s' ws).2 (ansM st s' ws).1 [b] H3 (by simp) f03 hb3 k
end K54
/-! K29 -/
namespace K54
open PySem PySem.Spec PyProof.Rows L2 LamX NdefX Evl
section
variable {K : PySem.W.Frag} {σ : L2.St} {H H' : Hp} {te : TE}
def rInt1 : List V → Hp → VK → Prop := fun xs H Q => (∃ i, xs = [.int i] ∧ Q (.int i) H) ∨ ∃ k, xs = [.bl k] ∧ Q (.int (if k then 1 else 0)) H
theorem rc_int {i : Int} : RC rInt1 [.int i] H (.int i) := fun H1 _ Q q => .inl ⟨i, rfl, q H1 (Ex.refl H1)⟩
def rAbs : List V → Hp → VK → Prop := fun xs H Q => ∃ i, xs = [.int i] ∧ Q (.int (if i < 0 then -i else i)) H
theorem rc_abs {i : Int} : RC rAbs [.int i] H (.int (if i < 0 then -i else i)) := fun H1 _ Q q => ⟨i, rfl, q H1 (Ex.refl H1)⟩
theorem evp_cbA {r : List V → Hp → VK → Prop} {ta : TA} {vs : List V} {S : V → Hp → Prop} (h : EvA ta σ H vs) (hr : RCP r vs H S) : EvP (tCB r ta) σ H S := fun H1 e Q q =>
  h H1 e _ fun H2 e2 => hr H2 (e.trans e2) Q fun w H3 e3 => q w H3 (e2.trans e3)
def rDivmod : List V → Hp → VK → Prop := fun xs H Q => ∃ i j, xs = [.int i, .int j] ∧ CDiv i j ∧ ∀ p, H p = none → Q (.ref p) (upd H p (.tup [.int (i / j), .int (i % j)]))
theorem rcp_divmod {i j : Int} (h : CDiv i j) : RCP rDivmod [.int i, .int j] H fun v H1 => ∃ p, v = .ref p ∧ H1 p = some (.tup [.int (i / j), .int (i % j)]) := fun H1 _ Q q => ⟨i, j, rfl, h, fun p hp => q _ _ (Ex.new hp) ⟨p, rfl, upd_same⟩⟩
theorem q_asgE {g : TG} {tz : TS} {D : Ends} {R : V → Hp → Prop} (h : EvP te σ H R) (k : ∀ v H1, Ex H H1 → R v H1 → g v σ H1 fun σ2 H2 => tz D σ2 H2) : tSeq (tAsg te g) tz D σ H := h H (Ex.refl H) _ k
theorem ev_int {i : Int} (h : Ev te σ H (.int i)) : Ev (tCB rInt1 (tCons te tNil)) σ H (.int i) := ev_cb1 h rc_int
end
variable {P : Program} {w : World} {K : PySem.W.Frag} {mg : Str → Option Value} {base : Heap}
/-- a vat: three numbers, the second a rest -/
def IsVat (H : Hp) (v : Addr) : Prop := ∃ x y z : Int, H v = some (.lst [.int x, .int y, .int z]) ∧ 0 ≤ y ∧ y < 2147483423
/-! ### _law_vat -/
def spVat (K : PySem.W.Frag) : Sp := fun vs H Q _ => ∃ (a : Addr) (ns : List Int) (k : Nat), vs = [.ref a, .int (k : Int)] ∧ SqL K H a (ns.map V.int) ∧ ns.length ≤ 1000 ∧ k ≤ 100 ∧ ∀ p H', H p = none → Ex H H' → IsVat H' p → Q (.ref p) H'
abbrev NVat : List Str := ["_law_script", "_law_k", "_law_own", "_law_stirred", "_law_each"]
theorem scVat : FnScope NVat ["_law_script", "_law_k"] (defScope sLawVat) := ⟨rfl, rfl, rfl, by decide +kernel, rfl, by decide +kernel, by decide +kernel⟩
theorem ok_vat (T : Tp K mg) : C8.Cal P w K mg base 1 "_law_vat" (spVat K) [] := by
  obtain ⟨fd, F⟩ := T.f_law_vat
  refine ⟨_, fd, ["_law_script", "_law_k"], [], ?_, T.g_law_vat, F.kp, F.bindsN (fun _ _ _ _ _ _ us hl => match us, hl with | [_, _], _ => rfl), .nil⟩
  refine F.ok scVat (fun vs H Q E h => ?_) (fun cdv A outer s H vs Q E hr h => ?_)
  · obtain ⟨a, ns, k, rfl, _⟩ := h
    rfl
  · obtain ⟨a, ns, k, rfl, ha, hn, hk, kk⟩ := h
    have nd := scVat.nd
    refine ⟨_, PSs.nox (pss_cons (ps_set (i := 2) nd rfl (Or.inl rfl) (pe_ifExp (pt_cmpR op_lt (pv 1) (pb call_len T.z_len PySem.boot_len (pv 0)) (nomark _)) (pty call_int1 T.z_int PyProof.Rows.boot_int (pe_ix ix_list (pv 0) (pv 1) (fun _ _ => rfl))) (pe_op op_add (pe_op op_mul pe_int (pv 1)) pe_int)))
      (pss_cons (ps_set (i := 3) nd rfl (Or.inl rfl) (pe_op op_add pe_int (pe_op op_mul pe_int (pv 1))))
      (pss_cons (ps_for PassesOwn.never rfl (pi_list (pe_op op_cat (pe_slice sl_list (pv 0) po_none (po_some pe_int)) (pe_lst (pa_cons (pv 2) pa_nil)))) (pg_name (i := 4) nd rfl (Or.inl rfl))
        (pss_one (ps_set (i := 3) nd rfl (Or.inl rfl) (pe_op op_mod (pty call_int1 T.z_int PyProof.Rows.boot_int (pe_op op_add (pe_op op_add (pe_op op_mul (pv 3) pe_int) (pty call_int1 T.z_int PyProof.Rows.boot_int (pv 4))) pe_int)) pe_int))))
      (pss_one (ps_ret (pe_lst (pa_cons (pe_ifExp (PW.pt (pw_or (pt_cmpR op_lt (pv 2) pe_int (nomark _)) (pw_or1 (pt_cmpR op_ge (pv 2) (pe_op op_pow pe_int pe_int) (nomark _))))) (pb call_abs T.z_abs PyProof.Rows.boot_abs (pv 2)) pe_int) (pa_cons (pv 3) (pa_cons pe_int pa_nil))))))))), ?_⟩
    obtain ⟨own, hown⟩ : ∃ own : Int, own = if k < ns.length then ns.getD k 0 else 47 * (k : Int) + 37 := ⟨_, rfl⟩
    refine q_asg (v := .int own) (ev_if (b := decide (k < ns.length)) (et_is (et_test (ev_op (ev_var rfl) (ev_cb1 (ev_var rfl) (rc_lenL ha)) rv_I0)) ?_) (fun hb => ?_) (fun hb => ?_)) fun H1 e1 => ?_
    · rw [List.length_map]
      exact decide_eq_decide.mpr (by omega)
    · have hb' := of_decide_eq_true hb
      rw [hown, if_pos hb']
      exact ev_int (ev_op (ev_var rfl) (ev_var rfl) (rv_ixL ha (atI_nat (by rw [List.getElem?_map, List.getElem?_eq_getElem hb', List.getD_eq_getElem?_getD, List.getElem?_eq_getElem hb']; rfl))))
    · rw [hown, if_neg (of_decide_eq_false hb)]
      exact ev_op (ev_op ev_c (ev_var rfl) (rv_I (.inl ⟨by decide, by decide⟩))) ev_c rv_I0
    refine q_asg (ev_op ev_c (ev_op ev_c (ev_var rfl) (rv_I (.inl ⟨by decide, by decide⟩))) rv_I0) fun H2 e2 => ?_
    have e12 := e1.trans e2
    have hel : ∀ x ∈ cutV (ns.map V.int) none (some 45) ++ [V.int own], ∃ i : Int, x = .int i := fun x hx => by
      rcases List.mem_append.mp hx with q | q
      · unfold cutV at q
        obtain ⟨i, _, rfl⟩ := List.mem_map.mp (List.mem_of_mem_drop (List.mem_of_mem_take q))
        exact ⟨i, rfl⟩
      · exact ⟨_, by simpa using q⟩
    refine q_forI (ei_lst (xs := cutV (ns.map V.int) none (some 45) ++ [V.int own]) (evp_cat (xs := cutV (ns.map V.int) none (some 45)) ((EvP.ofL (el_sl (ev_var rfl) eo_none (eo_some ev_c) (ex_l e12 ha)))) (fun H3 e3 => evp_lstV (ea_cons (ev_var rfl) ea_nil) (by show 1 ≤ 100000; omega)) ?_)) yx_at (fun i σ' _ => ∃ (y : Int) (o : Option V), σ' = [some (.ref a), some (.int (k : Int)), some (.int own), some (.int y), o] ∧ (0 < i → 0 ≤ y ∧ y < 2147483423)) (fun _ _ => ⟨_, _, rfl, fun z => absurd z (Nat.lt_irrefl 0)⟩) ?_ ?_
    · have := cutV_length (ns.map V.int) none (some 45)
      rw [List.length_map] at this
      show _ + 1 ≤ _
      omega
    · rintro Hb i x σ' Hc Hd hi eb ebc ⟨y, o, rfl, _⟩ ⟨rfl, hx⟩
      obtain ⟨z, rfl⟩ := hel x (List.mem_of_getElem? hx)
      refine eg_name (s_asg (ev_op (ev_int (ev_op (ev_op (ev_op (ev_var rfl) ev_c (rv_I (.inr ⟨by decide, by decide⟩))) (ev_int (ev_var rfl)) rv_I0) ev_c rv_I0)) ev_c (rv_I (by decide))) fun H3 e3 => ⟨ebc.trans e3, _, _, rfl, fun _ => ⟨Int.emod_nonneg _ (by decide), Int.emod_lt_of_pos _ (by decide)⟩⟩)
    · rintro σ' H3 e3 ⟨y, o, rfl, hy⟩
      have hy' := hy (by rw [List.length_append]; show 0 < _ + 1; omega)
      refine s_retL (xs := [.int (if (decide (own < 0) || decide ((10 : Int) ^ (18 : Int).toNat ≤ own)) = true then (if own < 0 then -own else own) else 0), .int y, .int 0]) (el_lst (ea_cons (ev_if (et_or (et_test (ev_op (ev_var rfl) ev_c rv_I0)) (fun _ => et_test (ev_op (ev_var rfl) (ev_op ev_c ev_c (rv_I ⟨by decide, by decide, by decide⟩)) rv_I0))) (fun hb => ?_) (fun hb => ?_)) (ea_cons (ev_var rfl) (ea_cons ev_c ea_nil))) (by show 3 ≤ 100000; omega)) (fun p H4 hp e4 h4 => kk p H4 (fresh_back (e12.trans e3) hp) ((e12.trans e3).trans e4) ⟨_, y, 0, h4, hy'.1, hy'.2⟩)
      · rw [if_pos hb]
        exact ev_cb1 (ev_var rfl) rc_abs
      · rw [if_neg (by rw [hb]; decide)]
        exact ev_c
/-! ### _law_dip -/
def spDip : Sp := fun vs H Q _ => ∃ v, ∃ n : Nat, vs = [.ref v, .int (n : Int)] ∧ IsVat H v ∧ 1 ≤ n ∧ n ≤ 1000 ∧ ∀ (r : Nat) H', r < n → ExB v H H' → IsVat H' v → Q (.int (r : Int)) H'
abbrev NDip : List Str := ["_law_vat_here", "_law_size", "_law_figure", "_law_factor"]
theorem scDip : FnScope NDip ["_law_vat_here", "_law_size"] (defScope sLawDip) := ⟨rfl, rfl, rfl, by decide +kernel, rfl, by decide +kernel, by decide +kernel⟩
theorem toNat_rest {x : Int} {n : Nat} (h : 1 ≤ n) : ∃ r : Nat, r < n ∧ x % (n : Int) = (r : Int) := by
  have h1 := Int.emod_nonneg x (by omega : (n : Int) ≠ 0)
  have h2 := Int.emod_lt_of_pos x (by omega : (0 : Int) < (n : Int))
  exact ⟨(x % (n : Int)).toNat, by omega, by omega⟩
theorem ok_dip (T : Tp K mg) : C8.Cal P w K mg base 1 "_law_dip" spDip [] := by
  obtain ⟨fd, F⟩ := T.f_law_dip
  refine ⟨_, fd, ["_law_vat_here", "_law_size"], [], ?_, T.g_law_dip, F.kp, F.bindsN (fun _ _ _ _ _ _ us hl => match us, hl with | [_, _], _ => rfl), .nil⟩
  refine F.ok scDip (fun vs H Q E h => ?_) (fun cdv A outer s H vs Q E hr h => ?_)
  · obtain ⟨v, n, rfl, _⟩ := h
    rfl
  · obtain ⟨v, n, rfl, ⟨x, y, z, hv, hy1, hy2⟩, n1, n2, k⟩ := h
    have nd := scDip.nd
    refine ⟨_, PSs.nox (pss_cons (ps_if (pt_cmpR op_gt (pe_ix ix_list (pv 0) pe_int (fun _ _ => rfl)) pe_int (nomark _))
        (pss_cons (ps_asg (pe_callB call_divmod rfl T.z_divmod PyProof.Rows.boot_divmod (pa_cons (pe_ix ix_list (pv 0) pe_int (fun _ _ => rfl)) (pa_cons (pv 1) pa_nil))) (pg_tup (n := 2) rfl (pgs_cons (pg_sub (pv 0) pe_int set_list) (pgs_cons (pg_name (i := 2) nd rfl (Or.inl rfl)) pgs_nil))))
          (pss_one (ps_ret (pv 2)))) pss_nil)
      (pss_cons (ps_asg (pe_op op_add (pe_ix ix_list (pv 0) pe_int (fun _ _ => rfl)) pe_int) (pg_sub (pv 0) pe_int set_list))
      (pss_cons (ps_set (i := 3) nd rfl (Or.inl rfl) (pe_op op_add (pe_op op_mod (pty call_int1 T.z_int PyProof.Rows.boot_int (pe_ix ix_list (pv 0) pe_int (fun _ _ => rfl))) pe_int) pe_int))
      (pss_cons (ps_asg (pe_op op_mod (pty call_int1 T.z_int PyProof.Rows.boot_int (pe_op op_add (pe_op op_mul (pe_op op_add (pe_ix ix_list (pv 0) pe_int (fun _ _ => rfl)) (pe_op op_mul pe_int (pe_ix ix_list (pv 0) pe_int (fun _ _ => rfl)))) (pv 3)) pe_int)) pe_int) (pg_sub (pv 0) pe_int set_list))
      (pss_one (ps_ret (pe_op op_mod (pty call_int1 T.z_int PyProof.Rows.boot_int (pe_op op_fdiv (pe_ix ix_list (pv 0) pe_int (fun _ _ => rfl)) pe_int)) (pv 1)))))))), ?_⟩
    refine q_if (b := decide (0 < x)) (et_test (ev_op (ev_op (ev_var rfl) ev_c (rv_ixL (sq_of hv) (atI_nat (j := 0) rfl))) ev_c rv_I0)) (fun hb H1 e1 => ?_) (fun hb H1 e1 => ?_)
    · refine q_asgE (R := fun w H2 => ∃ p, w = .ref p ∧ H2 p = some (.tup [.int (x / (n : Int)), .int (x % (n : Int))])) (evp_cbA (r := rDivmod) (ea_cons (ev_op (ev_var rfl) ev_c (rv_ixL (sq_of (e1 _ _ hv)) (atI_nat (j := 0) rfl))) (ea_cons (ev_var rfl) ea_nil)) (rcp_divmod ⟨by omega, by omega⟩)) ?_
      rintro w H2 e2 ⟨p, rfl, hp⟩
      have hv2 := (e1.trans e2) _ _ hv
      obtain ⟨r, hr1, hr2⟩ := toNat_rest (x := x) n1
      refine ⟨p, _, rfl, st_of hp, rfl, _, _, rfl, _, rfl, v, _, 0, 0, rfl, rfl, hv2, ixN_nat (j := 0) (by show 0 < 3; omega), _, _, rfl, rfl, ?_⟩
      refine s_ret (v := .int (r : Int)) (ev_var (by rw [hr2]; rfl)) fun H3 e3 => k r H3 hr1 ((ExB.put (e1.trans e2)).trans (ExB.of e3)) ⟨x / (n : Int), y, z, e3 _ _ upd_same, hy1, hy2⟩
    · refine q_setL (j := 2) (e1 _ _ hv) (ev_op (ev_op (ev_var rfl) ev_c (rv_ixL (sq_of (e1 _ _ hv)) (atI_nat (j := 2) rfl))) ev_c rv_I0) (ev_var rfl) ev_c (by show 2 < 3; omega) fun H2 e2 => ?_
      have hv2 : (upd H2 v (.lst [.int x, .int y, .int (z + 1)])) v = some (.lst [.int x, .int y, .int (z + 1)]) := upd_same
      refine q_asg (ev_op (ev_op (ev_int (ev_op (ev_var rfl) ev_c (rv_ixL (sq_of hv2) (atI_nat (j := 1) rfl)))) ev_c (rv_I (by decide))) ev_c rv_I0) fun H3 e3 => ?_
      have hv3 := e3 _ _ hv2
      have f1 := Int.emod_nonneg y (by decide : (29009 : Int) ≠ 0)
      have f2 := Int.emod_lt_of_pos y (by decide : (0 : Int) < 29009)
      refine q_setL (j := 1) hv3 (ev_op (ev_int (ev_op (ev_op (ev_op (ev_op (ev_var rfl) ev_c (rv_ixL (sq_of hv3) (atI_nat (j := 1) rfl))) (ev_op ev_c (ev_op (ev_var rfl) ev_c (rv_ixL (sq_of hv3) (atI_nat (j := 2) rfl))) (rv_I (.inl ⟨by decide, by decide⟩))) rv_I0) (ev_var rfl) (rv_I (.inr ⟨by omega, by omega⟩))) ev_c rv_I0)) ev_c (rv_I (by decide))) (ev_var rfl) ev_c (by show 1 < 3; omega) fun H4 e4 => ?_
      obtain ⟨r, hr1, hr2⟩ := toNat_rest (x := ((y + 15013 * (z + 1)) * (y % 29009 + 7013) + 13) % 2147483423 / 130) n1
      refine s_ret (v := .int (r : Int)) (ev_is (ev_op (ev_int (ev_op (ev_op (ev_var rfl) ev_c (rv_ixL (sq_of upd_same) (atI_nat (j := 1) rfl))) ev_c (rv_I ⟨by decide, by decide⟩))) (ev_var rfl) (rv_I (by omega))) (by rw [hr2])) fun H5 e5 => k r H5 hr1 (((ExB.put (e1.trans e2)).trans (ExB.put (e3.trans e4))).trans (ExB.of e5)) ⟨x, _, z + 1, e5 _ _ upd_same, Int.emod_nonneg _ (by decide), Int.emod_lt_of_pos _ (by decide)⟩
end K54
/-! K30 -/
namespace K54
open PySem PySem.Spec PyProof.Rows L2 LamX NdefX Evl
/-! ### a list that is changed beside others -/
section
variable {K : PySem.W.Frag} {σ : L2.St} {H H' : Hp} {ta te : TE} {tb : TA} {sp : Sp} {dvs vs : List V} {E : XK} {Q : VK} {x : V} {v p : Addr}
theorem ExB.mut {o : HO} (e : ExB v H H') (n : H p = none) : ExB v H (upd H' p o) := fun c u h hv => by
  rw [upd_ne (fun z => by rw [z, n] at h; cases h)]
  exact e c u h hv
theorem IsVat.ex (h : IsVat H v) (e : Ex H H') : IsVat H' v := by
  obtain ⟨x, y, z, h1, h2⟩ := h
  exact ⟨x, y, z, e _ _ h1, h2⟩
theorem IsVat.upd {o : HO} (h : IsVat H v) (n : v ≠ p) : IsVat (upd H p o) v := by
  obtain ⟨x, y, z, h1, h2⟩ := h
  exact ⟨x, y, z, by rw [upd_ne n]; exact h1, h2⟩
theorem IsVat.mb (h : IsVat H v) : Mb H [v] := by
  obtain ⟨x, y, z, h1, _⟩ := h
  exact Mb.lst h1 Mb.nil
/-- x op f(..) -/
theorem op_call {r : R2} (ha : Ev ta σ H x) (h : EvA tb σ H vs) (k : ∀ H1, Ex H H1 → sp (vs ++ dvs) H1 (fun y H2 => r x y H2 Q) E) : tOp r ta (tCall sp dvs E tb) σ H Q :=
  ha H (Ex.refl H) _ fun H1 e1 => h H1 e1 _ fun H2 e2 => k H2 (e1.trans e2)
theorem s_retRaw {D : Ends} (h : te σ H D.rt) : tRet te D σ H := h
theorem tab_call {ta : TA} (h : EvA ta σ H vs) (k : ∀ H1, Ex H H1 → sp (vs ++ dvs) H1 Q E) : tCall sp dvs E ta σ H Q := h H (Ex.refl H) _ k
theorem cut_take (xs : List V) (i : Nat) : cutV xs none (some (i : Int)) = xs.take i := by
  unfold cutV
  rw [HT.sIx_nat, HT.sIx_none]
  by_cases h1 : i ≤ xs.length
  · rw [Nat.min_eq_left h1]
    simp
  · rw [Nat.min_eq_right (by omega), List.take_of_length_le (by omega : xs.length ≤ i)]
    simp
theorem erase_map {α β : Type} (f : α → β) : ∀ (l : List α) (k : Nat), (l.map f).eraseIdx k = (l.eraseIdx k).map f
  | [], _ => rfl
  | _ :: _, 0 => rfl
  | a :: l, k + 1 => by
    show f a :: (l.map f).eraseIdx k = f a :: (l.eraseIdx k).map f
    rw [erase_map f l k]
theorem erase_perm {α : Type} : ∀ {l : List α} {k : Nat} (h : k < l.length), (l[k] :: l.eraseIdx k).Perm l
  | a :: l, 0, _ => .refl _
  | a :: l, k + 1, h => by
    have h' : k < l.length := Nat.lt_of_succ_lt_succ h
    show (l[k] :: a :: l.eraseIdx k).Perm (a :: l)
    exact (List.Perm.swap a l[k] _).trans ((erase_perm h').cons a)
theorem perm_of_map {α β : Type} {f : α → β} : ∀ {E D : List β}, E.Perm D → ∀ {src : List α}, E = src.map f → ∃ zs : List α, D = zs.map f ∧ zs.Perm src := by
  intro E D h
  induction h with
  | nil =>
    intro src e
    exact ⟨[], rfl, by rw [List.map_eq_nil_iff.mp e.symm]⟩
  | cons x _ ih =>
    intro src e
    cases src with
    | nil => cases e
    | cons a s =>
      rw [List.map_cons] at e
      obtain ⟨e1, e2⟩ := List.cons.inj e
      obtain ⟨zs, z1, z2⟩ := ih e2
      exact ⟨a :: zs, by rw [z1, e1]; rfl, z2.cons a⟩
  | swap x y l =>
    intro src e
    cases src with
    | nil => cases e
    | cons b s =>
      cases s with
      | nil => cases e
      | cons a s =>
        rw [List.map_cons, List.map_cons] at e
        obtain ⟨e1, e2⟩ := List.cons.inj e
        obtain ⟨e2, e3⟩ := List.cons.inj e2
        exact ⟨a :: b :: s, by rw [e1, e2, e3]; rfl, .swap b a s⟩
  | trans _ _ ih1 ih2 =>
    intro src e
    obtain ⟨z1, h1, p1⟩ := ih1 e
    obtain ⟨z2, h2, p2⟩ := ih2 h1
    exact ⟨z2, h2, p2.trans p1⟩
end
/-- what is drawn from: a text, a pair of texts -/
def ItemAt (H : Hp) (x : V) (d : PyData) : Prop := (∃ z, x = .str z ∧ d = .str z ∧ PyData.strOk z = true) ∨ ∃ p t, x = .ref p ∧ PairAt H p t ∧ d = pairD t ∧ PkOk t
section
variable {K : PySem.W.Frag} {H H' : Hp} {v : Addr}
theorem ItemAt.fm {bs : List Addr} {x : V} {d : PyData} (h : ItemAt H x d) (f : Fm bs H H') (m : Mb H bs) : ItemAt H' x d := by
  rcases h with h | ⟨p, t, e, h1, h2⟩
  · exact .inl h
  · exact .inr ⟨p, t, e, f.tup m h1, h2⟩
theorem dp_items : ∀ {L : List (V × PyData)}, (∀ q ∈ L, ItemAt H q.1 q.2) → DpAll K H (L.map Prod.fst) (L.map Prod.snd)
  | [], _ => .nil
  | q :: L, h => .cons (by
      rcases h q List.mem_cons_self with ⟨z, e1, e2, _⟩ | ⟨p, t, e1, h1, e2, _⟩
      · rw [e1, e2]
        exact .str z
      · rw [e1, e2]
        exact pair_dp h1) (dp_items fun z hz => h z (List.mem_cons_of_mem _ hz))
theorem item_lay {x : V} {d : PyData} (h : ItemAt H x d) : d.canLay0 = true ∧ d.depth ≤ 1 := by
  rcases h with ⟨z, _, e, ho⟩ | ⟨p, t, _, _, e, ho⟩
  · rw [e]
    exact ⟨by simp [PyData.canLay0, ho], by simp [PyData.depth]⟩
  · rw [e]
    exact ⟨pairD_lay t ho, by rw [pairD_depth]; exact Nat.le_refl _⟩
theorem items_lay : ∀ {L : List (V × PyData)}, (∀ q ∈ L, ItemAt H q.1 q.2) → PyData.canLayAll0 (L.map Prod.snd) = true ∧ PyData.depthAll (L.map Prod.snd) ≤ 1
  | [], _ => ⟨by simp [PyData.canLayAll0], by simp [PyData.depthAll]⟩
  | q :: L, h => by
    obtain ⟨h1, h2⟩ := item_lay (h q List.mem_cons_self)
    obtain ⟨h3, h4⟩ := items_lay (L := L) fun z hz => h z (List.mem_cons_of_mem _ hz)
    refine ⟨by simp [PyData.canLayAll0, h1, h3], ?_⟩
    simp only [List.map_cons, PyData.depthAll]
    omega
theorem items_shaped {L : List (V × PyData)} (h : ∀ q ∈ L, ItemAt H q.1 q.2) : SeqAt.shaped (.list (L.map Prod.snd)) = true := by
  obtain ⟨h1, h2⟩ := items_lay h
  have h3 : PyData.depth (.list (L.map Prod.snd)) ≤ 64 := by
    simp only [PyData.depth]
    omega
  show (PyData.canLay0 (.list (L.map Prod.snd)) && decide (PyData.depth (.list (L.map Prod.snd)) ≤ 64)) = true
  rw [Bool.and_eq_true]
  exact ⟨by simp only [PyData.canLay0]; exact h1, decide_eq_true h3⟩
theorem rv_neL {p q : Addr} {L : List (V × PyData)} (hp : H p = some (.lst (L.map Prod.fst))) (hq : H q = some (.lst [])) (h : ∀ z ∈ L, ItemAt H z.1 z.2) : RV (rNeD K) (.ref p) (.ref q) H (.bl (!L.isEmpty)) := fun H1 e Q k =>
  ⟨.list (L.map Prod.snd), .list [], .lst (sq_of (e _ _ hp)) (dp_items fun z hz => (h z hz).fm (Fm.of e) Mb.nil), .lst (sq_of (e _ _ hq)) .nil, items_shaped h, rows_shaped [], by
    rw [eqv_nil]
    have e2 : (L.map Prod.snd).isEmpty = L.isEmpty := by cases L <;> rfl
    rw [e2]
    exact k H1 (Ex.refl H1)⟩
end
variable {P : Program} {w : World} {K : PySem.W.Frag} {mg : Str → Option Value} {base : Heap}
/-! ### _law_of -/
def spOf (K : PySem.W.Frag) : Sp := fun vs H Q _ => ∃ v m xs, vs = [.ref v, .ref m] ∧ IsVat H v ∧ (Rd H m (.lst xs) ∨ Rd H m (.tup xs)) ∧ m ≠ v ∧ 1 ≤ xs.length ∧ xs.length ≤ 1000 ∧ ∀ (i : Nat) x H', xs[i]? = some x → ExB v H H' → IsVat H' v → Q x H'
theorem scOf : FnScope ["_law_vat_here", "_law_menu"] ["_law_vat_here", "_law_menu"] (defScope sLawOf) := ⟨rfl, rfl, rfl, by decide +kernel, rfl, by decide +kernel, by decide +kernel⟩
theorem ok_of (T : Tp K mg) : C8.Cal P w K mg base 2 "_law_of" (spOf K) [] := by
  obtain ⟨fd, F⟩ := T.f_law_of
  refine ⟨_, fd, ["_law_vat_here", "_law_menu"], [], ?_, T.g_law_of, F.kp, F.bindsN (fun _ _ _ _ _ _ us hl => match us, hl with | [_, _], _ => rfl), .nil⟩
  refine F.ok scOf (fun vs H Q E h => ?_) (fun cdv A outer s H vs Q E hr h => ?_)
  · obtain ⟨v, m, xs, rfl, _⟩ := h
    rfl
  · obtain ⟨v, m, xs, rfl, hv, hm, ne, n1, n2, k⟩ := h
    refine ⟨_, PSs.nox (pss_one (ps_ret (pe_ix ix_seq (pv 1) (C8.pe_c (ok_dip T) hr (by decide) rfl (pa_cons (pv 0) (pa_cons (pb call_len T.z_len PySem.boot_len (pv 1)) pa_nil))) (fun _ _ => rfl)))), ?_⟩
    have hl : ∀ H1, Ex H H1 → RC (rLenAny K) [.ref m] H1 (.int (xs.length : Int)) := fun H1 e1 => by
      rcases hm with h | h
      · exact rc_lenL (.inl (ex_rd e1 h))
      · exact rc_lenT (ex_rd e1 h)
    refine s_retRaw (op_call (ev_var rfl) (ea_cons (ev_var rfl) (ea_cons (ev_cb1 (ev_var rfl) (hl H (Ex.refl H))) ea_nil)) fun H1 e1 => ⟨v, xs.length, rfl, hv.ex e1, n1, n2, fun r H2 hr2 eb hv2 => ?_⟩)
    have hx : xs[r]? = some xs[r] := List.getElem?_eq_getElem hr2
    have e02 := (ExB.of e1 (x := v)).trans eb
    rcases hm with h | h
    · have h2 : Rd H2 m (.lst xs) := by
        rcases h with h | ⟨u, h⟩
        · exact .inl (e02 _ _ h ne)
        · exact .inr ⟨u, e02 _ _ h ne⟩
      exact .inl ⟨m, xs, _, _, rfl, rfl, .inl h2, atI_nat hx, k r _ H2 hx e02 hv2⟩
    · have h2 : Rd H2 m (.tup xs) := by
        rcases h with h | ⟨u, h⟩
        · exact .inl (e02 _ _ h ne)
        · exact .inr ⟨u, e02 _ _ h ne⟩
      exact .inr (.inl ⟨m, xs, _, _, rfl, rfl, .inl h2, atI_nat hx, k r _ H2 hx e02 hv2⟩)
/-! ### _law_mixed -/
def spMixed (K : PySem.W.Frag) : Sp := fun vs H Q _ => ∃ v m, ∃ L : List (V × PyData), vs = [.ref v, .ref m] ∧ IsVat H v ∧ H m = some (.lst (L.map Prod.fst)) ∧ (∀ q ∈ L, ItemAt H q.1 q.2) ∧ L.length ≤ 1000 ∧
  ∀ (D : List (V × PyData)) p H', D.Perm L → H p = none → H' p = some (.lst (D.map Prod.fst)) → ExB v H H' → IsVat H' v → Q (.ref p) H'
abbrev NMixed : List Str := ["_law_vat_here", "_law_some", "_law_left", "_law_found"]
theorem scMixed : FnScope NMixed ["_law_vat_here", "_law_some"] (defScope sLawMixed) := ⟨rfl, rfl, rfl, by decide +kernel, rfl, by decide +kernel, by decide +kernel⟩
def InvMix (v m : Addr) (L : List (V × PyData)) (H : Hp) (n : Nat) (σ' : L2.St) (H' : Hp) : Prop := ∃ pl pf, ∃ A D : List (V × PyData), σ' = [some (.ref v), some (.ref m), some (.ref pl), some (.ref pf)] ∧ ExB v H H' ∧ IsVat H' v ∧ H' pl = some (.lst (A.map Prod.fst)) ∧ H' pf = some (.lst (D.map Prod.fst)) ∧
  pl ≠ pf ∧ pl ≠ v ∧ pf ≠ v ∧ H pl = none ∧ H pf = none ∧ (A ++ D).Perm L ∧ n = A.length
theorem ok_mixed (T : Tp K mg) : C8.Cal P w K mg base 2 "_law_mixed" (spMixed K) [] := by
  obtain ⟨fd, F⟩ := T.f_law_mixed
  refine ⟨_, fd, ["_law_vat_here", "_law_some"], [], ?_, T.g_law_mixed, F.kp, F.bindsN (fun _ _ _ _ _ _ us hl => match us, hl with | [_, _], _ => rfl), .nil⟩
  refine F.ok scMixed (fun vs H Q E h => ?_) (fun cdv A outer s H vs Q E hr h => ?_)
  · obtain ⟨v, m, L, rfl, _⟩ := h
    rfl
  · obtain ⟨v, m, L, rfl, hv, hm, hL, hz, k⟩ := h
    have nd := scMixed.nd
    refine ⟨_, PSs.nox (pss_cons (ps_par (i := 2) (j := 3) rfl nd rfl rfl (by decide) rfl rfl (pa_cons (pty call_list_of T.z_list PyProof.Rows.boot_list (pv 1)) (pa_cons (pe_lst pa_nil) pa_nil)) rfl)
      (pss_cons (ps_while PassesOwn.never (pt_cmpR (op_neD hr.units) (pv 2) (pe_lst pa_nil) (nomark _)) (pss_one (ps_expr (pe_bm PySem.F.plainAttrs_list PySem.F.slot_list_append PySem.F.type_list_append mt_append (pv 3)
        (pa_cons (pe_bm PySem.F.plainAttrs_list PySem.F.slot_list_pop PySem.F.type_list_pop mt_popAt (pv 2) (pa_cons (C8.pe_c (ok_dip T) hr (by decide) rfl (pa_cons (pv 0) (pa_cons (pb call_len T.z_len PySem.boot_len (pv 2)) pa_nil))) pa_nil)) pa_nil)))))
      (pss_one (ps_ret (pv 3))))), ?_⟩
    have g1 := el_listS (K := K) (σ := start NMixed [.ref v, .ref m]) (ta := tVar 1) (H := H) (xs := L.map Prod.fst) (p := m) (ev_var rfl) (.inl (sq_of hm))
    refine q_parG (ac_cons (g1 H (Ex.refl H) _ fun pl H1 hn1 e1 hl1 => ac_cons ?_))
    refine ⟨by show 0 ≤ sizeLine; exact Nat.zero_le _, fun pf hpf => ⟨_, _, rfl, ?_⟩⟩
    have npf : pl ≠ pf := fun z => by rw [z, hpf] at hl1; cases hl1
    have e2 : Ex H (upd H1 pf (.lst [])) := e1.trans (Ex.new hpf)
    obtain ⟨vx, vy, vz, hv0, _⟩ := id hv
    have plv : pl ≠ v := fun z => by rw [z, hv0] at hn1; cases hn1
    have pf0 : H pf = none := fresh_back e1 hpf
    have pfv : pf ≠ v := fun z => by rw [z, hv0] at pf0; cases pf0
    refine q_while (InvMix v m L H) L.length ⟨pl, pf, L, [], rfl, ExB.of e2, hv.ex e2, by rw [upd_ne npf]; exact hl1, upd_same, npf, plv, pfv, hn1, pf0, by rw [List.append_nil], rfl⟩ ?_
    rintro n σ' H' ⟨pl, pf, A, D, rfl, eb, hv', hl, hf, npf, plv, pfv, pl0, pf0, perm, rfl⟩
    have hit : ∀ H2, Ex H' H2 → ∀ q ∈ A, ItemAt H2 q.1 q.2 := fun H2 e q hq => ((hL q (perm.mem_iff.mp (List.mem_append.mpr (.inl hq)))).fm eb.fm hv.mb).fm (Fm.of e) Mb.nil
    refine ⟨!A.isEmpty, et_test (ev_opP (ev_var rfl) (evp_lstV ea_nil (by decide)) fun y H1 e1 ⟨q, ey, hq⟩ => by rw [ey]; exact rv_neL (e1 _ _ hl) hq (hit H1 e1)), fun hb H1 e1 => ?_, fun hb H1 e1 => ?_⟩
    · have hA : 1 ≤ A.length := by
        cases A with
        | nil => cases hb
        | cons _ _ => exact Nat.le_add_left _ _
      have hlen : (A ++ D).length = L.length := perm.length_eq
      rw [List.length_append] at hlen
      refine ⟨InvMix v m L H (A.length - 1), fun σ2 H2 h => ⟨_, by omega, h⟩, ?_⟩
      refine ⟨_, rfl, Or.inl ⟨rfl, _, sq_of (e1 _ _ hf)⟩, _, rfl, Or.inl ⟨rfl, _, sq_of (e1 _ _ hl)⟩, ?_⟩
      refine ac_cons (tab_call (ea_cons (ev_var rfl) (ea_cons (ev_cb1 (ev_var rfl) (rc_lenL (sq_of (e1 _ _ hl)))) ea_nil)) fun H2 e2 => ⟨v, (A.map Prod.fst).length, rfl, hv'.ex (e1.trans e2), by rw [List.length_map]; exact hA, by rw [List.length_map]; omega, fun r H3 hr3 eb3 hv3 => ?_⟩)
      rw [List.length_map] at hr3
      have hl3 := eb3 _ _ ((e1.trans e2) _ _ hl) plv
      have hf3 := eb3 _ _ ((e1.trans e2) _ _ hf) pfv
      have hx : A[r]? = some A[r] := List.getElem?_eq_getElem hr3
      refine ⟨pl, A.map Prod.fst, (r : Int), r, A[r].1, rfl, rfl, hl3, by omega, by omega, (ixN_seq (ixN_nat (by rw [List.length_map]; exact hr3))).1, by rw [List.getElem?_map, hx]; rfl, ?_⟩
      refine ⟨pf, D.map Prod.fst, A[r].1, rfl, rfl, by rw [upd_ne (Ne.symm npf)]; exact hf3, sz_lt (by rw [List.length_map]; omega), ?_⟩
      have eb0 := eb.trans ((ExB.of (e1.trans e2)).trans eb3)
      refine ⟨pl, pf, A.eraseIdx r, D ++ [A[r]], rfl, (eb0.mut pl0).mut pf0, (hv3.upd (Ne.symm plv)).upd (Ne.symm pfv), ?_, ?_, npf, plv, pfv, pl0, pf0, ?_, ?_⟩
      · rw [upd_ne npf, upd_same]
        exact congrArg (fun z => some (HO.lst z)) (erase_map Prod.fst A r)
      · rw [upd_same, List.map_append]
        rfl
      · refine List.Perm.trans ?_ perm
        have h1 := erase_perm hr3
        rw [← List.append_assoc]
        refine (List.perm_append_comm (l₁ := A.eraseIdx r ++ D) (l₂ := [A[r]])).trans ?_
        exact (h1.append_right D)
      · rw [List.length_eraseIdx_of_lt hr3]
    · have hA : A = [] := by
        cases A with
        | nil => rfl
        | cons _ _ => cases hb
      subst hA
      exact s_ret (ev_var rfl) fun H2 e2 => k D pf H2 perm pf0 ((e1.trans e2) _ _ hf) (eb.trans (ExB.of (e1.trans e2))) (hv'.ex (e1.trans e2))
end K54
/-! K31 -/
namespace K54
open PySem PySem.Spec PyProof.Rows L2 LamX NdefX Evl
/-! ### tuple(list), the new tuple known to its object -/
def rTupF (K : PySem.W.Frag) : List V → Hp → VK → Prop := fun xs H Q => ∃ p ys, xs = [.ref p] ∧ SqL K H p ys ∧ ∀ l (u : Obj), u.dict = none → H l = none → Q (.ref l) (upd H l (.frz u (.tup ys)))
theorem call_tupF {X : Cx} : CallR X (.type "tuple") (rTupF X.K) := by
  intro pins s σ H xs us Q I r h
  obtain ⟨p, ys, rfl, hq, q⟩ := h
  obtain ⟨u, rfl, rx⟩ := vals1 r
  cases rx
  obtain ⟨its, r', pl, hz⟩ := I.list hq
  have hlen := r'.length
  refine call_tuple_list pl.isList (fun h' kp => ?_) (by simp only [List.size_toArray] <;> omega)
  have I1 : Inv X pins σ H { s with heap := h' } := I.kept (t' := s.toks) kp
  have I2 : Inv X pins σ (upd H h'.objs.size (.frz { cls := .type "tuple", data := .seq its.toArray } (.tup ys))) { s with heap := h'.push { cls := .type "tuple", data := .seq its.toArray } } :=
    I1.laid (t' := s.toks) (fun b o e => Heap.get?_push_of_some _ e) (Nat.le_refl _) (show ObjOk X.prog X.w _ _ _ (.frz { cls := .type "tuple", data := .seq its.toArray } (.tup ys)) from ⟨Heap.get?_push_size _ rfl, hz, its, r', IsTup.new _ _⟩)
  exact ⟨.ref h'.objs.size, _, I2, rfl, q _ _ rfl (I1.hok.fresh (Nat.le_refl _))⟩
variable {P : Program} {w : World} {K : PySem.W.Frag} {mg : Str → Option Value} {base : Heap}
def poolM : List Str := ["a", "b", "c", "d1", "pump", "x", "lead", "tie", "undo", "z9", "text", "eightabc", "known"]
theorem pool_ok : poolM.Nodup ∧ (∀ z ∈ poolM, nameB z = true) ∧ poolM.length = 13 := ⟨by decide +kernel, by decide +kernel, by decide +kernel⟩
def strIt (z : Str) : V × PyData := (.str z, .str z)
theorem strIt_fst (zs : List Str) : (zs.map strIt).map Prod.fst = zs.map V.str := by
  rw [List.map_map]
  rfl
theorem strIt_at {H : Hp} {zs : List Str} (h : ∀ z ∈ zs, PyData.strOk z = true) : ∀ q ∈ zs.map strIt, ItemAt H q.1 q.2 := fun q hq => by
  obtain ⟨z, hz, rfl⟩ := List.mem_map.mp hq
  exact .inl ⟨z, rfl, rfl, h z hz⟩
/-- names that may head the works -/
def HeadsOk (hs : List Str) : Prop := hs ≠ [] ∧ hs.length ≤ 5 ∧ hs.Nodup ∧ ∀ z ∈ hs, nameB z = true
/-! ### _law_heads -/
def spHeads : Sp := fun vs H Q _ => ∃ v, vs = [.ref v, .int 5] ∧ IsVat H v ∧ ∀ hs p H', HeadsOk hs → STupN H' p hs → H p = none → ExB v H H' → IsVat H' v → Q (.ref p) H'
abbrev NHeads : List Str := ["_law_vat_here", "_law_most_here", "_law_pool"]
theorem scHeads : FnScope NHeads ["_law_vat_here", "_law_most_here"] (defScope sLawHeads) := ⟨rfl, rfl, rfl, by decide +kernel, rfl, by decide +kernel, by decide +kernel⟩
theorem ok_heads (T : Tp K mg) : C8.Cal P w K mg base 3 "_law_heads" spHeads [] := by
  obtain ⟨fd, F⟩ := T.f_law_heads
  refine ⟨_, fd, ["_law_vat_here", "_law_most_here"], [], ?_, T.g_law_heads, F.kp, F.bindsN (fun _ _ _ _ _ _ us hl => match us, hl with | [_, _], _ => rfl), .nil⟩
  refine F.ok scHeads (fun vs H Q E h => ?_) (fun cdv A outer s H vs Q E hr h => ?_)
  · obtain ⟨v, rfl, _⟩ := h
    rfl
  · obtain ⟨v, rfl, hv, k⟩ := h
    have nd := scHeads.nd
    refine ⟨_, PSs.nox (pss_cons (ps_set (i := 2) nd rfl (Or.inl rfl) (pe_lst (pa_cons pe_str (pa_cons pe_str (pa_cons pe_str (pa_cons pe_str (pa_cons pe_str (pa_cons pe_str (pa_cons pe_str (pa_cons pe_str (pa_cons pe_str (pa_cons pe_str (pa_cons pe_str (pa_cons pe_str (pa_cons pe_str pa_nil)))))))))))))))
      (pss_one (ps_ret (pty call_tupF T.z_tuple PyProof.Rows.boot_tuple (pe_slice sl_list (C8.pe_c (ok_mixed T) hr (by decide) rfl (pa_cons (pv 0) (pa_cons (pv 2) pa_nil))) po_none (po_some (pe_op op_add pe_int (C8.pe_c (ok_dip T) hr (by decide) rfl (pa_cons (pv 0) (pa_cons (pv 1) pa_nil)))))))))), ?_⟩
    refine q_asgP (evp_lstV (ea_cons ev_c (ea_cons ev_c (ea_cons ev_c (ea_cons ev_c (ea_cons ev_c (ea_cons ev_c (ea_cons ev_c (ea_cons ev_c (ea_cons ev_c (ea_cons ev_c (ea_cons ev_c (ea_cons ev_c (ea_cons ev_c ea_nil))))))))))))) (by show 13 ≤ 100000; omega)) ?_
    rintro v1 H1 e1 ⟨m, rfl, hm⟩
    have hv1 := hv.ex e1
    obtain ⟨pn1, pn2, pn3⟩ := pool_ok
    refine s_retRaw (ac_cons (tab_call (ea_cons (ev_var rfl) (ea_cons (ev_var rfl) ea_nil)) fun H2 e2 => ⟨v, m, poolM.map strIt, rfl, hv1.ex e2, ?_, strIt_at fun z hz => nameB_strOk (pn2 z hz), by rw [List.length_map, pn3]; omega, fun D p H3 perm hp0 hp eb hv3 => ?_⟩))
    · rw [strIt_fst]
      exact e2 _ _ hm
    obtain ⟨zs, rfl, pz⟩ := perm_of_map perm.symm rfl
    rw [strIt_fst] at hp
    have pv' : p ≠ v := fun z => by
      obtain ⟨x, y, zz, h0, _⟩ := hv1.ex e2
      rw [z, h0] at hp0
      cases hp0
    refine op_call ev_c (ea_cons (ev_var rfl) (ea_cons (ev_var rfl) ea_nil)) fun H4 e4 => ⟨v, 5, rfl, hv3.ex e4, by omega, by omega, fun r H5 hr5 eb5 hv5 => ⟨1, (r : Int), rfl, rfl, _, rfl, ?_⟩⟩
    have hp5 := eb5 _ _ (e4 _ _ hp) pv'
    have ec : (1 : Int) + (r : Int) = ((1 + r : Nat) : Int) := by omega
    rw [ec]
    refine ⟨p, zs.map V.str, rfl, sq_of hp5, fun p6 hp6 => ⟨p6, _, rfl, sq_of upd_same, fun l u hu hl => ?_⟩⟩
    rw [cut_take, ← List.map_take]
    have e26 := (((ExB.of (e1.trans e2) (x := v)).trans eb).trans ((ExB.of e4).trans eb5))
    have hl5 : H5 l = none := by
      have n : l ≠ p6 := fun z => by rw [z, upd_same] at hl; cases hl
      rw [upd_ne n] at hl
      exact hl
    have hl0 : H l = none := by
      cases h : H l with
      | none => rfl
      | some o =>
        by_cases lv : l = v
        · obtain ⟨x, y, z, h0, _⟩ := hv5
          rw [lv, h0] at hl5
          cases hl5
        · have := e26 _ _ h lv
          rw [hl5] at this
          cases this
    have n6v : v ≠ p6 := fun z => by
      obtain ⟨x, y, zz, h0, _⟩ := hv5
      rw [z, hp6] at h0
      cases h0
    have nlv : v ≠ l := fun z => by
      obtain ⟨x, y, zz, h0, _⟩ := hv5
      rw [z, hl5] at h0
      cases h0
    have hp60 : H p6 = none := by
      cases h : H p6 with
      | none => rfl
      | some o =>
        have := e26 _ _ h (Ne.symm n6v)
        rw [hp6] at this
        cases this
    refine k (zs.take (1 + r)) l _ ⟨?_, ?_, (pz.nodup_iff.mpr pn1).sublist (List.take_sublist _ _), fun z hz => pn2 z (pz.mem_iff.mp (List.mem_of_mem_take hz))⟩ ⟨u, hu, by rw [upd_same]⟩ hl0 ((e26.mut hp60).mut hl0) ((hv5.upd n6v).upd nlv)
    · intro z
      have := congrArg List.length z
      rw [List.length_take, pz.length_eq, pn3] at this
      have t2 : min (1 + r) 13 = 0 := this
      omega
    · rw [List.length_take, pz.length_eq, pn3]
      omega
/-! ### _law_chiefs -/
def spChiefs : Sp := fun vs H Q _ => ∃ v a hs, vs = [.ref v, .ref a] ∧ IsVat H v ∧ STup H a hs ∧ HeadsOk hs ∧ ∀ ls p H', ls.Nodup → (∀ x ∈ ls, x ∈ hs) → STup H' p ls → ExB v H H' → IsVat H' v → Q (.ref p) H'
abbrev NChiefs : List Str := ["_law_vat_here", "_law_heads_here", "_law_some", "_law_each"]
theorem scChiefs : FnScope NChiefs ["_law_vat_here", "_law_heads_here"] (defScope sLawChiefs) := ⟨rfl, rfl, rfl, by decide +kernel, rfl, by decide +kernel, by decide +kernel⟩
theorem sublist_snoc {α : Type} {zs hs : List α} {i : Nat} {x : α} (h : zs.Sublist (hs.take i)) (hx : hs[i]? = some x) : (zs ++ [x]).Sublist (hs.take (i + 1)) ∧ zs.Sublist (hs.take (i + 1)) := by
  rw [take_succ' hx]
  exact ⟨h.append (.refl _), h.trans (List.sublist_append_left _ _)⟩
theorem ok_chiefs (T : Tp K mg) : C8.Cal P w K mg base 3 "_law_chiefs" spChiefs [] := by
  obtain ⟨fd, F⟩ := T.f_law_chiefs
  refine ⟨_, fd, ["_law_vat_here", "_law_heads_here"], [], ?_, T.g_law_chiefs, F.kp, F.bindsN (fun _ _ _ _ _ _ us hl => match us, hl with | [_, _], _ => rfl), .nil⟩
  refine F.ok scChiefs (fun vs H Q E h => ?_) (fun cdv A outer s H vs Q E hr h => ?_)
  · obtain ⟨v, a, hs, rfl, _⟩ := h
    rfl
  · obtain ⟨v, a, hs, rfl, hv, ha, ⟨g1, g2, g3, g4⟩, k⟩ := h
    have nd := scChiefs.nd
    refine ⟨_, PSs.nox (pss_cons (ps_setLc (i := 2) (own := [("_law_each", 3)]) (g := gName 3) rfl nd rfl rfl (sw_true rfl rfl rfl (by decide +kernel)) (pi_tup (pv 1)) (blkOk_by (N := NChiefs) (sc := defScope sLawChiefs) (by decide +kernel))
      (fun _ _ _ _ _ => pg_name (i := 3) nd rfl (Or.inl rfl)) (fun _ _ _ _ _ => pts_one (pt_cmpR op_eq (C8.pe_c (ok_dip T) hr (by decide) rfl (pa_cons (pv 0) (pa_cons pe_int pa_nil))) pe_int (nomark _))) (fun _ _ _ _ _ => pv 3))
      (pss_one (ps_ret (pty call_tuple_of T.z_tuple PyProof.Rows.boot_tuple (C8.pe_c (ok_mixed T) hr (by decide) rfl (pa_cons (pv 0) (pa_cons (pv 2) pa_nil))))))), ?_⟩
    refine q_asgRaw ⟨_, rfl, a, rfl, ⟨_, .inl ha⟩, fun D hD => ?_⟩
    have Dv : D ≠ v := fun z => by
      obtain ⟨x, y, zz, h0, _⟩ := hv
      rw [z, h0] at hD
      cases hD
    have STx : ∀ Hc, ExB v H Hc → STup Hc a hs := fun Hc e => ha.fm e.fm hv.mb
    refine lc_it walk_tup (fun i Hc => ExB v H Hc ∧ IsVat Hc v ∧ ∃ zs : List Str, Hc D = some (.lst (zs.map V.str)) ∧ zs.Sublist (hs.take i)) ⟨ExB.of (Ex.new hD), hv.ex (Ex.new hD), [], upd_same, List.nil_sublist _⟩ (fun i Hc _ p => .inl (STx Hc p.1)) ?_ ?_
    · rintro i x Hc Hd hi ⟨eb, hvc, zs, hz, sub⟩ ⟨rfl, hx⟩
      rw [List.getElem?_map] at hx
      obtain ⟨z, hz', rfl⟩ := Option.map_eq_some_iff.mp hx
      refine ⟨rfl, tst_call (ea_cons (ev_var rfl) (ea_cons ev_c ea_nil)) fun H2 e2 => ⟨v, 2, rfl, hvc.ex e2, by omega, by omega, fun r H3 hr3 eb3 hv3 => ?_⟩⟩
      have e03 := eb.trans ((ExB.of e2).trans eb3)
      have hz3 := eb3 _ _ (e2 _ _ hz) Dv
      have hi5 : i < 5 := by
        rw [List.length_map] at hi
        omega
      have hzl : zs.length ≤ i := by
        have := sub.length_le
        rw [List.length_take] at this
        omega
      refine ⟨rfl, _, rfl, ?_⟩
      obtain ⟨s1, s2⟩ := sublist_snoc sub hz'
      cases hd : decide (V.int (r : Int) = V.int 0) with
      | true =>
        refine ⟨_, rfl, zs.map V.str, hz3, sz_lt (by rw [List.length_map]; omega), e03.mut hD, hv3.upd (Ne.symm Dv), zs ++ [z], ?_, s1⟩
        rw [upd_same, List.map_append]
        rfl
      | false => exact ⟨e03, hv3, zs, hz3, s2⟩
    · rintro Hc ⟨eb, hvc, zs, hz, sub⟩
      rw [List.length_map, List.take_length] at sub
      have zok : ∀ z ∈ zs, PyData.strOk z = true := fun z hz => nameB_strOk (g4 z (sub.subset hz))
      refine s_retRaw (cb_call (ea_cons (ev_var rfl) (ea_cons (ev_var rfl) ea_nil)) fun H2 e2 => ⟨v, D, zs.map strIt, rfl, hvc.ex e2, by rw [strIt_fst]; exact e2 _ _ hz, strIt_at zok, by rw [List.length_map]; have := sub.length_le; omega, fun D2 p H3 perm hp0 hp eb3 hv3 => ?_⟩)
      obtain ⟨ys, rfl, py⟩ := perm_of_map perm.symm rfl
      rw [strIt_fst] at hp
      have e03 := eb.trans ((ExB.of e2).trans eb3)
      refine ⟨p, ys.map V.str, rfl, .inl ⟨sq_of hp, fun l hl => ?_⟩⟩
      have en : Ex H3 (upd H3 l (.tup (ys.map V.str))) := Ex.new hl
      exact k ys l _ (py.nodup_iff.mpr (g3.sublist sub)) (fun x hx => sub.subset (py.mem_iff.mp hx)) (.inl upd_same) (e03.trans (ExB.of en)) (hv3.ex en)
end K54
/-! K32 -/
namespace K54
open PySem PySem.Spec PyProof.Rows L2 LamX NdefX Evl
section
variable {K : PySem.W.Frag} {σ : L2.St} {H H' : Hp} {t1 t2 : TT} {tu tw tz : TS} {D : Ends} {sp : Sp} {dvs : List V} {E : XK} {Q : VK} {te : TE}
theorem s_ifAnd {b : Bool} (h1 : EvT t1 σ H b) (hf : b = false → ∀ H1, Ex H H1 → tw D σ H1) (ht : b = true → ∀ H1, Ex H H1 → t2 σ H1 (fun b H2 => if b = true then tu D σ H2 else tw D σ H2)) : tIfS (tAnd t1 t2) tu tw D σ H := h1 H (Ex.refl H) _ fun H1 e1 => by
  cases b with
  | true => exact ht rfl H1 e1
  | false => exact hf rfl H1 e1
theorem tab_callP {ta : TA} {Ra : List V → Hp → Prop} (h : EAP ta σ H Ra) (k : ∀ vs H1, Ex H H1 → Ra vs H1 → sp (vs ++ dvs) H1 Q E) : tCall sp dvs E ta σ H Q := h H (Ex.refl H) _ k
theorem s_dropRaw (h : te σ H fun _ H1 => D.nx σ H1) : tDrop te D σ H := h
end
variable {P : Program} {w : World} {K : PySem.W.Frag} {mg : Str → Option Value} {base : Heap}
/-! ### _law_roads -/
def spRoads : Sp := fun vs H Q _ => ∃ v a hs, vs = [.ref v, .ref a] ∧ IsVat H v ∧ STup H a hs ∧ HeadsOk hs ∧ ∀ (ts : List (Str × Str)) p H', ts.Nodup → (∀ t ∈ ts, GoodTie hs t) → PTup H' p ts → ExB v H H' → IsVat H' v → Q (.ref p) H'
abbrev NRoads : List Str := ["_law_vat_here", "_law_heads_here", "_law_rare", "_law_found", "_law_one_part", "_law_two_part"]
theorem scRoads : FnScope NRoads ["_law_vat_here", "_law_heads_here"] (defScope sLawRoads) := ⟨rfl, rfl, rfl, by decide +kernel, rfl, by decide +kernel, by decide +kernel⟩
def InvR (v a pf : Addr) (hs : List Str) (H : Hp) (rare : Nat) (i j : Nat) (o4 : Option V) (σ' : L2.St) (H' : Hp) : Prop := ∃ o5, ∃ ps : List (Addr × (Str × Str)), σ' = [some (.ref v), some (.ref a), some (.int (rare : Int)), some (.ref pf), o4, o5] ∧ ExB v H H' ∧ IsVat H' v ∧ H' pf = some (.lst (ps.map fun q => V.ref q.1)) ∧
  (∀ q ∈ ps, PairAt H' q.1 q.2) ∧ (∀ q ∈ ps, ∃ i' j' : Nat, hs[i']? = some q.2.1 ∧ hs[j']? = some q.2.2 ∧ q.2.1 ≠ q.2.2 ∧ (i' < i ∨ (i' = i ∧ j' < j))) ∧ (ps.map Prod.snd).Nodup
theorem nodup_at {hs : List Str} (h : hs.Nodup) {i j : Nat} {z : Str} (h1 : hs[i]? = some z) (h2 : hs[j]? = some z) : i = j := by
  obtain ⟨a1, b1⟩ := List.getElem?_eq_some_iff.mp h1
  obtain ⟨a2, b2⟩ := List.getElem?_eq_some_iff.mp h2
  exact (List.getElem_inj h).mp (b1.trans b2.symm)
def prIt (q : Addr × (Str × Str)) : V × PyData := (.ref q.1, pairD q.2)
theorem prIt_fst (zs : List (Addr × (Str × Str))) : (zs.map prIt).map Prod.fst = zs.map fun q => V.ref q.1 := by
  rw [List.map_map]
  rfl
theorem ok_roads (T : Tp K mg) : C8.Cal P w K mg base 3 "_law_roads" spRoads [] := by
  obtain ⟨fd, F⟩ := T.f_law_roads
  refine ⟨_, fd, ["_law_vat_here", "_law_heads_here"], [], ?_, T.g_law_roads, F.kp, F.bindsN (fun _ _ _ _ _ _ us hl => match us, hl with | [_, _], _ => rfl), .nil⟩
  refine F.ok scRoads (fun vs H Q E h => ?_) (fun cdv A outer s H vs Q E hr h => ?_)
  · obtain ⟨v, a, hs, rfl, _⟩ := h
    rfl
  · obtain ⟨v, a, hs, rfl, hv, ha, ⟨g1, g2, g3, g4⟩, k⟩ := h
    have nd := scRoads.nd
    refine ⟨_, PSs.nox (pss_cons (ps_par (i := 2) (j := 3) rfl nd rfl rfl (by decide) rfl rfl (pa_cons (C8.pe_c (ok_of T) hr (by decide) rfl (pa_cons (pv 0) (pa_cons (pe_lst (pa_cons pe_int (pa_cons pe_int (pa_cons pe_int (pa_cons pe_int (pa_cons pe_int pa_nil)))))) pa_nil))) (pa_cons (pe_lst pa_nil) pa_nil)) rfl)
      (pss_cons (ps_for PassesOwn.never rfl (pi_tup (pv 1)) (pg_name (i := 4) nd rfl (Or.inl rfl)) (pss_one (ps_for PassesOwn.never rfl (pi_tup (pv 1)) (pg_name (i := 5) nd rfl (Or.inl rfl))
        (pss_one (ps_if (PW.pt (pw_and (pt_cmpR op_ne (pv 4) (pv 5) (nomark _)) (pw_and1 (pt_cmpR op_eq (C8.pe_c (ok_dip T) hr (by decide) rfl (pa_cons (pv 0) (pa_cons (pv 2) pa_nil))) pe_int (nomark _)))))
          (pss_one (ps_expr (pe_bm PySem.F.plainAttrs_list PySem.F.slot_list_append PySem.F.type_list_append mt_append (pv 3) (pa_cons (pe_tup (pa_cons (pv 4) (pa_cons (pv 5) pa_nil))) pa_nil)))) pss_nil)))))
      (pss_one (ps_ret (pty call_tuple_of T.z_tuple PyProof.Rows.boot_tuple (C8.pe_c (ok_mixed T) hr (by decide) rfl (pa_cons (pv 0) (pa_cons (pv 3) pa_nil)))))))), ?_⟩
    have STx : ∀ Hc, ExB v H Hc → STup Hc a hs := fun Hc e => ha.fm e.fm hv.mb
    have vl : ∀ {H1 : Hp} {q : Addr} {xs : List V}, IsVat H1 v → H1 q = some (.lst xs) → xs.length ≠ 3 → q ≠ v := fun {H1 q xs} h1 h2 h3 z => by
      obtain ⟨x, y, zz, h0, _⟩ := h1
      rw [z, h0] at h2
      have := congrArg (fun o : Option HO => match o with | some (.lst l) => l.length | _ => 0) h2
      exact h3 this.symm
    refine q_parG (ac_cons (tab_callP (Ra := fun vs H1 => ∃ m, vs = [.ref v, .ref m] ∧ H1 m = some (.lst [.int 2, .int 3, .int 3, .int 5, .int 50])) (eap_cons (EvP.of (ev_var rfl)) fun x H1 e1 hx => eap_one (EvP.ofL (el_lst (ea_cons ev_c (ea_cons ev_c (ea_cons ev_c (ea_cons ev_c (ea_cons ev_c ea_nil))))) (by show 5 ≤ 100000; omega))) fun y H2 e2 ⟨m, ey, hm⟩ => ⟨m, by rw [hx, ey], hm⟩) ?_))
    rintro vs H1 e1 ⟨m, rfl, hm⟩
    refine ⟨v, m, _, rfl, hv.ex e1, .inl (.inl hm), vl (hv.ex e1) hm (by show (5 : Nat) ≠ 3; decide), by show 1 ≤ 5; omega, by show 5 ≤ 1000; omega, fun ix x H2 hx eb2 hv2 => ?_⟩
    obtain ⟨rare, rfl, r1, r2⟩ : ∃ rare : Nat, x = .int (rare : Int) ∧ 1 ≤ rare ∧ rare ≤ 1000 := by
      have hmem := List.mem_of_getElem? hx
      have : x = .int 2 ∨ x = .int 3 ∨ x = .int 5 ∨ x = .int 50 := by
        have h5 : x = .int 2 ∨ x = .int 3 ∨ x = .int 3 ∨ x = .int 5 ∨ x = .int 50 := by simpa using hmem
        rcases h5 with h | h | h | h | h
        · exact .inl h
        · exact .inr (.inl h)
        · exact .inr (.inl h)
        · exact .inr (.inr (.inl h))
        · exact .inr (.inr (.inr h))
      rcases this with rfl | rfl | rfl | rfl
      · exact ⟨2, rfl, by omega, by omega⟩
      · exact ⟨3, rfl, by omega, by omega⟩
      · exact ⟨5, rfl, by omega, by omega⟩
      · exact ⟨50, rfl, by omega, by omega⟩
    refine ac_cons ⟨by show 0 ≤ sizeLine; exact Nat.zero_le _, fun pf hpf => ⟨_, _, rfl, ?_⟩⟩
    have e02 := (ExB.of e1 (x := v)).trans eb2
    have pfv : pf ≠ v := fun z => by
      obtain ⟨x, y, zz, h0, _⟩ := hv2
      rw [z, h0] at hpf
      cases hpf
    have pf0 : H pf = none := by
      cases h : H pf with
      | none => rfl
      | some o =>
        have := e02 _ _ h pfv
        rw [hpf] at this
        cases this
    have e03 : ExB v H (upd H2 pf (.lst [])) := e02.mut pf0
    refine ⟨_, rfl, a, rfl, ⟨_, .inl (STx _ e03)⟩, for_it (walk_tup (xs := hs.map V.str)) (fun i σ' H' => ∃ o4, InvR v a pf hs H rare i 0 o4 σ' H') ⟨none, none, [], rfl, e03, hv2.upd (Ne.symm pfv), upd_same, (fun _ h => by cases h), (fun _ h => by cases h), List.nodup_nil⟩ (fun i σ' H' _ ⟨o4, o5, ps, _, e, _⟩ => .inl (STx _ e)) ?_ ?_⟩
    · rintro i x σ' H3 H3' hi ⟨o4, o5, ps, rfl, i1, i2, i3, i4, i5, i6⟩ ⟨rfl, hx'⟩
      rw [List.getElem?_map] at hx'
      obtain ⟨z, hz, rfl⟩ := Option.map_eq_some_iff.mp hx'
      show tFor (iTup K (tVar 1)) (gName 5) _ _ [some (.ref v), some (.ref a), some (.int (rare : Int)), some (.ref pf), some (.str z), o5] H3'
      refine ⟨_, rfl, a, rfl, ⟨_, .inl (STx _ i1)⟩, for_it (walk_tup (xs := hs.map V.str)) (fun j σ' H' => InvR v a pf hs H rare i j (some (.str z)) σ' H') ⟨o5, ps, rfl, i1, i2, i3, i4, i5, i6⟩ (fun j σ' H' _ ⟨o5, ps, _, e, _⟩ => .inl (STx _ e)) ?_ ?_⟩
      · rintro j x σ' H4 H4' hj ⟨o5, ps, rfl, i1, i2, i3, i4, i5, i6⟩ ⟨rfl, hx'⟩
        rw [List.getElem?_map] at hx'
        obtain ⟨y, hy, rfl⟩ := Option.map_eq_some_iff.mp hx'
        have keep : ∀ H5 (ps' : List (Addr × (Str × Str))), ExB v H H5 → IsVat H5 v → H5 pf = some (.lst (ps'.map fun q => V.ref q.1)) → (∀ q ∈ ps', PairAt H5 q.1 q.2) → (∀ q ∈ ps', ∃ i' j' : Nat, hs[i']? = some q.2.1 ∧ hs[j']? = some q.2.2 ∧ q.2.1 ≠ q.2.2 ∧ (i' < i ∨ (i' = i ∧ j' < j + 1))) → (ps'.map Prod.snd).Nodup →
            InvR v a pf hs H rare i (j + 1) (some (.str z)) [some (.ref v), some (.ref a), some (.int (rare : Int)), some (.ref pf), some (.str z), some (.str y)] H5 := fun H5 ps' h1 h2 h3 h4 h5 h6 => ⟨_, ps', rfl, h1, h2, h3, h4, h5, h6⟩
        have up : ∀ q ∈ ps, ∃ i' j' : Nat, hs[i']? = some q.2.1 ∧ hs[j']? = some q.2.2 ∧ q.2.1 ≠ q.2.2 ∧ (i' < i ∨ (i' = i ∧ j' < j + 1)) := fun q hq => by
          obtain ⟨i', j', a1, a2, a3, a4⟩ := i5 q hq
          exact ⟨i', j', a1, a2, a3, by omega⟩
        show tIfS _ _ _ _ [some (.ref v), some (.ref a), some (.int (rare : Int)), some (.ref pf), some (.str z), some (.str y)] H4'
        refine s_ifAnd (b := !decide (z = y)) (et_is (et_test (ev_op (ev_var rfl) (ev_var rfl) (rv_ne rfl))) (by rw [dS])) (fun hb H5 e5 => keep H5 ps (i1.trans (ExB.of e5)) (i2.ex e5) (e5 _ _ i3) (fun q hq => e5 _ _ (i4 q hq)) up i6) (fun hb H5 e5 => ?_)
        have hzy : z ≠ y := by simpa using hb
        refine tst_call (ea_cons (ev_var rfl) (ea_cons (ev_var rfl) ea_nil)) fun H6 e6 => ⟨v, rare, rfl, i2.ex (e5.trans e6), r1, r2, fun r H7 hr7 eb7 hv7 => ⟨rfl, _, rfl, ?_⟩⟩
        have e07 := i1.trans ((ExB.of (e5.trans e6)).trans eb7)
        have l7 := eb7 _ _ ((e5.trans e6) _ _ i3) pfv
        have p7 : ∀ q ∈ ps, PairAt H7 q.1 q.2 := fun q hq => ((ExB.of (e5.trans e6) (x := v)).trans eb7).fm.tup i2.mb (i4 q hq)
        cases hd : decide (V.int (r : Int) = V.int 0) with
        | false => exact keep H7 ps e07 hv7 l7 p7 up i6
        | true =>
          have hpl : ps.length ≤ 1000 := by
            have := ties_len (hs := hs) g2 i6 fun t ht => by
              obtain ⟨q, hq, rfl⟩ := List.mem_map.mp ht
              obtain ⟨i', j', a1, a2, a3, _⟩ := i5 q hq
              exact ⟨List.mem_of_getElem? a1, List.mem_of_getElem? a2, a3⟩
            rwa [List.length_map] at this
          rw [if_pos rfl]
          refine s_appU l7 (ev_var rfl) (eu_tup (ea_cons (ev_var rfl) (ea_cons (ev_var rfl) ea_nil)) (by show 2 ≤ 100000; omega)) (by rw [List.length_map]; omega) fun p H8 hp8 e8 ht8 => ?_
          have npf : p ≠ pf := fun q => by rw [q, l7] at hp8; cases hp8
          refine keep _ (ps ++ [(p, (z, y))]) ((e07.trans (ExB.of e8)).mut pf0) ((hv7.ex e8).upd (Ne.symm pfv)) ?_ ?_ ?_ ?_
          · rw [upd_same, List.map_append]
            rfl
          · intro q hq
            rcases List.mem_append.mp hq with h | h
            · have hq8 : PairAt H8 q.1 q.2 := e8 _ _ (p7 q h)
              have nq : q.1 ≠ pf := fun w => by
                have e9 := e8 _ _ l7
                rw [← w, show H8 q.1 = _ from hq8] at e9
                cases e9
              show (upd H8 pf _) q.1 = _
              rw [upd_ne nq]
              exact hq8
            · have : q = (p, (z, y)) := by simpa using h
              rw [this]
              show (upd H8 pf _) p = _
              rw [upd_ne npf]
              exact ht8
          · intro q hq
            rcases List.mem_append.mp hq with h | h
            · exact up q h
            · have : q = (p, (z, y)) := by simpa using h
              rw [this]
              exact ⟨i, j, hz, hy, hzy, .inr ⟨rfl, Nat.lt_succ_self j⟩⟩
          · rw [List.map_append]
            refine List.nodup_append.mpr ⟨i6, by simp, fun t ht t' ht' => ?_⟩
            have e9 : t' = (z, y) := by simpa using ht'
            rw [e9]
            rintro rfl
            obtain ⟨q, hq, e10⟩ := List.mem_map.mp ht
            obtain ⟨i', j', a1, a2, _, a4⟩ := i5 q hq
            rw [e10] at a1 a2
            have b1 := nodup_at g3 a1 hz
            have b2 := nodup_at g3 a2 hy
            omega
      · rintro σ' H4 ⟨o5, ps, rfl, j1, j2, j3, j4, j5, j6⟩
        exact ⟨_, o5, ps, rfl, j1, j2, j3, j4, fun q hq => by
          obtain ⟨i', j', a1, a2, a3, a4⟩ := j5 q hq
          exact ⟨i', j', a1, a2, a3, by omega⟩, j6⟩
    · rintro σ' H3 ⟨o4, o5, ps, rfl, i1, i2, i3, i4, i5, i6⟩
      have tin : ∀ q ∈ ps, GoodTie hs q.2 := fun q hq => by
        obtain ⟨i', j', a1, a2, a3, _⟩ := i5 q hq
        exact ⟨List.mem_of_getElem? a1, List.mem_of_getElem? a2, a3⟩
      have hpl : ps.length ≤ 1000 := by
        have := ties_len (hs := hs) g2 i6 fun t ht => by
          obtain ⟨q, hq, rfl⟩ := List.mem_map.mp ht
          exact tin q hq
        rwa [List.length_map] at this
      dsimp only
      refine s_retRaw (cb_call (ea_cons (ev_var rfl) (ea_cons (ev_var rfl) ea_nil)) fun H4 e4 => ⟨v, pf, ps.map prIt, rfl, i2.ex e4, by rw [prIt_fst]; exact e4 _ _ i3, fun q hq => ?_, by rw [List.length_map]; exact hpl, fun D p H5 perm hp0 hp eb5 hv5 => ?_⟩)
      · obtain ⟨q', hq', rfl⟩ := List.mem_map.mp hq
        exact .inr ⟨q'.1, q'.2, rfl, e4 _ _ (i4 q' hq'), rfl, .of (g4 _ (tin q' hq').1) (g4 _ (tin q' hq').2.1)⟩
      · obtain ⟨zs, rfl, pz⟩ := perm_of_map perm.symm rfl
        rw [prIt_fst] at hp
        have e05 := i1.trans ((ExB.of e4).trans eb5)
        refine ⟨p, zs.map fun q => V.ref q.1, rfl, .inl ⟨sq_of hp, fun l hl => ?_⟩⟩
        have en : Ex H5 (upd H5 l (.tup (zs.map fun q => V.ref q.1))) := Ex.new hl
        refine k (zs.map Prod.snd) l _ ((pz.map Prod.snd).nodup_iff.mpr i6) (fun t ht => ?_) ⟨zs.map Prod.fst, .inl ?_, ?_⟩ (e05.trans (ExB.of en)) (hv5.ex en)
        · obtain ⟨q, hq, rfl⟩ := List.mem_map.mp ht
          exact tin q (pz.mem_iff.mp hq)
        · rw [upd_same, List.map_map]
          rfl
        · have : ∀ qs : List (Addr × (Str × Str)), (∀ q ∈ qs, PairAt (upd H5 l (.tup (zs.map fun q => V.ref q.1))) q.1 q.2) → Paired (PairAt (upd H5 l (.tup (zs.map fun q => V.ref q.1)))) (qs.map Prod.fst) (qs.map Prod.snd) := fun qs => by
            induction qs with
            | nil => intro _; exact .nil
            | cons q r ih => intro h; exact .cons (h q List.mem_cons_self) (ih fun z hz => h z (List.mem_cons_of_mem _ hz))
          exact this zs fun q hq => en _ _ (((ExB.of e4 (x := v)).trans eb5).fm.tup i2.mb (i4 q (pz.mem_iff.mp hq)))
/-! ### _law_names -/
theorem scLNames : FnScope ["_law_some"] ["_law_some"] (defScope sLawNames) := ⟨rfl, rfl, rfl, by decide +kernel, rfl, by decide +kernel, by decide +kernel⟩
theorem ok_lnames (T : Tp K mg) : C8.Cal P w K mg base 1 "_law_names" spNames [] := by
  obtain ⟨fd, F⟩ := T.f_law_names
  refine ⟨_, fd, ["_law_some"], [], ?_, T.g_law_names, F.kp, F.bindsN (fun _ _ _ _ _ _ us hl => match us, hl with | [_], _ => rfl), .nil⟩
  refine F.ok scLNames (fun vs H Q E h => ?_) (fun cdv A outer s H vs Q E hr h => ?_)
  · obtain ⟨a, xs, rfl, _⟩ := h
    rfl
  · obtain ⟨a, xs, rfl, h, h1, h2, k⟩ := h
    refine ⟨_, PSs.nox (pss_one (ps_ret (pe_ifExp (pt_cmpR op_gt (pb call_len T.z_len PySem.boot_len (pv 0)) pe_int (nomark _)) (pe_join pe_str (pv 0)) pe_str))), ?_⟩
    have hj := joinSum_le (a := (" " : Str)) h1
    have hs : (" " : Str).length = 1 := by decide +kernel
    have hm := Nat.mul_le_mul_right 9 h2
    refine s_ret (ev_if (b := decide (0 < xs.length)) (et_is (et_test (ev_op (ev_cb1 (ev_var rfl) (rc_lenT h)) ev_c rv_I0)) ?_) (fun hb => ?_) (fun hb => ?_)) k
    · rw [List.length_map]
      exact decide_eq_decide.mpr (by omega)
    · have := of_decide_eq_true hb
      unfold namesM
      rw [if_neg (by omega)]
      exact ev_joinT ev_c (ev_var rfl) h (by rw [hs] at hj; omega)
    · have := of_decide_eq_false hb
      unfold namesM
      rw [if_pos (by omega)]
      exact ev_c
end K54
/-! K33 -/
namespace K54
open PySem PySem.Spec PyProof.Rows L2 LamX NdefX Evl
/-! ### texts that may be laid -/
theorem strOk_tl {x : Str} : PyData.strOk x = true ↔ ∀ c ∈ TL.tl x, c < 0x110000 := by
  unfold PyData.strOk
  rw [← Array.all_toList, List.all_eq_true]
  exact ⟨fun h c hc => of_decide_eq_true (h c hc), fun h c hc => decide_eq_true (h c hc)⟩
theorem strOk_of (s : String) : PyData.strOk (Str.ofString s) = true := strOk_tl.mpr fun c hc => by
  rw [TL.tl_ofString] at hc
  obtain ⟨d, _, rfl⟩ := List.mem_map.mp hc
  have := d.valid
  show d.val.toNat < _
  rcases this with h | h
  · have : d.val.toNat < 0xd800 := h
    omega
  · exact h.2
theorem strOk_app {x y : Str} (h1 : PyData.strOk x = true) (h2 : PyData.strOk y = true) : PyData.strOk (x ++ y) = true := strOk_tl.mpr fun c hc => by
  rw [TL.tl_append] at hc
  rcases List.mem_append.mp hc with q | q
  · exact strOk_tl.mp h1 c q
  · exact strOk_tl.mp h2 c q
theorem strOk_sjoin {a : Str} (ha : PyData.strOk a = true) : ∀ ys : List Str, (∀ y ∈ ys, PyData.strOk y = true) → PyData.strOk (Str.join a ys) = true
  | [], _ => by
    show PyData.strOk Str.empty = true
    decide +kernel
  | [y], h => h y List.mem_cons_self
  | y :: z :: r, h => strOk_app (strOk_app (h y List.mem_cons_self) ha) (strOk_sjoin ha (z :: r) fun w hw => h w (List.mem_cons_of_mem _ hw))
theorem strOk_join {a : Str} {ys : List Str} (ha : PyData.strOk a = true) (h : ∀ y ∈ ys, PyData.strOk y = true) : PyData.strOk (Txt.join a ys) = true := by
  rw [join_eq]
  exact strOk_sjoin ha ys h
theorem strOk_names {xs : List Str} (h : ∀ z ∈ xs, nameB z = true) : PyData.strOk (namesM xs) = true := by
  unfold namesM
  split
  · exact strOk_of "-"
  · exact strOk_join (strOk_of " ") fun y hy => nameB_strOk (h y hy)
theorem strOk_text {W : Wk} (h : W.Ok) : PyData.strOk (textM W) = true := by
  unfold textM
  refine strOk_join (strOk_of "\n") fun y hy => ?_
  rcases List.mem_cons.mp hy with e | hy
  · rw [e]
    exact strOk_join (strOk_of " ") fun z hz => nameB_strOk (h.nm z hz)
  · obtain ⟨t, ht, rfl⟩ := List.mem_map.mp hy
    unfold tieT
    exact strOk_app (strOk_app (strOk_app (by decide +kernel) (nameB_strOk (h.nm _ (h.ties t ht).1))) (strOk_of " > ")) (nameB_strOk (h.nm _ (h.ties t ht).2.1))
theorem strOk_yes (b : Bool) : PyData.strOk (yesno b) = true := by
  unfold yesno
  split
  · exact strOk_of "yes"
  · exact strOk_of "no"
theorem known_names {s : Stt} (h : s.Ok) : ∀ z ∈ knownM s, nameB z = true := fun z hz => by
  have l : Lot s.1.hs.length (lotOf s.1 (placesM s.1 s.2)) := allLot_lot _ (places_lot h)
  unfold knownM namedM at hz
  obtain ⟨i, hi, rfl⟩ := List.mem_map.mp hz
  have hi' := l.2 i (sortN_mem.mp hi)
  rw [List.getD_eq_getElem?_getD, List.getElem?_eq_getElem hi']
  exact h.w.nm _ (List.getElem_mem hi')
/-! ### the states go on -/
def AllOk (hs : List Str) (l : List Stt) : Prop := ∀ x ∈ l, x.Ok ∧ x.1.hs = hs
theorem doTie_hs {s s' : Stt} {x y : Str} (e : doTie s x y = some s') : s'.1.hs = s.1.hs := by
  unfold doTie at e
  split at e
  · cases e
    rfl
  · cases e
theorem doCut_hs {s s' : Stt} {x y : Str} (e : doCut s x y = some s') : s'.1.hs = s.1.hs := by
  unfold doCut at e
  split at e
  · cases e
    rfl
  · cases e
theorem doLead_hs {s s' : Stt} {x : Str} (e : doLead s x = some s') : s'.1.hs = s.1.hs := by
  unfold doLead at e
  split at e
  · cases e
    rfl
  · cases e
theorem doLeave_hs {s s' : Stt} {x : Str} (e : doLeave s x = some s') : s'.1.hs = s.1.hs := by
  unfold doLeave at e
  split at e
  · cases e
    rfl
  · cases e
theorem ans_inv {hs : List Str} {st : List Stt} {s : Stt} {ws : List Str} (h : AllOk hs (st ++ [s])) : ∃ st1 s1, (ansM st s ws).1 = st1 ++ [s1] ∧ AllOk hs (st1 ++ [s1]) ∧ st1.length ≤ st.length + 1 := by
  have stay : ∃ st1 s1, st ++ [s] = st1 ++ [s1] ∧ AllOk hs (st1 ++ [s1]) ∧ st1.length ≤ st.length + 1 := ⟨st, s, rfl, h, Nat.le_succ _⟩
  have hs0 := h s (by simp)
  have grow : ∀ s', s'.Ok → s'.1.hs = s.1.hs → ∃ st1 s1, (st ++ [s]) ++ [s'] = st1 ++ [s1] ∧ AllOk hs (st1 ++ [s1]) ∧ st1.length ≤ st.length + 1 := fun s' ok e => ⟨st ++ [s], s', rfl, fun x hx => by
    rcases List.mem_append.mp hx with q | q
    · exact h x q
    · have : x = s' := by simpa using q
      rw [this]
      exact ⟨ok, e.trans hs0.2⟩, by simp⟩
  have und : ∃ st1 s1, (match (if st = [] then none else some st : Option (List Stt)) with
      | some st' => (st', ("done" : Str))
      | none => (st ++ [s], ("refused" : Str))).1 = st1 ++ [s1] ∧ AllOk hs (st1 ++ [s1]) ∧ st1.length ≤ st.length + 1 := by
    by_cases e : st = []
    · rw [if_pos e]
      exact stay
    · rw [if_neg e]
      refine ⟨st.dropLast, st.getLast e, (List.dropLast_concat_getLast e).symm, ?_, by rw [List.length_dropLast]; omega⟩
      rw [List.dropLast_concat_getLast e]
      exact fun x hx => h x (List.mem_append.mpr (.inl hx))
  unfold ansM doWords
  split
  · rename_i st' e
    split at e
    · rename_i w x y
      obtain ⟨s', e1, e2⟩ := Option.map_eq_some_iff.mp e
      rw [← e2]
      split at e1
      · exact grow s' (doTie_ok hs0.1 e1) (doTie_hs e1)
      · exact grow s' (doCut_ok hs0.1 e1) (doCut_hs e1)
    · rename_i w x
      obtain ⟨s', e1, e2⟩ := Option.map_eq_some_iff.mp e
      rw [← e2]
      split at e1
      · exact grow s' (doLead_ok hs0.1 e1) (doLead_hs e1)
      · exact grow s' (doLeave_ok hs0.1 e1) (doLeave_hs e1)
    · rw [e] at und
      exact und
  · exact stay
variable {P : Program} {w : World} {K : PySem.W.Frag} {mg : Str → Option Value} {base : Heap}
/-! ### _law_deed -/
def spLDeed (K : PySem.W.Frag) : Sp := fun vs H Q _ => ∃ b wl st s ws, vs = [.ref b, .ref wl] ∧ BoardAt K H b (st ++ [s]) ∧ s.Ok ∧ st.length ≤ 1000 ∧ H wl = some (.lst (ws.map V.str)) ∧ DW ws ∧ ∀ H', ExB b H H' → BoardAt K H' b (ansM st s ws).1 → Q (.str (ansM st s ws).2) H'
theorem scLDeed : FnScope ["_law_board_here", "_law_words"] ["_law_board_here", "_law_words"] (defScope sLawDeed) := ⟨rfl, rfl, rfl, by decide +kernel, rfl, by decide +kernel, by decide +kernel⟩
theorem ok_ldeed (T : Tp K mg) : C8.Cal P w K mg base 6 "_law_deed" (spLDeed K) [] := by
  obtain ⟨fd, F⟩ := T.f_law_deed
  refine ⟨_, fd, ["_law_board_here", "_law_words"], [], ?_, T.g_law_deed, F.kp, F.bindsN (fun _ _ _ _ _ _ us hl => match us, hl with | [_, _], _ => rfl), .nil⟩
  refine F.ok scLDeed (fun vs H Q E h => ?_) (fun cdv A outer s H vs Q E hr h => ?_)
  · obtain ⟨b, wl, st, s, ws, rfl, _⟩ := h
    rfl
  · obtain ⟨b, wl, st, s', ws, rfl, hb, ok, hz, hw, dw, k⟩ := h
    obtain ⟨bdx, bt, bas, bp, bwa, bl, bi⟩ := hb.out
    obtain ⟨f1, F1, b1⟩ := ok_tie (P := P) (w := w) (base := base) T
    obtain ⟨f2, F2, b2⟩ := ok_cut (P := P) (w := w) (base := base) T
    obtain ⟨f3, F3, b3⟩ := ok_lead (P := P) (w := w) (base := base) T
    obtain ⟨f4, F4, b4⟩ := ok_leave (P := P) (w := w) (base := base) T
    obtain ⟨f5, F5, b5⟩ := ok_undo (P := P) (w := w) (base := base) T
    refine ⟨_, PSs.nox (pss_cons (ps_try_tup rfl rfl ⟨rfl, T.g_InvalidName⟩ ⟨rfl, T.g_InvalidTie⟩ ⟨rfl, T.g_NothingToUndo⟩ ⟨rfl, T.g_UnknownName⟩
        (fun W pn xe tk po => pss_one (ps_if (pt_cmpR op_eq (pe_ix (ixK_list K rfl) (pv 1) pe_int (fun _ _ => rfl)) pe_str (nomark _))
            (pss_one (ps_expr (pe_meth (E := fun cls d H => ∀ σ, W cls d σ H) (pv 0) T.c_Board T.h_Board_tie F1 hr b1 .nil (passes_call tk fun cls d σ H h => h σ) (pa_cons (pe_ix (ixK_list K rfl) (pv 1) pe_int (fun _ _ => rfl)) (pa_cons (pe_ix (ixK_list K rfl) (pv 1) pe_int (fun _ _ => rfl)) pa_nil)))))
          (pss_one (ps_if (pt_cmpR op_eq (pe_ix (ixK_list K rfl) (pv 1) pe_int (fun _ _ => rfl)) pe_str (nomark _))
            (pss_one (ps_expr (pe_meth (E := fun cls d H => ∀ σ, W cls d σ H) (pv 0) T.c_Board T.h_Board_cut F2 hr b2 .nil (passes_call tk fun cls d σ H h => h σ) (pa_cons (pe_ix (ixK_list K rfl) (pv 1) pe_int (fun _ _ => rfl)) (pa_cons (pe_ix (ixK_list K rfl) (pv 1) pe_int (fun _ _ => rfl)) pa_nil)))))
          (pss_one (ps_if (pt_cmpR op_eq (pe_ix (ixK_list K rfl) (pv 1) pe_int (fun _ _ => rfl)) pe_str (nomark _))
            (pss_one (ps_expr (pe_meth (E := fun cls d H => ∀ σ, W cls d σ H) (pv 0) T.c_Board T.h_Board_lead F3 hr b3 .nil (passes_call tk fun cls d σ H h => h σ) (pa_cons (pe_ix (ixK_list K rfl) (pv 1) pe_int (fun _ _ => rfl)) pa_nil))))
          (pss_one (ps_if (pt_cmpR op_eq (pe_ix (ixK_list K rfl) (pv 1) pe_int (fun _ _ => rfl)) pe_str (nomark _))
            (pss_one (ps_expr (pe_meth (E := fun cls d H => ∀ σ, W cls d σ H) (pv 0) T.c_Board T.h_Board_leave F4 hr b4 .nil (passes_call tk fun cls d σ H h => h σ) (pa_cons (pe_ix (ixK_list K rfl) (pv 1) pe_int (fun _ _ => rfl)) pa_nil))))
            (pss_one (ps_expr (pe_meth0 (E := fun cls d H => ∀ σ, W cls d σ H) (pv 0) T.c_Board T.h_Board_undo F5 hr b5 .nil (passes_call tk fun cls d σ H h => h σ))))))))))))
        (fun a pn => pss_one (ps_ret pe_str))) (pss_one (ps_ret pe_str))), ?_⟩
    have m : ∀ H1, Ex H H1 → MutP K H1 b (doWords st s' ws) (fun _ H2 => tRet (tC (.str ("done" : Str))) { nx := fun _ H' => Q .non H', rt := Q } [some (.ref b), some (.ref wl)] H2)
        (fun cls d H2 => ∀ σ, wTup K (errCs K) (tRet (tC (.str ("refused" : Str)))) { nx := tRet (tC (.str ("done" : Str))) { nx := fun _ H' => Q .non H', rt := Q }, rt := Q } cls d σ H2) := fun H1 e1 => by
      refine ⟨fun st' hst H2 eb hb2 => s_ret ev_c fun H3 e3 => ?_, fun hst cls d H2 he e2 σ => ⟨he, s_ret ev_c fun H3 e3 => ?_⟩⟩
      · have hM : ansM st s' ws = (st', ("done" : Str)) := by
          unfold ansM
          rw [hst]
        have := k H3 (((ExB.of e1).trans eb).trans (ExB.of e3)) (by rw [hM]; exact hb2.ex e3)
        rw [hM] at this
        exact this
      · have hM : ansM st s' ws = (st ++ [s'], ("refused" : Str)) := by
          unfold ansM
          rw [hst]
        have := k H3 (ExB.of ((e1.trans e2).trans e3)) (by rw [hM]; exact hb.ex ((e1.trans e2).trans e3))
        rw [hM] at this
        exact this
    have tst : ∀ (w0 z : Str) (wr : List Str) (H4 : Hp), ws = w0 :: wr → Ex H H4 → EvT (tTest (tOp rEq (tOp (rIxL K) (tVar 1) (tC (.int 0))) (tC (.str z)))) ([some (.ref b), some (.ref wl)] : L2.St) H4 (decide (w0 = z)) := fun w0 z wr H4 e h4 =>
      et_is (et_test (ev_op (ev_op (ev_var rfl) ev_c (rv_ixL (v := .str w0) (sq_of (h4 _ _ hw)) (atI_nat (j := 0) (by rw [e]; rfl)))) ev_c (rv_eq rfl))) dS
    unfold tSeq
    dsimp only
    rcases dw with hws | ⟨w0, x, y, hws, hw0, hx, hy⟩ | ⟨w0, x, hws, hw0, hx⟩
    · refine s_if (b := false) (et_is (tst _ _ _ H hws (Ex.refl H)) (decide_eq_false (by decide +kernel))) nofun fun _ H1 e1 => ?_
      refine s_if (b := false) (et_is (tst _ _ _ H1 hws e1) (decide_eq_false (by decide +kernel))) nofun fun _ H2 e2 => ?_
      refine s_if (b := false) (et_is (tst _ _ _ H2 hws (e1.trans e2)) (decide_eq_false (by decide +kernel))) nofun fun _ H3 e3 => ?_
      refine s_if (b := false) (et_is (tst _ _ _ H3 hws ((e1.trans e2).trans e3)) (decide_eq_false (by decide +kernel))) nofun fun _ H4 e4 => ?_
      have e04 := (e1.trans e2).trans (e3.trans e4)
      refine s_dropRaw (c_meth (ev_var rfl) (e04 _ _ bi.at_) rfl ea_nil fun H5 e5 => ⟨b, st, s', rfl, hb.ex (e04.trans e5), hz, ?_⟩)
      have := m H5 (e04.trans e5)
      rw [hws] at this
      exact this
    · rcases hw0 with h0 | h0
      · refine s_if (b := true) (et_is (tst _ _ _ H hws (Ex.refl H)) (by rw [h0]; rfl)) (fun _ H1 e1 => ?_) nofun
        refine s_dropRaw (c_meth (ev_var rfl) (e1 _ _ bi.at_) rfl (ea_cons (ev_op (ev_var rfl) ev_c (rv_ixL (v := .str x) (sq_of (e1 _ _ hw)) (atI_nat (j := 1) (by rw [hws]; rfl)))) (ea_cons (ev_op (ev_var rfl) ev_c (rv_ixL (v := .str y) (sq_of (e1 _ _ hw)) (atI_nat (j := 2) (by rw [hws]; rfl)))) ea_nil)) fun H5 e5 => ⟨b, st, s', x, y, rfl, hb.ex (e1.trans e5), ok, hz, ?_⟩)
        have := m H5 (e1.trans e5)
        rw [hws, h0] at this
        exact this
      · refine s_if (b := false) (et_is (tst _ _ _ H hws (Ex.refl H)) (by rw [h0]; exact decide_eq_false (by decide +kernel))) nofun fun _ H1 e1 => ?_
        refine s_if (b := true) (et_is (tst _ _ _ H1 hws e1) (by rw [h0]; rfl)) (fun _ H2 e2 => ?_) nofun
        have e02 := e1.trans e2
        refine s_dropRaw (c_meth (ev_var rfl) (e02 _ _ bi.at_) rfl (ea_cons (ev_op (ev_var rfl) ev_c (rv_ixL (v := .str x) (sq_of (e02 _ _ hw)) (atI_nat (j := 1) (by rw [hws]; rfl)))) (ea_cons (ev_op (ev_var rfl) ev_c (rv_ixL (v := .str y) (sq_of (e02 _ _ hw)) (atI_nat (j := 2) (by rw [hws]; rfl)))) ea_nil)) fun H5 e5 => ⟨b, st, s', x, y, rfl, hb.ex (e02.trans e5), ok, hz, ?_⟩)
        have := m H5 (e02.trans e5)
        rw [hws, h0] at this
        exact this
    · rcases hw0 with h0 | h0
      · refine s_if (b := false) (et_is (tst _ _ _ H hws (Ex.refl H)) (by rw [h0]; exact decide_eq_false (by decide +kernel))) nofun fun _ H1 e1 => ?_
        refine s_if (b := false) (et_is (tst _ _ _ H1 hws e1) (by rw [h0]; exact decide_eq_false (by decide +kernel))) nofun fun _ H2 e2 => ?_
        refine s_if (b := true) (et_is (tst _ _ _ H2 hws (e1.trans e2)) (by rw [h0]; rfl)) (fun _ H3 e3 => ?_) nofun
        have e03 := (e1.trans e2).trans e3
        refine s_dropRaw (c_meth (ev_var rfl) (e03 _ _ bi.at_) rfl (ea_cons (ev_op (ev_var rfl) ev_c (rv_ixL (v := .str x) (sq_of (e03 _ _ hw)) (atI_nat (j := 1) (by rw [hws]; rfl)))) ea_nil) fun H5 e5 => ⟨b, st, s', x, rfl, hb.ex (e03.trans e5), ok, hz, ?_⟩)
        have := m H5 (e03.trans e5)
        rw [hws, h0] at this
        exact this
      · refine s_if (b := false) (et_is (tst _ _ _ H hws (Ex.refl H)) (by rw [h0]; exact decide_eq_false (by decide +kernel))) nofun fun _ H1 e1 => ?_
        refine s_if (b := false) (et_is (tst _ _ _ H1 hws e1) (by rw [h0]; exact decide_eq_false (by decide +kernel))) nofun fun _ H2 e2 => ?_
        refine s_if (b := false) (et_is (tst _ _ _ H2 hws (e1.trans e2)) (by rw [h0]; exact decide_eq_false (by decide +kernel))) nofun fun _ H3 e3 => ?_
        refine s_if (b := true) (et_is (tst _ _ _ H3 hws ((e1.trans e2).trans e3)) (by rw [h0]; rfl)) (fun _ H4 e4 => ?_) nofun
        have e04 := (e1.trans e2).trans (e3.trans e4)
        refine s_dropRaw (c_meth (ev_var rfl) (e04 _ _ bi.at_) rfl (ea_cons (ev_op (ev_var rfl) ev_c (rv_ixL (v := .str x) (sq_of (e04 _ _ hw)) (atI_nat (j := 1) (by rw [hws]; rfl)))) ea_nil) fun H5 e5 => ⟨b, st, s', x, rfl, hb.ex (e04.trans e5), ok, hz, ?_⟩)
        have := m H5 (e04.trans e5)
        rw [hws, h0] at this
        exact this
end K54
/-! K34 -/
namespace K54
open PySem PySem.Spec PyProof.Rows L2 LamX NdefX Evl
/-! ### the scene of _law_right -/
/-- new since: at most a table's place -/
def NewIn (H : Hp) (c : Addr) : Prop := ∀ o, H c = some o → ∃ ps, o = .tbl ps
theorem NewIn.of {H : Hp} {c : Addr} (h : H c = none) : NewIn H c := fun o e => by rw [h] at e; cases e
theorem NewIn.back {bs : List Addr} {H H1 : Hp} {c : Addr} (f : Fm bs H H1) (h : H1 c = none) (n : c ∉ bs) : NewIn H c := fun o e => by
  by_cases t : ∃ ps, o = .tbl ps
  · exact t
  · have := f c o e n fun ps z => t ⟨ps, z⟩
    rw [h] at this
    cases this
theorem Fm.newc {bs cs : List Addr} {H H1 H2 : Hp} (f : Fm bs H H1) (g : Fm cs H1 H2) (h : ∀ c ∈ cs, c ∈ bs ∨ NewIn H c) : Fm bs H H2 := fun a o e n t => g a o (f a o e n t) (fun hc => (h a hc).elim n (fun z => by
  obtain ⟨ps, q⟩ := z o e
  exact t ps q)) t
theorem FT.newc {K : PySem.W.Frag} {bs cs : List Addr} {H H1 H2 : Hp} (f : FT K bs H H1) (g : FT K cs H1 H2) (h : ∀ c ∈ cs, c ∈ bs ∨ NewIn H c) : FT K bs H H2 := ⟨f.1.newc g.1 h, g.2⟩
structure Scn (K : PySem.W.Frag) (H : Hp) (v a : Addr) (hs : List Str) (b1 c b2 dx t : Addr) (ans : List V) (st : List Stt) (s : Stt) : Prop where
  vat : IsVat H v
  hd : STup H a hs
  bd1 : BoardAt K H b1 (st ++ [s])
  con : CIn K H c b2 dx t ans
  bd2 : BoardAt K H b2 (st ++ [s])
  tabs : Tabs (TT2 K) H
section
variable {K : PySem.W.Frag} {H H' : Hp} {v a : Addr} {hs : List Str} {b1 c b2 dx t : Addr} {ans : List V} {st : List Stt} {s : Stt}
theorem board_nv (hv : IsVat H v) (hb : BoardAt K H b1 (st ++ [s])) : b1 ≠ v := fun z => by
  obtain ⟨x, y, zz, h0, _⟩ := hv
  obtain ⟨bdx, bt, as, bp, bwa, bl, bi⟩ := hb.out
  rw [← z, bi.at_] at h0
  cases h0
theorem con_nv (hv : IsVat H v) (hc : CIn K H c b2 dx t ans) : c ≠ v := fun z => by
  obtain ⟨x, y, zz, h0, _⟩ := hv
  rw [← z, hc.at_] at h0
  cases h0
theorem Scn.ex (h : Scn K H v a hs b1 c b2 dx t ans st s) (e : Ex H H') : Scn K H' v a hs b1 c b2 dx t ans st s := ⟨h.vat.ex e, h.hd.ex e, h.bd1.ex e, h.con.ex e, h.bd2.ex e, h.tabs.ext e⟩
theorem Scn.vatted (h : Scn K H v a hs b1 c b2 dx t ans st s) (e : ExB v H H') (hv : IsVat H' v) : Scn K H' v a hs b1 c b2 dx t ans st s := by
  obtain ⟨x, y, z, h0, _⟩ := id h.vat
  exact ⟨hv, h.hd.fm e.fm h.vat.mb, h.bd1.fm e.fm h.vat.mb (by simpa using board_nv h.vat h.bd1), h.con.fm e.fm h.vat.mb (by simpa using con_nv h.vat h.con), h.bd2.fm e.fm h.vat.mb (by simpa using board_nv h.vat h.bd2), tabs_but e h0 (fun _ w => nomatch w) (fun _ w => nomatch w) h.tabs⟩
theorem Scn.lst (h : Scn K H v a hs b1 c b2 dx t ans st s) {D : Addr} {xs : List V} (e : ExB D H H') (hD : H D = some (.lst xs)) (n : D ≠ v) : Scn K H' v a hs b1 c b2 dx t ans st s := by
  obtain ⟨x, y, z, h0, h1, h2⟩ := id h.vat
  obtain ⟨bdx, bt, as, bp, bwa, bl, bi⟩ := h.bd1.out
  obtain ⟨bdx2, bt2, as2, bp2, bwa2, bl2, bi2⟩ := h.bd2.out
  have mb : Mb H [D] := Mb.lst hD Mb.nil
  have n1 : b1 ≠ D := fun w => by rw [← w, bi.at_] at hD; cases hD
  have n2 : b2 ≠ D := fun w => by rw [← w, bi2.at_] at hD; cases hD
  have n3 : c ≠ D := fun w => by rw [← w, h.con.at_] at hD; cases hD
  exact ⟨⟨x, y, z, e _ _ h0 (Ne.symm n), h1, h2⟩, h.hd.fm e.fm mb, h.bd1.fm e.fm mb (by simpa using n1), h.con.fm e.fm mb (by simpa using n3), h.bd2.fm e.fm mb (by simpa using n2), tabs_but e hD (fun _ w => nomatch w) (fun _ w => nomatch w) h.tabs⟩
theorem Scn.rest (h : Scn K H v a hs b1 c b2 dx t ans st s) (f : FT K [b2, c] H H') (n1 : b1 ≠ b2) : IsVat H' v ∧ STup H' a hs ∧ BoardAt K H' b1 (st ++ [s]) := by
  obtain ⟨x, y, z, h0, h1, h2⟩ := id h.vat
  obtain ⟨bdx2, bt2, as2, bp2, bwa2, bl2, bi2⟩ := h.bd2.out
  have mb : Mb H [b2, c] := Mb.cons bi2.at_ ⟨(fun _ z => nomatch z), (fun _ _ z => nomatch z)⟩ (fun _ _ _ _ _ z => by cases z) (mb_board h.con.at_ (by show 2 ≤ 2; decide))
  have v1 := board_nv h.vat h.bd2
  have v2 := con_nv h.vat h.con
  have n2 : b1 ≠ c := fun z => by
    obtain ⟨bdx, bt, as, e, _⟩ := h.bd1.at_
    rw [z, h.con.at_] at e
    have e2 := congrArg (fun o : Option HO => match o with | some (.ins _ _ fs) => fs.length | _ => 0) e
    have e3 : (2 : Nat) = 1 := e2
    omega
  refine ⟨⟨x, y, z, f.1 _ _ h0 ?_ (fun _ w => nomatch w), h1, h2⟩, h.hd.fm f.1 mb, h.bd1.fm f.1 mb ?_⟩
  · intro hm
    have : v = b2 ∨ v = c := by simpa using hm
    rcases this with w | w
    · exact v1 w.symm
    · exact v2 w.symm
  · intro hm
    have : b1 = b2 ∨ b1 = c := by simpa using hm
    rcases this with w | w
    · exact n1 w
    · exact n2 w
theorem tup_nv {m : Addr} {xs : List V} (hv : IsVat H v) (h : Rd H m (.tup xs)) : m ≠ v := fun z => by
  obtain ⟨x, y, zz, h0, _⟩ := hv
  rcases h with h | ⟨u, h⟩
  · rw [z, h0] at h
    cases h
  · rw [z, h0] at h
    cases h
end
variable {P : Program} {w : World} {K : PySem.W.Frag} {mg : Str → Option Value} {base : Heap}
section
variable {σ : L2.St} {H H' : Hp} {te te1 te2 : TE} {v a : Addr} {hs : List Str} {b1 c b2 dx t : Addr} {ans : List V} {st : List Stt} {s : Stt} {Q : VK} {E : XK} {tz tu tw : TS} {tt : TT} {D : Ends}
theorem tst_raw {r : R2} {Qb : Bool → Hp → Prop} (h : te1 σ H fun x H1 => te2 σ H1 fun y H2 => r x y H2 fun z H3 => ∃ c, z = .bl c ∧ Qb c H3) : tTest (tOp r te1 te2) σ H Qb := h
theorem q_ifRaw (h : tt σ H fun b H1 => if b = true then tu { D with nx := tz D } σ H1 else tw { D with nx := tz D } σ H1) : tSeq (tIfS tt tu tw) tz D σ H := h
/-- _law_of(vat, e) -/
theorem c_of {S : V → Hp → Prop} (sc : Scn K H v a hs b1 c b2 dx t ans st s) (hσ : σ[0]? = some (some (.ref v))) (h : EvP te σ H fun x H1 => ∃ m xs, x = .ref m ∧ (Rd H1 m (.lst xs) ∨ Rd H1 m (.tup xs)) ∧ m ≠ v ∧ 1 ≤ xs.length ∧ xs.length ≤ 1000 ∧ ∀ y ∈ xs, S y H1)
    (hS : ∀ y H1 H2, IsVat H1 v → ExB v H1 H2 → S y H1 → S y H2) (k : ∀ y H2, Scn K H2 v a hs b1 c b2 dx t ans st s → ExB v H H2 → S y H2 → Q y H2) : tCall (spOf K) [] E (tCons (tVar 0) (tCons te tNil)) σ H Q :=
  tab_callP (Ra := fun vs H1 => ∃ m xs, vs = [.ref v, .ref m] ∧ (Rd H1 m (.lst xs) ∨ Rd H1 m (.tup xs)) ∧ m ≠ v ∧ 1 ≤ xs.length ∧ xs.length ≤ 1000 ∧ ∀ y ∈ xs, S y H1)
    (eap_cons (EvP.of (ev_var hσ)) fun x H1 e1 hx => eap_one (h.mono e1) fun y H2 e2 ⟨m, xs, ey, r⟩ => ⟨m, xs, by rw [hx, ey], r⟩) fun vs H1 e1 ⟨m, xs, ev, hm, nv, n1, n2, hx⟩ => by
    subst ev
    exact ⟨v, m, xs, rfl, sc.vat.ex e1, hm, nv, n1, n2, fun i y H2 hy eb hv2 => k y H2 ((sc.ex e1).vatted eb hv2) ((ExB.of e1).trans eb) (hS y H1 H2 (sc.vat.ex e1) eb (hx y (List.mem_of_getElem? hy)))⟩
end
/-- a list of words, a line that changes -/
def WordL (v : Addr) : V → Hp → Prop := fun y H => ∃ q ws, y = .ref q ∧ H q = some (.lst (ws.map V.str)) ∧ DW ws ∧ q ≠ v
theorem wordL_stay {v : Addr} : ∀ y H1 H2, IsVat H1 v → ExB v H1 H2 → WordL v y H1 → WordL v y H2 := fun y H1 H2 _ e ⟨q, ws, e1, h, d, n⟩ => ⟨q, ws, e1, e _ _ h n, d, n⟩
def NameS (P : Str → Prop) : V → Hp → Prop := fun y _ => ∃ z, y = .str z ∧ P z
theorem nameS_stay {P : Str → Prop} {v : Addr} : ∀ y H1 H2, IsVat H1 v → ExB v H1 H2 → NameS P y H1 → NameS P y H2 := fun _ _ _ _ _ h => h
theorem WordL.ex {v : Addr} {y : V} {H H' : Hp} (h : WordL v y H) (e : Ex H H') : WordL v y H' := by
  obtain ⟨q, ws, e1, h1, d, n⟩ := h
  exact ⟨q, ws, e1, e _ _ h1, d, n⟩
theorem strs_nv {H : Hp} {v q : Addr} {ws : List Str} (hv : IsVat H v) (hq : H q = some (.lst (ws.map V.str))) (hne : ws ≠ []) : q ≠ v := fun z => by
  obtain ⟨x, y, zz, h0, _⟩ := hv
  rw [z, h0] at hq
  cases ws with
  | nil => exact hne rfl
  | cons w0 r =>
    have e := HO.lst.inj (Option.some.inj hq)
    have e2 := (List.cons.inj e).1
    cases e2
theorem evp_console {σ : L2.St} {H : Hp} {W : Wk} {ls : List Str} {E : XK} {ta : TA} (h : EAP ta σ H fun vs H1 => ∃ a l, vs = [.ref a, .ref l] ∧ WorksAt K H1 a W ∧ STup H1 l ls) (g : GoodLead W.hs ls) :
    EvP (tMake (He.ga K "Console") (spConInit K) [] E ta) σ H fun v H1 => ∃ c b dx t, v = .ref c ∧ CIn K H1 c b dx t [] ∧ BoardAt K H1 b [(W, ls)] ∧ H b = none ∧ H c = none := fun H1 e Q q =>
  h H1 e _ fun vs H2 e2 ⟨a, l, ev, h1, h2⟩ => fun x dx hx hdx ne => by
    subst ev
    have hx' : (upd H2 dx (.own x)) x = none := by rw [upd_ne (Ne.symm ne)]; exact hx
    have en : Ex H2 (upd (upd H2 dx (.own x)) x (.ins (He.ga K "Console") dx [])) := (Ex.new hdx).trans (Ex.new hx')
    exact ⟨x, dx, a, l, W, ls, rfl, upd_same, h1.ex en, h2.ex en, g, fun b t H3 eb hx3 hb ht nb hb0 => by
      have e3 := ExB.new hx hdx eb
      refine ⟨rfl, q _ H3 (e2.trans e3) ⟨x, b, dx, t, rfl, ⟨hx3, ht⟩, hb, ?_, fresh_back (e.trans e2) hx⟩⟩
      exact fresh_back (e.trans (e2.trans en)) hb0⟩
theorem WordL.of {v : Addr} {y : V} {H : Hp} {ws : List Str} (hv : IsVat H v) (h : IsL (ws.map V.str) y H) (d : DW ws) : WordL v y H := by
  obtain ⟨q, ey, hq⟩ := h
  exact ⟨q, ws, ey, hq, d, strs_nv hv hq d.names.1⟩
section
variable {σ : L2.St} {H H' : Hp} {te tl : TE} {g : TG} {tt : TT} {vs : List Nat} {Q : VK} {R : V → Hp → Prop}
theorem evp_lstA {ta : TA} {Ra : List V → Hp → Prop} (h : EAP ta σ H Ra) (hl : ∀ vs H1, Ra vs H1 → vs.length ≤ 100000) (k : ∀ vs t H1 H2, Ex H H2 → Ex H1 H2 → Ra vs H1 → H2 t = some (.lst vs) → R (.ref t) H2) : EvP (tLst ta) σ H R := fun H1 e Q q =>
  h H1 e _ fun vs H2 e2 hv => ⟨sz_of (hl vs H2 hv), fun l hl => q _ _ (e2.trans (Ex.new hl)) (k vs l H2 _ ((e.trans e2).trans (Ex.new hl)) (Ex.new hl) hv upd_same)⟩
theorem lst_raw {t : TA} (h : t σ H fun vs H1 => vs.length ≤ sizeLine ∧ ∀ l, H1 l = none → Q (.ref l) (upd H1 l (.lst vs))) : tLst t σ H Q := h
theorem evp_rev {p : Addr} {xs : List V} (h : Ev te σ H (.ref p)) (hp : H p = some (.lst xs)) : EvP (tRevL K te) σ H (IsL xs.reverse) := fun H1 e Q q => h H1 e _ fun H2 e2 => ⟨p, xs, rfl, sq_of ((e.trans e2) _ _ hp), fun l hl => q _ _ (e2.trans (Ex.new hl)) ⟨l, rfl, upd_same⟩⟩
theorem lc_lst {xs : List V} (h : EvP tl σ H (IsL xs)) (k : ∀ m H1, Ex H H1 → H1 m = some (.lst xs) → tLc (iList K (tC (.ref m))) g tt te vs σ H1 Q) : tLc (iList K tl) g tt te vs σ H Q :=
  h H (Ex.refl H) _ fun x H1 e1 ⟨m, ex, hm⟩ => by
    subst ex
    obtain ⟨a, ea, _, r⟩ := k m H1 e1 hm
    cases ea
    exact ⟨m, rfl, ⟨xs, sq_of hm⟩, r⟩
theorem lc_at {m : Addr} {xs : List V} (hm : H m = some (.lst xs)) (k : ∀ D, H D = none → ∃ W : Nat → Nat → Hp → Prop, (∃ m, W 0 m (upd H D (.lst []))) ∧ ∀ i m' H', W i m' H' →
      ((Itl K m).stop i H' ∧ Q (.ref D) H') ∨ ((Itl K m).go i H' ∧ ∃ Nx : Hp → Prop, (∀ H2, Nx H2 → ∃ m2, m2 < m' ∧ W (i + 1) m2 H2) ∧ ∀ x H2, (Itl K m).yld i H' x H2 → g x (wipe σ vs) H2 fun σ2 H3 => wipe σ2 vs = wipe σ vs ∧ tt σ2 H3 fun b H4 =>
        if b = true then te σ2 H4 fun y H5 => ∃ acc, H5 D = some (.lst acc) ∧ acc.length < sizeLine ∧ Nx (upd H5 D (.lst (acc ++ [y]))) else Nx H4)) : tLc (iList K (tC (.ref m))) g tt te vs σ H Q := ⟨m, rfl, ⟨xs, sq_of hm⟩, k⟩
end
/-! ### the five questions -/
def askL : List Str := ["text", "leaders", "known", "sure", "fewest"]
def ansL (s : Stt) : List Str := [textM s.1, namesM s.2, namesM (knownM s), yesno (sureM s), numT (fewM s.1)]
theorem ask_ans (s : Stt) : ∀ (i : Nat) (line : Str), askL[i]? = some line → ∃ z, (ansL s)[i]? = some z ∧ askedM s line = some z ∧ LineOk line ∧ line.length ≤ 1000
  | 0, line, h => by
    cases h
    exact ⟨_, rfl, if_pos rfl, ⟨by decide +kernel, by decide +kernel, by decide +kernel⟩, by decide +kernel⟩
  | 1, line, h => by
    cases h
    exact ⟨_, rfl, by unfold askedM; rw [if_neg (by decide +kernel), if_pos rfl], ⟨by decide +kernel, by decide +kernel, by decide +kernel⟩, by decide +kernel⟩
  | 2, line, h => by
    cases h
    exact ⟨_, rfl, by unfold askedM; rw [if_neg (by decide +kernel), if_neg (by decide +kernel), if_pos rfl], ⟨by decide +kernel, by decide +kernel, by decide +kernel⟩, by decide +kernel⟩
  | 3, line, h => by
    cases h
    exact ⟨_, rfl, by unfold askedM judgedM; rw [if_neg (by decide +kernel), if_neg (by decide +kernel), if_neg (by decide +kernel), if_pos rfl], ⟨by decide +kernel, by decide +kernel, by decide +kernel⟩, by decide +kernel⟩
  | 4, line, h => by
    cases h
    exact ⟨_, rfl, by unfold askedM judgedM; rw [if_neg (by decide +kernel), if_neg (by decide +kernel), if_neg (by decide +kernel), if_neg (by decide +kernel), if_pos rfl], ⟨by decide +kernel, by decide +kernel, by decide +kernel⟩, by decide +kernel⟩
  | i + 5, line, h => by cases h
theorem ansL_ok {s : Stt} (h : s.Ok) : ∀ z ∈ ansL s, PyData.strOk z = true := fun z hz => by
  have : z = textM s.1 ∨ z = namesM s.2 ∨ z = namesM (knownM s) ∨ z = yesno (sureM s) ∨ z = numT (fewM s.1) := by simpa [ansL] using hz
  rcases this with e | e | e | e | e
  · rw [e]
    exact strOk_text h.w
  · rw [e]
    exact strOk_names fun y hy => h.w.nm y (h.ld y hy)
  · rw [e]
    exact strOk_names (known_names h)
  · rw [e]
    exact strOk_yes _
  · rw [e]
    exact strOk_of _
end K54
/-! K35 -/
namespace K54
open PySem PySem.Spec PyProof.Rows L2 LamX NdefX Evl
variable {P : Program} {w : World} {K : PySem.W.Frag} {mg : Str → Option Value} {base : Heap}
abbrev NRight : List Str := ["_law_vat_here", "_law_heads_here", "_law_plant", "_law_chiefs_here", "_law_board_here", "_law_console", "_law_step", "_law_pair", "_law_words", "_law_told_here", "_law_due", "_law_each"]
theorem scRight : FnScope NRight ["_law_vat_here"] (defScope sLawRight) := ⟨rfl, rfl, rfl, by decide +kernel, rfl, by decide +kernel, by decide +kernel⟩
def spRight (K : PySem.W.Frag) : Sp := fun vs H Q _ => ∃ v, vs = [.ref v] ∧ IsVat H v ∧ Tabs (TT2 K) H ∧ ∀ H', FT K [v] H H' → Q (.bl true) H'
def InvL (K : PySem.W.Frag) (H0 : Hp) (v a : Addr) (hs : List Str) (pl ch b1 c b2 : Addr) (i : Nat) (σ' : L2.St) (H' : Hp) : Prop := ∃ dx t ans st s o6 o7 o8 o9 o10 o11, σ' = [some (.ref v), some (.ref a), some (.ref pl), some (.ref ch), some (.ref b1), some (.ref c), o6, o7, o8, o9, o10, o11] ∧ FT K [v] H0 H' ∧
  Scn K H' v a hs b1 c b2 dx t ans st s ∧ ans.length = 6 * i ∧ st.length ≤ i ∧ AllOk hs (st ++ [s])
/-- what stands, is fixed in the loop -/
structure Fix (H0 : Hp) (hs : List Str) (v b1 c b2 : Addr) : Prop where
  hok : HeadsOk hs
  n1 : NewIn H0 b1
  n2 : NewIn H0 b2
  n3 : NewIn H0 c
  ne : b1 ≠ b2
section
variable {H0 : Hp} {v a : Addr} {hs : List Str} {pl ch b1 c b2 : Addr} {i : Nat} {D : Ends}
def tPair (K : PySem.W.Frag) : TS := tAsg (tLst (tCons (tCall (spOf K) [] C8.E0 (tCons (tVar 0) (tCons (tOp (rCatA K) (tVar 1) (tTup (tCons (tC (.str "zz")) tNil))) tNil))) (tCons (tCall (spOf K) [] C8.E0 (tCons (tVar 0) (tCons (tVar 1) tNil))) tNil))) (gName 7)
def tWords1 (K : PySem.W.Frag) : TS := tAsg (tCall (spOf K) [] C8.E0 (tCons (tVar 0) (tCons (tLst (tCons (tOp rCat (tLst (tCons (tC (.str "tie")) tNil)) (tVar 7)) (tCons (tOp rCat (tLst (tCons (tC (.str "tie")) tNil)) (tVar 7)) (tCons (tOp rCat (tLst (tCons (tC (.str "cut")) tNil)) (tVar 7)) (tCons (tOp rCat (tLst (tCons (tC (.str "cut")) tNil)) (tRevL K (tVar 7))) (tCons (tLst (tCons (tC (.str "undo")) tNil)) tNil)))))) tNil))) (gName 8)
def tWords2 (K : PySem.W.Frag) : TS := tAsg (tCall (spOf K) [] C8.E0 (tCons (tVar 0) (tCons (tLst (tCons (tVar 8) (tCons (tVar 8) (tCons (tLst (tCons (tC (.str "lead")) (tCons (tOp (rIxL K) (tVar 7) (tC (.int 0))) tNil))) (tCons (tLst (tCons (tC (.str "leave")) (tCons (tOp (rIxL K) (tVar 7) (tC (.int 0))) tNil))) tNil))))) tNil))) (gName 8)
theorem zz_name : nameB "zz" = true := by decide +kernel
/-- the words of a turn -/
theorem r_words {u : TS} {H : Hp} {dx t : Addr} {ans : List V} {st : List Stt} {s : Stt} {o6 o7 o8 o9 o10 o11 : Option V} (fx : Fix H0 hs v b1 c b2) (f0 : FT K [v] H0 H) (sc : Scn K H v a hs b1 c b2 dx t ans st s)
    (k : ∀ H2 ws q o7, FT K [v] H0 H2 → Scn K H2 v a hs b1 c b2 dx t ans st s → H2 q = some (.lst (ws.map V.str)) → DW ws → u D [some (.ref v), some (.ref a), some (.ref pl), some (.ref ch), some (.ref b1), some (.ref c), o6, o7, some (.ref q), o9, o10, o11] H2) :
    tSeq (tPair K) (tSeq (tWords1 K) (tSeq (tWords2 K) u)) D [some (.ref v), some (.ref a), some (.ref pl), some (.ref ch), some (.ref b1), some (.ref c), o6, o7, o8, o9, o10, o11] H := by
  obtain ⟨g1, g2, g3, g4⟩ := fx.hok
  have hdl : ∀ H1, Ex H H1 → STup H1 a hs := fun H1 e => sc.hd.ex e
  have FTv : ∀ {H1 H2 : Hp}, FT K [v] H0 H1 → ExB v H1 H2 → Tabs (TT2 K) H2 → FT K [v] H0 H2 := fun f e t => f.trans ⟨e.fm, t⟩
  refine q_asgRaw (lst_raw (ac_cons (c_of (S := NameS fun z => nameB z = true) sc rfl (evp_snocT (R := fun v _ => v = .str "zz") (ev_var rfl) sc.hd (fun _ _ => EvP.of ev_c) (by rw [List.length_map]; omega) (fun _ _ _ _ h => h) fun y q H1 e1 hy hq => ⟨q, _, rfl, .inr hq, tup_nv (sc.vat.ex e1) hq, ?_, ?_, ?_⟩) nameS_stay fun y H4 sc4 eb4 ⟨zx, ex, hx⟩ => ?_)))
  · rw [List.length_append]
    show 1 ≤ _ + 1
    omega
  · rw [List.length_append, List.length_map]
    show _ + 1 ≤ 1000
    omega
  · intro z hz
    rcases List.mem_append.mp hz with h | h
    · obtain ⟨n, hn, rfl⟩ := List.mem_map.mp h
      exact ⟨n, rfl, g4 n hn⟩
    · have : z = y := by simpa using h
      rw [this, hy]
      exact ⟨_, rfl, zz_name⟩
  subst ex
  refine ac_cons (c_of (S := NameS fun z => nameB z = true) sc4 rfl (EvP.imp (EvP.of (ev_var (v := .ref a) rfl)) fun x H1 e1 hx => ⟨a, hs.map V.str, hx, .inr (sc4.hd.ex e1), tup_nv (sc4.vat.ex e1) (sc4.hd.ex e1), ?_, ?_, ?_⟩) nameS_stay fun y H5 sc5 eb5 ⟨zy, ey, hy⟩ => ?_)
  · rw [List.length_map]
    exact List.length_pos_iff.mpr g1
  · rw [List.length_map]
    omega
  · intro z hz
    obtain ⟨n, hn, rfl⟩ := List.mem_map.mp hz
    exact ⟨n, rfl, g4 n hn⟩
  subst ey
  refine ⟨by show 2 ≤ sizeLine; decide, fun pp hpp => ?_⟩
  have e5 : Ex H5 (upd H5 pp (.lst [.str zx, .str zy])) := Ex.new hpp
  have sc6 := sc5.ex e5
  have f6 : FT K [v] H0 (upd H5 pp (.lst [.str zx, .str zy])) := FTv f0 ((eb4.trans eb5).trans (ExB.of e5)) sc6.tabs
  have hp6 : (upd H5 pp (.lst [.str zx, .str zy])) pp = some (.lst ([zx, zy].map V.str)) := upd_same
  have ppv : pp ≠ v := strs_nv sc6.vat hp6 (by simp)
  have two : ∀ (z : Str) (H1 : Hp), Ex (upd H5 pp (.lst [.str zx, .str zy])) H1 → EvP (tOp rCat (tLst (tCons (tC (.str z)) tNil)) (tVar 7)) ([some (.ref v), some (.ref a), some (.ref pl), some (.ref ch), some (.ref b1), some (.ref c), o6, some (.ref pp), o8, o9, o10, o11] : L2.St) H1 (IsL ([z, zx, zy].map V.str)) := fun z H1 e1 =>
    evp_cat (xs := [.str z]) (ys := [.str zx, .str zy]) (evp_lstV (ea_cons ev_c ea_nil) (by show 1 ≤ 100000; omega)) (fun H2 e2 => evp_is_ref (ev_var rfl) ((e1.trans e2) _ _ hp6)) (by show 3 ≤ 100000; omega)
  have dw3 : ∀ (z x y : Str), (z = "tie" ∨ z = "cut") → nameB x = true → nameB y = true → DW [z, x, y] := fun z x y h1 h2 h3 => .inr (.inl ⟨z, x, y, rfl, h1, h2, h3⟩)
  refine q_asgRaw (c_of (S := WordL v) sc6 rfl (evp_lstA (Ra := fun vs H1 => vs.length = 5 ∧ ∀ y ∈ vs, WordL v y H1) (eap_cons (two "tie" _ (Ex.refl _)) fun y1 H1 e1 h1 => eap_cons (two "tie" H1 e1) fun y2 H2 e2 h2 => eap_cons (two "cut" H2 (e1.trans e2)) fun y3 H3 e3 h3 =>
    eap_cons (evp_cat (xs := [.str "cut"]) (ys := [.str zy, .str zx]) (evp_lstV (ea_cons ev_c ea_nil) (by show 1 ≤ 100000; omega)) (fun H4 e4 => evp_rev (xs := [.str zx, .str zy]) (ev_var rfl) ((((e1.trans e2).trans e3).trans e4) _ _ hp6)) (by show 3 ≤ 100000; omega)) fun y4 H4 e4 h4 =>
    eap_one (evp_lstV (vs := [.str "undo"]) (ea_cons ev_c ea_nil) (by show 1 ≤ 100000; omega)) fun y5 H5 e5 h5 => ⟨rfl, fun y hy' => ?_⟩) (fun vs H1 h => by rw [h.1]; omega) fun vs m H1 H2 e02 e12 ⟨hl, hall⟩ hm => ⟨m, vs, rfl, .inl (.inl hm), ?_, by rw [hl]; omega, by rw [hl]; omega, fun y hy' => (hall y hy').ex e12⟩) wordL_stay ?_)
  · have v1 := sc6.vat.ex e1
    have v2 := v1.ex e2
    have v3 := v2.ex e3
    have v4 := v3.ex e4
    have v5 := v4.ex e5
    have : y = y1 ∨ y = y2 ∨ y = y3 ∨ y = y4 ∨ y = y5 := by simpa using hy'
    rcases this with q | q | q | q | q
    · rw [q]
      exact (WordL.of v1 h1 (dw3 _ _ _ (.inl rfl) hx hy)).ex (e2.trans (e3.trans (e4.trans e5)))
    · rw [q]
      exact (WordL.of v2 h2 (dw3 _ _ _ (.inl rfl) hx hy)).ex (e3.trans (e4.trans e5))
    · rw [q]
      exact (WordL.of v3 h3 (dw3 _ _ _ (.inr rfl) hx hy)).ex (e4.trans e5)
    · rw [q]
      exact (WordL.of (ws := ["cut", zy, zx]) v4 h4 (dw3 _ _ _ (.inr rfl) hy hx)).ex e5
    · rw [q]
      exact WordL.of (ws := ["undo"]) v5 h5 (.inl rfl)
  · intro z
    rw [z] at hm
    obtain ⟨x, yy, zz, h0, _⟩ := sc6.vat.ex e02
    rw [hm] at h0
    have := congrArg (fun o : Option HO => match o with | some (.lst l) => l.length | _ => 0) h0
    have h5 : vs.length = 3 := this
    omega
  rintro y H7 sc7 eb7 ⟨q7, ws7, rfl, hq7, d7, nv7⟩
  have f7 : FT K [v] H0 H7 := FTv f6 eb7 sc7.tabs
  have hp7 : H7 pp = some (.lst [.str zx, .str zy]) := eb7 _ _ hp6 ppv
  have d2 : ∀ (z : Str), (z = "lead" ∨ z = "leave") → DW [z, zx] := fun z h1 => .inr (.inr ⟨z, zx, rfl, h1, hx⟩)
  have one : ∀ (z : Str) (H1 : Hp), Ex H7 H1 → EvP (tLst (tCons (tC (.str z)) (tCons (tOp (rIxL K) (tVar 7) (tC (.int 0))) tNil))) ([some (.ref v), some (.ref a), some (.ref pl), some (.ref ch), some (.ref b1), some (.ref c), o6, some (.ref pp), some (.ref q7), o9, o10, o11] : L2.St) H1 (IsL ([z, zx].map V.str)) := fun z H1 e1 =>
    evp_lstV (vs := [.str z, .str zx]) (ea_cons ev_c (ea_cons (ev_op (ev_var rfl) ev_c (rv_ixL (sq_of (e1 _ _ hp7)) (atI_nat (j := 0) rfl))) ea_nil)) (by show 2 ≤ 100000; omega)
  refine q_asgRaw (c_of (S := WordL v) sc7 rfl (evp_lstA (Ra := fun vs H1 => vs.length = 4 ∧ ∀ y ∈ vs, WordL v y H1) (eap_cons (EvP.of (ev_var (v := .ref q7) rfl)) fun y1 H1 e1 h1 => eap_cons (EvP.of (ev_var (v := .ref q7) rfl)) fun y2 H2 e2 h2 => eap_cons (one "lead" H2 (e1.trans e2)) fun y3 H3 e3 h3 =>
    eap_one (one "leave" H3 ((e1.trans e2).trans e3)) fun y4 H4 e4 h4 => ⟨rfl, fun y hy' => ?_⟩) (fun vs H1 h => by rw [h.1]; omega) fun vs m H1 H2 e02 e12 ⟨hl, hall⟩ hm => ⟨m, vs, rfl, .inl (.inl hm), ?_, by rw [hl]; omega, by rw [hl]; omega, fun y hy' => (hall y hy').ex e12⟩) wordL_stay ?_)
  · have w7 : WordL v (.ref q7) H7 := ⟨q7, ws7, rfl, hq7, d7, nv7⟩
    have v1 := sc7.vat.ex e1
    have v2 := v1.ex e2
    have v3 := v2.ex e3
    have v4 := v3.ex e4
    have : y = y1 ∨ y = y2 ∨ y = y3 ∨ y = y4 := by simpa using hy'
    rcases this with q | q | q | q
    · rw [q, h1]
      exact w7.ex (e1.trans (e2.trans (e3.trans e4)))
    · rw [q, h2]
      exact w7.ex (e1.trans (e2.trans (e3.trans e4)))
    · rw [q]
      exact (WordL.of v3 h3 (d2 _ (.inl rfl))).ex e4
    · rw [q]
      exact WordL.of v4 h4 (d2 _ (.inr rfl))
  · intro z
    rw [z] at hm
    obtain ⟨x, yy, zz, h0, _⟩ := sc7.vat.ex e02
    rw [hm] at h0
    have := congrArg (fun o : Option HO => match o with | some (.lst l) => l.length | _ => 0) h0
    have h5 : vs.length = 3 := this
    omega
  rintro y H8 sc8 eb8 ⟨q8, ws8, rfl, hq8, d8, _⟩
  exact k H8 ws8 q8 _ (FTv f7 eb8 sc8.tabs) sc8 hq8 d8
end
end K54
/-! K36 -/
namespace K54
open PySem PySem.Spec PyProof.Rows L2 LamX NdefX Evl
variable {P : Program} {w : World} {K : PySem.W.Frag} {mg : Str → Option Value} {base : Heap}
section
variable {H0 : Hp} {v a : Addr} {hs : List Str} {pl ch b1 c b2 : Addr} {D : Ends}
def tSayD (K : PySem.W.Frag) : TS := tIfS (tTest (tOp rNe (tMeth (He.ga K "Console") "say" (spSay K) [] C8.E0 (tVar 5) (tCons (tM1 (rJoin K) (tC (.str " ")) (tVar 8)) tNil)) (tCall (spLDeed K) [] C8.E0 (tCons (tVar 4) (tCons (tVar 8) tNil))))) tNever tNext
theorem r_say {u : TS} {H : Hp} {dx t : Addr} {ans : List V} {st : List Stt} {s : Stt} {o6 o7 o9 o10 o11 : Option V} {q : Addr} {ws : List Str} (fx : Fix H0 hs v b1 c b2) (f0 : FT K [v] H0 H) (sc : Scn K H v a hs b1 c b2 dx t ans st s)
    (hq : H q = some (.lst (ws.map V.str))) (dw : DW ws) (hA : AllOk hs (st ++ [s])) (hz : st.length ≤ 1000) (hans : ans.length ≤ 90000)
    (k : ∀ H2 t' x st1 s1, FT K [v] H0 H2 → Scn K H2 v a hs b1 c b2 dx t' (ans ++ [x]) st1 s1 → AllOk hs (st1 ++ [s1]) → st1.length ≤ st.length + 1 → u D [some (.ref v), some (.ref a), some (.ref pl), some (.ref ch), some (.ref b1), some (.ref c), o6, o7, some (.ref q), o9, o10, o11] H2) :
    tSeq (tSayD K) u D [some (.ref v), some (.ref a), some (.ref pl), some (.ref ch), some (.ref b1), some (.ref c), o6, o7, some (.ref q), o9, o10, o11] H := by
  obtain ⟨d1, d2, d3⟩ := dw.names
  have ok : s.Ok := (hA s (by simp)).1
  have hjs : joinSum (" " : Str) ws ≤ 27 := by
    have h1 := joinSum_le (a := (" " : Str)) (ys := ws) (M := 8) fun z hz => (nameB_len (d2 z hz)).2
    have h2 : (" " : Str).length = 1 := by decide +kernel
    rw [h2] at h1
    omega
  have hlen : (Txt.join (" " : Str) ws).length ≤ 1000 := by
    have := join_len (" " : Str) ws
    omega
  obtain ⟨st1, s1, hst, hA1, hl1⟩ := ans_inv (ws := ws) hA
  have qn : ∀ x, BoardAt K H x (st ++ [s]) → q ≠ x := fun x hx z => by
    obtain ⟨bdx, bt, as, bp, bwa, bl, bi⟩ := hx.out
    rw [z, bi.at_] at hq
    cases hq
  have qc : q ≠ c := fun z => by
    rw [z, sc.con.at_] at hq
    cases hq
  refine q_ifRaw (tst_raw (c_meth (ev_var rfl) sc.con.at_ rfl (ea_cons (ev_joinL ev_c (evp_is_ref (ev_var rfl) hq) (by omega)) ea_nil) fun H1 e1 => ⟨c, b2, dx, t, ans, st, s, _, rfl, sc.con.ex e1, sc.bd2.ex e1, ok, hz, hlen, hans, sc.tabs.ext e1, .inr ⟨ws, rfl, dw, fun t' H2 f2 ci2 bd2 => ?_⟩⟩))
  obtain ⟨v2, hd2, bd12⟩ := (sc.ex e1).rest f2 fx.ne
  have hq2 : H2 q = some (.lst (ws.map V.str)) := f2.1 _ _ (e1 _ _ hq) (fun hm => by
    have : q = b2 ∨ q = c := by simpa using hm
    rcases this with z | z
    · exact qn _ sc.bd2 z
    · exact qc z) (fun _ z => nomatch z)
  refine tab_call (ea_cons (ev_var rfl) (ea_cons (ev_var rfl) ea_nil)) fun H3 e3 => ⟨b1, q, st, s, ws, rfl, bd12.ex e3, ok, hz, e3 _ _ hq2, dw, fun H4 eb4 bd1 => ⟨rfl, _, rfl, ?_⟩⟩
  have e0 : (!decide (V.str (ansM st s ws).2 = V.str (ansM st s ws).2)) = false := by
    rw [decide_eq_true rfl]
    rfl
  rw [e0]
  rw [hst] at bd1 bd2
  obtain ⟨bdx, bt, as, bp, bwa, bl, bi⟩ := (bd12.ex e3).out
  have mb : Mb H3 [b1] := mb_board bi.at_ (by show 1 ≤ 2; decide)
  have ncb : c ≠ b1 := fun z => by
    have h1 := (ci2.ex e3).at_
    rw [z, bi.at_] at h1
    have e2 := congrArg (fun o : Option HO => match o with | some (.ins _ _ fs) => fs.length | _ => 0) h1
    have e3 : (1 : Nat) = 2 := e2
    omega
  have nvb := board_nv (v2.ex e3) (bd12.ex e3)
  obtain ⟨x, y, z, h0, hy⟩ := v2.ex e3
  have t4 : Tabs (TT2 K) H4 := tabs_but eb4 bi.at_ (fun _ z => nomatch z) (fun _ z => nomatch z) (f2.2.ext e3)
  have fall : FT K [v] H0 H4 := ((((f0.trans (FT.of e1 sc.tabs)).newc f2 (fun x hx => .inr (by
    have : x = b2 ∨ x = c := by simpa using hx
    rcases this with z | z
    · rw [z]
      exact fx.n2
    · rw [z]
      exact fx.n3))).trans (FT.of e3 f2.2))).newc (cs := [b1]) ⟨eb4.fm, t4⟩ (fun x hx => .inr (by
    have : x = b1 := by simpa using hx
    rw [this]
    exact fx.n1))
  exact k H4 t' _ st1 s1 fall ⟨⟨x, y, z, eb4 _ _ h0 (Ne.symm nvb), hy⟩, (hd2.ex e3).fm eb4.fm mb, bd1, (ci2.ex e3).fm eb4.fm mb (by simpa using ncb), (bd2.ex e3).fm eb4.fm mb (by simpa using Ne.symm fx.ne), t4⟩ hA1 hl1
/-! ### the five questions -/
def tTold (K : PySem.W.Frag) : TS := tAsg (tLc (iList K (tLst (tCons (tC (.str "text")) (tCons (tC (.str "leaders")) (tCons (tC (.str "known")) (tCons (tC (.str "sure")) (tCons (tC (.str "fewest")) tNil))))))) (gName 11) tYes (tMeth (He.ga K "Console") "say" (spSay K) [] C8.E0 (tVar 5) (tCons (tVar 11) tNil)) [11]) (gName 9)
theorem r_told {u : TS} {H : Hp} {dx t : Addr} {ans : List V} {st : List Stt} {s : Stt} {o6 o7 o8 o9 o10 o11 : Option V} (fx : Fix H0 hs v b1 c b2) (f0 : FT K [v] H0 H) (sc : Scn K H v a hs b1 c b2 dx t ans st s)
    (hA : AllOk hs (st ++ [s])) (hz : st.length ≤ 1000) (hans : ans.length ≤ 80000)
    (k : ∀ H2 t' ans' p, FT K [v] H0 H2 → Scn K H2 v a hs b1 c b2 dx t' ans' st s → ans'.length = ans.length + 5 → H2 p = some (.lst ((ansL s).map V.str)) → u D [some (.ref v), some (.ref a), some (.ref pl), some (.ref ch), some (.ref b1), some (.ref c), o6, o7, o8, some (.ref p), o10, o11] H2) :
    tSeq (tTold K) u D [some (.ref v), some (.ref a), some (.ref pl), some (.ref ch), some (.ref b1), some (.ref c), o6, o7, o8, o9, o10, o11] H := by
  have ok : s.Ok := (hA s (by simp)).1
  refine q_asgRaw (lc_lst (evp_lstV (vs := askL.map V.str) (ea_cons ev_c (ea_cons ev_c (ea_cons ev_c (ea_cons ev_c (ea_cons ev_c ea_nil))))) (by show 5 ≤ 100000; omega)) fun m H1 e1 hm => lc_at hm fun Dl hD => ?_)
  have sc1 := sc.ex e1
  have f1 : FT K [v] H0 H1 := f0.trans (FT.of e1 sc.tabs)
  have Dv : Dl ≠ v := fun z => by
    obtain ⟨x, y, zz, h0, _⟩ := sc1.vat
    rw [z, h0] at hD
    cases hD
  have Dm : Dl ≠ m := fun z => by rw [z, hm] at hD; cases hD
  have nD : NewIn H0 Dl := NewIn.back f1.1 hD (by simpa using Dv)
  refine lc_it (walk_list (xs := askL.map V.str)) (fun i Hc => ∃ t' ans', FT K [v] H0 Hc ∧ Scn K Hc v a hs b1 c b2 dx t' ans' st s ∧ ans'.length = ans.length + i ∧ Hc Dl = some (.lst (((ansL s).take i).map V.str)) ∧ Hc m = some (.lst (askL.map V.str)))
    ⟨t, ans, f1.trans (FT.of (Ex.new hD) sc1.tabs), sc1.ex (Ex.new hD), rfl, upd_same, Ex.new hD _ _ hm⟩ (fun i Hc _ ⟨_, _, _, _, _, _, h⟩ => sq_of h) ?_ ?_
  · rintro i x Hc Hd hi ⟨t', ans', fc, scc, hl, hDc, hmc⟩ ⟨rfl, hx⟩
    rw [List.getElem?_map] at hx
    obtain ⟨line, hline, rfl⟩ := Option.map_eq_some_iff.mp hx
    obtain ⟨z, hz1, hz2, lo, hlen⟩ := ask_ans s i line hline
    have hi5 : i < 5 := hi
    refine ⟨rfl, et_yes _ (Ex.refl _) _ fun H3 e3 => ?_⟩
    rw [if_pos rfl]
    refine c_meth (ev_var rfl) (e3 _ _ scc.con.at_) rfl (ea_cons (ev_var rfl) ea_nil) fun H5 e5 => ⟨c, b2, dx, t', ans', st, s, line, rfl, scc.con.ex (e3.trans e5), scc.bd2.ex (e3.trans e5), ok, hz, hlen, by omega, scc.tabs.ext (e3.trans e5), .inl ⟨z, hz2, lo, fun t6 H6 f6 ci6 bd6 => ?_⟩⟩
    have sc5 := scc.ex (e3.trans e5)
    obtain ⟨v6, hd6, bd16⟩ := sc5.rest f6 fx.ne
    have lstn : ∀ {p : Addr} {xs : List V}, Hd p = some (.lst xs) → H6 p = some (.lst xs) := fun {p xs} hp => f6.1 _ _ ((e3.trans e5) _ _ hp) (fun hmem => by
      have : p = b2 ∨ p = c := by simpa using hmem
      rcases this with w | w
      · obtain ⟨bdx, bt, as, bp, bwa, bl, bi⟩ := scc.bd2.out
        rw [w, bi.at_] at hp
        cases hp
      · rw [w, scc.con.at_] at hp
        cases hp) (fun _ z => nomatch z)
    have hD6 := lstn hDc
    have hm6 := lstn hmc
    have f06 : FT K [v] H0 H6 := (fc.trans (FT.of (e3.trans e5) scc.tabs)).newc f6 (fun x hx => .inr (by
      have : x = b2 ∨ x = c := by simpa using hx
      rcases this with z | z
      · rw [z]
        exact fx.n2
      · rw [z]
        exact fx.n3))
    have sc6 : Scn K H6 v a hs b1 c b2 dx t6 (ans' ++ [.str z]) st s := ⟨v6, hd6, bd16, ci6, bd6, f6.2⟩
    have ebD : ExB Dl H6 (upd H6 Dl (.lst (((ansL s).take i).map V.str ++ [.str z]))) := ExB.put (Ex.refl H6)
    have sc7 := sc6.lst ebD hD6 Dv
    refine ⟨_, hD6, sz_lt (by rw [List.length_map, List.length_take]; omega), t6, ans' ++ [.str z], f06.newc (cs := [Dl]) ⟨ebD.fm, sc7.tabs⟩ (fun x hx => .inr (by
      have : x = Dl := by simpa using hx
      rw [this]
      exact nD)), sc7, by rw [List.length_append, hl]; show _ + 1 = _; omega, ?_, by rw [upd_ne (Ne.symm Dm)]; exact hm6⟩
    rw [upd_same, take_succ' hz1, List.map_append]
    rfl
  · rintro Hc ⟨t', ans', fc, scc, hl, hDc, _⟩
    exact k Hc t' ans' Dl fc scc hl hDc
/-! ### what is due -/
theorem ev_namesP {σ : L2.St} {H : Hp} {te : TE} {xs : List Str} {E : XK} (h : EvP te σ H fun v H' => ∃ l, v = .ref l ∧ STup H' l xs) (h1 : ∀ z ∈ xs, z.length ≤ 8) (h2 : xs.length ≤ 1000) : Ev (tCall spNames [] E (tCons te tNil)) σ H (.str (namesM xs)) :=
  EvP.ev (evp_callA (Ra := fun vs H => ∃ l, vs = [.ref l] ∧ STup H l xs) (eap_one h fun y H3 e3 ⟨l, ey, hl⟩ => ⟨l, by rw [ey], hl⟩) (fun vs H3 e3 ⟨l, ev, hl⟩ => by subst ev; exact SpP.of (v_names hl h1 h2)))
theorem cb_callP {σ : L2.St} {H : Hp} {r : List V → Hp → VK → Prop} {sp : Sp} {dvs : List V} {ta : TA} {Ra : List V → Hp → Prop} {Q : VK} {E : XK} (h : EAP ta σ H Ra) (k : ∀ vs H1, Ex H H1 → Ra vs H1 → sp (vs ++ dvs) H1 (fun x H2 => r [x] H2 Q) E) : tCB r (tCons (tCall sp dvs E ta) tNil) σ H Q := h H (Ex.refl H) _ k
def rStrInt : List V → Hp → VK → Prop := fun xs H Q => ∃ i, xs = [.int i] ∧ i.natAbs.log2 < 1920 ∧ Q (.str (toString i)) H
def tDue1 (K : PySem.W.Frag) : TS := tAsg (tLst (tCons (tCB (rStrOwn (He.ga K "Works") (spWStr K)) (tCons (tProp (He.ga K "Board") (spBWorks K) [] C8.E0 (tVar 4)) tNil)) (tCons (tCall spNames [] C8.E0 (tCons (tProp (He.ga K "Board") (spBLead K) [] C8.E0 (tVar 4)) tNil)) (tCons (tCall spNames [] C8.E0 (tCons (tMeth (He.ga K "Board") "known" (spKnown K) [] C8.E0 (tVar 4) tNil) tNil)) tNil)))) (gName 10)
def tDue2 (K : PySem.W.Frag) : TS := tAsg (tOp rCat (tVar 10) (tLst (tCons (tIf (tB (tMeth (He.ga K "Board") "sure" (spSure K) [] C8.E0 (tVar 4) tNil)) (tC (.str "yes")) (tC (.str "no"))) (tCons (tCB rStrInt (tCons (tCall (spFewest K) [] C8.E0 (tCons (tProp (He.ga K "Board") (spBWorks K) [] C8.E0 (tVar 4)) tNil)) tNil)) tNil)))) (gName 10)
def tCmp (K : PySem.W.Frag) : TS := tIfS (tTest (tOp (rNeD K) (tVar 9) (tVar 10))) tNever tNext
theorem rv_neS {H : Hp} {p q : Addr} {zs : List Str} (hp : H p = some (.lst (zs.map V.str))) (hq : H q = some (.lst (zs.map V.str))) (h : ∀ z ∈ zs, PyData.strOk z = true) : RV (rNeD K) (.ref p) (.ref q) H (.bl false) := fun H1 e Q k => by
  have hit := strIt_at (H := H1) h
  have hd := dp_items (K := K) hit
  rw [strIt_fst] at hd
  refine ⟨.list ((zs.map strIt).map Prod.snd), .list ((zs.map strIt).map Prod.snd), .lst (sq_of (e _ _ hp)) hd, .lst (sq_of (e _ _ hq)) hd, items_shaped hit, items_shaped hit, ?_⟩
  rw [SeqAt.eqv_refl _ (SeqAt.canLay_of_shaped (items_shaped hit))]
  exact k H1 (Ex.refl H1)
theorem r_due {H : Hp} {dx t : Addr} {ans : List V} {st : List Stt} {s : Stt} {o6 o7 o8 o10 o11 : Option V} {p9 : Addr} (f0 : FT K [v] H0 H) (sc : Scn K H v a hs b1 c b2 dx t ans st s)
    (hA : AllOk hs (st ++ [s])) (h9 : H p9 = some (.lst ((ansL s).map V.str)))
    (k : ∀ H2 o10, FT K [v] H0 H2 → Scn K H2 v a hs b1 c b2 dx t ans st s → D.nx [some (.ref v), some (.ref a), some (.ref pl), some (.ref ch), some (.ref b1), some (.ref c), o6, o7, o8, some (.ref p9), o10, o11] H2) :
    tSeq (tDue1 K) (tSeq (tDue2 K) (tCmp K)) D [some (.ref v), some (.ref a), some (.ref pl), some (.ref ch), some (.ref b1), some (.ref c), o6, o7, o8, some (.ref p9), o10, o11] H := by
  have ok : s.Ok := (hA s (by simp)).1
  obtain ⟨bdx, bt, as, bp, bwa, bl, bi⟩ := sc.bd1.out
  have hks := known_small ok
  refine q_asgP (evp_lstV (vs := [.str (textM s.1), .str (namesM s.2), .str (namesM (knownM s))]) (ea_cons (ev_strW ok.w (evp_bworks sc.bd1 (ev_var rfl))) (ea_cons (ev_namesP (evp_blead sc.bd1 (ev_var rfl)) (lead_small ok) ok.len)
    (ea_cons (ev_namesP (evp_meth0 (ev_var rfl) bi.at_ rfl fun H1 e1 Q q _ => ⟨b1, st, s, rfl, sc.bd1.ex e1, ok, fun v H2 e2 hv => q v H2 e2 hv⟩) hks.1 hks.2) ea_nil))) (by show 3 ≤ 100000; omega)) ?_
  rintro v1 H1 e1 ⟨pd, rfl, hpd⟩
  have sc1 := sc.ex e1
  have f1 : FT K [v] H0 H1 := f0.trans (FT.of e1 sc.tabs)
  refine q_asgRaw ⟨_, rfl, lst_raw (ac_cons ((ev_if (v := .str (yesno (sureM s))) (b := sureM s) (et_B (EvP.ev (evp_meth0 (R := fun v _ => v = .bl (sureM s)) (ev_var rfl) (e1 _ _ bi.at_) rfl fun H4 e4 Q' q' _ => ⟨b1, st, s, rfl, sc1.bd1.ex e4, ok, fun H5 e5 => q' _ H5 e5 rfl⟩))) (fun hb => by rw [hb]; exact ev_c) (fun hb => by rw [hb]; exact ev_c)) H1 (Ex.refl H1) _ fun H2 e2 => ac_cons ?_))⟩
  have sc2 := sc1.ex e2
  refine cb_callP (Ra := fun vs H => ∃ wa, vs = [.ref wa] ∧ WorksAt K H wa s.1) (eap_one (evp_bworks sc2.bd1 (ev_var rfl)) fun x H3 e3 ⟨wa, ex, hw⟩ => ⟨wa, by rw [ex], hw⟩) ?_
  rintro vs H3 e3 ⟨wa, rfl, hw⟩
  have sc3 := sc2.ex e3
  refine ⟨wa, s.1, rfl, hw, ok.w, sc3.tabs, fun H4 f4 => ⟨_, rfl, fewM_small ok.w, by show 2 ≤ sizeLine; decide, fun l hl => ?_⟩⟩
  have en : Ex H4 (upd H4 l (.lst [.str (yesno (sureM s)), .str (numT (fewM s.1))])) := Ex.new hl
  have up : ∀ {x : Addr} {o : HO}, H1 x = some o → (∀ ps, o ≠ .tbl ps) → (upd H4 l (.lst [.str (yesno (sureM s)), .str (numT (fewM s.1))])) x = some o := fun {x o} hx ht => en _ _ (f4.1 _ _ ((e2.trans e3) _ _ hx) (by simp) ht)
  have f04 : FT K [v] H0 H4 := (f1.trans (FT.of (e2.trans e3) sc1.tabs)).trans (f4.mono (by simp))
  have sc4 : Scn K H4 v a hs b1 c b2 dx t ans st s := by
    obtain ⟨x, y, z, h0, hy⟩ := sc3.vat
    exact ⟨⟨x, y, z, f4.1 _ _ h0 (by simp) (fun _ z => nomatch z), hy⟩, sc3.hd.fm f4.1 Mb.nil, sc3.bd1.fm f4.1 Mb.nil (by simp), sc3.con.fm f4.1 Mb.nil (by simp), sc3.bd2.fm f4.1 Mb.nil (by simp), f4.2⟩
  refine ⟨pd, l, [.str (textM s.1), .str (namesM s.2), .str (namesM (knownM s))], [.str (yesno (sureM s)), .str (numT (fewM s.1))], rfl, rfl, up hpd (fun _ z => nomatch z), upd_same, by show 3 + 2 ≤ sizeLine; decide, fun p10 h10 => ?_⟩
  have en2 := Ex.new (o := .lst ([V.str (textM s.1), .str (namesM s.2), .str (namesM (knownM s))] ++ [.str (yesno (sureM s)), .str (numT (fewM s.1))])) h10
  have h9' := en2 _ _ (up (e1 _ _ h9) (fun _ z => nomatch z))
  have f06 := (f04.trans (FT.of en f04.2)).trans (FT.of en2 (f04.2.ext en))
  have sc6 := (sc4.ex en).ex en2
  refine s_when (b := false) (et_test (ev_op (ev_var rfl) (ev_var rfl) (rv_neS h9' (show _ = some (HO.lst ((ansL s).map V.str)) from upd_same) (ansL_ok ok)))) nofun (fun _ H7 e7 => k H7 _ (f06.trans (FT.of e7 f06.2)) (sc6.ex e7))
end
end K54
/-! K37 -/
namespace K54
open PySem PySem.Spec PyProof.Rows L2 LamX NdefX Evl
variable {P : Program} {w : World} {K : PySem.W.Frag} {mg : Str → Option Value} {base : Heap}
section
variable {σ : L2.St} {H : Hp} {t : TA} {sp : Sp} {dvs : List V} {E : XK} {Q : VK} {C : Addr} {ta tb te : TE} {g : TG} {tt : TT} {vs : List Nat}
theorem mk_raw (h : t σ H fun vs H1 => ∀ x dx, H1 x = none → H1 dx = none → dx ≠ x → sp (.ref x :: (vs ++ dvs)) (upd (upd H1 dx (.own x)) x (.ins C dx [])) (fun v H2 => v = .non ∧ Q (.ref x) H2) E) : tMake C sp dvs E t σ H Q := h
theorem op_raw {r : R2} (h : ta σ H fun x H1 => tb σ H1 fun y H2 => r x y H2 Q) : tOp r ta tb σ H Q := h
theorem tab_raw (h : t σ H fun vs H1 => sp (vs ++ dvs) H1 Q E) : tCall sp dvs E t σ H Q := h
theorem evp_partsP {W : Wk} (h : EvP te σ H fun v H' => ∃ a, v = .ref a ∧ WorksAt K H' a W) : EvP (tProp (He.ga K "Works") (getSp (He.ga K "Works") "heads") [] E te) σ H fun v H' => ∃ p, v = .ref p ∧ STupN H' p W.hs := fun H1 e Q q =>
  h H1 e _ fun v H2 e2 ⟨a, ev, hw⟩ => by
    subst ev
    obtain ⟨dx, h, r, p, wi⟩ := hw.out
    exact ⟨a, dx, _, rfl, wi.at_, a, dx, _, _, rfl, wi.at_, rfl, q _ H2 e2 ⟨h, rfl, wi.heads⟩⟩
theorem rv_eqS {p q : Addr} {zs : List Str} (hp : STup H p zs) (hq : STup H q zs) (h : ∀ z ∈ zs, PyData.strOk z = true) : RV (rEqD K) (.ref p) (.ref q) H (.bl true) := fun H1 e Q k => by
  have hit := strIt_at (H := H1) h
  have hd := dp_items (K := K) hit
  rw [strIt_fst] at hd
  obtain ⟨h1, h2⟩ := items_lay hit
  have h3 : PyData.depth (.tuple ((zs.map strIt).map Prod.snd)) ≤ 64 := by
    simp only [PyData.depth]
    omega
  have hsh : SeqAt.shaped (.tuple ((zs.map strIt).map Prod.snd)) = true := by
    show (PyData.canLay0 (.tuple ((zs.map strIt).map Prod.snd)) && decide (PyData.depth (.tuple ((zs.map strIt).map Prod.snd)) ≤ 64)) = true
    rw [Bool.and_eq_true]
    exact ⟨by simp only [PyData.canLay0]; exact h1, decide_eq_true h3⟩
  refine ⟨.tuple ((zs.map strIt).map Prod.snd), .tuple ((zs.map strIt).map Prod.snd), .tup (.inl (ex_rd e hp)) hd, .tup (.inl (ex_rd e hq)) hd, hsh, hsh, ?_⟩
  rw [SeqAt.eqv_refl _ (SeqAt.canLay_of_shaped hsh)]
  exact k H1 (Ex.refl H1)
theorem lc_rngI {n : Nat} {t : TA} (h : EvA t σ H [.int (n : Int)]) (hn : n ≤ 1000) (Pv : Addr → Nat → Hp → Prop) (h0 : ∀ H1 D, Ex H H1 → H1 D = none → Pv D 0 (upd H1 D (.lst [])))
    (hs : ∀ D i Hc, i < n → Pv D i Hc → g (.int (i : Int)) (wipe σ vs) Hc fun σ2 H2 => wipe σ2 vs = wipe σ vs ∧ tt σ2 H2 fun b H3 => if b = true then te σ2 H3 fun y H4 => ∃ acc, H4 D = some (.lst acc) ∧ acc.length < sizeLine ∧ Pv D (i + 1) (upd H4 D (.lst (acc ++ [y]))) else Pv D (i + 1) H3)
    (hd : ∀ D Hc, Pv D n Hc → Q (.ref D) Hc) : tLc (iRng1 t) g tt te vs σ H Q :=
  h H (Ex.refl H) _ fun H1 e1 => ⟨(n : Int), rfl, by omega, by omega, fun D hD => by
    have e0 : (n : Int).toNat = n := by omega
    rw [e0]
    exact lc_it (walk_range (lo := 0) (n := n)) (Pv D) (h0 H1 D e1 hD) (fun _ _ _ _ => trivial) (fun i x Hc Hd hi p y => by
      obtain ⟨y1, y2⟩ := y
      have e1 : x = .int (i : Int) := y2.trans (congrArg V.int (Int.zero_add _))
      rw [y1, e1]
      exact hs D i Hc hi p) (fun Hc p => hd D Hc p)⟩
end
/-! ### _law_right -/
theorem ok_right (T : Tp K mg) (TB : TB2 base mg K) : C8.Cal P w K mg base 11 "_law_right" (spRight K) [] := by
  obtain ⟨fd, F⟩ := T.f_law_right
  refine ⟨_, fd, ["_law_vat_here"], [], ?_, T.g_law_right, F.kp, F.bindsN (fun _ _ _ _ _ _ us hl => match us, hl with | [_], _ => rfl), .nil⟩
  refine F.ok scRight (fun vs H Q E h => ?_) (fun cdv A outer s H vs Q E hr h => ?_)
  · obtain ⟨v, rfl, _⟩ := h
    rfl
  · obtain ⟨v, rfl, hv, ht, k⟩ := h
    have nd := scRight.nd
    refine ⟨_, PSs.nox (pss_cons (ps_set (i := 1) nd rfl (Or.inl rfl) (C8.pe_c (ok_heads T) hr (by decide) rfl (pa_cons (pv 0) (pa_cons pe_int pa_nil))))
      (pss_cons (ps_par (i := 2) (j := 3) rfl nd rfl rfl (by decide) rfl rfl (pa_cons (C8.pe_mk (ok_Works T) hr (by decide) rfl (pa_cons (pv 1) (pa_cons (C8.pe_c (ok_roads T) hr (by decide) rfl (pa_cons (pv 0) (pa_cons (pv 1) pa_nil))) pa_nil))) (pa_cons (C8.pe_c (ok_chiefs T) hr (by decide) rfl (pa_cons (pv 0) (pa_cons (pv 1) pa_nil))) pa_nil)) rfl)
      (pss_cons (ps_asg (pe_tup (pa_cons (C8.pe_mk (ok_Board T) hr (by decide) rfl (pa_cons (pv 2) (pa_cons (pv 3) pa_nil))) (pa_cons (C8.pe_mk (ok_Console T) hr (by decide) rfl (pa_cons (pv 2) (pa_cons (pv 3) pa_nil))) pa_nil))) (pg_tup (n := 2) rfl (pgs_cons (pg_name (i := 4) nd rfl (Or.inl rfl)) (pgs_cons (pg_name (i := 5) nd rfl (Or.inr rfl)) pgs_nil))))
      (pss_cons (ps_for PassesOwn.never rfl (pi_range1 rfl T.z_range (pa_cons pe_int pa_nil)) (pg_name (i := 6) nd rfl (Or.inl rfl))
        (pss_cons (ps_set (i := 7) nd rfl (Or.inl rfl) (pe_lst (pa_cons (C8.pe_c (ok_of T) hr (by decide) rfl (pa_cons (pv 0) (pa_cons (pe_op op_catA (pv 1) (pe_tup (pa_cons pe_str pa_nil))) pa_nil))) (pa_cons (C8.pe_c (ok_of T) hr (by decide) rfl (pa_cons (pv 0) (pa_cons (pv 1) pa_nil))) pa_nil))))
        (pss_cons (ps_set (i := 8) nd rfl (Or.inl rfl) (C8.pe_c (ok_of T) hr (by decide) rfl (pa_cons (pv 0) (pa_cons (pe_lst (pa_cons (pe_op op_cat (pe_lst (pa_cons pe_str pa_nil)) (pv 7)) (pa_cons (pe_op op_cat (pe_lst (pa_cons pe_str pa_nil)) (pv 7)) (pa_cons (pe_op op_cat (pe_lst (pa_cons pe_str pa_nil)) (pv 7)) (pa_cons (pe_op op_cat (pe_lst (pa_cons pe_str pa_nil)) (pe_revL (pv 7))) (pa_cons (pe_lst (pa_cons pe_str pa_nil)) pa_nil)))))) pa_nil))))
        (pss_cons (ps_set (i := 8) nd rfl (Or.inl rfl) (C8.pe_c (ok_of T) hr (by decide) rfl (pa_cons (pv 0) (pa_cons (pe_lst (pa_cons (pv 8) (pa_cons (pv 8) (pa_cons (pe_lst (pa_cons pe_str (pa_cons (pe_ix ix_list (pv 7) pe_int (fun _ _ => rfl)) pa_nil))) (pa_cons (pe_lst (pa_cons pe_str (pa_cons (pe_ix ix_list (pv 7) pe_int (fun _ _ => rfl)) pa_nil))) pa_nil))))) pa_nil))))
        (pss_cons (ps_if (pt_cmpR op_ne (C8.pe_mt (ok_say T TB) hr (by decide) (pv 5) (pa_cons (pe_join pe_str (pv 8)) pa_nil)) (C8.pe_c (ok_ldeed T) hr (by decide) rfl (pa_cons (pv 4) (pa_cons (pv 8) pa_nil))) (nomark _)) pss_never pss_nil)
        (pss_cons (ps_setLc (i := 9) (own := [("_law_each", 11)]) (g := gName 11) (tt := tYes) rfl nd rfl rfl (sw_true rfl rfl rfl (by decide +kernel)) (pi_list (pe_lst (pa_cons pe_str (pa_cons pe_str (pa_cons pe_str (pa_cons pe_str (pa_cons pe_str pa_nil))))))) (blkOk_by (N := NRight) (sc := defScope sLawRight) (by decide +kernel))
            (fun _ _ _ _ _ => pg_name (i := 11) nd rfl (Or.inl rfl)) (fun _ _ _ _ _ => pts_nil) (fun _ _ _ _ _ => C8.pe_mt (ok_say T TB) hr (by decide) (pv 5) (pa_cons (pv 11) pa_nil)))
        (pss_cons (ps_set (i := 10) nd rfl (Or.inl rfl) (pe_lst (pa_cons (pty (strOwn_W T hr) T.z_str PyProof.Rows.boot_str (pe_bworks T hr (pv 4))) (pa_cons (C8.pe_c (ok_lnames T) hr (by decide) rfl (pa_cons (pe_blead T hr (pv 4)) pa_nil)) (pa_cons (C8.pe_c (ok_lnames T) hr (by decide) rfl (pa_cons (C8.pe_mt0 (ok_known T) hr (by decide) (pv 4)) pa_nil)) pa_nil)))))
        (pss_cons (ps_set (i := 10) nd rfl (Or.inl rfl) (pe_op op_cat (pv 10) (pe_lst (pa_cons (pe_ifExp (pt_val (C8.pe_mt0 (ok_sure T) hr (by decide) (pv 4))) pe_str pe_str) (pa_cons (pty call_str_int T.z_str PyProof.Rows.boot_str (C8.pe_c (ok_fewest T TB) hr (by decide) rfl (pa_cons (pe_bworks T hr (pv 4)) pa_nil))) pa_nil)))))
        (pss_one (ps_if (pt_cmpR (op_neD hr.units) (pv 9) (pv 10) (nomark _)) pss_never pss_nil))))))))))
      (pss_one (ps_ret (pe_and (pe_cmpR (op_eqD hr.units) (pe_parts T hr (pe_bworks T hr (pv 4))) (pv 1) (nomark _)) (pe_one (pe_cmpR op_eq (pe_said T hr (pv 5)) pe_int (nomark _)))))))))), ?_⟩
    obtain ⟨vx, vy, vz, hv0, _⟩ := id hv
    have tb : ∀ {H' : Hp}, ExB v H H' → FT K [v] H H' := fun {H'} e => ⟨e.fm, tabs_but e hv0 (fun _ z => nomatch z) (fun _ z => nomatch z) ht⟩
    refine q_asgRaw (tab_call (ea_cons (ev_var rfl) (ea_cons ev_c ea_nil)) fun H1 e1 => ⟨v, rfl, hv.ex e1, fun hs a H2 hok ha ha0 eb2 hv2 => ?_⟩)
    have e02 := (ExB.of e1 (x := v)).trans eb2
    refine q_parG (ac_cons (mk_raw (ac_cons ((ev_var (v := .ref a) rfl) H2 (Ex.refl H2) _ fun H3 e3 => ac_cons (tab_call (ea_cons (ev_var rfl) (ea_cons (ev_var rfl) ea_nil)) fun H4 e4 => ⟨v, a, hs, rfl, hv2.ex (e3.trans e4), ha.st.ex (e3.trans e4), hok, fun ts r H5 tnd tg hr5 eb5 hv5 => ?_⟩)))))
    have e05 := e02.trans ((ExB.of (e3.trans e4)).trans eb5)
    have ha5 : STupN H5 a hs := ha.fm ((ExB.of (e3.trans e4) (x := v)).trans eb5).fm hv2.mb
    have gp : GoodParts hs := ⟨hok.1, by have := hok.2.1; omega, hok.2.2.1, hok.2.2.2⟩
    have gt : GoodTies hs ts := ⟨hok.2.2.2, tnd, tg⟩
    refine fun pl dx hx hdx ne => ?_
    have hx' : (upd H5 dx (.own pl)) pl = none := by rw [upd_ne (Ne.symm ne)]; exact hx
    have en5 : Ex H5 (upd (upd H5 dx (.own pl)) pl (.ins (He.ga K "Works") dx [])) := (Ex.new hdx).trans (Ex.new hx')
    refine ⟨pl, dx, a, r, hs, ts, rfl, upd_same, ha5.ex en5, hr5.ex en5, gp, gt, fun pp H6 eb6 hx6 hp6 => ⟨rfl, ?_⟩⟩
    have e56 := ExB.new hx hdx eb6
    have hw6 : WorksAt K H6 pl ⟨hs, ts⟩ := ⟨dx, a, r, pp, hx6, ha5.ex e56, hr5.ex e56, hp6⟩
    refine ac_cons (tab_call (ea_cons (ev_var rfl) (ea_cons (ev_var rfl) ea_nil)) fun H7 e7 => ⟨v, a, hs, rfl, hv5.ex (e56.trans e7), ha5.st.ex (e56.trans e7), hok, fun ls ch H8 lnd lin hls eb8 hv8 => ⟨_, _, rfl, ?_⟩⟩)
    have e08 := e05.trans ((ExB.of (e56.trans e7)).trans eb8)
    have hv6 := hv5.ex e56
    have hw8 : WorksAt K H8 pl ⟨hs, ts⟩ := hw6.fm ((ExB.of e7 (x := v)).trans eb8).fm hv6.mb
    have ha8 : STup H8 a hs := (ha5.st.ex e56).fm ((ExB.of e7 (x := v)).trans eb8).fm hv6.mb
    have f08 := tb e08
    have wok : (⟨hs, ts⟩ : Wk).Ok := ⟨hok.1, hok.2.1, hok.2.2.1, hok.2.2.2, tg, tnd, ties_len hok.2.1 tnd tg⟩
    have sok : Stt.Ok (⟨hs, ts⟩, ls) := ⟨wok, lin, lnd, lead_len hok.2.1 lnd lin⟩
    refine q_asgGP (R := fun y H' => ∃ p b1 c b2 dx t, y = .ref p ∧ H' p = some (.tup [.ref b1, .ref c]) ∧ BoardAt K H' b1 [(⟨hs, ts⟩, ls)] ∧ CIn K H' c b2 dx t [] ∧ BoardAt K H' b2 [(⟨hs, ts⟩, ls)] ∧ H8 b1 = none ∧ H8 b2 = none ∧ H8 c = none ∧ b1 ≠ b2)
      (evp_tupA (Ra := fun vs H' => ∃ b1 c b2 dx t, vs = [.ref b1, .ref c] ∧ BoardAt K H' b1 [(⟨hs, ts⟩, ls)] ∧ CIn K H' c b2 dx t [] ∧ BoardAt K H' b2 [(⟨hs, ts⟩, ls)] ∧ H8 b1 = none ∧ H8 b2 = none ∧ H8 c = none ∧ b1 ≠ b2)
        (eap_cons (evp_board (W := ⟨hs, ts⟩) (ls := ls) (eap_cons (EvP.of (ev_var (v := .ref pl) rfl)) fun x H9 e9 hx => eap_one (EvP.of (ev_var (v := .ref ch) rfl)) fun y H10 e10 hy => ⟨pl, ch, by rw [hx, hy], hw8.ex (e9.trans e10), hls.ex (e9.trans e10)⟩) (Stt.Ok.lead sok)) fun x H9 e9 ⟨b1, ex, hb1, hn1⟩ =>
          eap_one (evp_console (W := ⟨hs, ts⟩) (ls := ls) (eap_cons (EvP.of (ev_var (v := .ref pl) rfl)) fun x H10 e10 hx => eap_one (EvP.of (ev_var (v := .ref ch) rfl)) fun y H11 e11 hy => ⟨pl, ch, by rw [hx, hy], hw8.ex (e9.trans (e10.trans e11)), hls.ex (e9.trans (e10.trans e11))⟩) (Stt.Ok.lead sok)) fun y H10 e10 ⟨c, b2, dx, t, ey, ci, hb2, hn2, hn3⟩ =>
            ⟨b1, c, b2, dx, t, by rw [ex, ey], hb1.ex e10, ci, hb2, hn1, fresh_back e9 hn2, fresh_back e9 hn3, fun z => by
              obtain ⟨bdx, bt, as, e, _⟩ := hb1.at_
              rw [z, hn2] at e
              cases e⟩)
        (fun vs H1 ⟨b1, c, b2, dx, t, ev, _⟩ => by rw [ev]; show 2 ≤ 100000; omega) (fun vs tt H1 H2 e ⟨b1, c, b2, dx, t, ev, h1, h2, h3, h4⟩ htt => ⟨tt, b1, c, b2, dx, t, rfl, by rw [← ev]; exact htt, h1.ex e, h2.ex e, h3.ex e, h4⟩)) ?_
    rintro y H9 e9 ⟨p, b1, c, b2, cdx, ct, rfl, hp, hb1, ci, hb2, hn1, hn2, hn3, hne⟩
    refine eg_two hp ?_
    have f09 := f08.trans (FT.of e9 f08.2)
    have hv9 := hv8.ex e9
    have back : ∀ {x : Addr}, H8 x = none → NewIn H x := fun {x} hx => NewIn.back f08.1 hx (by
      have : x ≠ v := fun z => by
        obtain ⟨a1, a2, a3, h0, _⟩ := hv8
        rw [z, h0] at hx
        cases hx
      simpa using this)
    have fx : Fix H hs v b1 c b2 := ⟨hok, back hn1, back hn2, back hn3, hne⟩
    have sc9 : Scn K H9 v a hs b1 c b2 cdx ct [] [] (⟨hs, ts⟩, ls) := ⟨hv9, ha8.ex e9, hb1, ci, hb2, f09.2⟩
    have hA9 : AllOk hs ([] ++ [((⟨hs, ts⟩, ls) : Stt)]) := fun x hx => by
      have : x = (⟨hs, ts⟩, ls) := by simpa using hx
      rw [this]
      exact ⟨sok, rfl⟩
    refine q_forR1 (n := 24) (ea_cons ev_c ea_nil) (by decide) (InvL K H v a hs pl ch b1 c b2) (fun H10 e10 => ⟨cdx, ct, [], [], _, _, _, _, _, _, _, rfl, f09.trans (FT.of e10 f09.2), sc9.ex e10, rfl, Nat.le_refl _, hA9⟩) ?_ ?_
    · rintro i σ' H' hi ⟨dx, t, ans, st, s', o6, o7, o8, o9, o10, o11, rfl, f, sc, l1, l2, hA⟩
      have hi' : i < 24 := by omega
      show tSeq (tPair K) (tSeq (tWords1 K) (tSeq (tWords2 K) (tSeq (tSayD K) (tSeq (tTold K) (tSeq (tDue1 K) (tSeq (tDue2 K) (tCmp K))))))) _ [some (.ref v), some (.ref a), some (.ref pl), some (.ref ch), some (.ref b1), some (.ref c), some (.int (i : Int)), o7, o8, o9, o10, o11] H'
      refine r_words fx f sc fun H2 ws q o7 f2 sc2 hq dw => r_say fx f2 sc2 hq dw hA (by omega) (by omega) fun H3 t3 x st1 s1 f3 sc3 hA1 hl1 => r_told fx f3 sc3 hA1 (by omega) (by rw [List.length_append]; show _ + 1 ≤ _; omega) fun H4 t4 ans4 p4 f4 sc4 hl4 hp4 => r_due f4 sc4 hA1 hp4 fun H5 o10 f5 sc5 => ?_
      refine ⟨dx, t4, ans4, st1, s1, _, _, _, _, _, _, rfl, f5, sc5, ?_, by omega, hA1⟩
      rw [hl4, List.length_append, l1]
      show 6 * i + 1 + 5 = _
      omega
    · rintro σ' H' ⟨dx, t, ans, st, s', o6, o7, o8, o9, o10, o11, rfl, f, sc, l1, l2, hA⟩
      have hl : ans.length = 144 := l1
      obtain ⟨ok, ehs⟩ := hA s' (by simp)
      refine s_ret (v := .bl true) (ev_is (ev_andV (a := true) (b := true) (ev_opP1 (evp_partsP (evp_bworks sc.bd1 (ev_var rfl))) (fun _ H1 e1 _ => ev_var (v := .ref a) rfl) (fun x H1 e1 ⟨q, ex, hq⟩ => by
        subst ex
        rw [ehs] at hq
        exact rv_eqS hq.st (sc.hd.ex e1) fun z hz => nameB_strOk (hok.2.2.2 z hz))) (fun _ => ev_is (ev_op (ev_said sc.con (ev_var rfl)) ev_c (rv_eq rfl)) (by rw [hl]; rfl))) rfl) fun H1 e1 => k H1 (f.trans (FT.of e1 f.2))
end K54
/-! K38 -/
namespace K54
open PySem PySem.Spec PyProof.Rows L2 LamX NdefX Evl
variable {P : Program} {w : World} {K : PySem.W.Frag} {mg : Str → Option Value} {base : Heap}
section
variable {σ : L2.St} {H H' : Hp} {te : TE} {tt : TT}
theorem sql_fm {v a : Addr} {xs : List V} (h : SqL K H a xs) (f : Fm [v] H H') (n : H v = none) : SqL K H' a xs := by
  rcases h with (h | ⟨u, h⟩) | h
  · exact .inl (.inl (f _ _ h (fun hm => by
      have : a = v := by simpa using hm
      rw [this, n] at h
      cases h) (fun _ z => nomatch z)))
  · exact .inl (.inr ⟨u, f _ _ h (fun hm => by
      have : a = v := by simpa using hm
      rw [this, n] at h
      cases h) (fun _ z => nomatch z)⟩)
  · exact .inr h
def rMax : List V → Hp → VK → Prop := fun xs H Q => ∃ i j, xs = [.int i, .int j] ∧ Q (.int (if j > i then j else i)) H
def rMin : List V → Hp → VK → Prop := fun xs H Q => ∃ i j, xs = [.int i, .int j] ∧ Q (.int (if j < i then j else i)) H
theorem rc_max {i j : Int} : RC rMax [.int i, .int j] H (.int (if j > i then j else i)) := fun H1 _ Q q => ⟨i, j, rfl, q H1 (Ex.refl H1)⟩
theorem rc_min {i j : Int} : RC rMin [.int i, .int j] H (.int (if j < i then j else i)) := fun H1 _ Q q => ⟨i, j, rfl, q H1 (Ex.refl H1)⟩
theorem not_raw {Q : Bool → Hp → Prop} (h : tt σ H fun c H1 => Q (!c) H1) : tNot tt σ H Q := h
theorem tB_raw {Q : Bool → Hp → Prop} (h : te σ H fun x H1 => ∃ c, x = .bl c ∧ Q c H1) : tB te σ H Q := h
end
def spLaw (K : PySem.W.Frag) : Sp := fun vs H Q _ => ∃ (a : Addr) (ns : List Int), vs = [.ref a] ∧ SqL K H a (ns.map V.int) ∧ ns.length ≤ 63 ∧ Tabs (TT2 K) H ∧ ∀ H', Q (.bl true) H'
abbrev NLaw : List Str := ["_law_script", "_law_k"]
theorem scLaw : FnScope NLaw ["_law_script"] (defScope sLaw) := ⟨rfl, rfl, rfl, by decide +kernel, rfl, by decide +kernel, by decide +kernel⟩
theorem ok_law (T : Tp K mg) (TB : TB2 base mg K) {fd : FuncData} (F : FunD K "law" "law" (defArgs sLaw) (defBody sLaw) (defScope sLaw) [] [] (He.ga K "law") fd) : FnOk P w K mg base C8.CX0 12 (He.ga K "law") fd ["_law_script"] (spLaw K) := by
  refine F.ok scLaw (fun vs H Q E h => ?_) (fun cdv A outer s H vs Q E hr h => ?_)
  · obtain ⟨a, ns, rfl, _⟩ := h
    rfl
  · obtain ⟨a, ns, rfl, ha, hn, ht, k⟩ := h
    have nd := scLaw.nd
    refine ⟨_, PSs.nox (pss_one (ps_ret (pe_cmpR (op_eqD hr.units) (pe_lc (own := [("_law_k", 1)]) (g := gName 1) rfl nd (pi_range1 rfl T.z_range (pa_cons (pe_callB (call_max2 rfl) rfl T.z_max PyProof.Rows.boot_max (pa_cons pe_int (pa_cons (pe_callB (call_min2 rfl) rfl T.z_min PyProof.Rows.boot_min (pa_cons (pb call_len T.z_len PySem.boot_len (pv 0)) (pa_cons pe_int pa_nil))) pa_nil))) pa_nil)) (blkOk_by (N := NLaw) (sc := defScope sLaw) (by decide +kernel))
      (fun _ _ _ _ _ => pg_name (i := 1) nd rfl (Or.inl rfl)) (fun _ _ _ _ _ => pts_one (pt_not (pt_val (C8.pe_c (ok_right T TB) hr (by decide) rfl (pa_cons (C8.pe_c (ok_vat T) hr (by decide) rfl (pa_cons (pv 0) (pa_cons (pv 1) pa_nil))) pa_nil))))) (fun _ _ _ _ _ => pv 1)) (pe_lst pa_nil) (nomark _)))), ?_⟩
    obtain ⟨n, hn2, hn4⟩ : ∃ n : Nat, n ≤ 4 ∧ (if (if (4 : Int) < (ns.length : Int) then (4 : Int) else (ns.length : Int)) > 2 then (if (4 : Int) < (ns.length : Int) then (4 : Int) else (ns.length : Int)) else 2) = (n : Int) := by
      by_cases h4 : (4 : Int) < (ns.length : Int)
      · rw [if_pos h4, if_pos (by decide)]
        exact ⟨4, by omega, rfl⟩
      · rw [if_neg h4]
        by_cases h2 : (ns.length : Int) > 2
        · rw [if_pos h2]
          exact ⟨ns.length, by omega, rfl⟩
        · rw [if_neg h2]
          exact ⟨2, by omega, rfl⟩
    have hrng : EvA (tCons (tCB rMax (tCons (tC (.int 2)) (tCons (tCB rMin (tCons (tCB (rLenAny K) (tCons (tVar 0) tNil)) (tCons (tC (.int 4)) tNil))) tNil))) tNil) (start NLaw [.ref a]) H [.int (n : Int)] := by
      refine ea_cons (ev_is (ev_cb (ea_cons ev_c (ea_cons (ev_cb (ea_cons (ev_cb1 (ev_var rfl) (rc_lenL ha)) (ea_cons ev_c ea_nil)) rc_min) ea_nil)) rc_max) ?_) ea_nil
      rw [List.length_map]
      exact congrArg V.int hn4
    refine s_retRaw (op_raw (lc_rngI hrng (by omega) (fun D i Hc => SqL K Hc a (ns.map V.int) ∧ Tabs (TT2 K) Hc ∧ Hc D = some (.lst [])) (fun H1 D e1 hD => ⟨ex_l (e1.trans (Ex.new hD)) ha, ht.ext (e1.trans (Ex.new hD)), upd_same⟩) ?_ ?_))
    · rintro D i Hc hi ⟨h1, h2, h3⟩
      refine ⟨rfl, not_raw (tB_raw (tab_raw (ac_cons (tab_call (ea_cons (ev_var rfl) (ea_cons (ev_var rfl) ea_nil)) fun H2 e2 => ⟨a, ns, i, rfl, ex_l e2 h1, by omega, by omega, fun v H3 hv0 e3 hv => ?_⟩))))⟩
      refine ⟨v, rfl, hv, h2.ext (e2.trans e3), fun H4 f4 => ⟨true, rfl, ?_⟩⟩
      have hcv : Hc v = none := fresh_back e2 hv0
      have fm : Fm [v] Hc H4 := (Fm.of (e2.trans e3)).trans f4.1
      have Dv : D ≠ v := fun z => by
        rw [z, hcv] at h3
        cases h3
      exact ⟨sql_fm h1 fm hcv, f4.2, fm _ _ h3 (by simpa using Dv) (fun _ z => nomatch z)⟩
    · rintro D Hc ⟨h1, h2, h3⟩
      refine ⟨by show 0 ≤ sizeLine; exact Nat.zero_le _, fun l hl => ?_⟩
      have en : Ex Hc (upd Hc l (.lst [])) := Ex.new hl
      refine ⟨.list [], .list [], .lst (sq_of (en _ _ h3)) .nil, .lst (sq_of upd_same) .nil, rows_shaped [], rows_shaped [], ?_⟩
      rw [eqv_nil]
      exact k _
end K54
/-! K39 -/
namespace K54
open PySem PySem.Spec PyProof.Rows L2 LamX NdefX Evl
theorem tabs_new {K : PySem.W.Frag} {H : Hp} (h : ∀ p ∈ tf.map (He.cT K), H p.2 = some (.tbl #[])) : Tabs (TT2 K) H := fun p hp => by
  have key : ∀ (P : Addr) (q : Str), H P = some (.tbl #[]) → TabS H P q := fun P q e => ⟨#[], e, by first | trivial | exact .nil | simp [TriplesOk] | decide, fun pos cv hc => by first | cases hc | simp [codeAmong] at hc⟩
  rcases List.mem_cons.mp hp with z | z
  · rw [z]
    exact key _ _ (h (He.cT K ("lots_below", none)) (by simp [tf]))
  · have z' : p = ((tabC K).2, ("Console.deed.<locals>.<lambda>" : Str)) := by simpa using z
    rw [z']
    exact key _ _ (h (He.cT K ("Console", some "deed")) (by simp [tf]))
theorem facts {P : Program} {w : World} {K : PySem.W.Frag} {h : Heap} {mg : Str → Option Value} {f : Addr} (KX : K.In h) (G : h.Ns mainGlobals mg) (hfa : mg ("law" : Str) = some (.ref f)) (c : SayK w h K) :
    Tp K mg ∧ f = He.ga K "law" := by
  have T : Tp K mg := ⟨c.x.t.d, c.x.more, c.g, h, KX, G⟩
  have e := hfa.symm.trans T.g_law
  exact ⟨T, Value.ref.inj (Option.some.inj e)⟩
theorem law_at {l : PySem.W.OpenLaw} {w : World} {K : PySem.W.Frag} {h : Heap} {mg : Str → Option Value} (KX : K.In h) (c : SayK w h K) (T : Tp K mg) : LawAtS l w K C8.CX0 12 63 "_law_script" mg (He.ga K "law") h := by
  obtain ⟨fd, F⟩ := T.f_law
  refine ⟨fd, tf.map (He.cT K), spLaw K, fun p hp => ?_, fun p hp => ?_, fun p hp => ?_, fun s u => FunD.bindsA (ps := ["_law_script"]) F (fun _ _ _ _ _ _ us hl => match us, hl with | [_], _ => rfl) s [u] rfl, fun H a ns hl _ hT hS => ⟨a, ns, rfl, hS, hl, tabs_new hT, fun _ => rfl⟩, fun base X N tb => ok_law T ⟨tb _ (List.mem_map.mpr ⟨("lots_below", none), by simp [tf], rfl⟩), tb _ (List.mem_map.mpr ⟨("Console", some "deed"), by simp [tf], rfl⟩)⟩ F⟩
  · obtain ⟨q, hq, rfl⟩ := List.mem_map.mp hp
    exact c.x.empty q hq
  · obtain ⟨q, hq, rfl⟩ := List.mem_map.mp hp
    exact c.x.out q hq
  · obtain ⟨q, hq, rfl⟩ := List.mem_map.mp hp
    exact PySem.W.codeHd_of_K KX (c.x.hd q hq)
end K54
/-! K40 -/
open PySem PySem.W PySem.Calls PyProof.Rows
theorem PySem.Challenge.cw_forcedsteer_k54_whole_consoles_beside_bo_holds : PySem.Challenge.rw_forcedsteer_k54_whole_consoles_beside_bo.Holds := by
  w_on; o_law
  refine HandSHeadRun.head_any (r := OpenLaw.row PySem.Challenge.rw_forcedsteer_k54_whole_consoles_beside_bo) (q := view (OpenLaw.row PySem.Challenge.rw_forcedsteer_k54_whole_consoles_beside_bo).prog [62]) (H := K54.hk) (ob := K54.ob) (M := 8000) (loose := K54.names) (d := HandSHeadRun.topDef (OpenLaw.row PySem.Challenge.rw_forcedsteer_k54_whole_consoles_beside_bo).prog 62) (kwd := []) K54.ob_eq
    (by kernel_rfl) (fun s => by kernel_rfl) K54.run (by kernel_rfl) (by kernel_rfl) (by kernel_rfl) (by rfl) (by first | assumption | decide +kernel) (by decide +kernel) ⟨rfl, rfl, rfl, rfl, rfl, by decide +kernel⟩ ?hw ?hc
  case hw => w_witness2
  case hc =>
    refine LamX.walk_ofTsE (l := PySem.Challenge.rw_forcedsteer_k54_whole_consoles_beside_bo) (n := 63) (k := 12) (x := "_law_script") (CX := fun _ => C8.CX0) rfl (by decide) (by kernel_rfl) ⟨rfl, by decide, by decide⟩ ?F (fun _ _ _ _ _ z => z)
    intro w mg fa h Y G hmg0
    obtain ⟨K, KX, c⟩ := Y
    have hmg : mg ("law" : PySem.Str) = some (.ref fa) := by
      have e : (HandSHeadRun.topDef (OpenLaw.row PySem.Challenge.rw_forcedsteer_k54_whole_consoles_beside_bo).prog 62).name = ("law" : PySem.Str) := by kernel_rfl
      rw [← e]
      exact hmg0
    obtain ⟨T, rfl⟩ := K54.facts (P := (PySem.Challenge.rw_forcedsteer_k54_whole_consoles_beside_bo).prog) (w := w) KX G hmg c
    exact ⟨K, KX, K54.law_at KX c T⟩
